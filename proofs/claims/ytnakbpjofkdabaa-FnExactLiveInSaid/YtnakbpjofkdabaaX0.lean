/- What functions of the law FnExactLiveIn come to, in trees; no condition. -/
import Derived.Test.YtnakbpjofkdabaaRows
import Derived.Test.YtnakbpjofkdabaaV3
import Derived.KernelRfl
set_option linter.unusedVariables false
set_option linter.constructorNameAsVariable false
set_option linter.unusedSimpArgs false
set_option linter.unnecessarySimpa false
namespace Go.Proofs.Ytnakbpjofkdabaa.T
open Go Go.Proofs.YtnakbpjofkdabaaV
def tyTab : List (Nat × Ti) := [
 (3, ⟨false, [.i .i64], .o⟩),
 (4, ⟨false, [.b], .o⟩),
 (5, ⟨false, [.i .u8], .o⟩),
 (9, ⟨false, [.s], .o⟩),
 (22, ⟨false, [.sl true [.i .i64, .s, .b, .i .i64, .sl true [.i .i64, .i .i64, .i .i64, .sl false [.i .u8], .sl true [.s, .i .i64], .sl true [.s, .s]], .i .i64]], .sl 95⟩),
 (24, ⟨true, [.sl true [.i .i64, .s, .b, .i .i64, .sl true [.i .i64, .i .i64, .i .i64, .sl false [.i .u8], .sl true [.s, .i .i64], .sl true [.s, .s]], .i .i64], .i .i64], .st [(0, 22), (1, 3)]⟩),
 (25, ⟨false, [.sl true [.i .i64, .s, .b, .i .i64, .i .i64]], .sl 97⟩),
 (27, ⟨true, [.i .i64, .sl true [.i .i64, .s, .b, .i .i64, .i .i64]], .st [(0, 3), (1, 25)]⟩),
 (28, ⟨false, [.sl true [.i .i64, .sl true [.i .i64, .i .i64]]], .sl 69⟩),
 (30, ⟨true, [.sl true [.i .i64, .s, .b, .i .i64, .sl true [.i .i64, .i .i64, .i .i64, .sl false [.i .u8], .sl true [.s, .i .i64], .sl true [.s, .s]], .i .i64], .i .i64, .i .i64, .sl true [.i .i64, .s, .b, .i .i64, .i .i64], .sl true [.i .i64, .sl true [.i .i64, .i .i64]], .i .i64, .i .i64], .st [(0, 24), (2, 27), (4, 28), (5, 3), (6, 3)]⟩),
 (33, ⟨false, [.sl true [.i .i64, .s, .b, .i .i64, .sl true [.i .i64, .i .i64, .i .i64, .sl false [.i .u8], .sl true [.s, .i .i64], .sl true [.s, .s]], .i .i64]], .sl 103⟩),
 (35, ⟨true, [.sl true [.i .i64, .s, .b, .i .i64, .sl true [.i .i64, .i .i64, .i .i64, .sl false [.i .u8], .sl true [.s, .i .i64], .sl true [.s, .s]], .i .i64], .i .i64], .st [(0, 33), (1, 3)]⟩),
 (36, ⟨false, [.sl true [.i .i64, .s, .b, .i .i64, .i .i64]], .sl 72⟩),
 (38, ⟨true, [.i .i64, .sl true [.i .i64, .s, .b, .i .i64, .i .i64]], .st [(0, 3), (1, 36)]⟩),
 (39, ⟨false, [.sl true [.i .i64, .sl true [.i .i64, .i .i64]]], .sl 75⟩),
 (41, ⟨true, [.sl true [.i .i64, .s, .b, .i .i64, .sl true [.i .i64, .i .i64, .i .i64, .sl false [.i .u8], .sl true [.s, .i .i64], .sl true [.s, .s]], .i .i64], .i .i64, .i .i64, .sl true [.i .i64, .s, .b, .i .i64, .i .i64], .sl true [.i .i64, .sl true [.i .i64, .i .i64]], .i .i64, .i .i64], .st [(0, 35), (2, 38), (4, 39), (5, 3), (6, 3)]⟩),
 (50, ⟨false, [.sl false [.i .i64]], .sl 3⟩),
 (57, ⟨false, [.sl false [.sl false [.i .i64]]], .sl 50⟩),
 (67, ⟨false, [.sl true [.i .i64, .i .i64]], .sl 128⟩),
 (69, ⟨true, [.i .i64, .sl true [.i .i64, .i .i64]], .st [(0, 3), (1, 67)]⟩),
 (72, ⟨true, [.i .i64, .s, .b, .i .i64, .i .i64], .st [(0, 3), (1, 9), (2, 4), (3, 3), (4, 3)]⟩),
 (73, ⟨false, [.sl true [.i .i64, .i .i64]], .sl 77⟩),
 (75, ⟨true, [.i .i64, .sl true [.i .i64, .i .i64]], .st [(0, 3), (1, 73)]⟩),
 (77, ⟨true, [.i .i64, .i .i64], .st [(0, 3), (1, 3)]⟩),
 (89, ⟨false, [.o], .o⟩),
 (91, ⟨false, [.sl true [.i .i64, .i .i64, .i .i64, .sl false [.i .u8], .sl true [.s, .i .i64], .sl true [.s, .s]]], .sl 148⟩),
 (93, ⟨true, [.sl true [.i .i64, .i .i64, .i .i64, .sl false [.i .u8], .sl true [.s, .i .i64], .sl true [.s, .s]], .i .i64], .st [(0, 91), (1, 3)]⟩),
 (95, ⟨true, [.i .i64, .s, .b, .i .i64, .sl true [.i .i64, .i .i64, .i .i64, .sl false [.i .u8], .sl true [.s, .i .i64], .sl true [.s, .s]], .i .i64], .st [(0, 3), (1, 9), (2, 4), (3, 3), (4, 93)]⟩),
 (97, ⟨true, [.i .i64, .s, .b, .i .i64, .i .i64], .st [(0, 3), (1, 9), (2, 4), (3, 3), (4, 3)]⟩),
 (99, ⟨false, [.sl true [.i .i64, .i .i64, .i .i64, .sl false [.i .u8], .sl true [.s, .i .i64], .sl true [.s, .s]]], .sl 152⟩),
 (101, ⟨true, [.sl true [.i .i64, .i .i64, .i .i64, .sl false [.i .u8], .sl true [.s, .i .i64], .sl true [.s, .s]], .i .i64], .st [(0, 99), (1, 3)]⟩),
 (103, ⟨true, [.i .i64, .s, .b, .i .i64, .sl true [.i .i64, .i .i64, .i .i64, .sl false [.i .u8], .sl true [.s, .i .i64], .sl true [.s, .s]], .i .i64], .st [(0, 3), (1, 9), (2, 4), (3, 3), (4, 101)]⟩),
 (128, ⟨true, [.i .i64, .i .i64], .st [(0, 3), (1, 3)]⟩),
 (144, ⟨false, [.sl false [.i .u8]], .sl 5⟩),
 (145, ⟨false, [.sl true [.s, .i .i64]], .sl 166⟩),
 (146, ⟨false, [.sl true [.s, .s]], .sl 169⟩),
 (148, ⟨true, [.i .i64, .i .i64, .i .i64, .sl false [.i .u8], .sl true [.s, .i .i64], .sl true [.s, .s]], .st [(0, 3), (1, 3), (2, 3), (3, 144), (4, 145), (5, 146)]⟩),
 (149, ⟨false, [.sl true [.s, .i .i64]], .sl 170⟩),
 (150, ⟨false, [.sl true [.s, .s]], .sl 172⟩),
 (152, ⟨true, [.i .i64, .i .i64, .i .i64, .sl false [.i .u8], .sl true [.s, .i .i64], .sl true [.s, .s]], .st [(0, 3), (1, 3), (2, 3), (3, 144), (4, 149), (5, 150)]⟩),
 (166, ⟨true, [.s, .i .i64], .st [(0, 9), (1, 3)]⟩),
 (169, ⟨true, [.s, .s], .st [(0, 9), (1, 9)]⟩),
 (170, ⟨true, [.s, .i .i64], .st [(0, 9), (1, 3)]⟩),
 (172, ⟨true, [.s, .s], .st [(0, 9), (1, 9)]⟩)]
noncomputable def fi84 : Fi := ⟨Try.f84, [], false, [.ro (.sl false [.i .u8]), .v (.i .i64)], [.v (.i .i64)]⟩
noncomputable def fi93 : Fi := ⟨Try.f93, [], false, [.ag [.v (.s), .v (.i .i64)], .v (.i .i64)], [.v (.i .i64)]⟩
def x85_5_0 : List (Ex × List Nat × CSt) := [(.ret, [4], ⟨[.i .i64 0], [.dead, .dead]⟩), ((.ex 0), [1], ⟨[.i .i64 0], [.dead, .dead]⟩)]
noncomputable def fi85 : Fi := ⟨Try.f85, [⟨5, [0, 1, 5], [], [(⟨[.ro 0 true [.s, .i .i64] [], .i .i64 0, .i .i64 0], [.dead, .dead]⟩, x85_5_0)]⟩], false, [.ro (.sl true [.s, .i .i64]), .v (.i .i64)], [.v (.i .i64)]⟩
noncomputable def fi94 : Fi := ⟨Try.f94, [], false, [.ag [.v (.s), .v (.s)], .v (.i .i64)], [.v (.i .i64)]⟩
def x86_5_0 : List (Ex × List Nat × CSt) := [(.ret, [4], ⟨[.i .i64 0], [.dead, .dead]⟩), ((.ex 0), [1], ⟨[.i .i64 0], [.dead, .dead]⟩)]
noncomputable def fi86 : Fi := ⟨Try.f86, [⟨5, [0, 1, 5], [], [(⟨[.ro 0 true [.s, .s] [], .i .i64 0, .i .i64 0], [.dead, .dead]⟩, x86_5_0)]⟩], false, [.ro (.sl true [.s, .s]), .v (.i .i64)], [.v (.i .i64)]⟩
noncomputable def fi81 : Fi := ⟨Try.f81, [], false, [.ag [.v (.i .i64), .v (.i .i64), .v (.i .i64), .ro (.sl false [.i .u8]), .ro (.sl true [.s, .i .i64]), .ro (.sl true [.s, .s])], .v (.i .i64)], [.v (.i .i64)]⟩
def x77_5_0 : List (Ex × List Nat × CSt) := [(.ret, [4], ⟨[.i .i64 0], [.dead, .dead]⟩), ((.ex 0), [1], ⟨[.i .i64 0], [.dead, .dead]⟩)]
noncomputable def fi77 : Fi := ⟨Try.f77, [⟨5, [0, 1, 5], [], [(⟨[.ro 0 true [.i .i64, .i .i64, .i .i64, .sl false [.i .u8], .sl true [.s, .i .i64], .sl true [.s, .s]] [], .i .i64 0, .i .i64 0], [.dead, .dead]⟩, x77_5_0)]⟩], false, [.ro (.sl true [.i .i64, .i .i64, .i .i64, .sl false [.i .u8], .sl true [.s, .i .i64], .sl true [.s, .s]]), .v (.i .i64)], [.v (.i .i64)]⟩
noncomputable def fi65 : Fi := ⟨Try.f65, [], false, [.ag [.ro (.sl true [.i .i64, .i .i64, .i .i64, .sl false [.i .u8], .sl true [.s, .i .i64], .sl true [.s, .s]]), .v (.i .i64)], .v (.i .i64)], [.v (.i .i64)]⟩
noncomputable def fi42 : Fi := ⟨Try.f42, [], false, [.ag [.v (.i .i64), .v (.s), .v (.b), .v (.i .i64), .ro (.sl true [.i .i64, .i .i64, .i .i64, .sl false [.i .u8], .sl true [.s, .i .i64], .sl true [.s, .s]]), .v (.i .i64)], .v (.i .i64)], [.v (.i .i64)]⟩
def x27_5_0 : List (Ex × List Nat × CSt) := [(.ret, [4], ⟨[.i .i64 0], [.dead, .dead]⟩), ((.ex 0), [1], ⟨[.i .i64 0], [.dead, .dead]⟩)]
noncomputable def fi27 : Fi := ⟨Try.f27, [⟨5, [0, 1, 5], [], [(⟨[.ro 0 true [.i .i64, .s, .b, .i .i64, .sl true [.i .i64, .i .i64, .i .i64, .sl false [.i .u8], .sl true [.s, .i .i64], .sl true [.s, .s]], .i .i64] [], .i .i64 0, .i .i64 0], [.dead, .dead]⟩, x27_5_0)]⟩], false, [.ro (.sl true [.i .i64, .s, .b, .i .i64, .sl true [.i .i64, .i .i64, .i .i64, .sl false [.i .u8], .sl true [.s, .i .i64], .sl true [.s, .s]], .i .i64]), .v (.i .i64)], [.v (.i .i64)]⟩
noncomputable def fi12 : Fi := ⟨Try.f12, [], false, [.ag [.ro (.sl true [.i .i64, .s, .b, .i .i64, .sl true [.i .i64, .i .i64, .i .i64, .sl false [.i .u8], .sl true [.s, .i .i64], .sl true [.s, .s]], .i .i64]), .v (.i .i64)], .v (.i .i64)], [.v (.i .i64)]⟩
noncomputable def fi43 : Fi := ⟨Try.f43, [], false, [.ag [.v (.i .i64), .v (.s), .v (.b), .v (.i .i64), .v (.i .i64)], .v (.i .i64)], [.v (.i .i64)]⟩
def x28_5_0 : List (Ex × List Nat × CSt) := [(.ret, [4], ⟨[.i .i64 0], [.dead, .dead]⟩), ((.ex 0), [1], ⟨[.i .i64 0], [.dead, .dead]⟩)]
noncomputable def fi28 : Fi := ⟨Try.f28, [⟨5, [0, 1, 5], [], [(⟨[.ro 0 true [.i .i64, .s, .b, .i .i64, .i .i64] [], .i .i64 0, .i .i64 0], [.dead, .dead]⟩, x28_5_0)]⟩], false, [.ro (.sl true [.i .i64, .s, .b, .i .i64, .i .i64]), .v (.i .i64)], [.v (.i .i64)]⟩
noncomputable def fi13 : Fi := ⟨Try.f13, [], false, [.ag [.v (.i .i64), .ro (.sl true [.i .i64, .s, .b, .i .i64, .i .i64])], .v (.i .i64)], [.v (.i .i64)]⟩
noncomputable def fi44 : Fi := ⟨Try.f44, [], false, [.ro (.sl true [.i .i64, .i .i64]), .v (.i .i64)], [.v (.i .i64)]⟩
noncomputable def fi29 : Fi := ⟨Try.f29, [], false, [.ag [.v (.i .i64), .ro (.sl true [.i .i64, .i .i64])], .v (.i .i64)], [.v (.i .i64)]⟩
def x14_5_0 : List (Ex × List Nat × CSt) := [(.ret, [4], ⟨[.i .i64 0], [.dead, .dead]⟩), ((.ex 0), [1], ⟨[.i .i64 0], [.dead, .dead]⟩)]
noncomputable def fi14 : Fi := ⟨Try.f14, [⟨5, [0, 1, 5], [], [(⟨[.ro 0 true [.i .i64, .sl true [.i .i64, .i .i64]] [], .i .i64 0, .i .i64 0], [.dead, .dead]⟩, x14_5_0)]⟩], false, [.ro (.sl true [.i .i64, .sl true [.i .i64, .i .i64]]), .v (.i .i64)], [.v (.i .i64)]⟩
noncomputable def fi5 : Fi := ⟨Try.f5, [], false, [.ag [.ro (.sl true [.i .i64, .s, .b, .i .i64, .sl true [.i .i64, .i .i64, .i .i64, .sl false [.i .u8], .sl true [.s, .i .i64], .sl true [.s, .s]], .i .i64]), .v (.i .i64), .v (.i .i64), .ro (.sl true [.i .i64, .s, .b, .i .i64, .i .i64]), .ro (.sl true [.i .i64, .sl true [.i .i64, .i .i64]]), .v (.i .i64), .v (.i .i64)], .v (.i .i64)], [.v (.i .i64)]⟩
def x87_3_0 : List (Ex × List Nat × CSt) := [((.ex 0), [3], ⟨[.rf 1 [] 0 none], [.dead, .row false [.i .u8] [] 0 false]⟩)]
noncomputable def fi87 : Fi := ⟨Try.f87, [⟨3, [0, 3, 4], [], [(⟨[.ro 0 false [.i .u8] [], .rf 1 [] 0 none, .i .i64 0], [.dead, .row false [.i .u8] [] 0 false]⟩, x87_3_0)]⟩], false, [.ro (.sl false [.i .u8])], [.ow (.sl false [.i .u8])]⟩
noncomputable def fi95 : Fi := ⟨Try.f95, [], false, [.ag [.v (.s), .v (.i .i64)]], [.ag [.v (.s), .v (.i .i64)]]⟩
def x88_3_0 : List (Ex × List Nat × CSt) := [((.ex 0), [3], ⟨[.rf 1 [] 0 none], [.dead, .row true [.s, .i .i64] [] 0 false]⟩)]
noncomputable def fi88 : Fi := ⟨Try.f88, [⟨3, [0, 3, 4], [], [(⟨[.ro 0 true [.s, .i .i64] [], .rf 1 [] 0 none, .i .i64 0], [.dead, .row true [.s, .i .i64] [] 0 false]⟩, x88_3_0)]⟩], false, [.ro (.sl true [.s, .i .i64])], [.ow (.sl true [.s, .i .i64])]⟩
noncomputable def fi96 : Fi := ⟨Try.f96, [], false, [.ag [.v (.s), .v (.s)]], [.ag [.v (.s), .v (.s)]]⟩
def x89_3_0 : List (Ex × List Nat × CSt) := [((.ex 0), [3], ⟨[.rf 1 [] 0 none], [.dead, .row true [.s, .s] [] 0 false]⟩)]
noncomputable def fi89 : Fi := ⟨Try.f89, [⟨3, [0, 3, 4], [], [(⟨[.ro 0 true [.s, .s] [], .rf 1 [] 0 none, .i .i64 0], [.dead, .row true [.s, .s] [] 0 false]⟩, x89_3_0)]⟩], false, [.ro (.sl true [.s, .s])], [.ow (.sl true [.s, .s])]⟩
noncomputable def fi82 : Fi := ⟨Try.f82, [], false, [.ag [.v (.i .i64), .v (.i .i64), .v (.i .i64), .ro (.sl false [.i .u8]), .ro (.sl true [.s, .i .i64]), .ro (.sl true [.s, .s])]], [.ag [.v (.i .i64), .v (.i .i64), .v (.i .i64), .ow (.sl false [.i .u8]), .ow (.sl true [.s, .i .i64]), .ow (.sl true [.s, .s])]]⟩
def x78_3_0 : List (Ex × List Nat × CSt) := [((.ex 0), [3], ⟨[.rf 1 [] 0 none], [.dead, .row true [.i .i64, .i .i64, .i .i64, .sl false [.i .u8], .sl true [.s, .i .i64], .sl true [.s, .s]] [] 0 false]⟩)]
noncomputable def fi78 : Fi := ⟨Try.f78, [⟨3, [0, 3, 4], [], [(⟨[.ro 0 true [.i .i64, .i .i64, .i .i64, .sl false [.i .u8], .sl true [.s, .i .i64], .sl true [.s, .s]] [], .rf 1 [] 0 none, .i .i64 0], [.dead, .row true [.i .i64, .i .i64, .i .i64, .sl false [.i .u8], .sl true [.s, .i .i64], .sl true [.s, .s]] [] 0 false]⟩, x78_3_0)]⟩], false, [.ro (.sl true [.i .i64, .i .i64, .i .i64, .sl false [.i .u8], .sl true [.s, .i .i64], .sl true [.s, .s]])], [.ow (.sl true [.i .i64, .i .i64, .i .i64, .sl false [.i .u8], .sl true [.s, .i .i64], .sl true [.s, .s]])]⟩
noncomputable def fi67 : Fi := ⟨Try.f67, [], false, [.ag [.ro (.sl true [.i .i64, .i .i64, .i .i64, .sl false [.i .u8], .sl true [.s, .i .i64], .sl true [.s, .s]]), .v (.i .i64)]], [.ag [.ow (.sl true [.i .i64, .i .i64, .i .i64, .sl false [.i .u8], .sl true [.s, .i .i64], .sl true [.s, .s]]), .v (.i .i64)]]⟩
noncomputable def fi46 : Fi := ⟨Try.f46, [], false, [.ag [.v (.i .i64), .v (.s), .v (.b), .v (.i .i64), .ro (.sl true [.i .i64, .i .i64, .i .i64, .sl false [.i .u8], .sl true [.s, .i .i64], .sl true [.s, .s]]), .v (.i .i64)]], [.ag [.v (.i .i64), .v (.s), .v (.b), .v (.i .i64), .ow (.sl true [.i .i64, .i .i64, .i .i64, .sl false [.i .u8], .sl true [.s, .i .i64], .sl true [.s, .s]]), .v (.i .i64)]]⟩
def x31_3_0 : List (Ex × List Nat × CSt) := [((.ex 0), [3], ⟨[.rf 1 [] 0 none], [.dead, .row true [.i .i64, .s, .b, .i .i64, .sl true [.i .i64, .i .i64, .i .i64, .sl false [.i .u8], .sl true [.s, .i .i64], .sl true [.s, .s]], .i .i64] [] 0 false]⟩)]
noncomputable def fi31 : Fi := ⟨Try.f31, [⟨3, [0, 3, 4], [], [(⟨[.ro 0 true [.i .i64, .s, .b, .i .i64, .sl true [.i .i64, .i .i64, .i .i64, .sl false [.i .u8], .sl true [.s, .i .i64], .sl true [.s, .s]], .i .i64] [], .rf 1 [] 0 none, .i .i64 0], [.dead, .row true [.i .i64, .s, .b, .i .i64, .sl true [.i .i64, .i .i64, .i .i64, .sl false [.i .u8], .sl true [.s, .i .i64], .sl true [.s, .s]], .i .i64] [] 0 false]⟩, x31_3_0)]⟩], false, [.ro (.sl true [.i .i64, .s, .b, .i .i64, .sl true [.i .i64, .i .i64, .i .i64, .sl false [.i .u8], .sl true [.s, .i .i64], .sl true [.s, .s]], .i .i64])], [.ow (.sl true [.i .i64, .s, .b, .i .i64, .sl true [.i .i64, .i .i64, .i .i64, .sl false [.i .u8], .sl true [.s, .i .i64], .sl true [.s, .s]], .i .i64])]⟩
noncomputable def fi17 : Fi := ⟨Try.f17, [], false, [.ag [.ro (.sl true [.i .i64, .s, .b, .i .i64, .sl true [.i .i64, .i .i64, .i .i64, .sl false [.i .u8], .sl true [.s, .i .i64], .sl true [.s, .s]], .i .i64]), .v (.i .i64)]], [.ag [.ow (.sl true [.i .i64, .s, .b, .i .i64, .sl true [.i .i64, .i .i64, .i .i64, .sl false [.i .u8], .sl true [.s, .i .i64], .sl true [.s, .s]], .i .i64]), .v (.i .i64)]]⟩
noncomputable def fi47 : Fi := ⟨Try.f47, [], false, [.ag [.v (.i .i64), .v (.s), .v (.b), .v (.i .i64), .v (.i .i64)]], [.ag [.v (.i .i64), .v (.s), .v (.b), .v (.i .i64), .v (.i .i64)]]⟩
def x32_3_0 : List (Ex × List Nat × CSt) := [((.ex 0), [3], ⟨[.rf 1 [] 0 none], [.dead, .row true [.i .i64, .s, .b, .i .i64, .i .i64] [] 0 false]⟩)]
noncomputable def fi32 : Fi := ⟨Try.f32, [⟨3, [0, 3, 4], [], [(⟨[.ro 0 true [.i .i64, .s, .b, .i .i64, .i .i64] [], .rf 1 [] 0 none, .i .i64 0], [.dead, .row true [.i .i64, .s, .b, .i .i64, .i .i64] [] 0 false]⟩, x32_3_0)]⟩], false, [.ro (.sl true [.i .i64, .s, .b, .i .i64, .i .i64])], [.ow (.sl true [.i .i64, .s, .b, .i .i64, .i .i64])]⟩
noncomputable def fi18 : Fi := ⟨Try.f18, [], false, [.ag [.v (.i .i64), .ro (.sl true [.i .i64, .s, .b, .i .i64, .i .i64])]], [.ag [.v (.i .i64), .ow (.sl true [.i .i64, .s, .b, .i .i64, .i .i64])]]⟩
noncomputable def fi68 : Fi := ⟨Try.f68, [], false, [.ag [.v (.i .i64), .v (.i .i64)]], [.ag [.v (.i .i64), .v (.i .i64)]]⟩
def x48_3_0 : List (Ex × List Nat × CSt) := [((.ex 0), [3], ⟨[.rf 1 [] 0 none], [.dead, .row true [.i .i64, .i .i64] [] 0 false]⟩)]
noncomputable def fi48 : Fi := ⟨Try.f48, [⟨3, [0, 3, 4], [], [(⟨[.ro 0 true [.i .i64, .i .i64] [], .rf 1 [] 0 none, .i .i64 0], [.dead, .row true [.i .i64, .i .i64] [] 0 false]⟩, x48_3_0)]⟩], false, [.ro (.sl true [.i .i64, .i .i64])], [.ow (.sl true [.i .i64, .i .i64])]⟩
noncomputable def fi33 : Fi := ⟨Try.f33, [], false, [.ag [.v (.i .i64), .ro (.sl true [.i .i64, .i .i64])]], [.ag [.v (.i .i64), .ow (.sl true [.i .i64, .i .i64])]]⟩
def x19_3_0 : List (Ex × List Nat × CSt) := [((.ex 0), [3], ⟨[.rf 1 [] 0 none], [.dead, .row true [.i .i64, .sl true [.i .i64, .i .i64]] [] 0 false]⟩)]
noncomputable def fi19 : Fi := ⟨Try.f19, [⟨3, [0, 3, 4], [], [(⟨[.ro 0 true [.i .i64, .sl true [.i .i64, .i .i64]] [], .rf 1 [] 0 none, .i .i64 0], [.dead, .row true [.i .i64, .sl true [.i .i64, .i .i64]] [] 0 false]⟩, x19_3_0)]⟩], false, [.ro (.sl true [.i .i64, .sl true [.i .i64, .i .i64]])], [.ow (.sl true [.i .i64, .sl true [.i .i64, .i .i64]])]⟩
noncomputable def fi7 : Fi := ⟨Try.f7, [], false, [.ag [.ro (.sl true [.i .i64, .s, .b, .i .i64, .sl true [.i .i64, .i .i64, .i .i64, .sl false [.i .u8], .sl true [.s, .i .i64], .sl true [.s, .s]], .i .i64]), .v (.i .i64), .v (.i .i64), .ro (.sl true [.i .i64, .s, .b, .i .i64, .i .i64]), .ro (.sl true [.i .i64, .sl true [.i .i64, .i .i64]]), .v (.i .i64), .v (.i .i64)]], [.ag [.ow (.sl true [.i .i64, .s, .b, .i .i64, .sl true [.i .i64, .i .i64, .i .i64, .sl false [.i .u8], .sl true [.s, .i .i64], .sl true [.s, .s]], .i .i64]), .v (.i .i64), .v (.i .i64), .ow (.sl true [.i .i64, .s, .b, .i .i64, .i .i64]), .ow (.sl true [.i .i64, .sl true [.i .i64, .i .i64]]), .v (.i .i64), .v (.i .i64)]]⟩
def x66_2_0 : List (Ex × List Nat × CSt) := [(.ret, [4], ⟨[.b false], [.dead, .dead]⟩), ((.ex 0), [], ⟨[], [.dead, .dead]⟩)]
noncomputable def fi66 : Fi := ⟨Try.f66, [⟨2, [0, 1, 5], [], [(⟨[.ro 0 false [.i .i64] [], .i .i64 0, .i .i64 0], [.dead, .dead]⟩, x66_2_0)]⟩], false, [.ro (.sl false [.i .i64]), .v (.i .i64)], [.v (.b)]⟩
def x45_5_0 : List (Ex × List Nat × CSt) := [((.ex 0), [1, 5, 6], ⟨[.i .i64 0, .rf 2 [] 0 none, .i .i64 0], [.dead, .dead, .row false [.i .i64] [] 0 false]⟩)]
noncomputable def fi45 : Fi := ⟨Try.f45, [⟨5, [1, 5, 6], [], [(⟨[.i .i64 0, .rf 2 [] 0 none, .i .i64 0], [.dead, .dead, .row false [.i .i64] [] 0 false]⟩, x45_5_0)]⟩], false, [.ro (.sl false [.i .i64]), .v (.i .i64)], [.ro (.sl false [.i .i64])]⟩
noncomputable def fi30 : Fi := ⟨Try.f30, [], false, [.ro (.sl false [.i .i64]), .v (.i .i64)], [.ro (.sl false [.i .i64])]⟩
def x15_3_0 : List (Ex × List Nat × CSt) := [((.ex 0), [1, 3], ⟨[.bp 7 0, .ro 0 false [.i .i64] []], [.dead, .dead, .dead, .dead, .dead, .dead, .dead, .box [.ro 0 true [.i .i64, .s, .b, .i .i64, .sl true [.i .i64, .i .i64, .i .i64, .sl false [.i .u8], .sl true [.s, .i .i64], .sl true [.s, .s]], .i .i64] [], .i .i64 0, .i .i64 0, .ro 0 true [.i .i64, .s, .b, .i .i64, .i .i64] [], .ro 0 true [.i .i64, .sl true [.i .i64, .i .i64]] [], .i .i64 0, .i .i64 0]]⟩)]
def x15_7_0 : List (Ex × List Nat × CSt) := [((.ex 2), [3], ⟨[.ro 0 false [.i .i64] []], [.dead, .dead, .dead, .dead, .dead, .dead, .dead]⟩)]
def x15_10_0 : List (Ex × List Nat × CSt) := [((.ex 4), [1, 3, 5], ⟨[.bp 7 0, .ro 0 false [.i .i64] [], .i .i64 0], [.dead, .dead, .dead, .dead, .dead, .dead, .dead, .box [.ro 0 true [.i .i64, .s, .b, .i .i64, .sl true [.i .i64, .i .i64, .i .i64, .sl false [.i .u8], .sl true [.s, .i .i64], .sl true [.s, .s]], .i .i64] [], .i .i64 0, .i .i64 0, .ro 0 true [.i .i64, .s, .b, .i .i64, .i .i64] [], .ro 0 true [.i .i64, .sl true [.i .i64, .i .i64]] [], .i .i64 0, .i .i64 0]]⟩)]
noncomputable def fi15 : Fi := ⟨Try.f15, [⟨3, [1, 3, 4], [], [(⟨[.bp 7 0, .ro 0 false [.i .i64] [], .i .i64 0], [.dead, .dead, .dead, .dead, .dead, .dead, .dead, .box [.ro 0 true [.i .i64, .s, .b, .i .i64, .sl true [.i .i64, .i .i64, .i .i64, .sl false [.i .u8], .sl true [.s, .i .i64], .sl true [.s, .s]], .i .i64] [], .i .i64 0, .i .i64 0, .ro 0 true [.i .i64, .s, .b, .i .i64, .i .i64] [], .ro 0 true [.i .i64, .sl true [.i .i64, .i .i64]] [], .i .i64 0, .i .i64 0]]⟩, x15_3_0)]⟩, ⟨7, [1, 3, 5], [], [(⟨[.bp 7 0, .ro 0 false [.i .i64] [], .i .i64 0], [.dead, .dead, .dead, .dead, .dead, .dead, .dead, .box [.ro 0 true [.i .i64, .s, .b, .i .i64, .sl true [.i .i64, .i .i64, .i .i64, .sl false [.i .u8], .sl true [.s, .i .i64], .sl true [.s, .s]], .i .i64] [], .i .i64 0, .i .i64 0, .ro 0 true [.i .i64, .s, .b, .i .i64, .i .i64] [], .ro 0 true [.i .i64, .sl true [.i .i64, .i .i64]] [], .i .i64 0, .i .i64 0]]⟩, x15_7_0)]⟩, ⟨10, [1, 3, 5, 6], [], [(⟨[.bp 7 0, .ro 0 false [.i .i64] [], .i .i64 0, .i .i64 0], [.dead, .dead, .dead, .dead, .dead, .dead, .dead, .box [.ro 0 true [.i .i64, .s, .b, .i .i64, .sl true [.i .i64, .i .i64, .i .i64, .sl false [.i .u8], .sl true [.s, .i .i64], .sl true [.s, .s]], .i .i64] [], .i .i64 0, .i .i64 0, .ro 0 true [.i .i64, .s, .b, .i .i64, .i .i64] [], .ro 0 true [.i .i64, .sl true [.i .i64, .i .i64]] [], .i .i64 0, .i .i64 0]]⟩, x15_10_0)]⟩], false, [.ag [.ro (.sl true [.i .i64, .s, .b, .i .i64, .sl true [.i .i64, .i .i64, .i .i64, .sl false [.i .u8], .sl true [.s, .i .i64], .sl true [.s, .s]], .i .i64]), .v (.i .i64), .v (.i .i64), .ro (.sl true [.i .i64, .s, .b, .i .i64, .i .i64]), .ro (.sl true [.i .i64, .sl true [.i .i64, .i .i64]]), .v (.i .i64), .v (.i .i64)]], [.ro (.sl false [.i .i64])]⟩
def x10_4_0 : List (Ex × List Nat × CSt) := [((.ex 0), [5], ⟨[.i .i64 0], [.dead, .dead, .dead, .dead, .dead, .dead, .dead, .dead]⟩)]
noncomputable def fi10 : Fi := ⟨Try.f10, [⟨4, [1, 5, 6, 7], [], [(⟨[.i .i64 0, .i .i64 0, .ro 0 false [.i .i64] [], .i .i64 0], [.dead, .dead, .dead, .dead, .dead, .dead, .dead, .dead]⟩, x10_4_0)]⟩], false, [.ag [.ro (.sl true [.i .i64, .s, .b, .i .i64, .sl true [.i .i64, .i .i64, .i .i64, .sl false [.i .u8], .sl true [.s, .i .i64], .sl true [.s, .s]], .i .i64]), .v (.i .i64), .v (.i .i64), .ro (.sl true [.i .i64, .s, .b, .i .i64, .i .i64]), .ro (.sl true [.i .i64, .sl true [.i .i64, .i .i64]]), .v (.i .i64), .v (.i .i64)], .v (.i .i64)], [.v (.i .i64)]⟩
def x20_3_0 : List (Ex × List Nat × CSt) := [((.ex 0), [1, 3], ⟨[.bp 7 0, .rf 8 [] 0 none], [.dead, .dead, .dead, .dead, .dead, .dead, .dead, .box [.ro 0 true [.i .i64, .s, .b, .i .i64, .sl true [.i .i64, .i .i64, .i .i64, .sl false [.i .u8], .sl true [.s, .i .i64], .sl true [.s, .s]], .i .i64] [], .i .i64 0, .i .i64 0, .ro 0 true [.i .i64, .s, .b, .i .i64, .i .i64] [], .ro 0 true [.i .i64, .sl true [.i .i64, .i .i64]] [], .i .i64 0, .i .i64 0], .row false [.sl false [.i .i64]] [] 0 true]⟩)]
def x20_8_0 : List (Ex × List Nat × CSt) := [((.ex 2), [3], ⟨[.rf 7 [] 0 none], [.dead, .dead, .dead, .dead, .dead, .dead, .dead, .row false [.sl false [.i .i64]] [] 0 true]⟩)]
def x20_11_0 : List (Ex × List Nat × CSt) := [((.ex 4), [3, 41, 42, 43], ⟨[.rf 7 [] 0 none, .ro 0 true [.i .i64, .sl true [.i .i64, .i .i64]] [], .i .i64 0, .i .i64 0], [.dead, .dead, .dead, .dead, .dead, .dead, .dead, .row false [.sl false [.i .i64]] [] 0 true]⟩)]
noncomputable def fi20 : Fi := ⟨Try.f20, [⟨3, [1, 3, 21, 22, 23], [(3, 1)], [(⟨[.bp 7 0, .rf 8 [] 0 none, .ro 0 true [.i .i64, .s, .b, .i .i64, .i .i64] [], .i .i64 0, .i .i64 0], [.dead, .dead, .dead, .dead, .dead, .dead, .dead, .box [.ro 0 true [.i .i64, .s, .b, .i .i64, .sl true [.i .i64, .i .i64, .i .i64, .sl false [.i .u8], .sl true [.s, .i .i64], .sl true [.s, .s]], .i .i64] [], .i .i64 0, .i .i64 0, .ro 0 true [.i .i64, .s, .b, .i .i64, .i .i64] [], .ro 0 true [.i .i64, .sl true [.i .i64, .i .i64]] [], .i .i64 0, .i .i64 0], .row false [.sl false [.i .i64]] [] 0 true]⟩, x20_3_0)]⟩, ⟨8, [3, 41, 42, 43], [(3, 1)], [(⟨[.rf 7 [] 0 none, .ro 0 true [.i .i64, .sl true [.i .i64, .i .i64]] [], .i .i64 0, .i .i64 0], [.dead, .dead, .dead, .dead, .dead, .dead, .dead, .row false [.sl false [.i .i64]] [] 0 true]⟩, x20_8_0)]⟩, ⟨11, [3, 6, 41, 42, 43, 49, 50, 51], [(3, 1)], [(⟨[.rf 7 [] 0 none, .i .i64 0, .ro 0 true [.i .i64, .sl true [.i .i64, .i .i64]] [], .i .i64 0, .i .i64 0, .ro 0 true [.i .i64, .i .i64] [], .i .i64 0, .i .i64 0], [.dead, .dead, .dead, .dead, .dead, .dead, .dead, .row false [.sl false [.i .i64]] [] 0 true]⟩, x20_11_0)]⟩], false, [.ag [.ro (.sl true [.i .i64, .s, .b, .i .i64, .sl true [.i .i64, .i .i64, .i .i64, .sl false [.i .u8], .sl true [.s, .i .i64], .sl true [.s, .s]], .i .i64]), .v (.i .i64), .v (.i .i64), .ro (.sl true [.i .i64, .s, .b, .i .i64, .i .i64]), .ro (.sl true [.i .i64, .sl true [.i .i64, .i .i64]]), .v (.i .i64), .v (.i .i64)]], [.ow (.sl false [.sl false [.i .i64]])]⟩
noncomputable def fi63 : Fi := ⟨Try.f63, [], true, [], []⟩
def x39_3_0 : List (Ex × List Nat × CSt) := [((.ex 0), [0, 3], ⟨[.ro 0 false [.sl false [.i .i64]] [], .i .i64 0], [.dead]⟩)]
def x39_11_0 : List (Ex × List Nat × CSt) := [((.ex 2), [6], ⟨[.rf 1 [] 0 (some (0, 0))], [.dead, .row false [.i .i64] [] 0 false]⟩)]
noncomputable def fi39 : Fi := ⟨Try.f39, [⟨3, [0, 3, 9, 10, 11], [], [(⟨[.ro 0 false [.sl false [.i .i64]] [], .i .i64 0, .ro 0 false [.sl false [.i .i64]] [], .i .i64 0, .i .i64 0], [.dead]⟩, x39_3_0)]⟩, ⟨11, [6, 25, 26, 27], [(6, 2)], [(⟨[.rf 1 [] 0 (some (0, 0)), .ro 0 false [.sl false [.i .i64]] [], .i .i64 0, .i .i64 0], [.dead, .row false [.i .i64] [] 0 false]⟩, x39_11_0)]⟩], false, [.ro (.sl false [.sl false [.i .i64]])], [.ow (.sl false [.i .i64])]⟩
noncomputable def fi21 : Fi := ⟨Try.f21, [], false, [.ow (.sl false [.i .i64])], []⟩
def x22_4_0 : List (Ex × List Nat × CSt) := [(.ret, [2], ⟨[.rf 1 [] 0 (some (0, 0))], [.dead, .row false [.i .i64] [] 0 false]⟩), ((.ex 0), [0], ⟨[.rf 1 [] 0 none], [.dead, .row false [.i .i64] [] 0 false]⟩)]
def x22_9_0 : List (Ex × List Nat × CSt) := [((.ex 2), [0, 3], ⟨[.rf 1 [] 0 none, .i .i64 0], [.dead, .row false [.i .i64] [] 0 false]⟩)]
noncomputable def fi22 : Fi := ⟨Try.f22, [⟨4, [0, 3], [], [(⟨[.rf 1 [] 0 none, .i .i64 0], [.dead, .row false [.i .i64] [] 0 false]⟩, x22_4_0)]⟩, ⟨9, [0, 3, 4, 5], [], [(⟨[.rf 1 [] 0 none, .i .i64 0, .rf 1 [] 0 (some (0, 0)), .i .i64 0], [.dead, .row false [.i .i64] [] 0 false]⟩, x22_9_0)]⟩], false, [.mv (.sl false [.i .i64])], [.ow (.sl false [.i .i64])]⟩
def x64_2_0 : List (Ex × List Nat × CSt) := [(.ret, [4], ⟨[.i .i64 0], [.row false [.i .i64] [] 0 false]⟩), ((.ex 0), [], ⟨[], [.row false [.i .i64] [] 0 false]⟩)]
noncomputable def fi64 : Fi := ⟨Try.f64, [⟨2, [0, 1, 7, 8], [], [(⟨[.rf 0 [] 0 none, .fn 41 [], .i .i64 0, .i .i64 0], [.row false [.i .i64] [] 0 false]⟩, x64_2_0)]⟩], true, [], []⟩
def x40_5_0 : List (Ex × List Nat × CSt) := [((.ex 0), [0, 5], ⟨[.rf 0 [] 0 none, .i .i64 0], [.row false [.i .i64] [] 0 false]⟩)]
noncomputable def fi40 : Fi := ⟨Try.f40, [⟨5, [0, 1, 5, 6], [], [(⟨[.rf 0 [] 0 none, .fn 41 [], .i .i64 0, .i .i64 0], [.row false [.i .i64] [] 0 false]⟩, x40_5_0)]⟩], true, [], []⟩
noncomputable def fi41 : Fi := ⟨Try.f41, [], false, [.v (.i .i64)], [.v (.b)]⟩
noncomputable def fi26 : Fi := ⟨Try.f26, [], false, [.ag [.ro (.sl true [.i .i64, .s, .b, .i .i64, .sl true [.i .i64, .i .i64, .i .i64, .sl false [.i .u8], .sl true [.s, .i .i64], .sl true [.s, .s]], .i .i64]), .v (.i .i64), .v (.i .i64), .ro (.sl true [.i .i64, .s, .b, .i .i64, .i .i64]), .ro (.sl true [.i .i64, .sl true [.i .i64, .i .i64]]), .v (.i .i64), .v (.i .i64)]], [.ow (.sl false [.i .i64])]⟩
def x11_3_0 : List (Ex × List Nat × CSt) := [((.ex 0), [5], ⟨[.i .i64 0], [.dead, .dead, .dead, .dead, .dead, .dead, .dead, .dead]⟩)]
noncomputable def fi11 : Fi := ⟨Try.f11, [⟨3, [1, 5, 9, 10, 11], [], [(⟨[.i .i64 0, .i .i64 0, .rf 8 [] 0 none, .i .i64 0, .i .i64 0], [.dead, .dead, .dead, .dead, .dead, .dead, .dead, .dead, .row false [.i .i64] [] 0 false]⟩, x11_3_0)]⟩], false, [.ag [.ro (.sl true [.i .i64, .s, .b, .i .i64, .sl true [.i .i64, .i .i64, .i .i64, .sl false [.i .u8], .sl true [.s, .i .i64], .sl true [.s, .s]], .i .i64]), .v (.i .i64), .v (.i .i64), .ro (.sl true [.i .i64, .s, .b, .i .i64, .i .i64]), .ro (.sl true [.i .i64, .sl true [.i .i64, .i .i64]]), .v (.i .i64), .v (.i .i64)], .v (.i .i64)], [.v (.i .i64)]⟩
def x90_4_0 : List (Ex × List Nat × CSt) := [(.ret, [4], ⟨[.b false], [.dead, .dead]⟩), ((.ex 0), [], ⟨[], [.dead, .dead]⟩)]
noncomputable def fi90 : Fi := ⟨Try.f90, [⟨4, [0, 1, 5], [], [(⟨[.ro 0 false [.i .u8] [], .ro 0 false [.i .u8] [], .i .i64 0], [.dead, .dead]⟩, x90_4_0)]⟩], false, [.ro (.sl false [.i .u8]), .ro (.sl false [.i .u8])], [.v (.b)]⟩
noncomputable def fi97 : Fi := ⟨Try.f97, [], false, [.ag [.v (.s), .v (.i .i64)], .ag [.v (.s), .v (.i .i64)]], [.v (.b)]⟩
def x91_4_0 : List (Ex × List Nat × CSt) := [(.ret, [4], ⟨[.b false], [.dead, .dead]⟩), ((.ex 0), [], ⟨[], [.dead, .dead]⟩)]
noncomputable def fi91 : Fi := ⟨Try.f91, [⟨4, [0, 1, 5], [], [(⟨[.ro 0 true [.s, .i .i64] [], .ro 0 true [.s, .i .i64] [], .i .i64 0], [.dead, .dead]⟩, x91_4_0)]⟩], false, [.ro (.sl true [.s, .i .i64]), .ro (.sl true [.s, .i .i64])], [.v (.b)]⟩
noncomputable def fi98 : Fi := ⟨Try.f98, [], false, [.ag [.v (.s), .v (.s)], .ag [.v (.s), .v (.s)]], [.v (.b)]⟩
def x92_4_0 : List (Ex × List Nat × CSt) := [(.ret, [4], ⟨[.b false], [.dead, .dead]⟩), ((.ex 0), [], ⟨[], [.dead, .dead]⟩)]
noncomputable def fi92 : Fi := ⟨Try.f92, [⟨4, [0, 1, 5], [], [(⟨[.ro 0 true [.s, .s] [], .ro 0 true [.s, .s] [], .i .i64 0], [.dead, .dead]⟩, x92_4_0)]⟩], false, [.ro (.sl true [.s, .s]), .ro (.sl true [.s, .s])], [.v (.b)]⟩
noncomputable def fi83 : Fi := ⟨Try.f83, [], false, [.ag [.v (.i .i64), .v (.i .i64), .v (.i .i64), .ro (.sl false [.i .u8]), .ro (.sl true [.s, .i .i64]), .ro (.sl true [.s, .s])], .ag [.v (.i .i64), .v (.i .i64), .v (.i .i64), .ro (.sl false [.i .u8]), .ro (.sl true [.s, .i .i64]), .ro (.sl true [.s, .s])]], [.v (.b)]⟩
def x80_4_0 : List (Ex × List Nat × CSt) := [(.ret, [4], ⟨[.b false], [.dead, .dead]⟩), ((.ex 0), [], ⟨[], [.dead, .dead]⟩)]
noncomputable def fi80 : Fi := ⟨Try.f80, [⟨4, [0, 1, 5], [], [(⟨[.ro 0 true [.i .i64, .i .i64, .i .i64, .sl false [.i .u8], .sl true [.s, .i .i64], .sl true [.s, .s]] [], .ro 0 true [.i .i64, .i .i64, .i .i64, .sl false [.i .u8], .sl true [.s, .i .i64], .sl true [.s, .s]] [], .i .i64 0], [.dead, .dead]⟩, x80_4_0)]⟩], false, [.ro (.sl true [.i .i64, .i .i64, .i .i64, .sl false [.i .u8], .sl true [.s, .i .i64], .sl true [.s, .s]]), .ro (.sl true [.i .i64, .i .i64, .i .i64, .sl false [.i .u8], .sl true [.s, .i .i64], .sl true [.s, .s]])], [.v (.b)]⟩
noncomputable def fi75 : Fi := ⟨Try.f75, [], false, [.ag [.ro (.sl true [.i .i64, .i .i64, .i .i64, .sl false [.i .u8], .sl true [.s, .i .i64], .sl true [.s, .s]]), .v (.i .i64)], .ag [.ro (.sl true [.i .i64, .i .i64, .i .i64, .sl false [.i .u8], .sl true [.s, .i .i64], .sl true [.s, .s]]), .v (.i .i64)]], [.v (.b)]⟩
noncomputable def fi60 : Fi := ⟨Try.f60, [], false, [.ag [.v (.i .i64), .v (.s), .v (.b), .v (.i .i64), .ro (.sl true [.i .i64, .i .i64, .i .i64, .sl false [.i .u8], .sl true [.s, .i .i64], .sl true [.s, .s]]), .v (.i .i64)], .ag [.v (.i .i64), .v (.s), .v (.b), .v (.i .i64), .ro (.sl true [.i .i64, .i .i64, .i .i64, .sl false [.i .u8], .sl true [.s, .i .i64], .sl true [.s, .s]]), .v (.i .i64)]], [.v (.b)]⟩
def x36_4_0 : List (Ex × List Nat × CSt) := [(.ret, [4], ⟨[.b false], [.dead, .dead]⟩), ((.ex 0), [], ⟨[], [.dead, .dead]⟩)]
noncomputable def fi36 : Fi := ⟨Try.f36, [⟨4, [0, 1, 5], [], [(⟨[.ro 0 true [.i .i64, .s, .b, .i .i64, .sl true [.i .i64, .i .i64, .i .i64, .sl false [.i .u8], .sl true [.s, .i .i64], .sl true [.s, .s]], .i .i64] [], .ro 0 true [.i .i64, .s, .b, .i .i64, .sl true [.i .i64, .i .i64, .i .i64, .sl false [.i .u8], .sl true [.s, .i .i64], .sl true [.s, .s]], .i .i64] [], .i .i64 0], [.dead, .dead]⟩, x36_4_0)]⟩], false, [.ro (.sl true [.i .i64, .s, .b, .i .i64, .sl true [.i .i64, .i .i64, .i .i64, .sl false [.i .u8], .sl true [.s, .i .i64], .sl true [.s, .s]], .i .i64]), .ro (.sl true [.i .i64, .s, .b, .i .i64, .sl true [.i .i64, .i .i64, .i .i64, .sl false [.i .u8], .sl true [.s, .i .i64], .sl true [.s, .s]], .i .i64])], [.v (.b)]⟩
noncomputable def fi23 : Fi := ⟨Try.f23, [], false, [.ag [.ro (.sl true [.i .i64, .s, .b, .i .i64, .sl true [.i .i64, .i .i64, .i .i64, .sl false [.i .u8], .sl true [.s, .i .i64], .sl true [.s, .s]], .i .i64]), .v (.i .i64)], .ag [.ro (.sl true [.i .i64, .s, .b, .i .i64, .sl true [.i .i64, .i .i64, .i .i64, .sl false [.i .u8], .sl true [.s, .i .i64], .sl true [.s, .s]], .i .i64]), .v (.i .i64)]], [.v (.b)]⟩
noncomputable def fi61 : Fi := ⟨Try.f61, [], false, [.ag [.v (.i .i64), .v (.s), .v (.b), .v (.i .i64), .v (.i .i64)], .ag [.v (.i .i64), .v (.s), .v (.b), .v (.i .i64), .v (.i .i64)]], [.v (.b)]⟩
def x37_4_0 : List (Ex × List Nat × CSt) := [(.ret, [4], ⟨[.b false], [.dead, .dead]⟩), ((.ex 0), [], ⟨[], [.dead, .dead]⟩)]
noncomputable def fi37 : Fi := ⟨Try.f37, [⟨4, [0, 1, 5], [], [(⟨[.ro 0 true [.i .i64, .s, .b, .i .i64, .i .i64] [], .ro 0 true [.i .i64, .s, .b, .i .i64, .i .i64] [], .i .i64 0], [.dead, .dead]⟩, x37_4_0)]⟩], false, [.ro (.sl true [.i .i64, .s, .b, .i .i64, .i .i64]), .ro (.sl true [.i .i64, .s, .b, .i .i64, .i .i64])], [.v (.b)]⟩
noncomputable def fi24 : Fi := ⟨Try.f24, [], false, [.ag [.v (.i .i64), .ro (.sl true [.i .i64, .s, .b, .i .i64, .i .i64])], .ag [.v (.i .i64), .ro (.sl true [.i .i64, .s, .b, .i .i64, .i .i64])]], [.v (.b)]⟩
noncomputable def fi76 : Fi := ⟨Try.f76, [], false, [.ag [.v (.i .i64), .v (.i .i64)], .ag [.v (.i .i64), .v (.i .i64)]], [.v (.b)]⟩
def x62_4_0 : List (Ex × List Nat × CSt) := [(.ret, [4], ⟨[.b false], [.dead, .dead]⟩), ((.ex 0), [], ⟨[], [.dead, .dead]⟩)]
noncomputable def fi62 : Fi := ⟨Try.f62, [⟨4, [0, 1, 5], [], [(⟨[.ro 0 true [.i .i64, .i .i64] [], .ro 0 true [.i .i64, .i .i64] [], .i .i64 0], [.dead, .dead]⟩, x62_4_0)]⟩], false, [.ro (.sl true [.i .i64, .i .i64]), .ro (.sl true [.i .i64, .i .i64])], [.v (.b)]⟩
noncomputable def fi38 : Fi := ⟨Try.f38, [], false, [.ag [.v (.i .i64), .ro (.sl true [.i .i64, .i .i64])], .ag [.v (.i .i64), .ro (.sl true [.i .i64, .i .i64])]], [.v (.b)]⟩
def x25_4_0 : List (Ex × List Nat × CSt) := [(.ret, [4], ⟨[.b false], [.dead, .dead]⟩), ((.ex 0), [], ⟨[], [.dead, .dead]⟩)]
noncomputable def fi25 : Fi := ⟨Try.f25, [⟨4, [0, 1, 5], [], [(⟨[.ro 0 true [.i .i64, .sl true [.i .i64, .i .i64]] [], .ro 0 true [.i .i64, .sl true [.i .i64, .i .i64]] [], .i .i64 0], [.dead, .dead]⟩, x25_4_0)]⟩], false, [.ro (.sl true [.i .i64, .sl true [.i .i64, .i .i64]]), .ro (.sl true [.i .i64, .sl true [.i .i64, .i .i64]])], [.v (.b)]⟩
noncomputable def fi9 : Fi := ⟨Try.f9, [], false, [.ag [.ro (.sl true [.i .i64, .s, .b, .i .i64, .sl true [.i .i64, .i .i64, .i .i64, .sl false [.i .u8], .sl true [.s, .i .i64], .sl true [.s, .s]], .i .i64]), .v (.i .i64), .v (.i .i64), .ro (.sl true [.i .i64, .s, .b, .i .i64, .i .i64]), .ro (.sl true [.i .i64, .sl true [.i .i64, .i .i64]]), .v (.i .i64), .v (.i .i64)], .ag [.ro (.sl true [.i .i64, .s, .b, .i .i64, .sl true [.i .i64, .i .i64, .i .i64, .sl false [.i .u8], .sl true [.s, .i .i64], .sl true [.s, .s]], .i .i64]), .v (.i .i64), .v (.i .i64), .ro (.sl true [.i .i64, .s, .b, .i .i64, .i .i64]), .ro (.sl true [.i .i64, .sl true [.i .i64, .i .i64]]), .v (.i .i64), .v (.i .i64)]], [.v (.b)]⟩
noncomputable def fi4 : Fi := ⟨Try.f4, [], false, [.ag [.ro (.sl true [.i .i64, .s, .b, .i .i64, .sl true [.i .i64, .i .i64, .i .i64, .sl false [.i .u8], .sl true [.s, .i .i64], .sl true [.s, .s]], .i .i64]), .v (.i .i64), .v (.i .i64), .ro (.sl true [.i .i64, .s, .b, .i .i64, .i .i64]), .ro (.sl true [.i .i64, .sl true [.i .i64, .i .i64]]), .v (.i .i64), .v (.i .i64)], .v (.i .i64)], [.v (.b)]⟩
noncomputable def fiTab : List (Nat × Fi) := [(84, fi84), (93, fi93), (85, fi85), (94, fi94), (86, fi86), (81, fi81), (77, fi77), (65, fi65), (42, fi42), (27, fi27), (12, fi12), (43, fi43), (28, fi28), (13, fi13), (44, fi44), (29, fi29), (14, fi14), (5, fi5), (87, fi87), (95, fi95), (88, fi88), (96, fi96), (89, fi89), (82, fi82), (78, fi78), (67, fi67), (46, fi46), (31, fi31), (17, fi17), (47, fi47), (32, fi32), (18, fi18), (68, fi68), (48, fi48), (33, fi33), (19, fi19), (7, fi7), (66, fi66), (45, fi45), (30, fi30), (15, fi15), (10, fi10), (20, fi20), (63, fi63), (39, fi39), (21, fi21), (22, fi22), (64, fi64), (40, fi40), (41, fi41), (26, fi26), (11, fi11), (90, fi90), (97, fi97), (91, fi91), (98, fi98), (92, fi92), (83, fi83), (80, fi80), (75, fi75), (60, fi60), (36, fi36), (23, fi23), (61, fi61), (37, fi37), (24, fi24), (76, fi76), (62, fi62), (38, fi38), (25, fi25), (9, fi9), (4, fi4)]
def X : Nat → Option (List T → Option (List T)) := lookN [(21, sortF)]
noncomputable def env : Env := ⟨lookN fiTab, lookN tyTab⟩
def f84_t (c : Orc) (lf : Nat) (l0 : List T) (n1 : Int) : Option (List T) :=
 bif iLt (IntKind.wrap .i64 (n1 - (l0.length : Int))) 0 then
  some [T.i .i64 (-1)]
 else
  some [T.i .i64 (IntKind.wrap .i64 (n1 - (l0.length : Int)))]
def f84 (c : Orc) (lf : Nat) (l0 : List T) (n1 : Int) : Option (List T) := f84_t c lf l0 n1
theorem f84_eq (c : Orc) (lf : Nat) (l0 : List T) (n1 : Int) : funK c env lf 6 fi84 [.sl l0, .i .i64 n1] = f84 c lf l0 n1 := by kernel_rfl
def f93_t (c : Orc) (lf : Nat) (s0_0 : ByteArray) (n0_1 n1 : Int) : Option (List T) :=
 bif iLt (IntKind.wrap .i64 (n1 - (s0_0.size : Int))) 0 then
  some [T.i .i64 (-1)]
 else
  some [T.i .i64 (IntKind.wrap .i64 (n1 - (s0_0.size : Int)))]
def f93 (c : Orc) (lf : Nat) (s0_0 : ByteArray) (n0_1 n1 : Int) : Option (List T) := f93_t c lf s0_0 n0_1 n1
theorem f93_eq (c : Orc) (lf : Nat) (s0_0 : ByteArray) (n0_1 n1 : Int) : funK c env lf 6 fi93 [.st [.s s0_0, .i .i64 n0_1], .i .i64 n1] = f93 c lf s0_0 n0_1 n1 := by kernel_rfl
def f85_0_s (c : Orc) (lf : Nat) (l0 : List T) (L : Int → Int → Option (List T)) (x7 x8 : Int) : Option (List T) :=
 bif iLt x8 (l0.length : Int) then
  bif inR x8 l0.length then
  (c 93 [T.st [T.s (asS (T.cell (l0.getD x8.toNat T.u) 0)), T.i .i64 (asI (T.cell (l0.getD x8.toNat T.u) 1))], T.i .i64 x7]).bind fun r9 =>
  bif iLt (asI (nth r9 0)) 0 then
   some [T.i .i64 0, T.i .i64 (-1)]
  else
   L (asI (nth r9 0)) (IntKind.wrap .i64 (x8 + 1))
  else none
 else
  some [T.i .i64 1, T.i .i64 x7]
def f85_0_c (l0 : List T) (x7 x8 : Int) : CSt := ⟨[.ro 0 true [.s, .i .i64] l0, .i .i64 x7, .i .i64 x8], [.dead, .dead]⟩
theorem f85_0_round (c : Orc) (lf : Nat) (l0 : List T) (L : CSt → Option (List T)) (x7 x8 : Int) :
 roundK c env lf 6 fi85 2 5 [] [0, 1, 5] (x85_5_0) L (f85_0_c l0 x7 x8) = f85_0_s c lf l0 (fun x7 x8 => L (f85_0_c l0 x7 x8)) x7 x8 := by kernel_rfl
def f85_0 (c : Orc) (lf : Nat) (l0 : List T) : Nat → Int → Int → Option (List T)
 | 0 => fun _ _ => none
 | n + 1 => fun x7 x8 => f85_0_s c lf l0 (f85_0 c lf l0 n) x7 x8
theorem f85_0_eq (c : Orc) (lf : Nat) (l0 : List T) (n : Nat) (x7 x8 : Int) :
 lpK c env lf 6 fi85 2 5 [] [0, 1, 5] (x85_5_0) n (f85_0_c l0 x7 x8) = f85_0 c lf l0 n x7 x8 := by
 induction n generalizing x7 x8 with
 | zero => rfl
 | succ n ih =>
  refine (f85_0_round c lf l0 _ x7 x8).trans ?_
  have e : (fun x7 x8 => lpK c env lf 6 fi85 2 5 [] [0, 1, 5] (x85_5_0) n (f85_0_c l0 x7 x8)) = f85_0 c lf l0 n := by funext x7 x8; exact ih x7 x8
  show f85_0_s c lf l0 (fun x7 x8 => lpK c env lf 6 fi85 2 5 [] [0, 1, 5] (x85_5_0) n (f85_0_c l0 x7 x8)) x7 x8 = _
  rw [e]; rfl
def f85_t (c : Orc) (lf : Nat) (lp0 : List T → Int → Int → Option (List T)) (l0 : List T) (n1 : Int) : Option (List T) :=
 bif iLt (IntKind.wrap .i64 (n1 - (l0.length : Int))) 0 then
  some [T.i .i64 (-1)]
 else
  (lp0 l0 (IntKind.wrap .i64 (n1 - (l0.length : Int))) 0).bind fun r10 =>
  bif asI (nth r10 0) == 0 then
   some [T.i .i64 (asI (nth r10 1))]
  else
   some [T.i .i64 (asI (nth r10 1))]
def f85 (c : Orc) (lf : Nat) (l0 : List T) (n1 : Int) : Option (List T) := f85_t c lf (fun (l0 : List T) (x7 x8 : Int) => f85_0 c lf l0 lf x7 x8) l0 n1
theorem f85_raw (c : Orc) (lf : Nat) (l0 : List T) (n1 : Int) : funK c env lf 6 fi85 [.sl l0, .i .i64 n1] = f85_t c lf (fun (l0 : List T) (x7 x8 : Int) => lpK c env lf 6 fi85 2 5 [] [0, 1, 5] (x85_5_0) lf (f85_0_c l0 x7 x8)) l0 n1 := by kernel_rfl
theorem f85_eq (c : Orc) (lf : Nat) (l0 : List T) (n1 : Int) : funK c env lf 6 fi85 [.sl l0, .i .i64 n1] = f85 c lf l0 n1 := by
 refine (f85_raw c lf l0 n1).trans ?_
 have e0 : (fun (l0 : List T) (x7 x8 : Int) => lpK c env lf 6 fi85 2 5 [] [0, 1, 5] (x85_5_0) lf (f85_0_c l0 x7 x8)) = (fun (l0 : List T) (x7 x8 : Int) => f85_0 c lf l0 lf x7 x8) := by funext l0 x7 x8; exact f85_0_eq c lf l0 lf x7 x8
 rw [e0]; rfl
def f94_t (c : Orc) (lf : Nat) (s0_0 s0_1 : ByteArray) (n1 : Int) : Option (List T) :=
 bif iLt (IntKind.wrap .i64 (n1 - (s0_0.size : Int))) 0 then
  some [T.i .i64 (-1)]
 else
  bif iLt (IntKind.wrap .i64 ((IntKind.wrap .i64 (n1 - (s0_0.size : Int))) - (s0_1.size : Int))) 0 then
   some [T.i .i64 (-1)]
  else
   some [T.i .i64 (IntKind.wrap .i64 ((IntKind.wrap .i64 (n1 - (s0_0.size : Int))) - (s0_1.size : Int)))]
def f94 (c : Orc) (lf : Nat) (s0_0 s0_1 : ByteArray) (n1 : Int) : Option (List T) := f94_t c lf s0_0 s0_1 n1
theorem f94_eq (c : Orc) (lf : Nat) (s0_0 s0_1 : ByteArray) (n1 : Int) : funK c env lf 6 fi94 [.st [.s s0_0, .s s0_1], .i .i64 n1] = f94 c lf s0_0 s0_1 n1 := by kernel_rfl
def f86_0_s (c : Orc) (lf : Nat) (l0 : List T) (L : Int → Int → Option (List T)) (x17 x18 : Int) : Option (List T) :=
 bif iLt x18 (l0.length : Int) then
  bif inR x18 l0.length then
  (c 94 [T.st [T.s (asS (T.cell (l0.getD x18.toNat T.u) 0)), T.s (asS (T.cell (l0.getD x18.toNat T.u) 1))], T.i .i64 x17]).bind fun r19 =>
  bif iLt (asI (nth r19 0)) 0 then
   some [T.i .i64 0, T.i .i64 (-1)]
  else
   L (asI (nth r19 0)) (IntKind.wrap .i64 (x18 + 1))
  else none
 else
  some [T.i .i64 1, T.i .i64 x17]
def f86_0_c (l0 : List T) (x17 x18 : Int) : CSt := ⟨[.ro 0 true [.s, .s] l0, .i .i64 x17, .i .i64 x18], [.dead, .dead]⟩
theorem f86_0_round (c : Orc) (lf : Nat) (l0 : List T) (L : CSt → Option (List T)) (x17 x18 : Int) :
 roundK c env lf 6 fi86 2 5 [] [0, 1, 5] (x86_5_0) L (f86_0_c l0 x17 x18) = f86_0_s c lf l0 (fun x17 x18 => L (f86_0_c l0 x17 x18)) x17 x18 := by kernel_rfl
def f86_0 (c : Orc) (lf : Nat) (l0 : List T) : Nat → Int → Int → Option (List T)
 | 0 => fun _ _ => none
 | n + 1 => fun x17 x18 => f86_0_s c lf l0 (f86_0 c lf l0 n) x17 x18
theorem f86_0_eq (c : Orc) (lf : Nat) (l0 : List T) (n : Nat) (x17 x18 : Int) :
 lpK c env lf 6 fi86 2 5 [] [0, 1, 5] (x86_5_0) n (f86_0_c l0 x17 x18) = f86_0 c lf l0 n x17 x18 := by
 induction n generalizing x17 x18 with
 | zero => rfl
 | succ n ih =>
  refine (f86_0_round c lf l0 _ x17 x18).trans ?_
  have e : (fun x17 x18 => lpK c env lf 6 fi86 2 5 [] [0, 1, 5] (x86_5_0) n (f86_0_c l0 x17 x18)) = f86_0 c lf l0 n := by funext x17 x18; exact ih x17 x18
  show f86_0_s c lf l0 (fun x17 x18 => lpK c env lf 6 fi86 2 5 [] [0, 1, 5] (x86_5_0) n (f86_0_c l0 x17 x18)) x17 x18 = _
  rw [e]; rfl
def f86_t (c : Orc) (lf : Nat) (lp0 : List T → Int → Int → Option (List T)) (l0 : List T) (n1 : Int) : Option (List T) :=
 bif iLt (IntKind.wrap .i64 (n1 - (l0.length : Int))) 0 then
  some [T.i .i64 (-1)]
 else
  (lp0 l0 (IntKind.wrap .i64 (n1 - (l0.length : Int))) 0).bind fun r20 =>
  bif asI (nth r20 0) == 0 then
   some [T.i .i64 (asI (nth r20 1))]
  else
   some [T.i .i64 (asI (nth r20 1))]
def f86 (c : Orc) (lf : Nat) (l0 : List T) (n1 : Int) : Option (List T) := f86_t c lf (fun (l0 : List T) (x17 x18 : Int) => f86_0 c lf l0 lf x17 x18) l0 n1
theorem f86_raw (c : Orc) (lf : Nat) (l0 : List T) (n1 : Int) : funK c env lf 6 fi86 [.sl l0, .i .i64 n1] = f86_t c lf (fun (l0 : List T) (x17 x18 : Int) => lpK c env lf 6 fi86 2 5 [] [0, 1, 5] (x86_5_0) lf (f86_0_c l0 x17 x18)) l0 n1 := by kernel_rfl
theorem f86_eq (c : Orc) (lf : Nat) (l0 : List T) (n1 : Int) : funK c env lf 6 fi86 [.sl l0, .i .i64 n1] = f86 c lf l0 n1 := by
 refine (f86_raw c lf l0 n1).trans ?_
 have e0 : (fun (l0 : List T) (x17 x18 : Int) => lpK c env lf 6 fi86 2 5 [] [0, 1, 5] (x86_5_0) lf (f86_0_c l0 x17 x18)) = (fun (l0 : List T) (x17 x18 : Int) => f86_0 c lf l0 lf x17 x18) := by funext l0 x17 x18; exact f86_0_eq c lf l0 lf x17 x18
 rw [e0]; rfl
def f81_t (c : Orc) (lf : Nat) (n0_0 n0_1 n0_2 : Int) (l0_3 l0_4 l0_5 : List T) (n1 : Int) : Option (List T) :=
 (c 84 [T.sl l0_3, T.i .i64 n1]).bind fun r21 =>
 bif iLt (asI (nth r21 0)) 0 then
  some [T.i .i64 (-1)]
 else
  (c 85 [T.sl l0_4, T.i .i64 (asI (nth r21 0))]).bind fun r22 =>
  bif iLt (asI (nth r22 0)) 0 then
   some [T.i .i64 (-1)]
  else
   (c 86 [T.sl l0_5, T.i .i64 (asI (nth r22 0))]).bind fun r23 =>
   bif iLt (asI (nth r23 0)) 0 then
    some [T.i .i64 (-1)]
   else
    some [T.i .i64 (asI (nth r23 0))]
def f81 (c : Orc) (lf : Nat) (n0_0 n0_1 n0_2 : Int) (l0_3 l0_4 l0_5 : List T) (n1 : Int) : Option (List T) := f81_t c lf n0_0 n0_1 n0_2 l0_3 l0_4 l0_5 n1
theorem f81_eq (c : Orc) (lf : Nat) (n0_0 n0_1 n0_2 : Int) (l0_3 l0_4 l0_5 : List T) (n1 : Int) : funK c env lf 6 fi81 [.st [.i .i64 n0_0, .i .i64 n0_1, .i .i64 n0_2, .sl l0_3, .sl l0_4, .sl l0_5], .i .i64 n1] = f81 c lf n0_0 n0_1 n0_2 l0_3 l0_4 l0_5 n1 := by kernel_rfl
def f77_0_s (c : Orc) (lf : Nat) (l0 : List T) (L : Int → Int → Option (List T)) (x30 x31 : Int) : Option (List T) :=
 bif iLt x31 (l0.length : Int) then
  bif inR x31 l0.length then
  (c 81 [T.st [T.i .i64 (asI (T.cell (l0.getD x31.toNat T.u) 0)), T.i .i64 (asI (T.cell (l0.getD x31.toNat T.u) 1)), T.i .i64 (asI (T.cell (l0.getD x31.toNat T.u) 2)), T.sl (asL (T.cell (l0.getD x31.toNat T.u) 3)), T.sl (asL (T.cell (l0.getD x31.toNat T.u) 4)), T.sl (asL (T.cell (l0.getD x31.toNat T.u) 5))], T.i .i64 x30]).bind fun r32 =>
  bif iLt (asI (nth r32 0)) 0 then
   some [T.i .i64 0, T.i .i64 (-1)]
  else
   L (asI (nth r32 0)) (IntKind.wrap .i64 (x31 + 1))
  else none
 else
  some [T.i .i64 1, T.i .i64 x30]
def f77_0_c (l0 : List T) (x30 x31 : Int) : CSt := ⟨[.ro 0 true [.i .i64, .i .i64, .i .i64, .sl false [.i .u8], .sl true [.s, .i .i64], .sl true [.s, .s]] l0, .i .i64 x30, .i .i64 x31], [.dead, .dead]⟩
theorem f77_0_round (c : Orc) (lf : Nat) (l0 : List T) (L : CSt → Option (List T)) (x30 x31 : Int) :
 roundK c env lf 6 fi77 2 5 [] [0, 1, 5] (x77_5_0) L (f77_0_c l0 x30 x31) = f77_0_s c lf l0 (fun x30 x31 => L (f77_0_c l0 x30 x31)) x30 x31 := by kernel_rfl
def f77_0 (c : Orc) (lf : Nat) (l0 : List T) : Nat → Int → Int → Option (List T)
 | 0 => fun _ _ => none
 | n + 1 => fun x30 x31 => f77_0_s c lf l0 (f77_0 c lf l0 n) x30 x31
theorem f77_0_eq (c : Orc) (lf : Nat) (l0 : List T) (n : Nat) (x30 x31 : Int) :
 lpK c env lf 6 fi77 2 5 [] [0, 1, 5] (x77_5_0) n (f77_0_c l0 x30 x31) = f77_0 c lf l0 n x30 x31 := by
 induction n generalizing x30 x31 with
 | zero => rfl
 | succ n ih =>
  refine (f77_0_round c lf l0 _ x30 x31).trans ?_
  have e : (fun x30 x31 => lpK c env lf 6 fi77 2 5 [] [0, 1, 5] (x77_5_0) n (f77_0_c l0 x30 x31)) = f77_0 c lf l0 n := by funext x30 x31; exact ih x30 x31
  show f77_0_s c lf l0 (fun x30 x31 => lpK c env lf 6 fi77 2 5 [] [0, 1, 5] (x77_5_0) n (f77_0_c l0 x30 x31)) x30 x31 = _
  rw [e]; rfl
def f77_t (c : Orc) (lf : Nat) (lp0 : List T → Int → Int → Option (List T)) (l0 : List T) (n1 : Int) : Option (List T) :=
 bif iLt (IntKind.wrap .i64 (n1 - (l0.length : Int))) 0 then
  some [T.i .i64 (-1)]
 else
  (lp0 l0 (IntKind.wrap .i64 (n1 - (l0.length : Int))) 0).bind fun r33 =>
  bif asI (nth r33 0) == 0 then
   some [T.i .i64 (asI (nth r33 1))]
  else
   some [T.i .i64 (asI (nth r33 1))]
def f77 (c : Orc) (lf : Nat) (l0 : List T) (n1 : Int) : Option (List T) := f77_t c lf (fun (l0 : List T) (x30 x31 : Int) => f77_0 c lf l0 lf x30 x31) l0 n1
theorem f77_raw (c : Orc) (lf : Nat) (l0 : List T) (n1 : Int) : funK c env lf 6 fi77 [.sl l0, .i .i64 n1] = f77_t c lf (fun (l0 : List T) (x30 x31 : Int) => lpK c env lf 6 fi77 2 5 [] [0, 1, 5] (x77_5_0) lf (f77_0_c l0 x30 x31)) l0 n1 := by kernel_rfl
theorem f77_eq (c : Orc) (lf : Nat) (l0 : List T) (n1 : Int) : funK c env lf 6 fi77 [.sl l0, .i .i64 n1] = f77 c lf l0 n1 := by
 refine (f77_raw c lf l0 n1).trans ?_
 have e0 : (fun (l0 : List T) (x30 x31 : Int) => lpK c env lf 6 fi77 2 5 [] [0, 1, 5] (x77_5_0) lf (f77_0_c l0 x30 x31)) = (fun (l0 : List T) (x30 x31 : Int) => f77_0 c lf l0 lf x30 x31) := by funext l0 x30 x31; exact f77_0_eq c lf l0 lf x30 x31
 rw [e0]; rfl
def f65_t (c : Orc) (lf : Nat) (l0_0 : List T) (n0_1 n1 : Int) : Option (List T) :=
 (c 77 [T.sl l0_0, T.i .i64 n1]).bind fun r34 =>
 bif iLt (asI (nth r34 0)) 0 then
  some [T.i .i64 (-1)]
 else
  some [T.i .i64 (asI (nth r34 0))]
def f65 (c : Orc) (lf : Nat) (l0_0 : List T) (n0_1 n1 : Int) : Option (List T) := f65_t c lf l0_0 n0_1 n1
theorem f65_eq (c : Orc) (lf : Nat) (l0_0 : List T) (n0_1 n1 : Int) : funK c env lf 6 fi65 [.st [.sl l0_0, .i .i64 n0_1], .i .i64 n1] = f65 c lf l0_0 n0_1 n1 := by kernel_rfl
def f42_t (c : Orc) (lf : Nat) (n0_0 : Int) (s0_1 : ByteArray) (b0_2 : Bool) (n0_3 : Int) (l0_4 : List T) (n0_5 n1 : Int) : Option (List T) :=
 bif iLt (IntKind.wrap .i64 (n1 - (s0_1.size : Int))) 0 then
  some [T.i .i64 (-1)]
 else
  (c 65 [T.st [T.sl l0_4, T.i .i64 n0_5], T.i .i64 (IntKind.wrap .i64 (n1 - (s0_1.size : Int)))]).bind fun r35 =>
  bif iLt (asI (nth r35 0)) 0 then
   some [T.i .i64 (-1)]
  else
   some [T.i .i64 (asI (nth r35 0))]
def f42 (c : Orc) (lf : Nat) (n0_0 : Int) (s0_1 : ByteArray) (b0_2 : Bool) (n0_3 : Int) (l0_4 : List T) (n0_5 n1 : Int) : Option (List T) := f42_t c lf n0_0 s0_1 b0_2 n0_3 l0_4 n0_5 n1
theorem f42_eq (c : Orc) (lf : Nat) (n0_0 : Int) (s0_1 : ByteArray) (b0_2 : Bool) (n0_3 : Int) (l0_4 : List T) (n0_5 n1 : Int) : funK c env lf 6 fi42 [.st [.i .i64 n0_0, .s s0_1, .b b0_2, .i .i64 n0_3, .sl l0_4, .i .i64 n0_5], .i .i64 n1] = f42 c lf n0_0 s0_1 b0_2 n0_3 l0_4 n0_5 n1 := by kernel_rfl
def f27_0_s (c : Orc) (lf : Nat) (l0 : List T) (L : Int → Int → Option (List T)) (x42 x43 : Int) : Option (List T) :=
 bif iLt x43 (l0.length : Int) then
  bif inR x43 l0.length then
  (c 42 [T.st [T.i .i64 (asI (T.cell (l0.getD x43.toNat T.u) 0)), T.s (asS (T.cell (l0.getD x43.toNat T.u) 1)), T.b (asB (T.cell (l0.getD x43.toNat T.u) 2)), T.i .i64 (asI (T.cell (l0.getD x43.toNat T.u) 3)), T.sl (asL (T.cell (l0.getD x43.toNat T.u) 4)), T.i .i64 (asI (T.cell (l0.getD x43.toNat T.u) 5))], T.i .i64 x42]).bind fun r44 =>
  bif iLt (asI (nth r44 0)) 0 then
   some [T.i .i64 0, T.i .i64 (-1)]
  else
   L (asI (nth r44 0)) (IntKind.wrap .i64 (x43 + 1))
  else none
 else
  some [T.i .i64 1, T.i .i64 x42]
def f27_0_c (l0 : List T) (x42 x43 : Int) : CSt := ⟨[.ro 0 true [.i .i64, .s, .b, .i .i64, .sl true [.i .i64, .i .i64, .i .i64, .sl false [.i .u8], .sl true [.s, .i .i64], .sl true [.s, .s]], .i .i64] l0, .i .i64 x42, .i .i64 x43], [.dead, .dead]⟩
theorem f27_0_round (c : Orc) (lf : Nat) (l0 : List T) (L : CSt → Option (List T)) (x42 x43 : Int) :
 roundK c env lf 6 fi27 2 5 [] [0, 1, 5] (x27_5_0) L (f27_0_c l0 x42 x43) = f27_0_s c lf l0 (fun x42 x43 => L (f27_0_c l0 x42 x43)) x42 x43 := by kernel_rfl
def f27_0 (c : Orc) (lf : Nat) (l0 : List T) : Nat → Int → Int → Option (List T)
 | 0 => fun _ _ => none
 | n + 1 => fun x42 x43 => f27_0_s c lf l0 (f27_0 c lf l0 n) x42 x43
theorem f27_0_eq (c : Orc) (lf : Nat) (l0 : List T) (n : Nat) (x42 x43 : Int) :
 lpK c env lf 6 fi27 2 5 [] [0, 1, 5] (x27_5_0) n (f27_0_c l0 x42 x43) = f27_0 c lf l0 n x42 x43 := by
 induction n generalizing x42 x43 with
 | zero => rfl
 | succ n ih =>
  refine (f27_0_round c lf l0 _ x42 x43).trans ?_
  have e : (fun x42 x43 => lpK c env lf 6 fi27 2 5 [] [0, 1, 5] (x27_5_0) n (f27_0_c l0 x42 x43)) = f27_0 c lf l0 n := by funext x42 x43; exact ih x42 x43
  show f27_0_s c lf l0 (fun x42 x43 => lpK c env lf 6 fi27 2 5 [] [0, 1, 5] (x27_5_0) n (f27_0_c l0 x42 x43)) x42 x43 = _
  rw [e]; rfl
def f27_t (c : Orc) (lf : Nat) (lp0 : List T → Int → Int → Option (List T)) (l0 : List T) (n1 : Int) : Option (List T) :=
 bif iLt (IntKind.wrap .i64 (n1 - (l0.length : Int))) 0 then
  some [T.i .i64 (-1)]
 else
  (lp0 l0 (IntKind.wrap .i64 (n1 - (l0.length : Int))) 0).bind fun r45 =>
  bif asI (nth r45 0) == 0 then
   some [T.i .i64 (asI (nth r45 1))]
  else
   some [T.i .i64 (asI (nth r45 1))]
def f27 (c : Orc) (lf : Nat) (l0 : List T) (n1 : Int) : Option (List T) := f27_t c lf (fun (l0 : List T) (x42 x43 : Int) => f27_0 c lf l0 lf x42 x43) l0 n1
theorem f27_raw (c : Orc) (lf : Nat) (l0 : List T) (n1 : Int) : funK c env lf 6 fi27 [.sl l0, .i .i64 n1] = f27_t c lf (fun (l0 : List T) (x42 x43 : Int) => lpK c env lf 6 fi27 2 5 [] [0, 1, 5] (x27_5_0) lf (f27_0_c l0 x42 x43)) l0 n1 := by kernel_rfl
theorem f27_eq (c : Orc) (lf : Nat) (l0 : List T) (n1 : Int) : funK c env lf 6 fi27 [.sl l0, .i .i64 n1] = f27 c lf l0 n1 := by
 refine (f27_raw c lf l0 n1).trans ?_
 have e0 : (fun (l0 : List T) (x42 x43 : Int) => lpK c env lf 6 fi27 2 5 [] [0, 1, 5] (x27_5_0) lf (f27_0_c l0 x42 x43)) = (fun (l0 : List T) (x42 x43 : Int) => f27_0 c lf l0 lf x42 x43) := by funext l0 x42 x43; exact f27_0_eq c lf l0 lf x42 x43
 rw [e0]; rfl
def f12_t (c : Orc) (lf : Nat) (l0_0 : List T) (n0_1 n1 : Int) : Option (List T) :=
 (c 27 [T.sl l0_0, T.i .i64 n1]).bind fun r46 =>
 bif iLt (asI (nth r46 0)) 0 then
  some [T.i .i64 (-1)]
 else
  some [T.i .i64 (asI (nth r46 0))]
def f12 (c : Orc) (lf : Nat) (l0_0 : List T) (n0_1 n1 : Int) : Option (List T) := f12_t c lf l0_0 n0_1 n1
theorem f12_eq (c : Orc) (lf : Nat) (l0_0 : List T) (n0_1 n1 : Int) : funK c env lf 6 fi12 [.st [.sl l0_0, .i .i64 n0_1], .i .i64 n1] = f12 c lf l0_0 n0_1 n1 := by kernel_rfl
def f43_t (c : Orc) (lf : Nat) (n0_0 : Int) (s0_1 : ByteArray) (b0_2 : Bool) (n0_3 n0_4 n1 : Int) : Option (List T) :=
 bif iLt (IntKind.wrap .i64 (n1 - (s0_1.size : Int))) 0 then
  some [T.i .i64 (-1)]
 else
  some [T.i .i64 (IntKind.wrap .i64 (n1 - (s0_1.size : Int)))]
def f43 (c : Orc) (lf : Nat) (n0_0 : Int) (s0_1 : ByteArray) (b0_2 : Bool) (n0_3 n0_4 n1 : Int) : Option (List T) := f43_t c lf n0_0 s0_1 b0_2 n0_3 n0_4 n1
theorem f43_eq (c : Orc) (lf : Nat) (n0_0 : Int) (s0_1 : ByteArray) (b0_2 : Bool) (n0_3 n0_4 n1 : Int) : funK c env lf 6 fi43 [.st [.i .i64 n0_0, .s s0_1, .b b0_2, .i .i64 n0_3, .i .i64 n0_4], .i .i64 n1] = f43 c lf n0_0 s0_1 b0_2 n0_3 n0_4 n1 := by kernel_rfl
def f28_0_s (c : Orc) (lf : Nat) (l0 : List T) (L : Int → Int → Option (List T)) (x53 x54 : Int) : Option (List T) :=
 bif iLt x54 (l0.length : Int) then
  bif inR x54 l0.length then
  (c 43 [T.st [T.i .i64 (asI (T.cell (l0.getD x54.toNat T.u) 0)), T.s (asS (T.cell (l0.getD x54.toNat T.u) 1)), T.b (asB (T.cell (l0.getD x54.toNat T.u) 2)), T.i .i64 (asI (T.cell (l0.getD x54.toNat T.u) 3)), T.i .i64 (asI (T.cell (l0.getD x54.toNat T.u) 4))], T.i .i64 x53]).bind fun r55 =>
  bif iLt (asI (nth r55 0)) 0 then
   some [T.i .i64 0, T.i .i64 (-1)]
  else
   L (asI (nth r55 0)) (IntKind.wrap .i64 (x54 + 1))
  else none
 else
  some [T.i .i64 1, T.i .i64 x53]
def f28_0_c (l0 : List T) (x53 x54 : Int) : CSt := ⟨[.ro 0 true [.i .i64, .s, .b, .i .i64, .i .i64] l0, .i .i64 x53, .i .i64 x54], [.dead, .dead]⟩
theorem f28_0_round (c : Orc) (lf : Nat) (l0 : List T) (L : CSt → Option (List T)) (x53 x54 : Int) :
 roundK c env lf 6 fi28 2 5 [] [0, 1, 5] (x28_5_0) L (f28_0_c l0 x53 x54) = f28_0_s c lf l0 (fun x53 x54 => L (f28_0_c l0 x53 x54)) x53 x54 := by kernel_rfl
def f28_0 (c : Orc) (lf : Nat) (l0 : List T) : Nat → Int → Int → Option (List T)
 | 0 => fun _ _ => none
 | n + 1 => fun x53 x54 => f28_0_s c lf l0 (f28_0 c lf l0 n) x53 x54
theorem f28_0_eq (c : Orc) (lf : Nat) (l0 : List T) (n : Nat) (x53 x54 : Int) :
 lpK c env lf 6 fi28 2 5 [] [0, 1, 5] (x28_5_0) n (f28_0_c l0 x53 x54) = f28_0 c lf l0 n x53 x54 := by
 induction n generalizing x53 x54 with
 | zero => rfl
 | succ n ih =>
  refine (f28_0_round c lf l0 _ x53 x54).trans ?_
  have e : (fun x53 x54 => lpK c env lf 6 fi28 2 5 [] [0, 1, 5] (x28_5_0) n (f28_0_c l0 x53 x54)) = f28_0 c lf l0 n := by funext x53 x54; exact ih x53 x54
  show f28_0_s c lf l0 (fun x53 x54 => lpK c env lf 6 fi28 2 5 [] [0, 1, 5] (x28_5_0) n (f28_0_c l0 x53 x54)) x53 x54 = _
  rw [e]; rfl
def f28_t (c : Orc) (lf : Nat) (lp0 : List T → Int → Int → Option (List T)) (l0 : List T) (n1 : Int) : Option (List T) :=
 bif iLt (IntKind.wrap .i64 (n1 - (l0.length : Int))) 0 then
  some [T.i .i64 (-1)]
 else
  (lp0 l0 (IntKind.wrap .i64 (n1 - (l0.length : Int))) 0).bind fun r56 =>
  bif asI (nth r56 0) == 0 then
   some [T.i .i64 (asI (nth r56 1))]
  else
   some [T.i .i64 (asI (nth r56 1))]
def f28 (c : Orc) (lf : Nat) (l0 : List T) (n1 : Int) : Option (List T) := f28_t c lf (fun (l0 : List T) (x53 x54 : Int) => f28_0 c lf l0 lf x53 x54) l0 n1
theorem f28_raw (c : Orc) (lf : Nat) (l0 : List T) (n1 : Int) : funK c env lf 6 fi28 [.sl l0, .i .i64 n1] = f28_t c lf (fun (l0 : List T) (x53 x54 : Int) => lpK c env lf 6 fi28 2 5 [] [0, 1, 5] (x28_5_0) lf (f28_0_c l0 x53 x54)) l0 n1 := by kernel_rfl
theorem f28_eq (c : Orc) (lf : Nat) (l0 : List T) (n1 : Int) : funK c env lf 6 fi28 [.sl l0, .i .i64 n1] = f28 c lf l0 n1 := by
 refine (f28_raw c lf l0 n1).trans ?_
 have e0 : (fun (l0 : List T) (x53 x54 : Int) => lpK c env lf 6 fi28 2 5 [] [0, 1, 5] (x28_5_0) lf (f28_0_c l0 x53 x54)) = (fun (l0 : List T) (x53 x54 : Int) => f28_0 c lf l0 lf x53 x54) := by funext l0 x53 x54; exact f28_0_eq c lf l0 lf x53 x54
 rw [e0]; rfl
def f13_t (c : Orc) (lf : Nat) (n0_0 : Int) (l0_1 : List T) (n1 : Int) : Option (List T) :=
 (c 28 [T.sl l0_1, T.i .i64 n1]).bind fun r57 =>
 bif iLt (asI (nth r57 0)) 0 then
  some [T.i .i64 (-1)]
 else
  some [T.i .i64 (asI (nth r57 0))]
def f13 (c : Orc) (lf : Nat) (n0_0 : Int) (l0_1 : List T) (n1 : Int) : Option (List T) := f13_t c lf n0_0 l0_1 n1
theorem f13_eq (c : Orc) (lf : Nat) (n0_0 : Int) (l0_1 : List T) (n1 : Int) : funK c env lf 6 fi13 [.st [.i .i64 n0_0, .sl l0_1], .i .i64 n1] = f13 c lf n0_0 l0_1 n1 := by kernel_rfl
def f44_t (c : Orc) (lf : Nat) (l0 : List T) (n1 : Int) : Option (List T) :=
 bif iLt (IntKind.wrap .i64 (n1 - (l0.length : Int))) 0 then
  some [T.i .i64 (-1)]
 else
  some [T.i .i64 (IntKind.wrap .i64 (n1 - (l0.length : Int)))]
def f44 (c : Orc) (lf : Nat) (l0 : List T) (n1 : Int) : Option (List T) := f44_t c lf l0 n1
theorem f44_eq (c : Orc) (lf : Nat) (l0 : List T) (n1 : Int) : funK c env lf 6 fi44 [.sl l0, .i .i64 n1] = f44 c lf l0 n1 := by kernel_rfl
def f29_t (c : Orc) (lf : Nat) (n0_0 : Int) (l0_1 : List T) (n1 : Int) : Option (List T) :=
 (c 44 [T.sl l0_1, T.i .i64 n1]).bind fun r58 =>
 bif iLt (asI (nth r58 0)) 0 then
  some [T.i .i64 (-1)]
 else
  some [T.i .i64 (asI (nth r58 0))]
def f29 (c : Orc) (lf : Nat) (n0_0 : Int) (l0_1 : List T) (n1 : Int) : Option (List T) := f29_t c lf n0_0 l0_1 n1
theorem f29_eq (c : Orc) (lf : Nat) (n0_0 : Int) (l0_1 : List T) (n1 : Int) : funK c env lf 6 fi29 [.st [.i .i64 n0_0, .sl l0_1], .i .i64 n1] = f29 c lf n0_0 l0_1 n1 := by kernel_rfl
def f14_0_s (c : Orc) (lf : Nat) (l0 : List T) (L : Int → Int → Option (List T)) (x65 x66 : Int) : Option (List T) :=
 bif iLt x66 (l0.length : Int) then
  bif inR x66 l0.length then
  (c 29 [T.st [T.i .i64 (asI (T.cell (l0.getD x66.toNat T.u) 0)), T.sl (asL (T.cell (l0.getD x66.toNat T.u) 1))], T.i .i64 x65]).bind fun r67 =>
  bif iLt (asI (nth r67 0)) 0 then
   some [T.i .i64 0, T.i .i64 (-1)]
  else
   L (asI (nth r67 0)) (IntKind.wrap .i64 (x66 + 1))
  else none
 else
  some [T.i .i64 1, T.i .i64 x65]
def f14_0_c (l0 : List T) (x65 x66 : Int) : CSt := ⟨[.ro 0 true [.i .i64, .sl true [.i .i64, .i .i64]] l0, .i .i64 x65, .i .i64 x66], [.dead, .dead]⟩
theorem f14_0_round (c : Orc) (lf : Nat) (l0 : List T) (L : CSt → Option (List T)) (x65 x66 : Int) :
 roundK c env lf 6 fi14 2 5 [] [0, 1, 5] (x14_5_0) L (f14_0_c l0 x65 x66) = f14_0_s c lf l0 (fun x65 x66 => L (f14_0_c l0 x65 x66)) x65 x66 := by kernel_rfl
def f14_0 (c : Orc) (lf : Nat) (l0 : List T) : Nat → Int → Int → Option (List T)
 | 0 => fun _ _ => none
 | n + 1 => fun x65 x66 => f14_0_s c lf l0 (f14_0 c lf l0 n) x65 x66
theorem f14_0_eq (c : Orc) (lf : Nat) (l0 : List T) (n : Nat) (x65 x66 : Int) :
 lpK c env lf 6 fi14 2 5 [] [0, 1, 5] (x14_5_0) n (f14_0_c l0 x65 x66) = f14_0 c lf l0 n x65 x66 := by
 induction n generalizing x65 x66 with
 | zero => rfl
 | succ n ih =>
  refine (f14_0_round c lf l0 _ x65 x66).trans ?_
  have e : (fun x65 x66 => lpK c env lf 6 fi14 2 5 [] [0, 1, 5] (x14_5_0) n (f14_0_c l0 x65 x66)) = f14_0 c lf l0 n := by funext x65 x66; exact ih x65 x66
  show f14_0_s c lf l0 (fun x65 x66 => lpK c env lf 6 fi14 2 5 [] [0, 1, 5] (x14_5_0) n (f14_0_c l0 x65 x66)) x65 x66 = _
  rw [e]; rfl
def f14_t (c : Orc) (lf : Nat) (lp0 : List T → Int → Int → Option (List T)) (l0 : List T) (n1 : Int) : Option (List T) :=
 bif iLt (IntKind.wrap .i64 (n1 - (l0.length : Int))) 0 then
  some [T.i .i64 (-1)]
 else
  (lp0 l0 (IntKind.wrap .i64 (n1 - (l0.length : Int))) 0).bind fun r68 =>
  bif asI (nth r68 0) == 0 then
   some [T.i .i64 (asI (nth r68 1))]
  else
   some [T.i .i64 (asI (nth r68 1))]
def f14 (c : Orc) (lf : Nat) (l0 : List T) (n1 : Int) : Option (List T) := f14_t c lf (fun (l0 : List T) (x65 x66 : Int) => f14_0 c lf l0 lf x65 x66) l0 n1
theorem f14_raw (c : Orc) (lf : Nat) (l0 : List T) (n1 : Int) : funK c env lf 6 fi14 [.sl l0, .i .i64 n1] = f14_t c lf (fun (l0 : List T) (x65 x66 : Int) => lpK c env lf 6 fi14 2 5 [] [0, 1, 5] (x14_5_0) lf (f14_0_c l0 x65 x66)) l0 n1 := by kernel_rfl
theorem f14_eq (c : Orc) (lf : Nat) (l0 : List T) (n1 : Int) : funK c env lf 6 fi14 [.sl l0, .i .i64 n1] = f14 c lf l0 n1 := by
 refine (f14_raw c lf l0 n1).trans ?_
 have e0 : (fun (l0 : List T) (x65 x66 : Int) => lpK c env lf 6 fi14 2 5 [] [0, 1, 5] (x14_5_0) lf (f14_0_c l0 x65 x66)) = (fun (l0 : List T) (x65 x66 : Int) => f14_0 c lf l0 lf x65 x66) := by funext l0 x65 x66; exact f14_0_eq c lf l0 lf x65 x66
 rw [e0]; rfl
def f5_t (c : Orc) (lf : Nat) (l0_0 : List T) (n0_1 n0_2 : Int) (l0_3 l0_4 : List T) (n0_5 n0_6 n1 : Int) : Option (List T) :=
 (c 12 [T.st [T.sl l0_0, T.i .i64 n0_1], T.i .i64 n1]).bind fun r69 =>
 bif iLt (asI (nth r69 0)) 0 then
  some [T.i .i64 (-1)]
 else
  (c 13 [T.st [T.i .i64 n0_2, T.sl l0_3], T.i .i64 (asI (nth r69 0))]).bind fun r70 =>
  bif iLt (asI (nth r70 0)) 0 then
   some [T.i .i64 (-1)]
  else
   (c 14 [T.sl l0_4, T.i .i64 (asI (nth r70 0))]).bind fun r71 =>
   bif iLt (asI (nth r71 0)) 0 then
    some [T.i .i64 (-1)]
   else
    some [T.i .i64 (asI (nth r71 0))]
def f5 (c : Orc) (lf : Nat) (l0_0 : List T) (n0_1 n0_2 : Int) (l0_3 l0_4 : List T) (n0_5 n0_6 n1 : Int) : Option (List T) := f5_t c lf l0_0 n0_1 n0_2 l0_3 l0_4 n0_5 n0_6 n1
theorem f5_eq (c : Orc) (lf : Nat) (l0_0 : List T) (n0_1 n0_2 : Int) (l0_3 l0_4 : List T) (n0_5 n0_6 n1 : Int) : funK c env lf 6 fi5 [.st [.sl l0_0, .i .i64 n0_1, .i .i64 n0_2, .sl l0_3, .sl l0_4, .i .i64 n0_5, .i .i64 n0_6], .i .i64 n1] = f5 c lf l0_0 n0_1 n0_2 l0_3 l0_4 n0_5 n0_6 n1 := by kernel_rfl
def f87_0_s (c : Orc) (lf : Nat) (l0 : List T) (L : Int → List T → Option (List T)) (x75 : Int) (x76 : List T) : Option (List T) :=
 bif iLt x75 (l0.length : Int) then
  bif inR x75 l0.length then
  bif inR x75 x76.length then
  L (IntKind.wrap .i64 (x75 + 1)) (x76.set x75.toNat (T.i .u8 (asI (l0.getD x75.toNat T.u))))
  else none
  else none
 else
  some [T.i .i64 0, T.sl x76]
def f87_0_c (l0 : List T) (x75 : Int) (x76 : List T) : CSt := ⟨[.ro 0 false [.i .u8] l0, .rf 1 [] 0 none, .i .i64 x75], [.dead, .row false [.i .u8] x76 0 false]⟩
theorem f87_0_round (c : Orc) (lf : Nat) (l0 : List T) (L : CSt → Option (List T)) (x75 : Int) (x76 : List T) :
 roundK c env lf 6 fi87 1 3 [] [0, 3, 4] (x87_3_0) L (f87_0_c l0 x75 x76) = f87_0_s c lf l0 (fun x75 x76 => L (f87_0_c l0 x75 x76)) x75 x76 := by kernel_rfl
def f87_0 (c : Orc) (lf : Nat) (l0 : List T) : Nat → Int → List T → Option (List T)
 | 0 => fun _ _ => none
 | n + 1 => fun x75 x76 => f87_0_s c lf l0 (f87_0 c lf l0 n) x75 x76
theorem f87_0_eq (c : Orc) (lf : Nat) (l0 : List T) (n : Nat) (x75 : Int) (x76 : List T) :
 lpK c env lf 6 fi87 1 3 [] [0, 3, 4] (x87_3_0) n (f87_0_c l0 x75 x76) = f87_0 c lf l0 n x75 x76 := by
 induction n generalizing x75 x76 with
 | zero => rfl
 | succ n ih =>
  refine (f87_0_round c lf l0 _ x75 x76).trans ?_
  have e : (fun x75 x76 => lpK c env lf 6 fi87 1 3 [] [0, 3, 4] (x87_3_0) n (f87_0_c l0 x75 x76)) = f87_0 c lf l0 n := by funext x75 x76; exact ih x75 x76
  show f87_0_s c lf l0 (fun x75 x76 => lpK c env lf 6 fi87 1 3 [] [0, 3, 4] (x87_3_0) n (f87_0_c l0 x75 x76)) x75 x76 = _
  rw [e]; rfl
def f87_t (c : Orc) (lf : Nat) (lp0 : List T → Int → List T → Option (List T)) (l0 : List T) : Option (List T) :=
 bif iLe 0 (l0.length : Int) && iLe (l0.length : Int) (LIM : Int) && ((l0.length : Int) == (l0.length : Int)) then
 (lp0 l0 0 (List.replicate (l0.length : Int).toNat (T.i .u8 0))).bind fun r77 =>
 some [T.sl (asL (nth r77 1))]
 else none
def f87 (c : Orc) (lf : Nat) (l0 : List T) : Option (List T) := f87_t c lf (fun (l0 : List T) (x75 : Int) (x76 : List T) => f87_0 c lf l0 lf x75 x76) l0
theorem f87_raw (c : Orc) (lf : Nat) (l0 : List T) : funK c env lf 6 fi87 [.sl l0] = f87_t c lf (fun (l0 : List T) (x75 : Int) (x76 : List T) => lpK c env lf 6 fi87 1 3 [] [0, 3, 4] (x87_3_0) lf (f87_0_c l0 x75 x76)) l0 := by kernel_rfl
theorem f87_eq (c : Orc) (lf : Nat) (l0 : List T) : funK c env lf 6 fi87 [.sl l0] = f87 c lf l0 := by
 refine (f87_raw c lf l0).trans ?_
 have e0 : (fun (l0 : List T) (x75 : Int) (x76 : List T) => lpK c env lf 6 fi87 1 3 [] [0, 3, 4] (x87_3_0) lf (f87_0_c l0 x75 x76)) = (fun (l0 : List T) (x75 : Int) (x76 : List T) => f87_0 c lf l0 lf x75 x76) := by funext l0 x75 x76; exact f87_0_eq c lf l0 lf x75 x76
 rw [e0]; rfl
def f95_t (c : Orc) (lf : Nat) (s0_0 : ByteArray) (n0_1 : Int) : Option (List T) :=
 some [T.st [T.s s0_0, T.i .i64 n0_1]]
def f95 (c : Orc) (lf : Nat) (s0_0 : ByteArray) (n0_1 : Int) : Option (List T) := f95_t c lf s0_0 n0_1
theorem f95_eq (c : Orc) (lf : Nat) (s0_0 : ByteArray) (n0_1 : Int) : funK c env lf 6 fi95 [.st [.s s0_0, .i .i64 n0_1]] = f95 c lf s0_0 n0_1 := by kernel_rfl
def f88_0_s (c : Orc) (lf : Nat) (l0 : List T) (L : Int → List T → Option (List T)) (x84 : Int) (x85 : List T) : Option (List T) :=
 bif iLt x84 (l0.length : Int) then
  bif inR x84 l0.length then
  (c 95 [T.st [T.s (asS (T.cell (l0.getD x84.toNat T.u) 0)), T.i .i64 (asI (T.cell (l0.getD x84.toNat T.u) 1))]]).bind fun r86 =>
  bif inR x84 x85.length then
  L (IntKind.wrap .i64 (x84 + 1)) (x85.set x84.toNat (T.st [T.s (asS (T.cell (nth r86 0) 0)), T.i .i64 (asI (T.cell (nth r86 0) 1))]))
  else none
  else none
 else
  some [T.i .i64 0, T.sl x85]
def f88_0_c (l0 : List T) (x84 : Int) (x85 : List T) : CSt := ⟨[.ro 0 true [.s, .i .i64] l0, .rf 1 [] 0 none, .i .i64 x84], [.dead, .row true [.s, .i .i64] x85 0 false]⟩
theorem f88_0_round (c : Orc) (lf : Nat) (l0 : List T) (L : CSt → Option (List T)) (x84 : Int) (x85 : List T) :
 roundK c env lf 6 fi88 1 3 [] [0, 3, 4] (x88_3_0) L (f88_0_c l0 x84 x85) = f88_0_s c lf l0 (fun x84 x85 => L (f88_0_c l0 x84 x85)) x84 x85 := by kernel_rfl
def f88_0 (c : Orc) (lf : Nat) (l0 : List T) : Nat → Int → List T → Option (List T)
 | 0 => fun _ _ => none
 | n + 1 => fun x84 x85 => f88_0_s c lf l0 (f88_0 c lf l0 n) x84 x85
theorem f88_0_eq (c : Orc) (lf : Nat) (l0 : List T) (n : Nat) (x84 : Int) (x85 : List T) :
 lpK c env lf 6 fi88 1 3 [] [0, 3, 4] (x88_3_0) n (f88_0_c l0 x84 x85) = f88_0 c lf l0 n x84 x85 := by
 induction n generalizing x84 x85 with
 | zero => rfl
 | succ n ih =>
  refine (f88_0_round c lf l0 _ x84 x85).trans ?_
  have e : (fun x84 x85 => lpK c env lf 6 fi88 1 3 [] [0, 3, 4] (x88_3_0) n (f88_0_c l0 x84 x85)) = f88_0 c lf l0 n := by funext x84 x85; exact ih x84 x85
  show f88_0_s c lf l0 (fun x84 x85 => lpK c env lf 6 fi88 1 3 [] [0, 3, 4] (x88_3_0) n (f88_0_c l0 x84 x85)) x84 x85 = _
  rw [e]; rfl
def f88_t (c : Orc) (lf : Nat) (lp0 : List T → Int → List T → Option (List T)) (l0 : List T) : Option (List T) :=
 bif iLe 0 (l0.length : Int) && iLe (l0.length : Int) (LIM : Int) && ((l0.length : Int) == (l0.length : Int)) then
 (lp0 l0 0 (List.replicate (l0.length : Int).toNat (T.st [T.s (⟨#[]⟩ : ByteArray), T.i .i64 0]))).bind fun r87 =>
 some [T.sl (asL (nth r87 1))]
 else none
def f88 (c : Orc) (lf : Nat) (l0 : List T) : Option (List T) := f88_t c lf (fun (l0 : List T) (x84 : Int) (x85 : List T) => f88_0 c lf l0 lf x84 x85) l0
theorem f88_raw (c : Orc) (lf : Nat) (l0 : List T) : funK c env lf 6 fi88 [.sl l0] = f88_t c lf (fun (l0 : List T) (x84 : Int) (x85 : List T) => lpK c env lf 6 fi88 1 3 [] [0, 3, 4] (x88_3_0) lf (f88_0_c l0 x84 x85)) l0 := by kernel_rfl
theorem f88_eq (c : Orc) (lf : Nat) (l0 : List T) : funK c env lf 6 fi88 [.sl l0] = f88 c lf l0 := by
 refine (f88_raw c lf l0).trans ?_
 have e0 : (fun (l0 : List T) (x84 : Int) (x85 : List T) => lpK c env lf 6 fi88 1 3 [] [0, 3, 4] (x88_3_0) lf (f88_0_c l0 x84 x85)) = (fun (l0 : List T) (x84 : Int) (x85 : List T) => f88_0 c lf l0 lf x84 x85) := by funext l0 x84 x85; exact f88_0_eq c lf l0 lf x84 x85
 rw [e0]; rfl
def f96_t (c : Orc) (lf : Nat) (s0_0 s0_1 : ByteArray) : Option (List T) :=
 some [T.st [T.s s0_0, T.s s0_1]]
def f96 (c : Orc) (lf : Nat) (s0_0 s0_1 : ByteArray) : Option (List T) := f96_t c lf s0_0 s0_1
theorem f96_eq (c : Orc) (lf : Nat) (s0_0 s0_1 : ByteArray) : funK c env lf 6 fi96 [.st [.s s0_0, .s s0_1]] = f96 c lf s0_0 s0_1 := by kernel_rfl
def f89_0_s (c : Orc) (lf : Nat) (l0 : List T) (L : Int → List T → Option (List T)) (x94 : Int) (x95 : List T) : Option (List T) :=
 bif iLt x94 (l0.length : Int) then
  bif inR x94 l0.length then
  (c 96 [T.st [T.s (asS (T.cell (l0.getD x94.toNat T.u) 0)), T.s (asS (T.cell (l0.getD x94.toNat T.u) 1))]]).bind fun r96 =>
  bif inR x94 x95.length then
  L (IntKind.wrap .i64 (x94 + 1)) (x95.set x94.toNat (T.st [T.s (asS (T.cell (nth r96 0) 0)), T.s (asS (T.cell (nth r96 0) 1))]))
  else none
  else none
 else
  some [T.i .i64 0, T.sl x95]
def f89_0_c (l0 : List T) (x94 : Int) (x95 : List T) : CSt := ⟨[.ro 0 true [.s, .s] l0, .rf 1 [] 0 none, .i .i64 x94], [.dead, .row true [.s, .s] x95 0 false]⟩
theorem f89_0_round (c : Orc) (lf : Nat) (l0 : List T) (L : CSt → Option (List T)) (x94 : Int) (x95 : List T) :
 roundK c env lf 6 fi89 1 3 [] [0, 3, 4] (x89_3_0) L (f89_0_c l0 x94 x95) = f89_0_s c lf l0 (fun x94 x95 => L (f89_0_c l0 x94 x95)) x94 x95 := by kernel_rfl
def f89_0 (c : Orc) (lf : Nat) (l0 : List T) : Nat → Int → List T → Option (List T)
 | 0 => fun _ _ => none
 | n + 1 => fun x94 x95 => f89_0_s c lf l0 (f89_0 c lf l0 n) x94 x95
theorem f89_0_eq (c : Orc) (lf : Nat) (l0 : List T) (n : Nat) (x94 : Int) (x95 : List T) :
 lpK c env lf 6 fi89 1 3 [] [0, 3, 4] (x89_3_0) n (f89_0_c l0 x94 x95) = f89_0 c lf l0 n x94 x95 := by
 induction n generalizing x94 x95 with
 | zero => rfl
 | succ n ih =>
  refine (f89_0_round c lf l0 _ x94 x95).trans ?_
  have e : (fun x94 x95 => lpK c env lf 6 fi89 1 3 [] [0, 3, 4] (x89_3_0) n (f89_0_c l0 x94 x95)) = f89_0 c lf l0 n := by funext x94 x95; exact ih x94 x95
  show f89_0_s c lf l0 (fun x94 x95 => lpK c env lf 6 fi89 1 3 [] [0, 3, 4] (x89_3_0) n (f89_0_c l0 x94 x95)) x94 x95 = _
  rw [e]; rfl
def f89_t (c : Orc) (lf : Nat) (lp0 : List T → Int → List T → Option (List T)) (l0 : List T) : Option (List T) :=
 bif iLe 0 (l0.length : Int) && iLe (l0.length : Int) (LIM : Int) && ((l0.length : Int) == (l0.length : Int)) then
 (lp0 l0 0 (List.replicate (l0.length : Int).toNat (T.st [T.s (⟨#[]⟩ : ByteArray), T.s (⟨#[]⟩ : ByteArray)]))).bind fun r97 =>
 some [T.sl (asL (nth r97 1))]
 else none
def f89 (c : Orc) (lf : Nat) (l0 : List T) : Option (List T) := f89_t c lf (fun (l0 : List T) (x94 : Int) (x95 : List T) => f89_0 c lf l0 lf x94 x95) l0
theorem f89_raw (c : Orc) (lf : Nat) (l0 : List T) : funK c env lf 6 fi89 [.sl l0] = f89_t c lf (fun (l0 : List T) (x94 : Int) (x95 : List T) => lpK c env lf 6 fi89 1 3 [] [0, 3, 4] (x89_3_0) lf (f89_0_c l0 x94 x95)) l0 := by kernel_rfl
theorem f89_eq (c : Orc) (lf : Nat) (l0 : List T) : funK c env lf 6 fi89 [.sl l0] = f89 c lf l0 := by
 refine (f89_raw c lf l0).trans ?_
 have e0 : (fun (l0 : List T) (x94 : Int) (x95 : List T) => lpK c env lf 6 fi89 1 3 [] [0, 3, 4] (x89_3_0) lf (f89_0_c l0 x94 x95)) = (fun (l0 : List T) (x94 : Int) (x95 : List T) => f89_0 c lf l0 lf x94 x95) := by funext l0 x94 x95; exact f89_0_eq c lf l0 lf x94 x95
 rw [e0]; rfl
def f82_t (c : Orc) (lf : Nat) (n0_0 n0_1 n0_2 : Int) (l0_3 l0_4 l0_5 : List T) : Option (List T) :=
 (c 87 [T.sl l0_3]).bind fun r98 =>
 (c 88 [T.sl l0_4]).bind fun r99 =>
 (c 89 [T.sl l0_5]).bind fun r100 =>
 some [T.st [T.i .i64 n0_0, T.i .i64 n0_1, T.i .i64 n0_2, T.sl (asL (nth r98 0)), T.sl (asL (nth r99 0)), T.sl (asL (nth r100 0))]]
def f82 (c : Orc) (lf : Nat) (n0_0 n0_1 n0_2 : Int) (l0_3 l0_4 l0_5 : List T) : Option (List T) := f82_t c lf n0_0 n0_1 n0_2 l0_3 l0_4 l0_5
theorem f82_eq (c : Orc) (lf : Nat) (n0_0 n0_1 n0_2 : Int) (l0_3 l0_4 l0_5 : List T) : funK c env lf 6 fi82 [.st [.i .i64 n0_0, .i .i64 n0_1, .i .i64 n0_2, .sl l0_3, .sl l0_4, .sl l0_5]] = f82 c lf n0_0 n0_1 n0_2 l0_3 l0_4 l0_5 := by kernel_rfl
def f78_0_s (c : Orc) (lf : Nat) (l0 : List T) (L : Int → List T → Option (List T)) (x107 : Int) (x108 : List T) : Option (List T) :=
 bif iLt x107 (l0.length : Int) then
  bif inR x107 l0.length then
  (c 82 [T.st [T.i .i64 (asI (T.cell (l0.getD x107.toNat T.u) 0)), T.i .i64 (asI (T.cell (l0.getD x107.toNat T.u) 1)), T.i .i64 (asI (T.cell (l0.getD x107.toNat T.u) 2)), T.sl (asL (T.cell (l0.getD x107.toNat T.u) 3)), T.sl (asL (T.cell (l0.getD x107.toNat T.u) 4)), T.sl (asL (T.cell (l0.getD x107.toNat T.u) 5))]]).bind fun r109 =>
  bif inR x107 x108.length then
  L (IntKind.wrap .i64 (x107 + 1)) (x108.set x107.toNat (T.st [T.i .i64 (asI (T.cell (nth r109 0) 0)), T.i .i64 (asI (T.cell (nth r109 0) 1)), T.i .i64 (asI (T.cell (nth r109 0) 2)), T.sl (asL (T.cell (nth r109 0) 3)), T.sl (asL (T.cell (nth r109 0) 4)), T.sl (asL (T.cell (nth r109 0) 5))]))
  else none
  else none
 else
  some [T.i .i64 0, T.sl x108]
def f78_0_c (l0 : List T) (x107 : Int) (x108 : List T) : CSt := ⟨[.ro 0 true [.i .i64, .i .i64, .i .i64, .sl false [.i .u8], .sl true [.s, .i .i64], .sl true [.s, .s]] l0, .rf 1 [] 0 none, .i .i64 x107], [.dead, .row true [.i .i64, .i .i64, .i .i64, .sl false [.i .u8], .sl true [.s, .i .i64], .sl true [.s, .s]] x108 0 false]⟩
theorem f78_0_round (c : Orc) (lf : Nat) (l0 : List T) (L : CSt → Option (List T)) (x107 : Int) (x108 : List T) :
 roundK c env lf 6 fi78 1 3 [] [0, 3, 4] (x78_3_0) L (f78_0_c l0 x107 x108) = f78_0_s c lf l0 (fun x107 x108 => L (f78_0_c l0 x107 x108)) x107 x108 := by kernel_rfl
def f78_0 (c : Orc) (lf : Nat) (l0 : List T) : Nat → Int → List T → Option (List T)
 | 0 => fun _ _ => none
 | n + 1 => fun x107 x108 => f78_0_s c lf l0 (f78_0 c lf l0 n) x107 x108
theorem f78_0_eq (c : Orc) (lf : Nat) (l0 : List T) (n : Nat) (x107 : Int) (x108 : List T) :
 lpK c env lf 6 fi78 1 3 [] [0, 3, 4] (x78_3_0) n (f78_0_c l0 x107 x108) = f78_0 c lf l0 n x107 x108 := by
 induction n generalizing x107 x108 with
 | zero => rfl
 | succ n ih =>
  refine (f78_0_round c lf l0 _ x107 x108).trans ?_
  have e : (fun x107 x108 => lpK c env lf 6 fi78 1 3 [] [0, 3, 4] (x78_3_0) n (f78_0_c l0 x107 x108)) = f78_0 c lf l0 n := by funext x107 x108; exact ih x107 x108
  show f78_0_s c lf l0 (fun x107 x108 => lpK c env lf 6 fi78 1 3 [] [0, 3, 4] (x78_3_0) n (f78_0_c l0 x107 x108)) x107 x108 = _
  rw [e]; rfl
def f78_t (c : Orc) (lf : Nat) (lp0 : List T → Int → List T → Option (List T)) (l0 : List T) : Option (List T) :=
 bif iLe 0 (l0.length : Int) && iLe (l0.length : Int) (LIM : Int) && ((l0.length : Int) == (l0.length : Int)) then
 (lp0 l0 0 (List.replicate (l0.length : Int).toNat (T.st [T.i .i64 0, T.i .i64 0, T.i .i64 0, T.sl [], T.sl [], T.sl []]))).bind fun r110 =>
 some [T.sl (asL (nth r110 1))]
 else none
def f78 (c : Orc) (lf : Nat) (l0 : List T) : Option (List T) := f78_t c lf (fun (l0 : List T) (x107 : Int) (x108 : List T) => f78_0 c lf l0 lf x107 x108) l0
theorem f78_raw (c : Orc) (lf : Nat) (l0 : List T) : funK c env lf 6 fi78 [.sl l0] = f78_t c lf (fun (l0 : List T) (x107 : Int) (x108 : List T) => lpK c env lf 6 fi78 1 3 [] [0, 3, 4] (x78_3_0) lf (f78_0_c l0 x107 x108)) l0 := by kernel_rfl
theorem f78_eq (c : Orc) (lf : Nat) (l0 : List T) : funK c env lf 6 fi78 [.sl l0] = f78 c lf l0 := by
 refine (f78_raw c lf l0).trans ?_
 have e0 : (fun (l0 : List T) (x107 : Int) (x108 : List T) => lpK c env lf 6 fi78 1 3 [] [0, 3, 4] (x78_3_0) lf (f78_0_c l0 x107 x108)) = (fun (l0 : List T) (x107 : Int) (x108 : List T) => f78_0 c lf l0 lf x107 x108) := by funext l0 x107 x108; exact f78_0_eq c lf l0 lf x107 x108
 rw [e0]; rfl
def f67_t (c : Orc) (lf : Nat) (l0_0 : List T) (n0_1 : Int) : Option (List T) :=
 (c 78 [T.sl l0_0]).bind fun r111 =>
 some [T.st [T.sl (asL (nth r111 0)), T.i .i64 n0_1]]
def f67 (c : Orc) (lf : Nat) (l0_0 : List T) (n0_1 : Int) : Option (List T) := f67_t c lf l0_0 n0_1
theorem f67_eq (c : Orc) (lf : Nat) (l0_0 : List T) (n0_1 : Int) : funK c env lf 6 fi67 [.st [.sl l0_0, .i .i64 n0_1]] = f67 c lf l0_0 n0_1 := by kernel_rfl
def f46_t (c : Orc) (lf : Nat) (n0_0 : Int) (s0_1 : ByteArray) (b0_2 : Bool) (n0_3 : Int) (l0_4 : List T) (n0_5 : Int) : Option (List T) :=
 (c 67 [T.st [T.sl l0_4, T.i .i64 n0_5]]).bind fun r112 =>
 some [T.st [T.i .i64 n0_0, T.s s0_1, T.b b0_2, T.i .i64 n0_3, T.sl (asL (T.cell (nth r112 0) 0)), T.i .i64 (asI (T.cell (nth r112 0) 1))]]
def f46 (c : Orc) (lf : Nat) (n0_0 : Int) (s0_1 : ByteArray) (b0_2 : Bool) (n0_3 : Int) (l0_4 : List T) (n0_5 : Int) : Option (List T) := f46_t c lf n0_0 s0_1 b0_2 n0_3 l0_4 n0_5
theorem f46_eq (c : Orc) (lf : Nat) (n0_0 : Int) (s0_1 : ByteArray) (b0_2 : Bool) (n0_3 : Int) (l0_4 : List T) (n0_5 : Int) : funK c env lf 6 fi46 [.st [.i .i64 n0_0, .s s0_1, .b b0_2, .i .i64 n0_3, .sl l0_4, .i .i64 n0_5]] = f46 c lf n0_0 s0_1 b0_2 n0_3 l0_4 n0_5 := by kernel_rfl
def f31_0_s (c : Orc) (lf : Nat) (l0 : List T) (L : Int → List T → Option (List T)) (x119 : Int) (x120 : List T) : Option (List T) :=
 bif iLt x119 (l0.length : Int) then
  bif inR x119 l0.length then
  (c 46 [T.st [T.i .i64 (asI (T.cell (l0.getD x119.toNat T.u) 0)), T.s (asS (T.cell (l0.getD x119.toNat T.u) 1)), T.b (asB (T.cell (l0.getD x119.toNat T.u) 2)), T.i .i64 (asI (T.cell (l0.getD x119.toNat T.u) 3)), T.sl (asL (T.cell (l0.getD x119.toNat T.u) 4)), T.i .i64 (asI (T.cell (l0.getD x119.toNat T.u) 5))]]).bind fun r121 =>
  bif inR x119 x120.length then
  L (IntKind.wrap .i64 (x119 + 1)) (x120.set x119.toNat (T.st [T.i .i64 (asI (T.cell (nth r121 0) 0)), T.s (asS (T.cell (nth r121 0) 1)), T.b (asB (T.cell (nth r121 0) 2)), T.i .i64 (asI (T.cell (nth r121 0) 3)), T.sl (asL (T.cell (nth r121 0) 4)), T.i .i64 (asI (T.cell (nth r121 0) 5))]))
  else none
  else none
 else
  some [T.i .i64 0, T.sl x120]
def f31_0_c (l0 : List T) (x119 : Int) (x120 : List T) : CSt := ⟨[.ro 0 true [.i .i64, .s, .b, .i .i64, .sl true [.i .i64, .i .i64, .i .i64, .sl false [.i .u8], .sl true [.s, .i .i64], .sl true [.s, .s]], .i .i64] l0, .rf 1 [] 0 none, .i .i64 x119], [.dead, .row true [.i .i64, .s, .b, .i .i64, .sl true [.i .i64, .i .i64, .i .i64, .sl false [.i .u8], .sl true [.s, .i .i64], .sl true [.s, .s]], .i .i64] x120 0 false]⟩
theorem f31_0_round (c : Orc) (lf : Nat) (l0 : List T) (L : CSt → Option (List T)) (x119 : Int) (x120 : List T) :
 roundK c env lf 6 fi31 1 3 [] [0, 3, 4] (x31_3_0) L (f31_0_c l0 x119 x120) = f31_0_s c lf l0 (fun x119 x120 => L (f31_0_c l0 x119 x120)) x119 x120 := by kernel_rfl
def f31_0 (c : Orc) (lf : Nat) (l0 : List T) : Nat → Int → List T → Option (List T)
 | 0 => fun _ _ => none
 | n + 1 => fun x119 x120 => f31_0_s c lf l0 (f31_0 c lf l0 n) x119 x120
theorem f31_0_eq (c : Orc) (lf : Nat) (l0 : List T) (n : Nat) (x119 : Int) (x120 : List T) :
 lpK c env lf 6 fi31 1 3 [] [0, 3, 4] (x31_3_0) n (f31_0_c l0 x119 x120) = f31_0 c lf l0 n x119 x120 := by
 induction n generalizing x119 x120 with
 | zero => rfl
 | succ n ih =>
  refine (f31_0_round c lf l0 _ x119 x120).trans ?_
  have e : (fun x119 x120 => lpK c env lf 6 fi31 1 3 [] [0, 3, 4] (x31_3_0) n (f31_0_c l0 x119 x120)) = f31_0 c lf l0 n := by funext x119 x120; exact ih x119 x120
  show f31_0_s c lf l0 (fun x119 x120 => lpK c env lf 6 fi31 1 3 [] [0, 3, 4] (x31_3_0) n (f31_0_c l0 x119 x120)) x119 x120 = _
  rw [e]; rfl
def f31_t (c : Orc) (lf : Nat) (lp0 : List T → Int → List T → Option (List T)) (l0 : List T) : Option (List T) :=
 bif iLe 0 (l0.length : Int) && iLe (l0.length : Int) (LIM : Int) && ((l0.length : Int) == (l0.length : Int)) then
 (lp0 l0 0 (List.replicate (l0.length : Int).toNat (T.st [T.i .i64 0, T.s (⟨#[]⟩ : ByteArray), T.b false, T.i .i64 0, T.sl [], T.i .i64 0]))).bind fun r122 =>
 some [T.sl (asL (nth r122 1))]
 else none
def f31 (c : Orc) (lf : Nat) (l0 : List T) : Option (List T) := f31_t c lf (fun (l0 : List T) (x119 : Int) (x120 : List T) => f31_0 c lf l0 lf x119 x120) l0
theorem f31_raw (c : Orc) (lf : Nat) (l0 : List T) : funK c env lf 6 fi31 [.sl l0] = f31_t c lf (fun (l0 : List T) (x119 : Int) (x120 : List T) => lpK c env lf 6 fi31 1 3 [] [0, 3, 4] (x31_3_0) lf (f31_0_c l0 x119 x120)) l0 := by kernel_rfl
theorem f31_eq (c : Orc) (lf : Nat) (l0 : List T) : funK c env lf 6 fi31 [.sl l0] = f31 c lf l0 := by
 refine (f31_raw c lf l0).trans ?_
 have e0 : (fun (l0 : List T) (x119 : Int) (x120 : List T) => lpK c env lf 6 fi31 1 3 [] [0, 3, 4] (x31_3_0) lf (f31_0_c l0 x119 x120)) = (fun (l0 : List T) (x119 : Int) (x120 : List T) => f31_0 c lf l0 lf x119 x120) := by funext l0 x119 x120; exact f31_0_eq c lf l0 lf x119 x120
 rw [e0]; rfl
def f17_t (c : Orc) (lf : Nat) (l0_0 : List T) (n0_1 : Int) : Option (List T) :=
 (c 31 [T.sl l0_0]).bind fun r123 =>
 some [T.st [T.sl (asL (nth r123 0)), T.i .i64 n0_1]]
def f17 (c : Orc) (lf : Nat) (l0_0 : List T) (n0_1 : Int) : Option (List T) := f17_t c lf l0_0 n0_1
theorem f17_eq (c : Orc) (lf : Nat) (l0_0 : List T) (n0_1 : Int) : funK c env lf 6 fi17 [.st [.sl l0_0, .i .i64 n0_1]] = f17 c lf l0_0 n0_1 := by kernel_rfl
def f47_t (c : Orc) (lf : Nat) (n0_0 : Int) (s0_1 : ByteArray) (b0_2 : Bool) (n0_3 n0_4 : Int) : Option (List T) :=
 some [T.st [T.i .i64 n0_0, T.s s0_1, T.b b0_2, T.i .i64 n0_3, T.i .i64 n0_4]]
def f47 (c : Orc) (lf : Nat) (n0_0 : Int) (s0_1 : ByteArray) (b0_2 : Bool) (n0_3 n0_4 : Int) : Option (List T) := f47_t c lf n0_0 s0_1 b0_2 n0_3 n0_4
theorem f47_eq (c : Orc) (lf : Nat) (n0_0 : Int) (s0_1 : ByteArray) (b0_2 : Bool) (n0_3 n0_4 : Int) : funK c env lf 6 fi47 [.st [.i .i64 n0_0, .s s0_1, .b b0_2, .i .i64 n0_3, .i .i64 n0_4]] = f47 c lf n0_0 s0_1 b0_2 n0_3 n0_4 := by kernel_rfl
def f32_0_s (c : Orc) (lf : Nat) (l0 : List T) (L : Int → List T → Option (List T)) (x130 : Int) (x131 : List T) : Option (List T) :=
 bif iLt x130 (l0.length : Int) then
  bif inR x130 l0.length then
  (c 47 [T.st [T.i .i64 (asI (T.cell (l0.getD x130.toNat T.u) 0)), T.s (asS (T.cell (l0.getD x130.toNat T.u) 1)), T.b (asB (T.cell (l0.getD x130.toNat T.u) 2)), T.i .i64 (asI (T.cell (l0.getD x130.toNat T.u) 3)), T.i .i64 (asI (T.cell (l0.getD x130.toNat T.u) 4))]]).bind fun r132 =>
  bif inR x130 x131.length then
  L (IntKind.wrap .i64 (x130 + 1)) (x131.set x130.toNat (T.st [T.i .i64 (asI (T.cell (nth r132 0) 0)), T.s (asS (T.cell (nth r132 0) 1)), T.b (asB (T.cell (nth r132 0) 2)), T.i .i64 (asI (T.cell (nth r132 0) 3)), T.i .i64 (asI (T.cell (nth r132 0) 4))]))
  else none
  else none
 else
  some [T.i .i64 0, T.sl x131]
def f32_0_c (l0 : List T) (x130 : Int) (x131 : List T) : CSt := ⟨[.ro 0 true [.i .i64, .s, .b, .i .i64, .i .i64] l0, .rf 1 [] 0 none, .i .i64 x130], [.dead, .row true [.i .i64, .s, .b, .i .i64, .i .i64] x131 0 false]⟩
theorem f32_0_round (c : Orc) (lf : Nat) (l0 : List T) (L : CSt → Option (List T)) (x130 : Int) (x131 : List T) :
 roundK c env lf 6 fi32 1 3 [] [0, 3, 4] (x32_3_0) L (f32_0_c l0 x130 x131) = f32_0_s c lf l0 (fun x130 x131 => L (f32_0_c l0 x130 x131)) x130 x131 := by kernel_rfl
def f32_0 (c : Orc) (lf : Nat) (l0 : List T) : Nat → Int → List T → Option (List T)
 | 0 => fun _ _ => none
 | n + 1 => fun x130 x131 => f32_0_s c lf l0 (f32_0 c lf l0 n) x130 x131
theorem f32_0_eq (c : Orc) (lf : Nat) (l0 : List T) (n : Nat) (x130 : Int) (x131 : List T) :
 lpK c env lf 6 fi32 1 3 [] [0, 3, 4] (x32_3_0) n (f32_0_c l0 x130 x131) = f32_0 c lf l0 n x130 x131 := by
 induction n generalizing x130 x131 with
 | zero => rfl
 | succ n ih =>
  refine (f32_0_round c lf l0 _ x130 x131).trans ?_
  have e : (fun x130 x131 => lpK c env lf 6 fi32 1 3 [] [0, 3, 4] (x32_3_0) n (f32_0_c l0 x130 x131)) = f32_0 c lf l0 n := by funext x130 x131; exact ih x130 x131
  show f32_0_s c lf l0 (fun x130 x131 => lpK c env lf 6 fi32 1 3 [] [0, 3, 4] (x32_3_0) n (f32_0_c l0 x130 x131)) x130 x131 = _
  rw [e]; rfl
def f32_t (c : Orc) (lf : Nat) (lp0 : List T → Int → List T → Option (List T)) (l0 : List T) : Option (List T) :=
 bif iLe 0 (l0.length : Int) && iLe (l0.length : Int) (LIM : Int) && ((l0.length : Int) == (l0.length : Int)) then
 (lp0 l0 0 (List.replicate (l0.length : Int).toNat (T.st [T.i .i64 0, T.s (⟨#[]⟩ : ByteArray), T.b false, T.i .i64 0, T.i .i64 0]))).bind fun r133 =>
 some [T.sl (asL (nth r133 1))]
 else none
def f32 (c : Orc) (lf : Nat) (l0 : List T) : Option (List T) := f32_t c lf (fun (l0 : List T) (x130 : Int) (x131 : List T) => f32_0 c lf l0 lf x130 x131) l0
theorem f32_raw (c : Orc) (lf : Nat) (l0 : List T) : funK c env lf 6 fi32 [.sl l0] = f32_t c lf (fun (l0 : List T) (x130 : Int) (x131 : List T) => lpK c env lf 6 fi32 1 3 [] [0, 3, 4] (x32_3_0) lf (f32_0_c l0 x130 x131)) l0 := by kernel_rfl
theorem f32_eq (c : Orc) (lf : Nat) (l0 : List T) : funK c env lf 6 fi32 [.sl l0] = f32 c lf l0 := by
 refine (f32_raw c lf l0).trans ?_
 have e0 : (fun (l0 : List T) (x130 : Int) (x131 : List T) => lpK c env lf 6 fi32 1 3 [] [0, 3, 4] (x32_3_0) lf (f32_0_c l0 x130 x131)) = (fun (l0 : List T) (x130 : Int) (x131 : List T) => f32_0 c lf l0 lf x130 x131) := by funext l0 x130 x131; exact f32_0_eq c lf l0 lf x130 x131
 rw [e0]; rfl
def f18_t (c : Orc) (lf : Nat) (n0_0 : Int) (l0_1 : List T) : Option (List T) :=
 (c 32 [T.sl l0_1]).bind fun r134 =>
 some [T.st [T.i .i64 n0_0, T.sl (asL (nth r134 0))]]
def f18 (c : Orc) (lf : Nat) (n0_0 : Int) (l0_1 : List T) : Option (List T) := f18_t c lf n0_0 l0_1
theorem f18_eq (c : Orc) (lf : Nat) (n0_0 : Int) (l0_1 : List T) : funK c env lf 6 fi18 [.st [.i .i64 n0_0, .sl l0_1]] = f18 c lf n0_0 l0_1 := by kernel_rfl
def f68_t (c : Orc) (lf : Nat) (n0_0 n0_1 : Int) : Option (List T) :=
 some [T.st [T.i .i64 n0_0, T.i .i64 n0_1]]
def f68 (c : Orc) (lf : Nat) (n0_0 n0_1 : Int) : Option (List T) := f68_t c lf n0_0 n0_1
theorem f68_eq (c : Orc) (lf : Nat) (n0_0 n0_1 : Int) : funK c env lf 6 fi68 [.st [.i .i64 n0_0, .i .i64 n0_1]] = f68 c lf n0_0 n0_1 := by kernel_rfl
def f48_0_s (c : Orc) (lf : Nat) (l0 : List T) (L : Int → List T → Option (List T)) (x141 : Int) (x142 : List T) : Option (List T) :=
 bif iLt x141 (l0.length : Int) then
  bif inR x141 l0.length then
  (c 68 [T.st [T.i .i64 (asI (T.cell (l0.getD x141.toNat T.u) 0)), T.i .i64 (asI (T.cell (l0.getD x141.toNat T.u) 1))]]).bind fun r143 =>
  bif inR x141 x142.length then
  L (IntKind.wrap .i64 (x141 + 1)) (x142.set x141.toNat (T.st [T.i .i64 (asI (T.cell (nth r143 0) 0)), T.i .i64 (asI (T.cell (nth r143 0) 1))]))
  else none
  else none
 else
  some [T.i .i64 0, T.sl x142]
def f48_0_c (l0 : List T) (x141 : Int) (x142 : List T) : CSt := ⟨[.ro 0 true [.i .i64, .i .i64] l0, .rf 1 [] 0 none, .i .i64 x141], [.dead, .row true [.i .i64, .i .i64] x142 0 false]⟩
theorem f48_0_round (c : Orc) (lf : Nat) (l0 : List T) (L : CSt → Option (List T)) (x141 : Int) (x142 : List T) :
 roundK c env lf 6 fi48 1 3 [] [0, 3, 4] (x48_3_0) L (f48_0_c l0 x141 x142) = f48_0_s c lf l0 (fun x141 x142 => L (f48_0_c l0 x141 x142)) x141 x142 := by kernel_rfl
def f48_0 (c : Orc) (lf : Nat) (l0 : List T) : Nat → Int → List T → Option (List T)
 | 0 => fun _ _ => none
 | n + 1 => fun x141 x142 => f48_0_s c lf l0 (f48_0 c lf l0 n) x141 x142
theorem f48_0_eq (c : Orc) (lf : Nat) (l0 : List T) (n : Nat) (x141 : Int) (x142 : List T) :
 lpK c env lf 6 fi48 1 3 [] [0, 3, 4] (x48_3_0) n (f48_0_c l0 x141 x142) = f48_0 c lf l0 n x141 x142 := by
 induction n generalizing x141 x142 with
 | zero => rfl
 | succ n ih =>
  refine (f48_0_round c lf l0 _ x141 x142).trans ?_
  have e : (fun x141 x142 => lpK c env lf 6 fi48 1 3 [] [0, 3, 4] (x48_3_0) n (f48_0_c l0 x141 x142)) = f48_0 c lf l0 n := by funext x141 x142; exact ih x141 x142
  show f48_0_s c lf l0 (fun x141 x142 => lpK c env lf 6 fi48 1 3 [] [0, 3, 4] (x48_3_0) n (f48_0_c l0 x141 x142)) x141 x142 = _
  rw [e]; rfl
def f48_t (c : Orc) (lf : Nat) (lp0 : List T → Int → List T → Option (List T)) (l0 : List T) : Option (List T) :=
 bif iLe 0 (l0.length : Int) && iLe (l0.length : Int) (LIM : Int) && ((l0.length : Int) == (l0.length : Int)) then
 (lp0 l0 0 (List.replicate (l0.length : Int).toNat (T.st [T.i .i64 0, T.i .i64 0]))).bind fun r144 =>
 some [T.sl (asL (nth r144 1))]
 else none
def f48 (c : Orc) (lf : Nat) (l0 : List T) : Option (List T) := f48_t c lf (fun (l0 : List T) (x141 : Int) (x142 : List T) => f48_0 c lf l0 lf x141 x142) l0
theorem f48_raw (c : Orc) (lf : Nat) (l0 : List T) : funK c env lf 6 fi48 [.sl l0] = f48_t c lf (fun (l0 : List T) (x141 : Int) (x142 : List T) => lpK c env lf 6 fi48 1 3 [] [0, 3, 4] (x48_3_0) lf (f48_0_c l0 x141 x142)) l0 := by kernel_rfl
theorem f48_eq (c : Orc) (lf : Nat) (l0 : List T) : funK c env lf 6 fi48 [.sl l0] = f48 c lf l0 := by
 refine (f48_raw c lf l0).trans ?_
 have e0 : (fun (l0 : List T) (x141 : Int) (x142 : List T) => lpK c env lf 6 fi48 1 3 [] [0, 3, 4] (x48_3_0) lf (f48_0_c l0 x141 x142)) = (fun (l0 : List T) (x141 : Int) (x142 : List T) => f48_0 c lf l0 lf x141 x142) := by funext l0 x141 x142; exact f48_0_eq c lf l0 lf x141 x142
 rw [e0]; rfl
def f33_t (c : Orc) (lf : Nat) (n0_0 : Int) (l0_1 : List T) : Option (List T) :=
 (c 48 [T.sl l0_1]).bind fun r145 =>
 some [T.st [T.i .i64 n0_0, T.sl (asL (nth r145 0))]]
def f33 (c : Orc) (lf : Nat) (n0_0 : Int) (l0_1 : List T) : Option (List T) := f33_t c lf n0_0 l0_1
theorem f33_eq (c : Orc) (lf : Nat) (n0_0 : Int) (l0_1 : List T) : funK c env lf 6 fi33 [.st [.i .i64 n0_0, .sl l0_1]] = f33 c lf n0_0 l0_1 := by kernel_rfl
def f19_0_s (c : Orc) (lf : Nat) (l0 : List T) (L : Int → List T → Option (List T)) (x152 : Int) (x153 : List T) : Option (List T) :=
 bif iLt x152 (l0.length : Int) then
  bif inR x152 l0.length then
  (c 33 [T.st [T.i .i64 (asI (T.cell (l0.getD x152.toNat T.u) 0)), T.sl (asL (T.cell (l0.getD x152.toNat T.u) 1))]]).bind fun r154 =>
  bif inR x152 x153.length then
  L (IntKind.wrap .i64 (x152 + 1)) (x153.set x152.toNat (T.st [T.i .i64 (asI (T.cell (nth r154 0) 0)), T.sl (asL (T.cell (nth r154 0) 1))]))
  else none
  else none
 else
  some [T.i .i64 0, T.sl x153]
def f19_0_c (l0 : List T) (x152 : Int) (x153 : List T) : CSt := ⟨[.ro 0 true [.i .i64, .sl true [.i .i64, .i .i64]] l0, .rf 1 [] 0 none, .i .i64 x152], [.dead, .row true [.i .i64, .sl true [.i .i64, .i .i64]] x153 0 false]⟩
theorem f19_0_round (c : Orc) (lf : Nat) (l0 : List T) (L : CSt → Option (List T)) (x152 : Int) (x153 : List T) :
 roundK c env lf 6 fi19 1 3 [] [0, 3, 4] (x19_3_0) L (f19_0_c l0 x152 x153) = f19_0_s c lf l0 (fun x152 x153 => L (f19_0_c l0 x152 x153)) x152 x153 := by kernel_rfl
def f19_0 (c : Orc) (lf : Nat) (l0 : List T) : Nat → Int → List T → Option (List T)
 | 0 => fun _ _ => none
 | n + 1 => fun x152 x153 => f19_0_s c lf l0 (f19_0 c lf l0 n) x152 x153
theorem f19_0_eq (c : Orc) (lf : Nat) (l0 : List T) (n : Nat) (x152 : Int) (x153 : List T) :
 lpK c env lf 6 fi19 1 3 [] [0, 3, 4] (x19_3_0) n (f19_0_c l0 x152 x153) = f19_0 c lf l0 n x152 x153 := by
 induction n generalizing x152 x153 with
 | zero => rfl
 | succ n ih =>
  refine (f19_0_round c lf l0 _ x152 x153).trans ?_
  have e : (fun x152 x153 => lpK c env lf 6 fi19 1 3 [] [0, 3, 4] (x19_3_0) n (f19_0_c l0 x152 x153)) = f19_0 c lf l0 n := by funext x152 x153; exact ih x152 x153
  show f19_0_s c lf l0 (fun x152 x153 => lpK c env lf 6 fi19 1 3 [] [0, 3, 4] (x19_3_0) n (f19_0_c l0 x152 x153)) x152 x153 = _
  rw [e]; rfl
def f19_t (c : Orc) (lf : Nat) (lp0 : List T → Int → List T → Option (List T)) (l0 : List T) : Option (List T) :=
 bif iLe 0 (l0.length : Int) && iLe (l0.length : Int) (LIM : Int) && ((l0.length : Int) == (l0.length : Int)) then
 (lp0 l0 0 (List.replicate (l0.length : Int).toNat (T.st [T.i .i64 0, T.sl []]))).bind fun r155 =>
 some [T.sl (asL (nth r155 1))]
 else none
def f19 (c : Orc) (lf : Nat) (l0 : List T) : Option (List T) := f19_t c lf (fun (l0 : List T) (x152 : Int) (x153 : List T) => f19_0 c lf l0 lf x152 x153) l0
theorem f19_raw (c : Orc) (lf : Nat) (l0 : List T) : funK c env lf 6 fi19 [.sl l0] = f19_t c lf (fun (l0 : List T) (x152 : Int) (x153 : List T) => lpK c env lf 6 fi19 1 3 [] [0, 3, 4] (x19_3_0) lf (f19_0_c l0 x152 x153)) l0 := by kernel_rfl
theorem f19_eq (c : Orc) (lf : Nat) (l0 : List T) : funK c env lf 6 fi19 [.sl l0] = f19 c lf l0 := by
 refine (f19_raw c lf l0).trans ?_
 have e0 : (fun (l0 : List T) (x152 : Int) (x153 : List T) => lpK c env lf 6 fi19 1 3 [] [0, 3, 4] (x19_3_0) lf (f19_0_c l0 x152 x153)) = (fun (l0 : List T) (x152 : Int) (x153 : List T) => f19_0 c lf l0 lf x152 x153) := by funext l0 x152 x153; exact f19_0_eq c lf l0 lf x152 x153
 rw [e0]; rfl
def f7_t (c : Orc) (lf : Nat) (l0_0 : List T) (n0_1 n0_2 : Int) (l0_3 l0_4 : List T) (n0_5 n0_6 : Int) : Option (List T) :=
 (c 17 [T.st [T.sl l0_0, T.i .i64 n0_1]]).bind fun r156 =>
 (c 18 [T.st [T.i .i64 n0_2, T.sl l0_3]]).bind fun r157 =>
 (c 19 [T.sl l0_4]).bind fun r158 =>
 some [T.st [T.sl (asL (T.cell (nth r156 0) 0)), T.i .i64 (asI (T.cell (nth r156 0) 1)), T.i .i64 (asI (T.cell (nth r157 0) 0)), T.sl (asL (T.cell (nth r157 0) 1)), T.sl (asL (nth r158 0)), T.i .i64 n0_5, T.i .i64 n0_6]]
def f7 (c : Orc) (lf : Nat) (l0_0 : List T) (n0_1 n0_2 : Int) (l0_3 l0_4 : List T) (n0_5 n0_6 : Int) : Option (List T) := f7_t c lf l0_0 n0_1 n0_2 l0_3 l0_4 n0_5 n0_6
theorem f7_eq (c : Orc) (lf : Nat) (l0_0 : List T) (n0_1 n0_2 : Int) (l0_3 l0_4 : List T) (n0_5 n0_6 : Int) : funK c env lf 6 fi7 [.st [.sl l0_0, .i .i64 n0_1, .i .i64 n0_2, .sl l0_3, .sl l0_4, .i .i64 n0_5, .i .i64 n0_6]] = f7 c lf l0_0 n0_1 n0_2 l0_3 l0_4 n0_5 n0_6 := by kernel_rfl
def f66_0_s (c : Orc) (lf : Nat) (l0 : List T) (n1 : Int) (L : Int → Option (List T)) (x161 : Int) : Option (List T) :=
 bif iLt x161 (l0.length : Int) then
  bif inR x161 l0.length then
  bif (asI (l0.getD x161.toNat T.u)) == n1 then
   some [T.i .i64 0, T.b true]
  else
   L (IntKind.wrap .i64 (x161 + 1))
  else none
 else
  some [T.i .i64 1]
def f66_0_c (l0 : List T) (n1 x161 : Int) : CSt := ⟨[.ro 0 false [.i .i64] l0, .i .i64 n1, .i .i64 x161], [.dead, .dead]⟩
theorem f66_0_round (c : Orc) (lf : Nat) (l0 : List T) (n1 : Int) (L : CSt → Option (List T)) (x161 : Int) :
 roundK c env lf 6 fi66 2 2 [] [0, 1, 5] (x66_2_0) L (f66_0_c l0 n1 x161) = f66_0_s c lf l0 n1 (fun x161 => L (f66_0_c l0 n1 x161)) x161 := by kernel_rfl
def f66_0 (c : Orc) (lf : Nat) (l0 : List T) (n1 : Int) : Nat → Int → Option (List T)
 | 0 => fun _ => none
 | n + 1 => fun x161 => f66_0_s c lf l0 n1 (f66_0 c lf l0 n1 n) x161
theorem f66_0_u (c : Orc) (lf : Nat) (l0 : List T) (n1 : Int) (n : Nat) (x161 : Int) : f66_0 c lf l0 n1 (n + 1) x161 = f66_0_s c lf l0 n1 (f66_0 c lf l0 n1 n) x161 := rfl
theorem f66_0_eq (c : Orc) (lf : Nat) (l0 : List T) (n1 : Int) (n : Nat) (x161 : Int) :
 lpK c env lf 6 fi66 2 2 [] [0, 1, 5] (x66_2_0) n (f66_0_c l0 n1 x161) = f66_0 c lf l0 n1 n x161 := by
 induction n generalizing x161 with
 | zero => rfl
 | succ n ih =>
  refine (f66_0_round c lf l0 n1 _ x161).trans ?_
  have e : (fun x161 => lpK c env lf 6 fi66 2 2 [] [0, 1, 5] (x66_2_0) n (f66_0_c l0 n1 x161)) = f66_0 c lf l0 n1 n := by funext x161; exact ih x161
  show f66_0_s c lf l0 n1 (fun x161 => lpK c env lf 6 fi66 2 2 [] [0, 1, 5] (x66_2_0) n (f66_0_c l0 n1 x161)) x161 = _
  rw [e]; rfl
def f66_t (c : Orc) (lf : Nat) (lp0 : List T → Int → Int → Option (List T)) (l0 : List T) (n1 : Int) : Option (List T) :=
 (lp0 l0 n1 0).bind fun r162 =>
 bif asI (nth r162 0) == 0 then
  some [T.b (asB (nth r162 1))]
 else
  some [T.b false]
def f66 (c : Orc) (lf : Nat) (l0 : List T) (n1 : Int) : Option (List T) := f66_t c lf (fun (l0 : List T) (n1 x161 : Int) => f66_0 c lf l0 n1 lf x161) l0 n1
theorem f66_raw (c : Orc) (lf : Nat) (l0 : List T) (n1 : Int) : funK c env lf 6 fi66 [.sl l0, .i .i64 n1] = f66_t c lf (fun (l0 : List T) (n1 x161 : Int) => lpK c env lf 6 fi66 2 2 [] [0, 1, 5] (x66_2_0) lf (f66_0_c l0 n1 x161)) l0 n1 := by kernel_rfl
theorem f66_eq (c : Orc) (lf : Nat) (l0 : List T) (n1 : Int) : funK c env lf 6 fi66 [.sl l0, .i .i64 n1] = f66 c lf l0 n1 := by
 refine (f66_raw c lf l0 n1).trans ?_
 have e0 : (fun (l0 : List T) (n1 x161 : Int) => lpK c env lf 6 fi66 2 2 [] [0, 1, 5] (x66_2_0) lf (f66_0_c l0 n1 x161)) = (fun (l0 : List T) (n1 x161 : Int) => f66_0 c lf l0 n1 lf x161) := by funext l0 n1 x161; exact f66_0_eq c lf l0 n1 lf x161
 rw [e0]; rfl
def f45_0_s (c : Orc) (lf : Nat) (n1 : Int) (L : Int → List T → Option (List T)) (x172 : Int) (x173 : List T) : Option (List T) :=
 bif iLt 0 x172 then
  bif inR (IntKind.wrap .i64 (x172 - 1)) x173.length then
  bif iLt n1 (asI (x173.getD ((IntKind.wrap .i64 (x172 - 1)).toNat) T.u)) then
   bif inR (IntKind.wrap .i64 (x172 - 1)) x173.length then
   bif inR x172 x173.length then
   L (IntKind.wrap .i64 (x172 - 1)) (x173.set x172.toNat (T.i .i64 (asI (x173.getD ((IntKind.wrap .i64 (x172 - 1)).toNat) T.u))))
   else none
   else none
  else
   some [T.i .i64 0, T.i .i64 n1, T.i .i64 x172, T.sl x173]
  else none
 else
  some [T.i .i64 0, T.i .i64 n1, T.i .i64 x172, T.sl x173]
def f45_0_c (n1 x172 : Int) (x173 : List T) : CSt := ⟨[.i .i64 n1, .rf 2 [] 0 none, .i .i64 x172], [.dead, .dead, .row false [.i .i64] x173 0 false]⟩
theorem f45_0_round (c : Orc) (lf : Nat) (n1 : Int) (L : CSt → Option (List T)) (x172 : Int) (x173 : List T) :
 roundK c env lf 6 fi45 2 5 [] [1, 5, 6] (x45_5_0) L (f45_0_c n1 x172 x173) = f45_0_s c lf n1 (fun x172 x173 => L (f45_0_c n1 x172 x173)) x172 x173 := by kernel_rfl
def f45_0 (c : Orc) (lf : Nat) (n1 : Int) : Nat → Int → List T → Option (List T)
 | 0 => fun _ _ => none
 | n + 1 => fun x172 x173 => f45_0_s c lf n1 (f45_0 c lf n1 n) x172 x173
theorem f45_0_u (c : Orc) (lf : Nat) (n1 : Int) (n : Nat) (x172 : Int) (x173 : List T) : f45_0 c lf n1 (n + 1) x172 x173 = f45_0_s c lf n1 (f45_0 c lf n1 n) x172 x173 := rfl
theorem f45_0_eq (c : Orc) (lf : Nat) (n1 : Int) (n : Nat) (x172 : Int) (x173 : List T) :
 lpK c env lf 6 fi45 2 5 [] [1, 5, 6] (x45_5_0) n (f45_0_c n1 x172 x173) = f45_0 c lf n1 n x172 x173 := by
 induction n generalizing x172 x173 with
 | zero => rfl
 | succ n ih =>
  refine (f45_0_round c lf n1 _ x172 x173).trans ?_
  have e : (fun x172 x173 => lpK c env lf 6 fi45 2 5 [] [1, 5, 6] (x45_5_0) n (f45_0_c n1 x172 x173)) = f45_0 c lf n1 n := by funext x172 x173; exact ih x172 x173
  show f45_0_s c lf n1 (fun x172 x173 => lpK c env lf 6 fi45 2 5 [] [1, 5, 6] (x45_5_0) n (f45_0_c n1 x172 x173)) x172 x173 = _
  rw [e]; rfl
def f45_t (c : Orc) (lf : Nat) (lp0 : Int → Int → List T → Option (List T)) (l0 : List T) (n1 : Int) : Option (List T) :=
 (c 66 [T.sl l0, T.i .i64 n1]).bind fun r171 =>
 bif asB (nth r171 0) then
  some [T.sl l0]
 else
  bif nLe (([] : List T).length + l0.length) LIM then
  bif nLe ((([] : List T) ++ l0).length + ([T.i .i64 n1] : List T).length) LIM then
  (lp0 n1 (IntKind.wrap .i64 ((((([] : List T) ++ l0) ++ ([T.i .i64 n1] : List T)).length : Int) - 1)) ((([] : List T) ++ l0) ++ ([T.i .i64 n1] : List T))).bind fun r174 =>
  bif inR (asI (nth r174 2)) ((asL (nth r174 3)).length) then
  some [T.sl ((asL (nth r174 3)).set ((asI (nth r174 2)).toNat) (T.i .i64 (asI (nth r174 1))))]
  else none
  else none
  else none
def f45 (c : Orc) (lf : Nat) (l0 : List T) (n1 : Int) : Option (List T) := f45_t c lf (fun (n1 x172 : Int) (x173 : List T) => f45_0 c lf n1 lf x172 x173) l0 n1
theorem f45_raw (c : Orc) (lf : Nat) (l0 : List T) (n1 : Int) : funK c env lf 6 fi45 [.sl l0, .i .i64 n1] = f45_t c lf (fun (n1 x172 : Int) (x173 : List T) => lpK c env lf 6 fi45 2 5 [] [1, 5, 6] (x45_5_0) lf (f45_0_c n1 x172 x173)) l0 n1 := by kernel_rfl
theorem f45_eq (c : Orc) (lf : Nat) (l0 : List T) (n1 : Int) : funK c env lf 6 fi45 [.sl l0, .i .i64 n1] = f45 c lf l0 n1 := by
 refine (f45_raw c lf l0 n1).trans ?_
 have e0 : (fun (n1 x172 : Int) (x173 : List T) => lpK c env lf 6 fi45 2 5 [] [1, 5, 6] (x45_5_0) lf (f45_0_c n1 x172 x173)) = (fun (n1 x172 : Int) (x173 : List T) => f45_0 c lf n1 lf x172 x173) := by funext n1 x172 x173; exact f45_0_eq c lf n1 lf x172 x173
 rw [e0]; rfl
def f30_t (c : Orc) (lf : Nat) (l0 : List T) (n1 : Int) : Option (List T) :=
 bif iLt n1 0 then
  some [T.sl l0]
 else
  (c 45 [T.sl l0, T.i .i64 n1]).bind fun r176 =>
  some [T.sl (asL (nth r176 0))]
def f30 (c : Orc) (lf : Nat) (l0 : List T) (n1 : Int) : Option (List T) := f30_t c lf l0 n1
theorem f30_eq (c : Orc) (lf : Nat) (l0 : List T) (n1 : Int) : funK c env lf 6 fi30 [.sl l0, .i .i64 n1] = f30 c lf l0 n1 := by kernel_rfl
def f15_0_s (c : Orc) (lf : Nat) (l0_0 l0_3 l0_4 : List T) (n0_1 n0_2 : Int) (n0_5 n0_6 : Int) (L : List T → Int → Option (List T)) (x234 : List T) (x235 : Int) : Option (List T) :=
 bif iLt x235 (l0_3.length : Int) then
  bif inR x235 l0_3.length then
  (c 30 [T.sl x234, T.i .i64 (asI (T.cell (l0_3.getD x235.toNat T.u) 4))]).bind fun r236 =>
  L (asL (nth r236 0)) (IntKind.wrap .i64 (x235 + 1))
  else none
 else
  some [T.i .i64 0, T.sl x234, T.sl l0_0, T.i .i64 n0_1, T.i .i64 n0_2, T.sl l0_3, T.sl l0_4, T.i .i64 n0_5, T.i .i64 n0_6]
def f15_0_c (l0_0 l0_3 l0_4 : List T) (n0_1 n0_2 : Int) (n0_5 n0_6 : Int) (x234 : List T) (x235 : Int) : CSt := ⟨[.bp 7 0, .ro 0 false [.i .i64] x234, .i .i64 x235], [.dead, .dead, .dead, .dead, .dead, .dead, .dead, .box [.ro 0 true [.i .i64, .s, .b, .i .i64, .sl true [.i .i64, .i .i64, .i .i64, .sl false [.i .u8], .sl true [.s, .i .i64], .sl true [.s, .s]], .i .i64] l0_0, .i .i64 n0_1, .i .i64 n0_2, .ro 0 true [.i .i64, .s, .b, .i .i64, .i .i64] l0_3, .ro 0 true [.i .i64, .sl true [.i .i64, .i .i64]] l0_4, .i .i64 n0_5, .i .i64 n0_6]]⟩
theorem f15_0_round (c : Orc) (lf : Nat) (l0_0 l0_3 l0_4 : List T) (n0_1 n0_2 : Int) (n0_5 n0_6 : Int) (L : CSt → Option (List T)) (x234 : List T) (x235 : Int) :
 roundK c env lf 6 fi15 7 3 [] [1, 3, 4] (x15_3_0) L (f15_0_c l0_0 l0_3 l0_4 n0_1 n0_2 n0_5 n0_6 x234 x235) = f15_0_s c lf l0_0 l0_3 l0_4 n0_1 n0_2 n0_5 n0_6 (fun x234 x235 => L (f15_0_c l0_0 l0_3 l0_4 n0_1 n0_2 n0_5 n0_6 x234 x235)) x234 x235 := by kernel_rfl
def f15_0 (c : Orc) (lf : Nat) (l0_0 l0_3 l0_4 : List T) (n0_1 n0_2 : Int) (n0_5 n0_6 : Int) : Nat → List T → Int → Option (List T)
 | 0 => fun _ _ => none
 | n + 1 => fun x234 x235 => f15_0_s c lf l0_0 l0_3 l0_4 n0_1 n0_2 n0_5 n0_6 (f15_0 c lf l0_0 l0_3 l0_4 n0_1 n0_2 n0_5 n0_6 n) x234 x235
theorem f15_0_u (c : Orc) (lf : Nat) (l0_0 l0_3 l0_4 : List T) (n0_1 n0_2 : Int) (n0_5 n0_6 : Int) (n : Nat) (x234 : List T) (x235 : Int) : f15_0 c lf l0_0 l0_3 l0_4 n0_1 n0_2 n0_5 n0_6 (n + 1) x234 x235 = f15_0_s c lf l0_0 l0_3 l0_4 n0_1 n0_2 n0_5 n0_6 (f15_0 c lf l0_0 l0_3 l0_4 n0_1 n0_2 n0_5 n0_6 n) x234 x235 := rfl
theorem f15_0_eq (c : Orc) (lf : Nat) (l0_0 l0_3 l0_4 : List T) (n0_1 n0_2 : Int) (n0_5 n0_6 : Int) (n : Nat) (x234 : List T) (x235 : Int) :
 lpK c env lf 6 fi15 7 3 [] [1, 3, 4] (x15_3_0) n (f15_0_c l0_0 l0_3 l0_4 n0_1 n0_2 n0_5 n0_6 x234 x235) = f15_0 c lf l0_0 l0_3 l0_4 n0_1 n0_2 n0_5 n0_6 n x234 x235 := by
 induction n generalizing x234 x235 with
 | zero => rfl
 | succ n ih =>
  refine (f15_0_round c lf l0_0 l0_3 l0_4 n0_1 n0_2 n0_5 n0_6 _ x234 x235).trans ?_
  have e : (fun x234 x235 => lpK c env lf 6 fi15 7 3 [] [1, 3, 4] (x15_3_0) n (f15_0_c l0_0 l0_3 l0_4 n0_1 n0_2 n0_5 n0_6 x234 x235)) = f15_0 c lf l0_0 l0_3 l0_4 n0_1 n0_2 n0_5 n0_6 n := by funext x234 x235; exact ih x234 x235
  show f15_0_s c lf l0_0 l0_3 l0_4 n0_1 n0_2 n0_5 n0_6 (fun x234 x235 => lpK c env lf 6 fi15 7 3 [] [1, 3, 4] (x15_3_0) n (f15_0_c l0_0 l0_3 l0_4 n0_1 n0_2 n0_5 n0_6 x234 x235)) x234 x235 = _
  rw [e]; rfl
def f15_2_s (c : Orc) (lf : Nat) (x244 : Int) (x245 : List T) (x246 x247 : Int) (x248 x249 : List T) (x250 x251 : Int) (L : List T → Int → Option (List T)) (x253 : List T) (x254 : Int) : Option (List T) :=
 bif inR x244 x249.length then
 bif iLt x254 ((asL (T.cell (x249.getD x244.toNat T.u) 1)).length : Int) then
  bif inR x244 x249.length then
  bif inR x254 ((asL (T.cell (x249.getD x244.toNat T.u) 1)).length) then
  (c 30 [T.sl x253, T.i .i64 (asI (T.cell ((asL (T.cell (x249.getD x244.toNat T.u) 1)).getD x254.toNat T.u) 1))]).bind fun r255 =>
  L (asL (nth r255 0)) (IntKind.wrap .i64 (x254 + 1))
  else none
  else none
 else
  some [T.i .i64 0, T.sl x253, T.i .i64 x244, T.sl x245, T.i .i64 x246, T.i .i64 x247, T.sl x248, T.sl x249, T.i .i64 x250, T.i .i64 x251]
 else none
def f15_2_c (x244 : Int) (x245 : List T) (x246 x247 : Int) (x248 x249 : List T) (x250 x251 : Int) (x253 : List T) (x254 : Int) : CSt := ⟨[.bp 7 0, .ro 0 false [.i .i64] x253, .i .i64 x244, .i .i64 x254], [.dead, .dead, .dead, .dead, .dead, .dead, .dead, .box [.ro 0 true [.i .i64, .s, .b, .i .i64, .sl true [.i .i64, .i .i64, .i .i64, .sl false [.i .u8], .sl true [.s, .i .i64], .sl true [.s, .s]], .i .i64] x245, .i .i64 x246, .i .i64 x247, .ro 0 true [.i .i64, .s, .b, .i .i64, .i .i64] x248, .ro 0 true [.i .i64, .sl true [.i .i64, .i .i64]] x249, .i .i64 x250, .i .i64 x251]]⟩
theorem f15_2_round (c : Orc) (lf : Nat) (x244 : Int) (x245 : List T) (x246 x247 : Int) (x248 x249 : List T) (x250 x251 : Int) (L : CSt → Option (List T)) (x253 : List T) (x254 : Int) :
 roundK c env lf 6 fi15 7 10 [] [1, 3, 5, 6] (x15_10_0) L (f15_2_c x244 x245 x246 x247 x248 x249 x250 x251 x253 x254) = f15_2_s c lf x244 x245 x246 x247 x248 x249 x250 x251 (fun x253 x254 => L (f15_2_c x244 x245 x246 x247 x248 x249 x250 x251 x253 x254)) x253 x254 := by kernel_rfl
def f15_2 (c : Orc) (lf : Nat) (x244 : Int) (x245 : List T) (x246 x247 : Int) (x248 x249 : List T) (x250 x251 : Int) : Nat → List T → Int → Option (List T)
 | 0 => fun _ _ => none
 | n + 1 => fun x253 x254 => f15_2_s c lf x244 x245 x246 x247 x248 x249 x250 x251 (f15_2 c lf x244 x245 x246 x247 x248 x249 x250 x251 n) x253 x254
theorem f15_2_u (c : Orc) (lf : Nat) (x244 : Int) (x245 : List T) (x246 x247 : Int) (x248 x249 : List T) (x250 x251 : Int) (n : Nat) (x253 : List T) (x254 : Int) : f15_2 c lf x244 x245 x246 x247 x248 x249 x250 x251 (n + 1) x253 x254 = f15_2_s c lf x244 x245 x246 x247 x248 x249 x250 x251 (f15_2 c lf x244 x245 x246 x247 x248 x249 x250 x251 n) x253 x254 := rfl
theorem f15_2_eq (c : Orc) (lf : Nat) (x244 : Int) (x245 : List T) (x246 x247 : Int) (x248 x249 : List T) (x250 x251 : Int) (n : Nat) (x253 : List T) (x254 : Int) :
 lpK c env lf 6 fi15 7 10 [] [1, 3, 5, 6] (x15_10_0) n (f15_2_c x244 x245 x246 x247 x248 x249 x250 x251 x253 x254) = f15_2 c lf x244 x245 x246 x247 x248 x249 x250 x251 n x253 x254 := by
 induction n generalizing x253 x254 with
 | zero => rfl
 | succ n ih =>
  refine (f15_2_round c lf x244 x245 x246 x247 x248 x249 x250 x251 _ x253 x254).trans ?_
  have e : (fun x253 x254 => lpK c env lf 6 fi15 7 10 [] [1, 3, 5, 6] (x15_10_0) n (f15_2_c x244 x245 x246 x247 x248 x249 x250 x251 x253 x254)) = f15_2 c lf x244 x245 x246 x247 x248 x249 x250 x251 n := by funext x253 x254; exact ih x253 x254
  show f15_2_s c lf x244 x245 x246 x247 x248 x249 x250 x251 (fun x253 x254 => lpK c env lf 6 fi15 7 10 [] [1, 3, 5, 6] (x15_10_0) n (f15_2_c x244 x245 x246 x247 x248 x249 x250 x251 x253 x254)) x253 x254 = _
  rw [e]; rfl
def f15_1_s (c : Orc) (lf : Nat) (L : List T → Int → List T → Int → Int → List T → List T → Int → Int → Option (List T)) (lp0 : Int → List T → Int → Int → List T → List T → Int → Int → List T → Int → Option (List T)) (x243 : List T) (x244 : Int) (x245 : List T) (x246 x247 : Int) (x248 x249 : List T) (x250 x251 : Int) : Option (List T) :=
 bif iLt x244 (x249.length : Int) then
  (lp0 x244 x245 x246 x247 x248 x249 x250 x251 x243 0).bind fun r256 =>
  L (asL (nth r256 1)) (IntKind.wrap .i64 ((asI (nth r256 2)) + 1)) (asL (nth r256 3)) (asI (nth r256 4)) (asI (nth r256 5)) (asL (nth r256 6)) (asL (nth r256 7)) (asI (nth r256 8)) (asI (nth r256 9))
 else
  some [T.i .i64 0, T.sl x243]
def f15_1_c (x243 : List T) (x244 : Int) (x245 : List T) (x246 x247 : Int) (x248 x249 : List T) (x250 x251 : Int) : CSt := ⟨[.bp 7 0, .ro 0 false [.i .i64] x243, .i .i64 x244], [.dead, .dead, .dead, .dead, .dead, .dead, .dead, .box [.ro 0 true [.i .i64, .s, .b, .i .i64, .sl true [.i .i64, .i .i64, .i .i64, .sl false [.i .u8], .sl true [.s, .i .i64], .sl true [.s, .s]], .i .i64] x245, .i .i64 x246, .i .i64 x247, .ro 0 true [.i .i64, .s, .b, .i .i64, .i .i64] x248, .ro 0 true [.i .i64, .sl true [.i .i64, .i .i64]] x249, .i .i64 x250, .i .i64 x251]]⟩
theorem f15_1_round (c : Orc) (lf : Nat) (L : CSt → Option (List T)) (x243 : List T) (x244 : Int) (x245 : List T) (x246 x247 : Int) (x248 x249 : List T) (x250 x251 : Int) :
 roundK c env lf 6 fi15 7 7 [] [1, 3, 5] (x15_7_0) L (f15_1_c x243 x244 x245 x246 x247 x248 x249 x250 x251) = f15_1_s c lf (fun x243 x244 x245 x246 x247 x248 x249 x250 x251 => L (f15_1_c x243 x244 x245 x246 x247 x248 x249 x250 x251)) (fun (x244 : Int) (x245 : List T) (x246 x247 : Int) (x248 x249 : List T) (x250 x251 : Int) (x253 : List T) (x254 : Int) => lpK c env lf 6 fi15 7 10 [] [1, 3, 5, 6] (x15_10_0) lf (f15_2_c x244 x245 x246 x247 x248 x249 x250 x251 x253 x254)) x243 x244 x245 x246 x247 x248 x249 x250 x251 := by kernel_rfl
def f15_1 (c : Orc) (lf : Nat) : Nat → List T → Int → List T → Int → Int → List T → List T → Int → Int → Option (List T)
 | 0 => fun _ _ _ _ _ _ _ _ _ => none
 | n + 1 => fun x243 x244 x245 x246 x247 x248 x249 x250 x251 => f15_1_s c lf (f15_1 c lf n) (fun (x244 : Int) (x245 : List T) (x246 x247 : Int) (x248 x249 : List T) (x250 x251 : Int) (x253 : List T) (x254 : Int) => f15_2 c lf x244 x245 x246 x247 x248 x249 x250 x251 lf x253 x254) x243 x244 x245 x246 x247 x248 x249 x250 x251
theorem f15_1_u (c : Orc) (lf n : Nat) (x243 : List T) (x244 : Int) (x245 : List T) (x246 x247 : Int) (x248 x249 : List T) (x250 x251 : Int) : f15_1 c lf (n + 1) x243 x244 x245 x246 x247 x248 x249 x250 x251 = f15_1_s c lf (f15_1 c lf n) (fun (x244 : Int) (x245 : List T) (x246 x247 : Int) (x248 x249 : List T) (x250 x251 : Int) (x253 : List T) (x254 : Int) => f15_2 c lf x244 x245 x246 x247 x248 x249 x250 x251 lf x253 x254) x243 x244 x245 x246 x247 x248 x249 x250 x251 := rfl
theorem f15_1_eq (c : Orc) (lf n : Nat) (x243 : List T) (x244 : Int) (x245 : List T) (x246 x247 : Int) (x248 x249 : List T) (x250 x251 : Int) :
 lpK c env lf 6 fi15 7 7 [] [1, 3, 5] (x15_7_0) n (f15_1_c x243 x244 x245 x246 x247 x248 x249 x250 x251) = f15_1 c lf n x243 x244 x245 x246 x247 x248 x249 x250 x251 := by
 induction n generalizing x243 x244 x245 x246 x247 x248 x249 x250 x251 with
 | zero => rfl
 | succ n ih =>
  refine (f15_1_round c lf _ x243 x244 x245 x246 x247 x248 x249 x250 x251).trans ?_
  have e : (fun x243 x244 x245 x246 x247 x248 x249 x250 x251 => lpK c env lf 6 fi15 7 7 [] [1, 3, 5] (x15_7_0) n (f15_1_c x243 x244 x245 x246 x247 x248 x249 x250 x251)) = f15_1 c lf n := by funext x243 x244 x245 x246 x247 x248 x249 x250 x251; exact ih x243 x244 x245 x246 x247 x248 x249 x250 x251
  have e0 : (fun (x244 : Int) (x245 : List T) (x246 x247 : Int) (x248 x249 : List T) (x250 x251 : Int) (x253 : List T) (x254 : Int) => lpK c env lf 6 fi15 7 10 [] [1, 3, 5, 6] (x15_10_0) lf (f15_2_c x244 x245 x246 x247 x248 x249 x250 x251 x253 x254)) = (fun (x244 : Int) (x245 : List T) (x246 x247 : Int) (x248 x249 : List T) (x250 x251 : Int) (x253 : List T) (x254 : Int) => f15_2 c lf x244 x245 x246 x247 x248 x249 x250 x251 lf x253 x254) := by funext x244 x245 x246 x247 x248 x249 x250 x251 x253 x254; exact f15_2_eq c lf x244 x245 x246 x247 x248 x249 x250 x251 lf x253 x254
  show f15_1_s c lf (fun x243 x244 x245 x246 x247 x248 x249 x250 x251 => lpK c env lf 6 fi15 7 7 [] [1, 3, 5] (x15_7_0) n (f15_1_c x243 x244 x245 x246 x247 x248 x249 x250 x251)) (fun (x244 : Int) (x245 : List T) (x246 x247 : Int) (x248 x249 : List T) (x250 x251 : Int) (x253 : List T) (x254 : Int) => lpK c env lf 6 fi15 7 10 [] [1, 3, 5, 6] (x15_10_0) lf (f15_2_c x244 x245 x246 x247 x248 x249 x250 x251 x253 x254)) x243 x244 x245 x246 x247 x248 x249 x250 x251 = _
  rw [e, e0]; rfl
def f15_t (c : Orc) (lf : Nat) (lp0 : List T → List T → List T → Int → Int → Int → Int → List T → Int → Option (List T)) (lp1 : List T → Int → List T → Int → Int → List T → List T → Int → Int → Option (List T)) (l0_0 : List T) (n0_1 n0_2 : Int) (l0_3 l0_4 : List T) (n0_5 n0_6 : Int) : Option (List T) :=
 (c 30 [T.sl ([] : List T), T.i .i64 n0_6]).bind fun r231 =>
 (c 30 [T.sl (asL (nth r231 0)), T.i .i64 n0_5]).bind fun r232 =>
 (lp0 l0_0 l0_3 l0_4 n0_1 n0_2 n0_5 n0_6 (asL (nth r232 0)) 0).bind fun r237 =>
 (lp1 (asL (nth r237 1)) 0 (asL (nth r237 2)) (asI (nth r237 3)) (asI (nth r237 4)) (asL (nth r237 5)) (asL (nth r237 6)) (asI (nth r237 7)) (asI (nth r237 8))).bind fun r257 =>
 some [T.sl (asL (nth r257 1))]
def f15 (c : Orc) (lf : Nat) (l0_0 : List T) (n0_1 n0_2 : Int) (l0_3 l0_4 : List T) (n0_5 n0_6 : Int) : Option (List T) := f15_t c lf (fun (l0_0 l0_3 l0_4 : List T) (n0_1 n0_2 : Int) (n0_5 n0_6 : Int) (x234 : List T) (x235 : Int) => f15_0 c lf l0_0 l0_3 l0_4 n0_1 n0_2 n0_5 n0_6 lf x234 x235) (fun (x243 : List T) (x244 : Int) (x245 : List T) (x246 x247 : Int) (x248 x249 : List T) (x250 x251 : Int) => f15_1 c lf lf x243 x244 x245 x246 x247 x248 x249 x250 x251) l0_0 n0_1 n0_2 l0_3 l0_4 n0_5 n0_6
theorem f15_raw (c : Orc) (lf : Nat) (l0_0 : List T) (n0_1 n0_2 : Int) (l0_3 l0_4 : List T) (n0_5 n0_6 : Int) : funK c env lf 6 fi15 [.st [.sl l0_0, .i .i64 n0_1, .i .i64 n0_2, .sl l0_3, .sl l0_4, .i .i64 n0_5, .i .i64 n0_6]] = f15_t c lf (fun (l0_0 l0_3 l0_4 : List T) (n0_1 n0_2 : Int) (n0_5 n0_6 : Int) (x234 : List T) (x235 : Int) => lpK c env lf 6 fi15 7 3 [] [1, 3, 4] (x15_3_0) lf (f15_0_c l0_0 l0_3 l0_4 n0_1 n0_2 n0_5 n0_6 x234 x235)) (fun (x243 : List T) (x244 : Int) (x245 : List T) (x246 x247 : Int) (x248 x249 : List T) (x250 x251 : Int) => lpK c env lf 6 fi15 7 7 [] [1, 3, 5] (x15_7_0) lf (f15_1_c x243 x244 x245 x246 x247 x248 x249 x250 x251)) l0_0 n0_1 n0_2 l0_3 l0_4 n0_5 n0_6 := by kernel_rfl
theorem f15_eq (c : Orc) (lf : Nat) (l0_0 : List T) (n0_1 n0_2 : Int) (l0_3 l0_4 : List T) (n0_5 n0_6 : Int) : funK c env lf 6 fi15 [.st [.sl l0_0, .i .i64 n0_1, .i .i64 n0_2, .sl l0_3, .sl l0_4, .i .i64 n0_5, .i .i64 n0_6]] = f15 c lf l0_0 n0_1 n0_2 l0_3 l0_4 n0_5 n0_6 := by
 refine (f15_raw c lf l0_0 n0_1 n0_2 l0_3 l0_4 n0_5 n0_6).trans ?_
 have e0 : (fun (l0_0 l0_3 l0_4 : List T) (n0_1 n0_2 : Int) (n0_5 n0_6 : Int) (x234 : List T) (x235 : Int) => lpK c env lf 6 fi15 7 3 [] [1, 3, 4] (x15_3_0) lf (f15_0_c l0_0 l0_3 l0_4 n0_1 n0_2 n0_5 n0_6 x234 x235)) = (fun (l0_0 l0_3 l0_4 : List T) (n0_1 n0_2 : Int) (n0_5 n0_6 : Int) (x234 : List T) (x235 : Int) => f15_0 c lf l0_0 l0_3 l0_4 n0_1 n0_2 n0_5 n0_6 lf x234 x235) := by funext l0_0 l0_3 l0_4 n0_1 n0_2 n0_5 n0_6 x234 x235; exact f15_0_eq c lf l0_0 l0_3 l0_4 n0_1 n0_2 n0_5 n0_6 lf x234 x235
 have e1 : (fun (x243 : List T) (x244 : Int) (x245 : List T) (x246 x247 : Int) (x248 x249 : List T) (x250 x251 : Int) => lpK c env lf 6 fi15 7 7 [] [1, 3, 5] (x15_7_0) lf (f15_1_c x243 x244 x245 x246 x247 x248 x249 x250 x251)) = (fun (x243 : List T) (x244 : Int) (x245 : List T) (x246 x247 : Int) (x248 x249 : List T) (x250 x251 : Int) => f15_1 c lf lf x243 x244 x245 x246 x247 x248 x249 x250 x251) := by funext x243 x244 x245 x246 x247 x248 x249 x250 x251; exact f15_1_eq c lf lf x243 x244 x245 x246 x247 x248 x249 x250 x251
 rw [e0, e1]; rfl
def f10_0_s (c : Orc) (lf : Nat) (n1 : Int) (r262 : List T) (L : Int → Int → Option (List T)) (x263 x264 : Int) : Option (List T) :=
 bif iLt x264 ((asL (nth r262 0)).length : Int) then
  bif inR x264 ((asL (nth r262 0)).length) then
  bif (IntKind.wrap .i64 ((asI ((asL (nth r262 0)).getD x264.toNat T.u)).tdiv 8)) == n1 then
   L (IntKind.wrap .i64 (x263 + 1)) (IntKind.wrap .i64 (x264 + 1))
  else
   L x263 (IntKind.wrap .i64 (x264 + 1))
  else none
 else
  some [T.i .i64 0, T.i .i64 x263]
def f10_0_c (n1 : Int) (r262 : List T) (x263 x264 : Int) : CSt := ⟨[.i .i64 n1, .i .i64 x263, .ro 0 false [.i .i64] (asL (nth r262 0)), .i .i64 x264], [.dead, .dead, .dead, .dead, .dead, .dead, .dead, .dead]⟩
theorem f10_0_round (c : Orc) (lf : Nat) (n1 : Int) (r262 : List T) (L : CSt → Option (List T)) (x263 x264 : Int) :
 roundK c env lf 6 fi10 8 4 [] [1, 5, 6, 7] (x10_4_0) L (f10_0_c n1 r262 x263 x264) = f10_0_s c lf n1 r262 (fun x263 x264 => L (f10_0_c n1 r262 x263 x264)) x263 x264 := by kernel_rfl
def f10_0 (c : Orc) (lf : Nat) (n1 : Int) (r262 : List T) : Nat → Int → Int → Option (List T)
 | 0 => fun _ _ => none
 | n + 1 => fun x263 x264 => f10_0_s c lf n1 r262 (f10_0 c lf n1 r262 n) x263 x264
theorem f10_0_u (c : Orc) (lf : Nat) (n1 : Int) (r262 : List T) (n : Nat) (x263 x264 : Int) : f10_0 c lf n1 r262 (n + 1) x263 x264 = f10_0_s c lf n1 r262 (f10_0 c lf n1 r262 n) x263 x264 := rfl
theorem f10_0_eq (c : Orc) (lf : Nat) (n1 : Int) (r262 : List T) (n : Nat) (x263 x264 : Int) :
 lpK c env lf 6 fi10 8 4 [] [1, 5, 6, 7] (x10_4_0) n (f10_0_c n1 r262 x263 x264) = f10_0 c lf n1 r262 n x263 x264 := by
 induction n generalizing x263 x264 with
 | zero => rfl
 | succ n ih =>
  refine (f10_0_round c lf n1 r262 _ x263 x264).trans ?_
  have e : (fun x263 x264 => lpK c env lf 6 fi10 8 4 [] [1, 5, 6, 7] (x10_4_0) n (f10_0_c n1 r262 x263 x264)) = f10_0 c lf n1 r262 n := by funext x263 x264; exact ih x263 x264
  show f10_0_s c lf n1 r262 (fun x263 x264 => lpK c env lf 6 fi10 8 4 [] [1, 5, 6, 7] (x10_4_0) n (f10_0_c n1 r262 x263 x264)) x263 x264 = _
  rw [e]; rfl
def f10_t (c : Orc) (lf : Nat) (lp0 : Int → List T → Int → Int → Option (List T)) (l0_0 : List T) (n0_1 n0_2 : Int) (l0_3 l0_4 : List T) (n0_5 n0_6 n1 : Int) : Option (List T) :=
 (c 15 [T.st [T.sl l0_0, T.i .i64 n0_1, T.i .i64 n0_2, T.sl l0_3, T.sl l0_4, T.i .i64 n0_5, T.i .i64 n0_6]]).bind fun r262 =>
 (lp0 n1 r262 0 0).bind fun r265 =>
 some [T.i .i64 (asI (nth r265 1))]
def f10 (c : Orc) (lf : Nat) (l0_0 : List T) (n0_1 n0_2 : Int) (l0_3 l0_4 : List T) (n0_5 n0_6 n1 : Int) : Option (List T) := f10_t c lf (fun (n1 : Int) (r262 : List T) (x263 x264 : Int) => f10_0 c lf n1 r262 lf x263 x264) l0_0 n0_1 n0_2 l0_3 l0_4 n0_5 n0_6 n1
theorem f10_raw (c : Orc) (lf : Nat) (l0_0 : List T) (n0_1 n0_2 : Int) (l0_3 l0_4 : List T) (n0_5 n0_6 n1 : Int) : funK c env lf 6 fi10 [.st [.sl l0_0, .i .i64 n0_1, .i .i64 n0_2, .sl l0_3, .sl l0_4, .i .i64 n0_5, .i .i64 n0_6], .i .i64 n1] = f10_t c lf (fun (n1 : Int) (r262 : List T) (x263 x264 : Int) => lpK c env lf 6 fi10 8 4 [] [1, 5, 6, 7] (x10_4_0) lf (f10_0_c n1 r262 x263 x264)) l0_0 n0_1 n0_2 l0_3 l0_4 n0_5 n0_6 n1 := by kernel_rfl
theorem f10_eq (c : Orc) (lf : Nat) (l0_0 : List T) (n0_1 n0_2 : Int) (l0_3 l0_4 : List T) (n0_5 n0_6 n1 : Int) : funK c env lf 6 fi10 [.st [.sl l0_0, .i .i64 n0_1, .i .i64 n0_2, .sl l0_3, .sl l0_4, .i .i64 n0_5, .i .i64 n0_6], .i .i64 n1] = f10 c lf l0_0 n0_1 n0_2 l0_3 l0_4 n0_5 n0_6 n1 := by
 refine (f10_raw c lf l0_0 n0_1 n0_2 l0_3 l0_4 n0_5 n0_6 n1).trans ?_
 have e0 : (fun (n1 : Int) (r262 : List T) (x263 x264 : Int) => lpK c env lf 6 fi10 8 4 [] [1, 5, 6, 7] (x10_4_0) lf (f10_0_c n1 r262 x263 x264)) = (fun (n1 : Int) (r262 : List T) (x263 x264 : Int) => f10_0 c lf n1 r262 lf x263 x264) := by funext n1 r262 x263 x264; exact f10_0_eq c lf n1 r262 lf x263 x264
 rw [e0]; rfl
def f20_0_s (c : Orc) (lf : Nat) (l0_0 l0_3 l0_4 : List T) (n0_1 n0_2 : Int) (n0_5 n0_6 : Int) (L : Int → List T → Option (List T)) (x280 : Int) (x281 : List T) : Option (List T) :=
 bif iLt x280 (l0_3.length : Int) then
  bif inR x280 l0_3.length then
  bif inR x280 x281.length then
  bif okC (.sl false [.i .i64]) (x281.getD x280.toNat T.u) && true then
  bif nLe ((asL (x281.getD x280.toNat T.u)).length + ([T.i .i64 (asI (T.cell (l0_3.getD x280.toNat T.u) 4))] : List T).length) LIM then
  bif inR x280 ((x281.set x280.toNat T.u).length) then
  L (IntKind.wrap .i64 (x280 + 1)) ((x281.set x280.toNat T.u).set x280.toNat (T.sl ((asL (x281.getD x280.toNat T.u)) ++ ([T.i .i64 (asI (T.cell (l0_3.getD x280.toNat T.u) 4))] : List T))))
  else none
  else none
  else none
  else none
  else none
 else
  some [T.i .i64 0, T.sl l0_0, T.i .i64 n0_1, T.i .i64 n0_2, T.sl l0_3, T.sl l0_4, T.i .i64 n0_5, T.i .i64 n0_6, T.sl x281]
def f20_0_c (l0_0 l0_3 l0_4 : List T) (n0_1 n0_2 : Int) (n0_5 n0_6 x280 : Int) (x281 : List T) : CSt := ⟨[.bp 7 0, .rf 8 [] 0 none, .ro 0 true [.i .i64, .s, .b, .i .i64, .i .i64] l0_3, .i .i64 (l0_3.length : Int), .i .i64 x280], [.dead, .dead, .dead, .dead, .dead, .dead, .dead, .box [.ro 0 true [.i .i64, .s, .b, .i .i64, .sl true [.i .i64, .i .i64, .i .i64, .sl false [.i .u8], .sl true [.s, .i .i64], .sl true [.s, .s]], .i .i64] l0_0, .i .i64 n0_1, .i .i64 n0_2, .ro 0 true [.i .i64, .s, .b, .i .i64, .i .i64] l0_3, .ro 0 true [.i .i64, .sl true [.i .i64, .i .i64]] l0_4, .i .i64 n0_5, .i .i64 n0_6], .row false [.sl false [.i .i64]] x281 0 true]⟩
theorem f20_0_round (c : Orc) (lf : Nat) (l0_0 l0_3 l0_4 : List T) (n0_1 n0_2 : Int) (n0_5 n0_6 : Int) (L : CSt → Option (List T)) (x280 : Int) (x281 : List T) :
 roundK c env lf 6 fi20 7 3 [(3, 1)] [1, 3, 21, 22, 23] (x20_3_0) L (f20_0_c l0_0 l0_3 l0_4 n0_1 n0_2 n0_5 n0_6 x280 x281) = f20_0_s c lf l0_0 l0_3 l0_4 n0_1 n0_2 n0_5 n0_6 (fun x280 x281 => L (f20_0_c l0_0 l0_3 l0_4 n0_1 n0_2 n0_5 n0_6 x280 x281)) x280 x281 := by kernel_rfl
def f20_0 (c : Orc) (lf : Nat) (l0_0 l0_3 l0_4 : List T) (n0_1 n0_2 : Int) (n0_5 n0_6 : Int) : Nat → Int → List T → Option (List T)
 | 0 => fun _ _ => none
 | n + 1 => fun x280 x281 => f20_0_s c lf l0_0 l0_3 l0_4 n0_1 n0_2 n0_5 n0_6 (f20_0 c lf l0_0 l0_3 l0_4 n0_1 n0_2 n0_5 n0_6 n) x280 x281
theorem f20_0_u (c : Orc) (lf : Nat) (l0_0 l0_3 l0_4 : List T) (n0_1 n0_2 : Int) (n0_5 n0_6 : Int) (n : Nat) (x280 : Int) (x281 : List T) : f20_0 c lf l0_0 l0_3 l0_4 n0_1 n0_2 n0_5 n0_6 (n + 1) x280 x281 = f20_0_s c lf l0_0 l0_3 l0_4 n0_1 n0_2 n0_5 n0_6 (f20_0 c lf l0_0 l0_3 l0_4 n0_1 n0_2 n0_5 n0_6 n) x280 x281 := rfl
theorem f20_0_eq (c : Orc) (lf : Nat) (l0_0 l0_3 l0_4 : List T) (n0_1 n0_2 : Int) (n0_5 n0_6 : Int) (n : Nat) (x280 : Int) (x281 : List T) :
 lpK c env lf 6 fi20 7 3 [(3, 1)] [1, 3, 21, 22, 23] (x20_3_0) n (f20_0_c l0_0 l0_3 l0_4 n0_1 n0_2 n0_5 n0_6 x280 x281) = f20_0 c lf l0_0 l0_3 l0_4 n0_1 n0_2 n0_5 n0_6 n x280 x281 := by
 induction n generalizing x280 x281 with
 | zero => rfl
 | succ n ih =>
  refine (f20_0_round c lf l0_0 l0_3 l0_4 n0_1 n0_2 n0_5 n0_6 _ x280 x281).trans ?_
  have e : (fun x280 x281 => lpK c env lf 6 fi20 7 3 [(3, 1)] [1, 3, 21, 22, 23] (x20_3_0) n (f20_0_c l0_0 l0_3 l0_4 n0_1 n0_2 n0_5 n0_6 x280 x281)) = f20_0 c lf l0_0 l0_3 l0_4 n0_1 n0_2 n0_5 n0_6 n := by funext x280 x281; exact ih x280 x281
  show f20_0_s c lf l0_0 l0_3 l0_4 n0_1 n0_2 n0_5 n0_6 (fun x280 x281 => lpK c env lf 6 fi20 7 3 [(3, 1)] [1, 3, 21, 22, 23] (x20_3_0) n (f20_0_c l0_0 l0_3 l0_4 n0_1 n0_2 n0_5 n0_6 x280 x281)) x280 x281 = _
  rw [e]; rfl
def f20_2_s (c : Orc) (lf : Nat) (x286 : List T) (x287 x288 : Int) (L : Int → List T → Option (List T)) (x290 : Int) (x291 : List T) : Option (List T) :=
 bif iLt x290 ((asL (T.cell (x286.getD x288.toNat T.u) 1)).length : Int) then
  bif inR x290 ((asL (T.cell (x286.getD x288.toNat T.u) 1)).length) then
  bif inR x288 x291.length then
  bif okC (.sl false [.i .i64]) (x291.getD x288.toNat T.u) && true then
  bif nLe ((asL (x291.getD x288.toNat T.u)).length + ([T.i .i64 (asI (T.cell ((asL (T.cell (x286.getD x288.toNat T.u) 1)).getD x290.toNat T.u) 1))] : List T).length) LIM then
  bif inR x288 ((x291.set x288.toNat T.u).length) then
  L (IntKind.wrap .i64 (x290 + 1)) ((x291.set x288.toNat T.u).set x288.toNat (T.sl ((asL (x291.getD x288.toNat T.u)) ++ ([T.i .i64 (asI (T.cell ((asL (T.cell (x286.getD x288.toNat T.u) 1)).getD x290.toNat T.u) 1))] : List T))))
  else none
  else none
  else none
  else none
  else none
 else
  some [T.i .i64 0, T.sl x286, T.i .i64 x287, T.i .i64 x288, T.sl x291]
def f20_2_c (x286 : List T) (x287 x288 x290 : Int) (x291 : List T) : CSt := ⟨[.rf 7 [] 0 none, .i .i64 x288, .ro 0 true [.i .i64, .sl true [.i .i64, .i .i64]] x286, .i .i64 x287, .i .i64 x288, .ro 0 true [.i .i64, .i .i64] (asL (T.cell (x286.getD x288.toNat T.u) 1)), .i .i64 ((asL (T.cell (x286.getD x288.toNat T.u) 1)).length : Int), .i .i64 x290], [.dead, .dead, .dead, .dead, .dead, .dead, .dead, .row false [.sl false [.i .i64]] x291 0 true]⟩
theorem f20_2_round (c : Orc) (lf : Nat) (x286 : List T) (x287 x288 : Int) (L : CSt → Option (List T)) (x290 : Int) (x291 : List T) :
 roundK c env lf 6 fi20 7 11 [(3, 1)] [3, 6, 41, 42, 43, 49, 50, 51] (x20_11_0) L (f20_2_c x286 x287 x288 x290 x291) = f20_2_s c lf x286 x287 x288 (fun x290 x291 => L (f20_2_c x286 x287 x288 x290 x291)) x290 x291 := by kernel_rfl
def f20_2 (c : Orc) (lf : Nat) (x286 : List T) (x287 x288 : Int) : Nat → Int → List T → Option (List T)
 | 0 => fun _ _ => none
 | n + 1 => fun x290 x291 => f20_2_s c lf x286 x287 x288 (f20_2 c lf x286 x287 x288 n) x290 x291
theorem f20_2_u (c : Orc) (lf : Nat) (x286 : List T) (x287 x288 : Int) (n : Nat) (x290 : Int) (x291 : List T) : f20_2 c lf x286 x287 x288 (n + 1) x290 x291 = f20_2_s c lf x286 x287 x288 (f20_2 c lf x286 x287 x288 n) x290 x291 := rfl
theorem f20_2_eq (c : Orc) (lf : Nat) (x286 : List T) (x287 x288 : Int) (n : Nat) (x290 : Int) (x291 : List T) :
 lpK c env lf 6 fi20 7 11 [(3, 1)] [3, 6, 41, 42, 43, 49, 50, 51] (x20_11_0) n (f20_2_c x286 x287 x288 x290 x291) = f20_2 c lf x286 x287 x288 n x290 x291 := by
 induction n generalizing x290 x291 with
 | zero => rfl
 | succ n ih =>
  refine (f20_2_round c lf x286 x287 x288 _ x290 x291).trans ?_
  have e : (fun x290 x291 => lpK c env lf 6 fi20 7 11 [(3, 1)] [3, 6, 41, 42, 43, 49, 50, 51] (x20_11_0) n (f20_2_c x286 x287 x288 x290 x291)) = f20_2 c lf x286 x287 x288 n := by funext x290 x291; exact ih x290 x291
  show f20_2_s c lf x286 x287 x288 (fun x290 x291 => lpK c env lf 6 fi20 7 11 [(3, 1)] [3, 6, 41, 42, 43, 49, 50, 51] (x20_11_0) n (f20_2_c x286 x287 x288 x290 x291)) x290 x291 = _
  rw [e]; rfl
def f20_1_s (c : Orc) (lf : Nat) (L : List T → Int → Int → List T → Option (List T)) (lp0 : List T → Int → Int → Int → List T → Option (List T)) (x286 : List T) (x287 x288 : Int) (x289 : List T) : Option (List T) :=
 bif iLt x288 x287 then
  bif inR x288 x286.length then
  (lp0 x286 x287 x288 0 x289).bind fun r292 =>
  L (asL (nth r292 1)) (asI (nth r292 2)) (IntKind.wrap .i64 ((asI (nth r292 3)) + 1)) (asL (nth r292 4))
  else none
 else
  some [T.i .i64 0, T.sl x289]
def f20_1_c (x286 : List T) (x287 x288 : Int) (x289 : List T) : CSt := ⟨[.rf 7 [] 0 none, .ro 0 true [.i .i64, .sl true [.i .i64, .i .i64]] x286, .i .i64 x287, .i .i64 x288], [.dead, .dead, .dead, .dead, .dead, .dead, .dead, .row false [.sl false [.i .i64]] x289 0 true]⟩
theorem f20_1_round (c : Orc) (lf : Nat) (L : CSt → Option (List T)) (x286 : List T) (x287 x288 : Int) (x289 : List T) :
 roundK c env lf 6 fi20 7 8 [(3, 1)] [3, 41, 42, 43] (x20_8_0) L (f20_1_c x286 x287 x288 x289) = f20_1_s c lf (fun x286 x287 x288 x289 => L (f20_1_c x286 x287 x288 x289)) (fun (x286 : List T) (x287 x288 x290 : Int) (x291 : List T) => lpK c env lf 6 fi20 7 11 [(3, 1)] [3, 6, 41, 42, 43, 49, 50, 51] (x20_11_0) lf (f20_2_c x286 x287 x288 x290 x291)) x286 x287 x288 x289 := by kernel_rfl
def f20_1 (c : Orc) (lf : Nat) : Nat → List T → Int → Int → List T → Option (List T)
 | 0 => fun _ _ _ _ => none
 | n + 1 => fun x286 x287 x288 x289 => f20_1_s c lf (f20_1 c lf n) (fun (x286 : List T) (x287 x288 x290 : Int) (x291 : List T) => f20_2 c lf x286 x287 x288 lf x290 x291) x286 x287 x288 x289
theorem f20_1_u (c : Orc) (lf n : Nat) (x286 : List T) (x287 x288 : Int) (x289 : List T) : f20_1 c lf (n + 1) x286 x287 x288 x289 = f20_1_s c lf (f20_1 c lf n) (fun (x286 : List T) (x287 x288 x290 : Int) (x291 : List T) => f20_2 c lf x286 x287 x288 lf x290 x291) x286 x287 x288 x289 := rfl
theorem f20_1_eq (c : Orc) (lf n : Nat) (x286 : List T) (x287 x288 : Int) (x289 : List T) :
 lpK c env lf 6 fi20 7 8 [(3, 1)] [3, 41, 42, 43] (x20_8_0) n (f20_1_c x286 x287 x288 x289) = f20_1 c lf n x286 x287 x288 x289 := by
 induction n generalizing x286 x287 x288 x289 with
 | zero => rfl
 | succ n ih =>
  refine (f20_1_round c lf _ x286 x287 x288 x289).trans ?_
  have e : (fun x286 x287 x288 x289 => lpK c env lf 6 fi20 7 8 [(3, 1)] [3, 41, 42, 43] (x20_8_0) n (f20_1_c x286 x287 x288 x289)) = f20_1 c lf n := by funext x286 x287 x288 x289; exact ih x286 x287 x288 x289
  have e0 : (fun (x286 : List T) (x287 x288 x290 : Int) (x291 : List T) => lpK c env lf 6 fi20 7 11 [(3, 1)] [3, 6, 41, 42, 43, 49, 50, 51] (x20_11_0) lf (f20_2_c x286 x287 x288 x290 x291)) = (fun (x286 : List T) (x287 x288 x290 : Int) (x291 : List T) => f20_2 c lf x286 x287 x288 lf x290 x291) := by funext x286 x287 x288 x290 x291; exact f20_2_eq c lf x286 x287 x288 lf x290 x291
  show f20_1_s c lf (fun x286 x287 x288 x289 => lpK c env lf 6 fi20 7 8 [(3, 1)] [3, 41, 42, 43] (x20_8_0) n (f20_1_c x286 x287 x288 x289)) (fun (x286 : List T) (x287 x288 x290 : Int) (x291 : List T) => lpK c env lf 6 fi20 7 11 [(3, 1)] [3, 6, 41, 42, 43, 49, 50, 51] (x20_11_0) lf (f20_2_c x286 x287 x288 x290 x291)) x286 x287 x288 x289 = _
  rw [e, e0]; rfl
def f20_t (c : Orc) (lf : Nat) (lp0 : List T → List T → List T → Int → Int → Int → Int → Int → List T → Option (List T)) (lp1 : List T → Int → Int → List T → Option (List T)) (l0_0 : List T) (n0_1 n0_2 : Int) (l0_3 l0_4 : List T) (n0_5 n0_6 : Int) : Option (List T) :=
 bif iLe 0 (imax (l0_3.length : Int) (l0_4.length : Int)) && iLe (imax (l0_3.length : Int) (l0_4.length : Int)) (LIM : Int) && ((imax (l0_3.length : Int) (l0_4.length : Int)) == (imax (l0_3.length : Int) (l0_4.length : Int))) then
 (lp0 l0_0 l0_3 l0_4 n0_1 n0_2 n0_5 n0_6 0 (List.replicate (imax (l0_3.length : Int) (l0_4.length : Int)).toNat (T.sl []))).bind fun r282 =>
 (lp1 (asL (nth r282 5)) ((asL (nth r282 5)).length : Int) 0 (asL (nth r282 8))).bind fun r293 =>
 bif ((okL false [.sl false [.i .i64]] (asL (nth r293 1))) && true) && true then
 some [T.sl (asL (nth r293 1))]
 else none
 else none
def f20 (c : Orc) (lf : Nat) (l0_0 : List T) (n0_1 n0_2 : Int) (l0_3 l0_4 : List T) (n0_5 n0_6 : Int) : Option (List T) := f20_t c lf (fun (l0_0 l0_3 l0_4 : List T) (n0_1 n0_2 : Int) (n0_5 n0_6 x280 : Int) (x281 : List T) => f20_0 c lf l0_0 l0_3 l0_4 n0_1 n0_2 n0_5 n0_6 lf x280 x281) (fun (x286 : List T) (x287 x288 : Int) (x289 : List T) => f20_1 c lf lf x286 x287 x288 x289) l0_0 n0_1 n0_2 l0_3 l0_4 n0_5 n0_6
theorem f20_raw (c : Orc) (lf : Nat) (l0_0 : List T) (n0_1 n0_2 : Int) (l0_3 l0_4 : List T) (n0_5 n0_6 : Int) : funK c env lf 6 fi20 [.st [.sl l0_0, .i .i64 n0_1, .i .i64 n0_2, .sl l0_3, .sl l0_4, .i .i64 n0_5, .i .i64 n0_6]] = f20_t c lf (fun (l0_0 l0_3 l0_4 : List T) (n0_1 n0_2 : Int) (n0_5 n0_6 x280 : Int) (x281 : List T) => lpK c env lf 6 fi20 7 3 [(3, 1)] [1, 3, 21, 22, 23] (x20_3_0) lf (f20_0_c l0_0 l0_3 l0_4 n0_1 n0_2 n0_5 n0_6 x280 x281)) (fun (x286 : List T) (x287 x288 : Int) (x289 : List T) => lpK c env lf 6 fi20 7 8 [(3, 1)] [3, 41, 42, 43] (x20_8_0) lf (f20_1_c x286 x287 x288 x289)) l0_0 n0_1 n0_2 l0_3 l0_4 n0_5 n0_6 := by kernel_rfl
theorem f20_eq (c : Orc) (lf : Nat) (l0_0 : List T) (n0_1 n0_2 : Int) (l0_3 l0_4 : List T) (n0_5 n0_6 : Int) : funK c env lf 6 fi20 [.st [.sl l0_0, .i .i64 n0_1, .i .i64 n0_2, .sl l0_3, .sl l0_4, .i .i64 n0_5, .i .i64 n0_6]] = f20 c lf l0_0 n0_1 n0_2 l0_3 l0_4 n0_5 n0_6 := by
 refine (f20_raw c lf l0_0 n0_1 n0_2 l0_3 l0_4 n0_5 n0_6).trans ?_
 have e0 : (fun (l0_0 l0_3 l0_4 : List T) (n0_1 n0_2 : Int) (n0_5 n0_6 x280 : Int) (x281 : List T) => lpK c env lf 6 fi20 7 3 [(3, 1)] [1, 3, 21, 22, 23] (x20_3_0) lf (f20_0_c l0_0 l0_3 l0_4 n0_1 n0_2 n0_5 n0_6 x280 x281)) = (fun (l0_0 l0_3 l0_4 : List T) (n0_1 n0_2 : Int) (n0_5 n0_6 x280 : Int) (x281 : List T) => f20_0 c lf l0_0 l0_3 l0_4 n0_1 n0_2 n0_5 n0_6 lf x280 x281) := by funext l0_0 l0_3 l0_4 n0_1 n0_2 n0_5 n0_6 x280 x281; exact f20_0_eq c lf l0_0 l0_3 l0_4 n0_1 n0_2 n0_5 n0_6 lf x280 x281
 have e1 : (fun (x286 : List T) (x287 x288 : Int) (x289 : List T) => lpK c env lf 6 fi20 7 8 [(3, 1)] [3, 41, 42, 43] (x20_8_0) lf (f20_1_c x286 x287 x288 x289)) = (fun (x286 : List T) (x287 x288 : Int) (x289 : List T) => f20_1 c lf lf x286 x287 x288 x289) := by funext x286 x287 x288 x289; exact f20_1_eq c lf lf x286 x287 x288 x289
 rw [e0, e1]; rfl
def f39_0_s (c : Orc) (lf : Nat) (l0 : List T) (L : Int → Int → Option (List T)) (x301 x302 : Int) : Option (List T) :=
 bif iLt x302 (l0.length : Int) then
  bif inR x302 l0.length then
  bif iLt (IntKind.wrap .i64 (x301 + ((asL (l0.getD x302.toNat T.u)).length : Int))) 0 then
   none
  else
   L (IntKind.wrap .i64 (x301 + ((asL (l0.getD x302.toNat T.u)).length : Int))) (IntKind.wrap .i64 (x302 + 1))
  else none
 else
  some [T.i .i64 0, T.sl l0, T.i .i64 x301]
def f39_0_c (l0 : List T) (x301 x302 : Int) : CSt := ⟨[.ro 0 false [.sl false [.i .i64]] l0, .i .i64 x301, .ro 0 false [.sl false [.i .i64]] l0, .i .i64 (l0.length : Int), .i .i64 x302], [.dead]⟩
theorem f39_0_round (c : Orc) (lf : Nat) (l0 : List T) (L : CSt → Option (List T)) (x301 x302 : Int) :
 roundK c env lf 6 fi39 1 3 [] [0, 3, 9, 10, 11] (x39_3_0) L (f39_0_c l0 x301 x302) = f39_0_s c lf l0 (fun x301 x302 => L (f39_0_c l0 x301 x302)) x301 x302 := by kernel_rfl
def f39_0 (c : Orc) (lf : Nat) (l0 : List T) : Nat → Int → Int → Option (List T)
 | 0 => fun _ _ => none
 | n + 1 => fun x301 x302 => f39_0_s c lf l0 (f39_0 c lf l0 n) x301 x302
theorem f39_0_u (c : Orc) (lf : Nat) (l0 : List T) (n : Nat) (x301 x302 : Int) : f39_0 c lf l0 (n + 1) x301 x302 = f39_0_s c lf l0 (f39_0 c lf l0 n) x301 x302 := rfl
theorem f39_0_eq (c : Orc) (lf : Nat) (l0 : List T) (n : Nat) (x301 x302 : Int) :
 lpK c env lf 6 fi39 1 3 [] [0, 3, 9, 10, 11] (x39_3_0) n (f39_0_c l0 x301 x302) = f39_0 c lf l0 n x301 x302 := by
 induction n generalizing x301 x302 with
 | zero => rfl
 | succ n ih =>
  refine (f39_0_round c lf l0 _ x301 x302).trans ?_
  have e : (fun x301 x302 => lpK c env lf 6 fi39 1 3 [] [0, 3, 9, 10, 11] (x39_3_0) n (f39_0_c l0 x301 x302)) = f39_0 c lf l0 n := by funext x301 x302; exact ih x301 x302
  show f39_0_s c lf l0 (fun x301 x302 => lpK c env lf 6 fi39 1 3 [] [0, 3, 9, 10, 11] (x39_3_0) n (f39_0_c l0 x301 x302)) x301 x302 = _
  rw [e]; rfl
def f39_1_s (c : Orc) (lf : Nat) (r303 : List T) (L : Nat → Int → List T → Option (List T)) (x304 : Nat) (x305 : Int) (x306 : List T) : Option (List T) :=
 bif iLt x305 ((asL (nth r303 1)).length : Int) then
  bif inR x305 ((asL (nth r303 1)).length) then
  bif nLe (((x306.drop 0).take x304).length + (asL ((asL (nth r303 1)).getD x305.toNat T.u)).length) LIM then
  L ((((x306.drop 0).take x304) ++ (asL ((asL (nth r303 1)).getD x305.toNat T.u))).length) (IntKind.wrap .i64 (x305 + 1)) (((x306.drop 0).take x304) ++ (asL ((asL (nth r303 1)).getD x305.toNat T.u)))
  else none
  else none
 else
  some [T.i .i64 0, T.i .i64 (0 : Int), T.i .i64 (x304 : Int), T.sl x306]
def f39_1_c (r303 : List T) (x304 : Nat) (x305 : Int) (x306 : List T) : CSt := ⟨[.rf 1 [] 0 (some (0, x304)), .ro 0 false [.sl false [.i .i64]] (asL (nth r303 1)), .i .i64 ((asL (nth r303 1)).length : Int), .i .i64 x305], [.dead, .row false [.i .i64] x306 0 false]⟩
theorem f39_1_round (c : Orc) (lf : Nat) (r303 : List T) (L : CSt → Option (List T)) (x304 : Nat) (x305 : Int) (x306 : List T) :
 roundK c env lf 6 fi39 1 11 [(6, 2)] [6, 25, 26, 27] (x39_11_0) L (f39_1_c r303 x304 x305 x306) = f39_1_s c lf r303 (fun x304 x305 x306 => L (f39_1_c r303 x304 x305 x306)) x304 x305 x306 := by kernel_rfl
def f39_1 (c : Orc) (lf : Nat) (r303 : List T) : Nat → Nat → Int → List T → Option (List T)
 | 0 => fun _ _ _ => none
 | n + 1 => fun x304 x305 x306 => f39_1_s c lf r303 (f39_1 c lf r303 n) x304 x305 x306
theorem f39_1_u (c : Orc) (lf : Nat) (r303 : List T) (n x304 : Nat) (x305 : Int) (x306 : List T) : f39_1 c lf r303 (n + 1) x304 x305 x306 = f39_1_s c lf r303 (f39_1 c lf r303 n) x304 x305 x306 := rfl
theorem f39_1_eq (c : Orc) (lf : Nat) (r303 : List T) (n x304 : Nat) (x305 : Int) (x306 : List T) :
 lpK c env lf 6 fi39 1 11 [(6, 2)] [6, 25, 26, 27] (x39_11_0) n (f39_1_c r303 x304 x305 x306) = f39_1 c lf r303 n x304 x305 x306 := by
 induction n generalizing x304 x305 x306 with
 | zero => rfl
 | succ n ih =>
  refine (f39_1_round c lf r303 _ x304 x305 x306).trans ?_
  have e : (fun x304 x305 x306 => lpK c env lf 6 fi39 1 11 [(6, 2)] [6, 25, 26, 27] (x39_11_0) n (f39_1_c r303 x304 x305 x306)) = f39_1 c lf r303 n := by funext x304 x305 x306; exact ih x304 x305 x306
  show f39_1_s c lf r303 (fun x304 x305 x306 => lpK c env lf 6 fi39 1 11 [(6, 2)] [6, 25, 26, 27] (x39_11_0) n (f39_1_c r303 x304 x305 x306)) x304 x305 x306 = _
  rw [e]; rfl
def f39_t (c : Orc) (lf : Nat) (lp0 : List T → Int → Int → Option (List T)) (lp1 : List T → Nat → Int → List T → Option (List T)) (l0 : List T) : Option (List T) :=
 (lp0 l0 0 0).bind fun r303 =>
 bif iLt (asI (nth r303 2)) 0 then
  none
 else
  bif iLt 0 (IntKind.wrap .i64 ((asI (nth r303 2)) - 0)) then
  bif iLe 1 (IntKind.wrap .i64 ((asI (nth r303 2)) - 0)) && iLe (IntKind.wrap .i64 ((asI (nth r303 2)) - 0)) (LIM : Int) then
  bif iLe 0 0 && iLe 0 0 && iLe 0 (((List.replicate (IntKind.wrap .i64 ((asI (nth r303 2)) - 0)).toNat (T.i .i64 0)).length : Nat) : Int) then
  (lp1 r303 (0 - 0) 0 (List.replicate (IntKind.wrap .i64 ((asI (nth r303 2)) - 0)).toNat (T.i .i64 0))).bind fun r307 =>
  some [T.sl (((asL (nth r307 3)).drop ((asI (nth r307 1)).toNat)).take ((asI (nth r307 2)).toNat))]
  else none
  else none
  else none
def f39 (c : Orc) (lf : Nat) (l0 : List T) : Option (List T) := f39_t c lf (fun (l0 : List T) (x301 x302 : Int) => f39_0 c lf l0 lf x301 x302) (fun (r303 : List T) (x304 : Nat) (x305 : Int) (x306 : List T) => f39_1 c lf r303 lf x304 x305 x306) l0
theorem f39_raw (c : Orc) (lf : Nat) (l0 : List T) : funK c env lf 6 fi39 [.sl l0] = f39_t c lf (fun (l0 : List T) (x301 x302 : Int) => lpK c env lf 6 fi39 1 3 [] [0, 3, 9, 10, 11] (x39_3_0) lf (f39_0_c l0 x301 x302)) (fun (r303 : List T) (x304 : Nat) (x305 : Int) (x306 : List T) => lpK c env lf 6 fi39 1 11 [(6, 2)] [6, 25, 26, 27] (x39_11_0) lf (f39_1_c r303 x304 x305 x306)) l0 := by kernel_rfl
theorem f39_eq (c : Orc) (lf : Nat) (l0 : List T) : funK c env lf 6 fi39 [.sl l0] = f39 c lf l0 := by
 refine (f39_raw c lf l0).trans ?_
 have e0 : (fun (l0 : List T) (x301 x302 : Int) => lpK c env lf 6 fi39 1 3 [] [0, 3, 9, 10, 11] (x39_3_0) lf (f39_0_c l0 x301 x302)) = (fun (l0 : List T) (x301 x302 : Int) => f39_0 c lf l0 lf x301 x302) := by funext l0 x301 x302; exact f39_0_eq c lf l0 lf x301 x302
 have e1 : (fun (r303 : List T) (x304 : Nat) (x305 : Int) (x306 : List T) => lpK c env lf 6 fi39 1 11 [(6, 2)] [6, 25, 26, 27] (x39_11_0) lf (f39_1_c r303 x304 x305 x306)) = (fun (r303 : List T) (x304 : Nat) (x305 : Int) (x306 : List T) => f39_1 c lf r303 lf x304 x305 x306) := by funext r303 x304 x305 x306; exact f39_1_eq c lf r303 lf x304 x305 x306
 rw [e0, e1]; rfl
def f22_1_s (c : Orc) (lf : Nat) (l0 : List T) (x322 : Int) (L : Int → Int → List T → Option (List T)) (x323 x324 : Int) (x325 : List T) : Option (List T) :=
 bif iLt x324 ((((l0.length : Int).toNat) - x322.toNat : Nat) : Int) then
  bif inR x324 (((l0.length : Int).toNat) - x322.toNat) then
  bif inR (IntKind.wrap .i64 (x324 - 1)) (((l0.length : Int).toNat) - x322.toNat) then
  bif (asI (x325.getD (x322.toNat + x324.toNat) T.u)) != (asI (x325.getD (x322.toNat + ((IntKind.wrap .i64 (x324 - 1)).toNat)) T.u)) then
   bif inR x324 (((l0.length : Int).toNat) - x322.toNat) then
   bif inR x323 x325.length then
   L (IntKind.wrap .i64 (x323 + 1)) (IntKind.wrap .i64 (x324 + 1)) (x325.set x323.toNat (T.i .i64 (asI (x325.getD (x322.toNat + x324.toNat) T.u))))
   else none
   else none
  else
   L x323 (IntKind.wrap .i64 (x324 + 1)) x325
  else none
  else none
 else
  some [T.i .i64 0, T.i .i64 x323, T.sl x325]
def f22_1_c (l0 : List T) (x322 x323 x324 : Int) (x325 : List T) : CSt := ⟨[.rf 1 [] 0 none, .i .i64 x323, .rf 1 [] 0 (some (x322.toNat, ((l0.length : Int).toNat) - x322.toNat)), .i .i64 x324], [.dead, .row false [.i .i64] x325 0 false]⟩
theorem f22_1_round (c : Orc) (lf : Nat) (l0 : List T) (x322 : Int) (L : CSt → Option (List T)) (x323 x324 : Int) (x325 : List T) :
 roundK c env lf 6 fi22 1 9 [] [0, 3, 4, 5] (x22_9_0) L (f22_1_c l0 x322 x323 x324 x325) = f22_1_s c lf l0 x322 (fun x323 x324 x325 => L (f22_1_c l0 x322 x323 x324 x325)) x323 x324 x325 := by kernel_rfl
def f22_1 (c : Orc) (lf : Nat) (l0 : List T) (x322 : Int) : Nat → Int → Int → List T → Option (List T)
 | 0 => fun _ _ _ => none
 | n + 1 => fun x323 x324 x325 => f22_1_s c lf l0 x322 (f22_1 c lf l0 x322 n) x323 x324 x325
theorem f22_1_u (c : Orc) (lf : Nat) (l0 : List T) (x322 : Int) (n : Nat) (x323 x324 : Int) (x325 : List T) : f22_1 c lf l0 x322 (n + 1) x323 x324 x325 = f22_1_s c lf l0 x322 (f22_1 c lf l0 x322 n) x323 x324 x325 := rfl
theorem f22_1_eq (c : Orc) (lf : Nat) (l0 : List T) (x322 : Int) (n : Nat) (x323 x324 : Int) (x325 : List T) :
 lpK c env lf 6 fi22 1 9 [] [0, 3, 4, 5] (x22_9_0) n (f22_1_c l0 x322 x323 x324 x325) = f22_1 c lf l0 x322 n x323 x324 x325 := by
 induction n generalizing x323 x324 x325 with
 | zero => rfl
 | succ n ih =>
  refine (f22_1_round c lf l0 x322 _ x323 x324 x325).trans ?_
  have e : (fun x323 x324 x325 => lpK c env lf 6 fi22 1 9 [] [0, 3, 4, 5] (x22_9_0) n (f22_1_c l0 x322 x323 x324 x325)) = f22_1 c lf l0 x322 n := by funext x323 x324 x325; exact ih x323 x324 x325
  show f22_1_s c lf l0 x322 (fun x323 x324 x325 => lpK c env lf 6 fi22 1 9 [] [0, 3, 4, 5] (x22_9_0) n (f22_1_c l0 x322 x323 x324 x325)) x323 x324 x325 = _
  rw [e]; rfl
def f22_0_s (c : Orc) (lf : Nat) (l0 : List T) (L : Int → Option (List T)) (lp0 : List T → Int → Int → Int → List T → Option (List T)) (x322 : Int) : Option (List T) :=
 bif iLt x322 (l0.length : Int) then
  bif inR x322 l0.length then
  bif inR (IntKind.wrap .i64 (x322 - 1)) l0.length then
  bif (asI (l0.getD x322.toNat T.u)) == (asI (l0.getD ((IntKind.wrap .i64 (x322 - 1)).toNat) T.u)) then
   bif iLe 0 x322 && iLe x322 (l0.length : Int) && iLe (l0.length : Int) (l0.length : Int) then
   (lp0 l0 x322 x322 1 l0).bind fun r326 =>
   bif iLe 0 (asI (nth r326 1)) && iLe (asI (nth r326 1)) ((asL (nth r326 2)).length : Int) && iLe ((asL (nth r326 2)).length : Int) ((asL (nth r326 2)).length : Int) then
   bif iLe 0 0 && iLe 0 (asI (nth r326 1)) && iLe (asI (nth r326 1)) (((splice (asL (nth r326 2)) ((asI (nth r326 1)).toNat) (List.replicate (((asL (nth r326 2)).drop ((asI (nth r326 1)).toNat)).take ((((asL (nth r326 2)).length : Int).toNat) - ((asI (nth r326 1)).toNat))).length (T.i .i64 0))).length : Nat) : Int) then
   some [T.i .i64 0, T.i .i64 (0 : Int), T.i .i64 (((((asI (nth r326 1)).toNat) - 0) : Nat) : Int), T.sl (splice (asL (nth r326 2)) ((asI (nth r326 1)).toNat) (List.replicate (((asL (nth r326 2)).drop ((asI (nth r326 1)).toNat)).take ((((asL (nth r326 2)).length : Int).toNat) - ((asI (nth r326 1)).toNat))).length (T.i .i64 0)))]
   else none
   else none
   else none
  else
   L (IntKind.wrap .i64 (x322 + 1))
  else none
  else none
 else
  some [T.i .i64 1, T.sl l0]
def f22_0_c (l0 : List T) (x322 : Int) : CSt := ⟨[.rf 1 [] 0 none, .i .i64 x322], [.dead, .row false [.i .i64] l0 0 false]⟩
theorem f22_0_round (c : Orc) (lf : Nat) (l0 : List T) (L : CSt → Option (List T)) (x322 : Int) :
 roundK c env lf 6 fi22 1 4 [] [0, 3] (x22_4_0) L (f22_0_c l0 x322) = f22_0_s c lf l0 (fun x322 => L (f22_0_c l0 x322)) (fun (l0 : List T) (x322 x323 x324 : Int) (x325 : List T) => lpK c env lf 6 fi22 1 9 [] [0, 3, 4, 5] (x22_9_0) lf (f22_1_c l0 x322 x323 x324 x325)) x322 := by kernel_rfl
def f22_0 (c : Orc) (lf : Nat) (l0 : List T) : Nat → Int → Option (List T)
 | 0 => fun _ => none
 | n + 1 => fun x322 => f22_0_s c lf l0 (f22_0 c lf l0 n) (fun (l0 : List T) (x322 x323 x324 : Int) (x325 : List T) => f22_1 c lf l0 x322 lf x323 x324 x325) x322
theorem f22_0_u (c : Orc) (lf : Nat) (l0 : List T) (n : Nat) (x322 : Int) : f22_0 c lf l0 (n + 1) x322 = f22_0_s c lf l0 (f22_0 c lf l0 n) (fun (l0 : List T) (x322 x323 x324 : Int) (x325 : List T) => f22_1 c lf l0 x322 lf x323 x324 x325) x322 := rfl
theorem f22_0_eq (c : Orc) (lf : Nat) (l0 : List T) (n : Nat) (x322 : Int) :
 lpK c env lf 6 fi22 1 4 [] [0, 3] (x22_4_0) n (f22_0_c l0 x322) = f22_0 c lf l0 n x322 := by
 induction n generalizing x322 with
 | zero => rfl
 | succ n ih =>
  refine (f22_0_round c lf l0 _ x322).trans ?_
  have e : (fun x322 => lpK c env lf 6 fi22 1 4 [] [0, 3] (x22_4_0) n (f22_0_c l0 x322)) = f22_0 c lf l0 n := by funext x322; exact ih x322
  have e0 : (fun (l0 : List T) (x322 x323 x324 : Int) (x325 : List T) => lpK c env lf 6 fi22 1 9 [] [0, 3, 4, 5] (x22_9_0) lf (f22_1_c l0 x322 x323 x324 x325)) = (fun (l0 : List T) (x322 x323 x324 : Int) (x325 : List T) => f22_1 c lf l0 x322 lf x323 x324 x325) := by funext l0 x322 x323 x324 x325; exact f22_1_eq c lf l0 x322 lf x323 x324 x325
  show f22_0_s c lf l0 (fun x322 => lpK c env lf 6 fi22 1 4 [] [0, 3] (x22_4_0) n (f22_0_c l0 x322)) (fun (l0 : List T) (x322 x323 x324 : Int) (x325 : List T) => lpK c env lf 6 fi22 1 9 [] [0, 3, 4, 5] (x22_9_0) lf (f22_1_c l0 x322 x323 x324 x325)) x322 = _
  rw [e, e0]; rfl
def f22_t (c : Orc) (lf : Nat) (lp0 : List T → Int → Option (List T)) (l0 : List T) : Option (List T) :=
 bif iLt (l0.length : Int) 2 then
  some [T.sl l0]
 else
  (lp0 l0 1).bind fun r327 =>
  bif asI (nth r327 0) == 0 then
   some [T.sl (((asL (nth r327 3)).drop ((asI (nth r327 1)).toNat)).take ((asI (nth r327 2)).toNat))]
  else
   some [T.sl (asL (nth r327 1))]
def f22 (c : Orc) (lf : Nat) (l0 : List T) : Option (List T) := f22_t c lf (fun (l0 : List T) (x322 : Int) => f22_0 c lf l0 lf x322) l0
theorem f22_raw (c : Orc) (lf : Nat) (l0 : List T) : funK c env lf 6 fi22 [.sl l0] = f22_t c lf (fun (l0 : List T) (x322 : Int) => lpK c env lf 6 fi22 1 4 [] [0, 3] (x22_4_0) lf (f22_0_c l0 x322)) l0 := by kernel_rfl
theorem f22_eq (c : Orc) (lf : Nat) (l0 : List T) : funK c env lf 6 fi22 [.sl l0] = f22 c lf l0 := by
 refine (f22_raw c lf l0).trans ?_
 have e0 : (fun (l0 : List T) (x322 : Int) => lpK c env lf 6 fi22 1 4 [] [0, 3] (x22_4_0) lf (f22_0_c l0 x322)) = (fun (l0 : List T) (x322 : Int) => f22_0 c lf l0 lf x322) := by funext l0 x322; exact f22_0_eq c lf l0 lf x322
 rw [e0]; rfl
def f41_t (c : Orc) (lf : Nat) (n0 : Int) : Option (List T) :=
 some [T.b (iLt n0 0)]
def f41 (c : Orc) (lf : Nat) (n0 : Int) : Option (List T) := f41_t c lf n0
theorem f41_eq (c : Orc) (lf : Nat) (n0 : Int) : funK c env lf 6 fi41 [.i .i64 n0] = f41 c lf n0 := by kernel_rfl
def f26_0_s (c : Orc) (lf : Nat) (r345 : List T) (L : Int → Option (List T)) (x347 : Int) : Option (List T) :=
 bif iLt x347 ((asL (nth r345 0)).length : Int) then
  bif inR x347 ((asL (nth r345 0)).length) then
  (c 41 [T.i .i64 (asI ((asL (nth r345 0)).getD x347.toNat T.u))]).bind fun r348 =>
  bif asB (nth r348 0) then
   some [T.i .i64 0, T.i .i64 x347, T.sl (asL (nth r345 0))]
  else
   L (IntKind.wrap .i64 (x347 + 1))
  else none
 else
  some [T.i .i64 1, T.sl (asL (nth r345 0))]
def f26_0_c (r345 : List T) (x347 : Int) : CSt := ⟨[.rf 0 [] 0 none, .fn 41 [], .i .i64 ((asL (nth r345 0)).length : Int), .i .i64 x347], [.row false [.i .i64] (asL (nth r345 0)) 0 false]⟩
theorem f26_0_round (c : Orc) (lf : Nat) (r345 : List T) (L : CSt → Option (List T)) (x347 : Int) :
 roundK c env lf 4 fi64 1 2 [] [0, 1, 7, 8] (x64_2_0) L (f26_0_c r345 x347) = f26_0_s c lf r345 (fun x347 => L (f26_0_c r345 x347)) x347 := by kernel_rfl
def f26_0 (c : Orc) (lf : Nat) (r345 : List T) : Nat → Int → Option (List T)
 | 0 => fun _ => none
 | n + 1 => fun x347 => f26_0_s c lf r345 (f26_0 c lf r345 n) x347
theorem f26_0_u (c : Orc) (lf : Nat) (r345 : List T) (n : Nat) (x347 : Int) : f26_0 c lf r345 (n + 1) x347 = f26_0_s c lf r345 (f26_0 c lf r345 n) x347 := rfl
theorem f26_0_eq (c : Orc) (lf : Nat) (r345 : List T) (n : Nat) (x347 : Int) :
 lpK c env lf 4 fi64 1 2 [] [0, 1, 7, 8] (x64_2_0) n (f26_0_c r345 x347) = f26_0 c lf r345 n x347 := by
 induction n generalizing x347 with
 | zero => rfl
 | succ n ih =>
  refine (f26_0_round c lf r345 _ x347).trans ?_
  have e : (fun x347 => lpK c env lf 4 fi64 1 2 [] [0, 1, 7, 8] (x64_2_0) n (f26_0_c r345 x347)) = f26_0 c lf r345 n := by funext x347; exact ih x347
  show f26_0_s c lf r345 (fun x347 => lpK c env lf 4 fi64 1 2 [] [0, 1, 7, 8] (x64_2_0) n (f26_0_c r345 x347)) x347 = _
  rw [e]; rfl
def f26_1_s (c : Orc) (lf : Nat) (L : Int → Int → List T → Option (List T)) (x351 x352 : Int) (x353 : List T) : Option (List T) :=
 bif iLt x352 (x353.length : Int) then
  bif inR x352 x353.length then
  (c 41 [T.i .i64 (asI (x353.getD x352.toNat T.u))]).bind fun r354 =>
  bif !(asB (nth r354 0)) then
   bif inR x351 x353.length then
   L (IntKind.wrap .i64 (x351 + 1)) (IntKind.wrap .i64 (x352 + 1)) (x353.set x351.toNat (T.i .i64 (asI (x353.getD x352.toNat T.u))))
   else none
  else
   L x351 (IntKind.wrap .i64 (x352 + 1)) x353
  else none
 else
  some [T.i .i64 0, T.i .i64 x351, T.sl x353]
def f26_1_c (x351 x352 : Int) (x353 : List T) : CSt := ⟨[.rf 0 [] 0 none, .fn 41 [], .i .i64 x351, .i .i64 x352], [.row false [.i .i64] x353 0 false]⟩
theorem f26_1_round (c : Orc) (lf : Nat) (L : CSt → Option (List T)) (x351 x352 : Int) (x353 : List T) :
 roundK c env lf 5 fi40 1 5 [] [0, 1, 5, 6] (x40_5_0) L (f26_1_c x351 x352 x353) = f26_1_s c lf (fun x351 x352 x353 => L (f26_1_c x351 x352 x353)) x351 x352 x353 := by kernel_rfl
def f26_1 (c : Orc) (lf : Nat) : Nat → Int → Int → List T → Option (List T)
 | 0 => fun _ _ _ => none
 | n + 1 => fun x351 x352 x353 => f26_1_s c lf (f26_1 c lf n) x351 x352 x353
theorem f26_1_u (c : Orc) (lf n : Nat) (x351 x352 : Int) (x353 : List T) : f26_1 c lf (n + 1) x351 x352 x353 = f26_1_s c lf (f26_1 c lf n) x351 x352 x353 := rfl
theorem f26_1_eq (c : Orc) (lf n : Nat) (x351 x352 : Int) (x353 : List T) :
 lpK c env lf 5 fi40 1 5 [] [0, 1, 5, 6] (x40_5_0) n (f26_1_c x351 x352 x353) = f26_1 c lf n x351 x352 x353 := by
 induction n generalizing x351 x352 x353 with
 | zero => rfl
 | succ n ih =>
  refine (f26_1_round c lf _ x351 x352 x353).trans ?_
  have e : (fun x351 x352 x353 => lpK c env lf 5 fi40 1 5 [] [0, 1, 5, 6] (x40_5_0) n (f26_1_c x351 x352 x353)) = f26_1 c lf n := by funext x351 x352 x353; exact ih x351 x352 x353
  show f26_1_s c lf (fun x351 x352 x353 => lpK c env lf 5 fi40 1 5 [] [0, 1, 5, 6] (x40_5_0) n (f26_1_c x351 x352 x353)) x351 x352 x353 = _
  rw [e]; rfl
def f26_t (c : Orc) (lf : Nat) (lp0 : List T → Int → Option (List T)) (lp1 : Int → Int → List T → Option (List T)) (l0_0 : List T) (n0_1 n0_2 : Int) (l0_3 l0_4 : List T) (n0_5 n0_6 : Int) : Option (List T) :=
 (c 20 [T.st [T.sl l0_0, T.i .i64 n0_1, T.i .i64 n0_2, T.sl l0_3, T.sl l0_4, T.i .i64 n0_5, T.i .i64 n0_6]]).bind fun r342 =>
 bif nLe ((asL (nth r342 0)).length + ([T.sl ([T.i .i64 n0_6, T.i .i64 n0_5] : List T)] : List T).length) LIM then
 (c 39 [T.sl ((asL (nth r342 0)) ++ ([T.sl ([T.i .i64 n0_6, T.i .i64 n0_5] : List T)] : List T))]).bind fun r343 =>
 (c 21 [T.sl (asL (nth r343 0))]).bind fun r344 =>
 (c 22 [T.sl (asL (nth r344 0))]).bind fun r345 =>
 (lp0 r345 0).bind fun r349 =>
 bif asI (nth r349 0) == 0 then
  bif (asI (nth r349 1)) == (-1) then
   some [T.sl (asL (nth r349 2))]
  else
   (lp1 (asI (nth r349 1)) (IntKind.wrap .i64 ((asI (nth r349 1)) + 1)) (asL (nth r349 2))).bind fun r355 =>
   bif iLe 0 (asI (nth r355 1)) && iLe (asI (nth r355 1)) ((asL (nth r355 2)).length : Int) && iLe ((asL (nth r355 2)).length : Int) ((asL (nth r355 2)).length : Int) then
   bif iLe 0 0 && iLe 0 (asI (nth r355 1)) && iLe (asI (nth r355 1)) (((splice (asL (nth r355 2)) ((asI (nth r355 1)).toNat) (List.replicate (((asL (nth r355 2)).drop ((asI (nth r355 1)).toNat)).take ((((asL (nth r355 2)).length : Int).toNat) - ((asI (nth r355 1)).toNat))).length (T.i .i64 0))).length : Nat) : Int) then
   some [T.sl (((splice (asL (nth r355 2)) ((asI (nth r355 1)).toNat) (List.replicate (((asL (nth r355 2)).drop ((asI (nth r355 1)).toNat)).take ((((asL (nth r355 2)).length : Int).toNat) - ((asI (nth r355 1)).toNat))).length (T.i .i64 0))).drop 0).take (((asI (nth r355 1)).toNat) - 0))]
   else none
   else none
 else
  some [T.sl (asL (nth r349 1))]
 else none
def f26 (c : Orc) (lf : Nat) (l0_0 : List T) (n0_1 n0_2 : Int) (l0_3 l0_4 : List T) (n0_5 n0_6 : Int) : Option (List T) := f26_t c lf (fun (r345 : List T) (x347 : Int) => f26_0 c lf r345 lf x347) (fun (x351 x352 : Int) (x353 : List T) => f26_1 c lf lf x351 x352 x353) l0_0 n0_1 n0_2 l0_3 l0_4 n0_5 n0_6
theorem f26_raw (c : Orc) (lf : Nat) (l0_0 : List T) (n0_1 n0_2 : Int) (l0_3 l0_4 : List T) (n0_5 n0_6 : Int) : funK c env lf 6 fi26 [.st [.sl l0_0, .i .i64 n0_1, .i .i64 n0_2, .sl l0_3, .sl l0_4, .i .i64 n0_5, .i .i64 n0_6]] = f26_t c lf (fun (r345 : List T) (x347 : Int) => lpK c env lf 4 fi64 1 2 [] [0, 1, 7, 8] (x64_2_0) lf (f26_0_c r345 x347)) (fun (x351 x352 : Int) (x353 : List T) => lpK c env lf 5 fi40 1 5 [] [0, 1, 5, 6] (x40_5_0) lf (f26_1_c x351 x352 x353)) l0_0 n0_1 n0_2 l0_3 l0_4 n0_5 n0_6 := by kernel_rfl
theorem f26_eq (c : Orc) (lf : Nat) (l0_0 : List T) (n0_1 n0_2 : Int) (l0_3 l0_4 : List T) (n0_5 n0_6 : Int) : funK c env lf 6 fi26 [.st [.sl l0_0, .i .i64 n0_1, .i .i64 n0_2, .sl l0_3, .sl l0_4, .i .i64 n0_5, .i .i64 n0_6]] = f26 c lf l0_0 n0_1 n0_2 l0_3 l0_4 n0_5 n0_6 := by
 refine (f26_raw c lf l0_0 n0_1 n0_2 l0_3 l0_4 n0_5 n0_6).trans ?_
 have e0 : (fun (r345 : List T) (x347 : Int) => lpK c env lf 4 fi64 1 2 [] [0, 1, 7, 8] (x64_2_0) lf (f26_0_c r345 x347)) = (fun (r345 : List T) (x347 : Int) => f26_0 c lf r345 lf x347) := by funext r345 x347; exact f26_0_eq c lf r345 lf x347
 have e1 : (fun (x351 x352 : Int) (x353 : List T) => lpK c env lf 5 fi40 1 5 [] [0, 1, 5, 6] (x40_5_0) lf (f26_1_c x351 x352 x353)) = (fun (x351 x352 : Int) (x353 : List T) => f26_1 c lf lf x351 x352 x353) := by funext x351 x352 x353; exact f26_1_eq c lf lf x351 x352 x353
 rw [e0, e1]; rfl
def f11_0_s (c : Orc) (lf : Nat) (n1 : Int) (r360 : List T) (L : Int → Int → Option (List T)) (x361 x362 : Int) : Option (List T) :=
 bif iLt x362 ((asL (nth r360 0)).length : Int) then
  bif inR x362 ((asL (nth r360 0)).length) then
  bif (IntKind.wrap .i64 ((asI ((asL (nth r360 0)).getD x362.toNat T.u)).tdiv 8)) == n1 then
   L (IntKind.wrap .i64 (x361 + 1)) (IntKind.wrap .i64 (x362 + 1))
  else
   L x361 (IntKind.wrap .i64 (x362 + 1))
  else none
 else
  some [T.i .i64 0, T.i .i64 x361]
def f11_0_c (n1 : Int) (r360 : List T) (x361 x362 : Int) : CSt := ⟨[.i .i64 n1, .i .i64 x361, .rf 8 [] 0 none, .i .i64 ((asL (nth r360 0)).length : Int), .i .i64 x362], [.dead, .dead, .dead, .dead, .dead, .dead, .dead, .dead, .row false [.i .i64] (asL (nth r360 0)) 0 false]⟩
theorem f11_0_round (c : Orc) (lf : Nat) (n1 : Int) (r360 : List T) (L : CSt → Option (List T)) (x361 x362 : Int) :
 roundK c env lf 6 fi11 8 3 [] [1, 5, 9, 10, 11] (x11_3_0) L (f11_0_c n1 r360 x361 x362) = f11_0_s c lf n1 r360 (fun x361 x362 => L (f11_0_c n1 r360 x361 x362)) x361 x362 := by kernel_rfl
def f11_0 (c : Orc) (lf : Nat) (n1 : Int) (r360 : List T) : Nat → Int → Int → Option (List T)
 | 0 => fun _ _ => none
 | n + 1 => fun x361 x362 => f11_0_s c lf n1 r360 (f11_0 c lf n1 r360 n) x361 x362
theorem f11_0_u (c : Orc) (lf : Nat) (n1 : Int) (r360 : List T) (n : Nat) (x361 x362 : Int) : f11_0 c lf n1 r360 (n + 1) x361 x362 = f11_0_s c lf n1 r360 (f11_0 c lf n1 r360 n) x361 x362 := rfl
theorem f11_0_eq (c : Orc) (lf : Nat) (n1 : Int) (r360 : List T) (n : Nat) (x361 x362 : Int) :
 lpK c env lf 6 fi11 8 3 [] [1, 5, 9, 10, 11] (x11_3_0) n (f11_0_c n1 r360 x361 x362) = f11_0 c lf n1 r360 n x361 x362 := by
 induction n generalizing x361 x362 with
 | zero => rfl
 | succ n ih =>
  refine (f11_0_round c lf n1 r360 _ x361 x362).trans ?_
  have e : (fun x361 x362 => lpK c env lf 6 fi11 8 3 [] [1, 5, 9, 10, 11] (x11_3_0) n (f11_0_c n1 r360 x361 x362)) = f11_0 c lf n1 r360 n := by funext x361 x362; exact ih x361 x362
  show f11_0_s c lf n1 r360 (fun x361 x362 => lpK c env lf 6 fi11 8 3 [] [1, 5, 9, 10, 11] (x11_3_0) n (f11_0_c n1 r360 x361 x362)) x361 x362 = _
  rw [e]; rfl
def f11_t (c : Orc) (lf : Nat) (lp0 : Int → List T → Int → Int → Option (List T)) (l0_0 : List T) (n0_1 n0_2 : Int) (l0_3 l0_4 : List T) (n0_5 n0_6 n1 : Int) : Option (List T) :=
 (c 26 [T.st [T.sl l0_0, T.i .i64 n0_1, T.i .i64 n0_2, T.sl l0_3, T.sl l0_4, T.i .i64 n0_5, T.i .i64 n0_6]]).bind fun r360 =>
 (lp0 n1 r360 0 0).bind fun r363 =>
 some [T.i .i64 (asI (nth r363 1))]
def f11 (c : Orc) (lf : Nat) (l0_0 : List T) (n0_1 n0_2 : Int) (l0_3 l0_4 : List T) (n0_5 n0_6 n1 : Int) : Option (List T) := f11_t c lf (fun (n1 : Int) (r360 : List T) (x361 x362 : Int) => f11_0 c lf n1 r360 lf x361 x362) l0_0 n0_1 n0_2 l0_3 l0_4 n0_5 n0_6 n1
theorem f11_raw (c : Orc) (lf : Nat) (l0_0 : List T) (n0_1 n0_2 : Int) (l0_3 l0_4 : List T) (n0_5 n0_6 n1 : Int) : funK c env lf 6 fi11 [.st [.sl l0_0, .i .i64 n0_1, .i .i64 n0_2, .sl l0_3, .sl l0_4, .i .i64 n0_5, .i .i64 n0_6], .i .i64 n1] = f11_t c lf (fun (n1 : Int) (r360 : List T) (x361 x362 : Int) => lpK c env lf 6 fi11 8 3 [] [1, 5, 9, 10, 11] (x11_3_0) lf (f11_0_c n1 r360 x361 x362)) l0_0 n0_1 n0_2 l0_3 l0_4 n0_5 n0_6 n1 := by kernel_rfl
theorem f11_eq (c : Orc) (lf : Nat) (l0_0 : List T) (n0_1 n0_2 : Int) (l0_3 l0_4 : List T) (n0_5 n0_6 n1 : Int) : funK c env lf 6 fi11 [.st [.sl l0_0, .i .i64 n0_1, .i .i64 n0_2, .sl l0_3, .sl l0_4, .i .i64 n0_5, .i .i64 n0_6], .i .i64 n1] = f11 c lf l0_0 n0_1 n0_2 l0_3 l0_4 n0_5 n0_6 n1 := by
 refine (f11_raw c lf l0_0 n0_1 n0_2 l0_3 l0_4 n0_5 n0_6 n1).trans ?_
 have e0 : (fun (n1 : Int) (r360 : List T) (x361 x362 : Int) => lpK c env lf 6 fi11 8 3 [] [1, 5, 9, 10, 11] (x11_3_0) lf (f11_0_c n1 r360 x361 x362)) = (fun (n1 : Int) (r360 : List T) (x361 x362 : Int) => f11_0 c lf n1 r360 lf x361 x362) := by funext n1 r360 x361 x362; exact f11_0_eq c lf n1 r360 lf x361 x362
 rw [e0]; rfl
def f90_0_s (c : Orc) (lf : Nat) (l0 l1 : List T) (L : Int → Option (List T)) (x366 : Int) : Option (List T) :=
 bif iLt x366 (l0.length : Int) then
  bif inR x366 l0.length then
  bif inR x366 l1.length then
  bif (asI (l0.getD x366.toNat T.u)) != (asI (l1.getD x366.toNat T.u)) then
   some [T.i .i64 0, T.b false]
  else
   L (IntKind.wrap .i64 (x366 + 1))
  else none
  else none
 else
  some [T.i .i64 1]
def f90_0_c (l0 l1 : List T) (x366 : Int) : CSt := ⟨[.ro 0 false [.i .u8] l0, .ro 0 false [.i .u8] l1, .i .i64 x366], [.dead, .dead]⟩
theorem f90_0_round (c : Orc) (lf : Nat) (l0 l1 : List T) (L : CSt → Option (List T)) (x366 : Int) :
 roundK c env lf 6 fi90 2 4 [] [0, 1, 5] (x90_4_0) L (f90_0_c l0 l1 x366) = f90_0_s c lf l0 l1 (fun x366 => L (f90_0_c l0 l1 x366)) x366 := by kernel_rfl
def f90_0 (c : Orc) (lf : Nat) (l0 l1 : List T) : Nat → Int → Option (List T)
 | 0 => fun _ => none
 | n + 1 => fun x366 => f90_0_s c lf l0 l1 (f90_0 c lf l0 l1 n) x366
theorem f90_0_eq (c : Orc) (lf : Nat) (l0 l1 : List T) (n : Nat) (x366 : Int) :
 lpK c env lf 6 fi90 2 4 [] [0, 1, 5] (x90_4_0) n (f90_0_c l0 l1 x366) = f90_0 c lf l0 l1 n x366 := by
 induction n generalizing x366 with
 | zero => rfl
 | succ n ih =>
  refine (f90_0_round c lf l0 l1 _ x366).trans ?_
  have e : (fun x366 => lpK c env lf 6 fi90 2 4 [] [0, 1, 5] (x90_4_0) n (f90_0_c l0 l1 x366)) = f90_0 c lf l0 l1 n := by funext x366; exact ih x366
  show f90_0_s c lf l0 l1 (fun x366 => lpK c env lf 6 fi90 2 4 [] [0, 1, 5] (x90_4_0) n (f90_0_c l0 l1 x366)) x366 = _
  rw [e]; rfl
def f90_t (c : Orc) (lf : Nat) (lp0 : List T → List T → Int → Option (List T)) (l0 l1 : List T) : Option (List T) :=
 bif (l0.length : Int) != (l1.length : Int) then
  some [T.b false]
 else
  (lp0 l0 l1 0).bind fun r367 =>
  bif asI (nth r367 0) == 0 then
   some [T.b (asB (nth r367 1))]
  else
   some [T.b true]
def f90 (c : Orc) (lf : Nat) (l0 l1 : List T) : Option (List T) := f90_t c lf (fun (l0 l1 : List T) (x366 : Int) => f90_0 c lf l0 l1 lf x366) l0 l1
theorem f90_raw (c : Orc) (lf : Nat) (l0 l1 : List T) : funK c env lf 6 fi90 [.sl l0, .sl l1] = f90_t c lf (fun (l0 l1 : List T) (x366 : Int) => lpK c env lf 6 fi90 2 4 [] [0, 1, 5] (x90_4_0) lf (f90_0_c l0 l1 x366)) l0 l1 := by kernel_rfl
theorem f90_eq (c : Orc) (lf : Nat) (l0 l1 : List T) : funK c env lf 6 fi90 [.sl l0, .sl l1] = f90 c lf l0 l1 := by
 refine (f90_raw c lf l0 l1).trans ?_
 have e0 : (fun (l0 l1 : List T) (x366 : Int) => lpK c env lf 6 fi90 2 4 [] [0, 1, 5] (x90_4_0) lf (f90_0_c l0 l1 x366)) = (fun (l0 l1 : List T) (x366 : Int) => f90_0 c lf l0 l1 lf x366) := by funext l0 l1 x366; exact f90_0_eq c lf l0 l1 lf x366
 rw [e0]; rfl
def f97_t (c : Orc) (lf : Nat) (s0_0 : ByteArray) (n0_1 : Int) (s1_0 : ByteArray) (n1_1 : Int) : Option (List T) :=
 bif !(s0_0.toList == s1_0.toList) then
  some [T.b false]
 else
  bif n0_1 != n1_1 then
   some [T.b false]
  else
   some [T.b true]
def f97 (c : Orc) (lf : Nat) (s0_0 : ByteArray) (n0_1 : Int) (s1_0 : ByteArray) (n1_1 : Int) : Option (List T) := f97_t c lf s0_0 n0_1 s1_0 n1_1
theorem f97_eq (c : Orc) (lf : Nat) (s0_0 : ByteArray) (n0_1 : Int) (s1_0 : ByteArray) (n1_1 : Int) : funK c env lf 6 fi97 [.st [.s s0_0, .i .i64 n0_1], .st [.s s1_0, .i .i64 n1_1]] = f97 c lf s0_0 n0_1 s1_0 n1_1 := by kernel_rfl
def f91_0_s (c : Orc) (lf : Nat) (l0 l1 : List T) (L : Int → Option (List T)) (x373 : Int) : Option (List T) :=
 bif iLt x373 (l0.length : Int) then
  bif inR x373 l0.length then
  bif inR x373 l1.length then
  (c 97 [T.st [T.s (asS (T.cell (l0.getD x373.toNat T.u) 0)), T.i .i64 (asI (T.cell (l0.getD x373.toNat T.u) 1))], T.st [T.s (asS (T.cell (l1.getD x373.toNat T.u) 0)), T.i .i64 (asI (T.cell (l1.getD x373.toNat T.u) 1))]]).bind fun r374 =>
  bif !(asB (nth r374 0)) then
   some [T.i .i64 0, T.b false]
  else
   L (IntKind.wrap .i64 (x373 + 1))
  else none
  else none
 else
  some [T.i .i64 1]
def f91_0_c (l0 l1 : List T) (x373 : Int) : CSt := ⟨[.ro 0 true [.s, .i .i64] l0, .ro 0 true [.s, .i .i64] l1, .i .i64 x373], [.dead, .dead]⟩
theorem f91_0_round (c : Orc) (lf : Nat) (l0 l1 : List T) (L : CSt → Option (List T)) (x373 : Int) :
 roundK c env lf 6 fi91 2 4 [] [0, 1, 5] (x91_4_0) L (f91_0_c l0 l1 x373) = f91_0_s c lf l0 l1 (fun x373 => L (f91_0_c l0 l1 x373)) x373 := by kernel_rfl
def f91_0 (c : Orc) (lf : Nat) (l0 l1 : List T) : Nat → Int → Option (List T)
 | 0 => fun _ => none
 | n + 1 => fun x373 => f91_0_s c lf l0 l1 (f91_0 c lf l0 l1 n) x373
theorem f91_0_eq (c : Orc) (lf : Nat) (l0 l1 : List T) (n : Nat) (x373 : Int) :
 lpK c env lf 6 fi91 2 4 [] [0, 1, 5] (x91_4_0) n (f91_0_c l0 l1 x373) = f91_0 c lf l0 l1 n x373 := by
 induction n generalizing x373 with
 | zero => rfl
 | succ n ih =>
  refine (f91_0_round c lf l0 l1 _ x373).trans ?_
  have e : (fun x373 => lpK c env lf 6 fi91 2 4 [] [0, 1, 5] (x91_4_0) n (f91_0_c l0 l1 x373)) = f91_0 c lf l0 l1 n := by funext x373; exact ih x373
  show f91_0_s c lf l0 l1 (fun x373 => lpK c env lf 6 fi91 2 4 [] [0, 1, 5] (x91_4_0) n (f91_0_c l0 l1 x373)) x373 = _
  rw [e]; rfl
def f91_t (c : Orc) (lf : Nat) (lp0 : List T → List T → Int → Option (List T)) (l0 l1 : List T) : Option (List T) :=
 bif (l0.length : Int) != (l1.length : Int) then
  some [T.b false]
 else
  (lp0 l0 l1 0).bind fun r375 =>
  bif asI (nth r375 0) == 0 then
   some [T.b (asB (nth r375 1))]
  else
   some [T.b true]
def f91 (c : Orc) (lf : Nat) (l0 l1 : List T) : Option (List T) := f91_t c lf (fun (l0 l1 : List T) (x373 : Int) => f91_0 c lf l0 l1 lf x373) l0 l1
theorem f91_raw (c : Orc) (lf : Nat) (l0 l1 : List T) : funK c env lf 6 fi91 [.sl l0, .sl l1] = f91_t c lf (fun (l0 l1 : List T) (x373 : Int) => lpK c env lf 6 fi91 2 4 [] [0, 1, 5] (x91_4_0) lf (f91_0_c l0 l1 x373)) l0 l1 := by kernel_rfl
theorem f91_eq (c : Orc) (lf : Nat) (l0 l1 : List T) : funK c env lf 6 fi91 [.sl l0, .sl l1] = f91 c lf l0 l1 := by
 refine (f91_raw c lf l0 l1).trans ?_
 have e0 : (fun (l0 l1 : List T) (x373 : Int) => lpK c env lf 6 fi91 2 4 [] [0, 1, 5] (x91_4_0) lf (f91_0_c l0 l1 x373)) = (fun (l0 l1 : List T) (x373 : Int) => f91_0 c lf l0 l1 lf x373) := by funext l0 l1 x373; exact f91_0_eq c lf l0 l1 lf x373
 rw [e0]; rfl
def f98_t (c : Orc) (lf : Nat) (s0_0 s0_1 : ByteArray) (s1_0 s1_1 : ByteArray) : Option (List T) :=
 bif !(s0_0.toList == s1_0.toList) then
  some [T.b false]
 else
  bif !(s0_1.toList == s1_1.toList) then
   some [T.b false]
  else
   some [T.b true]
def f98 (c : Orc) (lf : Nat) (s0_0 s0_1 : ByteArray) (s1_0 s1_1 : ByteArray) : Option (List T) := f98_t c lf s0_0 s0_1 s1_0 s1_1
theorem f98_eq (c : Orc) (lf : Nat) (s0_0 s0_1 : ByteArray) (s1_0 s1_1 : ByteArray) : funK c env lf 6 fi98 [.st [.s s0_0, .s s0_1], .st [.s s1_0, .s s1_1]] = f98 c lf s0_0 s0_1 s1_0 s1_1 := by kernel_rfl
def f92_0_s (c : Orc) (lf : Nat) (l0 l1 : List T) (L : Int → Option (List T)) (x381 : Int) : Option (List T) :=
 bif iLt x381 (l0.length : Int) then
  bif inR x381 l0.length then
  bif inR x381 l1.length then
  (c 98 [T.st [T.s (asS (T.cell (l0.getD x381.toNat T.u) 0)), T.s (asS (T.cell (l0.getD x381.toNat T.u) 1))], T.st [T.s (asS (T.cell (l1.getD x381.toNat T.u) 0)), T.s (asS (T.cell (l1.getD x381.toNat T.u) 1))]]).bind fun r382 =>
  bif !(asB (nth r382 0)) then
   some [T.i .i64 0, T.b false]
  else
   L (IntKind.wrap .i64 (x381 + 1))
  else none
  else none
 else
  some [T.i .i64 1]
def f92_0_c (l0 l1 : List T) (x381 : Int) : CSt := ⟨[.ro 0 true [.s, .s] l0, .ro 0 true [.s, .s] l1, .i .i64 x381], [.dead, .dead]⟩
theorem f92_0_round (c : Orc) (lf : Nat) (l0 l1 : List T) (L : CSt → Option (List T)) (x381 : Int) :
 roundK c env lf 6 fi92 2 4 [] [0, 1, 5] (x92_4_0) L (f92_0_c l0 l1 x381) = f92_0_s c lf l0 l1 (fun x381 => L (f92_0_c l0 l1 x381)) x381 := by kernel_rfl
def f92_0 (c : Orc) (lf : Nat) (l0 l1 : List T) : Nat → Int → Option (List T)
 | 0 => fun _ => none
 | n + 1 => fun x381 => f92_0_s c lf l0 l1 (f92_0 c lf l0 l1 n) x381
theorem f92_0_eq (c : Orc) (lf : Nat) (l0 l1 : List T) (n : Nat) (x381 : Int) :
 lpK c env lf 6 fi92 2 4 [] [0, 1, 5] (x92_4_0) n (f92_0_c l0 l1 x381) = f92_0 c lf l0 l1 n x381 := by
 induction n generalizing x381 with
 | zero => rfl
 | succ n ih =>
  refine (f92_0_round c lf l0 l1 _ x381).trans ?_
  have e : (fun x381 => lpK c env lf 6 fi92 2 4 [] [0, 1, 5] (x92_4_0) n (f92_0_c l0 l1 x381)) = f92_0 c lf l0 l1 n := by funext x381; exact ih x381
  show f92_0_s c lf l0 l1 (fun x381 => lpK c env lf 6 fi92 2 4 [] [0, 1, 5] (x92_4_0) n (f92_0_c l0 l1 x381)) x381 = _
  rw [e]; rfl
def f92_t (c : Orc) (lf : Nat) (lp0 : List T → List T → Int → Option (List T)) (l0 l1 : List T) : Option (List T) :=
 bif (l0.length : Int) != (l1.length : Int) then
  some [T.b false]
 else
  (lp0 l0 l1 0).bind fun r383 =>
  bif asI (nth r383 0) == 0 then
   some [T.b (asB (nth r383 1))]
  else
   some [T.b true]
def f92 (c : Orc) (lf : Nat) (l0 l1 : List T) : Option (List T) := f92_t c lf (fun (l0 l1 : List T) (x381 : Int) => f92_0 c lf l0 l1 lf x381) l0 l1
theorem f92_raw (c : Orc) (lf : Nat) (l0 l1 : List T) : funK c env lf 6 fi92 [.sl l0, .sl l1] = f92_t c lf (fun (l0 l1 : List T) (x381 : Int) => lpK c env lf 6 fi92 2 4 [] [0, 1, 5] (x92_4_0) lf (f92_0_c l0 l1 x381)) l0 l1 := by kernel_rfl
theorem f92_eq (c : Orc) (lf : Nat) (l0 l1 : List T) : funK c env lf 6 fi92 [.sl l0, .sl l1] = f92 c lf l0 l1 := by
 refine (f92_raw c lf l0 l1).trans ?_
 have e0 : (fun (l0 l1 : List T) (x381 : Int) => lpK c env lf 6 fi92 2 4 [] [0, 1, 5] (x92_4_0) lf (f92_0_c l0 l1 x381)) = (fun (l0 l1 : List T) (x381 : Int) => f92_0 c lf l0 l1 lf x381) := by funext l0 l1 x381; exact f92_0_eq c lf l0 l1 lf x381
 rw [e0]; rfl
def f83_t (c : Orc) (lf : Nat) (n0_0 n0_1 n0_2 : Int) (l0_3 l0_4 l0_5 : List T) (n1_0 n1_1 n1_2 : Int) (l1_3 l1_4 l1_5 : List T) : Option (List T) :=
 bif n0_0 != n1_0 then
  some [T.b false]
 else
  bif n0_1 != n1_1 then
   some [T.b false]
  else
   bif n0_2 != n1_2 then
    some [T.b false]
   else
    (c 90 [T.sl l0_3, T.sl l1_3]).bind fun r384 =>
    bif !(asB (nth r384 0)) then
     some [T.b false]
    else
     (c 91 [T.sl l0_4, T.sl l1_4]).bind fun r385 =>
     bif !(asB (nth r385 0)) then
      some [T.b false]
     else
      (c 92 [T.sl l0_5, T.sl l1_5]).bind fun r386 =>
      bif !(asB (nth r386 0)) then
       some [T.b false]
      else
       some [T.b true]
def f83 (c : Orc) (lf : Nat) (n0_0 n0_1 n0_2 : Int) (l0_3 l0_4 l0_5 : List T) (n1_0 n1_1 n1_2 : Int) (l1_3 l1_4 l1_5 : List T) : Option (List T) := f83_t c lf n0_0 n0_1 n0_2 l0_3 l0_4 l0_5 n1_0 n1_1 n1_2 l1_3 l1_4 l1_5
theorem f83_eq (c : Orc) (lf : Nat) (n0_0 n0_1 n0_2 : Int) (l0_3 l0_4 l0_5 : List T) (n1_0 n1_1 n1_2 : Int) (l1_3 l1_4 l1_5 : List T) : funK c env lf 6 fi83 [.st [.i .i64 n0_0, .i .i64 n0_1, .i .i64 n0_2, .sl l0_3, .sl l0_4, .sl l0_5], .st [.i .i64 n1_0, .i .i64 n1_1, .i .i64 n1_2, .sl l1_3, .sl l1_4, .sl l1_5]] = f83 c lf n0_0 n0_1 n0_2 l0_3 l0_4 l0_5 n1_0 n1_1 n1_2 l1_3 l1_4 l1_5 := by kernel_rfl
def f80_0_s (c : Orc) (lf : Nat) (l0 l1 : List T) (L : Int → Option (List T)) (x392 : Int) : Option (List T) :=
 bif iLt x392 (l0.length : Int) then
  bif inR x392 l0.length then
  bif inR x392 l1.length then
  (c 83 [T.st [T.i .i64 (asI (T.cell (l0.getD x392.toNat T.u) 0)), T.i .i64 (asI (T.cell (l0.getD x392.toNat T.u) 1)), T.i .i64 (asI (T.cell (l0.getD x392.toNat T.u) 2)), T.sl (asL (T.cell (l0.getD x392.toNat T.u) 3)), T.sl (asL (T.cell (l0.getD x392.toNat T.u) 4)), T.sl (asL (T.cell (l0.getD x392.toNat T.u) 5))], T.st [T.i .i64 (asI (T.cell (l1.getD x392.toNat T.u) 0)), T.i .i64 (asI (T.cell (l1.getD x392.toNat T.u) 1)), T.i .i64 (asI (T.cell (l1.getD x392.toNat T.u) 2)), T.sl (asL (T.cell (l1.getD x392.toNat T.u) 3)), T.sl (asL (T.cell (l1.getD x392.toNat T.u) 4)), T.sl (asL (T.cell (l1.getD x392.toNat T.u) 5))]]).bind fun r393 =>
  bif !(asB (nth r393 0)) then
   some [T.i .i64 0, T.b false]
  else
   L (IntKind.wrap .i64 (x392 + 1))
  else none
  else none
 else
  some [T.i .i64 1]
def f80_0_c (l0 l1 : List T) (x392 : Int) : CSt := ⟨[.ro 0 true [.i .i64, .i .i64, .i .i64, .sl false [.i .u8], .sl true [.s, .i .i64], .sl true [.s, .s]] l0, .ro 0 true [.i .i64, .i .i64, .i .i64, .sl false [.i .u8], .sl true [.s, .i .i64], .sl true [.s, .s]] l1, .i .i64 x392], [.dead, .dead]⟩
theorem f80_0_round (c : Orc) (lf : Nat) (l0 l1 : List T) (L : CSt → Option (List T)) (x392 : Int) :
 roundK c env lf 6 fi80 2 4 [] [0, 1, 5] (x80_4_0) L (f80_0_c l0 l1 x392) = f80_0_s c lf l0 l1 (fun x392 => L (f80_0_c l0 l1 x392)) x392 := by kernel_rfl
def f80_0 (c : Orc) (lf : Nat) (l0 l1 : List T) : Nat → Int → Option (List T)
 | 0 => fun _ => none
 | n + 1 => fun x392 => f80_0_s c lf l0 l1 (f80_0 c lf l0 l1 n) x392
theorem f80_0_eq (c : Orc) (lf : Nat) (l0 l1 : List T) (n : Nat) (x392 : Int) :
 lpK c env lf 6 fi80 2 4 [] [0, 1, 5] (x80_4_0) n (f80_0_c l0 l1 x392) = f80_0 c lf l0 l1 n x392 := by
 induction n generalizing x392 with
 | zero => rfl
 | succ n ih =>
  refine (f80_0_round c lf l0 l1 _ x392).trans ?_
  have e : (fun x392 => lpK c env lf 6 fi80 2 4 [] [0, 1, 5] (x80_4_0) n (f80_0_c l0 l1 x392)) = f80_0 c lf l0 l1 n := by funext x392; exact ih x392
  show f80_0_s c lf l0 l1 (fun x392 => lpK c env lf 6 fi80 2 4 [] [0, 1, 5] (x80_4_0) n (f80_0_c l0 l1 x392)) x392 = _
  rw [e]; rfl
def f80_t (c : Orc) (lf : Nat) (lp0 : List T → List T → Int → Option (List T)) (l0 l1 : List T) : Option (List T) :=
 bif (l0.length : Int) != (l1.length : Int) then
  some [T.b false]
 else
  (lp0 l0 l1 0).bind fun r394 =>
  bif asI (nth r394 0) == 0 then
   some [T.b (asB (nth r394 1))]
  else
   some [T.b true]
def f80 (c : Orc) (lf : Nat) (l0 l1 : List T) : Option (List T) := f80_t c lf (fun (l0 l1 : List T) (x392 : Int) => f80_0 c lf l0 l1 lf x392) l0 l1
theorem f80_raw (c : Orc) (lf : Nat) (l0 l1 : List T) : funK c env lf 6 fi80 [.sl l0, .sl l1] = f80_t c lf (fun (l0 l1 : List T) (x392 : Int) => lpK c env lf 6 fi80 2 4 [] [0, 1, 5] (x80_4_0) lf (f80_0_c l0 l1 x392)) l0 l1 := by kernel_rfl
theorem f80_eq (c : Orc) (lf : Nat) (l0 l1 : List T) : funK c env lf 6 fi80 [.sl l0, .sl l1] = f80 c lf l0 l1 := by
 refine (f80_raw c lf l0 l1).trans ?_
 have e0 : (fun (l0 l1 : List T) (x392 : Int) => lpK c env lf 6 fi80 2 4 [] [0, 1, 5] (x80_4_0) lf (f80_0_c l0 l1 x392)) = (fun (l0 l1 : List T) (x392 : Int) => f80_0 c lf l0 l1 lf x392) := by funext l0 l1 x392; exact f80_0_eq c lf l0 l1 lf x392
 rw [e0]; rfl
def f75_t (c : Orc) (lf : Nat) (l0_0 : List T) (n0_1 : Int) (l1_0 : List T) (n1_1 : Int) : Option (List T) :=
 (c 80 [T.sl l0_0, T.sl l1_0]).bind fun r395 =>
 bif !(asB (nth r395 0)) then
  some [T.b false]
 else
  bif n0_1 != n1_1 then
   some [T.b false]
  else
   some [T.b true]
def f75 (c : Orc) (lf : Nat) (l0_0 : List T) (n0_1 : Int) (l1_0 : List T) (n1_1 : Int) : Option (List T) := f75_t c lf l0_0 n0_1 l1_0 n1_1
theorem f75_eq (c : Orc) (lf : Nat) (l0_0 : List T) (n0_1 : Int) (l1_0 : List T) (n1_1 : Int) : funK c env lf 6 fi75 [.st [.sl l0_0, .i .i64 n0_1], .st [.sl l1_0, .i .i64 n1_1]] = f75 c lf l0_0 n0_1 l1_0 n1_1 := by kernel_rfl
def f60_t (c : Orc) (lf : Nat) (n0_0 : Int) (s0_1 : ByteArray) (b0_2 : Bool) (n0_3 : Int) (l0_4 : List T) (n0_5 n1_0 : Int) (s1_1 : ByteArray) (b1_2 : Bool) (n1_3 : Int) (l1_4 : List T) (n1_5 : Int) : Option (List T) :=
 bif n0_0 != n1_0 then
  some [T.b false]
 else
  bif !(s0_1.toList == s1_1.toList) then
   some [T.b false]
  else
   bif !(b0_2 == b1_2) then
    some [T.b false]
   else
    bif n0_3 != n1_3 then
     some [T.b false]
    else
     (c 75 [T.st [T.sl l0_4, T.i .i64 n0_5], T.st [T.sl l1_4, T.i .i64 n1_5]]).bind fun r396 =>
     bif !(asB (nth r396 0)) then
      some [T.b false]
     else
      some [T.b true]
def f60 (c : Orc) (lf : Nat) (n0_0 : Int) (s0_1 : ByteArray) (b0_2 : Bool) (n0_3 : Int) (l0_4 : List T) (n0_5 n1_0 : Int) (s1_1 : ByteArray) (b1_2 : Bool) (n1_3 : Int) (l1_4 : List T) (n1_5 : Int) : Option (List T) := f60_t c lf n0_0 s0_1 b0_2 n0_3 l0_4 n0_5 n1_0 s1_1 b1_2 n1_3 l1_4 n1_5
theorem f60_eq (c : Orc) (lf : Nat) (n0_0 : Int) (s0_1 : ByteArray) (b0_2 : Bool) (n0_3 : Int) (l0_4 : List T) (n0_5 n1_0 : Int) (s1_1 : ByteArray) (b1_2 : Bool) (n1_3 : Int) (l1_4 : List T) (n1_5 : Int) : funK c env lf 6 fi60 [.st [.i .i64 n0_0, .s s0_1, .b b0_2, .i .i64 n0_3, .sl l0_4, .i .i64 n0_5], .st [.i .i64 n1_0, .s s1_1, .b b1_2, .i .i64 n1_3, .sl l1_4, .i .i64 n1_5]] = f60 c lf n0_0 s0_1 b0_2 n0_3 l0_4 n0_5 n1_0 s1_1 b1_2 n1_3 l1_4 n1_5 := by kernel_rfl
def f36_0_s (c : Orc) (lf : Nat) (l0 l1 : List T) (L : Int → Option (List T)) (x402 : Int) : Option (List T) :=
 bif iLt x402 (l0.length : Int) then
  bif inR x402 l0.length then
  bif inR x402 l1.length then
  (c 60 [T.st [T.i .i64 (asI (T.cell (l0.getD x402.toNat T.u) 0)), T.s (asS (T.cell (l0.getD x402.toNat T.u) 1)), T.b (asB (T.cell (l0.getD x402.toNat T.u) 2)), T.i .i64 (asI (T.cell (l0.getD x402.toNat T.u) 3)), T.sl (asL (T.cell (l0.getD x402.toNat T.u) 4)), T.i .i64 (asI (T.cell (l0.getD x402.toNat T.u) 5))], T.st [T.i .i64 (asI (T.cell (l1.getD x402.toNat T.u) 0)), T.s (asS (T.cell (l1.getD x402.toNat T.u) 1)), T.b (asB (T.cell (l1.getD x402.toNat T.u) 2)), T.i .i64 (asI (T.cell (l1.getD x402.toNat T.u) 3)), T.sl (asL (T.cell (l1.getD x402.toNat T.u) 4)), T.i .i64 (asI (T.cell (l1.getD x402.toNat T.u) 5))]]).bind fun r403 =>
  bif !(asB (nth r403 0)) then
   some [T.i .i64 0, T.b false]
  else
   L (IntKind.wrap .i64 (x402 + 1))
  else none
  else none
 else
  some [T.i .i64 1]
def f36_0_c (l0 l1 : List T) (x402 : Int) : CSt := ⟨[.ro 0 true [.i .i64, .s, .b, .i .i64, .sl true [.i .i64, .i .i64, .i .i64, .sl false [.i .u8], .sl true [.s, .i .i64], .sl true [.s, .s]], .i .i64] l0, .ro 0 true [.i .i64, .s, .b, .i .i64, .sl true [.i .i64, .i .i64, .i .i64, .sl false [.i .u8], .sl true [.s, .i .i64], .sl true [.s, .s]], .i .i64] l1, .i .i64 x402], [.dead, .dead]⟩
theorem f36_0_round (c : Orc) (lf : Nat) (l0 l1 : List T) (L : CSt → Option (List T)) (x402 : Int) :
 roundK c env lf 6 fi36 2 4 [] [0, 1, 5] (x36_4_0) L (f36_0_c l0 l1 x402) = f36_0_s c lf l0 l1 (fun x402 => L (f36_0_c l0 l1 x402)) x402 := by kernel_rfl
def f36_0 (c : Orc) (lf : Nat) (l0 l1 : List T) : Nat → Int → Option (List T)
 | 0 => fun _ => none
 | n + 1 => fun x402 => f36_0_s c lf l0 l1 (f36_0 c lf l0 l1 n) x402
theorem f36_0_eq (c : Orc) (lf : Nat) (l0 l1 : List T) (n : Nat) (x402 : Int) :
 lpK c env lf 6 fi36 2 4 [] [0, 1, 5] (x36_4_0) n (f36_0_c l0 l1 x402) = f36_0 c lf l0 l1 n x402 := by
 induction n generalizing x402 with
 | zero => rfl
 | succ n ih =>
  refine (f36_0_round c lf l0 l1 _ x402).trans ?_
  have e : (fun x402 => lpK c env lf 6 fi36 2 4 [] [0, 1, 5] (x36_4_0) n (f36_0_c l0 l1 x402)) = f36_0 c lf l0 l1 n := by funext x402; exact ih x402
  show f36_0_s c lf l0 l1 (fun x402 => lpK c env lf 6 fi36 2 4 [] [0, 1, 5] (x36_4_0) n (f36_0_c l0 l1 x402)) x402 = _
  rw [e]; rfl
def f36_t (c : Orc) (lf : Nat) (lp0 : List T → List T → Int → Option (List T)) (l0 l1 : List T) : Option (List T) :=
 bif (l0.length : Int) != (l1.length : Int) then
  some [T.b false]
 else
  (lp0 l0 l1 0).bind fun r404 =>
  bif asI (nth r404 0) == 0 then
   some [T.b (asB (nth r404 1))]
  else
   some [T.b true]
def f36 (c : Orc) (lf : Nat) (l0 l1 : List T) : Option (List T) := f36_t c lf (fun (l0 l1 : List T) (x402 : Int) => f36_0 c lf l0 l1 lf x402) l0 l1
theorem f36_raw (c : Orc) (lf : Nat) (l0 l1 : List T) : funK c env lf 6 fi36 [.sl l0, .sl l1] = f36_t c lf (fun (l0 l1 : List T) (x402 : Int) => lpK c env lf 6 fi36 2 4 [] [0, 1, 5] (x36_4_0) lf (f36_0_c l0 l1 x402)) l0 l1 := by kernel_rfl
theorem f36_eq (c : Orc) (lf : Nat) (l0 l1 : List T) : funK c env lf 6 fi36 [.sl l0, .sl l1] = f36 c lf l0 l1 := by
 refine (f36_raw c lf l0 l1).trans ?_
 have e0 : (fun (l0 l1 : List T) (x402 : Int) => lpK c env lf 6 fi36 2 4 [] [0, 1, 5] (x36_4_0) lf (f36_0_c l0 l1 x402)) = (fun (l0 l1 : List T) (x402 : Int) => f36_0 c lf l0 l1 lf x402) := by funext l0 l1 x402; exact f36_0_eq c lf l0 l1 lf x402
 rw [e0]; rfl
def f23_t (c : Orc) (lf : Nat) (l0_0 : List T) (n0_1 : Int) (l1_0 : List T) (n1_1 : Int) : Option (List T) :=
 (c 36 [T.sl l0_0, T.sl l1_0]).bind fun r405 =>
 bif !(asB (nth r405 0)) then
  some [T.b false]
 else
  bif n0_1 != n1_1 then
   some [T.b false]
  else
   some [T.b true]
def f23 (c : Orc) (lf : Nat) (l0_0 : List T) (n0_1 : Int) (l1_0 : List T) (n1_1 : Int) : Option (List T) := f23_t c lf l0_0 n0_1 l1_0 n1_1
theorem f23_eq (c : Orc) (lf : Nat) (l0_0 : List T) (n0_1 : Int) (l1_0 : List T) (n1_1 : Int) : funK c env lf 6 fi23 [.st [.sl l0_0, .i .i64 n0_1], .st [.sl l1_0, .i .i64 n1_1]] = f23 c lf l0_0 n0_1 l1_0 n1_1 := by kernel_rfl
def f61_t (c : Orc) (lf : Nat) (n0_0 : Int) (s0_1 : ByteArray) (b0_2 : Bool) (n0_3 n0_4 n1_0 : Int) (s1_1 : ByteArray) (b1_2 : Bool) (n1_3 n1_4 : Int) : Option (List T) :=
 bif n0_0 != n1_0 then
  some [T.b false]
 else
  bif !(s0_1.toList == s1_1.toList) then
   some [T.b false]
  else
   bif !(b0_2 == b1_2) then
    some [T.b false]
   else
    bif n0_3 != n1_3 then
     some [T.b false]
    else
     bif n0_4 != n1_4 then
      some [T.b false]
     else
      some [T.b true]
def f61 (c : Orc) (lf : Nat) (n0_0 : Int) (s0_1 : ByteArray) (b0_2 : Bool) (n0_3 n0_4 n1_0 : Int) (s1_1 : ByteArray) (b1_2 : Bool) (n1_3 n1_4 : Int) : Option (List T) := f61_t c lf n0_0 s0_1 b0_2 n0_3 n0_4 n1_0 s1_1 b1_2 n1_3 n1_4
theorem f61_eq (c : Orc) (lf : Nat) (n0_0 : Int) (s0_1 : ByteArray) (b0_2 : Bool) (n0_3 n0_4 n1_0 : Int) (s1_1 : ByteArray) (b1_2 : Bool) (n1_3 n1_4 : Int) : funK c env lf 6 fi61 [.st [.i .i64 n0_0, .s s0_1, .b b0_2, .i .i64 n0_3, .i .i64 n0_4], .st [.i .i64 n1_0, .s s1_1, .b b1_2, .i .i64 n1_3, .i .i64 n1_4]] = f61 c lf n0_0 s0_1 b0_2 n0_3 n0_4 n1_0 s1_1 b1_2 n1_3 n1_4 := by kernel_rfl
def f37_0_s (c : Orc) (lf : Nat) (l0 l1 : List T) (L : Int → Option (List T)) (x411 : Int) : Option (List T) :=
 bif iLt x411 (l0.length : Int) then
  bif inR x411 l0.length then
  bif inR x411 l1.length then
  (c 61 [T.st [T.i .i64 (asI (T.cell (l0.getD x411.toNat T.u) 0)), T.s (asS (T.cell (l0.getD x411.toNat T.u) 1)), T.b (asB (T.cell (l0.getD x411.toNat T.u) 2)), T.i .i64 (asI (T.cell (l0.getD x411.toNat T.u) 3)), T.i .i64 (asI (T.cell (l0.getD x411.toNat T.u) 4))], T.st [T.i .i64 (asI (T.cell (l1.getD x411.toNat T.u) 0)), T.s (asS (T.cell (l1.getD x411.toNat T.u) 1)), T.b (asB (T.cell (l1.getD x411.toNat T.u) 2)), T.i .i64 (asI (T.cell (l1.getD x411.toNat T.u) 3)), T.i .i64 (asI (T.cell (l1.getD x411.toNat T.u) 4))]]).bind fun r412 =>
  bif !(asB (nth r412 0)) then
   some [T.i .i64 0, T.b false]
  else
   L (IntKind.wrap .i64 (x411 + 1))
  else none
  else none
 else
  some [T.i .i64 1]
def f37_0_c (l0 l1 : List T) (x411 : Int) : CSt := ⟨[.ro 0 true [.i .i64, .s, .b, .i .i64, .i .i64] l0, .ro 0 true [.i .i64, .s, .b, .i .i64, .i .i64] l1, .i .i64 x411], [.dead, .dead]⟩
theorem f37_0_round (c : Orc) (lf : Nat) (l0 l1 : List T) (L : CSt → Option (List T)) (x411 : Int) :
 roundK c env lf 6 fi37 2 4 [] [0, 1, 5] (x37_4_0) L (f37_0_c l0 l1 x411) = f37_0_s c lf l0 l1 (fun x411 => L (f37_0_c l0 l1 x411)) x411 := by kernel_rfl
def f37_0 (c : Orc) (lf : Nat) (l0 l1 : List T) : Nat → Int → Option (List T)
 | 0 => fun _ => none
 | n + 1 => fun x411 => f37_0_s c lf l0 l1 (f37_0 c lf l0 l1 n) x411
theorem f37_0_eq (c : Orc) (lf : Nat) (l0 l1 : List T) (n : Nat) (x411 : Int) :
 lpK c env lf 6 fi37 2 4 [] [0, 1, 5] (x37_4_0) n (f37_0_c l0 l1 x411) = f37_0 c lf l0 l1 n x411 := by
 induction n generalizing x411 with
 | zero => rfl
 | succ n ih =>
  refine (f37_0_round c lf l0 l1 _ x411).trans ?_
  have e : (fun x411 => lpK c env lf 6 fi37 2 4 [] [0, 1, 5] (x37_4_0) n (f37_0_c l0 l1 x411)) = f37_0 c lf l0 l1 n := by funext x411; exact ih x411
  show f37_0_s c lf l0 l1 (fun x411 => lpK c env lf 6 fi37 2 4 [] [0, 1, 5] (x37_4_0) n (f37_0_c l0 l1 x411)) x411 = _
  rw [e]; rfl
def f37_t (c : Orc) (lf : Nat) (lp0 : List T → List T → Int → Option (List T)) (l0 l1 : List T) : Option (List T) :=
 bif (l0.length : Int) != (l1.length : Int) then
  some [T.b false]
 else
  (lp0 l0 l1 0).bind fun r413 =>
  bif asI (nth r413 0) == 0 then
   some [T.b (asB (nth r413 1))]
  else
   some [T.b true]
def f37 (c : Orc) (lf : Nat) (l0 l1 : List T) : Option (List T) := f37_t c lf (fun (l0 l1 : List T) (x411 : Int) => f37_0 c lf l0 l1 lf x411) l0 l1
theorem f37_raw (c : Orc) (lf : Nat) (l0 l1 : List T) : funK c env lf 6 fi37 [.sl l0, .sl l1] = f37_t c lf (fun (l0 l1 : List T) (x411 : Int) => lpK c env lf 6 fi37 2 4 [] [0, 1, 5] (x37_4_0) lf (f37_0_c l0 l1 x411)) l0 l1 := by kernel_rfl
theorem f37_eq (c : Orc) (lf : Nat) (l0 l1 : List T) : funK c env lf 6 fi37 [.sl l0, .sl l1] = f37 c lf l0 l1 := by
 refine (f37_raw c lf l0 l1).trans ?_
 have e0 : (fun (l0 l1 : List T) (x411 : Int) => lpK c env lf 6 fi37 2 4 [] [0, 1, 5] (x37_4_0) lf (f37_0_c l0 l1 x411)) = (fun (l0 l1 : List T) (x411 : Int) => f37_0 c lf l0 l1 lf x411) := by funext l0 l1 x411; exact f37_0_eq c lf l0 l1 lf x411
 rw [e0]; rfl
def f24_t (c : Orc) (lf : Nat) (n0_0 : Int) (l0_1 : List T) (n1_0 : Int) (l1_1 : List T) : Option (List T) :=
 bif n0_0 != n1_0 then
  some [T.b false]
 else
  (c 37 [T.sl l0_1, T.sl l1_1]).bind fun r414 =>
  bif !(asB (nth r414 0)) then
   some [T.b false]
  else
   some [T.b true]
def f24 (c : Orc) (lf : Nat) (n0_0 : Int) (l0_1 : List T) (n1_0 : Int) (l1_1 : List T) : Option (List T) := f24_t c lf n0_0 l0_1 n1_0 l1_1
theorem f24_eq (c : Orc) (lf : Nat) (n0_0 : Int) (l0_1 : List T) (n1_0 : Int) (l1_1 : List T) : funK c env lf 6 fi24 [.st [.i .i64 n0_0, .sl l0_1], .st [.i .i64 n1_0, .sl l1_1]] = f24 c lf n0_0 l0_1 n1_0 l1_1 := by kernel_rfl
def f76_t (c : Orc) (lf : Nat) (n0_0 n0_1 : Int) (n1_0 n1_1 : Int) : Option (List T) :=
 bif n0_0 != n1_0 then
  some [T.b false]
 else
  bif n0_1 != n1_1 then
   some [T.b false]
  else
   some [T.b true]
def f76 (c : Orc) (lf : Nat) (n0_0 n0_1 : Int) (n1_0 n1_1 : Int) : Option (List T) := f76_t c lf n0_0 n0_1 n1_0 n1_1
theorem f76_eq (c : Orc) (lf : Nat) (n0_0 n0_1 : Int) (n1_0 n1_1 : Int) : funK c env lf 6 fi76 [.st [.i .i64 n0_0, .i .i64 n0_1], .st [.i .i64 n1_0, .i .i64 n1_1]] = f76 c lf n0_0 n0_1 n1_0 n1_1 := by kernel_rfl
def f62_0_s (c : Orc) (lf : Nat) (l0 l1 : List T) (L : Int → Option (List T)) (x420 : Int) : Option (List T) :=
 bif iLt x420 (l0.length : Int) then
  bif inR x420 l0.length then
  bif inR x420 l1.length then
  (c 76 [T.st [T.i .i64 (asI (T.cell (l0.getD x420.toNat T.u) 0)), T.i .i64 (asI (T.cell (l0.getD x420.toNat T.u) 1))], T.st [T.i .i64 (asI (T.cell (l1.getD x420.toNat T.u) 0)), T.i .i64 (asI (T.cell (l1.getD x420.toNat T.u) 1))]]).bind fun r421 =>
  bif !(asB (nth r421 0)) then
   some [T.i .i64 0, T.b false]
  else
   L (IntKind.wrap .i64 (x420 + 1))
  else none
  else none
 else
  some [T.i .i64 1]
def f62_0_c (l0 l1 : List T) (x420 : Int) : CSt := ⟨[.ro 0 true [.i .i64, .i .i64] l0, .ro 0 true [.i .i64, .i .i64] l1, .i .i64 x420], [.dead, .dead]⟩
theorem f62_0_round (c : Orc) (lf : Nat) (l0 l1 : List T) (L : CSt → Option (List T)) (x420 : Int) :
 roundK c env lf 6 fi62 2 4 [] [0, 1, 5] (x62_4_0) L (f62_0_c l0 l1 x420) = f62_0_s c lf l0 l1 (fun x420 => L (f62_0_c l0 l1 x420)) x420 := by kernel_rfl
def f62_0 (c : Orc) (lf : Nat) (l0 l1 : List T) : Nat → Int → Option (List T)
 | 0 => fun _ => none
 | n + 1 => fun x420 => f62_0_s c lf l0 l1 (f62_0 c lf l0 l1 n) x420
theorem f62_0_eq (c : Orc) (lf : Nat) (l0 l1 : List T) (n : Nat) (x420 : Int) :
 lpK c env lf 6 fi62 2 4 [] [0, 1, 5] (x62_4_0) n (f62_0_c l0 l1 x420) = f62_0 c lf l0 l1 n x420 := by
 induction n generalizing x420 with
 | zero => rfl
 | succ n ih =>
  refine (f62_0_round c lf l0 l1 _ x420).trans ?_
  have e : (fun x420 => lpK c env lf 6 fi62 2 4 [] [0, 1, 5] (x62_4_0) n (f62_0_c l0 l1 x420)) = f62_0 c lf l0 l1 n := by funext x420; exact ih x420
  show f62_0_s c lf l0 l1 (fun x420 => lpK c env lf 6 fi62 2 4 [] [0, 1, 5] (x62_4_0) n (f62_0_c l0 l1 x420)) x420 = _
  rw [e]; rfl
def f62_t (c : Orc) (lf : Nat) (lp0 : List T → List T → Int → Option (List T)) (l0 l1 : List T) : Option (List T) :=
 bif (l0.length : Int) != (l1.length : Int) then
  some [T.b false]
 else
  (lp0 l0 l1 0).bind fun r422 =>
  bif asI (nth r422 0) == 0 then
   some [T.b (asB (nth r422 1))]
  else
   some [T.b true]
def f62 (c : Orc) (lf : Nat) (l0 l1 : List T) : Option (List T) := f62_t c lf (fun (l0 l1 : List T) (x420 : Int) => f62_0 c lf l0 l1 lf x420) l0 l1
theorem f62_raw (c : Orc) (lf : Nat) (l0 l1 : List T) : funK c env lf 6 fi62 [.sl l0, .sl l1] = f62_t c lf (fun (l0 l1 : List T) (x420 : Int) => lpK c env lf 6 fi62 2 4 [] [0, 1, 5] (x62_4_0) lf (f62_0_c l0 l1 x420)) l0 l1 := by kernel_rfl
theorem f62_eq (c : Orc) (lf : Nat) (l0 l1 : List T) : funK c env lf 6 fi62 [.sl l0, .sl l1] = f62 c lf l0 l1 := by
 refine (f62_raw c lf l0 l1).trans ?_
 have e0 : (fun (l0 l1 : List T) (x420 : Int) => lpK c env lf 6 fi62 2 4 [] [0, 1, 5] (x62_4_0) lf (f62_0_c l0 l1 x420)) = (fun (l0 l1 : List T) (x420 : Int) => f62_0 c lf l0 l1 lf x420) := by funext l0 l1 x420; exact f62_0_eq c lf l0 l1 lf x420
 rw [e0]; rfl
def f38_t (c : Orc) (lf : Nat) (n0_0 : Int) (l0_1 : List T) (n1_0 : Int) (l1_1 : List T) : Option (List T) :=
 bif n0_0 != n1_0 then
  some [T.b false]
 else
  (c 62 [T.sl l0_1, T.sl l1_1]).bind fun r423 =>
  bif !(asB (nth r423 0)) then
   some [T.b false]
  else
   some [T.b true]
def f38 (c : Orc) (lf : Nat) (n0_0 : Int) (l0_1 : List T) (n1_0 : Int) (l1_1 : List T) : Option (List T) := f38_t c lf n0_0 l0_1 n1_0 l1_1
theorem f38_eq (c : Orc) (lf : Nat) (n0_0 : Int) (l0_1 : List T) (n1_0 : Int) (l1_1 : List T) : funK c env lf 6 fi38 [.st [.i .i64 n0_0, .sl l0_1], .st [.i .i64 n1_0, .sl l1_1]] = f38 c lf n0_0 l0_1 n1_0 l1_1 := by kernel_rfl
def f25_0_s (c : Orc) (lf : Nat) (l0 l1 : List T) (L : Int → Option (List T)) (x429 : Int) : Option (List T) :=
 bif iLt x429 (l0.length : Int) then
  bif inR x429 l0.length then
  bif inR x429 l1.length then
  (c 38 [T.st [T.i .i64 (asI (T.cell (l0.getD x429.toNat T.u) 0)), T.sl (asL (T.cell (l0.getD x429.toNat T.u) 1))], T.st [T.i .i64 (asI (T.cell (l1.getD x429.toNat T.u) 0)), T.sl (asL (T.cell (l1.getD x429.toNat T.u) 1))]]).bind fun r430 =>
  bif !(asB (nth r430 0)) then
   some [T.i .i64 0, T.b false]
  else
   L (IntKind.wrap .i64 (x429 + 1))
  else none
  else none
 else
  some [T.i .i64 1]
def f25_0_c (l0 l1 : List T) (x429 : Int) : CSt := ⟨[.ro 0 true [.i .i64, .sl true [.i .i64, .i .i64]] l0, .ro 0 true [.i .i64, .sl true [.i .i64, .i .i64]] l1, .i .i64 x429], [.dead, .dead]⟩
theorem f25_0_round (c : Orc) (lf : Nat) (l0 l1 : List T) (L : CSt → Option (List T)) (x429 : Int) :
 roundK c env lf 6 fi25 2 4 [] [0, 1, 5] (x25_4_0) L (f25_0_c l0 l1 x429) = f25_0_s c lf l0 l1 (fun x429 => L (f25_0_c l0 l1 x429)) x429 := by kernel_rfl
def f25_0 (c : Orc) (lf : Nat) (l0 l1 : List T) : Nat → Int → Option (List T)
 | 0 => fun _ => none
 | n + 1 => fun x429 => f25_0_s c lf l0 l1 (f25_0 c lf l0 l1 n) x429
theorem f25_0_eq (c : Orc) (lf : Nat) (l0 l1 : List T) (n : Nat) (x429 : Int) :
 lpK c env lf 6 fi25 2 4 [] [0, 1, 5] (x25_4_0) n (f25_0_c l0 l1 x429) = f25_0 c lf l0 l1 n x429 := by
 induction n generalizing x429 with
 | zero => rfl
 | succ n ih =>
  refine (f25_0_round c lf l0 l1 _ x429).trans ?_
  have e : (fun x429 => lpK c env lf 6 fi25 2 4 [] [0, 1, 5] (x25_4_0) n (f25_0_c l0 l1 x429)) = f25_0 c lf l0 l1 n := by funext x429; exact ih x429
  show f25_0_s c lf l0 l1 (fun x429 => lpK c env lf 6 fi25 2 4 [] [0, 1, 5] (x25_4_0) n (f25_0_c l0 l1 x429)) x429 = _
  rw [e]; rfl
def f25_t (c : Orc) (lf : Nat) (lp0 : List T → List T → Int → Option (List T)) (l0 l1 : List T) : Option (List T) :=
 bif (l0.length : Int) != (l1.length : Int) then
  some [T.b false]
 else
  (lp0 l0 l1 0).bind fun r431 =>
  bif asI (nth r431 0) == 0 then
   some [T.b (asB (nth r431 1))]
  else
   some [T.b true]
def f25 (c : Orc) (lf : Nat) (l0 l1 : List T) : Option (List T) := f25_t c lf (fun (l0 l1 : List T) (x429 : Int) => f25_0 c lf l0 l1 lf x429) l0 l1
theorem f25_raw (c : Orc) (lf : Nat) (l0 l1 : List T) : funK c env lf 6 fi25 [.sl l0, .sl l1] = f25_t c lf (fun (l0 l1 : List T) (x429 : Int) => lpK c env lf 6 fi25 2 4 [] [0, 1, 5] (x25_4_0) lf (f25_0_c l0 l1 x429)) l0 l1 := by kernel_rfl
theorem f25_eq (c : Orc) (lf : Nat) (l0 l1 : List T) : funK c env lf 6 fi25 [.sl l0, .sl l1] = f25 c lf l0 l1 := by
 refine (f25_raw c lf l0 l1).trans ?_
 have e0 : (fun (l0 l1 : List T) (x429 : Int) => lpK c env lf 6 fi25 2 4 [] [0, 1, 5] (x25_4_0) lf (f25_0_c l0 l1 x429)) = (fun (l0 l1 : List T) (x429 : Int) => f25_0 c lf l0 l1 lf x429) := by funext l0 l1 x429; exact f25_0_eq c lf l0 l1 lf x429
 rw [e0]; rfl
def f9_t (c : Orc) (lf : Nat) (l0_0 : List T) (n0_1 n0_2 : Int) (l0_3 l0_4 : List T) (n0_5 n0_6 : Int) (l1_0 : List T) (n1_1 n1_2 : Int) (l1_3 l1_4 : List T) (n1_5 n1_6 : Int) : Option (List T) :=
 (c 23 [T.st [T.sl l0_0, T.i .i64 n0_1], T.st [T.sl l1_0, T.i .i64 n1_1]]).bind fun r432 =>
 bif !(asB (nth r432 0)) then
  some [T.b false]
 else
  (c 24 [T.st [T.i .i64 n0_2, T.sl l0_3], T.st [T.i .i64 n1_2, T.sl l1_3]]).bind fun r433 =>
  bif !(asB (nth r433 0)) then
   some [T.b false]
  else
   (c 25 [T.sl l0_4, T.sl l1_4]).bind fun r434 =>
   bif !(asB (nth r434 0)) then
    some [T.b false]
   else
    bif n0_5 != n1_5 then
     some [T.b false]
    else
     bif n0_6 != n1_6 then
      some [T.b false]
     else
      some [T.b true]
def f9 (c : Orc) (lf : Nat) (l0_0 : List T) (n0_1 n0_2 : Int) (l0_3 l0_4 : List T) (n0_5 n0_6 : Int) (l1_0 : List T) (n1_1 n1_2 : Int) (l1_3 l1_4 : List T) (n1_5 n1_6 : Int) : Option (List T) := f9_t c lf l0_0 n0_1 n0_2 l0_3 l0_4 n0_5 n0_6 l1_0 n1_1 n1_2 l1_3 l1_4 n1_5 n1_6
theorem f9_eq (c : Orc) (lf : Nat) (l0_0 : List T) (n0_1 n0_2 : Int) (l0_3 l0_4 : List T) (n0_5 n0_6 : Int) (l1_0 : List T) (n1_1 n1_2 : Int) (l1_3 l1_4 : List T) (n1_5 n1_6 : Int) : funK c env lf 6 fi9 [.st [.sl l0_0, .i .i64 n0_1, .i .i64 n0_2, .sl l0_3, .sl l0_4, .i .i64 n0_5, .i .i64 n0_6], .st [.sl l1_0, .i .i64 n1_1, .i .i64 n1_2, .sl l1_3, .sl l1_4, .i .i64 n1_5, .i .i64 n1_6]] = f9 c lf l0_0 n0_1 n0_2 l0_3 l0_4 n0_5 n0_6 l1_0 n1_1 n1_2 l1_3 l1_4 n1_5 n1_6 := by kernel_rfl
def f4_t (c : Orc) (lf : Nat) (l0_0 : List T) (n0_1 n0_2 : Int) (l0_3 l0_4 : List T) (n0_5 n0_6 n1 : Int) : Option (List T) :=
 (c 5 [T.st [T.sl l0_0, T.i .i64 n0_1, T.i .i64 n0_2, T.sl l0_3, T.sl l0_4, T.i .i64 n0_5, T.i .i64 n0_6], T.i .i64 1048576]).bind fun r435 =>
 bif iLt (asI (nth r435 0)) 0 then
  some [T.b true]
 else
  (c 7 [T.st [T.sl l0_0, T.i .i64 n0_1, T.i .i64 n0_2, T.sl l0_3, T.sl l0_4, T.i .i64 n0_5, T.i .i64 n0_6]]).bind fun r436 =>
  (c 10 [T.st [T.sl (asL (T.cell (nth r436 0) 0)), T.i .i64 (asI (T.cell (nth r436 0) 1)), T.i .i64 (asI (T.cell (nth r436 0) 2)), T.sl (asL (T.cell (nth r436 0) 3)), T.sl (asL (T.cell (nth r436 0) 4)), T.i .i64 (asI (T.cell (nth r436 0) 5)), T.i .i64 (asI (T.cell (nth r436 0) 6))], T.i .i64 n1]).bind fun r437 =>
  (c 7 [T.st [T.sl l0_0, T.i .i64 n0_1, T.i .i64 n0_2, T.sl l0_3, T.sl l0_4, T.i .i64 n0_5, T.i .i64 n0_6]]).bind fun r438 =>
  (c 11 [T.st [T.sl (asL (T.cell (nth r438 0) 0)), T.i .i64 (asI (T.cell (nth r438 0) 1)), T.i .i64 (asI (T.cell (nth r438 0) 2)), T.sl (asL (T.cell (nth r438 0) 3)), T.sl (asL (T.cell (nth r438 0) 4)), T.i .i64 (asI (T.cell (nth r438 0) 5)), T.i .i64 (asI (T.cell (nth r438 0) 6))], T.i .i64 n1]).bind fun r439 =>
  bif (asI (nth r439 0)) != (asI (nth r437 0)) then
   some [T.b false]
  else
   (c 7 [T.st [T.sl l0_0, T.i .i64 n0_1, T.i .i64 n0_2, T.sl l0_3, T.sl l0_4, T.i .i64 n0_5, T.i .i64 n0_6]]).bind fun r440 =>
   (c 9 [T.st [T.sl (asL (T.cell (nth r438 0) 0)), T.i .i64 (asI (T.cell (nth r438 0) 1)), T.i .i64 (asI (T.cell (nth r438 0) 2)), T.sl (asL (T.cell (nth r438 0) 3)), T.sl (asL (T.cell (nth r438 0) 4)), T.i .i64 (asI (T.cell (nth r438 0) 5)), T.i .i64 (asI (T.cell (nth r438 0) 6))], T.st [T.sl (asL (T.cell (nth r440 0) 0)), T.i .i64 (asI (T.cell (nth r440 0) 1)), T.i .i64 (asI (T.cell (nth r440 0) 2)), T.sl (asL (T.cell (nth r440 0) 3)), T.sl (asL (T.cell (nth r440 0) 4)), T.i .i64 (asI (T.cell (nth r440 0) 5)), T.i .i64 (asI (T.cell (nth r440 0) 6))]]).bind fun r441 =>
   bif !(asB (nth r441 0)) then
    some [T.b false]
   else
    some [T.b true]
def f4 (c : Orc) (lf : Nat) (l0_0 : List T) (n0_1 n0_2 : Int) (l0_3 l0_4 : List T) (n0_5 n0_6 n1 : Int) : Option (List T) := f4_t c lf l0_0 n0_1 n0_2 l0_3 l0_4 n0_5 n0_6 n1
theorem f4_eq (c : Orc) (lf : Nat) (l0_0 : List T) (n0_1 n0_2 : Int) (l0_3 l0_4 : List T) (n0_5 n0_6 n1 : Int) : funK c env lf 6 fi4 [.st [.sl l0_0, .i .i64 n0_1, .i .i64 n0_2, .sl l0_3, .sl l0_4, .i .i64 n0_5, .i .i64 n0_6], .i .i64 n1] = f4 c lf l0_0 n0_1 n0_2 l0_3 l0_4 n0_5 n0_6 n1 := by kernel_rfl
end Go.Proofs.Ytnakbpjofkdabaa.T
