/- What functions of the law FnExactImageNew come to, in trees; no condition. -/
import Derived.Test.YtdclnhlpifahpaaRows
import Derived.Test.YtdclnhlpifahpaaV4
import Derived.KernelRfl
set_option linter.unusedVariables false
set_option linter.constructorNameAsVariable false
set_option linter.unusedSimpArgs false
set_option linter.unnecessarySimpa false
namespace Go.Proofs.Ytdclnhlpifahpaa.T
open Go Go.Proofs.YtdclnhlpifahpaaV
def tyTab : List (Nat × Ti) := [
  (3, ⟨false, [.i .i64], .o⟩),
  (4, ⟨false, [.b], .o⟩),
  (5, ⟨false, [.i .u8], .o⟩),
  (9, ⟨false, [.s], .o⟩),
  (22, ⟨false, [.sl true [.i .i64, .s, .b, .i .i64, .sl true [.i .i64, .i .i64, .i .i64, .sl false [.i .u8], .sl true [.s, .i .i64], .sl true [.s, .s]], .i .i64]], .sl 202⟩),
  (24, ⟨true, [.sl true [.i .i64, .s, .b, .i .i64, .sl true [.i .i64, .i .i64, .i .i64, .sl false [.i .u8], .sl true [.s, .i .i64], .sl true [.s, .s]], .i .i64], .i .i64], .st [(0, 22), (1, 3)]⟩),
  (25, ⟨false, [.sl true [.i .i64, .s, .b, .i .i64, .i .i64]], .sl 211⟩),
  (27, ⟨true, [.i .i64, .sl true [.i .i64, .s, .b, .i .i64, .i .i64]], .st [(0, 3), (1, 25)]⟩),
  (28, ⟨false, [.sl true [.i .i64, .sl true [.i .i64, .i .i64]]], .sl 161⟩),
  (30, ⟨true, [.sl true [.i .i64, .s, .b, .i .i64, .sl true [.i .i64, .i .i64, .i .i64, .sl false [.i .u8], .sl true [.s, .i .i64], .sl true [.s, .s]], .i .i64], .i .i64, .i .i64, .sl true [.i .i64, .s, .b, .i .i64, .i .i64], .sl true [.i .i64, .sl true [.i .i64, .i .i64]], .i .i64, .i .i64], .st [(0, 24), (2, 27), (4, 28), (5, 3), (6, 3)]⟩),
  (56, ⟨false, [.sl false [.i .u8]], .sl 5⟩),
  (159, ⟨false, [.sl true [.i .i64, .i .i64]], .sl 216⟩),
  (161, ⟨true, [.i .i64, .sl true [.i .i64, .i .i64]], .st [(0, 3), (1, 159)]⟩),
  (198, ⟨false, [.sl true [.i .i64, .i .i64, .i .i64, .sl false [.i .u8], .sl true [.s, .i .i64], .sl true [.s, .s]]], .sl 258⟩),
  (200, ⟨true, [.sl true [.i .i64, .i .i64, .i .i64, .sl false [.i .u8], .sl true [.s, .i .i64], .sl true [.s, .s]], .i .i64], .st [(0, 198), (1, 3)]⟩),
  (202, ⟨true, [.i .i64, .s, .b, .i .i64, .sl true [.i .i64, .i .i64, .i .i64, .sl false [.i .u8], .sl true [.s, .i .i64], .sl true [.s, .s]], .i .i64], .st [(0, 3), (1, 9), (2, 4), (3, 3), (4, 200)]⟩),
  (211, ⟨true, [.i .i64, .s, .b, .i .i64, .i .i64], .st [(0, 3), (1, 9), (2, 4), (3, 3), (4, 3)]⟩),
  (216, ⟨true, [.i .i64, .i .i64], .st [(0, 3), (1, 3)]⟩),
  (255, ⟨false, [.sl true [.s, .i .i64]], .sl 281⟩),
  (256, ⟨false, [.sl true [.s, .s]], .sl 283⟩),
  (258, ⟨true, [.i .i64, .i .i64, .i .i64, .sl false [.i .u8], .sl true [.s, .i .i64], .sl true [.s, .s]], .st [(0, 3), (1, 3), (2, 3), (3, 56), (4, 255), (5, 256)]⟩),
  (281, ⟨true, [.s, .i .i64], .st [(0, 9), (1, 3)]⟩),
  (283, ⟨true, [.s, .s], .st [(0, 9), (1, 9)]⟩)]
noncomputable def fi58 : Fi := ⟨Try.f58, [], false, [], [.ag [.ow (.sl true [.i .i64, .s, .b, .i .i64, .sl true [.i .i64, .i .i64, .i .i64, .sl false [.i .u8], .sl true [.s, .i .i64], .sl true [.s, .s]], .i .i64]), .v (.i .i64)]]⟩
noncomputable def fi13 : Fi := ⟨Try.f13, [], false, [], [.ag [.ow (.sl true [.i .i64, .s, .b, .i .i64, .sl true [.i .i64, .i .i64, .i .i64, .sl false [.i .u8], .sl true [.s, .i .i64], .sl true [.s, .s]], .i .i64]), .v (.i .i64), .v (.i .i64), .ow (.sl true [.i .i64, .s, .b, .i .i64, .i .i64]), .ow (.sl true [.i .i64, .sl true [.i .i64, .i .i64]]), .v (.i .i64), .v (.i .i64)]]⟩
noncomputable def fi59 : Fi := ⟨Try.f59, [], false, [], [.ag [.ow (.sl true [.i .i64, .s, .b, .i .i64, .sl true [.i .i64, .i .i64, .i .i64, .sl false [.i .u8], .sl true [.s, .i .i64], .sl true [.s, .s]], .i .i64]), .v (.i .i64)]]⟩
noncomputable def fi14 : Fi := ⟨Try.f14, [], false, [], [.ag [.ow (.sl true [.i .i64, .s, .b, .i .i64, .sl true [.i .i64, .i .i64, .i .i64, .sl false [.i .u8], .sl true [.s, .i .i64], .sl true [.s, .s]], .i .i64]), .v (.i .i64), .v (.i .i64), .ow (.sl true [.i .i64, .s, .b, .i .i64, .i .i64]), .ow (.sl true [.i .i64, .sl true [.i .i64, .i .i64]]), .v (.i .i64), .v (.i .i64)]]⟩
def x48_4_0 : List (Ex × List Nat × CSt) := [(.ret, [4], ⟨[.b false], [.dead, .dead]⟩), ((.ex 0), [], ⟨[], [.dead, .dead]⟩)]
noncomputable def fi48 : Fi := ⟨Try.f48, [⟨4, [0, 1, 5], [], [(⟨[.ro 0 false [.i .u8] [], .ro 0 false [.i .u8] [], .i .i64 0], [.dead, .dead]⟩, x48_4_0)]⟩], false, [.ro (.sl false [.i .u8]), .ro (.sl false [.i .u8])], [.v (.b)]⟩
noncomputable def fi264 : Fi := ⟨Try.f264, [], false, [.ag [.v (.s), .v (.i .i64)], .ag [.v (.s), .v (.i .i64)]], [.v (.b)]⟩
def x257_4_0 : List (Ex × List Nat × CSt) := [(.ret, [4], ⟨[.b false], [.dead, .dead]⟩), ((.ex 0), [], ⟨[], [.dead, .dead]⟩)]
noncomputable def fi257 : Fi := ⟨Try.f257, [⟨4, [0, 1, 5], [], [(⟨[.ro 0 true [.s, .i .i64] [], .ro 0 true [.s, .i .i64] [], .i .i64 0], [.dead, .dead]⟩, x257_4_0)]⟩], false, [.ro (.sl true [.s, .i .i64]), .ro (.sl true [.s, .i .i64])], [.v (.b)]⟩
noncomputable def fi265 : Fi := ⟨Try.f265, [], false, [.ag [.v (.s), .v (.s)], .ag [.v (.s), .v (.s)]], [.v (.b)]⟩
def x258_4_0 : List (Ex × List Nat × CSt) := [(.ret, [4], ⟨[.b false], [.dead, .dead]⟩), ((.ex 0), [], ⟨[], [.dead, .dead]⟩)]
noncomputable def fi258 : Fi := ⟨Try.f258, [⟨4, [0, 1, 5], [], [(⟨[.ro 0 true [.s, .s] [], .ro 0 true [.s, .s] [], .i .i64 0], [.dead, .dead]⟩, x258_4_0)]⟩], false, [.ro (.sl true [.s, .s]), .ro (.sl true [.s, .s])], [.v (.b)]⟩
noncomputable def fi251 : Fi := ⟨Try.f251, [], false, [.ag [.v (.i .i64), .v (.i .i64), .v (.i .i64), .ro (.sl false [.i .u8]), .ro (.sl true [.s, .i .i64]), .ro (.sl true [.s, .s])], .ag [.v (.i .i64), .v (.i .i64), .v (.i .i64), .ro (.sl false [.i .u8]), .ro (.sl true [.s, .i .i64]), .ro (.sl true [.s, .s])]], [.v (.b)]⟩
def x241_4_0 : List (Ex × List Nat × CSt) := [(.ret, [4], ⟨[.b false], [.dead, .dead]⟩), ((.ex 0), [], ⟨[], [.dead, .dead]⟩)]
noncomputable def fi241 : Fi := ⟨Try.f241, [⟨4, [0, 1, 5], [], [(⟨[.ro 0 true [.i .i64, .i .i64, .i .i64, .sl false [.i .u8], .sl true [.s, .i .i64], .sl true [.s, .s]] [], .ro 0 true [.i .i64, .i .i64, .i .i64, .sl false [.i .u8], .sl true [.s, .i .i64], .sl true [.s, .s]] [], .i .i64 0], [.dead, .dead]⟩, x241_4_0)]⟩], false, [.ro (.sl true [.i .i64, .i .i64, .i .i64, .sl false [.i .u8], .sl true [.s, .i .i64], .sl true [.s, .s]]), .ro (.sl true [.i .i64, .i .i64, .i .i64, .sl false [.i .u8], .sl true [.s, .i .i64], .sl true [.s, .s]])], [.v (.b)]⟩
noncomputable def fi213 : Fi := ⟨Try.f213, [], false, [.ag [.ro (.sl true [.i .i64, .i .i64, .i .i64, .sl false [.i .u8], .sl true [.s, .i .i64], .sl true [.s, .s]]), .v (.i .i64)], .ag [.ro (.sl true [.i .i64, .i .i64, .i .i64, .sl false [.i .u8], .sl true [.s, .i .i64], .sl true [.s, .s]]), .v (.i .i64)]], [.v (.b)]⟩
noncomputable def fi169 : Fi := ⟨Try.f169, [], false, [.ag [.v (.i .i64), .v (.s), .v (.b), .v (.i .i64), .ro (.sl true [.i .i64, .i .i64, .i .i64, .sl false [.i .u8], .sl true [.s, .i .i64], .sl true [.s, .s]]), .v (.i .i64)], .ag [.v (.i .i64), .v (.s), .v (.b), .v (.i .i64), .ro (.sl true [.i .i64, .i .i64, .i .i64, .sl false [.i .u8], .sl true [.s, .i .i64], .sl true [.s, .s]]), .v (.i .i64)]], [.v (.b)]⟩
def x113_4_0 : List (Ex × List Nat × CSt) := [(.ret, [4], ⟨[.b false], [.dead, .dead]⟩), ((.ex 0), [], ⟨[], [.dead, .dead]⟩)]
noncomputable def fi113 : Fi := ⟨Try.f113, [⟨4, [0, 1, 5], [], [(⟨[.ro 0 true [.i .i64, .s, .b, .i .i64, .sl true [.i .i64, .i .i64, .i .i64, .sl false [.i .u8], .sl true [.s, .i .i64], .sl true [.s, .s]], .i .i64] [], .ro 0 true [.i .i64, .s, .b, .i .i64, .sl true [.i .i64, .i .i64, .i .i64, .sl false [.i .u8], .sl true [.s, .i .i64], .sl true [.s, .s]], .i .i64] [], .i .i64 0], [.dead, .dead]⟩, x113_4_0)]⟩], false, [.ro (.sl true [.i .i64, .s, .b, .i .i64, .sl true [.i .i64, .i .i64, .i .i64, .sl false [.i .u8], .sl true [.s, .i .i64], .sl true [.s, .s]], .i .i64]), .ro (.sl true [.i .i64, .s, .b, .i .i64, .sl true [.i .i64, .i .i64, .i .i64, .sl false [.i .u8], .sl true [.s, .i .i64], .sl true [.s, .s]], .i .i64])], [.v (.b)]⟩
noncomputable def fi60 : Fi := ⟨Try.f60, [], false, [.ag [.ro (.sl true [.i .i64, .s, .b, .i .i64, .sl true [.i .i64, .i .i64, .i .i64, .sl false [.i .u8], .sl true [.s, .i .i64], .sl true [.s, .s]], .i .i64]), .v (.i .i64)], .ag [.ro (.sl true [.i .i64, .s, .b, .i .i64, .sl true [.i .i64, .i .i64, .i .i64, .sl false [.i .u8], .sl true [.s, .i .i64], .sl true [.s, .s]], .i .i64]), .v (.i .i64)]], [.v (.b)]⟩
noncomputable def fi170 : Fi := ⟨Try.f170, [], false, [.ag [.v (.i .i64), .v (.s), .v (.b), .v (.i .i64), .v (.i .i64)], .ag [.v (.i .i64), .v (.s), .v (.b), .v (.i .i64), .v (.i .i64)]], [.v (.b)]⟩
def x114_4_0 : List (Ex × List Nat × CSt) := [(.ret, [4], ⟨[.b false], [.dead, .dead]⟩), ((.ex 0), [], ⟨[], [.dead, .dead]⟩)]
noncomputable def fi114 : Fi := ⟨Try.f114, [⟨4, [0, 1, 5], [], [(⟨[.ro 0 true [.i .i64, .s, .b, .i .i64, .i .i64] [], .ro 0 true [.i .i64, .s, .b, .i .i64, .i .i64] [], .i .i64 0], [.dead, .dead]⟩, x114_4_0)]⟩], false, [.ro (.sl true [.i .i64, .s, .b, .i .i64, .i .i64]), .ro (.sl true [.i .i64, .s, .b, .i .i64, .i .i64])], [.v (.b)]⟩
noncomputable def fi61 : Fi := ⟨Try.f61, [], false, [.ag [.v (.i .i64), .ro (.sl true [.i .i64, .s, .b, .i .i64, .i .i64])], .ag [.v (.i .i64), .ro (.sl true [.i .i64, .s, .b, .i .i64, .i .i64])]], [.v (.b)]⟩
noncomputable def fi214 : Fi := ⟨Try.f214, [], false, [.ag [.v (.i .i64), .v (.i .i64)], .ag [.v (.i .i64), .v (.i .i64)]], [.v (.b)]⟩
def x171_4_0 : List (Ex × List Nat × CSt) := [(.ret, [4], ⟨[.b false], [.dead, .dead]⟩), ((.ex 0), [], ⟨[], [.dead, .dead]⟩)]
noncomputable def fi171 : Fi := ⟨Try.f171, [⟨4, [0, 1, 5], [], [(⟨[.ro 0 true [.i .i64, .i .i64] [], .ro 0 true [.i .i64, .i .i64] [], .i .i64 0], [.dead, .dead]⟩, x171_4_0)]⟩], false, [.ro (.sl true [.i .i64, .i .i64]), .ro (.sl true [.i .i64, .i .i64])], [.v (.b)]⟩
noncomputable def fi115 : Fi := ⟨Try.f115, [], false, [.ag [.v (.i .i64), .ro (.sl true [.i .i64, .i .i64])], .ag [.v (.i .i64), .ro (.sl true [.i .i64, .i .i64])]], [.v (.b)]⟩
def x62_4_0 : List (Ex × List Nat × CSt) := [(.ret, [4], ⟨[.b false], [.dead, .dead]⟩), ((.ex 0), [], ⟨[], [.dead, .dead]⟩)]
noncomputable def fi62 : Fi := ⟨Try.f62, [⟨4, [0, 1, 5], [], [(⟨[.ro 0 true [.i .i64, .sl true [.i .i64, .i .i64]] [], .ro 0 true [.i .i64, .sl true [.i .i64, .i .i64]] [], .i .i64 0], [.dead, .dead]⟩, x62_4_0)]⟩], false, [.ro (.sl true [.i .i64, .sl true [.i .i64, .i .i64]]), .ro (.sl true [.i .i64, .sl true [.i .i64, .i .i64]])], [.v (.b)]⟩
noncomputable def fi15 : Fi := ⟨Try.f15, [], false, [.ag [.ro (.sl true [.i .i64, .s, .b, .i .i64, .sl true [.i .i64, .i .i64, .i .i64, .sl false [.i .u8], .sl true [.s, .i .i64], .sl true [.s, .s]], .i .i64]), .v (.i .i64), .v (.i .i64), .ro (.sl true [.i .i64, .s, .b, .i .i64, .i .i64]), .ro (.sl true [.i .i64, .sl true [.i .i64, .i .i64]]), .v (.i .i64), .v (.i .i64)], .ag [.ro (.sl true [.i .i64, .s, .b, .i .i64, .sl true [.i .i64, .i .i64, .i .i64, .sl false [.i .u8], .sl true [.s, .i .i64], .sl true [.s, .s]], .i .i64]), .v (.i .i64), .v (.i .i64), .ro (.sl true [.i .i64, .s, .b, .i .i64, .i .i64]), .ro (.sl true [.i .i64, .sl true [.i .i64, .i .i64]]), .v (.i .i64), .v (.i .i64)]], [.v (.b)]⟩
def x172_4_0 : List (Ex × List Nat × CSt) := [((.ex 0), [3], ⟨[.s (⟨#[]⟩ : ByteArray)], [.dead]⟩)]
noncomputable def fi172 : Fi := ⟨Try.f172, [⟨4, [0, 3], [], [(⟨[.i .i64 0, .s (⟨#[]⟩ : ByteArray)], [.dead]⟩, x172_4_0)]⟩], false, [.v (.i .i64)], [.v (.s)]⟩
def x49_2_0 : List (Ex × List Nat × CSt) := [((.ex 0), [1], ⟨[.i .i64 0], [.row false [.i .u8] [] 0 false, .dead]⟩)]
noncomputable def fi49 : Fi := ⟨Try.f49, [⟨2, [0, 1, 5], [], [(⟨[.rf 0 [] 0 none, .i .i64 0, .i .i64 0], [.row false [.i .u8] [] 0 false, .dead]⟩, x49_2_0)]⟩], false, [.ow (.sl false [.i .u8]), .v (.i .i64)], [.v (.i .i64)]⟩
def x215_2_0 : List (Ex × List Nat × CSt) := [((.ex 0), [1], ⟨[.i .i64 0], [.row true [.s, .i .i64] [] 0 false, .dead]⟩)]
noncomputable def fi215 : Fi := ⟨Try.f215, [⟨2, [0, 1, 5], [], [(⟨[.rf 0 [] 0 none, .i .i64 0, .i .i64 0], [.row true [.s, .i .i64] [] 0 false, .dead]⟩, x215_2_0)]⟩], false, [.ow (.sl true [.s, .i .i64]), .v (.i .i64)], [.v (.i .i64)]⟩
def x216_2_0 : List (Ex × List Nat × CSt) := [((.ex 0), [1], ⟨[.i .i64 0], [.row true [.s, .s] [] 0 false, .dead]⟩)]
noncomputable def fi216 : Fi := ⟨Try.f216, [⟨2, [0, 1, 5], [], [(⟨[.rf 0 [] 0 none, .i .i64 0, .i .i64 0], [.row true [.s, .s] [] 0 false, .dead]⟩, x216_2_0)]⟩], false, [.ow (.sl true [.s, .s]), .v (.i .i64)], [.v (.i .i64)]⟩
def x173_2_0 : List (Ex × List Nat × CSt) := [((.ex 0), [1], ⟨[.i .i64 0], [.row true [.i .i64, .i .i64, .i .i64, .sl false [.i .u8], .sl true [.s, .i .i64], .sl true [.s, .s]] [] 0 false, .dead]⟩)]
noncomputable def fi173 : Fi := ⟨Try.f173, [⟨2, [0, 1, 5], [], [(⟨[.rf 0 [] 0 none, .i .i64 0, .i .i64 0], [.row true [.i .i64, .i .i64, .i .i64, .sl false [.i .u8], .sl true [.s, .i .i64], .sl true [.s, .s]] [] 0 false, .dead]⟩, x173_2_0)]⟩], false, [.ow (.sl true [.i .i64, .i .i64, .i .i64, .sl false [.i .u8], .sl true [.s, .i .i64], .sl true [.s, .s]]), .v (.i .i64)], [.v (.i .i64)]⟩
def x116_2_0 : List (Ex × List Nat × CSt) := [((.ex 0), [1], ⟨[.i .i64 0], [.row true [.i .i64, .s, .b, .i .i64, .sl true [.i .i64, .i .i64, .i .i64, .sl false [.i .u8], .sl true [.s, .i .i64], .sl true [.s, .s]], .i .i64] [] 0 false, .dead]⟩)]
noncomputable def fi116 : Fi := ⟨Try.f116, [⟨2, [0, 1, 5], [], [(⟨[.rf 0 [] 0 none, .i .i64 0, .i .i64 0], [.row true [.i .i64, .s, .b, .i .i64, .sl true [.i .i64, .i .i64, .i .i64, .sl false [.i .u8], .sl true [.s, .i .i64], .sl true [.s, .s]], .i .i64] [] 0 false, .dead]⟩, x116_2_0)]⟩], false, [.ow (.sl true [.i .i64, .s, .b, .i .i64, .sl true [.i .i64, .i .i64, .i .i64, .sl false [.i .u8], .sl true [.s, .i .i64], .sl true [.s, .s]], .i .i64]), .v (.i .i64)], [.v (.i .i64)]⟩
noncomputable def fi63 : Fi := ⟨Try.f63, [], false, [.ag [.ow (.sl true [.i .i64, .s, .b, .i .i64, .sl true [.i .i64, .i .i64, .i .i64, .sl false [.i .u8], .sl true [.s, .i .i64], .sl true [.s, .s]], .i .i64]), .v (.i .i64)], .v (.i .i64)], [.v (.i .i64)]⟩
def x117_2_0 : List (Ex × List Nat × CSt) := [((.ex 0), [1], ⟨[.i .i64 0], [.row true [.i .i64, .s, .b, .i .i64, .i .i64] [] 0 false, .dead]⟩)]
noncomputable def fi117 : Fi := ⟨Try.f117, [⟨2, [0, 1, 5], [], [(⟨[.rf 0 [] 0 none, .i .i64 0, .i .i64 0], [.row true [.i .i64, .s, .b, .i .i64, .i .i64] [] 0 false, .dead]⟩, x117_2_0)]⟩], false, [.ow (.sl true [.i .i64, .s, .b, .i .i64, .i .i64]), .v (.i .i64)], [.v (.i .i64)]⟩
noncomputable def fi64 : Fi := ⟨Try.f64, [], false, [.ag [.v (.i .i64), .ow (.sl true [.i .i64, .s, .b, .i .i64, .i .i64])], .v (.i .i64)], [.v (.i .i64)]⟩
def x118_2_0 : List (Ex × List Nat × CSt) := [((.ex 0), [1], ⟨[.i .i64 0], [.row true [.i .i64, .i .i64] [] 0 false, .dead]⟩)]
noncomputable def fi118 : Fi := ⟨Try.f118, [⟨2, [0, 1, 5], [], [(⟨[.rf 0 [] 0 none, .i .i64 0, .i .i64 0], [.row true [.i .i64, .i .i64] [] 0 false, .dead]⟩, x118_2_0)]⟩], false, [.ow (.sl true [.i .i64, .i .i64]), .v (.i .i64)], [.v (.i .i64)]⟩
def x65_2_0 : List (Ex × List Nat × CSt) := [((.ex 0), [1], ⟨[.i .i64 0], [.row true [.i .i64, .sl true [.i .i64, .i .i64]] [] 0 false, .dead]⟩)]
noncomputable def fi65 : Fi := ⟨Try.f65, [⟨2, [0, 1, 5], [], [(⟨[.rf 0 [] 0 none, .i .i64 0, .i .i64 0], [.row true [.i .i64, .sl true [.i .i64, .i .i64]] [] 0 false, .dead]⟩, x65_2_0)]⟩], false, [.ow (.sl true [.i .i64, .sl true [.i .i64, .i .i64]]), .v (.i .i64)], [.v (.i .i64)]⟩
noncomputable def fi16 : Fi := ⟨Try.f16, [], false, [.ag [.ow (.sl true [.i .i64, .s, .b, .i .i64, .sl true [.i .i64, .i .i64, .i .i64, .sl false [.i .u8], .sl true [.s, .i .i64], .sl true [.s, .s]], .i .i64]), .v (.i .i64), .v (.i .i64), .ow (.sl true [.i .i64, .s, .b, .i .i64, .i .i64]), .ow (.sl true [.i .i64, .sl true [.i .i64, .i .i64]]), .v (.i .i64), .v (.i .i64)], .v (.i .i64)], [.v (.i .i64)]⟩
def x83_2_0 : List (Ex × List Nat × CSt) := [(.ret, [4], ⟨[.i .i64 0], [.dead, .dead]⟩), ((.ex 0), [1], ⟨[.i .i64 0], [.dead, .dead]⟩)]
noncomputable def fi83 : Fi := ⟨Try.f83, [⟨2, [0, 1, 5], [], [(⟨[.ro 0 false [.i .u8] [], .i .i64 0, .i .i64 0], [.dead, .dead]⟩, x83_2_0)]⟩], false, [.ro (.sl false [.i .u8]), .v (.i .i64)], [.v (.i .i64)]⟩
def x217_2_0 : List (Ex × List Nat × CSt) := [(.ret, [4], ⟨[.i .i64 0], [.dead, .dead]⟩), ((.ex 0), [1], ⟨[.i .i64 0], [.dead, .dead]⟩)]
noncomputable def fi217 : Fi := ⟨Try.f217, [⟨2, [0, 1, 5], [], [(⟨[.ro 0 true [.s, .i .i64] [], .i .i64 0, .i .i64 0], [.dead, .dead]⟩, x217_2_0)]⟩], false, [.ro (.sl true [.s, .i .i64]), .v (.i .i64)], [.v (.i .i64)]⟩
def x218_2_0 : List (Ex × List Nat × CSt) := [(.ret, [4], ⟨[.i .i64 0], [.dead, .dead]⟩), ((.ex 0), [1], ⟨[.i .i64 0], [.dead, .dead]⟩)]
noncomputable def fi218 : Fi := ⟨Try.f218, [⟨2, [0, 1, 5], [], [(⟨[.ro 0 true [.s, .s] [], .i .i64 0, .i .i64 0], [.dead, .dead]⟩, x218_2_0)]⟩], false, [.ro (.sl true [.s, .s]), .v (.i .i64)], [.v (.i .i64)]⟩
def x174_2_0 : List (Ex × List Nat × CSt) := [(.ret, [4], ⟨[.i .i64 0], [.dead, .dead]⟩), ((.ex 0), [1], ⟨[.i .i64 0], [.dead, .dead]⟩)]
noncomputable def fi174 : Fi := ⟨Try.f174, [⟨2, [0, 1, 5], [], [(⟨[.ro 0 true [.i .i64, .i .i64, .i .i64, .sl false [.i .u8], .sl true [.s, .i .i64], .sl true [.s, .s]] [], .i .i64 0, .i .i64 0], [.dead, .dead]⟩, x174_2_0)]⟩], false, [.ro (.sl true [.i .i64, .i .i64, .i .i64, .sl false [.i .u8], .sl true [.s, .i .i64], .sl true [.s, .s]]), .v (.i .i64)], [.v (.i .i64)]⟩
def x119_2_0 : List (Ex × List Nat × CSt) := [(.ret, [4], ⟨[.i .i64 0], [.dead, .dead]⟩), ((.ex 0), [1], ⟨[.i .i64 0], [.dead, .dead]⟩)]
noncomputable def fi119 : Fi := ⟨Try.f119, [⟨2, [0, 1, 5], [], [(⟨[.ro 0 true [.i .i64, .s, .b, .i .i64, .sl true [.i .i64, .i .i64, .i .i64, .sl false [.i .u8], .sl true [.s, .i .i64], .sl true [.s, .s]], .i .i64] [], .i .i64 0, .i .i64 0], [.dead, .dead]⟩, x119_2_0)]⟩], false, [.ro (.sl true [.i .i64, .s, .b, .i .i64, .sl true [.i .i64, .i .i64, .i .i64, .sl false [.i .u8], .sl true [.s, .i .i64], .sl true [.s, .s]], .i .i64]), .v (.i .i64)], [.v (.i .i64)]⟩
noncomputable def fi66 : Fi := ⟨Try.f66, [], false, [.ag [.ro (.sl true [.i .i64, .s, .b, .i .i64, .sl true [.i .i64, .i .i64, .i .i64, .sl false [.i .u8], .sl true [.s, .i .i64], .sl true [.s, .s]], .i .i64]), .v (.i .i64)], .v (.i .i64)], [.v (.i .i64)]⟩
def x120_2_0 : List (Ex × List Nat × CSt) := [(.ret, [4], ⟨[.i .i64 0], [.dead, .dead]⟩), ((.ex 0), [1], ⟨[.i .i64 0], [.dead, .dead]⟩)]
noncomputable def fi120 : Fi := ⟨Try.f120, [⟨2, [0, 1, 5], [], [(⟨[.ro 0 true [.i .i64, .s, .b, .i .i64, .i .i64] [], .i .i64 0, .i .i64 0], [.dead, .dead]⟩, x120_2_0)]⟩], false, [.ro (.sl true [.i .i64, .s, .b, .i .i64, .i .i64]), .v (.i .i64)], [.v (.i .i64)]⟩
noncomputable def fi67 : Fi := ⟨Try.f67, [], false, [.ag [.v (.i .i64), .ro (.sl true [.i .i64, .s, .b, .i .i64, .i .i64])], .v (.i .i64)], [.v (.i .i64)]⟩
def x121_2_0 : List (Ex × List Nat × CSt) := [(.ret, [4], ⟨[.i .i64 0], [.dead, .dead]⟩), ((.ex 0), [1], ⟨[.i .i64 0], [.dead, .dead]⟩)]
noncomputable def fi121 : Fi := ⟨Try.f121, [⟨2, [0, 1, 5], [], [(⟨[.ro 0 true [.i .i64, .i .i64] [], .i .i64 0, .i .i64 0], [.dead, .dead]⟩, x121_2_0)]⟩], false, [.ro (.sl true [.i .i64, .i .i64]), .v (.i .i64)], [.v (.i .i64)]⟩
def x68_2_0 : List (Ex × List Nat × CSt) := [(.ret, [4], ⟨[.i .i64 0], [.dead, .dead]⟩), ((.ex 0), [1], ⟨[.i .i64 0], [.dead, .dead]⟩)]
noncomputable def fi68 : Fi := ⟨Try.f68, [⟨2, [0, 1, 5], [], [(⟨[.ro 0 true [.i .i64, .sl true [.i .i64, .i .i64]] [], .i .i64 0, .i .i64 0], [.dead, .dead]⟩, x68_2_0)]⟩], false, [.ro (.sl true [.i .i64, .sl true [.i .i64, .i .i64]]), .v (.i .i64)], [.v (.i .i64)]⟩
noncomputable def fi17 : Fi := ⟨Try.f17, [], false, [.ag [.ro (.sl true [.i .i64, .s, .b, .i .i64, .sl true [.i .i64, .i .i64, .i .i64, .sl false [.i .u8], .sl true [.s, .i .i64], .sl true [.s, .s]], .i .i64]), .v (.i .i64), .v (.i .i64), .ro (.sl true [.i .i64, .s, .b, .i .i64, .i .i64]), .ro (.sl true [.i .i64, .sl true [.i .i64, .i .i64]]), .v (.i .i64), .v (.i .i64)], .v (.i .i64)], [.v (.i .i64)]⟩
noncomputable def fi3 : Fi := ⟨Try.f3, [], false, [], [.v (.b)]⟩
noncomputable def fiTab : List (Nat × Fi) := [(58, fi58), (13, fi13), (59, fi59), (14, fi14), (48, fi48), (264, fi264), (257, fi257), (265, fi265), (258, fi258), (251, fi251), (241, fi241), (213, fi213), (169, fi169), (113, fi113), (60, fi60), (170, fi170), (114, fi114), (61, fi61), (214, fi214), (171, fi171), (115, fi115), (62, fi62), (15, fi15), (172, fi172), (49, fi49), (215, fi215), (216, fi216), (173, fi173), (116, fi116), (63, fi63), (117, fi117), (64, fi64), (118, fi118), (65, fi65), (16, fi16), (83, fi83), (217, fi217), (218, fi218), (174, fi174), (119, fi119), (66, fi66), (120, fi120), (67, fi67), (121, fi121), (68, fi68), (17, fi17), (3, fi3)]
def X : Nat → Option (List T → Option (List T)) := lookN []
noncomputable def env : Env := ⟨lookN fiTab, lookN tyTab⟩
-- FUNCTIONS
/-- loop.example/g00285/spec.FsNew -/
def f58_t (c : Orc) (lf : Nat) : Option (List T) :=
  some [T.st [T.sl [], T.i .i64 1]]
def f58 (c : Orc) (lf : Nat) : Option (List T) := f58_t c lf
theorem f58_raw (c : Orc) (lf : Nat) : funK c env lf 6 fi58 [] = f58_t c lf := by kernel_rfl
theorem f58_eq (c : Orc) (lf : Nat) : funK c env lf 6 fi58 [] = f58 c lf := by
  refine (f58_raw c lf).trans ?_
  rfl
/-- loop.example/g00285/spec.ImageNew -/
def f13_t (c : Orc) (lf : Nat) : Option (List T) :=
  (c 58 []).bind fun r1 =>
  some [T.st [T.sl (asL (T.cell (nth r1 0) 0)), T.i .i64 (asI (T.cell (nth r1 0) 1)), T.i .i64 1, T.sl [], T.sl [], T.i .i64 (-1), T.i .i64 (-1)]]
def f13 (c : Orc) (lf : Nat) : Option (List T) := f13_t c lf
theorem f13_raw (c : Orc) (lf : Nat) : funK c env lf 6 fi13 [] = f13_t c lf := by kernel_rfl
theorem f13_eq (c : Orc) (lf : Nat) : funK c env lf 6 fi13 [] = f13 c lf := by
  refine (f13_raw c lf).trans ?_
  rfl
/-- loop.example/g00285/impl.FsNew -/
def f59_t (c : Orc) (lf : Nat) : Option (List T) :=
  some [T.st [T.sl [], T.i .i64 1]]
def f59 (c : Orc) (lf : Nat) : Option (List T) := f59_t c lf
theorem f59_raw (c : Orc) (lf : Nat) : funK c env lf 6 fi59 [] = f59_t c lf := by kernel_rfl
theorem f59_eq (c : Orc) (lf : Nat) : funK c env lf 6 fi59 [] = f59 c lf := by
  refine (f59_raw c lf).trans ?_
  rfl
/-- loop.example/g00285/impl.ImageNew -/
def f14_t (c : Orc) (lf : Nat) : Option (List T) :=
  (c 59 []).bind fun r2 =>
  some [T.st [T.sl (asL (T.cell (nth r2 0) 0)), T.i .i64 (asI (T.cell (nth r2 0) 1)), T.i .i64 1, T.sl [], T.sl [], T.i .i64 (-1), T.i .i64 (-1)]]
def f14 (c : Orc) (lf : Nat) : Option (List T) := f14_t c lf
theorem f14_raw (c : Orc) (lf : Nat) : funK c env lf 6 fi14 [] = f14_t c lf := by kernel_rfl
theorem f14_eq (c : Orc) (lf : Nat) : funK c env lf 6 fi14 [] = f14 c lf := by
  refine (f14_raw c lf).trans ?_
  rfl
/-- loop.example/g00285/laws.eqByteS, the loop at region 4. -/
def f48_0_s (c : Orc) (lf : Nat) (l0 : List T) (l1 : List T) (L : Int → Option (List T)) (x5 : Int) : Option (List T) :=
  bif iLt x5 (l0.length : Int) then
    bif inR x5 l0.length then
    bif inR x5 l1.length then
    bif (asI (l0.getD x5.toNat T.u)) != (asI (l1.getD x5.toNat T.u)) then
      some [T.i .i64 0, T.b false]
    else
      L (IntKind.wrap .i64 (x5 + 1))
    else none
    else none
  else
    some [T.i .i64 1]
def f48_0_c (l0 : List T) (l1 : List T) (x5 : Int) : CSt := ⟨[.ro 0 false [.i .u8] l0, .ro 0 false [.i .u8] l1, .i .i64 x5], [.dead, .dead]⟩
theorem f48_0_round (c : Orc) (lf : Nat) (l0 : List T) (l1 : List T) (L : CSt → Option (List T)) (x5 : Int) :
    roundK c env lf 6 fi48 2 4 [] [0, 1, 5] (x48_4_0) L (f48_0_c l0 l1 x5) = f48_0_s c lf l0 l1 (fun x5 => L (f48_0_c l0 l1 x5)) x5 := by kernel_rfl
def f48_0 (c : Orc) (lf : Nat) (l0 : List T) (l1 : List T) : Nat → Int → Option (List T)
  | 0 => fun _ => none
  | n + 1 => fun x5 => f48_0_s c lf l0 l1 (f48_0 c lf l0 l1 n) x5
theorem f48_0_u (c : Orc) (lf : Nat) (l0 : List T) (l1 : List T) (n : Nat) (x5 : Int) : f48_0 c lf l0 l1 (n + 1) x5 = f48_0_s c lf l0 l1 (f48_0 c lf l0 l1 n) x5 := rfl
theorem f48_0_eq (c : Orc) (lf : Nat) (l0 : List T) (l1 : List T) (n : Nat) (x5 : Int) :
    lpK c env lf 6 fi48 2 4 [] [0, 1, 5] (x48_4_0) n (f48_0_c l0 l1 x5) = f48_0 c lf l0 l1 n x5 := by
  induction n generalizing x5 with
  | zero => rfl
  | succ n ih =>
    refine (f48_0_round c lf l0 l1 _ x5).trans ?_
    have e : (fun x5 => lpK c env lf 6 fi48 2 4 [] [0, 1, 5] (x48_4_0) n (f48_0_c l0 l1 x5)) = f48_0 c lf l0 l1 n := by funext x5; exact ih x5
    show f48_0_s c lf l0 l1 (fun x5 => lpK c env lf 6 fi48 2 4 [] [0, 1, 5] (x48_4_0) n (f48_0_c l0 l1 x5)) x5 = _
    rw [e]; rfl
/-- loop.example/g00285/laws.eqByteS -/
def f48_t (c : Orc) (lf : Nat) (lp0 : List T → List T → Int → Option (List T)) (l0 : List T) (l1 : List T) : Option (List T) :=
  bif (l0.length : Int) != (l1.length : Int) then
    some [T.b false]
  else
    (lp0 l0 l1 0).bind fun r6 =>
    bif asI (nth r6 0) == 0 then
      some [T.b (asB (nth r6 1))]
    else
      some [T.b true]
def f48 (c : Orc) (lf : Nat) (l0 : List T) (l1 : List T) : Option (List T) := f48_t c lf (fun (l0 : List T) (l1 : List T) (x5 : Int) => f48_0 c lf l0 l1 lf x5) l0 l1
theorem f48_raw (c : Orc) (lf : Nat) (l0 : List T) (l1 : List T) : funK c env lf 6 fi48 [.sl l0, .sl l1] = f48_t c lf (fun (l0 : List T) (l1 : List T) (x5 : Int) => lpK c env lf 6 fi48 2 4 [] [0, 1, 5] (x48_4_0) lf (f48_0_c l0 l1 x5)) l0 l1 := by kernel_rfl
theorem f48_eq (c : Orc) (lf : Nat) (l0 : List T) (l1 : List T) : funK c env lf 6 fi48 [.sl l0, .sl l1] = f48 c lf l0 l1 := by
  refine (f48_raw c lf l0 l1).trans ?_
  have e0 : (fun (l0 : List T) (l1 : List T) (x5 : Int) => lpK c env lf 6 fi48 2 4 [] [0, 1, 5] (x48_4_0) lf (f48_0_c l0 l1 x5)) = (fun (l0 : List T) (l1 : List T) (x5 : Int) => f48_0 c lf l0 l1 lf x5) := by funext l0 l1 x5; exact f48_0_eq c lf l0 l1 lf x5
  rw [e0]; rfl
/-- loop.example/g00285/laws.eqEnt -/
def f264_t (c : Orc) (lf : Nat) (s0_0 : ByteArray) (n0_1 : Int) (s1_0 : ByteArray) (n1_1 : Int) : Option (List T) :=
  bif !(s0_0.toList == s1_0.toList) then
    some [T.b false]
  else
    bif n0_1 != n1_1 then
      some [T.b false]
    else
      some [T.b true]
def f264 (c : Orc) (lf : Nat) (s0_0 : ByteArray) (n0_1 : Int) (s1_0 : ByteArray) (n1_1 : Int) : Option (List T) := f264_t c lf s0_0 n0_1 s1_0 n1_1
theorem f264_raw (c : Orc) (lf : Nat) (s0_0 : ByteArray) (n0_1 : Int) (s1_0 : ByteArray) (n1_1 : Int) : funK c env lf 6 fi264 [.st [.s s0_0, .i .i64 n0_1], .st [.s s1_0, .i .i64 n1_1]] = f264_t c lf s0_0 n0_1 s1_0 n1_1 := by kernel_rfl
theorem f264_eq (c : Orc) (lf : Nat) (s0_0 : ByteArray) (n0_1 : Int) (s1_0 : ByteArray) (n1_1 : Int) : funK c env lf 6 fi264 [.st [.s s0_0, .i .i64 n0_1], .st [.s s1_0, .i .i64 n1_1]] = f264 c lf s0_0 n0_1 s1_0 n1_1 := by
  refine (f264_raw c lf s0_0 n0_1 s1_0 n1_1).trans ?_
  rfl
/-- loop.example/g00285/laws.eqEntS, the loop at region 4. -/
def f257_0_s (c : Orc) (lf : Nat) (l0 : List T) (l1 : List T) (L : Int → Option (List T)) (x12 : Int) : Option (List T) :=
  bif iLt x12 (l0.length : Int) then
    bif inR x12 l0.length then
    bif inR x12 l1.length then
    (c 264 [T.st [T.s (asS (T.cell (l0.getD x12.toNat T.u) 0)), T.i .i64 (asI (T.cell (l0.getD x12.toNat T.u) 1))], T.st [T.s (asS (T.cell (l1.getD x12.toNat T.u) 0)), T.i .i64 (asI (T.cell (l1.getD x12.toNat T.u) 1))]]).bind fun r13 =>
    bif !(asB (nth r13 0)) then
      some [T.i .i64 0, T.b false]
    else
      L (IntKind.wrap .i64 (x12 + 1))
    else none
    else none
  else
    some [T.i .i64 1]
def f257_0_c (l0 : List T) (l1 : List T) (x12 : Int) : CSt := ⟨[.ro 0 true [.s, .i .i64] l0, .ro 0 true [.s, .i .i64] l1, .i .i64 x12], [.dead, .dead]⟩
theorem f257_0_round (c : Orc) (lf : Nat) (l0 : List T) (l1 : List T) (L : CSt → Option (List T)) (x12 : Int) :
    roundK c env lf 6 fi257 2 4 [] [0, 1, 5] (x257_4_0) L (f257_0_c l0 l1 x12) = f257_0_s c lf l0 l1 (fun x12 => L (f257_0_c l0 l1 x12)) x12 := by kernel_rfl
def f257_0 (c : Orc) (lf : Nat) (l0 : List T) (l1 : List T) : Nat → Int → Option (List T)
  | 0 => fun _ => none
  | n + 1 => fun x12 => f257_0_s c lf l0 l1 (f257_0 c lf l0 l1 n) x12
theorem f257_0_u (c : Orc) (lf : Nat) (l0 : List T) (l1 : List T) (n : Nat) (x12 : Int) : f257_0 c lf l0 l1 (n + 1) x12 = f257_0_s c lf l0 l1 (f257_0 c lf l0 l1 n) x12 := rfl
theorem f257_0_eq (c : Orc) (lf : Nat) (l0 : List T) (l1 : List T) (n : Nat) (x12 : Int) :
    lpK c env lf 6 fi257 2 4 [] [0, 1, 5] (x257_4_0) n (f257_0_c l0 l1 x12) = f257_0 c lf l0 l1 n x12 := by
  induction n generalizing x12 with
  | zero => rfl
  | succ n ih =>
    refine (f257_0_round c lf l0 l1 _ x12).trans ?_
    have e : (fun x12 => lpK c env lf 6 fi257 2 4 [] [0, 1, 5] (x257_4_0) n (f257_0_c l0 l1 x12)) = f257_0 c lf l0 l1 n := by funext x12; exact ih x12
    show f257_0_s c lf l0 l1 (fun x12 => lpK c env lf 6 fi257 2 4 [] [0, 1, 5] (x257_4_0) n (f257_0_c l0 l1 x12)) x12 = _
    rw [e]; rfl
/-- loop.example/g00285/laws.eqEntS -/
def f257_t (c : Orc) (lf : Nat) (lp0 : List T → List T → Int → Option (List T)) (l0 : List T) (l1 : List T) : Option (List T) :=
  bif (l0.length : Int) != (l1.length : Int) then
    some [T.b false]
  else
    (lp0 l0 l1 0).bind fun r14 =>
    bif asI (nth r14 0) == 0 then
      some [T.b (asB (nth r14 1))]
    else
      some [T.b true]
def f257 (c : Orc) (lf : Nat) (l0 : List T) (l1 : List T) : Option (List T) := f257_t c lf (fun (l0 : List T) (l1 : List T) (x12 : Int) => f257_0 c lf l0 l1 lf x12) l0 l1
theorem f257_raw (c : Orc) (lf : Nat) (l0 : List T) (l1 : List T) : funK c env lf 6 fi257 [.sl l0, .sl l1] = f257_t c lf (fun (l0 : List T) (l1 : List T) (x12 : Int) => lpK c env lf 6 fi257 2 4 [] [0, 1, 5] (x257_4_0) lf (f257_0_c l0 l1 x12)) l0 l1 := by kernel_rfl
theorem f257_eq (c : Orc) (lf : Nat) (l0 : List T) (l1 : List T) : funK c env lf 6 fi257 [.sl l0, .sl l1] = f257 c lf l0 l1 := by
  refine (f257_raw c lf l0 l1).trans ?_
  have e0 : (fun (l0 : List T) (l1 : List T) (x12 : Int) => lpK c env lf 6 fi257 2 4 [] [0, 1, 5] (x257_4_0) lf (f257_0_c l0 l1 x12)) = (fun (l0 : List T) (l1 : List T) (x12 : Int) => f257_0 c lf l0 l1 lf x12) := by funext l0 l1 x12; exact f257_0_eq c lf l0 l1 lf x12
  rw [e0]; rfl
/-- loop.example/g00285/laws.eqAttr -/
def f265_t (c : Orc) (lf : Nat) (s0_0 : ByteArray) (s0_1 : ByteArray) (s1_0 : ByteArray) (s1_1 : ByteArray) : Option (List T) :=
  bif !(s0_0.toList == s1_0.toList) then
    some [T.b false]
  else
    bif !(s0_1.toList == s1_1.toList) then
      some [T.b false]
    else
      some [T.b true]
def f265 (c : Orc) (lf : Nat) (s0_0 : ByteArray) (s0_1 : ByteArray) (s1_0 : ByteArray) (s1_1 : ByteArray) : Option (List T) := f265_t c lf s0_0 s0_1 s1_0 s1_1
theorem f265_raw (c : Orc) (lf : Nat) (s0_0 : ByteArray) (s0_1 : ByteArray) (s1_0 : ByteArray) (s1_1 : ByteArray) : funK c env lf 6 fi265 [.st [.s s0_0, .s s0_1], .st [.s s1_0, .s s1_1]] = f265_t c lf s0_0 s0_1 s1_0 s1_1 := by kernel_rfl
theorem f265_eq (c : Orc) (lf : Nat) (s0_0 : ByteArray) (s0_1 : ByteArray) (s1_0 : ByteArray) (s1_1 : ByteArray) : funK c env lf 6 fi265 [.st [.s s0_0, .s s0_1], .st [.s s1_0, .s s1_1]] = f265 c lf s0_0 s0_1 s1_0 s1_1 := by
  refine (f265_raw c lf s0_0 s0_1 s1_0 s1_1).trans ?_
  rfl
/-- loop.example/g00285/laws.eqAttrS, the loop at region 4. -/
def f258_0_s (c : Orc) (lf : Nat) (l0 : List T) (l1 : List T) (L : Int → Option (List T)) (x20 : Int) : Option (List T) :=
  bif iLt x20 (l0.length : Int) then
    bif inR x20 l0.length then
    bif inR x20 l1.length then
    (c 265 [T.st [T.s (asS (T.cell (l0.getD x20.toNat T.u) 0)), T.s (asS (T.cell (l0.getD x20.toNat T.u) 1))], T.st [T.s (asS (T.cell (l1.getD x20.toNat T.u) 0)), T.s (asS (T.cell (l1.getD x20.toNat T.u) 1))]]).bind fun r21 =>
    bif !(asB (nth r21 0)) then
      some [T.i .i64 0, T.b false]
    else
      L (IntKind.wrap .i64 (x20 + 1))
    else none
    else none
  else
    some [T.i .i64 1]
def f258_0_c (l0 : List T) (l1 : List T) (x20 : Int) : CSt := ⟨[.ro 0 true [.s, .s] l0, .ro 0 true [.s, .s] l1, .i .i64 x20], [.dead, .dead]⟩
theorem f258_0_round (c : Orc) (lf : Nat) (l0 : List T) (l1 : List T) (L : CSt → Option (List T)) (x20 : Int) :
    roundK c env lf 6 fi258 2 4 [] [0, 1, 5] (x258_4_0) L (f258_0_c l0 l1 x20) = f258_0_s c lf l0 l1 (fun x20 => L (f258_0_c l0 l1 x20)) x20 := by kernel_rfl
def f258_0 (c : Orc) (lf : Nat) (l0 : List T) (l1 : List T) : Nat → Int → Option (List T)
  | 0 => fun _ => none
  | n + 1 => fun x20 => f258_0_s c lf l0 l1 (f258_0 c lf l0 l1 n) x20
theorem f258_0_u (c : Orc) (lf : Nat) (l0 : List T) (l1 : List T) (n : Nat) (x20 : Int) : f258_0 c lf l0 l1 (n + 1) x20 = f258_0_s c lf l0 l1 (f258_0 c lf l0 l1 n) x20 := rfl
theorem f258_0_eq (c : Orc) (lf : Nat) (l0 : List T) (l1 : List T) (n : Nat) (x20 : Int) :
    lpK c env lf 6 fi258 2 4 [] [0, 1, 5] (x258_4_0) n (f258_0_c l0 l1 x20) = f258_0 c lf l0 l1 n x20 := by
  induction n generalizing x20 with
  | zero => rfl
  | succ n ih =>
    refine (f258_0_round c lf l0 l1 _ x20).trans ?_
    have e : (fun x20 => lpK c env lf 6 fi258 2 4 [] [0, 1, 5] (x258_4_0) n (f258_0_c l0 l1 x20)) = f258_0 c lf l0 l1 n := by funext x20; exact ih x20
    show f258_0_s c lf l0 l1 (fun x20 => lpK c env lf 6 fi258 2 4 [] [0, 1, 5] (x258_4_0) n (f258_0_c l0 l1 x20)) x20 = _
    rw [e]; rfl
/-- loop.example/g00285/laws.eqAttrS -/
def f258_t (c : Orc) (lf : Nat) (lp0 : List T → List T → Int → Option (List T)) (l0 : List T) (l1 : List T) : Option (List T) :=
  bif (l0.length : Int) != (l1.length : Int) then
    some [T.b false]
  else
    (lp0 l0 l1 0).bind fun r22 =>
    bif asI (nth r22 0) == 0 then
      some [T.b (asB (nth r22 1))]
    else
      some [T.b true]
def f258 (c : Orc) (lf : Nat) (l0 : List T) (l1 : List T) : Option (List T) := f258_t c lf (fun (l0 : List T) (l1 : List T) (x20 : Int) => f258_0 c lf l0 l1 lf x20) l0 l1
theorem f258_raw (c : Orc) (lf : Nat) (l0 : List T) (l1 : List T) : funK c env lf 6 fi258 [.sl l0, .sl l1] = f258_t c lf (fun (l0 : List T) (l1 : List T) (x20 : Int) => lpK c env lf 6 fi258 2 4 [] [0, 1, 5] (x258_4_0) lf (f258_0_c l0 l1 x20)) l0 l1 := by kernel_rfl
theorem f258_eq (c : Orc) (lf : Nat) (l0 : List T) (l1 : List T) : funK c env lf 6 fi258 [.sl l0, .sl l1] = f258 c lf l0 l1 := by
  refine (f258_raw c lf l0 l1).trans ?_
  have e0 : (fun (l0 : List T) (l1 : List T) (x20 : Int) => lpK c env lf 6 fi258 2 4 [] [0, 1, 5] (x258_4_0) lf (f258_0_c l0 l1 x20)) = (fun (l0 : List T) (l1 : List T) (x20 : Int) => f258_0 c lf l0 l1 lf x20) := by funext l0 l1 x20; exact f258_0_eq c lf l0 l1 lf x20
  rw [e0]; rfl
/-- loop.example/g00285/laws.eqInode -/
def f251_t (c : Orc) (lf : Nat) (n0_0 : Int) (n0_1 : Int) (n0_2 : Int) (l0_3 : List T) (l0_4 : List T) (l0_5 : List T) (n1_0 : Int) (n1_1 : Int) (n1_2 : Int) (l1_3 : List T) (l1_4 : List T) (l1_5 : List T) : Option (List T) :=
  bif n0_0 != n1_0 then
    some [T.b false]
  else
    bif n0_1 != n1_1 then
      some [T.b false]
    else
      bif n0_2 != n1_2 then
        some [T.b false]
      else
        (c 48 [T.sl l0_3, T.sl l1_3]).bind fun r23 =>
        bif !(asB (nth r23 0)) then
          some [T.b false]
        else
          (c 257 [T.sl l0_4, T.sl l1_4]).bind fun r24 =>
          bif !(asB (nth r24 0)) then
            some [T.b false]
          else
            (c 258 [T.sl l0_5, T.sl l1_5]).bind fun r25 =>
            bif !(asB (nth r25 0)) then
              some [T.b false]
            else
              some [T.b true]
def f251 (c : Orc) (lf : Nat) (n0_0 : Int) (n0_1 : Int) (n0_2 : Int) (l0_3 : List T) (l0_4 : List T) (l0_5 : List T) (n1_0 : Int) (n1_1 : Int) (n1_2 : Int) (l1_3 : List T) (l1_4 : List T) (l1_5 : List T) : Option (List T) := f251_t c lf n0_0 n0_1 n0_2 l0_3 l0_4 l0_5 n1_0 n1_1 n1_2 l1_3 l1_4 l1_5
theorem f251_raw (c : Orc) (lf : Nat) (n0_0 : Int) (n0_1 : Int) (n0_2 : Int) (l0_3 : List T) (l0_4 : List T) (l0_5 : List T) (n1_0 : Int) (n1_1 : Int) (n1_2 : Int) (l1_3 : List T) (l1_4 : List T) (l1_5 : List T) : funK c env lf 6 fi251 [.st [.i .i64 n0_0, .i .i64 n0_1, .i .i64 n0_2, .sl l0_3, .sl l0_4, .sl l0_5], .st [.i .i64 n1_0, .i .i64 n1_1, .i .i64 n1_2, .sl l1_3, .sl l1_4, .sl l1_5]] = f251_t c lf n0_0 n0_1 n0_2 l0_3 l0_4 l0_5 n1_0 n1_1 n1_2 l1_3 l1_4 l1_5 := by kernel_rfl
theorem f251_eq (c : Orc) (lf : Nat) (n0_0 : Int) (n0_1 : Int) (n0_2 : Int) (l0_3 : List T) (l0_4 : List T) (l0_5 : List T) (n1_0 : Int) (n1_1 : Int) (n1_2 : Int) (l1_3 : List T) (l1_4 : List T) (l1_5 : List T) : funK c env lf 6 fi251 [.st [.i .i64 n0_0, .i .i64 n0_1, .i .i64 n0_2, .sl l0_3, .sl l0_4, .sl l0_5], .st [.i .i64 n1_0, .i .i64 n1_1, .i .i64 n1_2, .sl l1_3, .sl l1_4, .sl l1_5]] = f251 c lf n0_0 n0_1 n0_2 l0_3 l0_4 l0_5 n1_0 n1_1 n1_2 l1_3 l1_4 l1_5 := by
  refine (f251_raw c lf n0_0 n0_1 n0_2 l0_3 l0_4 l0_5 n1_0 n1_1 n1_2 l1_3 l1_4 l1_5).trans ?_
  rfl
/-- loop.example/g00285/laws.eqInodeS, the loop at region 4. -/
def f241_0_s (c : Orc) (lf : Nat) (l0 : List T) (l1 : List T) (L : Int → Option (List T)) (x31 : Int) : Option (List T) :=
  bif iLt x31 (l0.length : Int) then
    bif inR x31 l0.length then
    bif inR x31 l1.length then
    (c 251 [T.st [T.i .i64 (asI (T.cell (l0.getD x31.toNat T.u) 0)), T.i .i64 (asI (T.cell (l0.getD x31.toNat T.u) 1)), T.i .i64 (asI (T.cell (l0.getD x31.toNat T.u) 2)), T.sl (asL (T.cell (l0.getD x31.toNat T.u) 3)), T.sl (asL (T.cell (l0.getD x31.toNat T.u) 4)), T.sl (asL (T.cell (l0.getD x31.toNat T.u) 5))], T.st [T.i .i64 (asI (T.cell (l1.getD x31.toNat T.u) 0)), T.i .i64 (asI (T.cell (l1.getD x31.toNat T.u) 1)), T.i .i64 (asI (T.cell (l1.getD x31.toNat T.u) 2)), T.sl (asL (T.cell (l1.getD x31.toNat T.u) 3)), T.sl (asL (T.cell (l1.getD x31.toNat T.u) 4)), T.sl (asL (T.cell (l1.getD x31.toNat T.u) 5))]]).bind fun r32 =>
    bif !(asB (nth r32 0)) then
      some [T.i .i64 0, T.b false]
    else
      L (IntKind.wrap .i64 (x31 + 1))
    else none
    else none
  else
    some [T.i .i64 1]
def f241_0_c (l0 : List T) (l1 : List T) (x31 : Int) : CSt := ⟨[.ro 0 true [.i .i64, .i .i64, .i .i64, .sl false [.i .u8], .sl true [.s, .i .i64], .sl true [.s, .s]] l0, .ro 0 true [.i .i64, .i .i64, .i .i64, .sl false [.i .u8], .sl true [.s, .i .i64], .sl true [.s, .s]] l1, .i .i64 x31], [.dead, .dead]⟩
theorem f241_0_round (c : Orc) (lf : Nat) (l0 : List T) (l1 : List T) (L : CSt → Option (List T)) (x31 : Int) :
    roundK c env lf 6 fi241 2 4 [] [0, 1, 5] (x241_4_0) L (f241_0_c l0 l1 x31) = f241_0_s c lf l0 l1 (fun x31 => L (f241_0_c l0 l1 x31)) x31 := by kernel_rfl
def f241_0 (c : Orc) (lf : Nat) (l0 : List T) (l1 : List T) : Nat → Int → Option (List T)
  | 0 => fun _ => none
  | n + 1 => fun x31 => f241_0_s c lf l0 l1 (f241_0 c lf l0 l1 n) x31
theorem f241_0_u (c : Orc) (lf : Nat) (l0 : List T) (l1 : List T) (n : Nat) (x31 : Int) : f241_0 c lf l0 l1 (n + 1) x31 = f241_0_s c lf l0 l1 (f241_0 c lf l0 l1 n) x31 := rfl
theorem f241_0_eq (c : Orc) (lf : Nat) (l0 : List T) (l1 : List T) (n : Nat) (x31 : Int) :
    lpK c env lf 6 fi241 2 4 [] [0, 1, 5] (x241_4_0) n (f241_0_c l0 l1 x31) = f241_0 c lf l0 l1 n x31 := by
  induction n generalizing x31 with
  | zero => rfl
  | succ n ih =>
    refine (f241_0_round c lf l0 l1 _ x31).trans ?_
    have e : (fun x31 => lpK c env lf 6 fi241 2 4 [] [0, 1, 5] (x241_4_0) n (f241_0_c l0 l1 x31)) = f241_0 c lf l0 l1 n := by funext x31; exact ih x31
    show f241_0_s c lf l0 l1 (fun x31 => lpK c env lf 6 fi241 2 4 [] [0, 1, 5] (x241_4_0) n (f241_0_c l0 l1 x31)) x31 = _
    rw [e]; rfl
/-- loop.example/g00285/laws.eqInodeS -/
def f241_t (c : Orc) (lf : Nat) (lp0 : List T → List T → Int → Option (List T)) (l0 : List T) (l1 : List T) : Option (List T) :=
  bif (l0.length : Int) != (l1.length : Int) then
    some [T.b false]
  else
    (lp0 l0 l1 0).bind fun r33 =>
    bif asI (nth r33 0) == 0 then
      some [T.b (asB (nth r33 1))]
    else
      some [T.b true]
def f241 (c : Orc) (lf : Nat) (l0 : List T) (l1 : List T) : Option (List T) := f241_t c lf (fun (l0 : List T) (l1 : List T) (x31 : Int) => f241_0 c lf l0 l1 lf x31) l0 l1
theorem f241_raw (c : Orc) (lf : Nat) (l0 : List T) (l1 : List T) : funK c env lf 6 fi241 [.sl l0, .sl l1] = f241_t c lf (fun (l0 : List T) (l1 : List T) (x31 : Int) => lpK c env lf 6 fi241 2 4 [] [0, 1, 5] (x241_4_0) lf (f241_0_c l0 l1 x31)) l0 l1 := by kernel_rfl
theorem f241_eq (c : Orc) (lf : Nat) (l0 : List T) (l1 : List T) : funK c env lf 6 fi241 [.sl l0, .sl l1] = f241 c lf l0 l1 := by
  refine (f241_raw c lf l0 l1).trans ?_
  have e0 : (fun (l0 : List T) (l1 : List T) (x31 : Int) => lpK c env lf 6 fi241 2 4 [] [0, 1, 5] (x241_4_0) lf (f241_0_c l0 l1 x31)) = (fun (l0 : List T) (l1 : List T) (x31 : Int) => f241_0 c lf l0 l1 lf x31) := by funext l0 l1 x31; exact f241_0_eq c lf l0 l1 lf x31
  rw [e0]; rfl
/-- loop.example/g00285/laws.eqTab -/
def f213_t (c : Orc) (lf : Nat) (l0_0 : List T) (n0_1 : Int) (l1_0 : List T) (n1_1 : Int) : Option (List T) :=
  (c 241 [T.sl l0_0, T.sl l1_0]).bind fun r34 =>
  bif !(asB (nth r34 0)) then
    some [T.b false]
  else
    bif n0_1 != n1_1 then
      some [T.b false]
    else
      some [T.b true]
def f213 (c : Orc) (lf : Nat) (l0_0 : List T) (n0_1 : Int) (l1_0 : List T) (n1_1 : Int) : Option (List T) := f213_t c lf l0_0 n0_1 l1_0 n1_1
theorem f213_raw (c : Orc) (lf : Nat) (l0_0 : List T) (n0_1 : Int) (l1_0 : List T) (n1_1 : Int) : funK c env lf 6 fi213 [.st [.sl l0_0, .i .i64 n0_1], .st [.sl l1_0, .i .i64 n1_1]] = f213_t c lf l0_0 n0_1 l1_0 n1_1 := by kernel_rfl
theorem f213_eq (c : Orc) (lf : Nat) (l0_0 : List T) (n0_1 : Int) (l1_0 : List T) (n1_1 : Int) : funK c env lf 6 fi213 [.st [.sl l0_0, .i .i64 n0_1], .st [.sl l1_0, .i .i64 n1_1]] = f213 c lf l0_0 n0_1 l1_0 n1_1 := by
  refine (f213_raw c lf l0_0 n0_1 l1_0 n1_1).trans ?_
  rfl
/-- loop.example/g00285/laws.eqVol -/
def f169_t (c : Orc) (lf : Nat) (n0_0 : Int) (s0_1 : ByteArray) (b0_2 : Bool) (n0_3 : Int) (l0_4 : List T) (n0_5 : Int) (n1_0 : Int) (s1_1 : ByteArray) (b1_2 : Bool) (n1_3 : Int) (l1_4 : List T) (n1_5 : Int) : Option (List T) :=
  bif n0_0 != n1_0 then
    some [T.b false]
  else
    bif !(s0_1.toList == s1_1.toList) then
      some [T.b false]
    else
      bif !(b0_2 == b1_2) then
        some [T.b false]
      else
        bif n0_3 != n1_3 then
          some [T.b false]
        else
          (c 213 [T.st [T.sl l0_4, T.i .i64 n0_5], T.st [T.sl l1_4, T.i .i64 n1_5]]).bind fun r35 =>
          bif !(asB (nth r35 0)) then
            some [T.b false]
          else
            some [T.b true]
def f169 (c : Orc) (lf : Nat) (n0_0 : Int) (s0_1 : ByteArray) (b0_2 : Bool) (n0_3 : Int) (l0_4 : List T) (n0_5 : Int) (n1_0 : Int) (s1_1 : ByteArray) (b1_2 : Bool) (n1_3 : Int) (l1_4 : List T) (n1_5 : Int) : Option (List T) := f169_t c lf n0_0 s0_1 b0_2 n0_3 l0_4 n0_5 n1_0 s1_1 b1_2 n1_3 l1_4 n1_5
theorem f169_raw (c : Orc) (lf : Nat) (n0_0 : Int) (s0_1 : ByteArray) (b0_2 : Bool) (n0_3 : Int) (l0_4 : List T) (n0_5 : Int) (n1_0 : Int) (s1_1 : ByteArray) (b1_2 : Bool) (n1_3 : Int) (l1_4 : List T) (n1_5 : Int) : funK c env lf 6 fi169 [.st [.i .i64 n0_0, .s s0_1, .b b0_2, .i .i64 n0_3, .sl l0_4, .i .i64 n0_5], .st [.i .i64 n1_0, .s s1_1, .b b1_2, .i .i64 n1_3, .sl l1_4, .i .i64 n1_5]] = f169_t c lf n0_0 s0_1 b0_2 n0_3 l0_4 n0_5 n1_0 s1_1 b1_2 n1_3 l1_4 n1_5 := by kernel_rfl
theorem f169_eq (c : Orc) (lf : Nat) (n0_0 : Int) (s0_1 : ByteArray) (b0_2 : Bool) (n0_3 : Int) (l0_4 : List T) (n0_5 : Int) (n1_0 : Int) (s1_1 : ByteArray) (b1_2 : Bool) (n1_3 : Int) (l1_4 : List T) (n1_5 : Int) : funK c env lf 6 fi169 [.st [.i .i64 n0_0, .s s0_1, .b b0_2, .i .i64 n0_3, .sl l0_4, .i .i64 n0_5], .st [.i .i64 n1_0, .s s1_1, .b b1_2, .i .i64 n1_3, .sl l1_4, .i .i64 n1_5]] = f169 c lf n0_0 s0_1 b0_2 n0_3 l0_4 n0_5 n1_0 s1_1 b1_2 n1_3 l1_4 n1_5 := by
  refine (f169_raw c lf n0_0 s0_1 b0_2 n0_3 l0_4 n0_5 n1_0 s1_1 b1_2 n1_3 l1_4 n1_5).trans ?_
  rfl
/-- loop.example/g00285/laws.eqVolS, the loop at region 4. -/
def f113_0_s (c : Orc) (lf : Nat) (l0 : List T) (l1 : List T) (L : Int → Option (List T)) (x41 : Int) : Option (List T) :=
  bif iLt x41 (l0.length : Int) then
    bif inR x41 l0.length then
    bif inR x41 l1.length then
    (c 169 [T.st [T.i .i64 (asI (T.cell (l0.getD x41.toNat T.u) 0)), T.s (asS (T.cell (l0.getD x41.toNat T.u) 1)), T.b (asB (T.cell (l0.getD x41.toNat T.u) 2)), T.i .i64 (asI (T.cell (l0.getD x41.toNat T.u) 3)), T.sl (asL (T.cell (l0.getD x41.toNat T.u) 4)), T.i .i64 (asI (T.cell (l0.getD x41.toNat T.u) 5))], T.st [T.i .i64 (asI (T.cell (l1.getD x41.toNat T.u) 0)), T.s (asS (T.cell (l1.getD x41.toNat T.u) 1)), T.b (asB (T.cell (l1.getD x41.toNat T.u) 2)), T.i .i64 (asI (T.cell (l1.getD x41.toNat T.u) 3)), T.sl (asL (T.cell (l1.getD x41.toNat T.u) 4)), T.i .i64 (asI (T.cell (l1.getD x41.toNat T.u) 5))]]).bind fun r42 =>
    bif !(asB (nth r42 0)) then
      some [T.i .i64 0, T.b false]
    else
      L (IntKind.wrap .i64 (x41 + 1))
    else none
    else none
  else
    some [T.i .i64 1]
def f113_0_c (l0 : List T) (l1 : List T) (x41 : Int) : CSt := ⟨[.ro 0 true [.i .i64, .s, .b, .i .i64, .sl true [.i .i64, .i .i64, .i .i64, .sl false [.i .u8], .sl true [.s, .i .i64], .sl true [.s, .s]], .i .i64] l0, .ro 0 true [.i .i64, .s, .b, .i .i64, .sl true [.i .i64, .i .i64, .i .i64, .sl false [.i .u8], .sl true [.s, .i .i64], .sl true [.s, .s]], .i .i64] l1, .i .i64 x41], [.dead, .dead]⟩
theorem f113_0_round (c : Orc) (lf : Nat) (l0 : List T) (l1 : List T) (L : CSt → Option (List T)) (x41 : Int) :
    roundK c env lf 6 fi113 2 4 [] [0, 1, 5] (x113_4_0) L (f113_0_c l0 l1 x41) = f113_0_s c lf l0 l1 (fun x41 => L (f113_0_c l0 l1 x41)) x41 := by kernel_rfl
def f113_0 (c : Orc) (lf : Nat) (l0 : List T) (l1 : List T) : Nat → Int → Option (List T)
  | 0 => fun _ => none
  | n + 1 => fun x41 => f113_0_s c lf l0 l1 (f113_0 c lf l0 l1 n) x41
theorem f113_0_u (c : Orc) (lf : Nat) (l0 : List T) (l1 : List T) (n : Nat) (x41 : Int) : f113_0 c lf l0 l1 (n + 1) x41 = f113_0_s c lf l0 l1 (f113_0 c lf l0 l1 n) x41 := rfl
theorem f113_0_eq (c : Orc) (lf : Nat) (l0 : List T) (l1 : List T) (n : Nat) (x41 : Int) :
    lpK c env lf 6 fi113 2 4 [] [0, 1, 5] (x113_4_0) n (f113_0_c l0 l1 x41) = f113_0 c lf l0 l1 n x41 := by
  induction n generalizing x41 with
  | zero => rfl
  | succ n ih =>
    refine (f113_0_round c lf l0 l1 _ x41).trans ?_
    have e : (fun x41 => lpK c env lf 6 fi113 2 4 [] [0, 1, 5] (x113_4_0) n (f113_0_c l0 l1 x41)) = f113_0 c lf l0 l1 n := by funext x41; exact ih x41
    show f113_0_s c lf l0 l1 (fun x41 => lpK c env lf 6 fi113 2 4 [] [0, 1, 5] (x113_4_0) n (f113_0_c l0 l1 x41)) x41 = _
    rw [e]; rfl
/-- loop.example/g00285/laws.eqVolS -/
def f113_t (c : Orc) (lf : Nat) (lp0 : List T → List T → Int → Option (List T)) (l0 : List T) (l1 : List T) : Option (List T) :=
  bif (l0.length : Int) != (l1.length : Int) then
    some [T.b false]
  else
    (lp0 l0 l1 0).bind fun r43 =>
    bif asI (nth r43 0) == 0 then
      some [T.b (asB (nth r43 1))]
    else
      some [T.b true]
def f113 (c : Orc) (lf : Nat) (l0 : List T) (l1 : List T) : Option (List T) := f113_t c lf (fun (l0 : List T) (l1 : List T) (x41 : Int) => f113_0 c lf l0 l1 lf x41) l0 l1
theorem f113_raw (c : Orc) (lf : Nat) (l0 : List T) (l1 : List T) : funK c env lf 6 fi113 [.sl l0, .sl l1] = f113_t c lf (fun (l0 : List T) (l1 : List T) (x41 : Int) => lpK c env lf 6 fi113 2 4 [] [0, 1, 5] (x113_4_0) lf (f113_0_c l0 l1 x41)) l0 l1 := by kernel_rfl
theorem f113_eq (c : Orc) (lf : Nat) (l0 : List T) (l1 : List T) : funK c env lf 6 fi113 [.sl l0, .sl l1] = f113 c lf l0 l1 := by
  refine (f113_raw c lf l0 l1).trans ?_
  have e0 : (fun (l0 : List T) (l1 : List T) (x41 : Int) => lpK c env lf 6 fi113 2 4 [] [0, 1, 5] (x113_4_0) lf (f113_0_c l0 l1 x41)) = (fun (l0 : List T) (l1 : List T) (x41 : Int) => f113_0 c lf l0 l1 lf x41) := by funext l0 l1 x41; exact f113_0_eq c lf l0 l1 lf x41
  rw [e0]; rfl
/-- loop.example/g00285/laws.eqFs -/
def f60_t (c : Orc) (lf : Nat) (l0_0 : List T) (n0_1 : Int) (l1_0 : List T) (n1_1 : Int) : Option (List T) :=
  (c 113 [T.sl l0_0, T.sl l1_0]).bind fun r44 =>
  bif !(asB (nth r44 0)) then
    some [T.b false]
  else
    bif n0_1 != n1_1 then
      some [T.b false]
    else
      some [T.b true]
def f60 (c : Orc) (lf : Nat) (l0_0 : List T) (n0_1 : Int) (l1_0 : List T) (n1_1 : Int) : Option (List T) := f60_t c lf l0_0 n0_1 l1_0 n1_1
theorem f60_raw (c : Orc) (lf : Nat) (l0_0 : List T) (n0_1 : Int) (l1_0 : List T) (n1_1 : Int) : funK c env lf 6 fi60 [.st [.sl l0_0, .i .i64 n0_1], .st [.sl l1_0, .i .i64 n1_1]] = f60_t c lf l0_0 n0_1 l1_0 n1_1 := by kernel_rfl
theorem f60_eq (c : Orc) (lf : Nat) (l0_0 : List T) (n0_1 : Int) (l1_0 : List T) (n1_1 : Int) : funK c env lf 6 fi60 [.st [.sl l0_0, .i .i64 n0_1], .st [.sl l1_0, .i .i64 n1_1]] = f60 c lf l0_0 n0_1 l1_0 n1_1 := by
  refine (f60_raw c lf l0_0 n0_1 l1_0 n1_1).trans ?_
  rfl
/-- loop.example/g00285/laws.eqRow -/
def f170_t (c : Orc) (lf : Nat) (n0_0 : Int) (s0_1 : ByteArray) (b0_2 : Bool) (n0_3 : Int) (n0_4 : Int) (n1_0 : Int) (s1_1 : ByteArray) (b1_2 : Bool) (n1_3 : Int) (n1_4 : Int) : Option (List T) :=
  bif n0_0 != n1_0 then
    some [T.b false]
  else
    bif !(s0_1.toList == s1_1.toList) then
      some [T.b false]
    else
      bif !(b0_2 == b1_2) then
        some [T.b false]
      else
        bif n0_3 != n1_3 then
          some [T.b false]
        else
          bif n0_4 != n1_4 then
            some [T.b false]
          else
            some [T.b true]
def f170 (c : Orc) (lf : Nat) (n0_0 : Int) (s0_1 : ByteArray) (b0_2 : Bool) (n0_3 : Int) (n0_4 : Int) (n1_0 : Int) (s1_1 : ByteArray) (b1_2 : Bool) (n1_3 : Int) (n1_4 : Int) : Option (List T) := f170_t c lf n0_0 s0_1 b0_2 n0_3 n0_4 n1_0 s1_1 b1_2 n1_3 n1_4
theorem f170_raw (c : Orc) (lf : Nat) (n0_0 : Int) (s0_1 : ByteArray) (b0_2 : Bool) (n0_3 : Int) (n0_4 : Int) (n1_0 : Int) (s1_1 : ByteArray) (b1_2 : Bool) (n1_3 : Int) (n1_4 : Int) : funK c env lf 6 fi170 [.st [.i .i64 n0_0, .s s0_1, .b b0_2, .i .i64 n0_3, .i .i64 n0_4], .st [.i .i64 n1_0, .s s1_1, .b b1_2, .i .i64 n1_3, .i .i64 n1_4]] = f170_t c lf n0_0 s0_1 b0_2 n0_3 n0_4 n1_0 s1_1 b1_2 n1_3 n1_4 := by kernel_rfl
theorem f170_eq (c : Orc) (lf : Nat) (n0_0 : Int) (s0_1 : ByteArray) (b0_2 : Bool) (n0_3 : Int) (n0_4 : Int) (n1_0 : Int) (s1_1 : ByteArray) (b1_2 : Bool) (n1_3 : Int) (n1_4 : Int) : funK c env lf 6 fi170 [.st [.i .i64 n0_0, .s s0_1, .b b0_2, .i .i64 n0_3, .i .i64 n0_4], .st [.i .i64 n1_0, .s s1_1, .b b1_2, .i .i64 n1_3, .i .i64 n1_4]] = f170 c lf n0_0 s0_1 b0_2 n0_3 n0_4 n1_0 s1_1 b1_2 n1_3 n1_4 := by
  refine (f170_raw c lf n0_0 s0_1 b0_2 n0_3 n0_4 n1_0 s1_1 b1_2 n1_3 n1_4).trans ?_
  rfl
/-- loop.example/g00285/laws.eqRowS, the loop at region 4. -/
def f114_0_s (c : Orc) (lf : Nat) (l0 : List T) (l1 : List T) (L : Int → Option (List T)) (x50 : Int) : Option (List T) :=
  bif iLt x50 (l0.length : Int) then
    bif inR x50 l0.length then
    bif inR x50 l1.length then
    (c 170 [T.st [T.i .i64 (asI (T.cell (l0.getD x50.toNat T.u) 0)), T.s (asS (T.cell (l0.getD x50.toNat T.u) 1)), T.b (asB (T.cell (l0.getD x50.toNat T.u) 2)), T.i .i64 (asI (T.cell (l0.getD x50.toNat T.u) 3)), T.i .i64 (asI (T.cell (l0.getD x50.toNat T.u) 4))], T.st [T.i .i64 (asI (T.cell (l1.getD x50.toNat T.u) 0)), T.s (asS (T.cell (l1.getD x50.toNat T.u) 1)), T.b (asB (T.cell (l1.getD x50.toNat T.u) 2)), T.i .i64 (asI (T.cell (l1.getD x50.toNat T.u) 3)), T.i .i64 (asI (T.cell (l1.getD x50.toNat T.u) 4))]]).bind fun r51 =>
    bif !(asB (nth r51 0)) then
      some [T.i .i64 0, T.b false]
    else
      L (IntKind.wrap .i64 (x50 + 1))
    else none
    else none
  else
    some [T.i .i64 1]
def f114_0_c (l0 : List T) (l1 : List T) (x50 : Int) : CSt := ⟨[.ro 0 true [.i .i64, .s, .b, .i .i64, .i .i64] l0, .ro 0 true [.i .i64, .s, .b, .i .i64, .i .i64] l1, .i .i64 x50], [.dead, .dead]⟩
theorem f114_0_round (c : Orc) (lf : Nat) (l0 : List T) (l1 : List T) (L : CSt → Option (List T)) (x50 : Int) :
    roundK c env lf 6 fi114 2 4 [] [0, 1, 5] (x114_4_0) L (f114_0_c l0 l1 x50) = f114_0_s c lf l0 l1 (fun x50 => L (f114_0_c l0 l1 x50)) x50 := by kernel_rfl
def f114_0 (c : Orc) (lf : Nat) (l0 : List T) (l1 : List T) : Nat → Int → Option (List T)
  | 0 => fun _ => none
  | n + 1 => fun x50 => f114_0_s c lf l0 l1 (f114_0 c lf l0 l1 n) x50
theorem f114_0_u (c : Orc) (lf : Nat) (l0 : List T) (l1 : List T) (n : Nat) (x50 : Int) : f114_0 c lf l0 l1 (n + 1) x50 = f114_0_s c lf l0 l1 (f114_0 c lf l0 l1 n) x50 := rfl
theorem f114_0_eq (c : Orc) (lf : Nat) (l0 : List T) (l1 : List T) (n : Nat) (x50 : Int) :
    lpK c env lf 6 fi114 2 4 [] [0, 1, 5] (x114_4_0) n (f114_0_c l0 l1 x50) = f114_0 c lf l0 l1 n x50 := by
  induction n generalizing x50 with
  | zero => rfl
  | succ n ih =>
    refine (f114_0_round c lf l0 l1 _ x50).trans ?_
    have e : (fun x50 => lpK c env lf 6 fi114 2 4 [] [0, 1, 5] (x114_4_0) n (f114_0_c l0 l1 x50)) = f114_0 c lf l0 l1 n := by funext x50; exact ih x50
    show f114_0_s c lf l0 l1 (fun x50 => lpK c env lf 6 fi114 2 4 [] [0, 1, 5] (x114_4_0) n (f114_0_c l0 l1 x50)) x50 = _
    rw [e]; rfl
/-- loop.example/g00285/laws.eqRowS -/
def f114_t (c : Orc) (lf : Nat) (lp0 : List T → List T → Int → Option (List T)) (l0 : List T) (l1 : List T) : Option (List T) :=
  bif (l0.length : Int) != (l1.length : Int) then
    some [T.b false]
  else
    (lp0 l0 l1 0).bind fun r52 =>
    bif asI (nth r52 0) == 0 then
      some [T.b (asB (nth r52 1))]
    else
      some [T.b true]
def f114 (c : Orc) (lf : Nat) (l0 : List T) (l1 : List T) : Option (List T) := f114_t c lf (fun (l0 : List T) (l1 : List T) (x50 : Int) => f114_0 c lf l0 l1 lf x50) l0 l1
theorem f114_raw (c : Orc) (lf : Nat) (l0 : List T) (l1 : List T) : funK c env lf 6 fi114 [.sl l0, .sl l1] = f114_t c lf (fun (l0 : List T) (l1 : List T) (x50 : Int) => lpK c env lf 6 fi114 2 4 [] [0, 1, 5] (x114_4_0) lf (f114_0_c l0 l1 x50)) l0 l1 := by kernel_rfl
theorem f114_eq (c : Orc) (lf : Nat) (l0 : List T) (l1 : List T) : funK c env lf 6 fi114 [.sl l0, .sl l1] = f114 c lf l0 l1 := by
  refine (f114_raw c lf l0 l1).trans ?_
  have e0 : (fun (l0 : List T) (l1 : List T) (x50 : Int) => lpK c env lf 6 fi114 2 4 [] [0, 1, 5] (x114_4_0) lf (f114_0_c l0 l1 x50)) = (fun (l0 : List T) (l1 : List T) (x50 : Int) => f114_0 c lf l0 l1 lf x50) := by funext l0 l1 x50; exact f114_0_eq c lf l0 l1 lf x50
  rw [e0]; rfl
/-- loop.example/g00285/laws.eqTable -/
def f61_t (c : Orc) (lf : Nat) (n0_0 : Int) (l0_1 : List T) (n1_0 : Int) (l1_1 : List T) : Option (List T) :=
  bif n0_0 != n1_0 then
    some [T.b false]
  else
    (c 114 [T.sl l0_1, T.sl l1_1]).bind fun r53 =>
    bif !(asB (nth r53 0)) then
      some [T.b false]
    else
      some [T.b true]
def f61 (c : Orc) (lf : Nat) (n0_0 : Int) (l0_1 : List T) (n1_0 : Int) (l1_1 : List T) : Option (List T) := f61_t c lf n0_0 l0_1 n1_0 l1_1
theorem f61_raw (c : Orc) (lf : Nat) (n0_0 : Int) (l0_1 : List T) (n1_0 : Int) (l1_1 : List T) : funK c env lf 6 fi61 [.st [.i .i64 n0_0, .sl l0_1], .st [.i .i64 n1_0, .sl l1_1]] = f61_t c lf n0_0 l0_1 n1_0 l1_1 := by kernel_rfl
theorem f61_eq (c : Orc) (lf : Nat) (n0_0 : Int) (l0_1 : List T) (n1_0 : Int) (l1_1 : List T) : funK c env lf 6 fi61 [.st [.i .i64 n0_0, .sl l0_1], .st [.i .i64 n1_0, .sl l1_1]] = f61 c lf n0_0 l0_1 n1_0 l1_1 := by
  refine (f61_raw c lf n0_0 l0_1 n1_0 l1_1).trans ?_
  rfl
/-- loop.example/g00285/laws.eqPlace -/
def f214_t (c : Orc) (lf : Nat) (n0_0 : Int) (n0_1 : Int) (n1_0 : Int) (n1_1 : Int) : Option (List T) :=
  bif n0_0 != n1_0 then
    some [T.b false]
  else
    bif n0_1 != n1_1 then
      some [T.b false]
    else
      some [T.b true]
def f214 (c : Orc) (lf : Nat) (n0_0 : Int) (n0_1 : Int) (n1_0 : Int) (n1_1 : Int) : Option (List T) := f214_t c lf n0_0 n0_1 n1_0 n1_1
theorem f214_raw (c : Orc) (lf : Nat) (n0_0 : Int) (n0_1 : Int) (n1_0 : Int) (n1_1 : Int) : funK c env lf 6 fi214 [.st [.i .i64 n0_0, .i .i64 n0_1], .st [.i .i64 n1_0, .i .i64 n1_1]] = f214_t c lf n0_0 n0_1 n1_0 n1_1 := by kernel_rfl
theorem f214_eq (c : Orc) (lf : Nat) (n0_0 : Int) (n0_1 : Int) (n1_0 : Int) (n1_1 : Int) : funK c env lf 6 fi214 [.st [.i .i64 n0_0, .i .i64 n0_1], .st [.i .i64 n1_0, .i .i64 n1_1]] = f214 c lf n0_0 n0_1 n1_0 n1_1 := by
  refine (f214_raw c lf n0_0 n0_1 n1_0 n1_1).trans ?_
  rfl
/-- loop.example/g00285/laws.eqPlaceS, the loop at region 4. -/
def f171_0_s (c : Orc) (lf : Nat) (l0 : List T) (l1 : List T) (L : Int → Option (List T)) (x59 : Int) : Option (List T) :=
  bif iLt x59 (l0.length : Int) then
    bif inR x59 l0.length then
    bif inR x59 l1.length then
    (c 214 [T.st [T.i .i64 (asI (T.cell (l0.getD x59.toNat T.u) 0)), T.i .i64 (asI (T.cell (l0.getD x59.toNat T.u) 1))], T.st [T.i .i64 (asI (T.cell (l1.getD x59.toNat T.u) 0)), T.i .i64 (asI (T.cell (l1.getD x59.toNat T.u) 1))]]).bind fun r60 =>
    bif !(asB (nth r60 0)) then
      some [T.i .i64 0, T.b false]
    else
      L (IntKind.wrap .i64 (x59 + 1))
    else none
    else none
  else
    some [T.i .i64 1]
def f171_0_c (l0 : List T) (l1 : List T) (x59 : Int) : CSt := ⟨[.ro 0 true [.i .i64, .i .i64] l0, .ro 0 true [.i .i64, .i .i64] l1, .i .i64 x59], [.dead, .dead]⟩
theorem f171_0_round (c : Orc) (lf : Nat) (l0 : List T) (l1 : List T) (L : CSt → Option (List T)) (x59 : Int) :
    roundK c env lf 6 fi171 2 4 [] [0, 1, 5] (x171_4_0) L (f171_0_c l0 l1 x59) = f171_0_s c lf l0 l1 (fun x59 => L (f171_0_c l0 l1 x59)) x59 := by kernel_rfl
def f171_0 (c : Orc) (lf : Nat) (l0 : List T) (l1 : List T) : Nat → Int → Option (List T)
  | 0 => fun _ => none
  | n + 1 => fun x59 => f171_0_s c lf l0 l1 (f171_0 c lf l0 l1 n) x59
theorem f171_0_u (c : Orc) (lf : Nat) (l0 : List T) (l1 : List T) (n : Nat) (x59 : Int) : f171_0 c lf l0 l1 (n + 1) x59 = f171_0_s c lf l0 l1 (f171_0 c lf l0 l1 n) x59 := rfl
theorem f171_0_eq (c : Orc) (lf : Nat) (l0 : List T) (l1 : List T) (n : Nat) (x59 : Int) :
    lpK c env lf 6 fi171 2 4 [] [0, 1, 5] (x171_4_0) n (f171_0_c l0 l1 x59) = f171_0 c lf l0 l1 n x59 := by
  induction n generalizing x59 with
  | zero => rfl
  | succ n ih =>
    refine (f171_0_round c lf l0 l1 _ x59).trans ?_
    have e : (fun x59 => lpK c env lf 6 fi171 2 4 [] [0, 1, 5] (x171_4_0) n (f171_0_c l0 l1 x59)) = f171_0 c lf l0 l1 n := by funext x59; exact ih x59
    show f171_0_s c lf l0 l1 (fun x59 => lpK c env lf 6 fi171 2 4 [] [0, 1, 5] (x171_4_0) n (f171_0_c l0 l1 x59)) x59 = _
    rw [e]; rfl
/-- loop.example/g00285/laws.eqPlaceS -/
def f171_t (c : Orc) (lf : Nat) (lp0 : List T → List T → Int → Option (List T)) (l0 : List T) (l1 : List T) : Option (List T) :=
  bif (l0.length : Int) != (l1.length : Int) then
    some [T.b false]
  else
    (lp0 l0 l1 0).bind fun r61 =>
    bif asI (nth r61 0) == 0 then
      some [T.b (asB (nth r61 1))]
    else
      some [T.b true]
def f171 (c : Orc) (lf : Nat) (l0 : List T) (l1 : List T) : Option (List T) := f171_t c lf (fun (l0 : List T) (l1 : List T) (x59 : Int) => f171_0 c lf l0 l1 lf x59) l0 l1
theorem f171_raw (c : Orc) (lf : Nat) (l0 : List T) (l1 : List T) : funK c env lf 6 fi171 [.sl l0, .sl l1] = f171_t c lf (fun (l0 : List T) (l1 : List T) (x59 : Int) => lpK c env lf 6 fi171 2 4 [] [0, 1, 5] (x171_4_0) lf (f171_0_c l0 l1 x59)) l0 l1 := by kernel_rfl
theorem f171_eq (c : Orc) (lf : Nat) (l0 : List T) (l1 : List T) : funK c env lf 6 fi171 [.sl l0, .sl l1] = f171 c lf l0 l1 := by
  refine (f171_raw c lf l0 l1).trans ?_
  have e0 : (fun (l0 : List T) (l1 : List T) (x59 : Int) => lpK c env lf 6 fi171 2 4 [] [0, 1, 5] (x171_4_0) lf (f171_0_c l0 l1 x59)) = (fun (l0 : List T) (l1 : List T) (x59 : Int) => f171_0 c lf l0 l1 lf x59) := by funext l0 l1 x59; exact f171_0_eq c lf l0 l1 lf x59
  rw [e0]; rfl
/-- loop.example/g00285/laws.eqMap -/
def f115_t (c : Orc) (lf : Nat) (n0_0 : Int) (l0_1 : List T) (n1_0 : Int) (l1_1 : List T) : Option (List T) :=
  bif n0_0 != n1_0 then
    some [T.b false]
  else
    (c 171 [T.sl l0_1, T.sl l1_1]).bind fun r62 =>
    bif !(asB (nth r62 0)) then
      some [T.b false]
    else
      some [T.b true]
def f115 (c : Orc) (lf : Nat) (n0_0 : Int) (l0_1 : List T) (n1_0 : Int) (l1_1 : List T) : Option (List T) := f115_t c lf n0_0 l0_1 n1_0 l1_1
theorem f115_raw (c : Orc) (lf : Nat) (n0_0 : Int) (l0_1 : List T) (n1_0 : Int) (l1_1 : List T) : funK c env lf 6 fi115 [.st [.i .i64 n0_0, .sl l0_1], .st [.i .i64 n1_0, .sl l1_1]] = f115_t c lf n0_0 l0_1 n1_0 l1_1 := by kernel_rfl
theorem f115_eq (c : Orc) (lf : Nat) (n0_0 : Int) (l0_1 : List T) (n1_0 : Int) (l1_1 : List T) : funK c env lf 6 fi115 [.st [.i .i64 n0_0, .sl l0_1], .st [.i .i64 n1_0, .sl l1_1]] = f115 c lf n0_0 l0_1 n1_0 l1_1 := by
  refine (f115_raw c lf n0_0 l0_1 n1_0 l1_1).trans ?_
  rfl
/-- loop.example/g00285/laws.eqMapS, the loop at region 4. -/
def f62_0_s (c : Orc) (lf : Nat) (l0 : List T) (l1 : List T) (L : Int → Option (List T)) (x68 : Int) : Option (List T) :=
  bif iLt x68 (l0.length : Int) then
    bif inR x68 l0.length then
    bif inR x68 l1.length then
    (c 115 [T.st [T.i .i64 (asI (T.cell (l0.getD x68.toNat T.u) 0)), T.sl (asL (T.cell (l0.getD x68.toNat T.u) 1))], T.st [T.i .i64 (asI (T.cell (l1.getD x68.toNat T.u) 0)), T.sl (asL (T.cell (l1.getD x68.toNat T.u) 1))]]).bind fun r69 =>
    bif !(asB (nth r69 0)) then
      some [T.i .i64 0, T.b false]
    else
      L (IntKind.wrap .i64 (x68 + 1))
    else none
    else none
  else
    some [T.i .i64 1]
def f62_0_c (l0 : List T) (l1 : List T) (x68 : Int) : CSt := ⟨[.ro 0 true [.i .i64, .sl true [.i .i64, .i .i64]] l0, .ro 0 true [.i .i64, .sl true [.i .i64, .i .i64]] l1, .i .i64 x68], [.dead, .dead]⟩
theorem f62_0_round (c : Orc) (lf : Nat) (l0 : List T) (l1 : List T) (L : CSt → Option (List T)) (x68 : Int) :
    roundK c env lf 6 fi62 2 4 [] [0, 1, 5] (x62_4_0) L (f62_0_c l0 l1 x68) = f62_0_s c lf l0 l1 (fun x68 => L (f62_0_c l0 l1 x68)) x68 := by kernel_rfl
def f62_0 (c : Orc) (lf : Nat) (l0 : List T) (l1 : List T) : Nat → Int → Option (List T)
  | 0 => fun _ => none
  | n + 1 => fun x68 => f62_0_s c lf l0 l1 (f62_0 c lf l0 l1 n) x68
theorem f62_0_u (c : Orc) (lf : Nat) (l0 : List T) (l1 : List T) (n : Nat) (x68 : Int) : f62_0 c lf l0 l1 (n + 1) x68 = f62_0_s c lf l0 l1 (f62_0 c lf l0 l1 n) x68 := rfl
theorem f62_0_eq (c : Orc) (lf : Nat) (l0 : List T) (l1 : List T) (n : Nat) (x68 : Int) :
    lpK c env lf 6 fi62 2 4 [] [0, 1, 5] (x62_4_0) n (f62_0_c l0 l1 x68) = f62_0 c lf l0 l1 n x68 := by
  induction n generalizing x68 with
  | zero => rfl
  | succ n ih =>
    refine (f62_0_round c lf l0 l1 _ x68).trans ?_
    have e : (fun x68 => lpK c env lf 6 fi62 2 4 [] [0, 1, 5] (x62_4_0) n (f62_0_c l0 l1 x68)) = f62_0 c lf l0 l1 n := by funext x68; exact ih x68
    show f62_0_s c lf l0 l1 (fun x68 => lpK c env lf 6 fi62 2 4 [] [0, 1, 5] (x62_4_0) n (f62_0_c l0 l1 x68)) x68 = _
    rw [e]; rfl
/-- loop.example/g00285/laws.eqMapS -/
def f62_t (c : Orc) (lf : Nat) (lp0 : List T → List T → Int → Option (List T)) (l0 : List T) (l1 : List T) : Option (List T) :=
  bif (l0.length : Int) != (l1.length : Int) then
    some [T.b false]
  else
    (lp0 l0 l1 0).bind fun r70 =>
    bif asI (nth r70 0) == 0 then
      some [T.b (asB (nth r70 1))]
    else
      some [T.b true]
def f62 (c : Orc) (lf : Nat) (l0 : List T) (l1 : List T) : Option (List T) := f62_t c lf (fun (l0 : List T) (l1 : List T) (x68 : Int) => f62_0 c lf l0 l1 lf x68) l0 l1
theorem f62_raw (c : Orc) (lf : Nat) (l0 : List T) (l1 : List T) : funK c env lf 6 fi62 [.sl l0, .sl l1] = f62_t c lf (fun (l0 : List T) (l1 : List T) (x68 : Int) => lpK c env lf 6 fi62 2 4 [] [0, 1, 5] (x62_4_0) lf (f62_0_c l0 l1 x68)) l0 l1 := by kernel_rfl
theorem f62_eq (c : Orc) (lf : Nat) (l0 : List T) (l1 : List T) : funK c env lf 6 fi62 [.sl l0, .sl l1] = f62 c lf l0 l1 := by
  refine (f62_raw c lf l0 l1).trans ?_
  have e0 : (fun (l0 : List T) (l1 : List T) (x68 : Int) => lpK c env lf 6 fi62 2 4 [] [0, 1, 5] (x62_4_0) lf (f62_0_c l0 l1 x68)) = (fun (l0 : List T) (l1 : List T) (x68 : Int) => f62_0 c lf l0 l1 lf x68) := by funext l0 l1 x68; exact f62_0_eq c lf l0 l1 lf x68
  rw [e0]; rfl
/-- loop.example/g00285/laws.eqImage -/
def f15_t (c : Orc) (lf : Nat) (l0_0 : List T) (n0_1 : Int) (n0_2 : Int) (l0_3 : List T) (l0_4 : List T) (n0_5 : Int) (n0_6 : Int) (l1_0 : List T) (n1_1 : Int) (n1_2 : Int) (l1_3 : List T) (l1_4 : List T) (n1_5 : Int) (n1_6 : Int) : Option (List T) :=
  (c 60 [T.st [T.sl l0_0, T.i .i64 n0_1], T.st [T.sl l1_0, T.i .i64 n1_1]]).bind fun r71 =>
  bif !(asB (nth r71 0)) then
    some [T.b false]
  else
    (c 61 [T.st [T.i .i64 n0_2, T.sl l0_3], T.st [T.i .i64 n1_2, T.sl l1_3]]).bind fun r72 =>
    bif !(asB (nth r72 0)) then
      some [T.b false]
    else
      (c 62 [T.sl l0_4, T.sl l1_4]).bind fun r73 =>
      bif !(asB (nth r73 0)) then
        some [T.b false]
      else
        bif n0_5 != n1_5 then
          some [T.b false]
        else
          bif n0_6 != n1_6 then
            some [T.b false]
          else
            some [T.b true]
def f15 (c : Orc) (lf : Nat) (l0_0 : List T) (n0_1 : Int) (n0_2 : Int) (l0_3 : List T) (l0_4 : List T) (n0_5 : Int) (n0_6 : Int) (l1_0 : List T) (n1_1 : Int) (n1_2 : Int) (l1_3 : List T) (l1_4 : List T) (n1_5 : Int) (n1_6 : Int) : Option (List T) := f15_t c lf l0_0 n0_1 n0_2 l0_3 l0_4 n0_5 n0_6 l1_0 n1_1 n1_2 l1_3 l1_4 n1_5 n1_6
theorem f15_raw (c : Orc) (lf : Nat) (l0_0 : List T) (n0_1 : Int) (n0_2 : Int) (l0_3 : List T) (l0_4 : List T) (n0_5 : Int) (n0_6 : Int) (l1_0 : List T) (n1_1 : Int) (n1_2 : Int) (l1_3 : List T) (l1_4 : List T) (n1_5 : Int) (n1_6 : Int) : funK c env lf 6 fi15 [.st [.sl l0_0, .i .i64 n0_1, .i .i64 n0_2, .sl l0_3, .sl l0_4, .i .i64 n0_5, .i .i64 n0_6], .st [.sl l1_0, .i .i64 n1_1, .i .i64 n1_2, .sl l1_3, .sl l1_4, .i .i64 n1_5, .i .i64 n1_6]] = f15_t c lf l0_0 n0_1 n0_2 l0_3 l0_4 n0_5 n0_6 l1_0 n1_1 n1_2 l1_3 l1_4 n1_5 n1_6 := by kernel_rfl
theorem f15_eq (c : Orc) (lf : Nat) (l0_0 : List T) (n0_1 : Int) (n0_2 : Int) (l0_3 : List T) (l0_4 : List T) (n0_5 : Int) (n0_6 : Int) (l1_0 : List T) (n1_1 : Int) (n1_2 : Int) (l1_3 : List T) (l1_4 : List T) (n1_5 : Int) (n1_6 : Int) : funK c env lf 6 fi15 [.st [.sl l0_0, .i .i64 n0_1, .i .i64 n0_2, .sl l0_3, .sl l0_4, .i .i64 n0_5, .i .i64 n0_6], .st [.sl l1_0, .i .i64 n1_1, .i .i64 n1_2, .sl l1_3, .sl l1_4, .i .i64 n1_5, .i .i64 n1_6]] = f15 c lf l0_0 n0_1 n0_2 l0_3 l0_4 n0_5 n0_6 l1_0 n1_1 n1_2 l1_3 l1_4 n1_5 n1_6 := by
  refine (f15_raw c lf l0_0 n0_1 n0_2 l0_3 l0_4 n0_5 n0_6 l1_0 n1_1 n1_2 l1_3 l1_4 n1_5 n1_6).trans ?_
  rfl
/-- loop.example/g00285/laws.markText, the loop at region 4. -/
def f172_0_s (c : Orc) (lf : Nat) (L : Int → ByteArray → Option (List T)) (x77 : Int) (x78 : ByteArray) : Option (List T) :=
  bif iLt 0 x77 then
    bif nLe ((bytesOf ([T.i .u8 (IntKind.wrap .u8 (IntKind.wrap .i64 (48 + (x77.tmod 10))))] : List T)).size + x78.size) LIM then
    L (IntKind.wrap .i64 (x77.tdiv 10)) ((bytesOf ([T.i .u8 (IntKind.wrap .u8 (IntKind.wrap .i64 (48 + (x77.tmod 10))))] : List T)) ++ x78)
    else none
  else
    some [T.i .i64 0, T.s x78]
def f172_0_c (x77 : Int) (x78 : ByteArray) : CSt := ⟨[.i .i64 x77, .s x78], [.dead]⟩
theorem f172_0_round (c : Orc) (lf : Nat) (L : CSt → Option (List T)) (x77 : Int) (x78 : ByteArray) :
    roundK c env lf 6 fi172 1 4 [] [0, 3] (x172_4_0) L (f172_0_c x77 x78) = f172_0_s c lf (fun x77 x78 => L (f172_0_c x77 x78)) x77 x78 := by kernel_rfl
def f172_0 (c : Orc) (lf : Nat) : Nat → Int → ByteArray → Option (List T)
  | 0 => fun _ _ => none
  | n + 1 => fun x77 x78 => f172_0_s c lf (f172_0 c lf n) x77 x78
theorem f172_0_u (c : Orc) (lf : Nat) (n : Nat) (x77 : Int) (x78 : ByteArray) : f172_0 c lf (n + 1) x77 x78 = f172_0_s c lf (f172_0 c lf n) x77 x78 := rfl
theorem f172_0_eq (c : Orc) (lf : Nat) (n : Nat) (x77 : Int) (x78 : ByteArray) :
    lpK c env lf 6 fi172 1 4 [] [0, 3] (x172_4_0) n (f172_0_c x77 x78) = f172_0 c lf n x77 x78 := by
  induction n generalizing x77 x78 with
  | zero => rfl
  | succ n ih =>
    refine (f172_0_round c lf _ x77 x78).trans ?_
    have e : (fun x77 x78 => lpK c env lf 6 fi172 1 4 [] [0, 3] (x172_4_0) n (f172_0_c x77 x78)) = f172_0 c lf n := by funext x77 x78; exact ih x77 x78
    show f172_0_s c lf (fun x77 x78 => lpK c env lf 6 fi172 1 4 [] [0, 3] (x172_4_0) n (f172_0_c x77 x78)) x77 x78 = _
    rw [e]; rfl
/-- loop.example/g00285/laws.markText -/
def f172_t (c : Orc) (lf : Nat) (lp0 : Int → ByteArray → Option (List T)) (n0 : Int) : Option (List T) :=
  bif iLe n0 0 then
    some [T.s (⟨#[109, 48]⟩ : ByteArray)]
  else
    (lp0 n0 (⟨#[]⟩ : ByteArray)).bind fun r79 =>
    bif nLe ((⟨#[109]⟩ : ByteArray).size + (asS (nth r79 1)).size) LIM then
    some [T.s ((⟨#[109]⟩ : ByteArray) ++ (asS (nth r79 1)))]
    else none
def f172 (c : Orc) (lf : Nat) (n0 : Int) : Option (List T) := f172_t c lf (fun (x77 : Int) (x78 : ByteArray) => f172_0 c lf lf x77 x78) n0
theorem f172_raw (c : Orc) (lf : Nat) (n0 : Int) : funK c env lf 6 fi172 [.i .i64 n0] = f172_t c lf (fun (x77 : Int) (x78 : ByteArray) => lpK c env lf 6 fi172 1 4 [] [0, 3] (x172_4_0) lf (f172_0_c x77 x78)) n0 := by kernel_rfl
theorem f172_eq (c : Orc) (lf : Nat) (n0 : Int) : funK c env lf 6 fi172 [.i .i64 n0] = f172 c lf n0 := by
  refine (f172_raw c lf n0).trans ?_
  have e0 : (fun (x77 : Int) (x78 : ByteArray) => lpK c env lf 6 fi172 1 4 [] [0, 3] (x172_4_0) lf (f172_0_c x77 x78)) = (fun (x77 : Int) (x78 : ByteArray) => f172_0 c lf lf x77 x78) := by funext x77 x78; exact f172_0_eq c lf lf x77 x78
  rw [e0]; rfl
/-- loop.example/g00285/laws.markByteS, the loop at region 2. -/
def f49_0_s (c : Orc) (lf : Nat) (L : Int → Int → List T → Option (List T)) (x84 : Int) (x85 : Int) (x86 : List T) : Option (List T) :=
  bif iLt x85 (x86.length : Int) then
    bif inR x85 x86.length then
    L (IntKind.wrap .i64 (x84 + 1)) (IntKind.wrap .i64 (x85 + 1)) (x86.set x85.toNat (T.i .u8 (IntKind.wrap .u8 x84)))
    else none
  else
    some [T.i .i64 0, T.i .i64 x84, T.sl x86]
def f49_0_c (x84 : Int) (x85 : Int) (x86 : List T) : CSt := ⟨[.rf 0 [] 0 none, .i .i64 x84, .i .i64 x85], [.row false [.i .u8] x86 0 false, .dead]⟩
theorem f49_0_round (c : Orc) (lf : Nat) (L : CSt → Option (List T)) (x84 : Int) (x85 : Int) (x86 : List T) :
    roundK c env lf 6 fi49 2 2 [] [0, 1, 5] (x49_2_0) L (f49_0_c x84 x85 x86) = f49_0_s c lf (fun x84 x85 x86 => L (f49_0_c x84 x85 x86)) x84 x85 x86 := by kernel_rfl
def f49_0 (c : Orc) (lf : Nat) : Nat → Int → Int → List T → Option (List T)
  | 0 => fun _ _ _ => none
  | n + 1 => fun x84 x85 x86 => f49_0_s c lf (f49_0 c lf n) x84 x85 x86
theorem f49_0_u (c : Orc) (lf : Nat) (n : Nat) (x84 : Int) (x85 : Int) (x86 : List T) : f49_0 c lf (n + 1) x84 x85 x86 = f49_0_s c lf (f49_0 c lf n) x84 x85 x86 := rfl
theorem f49_0_eq (c : Orc) (lf : Nat) (n : Nat) (x84 : Int) (x85 : Int) (x86 : List T) :
    lpK c env lf 6 fi49 2 2 [] [0, 1, 5] (x49_2_0) n (f49_0_c x84 x85 x86) = f49_0 c lf n x84 x85 x86 := by
  induction n generalizing x84 x85 x86 with
  | zero => rfl
  | succ n ih =>
    refine (f49_0_round c lf _ x84 x85 x86).trans ?_
    have e : (fun x84 x85 x86 => lpK c env lf 6 fi49 2 2 [] [0, 1, 5] (x49_2_0) n (f49_0_c x84 x85 x86)) = f49_0 c lf n := by funext x84 x85 x86; exact ih x84 x85 x86
    show f49_0_s c lf (fun x84 x85 x86 => lpK c env lf 6 fi49 2 2 [] [0, 1, 5] (x49_2_0) n (f49_0_c x84 x85 x86)) x84 x85 x86 = _
    rw [e]; rfl
/-- loop.example/g00285/laws.markByteS -/
def f49_t (c : Orc) (lf : Nat) (lp0 : Int → Int → List T → Option (List T)) (l0 : List T) (n1 : Int) : Option (List T) :=
  (lp0 n1 0 l0).bind fun r87 =>
  some [T.i .i64 (asI (nth r87 1)), T.sl (asL (nth r87 2))]
def f49 (c : Orc) (lf : Nat) (l0 : List T) (n1 : Int) : Option (List T) := f49_t c lf (fun (x84 : Int) (x85 : Int) (x86 : List T) => f49_0 c lf lf x84 x85 x86) l0 n1
theorem f49_raw (c : Orc) (lf : Nat) (l0 : List T) (n1 : Int) : funK c env lf 6 fi49 [.sl l0, .i .i64 n1] = f49_t c lf (fun (x84 : Int) (x85 : Int) (x86 : List T) => lpK c env lf 6 fi49 2 2 [] [0, 1, 5] (x49_2_0) lf (f49_0_c x84 x85 x86)) l0 n1 := by kernel_rfl
theorem f49_eq (c : Orc) (lf : Nat) (l0 : List T) (n1 : Int) : funK c env lf 6 fi49 [.sl l0, .i .i64 n1] = f49 c lf l0 n1 := by
  refine (f49_raw c lf l0 n1).trans ?_
  have e0 : (fun (x84 : Int) (x85 : Int) (x86 : List T) => lpK c env lf 6 fi49 2 2 [] [0, 1, 5] (x49_2_0) lf (f49_0_c x84 x85 x86)) = (fun (x84 : Int) (x85 : Int) (x86 : List T) => f49_0 c lf lf x84 x85 x86) := by funext x84 x85 x86; exact f49_0_eq c lf lf x84 x85 x86
  rw [e0]; rfl
/-- loop.example/g00285/laws.markEntS, the loop at region 2. -/
def f215_0_s (c : Orc) (lf : Nat) (L : Int → Int → List T → Option (List T)) (x95 : Int) (x96 : Int) (x97 : List T) : Option (List T) :=
  bif iLt x96 (x97.length : Int) then
    (c 172 [T.i .i64 x95]).bind fun r98 =>
    bif inR x96 x97.length then
    bif inR x96 ((x97.set x96.toNat (T.setc (x97.getD x96.toNat T.u) 0 (T.s (asS (nth r98 0))))).length) then
    L (IntKind.wrap .i64 ((IntKind.wrap .i64 (x95 + 1)) + 1)) (IntKind.wrap .i64 (x96 + 1)) ((x97.set x96.toNat (T.setc (x97.getD x96.toNat T.u) 0 (T.s (asS (nth r98 0))))).set x96.toNat (T.setc ((x97.set x96.toNat (T.setc (x97.getD x96.toNat T.u) 0 (T.s (asS (nth r98 0))))).getD x96.toNat T.u) 1 (T.i .i64 (IntKind.wrap .i64 (x95 + 1)))))
    else none
    else none
  else
    some [T.i .i64 0, T.i .i64 x95, T.sl x97]
def f215_0_c (x95 : Int) (x96 : Int) (x97 : List T) : CSt := ⟨[.rf 0 [] 0 none, .i .i64 x95, .i .i64 x96], [.row true [.s, .i .i64] x97 0 false, .dead]⟩
theorem f215_0_round (c : Orc) (lf : Nat) (L : CSt → Option (List T)) (x95 : Int) (x96 : Int) (x97 : List T) :
    roundK c env lf 6 fi215 2 2 [] [0, 1, 5] (x215_2_0) L (f215_0_c x95 x96 x97) = f215_0_s c lf (fun x95 x96 x97 => L (f215_0_c x95 x96 x97)) x95 x96 x97 := by kernel_rfl
def f215_0 (c : Orc) (lf : Nat) : Nat → Int → Int → List T → Option (List T)
  | 0 => fun _ _ _ => none
  | n + 1 => fun x95 x96 x97 => f215_0_s c lf (f215_0 c lf n) x95 x96 x97
theorem f215_0_u (c : Orc) (lf : Nat) (n : Nat) (x95 : Int) (x96 : Int) (x97 : List T) : f215_0 c lf (n + 1) x95 x96 x97 = f215_0_s c lf (f215_0 c lf n) x95 x96 x97 := rfl
theorem f215_0_eq (c : Orc) (lf : Nat) (n : Nat) (x95 : Int) (x96 : Int) (x97 : List T) :
    lpK c env lf 6 fi215 2 2 [] [0, 1, 5] (x215_2_0) n (f215_0_c x95 x96 x97) = f215_0 c lf n x95 x96 x97 := by
  induction n generalizing x95 x96 x97 with
  | zero => rfl
  | succ n ih =>
    refine (f215_0_round c lf _ x95 x96 x97).trans ?_
    have e : (fun x95 x96 x97 => lpK c env lf 6 fi215 2 2 [] [0, 1, 5] (x215_2_0) n (f215_0_c x95 x96 x97)) = f215_0 c lf n := by funext x95 x96 x97; exact ih x95 x96 x97
    show f215_0_s c lf (fun x95 x96 x97 => lpK c env lf 6 fi215 2 2 [] [0, 1, 5] (x215_2_0) n (f215_0_c x95 x96 x97)) x95 x96 x97 = _
    rw [e]; rfl
/-- loop.example/g00285/laws.markEntS -/
def f215_t (c : Orc) (lf : Nat) (lp0 : Int → Int → List T → Option (List T)) (l0 : List T) (n1 : Int) : Option (List T) :=
  (lp0 n1 0 l0).bind fun r99 =>
  some [T.i .i64 (asI (nth r99 1)), T.sl (asL (nth r99 2))]
def f215 (c : Orc) (lf : Nat) (l0 : List T) (n1 : Int) : Option (List T) := f215_t c lf (fun (x95 : Int) (x96 : Int) (x97 : List T) => f215_0 c lf lf x95 x96 x97) l0 n1
theorem f215_raw (c : Orc) (lf : Nat) (l0 : List T) (n1 : Int) : funK c env lf 6 fi215 [.sl l0, .i .i64 n1] = f215_t c lf (fun (x95 : Int) (x96 : Int) (x97 : List T) => lpK c env lf 6 fi215 2 2 [] [0, 1, 5] (x215_2_0) lf (f215_0_c x95 x96 x97)) l0 n1 := by kernel_rfl
theorem f215_eq (c : Orc) (lf : Nat) (l0 : List T) (n1 : Int) : funK c env lf 6 fi215 [.sl l0, .i .i64 n1] = f215 c lf l0 n1 := by
  refine (f215_raw c lf l0 n1).trans ?_
  have e0 : (fun (x95 : Int) (x96 : Int) (x97 : List T) => lpK c env lf 6 fi215 2 2 [] [0, 1, 5] (x215_2_0) lf (f215_0_c x95 x96 x97)) = (fun (x95 : Int) (x96 : Int) (x97 : List T) => f215_0 c lf lf x95 x96 x97) := by funext x95 x96 x97; exact f215_0_eq c lf lf x95 x96 x97
  rw [e0]; rfl
/-- loop.example/g00285/laws.markAttrS, the loop at region 2. -/
def f216_0_s (c : Orc) (lf : Nat) (L : Int → Int → List T → Option (List T)) (x110 : Int) (x111 : Int) (x112 : List T) : Option (List T) :=
  bif iLt x111 (x112.length : Int) then
    (c 172 [T.i .i64 x110]).bind fun r113 =>
    bif inR x111 x112.length then
    (c 172 [T.i .i64 (IntKind.wrap .i64 (x110 + 1))]).bind fun r114 =>
    bif inR x111 ((x112.set x111.toNat (T.setc (x112.getD x111.toNat T.u) 0 (T.s (asS (nth r113 0))))).length) then
    L (IntKind.wrap .i64 ((IntKind.wrap .i64 (x110 + 1)) + 1)) (IntKind.wrap .i64 (x111 + 1)) ((x112.set x111.toNat (T.setc (x112.getD x111.toNat T.u) 0 (T.s (asS (nth r113 0))))).set x111.toNat (T.setc ((x112.set x111.toNat (T.setc (x112.getD x111.toNat T.u) 0 (T.s (asS (nth r113 0))))).getD x111.toNat T.u) 1 (T.s (asS (nth r114 0)))))
    else none
    else none
  else
    some [T.i .i64 0, T.i .i64 x110, T.sl x112]
def f216_0_c (x110 : Int) (x111 : Int) (x112 : List T) : CSt := ⟨[.rf 0 [] 0 none, .i .i64 x110, .i .i64 x111], [.row true [.s, .s] x112 0 false, .dead]⟩
theorem f216_0_round (c : Orc) (lf : Nat) (L : CSt → Option (List T)) (x110 : Int) (x111 : Int) (x112 : List T) :
    roundK c env lf 6 fi216 2 2 [] [0, 1, 5] (x216_2_0) L (f216_0_c x110 x111 x112) = f216_0_s c lf (fun x110 x111 x112 => L (f216_0_c x110 x111 x112)) x110 x111 x112 := by kernel_rfl
def f216_0 (c : Orc) (lf : Nat) : Nat → Int → Int → List T → Option (List T)
  | 0 => fun _ _ _ => none
  | n + 1 => fun x110 x111 x112 => f216_0_s c lf (f216_0 c lf n) x110 x111 x112
theorem f216_0_u (c : Orc) (lf : Nat) (n : Nat) (x110 : Int) (x111 : Int) (x112 : List T) : f216_0 c lf (n + 1) x110 x111 x112 = f216_0_s c lf (f216_0 c lf n) x110 x111 x112 := rfl
theorem f216_0_eq (c : Orc) (lf : Nat) (n : Nat) (x110 : Int) (x111 : Int) (x112 : List T) :
    lpK c env lf 6 fi216 2 2 [] [0, 1, 5] (x216_2_0) n (f216_0_c x110 x111 x112) = f216_0 c lf n x110 x111 x112 := by
  induction n generalizing x110 x111 x112 with
  | zero => rfl
  | succ n ih =>
    refine (f216_0_round c lf _ x110 x111 x112).trans ?_
    have e : (fun x110 x111 x112 => lpK c env lf 6 fi216 2 2 [] [0, 1, 5] (x216_2_0) n (f216_0_c x110 x111 x112)) = f216_0 c lf n := by funext x110 x111 x112; exact ih x110 x111 x112
    show f216_0_s c lf (fun x110 x111 x112 => lpK c env lf 6 fi216 2 2 [] [0, 1, 5] (x216_2_0) n (f216_0_c x110 x111 x112)) x110 x111 x112 = _
    rw [e]; rfl
/-- loop.example/g00285/laws.markAttrS -/
def f216_t (c : Orc) (lf : Nat) (lp0 : Int → Int → List T → Option (List T)) (l0 : List T) (n1 : Int) : Option (List T) :=
  (lp0 n1 0 l0).bind fun r115 =>
  some [T.i .i64 (asI (nth r115 1)), T.sl (asL (nth r115 2))]
def f216 (c : Orc) (lf : Nat) (l0 : List T) (n1 : Int) : Option (List T) := f216_t c lf (fun (x110 : Int) (x111 : Int) (x112 : List T) => f216_0 c lf lf x110 x111 x112) l0 n1
theorem f216_raw (c : Orc) (lf : Nat) (l0 : List T) (n1 : Int) : funK c env lf 6 fi216 [.sl l0, .i .i64 n1] = f216_t c lf (fun (x110 : Int) (x111 : Int) (x112 : List T) => lpK c env lf 6 fi216 2 2 [] [0, 1, 5] (x216_2_0) lf (f216_0_c x110 x111 x112)) l0 n1 := by kernel_rfl
theorem f216_eq (c : Orc) (lf : Nat) (l0 : List T) (n1 : Int) : funK c env lf 6 fi216 [.sl l0, .i .i64 n1] = f216 c lf l0 n1 := by
  refine (f216_raw c lf l0 n1).trans ?_
  have e0 : (fun (x110 : Int) (x111 : Int) (x112 : List T) => lpK c env lf 6 fi216 2 2 [] [0, 1, 5] (x216_2_0) lf (f216_0_c x110 x111 x112)) = (fun (x110 : Int) (x111 : Int) (x112 : List T) => f216_0 c lf lf x110 x111 x112) := by funext x110 x111 x112; exact f216_0_eq c lf lf x110 x111 x112
  rw [e0]; rfl
/-- loop.example/g00285/laws.markInodeS, the loop at region 2. -/
def f173_0_s (c : Orc) (lf : Nat) (L : Int → Int → List T → Option (List T)) (x129 : Int) (x130 : Int) (x131 : List T) : Option (List T) :=
  bif iLt x130 (x131.length : Int) then
    bif inR x130 x131.length then
    bif inR x130 ((x131.set x130.toNat (T.setc (x131.getD x130.toNat T.u) 0 (T.i .i64 x129))).length) then
    bif inR x130 (((x131.set x130.toNat (T.setc (x131.getD x130.toNat T.u) 0 (T.i .i64 x129))).set x130.toNat (T.setc ((x131.set x130.toNat (T.setc (x131.getD x130.toNat T.u) 0 (T.i .i64 x129))).getD x130.toNat T.u) 1 (T.i .i64 (IntKind.wrap .i64 (x129 + 1))))).length) then
    bif inR x130 ((((x131.set x130.toNat (T.setc (x131.getD x130.toNat T.u) 0 (T.i .i64 x129))).set x130.toNat (T.setc ((x131.set x130.toNat (T.setc (x131.getD x130.toNat T.u) 0 (T.i .i64 x129))).getD x130.toNat T.u) 1 (T.i .i64 (IntKind.wrap .i64 (x129 + 1))))).set x130.toNat (T.setc (((x131.set x130.toNat (T.setc (x131.getD x130.toNat T.u) 0 (T.i .i64 x129))).set x130.toNat (T.setc ((x131.set x130.toNat (T.setc (x131.getD x130.toNat T.u) 0 (T.i .i64 x129))).getD x130.toNat T.u) 1 (T.i .i64 (IntKind.wrap .i64 (x129 + 1))))).getD x130.toNat T.u) 2 (T.i .i64 (IntKind.wrap .i64 ((IntKind.wrap .i64 (x129 + 1)) + 1))))).length) then
    (c 49 [T.sl (asL (T.cell ((((x131.set x130.toNat (T.setc (x131.getD x130.toNat T.u) 0 (T.i .i64 x129))).set x130.toNat (T.setc ((x131.set x130.toNat (T.setc (x131.getD x130.toNat T.u) 0 (T.i .i64 x129))).getD x130.toNat T.u) 1 (T.i .i64 (IntKind.wrap .i64 (x129 + 1))))).set x130.toNat (T.setc (((x131.set x130.toNat (T.setc (x131.getD x130.toNat T.u) 0 (T.i .i64 x129))).set x130.toNat (T.setc ((x131.set x130.toNat (T.setc (x131.getD x130.toNat T.u) 0 (T.i .i64 x129))).getD x130.toNat T.u) 1 (T.i .i64 (IntKind.wrap .i64 (x129 + 1))))).getD x130.toNat T.u) 2 (T.i .i64 (IntKind.wrap .i64 ((IntKind.wrap .i64 (x129 + 1)) + 1))))).getD x130.toNat T.u) 3)), T.i .i64 (IntKind.wrap .i64 ((IntKind.wrap .i64 ((IntKind.wrap .i64 (x129 + 1)) + 1)) + 1))]).bind fun r132 =>
    bif inR x130 (((((x131.set x130.toNat (T.setc (x131.getD x130.toNat T.u) 0 (T.i .i64 x129))).set x130.toNat (T.setc ((x131.set x130.toNat (T.setc (x131.getD x130.toNat T.u) 0 (T.i .i64 x129))).getD x130.toNat T.u) 1 (T.i .i64 (IntKind.wrap .i64 (x129 + 1))))).set x130.toNat (T.setc (((x131.set x130.toNat (T.setc (x131.getD x130.toNat T.u) 0 (T.i .i64 x129))).set x130.toNat (T.setc ((x131.set x130.toNat (T.setc (x131.getD x130.toNat T.u) 0 (T.i .i64 x129))).getD x130.toNat T.u) 1 (T.i .i64 (IntKind.wrap .i64 (x129 + 1))))).getD x130.toNat T.u) 2 (T.i .i64 (IntKind.wrap .i64 ((IntKind.wrap .i64 (x129 + 1)) + 1))))).set x130.toNat (T.setc ((((x131.set x130.toNat (T.setc (x131.getD x130.toNat T.u) 0 (T.i .i64 x129))).set x130.toNat (T.setc ((x131.set x130.toNat (T.setc (x131.getD x130.toNat T.u) 0 (T.i .i64 x129))).getD x130.toNat T.u) 1 (T.i .i64 (IntKind.wrap .i64 (x129 + 1))))).set x130.toNat (T.setc (((x131.set x130.toNat (T.setc (x131.getD x130.toNat T.u) 0 (T.i .i64 x129))).set x130.toNat (T.setc ((x131.set x130.toNat (T.setc (x131.getD x130.toNat T.u) 0 (T.i .i64 x129))).getD x130.toNat T.u) 1 (T.i .i64 (IntKind.wrap .i64 (x129 + 1))))).getD x130.toNat T.u) 2 (T.i .i64 (IntKind.wrap .i64 ((IntKind.wrap .i64 (x129 + 1)) + 1))))).getD x130.toNat T.u) 3 (T.sl (asL (nth r132 1))))).length) then
    (c 215 [T.sl (asL (T.cell (((((x131.set x130.toNat (T.setc (x131.getD x130.toNat T.u) 0 (T.i .i64 x129))).set x130.toNat (T.setc ((x131.set x130.toNat (T.setc (x131.getD x130.toNat T.u) 0 (T.i .i64 x129))).getD x130.toNat T.u) 1 (T.i .i64 (IntKind.wrap .i64 (x129 + 1))))).set x130.toNat (T.setc (((x131.set x130.toNat (T.setc (x131.getD x130.toNat T.u) 0 (T.i .i64 x129))).set x130.toNat (T.setc ((x131.set x130.toNat (T.setc (x131.getD x130.toNat T.u) 0 (T.i .i64 x129))).getD x130.toNat T.u) 1 (T.i .i64 (IntKind.wrap .i64 (x129 + 1))))).getD x130.toNat T.u) 2 (T.i .i64 (IntKind.wrap .i64 ((IntKind.wrap .i64 (x129 + 1)) + 1))))).set x130.toNat (T.setc ((((x131.set x130.toNat (T.setc (x131.getD x130.toNat T.u) 0 (T.i .i64 x129))).set x130.toNat (T.setc ((x131.set x130.toNat (T.setc (x131.getD x130.toNat T.u) 0 (T.i .i64 x129))).getD x130.toNat T.u) 1 (T.i .i64 (IntKind.wrap .i64 (x129 + 1))))).set x130.toNat (T.setc (((x131.set x130.toNat (T.setc (x131.getD x130.toNat T.u) 0 (T.i .i64 x129))).set x130.toNat (T.setc ((x131.set x130.toNat (T.setc (x131.getD x130.toNat T.u) 0 (T.i .i64 x129))).getD x130.toNat T.u) 1 (T.i .i64 (IntKind.wrap .i64 (x129 + 1))))).getD x130.toNat T.u) 2 (T.i .i64 (IntKind.wrap .i64 ((IntKind.wrap .i64 (x129 + 1)) + 1))))).getD x130.toNat T.u) 3 (T.sl (asL (nth r132 1))))).getD x130.toNat T.u) 4)), T.i .i64 (asI (nth r132 0))]).bind fun r133 =>
    bif inR x130 ((((((x131.set x130.toNat (T.setc (x131.getD x130.toNat T.u) 0 (T.i .i64 x129))).set x130.toNat (T.setc ((x131.set x130.toNat (T.setc (x131.getD x130.toNat T.u) 0 (T.i .i64 x129))).getD x130.toNat T.u) 1 (T.i .i64 (IntKind.wrap .i64 (x129 + 1))))).set x130.toNat (T.setc (((x131.set x130.toNat (T.setc (x131.getD x130.toNat T.u) 0 (T.i .i64 x129))).set x130.toNat (T.setc ((x131.set x130.toNat (T.setc (x131.getD x130.toNat T.u) 0 (T.i .i64 x129))).getD x130.toNat T.u) 1 (T.i .i64 (IntKind.wrap .i64 (x129 + 1))))).getD x130.toNat T.u) 2 (T.i .i64 (IntKind.wrap .i64 ((IntKind.wrap .i64 (x129 + 1)) + 1))))).set x130.toNat (T.setc ((((x131.set x130.toNat (T.setc (x131.getD x130.toNat T.u) 0 (T.i .i64 x129))).set x130.toNat (T.setc ((x131.set x130.toNat (T.setc (x131.getD x130.toNat T.u) 0 (T.i .i64 x129))).getD x130.toNat T.u) 1 (T.i .i64 (IntKind.wrap .i64 (x129 + 1))))).set x130.toNat (T.setc (((x131.set x130.toNat (T.setc (x131.getD x130.toNat T.u) 0 (T.i .i64 x129))).set x130.toNat (T.setc ((x131.set x130.toNat (T.setc (x131.getD x130.toNat T.u) 0 (T.i .i64 x129))).getD x130.toNat T.u) 1 (T.i .i64 (IntKind.wrap .i64 (x129 + 1))))).getD x130.toNat T.u) 2 (T.i .i64 (IntKind.wrap .i64 ((IntKind.wrap .i64 (x129 + 1)) + 1))))).getD x130.toNat T.u) 3 (T.sl (asL (nth r132 1))))).set x130.toNat (T.setc (((((x131.set x130.toNat (T.setc (x131.getD x130.toNat T.u) 0 (T.i .i64 x129))).set x130.toNat (T.setc ((x131.set x130.toNat (T.setc (x131.getD x130.toNat T.u) 0 (T.i .i64 x129))).getD x130.toNat T.u) 1 (T.i .i64 (IntKind.wrap .i64 (x129 + 1))))).set x130.toNat (T.setc (((x131.set x130.toNat (T.setc (x131.getD x130.toNat T.u) 0 (T.i .i64 x129))).set x130.toNat (T.setc ((x131.set x130.toNat (T.setc (x131.getD x130.toNat T.u) 0 (T.i .i64 x129))).getD x130.toNat T.u) 1 (T.i .i64 (IntKind.wrap .i64 (x129 + 1))))).getD x130.toNat T.u) 2 (T.i .i64 (IntKind.wrap .i64 ((IntKind.wrap .i64 (x129 + 1)) + 1))))).set x130.toNat (T.setc ((((x131.set x130.toNat (T.setc (x131.getD x130.toNat T.u) 0 (T.i .i64 x129))).set x130.toNat (T.setc ((x131.set x130.toNat (T.setc (x131.getD x130.toNat T.u) 0 (T.i .i64 x129))).getD x130.toNat T.u) 1 (T.i .i64 (IntKind.wrap .i64 (x129 + 1))))).set x130.toNat (T.setc (((x131.set x130.toNat (T.setc (x131.getD x130.toNat T.u) 0 (T.i .i64 x129))).set x130.toNat (T.setc ((x131.set x130.toNat (T.setc (x131.getD x130.toNat T.u) 0 (T.i .i64 x129))).getD x130.toNat T.u) 1 (T.i .i64 (IntKind.wrap .i64 (x129 + 1))))).getD x130.toNat T.u) 2 (T.i .i64 (IntKind.wrap .i64 ((IntKind.wrap .i64 (x129 + 1)) + 1))))).getD x130.toNat T.u) 3 (T.sl (asL (nth r132 1))))).getD x130.toNat T.u) 4 (T.sl (asL (nth r133 1))))).length) then
    (c 216 [T.sl (asL (T.cell ((((((x131.set x130.toNat (T.setc (x131.getD x130.toNat T.u) 0 (T.i .i64 x129))).set x130.toNat (T.setc ((x131.set x130.toNat (T.setc (x131.getD x130.toNat T.u) 0 (T.i .i64 x129))).getD x130.toNat T.u) 1 (T.i .i64 (IntKind.wrap .i64 (x129 + 1))))).set x130.toNat (T.setc (((x131.set x130.toNat (T.setc (x131.getD x130.toNat T.u) 0 (T.i .i64 x129))).set x130.toNat (T.setc ((x131.set x130.toNat (T.setc (x131.getD x130.toNat T.u) 0 (T.i .i64 x129))).getD x130.toNat T.u) 1 (T.i .i64 (IntKind.wrap .i64 (x129 + 1))))).getD x130.toNat T.u) 2 (T.i .i64 (IntKind.wrap .i64 ((IntKind.wrap .i64 (x129 + 1)) + 1))))).set x130.toNat (T.setc ((((x131.set x130.toNat (T.setc (x131.getD x130.toNat T.u) 0 (T.i .i64 x129))).set x130.toNat (T.setc ((x131.set x130.toNat (T.setc (x131.getD x130.toNat T.u) 0 (T.i .i64 x129))).getD x130.toNat T.u) 1 (T.i .i64 (IntKind.wrap .i64 (x129 + 1))))).set x130.toNat (T.setc (((x131.set x130.toNat (T.setc (x131.getD x130.toNat T.u) 0 (T.i .i64 x129))).set x130.toNat (T.setc ((x131.set x130.toNat (T.setc (x131.getD x130.toNat T.u) 0 (T.i .i64 x129))).getD x130.toNat T.u) 1 (T.i .i64 (IntKind.wrap .i64 (x129 + 1))))).getD x130.toNat T.u) 2 (T.i .i64 (IntKind.wrap .i64 ((IntKind.wrap .i64 (x129 + 1)) + 1))))).getD x130.toNat T.u) 3 (T.sl (asL (nth r132 1))))).set x130.toNat (T.setc (((((x131.set x130.toNat (T.setc (x131.getD x130.toNat T.u) 0 (T.i .i64 x129))).set x130.toNat (T.setc ((x131.set x130.toNat (T.setc (x131.getD x130.toNat T.u) 0 (T.i .i64 x129))).getD x130.toNat T.u) 1 (T.i .i64 (IntKind.wrap .i64 (x129 + 1))))).set x130.toNat (T.setc (((x131.set x130.toNat (T.setc (x131.getD x130.toNat T.u) 0 (T.i .i64 x129))).set x130.toNat (T.setc ((x131.set x130.toNat (T.setc (x131.getD x130.toNat T.u) 0 (T.i .i64 x129))).getD x130.toNat T.u) 1 (T.i .i64 (IntKind.wrap .i64 (x129 + 1))))).getD x130.toNat T.u) 2 (T.i .i64 (IntKind.wrap .i64 ((IntKind.wrap .i64 (x129 + 1)) + 1))))).set x130.toNat (T.setc ((((x131.set x130.toNat (T.setc (x131.getD x130.toNat T.u) 0 (T.i .i64 x129))).set x130.toNat (T.setc ((x131.set x130.toNat (T.setc (x131.getD x130.toNat T.u) 0 (T.i .i64 x129))).getD x130.toNat T.u) 1 (T.i .i64 (IntKind.wrap .i64 (x129 + 1))))).set x130.toNat (T.setc (((x131.set x130.toNat (T.setc (x131.getD x130.toNat T.u) 0 (T.i .i64 x129))).set x130.toNat (T.setc ((x131.set x130.toNat (T.setc (x131.getD x130.toNat T.u) 0 (T.i .i64 x129))).getD x130.toNat T.u) 1 (T.i .i64 (IntKind.wrap .i64 (x129 + 1))))).getD x130.toNat T.u) 2 (T.i .i64 (IntKind.wrap .i64 ((IntKind.wrap .i64 (x129 + 1)) + 1))))).getD x130.toNat T.u) 3 (T.sl (asL (nth r132 1))))).getD x130.toNat T.u) 4 (T.sl (asL (nth r133 1))))).getD x130.toNat T.u) 5)), T.i .i64 (asI (nth r133 0))]).bind fun r134 =>
    L (asI (nth r134 0)) (IntKind.wrap .i64 (x130 + 1)) ((((((x131.set x130.toNat (T.setc (x131.getD x130.toNat T.u) 0 (T.i .i64 x129))).set x130.toNat (T.setc ((x131.set x130.toNat (T.setc (x131.getD x130.toNat T.u) 0 (T.i .i64 x129))).getD x130.toNat T.u) 1 (T.i .i64 (IntKind.wrap .i64 (x129 + 1))))).set x130.toNat (T.setc (((x131.set x130.toNat (T.setc (x131.getD x130.toNat T.u) 0 (T.i .i64 x129))).set x130.toNat (T.setc ((x131.set x130.toNat (T.setc (x131.getD x130.toNat T.u) 0 (T.i .i64 x129))).getD x130.toNat T.u) 1 (T.i .i64 (IntKind.wrap .i64 (x129 + 1))))).getD x130.toNat T.u) 2 (T.i .i64 (IntKind.wrap .i64 ((IntKind.wrap .i64 (x129 + 1)) + 1))))).set x130.toNat (T.setc ((((x131.set x130.toNat (T.setc (x131.getD x130.toNat T.u) 0 (T.i .i64 x129))).set x130.toNat (T.setc ((x131.set x130.toNat (T.setc (x131.getD x130.toNat T.u) 0 (T.i .i64 x129))).getD x130.toNat T.u) 1 (T.i .i64 (IntKind.wrap .i64 (x129 + 1))))).set x130.toNat (T.setc (((x131.set x130.toNat (T.setc (x131.getD x130.toNat T.u) 0 (T.i .i64 x129))).set x130.toNat (T.setc ((x131.set x130.toNat (T.setc (x131.getD x130.toNat T.u) 0 (T.i .i64 x129))).getD x130.toNat T.u) 1 (T.i .i64 (IntKind.wrap .i64 (x129 + 1))))).getD x130.toNat T.u) 2 (T.i .i64 (IntKind.wrap .i64 ((IntKind.wrap .i64 (x129 + 1)) + 1))))).getD x130.toNat T.u) 3 (T.sl (asL (nth r132 1))))).set x130.toNat (T.setc (((((x131.set x130.toNat (T.setc (x131.getD x130.toNat T.u) 0 (T.i .i64 x129))).set x130.toNat (T.setc ((x131.set x130.toNat (T.setc (x131.getD x130.toNat T.u) 0 (T.i .i64 x129))).getD x130.toNat T.u) 1 (T.i .i64 (IntKind.wrap .i64 (x129 + 1))))).set x130.toNat (T.setc (((x131.set x130.toNat (T.setc (x131.getD x130.toNat T.u) 0 (T.i .i64 x129))).set x130.toNat (T.setc ((x131.set x130.toNat (T.setc (x131.getD x130.toNat T.u) 0 (T.i .i64 x129))).getD x130.toNat T.u) 1 (T.i .i64 (IntKind.wrap .i64 (x129 + 1))))).getD x130.toNat T.u) 2 (T.i .i64 (IntKind.wrap .i64 ((IntKind.wrap .i64 (x129 + 1)) + 1))))).set x130.toNat (T.setc ((((x131.set x130.toNat (T.setc (x131.getD x130.toNat T.u) 0 (T.i .i64 x129))).set x130.toNat (T.setc ((x131.set x130.toNat (T.setc (x131.getD x130.toNat T.u) 0 (T.i .i64 x129))).getD x130.toNat T.u) 1 (T.i .i64 (IntKind.wrap .i64 (x129 + 1))))).set x130.toNat (T.setc (((x131.set x130.toNat (T.setc (x131.getD x130.toNat T.u) 0 (T.i .i64 x129))).set x130.toNat (T.setc ((x131.set x130.toNat (T.setc (x131.getD x130.toNat T.u) 0 (T.i .i64 x129))).getD x130.toNat T.u) 1 (T.i .i64 (IntKind.wrap .i64 (x129 + 1))))).getD x130.toNat T.u) 2 (T.i .i64 (IntKind.wrap .i64 ((IntKind.wrap .i64 (x129 + 1)) + 1))))).getD x130.toNat T.u) 3 (T.sl (asL (nth r132 1))))).getD x130.toNat T.u) 4 (T.sl (asL (nth r133 1))))).set x130.toNat (T.setc ((((((x131.set x130.toNat (T.setc (x131.getD x130.toNat T.u) 0 (T.i .i64 x129))).set x130.toNat (T.setc ((x131.set x130.toNat (T.setc (x131.getD x130.toNat T.u) 0 (T.i .i64 x129))).getD x130.toNat T.u) 1 (T.i .i64 (IntKind.wrap .i64 (x129 + 1))))).set x130.toNat (T.setc (((x131.set x130.toNat (T.setc (x131.getD x130.toNat T.u) 0 (T.i .i64 x129))).set x130.toNat (T.setc ((x131.set x130.toNat (T.setc (x131.getD x130.toNat T.u) 0 (T.i .i64 x129))).getD x130.toNat T.u) 1 (T.i .i64 (IntKind.wrap .i64 (x129 + 1))))).getD x130.toNat T.u) 2 (T.i .i64 (IntKind.wrap .i64 ((IntKind.wrap .i64 (x129 + 1)) + 1))))).set x130.toNat (T.setc ((((x131.set x130.toNat (T.setc (x131.getD x130.toNat T.u) 0 (T.i .i64 x129))).set x130.toNat (T.setc ((x131.set x130.toNat (T.setc (x131.getD x130.toNat T.u) 0 (T.i .i64 x129))).getD x130.toNat T.u) 1 (T.i .i64 (IntKind.wrap .i64 (x129 + 1))))).set x130.toNat (T.setc (((x131.set x130.toNat (T.setc (x131.getD x130.toNat T.u) 0 (T.i .i64 x129))).set x130.toNat (T.setc ((x131.set x130.toNat (T.setc (x131.getD x130.toNat T.u) 0 (T.i .i64 x129))).getD x130.toNat T.u) 1 (T.i .i64 (IntKind.wrap .i64 (x129 + 1))))).getD x130.toNat T.u) 2 (T.i .i64 (IntKind.wrap .i64 ((IntKind.wrap .i64 (x129 + 1)) + 1))))).getD x130.toNat T.u) 3 (T.sl (asL (nth r132 1))))).set x130.toNat (T.setc (((((x131.set x130.toNat (T.setc (x131.getD x130.toNat T.u) 0 (T.i .i64 x129))).set x130.toNat (T.setc ((x131.set x130.toNat (T.setc (x131.getD x130.toNat T.u) 0 (T.i .i64 x129))).getD x130.toNat T.u) 1 (T.i .i64 (IntKind.wrap .i64 (x129 + 1))))).set x130.toNat (T.setc (((x131.set x130.toNat (T.setc (x131.getD x130.toNat T.u) 0 (T.i .i64 x129))).set x130.toNat (T.setc ((x131.set x130.toNat (T.setc (x131.getD x130.toNat T.u) 0 (T.i .i64 x129))).getD x130.toNat T.u) 1 (T.i .i64 (IntKind.wrap .i64 (x129 + 1))))).getD x130.toNat T.u) 2 (T.i .i64 (IntKind.wrap .i64 ((IntKind.wrap .i64 (x129 + 1)) + 1))))).set x130.toNat (T.setc ((((x131.set x130.toNat (T.setc (x131.getD x130.toNat T.u) 0 (T.i .i64 x129))).set x130.toNat (T.setc ((x131.set x130.toNat (T.setc (x131.getD x130.toNat T.u) 0 (T.i .i64 x129))).getD x130.toNat T.u) 1 (T.i .i64 (IntKind.wrap .i64 (x129 + 1))))).set x130.toNat (T.setc (((x131.set x130.toNat (T.setc (x131.getD x130.toNat T.u) 0 (T.i .i64 x129))).set x130.toNat (T.setc ((x131.set x130.toNat (T.setc (x131.getD x130.toNat T.u) 0 (T.i .i64 x129))).getD x130.toNat T.u) 1 (T.i .i64 (IntKind.wrap .i64 (x129 + 1))))).getD x130.toNat T.u) 2 (T.i .i64 (IntKind.wrap .i64 ((IntKind.wrap .i64 (x129 + 1)) + 1))))).getD x130.toNat T.u) 3 (T.sl (asL (nth r132 1))))).getD x130.toNat T.u) 4 (T.sl (asL (nth r133 1))))).getD x130.toNat T.u) 5 (T.sl (asL (nth r134 1)))))
    else none
    else none
    else none
    else none
    else none
    else none
  else
    some [T.i .i64 0, T.i .i64 x129, T.sl x131]
def f173_0_c (x129 : Int) (x130 : Int) (x131 : List T) : CSt := ⟨[.rf 0 [] 0 none, .i .i64 x129, .i .i64 x130], [.row true [.i .i64, .i .i64, .i .i64, .sl false [.i .u8], .sl true [.s, .i .i64], .sl true [.s, .s]] x131 0 false, .dead]⟩
theorem f173_0_round (c : Orc) (lf : Nat) (L : CSt → Option (List T)) (x129 : Int) (x130 : Int) (x131 : List T) :
    roundK c env lf 6 fi173 2 2 [] [0, 1, 5] (x173_2_0) L (f173_0_c x129 x130 x131) = f173_0_s c lf (fun x129 x130 x131 => L (f173_0_c x129 x130 x131)) x129 x130 x131 := by kernel_rfl
def f173_0 (c : Orc) (lf : Nat) : Nat → Int → Int → List T → Option (List T)
  | 0 => fun _ _ _ => none
  | n + 1 => fun x129 x130 x131 => f173_0_s c lf (f173_0 c lf n) x129 x130 x131
theorem f173_0_u (c : Orc) (lf : Nat) (n : Nat) (x129 : Int) (x130 : Int) (x131 : List T) : f173_0 c lf (n + 1) x129 x130 x131 = f173_0_s c lf (f173_0 c lf n) x129 x130 x131 := rfl
theorem f173_0_eq (c : Orc) (lf : Nat) (n : Nat) (x129 : Int) (x130 : Int) (x131 : List T) :
    lpK c env lf 6 fi173 2 2 [] [0, 1, 5] (x173_2_0) n (f173_0_c x129 x130 x131) = f173_0 c lf n x129 x130 x131 := by
  induction n generalizing x129 x130 x131 with
  | zero => rfl
  | succ n ih =>
    refine (f173_0_round c lf _ x129 x130 x131).trans ?_
    have e : (fun x129 x130 x131 => lpK c env lf 6 fi173 2 2 [] [0, 1, 5] (x173_2_0) n (f173_0_c x129 x130 x131)) = f173_0 c lf n := by funext x129 x130 x131; exact ih x129 x130 x131
    show f173_0_s c lf (fun x129 x130 x131 => lpK c env lf 6 fi173 2 2 [] [0, 1, 5] (x173_2_0) n (f173_0_c x129 x130 x131)) x129 x130 x131 = _
    rw [e]; rfl
/-- loop.example/g00285/laws.markInodeS -/
def f173_t (c : Orc) (lf : Nat) (lp0 : Int → Int → List T → Option (List T)) (l0 : List T) (n1 : Int) : Option (List T) :=
  (lp0 n1 0 l0).bind fun r135 =>
  some [T.i .i64 (asI (nth r135 1)), T.sl (asL (nth r135 2))]
def f173 (c : Orc) (lf : Nat) (l0 : List T) (n1 : Int) : Option (List T) := f173_t c lf (fun (x129 : Int) (x130 : Int) (x131 : List T) => f173_0 c lf lf x129 x130 x131) l0 n1
theorem f173_raw (c : Orc) (lf : Nat) (l0 : List T) (n1 : Int) : funK c env lf 6 fi173 [.sl l0, .i .i64 n1] = f173_t c lf (fun (x129 : Int) (x130 : Int) (x131 : List T) => lpK c env lf 6 fi173 2 2 [] [0, 1, 5] (x173_2_0) lf (f173_0_c x129 x130 x131)) l0 n1 := by kernel_rfl
theorem f173_eq (c : Orc) (lf : Nat) (l0 : List T) (n1 : Int) : funK c env lf 6 fi173 [.sl l0, .i .i64 n1] = f173 c lf l0 n1 := by
  refine (f173_raw c lf l0 n1).trans ?_
  have e0 : (fun (x129 : Int) (x130 : Int) (x131 : List T) => lpK c env lf 6 fi173 2 2 [] [0, 1, 5] (x173_2_0) lf (f173_0_c x129 x130 x131)) = (fun (x129 : Int) (x130 : Int) (x131 : List T) => f173_0 c lf lf x129 x130 x131) := by funext x129 x130 x131; exact f173_0_eq c lf lf x129 x130 x131
  rw [e0]; rfl
/-- loop.example/g00285/laws.markVolS, the loop at region 2. -/
def f116_0_s (c : Orc) (lf : Nat) (L : Int → Int → List T → Option (List T)) (x146 : Int) (x147 : Int) (x148 : List T) : Option (List T) :=
  bif iLt x147 (x148.length : Int) then
    bif inR x147 x148.length then
    (c 172 [T.i .i64 (IntKind.wrap .i64 (x146 + 1))]).bind fun r149 =>
    bif inR x147 ((x148.set x147.toNat (T.setc (x148.getD x147.toNat T.u) 0 (T.i .i64 x146))).length) then
    bif inR x147 (((x148.set x147.toNat (T.setc (x148.getD x147.toNat T.u) 0 (T.i .i64 x146))).set x147.toNat (T.setc ((x148.set x147.toNat (T.setc (x148.getD x147.toNat T.u) 0 (T.i .i64 x146))).getD x147.toNat T.u) 1 (T.s (asS (nth r149 0))))).length) then
    bif inR x147 ((((x148.set x147.toNat (T.setc (x148.getD x147.toNat T.u) 0 (T.i .i64 x146))).set x147.toNat (T.setc ((x148.set x147.toNat (T.setc (x148.getD x147.toNat T.u) 0 (T.i .i64 x146))).getD x147.toNat T.u) 1 (T.s (asS (nth r149 0))))).set x147.toNat (T.setc (((x148.set x147.toNat (T.setc (x148.getD x147.toNat T.u) 0 (T.i .i64 x146))).set x147.toNat (T.setc ((x148.set x147.toNat (T.setc (x148.getD x147.toNat T.u) 0 (T.i .i64 x146))).getD x147.toNat T.u) 1 (T.s (asS (nth r149 0))))).getD x147.toNat T.u) 2 (T.b (((IntKind.wrap .i64 ((IntKind.wrap .i64 (x146 + 1)) + 1)).tmod 3) == 0)))).length) then
    bif inR x147 (((((x148.set x147.toNat (T.setc (x148.getD x147.toNat T.u) 0 (T.i .i64 x146))).set x147.toNat (T.setc ((x148.set x147.toNat (T.setc (x148.getD x147.toNat T.u) 0 (T.i .i64 x146))).getD x147.toNat T.u) 1 (T.s (asS (nth r149 0))))).set x147.toNat (T.setc (((x148.set x147.toNat (T.setc (x148.getD x147.toNat T.u) 0 (T.i .i64 x146))).set x147.toNat (T.setc ((x148.set x147.toNat (T.setc (x148.getD x147.toNat T.u) 0 (T.i .i64 x146))).getD x147.toNat T.u) 1 (T.s (asS (nth r149 0))))).getD x147.toNat T.u) 2 (T.b (((IntKind.wrap .i64 ((IntKind.wrap .i64 (x146 + 1)) + 1)).tmod 3) == 0)))).set x147.toNat (T.setc ((((x148.set x147.toNat (T.setc (x148.getD x147.toNat T.u) 0 (T.i .i64 x146))).set x147.toNat (T.setc ((x148.set x147.toNat (T.setc (x148.getD x147.toNat T.u) 0 (T.i .i64 x146))).getD x147.toNat T.u) 1 (T.s (asS (nth r149 0))))).set x147.toNat (T.setc (((x148.set x147.toNat (T.setc (x148.getD x147.toNat T.u) 0 (T.i .i64 x146))).set x147.toNat (T.setc ((x148.set x147.toNat (T.setc (x148.getD x147.toNat T.u) 0 (T.i .i64 x146))).getD x147.toNat T.u) 1 (T.s (asS (nth r149 0))))).getD x147.toNat T.u) 2 (T.b (((IntKind.wrap .i64 ((IntKind.wrap .i64 (x146 + 1)) + 1)).tmod 3) == 0)))).getD x147.toNat T.u) 3 (T.i .i64 (IntKind.wrap .i64 ((IntKind.wrap .i64 ((IntKind.wrap .i64 (x146 + 1)) + 1)) + 1))))).length) then
    (c 173 [T.sl (asL (T.cell (((((x148.set x147.toNat (T.setc (x148.getD x147.toNat T.u) 0 (T.i .i64 x146))).set x147.toNat (T.setc ((x148.set x147.toNat (T.setc (x148.getD x147.toNat T.u) 0 (T.i .i64 x146))).getD x147.toNat T.u) 1 (T.s (asS (nth r149 0))))).set x147.toNat (T.setc (((x148.set x147.toNat (T.setc (x148.getD x147.toNat T.u) 0 (T.i .i64 x146))).set x147.toNat (T.setc ((x148.set x147.toNat (T.setc (x148.getD x147.toNat T.u) 0 (T.i .i64 x146))).getD x147.toNat T.u) 1 (T.s (asS (nth r149 0))))).getD x147.toNat T.u) 2 (T.b (((IntKind.wrap .i64 ((IntKind.wrap .i64 (x146 + 1)) + 1)).tmod 3) == 0)))).set x147.toNat (T.setc ((((x148.set x147.toNat (T.setc (x148.getD x147.toNat T.u) 0 (T.i .i64 x146))).set x147.toNat (T.setc ((x148.set x147.toNat (T.setc (x148.getD x147.toNat T.u) 0 (T.i .i64 x146))).getD x147.toNat T.u) 1 (T.s (asS (nth r149 0))))).set x147.toNat (T.setc (((x148.set x147.toNat (T.setc (x148.getD x147.toNat T.u) 0 (T.i .i64 x146))).set x147.toNat (T.setc ((x148.set x147.toNat (T.setc (x148.getD x147.toNat T.u) 0 (T.i .i64 x146))).getD x147.toNat T.u) 1 (T.s (asS (nth r149 0))))).getD x147.toNat T.u) 2 (T.b (((IntKind.wrap .i64 ((IntKind.wrap .i64 (x146 + 1)) + 1)).tmod 3) == 0)))).getD x147.toNat T.u) 3 (T.i .i64 (IntKind.wrap .i64 ((IntKind.wrap .i64 ((IntKind.wrap .i64 (x146 + 1)) + 1)) + 1))))).getD x147.toNat T.u) 4)), T.i .i64 (IntKind.wrap .i64 ((IntKind.wrap .i64 ((IntKind.wrap .i64 ((IntKind.wrap .i64 (x146 + 1)) + 1)) + 1)) + 1))]).bind fun r150 =>
    bif inR x147 ((((((x148.set x147.toNat (T.setc (x148.getD x147.toNat T.u) 0 (T.i .i64 x146))).set x147.toNat (T.setc ((x148.set x147.toNat (T.setc (x148.getD x147.toNat T.u) 0 (T.i .i64 x146))).getD x147.toNat T.u) 1 (T.s (asS (nth r149 0))))).set x147.toNat (T.setc (((x148.set x147.toNat (T.setc (x148.getD x147.toNat T.u) 0 (T.i .i64 x146))).set x147.toNat (T.setc ((x148.set x147.toNat (T.setc (x148.getD x147.toNat T.u) 0 (T.i .i64 x146))).getD x147.toNat T.u) 1 (T.s (asS (nth r149 0))))).getD x147.toNat T.u) 2 (T.b (((IntKind.wrap .i64 ((IntKind.wrap .i64 (x146 + 1)) + 1)).tmod 3) == 0)))).set x147.toNat (T.setc ((((x148.set x147.toNat (T.setc (x148.getD x147.toNat T.u) 0 (T.i .i64 x146))).set x147.toNat (T.setc ((x148.set x147.toNat (T.setc (x148.getD x147.toNat T.u) 0 (T.i .i64 x146))).getD x147.toNat T.u) 1 (T.s (asS (nth r149 0))))).set x147.toNat (T.setc (((x148.set x147.toNat (T.setc (x148.getD x147.toNat T.u) 0 (T.i .i64 x146))).set x147.toNat (T.setc ((x148.set x147.toNat (T.setc (x148.getD x147.toNat T.u) 0 (T.i .i64 x146))).getD x147.toNat T.u) 1 (T.s (asS (nth r149 0))))).getD x147.toNat T.u) 2 (T.b (((IntKind.wrap .i64 ((IntKind.wrap .i64 (x146 + 1)) + 1)).tmod 3) == 0)))).getD x147.toNat T.u) 3 (T.i .i64 (IntKind.wrap .i64 ((IntKind.wrap .i64 ((IntKind.wrap .i64 (x146 + 1)) + 1)) + 1))))).set x147.toNat (T.setc (((((x148.set x147.toNat (T.setc (x148.getD x147.toNat T.u) 0 (T.i .i64 x146))).set x147.toNat (T.setc ((x148.set x147.toNat (T.setc (x148.getD x147.toNat T.u) 0 (T.i .i64 x146))).getD x147.toNat T.u) 1 (T.s (asS (nth r149 0))))).set x147.toNat (T.setc (((x148.set x147.toNat (T.setc (x148.getD x147.toNat T.u) 0 (T.i .i64 x146))).set x147.toNat (T.setc ((x148.set x147.toNat (T.setc (x148.getD x147.toNat T.u) 0 (T.i .i64 x146))).getD x147.toNat T.u) 1 (T.s (asS (nth r149 0))))).getD x147.toNat T.u) 2 (T.b (((IntKind.wrap .i64 ((IntKind.wrap .i64 (x146 + 1)) + 1)).tmod 3) == 0)))).set x147.toNat (T.setc ((((x148.set x147.toNat (T.setc (x148.getD x147.toNat T.u) 0 (T.i .i64 x146))).set x147.toNat (T.setc ((x148.set x147.toNat (T.setc (x148.getD x147.toNat T.u) 0 (T.i .i64 x146))).getD x147.toNat T.u) 1 (T.s (asS (nth r149 0))))).set x147.toNat (T.setc (((x148.set x147.toNat (T.setc (x148.getD x147.toNat T.u) 0 (T.i .i64 x146))).set x147.toNat (T.setc ((x148.set x147.toNat (T.setc (x148.getD x147.toNat T.u) 0 (T.i .i64 x146))).getD x147.toNat T.u) 1 (T.s (asS (nth r149 0))))).getD x147.toNat T.u) 2 (T.b (((IntKind.wrap .i64 ((IntKind.wrap .i64 (x146 + 1)) + 1)).tmod 3) == 0)))).getD x147.toNat T.u) 3 (T.i .i64 (IntKind.wrap .i64 ((IntKind.wrap .i64 ((IntKind.wrap .i64 (x146 + 1)) + 1)) + 1))))).getD x147.toNat T.u) 4 (T.sl (asL (nth r150 1))))).length) then
    L (IntKind.wrap .i64 ((asI (nth r150 0)) + 1)) (IntKind.wrap .i64 (x147 + 1)) ((((((x148.set x147.toNat (T.setc (x148.getD x147.toNat T.u) 0 (T.i .i64 x146))).set x147.toNat (T.setc ((x148.set x147.toNat (T.setc (x148.getD x147.toNat T.u) 0 (T.i .i64 x146))).getD x147.toNat T.u) 1 (T.s (asS (nth r149 0))))).set x147.toNat (T.setc (((x148.set x147.toNat (T.setc (x148.getD x147.toNat T.u) 0 (T.i .i64 x146))).set x147.toNat (T.setc ((x148.set x147.toNat (T.setc (x148.getD x147.toNat T.u) 0 (T.i .i64 x146))).getD x147.toNat T.u) 1 (T.s (asS (nth r149 0))))).getD x147.toNat T.u) 2 (T.b (((IntKind.wrap .i64 ((IntKind.wrap .i64 (x146 + 1)) + 1)).tmod 3) == 0)))).set x147.toNat (T.setc ((((x148.set x147.toNat (T.setc (x148.getD x147.toNat T.u) 0 (T.i .i64 x146))).set x147.toNat (T.setc ((x148.set x147.toNat (T.setc (x148.getD x147.toNat T.u) 0 (T.i .i64 x146))).getD x147.toNat T.u) 1 (T.s (asS (nth r149 0))))).set x147.toNat (T.setc (((x148.set x147.toNat (T.setc (x148.getD x147.toNat T.u) 0 (T.i .i64 x146))).set x147.toNat (T.setc ((x148.set x147.toNat (T.setc (x148.getD x147.toNat T.u) 0 (T.i .i64 x146))).getD x147.toNat T.u) 1 (T.s (asS (nth r149 0))))).getD x147.toNat T.u) 2 (T.b (((IntKind.wrap .i64 ((IntKind.wrap .i64 (x146 + 1)) + 1)).tmod 3) == 0)))).getD x147.toNat T.u) 3 (T.i .i64 (IntKind.wrap .i64 ((IntKind.wrap .i64 ((IntKind.wrap .i64 (x146 + 1)) + 1)) + 1))))).set x147.toNat (T.setc (((((x148.set x147.toNat (T.setc (x148.getD x147.toNat T.u) 0 (T.i .i64 x146))).set x147.toNat (T.setc ((x148.set x147.toNat (T.setc (x148.getD x147.toNat T.u) 0 (T.i .i64 x146))).getD x147.toNat T.u) 1 (T.s (asS (nth r149 0))))).set x147.toNat (T.setc (((x148.set x147.toNat (T.setc (x148.getD x147.toNat T.u) 0 (T.i .i64 x146))).set x147.toNat (T.setc ((x148.set x147.toNat (T.setc (x148.getD x147.toNat T.u) 0 (T.i .i64 x146))).getD x147.toNat T.u) 1 (T.s (asS (nth r149 0))))).getD x147.toNat T.u) 2 (T.b (((IntKind.wrap .i64 ((IntKind.wrap .i64 (x146 + 1)) + 1)).tmod 3) == 0)))).set x147.toNat (T.setc ((((x148.set x147.toNat (T.setc (x148.getD x147.toNat T.u) 0 (T.i .i64 x146))).set x147.toNat (T.setc ((x148.set x147.toNat (T.setc (x148.getD x147.toNat T.u) 0 (T.i .i64 x146))).getD x147.toNat T.u) 1 (T.s (asS (nth r149 0))))).set x147.toNat (T.setc (((x148.set x147.toNat (T.setc (x148.getD x147.toNat T.u) 0 (T.i .i64 x146))).set x147.toNat (T.setc ((x148.set x147.toNat (T.setc (x148.getD x147.toNat T.u) 0 (T.i .i64 x146))).getD x147.toNat T.u) 1 (T.s (asS (nth r149 0))))).getD x147.toNat T.u) 2 (T.b (((IntKind.wrap .i64 ((IntKind.wrap .i64 (x146 + 1)) + 1)).tmod 3) == 0)))).getD x147.toNat T.u) 3 (T.i .i64 (IntKind.wrap .i64 ((IntKind.wrap .i64 ((IntKind.wrap .i64 (x146 + 1)) + 1)) + 1))))).getD x147.toNat T.u) 4 (T.sl (asL (nth r150 1))))).set x147.toNat (T.setc ((((((x148.set x147.toNat (T.setc (x148.getD x147.toNat T.u) 0 (T.i .i64 x146))).set x147.toNat (T.setc ((x148.set x147.toNat (T.setc (x148.getD x147.toNat T.u) 0 (T.i .i64 x146))).getD x147.toNat T.u) 1 (T.s (asS (nth r149 0))))).set x147.toNat (T.setc (((x148.set x147.toNat (T.setc (x148.getD x147.toNat T.u) 0 (T.i .i64 x146))).set x147.toNat (T.setc ((x148.set x147.toNat (T.setc (x148.getD x147.toNat T.u) 0 (T.i .i64 x146))).getD x147.toNat T.u) 1 (T.s (asS (nth r149 0))))).getD x147.toNat T.u) 2 (T.b (((IntKind.wrap .i64 ((IntKind.wrap .i64 (x146 + 1)) + 1)).tmod 3) == 0)))).set x147.toNat (T.setc ((((x148.set x147.toNat (T.setc (x148.getD x147.toNat T.u) 0 (T.i .i64 x146))).set x147.toNat (T.setc ((x148.set x147.toNat (T.setc (x148.getD x147.toNat T.u) 0 (T.i .i64 x146))).getD x147.toNat T.u) 1 (T.s (asS (nth r149 0))))).set x147.toNat (T.setc (((x148.set x147.toNat (T.setc (x148.getD x147.toNat T.u) 0 (T.i .i64 x146))).set x147.toNat (T.setc ((x148.set x147.toNat (T.setc (x148.getD x147.toNat T.u) 0 (T.i .i64 x146))).getD x147.toNat T.u) 1 (T.s (asS (nth r149 0))))).getD x147.toNat T.u) 2 (T.b (((IntKind.wrap .i64 ((IntKind.wrap .i64 (x146 + 1)) + 1)).tmod 3) == 0)))).getD x147.toNat T.u) 3 (T.i .i64 (IntKind.wrap .i64 ((IntKind.wrap .i64 ((IntKind.wrap .i64 (x146 + 1)) + 1)) + 1))))).set x147.toNat (T.setc (((((x148.set x147.toNat (T.setc (x148.getD x147.toNat T.u) 0 (T.i .i64 x146))).set x147.toNat (T.setc ((x148.set x147.toNat (T.setc (x148.getD x147.toNat T.u) 0 (T.i .i64 x146))).getD x147.toNat T.u) 1 (T.s (asS (nth r149 0))))).set x147.toNat (T.setc (((x148.set x147.toNat (T.setc (x148.getD x147.toNat T.u) 0 (T.i .i64 x146))).set x147.toNat (T.setc ((x148.set x147.toNat (T.setc (x148.getD x147.toNat T.u) 0 (T.i .i64 x146))).getD x147.toNat T.u) 1 (T.s (asS (nth r149 0))))).getD x147.toNat T.u) 2 (T.b (((IntKind.wrap .i64 ((IntKind.wrap .i64 (x146 + 1)) + 1)).tmod 3) == 0)))).set x147.toNat (T.setc ((((x148.set x147.toNat (T.setc (x148.getD x147.toNat T.u) 0 (T.i .i64 x146))).set x147.toNat (T.setc ((x148.set x147.toNat (T.setc (x148.getD x147.toNat T.u) 0 (T.i .i64 x146))).getD x147.toNat T.u) 1 (T.s (asS (nth r149 0))))).set x147.toNat (T.setc (((x148.set x147.toNat (T.setc (x148.getD x147.toNat T.u) 0 (T.i .i64 x146))).set x147.toNat (T.setc ((x148.set x147.toNat (T.setc (x148.getD x147.toNat T.u) 0 (T.i .i64 x146))).getD x147.toNat T.u) 1 (T.s (asS (nth r149 0))))).getD x147.toNat T.u) 2 (T.b (((IntKind.wrap .i64 ((IntKind.wrap .i64 (x146 + 1)) + 1)).tmod 3) == 0)))).getD x147.toNat T.u) 3 (T.i .i64 (IntKind.wrap .i64 ((IntKind.wrap .i64 ((IntKind.wrap .i64 (x146 + 1)) + 1)) + 1))))).getD x147.toNat T.u) 4 (T.sl (asL (nth r150 1))))).getD x147.toNat T.u) 5 (T.i .i64 (asI (nth r150 0)))))
    else none
    else none
    else none
    else none
    else none
    else none
  else
    some [T.i .i64 0, T.i .i64 x146, T.sl x148]
def f116_0_c (x146 : Int) (x147 : Int) (x148 : List T) : CSt := ⟨[.rf 0 [] 0 none, .i .i64 x146, .i .i64 x147], [.row true [.i .i64, .s, .b, .i .i64, .sl true [.i .i64, .i .i64, .i .i64, .sl false [.i .u8], .sl true [.s, .i .i64], .sl true [.s, .s]], .i .i64] x148 0 false, .dead]⟩
theorem f116_0_round (c : Orc) (lf : Nat) (L : CSt → Option (List T)) (x146 : Int) (x147 : Int) (x148 : List T) :
    roundK c env lf 6 fi116 2 2 [] [0, 1, 5] (x116_2_0) L (f116_0_c x146 x147 x148) = f116_0_s c lf (fun x146 x147 x148 => L (f116_0_c x146 x147 x148)) x146 x147 x148 := by kernel_rfl
def f116_0 (c : Orc) (lf : Nat) : Nat → Int → Int → List T → Option (List T)
  | 0 => fun _ _ _ => none
  | n + 1 => fun x146 x147 x148 => f116_0_s c lf (f116_0 c lf n) x146 x147 x148
theorem f116_0_u (c : Orc) (lf : Nat) (n : Nat) (x146 : Int) (x147 : Int) (x148 : List T) : f116_0 c lf (n + 1) x146 x147 x148 = f116_0_s c lf (f116_0 c lf n) x146 x147 x148 := rfl
theorem f116_0_eq (c : Orc) (lf : Nat) (n : Nat) (x146 : Int) (x147 : Int) (x148 : List T) :
    lpK c env lf 6 fi116 2 2 [] [0, 1, 5] (x116_2_0) n (f116_0_c x146 x147 x148) = f116_0 c lf n x146 x147 x148 := by
  induction n generalizing x146 x147 x148 with
  | zero => rfl
  | succ n ih =>
    refine (f116_0_round c lf _ x146 x147 x148).trans ?_
    have e : (fun x146 x147 x148 => lpK c env lf 6 fi116 2 2 [] [0, 1, 5] (x116_2_0) n (f116_0_c x146 x147 x148)) = f116_0 c lf n := by funext x146 x147 x148; exact ih x146 x147 x148
    show f116_0_s c lf (fun x146 x147 x148 => lpK c env lf 6 fi116 2 2 [] [0, 1, 5] (x116_2_0) n (f116_0_c x146 x147 x148)) x146 x147 x148 = _
    rw [e]; rfl
/-- loop.example/g00285/laws.markVolS -/
def f116_t (c : Orc) (lf : Nat) (lp0 : Int → Int → List T → Option (List T)) (l0 : List T) (n1 : Int) : Option (List T) :=
  (lp0 n1 0 l0).bind fun r151 =>
  some [T.i .i64 (asI (nth r151 1)), T.sl (asL (nth r151 2))]
def f116 (c : Orc) (lf : Nat) (l0 : List T) (n1 : Int) : Option (List T) := f116_t c lf (fun (x146 : Int) (x147 : Int) (x148 : List T) => f116_0 c lf lf x146 x147 x148) l0 n1
theorem f116_raw (c : Orc) (lf : Nat) (l0 : List T) (n1 : Int) : funK c env lf 6 fi116 [.sl l0, .i .i64 n1] = f116_t c lf (fun (x146 : Int) (x147 : Int) (x148 : List T) => lpK c env lf 6 fi116 2 2 [] [0, 1, 5] (x116_2_0) lf (f116_0_c x146 x147 x148)) l0 n1 := by kernel_rfl
theorem f116_eq (c : Orc) (lf : Nat) (l0 : List T) (n1 : Int) : funK c env lf 6 fi116 [.sl l0, .i .i64 n1] = f116 c lf l0 n1 := by
  refine (f116_raw c lf l0 n1).trans ?_
  have e0 : (fun (x146 : Int) (x147 : Int) (x148 : List T) => lpK c env lf 6 fi116 2 2 [] [0, 1, 5] (x116_2_0) lf (f116_0_c x146 x147 x148)) = (fun (x146 : Int) (x147 : Int) (x148 : List T) => f116_0 c lf lf x146 x147 x148) := by funext x146 x147 x148; exact f116_0_eq c lf lf x146 x147 x148
  rw [e0]; rfl
/-- loop.example/g00285/laws.markFs -/
def f63_t (c : Orc) (lf : Nat) (l0_0 : List T) (n0_1 : Int) (n1 : Int) : Option (List T) :=
  (c 116 [T.sl l0_0, T.i .i64 n1]).bind fun r152 =>
  some [T.i .i64 (asI (nth r152 0)), T.sl (asL (nth r152 1))]
def f63 (c : Orc) (lf : Nat) (l0_0 : List T) (n0_1 : Int) (n1 : Int) : Option (List T) := f63_t c lf l0_0 n0_1 n1
theorem f63_raw (c : Orc) (lf : Nat) (l0_0 : List T) (n0_1 : Int) (n1 : Int) : funK c env lf 6 fi63 [.st [.sl l0_0, .i .i64 n0_1], .i .i64 n1] = f63_t c lf l0_0 n0_1 n1 := by kernel_rfl
theorem f63_eq (c : Orc) (lf : Nat) (l0_0 : List T) (n0_1 : Int) (n1 : Int) : funK c env lf 6 fi63 [.st [.sl l0_0, .i .i64 n0_1], .i .i64 n1] = f63 c lf l0_0 n0_1 n1 := by
  refine (f63_raw c lf l0_0 n0_1 n1).trans ?_
  rfl
/-- loop.example/g00285/laws.markRowS, the loop at region 2. -/
def f117_0_s (c : Orc) (lf : Nat) (L : Int → Int → List T → Option (List T)) (x160 : Int) (x161 : Int) (x162 : List T) : Option (List T) :=
  bif iLt x161 (x162.length : Int) then
    bif inR x161 x162.length then
    (c 172 [T.i .i64 (IntKind.wrap .i64 (x160 + 1))]).bind fun r163 =>
    bif inR x161 ((x162.set x161.toNat (T.setc (x162.getD x161.toNat T.u) 0 (T.i .i64 x160))).length) then
    bif inR x161 (((x162.set x161.toNat (T.setc (x162.getD x161.toNat T.u) 0 (T.i .i64 x160))).set x161.toNat (T.setc ((x162.set x161.toNat (T.setc (x162.getD x161.toNat T.u) 0 (T.i .i64 x160))).getD x161.toNat T.u) 1 (T.s (asS (nth r163 0))))).length) then
    bif inR x161 ((((x162.set x161.toNat (T.setc (x162.getD x161.toNat T.u) 0 (T.i .i64 x160))).set x161.toNat (T.setc ((x162.set x161.toNat (T.setc (x162.getD x161.toNat T.u) 0 (T.i .i64 x160))).getD x161.toNat T.u) 1 (T.s (asS (nth r163 0))))).set x161.toNat (T.setc (((x162.set x161.toNat (T.setc (x162.getD x161.toNat T.u) 0 (T.i .i64 x160))).set x161.toNat (T.setc ((x162.set x161.toNat (T.setc (x162.getD x161.toNat T.u) 0 (T.i .i64 x160))).getD x161.toNat T.u) 1 (T.s (asS (nth r163 0))))).getD x161.toNat T.u) 2 (T.b (((IntKind.wrap .i64 ((IntKind.wrap .i64 (x160 + 1)) + 1)).tmod 3) == 0)))).length) then
    bif inR x161 (((((x162.set x161.toNat (T.setc (x162.getD x161.toNat T.u) 0 (T.i .i64 x160))).set x161.toNat (T.setc ((x162.set x161.toNat (T.setc (x162.getD x161.toNat T.u) 0 (T.i .i64 x160))).getD x161.toNat T.u) 1 (T.s (asS (nth r163 0))))).set x161.toNat (T.setc (((x162.set x161.toNat (T.setc (x162.getD x161.toNat T.u) 0 (T.i .i64 x160))).set x161.toNat (T.setc ((x162.set x161.toNat (T.setc (x162.getD x161.toNat T.u) 0 (T.i .i64 x160))).getD x161.toNat T.u) 1 (T.s (asS (nth r163 0))))).getD x161.toNat T.u) 2 (T.b (((IntKind.wrap .i64 ((IntKind.wrap .i64 (x160 + 1)) + 1)).tmod 3) == 0)))).set x161.toNat (T.setc ((((x162.set x161.toNat (T.setc (x162.getD x161.toNat T.u) 0 (T.i .i64 x160))).set x161.toNat (T.setc ((x162.set x161.toNat (T.setc (x162.getD x161.toNat T.u) 0 (T.i .i64 x160))).getD x161.toNat T.u) 1 (T.s (asS (nth r163 0))))).set x161.toNat (T.setc (((x162.set x161.toNat (T.setc (x162.getD x161.toNat T.u) 0 (T.i .i64 x160))).set x161.toNat (T.setc ((x162.set x161.toNat (T.setc (x162.getD x161.toNat T.u) 0 (T.i .i64 x160))).getD x161.toNat T.u) 1 (T.s (asS (nth r163 0))))).getD x161.toNat T.u) 2 (T.b (((IntKind.wrap .i64 ((IntKind.wrap .i64 (x160 + 1)) + 1)).tmod 3) == 0)))).getD x161.toNat T.u) 3 (T.i .i64 (IntKind.wrap .i64 ((IntKind.wrap .i64 ((IntKind.wrap .i64 (x160 + 1)) + 1)) + 1))))).length) then
    L (IntKind.wrap .i64 ((IntKind.wrap .i64 ((IntKind.wrap .i64 ((IntKind.wrap .i64 ((IntKind.wrap .i64 (x160 + 1)) + 1)) + 1)) + 1)) + 1)) (IntKind.wrap .i64 (x161 + 1)) (((((x162.set x161.toNat (T.setc (x162.getD x161.toNat T.u) 0 (T.i .i64 x160))).set x161.toNat (T.setc ((x162.set x161.toNat (T.setc (x162.getD x161.toNat T.u) 0 (T.i .i64 x160))).getD x161.toNat T.u) 1 (T.s (asS (nth r163 0))))).set x161.toNat (T.setc (((x162.set x161.toNat (T.setc (x162.getD x161.toNat T.u) 0 (T.i .i64 x160))).set x161.toNat (T.setc ((x162.set x161.toNat (T.setc (x162.getD x161.toNat T.u) 0 (T.i .i64 x160))).getD x161.toNat T.u) 1 (T.s (asS (nth r163 0))))).getD x161.toNat T.u) 2 (T.b (((IntKind.wrap .i64 ((IntKind.wrap .i64 (x160 + 1)) + 1)).tmod 3) == 0)))).set x161.toNat (T.setc ((((x162.set x161.toNat (T.setc (x162.getD x161.toNat T.u) 0 (T.i .i64 x160))).set x161.toNat (T.setc ((x162.set x161.toNat (T.setc (x162.getD x161.toNat T.u) 0 (T.i .i64 x160))).getD x161.toNat T.u) 1 (T.s (asS (nth r163 0))))).set x161.toNat (T.setc (((x162.set x161.toNat (T.setc (x162.getD x161.toNat T.u) 0 (T.i .i64 x160))).set x161.toNat (T.setc ((x162.set x161.toNat (T.setc (x162.getD x161.toNat T.u) 0 (T.i .i64 x160))).getD x161.toNat T.u) 1 (T.s (asS (nth r163 0))))).getD x161.toNat T.u) 2 (T.b (((IntKind.wrap .i64 ((IntKind.wrap .i64 (x160 + 1)) + 1)).tmod 3) == 0)))).getD x161.toNat T.u) 3 (T.i .i64 (IntKind.wrap .i64 ((IntKind.wrap .i64 ((IntKind.wrap .i64 (x160 + 1)) + 1)) + 1))))).set x161.toNat (T.setc (((((x162.set x161.toNat (T.setc (x162.getD x161.toNat T.u) 0 (T.i .i64 x160))).set x161.toNat (T.setc ((x162.set x161.toNat (T.setc (x162.getD x161.toNat T.u) 0 (T.i .i64 x160))).getD x161.toNat T.u) 1 (T.s (asS (nth r163 0))))).set x161.toNat (T.setc (((x162.set x161.toNat (T.setc (x162.getD x161.toNat T.u) 0 (T.i .i64 x160))).set x161.toNat (T.setc ((x162.set x161.toNat (T.setc (x162.getD x161.toNat T.u) 0 (T.i .i64 x160))).getD x161.toNat T.u) 1 (T.s (asS (nth r163 0))))).getD x161.toNat T.u) 2 (T.b (((IntKind.wrap .i64 ((IntKind.wrap .i64 (x160 + 1)) + 1)).tmod 3) == 0)))).set x161.toNat (T.setc ((((x162.set x161.toNat (T.setc (x162.getD x161.toNat T.u) 0 (T.i .i64 x160))).set x161.toNat (T.setc ((x162.set x161.toNat (T.setc (x162.getD x161.toNat T.u) 0 (T.i .i64 x160))).getD x161.toNat T.u) 1 (T.s (asS (nth r163 0))))).set x161.toNat (T.setc (((x162.set x161.toNat (T.setc (x162.getD x161.toNat T.u) 0 (T.i .i64 x160))).set x161.toNat (T.setc ((x162.set x161.toNat (T.setc (x162.getD x161.toNat T.u) 0 (T.i .i64 x160))).getD x161.toNat T.u) 1 (T.s (asS (nth r163 0))))).getD x161.toNat T.u) 2 (T.b (((IntKind.wrap .i64 ((IntKind.wrap .i64 (x160 + 1)) + 1)).tmod 3) == 0)))).getD x161.toNat T.u) 3 (T.i .i64 (IntKind.wrap .i64 ((IntKind.wrap .i64 ((IntKind.wrap .i64 (x160 + 1)) + 1)) + 1))))).getD x161.toNat T.u) 4 (T.i .i64 (IntKind.wrap .i64 ((IntKind.wrap .i64 ((IntKind.wrap .i64 ((IntKind.wrap .i64 (x160 + 1)) + 1)) + 1)) + 1)))))
    else none
    else none
    else none
    else none
    else none
  else
    some [T.i .i64 0, T.i .i64 x160, T.sl x162]
def f117_0_c (x160 : Int) (x161 : Int) (x162 : List T) : CSt := ⟨[.rf 0 [] 0 none, .i .i64 x160, .i .i64 x161], [.row true [.i .i64, .s, .b, .i .i64, .i .i64] x162 0 false, .dead]⟩
theorem f117_0_round (c : Orc) (lf : Nat) (L : CSt → Option (List T)) (x160 : Int) (x161 : Int) (x162 : List T) :
    roundK c env lf 6 fi117 2 2 [] [0, 1, 5] (x117_2_0) L (f117_0_c x160 x161 x162) = f117_0_s c lf (fun x160 x161 x162 => L (f117_0_c x160 x161 x162)) x160 x161 x162 := by kernel_rfl
def f117_0 (c : Orc) (lf : Nat) : Nat → Int → Int → List T → Option (List T)
  | 0 => fun _ _ _ => none
  | n + 1 => fun x160 x161 x162 => f117_0_s c lf (f117_0 c lf n) x160 x161 x162
theorem f117_0_u (c : Orc) (lf : Nat) (n : Nat) (x160 : Int) (x161 : Int) (x162 : List T) : f117_0 c lf (n + 1) x160 x161 x162 = f117_0_s c lf (f117_0 c lf n) x160 x161 x162 := rfl
theorem f117_0_eq (c : Orc) (lf : Nat) (n : Nat) (x160 : Int) (x161 : Int) (x162 : List T) :
    lpK c env lf 6 fi117 2 2 [] [0, 1, 5] (x117_2_0) n (f117_0_c x160 x161 x162) = f117_0 c lf n x160 x161 x162 := by
  induction n generalizing x160 x161 x162 with
  | zero => rfl
  | succ n ih =>
    refine (f117_0_round c lf _ x160 x161 x162).trans ?_
    have e : (fun x160 x161 x162 => lpK c env lf 6 fi117 2 2 [] [0, 1, 5] (x117_2_0) n (f117_0_c x160 x161 x162)) = f117_0 c lf n := by funext x160 x161 x162; exact ih x160 x161 x162
    show f117_0_s c lf (fun x160 x161 x162 => lpK c env lf 6 fi117 2 2 [] [0, 1, 5] (x117_2_0) n (f117_0_c x160 x161 x162)) x160 x161 x162 = _
    rw [e]; rfl
/-- loop.example/g00285/laws.markRowS -/
def f117_t (c : Orc) (lf : Nat) (lp0 : Int → Int → List T → Option (List T)) (l0 : List T) (n1 : Int) : Option (List T) :=
  (lp0 n1 0 l0).bind fun r164 =>
  some [T.i .i64 (asI (nth r164 1)), T.sl (asL (nth r164 2))]
def f117 (c : Orc) (lf : Nat) (l0 : List T) (n1 : Int) : Option (List T) := f117_t c lf (fun (x160 : Int) (x161 : Int) (x162 : List T) => f117_0 c lf lf x160 x161 x162) l0 n1
theorem f117_raw (c : Orc) (lf : Nat) (l0 : List T) (n1 : Int) : funK c env lf 6 fi117 [.sl l0, .i .i64 n1] = f117_t c lf (fun (x160 : Int) (x161 : Int) (x162 : List T) => lpK c env lf 6 fi117 2 2 [] [0, 1, 5] (x117_2_0) lf (f117_0_c x160 x161 x162)) l0 n1 := by kernel_rfl
theorem f117_eq (c : Orc) (lf : Nat) (l0 : List T) (n1 : Int) : funK c env lf 6 fi117 [.sl l0, .i .i64 n1] = f117 c lf l0 n1 := by
  refine (f117_raw c lf l0 n1).trans ?_
  have e0 : (fun (x160 : Int) (x161 : Int) (x162 : List T) => lpK c env lf 6 fi117 2 2 [] [0, 1, 5] (x117_2_0) lf (f117_0_c x160 x161 x162)) = (fun (x160 : Int) (x161 : Int) (x162 : List T) => f117_0 c lf lf x160 x161 x162) := by funext x160 x161 x162; exact f117_0_eq c lf lf x160 x161 x162
  rw [e0]; rfl
/-- loop.example/g00285/laws.markTable -/
def f64_t (c : Orc) (lf : Nat) (n0_0 : Int) (l0_1 : List T) (n1 : Int) : Option (List T) :=
  (c 117 [T.sl l0_1, T.i .i64 n1]).bind fun r165 =>
  some [T.i .i64 (asI (nth r165 0)), T.sl (asL (nth r165 1))]
def f64 (c : Orc) (lf : Nat) (n0_0 : Int) (l0_1 : List T) (n1 : Int) : Option (List T) := f64_t c lf n0_0 l0_1 n1
theorem f64_raw (c : Orc) (lf : Nat) (n0_0 : Int) (l0_1 : List T) (n1 : Int) : funK c env lf 6 fi64 [.st [.i .i64 n0_0, .sl l0_1], .i .i64 n1] = f64_t c lf n0_0 l0_1 n1 := by kernel_rfl
theorem f64_eq (c : Orc) (lf : Nat) (n0_0 : Int) (l0_1 : List T) (n1 : Int) : funK c env lf 6 fi64 [.st [.i .i64 n0_0, .sl l0_1], .i .i64 n1] = f64 c lf n0_0 l0_1 n1 := by
  refine (f64_raw c lf n0_0 l0_1 n1).trans ?_
  rfl
/-- loop.example/g00285/laws.markPlaceS, the loop at region 2. -/
def f118_0_s (c : Orc) (lf : Nat) (L : Int → Int → List T → Option (List T)) (x170 : Int) (x171 : Int) (x172 : List T) : Option (List T) :=
  bif iLt x171 (x172.length : Int) then
    bif inR x171 x172.length then
    bif inR x171 ((x172.set x171.toNat (T.setc (x172.getD x171.toNat T.u) 0 (T.i .i64 x170))).length) then
    L (IntKind.wrap .i64 ((IntKind.wrap .i64 (x170 + 1)) + 1)) (IntKind.wrap .i64 (x171 + 1)) ((x172.set x171.toNat (T.setc (x172.getD x171.toNat T.u) 0 (T.i .i64 x170))).set x171.toNat (T.setc ((x172.set x171.toNat (T.setc (x172.getD x171.toNat T.u) 0 (T.i .i64 x170))).getD x171.toNat T.u) 1 (T.i .i64 (IntKind.wrap .i64 (x170 + 1)))))
    else none
    else none
  else
    some [T.i .i64 0, T.i .i64 x170, T.sl x172]
def f118_0_c (x170 : Int) (x171 : Int) (x172 : List T) : CSt := ⟨[.rf 0 [] 0 none, .i .i64 x170, .i .i64 x171], [.row true [.i .i64, .i .i64] x172 0 false, .dead]⟩
theorem f118_0_round (c : Orc) (lf : Nat) (L : CSt → Option (List T)) (x170 : Int) (x171 : Int) (x172 : List T) :
    roundK c env lf 6 fi118 2 2 [] [0, 1, 5] (x118_2_0) L (f118_0_c x170 x171 x172) = f118_0_s c lf (fun x170 x171 x172 => L (f118_0_c x170 x171 x172)) x170 x171 x172 := by kernel_rfl
def f118_0 (c : Orc) (lf : Nat) : Nat → Int → Int → List T → Option (List T)
  | 0 => fun _ _ _ => none
  | n + 1 => fun x170 x171 x172 => f118_0_s c lf (f118_0 c lf n) x170 x171 x172
theorem f118_0_u (c : Orc) (lf : Nat) (n : Nat) (x170 : Int) (x171 : Int) (x172 : List T) : f118_0 c lf (n + 1) x170 x171 x172 = f118_0_s c lf (f118_0 c lf n) x170 x171 x172 := rfl
theorem f118_0_eq (c : Orc) (lf : Nat) (n : Nat) (x170 : Int) (x171 : Int) (x172 : List T) :
    lpK c env lf 6 fi118 2 2 [] [0, 1, 5] (x118_2_0) n (f118_0_c x170 x171 x172) = f118_0 c lf n x170 x171 x172 := by
  induction n generalizing x170 x171 x172 with
  | zero => rfl
  | succ n ih =>
    refine (f118_0_round c lf _ x170 x171 x172).trans ?_
    have e : (fun x170 x171 x172 => lpK c env lf 6 fi118 2 2 [] [0, 1, 5] (x118_2_0) n (f118_0_c x170 x171 x172)) = f118_0 c lf n := by funext x170 x171 x172; exact ih x170 x171 x172
    show f118_0_s c lf (fun x170 x171 x172 => lpK c env lf 6 fi118 2 2 [] [0, 1, 5] (x118_2_0) n (f118_0_c x170 x171 x172)) x170 x171 x172 = _
    rw [e]; rfl
/-- loop.example/g00285/laws.markPlaceS -/
def f118_t (c : Orc) (lf : Nat) (lp0 : Int → Int → List T → Option (List T)) (l0 : List T) (n1 : Int) : Option (List T) :=
  (lp0 n1 0 l0).bind fun r173 =>
  some [T.i .i64 (asI (nth r173 1)), T.sl (asL (nth r173 2))]
def f118 (c : Orc) (lf : Nat) (l0 : List T) (n1 : Int) : Option (List T) := f118_t c lf (fun (x170 : Int) (x171 : Int) (x172 : List T) => f118_0 c lf lf x170 x171 x172) l0 n1
theorem f118_raw (c : Orc) (lf : Nat) (l0 : List T) (n1 : Int) : funK c env lf 6 fi118 [.sl l0, .i .i64 n1] = f118_t c lf (fun (x170 : Int) (x171 : Int) (x172 : List T) => lpK c env lf 6 fi118 2 2 [] [0, 1, 5] (x118_2_0) lf (f118_0_c x170 x171 x172)) l0 n1 := by kernel_rfl
theorem f118_eq (c : Orc) (lf : Nat) (l0 : List T) (n1 : Int) : funK c env lf 6 fi118 [.sl l0, .i .i64 n1] = f118 c lf l0 n1 := by
  refine (f118_raw c lf l0 n1).trans ?_
  have e0 : (fun (x170 : Int) (x171 : Int) (x172 : List T) => lpK c env lf 6 fi118 2 2 [] [0, 1, 5] (x118_2_0) lf (f118_0_c x170 x171 x172)) = (fun (x170 : Int) (x171 : Int) (x172 : List T) => f118_0 c lf lf x170 x171 x172) := by funext x170 x171 x172; exact f118_0_eq c lf lf x170 x171 x172
  rw [e0]; rfl
/-- loop.example/g00285/laws.markMapS, the loop at region 2. -/
def f65_0_s (c : Orc) (lf : Nat) (L : Int → Int → List T → Option (List T)) (x181 : Int) (x182 : Int) (x183 : List T) : Option (List T) :=
  bif iLt x182 (x183.length : Int) then
    bif inR x182 x183.length then
    bif inR x182 ((x183.set x182.toNat (T.setc (x183.getD x182.toNat T.u) 0 (T.i .i64 x181))).length) then
    (c 118 [T.sl (asL (T.cell ((x183.set x182.toNat (T.setc (x183.getD x182.toNat T.u) 0 (T.i .i64 x181))).getD x182.toNat T.u) 1)), T.i .i64 (IntKind.wrap .i64 (x181 + 1))]).bind fun r184 =>
    L (asI (nth r184 0)) (IntKind.wrap .i64 (x182 + 1)) ((x183.set x182.toNat (T.setc (x183.getD x182.toNat T.u) 0 (T.i .i64 x181))).set x182.toNat (T.setc ((x183.set x182.toNat (T.setc (x183.getD x182.toNat T.u) 0 (T.i .i64 x181))).getD x182.toNat T.u) 1 (T.sl (asL (nth r184 1)))))
    else none
    else none
  else
    some [T.i .i64 0, T.i .i64 x181, T.sl x183]
def f65_0_c (x181 : Int) (x182 : Int) (x183 : List T) : CSt := ⟨[.rf 0 [] 0 none, .i .i64 x181, .i .i64 x182], [.row true [.i .i64, .sl true [.i .i64, .i .i64]] x183 0 false, .dead]⟩
theorem f65_0_round (c : Orc) (lf : Nat) (L : CSt → Option (List T)) (x181 : Int) (x182 : Int) (x183 : List T) :
    roundK c env lf 6 fi65 2 2 [] [0, 1, 5] (x65_2_0) L (f65_0_c x181 x182 x183) = f65_0_s c lf (fun x181 x182 x183 => L (f65_0_c x181 x182 x183)) x181 x182 x183 := by kernel_rfl
def f65_0 (c : Orc) (lf : Nat) : Nat → Int → Int → List T → Option (List T)
  | 0 => fun _ _ _ => none
  | n + 1 => fun x181 x182 x183 => f65_0_s c lf (f65_0 c lf n) x181 x182 x183
theorem f65_0_u (c : Orc) (lf : Nat) (n : Nat) (x181 : Int) (x182 : Int) (x183 : List T) : f65_0 c lf (n + 1) x181 x182 x183 = f65_0_s c lf (f65_0 c lf n) x181 x182 x183 := rfl
theorem f65_0_eq (c : Orc) (lf : Nat) (n : Nat) (x181 : Int) (x182 : Int) (x183 : List T) :
    lpK c env lf 6 fi65 2 2 [] [0, 1, 5] (x65_2_0) n (f65_0_c x181 x182 x183) = f65_0 c lf n x181 x182 x183 := by
  induction n generalizing x181 x182 x183 with
  | zero => rfl
  | succ n ih =>
    refine (f65_0_round c lf _ x181 x182 x183).trans ?_
    have e : (fun x181 x182 x183 => lpK c env lf 6 fi65 2 2 [] [0, 1, 5] (x65_2_0) n (f65_0_c x181 x182 x183)) = f65_0 c lf n := by funext x181 x182 x183; exact ih x181 x182 x183
    show f65_0_s c lf (fun x181 x182 x183 => lpK c env lf 6 fi65 2 2 [] [0, 1, 5] (x65_2_0) n (f65_0_c x181 x182 x183)) x181 x182 x183 = _
    rw [e]; rfl
/-- loop.example/g00285/laws.markMapS -/
def f65_t (c : Orc) (lf : Nat) (lp0 : Int → Int → List T → Option (List T)) (l0 : List T) (n1 : Int) : Option (List T) :=
  (lp0 n1 0 l0).bind fun r185 =>
  some [T.i .i64 (asI (nth r185 1)), T.sl (asL (nth r185 2))]
def f65 (c : Orc) (lf : Nat) (l0 : List T) (n1 : Int) : Option (List T) := f65_t c lf (fun (x181 : Int) (x182 : Int) (x183 : List T) => f65_0 c lf lf x181 x182 x183) l0 n1
theorem f65_raw (c : Orc) (lf : Nat) (l0 : List T) (n1 : Int) : funK c env lf 6 fi65 [.sl l0, .i .i64 n1] = f65_t c lf (fun (x181 : Int) (x182 : Int) (x183 : List T) => lpK c env lf 6 fi65 2 2 [] [0, 1, 5] (x65_2_0) lf (f65_0_c x181 x182 x183)) l0 n1 := by kernel_rfl
theorem f65_eq (c : Orc) (lf : Nat) (l0 : List T) (n1 : Int) : funK c env lf 6 fi65 [.sl l0, .i .i64 n1] = f65 c lf l0 n1 := by
  refine (f65_raw c lf l0 n1).trans ?_
  have e0 : (fun (x181 : Int) (x182 : Int) (x183 : List T) => lpK c env lf 6 fi65 2 2 [] [0, 1, 5] (x65_2_0) lf (f65_0_c x181 x182 x183)) = (fun (x181 : Int) (x182 : Int) (x183 : List T) => f65_0 c lf lf x181 x182 x183) := by funext x181 x182 x183; exact f65_0_eq c lf lf x181 x182 x183
  rw [e0]; rfl
/-- loop.example/g00285/laws.markImage -/
def f16_t (c : Orc) (lf : Nat) (l0_0 : List T) (n0_1 : Int) (n0_2 : Int) (l0_3 : List T) (l0_4 : List T) (n0_5 : Int) (n0_6 : Int) (n1 : Int) : Option (List T) :=
  (c 63 [T.st [T.sl l0_0, T.i .i64 n0_1], T.i .i64 n1]).bind fun r186 =>
  (c 64 [T.st [T.i .i64 n0_2, T.sl l0_3], T.i .i64 (asI (nth r186 0))]).bind fun r187 =>
  (c 65 [T.sl l0_4, T.i .i64 (asI (nth r187 0))]).bind fun r188 =>
  some [T.i .i64 (asI (nth r188 0)), T.sl (asL (nth r186 1)), T.sl (asL (nth r187 1)), T.sl (asL (nth r188 1))]
def f16 (c : Orc) (lf : Nat) (l0_0 : List T) (n0_1 : Int) (n0_2 : Int) (l0_3 : List T) (l0_4 : List T) (n0_5 : Int) (n0_6 : Int) (n1 : Int) : Option (List T) := f16_t c lf l0_0 n0_1 n0_2 l0_3 l0_4 n0_5 n0_6 n1
theorem f16_raw (c : Orc) (lf : Nat) (l0_0 : List T) (n0_1 : Int) (n0_2 : Int) (l0_3 : List T) (l0_4 : List T) (n0_5 : Int) (n0_6 : Int) (n1 : Int) : funK c env lf 6 fi16 [.st [.sl l0_0, .i .i64 n0_1, .i .i64 n0_2, .sl l0_3, .sl l0_4, .i .i64 n0_5, .i .i64 n0_6], .i .i64 n1] = f16_t c lf l0_0 n0_1 n0_2 l0_3 l0_4 n0_5 n0_6 n1 := by kernel_rfl
theorem f16_eq (c : Orc) (lf : Nat) (l0_0 : List T) (n0_1 : Int) (n0_2 : Int) (l0_3 : List T) (l0_4 : List T) (n0_5 : Int) (n0_6 : Int) (n1 : Int) : funK c env lf 6 fi16 [.st [.sl l0_0, .i .i64 n0_1, .i .i64 n0_2, .sl l0_3, .sl l0_4, .i .i64 n0_5, .i .i64 n0_6], .i .i64 n1] = f16 c lf l0_0 n0_1 n0_2 l0_3 l0_4 n0_5 n0_6 n1 := by
  refine (f16_raw c lf l0_0 n0_1 n0_2 l0_3 l0_4 n0_5 n0_6 n1).trans ?_
  rfl
/-- loop.example/g00285/laws.heldByteS, the loop at region 2. -/
def f83_0_s (c : Orc) (lf : Nat) (l0 : List T) (L : Int → Int → Option (List T)) (x192 : Int) (x193 : Int) : Option (List T) :=
  bif iLt x193 (l0.length : Int) then
    bif inR x193 l0.length then
    bif (asI (l0.getD x193.toNat T.u)) != (IntKind.wrap .u8 x192) then
      some [T.i .i64 0, T.i .i64 (-1)]
    else
      L (IntKind.wrap .i64 (x192 + 1)) (IntKind.wrap .i64 (x193 + 1))
    else none
  else
    some [T.i .i64 1, T.i .i64 x192]
def f83_0_c (l0 : List T) (x192 : Int) (x193 : Int) : CSt := ⟨[.ro 0 false [.i .u8] l0, .i .i64 x192, .i .i64 x193], [.dead, .dead]⟩
theorem f83_0_round (c : Orc) (lf : Nat) (l0 : List T) (L : CSt → Option (List T)) (x192 : Int) (x193 : Int) :
    roundK c env lf 6 fi83 2 2 [] [0, 1, 5] (x83_2_0) L (f83_0_c l0 x192 x193) = f83_0_s c lf l0 (fun x192 x193 => L (f83_0_c l0 x192 x193)) x192 x193 := by kernel_rfl
def f83_0 (c : Orc) (lf : Nat) (l0 : List T) : Nat → Int → Int → Option (List T)
  | 0 => fun _ _ => none
  | n + 1 => fun x192 x193 => f83_0_s c lf l0 (f83_0 c lf l0 n) x192 x193
theorem f83_0_u (c : Orc) (lf : Nat) (l0 : List T) (n : Nat) (x192 : Int) (x193 : Int) : f83_0 c lf l0 (n + 1) x192 x193 = f83_0_s c lf l0 (f83_0 c lf l0 n) x192 x193 := rfl
theorem f83_0_eq (c : Orc) (lf : Nat) (l0 : List T) (n : Nat) (x192 : Int) (x193 : Int) :
    lpK c env lf 6 fi83 2 2 [] [0, 1, 5] (x83_2_0) n (f83_0_c l0 x192 x193) = f83_0 c lf l0 n x192 x193 := by
  induction n generalizing x192 x193 with
  | zero => rfl
  | succ n ih =>
    refine (f83_0_round c lf l0 _ x192 x193).trans ?_
    have e : (fun x192 x193 => lpK c env lf 6 fi83 2 2 [] [0, 1, 5] (x83_2_0) n (f83_0_c l0 x192 x193)) = f83_0 c lf l0 n := by funext x192 x193; exact ih x192 x193
    show f83_0_s c lf l0 (fun x192 x193 => lpK c env lf 6 fi83 2 2 [] [0, 1, 5] (x83_2_0) n (f83_0_c l0 x192 x193)) x192 x193 = _
    rw [e]; rfl
/-- loop.example/g00285/laws.heldByteS -/
def f83_t (c : Orc) (lf : Nat) (lp0 : List T → Int → Int → Option (List T)) (l0 : List T) (n1 : Int) : Option (List T) :=
  (lp0 l0 n1 0).bind fun r194 =>
  bif asI (nth r194 0) == 0 then
    some [T.i .i64 (asI (nth r194 1))]
  else
    some [T.i .i64 (asI (nth r194 1))]
def f83 (c : Orc) (lf : Nat) (l0 : List T) (n1 : Int) : Option (List T) := f83_t c lf (fun (l0 : List T) (x192 : Int) (x193 : Int) => f83_0 c lf l0 lf x192 x193) l0 n1
theorem f83_raw (c : Orc) (lf : Nat) (l0 : List T) (n1 : Int) : funK c env lf 6 fi83 [.sl l0, .i .i64 n1] = f83_t c lf (fun (l0 : List T) (x192 : Int) (x193 : Int) => lpK c env lf 6 fi83 2 2 [] [0, 1, 5] (x83_2_0) lf (f83_0_c l0 x192 x193)) l0 n1 := by kernel_rfl
theorem f83_eq (c : Orc) (lf : Nat) (l0 : List T) (n1 : Int) : funK c env lf 6 fi83 [.sl l0, .i .i64 n1] = f83 c lf l0 n1 := by
  refine (f83_raw c lf l0 n1).trans ?_
  have e0 : (fun (l0 : List T) (x192 : Int) (x193 : Int) => lpK c env lf 6 fi83 2 2 [] [0, 1, 5] (x83_2_0) lf (f83_0_c l0 x192 x193)) = (fun (l0 : List T) (x192 : Int) (x193 : Int) => f83_0 c lf l0 lf x192 x193) := by funext l0 x192 x193; exact f83_0_eq c lf l0 lf x192 x193
  rw [e0]; rfl
/-- loop.example/g00285/laws.heldEntS, the loop at region 2. -/
def f217_0_s (c : Orc) (lf : Nat) (l0 : List T) (L : Int → Int → Option (List T)) (x201 : Int) (x202 : Int) : Option (List T) :=
  bif iLt x202 (l0.length : Int) then
    bif inR x202 l0.length then
    (c 172 [T.i .i64 x201]).bind fun r203 =>
    bif !((asS (T.cell (l0.getD x202.toNat T.u) 0)).toList == (asS (nth r203 0)).toList) then
      some [T.i .i64 0, T.i .i64 (-1)]
    else
      bif inR x202 l0.length then
      bif (asI (T.cell (l0.getD x202.toNat T.u) 1)) != (IntKind.wrap .i64 (x201 + 1)) then
        some [T.i .i64 0, T.i .i64 (-1)]
      else
        L (IntKind.wrap .i64 ((IntKind.wrap .i64 (x201 + 1)) + 1)) (IntKind.wrap .i64 (x202 + 1))
      else none
    else none
  else
    some [T.i .i64 1, T.i .i64 x201]
def f217_0_c (l0 : List T) (x201 : Int) (x202 : Int) : CSt := ⟨[.ro 0 true [.s, .i .i64] l0, .i .i64 x201, .i .i64 x202], [.dead, .dead]⟩
theorem f217_0_round (c : Orc) (lf : Nat) (l0 : List T) (L : CSt → Option (List T)) (x201 : Int) (x202 : Int) :
    roundK c env lf 6 fi217 2 2 [] [0, 1, 5] (x217_2_0) L (f217_0_c l0 x201 x202) = f217_0_s c lf l0 (fun x201 x202 => L (f217_0_c l0 x201 x202)) x201 x202 := by kernel_rfl
def f217_0 (c : Orc) (lf : Nat) (l0 : List T) : Nat → Int → Int → Option (List T)
  | 0 => fun _ _ => none
  | n + 1 => fun x201 x202 => f217_0_s c lf l0 (f217_0 c lf l0 n) x201 x202
theorem f217_0_u (c : Orc) (lf : Nat) (l0 : List T) (n : Nat) (x201 : Int) (x202 : Int) : f217_0 c lf l0 (n + 1) x201 x202 = f217_0_s c lf l0 (f217_0 c lf l0 n) x201 x202 := rfl
theorem f217_0_eq (c : Orc) (lf : Nat) (l0 : List T) (n : Nat) (x201 : Int) (x202 : Int) :
    lpK c env lf 6 fi217 2 2 [] [0, 1, 5] (x217_2_0) n (f217_0_c l0 x201 x202) = f217_0 c lf l0 n x201 x202 := by
  induction n generalizing x201 x202 with
  | zero => rfl
  | succ n ih =>
    refine (f217_0_round c lf l0 _ x201 x202).trans ?_
    have e : (fun x201 x202 => lpK c env lf 6 fi217 2 2 [] [0, 1, 5] (x217_2_0) n (f217_0_c l0 x201 x202)) = f217_0 c lf l0 n := by funext x201 x202; exact ih x201 x202
    show f217_0_s c lf l0 (fun x201 x202 => lpK c env lf 6 fi217 2 2 [] [0, 1, 5] (x217_2_0) n (f217_0_c l0 x201 x202)) x201 x202 = _
    rw [e]; rfl
/-- loop.example/g00285/laws.heldEntS -/
def f217_t (c : Orc) (lf : Nat) (lp0 : List T → Int → Int → Option (List T)) (l0 : List T) (n1 : Int) : Option (List T) :=
  (lp0 l0 n1 0).bind fun r204 =>
  bif asI (nth r204 0) == 0 then
    some [T.i .i64 (asI (nth r204 1))]
  else
    some [T.i .i64 (asI (nth r204 1))]
def f217 (c : Orc) (lf : Nat) (l0 : List T) (n1 : Int) : Option (List T) := f217_t c lf (fun (l0 : List T) (x201 : Int) (x202 : Int) => f217_0 c lf l0 lf x201 x202) l0 n1
theorem f217_raw (c : Orc) (lf : Nat) (l0 : List T) (n1 : Int) : funK c env lf 6 fi217 [.sl l0, .i .i64 n1] = f217_t c lf (fun (l0 : List T) (x201 : Int) (x202 : Int) => lpK c env lf 6 fi217 2 2 [] [0, 1, 5] (x217_2_0) lf (f217_0_c l0 x201 x202)) l0 n1 := by kernel_rfl
theorem f217_eq (c : Orc) (lf : Nat) (l0 : List T) (n1 : Int) : funK c env lf 6 fi217 [.sl l0, .i .i64 n1] = f217 c lf l0 n1 := by
  refine (f217_raw c lf l0 n1).trans ?_
  have e0 : (fun (l0 : List T) (x201 : Int) (x202 : Int) => lpK c env lf 6 fi217 2 2 [] [0, 1, 5] (x217_2_0) lf (f217_0_c l0 x201 x202)) = (fun (l0 : List T) (x201 : Int) (x202 : Int) => f217_0 c lf l0 lf x201 x202) := by funext l0 x201 x202; exact f217_0_eq c lf l0 lf x201 x202
  rw [e0]; rfl
/-- loop.example/g00285/laws.heldAttrS, the loop at region 2. -/
def f218_0_s (c : Orc) (lf : Nat) (l0 : List T) (L : Int → Int → Option (List T)) (x214 : Int) (x215 : Int) : Option (List T) :=
  bif iLt x215 (l0.length : Int) then
    bif inR x215 l0.length then
    (c 172 [T.i .i64 x214]).bind fun r216 =>
    bif !((asS (T.cell (l0.getD x215.toNat T.u) 0)).toList == (asS (nth r216 0)).toList) then
      some [T.i .i64 0, T.i .i64 (-1)]
    else
      bif inR x215 l0.length then
      (c 172 [T.i .i64 (IntKind.wrap .i64 (x214 + 1))]).bind fun r217 =>
      bif !((asS (T.cell (l0.getD x215.toNat T.u) 1)).toList == (asS (nth r217 0)).toList) then
        some [T.i .i64 0, T.i .i64 (-1)]
      else
        L (IntKind.wrap .i64 ((IntKind.wrap .i64 (x214 + 1)) + 1)) (IntKind.wrap .i64 (x215 + 1))
      else none
    else none
  else
    some [T.i .i64 1, T.i .i64 x214]
def f218_0_c (l0 : List T) (x214 : Int) (x215 : Int) : CSt := ⟨[.ro 0 true [.s, .s] l0, .i .i64 x214, .i .i64 x215], [.dead, .dead]⟩
theorem f218_0_round (c : Orc) (lf : Nat) (l0 : List T) (L : CSt → Option (List T)) (x214 : Int) (x215 : Int) :
    roundK c env lf 6 fi218 2 2 [] [0, 1, 5] (x218_2_0) L (f218_0_c l0 x214 x215) = f218_0_s c lf l0 (fun x214 x215 => L (f218_0_c l0 x214 x215)) x214 x215 := by kernel_rfl
def f218_0 (c : Orc) (lf : Nat) (l0 : List T) : Nat → Int → Int → Option (List T)
  | 0 => fun _ _ => none
  | n + 1 => fun x214 x215 => f218_0_s c lf l0 (f218_0 c lf l0 n) x214 x215
theorem f218_0_u (c : Orc) (lf : Nat) (l0 : List T) (n : Nat) (x214 : Int) (x215 : Int) : f218_0 c lf l0 (n + 1) x214 x215 = f218_0_s c lf l0 (f218_0 c lf l0 n) x214 x215 := rfl
theorem f218_0_eq (c : Orc) (lf : Nat) (l0 : List T) (n : Nat) (x214 : Int) (x215 : Int) :
    lpK c env lf 6 fi218 2 2 [] [0, 1, 5] (x218_2_0) n (f218_0_c l0 x214 x215) = f218_0 c lf l0 n x214 x215 := by
  induction n generalizing x214 x215 with
  | zero => rfl
  | succ n ih =>
    refine (f218_0_round c lf l0 _ x214 x215).trans ?_
    have e : (fun x214 x215 => lpK c env lf 6 fi218 2 2 [] [0, 1, 5] (x218_2_0) n (f218_0_c l0 x214 x215)) = f218_0 c lf l0 n := by funext x214 x215; exact ih x214 x215
    show f218_0_s c lf l0 (fun x214 x215 => lpK c env lf 6 fi218 2 2 [] [0, 1, 5] (x218_2_0) n (f218_0_c l0 x214 x215)) x214 x215 = _
    rw [e]; rfl
/-- loop.example/g00285/laws.heldAttrS -/
def f218_t (c : Orc) (lf : Nat) (lp0 : List T → Int → Int → Option (List T)) (l0 : List T) (n1 : Int) : Option (List T) :=
  (lp0 l0 n1 0).bind fun r218 =>
  bif asI (nth r218 0) == 0 then
    some [T.i .i64 (asI (nth r218 1))]
  else
    some [T.i .i64 (asI (nth r218 1))]
def f218 (c : Orc) (lf : Nat) (l0 : List T) (n1 : Int) : Option (List T) := f218_t c lf (fun (l0 : List T) (x214 : Int) (x215 : Int) => f218_0 c lf l0 lf x214 x215) l0 n1
theorem f218_raw (c : Orc) (lf : Nat) (l0 : List T) (n1 : Int) : funK c env lf 6 fi218 [.sl l0, .i .i64 n1] = f218_t c lf (fun (l0 : List T) (x214 : Int) (x215 : Int) => lpK c env lf 6 fi218 2 2 [] [0, 1, 5] (x218_2_0) lf (f218_0_c l0 x214 x215)) l0 n1 := by kernel_rfl
theorem f218_eq (c : Orc) (lf : Nat) (l0 : List T) (n1 : Int) : funK c env lf 6 fi218 [.sl l0, .i .i64 n1] = f218 c lf l0 n1 := by
  refine (f218_raw c lf l0 n1).trans ?_
  have e0 : (fun (l0 : List T) (x214 : Int) (x215 : Int) => lpK c env lf 6 fi218 2 2 [] [0, 1, 5] (x218_2_0) lf (f218_0_c l0 x214 x215)) = (fun (l0 : List T) (x214 : Int) (x215 : Int) => f218_0 c lf l0 lf x214 x215) := by funext l0 x214 x215; exact f218_0_eq c lf l0 lf x214 x215
  rw [e0]; rfl
/-- loop.example/g00285/laws.heldInodeS, the loop at region 2. -/
def f174_0_s (c : Orc) (lf : Nat) (l0 : List T) (L : Int → Int → Option (List T)) (x231 : Int) (x232 : Int) : Option (List T) :=
  bif iLt x232 (l0.length : Int) then
    bif inR x232 l0.length then
    bif (asI (T.cell (l0.getD x232.toNat T.u) 0)) != x231 then
      some [T.i .i64 0, T.i .i64 (-1)]
    else
      bif inR x232 l0.length then
      bif (asI (T.cell (l0.getD x232.toNat T.u) 1)) != (IntKind.wrap .i64 (x231 + 1)) then
        some [T.i .i64 0, T.i .i64 (-1)]
      else
        bif inR x232 l0.length then
        bif (asI (T.cell (l0.getD x232.toNat T.u) 2)) != (IntKind.wrap .i64 ((IntKind.wrap .i64 (x231 + 1)) + 1)) then
          some [T.i .i64 0, T.i .i64 (-1)]
        else
          bif inR x232 l0.length then
          (c 83 [T.sl (asL (T.cell (l0.getD x232.toNat T.u) 3)), T.i .i64 (IntKind.wrap .i64 ((IntKind.wrap .i64 ((IntKind.wrap .i64 (x231 + 1)) + 1)) + 1))]).bind fun r233 =>
          bif iLt (asI (nth r233 0)) 0 then
            some [T.i .i64 0, T.i .i64 (-1)]
          else
            bif inR x232 l0.length then
            (c 217 [T.sl (asL (T.cell (l0.getD x232.toNat T.u) 4)), T.i .i64 (asI (nth r233 0))]).bind fun r234 =>
            bif iLt (asI (nth r234 0)) 0 then
              some [T.i .i64 0, T.i .i64 (-1)]
            else
              bif inR x232 l0.length then
              (c 218 [T.sl (asL (T.cell (l0.getD x232.toNat T.u) 5)), T.i .i64 (asI (nth r234 0))]).bind fun r235 =>
              bif iLt (asI (nth r235 0)) 0 then
                some [T.i .i64 0, T.i .i64 (-1)]
              else
                L (asI (nth r235 0)) (IntKind.wrap .i64 (x232 + 1))
              else none
            else none
          else none
        else none
      else none
    else none
  else
    some [T.i .i64 1, T.i .i64 x231]
def f174_0_c (l0 : List T) (x231 : Int) (x232 : Int) : CSt := ⟨[.ro 0 true [.i .i64, .i .i64, .i .i64, .sl false [.i .u8], .sl true [.s, .i .i64], .sl true [.s, .s]] l0, .i .i64 x231, .i .i64 x232], [.dead, .dead]⟩
theorem f174_0_round (c : Orc) (lf : Nat) (l0 : List T) (L : CSt → Option (List T)) (x231 : Int) (x232 : Int) :
    roundK c env lf 6 fi174 2 2 [] [0, 1, 5] (x174_2_0) L (f174_0_c l0 x231 x232) = f174_0_s c lf l0 (fun x231 x232 => L (f174_0_c l0 x231 x232)) x231 x232 := by kernel_rfl
def f174_0 (c : Orc) (lf : Nat) (l0 : List T) : Nat → Int → Int → Option (List T)
  | 0 => fun _ _ => none
  | n + 1 => fun x231 x232 => f174_0_s c lf l0 (f174_0 c lf l0 n) x231 x232
theorem f174_0_u (c : Orc) (lf : Nat) (l0 : List T) (n : Nat) (x231 : Int) (x232 : Int) : f174_0 c lf l0 (n + 1) x231 x232 = f174_0_s c lf l0 (f174_0 c lf l0 n) x231 x232 := rfl
theorem f174_0_eq (c : Orc) (lf : Nat) (l0 : List T) (n : Nat) (x231 : Int) (x232 : Int) :
    lpK c env lf 6 fi174 2 2 [] [0, 1, 5] (x174_2_0) n (f174_0_c l0 x231 x232) = f174_0 c lf l0 n x231 x232 := by
  induction n generalizing x231 x232 with
  | zero => rfl
  | succ n ih =>
    refine (f174_0_round c lf l0 _ x231 x232).trans ?_
    have e : (fun x231 x232 => lpK c env lf 6 fi174 2 2 [] [0, 1, 5] (x174_2_0) n (f174_0_c l0 x231 x232)) = f174_0 c lf l0 n := by funext x231 x232; exact ih x231 x232
    show f174_0_s c lf l0 (fun x231 x232 => lpK c env lf 6 fi174 2 2 [] [0, 1, 5] (x174_2_0) n (f174_0_c l0 x231 x232)) x231 x232 = _
    rw [e]; rfl
/-- loop.example/g00285/laws.heldInodeS -/
def f174_t (c : Orc) (lf : Nat) (lp0 : List T → Int → Int → Option (List T)) (l0 : List T) (n1 : Int) : Option (List T) :=
  (lp0 l0 n1 0).bind fun r236 =>
  bif asI (nth r236 0) == 0 then
    some [T.i .i64 (asI (nth r236 1))]
  else
    some [T.i .i64 (asI (nth r236 1))]
def f174 (c : Orc) (lf : Nat) (l0 : List T) (n1 : Int) : Option (List T) := f174_t c lf (fun (l0 : List T) (x231 : Int) (x232 : Int) => f174_0 c lf l0 lf x231 x232) l0 n1
theorem f174_raw (c : Orc) (lf : Nat) (l0 : List T) (n1 : Int) : funK c env lf 6 fi174 [.sl l0, .i .i64 n1] = f174_t c lf (fun (l0 : List T) (x231 : Int) (x232 : Int) => lpK c env lf 6 fi174 2 2 [] [0, 1, 5] (x174_2_0) lf (f174_0_c l0 x231 x232)) l0 n1 := by kernel_rfl
theorem f174_eq (c : Orc) (lf : Nat) (l0 : List T) (n1 : Int) : funK c env lf 6 fi174 [.sl l0, .i .i64 n1] = f174 c lf l0 n1 := by
  refine (f174_raw c lf l0 n1).trans ?_
  have e0 : (fun (l0 : List T) (x231 : Int) (x232 : Int) => lpK c env lf 6 fi174 2 2 [] [0, 1, 5] (x174_2_0) lf (f174_0_c l0 x231 x232)) = (fun (l0 : List T) (x231 : Int) (x232 : Int) => f174_0 c lf l0 lf x231 x232) := by funext l0 x231 x232; exact f174_0_eq c lf l0 lf x231 x232
  rw [e0]; rfl
/-- loop.example/g00285/laws.heldVolS, the loop at region 2. -/
def f119_0_s (c : Orc) (lf : Nat) (l0 : List T) (L : Int → Int → Option (List T)) (x246 : Int) (x247 : Int) : Option (List T) :=
  bif iLt x247 (l0.length : Int) then
    bif inR x247 l0.length then
    bif (asI (T.cell (l0.getD x247.toNat T.u) 0)) != x246 then
      some [T.i .i64 0, T.i .i64 (-1)]
    else
      bif inR x247 l0.length then
      (c 172 [T.i .i64 (IntKind.wrap .i64 (x246 + 1))]).bind fun r248 =>
      bif !((asS (T.cell (l0.getD x247.toNat T.u) 1)).toList == (asS (nth r248 0)).toList) then
        some [T.i .i64 0, T.i .i64 (-1)]
      else
        bif inR x247 l0.length then
        bif !((asB (T.cell (l0.getD x247.toNat T.u) 2)) == (((IntKind.wrap .i64 ((IntKind.wrap .i64 (x246 + 1)) + 1)).tmod 3) == 0)) then
          some [T.i .i64 0, T.i .i64 (-1)]
        else
          bif inR x247 l0.length then
          bif (asI (T.cell (l0.getD x247.toNat T.u) 3)) != (IntKind.wrap .i64 ((IntKind.wrap .i64 ((IntKind.wrap .i64 (x246 + 1)) + 1)) + 1)) then
            some [T.i .i64 0, T.i .i64 (-1)]
          else
            bif inR x247 l0.length then
            (c 174 [T.sl (asL (T.cell (l0.getD x247.toNat T.u) 4)), T.i .i64 (IntKind.wrap .i64 ((IntKind.wrap .i64 ((IntKind.wrap .i64 ((IntKind.wrap .i64 (x246 + 1)) + 1)) + 1)) + 1))]).bind fun r249 =>
            bif iLt (asI (nth r249 0)) 0 then
              some [T.i .i64 0, T.i .i64 (-1)]
            else
              bif inR x247 l0.length then
              bif (asI (T.cell (l0.getD x247.toNat T.u) 5)) != (asI (nth r249 0)) then
                some [T.i .i64 0, T.i .i64 (-1)]
              else
                L (IntKind.wrap .i64 ((asI (nth r249 0)) + 1)) (IntKind.wrap .i64 (x247 + 1))
              else none
            else none
          else none
        else none
      else none
    else none
  else
    some [T.i .i64 1, T.i .i64 x246]
def f119_0_c (l0 : List T) (x246 : Int) (x247 : Int) : CSt := ⟨[.ro 0 true [.i .i64, .s, .b, .i .i64, .sl true [.i .i64, .i .i64, .i .i64, .sl false [.i .u8], .sl true [.s, .i .i64], .sl true [.s, .s]], .i .i64] l0, .i .i64 x246, .i .i64 x247], [.dead, .dead]⟩
theorem f119_0_round (c : Orc) (lf : Nat) (l0 : List T) (L : CSt → Option (List T)) (x246 : Int) (x247 : Int) :
    roundK c env lf 6 fi119 2 2 [] [0, 1, 5] (x119_2_0) L (f119_0_c l0 x246 x247) = f119_0_s c lf l0 (fun x246 x247 => L (f119_0_c l0 x246 x247)) x246 x247 := by kernel_rfl
def f119_0 (c : Orc) (lf : Nat) (l0 : List T) : Nat → Int → Int → Option (List T)
  | 0 => fun _ _ => none
  | n + 1 => fun x246 x247 => f119_0_s c lf l0 (f119_0 c lf l0 n) x246 x247
theorem f119_0_u (c : Orc) (lf : Nat) (l0 : List T) (n : Nat) (x246 : Int) (x247 : Int) : f119_0 c lf l0 (n + 1) x246 x247 = f119_0_s c lf l0 (f119_0 c lf l0 n) x246 x247 := rfl
theorem f119_0_eq (c : Orc) (lf : Nat) (l0 : List T) (n : Nat) (x246 : Int) (x247 : Int) :
    lpK c env lf 6 fi119 2 2 [] [0, 1, 5] (x119_2_0) n (f119_0_c l0 x246 x247) = f119_0 c lf l0 n x246 x247 := by
  induction n generalizing x246 x247 with
  | zero => rfl
  | succ n ih =>
    refine (f119_0_round c lf l0 _ x246 x247).trans ?_
    have e : (fun x246 x247 => lpK c env lf 6 fi119 2 2 [] [0, 1, 5] (x119_2_0) n (f119_0_c l0 x246 x247)) = f119_0 c lf l0 n := by funext x246 x247; exact ih x246 x247
    show f119_0_s c lf l0 (fun x246 x247 => lpK c env lf 6 fi119 2 2 [] [0, 1, 5] (x119_2_0) n (f119_0_c l0 x246 x247)) x246 x247 = _
    rw [e]; rfl
/-- loop.example/g00285/laws.heldVolS -/
def f119_t (c : Orc) (lf : Nat) (lp0 : List T → Int → Int → Option (List T)) (l0 : List T) (n1 : Int) : Option (List T) :=
  (lp0 l0 n1 0).bind fun r250 =>
  bif asI (nth r250 0) == 0 then
    some [T.i .i64 (asI (nth r250 1))]
  else
    some [T.i .i64 (asI (nth r250 1))]
def f119 (c : Orc) (lf : Nat) (l0 : List T) (n1 : Int) : Option (List T) := f119_t c lf (fun (l0 : List T) (x246 : Int) (x247 : Int) => f119_0 c lf l0 lf x246 x247) l0 n1
theorem f119_raw (c : Orc) (lf : Nat) (l0 : List T) (n1 : Int) : funK c env lf 6 fi119 [.sl l0, .i .i64 n1] = f119_t c lf (fun (l0 : List T) (x246 : Int) (x247 : Int) => lpK c env lf 6 fi119 2 2 [] [0, 1, 5] (x119_2_0) lf (f119_0_c l0 x246 x247)) l0 n1 := by kernel_rfl
theorem f119_eq (c : Orc) (lf : Nat) (l0 : List T) (n1 : Int) : funK c env lf 6 fi119 [.sl l0, .i .i64 n1] = f119 c lf l0 n1 := by
  refine (f119_raw c lf l0 n1).trans ?_
  have e0 : (fun (l0 : List T) (x246 : Int) (x247 : Int) => lpK c env lf 6 fi119 2 2 [] [0, 1, 5] (x119_2_0) lf (f119_0_c l0 x246 x247)) = (fun (l0 : List T) (x246 : Int) (x247 : Int) => f119_0 c lf l0 lf x246 x247) := by funext l0 x246 x247; exact f119_0_eq c lf l0 lf x246 x247
  rw [e0]; rfl
/-- loop.example/g00285/laws.heldFs -/
def f66_t (c : Orc) (lf : Nat) (l0_0 : List T) (n0_1 : Int) (n1 : Int) : Option (List T) :=
  (c 119 [T.sl l0_0, T.i .i64 n1]).bind fun r251 =>
  bif iLt (asI (nth r251 0)) 0 then
    some [T.i .i64 (-1)]
  else
    some [T.i .i64 (asI (nth r251 0))]
def f66 (c : Orc) (lf : Nat) (l0_0 : List T) (n0_1 : Int) (n1 : Int) : Option (List T) := f66_t c lf l0_0 n0_1 n1
theorem f66_raw (c : Orc) (lf : Nat) (l0_0 : List T) (n0_1 : Int) (n1 : Int) : funK c env lf 6 fi66 [.st [.sl l0_0, .i .i64 n0_1], .i .i64 n1] = f66_t c lf l0_0 n0_1 n1 := by kernel_rfl
theorem f66_eq (c : Orc) (lf : Nat) (l0_0 : List T) (n0_1 : Int) (n1 : Int) : funK c env lf 6 fi66 [.st [.sl l0_0, .i .i64 n0_1], .i .i64 n1] = f66 c lf l0_0 n0_1 n1 := by
  refine (f66_raw c lf l0_0 n0_1 n1).trans ?_
  rfl
/-- loop.example/g00285/laws.heldRowS, the loop at region 2. -/
def f120_0_s (c : Orc) (lf : Nat) (l0 : List T) (L : Int → Int → Option (List T)) (x258 : Int) (x259 : Int) : Option (List T) :=
  bif iLt x259 (l0.length : Int) then
    bif inR x259 l0.length then
    bif (asI (T.cell (l0.getD x259.toNat T.u) 0)) != x258 then
      some [T.i .i64 0, T.i .i64 (-1)]
    else
      bif inR x259 l0.length then
      (c 172 [T.i .i64 (IntKind.wrap .i64 (x258 + 1))]).bind fun r260 =>
      bif !((asS (T.cell (l0.getD x259.toNat T.u) 1)).toList == (asS (nth r260 0)).toList) then
        some [T.i .i64 0, T.i .i64 (-1)]
      else
        bif inR x259 l0.length then
        bif !((asB (T.cell (l0.getD x259.toNat T.u) 2)) == (((IntKind.wrap .i64 ((IntKind.wrap .i64 (x258 + 1)) + 1)).tmod 3) == 0)) then
          some [T.i .i64 0, T.i .i64 (-1)]
        else
          bif inR x259 l0.length then
          bif (asI (T.cell (l0.getD x259.toNat T.u) 3)) != (IntKind.wrap .i64 ((IntKind.wrap .i64 ((IntKind.wrap .i64 (x258 + 1)) + 1)) + 1)) then
            some [T.i .i64 0, T.i .i64 (-1)]
          else
            bif inR x259 l0.length then
            bif (asI (T.cell (l0.getD x259.toNat T.u) 4)) != (IntKind.wrap .i64 ((IntKind.wrap .i64 ((IntKind.wrap .i64 ((IntKind.wrap .i64 (x258 + 1)) + 1)) + 1)) + 1)) then
              some [T.i .i64 0, T.i .i64 (-1)]
            else
              L (IntKind.wrap .i64 ((IntKind.wrap .i64 ((IntKind.wrap .i64 ((IntKind.wrap .i64 ((IntKind.wrap .i64 (x258 + 1)) + 1)) + 1)) + 1)) + 1)) (IntKind.wrap .i64 (x259 + 1))
            else none
          else none
        else none
      else none
    else none
  else
    some [T.i .i64 1, T.i .i64 x258]
def f120_0_c (l0 : List T) (x258 : Int) (x259 : Int) : CSt := ⟨[.ro 0 true [.i .i64, .s, .b, .i .i64, .i .i64] l0, .i .i64 x258, .i .i64 x259], [.dead, .dead]⟩
theorem f120_0_round (c : Orc) (lf : Nat) (l0 : List T) (L : CSt → Option (List T)) (x258 : Int) (x259 : Int) :
    roundK c env lf 6 fi120 2 2 [] [0, 1, 5] (x120_2_0) L (f120_0_c l0 x258 x259) = f120_0_s c lf l0 (fun x258 x259 => L (f120_0_c l0 x258 x259)) x258 x259 := by kernel_rfl
def f120_0 (c : Orc) (lf : Nat) (l0 : List T) : Nat → Int → Int → Option (List T)
  | 0 => fun _ _ => none
  | n + 1 => fun x258 x259 => f120_0_s c lf l0 (f120_0 c lf l0 n) x258 x259
theorem f120_0_u (c : Orc) (lf : Nat) (l0 : List T) (n : Nat) (x258 : Int) (x259 : Int) : f120_0 c lf l0 (n + 1) x258 x259 = f120_0_s c lf l0 (f120_0 c lf l0 n) x258 x259 := rfl
theorem f120_0_eq (c : Orc) (lf : Nat) (l0 : List T) (n : Nat) (x258 : Int) (x259 : Int) :
    lpK c env lf 6 fi120 2 2 [] [0, 1, 5] (x120_2_0) n (f120_0_c l0 x258 x259) = f120_0 c lf l0 n x258 x259 := by
  induction n generalizing x258 x259 with
  | zero => rfl
  | succ n ih =>
    refine (f120_0_round c lf l0 _ x258 x259).trans ?_
    have e : (fun x258 x259 => lpK c env lf 6 fi120 2 2 [] [0, 1, 5] (x120_2_0) n (f120_0_c l0 x258 x259)) = f120_0 c lf l0 n := by funext x258 x259; exact ih x258 x259
    show f120_0_s c lf l0 (fun x258 x259 => lpK c env lf 6 fi120 2 2 [] [0, 1, 5] (x120_2_0) n (f120_0_c l0 x258 x259)) x258 x259 = _
    rw [e]; rfl
/-- loop.example/g00285/laws.heldRowS -/
def f120_t (c : Orc) (lf : Nat) (lp0 : List T → Int → Int → Option (List T)) (l0 : List T) (n1 : Int) : Option (List T) :=
  (lp0 l0 n1 0).bind fun r261 =>
  bif asI (nth r261 0) == 0 then
    some [T.i .i64 (asI (nth r261 1))]
  else
    some [T.i .i64 (asI (nth r261 1))]
def f120 (c : Orc) (lf : Nat) (l0 : List T) (n1 : Int) : Option (List T) := f120_t c lf (fun (l0 : List T) (x258 : Int) (x259 : Int) => f120_0 c lf l0 lf x258 x259) l0 n1
theorem f120_raw (c : Orc) (lf : Nat) (l0 : List T) (n1 : Int) : funK c env lf 6 fi120 [.sl l0, .i .i64 n1] = f120_t c lf (fun (l0 : List T) (x258 : Int) (x259 : Int) => lpK c env lf 6 fi120 2 2 [] [0, 1, 5] (x120_2_0) lf (f120_0_c l0 x258 x259)) l0 n1 := by kernel_rfl
theorem f120_eq (c : Orc) (lf : Nat) (l0 : List T) (n1 : Int) : funK c env lf 6 fi120 [.sl l0, .i .i64 n1] = f120 c lf l0 n1 := by
  refine (f120_raw c lf l0 n1).trans ?_
  have e0 : (fun (l0 : List T) (x258 : Int) (x259 : Int) => lpK c env lf 6 fi120 2 2 [] [0, 1, 5] (x120_2_0) lf (f120_0_c l0 x258 x259)) = (fun (l0 : List T) (x258 : Int) (x259 : Int) => f120_0 c lf l0 lf x258 x259) := by funext l0 x258 x259; exact f120_0_eq c lf l0 lf x258 x259
  rw [e0]; rfl
/-- loop.example/g00285/laws.heldTable -/
def f67_t (c : Orc) (lf : Nat) (n0_0 : Int) (l0_1 : List T) (n1 : Int) : Option (List T) :=
  (c 120 [T.sl l0_1, T.i .i64 n1]).bind fun r262 =>
  bif iLt (asI (nth r262 0)) 0 then
    some [T.i .i64 (-1)]
  else
    some [T.i .i64 (asI (nth r262 0))]
def f67 (c : Orc) (lf : Nat) (n0_0 : Int) (l0_1 : List T) (n1 : Int) : Option (List T) := f67_t c lf n0_0 l0_1 n1
theorem f67_raw (c : Orc) (lf : Nat) (n0_0 : Int) (l0_1 : List T) (n1 : Int) : funK c env lf 6 fi67 [.st [.i .i64 n0_0, .sl l0_1], .i .i64 n1] = f67_t c lf n0_0 l0_1 n1 := by kernel_rfl
theorem f67_eq (c : Orc) (lf : Nat) (n0_0 : Int) (l0_1 : List T) (n1 : Int) : funK c env lf 6 fi67 [.st [.i .i64 n0_0, .sl l0_1], .i .i64 n1] = f67 c lf n0_0 l0_1 n1 := by
  refine (f67_raw c lf n0_0 l0_1 n1).trans ?_
  rfl
/-- loop.example/g00285/laws.heldPlaceS, the loop at region 2. -/
def f121_0_s (c : Orc) (lf : Nat) (l0 : List T) (L : Int → Int → Option (List T)) (x266 : Int) (x267 : Int) : Option (List T) :=
  bif iLt x267 (l0.length : Int) then
    bif inR x267 l0.length then
    bif (asI (T.cell (l0.getD x267.toNat T.u) 0)) != x266 then
      some [T.i .i64 0, T.i .i64 (-1)]
    else
      bif inR x267 l0.length then
      bif (asI (T.cell (l0.getD x267.toNat T.u) 1)) != (IntKind.wrap .i64 (x266 + 1)) then
        some [T.i .i64 0, T.i .i64 (-1)]
      else
        L (IntKind.wrap .i64 ((IntKind.wrap .i64 (x266 + 1)) + 1)) (IntKind.wrap .i64 (x267 + 1))
      else none
    else none
  else
    some [T.i .i64 1, T.i .i64 x266]
def f121_0_c (l0 : List T) (x266 : Int) (x267 : Int) : CSt := ⟨[.ro 0 true [.i .i64, .i .i64] l0, .i .i64 x266, .i .i64 x267], [.dead, .dead]⟩
theorem f121_0_round (c : Orc) (lf : Nat) (l0 : List T) (L : CSt → Option (List T)) (x266 : Int) (x267 : Int) :
    roundK c env lf 6 fi121 2 2 [] [0, 1, 5] (x121_2_0) L (f121_0_c l0 x266 x267) = f121_0_s c lf l0 (fun x266 x267 => L (f121_0_c l0 x266 x267)) x266 x267 := by kernel_rfl
def f121_0 (c : Orc) (lf : Nat) (l0 : List T) : Nat → Int → Int → Option (List T)
  | 0 => fun _ _ => none
  | n + 1 => fun x266 x267 => f121_0_s c lf l0 (f121_0 c lf l0 n) x266 x267
theorem f121_0_u (c : Orc) (lf : Nat) (l0 : List T) (n : Nat) (x266 : Int) (x267 : Int) : f121_0 c lf l0 (n + 1) x266 x267 = f121_0_s c lf l0 (f121_0 c lf l0 n) x266 x267 := rfl
theorem f121_0_eq (c : Orc) (lf : Nat) (l0 : List T) (n : Nat) (x266 : Int) (x267 : Int) :
    lpK c env lf 6 fi121 2 2 [] [0, 1, 5] (x121_2_0) n (f121_0_c l0 x266 x267) = f121_0 c lf l0 n x266 x267 := by
  induction n generalizing x266 x267 with
  | zero => rfl
  | succ n ih =>
    refine (f121_0_round c lf l0 _ x266 x267).trans ?_
    have e : (fun x266 x267 => lpK c env lf 6 fi121 2 2 [] [0, 1, 5] (x121_2_0) n (f121_0_c l0 x266 x267)) = f121_0 c lf l0 n := by funext x266 x267; exact ih x266 x267
    show f121_0_s c lf l0 (fun x266 x267 => lpK c env lf 6 fi121 2 2 [] [0, 1, 5] (x121_2_0) n (f121_0_c l0 x266 x267)) x266 x267 = _
    rw [e]; rfl
/-- loop.example/g00285/laws.heldPlaceS -/
def f121_t (c : Orc) (lf : Nat) (lp0 : List T → Int → Int → Option (List T)) (l0 : List T) (n1 : Int) : Option (List T) :=
  (lp0 l0 n1 0).bind fun r268 =>
  bif asI (nth r268 0) == 0 then
    some [T.i .i64 (asI (nth r268 1))]
  else
    some [T.i .i64 (asI (nth r268 1))]
def f121 (c : Orc) (lf : Nat) (l0 : List T) (n1 : Int) : Option (List T) := f121_t c lf (fun (l0 : List T) (x266 : Int) (x267 : Int) => f121_0 c lf l0 lf x266 x267) l0 n1
theorem f121_raw (c : Orc) (lf : Nat) (l0 : List T) (n1 : Int) : funK c env lf 6 fi121 [.sl l0, .i .i64 n1] = f121_t c lf (fun (l0 : List T) (x266 : Int) (x267 : Int) => lpK c env lf 6 fi121 2 2 [] [0, 1, 5] (x121_2_0) lf (f121_0_c l0 x266 x267)) l0 n1 := by kernel_rfl
theorem f121_eq (c : Orc) (lf : Nat) (l0 : List T) (n1 : Int) : funK c env lf 6 fi121 [.sl l0, .i .i64 n1] = f121 c lf l0 n1 := by
  refine (f121_raw c lf l0 n1).trans ?_
  have e0 : (fun (l0 : List T) (x266 : Int) (x267 : Int) => lpK c env lf 6 fi121 2 2 [] [0, 1, 5] (x121_2_0) lf (f121_0_c l0 x266 x267)) = (fun (l0 : List T) (x266 : Int) (x267 : Int) => f121_0 c lf l0 lf x266 x267) := by funext l0 x266 x267; exact f121_0_eq c lf l0 lf x266 x267
  rw [e0]; rfl
/-- loop.example/g00285/laws.heldMapS, the loop at region 2. -/
def f68_0_s (c : Orc) (lf : Nat) (l0 : List T) (L : Int → Int → Option (List T)) (x275 : Int) (x276 : Int) : Option (List T) :=
  bif iLt x276 (l0.length : Int) then
    bif inR x276 l0.length then
    bif (asI (T.cell (l0.getD x276.toNat T.u) 0)) != x275 then
      some [T.i .i64 0, T.i .i64 (-1)]
    else
      bif inR x276 l0.length then
      (c 121 [T.sl (asL (T.cell (l0.getD x276.toNat T.u) 1)), T.i .i64 (IntKind.wrap .i64 (x275 + 1))]).bind fun r277 =>
      bif iLt (asI (nth r277 0)) 0 then
        some [T.i .i64 0, T.i .i64 (-1)]
      else
        L (asI (nth r277 0)) (IntKind.wrap .i64 (x276 + 1))
      else none
    else none
  else
    some [T.i .i64 1, T.i .i64 x275]
def f68_0_c (l0 : List T) (x275 : Int) (x276 : Int) : CSt := ⟨[.ro 0 true [.i .i64, .sl true [.i .i64, .i .i64]] l0, .i .i64 x275, .i .i64 x276], [.dead, .dead]⟩
theorem f68_0_round (c : Orc) (lf : Nat) (l0 : List T) (L : CSt → Option (List T)) (x275 : Int) (x276 : Int) :
    roundK c env lf 6 fi68 2 2 [] [0, 1, 5] (x68_2_0) L (f68_0_c l0 x275 x276) = f68_0_s c lf l0 (fun x275 x276 => L (f68_0_c l0 x275 x276)) x275 x276 := by kernel_rfl
def f68_0 (c : Orc) (lf : Nat) (l0 : List T) : Nat → Int → Int → Option (List T)
  | 0 => fun _ _ => none
  | n + 1 => fun x275 x276 => f68_0_s c lf l0 (f68_0 c lf l0 n) x275 x276
theorem f68_0_u (c : Orc) (lf : Nat) (l0 : List T) (n : Nat) (x275 : Int) (x276 : Int) : f68_0 c lf l0 (n + 1) x275 x276 = f68_0_s c lf l0 (f68_0 c lf l0 n) x275 x276 := rfl
theorem f68_0_eq (c : Orc) (lf : Nat) (l0 : List T) (n : Nat) (x275 : Int) (x276 : Int) :
    lpK c env lf 6 fi68 2 2 [] [0, 1, 5] (x68_2_0) n (f68_0_c l0 x275 x276) = f68_0 c lf l0 n x275 x276 := by
  induction n generalizing x275 x276 with
  | zero => rfl
  | succ n ih =>
    refine (f68_0_round c lf l0 _ x275 x276).trans ?_
    have e : (fun x275 x276 => lpK c env lf 6 fi68 2 2 [] [0, 1, 5] (x68_2_0) n (f68_0_c l0 x275 x276)) = f68_0 c lf l0 n := by funext x275 x276; exact ih x275 x276
    show f68_0_s c lf l0 (fun x275 x276 => lpK c env lf 6 fi68 2 2 [] [0, 1, 5] (x68_2_0) n (f68_0_c l0 x275 x276)) x275 x276 = _
    rw [e]; rfl
/-- loop.example/g00285/laws.heldMapS -/
def f68_t (c : Orc) (lf : Nat) (lp0 : List T → Int → Int → Option (List T)) (l0 : List T) (n1 : Int) : Option (List T) :=
  (lp0 l0 n1 0).bind fun r278 =>
  bif asI (nth r278 0) == 0 then
    some [T.i .i64 (asI (nth r278 1))]
  else
    some [T.i .i64 (asI (nth r278 1))]
def f68 (c : Orc) (lf : Nat) (l0 : List T) (n1 : Int) : Option (List T) := f68_t c lf (fun (l0 : List T) (x275 : Int) (x276 : Int) => f68_0 c lf l0 lf x275 x276) l0 n1
theorem f68_raw (c : Orc) (lf : Nat) (l0 : List T) (n1 : Int) : funK c env lf 6 fi68 [.sl l0, .i .i64 n1] = f68_t c lf (fun (l0 : List T) (x275 : Int) (x276 : Int) => lpK c env lf 6 fi68 2 2 [] [0, 1, 5] (x68_2_0) lf (f68_0_c l0 x275 x276)) l0 n1 := by kernel_rfl
theorem f68_eq (c : Orc) (lf : Nat) (l0 : List T) (n1 : Int) : funK c env lf 6 fi68 [.sl l0, .i .i64 n1] = f68 c lf l0 n1 := by
  refine (f68_raw c lf l0 n1).trans ?_
  have e0 : (fun (l0 : List T) (x275 : Int) (x276 : Int) => lpK c env lf 6 fi68 2 2 [] [0, 1, 5] (x68_2_0) lf (f68_0_c l0 x275 x276)) = (fun (l0 : List T) (x275 : Int) (x276 : Int) => f68_0 c lf l0 lf x275 x276) := by funext l0 x275 x276; exact f68_0_eq c lf l0 lf x275 x276
  rw [e0]; rfl
/-- loop.example/g00285/laws.heldImage -/
def f17_t (c : Orc) (lf : Nat) (l0_0 : List T) (n0_1 : Int) (n0_2 : Int) (l0_3 : List T) (l0_4 : List T) (n0_5 : Int) (n0_6 : Int) (n1 : Int) : Option (List T) :=
  (c 66 [T.st [T.sl l0_0, T.i .i64 n0_1], T.i .i64 n1]).bind fun r279 =>
  bif iLt (asI (nth r279 0)) 0 then
    some [T.i .i64 (-1)]
  else
    (c 67 [T.st [T.i .i64 n0_2, T.sl l0_3], T.i .i64 (asI (nth r279 0))]).bind fun r280 =>
    bif iLt (asI (nth r280 0)) 0 then
      some [T.i .i64 (-1)]
    else
      (c 68 [T.sl l0_4, T.i .i64 (asI (nth r280 0))]).bind fun r281 =>
      bif iLt (asI (nth r281 0)) 0 then
        some [T.i .i64 (-1)]
      else
        some [T.i .i64 (asI (nth r281 0))]
def f17 (c : Orc) (lf : Nat) (l0_0 : List T) (n0_1 : Int) (n0_2 : Int) (l0_3 : List T) (l0_4 : List T) (n0_5 : Int) (n0_6 : Int) (n1 : Int) : Option (List T) := f17_t c lf l0_0 n0_1 n0_2 l0_3 l0_4 n0_5 n0_6 n1
theorem f17_raw (c : Orc) (lf : Nat) (l0_0 : List T) (n0_1 : Int) (n0_2 : Int) (l0_3 : List T) (l0_4 : List T) (n0_5 : Int) (n0_6 : Int) (n1 : Int) : funK c env lf 6 fi17 [.st [.sl l0_0, .i .i64 n0_1, .i .i64 n0_2, .sl l0_3, .sl l0_4, .i .i64 n0_5, .i .i64 n0_6], .i .i64 n1] = f17_t c lf l0_0 n0_1 n0_2 l0_3 l0_4 n0_5 n0_6 n1 := by kernel_rfl
theorem f17_eq (c : Orc) (lf : Nat) (l0_0 : List T) (n0_1 : Int) (n0_2 : Int) (l0_3 : List T) (l0_4 : List T) (n0_5 : Int) (n0_6 : Int) (n1 : Int) : funK c env lf 6 fi17 [.st [.sl l0_0, .i .i64 n0_1, .i .i64 n0_2, .sl l0_3, .sl l0_4, .i .i64 n0_5, .i .i64 n0_6], .i .i64 n1] = f17 c lf l0_0 n0_1 n0_2 l0_3 l0_4 n0_5 n0_6 n1 := by
  refine (f17_raw c lf l0_0 n0_1 n0_2 l0_3 l0_4 n0_5 n0_6 n1).trans ?_
  rfl
/-- loop.example/g00285/laws.FnExactImageNew -/
def f3_t (c : Orc) (lf : Nat) : Option (List T) :=
  (c 13 []).bind fun r282 =>
  (c 14 []).bind fun r283 =>
  (c 15 [T.st [T.sl (asL (T.cell (nth r283 0) 0)), T.i .i64 (asI (T.cell (nth r283 0) 1)), T.i .i64 (asI (T.cell (nth r283 0) 2)), T.sl (asL (T.cell (nth r283 0) 3)), T.sl (asL (T.cell (nth r283 0) 4)), T.i .i64 (asI (T.cell (nth r283 0) 5)), T.i .i64 (asI (T.cell (nth r283 0) 6))], T.st [T.sl (asL (T.cell (nth r282 0) 0)), T.i .i64 (asI (T.cell (nth r282 0) 1)), T.i .i64 (asI (T.cell (nth r282 0) 2)), T.sl (asL (T.cell (nth r282 0) 3)), T.sl (asL (T.cell (nth r282 0) 4)), T.i .i64 (asI (T.cell (nth r282 0) 5)), T.i .i64 (asI (T.cell (nth r282 0) 6))]]).bind fun r284 =>
  bif !(asB (nth r284 0)) then
    some [T.b false]
  else
    (c 16 [T.st [T.sl (asL (T.cell (nth r283 0) 0)), T.i .i64 (asI (T.cell (nth r283 0) 1)), T.i .i64 (asI (T.cell (nth r283 0) 2)), T.sl (asL (T.cell (nth r283 0) 3)), T.sl (asL (T.cell (nth r283 0) 4)), T.i .i64 (asI (T.cell (nth r283 0) 5)), T.i .i64 (asI (T.cell (nth r283 0) 6))], T.i .i64 1]).bind fun r285 =>
    (c 17 [T.st [T.sl (asL (nth r285 1)), T.i .i64 (asI (T.cell (nth r283 0) 1)), T.i .i64 (asI (T.cell (nth r283 0) 2)), T.sl (asL (nth r285 2)), T.sl (asL (nth r285 3)), T.i .i64 (asI (T.cell (nth r283 0) 5)), T.i .i64 (asI (T.cell (nth r283 0) 6))], T.i .i64 1]).bind fun r286 =>
    bif iLt (asI (nth r286 0)) 0 then
      some [T.b false]
    else
      bif (asI (nth r286 0)) != (asI (nth r285 0)) then
        some [T.b false]
      else
        (c 14 []).bind fun r287 =>
        (c 15 [T.st [T.sl (asL (T.cell (nth r287 0) 0)), T.i .i64 (asI (T.cell (nth r287 0) 1)), T.i .i64 (asI (T.cell (nth r287 0) 2)), T.sl (asL (T.cell (nth r287 0) 3)), T.sl (asL (T.cell (nth r287 0) 4)), T.i .i64 (asI (T.cell (nth r287 0) 5)), T.i .i64 (asI (T.cell (nth r287 0) 6))], T.st [T.sl (asL (T.cell (nth r282 0) 0)), T.i .i64 (asI (T.cell (nth r282 0) 1)), T.i .i64 (asI (T.cell (nth r282 0) 2)), T.sl (asL (T.cell (nth r282 0) 3)), T.sl (asL (T.cell (nth r282 0) 4)), T.i .i64 (asI (T.cell (nth r282 0) 5)), T.i .i64 (asI (T.cell (nth r282 0) 6))]]).bind fun r288 =>
        bif !(asB (nth r288 0)) then
          some [T.b false]
        else
          (c 17 [T.st [T.sl (asL (nth r285 1)), T.i .i64 (asI (T.cell (nth r283 0) 1)), T.i .i64 (asI (T.cell (nth r283 0) 2)), T.sl (asL (nth r285 2)), T.sl (asL (nth r285 3)), T.i .i64 (asI (T.cell (nth r283 0) 5)), T.i .i64 (asI (T.cell (nth r283 0) 6))], T.i .i64 1]).bind fun r289 =>
          bif iLt (asI (nth r289 0)) 0 then
            some [T.b false]
          else
            bif (asI (nth r289 0)) != (asI (nth r285 0)) then
              some [T.b false]
            else
              some [T.b true]
def f3 (c : Orc) (lf : Nat) : Option (List T) := f3_t c lf
theorem f3_raw (c : Orc) (lf : Nat) : funK c env lf 6 fi3 [] = f3_t c lf := by kernel_rfl
theorem f3_eq (c : Orc) (lf : Nat) : funK c env lf 6 fi3 [] = f3 c lf := by
  refine (f3_raw c lf).trans ?_
  rfl
end Go.Proofs.Ytdclnhlpifahpaa.T
