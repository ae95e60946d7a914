/- What functions of the law FnExactWrite come to, in trees; no condition. -/
import Derived.Test.YtdclnhlpifahpaaRows
import Derived.Test.YtdclnhlpifahpaaV4
import Derived.KernelRfl
set_option linter.unusedVariables false
set_option linter.constructorNameAsVariable false
set_option linter.unusedSimpArgs false
set_option linter.unnecessarySimpa false
namespace Go.Proofs.Ytdclnhlpifahpaa.T
open Go Go.Proofs.YtdclnhlpifahpaaV
def tyTab : List (Nat × Ti) := [
  (3, ⟨false, [.i .i64], .o⟩),
  (4, ⟨false, [.b], .o⟩),
  (5, ⟨false, [.i .u8], .o⟩),
  (9, ⟨false, [.s], .o⟩),
  (35, ⟨false, [.sl true [.sl true [.b, .sl false [.i .u8]], .i .i64, .b]], .sl 269⟩),
  (37, ⟨true, [.sl true [.sl true [.b, .sl false [.i .u8]], .i .i64, .b]], .st [(0, 35)]⟩),
  (38, ⟨false, [.sl true [.i .i64, .i .i64, .i .i64]], .sl 221⟩),
  (40, ⟨true, [.sl true [.sl true [.b, .sl false [.i .u8]], .i .i64, .b], .i .i64, .sl true [.i .i64, .i .i64, .i .i64], .b], .st [(0, 37), (1, 3), (2, 38), (3, 4)]⟩),
  (42, ⟨true, [.sl true [.sl true [.b, .sl false [.i .u8]], .i .i64, .b], .i .i64, .sl true [.i .i64, .i .i64, .i .i64], .b, .i .i64], .st [(0, 40), (4, 3)]⟩),
  (45, ⟨false, [.sl true [.sl true [.b, .sl false [.i .u8]], .i .i64, .b]], .sl 137⟩),
  (47, ⟨true, [.sl true [.sl true [.b, .sl false [.i .u8]], .i .i64, .b]], .st [(0, 45)]⟩),
  (48, ⟨false, [.sl true [.i .i64, .i .i64, .i .i64]], .sl 76⟩),
  (50, ⟨true, [.sl true [.sl true [.b, .sl false [.i .u8]], .i .i64, .b], .i .i64, .sl true [.i .i64, .i .i64, .i .i64], .b], .st [(0, 47), (1, 3), (2, 48), (3, 4)]⟩),
  (52, ⟨true, [.sl true [.sl true [.b, .sl false [.i .u8]], .i .i64, .b], .i .i64, .sl true [.i .i64, .i .i64, .i .i64], .b, .i .i64], .st [(0, 50), (4, 3)]⟩),
  (56, ⟨false, [.sl false [.i .u8]], .sl 5⟩),
  (58, ⟨true, [.i .i64, .i .i64, .sl false [.i .u8]], .st [(0, 3), (1, 3), (2, 56)]⟩),
  (76, ⟨true, [.i .i64, .i .i64, .i .i64], .st [(0, 3), (1, 3), (2, 3)]⟩),
  (135, ⟨false, [.sl true [.b, .sl false [.i .u8]]], .sl 142⟩),
  (137, ⟨true, [.sl true [.b, .sl false [.i .u8]], .i .i64, .b], .st [(0, 135), (1, 3), (2, 4)]⟩),
  (142, ⟨true, [.b, .sl false [.i .u8]], .st [(0, 4), (1, 56)]⟩),
  (172, ⟨false, [.i .u64], .o⟩),
  (190, ⟨false, [.o], .o⟩),
  (221, ⟨true, [.i .i64, .i .i64, .i .i64], .st [(0, 3), (1, 3), (2, 3)]⟩),
  (237, ⟨false, [.i .u32], .o⟩),
  (267, ⟨false, [.sl true [.b, .sl false [.i .u8]]], .sl 299⟩),
  (269, ⟨true, [.sl true [.b, .sl false [.i .u8]], .i .i64, .b], .st [(0, 267), (1, 3), (2, 4)]⟩),
  (299, ⟨true, [.b, .sl false [.i .u8]], .st [(0, 4), (1, 56)]⟩)]
noncomputable def fi259 : Fi := ⟨Try.f259, [], false, [.ro (.sl false [.i .u8]), .v (.i .i64)], [.v (.i .i64)]⟩
noncomputable def fi252 : Fi := ⟨Try.f252, [], false, [.ag [.v (.b), .ro (.sl false [.i .u8])], .v (.i .i64)], [.v (.i .i64)]⟩
def x242_5_0 : List (Ex × List Nat × CSt) := [(.ret, [4], ⟨[.i .i64 0], [.dead, .dead]⟩), ((.ex 0), [1], ⟨[.i .i64 0], [.dead, .dead]⟩)]
noncomputable def fi242 : Fi := ⟨Try.f242, [⟨5, [0, 1, 5], [], [(⟨[.ro 0 true [.b, .sl false [.i .u8]] [], .i .i64 0, .i .i64 0], [.dead, .dead]⟩, x242_5_0)]⟩], false, [.ro (.sl true [.b, .sl false [.i .u8]]), .v (.i .i64)], [.v (.i .i64)]⟩
noncomputable def fi219 : Fi := ⟨Try.f219, [], false, [.ag [.ro (.sl true [.b, .sl false [.i .u8]]), .v (.i .i64), .v (.b)], .v (.i .i64)], [.v (.i .i64)]⟩
def x175_5_0 : List (Ex × List Nat × CSt) := [(.ret, [4], ⟨[.i .i64 0], [.dead, .dead]⟩), ((.ex 0), [1], ⟨[.i .i64 0], [.dead, .dead]⟩)]
noncomputable def fi175 : Fi := ⟨Try.f175, [⟨5, [0, 1, 5], [], [(⟨[.ro 0 true [.sl true [.b, .sl false [.i .u8]], .i .i64, .b] [], .i .i64 0, .i .i64 0], [.dead, .dead]⟩, x175_5_0)]⟩], false, [.ro (.sl true [.sl true [.b, .sl false [.i .u8]], .i .i64, .b]), .v (.i .i64)], [.v (.i .i64)]⟩
noncomputable def fi122 : Fi := ⟨Try.f122, [], false, [.ag [.ro (.sl true [.sl true [.b, .sl false [.i .u8]], .i .i64, .b])], .v (.i .i64)], [.v (.i .i64)]⟩
noncomputable def fi123 : Fi := ⟨Try.f123, [], false, [.ro (.sl true [.i .i64, .i .i64, .i .i64]), .v (.i .i64)], [.v (.i .i64)]⟩
noncomputable def fi69 : Fi := ⟨Try.f69, [], false, [.ag [.ro (.sl true [.sl true [.b, .sl false [.i .u8]], .i .i64, .b]), .v (.i .i64), .ro (.sl true [.i .i64, .i .i64, .i .i64]), .v (.b)], .v (.i .i64)], [.v (.i .i64)]⟩
noncomputable def fi18 : Fi := ⟨Try.f18, [], false, [.ag [.ro (.sl true [.sl true [.b, .sl false [.i .u8]], .i .i64, .b]), .v (.i .i64), .ro (.sl true [.i .i64, .i .i64, .i .i64]), .v (.b), .v (.i .i64)], .v (.i .i64)], [.v (.i .i64)]⟩
def x47_3_0 : List (Ex × List Nat × CSt) := [((.ex 0), [3], ⟨[.rf 1 [] 0 none], [.dead, .row false [.i .u8] [] 0 false]⟩)]
noncomputable def fi47 : Fi := ⟨Try.f47, [⟨3, [0, 3, 4], [], [(⟨[.ro 0 false [.i .u8] [], .rf 1 [] 0 none, .i .i64 0], [.dead, .row false [.i .u8] [] 0 false]⟩, x47_3_0)]⟩], false, [.ro (.sl false [.i .u8])], [.ow (.sl false [.i .u8])]⟩
noncomputable def fi253 : Fi := ⟨Try.f253, [], false, [.ag [.v (.b), .ro (.sl false [.i .u8])]], [.ag [.v (.b), .ow (.sl false [.i .u8])]]⟩
def x243_3_0 : List (Ex × List Nat × CSt) := [((.ex 0), [3], ⟨[.rf 1 [] 0 none], [.dead, .row true [.b, .sl false [.i .u8]] [] 0 false]⟩)]
noncomputable def fi243 : Fi := ⟨Try.f243, [⟨3, [0, 3, 4], [], [(⟨[.ro 0 true [.b, .sl false [.i .u8]] [], .rf 1 [] 0 none, .i .i64 0], [.dead, .row true [.b, .sl false [.i .u8]] [] 0 false]⟩, x243_3_0)]⟩], false, [.ro (.sl true [.b, .sl false [.i .u8]])], [.ow (.sl true [.b, .sl false [.i .u8]])]⟩
noncomputable def fi220 : Fi := ⟨Try.f220, [], false, [.ag [.ro (.sl true [.b, .sl false [.i .u8]]), .v (.i .i64), .v (.b)]], [.ag [.ow (.sl true [.b, .sl false [.i .u8]]), .v (.i .i64), .v (.b)]]⟩
def x177_3_0 : List (Ex × List Nat × CSt) := [((.ex 0), [3], ⟨[.rf 1 [] 0 none], [.dead, .row true [.sl true [.b, .sl false [.i .u8]], .i .i64, .b] [] 0 false]⟩)]
noncomputable def fi177 : Fi := ⟨Try.f177, [⟨3, [0, 3, 4], [], [(⟨[.ro 0 true [.sl true [.b, .sl false [.i .u8]], .i .i64, .b] [], .rf 1 [] 0 none, .i .i64 0], [.dead, .row true [.sl true [.b, .sl false [.i .u8]], .i .i64, .b] [] 0 false]⟩, x177_3_0)]⟩], false, [.ro (.sl true [.sl true [.b, .sl false [.i .u8]], .i .i64, .b])], [.ow (.sl true [.sl true [.b, .sl false [.i .u8]], .i .i64, .b])]⟩
noncomputable def fi126 : Fi := ⟨Try.f126, [], false, [.ag [.ro (.sl true [.sl true [.b, .sl false [.i .u8]], .i .i64, .b])]], [.ag [.ow (.sl true [.sl true [.b, .sl false [.i .u8]], .i .i64, .b])]]⟩
noncomputable def fi178 : Fi := ⟨Try.f178, [], false, [.ag [.v (.i .i64), .v (.i .i64), .v (.i .i64)]], [.ag [.v (.i .i64), .v (.i .i64), .v (.i .i64)]]⟩
def x127_3_0 : List (Ex × List Nat × CSt) := [((.ex 0), [3], ⟨[.rf 1 [] 0 none], [.dead, .row true [.i .i64, .i .i64, .i .i64] [] 0 false]⟩)]
noncomputable def fi127 : Fi := ⟨Try.f127, [⟨3, [0, 3, 4], [], [(⟨[.ro 0 true [.i .i64, .i .i64, .i .i64] [], .rf 1 [] 0 none, .i .i64 0], [.dead, .row true [.i .i64, .i .i64, .i .i64] [] 0 false]⟩, x127_3_0)]⟩], false, [.ro (.sl true [.i .i64, .i .i64, .i .i64])], [.ow (.sl true [.i .i64, .i .i64, .i .i64])]⟩
noncomputable def fi73 : Fi := ⟨Try.f73, [], false, [.ag [.ro (.sl true [.sl true [.b, .sl false [.i .u8]], .i .i64, .b]), .v (.i .i64), .ro (.sl true [.i .i64, .i .i64, .i .i64]), .v (.b)]], [.ag [.ow (.sl true [.sl true [.b, .sl false [.i .u8]], .i .i64, .b]), .v (.i .i64), .ow (.sl true [.i .i64, .i .i64, .i .i64]), .v (.b)]]⟩
noncomputable def fi20 : Fi := ⟨Try.f20, [], false, [.ag [.ro (.sl true [.sl true [.b, .sl false [.i .u8]], .i .i64, .b]), .v (.i .i64), .ro (.sl true [.i .i64, .i .i64, .i .i64]), .v (.b), .v (.i .i64)]], [.ag [.ow (.sl true [.sl true [.b, .sl false [.i .u8]], .i .i64, .b]), .v (.i .i64), .ow (.sl true [.i .i64, .i .i64, .i .i64]), .v (.b), .v (.i .i64)]]⟩
def x228_3_0 : List (Ex × List Nat × CSt) := [((.ex 0), [2, 3], ⟨[.bp 3 0, .bp 5 0], [.dead, .dead, .dead, .box [.rf 4 [] 0 none, .i .i64 0, .b false], .row true [.b, .sl false [.i .u8]] [] 0 false, .box [.rf 6 [] 0 none, .i .i64 0, .b false], .row true [.b, .sl false [.i .u8]] [] 0 false]⟩)]
noncomputable def fi228 : Fi := ⟨Try.f228, [⟨3, [1, 2, 3, 4], [], [(⟨[.bp 3 0, .bp 4 0, .bp 6 0, .i .i64 0], [.dead, .dead, .dead, .box [.ro 0 true [.b, .sl false [.i .u8]] [], .i .i64 0, .b false], .box [.rf 5 [] 0 none, .i .i64 0, .b false], .row true [.b, .sl false [.i .u8]] [] 0 false, .box [.rf 7 [] 0 none, .i .i64 0, .b false], .row true [.b, .sl false [.i .u8]] [] 0 false]⟩, x228_3_0)]⟩], false, [.ag [.ro (.sl true [.b, .sl false [.i .u8]]), .v (.i .i64), .v (.b)]], [.ag [.ow (.sl true [.b, .sl false [.i .u8]]), .v (.i .i64), .v (.b)]]⟩
def x194_3_0 : List (Ex × List Nat × CSt) := [((.ex 0), [2, 3], ⟨[.bp 1 0, .bp 3 0], [.dead, .box [.rf 2 [] 0 none], .row true [.sl true [.b, .sl false [.i .u8]], .i .i64, .b] [] 0 false, .box [.rf 4 [] 0 none], .row true [.sl true [.b, .sl false [.i .u8]], .i .i64, .b] [] 0 false]⟩)]
noncomputable def fi194 : Fi := ⟨Try.f194, [⟨3, [1, 2, 3, 4], [], [(⟨[.bp 1 0, .bp 2 0, .bp 4 0, .i .i64 0], [.dead, .box [.ro 0 true [.sl true [.b, .sl false [.i .u8]], .i .i64, .b] []], .box [.rf 3 [] 0 none], .row true [.sl true [.b, .sl false [.i .u8]], .i .i64, .b] [] 0 false, .box [.rf 5 [] 0 none], .row true [.sl true [.b, .sl false [.i .u8]], .i .i64, .b] [] 0 false]⟩, x194_3_0)]⟩], false, [.ag [.ro (.sl true [.sl true [.b, .sl false [.i .u8]], .i .i64, .b])]], [.ag [.ow (.sl true [.sl true [.b, .sl false [.i .u8]], .i .i64, .b])]]⟩
noncomputable def fi152 : Fi := ⟨Try.f152, [], false, [.ag [.ro (.sl true [.sl true [.b, .sl false [.i .u8]], .i .i64, .b]), .v (.i .i64), .ro (.sl true [.i .i64, .i .i64, .i .i64]), .v (.b)]], [.ag [.ow (.sl true [.sl true [.b, .sl false [.i .u8]], .i .i64, .b]), .v (.i .i64), .ow (.sl true [.i .i64, .i .i64, .i .i64]), .v (.b)]]⟩
noncomputable def fi102 : Fi := ⟨Try.f102, [], false, [.ag [.ro (.sl true [.sl true [.b, .sl false [.i .u8]], .i .i64, .b]), .v (.i .i64), .ro (.sl true [.i .i64, .i .i64, .i .i64]), .v (.b), .v (.i .i64)]], [.ag [.ow (.sl true [.sl true [.b, .sl false [.i .u8]], .i .i64, .b]), .v (.i .i64), .ow (.sl true [.i .i64, .i .i64, .i .i64]), .v (.b), .v (.i .i64)]]⟩
noncomputable def fi71 : Fi := ⟨Try.f71, [], false, [.v (.i .i64), .v (.i .i64), .v (.i .i64)], [.v (.b)]⟩
def x176_4_0 : List (Ex × List Nat × CSt) := [(.ret, [2], ⟨[.b false], [.dead, .dead, .dead]⟩), ((.ex 0), [], ⟨[], [.dead, .dead, .dead]⟩)]
noncomputable def fi176 : Fi := ⟨Try.f176, [⟨4, [1, 3], [], [(⟨[.bp 3 0, .i .i64 0], [.dead, .dead, .dead, .box [.ro 0 true [.b, .sl false [.i .u8]] [], .i .i64 0, .b false]]⟩, x176_4_0)]⟩], false, [.ag [.ro (.sl true [.b, .sl false [.i .u8]]), .v (.i .i64), .v (.b)]], [.v (.b)]⟩
def x124_2_0 : List (Ex × List Nat × CSt) := [(.ret, [2], ⟨[.b false], [.dead]⟩), ((.ex 0), [1], ⟨[.bp 1 0], [.dead, .box [.ro 0 true [.sl true [.b, .sl false [.i .u8]], .i .i64, .b] []]]⟩)]
noncomputable def fi124 : Fi := ⟨Try.f124, [⟨2, [1, 3], [], [(⟨[.bp 1 0, .i .i64 0], [.dead, .box [.ro 0 true [.sl true [.b, .sl false [.i .u8]], .i .i64, .b] []]]⟩, x124_2_0)]⟩], false, [.ag [.ro (.sl true [.sl true [.b, .sl false [.i .u8]], .i .i64, .b])]], [.v (.b)]⟩
def x125_2_0 : List (Ex × List Nat × CSt) := [(.ret, [2], ⟨[.b false], [.dead]⟩), ((.ex 0), [0], ⟨[.ro 0 true [.i .i64, .i .i64, .i .i64] []], [.dead]⟩)]
noncomputable def fi125 : Fi := ⟨Try.f125, [⟨2, [0, 3], [], [(⟨[.ro 0 true [.i .i64, .i .i64, .i .i64] [], .i .i64 0], [.dead]⟩, x125_2_0)]⟩], false, [.ro (.sl true [.i .i64, .i .i64, .i .i64])], [.v (.b)]⟩
noncomputable def fi70 : Fi := ⟨Try.f70, [], false, [.ag [.ro (.sl true [.sl true [.b, .sl false [.i .u8]], .i .i64, .b]), .v (.i .i64), .ro (.sl true [.i .i64, .i .i64, .i .i64]), .v (.b)]], [.v (.b)]⟩
noncomputable def fi103 : Fi := ⟨Try.f103, [], false, [.ag [.v (.i .i64), .v (.i .i64), .ro (.sl false [.i .u8])]], [.v (.b)]⟩
def x196_6_0 : List (Ex × List Nat × CSt) := [((.ex 0), [1, 5], ⟨[.i .i64 0, .rf 2 [] 0 none], [.dead, .dead, .row false [.i .u8] [] 0 false]⟩)]
noncomputable def fi196 : Fi := ⟨Try.f196, [⟨6, [1, 5], [], [(⟨[.i .i64 0, .rf 2 [] 0 none], [.dead, .dead, .row false [.i .u8] [] 0 false]⟩, x196_6_0)]⟩], false, [.ro (.sl false [.i .u8]), .v (.i .i64)], [.ow (.sl false [.i .u8])]⟩
noncomputable def fi195 : Fi := ⟨Try.f195, [], false, [.ro (.sl false [.i .u8]), .v (.s)], [.ow (.sl false [.i .u8])]⟩
def x133_3_0 : List (Ex × List Nat × CSt) := [((.ex 0), [3], ⟨[.i .i64 0], [.dead]⟩)]
def x133_7_0 : List (Ex × List Nat × CSt) := [((.ex 2), [0, 3, 4], ⟨[.ro 0 false [.i .u8] [], .i .i64 0, .i .i64 0], [.dead]⟩)]
noncomputable def fi133 : Fi := ⟨Try.f133, [⟨3, [0, 3, 4], [], [(⟨[.ro 0 false [.i .u8] [], .i .i64 0, .i .i64 0], [.dead]⟩, x133_3_0)]⟩, ⟨7, [0, 3, 4, 5], [], [(⟨[.ro 0 false [.i .u8] [], .i .i64 0, .i .i64 0, .i .i64 0], [.dead]⟩, x133_7_0)]⟩], false, [.ro (.sl false [.i .u8])], [.v (.i .i64)]⟩
noncomputable def fi153 : Fi := ⟨Try.f153, [], false, [.ag [.v (.i .i64), .v (.i .i64), .ro (.sl false [.i .u8])]], [.ow (.sl false [.i .u8])]⟩
def x197_3_0 : List (Ex × List Nat × CSt) := [((.ex 0), [3], ⟨[.i .i64 0], [.dead, .dead, .dead]⟩)]
noncomputable def fi197 : Fi := ⟨Try.f197, [⟨3, [1, 3, 4], [], [(⟨[.bp 3 0, .i .i64 0, .i .i64 0], [.dead, .dead, .dead, .box [.ro 0 true [.b, .sl false [.i .u8]] [], .i .i64 0, .b false]]⟩, x197_3_0)]⟩], false, [.ag [.ro (.sl true [.b, .sl false [.i .u8]]), .v (.i .i64), .v (.b)]], [.v (.i .i64)]⟩
def x198_3_0 : List (Ex × List Nat × CSt) := [((.ex 0), [3], ⟨[.i .i64 0], [.dead, .dead, .dead, .dead, .dead]⟩)]
noncomputable def fi198 : Fi := ⟨Try.f198, [⟨3, [1, 3, 4], [], [(⟨[.bp 5 0, .i .i64 0, .i .i64 0], [.dead, .dead, .dead, .dead, .dead, .box [.ro 0 true [.sl true [.b, .sl false [.i .u8]], .i .i64, .b] [], .i .i64 0, .ro 0 true [.i .i64, .i .i64, .i .i64] [], .b false, .i .i64 0]]⟩, x198_3_0)]⟩], false, [.ag [.ro (.sl true [.sl true [.b, .sl false [.i .u8]], .i .i64, .b]), .v (.i .i64), .ro (.sl true [.i .i64, .i .i64, .i .i64]), .v (.b), .v (.i .i64)]], [.v (.i .i64)]⟩
def x154_3_0 : List (Ex × List Nat × CSt) := [(.ret, [4], ⟨[.i .i64 0], [.dead, .dead, .dead, .dead, .dead, .dead]⟩), ((.ex 0), [1, 2, 5], ⟨[.i .i64 0, .bp 6 0, .i .i64 0], [.dead, .dead, .dead, .dead, .dead, .dead, .box [.ro 0 true [.sl true [.b, .sl false [.i .u8]], .i .i64, .b] [], .i .i64 0, .ro 0 true [.i .i64, .i .i64, .i .i64] [], .b false, .i .i64 0]]⟩)]
noncomputable def fi154 : Fi := ⟨Try.f154, [⟨3, [1, 2, 5, 6], [], [(⟨[.i .i64 0, .bp 6 0, .i .i64 0, .i .i64 0], [.dead, .dead, .dead, .dead, .dead, .dead, .box [.ro 0 true [.sl true [.b, .sl false [.i .u8]], .i .i64, .b] [], .i .i64 0, .ro 0 true [.i .i64, .i .i64, .i .i64] [], .b false, .i .i64 0]]⟩, x154_3_0)]⟩], false, [.ag [.ro (.sl true [.sl true [.b, .sl false [.i .u8]], .i .i64, .b]), .v (.i .i64), .ro (.sl true [.i .i64, .i .i64, .i .i64]), .v (.b), .v (.i .i64)], .v (.i .i64)], [.v (.i .i64)]⟩
noncomputable def fi155 : Fi := ⟨Try.f155, [], false, [.ag [.ro (.sl true [.sl true [.b, .sl false [.i .u8]], .i .i64, .b])], .v (.i .i64)], [.v (.i .i64)]⟩
noncomputable def fi229 : Fi := ⟨Try.f229, [], false, [.ag [.ro (.sl true [.sl true [.b, .sl false [.i .u8]], .i .i64, .b])], .v (.i .i64), .v (.b)], [.v (.i .i64)]⟩
noncomputable def fi200 : Fi := ⟨Try.f200, [], false, [.ag [.ro (.sl true [.sl true [.b, .sl false [.i .u8]], .i .i64, .b])], .v (.i .i64), .ro (.sl false [.i .u8])], [.v (.i .i64)]⟩
noncomputable def fi199 : Fi := ⟨Try.f199, [], false, [.ag [.ro (.sl true [.sl true [.b, .sl false [.i .u8]], .i .i64, .b]), .v (.i .i64), .ro (.sl true [.i .i64, .i .i64, .i .i64]), .v (.b)], .v (.i .i64)], [.v (.i .i64)]⟩
def x201_2_0 : List (Ex × List Nat × CSt) := [(.ret, [2, 3], ⟨[.bp 4 0, .b false], [.dead, .dead, .dead, .dead, .box [.i .i64 0, .i .i64 0, .i .i64 0]]⟩), ((.ex 0), [2], ⟨[.bp 4 0], [.dead, .dead, .dead, .dead, .box [.i .i64 0, .i .i64 0, .i .i64 0]]⟩)]
noncomputable def fi201 : Fi := ⟨Try.f201, [⟨2, [1, 2, 4], [], [(⟨[.bp 4 0, .bp 5 0, .i .i64 0], [.dead, .dead, .dead, .dead, .box [.ro 0 true [.sl true [.b, .sl false [.i .u8]], .i .i64, .b] [], .i .i64 0, .ro 0 true [.i .i64, .i .i64, .i .i64] [], .b false], .box [.i .i64 0, .i .i64 0, .i .i64 0]]⟩, x201_2_0)]⟩], false, [.ag [.ro (.sl true [.sl true [.b, .sl false [.i .u8]], .i .i64, .b]), .v (.i .i64), .ro (.sl true [.i .i64, .i .i64, .i .i64]), .v (.b)]], [.ag [.v (.i .i64), .v (.i .i64), .v (.i .i64)], .v (.b)]⟩
noncomputable def fi202 : Fi := ⟨Try.f202, [], false, [.ag [.ro (.sl true [.sl true [.b, .sl false [.i .u8]], .i .i64, .b])], .v (.i .i64), .ro (.sl false [.i .u8])], [.ag [.ow (.sl true [.sl true [.b, .sl false [.i .u8]], .i .i64, .b])], .v (.i .i64)]⟩
noncomputable def fi156 : Fi := ⟨Try.f156, [], false, [.ag [.ro (.sl true [.sl true [.b, .sl false [.i .u8]], .i .i64, .b]), .v (.i .i64), .ro (.sl true [.i .i64, .i .i64, .i .i64]), .v (.b)], .v (.i .i64), .ro (.sl false [.i .u8])], [.ag [.ow (.sl true [.sl true [.b, .sl false [.i .u8]], .i .i64, .b]), .v (.i .i64), .ow (.sl true [.i .i64, .i .i64, .i .i64]), .v (.b)], .v (.i .i64)]⟩
def x104_3_0 : List (Ex × List Nat × CSt) := [(.ret, [8, 9, 10], ⟨[.bp 8 0, .i .i64 0, .i .i64 0], [.dead, .dead, .dead, .dead, .dead, .dead, .dead, .dead, .box [.rf 9 [] 0 none, .i .i64 0, .rf 10 [] 0 none, .b false, .i .i64 0], .row true [.sl true [.b, .sl false [.i .u8]], .i .i64, .b] [] 0 false, .row true [.i .i64, .i .i64, .i .i64] [] 0 false]⟩), ((.ex 0), [4, 8], ⟨[.bp 8 0, .bp 11 0], [.dead, .dead, .dead, .dead, .dead, .dead, .dead, .dead, .box [.rf 9 [] 0 none, .i .i64 0, .rf 10 [] 0 none, .b false, .i .i64 0], .row true [.sl true [.b, .sl false [.i .u8]], .i .i64, .b] [] 0 false, .row true [.i .i64, .i .i64, .i .i64] [] 0 false, .box [.rf 12 [] 0 none, .i .i64 0, .rf 13 [] 0 none, .b false, .i .i64 0], .row true [.sl true [.b, .sl false [.i .u8]], .i .i64, .b] [] 0 false, .row true [.i .i64, .i .i64, .i .i64] [] 0 false]⟩)]
noncomputable def fi104 : Fi := ⟨Try.f104, [⟨3, [3, 4, 8, 11, 12], [], [(⟨[.i .i64 0, .bp 8 0, .bp 11 0, .rf 14 [] 0 none, .i .i64 0], [.dead, .dead, .dead, .dead, .dead, .dead, .dead, .dead, .box [.rf 9 [] 0 none, .i .i64 0, .rf 10 [] 0 none, .b false, .i .i64 0], .row true [.sl true [.b, .sl false [.i .u8]], .i .i64, .b] [] 0 false, .row true [.i .i64, .i .i64, .i .i64] [] 0 false, .box [.rf 12 [] 0 none, .i .i64 0, .rf 13 [] 0 none, .b false, .i .i64 0], .row true [.sl true [.b, .sl false [.i .u8]], .i .i64, .b] [] 0 false, .row true [.i .i64, .i .i64, .i .i64] [] 0 false, .row false [.i .u8] [] 0 false]⟩, x104_3_0)]⟩], false, [.ag [.mv (.sl true [.sl true [.b, .sl false [.i .u8]], .i .i64, .b]), .v (.i .i64), .mv (.sl true [.i .i64, .i .i64, .i .i64]), .v (.b), .v (.i .i64)], .v (.i .i64), .ro (.sl false [.i .u8]), .v (.i .i64)], [.ag [.ow (.sl true [.sl true [.b, .sl false [.i .u8]], .i .i64, .b]), .v (.i .i64), .ow (.sl true [.i .i64, .i .i64, .i .i64]), .v (.b), .v (.i .i64)], .v (.i .i64), .v (.i .i64)]⟩
noncomputable def fi46 : Fi := ⟨Try.f46, [], false, [.ag [.ro (.sl true [.sl true [.b, .sl false [.i .u8]], .i .i64, .b]), .v (.i .i64), .ro (.sl true [.i .i64, .i .i64, .i .i64]), .v (.b), .v (.i .i64)], .v (.i .i64), .ro (.sl false [.i .u8]), .v (.i .i64)], [.ag [.ow (.sl true [.sl true [.b, .sl false [.i .u8]], .i .i64, .b]), .v (.i .i64), .ow (.sl true [.i .i64, .i .i64, .i .i64]), .v (.b), .v (.i .i64)], .v (.i .i64), .v (.i .i64)]⟩
noncomputable def fi147 : Fi := ⟨Try.f147, [], false, [.ro (.sl false [.i .u8])], [.ow (.sl false [.i .u8])]⟩
def x141_3_0 : List (Ex × List Nat × CSt) := [((.ex 0), [2, 3], ⟨[.bp 1 0, .bp 3 0], [.dead, .box [.rf 2 [] 0 none], .row true [.sl true [.b, .sl false [.i .u8]], .i .i64, .b] [] 0 false, .box [.rf 4 [] 0 none], .row true [.sl true [.b, .sl false [.i .u8]], .i .i64, .b] [] 0 false]⟩)]
def x141_7_0 : List (Ex × List Nat × CSt) := [((.ex 2), [2, 3, 5, 6, 11, 12, 13], ⟨[.bp 1 0, .bp 3 0, .bp 5 0, .rf 6 [] 0 none, .ro 0 true [.sl true [.b, .sl false [.i .u8]], .i .i64, .b] [], .i .i64 0, .i .i64 0], [.dead, .box [.rf 2 [] 0 none], .row true [.sl true [.b, .sl false [.i .u8]], .i .i64, .b] [] 0 false, .box [.rf 4 [] 0 none], .row true [.sl true [.b, .sl false [.i .u8]], .i .i64, .b] [] 0 false, .box [.ro 0 true [.b, .sl false [.i .u8]] [], .i .i64 0, .b false], .row true [.b, .sl false [.i .u8]] [] 0 false]⟩)]
noncomputable def fi141 : Fi := ⟨Try.f141, [⟨3, [2, 3, 11, 12, 13], [], [(⟨[.bp 1 0, .bp 3 0, .ro 0 true [.sl true [.b, .sl false [.i .u8]], .i .i64, .b] [], .i .i64 0, .i .i64 0], [.dead, .box [.rf 2 [] 0 none], .row true [.sl true [.b, .sl false [.i .u8]], .i .i64, .b] [] 0 false, .box [.rf 4 [] 0 none], .row true [.sl true [.b, .sl false [.i .u8]], .i .i64, .b] [] 0 false]⟩, x141_3_0)]⟩, ⟨7, [2, 3, 5, 6, 11, 12, 13, 19, 20, 21], [], [(⟨[.bp 1 0, .bp 3 0, .bp 5 0, .rf 6 [] 0 none, .ro 0 true [.sl true [.b, .sl false [.i .u8]], .i .i64, .b] [], .i .i64 0, .i .i64 0, .ro 0 true [.b, .sl false [.i .u8]] [], .i .i64 0, .i .i64 0], [.dead, .box [.rf 2 [] 0 none], .row true [.sl true [.b, .sl false [.i .u8]], .i .i64, .b] [] 0 false, .box [.rf 4 [] 0 none], .row true [.sl true [.b, .sl false [.i .u8]], .i .i64, .b] [] 0 false, .box [.ro 0 true [.b, .sl false [.i .u8]] [], .i .i64 0, .b false], .row true [.b, .sl false [.i .u8]] [] 0 false]⟩, x141_7_0)]⟩], false, [.ag [.ro (.sl true [.sl true [.b, .sl false [.i .u8]], .i .i64, .b])]], [.ag [.ow (.sl true [.sl true [.b, .sl false [.i .u8]], .i .i64, .b])]]⟩
noncomputable def fi142 : Fi := ⟨Try.f142, [], false, [.ro (.sl true [.i .i64, .i .i64, .i .i64])], [.ow (.sl true [.i .i64, .i .i64, .i .i64])]⟩
noncomputable def fi87 : Fi := ⟨Try.f87, [], false, [.ag [.ro (.sl true [.sl true [.b, .sl false [.i .u8]], .i .i64, .b]), .v (.i .i64), .ro (.sl true [.i .i64, .i .i64, .i .i64]), .v (.b)]], [.ag [.ow (.sl true [.sl true [.b, .sl false [.i .u8]], .i .i64, .b]), .v (.i .i64), .ow (.sl true [.i .i64, .i .i64, .i .i64]), .v (.b)]]⟩
noncomputable def fi88 : Fi := ⟨Try.f88, [], false, [.ag [.ro (.sl true [.sl true [.b, .sl false [.i .u8]], .i .i64, .b]), .v (.i .i64), .ro (.sl true [.i .i64, .i .i64, .i .i64]), .v (.b), .v (.i .i64)]], [.ag [.ow (.sl true [.sl true [.b, .sl false [.i .u8]], .i .i64, .b]), .v (.i .i64), .ow (.sl true [.i .i64, .i .i64, .i .i64]), .v (.b), .v (.i .i64)]]⟩
noncomputable def fi75 : Fi := ⟨Try.f75, [], false, [.v (.i .i64), .v (.i .i64), .v (.i .i64)], [.v (.b)]⟩
noncomputable def fi89 : Fi := ⟨Try.f89, [], false, [.ag [.v (.i .i64), .v (.i .i64), .ro (.sl false [.i .u8])]], [.v (.b)]⟩
def x128_2_0 : List (Ex × List Nat × CSt) := [(.ret, [2], ⟨[.b false], [.dead]⟩), ((.ex 0), [1], ⟨[.bp 1 0], [.dead, .box [.ro 0 true [.sl true [.b, .sl false [.i .u8]], .i .i64, .b] []]]⟩)]
def x128_7_0 : List (Ex × List Nat × CSt) := [(.ret, [2], ⟨[.b false], [.dead]⟩), ((.ex 2), [1, 8, 9, 10], ⟨[.bp 1 0, .ro 0 true [.sl true [.b, .sl false [.i .u8]], .i .i64, .b] [], .i .i64 0, .i .i64 0], [.dead, .box [.ro 0 true [.sl true [.b, .sl false [.i .u8]], .i .i64, .b] []]]⟩)]
noncomputable def fi128 : Fi := ⟨Try.f128, [⟨2, [1, 8, 9, 10], [], [(⟨[.bp 1 0, .ro 0 true [.sl true [.b, .sl false [.i .u8]], .i .i64, .b] [], .i .i64 0, .i .i64 0], [.dead, .box [.ro 0 true [.sl true [.b, .sl false [.i .u8]], .i .i64, .b] []]]⟩, x128_2_0)]⟩, ⟨7, [1, 4, 8, 9, 10, 25, 26, 27], [], [(⟨[.bp 1 0, .bp 2 0, .ro 0 true [.sl true [.b, .sl false [.i .u8]], .i .i64, .b] [], .i .i64 0, .i .i64 0, .ro 0 true [.b, .sl false [.i .u8]] [], .i .i64 0, .i .i64 0], [.dead, .box [.ro 0 true [.sl true [.b, .sl false [.i .u8]], .i .i64, .b] []], .box [.ro 0 true [.b, .sl false [.i .u8]] [], .i .i64 0, .b false]]⟩, x128_7_0)]⟩], false, [.ag [.ro (.sl true [.sl true [.b, .sl false [.i .u8]], .i .i64, .b])]], [.v (.b)]⟩
def x74_2_0 : List (Ex × List Nat × CSt) := [(.ret, [2], ⟨[.b false], [.dead, .dead, .dead, .dead]⟩), ((.ex 0), [1], ⟨[.bp 4 0], [.dead, .dead, .dead, .dead, .box [.ro 0 true [.sl true [.b, .sl false [.i .u8]], .i .i64, .b] [], .i .i64 0, .ro 0 true [.i .i64, .i .i64, .i .i64] [], .b false]]⟩)]
noncomputable def fi74 : Fi := ⟨Try.f74, [⟨2, [1, 6, 7, 8], [], [(⟨[.bp 4 0, .ro 0 true [.i .i64, .i .i64, .i .i64] [], .i .i64 0, .i .i64 0], [.dead, .dead, .dead, .dead, .box [.ro 0 true [.sl true [.b, .sl false [.i .u8]], .i .i64, .b] [], .i .i64 0, .ro 0 true [.i .i64, .i .i64, .i .i64] [], .b false]]⟩, x74_2_0)]⟩], false, [.ag [.ro (.sl true [.sl true [.b, .sl false [.i .u8]], .i .i64, .b]), .v (.i .i64), .ro (.sl true [.i .i64, .i .i64, .i .i64]), .v (.b)]], [.v (.b)]⟩
noncomputable def fi94 : Fi := ⟨Try.f94, [], false, [.ag [.ro (.sl true [.sl true [.b, .sl false [.i .u8]], .i .i64, .b])], .v (.i .i64)], [.v (.b)]⟩
def x38_5_0 : List (Ex × List Nat × CSt) := [((.ex 0), [5], ⟨[.i .i64 0], [.dead, .dead]⟩)]
noncomputable def fi38 : Fi := ⟨Try.f38, [⟨5, [5, 17, 18, 19], [], [(⟨[.i .i64 0, .ro 0 true [.b, .sl false [.i .u8]] [], .i .i64 0, .i .i64 0], [.dead, .dead]⟩, x38_5_0)]⟩], false, [.ag [.ro (.sl true [.sl true [.b, .sl false [.i .u8]], .i .i64, .b])], .v (.i .i64)], [.v (.i .i64)]⟩
def x34_3_0 : List (Ex × List Nat × CSt) := [((.ex 0), [3], ⟨[.i .i64 0], [.dead, .dead, .dead, .dead, .dead]⟩)]
noncomputable def fi34 : Fi := ⟨Try.f34, [⟨3, [1, 3, 9, 10, 11], [], [(⟨[.bp 5 0, .i .i64 0, .ro 0 true [.sl true [.b, .sl false [.i .u8]], .i .i64, .b] [], .i .i64 0, .i .i64 0], [.dead, .dead, .dead, .dead, .dead, .box [.ro 0 true [.sl true [.b, .sl false [.i .u8]], .i .i64, .b] [], .i .i64 0, .ro 0 true [.i .i64, .i .i64, .i .i64] [], .b false, .i .i64 0]]⟩, x34_3_0)]⟩], false, [.ag [.ro (.sl true [.sl true [.b, .sl false [.i .u8]], .i .i64, .b]), .v (.i .i64), .ro (.sl true [.i .i64, .i .i64, .i .i64]), .v (.b), .v (.i .i64)]], [.v (.i .i64)]⟩
def x35_3_0 : List (Ex × List Nat × CSt) := [(.ret, [4], ⟨[.i .i64 0], [.dead, .dead, .dead, .dead, .dead, .dead]⟩), ((.ex 0), [1, 2, 5], ⟨[.i .i64 0, .bp 6 0, .i .i64 0], [.dead, .dead, .dead, .dead, .dead, .dead, .box [.ro 0 true [.sl true [.b, .sl false [.i .u8]], .i .i64, .b] [], .i .i64 0, .ro 0 true [.i .i64, .i .i64, .i .i64] [], .b false, .i .i64 0]]⟩)]
noncomputable def fi35 : Fi := ⟨Try.f35, [⟨3, [1, 2, 5, 12, 13, 14], [], [(⟨[.i .i64 0, .bp 6 0, .i .i64 0, .ro 0 true [.sl true [.b, .sl false [.i .u8]], .i .i64, .b] [], .i .i64 0, .i .i64 0], [.dead, .dead, .dead, .dead, .dead, .dead, .box [.ro 0 true [.sl true [.b, .sl false [.i .u8]], .i .i64, .b] [], .i .i64 0, .ro 0 true [.i .i64, .i .i64, .i .i64] [], .b false, .i .i64 0]]⟩, x35_3_0)]⟩], false, [.ag [.ro (.sl true [.sl true [.b, .sl false [.i .u8]], .i .i64, .b]), .v (.i .i64), .ro (.sl true [.i .i64, .i .i64, .i .i64]), .v (.b), .v (.i .i64)], .v (.i .i64)], [.v (.i .i64)]⟩
def x93_3_0 : List (Ex × List Nat × CSt) := [((.ex 0), [1, 5], ⟨[.i .i64 0, .rf 2 [] 0 none], [.dead, .dead, .row false [.i .u8] [] 0 false]⟩)]
noncomputable def fi93 : Fi := ⟨Try.f93, [⟨3, [1, 5], [], [(⟨[.i .i64 0, .rf 2 [] 0 none], [.dead, .dead, .row false [.i .u8] [] 0 false]⟩, x93_3_0)]⟩], false, [.ro (.sl false [.i .u8]), .v (.i .i64)], [.ow (.sl false [.i .u8])]⟩
noncomputable def fi92 : Fi := ⟨Try.f92, [], false, [.ro (.sl false [.i .u8]), .v (.s)], [.ow (.sl false [.i .u8])]⟩
def x146_3_0 : List (Ex × List Nat × CSt) := [((.ex 0), [3], ⟨[.i .u32 0], [.dead]⟩)]
def x146_7_0 : List (Ex × List Nat × CSt) := [((.ex 2), [3, 7, 8, 9], ⟨[.i .u32 0, .ro 0 false [.i .u8] [], .i .i64 0, .i .i64 0], [.dead]⟩)]
noncomputable def fi146 : Fi := ⟨Try.f146, [⟨3, [3, 7, 8, 9], [], [(⟨[.i .u32 0, .ro 0 false [.i .u8] [], .i .i64 0, .i .i64 0], [.dead]⟩, x146_3_0)]⟩, ⟨7, [3, 7, 8, 9, 17], [], [(⟨[.i .u32 0, .ro 0 false [.i .u8] [], .i .i64 0, .i .i64 0, .i .i64 0], [.dead]⟩, x146_7_0)]⟩], false, [.ro (.sl false [.i .u8])], [.v (.i .i64)]⟩
noncomputable def fi91 : Fi := ⟨Try.f91, [], false, [.ro (.sl false [.i .u8])], [.ow (.sl false [.i .u8])]⟩
noncomputable def fi37 : Fi := ⟨Try.f37, [], false, [.ag [.v (.i .i64), .v (.i .i64), .ro (.sl false [.i .u8])]], [.ow (.sl false [.i .u8])]⟩
noncomputable def fi143 : Fi := ⟨Try.f143, [], false, [.ag [.ro (.sl true [.sl true [.b, .sl false [.i .u8]], .i .i64, .b])], .v (.i .i64), .ro (.sl false [.i .u8])], [.ag [.ow (.sl true [.sl true [.b, .sl false [.i .u8]], .i .i64, .b])], .v (.i .i64)]⟩
noncomputable def fi145 : Fi := ⟨Try.f145, [], true, [.v .b], []⟩
def x189_2_0 : List (Ex × List Nat × CSt) := [(.ret, [2, 3], ⟨[.bp 4 0, .b false], [.dead, .dead, .dead, .dead, .box [.i .i64 0, .i .i64 0, .i .i64 0]]⟩), ((.ex 0), [2], ⟨[.bp 4 0], [.dead, .dead, .dead, .dead, .box [.i .i64 0, .i .i64 0, .i .i64 0]]⟩)]
noncomputable def fi189 : Fi := ⟨Try.f189, [⟨2, [1, 2, 7, 8, 9], [], [(⟨[.bp 4 0, .bp 5 0, .ro 0 true [.i .i64, .i .i64, .i .i64] [], .i .i64 0, .i .i64 0], [.dead, .dead, .dead, .dead, .box [.ro 0 true [.sl true [.b, .sl false [.i .u8]], .i .i64, .b] [], .i .i64 0, .ro 0 true [.i .i64, .i .i64, .i .i64] [], .b false], .box [.i .i64 0, .i .i64 0, .i .i64 0]]⟩, x189_2_0)]⟩], false, [.ag [.ro (.sl true [.sl true [.b, .sl false [.i .u8]], .i .i64, .b]), .v (.i .i64), .ro (.sl true [.i .i64, .i .i64, .i .i64]), .v (.b)]], [.ag [.v (.i .i64), .v (.i .i64), .v (.i .i64)], .v (.b)]⟩
noncomputable def fi144 : Fi := ⟨Try.f144, [], true, [], []⟩
noncomputable def fi90 : Fi := ⟨Try.f90, [], false, [.ag [.ro (.sl true [.sl true [.b, .sl false [.i .u8]], .i .i64, .b]), .v (.i .i64), .ro (.sl true [.i .i64, .i .i64, .i .i64]), .v (.b)], .v (.i .i64), .ro (.sl false [.i .u8])], [.ag [.ow (.sl true [.sl true [.b, .sl false [.i .u8]], .i .i64, .b]), .v (.i .i64), .ow (.sl true [.i .i64, .i .i64, .i .i64]), .v (.b)], .v (.i .i64)]⟩
def x32_5_0 : List (Ex × List Nat × CSt) := [(.ret, [8, 9, 10], ⟨[.bp 8 0, .i .i64 0, .i .i64 0], [.dead, .dead, .dead, .dead, .dead, .dead, .dead, .dead, .box [.rf 9 [] 0 none, .i .i64 0, .rf 10 [] 0 none, .b false, .i .i64 0], .row true [.sl true [.b, .sl false [.i .u8]], .i .i64, .b] [] 0 false, .row true [.i .i64, .i .i64, .i .i64] [] 0 false]⟩)]
noncomputable def fi32 : Fi := ⟨Try.f32, [⟨5, [3, 4, 8, 11], [], [(⟨[.i .i64 0, .bp 8 0, .bp 11 0, .bp 14 0], [.dead, .dead, .dead, .dead, .dead, .dead, .dead, .dead, .box [.rf 9 [] 0 none, .i .i64 0, .rf 10 [] 0 none, .b false, .i .i64 0], .row true [.sl true [.b, .sl false [.i .u8]], .i .i64, .b] [] 0 false, .row true [.i .i64, .i .i64, .i .i64] [] 0 false, .box [.rf 12 [] 0 none, .i .i64 0, .rf 13 [] 0 none, .b false, .i .i64 0], .row true [.sl true [.b, .sl false [.i .u8]], .i .i64, .b] [] 0 false, .row true [.i .i64, .i .i64, .i .i64] [] 0 false, .box [.i .i64 0, .i .i64 0, .ro 0 false [.i .u8] []]]⟩, x32_5_0)]⟩], false, [.ag [.ro (.sl true [.sl true [.b, .sl false [.i .u8]], .i .i64, .b]), .v (.i .i64), .ro (.sl true [.i .i64, .i .i64, .i .i64]), .v (.b), .v (.i .i64)], .v (.i .i64), .ro (.sl false [.i .u8]), .v (.i .i64)], [.ag [.ow (.sl true [.sl true [.b, .sl false [.i .u8]], .i .i64, .b]), .v (.i .i64), .ow (.sl true [.i .i64, .i .i64, .i .i64]), .v (.b), .v (.i .i64)], .v (.i .i64), .v (.i .i64)]⟩
def x48_4_0 : List (Ex × List Nat × CSt) := [(.ret, [4], ⟨[.b false], [.dead, .dead]⟩), ((.ex 0), [], ⟨[], [.dead, .dead]⟩)]
noncomputable def fi48 : Fi := ⟨Try.f48, [⟨4, [0, 1, 5], [], [(⟨[.ro 0 false [.i .u8] [], .ro 0 false [.i .u8] [], .i .i64 0], [.dead, .dead]⟩, x48_4_0)]⟩], false, [.ro (.sl false [.i .u8]), .ro (.sl false [.i .u8])], [.v (.b)]⟩
noncomputable def fi254 : Fi := ⟨Try.f254, [], false, [.ag [.v (.b), .ro (.sl false [.i .u8])], .ag [.v (.b), .ro (.sl false [.i .u8])]], [.v (.b)]⟩
def x244_4_0 : List (Ex × List Nat × CSt) := [(.ret, [4], ⟨[.b false], [.dead, .dead]⟩), ((.ex 0), [], ⟨[], [.dead, .dead]⟩)]
noncomputable def fi244 : Fi := ⟨Try.f244, [⟨4, [0, 1, 5], [], [(⟨[.ro 0 true [.b, .sl false [.i .u8]] [], .ro 0 true [.b, .sl false [.i .u8]] [], .i .i64 0], [.dead, .dead]⟩, x244_4_0)]⟩], false, [.ro (.sl true [.b, .sl false [.i .u8]]), .ro (.sl true [.b, .sl false [.i .u8]])], [.v (.b)]⟩
noncomputable def fi221 : Fi := ⟨Try.f221, [], false, [.ag [.ro (.sl true [.b, .sl false [.i .u8]]), .v (.i .i64), .v (.b)], .ag [.ro (.sl true [.b, .sl false [.i .u8]]), .v (.i .i64), .v (.b)]], [.v (.b)]⟩
def x179_4_0 : List (Ex × List Nat × CSt) := [(.ret, [4], ⟨[.b false], [.dead, .dead]⟩), ((.ex 0), [], ⟨[], [.dead, .dead]⟩)]
noncomputable def fi179 : Fi := ⟨Try.f179, [⟨4, [0, 1, 5], [], [(⟨[.ro 0 true [.sl true [.b, .sl false [.i .u8]], .i .i64, .b] [], .ro 0 true [.sl true [.b, .sl false [.i .u8]], .i .i64, .b] [], .i .i64 0], [.dead, .dead]⟩, x179_4_0)]⟩], false, [.ro (.sl true [.sl true [.b, .sl false [.i .u8]], .i .i64, .b]), .ro (.sl true [.sl true [.b, .sl false [.i .u8]], .i .i64, .b])], [.v (.b)]⟩
noncomputable def fi129 : Fi := ⟨Try.f129, [], false, [.ag [.ro (.sl true [.sl true [.b, .sl false [.i .u8]], .i .i64, .b])], .ag [.ro (.sl true [.sl true [.b, .sl false [.i .u8]], .i .i64, .b])]], [.v (.b)]⟩
noncomputable def fi180 : Fi := ⟨Try.f180, [], false, [.ag [.v (.i .i64), .v (.i .i64), .v (.i .i64)], .ag [.v (.i .i64), .v (.i .i64), .v (.i .i64)]], [.v (.b)]⟩
def x130_4_0 : List (Ex × List Nat × CSt) := [(.ret, [4], ⟨[.b false], [.dead, .dead]⟩), ((.ex 0), [], ⟨[], [.dead, .dead]⟩)]
noncomputable def fi130 : Fi := ⟨Try.f130, [⟨4, [0, 1, 5], [], [(⟨[.ro 0 true [.i .i64, .i .i64, .i .i64] [], .ro 0 true [.i .i64, .i .i64, .i .i64] [], .i .i64 0], [.dead, .dead]⟩, x130_4_0)]⟩], false, [.ro (.sl true [.i .i64, .i .i64, .i .i64]), .ro (.sl true [.i .i64, .i .i64, .i .i64])], [.v (.b)]⟩
noncomputable def fi78 : Fi := ⟨Try.f78, [], false, [.ag [.ro (.sl true [.sl true [.b, .sl false [.i .u8]], .i .i64, .b]), .v (.i .i64), .ro (.sl true [.i .i64, .i .i64, .i .i64]), .v (.b)], .ag [.ro (.sl true [.sl true [.b, .sl false [.i .u8]], .i .i64, .b]), .v (.i .i64), .ro (.sl true [.i .i64, .i .i64, .i .i64]), .v (.b)]], [.v (.b)]⟩
noncomputable def fi22 : Fi := ⟨Try.f22, [], false, [.ag [.ro (.sl true [.sl true [.b, .sl false [.i .u8]], .i .i64, .b]), .v (.i .i64), .ro (.sl true [.i .i64, .i .i64, .i .i64]), .v (.b), .v (.i .i64)], .ag [.ro (.sl true [.sl true [.b, .sl false [.i .u8]], .i .i64, .b]), .v (.i .i64), .ro (.sl true [.i .i64, .i .i64, .i .i64]), .v (.b), .v (.i .i64)]], [.v (.b)]⟩
def x49_2_0 : List (Ex × List Nat × CSt) := [((.ex 0), [1], ⟨[.i .i64 0], [.row false [.i .u8] [] 0 false, .dead]⟩)]
noncomputable def fi49 : Fi := ⟨Try.f49, [⟨2, [0, 1, 5], [], [(⟨[.rf 0 [] 0 none, .i .i64 0, .i .i64 0], [.row false [.i .u8] [] 0 false, .dead]⟩, x49_2_0)]⟩], false, [.ow (.sl false [.i .u8]), .v (.i .i64)], [.v (.i .i64)]⟩
def x224_2_0 : List (Ex × List Nat × CSt) := [((.ex 0), [1], ⟨[.i .i64 0], [.row true [.b, .sl false [.i .u8]] [] 0 false, .dead]⟩)]
noncomputable def fi224 : Fi := ⟨Try.f224, [⟨2, [0, 1, 5], [], [(⟨[.rf 0 [] 0 none, .i .i64 0, .i .i64 0], [.row true [.b, .sl false [.i .u8]] [] 0 false, .dead]⟩, x224_2_0)]⟩], false, [.ow (.sl true [.b, .sl false [.i .u8]]), .v (.i .i64)], [.v (.i .i64)]⟩
def x187_2_0 : List (Ex × List Nat × CSt) := [((.ex 0), [1], ⟨[.i .i64 0], [.row true [.sl true [.b, .sl false [.i .u8]], .i .i64, .b] [] 0 false, .dead]⟩)]
noncomputable def fi187 : Fi := ⟨Try.f187, [⟨2, [0, 1, 5], [], [(⟨[.rf 0 [] 0 none, .i .i64 0, .i .i64 0], [.row true [.sl true [.b, .sl false [.i .u8]], .i .i64, .b] [] 0 false, .dead]⟩, x187_2_0)]⟩], false, [.ow (.sl true [.sl true [.b, .sl false [.i .u8]], .i .i64, .b]), .v (.i .i64)], [.v (.i .i64)]⟩
noncomputable def fi136 : Fi := ⟨Try.f136, [], false, [.ag [.ow (.sl true [.sl true [.b, .sl false [.i .u8]], .i .i64, .b])], .v (.i .i64)], [.v (.i .i64)]⟩
def x137_2_0 : List (Ex × List Nat × CSt) := [((.ex 0), [1], ⟨[.i .i64 0], [.row true [.i .i64, .i .i64, .i .i64] [] 0 false, .dead]⟩)]
noncomputable def fi137 : Fi := ⟨Try.f137, [⟨2, [0, 1, 5], [], [(⟨[.rf 0 [] 0 none, .i .i64 0, .i .i64 0], [.row true [.i .i64, .i .i64, .i .i64] [] 0 false, .dead]⟩, x137_2_0)]⟩], false, [.ow (.sl true [.i .i64, .i .i64, .i .i64]), .v (.i .i64)], [.v (.i .i64)]⟩
noncomputable def fi82 : Fi := ⟨Try.f82, [], false, [.ag [.ow (.sl true [.sl true [.b, .sl false [.i .u8]], .i .i64, .b]), .v (.i .i64), .ow (.sl true [.i .i64, .i .i64, .i .i64]), .v (.b)], .v (.i .i64)], [.v (.i .i64)]⟩
noncomputable def fi26 : Fi := ⟨Try.f26, [], false, [.ag [.ow (.sl true [.sl true [.b, .sl false [.i .u8]], .i .i64, .b]), .v (.i .i64), .ow (.sl true [.i .i64, .i .i64, .i .i64]), .v (.b), .v (.i .i64)], .v (.i .i64)], [.v (.i .i64)]⟩
def x83_2_0 : List (Ex × List Nat × CSt) := [(.ret, [4], ⟨[.i .i64 0], [.dead, .dead]⟩), ((.ex 0), [1], ⟨[.i .i64 0], [.dead, .dead]⟩)]
noncomputable def fi83 : Fi := ⟨Try.f83, [⟨2, [0, 1, 5], [], [(⟨[.ro 0 false [.i .u8] [], .i .i64 0, .i .i64 0], [.dead, .dead]⟩, x83_2_0)]⟩], false, [.ro (.sl false [.i .u8]), .v (.i .i64)], [.v (.i .i64)]⟩
def x230_2_0 : List (Ex × List Nat × CSt) := [(.ret, [4], ⟨[.i .i64 0], [.dead, .dead]⟩), ((.ex 0), [1], ⟨[.i .i64 0], [.dead, .dead]⟩)]
noncomputable def fi230 : Fi := ⟨Try.f230, [⟨2, [0, 1, 5], [], [(⟨[.ro 0 true [.b, .sl false [.i .u8]] [], .i .i64 0, .i .i64 0], [.dead, .dead]⟩, x230_2_0)]⟩], false, [.ro (.sl true [.b, .sl false [.i .u8]]), .v (.i .i64)], [.v (.i .i64)]⟩
def x203_2_0 : List (Ex × List Nat × CSt) := [(.ret, [4], ⟨[.i .i64 0], [.dead, .dead]⟩), ((.ex 0), [1], ⟨[.i .i64 0], [.dead, .dead]⟩)]
noncomputable def fi203 : Fi := ⟨Try.f203, [⟨2, [0, 1, 5], [], [(⟨[.ro 0 true [.sl true [.b, .sl false [.i .u8]], .i .i64, .b] [], .i .i64 0, .i .i64 0], [.dead, .dead]⟩, x203_2_0)]⟩], false, [.ro (.sl true [.sl true [.b, .sl false [.i .u8]], .i .i64, .b]), .v (.i .i64)], [.v (.i .i64)]⟩
noncomputable def fi157 : Fi := ⟨Try.f157, [], false, [.ag [.ro (.sl true [.sl true [.b, .sl false [.i .u8]], .i .i64, .b])], .v (.i .i64)], [.v (.i .i64)]⟩
def x158_2_0 : List (Ex × List Nat × CSt) := [(.ret, [4], ⟨[.i .i64 0], [.dead, .dead]⟩), ((.ex 0), [1], ⟨[.i .i64 0], [.dead, .dead]⟩)]
noncomputable def fi158 : Fi := ⟨Try.f158, [⟨2, [0, 1, 5], [], [(⟨[.ro 0 true [.i .i64, .i .i64, .i .i64] [], .i .i64 0, .i .i64 0], [.dead, .dead]⟩, x158_2_0)]⟩], false, [.ro (.sl true [.i .i64, .i .i64, .i .i64]), .v (.i .i64)], [.v (.i .i64)]⟩
noncomputable def fi105 : Fi := ⟨Try.f105, [], false, [.ag [.ro (.sl true [.sl true [.b, .sl false [.i .u8]], .i .i64, .b]), .v (.i .i64), .ro (.sl true [.i .i64, .i .i64, .i .i64]), .v (.b)], .v (.i .i64)], [.v (.i .i64)]⟩
noncomputable def fi50 : Fi := ⟨Try.f50, [], false, [.ag [.ro (.sl true [.sl true [.b, .sl false [.i .u8]], .i .i64, .b]), .v (.i .i64), .ro (.sl true [.i .i64, .i .i64, .i .i64]), .v (.b), .v (.i .i64)], .v (.i .i64)], [.v (.i .i64)]⟩
noncomputable def fi10 : Fi := ⟨Try.f10, [], false, [.ag [.ro (.sl true [.sl true [.b, .sl false [.i .u8]], .i .i64, .b]), .v (.i .i64), .ro (.sl true [.i .i64, .i .i64, .i .i64]), .v (.b), .v (.i .i64)], .v (.i .i64), .ro (.sl false [.i .u8]), .v (.i .i64)], [.v (.b)]⟩
noncomputable def fiTab : List (Nat × Fi) := [(259, fi259), (252, fi252), (242, fi242), (219, fi219), (175, fi175), (122, fi122), (123, fi123), (69, fi69), (18, fi18), (47, fi47), (253, fi253), (243, fi243), (220, fi220), (177, fi177), (126, fi126), (178, fi178), (127, fi127), (73, fi73), (20, fi20), (228, fi228), (194, fi194), (152, fi152), (102, fi102), (71, fi71), (176, fi176), (124, fi124), (125, fi125), (70, fi70), (103, fi103), (196, fi196), (195, fi195), (133, fi133), (153, fi153), (197, fi197), (198, fi198), (154, fi154), (155, fi155), (229, fi229), (200, fi200), (199, fi199), (201, fi201), (202, fi202), (156, fi156), (104, fi104), (46, fi46), (147, fi147), (141, fi141), (142, fi142), (87, fi87), (88, fi88), (75, fi75), (89, fi89), (128, fi128), (74, fi74), (94, fi94), (38, fi38), (34, fi34), (35, fi35), (93, fi93), (92, fi92), (146, fi146), (91, fi91), (37, fi37), (143, fi143), (145, fi145), (189, fi189), (144, fi144), (90, fi90), (32, fi32), (48, fi48), (254, fi254), (244, fi244), (221, fi221), (179, fi179), (129, fi129), (180, fi180), (130, fi130), (78, fi78), (22, fi22), (49, fi49), (224, fi224), (187, fi187), (136, fi136), (137, fi137), (82, fi82), (26, fi26), (83, fi83), (230, fi230), (203, fi203), (157, fi157), (158, fi158), (105, fi105), (50, fi50), (10, fi10)]
-- EXT 147 clone 56 5
-- EXT 142 clone 48 76
def X : Nat → Option (List T → Option (List T)) := lookN [(147, cloneF), (142, cloneF)]
noncomputable def env : Env := ⟨lookN fiTab, lookN tyTab⟩
-- FUNCTIONS
/-- loop.example/g00285/laws.szByteS -/
def f259_t (c : Orc) (lf : Nat) (l0 : List T) (n1 : Int) : Option (List T) :=
  bif iLt (IntKind.wrap .i64 (n1 - (l0.length : Int))) 0 then
    some [T.i .i64 (-1)]
  else
    some [T.i .i64 (IntKind.wrap .i64 (n1 - (l0.length : Int)))]
def f259 (c : Orc) (lf : Nat) (l0 : List T) (n1 : Int) : Option (List T) := f259_t c lf l0 n1
theorem f259_raw (c : Orc) (lf : Nat) (l0 : List T) (n1 : Int) : funK c env lf 6 fi259 [.sl l0, .i .i64 n1] = f259_t c lf l0 n1 := by kernel_rfl
theorem f259_eq (c : Orc) (lf : Nat) (l0 : List T) (n1 : Int) : funK c env lf 6 fi259 [.sl l0, .i .i64 n1] = f259 c lf l0 n1 := by
  refine (f259_raw c lf l0 n1).trans ?_
  rfl
/-- loop.example/g00285/laws.szPage -/
def f252_t (c : Orc) (lf : Nat) (b0_0 : Bool) (l0_1 : List T) (n1 : Int) : Option (List T) :=
  (c 259 [T.sl l0_1, T.i .i64 n1]).bind fun r1 =>
  bif iLt (asI (nth r1 0)) 0 then
    some [T.i .i64 (-1)]
  else
    some [T.i .i64 (asI (nth r1 0))]
def f252 (c : Orc) (lf : Nat) (b0_0 : Bool) (l0_1 : List T) (n1 : Int) : Option (List T) := f252_t c lf b0_0 l0_1 n1
theorem f252_raw (c : Orc) (lf : Nat) (b0_0 : Bool) (l0_1 : List T) (n1 : Int) : funK c env lf 6 fi252 [.st [.b b0_0, .sl l0_1], .i .i64 n1] = f252_t c lf b0_0 l0_1 n1 := by kernel_rfl
theorem f252_eq (c : Orc) (lf : Nat) (b0_0 : Bool) (l0_1 : List T) (n1 : Int) : funK c env lf 6 fi252 [.st [.b b0_0, .sl l0_1], .i .i64 n1] = f252 c lf b0_0 l0_1 n1 := by
  refine (f252_raw c lf b0_0 l0_1 n1).trans ?_
  rfl
/-- loop.example/g00285/laws.szPageS, the loop at region 5. -/
def f242_0_s (c : Orc) (lf : Nat) (l0 : List T) (L : Int → Int → Option (List T)) (x8 : Int) (x9 : Int) : Option (List T) :=
  bif iLt x9 (l0.length : Int) then
    bif inR x9 l0.length then
    (c 252 [T.st [T.b (asB (T.cell (l0.getD x9.toNat T.u) 0)), T.sl (asL (T.cell (l0.getD x9.toNat T.u) 1))], T.i .i64 x8]).bind fun r10 =>
    bif iLt (asI (nth r10 0)) 0 then
      some [T.i .i64 0, T.i .i64 (-1)]
    else
      L (asI (nth r10 0)) (IntKind.wrap .i64 (x9 + 1))
    else none
  else
    some [T.i .i64 1, T.i .i64 x8]
def f242_0_c (l0 : List T) (x8 : Int) (x9 : Int) : CSt := ⟨[.ro 0 true [.b, .sl false [.i .u8]] l0, .i .i64 x8, .i .i64 x9], [.dead, .dead]⟩
theorem f242_0_round (c : Orc) (lf : Nat) (l0 : List T) (L : CSt → Option (List T)) (x8 : Int) (x9 : Int) :
    roundK c env lf 6 fi242 2 5 [] [0, 1, 5] (x242_5_0) L (f242_0_c l0 x8 x9) = f242_0_s c lf l0 (fun x8 x9 => L (f242_0_c l0 x8 x9)) x8 x9 := by kernel_rfl
def f242_0 (c : Orc) (lf : Nat) (l0 : List T) : Nat → Int → Int → Option (List T)
  | 0 => fun _ _ => none
  | n + 1 => fun x8 x9 => f242_0_s c lf l0 (f242_0 c lf l0 n) x8 x9
theorem f242_0_u (c : Orc) (lf : Nat) (l0 : List T) (n : Nat) (x8 : Int) (x9 : Int) : f242_0 c lf l0 (n + 1) x8 x9 = f242_0_s c lf l0 (f242_0 c lf l0 n) x8 x9 := rfl
theorem f242_0_eq (c : Orc) (lf : Nat) (l0 : List T) (n : Nat) (x8 : Int) (x9 : Int) :
    lpK c env lf 6 fi242 2 5 [] [0, 1, 5] (x242_5_0) n (f242_0_c l0 x8 x9) = f242_0 c lf l0 n x8 x9 := by
  induction n generalizing x8 x9 with
  | zero => rfl
  | succ n ih =>
    refine (f242_0_round c lf l0 _ x8 x9).trans ?_
    have e : (fun x8 x9 => lpK c env lf 6 fi242 2 5 [] [0, 1, 5] (x242_5_0) n (f242_0_c l0 x8 x9)) = f242_0 c lf l0 n := by funext x8 x9; exact ih x8 x9
    show f242_0_s c lf l0 (fun x8 x9 => lpK c env lf 6 fi242 2 5 [] [0, 1, 5] (x242_5_0) n (f242_0_c l0 x8 x9)) x8 x9 = _
    rw [e]; rfl
/-- loop.example/g00285/laws.szPageS -/
def f242_t (c : Orc) (lf : Nat) (lp0 : List T → Int → Int → Option (List T)) (l0 : List T) (n1 : Int) : Option (List T) :=
  bif iLt (IntKind.wrap .i64 (n1 - (l0.length : Int))) 0 then
    some [T.i .i64 (-1)]
  else
    (lp0 l0 (IntKind.wrap .i64 (n1 - (l0.length : Int))) 0).bind fun r11 =>
    bif asI (nth r11 0) == 0 then
      some [T.i .i64 (asI (nth r11 1))]
    else
      some [T.i .i64 (asI (nth r11 1))]
def f242 (c : Orc) (lf : Nat) (l0 : List T) (n1 : Int) : Option (List T) := f242_t c lf (fun (l0 : List T) (x8 : Int) (x9 : Int) => f242_0 c lf l0 lf x8 x9) l0 n1
theorem f242_raw (c : Orc) (lf : Nat) (l0 : List T) (n1 : Int) : funK c env lf 6 fi242 [.sl l0, .i .i64 n1] = f242_t c lf (fun (l0 : List T) (x8 : Int) (x9 : Int) => lpK c env lf 6 fi242 2 5 [] [0, 1, 5] (x242_5_0) lf (f242_0_c l0 x8 x9)) l0 n1 := by kernel_rfl
theorem f242_eq (c : Orc) (lf : Nat) (l0 : List T) (n1 : Int) : funK c env lf 6 fi242 [.sl l0, .i .i64 n1] = f242 c lf l0 n1 := by
  refine (f242_raw c lf l0 n1).trans ?_
  have e0 : (fun (l0 : List T) (x8 : Int) (x9 : Int) => lpK c env lf 6 fi242 2 5 [] [0, 1, 5] (x242_5_0) lf (f242_0_c l0 x8 x9)) = (fun (l0 : List T) (x8 : Int) (x9 : Int) => f242_0 c lf l0 lf x8 x9) := by funext l0 x8 x9; exact f242_0_eq c lf l0 lf x8 x9
  rw [e0]; rfl
/-- loop.example/g00285/laws.szBlock -/
def f219_t (c : Orc) (lf : Nat) (l0_0 : List T) (n0_1 : Int) (b0_2 : Bool) (n1 : Int) : Option (List T) :=
  (c 242 [T.sl l0_0, T.i .i64 n1]).bind fun r12 =>
  bif iLt (asI (nth r12 0)) 0 then
    some [T.i .i64 (-1)]
  else
    some [T.i .i64 (asI (nth r12 0))]
def f219 (c : Orc) (lf : Nat) (l0_0 : List T) (n0_1 : Int) (b0_2 : Bool) (n1 : Int) : Option (List T) := f219_t c lf l0_0 n0_1 b0_2 n1
theorem f219_raw (c : Orc) (lf : Nat) (l0_0 : List T) (n0_1 : Int) (b0_2 : Bool) (n1 : Int) : funK c env lf 6 fi219 [.st [.sl l0_0, .i .i64 n0_1, .b b0_2], .i .i64 n1] = f219_t c lf l0_0 n0_1 b0_2 n1 := by kernel_rfl
theorem f219_eq (c : Orc) (lf : Nat) (l0_0 : List T) (n0_1 : Int) (b0_2 : Bool) (n1 : Int) : funK c env lf 6 fi219 [.st [.sl l0_0, .i .i64 n0_1, .b b0_2], .i .i64 n1] = f219 c lf l0_0 n0_1 b0_2 n1 := by
  refine (f219_raw c lf l0_0 n0_1 b0_2 n1).trans ?_
  rfl
/-- loop.example/g00285/laws.szBlockS, the loop at region 5. -/
def f175_0_s (c : Orc) (lf : Nat) (l0 : List T) (L : Int → Int → Option (List T)) (x19 : Int) (x20 : Int) : Option (List T) :=
  bif iLt x20 (l0.length : Int) then
    bif inR x20 l0.length then
    (c 219 [T.st [T.sl (asL (T.cell (l0.getD x20.toNat T.u) 0)), T.i .i64 (asI (T.cell (l0.getD x20.toNat T.u) 1)), T.b (asB (T.cell (l0.getD x20.toNat T.u) 2))], T.i .i64 x19]).bind fun r21 =>
    bif iLt (asI (nth r21 0)) 0 then
      some [T.i .i64 0, T.i .i64 (-1)]
    else
      L (asI (nth r21 0)) (IntKind.wrap .i64 (x20 + 1))
    else none
  else
    some [T.i .i64 1, T.i .i64 x19]
def f175_0_c (l0 : List T) (x19 : Int) (x20 : Int) : CSt := ⟨[.ro 0 true [.sl true [.b, .sl false [.i .u8]], .i .i64, .b] l0, .i .i64 x19, .i .i64 x20], [.dead, .dead]⟩
theorem f175_0_round (c : Orc) (lf : Nat) (l0 : List T) (L : CSt → Option (List T)) (x19 : Int) (x20 : Int) :
    roundK c env lf 6 fi175 2 5 [] [0, 1, 5] (x175_5_0) L (f175_0_c l0 x19 x20) = f175_0_s c lf l0 (fun x19 x20 => L (f175_0_c l0 x19 x20)) x19 x20 := by kernel_rfl
def f175_0 (c : Orc) (lf : Nat) (l0 : List T) : Nat → Int → Int → Option (List T)
  | 0 => fun _ _ => none
  | n + 1 => fun x19 x20 => f175_0_s c lf l0 (f175_0 c lf l0 n) x19 x20
theorem f175_0_u (c : Orc) (lf : Nat) (l0 : List T) (n : Nat) (x19 : Int) (x20 : Int) : f175_0 c lf l0 (n + 1) x19 x20 = f175_0_s c lf l0 (f175_0 c lf l0 n) x19 x20 := rfl
theorem f175_0_eq (c : Orc) (lf : Nat) (l0 : List T) (n : Nat) (x19 : Int) (x20 : Int) :
    lpK c env lf 6 fi175 2 5 [] [0, 1, 5] (x175_5_0) n (f175_0_c l0 x19 x20) = f175_0 c lf l0 n x19 x20 := by
  induction n generalizing x19 x20 with
  | zero => rfl
  | succ n ih =>
    refine (f175_0_round c lf l0 _ x19 x20).trans ?_
    have e : (fun x19 x20 => lpK c env lf 6 fi175 2 5 [] [0, 1, 5] (x175_5_0) n (f175_0_c l0 x19 x20)) = f175_0 c lf l0 n := by funext x19 x20; exact ih x19 x20
    show f175_0_s c lf l0 (fun x19 x20 => lpK c env lf 6 fi175 2 5 [] [0, 1, 5] (x175_5_0) n (f175_0_c l0 x19 x20)) x19 x20 = _
    rw [e]; rfl
/-- loop.example/g00285/laws.szBlockS -/
def f175_t (c : Orc) (lf : Nat) (lp0 : List T → Int → Int → Option (List T)) (l0 : List T) (n1 : Int) : Option (List T) :=
  bif iLt (IntKind.wrap .i64 (n1 - (l0.length : Int))) 0 then
    some [T.i .i64 (-1)]
  else
    (lp0 l0 (IntKind.wrap .i64 (n1 - (l0.length : Int))) 0).bind fun r22 =>
    bif asI (nth r22 0) == 0 then
      some [T.i .i64 (asI (nth r22 1))]
    else
      some [T.i .i64 (asI (nth r22 1))]
def f175 (c : Orc) (lf : Nat) (l0 : List T) (n1 : Int) : Option (List T) := f175_t c lf (fun (l0 : List T) (x19 : Int) (x20 : Int) => f175_0 c lf l0 lf x19 x20) l0 n1
theorem f175_raw (c : Orc) (lf : Nat) (l0 : List T) (n1 : Int) : funK c env lf 6 fi175 [.sl l0, .i .i64 n1] = f175_t c lf (fun (l0 : List T) (x19 : Int) (x20 : Int) => lpK c env lf 6 fi175 2 5 [] [0, 1, 5] (x175_5_0) lf (f175_0_c l0 x19 x20)) l0 n1 := by kernel_rfl
theorem f175_eq (c : Orc) (lf : Nat) (l0 : List T) (n1 : Int) : funK c env lf 6 fi175 [.sl l0, .i .i64 n1] = f175 c lf l0 n1 := by
  refine (f175_raw c lf l0 n1).trans ?_
  have e0 : (fun (l0 : List T) (x19 : Int) (x20 : Int) => lpK c env lf 6 fi175 2 5 [] [0, 1, 5] (x175_5_0) lf (f175_0_c l0 x19 x20)) = (fun (l0 : List T) (x19 : Int) (x20 : Int) => f175_0 c lf l0 lf x19 x20) := by funext l0 x19 x20; exact f175_0_eq c lf l0 lf x19 x20
  rw [e0]; rfl
/-- loop.example/g00285/laws.szChip -/
def f122_t (c : Orc) (lf : Nat) (l0_0 : List T) (n1 : Int) : Option (List T) :=
  (c 175 [T.sl l0_0, T.i .i64 n1]).bind fun r23 =>
  bif iLt (asI (nth r23 0)) 0 then
    some [T.i .i64 (-1)]
  else
    some [T.i .i64 (asI (nth r23 0))]
def f122 (c : Orc) (lf : Nat) (l0_0 : List T) (n1 : Int) : Option (List T) := f122_t c lf l0_0 n1
theorem f122_raw (c : Orc) (lf : Nat) (l0_0 : List T) (n1 : Int) : funK c env lf 6 fi122 [.st [.sl l0_0], .i .i64 n1] = f122_t c lf l0_0 n1 := by kernel_rfl
theorem f122_eq (c : Orc) (lf : Nat) (l0_0 : List T) (n1 : Int) : funK c env lf 6 fi122 [.st [.sl l0_0], .i .i64 n1] = f122 c lf l0_0 n1 := by
  refine (f122_raw c lf l0_0 n1).trans ?_
  rfl
/-- loop.example/g00285/laws.szFaultS -/
def f123_t (c : Orc) (lf : Nat) (l0 : List T) (n1 : Int) : Option (List T) :=
  bif iLt (IntKind.wrap .i64 (n1 - (l0.length : Int))) 0 then
    some [T.i .i64 (-1)]
  else
    some [T.i .i64 (IntKind.wrap .i64 (n1 - (l0.length : Int)))]
def f123 (c : Orc) (lf : Nat) (l0 : List T) (n1 : Int) : Option (List T) := f123_t c lf l0 n1
theorem f123_raw (c : Orc) (lf : Nat) (l0 : List T) (n1 : Int) : funK c env lf 6 fi123 [.sl l0, .i .i64 n1] = f123_t c lf l0 n1 := by kernel_rfl
theorem f123_eq (c : Orc) (lf : Nat) (l0 : List T) (n1 : Int) : funK c env lf 6 fi123 [.sl l0, .i .i64 n1] = f123 c lf l0 n1 := by
  refine (f123_raw c lf l0 n1).trans ?_
  rfl
/-- loop.example/g00285/laws.szDev -/
def f69_t (c : Orc) (lf : Nat) (l0_0 : List T) (n0_1 : Int) (l0_2 : List T) (b0_3 : Bool) (n1 : Int) : Option (List T) :=
  (c 122 [T.st [T.sl l0_0], T.i .i64 n1]).bind fun r24 =>
  bif iLt (asI (nth r24 0)) 0 then
    some [T.i .i64 (-1)]
  else
    (c 123 [T.sl l0_2, T.i .i64 (asI (nth r24 0))]).bind fun r25 =>
    bif iLt (asI (nth r25 0)) 0 then
      some [T.i .i64 (-1)]
    else
      some [T.i .i64 (asI (nth r25 0))]
def f69 (c : Orc) (lf : Nat) (l0_0 : List T) (n0_1 : Int) (l0_2 : List T) (b0_3 : Bool) (n1 : Int) : Option (List T) := f69_t c lf l0_0 n0_1 l0_2 b0_3 n1
theorem f69_raw (c : Orc) (lf : Nat) (l0_0 : List T) (n0_1 : Int) (l0_2 : List T) (b0_3 : Bool) (n1 : Int) : funK c env lf 6 fi69 [.st [.sl l0_0, .i .i64 n0_1, .sl l0_2, .b b0_3], .i .i64 n1] = f69_t c lf l0_0 n0_1 l0_2 b0_3 n1 := by kernel_rfl
theorem f69_eq (c : Orc) (lf : Nat) (l0_0 : List T) (n0_1 : Int) (l0_2 : List T) (b0_3 : Bool) (n1 : Int) : funK c env lf 6 fi69 [.st [.sl l0_0, .i .i64 n0_1, .sl l0_2, .b b0_3], .i .i64 n1] = f69 c lf l0_0 n0_1 l0_2 b0_3 n1 := by
  refine (f69_raw c lf l0_0 n0_1 l0_2 b0_3 n1).trans ?_
  rfl
/-- loop.example/g00285/laws.szLog -/
def f18_t (c : Orc) (lf : Nat) (l0_0 : List T) (n0_1 : Int) (l0_2 : List T) (b0_3 : Bool) (n0_4 : Int) (n1 : Int) : Option (List T) :=
  (c 69 [T.st [T.sl l0_0, T.i .i64 n0_1, T.sl l0_2, T.b b0_3], T.i .i64 n1]).bind fun r26 =>
  bif iLt (asI (nth r26 0)) 0 then
    some [T.i .i64 (-1)]
  else
    some [T.i .i64 (asI (nth r26 0))]
def f18 (c : Orc) (lf : Nat) (l0_0 : List T) (n0_1 : Int) (l0_2 : List T) (b0_3 : Bool) (n0_4 : Int) (n1 : Int) : Option (List T) := f18_t c lf l0_0 n0_1 l0_2 b0_3 n0_4 n1
theorem f18_raw (c : Orc) (lf : Nat) (l0_0 : List T) (n0_1 : Int) (l0_2 : List T) (b0_3 : Bool) (n0_4 : Int) (n1 : Int) : funK c env lf 6 fi18 [.st [.sl l0_0, .i .i64 n0_1, .sl l0_2, .b b0_3, .i .i64 n0_4], .i .i64 n1] = f18_t c lf l0_0 n0_1 l0_2 b0_3 n0_4 n1 := by kernel_rfl
theorem f18_eq (c : Orc) (lf : Nat) (l0_0 : List T) (n0_1 : Int) (l0_2 : List T) (b0_3 : Bool) (n0_4 : Int) (n1 : Int) : funK c env lf 6 fi18 [.st [.sl l0_0, .i .i64 n0_1, .sl l0_2, .b b0_3, .i .i64 n0_4], .i .i64 n1] = f18 c lf l0_0 n0_1 l0_2 b0_3 n0_4 n1 := by
  refine (f18_raw c lf l0_0 n0_1 l0_2 b0_3 n0_4 n1).trans ?_
  rfl
/-- loop.example/g00285/laws.toByteS, the loop at region 3. -/
def f47_0_s (c : Orc) (lf : Nat) (l0 : List T) (L : Int → List T → Option (List T)) (x30 : Int) (x31 : List T) : Option (List T) :=
  bif iLt x30 (l0.length : Int) then
    bif inR x30 l0.length then
    bif inR x30 x31.length then
    L (IntKind.wrap .i64 (x30 + 1)) (x31.set x30.toNat (T.i .u8 (asI (l0.getD x30.toNat T.u))))
    else none
    else none
  else
    some [T.i .i64 0, T.sl x31]
def f47_0_c (l0 : List T) (x30 : Int) (x31 : List T) : CSt := ⟨[.ro 0 false [.i .u8] l0, .rf 1 [] 0 none, .i .i64 x30], [.dead, .row false [.i .u8] x31 0 false]⟩
theorem f47_0_round (c : Orc) (lf : Nat) (l0 : List T) (L : CSt → Option (List T)) (x30 : Int) (x31 : List T) :
    roundK c env lf 6 fi47 1 3 [] [0, 3, 4] (x47_3_0) L (f47_0_c l0 x30 x31) = f47_0_s c lf l0 (fun x30 x31 => L (f47_0_c l0 x30 x31)) x30 x31 := by kernel_rfl
def f47_0 (c : Orc) (lf : Nat) (l0 : List T) : Nat → Int → List T → Option (List T)
  | 0 => fun _ _ => none
  | n + 1 => fun x30 x31 => f47_0_s c lf l0 (f47_0 c lf l0 n) x30 x31
theorem f47_0_u (c : Orc) (lf : Nat) (l0 : List T) (n : Nat) (x30 : Int) (x31 : List T) : f47_0 c lf l0 (n + 1) x30 x31 = f47_0_s c lf l0 (f47_0 c lf l0 n) x30 x31 := rfl
theorem f47_0_eq (c : Orc) (lf : Nat) (l0 : List T) (n : Nat) (x30 : Int) (x31 : List T) :
    lpK c env lf 6 fi47 1 3 [] [0, 3, 4] (x47_3_0) n (f47_0_c l0 x30 x31) = f47_0 c lf l0 n x30 x31 := by
  induction n generalizing x30 x31 with
  | zero => rfl
  | succ n ih =>
    refine (f47_0_round c lf l0 _ x30 x31).trans ?_
    have e : (fun x30 x31 => lpK c env lf 6 fi47 1 3 [] [0, 3, 4] (x47_3_0) n (f47_0_c l0 x30 x31)) = f47_0 c lf l0 n := by funext x30 x31; exact ih x30 x31
    show f47_0_s c lf l0 (fun x30 x31 => lpK c env lf 6 fi47 1 3 [] [0, 3, 4] (x47_3_0) n (f47_0_c l0 x30 x31)) x30 x31 = _
    rw [e]; rfl
/-- loop.example/g00285/laws.toByteS -/
def f47_t (c : Orc) (lf : Nat) (lp0 : List T → Int → List T → Option (List T)) (l0 : List T) : Option (List T) :=
  bif iLe 0 (l0.length : Int) && iLe (l0.length : Int) (LIM : Int) && ((l0.length : Int) == (l0.length : Int)) then
  (lp0 l0 0 (List.replicate (l0.length : Int).toNat (T.i .u8 0))).bind fun r32 =>
  some [T.sl (asL (nth r32 1))]
  else none
def f47 (c : Orc) (lf : Nat) (l0 : List T) : Option (List T) := f47_t c lf (fun (l0 : List T) (x30 : Int) (x31 : List T) => f47_0 c lf l0 lf x30 x31) l0
theorem f47_raw (c : Orc) (lf : Nat) (l0 : List T) : funK c env lf 6 fi47 [.sl l0] = f47_t c lf (fun (l0 : List T) (x30 : Int) (x31 : List T) => lpK c env lf 6 fi47 1 3 [] [0, 3, 4] (x47_3_0) lf (f47_0_c l0 x30 x31)) l0 := by kernel_rfl
theorem f47_eq (c : Orc) (lf : Nat) (l0 : List T) : funK c env lf 6 fi47 [.sl l0] = f47 c lf l0 := by
  refine (f47_raw c lf l0).trans ?_
  have e0 : (fun (l0 : List T) (x30 : Int) (x31 : List T) => lpK c env lf 6 fi47 1 3 [] [0, 3, 4] (x47_3_0) lf (f47_0_c l0 x30 x31)) = (fun (l0 : List T) (x30 : Int) (x31 : List T) => f47_0 c lf l0 lf x30 x31) := by funext l0 x30 x31; exact f47_0_eq c lf l0 lf x30 x31
  rw [e0]; rfl
/-- loop.example/g00285/laws.toPage -/
def f253_t (c : Orc) (lf : Nat) (b0_0 : Bool) (l0_1 : List T) : Option (List T) :=
  (c 47 [T.sl l0_1]).bind fun r33 =>
  some [T.st [T.b b0_0, T.sl (asL (nth r33 0))]]
def f253 (c : Orc) (lf : Nat) (b0_0 : Bool) (l0_1 : List T) : Option (List T) := f253_t c lf b0_0 l0_1
theorem f253_raw (c : Orc) (lf : Nat) (b0_0 : Bool) (l0_1 : List T) : funK c env lf 6 fi253 [.st [.b b0_0, .sl l0_1]] = f253_t c lf b0_0 l0_1 := by kernel_rfl
theorem f253_eq (c : Orc) (lf : Nat) (b0_0 : Bool) (l0_1 : List T) : funK c env lf 6 fi253 [.st [.b b0_0, .sl l0_1]] = f253 c lf b0_0 l0_1 := by
  refine (f253_raw c lf b0_0 l0_1).trans ?_
  rfl
/-- loop.example/g00285/laws.toPageS, the loop at region 3. -/
def f243_0_s (c : Orc) (lf : Nat) (l0 : List T) (L : Int → List T → Option (List T)) (x40 : Int) (x41 : List T) : Option (List T) :=
  bif iLt x40 (l0.length : Int) then
    bif inR x40 l0.length then
    (c 253 [T.st [T.b (asB (T.cell (l0.getD x40.toNat T.u) 0)), T.sl (asL (T.cell (l0.getD x40.toNat T.u) 1))]]).bind fun r42 =>
    bif inR x40 x41.length then
    L (IntKind.wrap .i64 (x40 + 1)) (x41.set x40.toNat (T.st [T.b (asB (T.cell (nth r42 0) 0)), T.sl (asL (T.cell (nth r42 0) 1))]))
    else none
    else none
  else
    some [T.i .i64 0, T.sl x41]
def f243_0_c (l0 : List T) (x40 : Int) (x41 : List T) : CSt := ⟨[.ro 0 true [.b, .sl false [.i .u8]] l0, .rf 1 [] 0 none, .i .i64 x40], [.dead, .row true [.b, .sl false [.i .u8]] x41 0 false]⟩
theorem f243_0_round (c : Orc) (lf : Nat) (l0 : List T) (L : CSt → Option (List T)) (x40 : Int) (x41 : List T) :
    roundK c env lf 6 fi243 1 3 [] [0, 3, 4] (x243_3_0) L (f243_0_c l0 x40 x41) = f243_0_s c lf l0 (fun x40 x41 => L (f243_0_c l0 x40 x41)) x40 x41 := by kernel_rfl
def f243_0 (c : Orc) (lf : Nat) (l0 : List T) : Nat → Int → List T → Option (List T)
  | 0 => fun _ _ => none
  | n + 1 => fun x40 x41 => f243_0_s c lf l0 (f243_0 c lf l0 n) x40 x41
theorem f243_0_u (c : Orc) (lf : Nat) (l0 : List T) (n : Nat) (x40 : Int) (x41 : List T) : f243_0 c lf l0 (n + 1) x40 x41 = f243_0_s c lf l0 (f243_0 c lf l0 n) x40 x41 := rfl
theorem f243_0_eq (c : Orc) (lf : Nat) (l0 : List T) (n : Nat) (x40 : Int) (x41 : List T) :
    lpK c env lf 6 fi243 1 3 [] [0, 3, 4] (x243_3_0) n (f243_0_c l0 x40 x41) = f243_0 c lf l0 n x40 x41 := by
  induction n generalizing x40 x41 with
  | zero => rfl
  | succ n ih =>
    refine (f243_0_round c lf l0 _ x40 x41).trans ?_
    have e : (fun x40 x41 => lpK c env lf 6 fi243 1 3 [] [0, 3, 4] (x243_3_0) n (f243_0_c l0 x40 x41)) = f243_0 c lf l0 n := by funext x40 x41; exact ih x40 x41
    show f243_0_s c lf l0 (fun x40 x41 => lpK c env lf 6 fi243 1 3 [] [0, 3, 4] (x243_3_0) n (f243_0_c l0 x40 x41)) x40 x41 = _
    rw [e]; rfl
/-- loop.example/g00285/laws.toPageS -/
def f243_t (c : Orc) (lf : Nat) (lp0 : List T → Int → List T → Option (List T)) (l0 : List T) : Option (List T) :=
  bif iLe 0 (l0.length : Int) && iLe (l0.length : Int) (LIM : Int) && ((l0.length : Int) == (l0.length : Int)) then
  (lp0 l0 0 (List.replicate (l0.length : Int).toNat (T.st [T.b false, T.sl []]))).bind fun r43 =>
  some [T.sl (asL (nth r43 1))]
  else none
def f243 (c : Orc) (lf : Nat) (l0 : List T) : Option (List T) := f243_t c lf (fun (l0 : List T) (x40 : Int) (x41 : List T) => f243_0 c lf l0 lf x40 x41) l0
theorem f243_raw (c : Orc) (lf : Nat) (l0 : List T) : funK c env lf 6 fi243 [.sl l0] = f243_t c lf (fun (l0 : List T) (x40 : Int) (x41 : List T) => lpK c env lf 6 fi243 1 3 [] [0, 3, 4] (x243_3_0) lf (f243_0_c l0 x40 x41)) l0 := by kernel_rfl
theorem f243_eq (c : Orc) (lf : Nat) (l0 : List T) : funK c env lf 6 fi243 [.sl l0] = f243 c lf l0 := by
  refine (f243_raw c lf l0).trans ?_
  have e0 : (fun (l0 : List T) (x40 : Int) (x41 : List T) => lpK c env lf 6 fi243 1 3 [] [0, 3, 4] (x243_3_0) lf (f243_0_c l0 x40 x41)) = (fun (l0 : List T) (x40 : Int) (x41 : List T) => f243_0 c lf l0 lf x40 x41) := by funext l0 x40 x41; exact f243_0_eq c lf l0 lf x40 x41
  rw [e0]; rfl
/-- loop.example/g00285/laws.toBlock -/
def f220_t (c : Orc) (lf : Nat) (l0_0 : List T) (n0_1 : Int) (b0_2 : Bool) : Option (List T) :=
  (c 243 [T.sl l0_0]).bind fun r44 =>
  some [T.st [T.sl (asL (nth r44 0)), T.i .i64 n0_1, T.b b0_2]]
def f220 (c : Orc) (lf : Nat) (l0_0 : List T) (n0_1 : Int) (b0_2 : Bool) : Option (List T) := f220_t c lf l0_0 n0_1 b0_2
theorem f220_raw (c : Orc) (lf : Nat) (l0_0 : List T) (n0_1 : Int) (b0_2 : Bool) : funK c env lf 6 fi220 [.st [.sl l0_0, .i .i64 n0_1, .b b0_2]] = f220_t c lf l0_0 n0_1 b0_2 := by kernel_rfl
theorem f220_eq (c : Orc) (lf : Nat) (l0_0 : List T) (n0_1 : Int) (b0_2 : Bool) : funK c env lf 6 fi220 [.st [.sl l0_0, .i .i64 n0_1, .b b0_2]] = f220 c lf l0_0 n0_1 b0_2 := by
  refine (f220_raw c lf l0_0 n0_1 b0_2).trans ?_
  rfl
/-- loop.example/g00285/laws.toBlockS, the loop at region 3. -/
def f177_0_s (c : Orc) (lf : Nat) (l0 : List T) (L : Int → List T → Option (List T)) (x51 : Int) (x52 : List T) : Option (List T) :=
  bif iLt x51 (l0.length : Int) then
    bif inR x51 l0.length then
    (c 220 [T.st [T.sl (asL (T.cell (l0.getD x51.toNat T.u) 0)), T.i .i64 (asI (T.cell (l0.getD x51.toNat T.u) 1)), T.b (asB (T.cell (l0.getD x51.toNat T.u) 2))]]).bind fun r53 =>
    bif inR x51 x52.length then
    L (IntKind.wrap .i64 (x51 + 1)) (x52.set x51.toNat (T.st [T.sl (asL (T.cell (nth r53 0) 0)), T.i .i64 (asI (T.cell (nth r53 0) 1)), T.b (asB (T.cell (nth r53 0) 2))]))
    else none
    else none
  else
    some [T.i .i64 0, T.sl x52]
def f177_0_c (l0 : List T) (x51 : Int) (x52 : List T) : CSt := ⟨[.ro 0 true [.sl true [.b, .sl false [.i .u8]], .i .i64, .b] l0, .rf 1 [] 0 none, .i .i64 x51], [.dead, .row true [.sl true [.b, .sl false [.i .u8]], .i .i64, .b] x52 0 false]⟩
theorem f177_0_round (c : Orc) (lf : Nat) (l0 : List T) (L : CSt → Option (List T)) (x51 : Int) (x52 : List T) :
    roundK c env lf 6 fi177 1 3 [] [0, 3, 4] (x177_3_0) L (f177_0_c l0 x51 x52) = f177_0_s c lf l0 (fun x51 x52 => L (f177_0_c l0 x51 x52)) x51 x52 := by kernel_rfl
def f177_0 (c : Orc) (lf : Nat) (l0 : List T) : Nat → Int → List T → Option (List T)
  | 0 => fun _ _ => none
  | n + 1 => fun x51 x52 => f177_0_s c lf l0 (f177_0 c lf l0 n) x51 x52
theorem f177_0_u (c : Orc) (lf : Nat) (l0 : List T) (n : Nat) (x51 : Int) (x52 : List T) : f177_0 c lf l0 (n + 1) x51 x52 = f177_0_s c lf l0 (f177_0 c lf l0 n) x51 x52 := rfl
theorem f177_0_eq (c : Orc) (lf : Nat) (l0 : List T) (n : Nat) (x51 : Int) (x52 : List T) :
    lpK c env lf 6 fi177 1 3 [] [0, 3, 4] (x177_3_0) n (f177_0_c l0 x51 x52) = f177_0 c lf l0 n x51 x52 := by
  induction n generalizing x51 x52 with
  | zero => rfl
  | succ n ih =>
    refine (f177_0_round c lf l0 _ x51 x52).trans ?_
    have e : (fun x51 x52 => lpK c env lf 6 fi177 1 3 [] [0, 3, 4] (x177_3_0) n (f177_0_c l0 x51 x52)) = f177_0 c lf l0 n := by funext x51 x52; exact ih x51 x52
    show f177_0_s c lf l0 (fun x51 x52 => lpK c env lf 6 fi177 1 3 [] [0, 3, 4] (x177_3_0) n (f177_0_c l0 x51 x52)) x51 x52 = _
    rw [e]; rfl
/-- loop.example/g00285/laws.toBlockS -/
def f177_t (c : Orc) (lf : Nat) (lp0 : List T → Int → List T → Option (List T)) (l0 : List T) : Option (List T) :=
  bif iLe 0 (l0.length : Int) && iLe (l0.length : Int) (LIM : Int) && ((l0.length : Int) == (l0.length : Int)) then
  (lp0 l0 0 (List.replicate (l0.length : Int).toNat (T.st [T.sl [], T.i .i64 0, T.b false]))).bind fun r54 =>
  some [T.sl (asL (nth r54 1))]
  else none
def f177 (c : Orc) (lf : Nat) (l0 : List T) : Option (List T) := f177_t c lf (fun (l0 : List T) (x51 : Int) (x52 : List T) => f177_0 c lf l0 lf x51 x52) l0
theorem f177_raw (c : Orc) (lf : Nat) (l0 : List T) : funK c env lf 6 fi177 [.sl l0] = f177_t c lf (fun (l0 : List T) (x51 : Int) (x52 : List T) => lpK c env lf 6 fi177 1 3 [] [0, 3, 4] (x177_3_0) lf (f177_0_c l0 x51 x52)) l0 := by kernel_rfl
theorem f177_eq (c : Orc) (lf : Nat) (l0 : List T) : funK c env lf 6 fi177 [.sl l0] = f177 c lf l0 := by
  refine (f177_raw c lf l0).trans ?_
  have e0 : (fun (l0 : List T) (x51 : Int) (x52 : List T) => lpK c env lf 6 fi177 1 3 [] [0, 3, 4] (x177_3_0) lf (f177_0_c l0 x51 x52)) = (fun (l0 : List T) (x51 : Int) (x52 : List T) => f177_0 c lf l0 lf x51 x52) := by funext l0 x51 x52; exact f177_0_eq c lf l0 lf x51 x52
  rw [e0]; rfl
/-- loop.example/g00285/laws.toChip -/
def f126_t (c : Orc) (lf : Nat) (l0_0 : List T) : Option (List T) :=
  (c 177 [T.sl l0_0]).bind fun r55 =>
  some [T.st [T.sl (asL (nth r55 0))]]
def f126 (c : Orc) (lf : Nat) (l0_0 : List T) : Option (List T) := f126_t c lf l0_0
theorem f126_raw (c : Orc) (lf : Nat) (l0_0 : List T) : funK c env lf 6 fi126 [.st [.sl l0_0]] = f126_t c lf l0_0 := by kernel_rfl
theorem f126_eq (c : Orc) (lf : Nat) (l0_0 : List T) : funK c env lf 6 fi126 [.st [.sl l0_0]] = f126 c lf l0_0 := by
  refine (f126_raw c lf l0_0).trans ?_
  rfl
/-- loop.example/g00285/laws.toFault -/
def f178_t (c : Orc) (lf : Nat) (n0_0 : Int) (n0_1 : Int) (n0_2 : Int) : Option (List T) :=
  some [T.st [T.i .i64 n0_0, T.i .i64 n0_1, T.i .i64 n0_2]]
def f178 (c : Orc) (lf : Nat) (n0_0 : Int) (n0_1 : Int) (n0_2 : Int) : Option (List T) := f178_t c lf n0_0 n0_1 n0_2
theorem f178_raw (c : Orc) (lf : Nat) (n0_0 : Int) (n0_1 : Int) (n0_2 : Int) : funK c env lf 6 fi178 [.st [.i .i64 n0_0, .i .i64 n0_1, .i .i64 n0_2]] = f178_t c lf n0_0 n0_1 n0_2 := by kernel_rfl
theorem f178_eq (c : Orc) (lf : Nat) (n0_0 : Int) (n0_1 : Int) (n0_2 : Int) : funK c env lf 6 fi178 [.st [.i .i64 n0_0, .i .i64 n0_1, .i .i64 n0_2]] = f178 c lf n0_0 n0_1 n0_2 := by
  refine (f178_raw c lf n0_0 n0_1 n0_2).trans ?_
  rfl
/-- loop.example/g00285/laws.toFaultS, the loop at region 3. -/
def f127_0_s (c : Orc) (lf : Nat) (l0 : List T) (L : Int → List T → Option (List T)) (x62 : Int) (x63 : List T) : Option (List T) :=
  bif iLt x62 (l0.length : Int) then
    bif inR x62 l0.length then
    (c 178 [T.st [T.i .i64 (asI (T.cell (l0.getD x62.toNat T.u) 0)), T.i .i64 (asI (T.cell (l0.getD x62.toNat T.u) 1)), T.i .i64 (asI (T.cell (l0.getD x62.toNat T.u) 2))]]).bind fun r64 =>
    bif inR x62 x63.length then
    L (IntKind.wrap .i64 (x62 + 1)) (x63.set x62.toNat (T.st [T.i .i64 (asI (T.cell (nth r64 0) 0)), T.i .i64 (asI (T.cell (nth r64 0) 1)), T.i .i64 (asI (T.cell (nth r64 0) 2))]))
    else none
    else none
  else
    some [T.i .i64 0, T.sl x63]
def f127_0_c (l0 : List T) (x62 : Int) (x63 : List T) : CSt := ⟨[.ro 0 true [.i .i64, .i .i64, .i .i64] l0, .rf 1 [] 0 none, .i .i64 x62], [.dead, .row true [.i .i64, .i .i64, .i .i64] x63 0 false]⟩
theorem f127_0_round (c : Orc) (lf : Nat) (l0 : List T) (L : CSt → Option (List T)) (x62 : Int) (x63 : List T) :
    roundK c env lf 6 fi127 1 3 [] [0, 3, 4] (x127_3_0) L (f127_0_c l0 x62 x63) = f127_0_s c lf l0 (fun x62 x63 => L (f127_0_c l0 x62 x63)) x62 x63 := by kernel_rfl
def f127_0 (c : Orc) (lf : Nat) (l0 : List T) : Nat → Int → List T → Option (List T)
  | 0 => fun _ _ => none
  | n + 1 => fun x62 x63 => f127_0_s c lf l0 (f127_0 c lf l0 n) x62 x63
theorem f127_0_u (c : Orc) (lf : Nat) (l0 : List T) (n : Nat) (x62 : Int) (x63 : List T) : f127_0 c lf l0 (n + 1) x62 x63 = f127_0_s c lf l0 (f127_0 c lf l0 n) x62 x63 := rfl
theorem f127_0_eq (c : Orc) (lf : Nat) (l0 : List T) (n : Nat) (x62 : Int) (x63 : List T) :
    lpK c env lf 6 fi127 1 3 [] [0, 3, 4] (x127_3_0) n (f127_0_c l0 x62 x63) = f127_0 c lf l0 n x62 x63 := by
  induction n generalizing x62 x63 with
  | zero => rfl
  | succ n ih =>
    refine (f127_0_round c lf l0 _ x62 x63).trans ?_
    have e : (fun x62 x63 => lpK c env lf 6 fi127 1 3 [] [0, 3, 4] (x127_3_0) n (f127_0_c l0 x62 x63)) = f127_0 c lf l0 n := by funext x62 x63; exact ih x62 x63
    show f127_0_s c lf l0 (fun x62 x63 => lpK c env lf 6 fi127 1 3 [] [0, 3, 4] (x127_3_0) n (f127_0_c l0 x62 x63)) x62 x63 = _
    rw [e]; rfl
/-- loop.example/g00285/laws.toFaultS -/
def f127_t (c : Orc) (lf : Nat) (lp0 : List T → Int → List T → Option (List T)) (l0 : List T) : Option (List T) :=
  bif iLe 0 (l0.length : Int) && iLe (l0.length : Int) (LIM : Int) && ((l0.length : Int) == (l0.length : Int)) then
  (lp0 l0 0 (List.replicate (l0.length : Int).toNat (T.st [T.i .i64 0, T.i .i64 0, T.i .i64 0]))).bind fun r65 =>
  some [T.sl (asL (nth r65 1))]
  else none
def f127 (c : Orc) (lf : Nat) (l0 : List T) : Option (List T) := f127_t c lf (fun (l0 : List T) (x62 : Int) (x63 : List T) => f127_0 c lf l0 lf x62 x63) l0
theorem f127_raw (c : Orc) (lf : Nat) (l0 : List T) : funK c env lf 6 fi127 [.sl l0] = f127_t c lf (fun (l0 : List T) (x62 : Int) (x63 : List T) => lpK c env lf 6 fi127 1 3 [] [0, 3, 4] (x127_3_0) lf (f127_0_c l0 x62 x63)) l0 := by kernel_rfl
theorem f127_eq (c : Orc) (lf : Nat) (l0 : List T) : funK c env lf 6 fi127 [.sl l0] = f127 c lf l0 := by
  refine (f127_raw c lf l0).trans ?_
  have e0 : (fun (l0 : List T) (x62 : Int) (x63 : List T) => lpK c env lf 6 fi127 1 3 [] [0, 3, 4] (x127_3_0) lf (f127_0_c l0 x62 x63)) = (fun (l0 : List T) (x62 : Int) (x63 : List T) => f127_0 c lf l0 lf x62 x63) := by funext l0 x62 x63; exact f127_0_eq c lf l0 lf x62 x63
  rw [e0]; rfl
/-- loop.example/g00285/laws.toDev -/
def f73_t (c : Orc) (lf : Nat) (l0_0 : List T) (n0_1 : Int) (l0_2 : List T) (b0_3 : Bool) : Option (List T) :=
  (c 126 [T.st [T.sl l0_0]]).bind fun r66 =>
  (c 127 [T.sl l0_2]).bind fun r67 =>
  some [T.st [T.sl (asL (T.cell (nth r66 0) 0)), T.i .i64 n0_1, T.sl (asL (nth r67 0)), T.b b0_3]]
def f73 (c : Orc) (lf : Nat) (l0_0 : List T) (n0_1 : Int) (l0_2 : List T) (b0_3 : Bool) : Option (List T) := f73_t c lf l0_0 n0_1 l0_2 b0_3
theorem f73_raw (c : Orc) (lf : Nat) (l0_0 : List T) (n0_1 : Int) (l0_2 : List T) (b0_3 : Bool) : funK c env lf 6 fi73 [.st [.sl l0_0, .i .i64 n0_1, .sl l0_2, .b b0_3]] = f73_t c lf l0_0 n0_1 l0_2 b0_3 := by kernel_rfl
theorem f73_eq (c : Orc) (lf : Nat) (l0_0 : List T) (n0_1 : Int) (l0_2 : List T) (b0_3 : Bool) : funK c env lf 6 fi73 [.st [.sl l0_0, .i .i64 n0_1, .sl l0_2, .b b0_3]] = f73 c lf l0_0 n0_1 l0_2 b0_3 := by
  refine (f73_raw c lf l0_0 n0_1 l0_2 b0_3).trans ?_
  rfl
/-- loop.example/g00285/laws.toLog -/
def f20_t (c : Orc) (lf : Nat) (l0_0 : List T) (n0_1 : Int) (l0_2 : List T) (b0_3 : Bool) (n0_4 : Int) : Option (List T) :=
  (c 73 [T.st [T.sl l0_0, T.i .i64 n0_1, T.sl l0_2, T.b b0_3]]).bind fun r68 =>
  some [T.st [T.sl (asL (T.cell (nth r68 0) 0)), T.i .i64 (asI (T.cell (nth r68 0) 1)), T.sl (asL (T.cell (nth r68 0) 2)), T.b (asB (T.cell (nth r68 0) 3)), T.i .i64 n0_4]]
def f20 (c : Orc) (lf : Nat) (l0_0 : List T) (n0_1 : Int) (l0_2 : List T) (b0_3 : Bool) (n0_4 : Int) : Option (List T) := f20_t c lf l0_0 n0_1 l0_2 b0_3 n0_4
theorem f20_raw (c : Orc) (lf : Nat) (l0_0 : List T) (n0_1 : Int) (l0_2 : List T) (b0_3 : Bool) (n0_4 : Int) : funK c env lf 6 fi20 [.st [.sl l0_0, .i .i64 n0_1, .sl l0_2, .b b0_3, .i .i64 n0_4]] = f20_t c lf l0_0 n0_1 l0_2 b0_3 n0_4 := by kernel_rfl
theorem f20_eq (c : Orc) (lf : Nat) (l0_0 : List T) (n0_1 : Int) (l0_2 : List T) (b0_3 : Bool) (n0_4 : Int) : funK c env lf 6 fi20 [.st [.sl l0_0, .i .i64 n0_1, .sl l0_2, .b b0_3, .i .i64 n0_4]] = f20 c lf l0_0 n0_1 l0_2 b0_3 n0_4 := by
  refine (f20_raw c lf l0_0 n0_1 l0_2 b0_3 n0_4).trans ?_
  rfl
/-- loop.example/g00285/spec.l10CopyBlock, the loop at region 3. -/
def f228_0_s (c : Orc) (lf : Nat) (b0_2 : Bool) (l0_0 : List T) (n0_1 : Int) (L : Int → List T → Option (List T)) (x72 : Int) (x73 : List T) : Option (List T) :=
  bif iLt x72 (l0_0.length : Int) then
    bif inR x72 l0_0.length then
    bif inR x72 l0_0.length then
    bif nLe (([] : List T).length + (asL (T.cell (l0_0.getD x72.toNat T.u) 1)).length) LIM then
    bif nLe (x73.length + ([T.st [T.b (asB (T.cell (l0_0.getD x72.toNat T.u) 0)), T.sl (([] : List T) ++ (asL (T.cell (l0_0.getD x72.toNat T.u) 1)))]] : List T).length) LIM then
    L (IntKind.wrap .i64 (x72 + 1)) (x73 ++ ([T.st [T.b (asB (T.cell (l0_0.getD x72.toNat T.u) 0)), T.sl (([] : List T) ++ (asL (T.cell (l0_0.getD x72.toNat T.u) 1)))]] : List T))
    else none
    else none
    else none
    else none
  else
    some [T.i .i64 0, T.i .i64 0, T.b false, T.sl ([] : List T), T.i .i64 n0_1, T.b b0_2, T.sl x73]
def f228_0_c (b0_2 : Bool) (l0_0 : List T) (n0_1 : Int) (x72 : Int) (x73 : List T) : CSt := ⟨[.bp 3 0, .bp 4 0, .bp 6 0, .i .i64 x72], [.dead, .dead, .dead, .box [.ro 0 true [.b, .sl false [.i .u8]] l0_0, .i .i64 n0_1, .b b0_2], .box [.rf 5 [] 0 none, .i .i64 0, .b false], .row true [.b, .sl false [.i .u8]] ([] : List T) 0 false, .box [.rf 7 [] 0 none, .i .i64 n0_1, .b b0_2], .row true [.b, .sl false [.i .u8]] x73 0 false]⟩
theorem f228_0_round (c : Orc) (lf : Nat) (b0_2 : Bool) (l0_0 : List T) (n0_1 : Int) (L : CSt → Option (List T)) (x72 : Int) (x73 : List T) :
    roundK c env lf 6 fi228 3 3 [] [1, 2, 3, 4] (x228_3_0) L (f228_0_c b0_2 l0_0 n0_1 x72 x73) = f228_0_s c lf b0_2 l0_0 n0_1 (fun x72 x73 => L (f228_0_c b0_2 l0_0 n0_1 x72 x73)) x72 x73 := by kernel_rfl
def f228_0 (c : Orc) (lf : Nat) (b0_2 : Bool) (l0_0 : List T) (n0_1 : Int) : Nat → Int → List T → Option (List T)
  | 0 => fun _ _ => none
  | n + 1 => fun x72 x73 => f228_0_s c lf b0_2 l0_0 n0_1 (f228_0 c lf b0_2 l0_0 n0_1 n) x72 x73
theorem f228_0_u (c : Orc) (lf : Nat) (b0_2 : Bool) (l0_0 : List T) (n0_1 : Int) (n : Nat) (x72 : Int) (x73 : List T) : f228_0 c lf b0_2 l0_0 n0_1 (n + 1) x72 x73 = f228_0_s c lf b0_2 l0_0 n0_1 (f228_0 c lf b0_2 l0_0 n0_1 n) x72 x73 := rfl
theorem f228_0_eq (c : Orc) (lf : Nat) (b0_2 : Bool) (l0_0 : List T) (n0_1 : Int) (n : Nat) (x72 : Int) (x73 : List T) :
    lpK c env lf 6 fi228 3 3 [] [1, 2, 3, 4] (x228_3_0) n (f228_0_c b0_2 l0_0 n0_1 x72 x73) = f228_0 c lf b0_2 l0_0 n0_1 n x72 x73 := by
  induction n generalizing x72 x73 with
  | zero => rfl
  | succ n ih =>
    refine (f228_0_round c lf b0_2 l0_0 n0_1 _ x72 x73).trans ?_
    have e : (fun x72 x73 => lpK c env lf 6 fi228 3 3 [] [1, 2, 3, 4] (x228_3_0) n (f228_0_c b0_2 l0_0 n0_1 x72 x73)) = f228_0 c lf b0_2 l0_0 n0_1 n := by funext x72 x73; exact ih x72 x73
    show f228_0_s c lf b0_2 l0_0 n0_1 (fun x72 x73 => lpK c env lf 6 fi228 3 3 [] [1, 2, 3, 4] (x228_3_0) n (f228_0_c b0_2 l0_0 n0_1 x72 x73)) x72 x73 = _
    rw [e]; rfl
/-- loop.example/g00285/spec.l10CopyBlock -/
def f228_t (c : Orc) (lf : Nat) (lp0 : Bool → List T → Int → Int → List T → Option (List T)) (l0_0 : List T) (n0_1 : Int) (b0_2 : Bool) : Option (List T) :=
  (lp0 b0_2 l0_0 n0_1 0 ([] : List T)).bind fun r74 =>
  some [T.st [T.sl (asL (nth r74 6)), T.i .i64 (asI (nth r74 4)), T.b (asB (nth r74 5))]]
def f228 (c : Orc) (lf : Nat) (l0_0 : List T) (n0_1 : Int) (b0_2 : Bool) : Option (List T) := f228_t c lf (fun (b0_2 : Bool) (l0_0 : List T) (n0_1 : Int) (x72 : Int) (x73 : List T) => f228_0 c lf b0_2 l0_0 n0_1 lf x72 x73) l0_0 n0_1 b0_2
theorem f228_raw (c : Orc) (lf : Nat) (l0_0 : List T) (n0_1 : Int) (b0_2 : Bool) : funK c env lf 6 fi228 [.st [.sl l0_0, .i .i64 n0_1, .b b0_2]] = f228_t c lf (fun (b0_2 : Bool) (l0_0 : List T) (n0_1 : Int) (x72 : Int) (x73 : List T) => lpK c env lf 6 fi228 3 3 [] [1, 2, 3, 4] (x228_3_0) lf (f228_0_c b0_2 l0_0 n0_1 x72 x73)) l0_0 n0_1 b0_2 := by kernel_rfl
theorem f228_eq (c : Orc) (lf : Nat) (l0_0 : List T) (n0_1 : Int) (b0_2 : Bool) : funK c env lf 6 fi228 [.st [.sl l0_0, .i .i64 n0_1, .b b0_2]] = f228 c lf l0_0 n0_1 b0_2 := by
  refine (f228_raw c lf l0_0 n0_1 b0_2).trans ?_
  have e0 : (fun (b0_2 : Bool) (l0_0 : List T) (n0_1 : Int) (x72 : Int) (x73 : List T) => lpK c env lf 6 fi228 3 3 [] [1, 2, 3, 4] (x228_3_0) lf (f228_0_c b0_2 l0_0 n0_1 x72 x73)) = (fun (b0_2 : Bool) (l0_0 : List T) (n0_1 : Int) (x72 : Int) (x73 : List T) => f228_0 c lf b0_2 l0_0 n0_1 lf x72 x73) := by funext b0_2 l0_0 n0_1 x72 x73; exact f228_0_eq c lf b0_2 l0_0 n0_1 lf x72 x73
  rw [e0]; rfl
/-- loop.example/g00285/spec.l10Copy, the loop at region 3. -/
def f194_0_s (c : Orc) (lf : Nat) (l0_0 : List T) (L : Int → List T → Option (List T)) (x81 : Int) (x82 : List T) : Option (List T) :=
  bif iLt x81 (l0_0.length : Int) then
    bif inR x81 l0_0.length then
    (c 228 [T.st [T.sl (asL (T.cell (l0_0.getD x81.toNat T.u) 0)), T.i .i64 (asI (T.cell (l0_0.getD x81.toNat T.u) 1)), T.b (asB (T.cell (l0_0.getD x81.toNat T.u) 2))]]).bind fun r83 =>
    bif nLe (x82.length + ([T.st [T.sl (asL (T.cell (nth r83 0) 0)), T.i .i64 (asI (T.cell (nth r83 0) 1)), T.b (asB (T.cell (nth r83 0) 2))]] : List T).length) LIM then
    L (IntKind.wrap .i64 (x81 + 1)) (x82 ++ ([T.st [T.sl (asL (T.cell (nth r83 0) 0)), T.i .i64 (asI (T.cell (nth r83 0) 1)), T.b (asB (T.cell (nth r83 0) 2))]] : List T))
    else none
    else none
  else
    some [T.i .i64 0, T.sl ([] : List T), T.sl x82]
def f194_0_c (l0_0 : List T) (x81 : Int) (x82 : List T) : CSt := ⟨[.bp 1 0, .bp 2 0, .bp 4 0, .i .i64 x81], [.dead, .box [.ro 0 true [.sl true [.b, .sl false [.i .u8]], .i .i64, .b] l0_0], .box [.rf 3 [] 0 none], .row true [.sl true [.b, .sl false [.i .u8]], .i .i64, .b] ([] : List T) 0 false, .box [.rf 5 [] 0 none], .row true [.sl true [.b, .sl false [.i .u8]], .i .i64, .b] x82 0 false]⟩
theorem f194_0_round (c : Orc) (lf : Nat) (l0_0 : List T) (L : CSt → Option (List T)) (x81 : Int) (x82 : List T) :
    roundK c env lf 6 fi194 1 3 [] [1, 2, 3, 4] (x194_3_0) L (f194_0_c l0_0 x81 x82) = f194_0_s c lf l0_0 (fun x81 x82 => L (f194_0_c l0_0 x81 x82)) x81 x82 := by kernel_rfl
def f194_0 (c : Orc) (lf : Nat) (l0_0 : List T) : Nat → Int → List T → Option (List T)
  | 0 => fun _ _ => none
  | n + 1 => fun x81 x82 => f194_0_s c lf l0_0 (f194_0 c lf l0_0 n) x81 x82
theorem f194_0_u (c : Orc) (lf : Nat) (l0_0 : List T) (n : Nat) (x81 : Int) (x82 : List T) : f194_0 c lf l0_0 (n + 1) x81 x82 = f194_0_s c lf l0_0 (f194_0 c lf l0_0 n) x81 x82 := rfl
theorem f194_0_eq (c : Orc) (lf : Nat) (l0_0 : List T) (n : Nat) (x81 : Int) (x82 : List T) :
    lpK c env lf 6 fi194 1 3 [] [1, 2, 3, 4] (x194_3_0) n (f194_0_c l0_0 x81 x82) = f194_0 c lf l0_0 n x81 x82 := by
  induction n generalizing x81 x82 with
  | zero => rfl
  | succ n ih =>
    refine (f194_0_round c lf l0_0 _ x81 x82).trans ?_
    have e : (fun x81 x82 => lpK c env lf 6 fi194 1 3 [] [1, 2, 3, 4] (x194_3_0) n (f194_0_c l0_0 x81 x82)) = f194_0 c lf l0_0 n := by funext x81 x82; exact ih x81 x82
    show f194_0_s c lf l0_0 (fun x81 x82 => lpK c env lf 6 fi194 1 3 [] [1, 2, 3, 4] (x194_3_0) n (f194_0_c l0_0 x81 x82)) x81 x82 = _
    rw [e]; rfl
/-- loop.example/g00285/spec.l10Copy -/
def f194_t (c : Orc) (lf : Nat) (lp0 : List T → Int → List T → Option (List T)) (l0_0 : List T) : Option (List T) :=
  (lp0 l0_0 0 ([] : List T)).bind fun r84 =>
  some [T.st [T.sl (asL (nth r84 2))]]
def f194 (c : Orc) (lf : Nat) (l0_0 : List T) : Option (List T) := f194_t c lf (fun (l0_0 : List T) (x81 : Int) (x82 : List T) => f194_0 c lf l0_0 lf x81 x82) l0_0
theorem f194_raw (c : Orc) (lf : Nat) (l0_0 : List T) : funK c env lf 6 fi194 [.st [.sl l0_0]] = f194_t c lf (fun (l0_0 : List T) (x81 : Int) (x82 : List T) => lpK c env lf 6 fi194 1 3 [] [1, 2, 3, 4] (x194_3_0) lf (f194_0_c l0_0 x81 x82)) l0_0 := by kernel_rfl
theorem f194_eq (c : Orc) (lf : Nat) (l0_0 : List T) : funK c env lf 6 fi194 [.st [.sl l0_0]] = f194 c lf l0_0 := by
  refine (f194_raw c lf l0_0).trans ?_
  have e0 : (fun (l0_0 : List T) (x81 : Int) (x82 : List T) => lpK c env lf 6 fi194 1 3 [] [1, 2, 3, 4] (x194_3_0) lf (f194_0_c l0_0 x81 x82)) = (fun (l0_0 : List T) (x81 : Int) (x82 : List T) => f194_0 c lf l0_0 lf x81 x82) := by funext l0_0 x81 x82; exact f194_0_eq c lf l0_0 lf x81 x82
  rw [e0]; rfl
/-- loop.example/g00285/spec.l11Copy -/
def f152_t (c : Orc) (lf : Nat) (l0_0 : List T) (n0_1 : Int) (l0_2 : List T) (b0_3 : Bool) : Option (List T) :=
  (c 194 [T.st [T.sl l0_0]]).bind fun r85 =>
  bif nLe (([] : List T).length + l0_2.length) LIM then
  some [T.st [T.sl (asL (T.cell (nth r85 0) 0)), T.i .i64 n0_1, T.sl (([] : List T) ++ l0_2), T.b b0_3]]
  else none
def f152 (c : Orc) (lf : Nat) (l0_0 : List T) (n0_1 : Int) (l0_2 : List T) (b0_3 : Bool) : Option (List T) := f152_t c lf l0_0 n0_1 l0_2 b0_3
theorem f152_raw (c : Orc) (lf : Nat) (l0_0 : List T) (n0_1 : Int) (l0_2 : List T) (b0_3 : Bool) : funK c env lf 6 fi152 [.st [.sl l0_0, .i .i64 n0_1, .sl l0_2, .b b0_3]] = f152_t c lf l0_0 n0_1 l0_2 b0_3 := by kernel_rfl
theorem f152_eq (c : Orc) (lf : Nat) (l0_0 : List T) (n0_1 : Int) (l0_2 : List T) (b0_3 : Bool) : funK c env lf 6 fi152 [.st [.sl l0_0, .i .i64 n0_1, .sl l0_2, .b b0_3]] = f152 c lf l0_0 n0_1 l0_2 b0_3 := by
  refine (f152_raw c lf l0_0 n0_1 l0_2 b0_3).trans ?_
  rfl
/-- loop.example/g00285/spec.l13Copy -/
def f102_t (c : Orc) (lf : Nat) (l0_0 : List T) (n0_1 : Int) (l0_2 : List T) (b0_3 : Bool) (n0_4 : Int) : Option (List T) :=
  (c 152 [T.st [T.sl l0_0, T.i .i64 n0_1, T.sl l0_2, T.b b0_3]]).bind fun r86 =>
  some [T.st [T.sl (asL (T.cell (nth r86 0) 0)), T.i .i64 (asI (T.cell (nth r86 0) 1)), T.sl (asL (T.cell (nth r86 0) 2)), T.b (asB (T.cell (nth r86 0) 3)), T.i .i64 n0_4]]
def f102 (c : Orc) (lf : Nat) (l0_0 : List T) (n0_1 : Int) (l0_2 : List T) (b0_3 : Bool) (n0_4 : Int) : Option (List T) := f102_t c lf l0_0 n0_1 l0_2 b0_3 n0_4
theorem f102_raw (c : Orc) (lf : Nat) (l0_0 : List T) (n0_1 : Int) (l0_2 : List T) (b0_3 : Bool) (n0_4 : Int) : funK c env lf 6 fi102 [.st [.sl l0_0, .i .i64 n0_1, .sl l0_2, .b b0_3, .i .i64 n0_4]] = f102_t c lf l0_0 n0_1 l0_2 b0_3 n0_4 := by kernel_rfl
theorem f102_eq (c : Orc) (lf : Nat) (l0_0 : List T) (n0_1 : Int) (l0_2 : List T) (b0_3 : Bool) (n0_4 : Int) : funK c env lf 6 fi102 [.st [.sl l0_0, .i .i64 n0_1, .sl l0_2, .b b0_3, .i .i64 n0_4]] = f102 c lf l0_0 n0_1 l0_2 b0_3 n0_4 := by
  refine (f102_raw c lf l0_0 n0_1 l0_2 b0_3 n0_4).trans ?_
  rfl
/-- loop.example/g00285/spec.l1In -/
def f71_t (c : Orc) (lf : Nat) (n0 : Int) (n1 : Int) (n2 : Int) : Option (List T) :=
  bif iLe n1 n0 then
    some [T.b (iLe n0 n2)]
  else
    some [T.b false]
def f71 (c : Orc) (lf : Nat) (n0 : Int) (n1 : Int) (n2 : Int) : Option (List T) := f71_t c lf n0 n1 n2
theorem f71_raw (c : Orc) (lf : Nat) (n0 : Int) (n1 : Int) (n2 : Int) : funK c env lf 6 fi71 [.i .i64 n0, .i .i64 n1, .i .i64 n2] = f71_t c lf n0 n1 n2 := by kernel_rfl
theorem f71_eq (c : Orc) (lf : Nat) (n0 : Int) (n1 : Int) (n2 : Int) : funK c env lf 6 fi71 [.i .i64 n0, .i .i64 n1, .i .i64 n2] = f71 c lf n0 n1 n2 := by
  refine (f71_raw c lf n0 n1 n2).trans ?_
  rfl
/-- loop.example/g00285/spec.l10Block, the loop at region 4. -/
def f176_0_s (c : Orc) (lf : Nat) (b0_2 : Bool) (l0_0 : List T) (n0_1 : Int) (L : Int → Option (List T)) (x91 : Int) : Option (List T) :=
  bif iLt x91 (l0_0.length : Int) then
    bif inR x91 l0_0.length then
    bif iLt 400 ((asL (T.cell (l0_0.getD x91.toNat T.u) 1)).length : Int) then
      some [T.i .i64 0, T.b false]
    else
      bif !(asB (T.cell (l0_0.getD x91.toNat T.u) 0)) then
        bif iLt 0 ((asL (T.cell (l0_0.getD x91.toNat T.u) 1)).length : Int) then
          some [T.i .i64 0, T.b false]
        else
          bif iLt 0 x91 then
            bif asB (T.cell (l0_0.getD x91.toNat T.u) 0) then
              bif inR (IntKind.wrap .i64 (x91 - 1)) l0_0.length then
              bif !(asB (T.cell (l0_0.getD ((IntKind.wrap .i64 (x91 - 1)).toNat) T.u) 0)) then
                some [T.i .i64 0, T.b false]
              else
                L (IntKind.wrap .i64 (x91 + 1))
              else none
            else
              L (IntKind.wrap .i64 (x91 + 1))
          else
            L (IntKind.wrap .i64 (x91 + 1))
      else
        bif iLt 0 x91 then
          bif asB (T.cell (l0_0.getD x91.toNat T.u) 0) then
            bif inR (IntKind.wrap .i64 (x91 - 1)) l0_0.length then
            bif !(asB (T.cell (l0_0.getD ((IntKind.wrap .i64 (x91 - 1)).toNat) T.u) 0)) then
              some [T.i .i64 0, T.b false]
            else
              L (IntKind.wrap .i64 (x91 + 1))
            else none
          else
            L (IntKind.wrap .i64 (x91 + 1))
        else
          L (IntKind.wrap .i64 (x91 + 1))
    else none
  else
    some [T.i .i64 1]
def f176_0_c (b0_2 : Bool) (l0_0 : List T) (n0_1 : Int) (x91 : Int) : CSt := ⟨[.bp 3 0, .i .i64 x91], [.dead, .dead, .dead, .box [.ro 0 true [.b, .sl false [.i .u8]] l0_0, .i .i64 n0_1, .b b0_2]]⟩
theorem f176_0_round (c : Orc) (lf : Nat) (b0_2 : Bool) (l0_0 : List T) (n0_1 : Int) (L : CSt → Option (List T)) (x91 : Int) :
    roundK c env lf 6 fi176 3 4 [] [1, 3] (x176_4_0) L (f176_0_c b0_2 l0_0 n0_1 x91) = f176_0_s c lf b0_2 l0_0 n0_1 (fun x91 => L (f176_0_c b0_2 l0_0 n0_1 x91)) x91 := by kernel_rfl
def f176_0 (c : Orc) (lf : Nat) (b0_2 : Bool) (l0_0 : List T) (n0_1 : Int) : Nat → Int → Option (List T)
  | 0 => fun _ => none
  | n + 1 => fun x91 => f176_0_s c lf b0_2 l0_0 n0_1 (f176_0 c lf b0_2 l0_0 n0_1 n) x91
theorem f176_0_u (c : Orc) (lf : Nat) (b0_2 : Bool) (l0_0 : List T) (n0_1 : Int) (n : Nat) (x91 : Int) : f176_0 c lf b0_2 l0_0 n0_1 (n + 1) x91 = f176_0_s c lf b0_2 l0_0 n0_1 (f176_0 c lf b0_2 l0_0 n0_1 n) x91 := rfl
theorem f176_0_eq (c : Orc) (lf : Nat) (b0_2 : Bool) (l0_0 : List T) (n0_1 : Int) (n : Nat) (x91 : Int) :
    lpK c env lf 6 fi176 3 4 [] [1, 3] (x176_4_0) n (f176_0_c b0_2 l0_0 n0_1 x91) = f176_0 c lf b0_2 l0_0 n0_1 n x91 := by
  induction n generalizing x91 with
  | zero => rfl
  | succ n ih =>
    refine (f176_0_round c lf b0_2 l0_0 n0_1 _ x91).trans ?_
    have e : (fun x91 => lpK c env lf 6 fi176 3 4 [] [1, 3] (x176_4_0) n (f176_0_c b0_2 l0_0 n0_1 x91)) = f176_0 c lf b0_2 l0_0 n0_1 n := by funext x91; exact ih x91
    show f176_0_s c lf b0_2 l0_0 n0_1 (fun x91 => lpK c env lf 6 fi176 3 4 [] [1, 3] (x176_4_0) n (f176_0_c b0_2 l0_0 n0_1 x91)) x91 = _
    rw [e]; rfl
/-- loop.example/g00285/spec.l10Block -/
def f176_t (c : Orc) (lf : Nat) (lp0 : Bool → List T → Int → Int → Option (List T)) (l0_0 : List T) (n0_1 : Int) (b0_2 : Bool) : Option (List T) :=
  bif (l0_0.length : Int) != 8 then
    some [T.b false]
  else
    (c 71 [T.i .i64 n0_1, T.i .i64 0, T.i .i64 100000]).bind fun r90 =>
    bif !(asB (nth r90 0)) then
      some [T.b false]
    else
      (lp0 b0_2 l0_0 n0_1 0).bind fun r92 =>
      bif asI (nth r92 0) == 0 then
        some [T.b (asB (nth r92 1))]
      else
        some [T.b true]
def f176 (c : Orc) (lf : Nat) (l0_0 : List T) (n0_1 : Int) (b0_2 : Bool) : Option (List T) := f176_t c lf (fun (b0_2 : Bool) (l0_0 : List T) (n0_1 : Int) (x91 : Int) => f176_0 c lf b0_2 l0_0 n0_1 lf x91) l0_0 n0_1 b0_2
theorem f176_raw (c : Orc) (lf : Nat) (l0_0 : List T) (n0_1 : Int) (b0_2 : Bool) : funK c env lf 6 fi176 [.st [.sl l0_0, .i .i64 n0_1, .b b0_2]] = f176_t c lf (fun (b0_2 : Bool) (l0_0 : List T) (n0_1 : Int) (x91 : Int) => lpK c env lf 6 fi176 3 4 [] [1, 3] (x176_4_0) lf (f176_0_c b0_2 l0_0 n0_1 x91)) l0_0 n0_1 b0_2 := by kernel_rfl
theorem f176_eq (c : Orc) (lf : Nat) (l0_0 : List T) (n0_1 : Int) (b0_2 : Bool) : funK c env lf 6 fi176 [.st [.sl l0_0, .i .i64 n0_1, .b b0_2]] = f176 c lf l0_0 n0_1 b0_2 := by
  refine (f176_raw c lf l0_0 n0_1 b0_2).trans ?_
  have e0 : (fun (b0_2 : Bool) (l0_0 : List T) (n0_1 : Int) (x91 : Int) => lpK c env lf 6 fi176 3 4 [] [1, 3] (x176_4_0) lf (f176_0_c b0_2 l0_0 n0_1 x91)) = (fun (b0_2 : Bool) (l0_0 : List T) (n0_1 : Int) (x91 : Int) => f176_0 c lf b0_2 l0_0 n0_1 lf x91) := by funext b0_2 l0_0 n0_1 x91; exact f176_0_eq c lf b0_2 l0_0 n0_1 lf x91
  rw [e0]; rfl
/-- loop.example/g00285/spec.ChipOk, the loop at region 2. -/
def f124_0_s (c : Orc) (lf : Nat) (l0_0 : List T) (L : Int → Option (List T)) (x99 : Int) : Option (List T) :=
  bif iLt x99 (l0_0.length : Int) then
    bif inR x99 l0_0.length then
    (c 176 [T.st [T.sl (asL (T.cell (l0_0.getD x99.toNat T.u) 0)), T.i .i64 (asI (T.cell (l0_0.getD x99.toNat T.u) 1)), T.b (asB (T.cell (l0_0.getD x99.toNat T.u) 2))]]).bind fun r100 =>
    bif !(asB (nth r100 0)) then
      some [T.i .i64 0, T.b false]
    else
      L (IntKind.wrap .i64 (x99 + 1))
    else none
  else
    some [T.i .i64 1, T.sl l0_0]
def f124_0_c (l0_0 : List T) (x99 : Int) : CSt := ⟨[.bp 1 0, .i .i64 x99], [.dead, .box [.ro 0 true [.sl true [.b, .sl false [.i .u8]], .i .i64, .b] l0_0]]⟩
theorem f124_0_round (c : Orc) (lf : Nat) (l0_0 : List T) (L : CSt → Option (List T)) (x99 : Int) :
    roundK c env lf 6 fi124 1 2 [] [1, 3] (x124_2_0) L (f124_0_c l0_0 x99) = f124_0_s c lf l0_0 (fun x99 => L (f124_0_c l0_0 x99)) x99 := by kernel_rfl
def f124_0 (c : Orc) (lf : Nat) (l0_0 : List T) : Nat → Int → Option (List T)
  | 0 => fun _ => none
  | n + 1 => fun x99 => f124_0_s c lf l0_0 (f124_0 c lf l0_0 n) x99
theorem f124_0_u (c : Orc) (lf : Nat) (l0_0 : List T) (n : Nat) (x99 : Int) : f124_0 c lf l0_0 (n + 1) x99 = f124_0_s c lf l0_0 (f124_0 c lf l0_0 n) x99 := rfl
theorem f124_0_eq (c : Orc) (lf : Nat) (l0_0 : List T) (n : Nat) (x99 : Int) :
    lpK c env lf 6 fi124 1 2 [] [1, 3] (x124_2_0) n (f124_0_c l0_0 x99) = f124_0 c lf l0_0 n x99 := by
  induction n generalizing x99 with
  | zero => rfl
  | succ n ih =>
    refine (f124_0_round c lf l0_0 _ x99).trans ?_
    have e : (fun x99 => lpK c env lf 6 fi124 1 2 [] [1, 3] (x124_2_0) n (f124_0_c l0_0 x99)) = f124_0 c lf l0_0 n := by funext x99; exact ih x99
    show f124_0_s c lf l0_0 (fun x99 => lpK c env lf 6 fi124 1 2 [] [1, 3] (x124_2_0) n (f124_0_c l0_0 x99)) x99 = _
    rw [e]; rfl
/-- loop.example/g00285/spec.ChipOk -/
def f124_t (c : Orc) (lf : Nat) (lp0 : List T → Int → Option (List T)) (l0_0 : List T) : Option (List T) :=
  (lp0 l0_0 0).bind fun r101 =>
  bif asI (nth r101 0) == 0 then
    some [T.b (asB (nth r101 1))]
  else
    (c 71 [T.i .i64 ((asL (nth r101 1)).length : Int), T.i .i64 3, T.i .i64 24]).bind fun r102 =>
    some [T.b (asB (nth r102 0))]
def f124 (c : Orc) (lf : Nat) (l0_0 : List T) : Option (List T) := f124_t c lf (fun (l0_0 : List T) (x99 : Int) => f124_0 c lf l0_0 lf x99) l0_0
theorem f124_raw (c : Orc) (lf : Nat) (l0_0 : List T) : funK c env lf 6 fi124 [.st [.sl l0_0]] = f124_t c lf (fun (l0_0 : List T) (x99 : Int) => lpK c env lf 6 fi124 1 2 [] [1, 3] (x124_2_0) lf (f124_0_c l0_0 x99)) l0_0 := by kernel_rfl
theorem f124_eq (c : Orc) (lf : Nat) (l0_0 : List T) : funK c env lf 6 fi124 [.st [.sl l0_0]] = f124 c lf l0_0 := by
  refine (f124_raw c lf l0_0).trans ?_
  have e0 : (fun (l0_0 : List T) (x99 : Int) => lpK c env lf 6 fi124 1 2 [] [1, 3] (x124_2_0) lf (f124_0_c l0_0 x99)) = (fun (l0_0 : List T) (x99 : Int) => f124_0 c lf l0_0 lf x99) := by funext l0_0 x99; exact f124_0_eq c lf l0_0 lf x99
  rw [e0]; rfl
/-- loop.example/g00285/spec.l11Faults, the loop at region 2. -/
def f125_0_s (c : Orc) (lf : Nat) (l0 : List T) (L : Int → Option (List T)) (x114 : Int) : Option (List T) :=
  bif iLt x114 (l0.length : Int) then
    bif inR x114 l0.length then
    (c 71 [T.i .i64 (asI (T.cell (l0.getD x114.toNat T.u) 0)), T.i .i64 0, T.i .i64 100000]).bind fun r115 =>
    bif !(asB (nth r115 0)) then
      some [T.i .i64 0, T.b false]
    else
      bif inR x114 l0.length then
      (c 71 [T.i .i64 (asI (T.cell (l0.getD x114.toNat T.u) 1)), T.i .i64 1, T.i .i64 2]).bind fun r116 =>
      bif !(asB (nth r116 0)) then
        some [T.i .i64 0, T.b false]
      else
        bif inR x114 l0.length then
        (c 71 [T.i .i64 (asI (T.cell (l0.getD x114.toNat T.u) 2)), T.i .i64 0, T.i .i64 400]).bind fun r117 =>
        bif !(asB (nth r117 0)) then
          some [T.i .i64 0, T.b false]
        else
          bif iLt 0 x114 then
            bif inR (IntKind.wrap .i64 (x114 - 1)) l0.length then
            bif inR x114 l0.length then
            bif iLe (asI (T.cell (l0.getD x114.toNat T.u) 0)) (asI (T.cell (l0.getD ((IntKind.wrap .i64 (x114 - 1)).toNat) T.u) 0)) then
              some [T.i .i64 0, T.b false]
            else
              L (IntKind.wrap .i64 (x114 + 1))
            else none
            else none
          else
            L (IntKind.wrap .i64 (x114 + 1))
        else none
      else none
    else none
  else
    some [T.i .i64 1, T.sl l0]
def f125_0_c (l0 : List T) (x114 : Int) : CSt := ⟨[.ro 0 true [.i .i64, .i .i64, .i .i64] l0, .i .i64 x114], [.dead]⟩
theorem f125_0_round (c : Orc) (lf : Nat) (l0 : List T) (L : CSt → Option (List T)) (x114 : Int) :
    roundK c env lf 6 fi125 1 2 [] [0, 3] (x125_2_0) L (f125_0_c l0 x114) = f125_0_s c lf l0 (fun x114 => L (f125_0_c l0 x114)) x114 := by kernel_rfl
def f125_0 (c : Orc) (lf : Nat) (l0 : List T) : Nat → Int → Option (List T)
  | 0 => fun _ => none
  | n + 1 => fun x114 => f125_0_s c lf l0 (f125_0 c lf l0 n) x114
theorem f125_0_u (c : Orc) (lf : Nat) (l0 : List T) (n : Nat) (x114 : Int) : f125_0 c lf l0 (n + 1) x114 = f125_0_s c lf l0 (f125_0 c lf l0 n) x114 := rfl
theorem f125_0_eq (c : Orc) (lf : Nat) (l0 : List T) (n : Nat) (x114 : Int) :
    lpK c env lf 6 fi125 1 2 [] [0, 3] (x125_2_0) n (f125_0_c l0 x114) = f125_0 c lf l0 n x114 := by
  induction n generalizing x114 with
  | zero => rfl
  | succ n ih =>
    refine (f125_0_round c lf l0 _ x114).trans ?_
    have e : (fun x114 => lpK c env lf 6 fi125 1 2 [] [0, 3] (x125_2_0) n (f125_0_c l0 x114)) = f125_0 c lf l0 n := by funext x114; exact ih x114
    show f125_0_s c lf l0 (fun x114 => lpK c env lf 6 fi125 1 2 [] [0, 3] (x125_2_0) n (f125_0_c l0 x114)) x114 = _
    rw [e]; rfl
/-- loop.example/g00285/spec.l11Faults -/
def f125_t (c : Orc) (lf : Nat) (lp0 : List T → Int → Option (List T)) (l0 : List T) : Option (List T) :=
  (lp0 l0 0).bind fun r118 =>
  bif asI (nth r118 0) == 0 then
    some [T.b (asB (nth r118 1))]
  else
    some [T.b (iLe ((asL (nth r118 1)).length : Int) 20)]
def f125 (c : Orc) (lf : Nat) (l0 : List T) : Option (List T) := f125_t c lf (fun (l0 : List T) (x114 : Int) => f125_0 c lf l0 lf x114) l0
theorem f125_raw (c : Orc) (lf : Nat) (l0 : List T) : funK c env lf 6 fi125 [.sl l0] = f125_t c lf (fun (l0 : List T) (x114 : Int) => lpK c env lf 6 fi125 1 2 [] [0, 3] (x125_2_0) lf (f125_0_c l0 x114)) l0 := by kernel_rfl
theorem f125_eq (c : Orc) (lf : Nat) (l0 : List T) : funK c env lf 6 fi125 [.sl l0] = f125 c lf l0 := by
  refine (f125_raw c lf l0).trans ?_
  have e0 : (fun (l0 : List T) (x114 : Int) => lpK c env lf 6 fi125 1 2 [] [0, 3] (x125_2_0) lf (f125_0_c l0 x114)) = (fun (l0 : List T) (x114 : Int) => f125_0 c lf l0 lf x114) := by funext l0 x114; exact f125_0_eq c lf l0 lf x114
  rw [e0]; rfl
/-- loop.example/g00285/spec.DevOk -/
def f70_t (c : Orc) (lf : Nat) (l0_0 : List T) (n0_1 : Int) (l0_2 : List T) (b0_3 : Bool) : Option (List T) :=
  (c 124 [T.st [T.sl l0_0]]).bind fun r119 =>
  bif asB (nth r119 0) then
    (c 71 [T.i .i64 n0_1, T.i .i64 0, T.i .i64 100000]).bind fun r120 =>
    bif asB (nth r120 0) then
      (c 125 [T.sl l0_2]).bind fun r121 =>
      some [T.b (asB (nth r121 0))]
    else
      some [T.b false]
  else
    some [T.b false]
def f70 (c : Orc) (lf : Nat) (l0_0 : List T) (n0_1 : Int) (l0_2 : List T) (b0_3 : Bool) : Option (List T) := f70_t c lf l0_0 n0_1 l0_2 b0_3
theorem f70_raw (c : Orc) (lf : Nat) (l0_0 : List T) (n0_1 : Int) (l0_2 : List T) (b0_3 : Bool) : funK c env lf 6 fi70 [.st [.sl l0_0, .i .i64 n0_1, .sl l0_2, .b b0_3]] = f70_t c lf l0_0 n0_1 l0_2 b0_3 := by kernel_rfl
theorem f70_eq (c : Orc) (lf : Nat) (l0_0 : List T) (n0_1 : Int) (l0_2 : List T) (b0_3 : Bool) : funK c env lf 6 fi70 [.st [.sl l0_0, .i .i64 n0_1, .sl l0_2, .b b0_3]] = f70 c lf l0_0 n0_1 l0_2 b0_3 := by
  refine (f70_raw c lf l0_0 n0_1 l0_2 b0_3).trans ?_
  rfl
/-- loop.example/g00285/spec.RecOk -/
def f103_t (c : Orc) (lf : Nat) (n0_0 : Int) (n0_1 : Int) (l0_2 : List T) : Option (List T) :=
  (c 71 [T.i .i64 n0_0, T.i .i64 1, T.i .i64 4]).bind fun r122 =>
  bif asB (nth r122 0) then
    (c 71 [T.i .i64 n0_1, T.i .i64 0, T.i .i64 1000000]).bind fun r123 =>
    bif asB (nth r123 0) then
      some [T.b (iLe (l0_2.length : Int) 380)]
    else
      some [T.b false]
  else
    some [T.b false]
def f103 (c : Orc) (lf : Nat) (n0_0 : Int) (n0_1 : Int) (l0_2 : List T) : Option (List T) := f103_t c lf n0_0 n0_1 l0_2
theorem f103_raw (c : Orc) (lf : Nat) (n0_0 : Int) (n0_1 : Int) (l0_2 : List T) : funK c env lf 6 fi103 [.st [.i .i64 n0_0, .i .i64 n0_1, .sl l0_2]] = f103_t c lf n0_0 n0_1 l0_2 := by kernel_rfl
theorem f103_eq (c : Orc) (lf : Nat) (n0_0 : Int) (n0_1 : Int) (l0_2 : List T) : funK c env lf 6 fi103 [.st [.i .i64 n0_0, .i .i64 n0_1, .sl l0_2]] = f103 c lf n0_0 n0_1 l0_2 := by
  refine (f103_raw c lf n0_0 n0_1 l0_2).trans ?_
  rfl
/-- loop.example/g00285/spec.PutNum, the loop at region 6. -/
def f196_0_s (c : Orc) (lf : Nat) (L : Int → List T → Option (List T)) (x131 : Int) (x132 : List T) : Option (List T) :=
  bif iLt 127 x131 then
    bif nLe (x132.length + ([T.i .u8 (IntKind.wrap .u8 (intBits .or .i64 (intBits .and .i64 x131 127) 128))] : List T).length) LIM then
    L (shiftI .shr .i64 x131 7) (x132 ++ ([T.i .u8 (IntKind.wrap .u8 (intBits .or .i64 (intBits .and .i64 x131 127) 128))] : List T))
    else none
  else
    some [T.i .i64 0, T.i .i64 x131, T.sl x132]
def f196_0_c (x131 : Int) (x132 : List T) : CSt := ⟨[.i .i64 x131, .rf 2 [] 0 none], [.dead, .dead, .row false [.i .u8] x132 0 false]⟩
theorem f196_0_round (c : Orc) (lf : Nat) (L : CSt → Option (List T)) (x131 : Int) (x132 : List T) :
    roundK c env lf 6 fi196 2 6 [] [1, 5] (x196_6_0) L (f196_0_c x131 x132) = f196_0_s c lf (fun x131 x132 => L (f196_0_c x131 x132)) x131 x132 := by kernel_rfl
def f196_0 (c : Orc) (lf : Nat) : Nat → Int → List T → Option (List T)
  | 0 => fun _ _ => none
  | n + 1 => fun x131 x132 => f196_0_s c lf (f196_0 c lf n) x131 x132
theorem f196_0_u (c : Orc) (lf : Nat) (n : Nat) (x131 : Int) (x132 : List T) : f196_0 c lf (n + 1) x131 x132 = f196_0_s c lf (f196_0 c lf n) x131 x132 := rfl
theorem f196_0_eq (c : Orc) (lf : Nat) (n : Nat) (x131 : Int) (x132 : List T) :
    lpK c env lf 6 fi196 2 6 [] [1, 5] (x196_6_0) n (f196_0_c x131 x132) = f196_0 c lf n x131 x132 := by
  induction n generalizing x131 x132 with
  | zero => rfl
  | succ n ih =>
    refine (f196_0_round c lf _ x131 x132).trans ?_
    have e : (fun x131 x132 => lpK c env lf 6 fi196 2 6 [] [1, 5] (x196_6_0) n (f196_0_c x131 x132)) = f196_0 c lf n := by funext x131 x132; exact ih x131 x132
    show f196_0_s c lf (fun x131 x132 => lpK c env lf 6 fi196 2 6 [] [1, 5] (x196_6_0) n (f196_0_c x131 x132)) x131 x132 = _
    rw [e]; rfl
/-- loop.example/g00285/spec.PutNum, the loop at region 6. -/
def f196_1_s (c : Orc) (lf : Nat) (l0 : List T) (L : Unit → Option (List T)) : Option (List T) :=
  some [T.i .i64 0, T.i .i64 0, T.sl (([] : List T) ++ l0)]
def f196_1_c (l0 : List T) : CSt := ⟨[.i .i64 0, .rf 2 [] 0 none], [.dead, .dead, .row false [.i .u8] (([] : List T) ++ l0) 0 false]⟩
theorem f196_1_round (c : Orc) (lf : Nat) (l0 : List T) (L : CSt → Option (List T)) :
    roundK c env lf 6 fi196 2 6 [] [1, 5] (x196_6_0) L (f196_1_c l0) = f196_1_s c lf l0 (fun _ => L (f196_1_c l0)) := by kernel_rfl
def f196_1 (c : Orc) (lf : Nat) (l0 : List T) : Nat → Unit → Option (List T)
  | 0 => fun _ => none
  | n + 1 => fun _ => f196_1_s c lf l0 (f196_1 c lf l0 n)
theorem f196_1_u (c : Orc) (lf : Nat) (l0 : List T) (n : Nat) : f196_1 c lf l0 (n + 1) () = f196_1_s c lf l0 (f196_1 c lf l0 n) := rfl
theorem f196_1_eq (c : Orc) (lf : Nat) (l0 : List T) (n : Nat) :
    lpK c env lf 6 fi196 2 6 [] [1, 5] (x196_6_0) n (f196_1_c l0) = f196_1 c lf l0 n () := by
  induction n with
  | zero => rfl
  | succ n ih =>
    refine (f196_1_round c lf l0 _).trans ?_
    have e : (fun (_ : Unit) => lpK c env lf 6 fi196 2 6 [] [1, 5] (x196_6_0) n (f196_1_c l0)) = f196_1 c lf l0 n := by funext _; exact ih
    show f196_1_s c lf l0 (fun _ => lpK c env lf 6 fi196 2 6 [] [1, 5] (x196_6_0) n (f196_1_c l0)) = _
    rw [e]; rfl
/-- loop.example/g00285/spec.PutNum, the loop at region 6. -/
def f196_2_s (c : Orc) (lf : Nat) (L : Int → List T → Option (List T)) (x135 : Int) (x136 : List T) : Option (List T) :=
  bif iLt 127 x135 then
    bif nLe (x136.length + ([T.i .u8 (IntKind.wrap .u8 (intBits .or .i64 (intBits .and .i64 x135 127) 128))] : List T).length) LIM then
    L (shiftI .shr .i64 x135 7) (x136 ++ ([T.i .u8 (IntKind.wrap .u8 (intBits .or .i64 (intBits .and .i64 x135 127) 128))] : List T))
    else none
  else
    some [T.i .i64 0, T.i .i64 x135, T.sl x136]
def f196_2_c (x135 : Int) (x136 : List T) : CSt := ⟨[.i .i64 x135, .rf 2 [] 0 none], [.dead, .dead, .row false [.i .u8] x136 0 false]⟩
theorem f196_2_round (c : Orc) (lf : Nat) (L : CSt → Option (List T)) (x135 : Int) (x136 : List T) :
    roundK c env lf 6 fi196 2 6 [] [1, 5] (x196_6_0) L (f196_2_c x135 x136) = f196_2_s c lf (fun x135 x136 => L (f196_2_c x135 x136)) x135 x136 := by kernel_rfl
def f196_2 (c : Orc) (lf : Nat) : Nat → Int → List T → Option (List T)
  | 0 => fun _ _ => none
  | n + 1 => fun x135 x136 => f196_2_s c lf (f196_2 c lf n) x135 x136
theorem f196_2_u (c : Orc) (lf : Nat) (n : Nat) (x135 : Int) (x136 : List T) : f196_2 c lf (n + 1) x135 x136 = f196_2_s c lf (f196_2 c lf n) x135 x136 := rfl
theorem f196_2_eq (c : Orc) (lf : Nat) (n : Nat) (x135 : Int) (x136 : List T) :
    lpK c env lf 6 fi196 2 6 [] [1, 5] (x196_6_0) n (f196_2_c x135 x136) = f196_2 c lf n x135 x136 := by
  induction n generalizing x135 x136 with
  | zero => rfl
  | succ n ih =>
    refine (f196_2_round c lf _ x135 x136).trans ?_
    have e : (fun x135 x136 => lpK c env lf 6 fi196 2 6 [] [1, 5] (x196_6_0) n (f196_2_c x135 x136)) = f196_2 c lf n := by funext x135 x136; exact ih x135 x136
    show f196_2_s c lf (fun x135 x136 => lpK c env lf 6 fi196 2 6 [] [1, 5] (x196_6_0) n (f196_2_c x135 x136)) x135 x136 = _
    rw [e]; rfl
/-- loop.example/g00285/spec.PutNum -/
def f196_t (c : Orc) (lf : Nat) (lp0 : Int → List T → Option (List T)) (lp1 : List T → Option (List T)) (lp2 : Int → List T → Option (List T)) (l0 : List T) (n1 : Int) : Option (List T) :=
  bif nLe (([] : List T).length + l0.length) LIM then
  bif iLt 1000000 n1 then
    (lp0 1000000 (([] : List T) ++ l0)).bind fun r133 =>
    bif nLe ((asL (nth r133 2)).length + ([T.i .u8 (IntKind.wrap .u8 (asI (nth r133 1)))] : List T).length) LIM then
    some [T.sl ((asL (nth r133 2)) ++ ([T.i .u8 (IntKind.wrap .u8 (asI (nth r133 1)))] : List T))]
    else none
  else
    bif iLt n1 0 then
      (lp1 l0).bind fun r134 =>
      bif nLe ((asL (nth r134 2)).length + ([T.i .u8 (IntKind.wrap .u8 (asI (nth r134 1)))] : List T).length) LIM then
      some [T.sl ((asL (nth r134 2)) ++ ([T.i .u8 (IntKind.wrap .u8 (asI (nth r134 1)))] : List T))]
      else none
    else
      (lp2 n1 (([] : List T) ++ l0)).bind fun r137 =>
      bif nLe ((asL (nth r137 2)).length + ([T.i .u8 (IntKind.wrap .u8 (asI (nth r137 1)))] : List T).length) LIM then
      some [T.sl ((asL (nth r137 2)) ++ ([T.i .u8 (IntKind.wrap .u8 (asI (nth r137 1)))] : List T))]
      else none
  else none
def f196 (c : Orc) (lf : Nat) (l0 : List T) (n1 : Int) : Option (List T) := f196_t c lf (fun (x131 : Int) (x132 : List T) => f196_0 c lf lf x131 x132) (fun (l0 : List T) => f196_1 c lf l0 lf ()) (fun (x135 : Int) (x136 : List T) => f196_2 c lf lf x135 x136) l0 n1
theorem f196_raw (c : Orc) (lf : Nat) (l0 : List T) (n1 : Int) : funK c env lf 6 fi196 [.sl l0, .i .i64 n1] = f196_t c lf (fun (x131 : Int) (x132 : List T) => lpK c env lf 6 fi196 2 6 [] [1, 5] (x196_6_0) lf (f196_0_c x131 x132)) (fun (l0 : List T) => lpK c env lf 6 fi196 2 6 [] [1, 5] (x196_6_0) lf (f196_1_c l0)) (fun (x135 : Int) (x136 : List T) => lpK c env lf 6 fi196 2 6 [] [1, 5] (x196_6_0) lf (f196_2_c x135 x136)) l0 n1 := by kernel_rfl
theorem f196_eq (c : Orc) (lf : Nat) (l0 : List T) (n1 : Int) : funK c env lf 6 fi196 [.sl l0, .i .i64 n1] = f196 c lf l0 n1 := by
  refine (f196_raw c lf l0 n1).trans ?_
  have e0 : (fun (x131 : Int) (x132 : List T) => lpK c env lf 6 fi196 2 6 [] [1, 5] (x196_6_0) lf (f196_0_c x131 x132)) = (fun (x131 : Int) (x132 : List T) => f196_0 c lf lf x131 x132) := by funext x131 x132; exact f196_0_eq c lf lf x131 x132
  have e1 : (fun (l0 : List T) => lpK c env lf 6 fi196 2 6 [] [1, 5] (x196_6_0) lf (f196_1_c l0)) = (fun (l0 : List T) => f196_1 c lf l0 lf ()) := by funext l0; exact f196_1_eq c lf l0 lf
  have e2 : (fun (x135 : Int) (x136 : List T) => lpK c env lf 6 fi196 2 6 [] [1, 5] (x196_6_0) lf (f196_2_c x135 x136)) = (fun (x135 : Int) (x136 : List T) => f196_2 c lf lf x135 x136) := by funext x135 x136; exact f196_2_eq c lf lf x135 x136
  rw [e0, e1, e2]; rfl
/-- loop.example/g00285/spec.PutText -/
def f195_t (c : Orc) (lf : Nat) (l0 : List T) (s1 : ByteArray) : Option (List T) :=
  (c 196 [T.sl l0, T.i .i64 (s1.size : Int)]).bind fun r138 =>
  bif nLe ((asL (nth r138 0)).length + (listOf s1).length) LIM then
  some [T.sl ((asL (nth r138 0)) ++ (listOf s1))]
  else none
def f195 (c : Orc) (lf : Nat) (l0 : List T) (s1 : ByteArray) : Option (List T) := f195_t c lf l0 s1
theorem f195_raw (c : Orc) (lf : Nat) (l0 : List T) (s1 : ByteArray) : funK c env lf 6 fi195 [.sl l0, .s s1] = f195_t c lf l0 s1 := by kernel_rfl
theorem f195_eq (c : Orc) (lf : Nat) (l0 : List T) (s1 : ByteArray) : funK c env lf 6 fi195 [.sl l0, .s s1] = f195 c lf l0 s1 := by
  refine (f195_raw c lf l0 s1).trans ?_
  rfl
/-- loop.example/g00285/spec.Crc, the loop at region 7. -/
def f133_1_s (c : Orc) (lf : Nat) (x152 : List T) (x154 : Int) (L : Int → Int → Option (List T)) (x155 : Int) (x156 : Int) : Option (List T) :=
  bif iLt x156 8 then
    bif (intBits .and .i64 x155 1) == 1 then
      L (intBits .xor .i64 (shiftI .shr .i64 x155 1) 2197175160) (IntKind.wrap .i64 (x156 + 1))
    else
      L (shiftI .shr .i64 x155 1) (IntKind.wrap .i64 (x156 + 1))
  else
    some [T.i .i64 0, T.sl x152, T.i .i64 x155, T.i .i64 x154]
def f133_1_c (x152 : List T) (x154 : Int) (x155 : Int) (x156 : Int) : CSt := ⟨[.ro 0 false [.i .u8] x152, .i .i64 x155, .i .i64 x154, .i .i64 x156], [.dead]⟩
theorem f133_1_round (c : Orc) (lf : Nat) (x152 : List T) (x154 : Int) (L : CSt → Option (List T)) (x155 : Int) (x156 : Int) :
    roundK c env lf 6 fi133 1 7 [] [0, 3, 4, 5] (x133_7_0) L (f133_1_c x152 x154 x155 x156) = f133_1_s c lf x152 x154 (fun x155 x156 => L (f133_1_c x152 x154 x155 x156)) x155 x156 := by kernel_rfl
def f133_1 (c : Orc) (lf : Nat) (x152 : List T) (x154 : Int) : Nat → Int → Int → Option (List T)
  | 0 => fun _ _ => none
  | n + 1 => fun x155 x156 => f133_1_s c lf x152 x154 (f133_1 c lf x152 x154 n) x155 x156
theorem f133_1_u (c : Orc) (lf : Nat) (x152 : List T) (x154 : Int) (n : Nat) (x155 : Int) (x156 : Int) : f133_1 c lf x152 x154 (n + 1) x155 x156 = f133_1_s c lf x152 x154 (f133_1 c lf x152 x154 n) x155 x156 := rfl
theorem f133_1_eq (c : Orc) (lf : Nat) (x152 : List T) (x154 : Int) (n : Nat) (x155 : Int) (x156 : Int) :
    lpK c env lf 6 fi133 1 7 [] [0, 3, 4, 5] (x133_7_0) n (f133_1_c x152 x154 x155 x156) = f133_1 c lf x152 x154 n x155 x156 := by
  induction n generalizing x155 x156 with
  | zero => rfl
  | succ n ih =>
    refine (f133_1_round c lf x152 x154 _ x155 x156).trans ?_
    have e : (fun x155 x156 => lpK c env lf 6 fi133 1 7 [] [0, 3, 4, 5] (x133_7_0) n (f133_1_c x152 x154 x155 x156)) = f133_1 c lf x152 x154 n := by funext x155 x156; exact ih x155 x156
    show f133_1_s c lf x152 x154 (fun x155 x156 => lpK c env lf 6 fi133 1 7 [] [0, 3, 4, 5] (x133_7_0) n (f133_1_c x152 x154 x155 x156)) x155 x156 = _
    rw [e]; rfl
/-- loop.example/g00285/spec.Crc, the loop at region 3. -/
def f133_0_s (c : Orc) (lf : Nat) (L : List T → Int → Int → Option (List T)) (lp0 : List T → Int → Int → Int → Option (List T)) (x152 : List T) (x153 : Int) (x154 : Int) : Option (List T) :=
  bif iLt x154 (x152.length : Int) then
    bif inR x154 x152.length then
    (lp0 x152 x154 (intBits .xor .i64 x153 (IntKind.wrap .i64 (asI (x152.getD x154.toNat T.u)))) 0).bind fun r157 =>
    L (asL (nth r157 1)) (asI (nth r157 2)) (IntKind.wrap .i64 ((asI (nth r157 3)) + 1))
    else none
  else
    some [T.i .i64 0, T.i .i64 x153]
def f133_0_c (x152 : List T) (x153 : Int) (x154 : Int) : CSt := ⟨[.ro 0 false [.i .u8] x152, .i .i64 x153, .i .i64 x154], [.dead]⟩
theorem f133_0_round (c : Orc) (lf : Nat) (L : CSt → Option (List T)) (x152 : List T) (x153 : Int) (x154 : Int) :
    roundK c env lf 6 fi133 1 3 [] [0, 3, 4] (x133_3_0) L (f133_0_c x152 x153 x154) = f133_0_s c lf (fun x152 x153 x154 => L (f133_0_c x152 x153 x154)) (fun (x152 : List T) (x154 : Int) (x155 : Int) (x156 : Int) => lpK c env lf 6 fi133 1 7 [] [0, 3, 4, 5] (x133_7_0) lf (f133_1_c x152 x154 x155 x156)) x152 x153 x154 := by kernel_rfl
def f133_0 (c : Orc) (lf : Nat) : Nat → List T → Int → Int → Option (List T)
  | 0 => fun _ _ _ => none
  | n + 1 => fun x152 x153 x154 => f133_0_s c lf (f133_0 c lf n) (fun (x152 : List T) (x154 : Int) (x155 : Int) (x156 : Int) => f133_1 c lf x152 x154 lf x155 x156) x152 x153 x154
theorem f133_0_u (c : Orc) (lf : Nat) (n : Nat) (x152 : List T) (x153 : Int) (x154 : Int) : f133_0 c lf (n + 1) x152 x153 x154 = f133_0_s c lf (f133_0 c lf n) (fun (x152 : List T) (x154 : Int) (x155 : Int) (x156 : Int) => f133_1 c lf x152 x154 lf x155 x156) x152 x153 x154 := rfl
theorem f133_0_eq (c : Orc) (lf : Nat) (n : Nat) (x152 : List T) (x153 : Int) (x154 : Int) :
    lpK c env lf 6 fi133 1 3 [] [0, 3, 4] (x133_3_0) n (f133_0_c x152 x153 x154) = f133_0 c lf n x152 x153 x154 := by
  induction n generalizing x152 x153 x154 with
  | zero => rfl
  | succ n ih =>
    refine (f133_0_round c lf _ x152 x153 x154).trans ?_
    have e : (fun x152 x153 x154 => lpK c env lf 6 fi133 1 3 [] [0, 3, 4] (x133_3_0) n (f133_0_c x152 x153 x154)) = f133_0 c lf n := by funext x152 x153 x154; exact ih x152 x153 x154
    have e0 : (fun (x152 : List T) (x154 : Int) (x155 : Int) (x156 : Int) => lpK c env lf 6 fi133 1 7 [] [0, 3, 4, 5] (x133_7_0) lf (f133_1_c x152 x154 x155 x156)) = (fun (x152 : List T) (x154 : Int) (x155 : Int) (x156 : Int) => f133_1 c lf x152 x154 lf x155 x156) := by funext x152 x154 x155 x156; exact f133_1_eq c lf x152 x154 lf x155 x156
    show f133_0_s c lf (fun x152 x153 x154 => lpK c env lf 6 fi133 1 3 [] [0, 3, 4] (x133_3_0) n (f133_0_c x152 x153 x154)) (fun (x152 : List T) (x154 : Int) (x155 : Int) (x156 : Int) => lpK c env lf 6 fi133 1 7 [] [0, 3, 4, 5] (x133_7_0) lf (f133_1_c x152 x154 x155 x156)) x152 x153 x154 = _
    rw [e, e0]; rfl
/-- loop.example/g00285/spec.Crc -/
def f133_t (c : Orc) (lf : Nat) (lp0 : List T → Int → Int → Option (List T)) (l0 : List T) : Option (List T) :=
  (lp0 l0 4294967295 0).bind fun r158 =>
  some [T.i .i64 (intBits .xor .i64 (asI (nth r158 1)) 4294967295)]
def f133 (c : Orc) (lf : Nat) (l0 : List T) : Option (List T) := f133_t c lf (fun (x152 : List T) (x153 : Int) (x154 : Int) => f133_0 c lf lf x152 x153 x154) l0
theorem f133_raw (c : Orc) (lf : Nat) (l0 : List T) : funK c env lf 6 fi133 [.sl l0] = f133_t c lf (fun (x152 : List T) (x153 : Int) (x154 : Int) => lpK c env lf 6 fi133 1 3 [] [0, 3, 4] (x133_3_0) lf (f133_0_c x152 x153 x154)) l0 := by kernel_rfl
theorem f133_eq (c : Orc) (lf : Nat) (l0 : List T) : funK c env lf 6 fi133 [.sl l0] = f133 c lf l0 := by
  refine (f133_raw c lf l0).trans ?_
  have e0 : (fun (x152 : List T) (x153 : Int) (x154 : Int) => lpK c env lf 6 fi133 1 3 [] [0, 3, 4] (x133_3_0) lf (f133_0_c x152 x153 x154)) = (fun (x152 : List T) (x153 : Int) (x154 : Int) => f133_0 c lf lf x152 x153 x154) := by funext x152 x153 x154; exact f133_0_eq c lf lf x152 x153 x154
  rw [e0]; rfl
/-- loop.example/g00285/spec.PutRec -/
def f153_t (c : Orc) (lf : Nat) (n0_0 : Int) (n0_1 : Int) (l0_2 : List T) : Option (List T) :=
  (c 103 [T.st [T.i .i64 n0_0, T.i .i64 n0_1, T.sl l0_2]]).bind fun r159 =>
  bif !(asB (nth r159 0)) then
    some [T.sl ([] : List T)]
  else
    (c 196 [T.sl ([] : List T), T.i .i64 n0_0]).bind fun r160 =>
    (c 196 [T.sl (asL (nth r160 0)), T.i .i64 n0_1]).bind fun r161 =>
    (c 195 [T.sl (asL (nth r161 0)), T.s (bytesOf l0_2)]).bind fun r162 =>
    (c 133 [T.sl (asL (nth r162 0))]).bind fun r163 =>
    bif nLe ((asL (nth r162 0)).length + ([T.i .u8 (IntKind.wrap .u8 (shiftI .shr .i64 (asI (nth r163 0)) 24)), T.i .u8 (IntKind.wrap .u8 (shiftI .shr .i64 (asI (nth r163 0)) 16)), T.i .u8 (IntKind.wrap .u8 (shiftI .shr .i64 (asI (nth r163 0)) 8)), T.i .u8 (IntKind.wrap .u8 (asI (nth r163 0)))] : List T).length) LIM then
    some [T.sl ((asL (nth r162 0)) ++ ([T.i .u8 (IntKind.wrap .u8 (shiftI .shr .i64 (asI (nth r163 0)) 24)), T.i .u8 (IntKind.wrap .u8 (shiftI .shr .i64 (asI (nth r163 0)) 16)), T.i .u8 (IntKind.wrap .u8 (shiftI .shr .i64 (asI (nth r163 0)) 8)), T.i .u8 (IntKind.wrap .u8 (asI (nth r163 0)))] : List T))]
    else none
def f153 (c : Orc) (lf : Nat) (n0_0 : Int) (n0_1 : Int) (l0_2 : List T) : Option (List T) := f153_t c lf n0_0 n0_1 l0_2
theorem f153_raw (c : Orc) (lf : Nat) (n0_0 : Int) (n0_1 : Int) (l0_2 : List T) : funK c env lf 6 fi153 [.st [.i .i64 n0_0, .i .i64 n0_1, .sl l0_2]] = f153_t c lf n0_0 n0_1 l0_2 := by kernel_rfl
theorem f153_eq (c : Orc) (lf : Nat) (n0_0 : Int) (n0_1 : Int) (l0_2 : List T) : funK c env lf 6 fi153 [.st [.i .i64 n0_0, .i .i64 n0_1, .sl l0_2]] = f153 c lf n0_0 n0_1 l0_2 := by
  refine (f153_raw c lf n0_0 n0_1 l0_2).trans ?_
  rfl
/-- loop.example/g00285/spec.l10Next, the loop at region 3. -/
def f197_0_s (c : Orc) (lf : Nat) (b0_2 : Bool) (l0_0 : List T) (n0_1 : Int) (L : Int → Int → Option (List T)) (x167 : Int) (x168 : Int) : Option (List T) :=
  bif iLt x168 (l0_0.length : Int) then
    bif inR x168 l0_0.length then
    bif asB (T.cell (l0_0.getD x168.toNat T.u) 0) then
      L (IntKind.wrap .i64 (x167 + 1)) (IntKind.wrap .i64 (x168 + 1))
    else
      L x167 (IntKind.wrap .i64 (x168 + 1))
    else none
  else
    some [T.i .i64 0, T.i .i64 x167]
def f197_0_c (b0_2 : Bool) (l0_0 : List T) (n0_1 : Int) (x167 : Int) (x168 : Int) : CSt := ⟨[.bp 3 0, .i .i64 x167, .i .i64 x168], [.dead, .dead, .dead, .box [.ro 0 true [.b, .sl false [.i .u8]] l0_0, .i .i64 n0_1, .b b0_2]]⟩
theorem f197_0_round (c : Orc) (lf : Nat) (b0_2 : Bool) (l0_0 : List T) (n0_1 : Int) (L : CSt → Option (List T)) (x167 : Int) (x168 : Int) :
    roundK c env lf 6 fi197 3 3 [] [1, 3, 4] (x197_3_0) L (f197_0_c b0_2 l0_0 n0_1 x167 x168) = f197_0_s c lf b0_2 l0_0 n0_1 (fun x167 x168 => L (f197_0_c b0_2 l0_0 n0_1 x167 x168)) x167 x168 := by kernel_rfl
def f197_0 (c : Orc) (lf : Nat) (b0_2 : Bool) (l0_0 : List T) (n0_1 : Int) : Nat → Int → Int → Option (List T)
  | 0 => fun _ _ => none
  | n + 1 => fun x167 x168 => f197_0_s c lf b0_2 l0_0 n0_1 (f197_0 c lf b0_2 l0_0 n0_1 n) x167 x168
theorem f197_0_u (c : Orc) (lf : Nat) (b0_2 : Bool) (l0_0 : List T) (n0_1 : Int) (n : Nat) (x167 : Int) (x168 : Int) : f197_0 c lf b0_2 l0_0 n0_1 (n + 1) x167 x168 = f197_0_s c lf b0_2 l0_0 n0_1 (f197_0 c lf b0_2 l0_0 n0_1 n) x167 x168 := rfl
theorem f197_0_eq (c : Orc) (lf : Nat) (b0_2 : Bool) (l0_0 : List T) (n0_1 : Int) (n : Nat) (x167 : Int) (x168 : Int) :
    lpK c env lf 6 fi197 3 3 [] [1, 3, 4] (x197_3_0) n (f197_0_c b0_2 l0_0 n0_1 x167 x168) = f197_0 c lf b0_2 l0_0 n0_1 n x167 x168 := by
  induction n generalizing x167 x168 with
  | zero => rfl
  | succ n ih =>
    refine (f197_0_round c lf b0_2 l0_0 n0_1 _ x167 x168).trans ?_
    have e : (fun x167 x168 => lpK c env lf 6 fi197 3 3 [] [1, 3, 4] (x197_3_0) n (f197_0_c b0_2 l0_0 n0_1 x167 x168)) = f197_0 c lf b0_2 l0_0 n0_1 n := by funext x167 x168; exact ih x167 x168
    show f197_0_s c lf b0_2 l0_0 n0_1 (fun x167 x168 => lpK c env lf 6 fi197 3 3 [] [1, 3, 4] (x197_3_0) n (f197_0_c b0_2 l0_0 n0_1 x167 x168)) x167 x168 = _
    rw [e]; rfl
/-- loop.example/g00285/spec.l10Next -/
def f197_t (c : Orc) (lf : Nat) (lp0 : Bool → List T → Int → Int → Int → Option (List T)) (l0_0 : List T) (n0_1 : Int) (b0_2 : Bool) : Option (List T) :=
  (lp0 b0_2 l0_0 n0_1 0 0).bind fun r169 =>
  some [T.i .i64 (asI (nth r169 1))]
def f197 (c : Orc) (lf : Nat) (l0_0 : List T) (n0_1 : Int) (b0_2 : Bool) : Option (List T) := f197_t c lf (fun (b0_2 : Bool) (l0_0 : List T) (n0_1 : Int) (x167 : Int) (x168 : Int) => f197_0 c lf b0_2 l0_0 n0_1 lf x167 x168) l0_0 n0_1 b0_2
theorem f197_raw (c : Orc) (lf : Nat) (l0_0 : List T) (n0_1 : Int) (b0_2 : Bool) : funK c env lf 6 fi197 [.st [.sl l0_0, .i .i64 n0_1, .b b0_2]] = f197_t c lf (fun (b0_2 : Bool) (l0_0 : List T) (n0_1 : Int) (x167 : Int) (x168 : Int) => lpK c env lf 6 fi197 3 3 [] [1, 3, 4] (x197_3_0) lf (f197_0_c b0_2 l0_0 n0_1 x167 x168)) l0_0 n0_1 b0_2 := by kernel_rfl
theorem f197_eq (c : Orc) (lf : Nat) (l0_0 : List T) (n0_1 : Int) (b0_2 : Bool) : funK c env lf 6 fi197 [.st [.sl l0_0, .i .i64 n0_1, .b b0_2]] = f197 c lf l0_0 n0_1 b0_2 := by
  refine (f197_raw c lf l0_0 n0_1 b0_2).trans ?_
  have e0 : (fun (b0_2 : Bool) (l0_0 : List T) (n0_1 : Int) (x167 : Int) (x168 : Int) => lpK c env lf 6 fi197 3 3 [] [1, 3, 4] (x197_3_0) lf (f197_0_c b0_2 l0_0 n0_1 x167 x168)) = (fun (b0_2 : Bool) (l0_0 : List T) (n0_1 : Int) (x167 : Int) (x168 : Int) => f197_0 c lf b0_2 l0_0 n0_1 lf x167 x168) := by funext b0_2 l0_0 n0_1 x167 x168; exact f197_0_eq c lf b0_2 l0_0 n0_1 lf x167 x168
  rw [e0]; rfl
/-- loop.example/g00285/spec.FreeBlocks, the loop at region 3. -/
def f198_0_s (c : Orc) (lf : Nat) (b0_3 : Bool) (l0_0 : List T) (l0_2 : List T) (n0_1 : Int) (n0_4 : Int) (L : Int → Int → Option (List T)) (x176 : Int) (x177 : Int) : Option (List T) :=
  bif iLt x177 (l0_0.length : Int) then
    bif inR x177 l0_0.length then
    bif !(asB (T.cell (l0_0.getD x177.toNat T.u) 2)) then
      bif inR x177 l0_0.length then
      (c 197 [T.st [T.sl (asL (T.cell (l0_0.getD x177.toNat T.u) 0)), T.i .i64 (asI (T.cell (l0_0.getD x177.toNat T.u) 1)), T.b (asB (T.cell (l0_0.getD x177.toNat T.u) 2))]]).bind fun r178 =>
      bif (asI (nth r178 0)) == 0 then
        L (IntKind.wrap .i64 (x176 + 1)) (IntKind.wrap .i64 (x177 + 1))
      else
        L x176 (IntKind.wrap .i64 (x177 + 1))
      else none
    else
      L x176 (IntKind.wrap .i64 (x177 + 1))
    else none
  else
    some [T.i .i64 0, T.i .i64 x176]
def f198_0_c (b0_3 : Bool) (l0_0 : List T) (l0_2 : List T) (n0_1 : Int) (n0_4 : Int) (x176 : Int) (x177 : Int) : CSt := ⟨[.bp 5 0, .i .i64 x176, .i .i64 x177], [.dead, .dead, .dead, .dead, .dead, .box [.ro 0 true [.sl true [.b, .sl false [.i .u8]], .i .i64, .b] l0_0, .i .i64 n0_1, .ro 0 true [.i .i64, .i .i64, .i .i64] l0_2, .b b0_3, .i .i64 n0_4]]⟩
theorem f198_0_round (c : Orc) (lf : Nat) (b0_3 : Bool) (l0_0 : List T) (l0_2 : List T) (n0_1 : Int) (n0_4 : Int) (L : CSt → Option (List T)) (x176 : Int) (x177 : Int) :
    roundK c env lf 6 fi198 5 3 [] [1, 3, 4] (x198_3_0) L (f198_0_c b0_3 l0_0 l0_2 n0_1 n0_4 x176 x177) = f198_0_s c lf b0_3 l0_0 l0_2 n0_1 n0_4 (fun x176 x177 => L (f198_0_c b0_3 l0_0 l0_2 n0_1 n0_4 x176 x177)) x176 x177 := by kernel_rfl
def f198_0 (c : Orc) (lf : Nat) (b0_3 : Bool) (l0_0 : List T) (l0_2 : List T) (n0_1 : Int) (n0_4 : Int) : Nat → Int → Int → Option (List T)
  | 0 => fun _ _ => none
  | n + 1 => fun x176 x177 => f198_0_s c lf b0_3 l0_0 l0_2 n0_1 n0_4 (f198_0 c lf b0_3 l0_0 l0_2 n0_1 n0_4 n) x176 x177
theorem f198_0_u (c : Orc) (lf : Nat) (b0_3 : Bool) (l0_0 : List T) (l0_2 : List T) (n0_1 : Int) (n0_4 : Int) (n : Nat) (x176 : Int) (x177 : Int) : f198_0 c lf b0_3 l0_0 l0_2 n0_1 n0_4 (n + 1) x176 x177 = f198_0_s c lf b0_3 l0_0 l0_2 n0_1 n0_4 (f198_0 c lf b0_3 l0_0 l0_2 n0_1 n0_4 n) x176 x177 := rfl
theorem f198_0_eq (c : Orc) (lf : Nat) (b0_3 : Bool) (l0_0 : List T) (l0_2 : List T) (n0_1 : Int) (n0_4 : Int) (n : Nat) (x176 : Int) (x177 : Int) :
    lpK c env lf 6 fi198 5 3 [] [1, 3, 4] (x198_3_0) n (f198_0_c b0_3 l0_0 l0_2 n0_1 n0_4 x176 x177) = f198_0 c lf b0_3 l0_0 l0_2 n0_1 n0_4 n x176 x177 := by
  induction n generalizing x176 x177 with
  | zero => rfl
  | succ n ih =>
    refine (f198_0_round c lf b0_3 l0_0 l0_2 n0_1 n0_4 _ x176 x177).trans ?_
    have e : (fun x176 x177 => lpK c env lf 6 fi198 5 3 [] [1, 3, 4] (x198_3_0) n (f198_0_c b0_3 l0_0 l0_2 n0_1 n0_4 x176 x177)) = f198_0 c lf b0_3 l0_0 l0_2 n0_1 n0_4 n := by funext x176 x177; exact ih x176 x177
    show f198_0_s c lf b0_3 l0_0 l0_2 n0_1 n0_4 (fun x176 x177 => lpK c env lf 6 fi198 5 3 [] [1, 3, 4] (x198_3_0) n (f198_0_c b0_3 l0_0 l0_2 n0_1 n0_4 x176 x177)) x176 x177 = _
    rw [e]; rfl
/-- loop.example/g00285/spec.FreeBlocks -/
def f198_t (c : Orc) (lf : Nat) (lp0 : Bool → List T → List T → Int → Int → Int → Int → Option (List T)) (l0_0 : List T) (n0_1 : Int) (l0_2 : List T) (b0_3 : Bool) (n0_4 : Int) : Option (List T) :=
  (lp0 b0_3 l0_0 l0_2 n0_1 n0_4 0 0).bind fun r179 =>
  some [T.i .i64 (asI (nth r179 1))]
def f198 (c : Orc) (lf : Nat) (l0_0 : List T) (n0_1 : Int) (l0_2 : List T) (b0_3 : Bool) (n0_4 : Int) : Option (List T) := f198_t c lf (fun (b0_3 : Bool) (l0_0 : List T) (l0_2 : List T) (n0_1 : Int) (n0_4 : Int) (x176 : Int) (x177 : Int) => f198_0 c lf b0_3 l0_0 l0_2 n0_1 n0_4 lf x176 x177) l0_0 n0_1 l0_2 b0_3 n0_4
theorem f198_raw (c : Orc) (lf : Nat) (l0_0 : List T) (n0_1 : Int) (l0_2 : List T) (b0_3 : Bool) (n0_4 : Int) : funK c env lf 6 fi198 [.st [.sl l0_0, .i .i64 n0_1, .sl l0_2, .b b0_3, .i .i64 n0_4]] = f198_t c lf (fun (b0_3 : Bool) (l0_0 : List T) (l0_2 : List T) (n0_1 : Int) (n0_4 : Int) (x176 : Int) (x177 : Int) => lpK c env lf 6 fi198 5 3 [] [1, 3, 4] (x198_3_0) lf (f198_0_c b0_3 l0_0 l0_2 n0_1 n0_4 x176 x177)) l0_0 n0_1 l0_2 b0_3 n0_4 := by kernel_rfl
theorem f198_eq (c : Orc) (lf : Nat) (l0_0 : List T) (n0_1 : Int) (l0_2 : List T) (b0_3 : Bool) (n0_4 : Int) : funK c env lf 6 fi198 [.st [.sl l0_0, .i .i64 n0_1, .sl l0_2, .b b0_3, .i .i64 n0_4]] = f198 c lf l0_0 n0_1 l0_2 b0_3 n0_4 := by
  refine (f198_raw c lf l0_0 n0_1 l0_2 b0_3 n0_4).trans ?_
  have e0 : (fun (b0_3 : Bool) (l0_0 : List T) (l0_2 : List T) (n0_1 : Int) (n0_4 : Int) (x176 : Int) (x177 : Int) => lpK c env lf 6 fi198 5 3 [] [1, 3, 4] (x198_3_0) lf (f198_0_c b0_3 l0_0 l0_2 n0_1 n0_4 x176 x177)) = (fun (b0_3 : Bool) (l0_0 : List T) (l0_2 : List T) (n0_1 : Int) (n0_4 : Int) (x176 : Int) (x177 : Int) => f198_0 c lf b0_3 l0_0 l0_2 n0_1 n0_4 lf x176 x177) := by funext b0_3 l0_0 l0_2 n0_1 n0_4 x176 x177; exact f198_0_eq c lf b0_3 l0_0 l0_2 n0_1 n0_4 lf x176 x177
  rw [e0]; rfl
/-- loop.example/g00285/spec.OpenBlock, the loop at region 3. -/
def f154_0_s (c : Orc) (lf : Nat) (b0_3 : Bool) (l0_0 : List T) (l0_2 : List T) (n1 : Int) (n0_1 : Int) (n0_4 : Int) (L : Int → Int → Option (List T)) (x187 : Int) (x188 : Int) : Option (List T) :=
  bif iLt x188 (l0_0.length : Int) then
    bif inR x188 l0_0.length then
    (c 197 [T.st [T.sl (asL (T.cell (l0_0.getD x188.toNat T.u) 0)), T.i .i64 (asI (T.cell (l0_0.getD x188.toNat T.u) 1)), T.b (asB (T.cell (l0_0.getD x188.toNat T.u) 2))]]).bind fun r189 =>
    bif !(asB (T.cell (l0_0.getD x188.toNat T.u) 2)) then
      bif iLt 0 (asI (nth r189 0)) then
        bif iLt (asI (nth r189 0)) ((asL (T.cell (l0_0.getD x188.toNat T.u) 0)).length : Int) then
          some [T.i .i64 0, T.i .i64 x188]
        else
          bif !(asB (T.cell (l0_0.getD x188.toNat T.u) 2)) then
            bif (asI (nth r189 0)) == 0 then
              bif iLt x187 0 then
                L x188 (IntKind.wrap .i64 (x188 + 1))
              else
                L x187 (IntKind.wrap .i64 (x188 + 1))
            else
              L x187 (IntKind.wrap .i64 (x188 + 1))
          else
            L x187 (IntKind.wrap .i64 (x188 + 1))
      else
        bif !(asB (T.cell (l0_0.getD x188.toNat T.u) 2)) then
          bif (asI (nth r189 0)) == 0 then
            bif iLt x187 0 then
              L x188 (IntKind.wrap .i64 (x188 + 1))
            else
              L x187 (IntKind.wrap .i64 (x188 + 1))
          else
            L x187 (IntKind.wrap .i64 (x188 + 1))
        else
          L x187 (IntKind.wrap .i64 (x188 + 1))
    else
      bif !(asB (T.cell (l0_0.getD x188.toNat T.u) 2)) then
        bif (asI (nth r189 0)) == 0 then
          bif iLt x187 0 then
            L x188 (IntKind.wrap .i64 (x188 + 1))
          else
            L x187 (IntKind.wrap .i64 (x188 + 1))
        else
          L x187 (IntKind.wrap .i64 (x188 + 1))
      else
        L x187 (IntKind.wrap .i64 (x188 + 1))
    else none
  else
    some [T.i .i64 1, T.i .i64 n1, T.i .i64 x187, T.sl l0_0, T.i .i64 n0_1, T.sl l0_2, T.b b0_3, T.i .i64 n0_4]
def f154_0_c (b0_3 : Bool) (l0_0 : List T) (l0_2 : List T) (n1 : Int) (n0_1 : Int) (n0_4 : Int) (x187 : Int) (x188 : Int) : CSt := ⟨[.i .i64 n1, .bp 6 0, .i .i64 x187, .i .i64 x188], [.dead, .dead, .dead, .dead, .dead, .dead, .box [.ro 0 true [.sl true [.b, .sl false [.i .u8]], .i .i64, .b] l0_0, .i .i64 n0_1, .ro 0 true [.i .i64, .i .i64, .i .i64] l0_2, .b b0_3, .i .i64 n0_4]]⟩
theorem f154_0_round (c : Orc) (lf : Nat) (b0_3 : Bool) (l0_0 : List T) (l0_2 : List T) (n1 : Int) (n0_1 : Int) (n0_4 : Int) (L : CSt → Option (List T)) (x187 : Int) (x188 : Int) :
    roundK c env lf 6 fi154 6 3 [] [1, 2, 5, 6] (x154_3_0) L (f154_0_c b0_3 l0_0 l0_2 n1 n0_1 n0_4 x187 x188) = f154_0_s c lf b0_3 l0_0 l0_2 n1 n0_1 n0_4 (fun x187 x188 => L (f154_0_c b0_3 l0_0 l0_2 n1 n0_1 n0_4 x187 x188)) x187 x188 := by kernel_rfl
def f154_0 (c : Orc) (lf : Nat) (b0_3 : Bool) (l0_0 : List T) (l0_2 : List T) (n1 : Int) (n0_1 : Int) (n0_4 : Int) : Nat → Int → Int → Option (List T)
  | 0 => fun _ _ => none
  | n + 1 => fun x187 x188 => f154_0_s c lf b0_3 l0_0 l0_2 n1 n0_1 n0_4 (f154_0 c lf b0_3 l0_0 l0_2 n1 n0_1 n0_4 n) x187 x188
theorem f154_0_u (c : Orc) (lf : Nat) (b0_3 : Bool) (l0_0 : List T) (l0_2 : List T) (n1 : Int) (n0_1 : Int) (n0_4 : Int) (n : Nat) (x187 : Int) (x188 : Int) : f154_0 c lf b0_3 l0_0 l0_2 n1 n0_1 n0_4 (n + 1) x187 x188 = f154_0_s c lf b0_3 l0_0 l0_2 n1 n0_1 n0_4 (f154_0 c lf b0_3 l0_0 l0_2 n1 n0_1 n0_4 n) x187 x188 := rfl
theorem f154_0_eq (c : Orc) (lf : Nat) (b0_3 : Bool) (l0_0 : List T) (l0_2 : List T) (n1 : Int) (n0_1 : Int) (n0_4 : Int) (n : Nat) (x187 : Int) (x188 : Int) :
    lpK c env lf 6 fi154 6 3 [] [1, 2, 5, 6] (x154_3_0) n (f154_0_c b0_3 l0_0 l0_2 n1 n0_1 n0_4 x187 x188) = f154_0 c lf b0_3 l0_0 l0_2 n1 n0_1 n0_4 n x187 x188 := by
  induction n generalizing x187 x188 with
  | zero => rfl
  | succ n ih =>
    refine (f154_0_round c lf b0_3 l0_0 l0_2 n1 n0_1 n0_4 _ x187 x188).trans ?_
    have e : (fun x187 x188 => lpK c env lf 6 fi154 6 3 [] [1, 2, 5, 6] (x154_3_0) n (f154_0_c b0_3 l0_0 l0_2 n1 n0_1 n0_4 x187 x188)) = f154_0 c lf b0_3 l0_0 l0_2 n1 n0_1 n0_4 n := by funext x187 x188; exact ih x187 x188
    show f154_0_s c lf b0_3 l0_0 l0_2 n1 n0_1 n0_4 (fun x187 x188 => lpK c env lf 6 fi154 6 3 [] [1, 2, 5, 6] (x154_3_0) n (f154_0_c b0_3 l0_0 l0_2 n1 n0_1 n0_4 x187 x188)) x187 x188 = _
    rw [e]; rfl
/-- loop.example/g00285/spec.OpenBlock -/
def f154_t (c : Orc) (lf : Nat) (lp0 : Bool → List T → List T → Int → Int → Int → Int → Int → Option (List T)) (l0_0 : List T) (n0_1 : Int) (l0_2 : List T) (b0_3 : Bool) (n0_4 : Int) (n1 : Int) : Option (List T) :=
  (lp0 b0_3 l0_0 l0_2 n1 n0_1 n0_4 (-1) 0).bind fun r190 =>
  bif asI (nth r190 0) == 0 then
    some [T.i .i64 (asI (nth r190 1))]
  else
    (c 198 [T.st [T.sl (asL (nth r190 3)), T.i .i64 (asI (nth r190 4)), T.sl (asL (nth r190 5)), T.b (asB (nth r190 6)), T.i .i64 (asI (nth r190 7))]]).bind fun r191 =>
    bif iLt (asI (nth r190 1)) (asI (nth r191 0)) then
      some [T.i .i64 (asI (nth r190 2))]
    else
      some [T.i .i64 (-1)]
def f154 (c : Orc) (lf : Nat) (l0_0 : List T) (n0_1 : Int) (l0_2 : List T) (b0_3 : Bool) (n0_4 : Int) (n1 : Int) : Option (List T) := f154_t c lf (fun (b0_3 : Bool) (l0_0 : List T) (l0_2 : List T) (n1 : Int) (n0_1 : Int) (n0_4 : Int) (x187 : Int) (x188 : Int) => f154_0 c lf b0_3 l0_0 l0_2 n1 n0_1 n0_4 lf x187 x188) l0_0 n0_1 l0_2 b0_3 n0_4 n1
theorem f154_raw (c : Orc) (lf : Nat) (l0_0 : List T) (n0_1 : Int) (l0_2 : List T) (b0_3 : Bool) (n0_4 : Int) (n1 : Int) : funK c env lf 6 fi154 [.st [.sl l0_0, .i .i64 n0_1, .sl l0_2, .b b0_3, .i .i64 n0_4], .i .i64 n1] = f154_t c lf (fun (b0_3 : Bool) (l0_0 : List T) (l0_2 : List T) (n1 : Int) (n0_1 : Int) (n0_4 : Int) (x187 : Int) (x188 : Int) => lpK c env lf 6 fi154 6 3 [] [1, 2, 5, 6] (x154_3_0) lf (f154_0_c b0_3 l0_0 l0_2 n1 n0_1 n0_4 x187 x188)) l0_0 n0_1 l0_2 b0_3 n0_4 n1 := by kernel_rfl
theorem f154_eq (c : Orc) (lf : Nat) (l0_0 : List T) (n0_1 : Int) (l0_2 : List T) (b0_3 : Bool) (n0_4 : Int) (n1 : Int) : funK c env lf 6 fi154 [.st [.sl l0_0, .i .i64 n0_1, .sl l0_2, .b b0_3, .i .i64 n0_4], .i .i64 n1] = f154 c lf l0_0 n0_1 l0_2 b0_3 n0_4 n1 := by
  refine (f154_raw c lf l0_0 n0_1 l0_2 b0_3 n0_4 n1).trans ?_
  have e0 : (fun (b0_3 : Bool) (l0_0 : List T) (l0_2 : List T) (n1 : Int) (n0_1 : Int) (n0_4 : Int) (x187 : Int) (x188 : Int) => lpK c env lf 6 fi154 6 3 [] [1, 2, 5, 6] (x154_3_0) lf (f154_0_c b0_3 l0_0 l0_2 n1 n0_1 n0_4 x187 x188)) = (fun (b0_3 : Bool) (l0_0 : List T) (l0_2 : List T) (n1 : Int) (n0_1 : Int) (n0_4 : Int) (x187 : Int) (x188 : Int) => f154_0 c lf b0_3 l0_0 l0_2 n1 n0_1 n0_4 lf x187 x188) := by funext b0_3 l0_0 l0_2 n1 n0_1 n0_4 x187 x188; exact f154_0_eq c lf b0_3 l0_0 l0_2 n1 n0_1 n0_4 lf x187 x188
  rw [e0]; rfl
/-- loop.example/g00285/spec.NextPage -/
def f155_t (c : Orc) (lf : Nat) (l0_0 : List T) (n1 : Int) : Option (List T) :=
  bif iLt n1 0 then
    some [T.i .i64 (-1)]
  else
    bif iLe (l0_0.length : Int) n1 then
      some [T.i .i64 (-1)]
    else
      bif inR n1 l0_0.length then
      (c 197 [T.st [T.sl (asL (T.cell (l0_0.getD n1.toNat T.u) 0)), T.i .i64 (asI (T.cell (l0_0.getD n1.toNat T.u) 1)), T.b (asB (T.cell (l0_0.getD n1.toNat T.u) 2))]]).bind fun r192 =>
      some [T.i .i64 (asI (nth r192 0))]
      else none
def f155 (c : Orc) (lf : Nat) (l0_0 : List T) (n1 : Int) : Option (List T) := f155_t c lf l0_0 n1
theorem f155_raw (c : Orc) (lf : Nat) (l0_0 : List T) (n1 : Int) : funK c env lf 6 fi155 [.st [.sl l0_0], .i .i64 n1] = f155_t c lf l0_0 n1 := by kernel_rfl
theorem f155_eq (c : Orc) (lf : Nat) (l0_0 : List T) (n1 : Int) : funK c env lf 6 fi155 [.st [.sl l0_0], .i .i64 n1] = f155 c lf l0_0 n1 := by
  refine (f155_raw c lf l0_0 n1).trans ?_
  rfl
/-- loop.example/g00285/spec.l10May -/
def f229_t (c : Orc) (lf : Nat) (l0_0 : List T) (n1 : Int) (b2 : Bool) : Option (List T) :=
  (c 124 [T.st [T.sl l0_0]]).bind fun r193 =>
  bif !(asB (nth r193 0)) then
    some [T.i .i64 1]
  else
    bif iLt n1 0 then
      some [T.i .i64 1]
    else
      bif iLe (l0_0.length : Int) n1 then
        some [T.i .i64 1]
      else
        bif inR n1 l0_0.length then
        bif asB (T.cell (l0_0.getD n1.toNat T.u) 2) then
          some [T.i .i64 2]
        else
          bif b2 then
            some [T.i .i64 5]
          else
            some [T.i .i64 0]
        else none
def f229 (c : Orc) (lf : Nat) (l0_0 : List T) (n1 : Int) (b2 : Bool) : Option (List T) := f229_t c lf l0_0 n1 b2
theorem f229_raw (c : Orc) (lf : Nat) (l0_0 : List T) (n1 : Int) (b2 : Bool) : funK c env lf 6 fi229 [.st [.sl l0_0], .i .i64 n1, .b b2] = f229_t c lf l0_0 n1 b2 := by kernel_rfl
theorem f229_eq (c : Orc) (lf : Nat) (l0_0 : List T) (n1 : Int) (b2 : Bool) : funK c env lf 6 fi229 [.st [.sl l0_0], .i .i64 n1, .b b2] = f229 c lf l0_0 n1 b2 := by
  refine (f229_raw c lf l0_0 n1 b2).trans ?_
  rfl
/-- loop.example/g00285/spec.l10Program -/
def f200_t (c : Orc) (lf : Nat) (l0_0 : List T) (n1 : Int) (l2 : List T) : Option (List T) :=
  bif iLt 400 (l2.length : Int) then
    some [T.i .i64 1]
  else
    (c 155 [T.st [T.sl l0_0], T.i .i64 n1]).bind fun r194 =>
    (c 229 [T.st [T.sl l0_0], T.i .i64 n1, T.b ((asI (nth r194 0)) == 8)]).bind fun r195 =>
    some [T.i .i64 (asI (nth r195 0))]
def f200 (c : Orc) (lf : Nat) (l0_0 : List T) (n1 : Int) (l2 : List T) : Option (List T) := f200_t c lf l0_0 n1 l2
theorem f200_raw (c : Orc) (lf : Nat) (l0_0 : List T) (n1 : Int) (l2 : List T) : funK c env lf 6 fi200 [.st [.sl l0_0], .i .i64 n1, .sl l2] = f200_t c lf l0_0 n1 l2 := by kernel_rfl
theorem f200_eq (c : Orc) (lf : Nat) (l0_0 : List T) (n1 : Int) (l2 : List T) : funK c env lf 6 fi200 [.st [.sl l0_0], .i .i64 n1, .sl l2] = f200 c lf l0_0 n1 l2 := by
  refine (f200_raw c lf l0_0 n1 l2).trans ?_
  rfl
/-- loop.example/g00285/spec.l11May -/
def f199_t (c : Orc) (lf : Nat) (l0_0 : List T) (n0_1 : Int) (l0_2 : List T) (b0_3 : Bool) (n1 : Int) : Option (List T) :=
  (c 70 [T.st [T.sl l0_0, T.i .i64 n0_1, T.sl l0_2, T.b b0_3]]).bind fun r196 =>
  bif !(asB (nth r196 0)) then
    some [T.i .i64 1]
  else
    bif b0_3 then
      some [T.i .i64 10]
    else
      bif iLe 100000 n0_1 then
        some [T.i .i64 10]
      else
        some [T.i .i64 n1]
def f199 (c : Orc) (lf : Nat) (l0_0 : List T) (n0_1 : Int) (l0_2 : List T) (b0_3 : Bool) (n1 : Int) : Option (List T) := f199_t c lf l0_0 n0_1 l0_2 b0_3 n1
theorem f199_raw (c : Orc) (lf : Nat) (l0_0 : List T) (n0_1 : Int) (l0_2 : List T) (b0_3 : Bool) (n1 : Int) : funK c env lf 6 fi199 [.st [.sl l0_0, .i .i64 n0_1, .sl l0_2, .b b0_3], .i .i64 n1] = f199_t c lf l0_0 n0_1 l0_2 b0_3 n1 := by kernel_rfl
theorem f199_eq (c : Orc) (lf : Nat) (l0_0 : List T) (n0_1 : Int) (l0_2 : List T) (b0_3 : Bool) (n1 : Int) : funK c env lf 6 fi199 [.st [.sl l0_0, .i .i64 n0_1, .sl l0_2, .b b0_3], .i .i64 n1] = f199 c lf l0_0 n0_1 l0_2 b0_3 n1 := by
  refine (f199_raw c lf l0_0 n0_1 l0_2 b0_3 n1).trans ?_
  rfl
/-- loop.example/g00285/spec.FaultAt, the loop at region 2. -/
def f201_0_s (c : Orc) (lf : Nat) (b0_3 : Bool) (l0_0 : List T) (l0_2 : List T) (n0_1 : Int) (L : Int → Option (List T)) (x199 : Int) : Option (List T) :=
  bif iLt x199 (l0_2.length : Int) then
    bif inR x199 l0_2.length then
    bif (asI (T.cell (l0_2.getD x199.toNat T.u) 0)) == n0_1 then
      bif inR x199 l0_2.length then
      some [T.i .i64 0, T.b true, T.i .i64 (asI (T.cell (l0_2.getD x199.toNat T.u) 0)), T.i .i64 (asI (T.cell (l0_2.getD x199.toNat T.u) 1)), T.i .i64 (asI (T.cell (l0_2.getD x199.toNat T.u) 2))]
      else none
    else
      L (IntKind.wrap .i64 (x199 + 1))
    else none
  else
    some [T.i .i64 1, T.i .i64 0, T.i .i64 0, T.i .i64 0]
def f201_0_c (b0_3 : Bool) (l0_0 : List T) (l0_2 : List T) (n0_1 : Int) (x199 : Int) : CSt := ⟨[.bp 4 0, .bp 5 0, .i .i64 x199], [.dead, .dead, .dead, .dead, .box [.ro 0 true [.sl true [.b, .sl false [.i .u8]], .i .i64, .b] l0_0, .i .i64 n0_1, .ro 0 true [.i .i64, .i .i64, .i .i64] l0_2, .b b0_3], .box [.i .i64 0, .i .i64 0, .i .i64 0]]⟩
theorem f201_0_round (c : Orc) (lf : Nat) (b0_3 : Bool) (l0_0 : List T) (l0_2 : List T) (n0_1 : Int) (L : CSt → Option (List T)) (x199 : Int) :
    roundK c env lf 6 fi201 4 2 [] [1, 2, 4] (x201_2_0) L (f201_0_c b0_3 l0_0 l0_2 n0_1 x199) = f201_0_s c lf b0_3 l0_0 l0_2 n0_1 (fun x199 => L (f201_0_c b0_3 l0_0 l0_2 n0_1 x199)) x199 := by kernel_rfl
def f201_0 (c : Orc) (lf : Nat) (b0_3 : Bool) (l0_0 : List T) (l0_2 : List T) (n0_1 : Int) : Nat → Int → Option (List T)
  | 0 => fun _ => none
  | n + 1 => fun x199 => f201_0_s c lf b0_3 l0_0 l0_2 n0_1 (f201_0 c lf b0_3 l0_0 l0_2 n0_1 n) x199
theorem f201_0_u (c : Orc) (lf : Nat) (b0_3 : Bool) (l0_0 : List T) (l0_2 : List T) (n0_1 : Int) (n : Nat) (x199 : Int) : f201_0 c lf b0_3 l0_0 l0_2 n0_1 (n + 1) x199 = f201_0_s c lf b0_3 l0_0 l0_2 n0_1 (f201_0 c lf b0_3 l0_0 l0_2 n0_1 n) x199 := rfl
theorem f201_0_eq (c : Orc) (lf : Nat) (b0_3 : Bool) (l0_0 : List T) (l0_2 : List T) (n0_1 : Int) (n : Nat) (x199 : Int) :
    lpK c env lf 6 fi201 4 2 [] [1, 2, 4] (x201_2_0) n (f201_0_c b0_3 l0_0 l0_2 n0_1 x199) = f201_0 c lf b0_3 l0_0 l0_2 n0_1 n x199 := by
  induction n generalizing x199 with
  | zero => rfl
  | succ n ih =>
    refine (f201_0_round c lf b0_3 l0_0 l0_2 n0_1 _ x199).trans ?_
    have e : (fun x199 => lpK c env lf 6 fi201 4 2 [] [1, 2, 4] (x201_2_0) n (f201_0_c b0_3 l0_0 l0_2 n0_1 x199)) = f201_0 c lf b0_3 l0_0 l0_2 n0_1 n := by funext x199; exact ih x199
    show f201_0_s c lf b0_3 l0_0 l0_2 n0_1 (fun x199 => lpK c env lf 6 fi201 4 2 [] [1, 2, 4] (x201_2_0) n (f201_0_c b0_3 l0_0 l0_2 n0_1 x199)) x199 = _
    rw [e]; rfl
/-- loop.example/g00285/spec.FaultAt -/
def f201_t (c : Orc) (lf : Nat) (lp0 : Bool → List T → List T → Int → Int → Option (List T)) (l0_0 : List T) (n0_1 : Int) (l0_2 : List T) (b0_3 : Bool) : Option (List T) :=
  (lp0 b0_3 l0_0 l0_2 n0_1 0).bind fun r200 =>
  bif asI (nth r200 0) == 0 then
    some [T.st [T.i .i64 (asI (nth r200 2)), T.i .i64 (asI (nth r200 3)), T.i .i64 (asI (nth r200 4))], T.b (asB (nth r200 1))]
  else
    some [T.st [T.i .i64 0, T.i .i64 0, T.i .i64 0], T.b false]
def f201 (c : Orc) (lf : Nat) (l0_0 : List T) (n0_1 : Int) (l0_2 : List T) (b0_3 : Bool) : Option (List T) := f201_t c lf (fun (b0_3 : Bool) (l0_0 : List T) (l0_2 : List T) (n0_1 : Int) (x199 : Int) => f201_0 c lf b0_3 l0_0 l0_2 n0_1 lf x199) l0_0 n0_1 l0_2 b0_3
theorem f201_raw (c : Orc) (lf : Nat) (l0_0 : List T) (n0_1 : Int) (l0_2 : List T) (b0_3 : Bool) : funK c env lf 6 fi201 [.st [.sl l0_0, .i .i64 n0_1, .sl l0_2, .b b0_3]] = f201_t c lf (fun (b0_3 : Bool) (l0_0 : List T) (l0_2 : List T) (n0_1 : Int) (x199 : Int) => lpK c env lf 6 fi201 4 2 [] [1, 2, 4] (x201_2_0) lf (f201_0_c b0_3 l0_0 l0_2 n0_1 x199)) l0_0 n0_1 l0_2 b0_3 := by kernel_rfl
theorem f201_eq (c : Orc) (lf : Nat) (l0_0 : List T) (n0_1 : Int) (l0_2 : List T) (b0_3 : Bool) : funK c env lf 6 fi201 [.st [.sl l0_0, .i .i64 n0_1, .sl l0_2, .b b0_3]] = f201 c lf l0_0 n0_1 l0_2 b0_3 := by
  refine (f201_raw c lf l0_0 n0_1 l0_2 b0_3).trans ?_
  have e0 : (fun (b0_3 : Bool) (l0_0 : List T) (l0_2 : List T) (n0_1 : Int) (x199 : Int) => lpK c env lf 6 fi201 4 2 [] [1, 2, 4] (x201_2_0) lf (f201_0_c b0_3 l0_0 l0_2 n0_1 x199)) = (fun (b0_3 : Bool) (l0_0 : List T) (l0_2 : List T) (n0_1 : Int) (x199 : Int) => f201_0 c lf b0_3 l0_0 l0_2 n0_1 lf x199) := by funext b0_3 l0_0 l0_2 n0_1 x199; exact f201_0_eq c lf b0_3 l0_0 l0_2 n0_1 lf x199
  rw [e0]; rfl
/-- loop.example/g00285/spec.Program -/
def f202_t (c : Orc) (lf : Nat) (l0_0 : List T) (n1 : Int) (l2 : List T) : Option (List T) :=
  (c 194 [T.st [T.sl l0_0]]).bind fun r201 =>
  (c 200 [T.st [T.sl l0_0], T.i .i64 n1, T.sl l2]).bind fun r202 =>
  bif (asI (nth r202 0)) == 0 then
    bif inR n1 ((asL (T.cell (nth r201 0) 0)).length) then
    (c 155 [T.st [T.sl l0_0], T.i .i64 n1]).bind fun r203 =>
    bif nLe (([] : List T).length + l2.length) LIM then
    bif inR (asI (nth r203 0)) ((asL (T.cell ((asL (T.cell (nth r201 0) 0)).getD n1.toNat T.u) 0)).length) then
    some [T.st [T.sl ((asL (T.cell (nth r201 0) 0)).set n1.toNat (T.setc ((asL (T.cell (nth r201 0) 0)).getD n1.toNat T.u) 0 (T.sl ((asL (T.cell ((asL (T.cell (nth r201 0) 0)).getD n1.toNat T.u) 0)).set ((asI (nth r203 0)).toNat) (T.st [T.b true, T.sl (([] : List T) ++ l2)])))))], T.i .i64 (asI (nth r202 0))]
    else none
    else none
    else none
  else
    some [T.st [T.sl (asL (T.cell (nth r201 0) 0))], T.i .i64 (asI (nth r202 0))]
def f202 (c : Orc) (lf : Nat) (l0_0 : List T) (n1 : Int) (l2 : List T) : Option (List T) := f202_t c lf l0_0 n1 l2
theorem f202_raw (c : Orc) (lf : Nat) (l0_0 : List T) (n1 : Int) (l2 : List T) : funK c env lf 6 fi202 [.st [.sl l0_0], .i .i64 n1, .sl l2] = f202_t c lf l0_0 n1 l2 := by kernel_rfl
theorem f202_eq (c : Orc) (lf : Nat) (l0_0 : List T) (n1 : Int) (l2 : List T) : funK c env lf 6 fi202 [.st [.sl l0_0], .i .i64 n1, .sl l2] = f202 c lf l0_0 n1 l2 := by
  refine (f202_raw c lf l0_0 n1 l2).trans ?_
  rfl
/-- loop.example/g00285/spec.DevProgram -/
def f156_t (c : Orc) (lf : Nat) (l0_0 : List T) (n0_1 : Int) (l0_2 : List T) (b0_3 : Bool) (n1 : Int) (l2 : List T) : Option (List T) :=
  (c 152 [T.st [T.sl l0_0, T.i .i64 n0_1, T.sl l0_2, T.b b0_3]]).bind fun r204 =>
  (c 200 [T.st [T.sl l0_0], T.i .i64 n1, T.sl l2]).bind fun r205 =>
  (c 199 [T.st [T.sl l0_0, T.i .i64 n0_1, T.sl l0_2, T.b b0_3], T.i .i64 (asI (nth r205 0))]).bind fun r206 =>
  bif (asI (nth r206 0)) != 0 then
    some [T.st [T.sl (asL (T.cell (nth r204 0) 0)), T.i .i64 (asI (T.cell (nth r204 0) 1)), T.sl (asL (T.cell (nth r204 0) 2)), T.b (asB (T.cell (nth r204 0) 3))], T.i .i64 (asI (nth r206 0))]
  else
    (c 201 [T.st [T.sl l0_0, T.i .i64 n0_1, T.sl l0_2, T.b b0_3]]).bind fun r207 =>
    bif asB (nth r207 1) then
      bif (asI (T.cell (nth r207 0) 1)) == 1 then
        bif inR n1 ((asL (T.cell (nth r204 0) 0)).length) then
        some [T.st [T.sl ((asL (T.cell (nth r204 0) 0)).set n1.toNat (T.setc ((asL (T.cell (nth r204 0) 0)).getD n1.toNat T.u) 2 (T.b true))), T.i .i64 (IntKind.wrap .i64 (n0_1 + 1)), T.sl (asL (T.cell (nth r204 0) 2)), T.b (asB (T.cell (nth r204 0) 3))], T.i .i64 2]
        else none
      else
        bif asB (nth r207 1) then
          bif iLt (asI (T.cell (nth r207 0) 2)) (l2.length : Int) then
            bif iLe 0 (asI (T.cell (nth r207 0) 2)) && iLe (asI (T.cell (nth r207 0) 2)) (l2.length : Int) then
            (c 202 [T.st [T.sl l0_0], T.i .i64 n1, T.sl (l2.take ((asI (T.cell (nth r207 0) 2)).toNat))]).bind fun r208 =>
            bif asB (nth r207 1) then
              some [T.st [T.sl (asL (T.cell (nth r208 0) 0)), T.i .i64 (IntKind.wrap .i64 (n0_1 + 1)), T.sl (asL (T.cell (nth r204 0) 2)), T.b (asB (nth r207 1))], T.i .i64 10]
            else
              some [T.st [T.sl (asL (T.cell (nth r208 0) 0)), T.i .i64 (IntKind.wrap .i64 (n0_1 + 1)), T.sl (asL (T.cell (nth r204 0) 2)), T.b (asB (nth r207 1))], T.i .i64 0]
            else none
          else
            bif iLe 0 (l2.length : Int) && iLe (l2.length : Int) (l2.length : Int) then
            (c 202 [T.st [T.sl l0_0], T.i .i64 n1, T.sl (l2.take ((l2.length : Int).toNat))]).bind fun r209 =>
            bif asB (nth r207 1) then
              some [T.st [T.sl (asL (T.cell (nth r209 0) 0)), T.i .i64 (IntKind.wrap .i64 (n0_1 + 1)), T.sl (asL (T.cell (nth r204 0) 2)), T.b (asB (nth r207 1))], T.i .i64 10]
            else
              some [T.st [T.sl (asL (T.cell (nth r209 0) 0)), T.i .i64 (IntKind.wrap .i64 (n0_1 + 1)), T.sl (asL (T.cell (nth r204 0) 2)), T.b (asB (nth r207 1))], T.i .i64 0]
            else none
        else
          bif iLe 0 (l2.length : Int) && iLe (l2.length : Int) (l2.length : Int) then
          (c 202 [T.st [T.sl l0_0], T.i .i64 n1, T.sl (l2.take ((l2.length : Int).toNat))]).bind fun r210 =>
          bif asB (nth r207 1) then
            some [T.st [T.sl (asL (T.cell (nth r210 0) 0)), T.i .i64 (IntKind.wrap .i64 (n0_1 + 1)), T.sl (asL (T.cell (nth r204 0) 2)), T.b (asB (nth r207 1))], T.i .i64 10]
          else
            some [T.st [T.sl (asL (T.cell (nth r210 0) 0)), T.i .i64 (IntKind.wrap .i64 (n0_1 + 1)), T.sl (asL (T.cell (nth r204 0) 2)), T.b (asB (nth r207 1))], T.i .i64 0]
          else none
    else
      bif asB (nth r207 1) then
        bif iLt (asI (T.cell (nth r207 0) 2)) (l2.length : Int) then
          bif iLe 0 (asI (T.cell (nth r207 0) 2)) && iLe (asI (T.cell (nth r207 0) 2)) (l2.length : Int) then
          (c 202 [T.st [T.sl l0_0], T.i .i64 n1, T.sl (l2.take ((asI (T.cell (nth r207 0) 2)).toNat))]).bind fun r211 =>
          bif asB (nth r207 1) then
            some [T.st [T.sl (asL (T.cell (nth r211 0) 0)), T.i .i64 (IntKind.wrap .i64 (n0_1 + 1)), T.sl (asL (T.cell (nth r204 0) 2)), T.b (asB (nth r207 1))], T.i .i64 10]
          else
            some [T.st [T.sl (asL (T.cell (nth r211 0) 0)), T.i .i64 (IntKind.wrap .i64 (n0_1 + 1)), T.sl (asL (T.cell (nth r204 0) 2)), T.b (asB (nth r207 1))], T.i .i64 0]
          else none
        else
          bif iLe 0 (l2.length : Int) && iLe (l2.length : Int) (l2.length : Int) then
          (c 202 [T.st [T.sl l0_0], T.i .i64 n1, T.sl (l2.take ((l2.length : Int).toNat))]).bind fun r212 =>
          bif asB (nth r207 1) then
            some [T.st [T.sl (asL (T.cell (nth r212 0) 0)), T.i .i64 (IntKind.wrap .i64 (n0_1 + 1)), T.sl (asL (T.cell (nth r204 0) 2)), T.b (asB (nth r207 1))], T.i .i64 10]
          else
            some [T.st [T.sl (asL (T.cell (nth r212 0) 0)), T.i .i64 (IntKind.wrap .i64 (n0_1 + 1)), T.sl (asL (T.cell (nth r204 0) 2)), T.b (asB (nth r207 1))], T.i .i64 0]
          else none
      else
        bif iLe 0 (l2.length : Int) && iLe (l2.length : Int) (l2.length : Int) then
        (c 202 [T.st [T.sl l0_0], T.i .i64 n1, T.sl (l2.take ((l2.length : Int).toNat))]).bind fun r213 =>
        bif asB (nth r207 1) then
          some [T.st [T.sl (asL (T.cell (nth r213 0) 0)), T.i .i64 (IntKind.wrap .i64 (n0_1 + 1)), T.sl (asL (T.cell (nth r204 0) 2)), T.b (asB (nth r207 1))], T.i .i64 10]
        else
          some [T.st [T.sl (asL (T.cell (nth r213 0) 0)), T.i .i64 (IntKind.wrap .i64 (n0_1 + 1)), T.sl (asL (T.cell (nth r204 0) 2)), T.b (asB (nth r207 1))], T.i .i64 0]
        else none
def f156 (c : Orc) (lf : Nat) (l0_0 : List T) (n0_1 : Int) (l0_2 : List T) (b0_3 : Bool) (n1 : Int) (l2 : List T) : Option (List T) := f156_t c lf l0_0 n0_1 l0_2 b0_3 n1 l2
theorem f156_raw (c : Orc) (lf : Nat) (l0_0 : List T) (n0_1 : Int) (l0_2 : List T) (b0_3 : Bool) (n1 : Int) (l2 : List T) : funK c env lf 6 fi156 [.st [.sl l0_0, .i .i64 n0_1, .sl l0_2, .b b0_3], .i .i64 n1, .sl l2] = f156_t c lf l0_0 n0_1 l0_2 b0_3 n1 l2 := by kernel_rfl
theorem f156_eq (c : Orc) (lf : Nat) (l0_0 : List T) (n0_1 : Int) (l0_2 : List T) (b0_3 : Bool) (n1 : Int) (l2 : List T) : funK c env lf 6 fi156 [.st [.sl l0_0, .i .i64 n0_1, .sl l0_2, .b b0_3], .i .i64 n1, .sl l2] = f156 c lf l0_0 n0_1 l0_2 b0_3 n1 l2 := by
  refine (f156_raw c lf l0_0 n0_1 l0_2 b0_3 n1 l2).trans ?_
  rfl
/-- loop.example/g00285/spec.l13Write, the loop at region 3. -/
def f104_0_s (c : Orc) (lf : Nat) (n3 : Int) (n0_4 : Int) (r227 : List T) (L : Int → Int → Bool → List T → List T → Option (List T)) (x231 : Int) (x232 : Int) (x233 : Bool) (x234 : List T) (x235 : List T) : Option (List T) :=
  bif iLe x231 (x234.length : Int) then
    (c 154 [T.st [T.sl x234, T.i .i64 x232, T.sl x235, T.b x233, T.i .i64 n0_4], T.i .i64 n3]).bind fun r236 =>
    bif x233 then
      some [T.i .i64 0, T.i .i64 (-1), T.i .i64 10, T.i .i64 x232, T.b x233, T.i .i64 n0_4, T.sl x234, T.sl x235]
    else
      bif iLt (asI (nth r236 0)) 0 then
        some [T.i .i64 0, T.i .i64 (-1), T.i .i64 9, T.i .i64 x232, T.b x233, T.i .i64 n0_4, T.sl x234, T.sl x235]
      else
        (c 155 [T.st [T.sl x234], T.i .i64 (asI (nth r236 0))]).bind fun r237 =>
        (c 156 [T.st [T.sl x234, T.i .i64 x232, T.sl x235, T.b x233], T.i .i64 (asI (nth r236 0)), T.sl (asL (nth r227 0))]).bind fun r238 =>
        bif (asI (nth r238 1)) == 0 then
          some [T.i .i64 0, T.i .i64 (IntKind.wrap .i64 ((IntKind.wrap .i64 ((asI (nth r236 0)) * 8)) + (asI (nth r237 0)))), T.i .i64 0, T.i .i64 (asI (T.cell (nth r238 0) 1)), T.b (asB (T.cell (nth r238 0) 3)), T.i .i64 (IntKind.wrap .i64 (n0_4 + 1)), T.sl (asL (T.cell (nth r238 0) 0)), T.sl (asL (T.cell (nth r238 0) 2))]
        else
          bif (asI (nth r238 1)) != 2 then
            bif asB (T.cell (nth r238 0) 3) then
              some [T.i .i64 0, T.i .i64 (-1), T.i .i64 10, T.i .i64 (asI (T.cell (nth r238 0) 1)), T.b (asB (T.cell (nth r238 0) 3)), T.i .i64 (IntKind.wrap .i64 (n0_4 + 1)), T.sl (asL (T.cell (nth r238 0) 0)), T.sl (asL (T.cell (nth r238 0) 2))]
            else
              some [T.i .i64 0, T.i .i64 (-1), T.i .i64 10, T.i .i64 (asI (T.cell (nth r238 0) 1)), T.b (asB (T.cell (nth r238 0) 3)), T.i .i64 n0_4, T.sl (asL (T.cell (nth r238 0) 0)), T.sl (asL (T.cell (nth r238 0) 2))]
          else
            L (IntKind.wrap .i64 (x231 + 1)) (asI (T.cell (nth r238 0) 1)) (asB (T.cell (nth r238 0) 3)) (asL (T.cell (nth r238 0) 0)) (asL (T.cell (nth r238 0) 2))
  else
    some [T.i .i64 1, T.i .i64 x232, T.b x233, T.i .i64 n0_4, T.sl x234, T.sl x235, T.i .i64 0, T.b false, T.i .i64 0, T.sl ([] : List T), T.sl ([] : List T)]
def f104_0_c (n3 : Int) (n0_4 : Int) (r227 : List T) (x231 : Int) (x232 : Int) (x233 : Bool) (x234 : List T) (x235 : List T) : CSt := ⟨[.i .i64 n3, .bp 8 0, .bp 11 0, .rf 14 [] 0 none, .i .i64 x231], [.dead, .dead, .dead, .dead, .dead, .dead, .dead, .dead, .box [.rf 9 [] 0 none, .i .i64 x232, .rf 10 [] 0 none, .b x233, .i .i64 n0_4], .row true [.sl true [.b, .sl false [.i .u8]], .i .i64, .b] x234 0 false, .row true [.i .i64, .i .i64, .i .i64] x235 0 false, .box [.rf 12 [] 0 none, .i .i64 0, .rf 13 [] 0 none, .b false, .i .i64 0], .row true [.sl true [.b, .sl false [.i .u8]], .i .i64, .b] ([] : List T) 0 false, .row true [.i .i64, .i .i64, .i .i64] ([] : List T) 0 false, .row false [.i .u8] (asL (nth r227 0)) 0 false]⟩
theorem f104_0_round (c : Orc) (lf : Nat) (n3 : Int) (n0_4 : Int) (r227 : List T) (L : CSt → Option (List T)) (x231 : Int) (x232 : Int) (x233 : Bool) (x234 : List T) (x235 : List T) :
    roundK c env lf 6 fi104 8 3 [] [3, 4, 8, 11, 12] (x104_3_0) L (f104_0_c n3 n0_4 r227 x231 x232 x233 x234 x235) = f104_0_s c lf n3 n0_4 r227 (fun x231 x232 x233 x234 x235 => L (f104_0_c n3 n0_4 r227 x231 x232 x233 x234 x235)) x231 x232 x233 x234 x235 := by kernel_rfl
def f104_0 (c : Orc) (lf : Nat) (n3 : Int) (n0_4 : Int) (r227 : List T) : Nat → Int → Int → Bool → List T → List T → Option (List T)
  | 0 => fun _ _ _ _ _ => none
  | n + 1 => fun x231 x232 x233 x234 x235 => f104_0_s c lf n3 n0_4 r227 (f104_0 c lf n3 n0_4 r227 n) x231 x232 x233 x234 x235
theorem f104_0_u (c : Orc) (lf : Nat) (n3 : Int) (n0_4 : Int) (r227 : List T) (n : Nat) (x231 : Int) (x232 : Int) (x233 : Bool) (x234 : List T) (x235 : List T) : f104_0 c lf n3 n0_4 r227 (n + 1) x231 x232 x233 x234 x235 = f104_0_s c lf n3 n0_4 r227 (f104_0 c lf n3 n0_4 r227 n) x231 x232 x233 x234 x235 := rfl
theorem f104_0_eq (c : Orc) (lf : Nat) (n3 : Int) (n0_4 : Int) (r227 : List T) (n : Nat) (x231 : Int) (x232 : Int) (x233 : Bool) (x234 : List T) (x235 : List T) :
    lpK c env lf 6 fi104 8 3 [] [3, 4, 8, 11, 12] (x104_3_0) n (f104_0_c n3 n0_4 r227 x231 x232 x233 x234 x235) = f104_0 c lf n3 n0_4 r227 n x231 x232 x233 x234 x235 := by
  induction n generalizing x231 x232 x233 x234 x235 with
  | zero => rfl
  | succ n ih =>
    refine (f104_0_round c lf n3 n0_4 r227 _ x231 x232 x233 x234 x235).trans ?_
    have e : (fun x231 x232 x233 x234 x235 => lpK c env lf 6 fi104 8 3 [] [3, 4, 8, 11, 12] (x104_3_0) n (f104_0_c n3 n0_4 r227 x231 x232 x233 x234 x235)) = f104_0 c lf n3 n0_4 r227 n := by funext x231 x232 x233 x234 x235; exact ih x231 x232 x233 x234 x235
    show f104_0_s c lf n3 n0_4 r227 (fun x231 x232 x233 x234 x235 => lpK c env lf 6 fi104 8 3 [] [3, 4, 8, 11, 12] (x104_3_0) n (f104_0_c n3 n0_4 r227 x231 x232 x233 x234 x235)) x231 x232 x233 x234 x235 = _
    rw [e]; rfl
/-- loop.example/g00285/spec.l13Write -/
def f104_t (c : Orc) (lf : Nat) (lp0 : Int → Int → List T → Int → Int → Bool → List T → List T → Option (List T)) (l0_0 : List T) (n0_1 : Int) (l0_2 : List T) (b0_3 : Bool) (n0_4 : Int) (n1 : Int) (l2 : List T) (n3 : Int) : Option (List T) :=
  (c 153 [T.st [T.i .i64 n1, T.i .i64 n0_4, T.sl l2]]).bind fun r227 =>
  (lp0 n3 n0_4 r227 0 n0_1 b0_3 l0_0 l0_2).bind fun r239 =>
  bif asI (nth r239 0) == 0 then
    some [T.st [T.sl (asL (nth r239 6)), T.i .i64 (asI (nth r239 3)), T.sl (asL (nth r239 7)), T.b (asB (nth r239 4)), T.i .i64 (asI (nth r239 5))], T.i .i64 (asI (nth r239 1)), T.i .i64 (asI (nth r239 2))]
  else
    some [T.st [T.sl (asL (nth r239 4)), T.i .i64 (asI (nth r239 1)), T.sl (asL (nth r239 5)), T.b (asB (nth r239 2)), T.i .i64 (asI (nth r239 3))], T.i .i64 (-1), T.i .i64 9]
def f104 (c : Orc) (lf : Nat) (l0_0 : List T) (n0_1 : Int) (l0_2 : List T) (b0_3 : Bool) (n0_4 : Int) (n1 : Int) (l2 : List T) (n3 : Int) : Option (List T) := f104_t c lf (fun (n3 : Int) (n0_4 : Int) (r227 : List T) (x231 : Int) (x232 : Int) (x233 : Bool) (x234 : List T) (x235 : List T) => f104_0 c lf n3 n0_4 r227 lf x231 x232 x233 x234 x235) l0_0 n0_1 l0_2 b0_3 n0_4 n1 l2 n3
theorem f104_raw (c : Orc) (lf : Nat) (l0_0 : List T) (n0_1 : Int) (l0_2 : List T) (b0_3 : Bool) (n0_4 : Int) (n1 : Int) (l2 : List T) (n3 : Int) : funK c env lf 6 fi104 [.st [.sl l0_0, .i .i64 n0_1, .sl l0_2, .b b0_3, .i .i64 n0_4], .i .i64 n1, .sl l2, .i .i64 n3] = f104_t c lf (fun (n3 : Int) (n0_4 : Int) (r227 : List T) (x231 : Int) (x232 : Int) (x233 : Bool) (x234 : List T) (x235 : List T) => lpK c env lf 6 fi104 8 3 [] [3, 4, 8, 11, 12] (x104_3_0) lf (f104_0_c n3 n0_4 r227 x231 x232 x233 x234 x235)) l0_0 n0_1 l0_2 b0_3 n0_4 n1 l2 n3 := by kernel_rfl
theorem f104_eq (c : Orc) (lf : Nat) (l0_0 : List T) (n0_1 : Int) (l0_2 : List T) (b0_3 : Bool) (n0_4 : Int) (n1 : Int) (l2 : List T) (n3 : Int) : funK c env lf 6 fi104 [.st [.sl l0_0, .i .i64 n0_1, .sl l0_2, .b b0_3, .i .i64 n0_4], .i .i64 n1, .sl l2, .i .i64 n3] = f104 c lf l0_0 n0_1 l0_2 b0_3 n0_4 n1 l2 n3 := by
  refine (f104_raw c lf l0_0 n0_1 l0_2 b0_3 n0_4 n1 l2 n3).trans ?_
  have e0 : (fun (n3 : Int) (n0_4 : Int) (r227 : List T) (x231 : Int) (x232 : Int) (x233 : Bool) (x234 : List T) (x235 : List T) => lpK c env lf 6 fi104 8 3 [] [3, 4, 8, 11, 12] (x104_3_0) lf (f104_0_c n3 n0_4 r227 x231 x232 x233 x234 x235)) = (fun (n3 : Int) (n0_4 : Int) (r227 : List T) (x231 : Int) (x232 : Int) (x233 : Bool) (x234 : List T) (x235 : List T) => f104_0 c lf n3 n0_4 r227 lf x231 x232 x233 x234 x235) := by funext n3 n0_4 r227 x231 x232 x233 x234 x235; exact f104_0_eq c lf n3 n0_4 r227 lf x231 x232 x233 x234 x235
  rw [e0]; rfl
/-- loop.example/g00285/spec.Write -/
def f46_t (c : Orc) (lf : Nat) (l0_0 : List T) (n0_1 : Int) (l0_2 : List T) (b0_3 : Bool) (n0_4 : Int) (n1 : Int) (l2 : List T) (n3 : Int) : Option (List T) :=
  (c 102 [T.st [T.sl l0_0, T.i .i64 n0_1, T.sl l0_2, T.b b0_3, T.i .i64 n0_4]]).bind fun r240 =>
  (c 70 [T.st [T.sl l0_0, T.i .i64 n0_1, T.sl l0_2, T.b b0_3]]).bind fun r241 =>
  bif !(asB (nth r241 0)) then
    some [T.st [T.sl (asL (T.cell (nth r240 0) 0)), T.i .i64 (asI (T.cell (nth r240 0) 1)), T.sl (asL (T.cell (nth r240 0) 2)), T.b (asB (T.cell (nth r240 0) 3)), T.i .i64 (asI (T.cell (nth r240 0) 4))], T.i .i64 (-1), T.i .i64 1]
  else
    (c 103 [T.st [T.i .i64 n1, T.i .i64 n0_4, T.sl l2]]).bind fun r242 =>
    bif !(asB (nth r242 0)) then
      some [T.st [T.sl (asL (T.cell (nth r240 0) 0)), T.i .i64 (asI (T.cell (nth r240 0) 1)), T.sl (asL (T.cell (nth r240 0) 2)), T.b (asB (T.cell (nth r240 0) 3)), T.i .i64 (asI (T.cell (nth r240 0) 4))], T.i .i64 (-1), T.i .i64 1]
    else
      bif iLe 1000000 n0_4 then
        some [T.st [T.sl (asL (T.cell (nth r240 0) 0)), T.i .i64 (asI (T.cell (nth r240 0) 1)), T.sl (asL (T.cell (nth r240 0) 2)), T.b (asB (T.cell (nth r240 0) 3)), T.i .i64 (asI (T.cell (nth r240 0) 4))], T.i .i64 (-1), T.i .i64 1]
      else
        (c 104 [T.st [T.sl (asL (T.cell (nth r240 0) 0)), T.i .i64 (asI (T.cell (nth r240 0) 1)), T.sl (asL (T.cell (nth r240 0) 2)), T.b (asB (T.cell (nth r240 0) 3)), T.i .i64 (asI (T.cell (nth r240 0) 4))], T.i .i64 n1, T.sl l2, T.i .i64 n3]).bind fun r243 =>
        some [T.st [T.sl (asL (T.cell (nth r243 0) 0)), T.i .i64 (asI (T.cell (nth r243 0) 1)), T.sl (asL (T.cell (nth r243 0) 2)), T.b (asB (T.cell (nth r243 0) 3)), T.i .i64 (asI (T.cell (nth r243 0) 4))], T.i .i64 (asI (nth r243 1)), T.i .i64 (asI (nth r243 2))]
def f46 (c : Orc) (lf : Nat) (l0_0 : List T) (n0_1 : Int) (l0_2 : List T) (b0_3 : Bool) (n0_4 : Int) (n1 : Int) (l2 : List T) (n3 : Int) : Option (List T) := f46_t c lf l0_0 n0_1 l0_2 b0_3 n0_4 n1 l2 n3
theorem f46_raw (c : Orc) (lf : Nat) (l0_0 : List T) (n0_1 : Int) (l0_2 : List T) (b0_3 : Bool) (n0_4 : Int) (n1 : Int) (l2 : List T) (n3 : Int) : funK c env lf 6 fi46 [.st [.sl l0_0, .i .i64 n0_1, .sl l0_2, .b b0_3, .i .i64 n0_4], .i .i64 n1, .sl l2, .i .i64 n3] = f46_t c lf l0_0 n0_1 l0_2 b0_3 n0_4 n1 l2 n3 := by kernel_rfl
theorem f46_eq (c : Orc) (lf : Nat) (l0_0 : List T) (n0_1 : Int) (l0_2 : List T) (b0_3 : Bool) (n0_4 : Int) (n1 : Int) (l2 : List T) (n3 : Int) : funK c env lf 6 fi46 [.st [.sl l0_0, .i .i64 n0_1, .sl l0_2, .b b0_3, .i .i64 n0_4], .i .i64 n1, .sl l2, .i .i64 n3] = f46 c lf l0_0 n0_1 l0_2 b0_3 n0_4 n1 l2 n3 := by
  refine (f46_raw c lf l0_0 n0_1 l0_2 b0_3 n0_4 n1 l2 n3).trans ?_
  rfl
/-- loop.example/g00285/impl.copyChip, the loop at region 7. -/
def f141_1_s (c : Orc) (lf : Nat) (x265 : List T) (x266 : Int) (x267 : Int) (x268 : List T) (x269 : List T) (L : Int → List T → Option (List T)) (x271 : Int) (x272 : List T) : Option (List T) :=
  bif iLt x271 ((asL (T.cell (x265.getD x267.toNat T.u) 0)).length : Int) then
    bif inR x271 ((asL (T.cell (x265.getD x267.toNat T.u) 0)).length) then
    (c 147 [T.sl (asL (T.cell ((asL (T.cell (x265.getD x267.toNat T.u) 0)).getD x271.toNat T.u) 1))]).bind fun r273 =>
    bif nLe (x272.length + ([T.st [T.b (asB (T.cell ((asL (T.cell (x265.getD x267.toNat T.u) 0)).getD x271.toNat T.u) 0)), T.sl (asL (nth r273 0))]] : List T).length) LIM then
    L (IntKind.wrap .i64 (x271 + 1)) (x272 ++ ([T.st [T.b (asB (T.cell ((asL (T.cell (x265.getD x267.toNat T.u) 0)).getD x271.toNat T.u) 0)), T.sl (asL (nth r273 0))]] : List T))
    else none
    else none
  else
    some [T.i .i64 0, T.sl x265, T.i .i64 x266, T.i .i64 x267, T.sl x268, T.sl x269, T.sl (asL (T.cell (x265.getD x267.toNat T.u) 0)), T.i .i64 (asI (T.cell (x265.getD x267.toNat T.u) 1)), T.b (asB (T.cell (x265.getD x267.toNat T.u) 2)), T.sl x272]
def f141_1_c (x265 : List T) (x266 : Int) (x267 : Int) (x268 : List T) (x269 : List T) (x271 : Int) (x272 : List T) : CSt := ⟨[.bp 1 0, .bp 3 0, .bp 5 0, .rf 6 [] 0 none, .ro 0 true [.sl true [.b, .sl false [.i .u8]], .i .i64, .b] x265, .i .i64 x266, .i .i64 x267, .ro 0 true [.b, .sl false [.i .u8]] (asL (T.cell (x265.getD x267.toNat T.u) 0)), .i .i64 ((asL (T.cell (x265.getD x267.toNat T.u) 0)).length : Int), .i .i64 x271], [.dead, .box [.rf 2 [] 0 none], .row true [.sl true [.b, .sl false [.i .u8]], .i .i64, .b] x268 0 false, .box [.rf 4 [] 0 none], .row true [.sl true [.b, .sl false [.i .u8]], .i .i64, .b] x269 0 false, .box [.ro 0 true [.b, .sl false [.i .u8]] (asL (T.cell (x265.getD x267.toNat T.u) 0)), .i .i64 (asI (T.cell (x265.getD x267.toNat T.u) 1)), .b (asB (T.cell (x265.getD x267.toNat T.u) 2))], .row true [.b, .sl false [.i .u8]] x272 0 false]⟩
theorem f141_1_round (c : Orc) (lf : Nat) (x265 : List T) (x266 : Int) (x267 : Int) (x268 : List T) (x269 : List T) (L : CSt → Option (List T)) (x271 : Int) (x272 : List T) :
    roundK c env lf 6 fi141 1 7 [] [2, 3, 5, 6, 11, 12, 13, 19, 20, 21] (x141_7_0) L (f141_1_c x265 x266 x267 x268 x269 x271 x272) = f141_1_s c lf x265 x266 x267 x268 x269 (fun x271 x272 => L (f141_1_c x265 x266 x267 x268 x269 x271 x272)) x271 x272 := by kernel_rfl
def f141_1 (c : Orc) (lf : Nat) (x265 : List T) (x266 : Int) (x267 : Int) (x268 : List T) (x269 : List T) : Nat → Int → List T → Option (List T)
  | 0 => fun _ _ => none
  | n + 1 => fun x271 x272 => f141_1_s c lf x265 x266 x267 x268 x269 (f141_1 c lf x265 x266 x267 x268 x269 n) x271 x272
theorem f141_1_u (c : Orc) (lf : Nat) (x265 : List T) (x266 : Int) (x267 : Int) (x268 : List T) (x269 : List T) (n : Nat) (x271 : Int) (x272 : List T) : f141_1 c lf x265 x266 x267 x268 x269 (n + 1) x271 x272 = f141_1_s c lf x265 x266 x267 x268 x269 (f141_1 c lf x265 x266 x267 x268 x269 n) x271 x272 := rfl
theorem f141_1_eq (c : Orc) (lf : Nat) (x265 : List T) (x266 : Int) (x267 : Int) (x268 : List T) (x269 : List T) (n : Nat) (x271 : Int) (x272 : List T) :
    lpK c env lf 6 fi141 1 7 [] [2, 3, 5, 6, 11, 12, 13, 19, 20, 21] (x141_7_0) n (f141_1_c x265 x266 x267 x268 x269 x271 x272) = f141_1 c lf x265 x266 x267 x268 x269 n x271 x272 := by
  induction n generalizing x271 x272 with
  | zero => rfl
  | succ n ih =>
    refine (f141_1_round c lf x265 x266 x267 x268 x269 _ x271 x272).trans ?_
    have e : (fun x271 x272 => lpK c env lf 6 fi141 1 7 [] [2, 3, 5, 6, 11, 12, 13, 19, 20, 21] (x141_7_0) n (f141_1_c x265 x266 x267 x268 x269 x271 x272)) = f141_1 c lf x265 x266 x267 x268 x269 n := by funext x271 x272; exact ih x271 x272
    show f141_1_s c lf x265 x266 x267 x268 x269 (fun x271 x272 => lpK c env lf 6 fi141 1 7 [] [2, 3, 5, 6, 11, 12, 13, 19, 20, 21] (x141_7_0) n (f141_1_c x265 x266 x267 x268 x269 x271 x272)) x271 x272 = _
    rw [e]; rfl
/-- loop.example/g00285/impl.copyChip, the loop at region 3. -/
def f141_0_s (c : Orc) (lf : Nat) (L : List T → Int → Int → List T → List T → Option (List T)) (lp0 : List T → Int → Int → List T → List T → Int → List T → Option (List T)) (x265 : List T) (x266 : Int) (x267 : Int) (x268 : List T) (x269 : List T) : Option (List T) :=
  bif iLt x267 x266 then
    bif inR x267 x265.length then
    (lp0 x265 x266 x267 x268 x269 0 ([] : List T)).bind fun r274 =>
    bif nLe ((asL (nth r274 5)).length + ([T.st [T.sl (asL (nth r274 9)), T.i .i64 (asI (nth r274 7)), T.b (asB (nth r274 8))]] : List T).length) LIM then
    L (asL (nth r274 1)) (asI (nth r274 2)) (IntKind.wrap .i64 ((asI (nth r274 3)) + 1)) (asL (nth r274 4)) ((asL (nth r274 5)) ++ ([T.st [T.sl (asL (nth r274 9)), T.i .i64 (asI (nth r274 7)), T.b (asB (nth r274 8))]] : List T))
    else none
    else none
  else
    some [T.i .i64 0, T.sl x268, T.sl x269]
def f141_0_c (x265 : List T) (x266 : Int) (x267 : Int) (x268 : List T) (x269 : List T) : CSt := ⟨[.bp 1 0, .bp 3 0, .ro 0 true [.sl true [.b, .sl false [.i .u8]], .i .i64, .b] x265, .i .i64 x266, .i .i64 x267], [.dead, .box [.rf 2 [] 0 none], .row true [.sl true [.b, .sl false [.i .u8]], .i .i64, .b] x268 0 false, .box [.rf 4 [] 0 none], .row true [.sl true [.b, .sl false [.i .u8]], .i .i64, .b] x269 0 false]⟩
theorem f141_0_round (c : Orc) (lf : Nat) (L : CSt → Option (List T)) (x265 : List T) (x266 : Int) (x267 : Int) (x268 : List T) (x269 : List T) :
    roundK c env lf 6 fi141 1 3 [] [2, 3, 11, 12, 13] (x141_3_0) L (f141_0_c x265 x266 x267 x268 x269) = f141_0_s c lf (fun x265 x266 x267 x268 x269 => L (f141_0_c x265 x266 x267 x268 x269)) (fun (x265 : List T) (x266 : Int) (x267 : Int) (x268 : List T) (x269 : List T) (x271 : Int) (x272 : List T) => lpK c env lf 6 fi141 1 7 [] [2, 3, 5, 6, 11, 12, 13, 19, 20, 21] (x141_7_0) lf (f141_1_c x265 x266 x267 x268 x269 x271 x272)) x265 x266 x267 x268 x269 := by kernel_rfl
def f141_0 (c : Orc) (lf : Nat) : Nat → List T → Int → Int → List T → List T → Option (List T)
  | 0 => fun _ _ _ _ _ => none
  | n + 1 => fun x265 x266 x267 x268 x269 => f141_0_s c lf (f141_0 c lf n) (fun (x265 : List T) (x266 : Int) (x267 : Int) (x268 : List T) (x269 : List T) (x271 : Int) (x272 : List T) => f141_1 c lf x265 x266 x267 x268 x269 lf x271 x272) x265 x266 x267 x268 x269
theorem f141_0_u (c : Orc) (lf : Nat) (n : Nat) (x265 : List T) (x266 : Int) (x267 : Int) (x268 : List T) (x269 : List T) : f141_0 c lf (n + 1) x265 x266 x267 x268 x269 = f141_0_s c lf (f141_0 c lf n) (fun (x265 : List T) (x266 : Int) (x267 : Int) (x268 : List T) (x269 : List T) (x271 : Int) (x272 : List T) => f141_1 c lf x265 x266 x267 x268 x269 lf x271 x272) x265 x266 x267 x268 x269 := rfl
theorem f141_0_eq (c : Orc) (lf : Nat) (n : Nat) (x265 : List T) (x266 : Int) (x267 : Int) (x268 : List T) (x269 : List T) :
    lpK c env lf 6 fi141 1 3 [] [2, 3, 11, 12, 13] (x141_3_0) n (f141_0_c x265 x266 x267 x268 x269) = f141_0 c lf n x265 x266 x267 x268 x269 := by
  induction n generalizing x265 x266 x267 x268 x269 with
  | zero => rfl
  | succ n ih =>
    refine (f141_0_round c lf _ x265 x266 x267 x268 x269).trans ?_
    have e : (fun x265 x266 x267 x268 x269 => lpK c env lf 6 fi141 1 3 [] [2, 3, 11, 12, 13] (x141_3_0) n (f141_0_c x265 x266 x267 x268 x269)) = f141_0 c lf n := by funext x265 x266 x267 x268 x269; exact ih x265 x266 x267 x268 x269
    have e0 : (fun (x265 : List T) (x266 : Int) (x267 : Int) (x268 : List T) (x269 : List T) (x271 : Int) (x272 : List T) => lpK c env lf 6 fi141 1 7 [] [2, 3, 5, 6, 11, 12, 13, 19, 20, 21] (x141_7_0) lf (f141_1_c x265 x266 x267 x268 x269 x271 x272)) = (fun (x265 : List T) (x266 : Int) (x267 : Int) (x268 : List T) (x269 : List T) (x271 : Int) (x272 : List T) => f141_1 c lf x265 x266 x267 x268 x269 lf x271 x272) := by funext x265 x266 x267 x268 x269 x271 x272; exact f141_1_eq c lf x265 x266 x267 x268 x269 lf x271 x272
    show f141_0_s c lf (fun x265 x266 x267 x268 x269 => lpK c env lf 6 fi141 1 3 [] [2, 3, 11, 12, 13] (x141_3_0) n (f141_0_c x265 x266 x267 x268 x269)) (fun (x265 : List T) (x266 : Int) (x267 : Int) (x268 : List T) (x269 : List T) (x271 : Int) (x272 : List T) => lpK c env lf 6 fi141 1 7 [] [2, 3, 5, 6, 11, 12, 13, 19, 20, 21] (x141_7_0) lf (f141_1_c x265 x266 x267 x268 x269 x271 x272)) x265 x266 x267 x268 x269 = _
    rw [e, e0]; rfl
/-- loop.example/g00285/impl.copyChip -/
def f141_t (c : Orc) (lf : Nat) (lp0 : List T → Int → Int → List T → List T → Option (List T)) (l0_0 : List T) : Option (List T) :=
  (lp0 l0_0 (l0_0.length : Int) 0 ([] : List T) ([] : List T)).bind fun r275 =>
  some [T.st [T.sl (asL (nth r275 2))]]
def f141 (c : Orc) (lf : Nat) (l0_0 : List T) : Option (List T) := f141_t c lf (fun (x265 : List T) (x266 : Int) (x267 : Int) (x268 : List T) (x269 : List T) => f141_0 c lf lf x265 x266 x267 x268 x269) l0_0
theorem f141_raw (c : Orc) (lf : Nat) (l0_0 : List T) : funK c env lf 6 fi141 [.st [.sl l0_0]] = f141_t c lf (fun (x265 : List T) (x266 : Int) (x267 : Int) (x268 : List T) (x269 : List T) => lpK c env lf 6 fi141 1 3 [] [2, 3, 11, 12, 13] (x141_3_0) lf (f141_0_c x265 x266 x267 x268 x269)) l0_0 := by kernel_rfl
theorem f141_eq (c : Orc) (lf : Nat) (l0_0 : List T) : funK c env lf 6 fi141 [.st [.sl l0_0]] = f141 c lf l0_0 := by
  refine (f141_raw c lf l0_0).trans ?_
  have e0 : (fun (x265 : List T) (x266 : Int) (x267 : Int) (x268 : List T) (x269 : List T) => lpK c env lf 6 fi141 1 3 [] [2, 3, 11, 12, 13] (x141_3_0) lf (f141_0_c x265 x266 x267 x268 x269)) = (fun (x265 : List T) (x266 : Int) (x267 : Int) (x268 : List T) (x269 : List T) => f141_0 c lf lf x265 x266 x267 x268 x269) := by funext x265 x266 x267 x268 x269; exact f141_0_eq c lf lf x265 x266 x267 x268 x269
  rw [e0]; rfl
/-- loop.example/g00285/impl.copyDev -/
def f87_t (c : Orc) (lf : Nat) (l0_0 : List T) (n0_1 : Int) (l0_2 : List T) (b0_3 : Bool) : Option (List T) :=
  (c 141 [T.st [T.sl l0_0]]).bind fun r276 =>
  (c 142 [T.sl l0_2]).bind fun r277 =>
  some [T.st [T.sl (asL (T.cell (nth r276 0) 0)), T.i .i64 n0_1, T.sl (asL (nth r277 0)), T.b b0_3]]
def f87 (c : Orc) (lf : Nat) (l0_0 : List T) (n0_1 : Int) (l0_2 : List T) (b0_3 : Bool) : Option (List T) := f87_t c lf l0_0 n0_1 l0_2 b0_3
theorem f87_raw (c : Orc) (lf : Nat) (l0_0 : List T) (n0_1 : Int) (l0_2 : List T) (b0_3 : Bool) : funK c env lf 6 fi87 [.st [.sl l0_0, .i .i64 n0_1, .sl l0_2, .b b0_3]] = f87_t c lf l0_0 n0_1 l0_2 b0_3 := by kernel_rfl
theorem f87_eq (c : Orc) (lf : Nat) (l0_0 : List T) (n0_1 : Int) (l0_2 : List T) (b0_3 : Bool) : funK c env lf 6 fi87 [.st [.sl l0_0, .i .i64 n0_1, .sl l0_2, .b b0_3]] = f87 c lf l0_0 n0_1 l0_2 b0_3 := by
  refine (f87_raw c lf l0_0 n0_1 l0_2 b0_3).trans ?_
  rfl
/-- loop.example/g00285/impl.copyLog -/
def f88_t (c : Orc) (lf : Nat) (l0_0 : List T) (n0_1 : Int) (l0_2 : List T) (b0_3 : Bool) (n0_4 : Int) : Option (List T) :=
  (c 87 [T.st [T.sl l0_0, T.i .i64 n0_1, T.sl l0_2, T.b b0_3]]).bind fun r278 =>
  some [T.st [T.sl (asL (T.cell (nth r278 0) 0)), T.i .i64 (asI (T.cell (nth r278 0) 1)), T.sl (asL (T.cell (nth r278 0) 2)), T.b (asB (T.cell (nth r278 0) 3)), T.i .i64 n0_4]]
def f88 (c : Orc) (lf : Nat) (l0_0 : List T) (n0_1 : Int) (l0_2 : List T) (b0_3 : Bool) (n0_4 : Int) : Option (List T) := f88_t c lf l0_0 n0_1 l0_2 b0_3 n0_4
theorem f88_raw (c : Orc) (lf : Nat) (l0_0 : List T) (n0_1 : Int) (l0_2 : List T) (b0_3 : Bool) (n0_4 : Int) : funK c env lf 6 fi88 [.st [.sl l0_0, .i .i64 n0_1, .sl l0_2, .b b0_3, .i .i64 n0_4]] = f88_t c lf l0_0 n0_1 l0_2 b0_3 n0_4 := by kernel_rfl
theorem f88_eq (c : Orc) (lf : Nat) (l0_0 : List T) (n0_1 : Int) (l0_2 : List T) (b0_3 : Bool) (n0_4 : Int) : funK c env lf 6 fi88 [.st [.sl l0_0, .i .i64 n0_1, .sl l0_2, .b b0_3, .i .i64 n0_4]] = f88 c lf l0_0 n0_1 l0_2 b0_3 n0_4 := by
  refine (f88_raw c lf l0_0 n0_1 l0_2 b0_3 n0_4).trans ?_
  rfl
/-- loop.example/g00285/impl.from -/
def f75_t (c : Orc) (lf : Nat) (n0 : Int) (n1 : Int) (n2 : Int) : Option (List T) :=
  bif iLe n1 n0 then
    some [T.b (iLe n0 n2)]
  else
    some [T.b false]
def f75 (c : Orc) (lf : Nat) (n0 : Int) (n1 : Int) (n2 : Int) : Option (List T) := f75_t c lf n0 n1 n2
theorem f75_raw (c : Orc) (lf : Nat) (n0 : Int) (n1 : Int) (n2 : Int) : funK c env lf 6 fi75 [.i .i64 n0, .i .i64 n1, .i .i64 n2] = f75_t c lf n0 n1 n2 := by kernel_rfl
theorem f75_eq (c : Orc) (lf : Nat) (n0 : Int) (n1 : Int) (n2 : Int) : funK c env lf 6 fi75 [.i .i64 n0, .i .i64 n1, .i .i64 n2] = f75 c lf n0 n1 n2 := by
  refine (f75_raw c lf n0 n1 n2).trans ?_
  rfl
/-- loop.example/g00285/impl.RecOk -/
def f89_t (c : Orc) (lf : Nat) (n0_0 : Int) (n0_1 : Int) (l0_2 : List T) : Option (List T) :=
  (c 75 [T.i .i64 n0_0, T.i .i64 1, T.i .i64 4]).bind fun r279 =>
  bif asB (nth r279 0) then
    (c 75 [T.i .i64 n0_1, T.i .i64 0, T.i .i64 1000000]).bind fun r280 =>
    bif asB (nth r280 0) then
      some [T.b (iLe (l0_2.length : Int) 380)]
    else
      some [T.b false]
  else
    some [T.b false]
def f89 (c : Orc) (lf : Nat) (n0_0 : Int) (n0_1 : Int) (l0_2 : List T) : Option (List T) := f89_t c lf n0_0 n0_1 l0_2
theorem f89_raw (c : Orc) (lf : Nat) (n0_0 : Int) (n0_1 : Int) (l0_2 : List T) : funK c env lf 6 fi89 [.st [.i .i64 n0_0, .i .i64 n0_1, .sl l0_2]] = f89_t c lf n0_0 n0_1 l0_2 := by kernel_rfl
theorem f89_eq (c : Orc) (lf : Nat) (n0_0 : Int) (n0_1 : Int) (l0_2 : List T) : funK c env lf 6 fi89 [.st [.i .i64 n0_0, .i .i64 n0_1, .sl l0_2]] = f89 c lf n0_0 n0_1 l0_2 := by
  refine (f89_raw c lf n0_0 n0_1 l0_2).trans ?_
  rfl
/-- loop.example/g00285/impl.ChipOk, the loop at region 7. -/
def f128_1_s (c : Orc) (lf : Nat) (x296 : List T) (x297 : Int) (x298 : Int) (x299 : List T) (L : Int → Option (List T)) (x301 : Int) : Option (List T) :=
  bif iLt x301 ((asL (T.cell (x296.getD x298.toNat T.u) 0)).length : Int) then
    bif inR x301 ((asL (T.cell (x296.getD x298.toNat T.u) 0)).length) then
    bif iLt 400 ((asL (T.cell ((asL (T.cell (x296.getD x298.toNat T.u) 0)).getD x301.toNat T.u) 1)).length : Int) then
      some [T.i .i64 0, T.b false]
    else
      bif !(asB (T.cell ((asL (T.cell (x296.getD x298.toNat T.u) 0)).getD x301.toNat T.u) 0)) then
        bif iLt 0 ((asL (T.cell ((asL (T.cell (x296.getD x298.toNat T.u) 0)).getD x301.toNat T.u) 1)).length : Int) then
          some [T.i .i64 0, T.b false]
        else
          bif iLt 0 x301 then
            bif asB (T.cell ((asL (T.cell (x296.getD x298.toNat T.u) 0)).getD x301.toNat T.u) 0) then
              bif inR (IntKind.wrap .i64 (x301 - 1)) ((asL (T.cell (x296.getD x298.toNat T.u) 0)).length) then
              bif !(asB (T.cell ((asL (T.cell (x296.getD x298.toNat T.u) 0)).getD ((IntKind.wrap .i64 (x301 - 1)).toNat) T.u) 0)) then
                some [T.i .i64 0, T.b false]
              else
                L (IntKind.wrap .i64 (x301 + 1))
              else none
            else
              L (IntKind.wrap .i64 (x301 + 1))
          else
            L (IntKind.wrap .i64 (x301 + 1))
      else
        bif iLt 0 x301 then
          bif asB (T.cell ((asL (T.cell (x296.getD x298.toNat T.u) 0)).getD x301.toNat T.u) 0) then
            bif inR (IntKind.wrap .i64 (x301 - 1)) ((asL (T.cell (x296.getD x298.toNat T.u) 0)).length) then
            bif !(asB (T.cell ((asL (T.cell (x296.getD x298.toNat T.u) 0)).getD ((IntKind.wrap .i64 (x301 - 1)).toNat) T.u) 0)) then
              some [T.i .i64 0, T.b false]
            else
              L (IntKind.wrap .i64 (x301 + 1))
            else none
          else
            L (IntKind.wrap .i64 (x301 + 1))
        else
          L (IntKind.wrap .i64 (x301 + 1))
    else none
  else
    some [T.i .i64 1, T.sl x296, T.i .i64 x297, T.i .i64 x298, T.sl x299]
def f128_1_c (x296 : List T) (x297 : Int) (x298 : Int) (x299 : List T) (x301 : Int) : CSt := ⟨[.bp 1 0, .bp 2 0, .ro 0 true [.sl true [.b, .sl false [.i .u8]], .i .i64, .b] x296, .i .i64 x297, .i .i64 x298, .ro 0 true [.b, .sl false [.i .u8]] (asL (T.cell (x296.getD x298.toNat T.u) 0)), .i .i64 ((asL (T.cell (x296.getD x298.toNat T.u) 0)).length : Int), .i .i64 x301], [.dead, .box [.ro 0 true [.sl true [.b, .sl false [.i .u8]], .i .i64, .b] x299], .box [.ro 0 true [.b, .sl false [.i .u8]] (asL (T.cell (x296.getD x298.toNat T.u) 0)), .i .i64 (asI (T.cell (x296.getD x298.toNat T.u) 1)), .b (asB (T.cell (x296.getD x298.toNat T.u) 2))]]⟩
theorem f128_1_round (c : Orc) (lf : Nat) (x296 : List T) (x297 : Int) (x298 : Int) (x299 : List T) (L : CSt → Option (List T)) (x301 : Int) :
    roundK c env lf 6 fi128 1 7 [] [1, 4, 8, 9, 10, 25, 26, 27] (x128_7_0) L (f128_1_c x296 x297 x298 x299 x301) = f128_1_s c lf x296 x297 x298 x299 (fun x301 => L (f128_1_c x296 x297 x298 x299 x301)) x301 := by kernel_rfl
def f128_1 (c : Orc) (lf : Nat) (x296 : List T) (x297 : Int) (x298 : Int) (x299 : List T) : Nat → Int → Option (List T)
  | 0 => fun _ => none
  | n + 1 => fun x301 => f128_1_s c lf x296 x297 x298 x299 (f128_1 c lf x296 x297 x298 x299 n) x301
theorem f128_1_u (c : Orc) (lf : Nat) (x296 : List T) (x297 : Int) (x298 : Int) (x299 : List T) (n : Nat) (x301 : Int) : f128_1 c lf x296 x297 x298 x299 (n + 1) x301 = f128_1_s c lf x296 x297 x298 x299 (f128_1 c lf x296 x297 x298 x299 n) x301 := rfl
theorem f128_1_eq (c : Orc) (lf : Nat) (x296 : List T) (x297 : Int) (x298 : Int) (x299 : List T) (n : Nat) (x301 : Int) :
    lpK c env lf 6 fi128 1 7 [] [1, 4, 8, 9, 10, 25, 26, 27] (x128_7_0) n (f128_1_c x296 x297 x298 x299 x301) = f128_1 c lf x296 x297 x298 x299 n x301 := by
  induction n generalizing x301 with
  | zero => rfl
  | succ n ih =>
    refine (f128_1_round c lf x296 x297 x298 x299 _ x301).trans ?_
    have e : (fun x301 => lpK c env lf 6 fi128 1 7 [] [1, 4, 8, 9, 10, 25, 26, 27] (x128_7_0) n (f128_1_c x296 x297 x298 x299 x301)) = f128_1 c lf x296 x297 x298 x299 n := by funext x301; exact ih x301
    show f128_1_s c lf x296 x297 x298 x299 (fun x301 => lpK c env lf 6 fi128 1 7 [] [1, 4, 8, 9, 10, 25, 26, 27] (x128_7_0) n (f128_1_c x296 x297 x298 x299 x301)) x301 = _
    rw [e]; rfl
/-- loop.example/g00285/impl.ChipOk, the loop at region 2. -/
def f128_0_s (c : Orc) (lf : Nat) (L : List T → Int → Int → List T → Option (List T)) (lp0 : List T → Int → Int → List T → Int → Option (List T)) (x296 : List T) (x297 : Int) (x298 : Int) (x299 : List T) : Option (List T) :=
  bif iLt x298 x297 then
    bif inR x298 x296.length then
    bif ((asL (T.cell (x296.getD x298.toNat T.u) 0)).length : Int) != 8 then
      some [T.i .i64 0, T.b false]
    else
      (c 75 [T.i .i64 (asI (T.cell (x296.getD x298.toNat T.u) 1)), T.i .i64 0, T.i .i64 100000]).bind fun r300 =>
      bif !(asB (nth r300 0)) then
        some [T.i .i64 0, T.b false]
      else
        (lp0 x296 x297 x298 x299 0).bind fun r302 =>
        bif asI (nth r302 0) == 0 then
          some [T.i .i64 0, T.b (asB (nth r302 1))]
        else
          L (asL (nth r302 1)) (asI (nth r302 2)) (IntKind.wrap .i64 ((asI (nth r302 3)) + 1)) (asL (nth r302 4))
    else none
  else
    some [T.i .i64 1, T.sl x299]
def f128_0_c (x296 : List T) (x297 : Int) (x298 : Int) (x299 : List T) : CSt := ⟨[.bp 1 0, .ro 0 true [.sl true [.b, .sl false [.i .u8]], .i .i64, .b] x296, .i .i64 x297, .i .i64 x298], [.dead, .box [.ro 0 true [.sl true [.b, .sl false [.i .u8]], .i .i64, .b] x299]]⟩
theorem f128_0_round (c : Orc) (lf : Nat) (L : CSt → Option (List T)) (x296 : List T) (x297 : Int) (x298 : Int) (x299 : List T) :
    roundK c env lf 6 fi128 1 2 [] [1, 8, 9, 10] (x128_2_0) L (f128_0_c x296 x297 x298 x299) = f128_0_s c lf (fun x296 x297 x298 x299 => L (f128_0_c x296 x297 x298 x299)) (fun (x296 : List T) (x297 : Int) (x298 : Int) (x299 : List T) (x301 : Int) => lpK c env lf 6 fi128 1 7 [] [1, 4, 8, 9, 10, 25, 26, 27] (x128_7_0) lf (f128_1_c x296 x297 x298 x299 x301)) x296 x297 x298 x299 := by kernel_rfl
def f128_0 (c : Orc) (lf : Nat) : Nat → List T → Int → Int → List T → Option (List T)
  | 0 => fun _ _ _ _ => none
  | n + 1 => fun x296 x297 x298 x299 => f128_0_s c lf (f128_0 c lf n) (fun (x296 : List T) (x297 : Int) (x298 : Int) (x299 : List T) (x301 : Int) => f128_1 c lf x296 x297 x298 x299 lf x301) x296 x297 x298 x299
theorem f128_0_u (c : Orc) (lf : Nat) (n : Nat) (x296 : List T) (x297 : Int) (x298 : Int) (x299 : List T) : f128_0 c lf (n + 1) x296 x297 x298 x299 = f128_0_s c lf (f128_0 c lf n) (fun (x296 : List T) (x297 : Int) (x298 : Int) (x299 : List T) (x301 : Int) => f128_1 c lf x296 x297 x298 x299 lf x301) x296 x297 x298 x299 := rfl
theorem f128_0_eq (c : Orc) (lf : Nat) (n : Nat) (x296 : List T) (x297 : Int) (x298 : Int) (x299 : List T) :
    lpK c env lf 6 fi128 1 2 [] [1, 8, 9, 10] (x128_2_0) n (f128_0_c x296 x297 x298 x299) = f128_0 c lf n x296 x297 x298 x299 := by
  induction n generalizing x296 x297 x298 x299 with
  | zero => rfl
  | succ n ih =>
    refine (f128_0_round c lf _ x296 x297 x298 x299).trans ?_
    have e : (fun x296 x297 x298 x299 => lpK c env lf 6 fi128 1 2 [] [1, 8, 9, 10] (x128_2_0) n (f128_0_c x296 x297 x298 x299)) = f128_0 c lf n := by funext x296 x297 x298 x299; exact ih x296 x297 x298 x299
    have e0 : (fun (x296 : List T) (x297 : Int) (x298 : Int) (x299 : List T) (x301 : Int) => lpK c env lf 6 fi128 1 7 [] [1, 4, 8, 9, 10, 25, 26, 27] (x128_7_0) lf (f128_1_c x296 x297 x298 x299 x301)) = (fun (x296 : List T) (x297 : Int) (x298 : Int) (x299 : List T) (x301 : Int) => f128_1 c lf x296 x297 x298 x299 lf x301) := by funext x296 x297 x298 x299 x301; exact f128_1_eq c lf x296 x297 x298 x299 lf x301
    show f128_0_s c lf (fun x296 x297 x298 x299 => lpK c env lf 6 fi128 1 2 [] [1, 8, 9, 10] (x128_2_0) n (f128_0_c x296 x297 x298 x299)) (fun (x296 : List T) (x297 : Int) (x298 : Int) (x299 : List T) (x301 : Int) => lpK c env lf 6 fi128 1 7 [] [1, 4, 8, 9, 10, 25, 26, 27] (x128_7_0) lf (f128_1_c x296 x297 x298 x299 x301)) x296 x297 x298 x299 = _
    rw [e, e0]; rfl
/-- loop.example/g00285/impl.ChipOk -/
def f128_t (c : Orc) (lf : Nat) (lp0 : List T → Int → Int → List T → Option (List T)) (l0_0 : List T) : Option (List T) :=
  (lp0 l0_0 (l0_0.length : Int) 0 l0_0).bind fun r303 =>
  bif asI (nth r303 0) == 0 then
    some [T.b (asB (nth r303 1))]
  else
    (c 75 [T.i .i64 ((asL (nth r303 1)).length : Int), T.i .i64 3, T.i .i64 24]).bind fun r304 =>
    some [T.b (asB (nth r304 0))]
def f128 (c : Orc) (lf : Nat) (l0_0 : List T) : Option (List T) := f128_t c lf (fun (x296 : List T) (x297 : Int) (x298 : Int) (x299 : List T) => f128_0 c lf lf x296 x297 x298 x299) l0_0
theorem f128_raw (c : Orc) (lf : Nat) (l0_0 : List T) : funK c env lf 6 fi128 [.st [.sl l0_0]] = f128_t c lf (fun (x296 : List T) (x297 : Int) (x298 : Int) (x299 : List T) => lpK c env lf 6 fi128 1 2 [] [1, 8, 9, 10] (x128_2_0) lf (f128_0_c x296 x297 x298 x299)) l0_0 := by kernel_rfl
theorem f128_eq (c : Orc) (lf : Nat) (l0_0 : List T) : funK c env lf 6 fi128 [.st [.sl l0_0]] = f128 c lf l0_0 := by
  refine (f128_raw c lf l0_0).trans ?_
  have e0 : (fun (x296 : List T) (x297 : Int) (x298 : Int) (x299 : List T) => lpK c env lf 6 fi128 1 2 [] [1, 8, 9, 10] (x128_2_0) lf (f128_0_c x296 x297 x298 x299)) = (fun (x296 : List T) (x297 : Int) (x298 : Int) (x299 : List T) => f128_0 c lf lf x296 x297 x298 x299) := by funext x296 x297 x298 x299; exact f128_0_eq c lf lf x296 x297 x298 x299
  rw [e0]; rfl
/-- loop.example/g00285/impl.DevOk, the loop at region 2. -/
def f74_0_s (c : Orc) (lf : Nat) (b0_3 : Bool) (l0_0 : List T) (l0_2 : List T) (n0_1 : Int) (L : Int → Option (List T)) (x318 : Int) : Option (List T) :=
  bif iLt x318 (l0_2.length : Int) then
    bif inR x318 l0_2.length then
    (c 75 [T.i .i64 (asI (T.cell (l0_2.getD x318.toNat T.u) 0)), T.i .i64 0, T.i .i64 100000]).bind fun r319 =>
    bif !(asB (nth r319 0)) then
      some [T.i .i64 0, T.b false]
    else
      (c 75 [T.i .i64 (asI (T.cell (l0_2.getD x318.toNat T.u) 1)), T.i .i64 1, T.i .i64 2]).bind fun r320 =>
      bif !(asB (nth r320 0)) then
        some [T.i .i64 0, T.b false]
      else
        (c 75 [T.i .i64 (asI (T.cell (l0_2.getD x318.toNat T.u) 2)), T.i .i64 0, T.i .i64 400]).bind fun r321 =>
        bif !(asB (nth r321 0)) then
          some [T.i .i64 0, T.b false]
        else
          bif iLt 0 x318 then
            bif inR (IntKind.wrap .i64 (x318 - 1)) l0_2.length then
            bif iLe (asI (T.cell (l0_2.getD x318.toNat T.u) 0)) (asI (T.cell (l0_2.getD ((IntKind.wrap .i64 (x318 - 1)).toNat) T.u) 0)) then
              some [T.i .i64 0, T.b false]
            else
              L (IntKind.wrap .i64 (x318 + 1))
            else none
          else
            L (IntKind.wrap .i64 (x318 + 1))
    else none
  else
    some [T.i .i64 1, T.sl l0_0, T.i .i64 n0_1, T.sl l0_2, T.b b0_3]
def f74_0_c (b0_3 : Bool) (l0_0 : List T) (l0_2 : List T) (n0_1 : Int) (x318 : Int) : CSt := ⟨[.bp 4 0, .ro 0 true [.i .i64, .i .i64, .i .i64] l0_2, .i .i64 (l0_2.length : Int), .i .i64 x318], [.dead, .dead, .dead, .dead, .box [.ro 0 true [.sl true [.b, .sl false [.i .u8]], .i .i64, .b] l0_0, .i .i64 n0_1, .ro 0 true [.i .i64, .i .i64, .i .i64] l0_2, .b b0_3]]⟩
theorem f74_0_round (c : Orc) (lf : Nat) (b0_3 : Bool) (l0_0 : List T) (l0_2 : List T) (n0_1 : Int) (L : CSt → Option (List T)) (x318 : Int) :
    roundK c env lf 6 fi74 4 2 [] [1, 6, 7, 8] (x74_2_0) L (f74_0_c b0_3 l0_0 l0_2 n0_1 x318) = f74_0_s c lf b0_3 l0_0 l0_2 n0_1 (fun x318 => L (f74_0_c b0_3 l0_0 l0_2 n0_1 x318)) x318 := by kernel_rfl
def f74_0 (c : Orc) (lf : Nat) (b0_3 : Bool) (l0_0 : List T) (l0_2 : List T) (n0_1 : Int) : Nat → Int → Option (List T)
  | 0 => fun _ => none
  | n + 1 => fun x318 => f74_0_s c lf b0_3 l0_0 l0_2 n0_1 (f74_0 c lf b0_3 l0_0 l0_2 n0_1 n) x318
theorem f74_0_u (c : Orc) (lf : Nat) (b0_3 : Bool) (l0_0 : List T) (l0_2 : List T) (n0_1 : Int) (n : Nat) (x318 : Int) : f74_0 c lf b0_3 l0_0 l0_2 n0_1 (n + 1) x318 = f74_0_s c lf b0_3 l0_0 l0_2 n0_1 (f74_0 c lf b0_3 l0_0 l0_2 n0_1 n) x318 := rfl
theorem f74_0_eq (c : Orc) (lf : Nat) (b0_3 : Bool) (l0_0 : List T) (l0_2 : List T) (n0_1 : Int) (n : Nat) (x318 : Int) :
    lpK c env lf 6 fi74 4 2 [] [1, 6, 7, 8] (x74_2_0) n (f74_0_c b0_3 l0_0 l0_2 n0_1 x318) = f74_0 c lf b0_3 l0_0 l0_2 n0_1 n x318 := by
  induction n generalizing x318 with
  | zero => rfl
  | succ n ih =>
    refine (f74_0_round c lf b0_3 l0_0 l0_2 n0_1 _ x318).trans ?_
    have e : (fun x318 => lpK c env lf 6 fi74 4 2 [] [1, 6, 7, 8] (x74_2_0) n (f74_0_c b0_3 l0_0 l0_2 n0_1 x318)) = f74_0 c lf b0_3 l0_0 l0_2 n0_1 n := by funext x318; exact ih x318
    show f74_0_s c lf b0_3 l0_0 l0_2 n0_1 (fun x318 => lpK c env lf 6 fi74 4 2 [] [1, 6, 7, 8] (x74_2_0) n (f74_0_c b0_3 l0_0 l0_2 n0_1 x318)) x318 = _
    rw [e]; rfl
/-- loop.example/g00285/impl.DevOk -/
def f74_t (c : Orc) (lf : Nat) (lp0 : Bool → List T → List T → Int → Int → Option (List T)) (l0_0 : List T) (n0_1 : Int) (l0_2 : List T) (b0_3 : Bool) : Option (List T) :=
  (lp0 b0_3 l0_0 l0_2 n0_1 0).bind fun r322 =>
  bif asI (nth r322 0) == 0 then
    some [T.b (asB (nth r322 1))]
  else
    (c 128 [T.st [T.sl (asL (nth r322 1))]]).bind fun r323 =>
    bif asB (nth r323 0) then
      (c 75 [T.i .i64 (asI (nth r322 2)), T.i .i64 0, T.i .i64 100000]).bind fun r324 =>
      bif asB (nth r324 0) then
        some [T.b (iLe ((asL (nth r322 3)).length : Int) 20)]
      else
        some [T.b false]
    else
      some [T.b false]
def f74 (c : Orc) (lf : Nat) (l0_0 : List T) (n0_1 : Int) (l0_2 : List T) (b0_3 : Bool) : Option (List T) := f74_t c lf (fun (b0_3 : Bool) (l0_0 : List T) (l0_2 : List T) (n0_1 : Int) (x318 : Int) => f74_0 c lf b0_3 l0_0 l0_2 n0_1 lf x318) l0_0 n0_1 l0_2 b0_3
theorem f74_raw (c : Orc) (lf : Nat) (l0_0 : List T) (n0_1 : Int) (l0_2 : List T) (b0_3 : Bool) : funK c env lf 6 fi74 [.st [.sl l0_0, .i .i64 n0_1, .sl l0_2, .b b0_3]] = f74_t c lf (fun (b0_3 : Bool) (l0_0 : List T) (l0_2 : List T) (n0_1 : Int) (x318 : Int) => lpK c env lf 6 fi74 4 2 [] [1, 6, 7, 8] (x74_2_0) lf (f74_0_c b0_3 l0_0 l0_2 n0_1 x318)) l0_0 n0_1 l0_2 b0_3 := by kernel_rfl
theorem f74_eq (c : Orc) (lf : Nat) (l0_0 : List T) (n0_1 : Int) (l0_2 : List T) (b0_3 : Bool) : funK c env lf 6 fi74 [.st [.sl l0_0, .i .i64 n0_1, .sl l0_2, .b b0_3]] = f74 c lf l0_0 n0_1 l0_2 b0_3 := by
  refine (f74_raw c lf l0_0 n0_1 l0_2 b0_3).trans ?_
  have e0 : (fun (b0_3 : Bool) (l0_0 : List T) (l0_2 : List T) (n0_1 : Int) (x318 : Int) => lpK c env lf 6 fi74 4 2 [] [1, 6, 7, 8] (x74_2_0) lf (f74_0_c b0_3 l0_0 l0_2 n0_1 x318)) = (fun (b0_3 : Bool) (l0_0 : List T) (l0_2 : List T) (n0_1 : Int) (x318 : Int) => f74_0 c lf b0_3 l0_0 l0_2 n0_1 lf x318) := by funext b0_3 l0_0 l0_2 n0_1 x318; exact f74_0_eq c lf b0_3 l0_0 l0_2 n0_1 lf x318
  rw [e0]; rfl
/-- loop.example/g00285/impl.isBlock -/
def f94_t (c : Orc) (lf : Nat) (l0_0 : List T) (n1 : Int) : Option (List T) :=
  (c 75 [T.i .i64 n1, T.i .i64 0, T.i .i64 (IntKind.wrap .i64 ((l0_0.length : Int) - 1))]).bind fun r325 =>
  some [T.b (asB (nth r325 0))]
def f94 (c : Orc) (lf : Nat) (l0_0 : List T) (n1 : Int) : Option (List T) := f94_t c lf l0_0 n1
theorem f94_raw (c : Orc) (lf : Nat) (l0_0 : List T) (n1 : Int) : funK c env lf 6 fi94 [.st [.sl l0_0], .i .i64 n1] = f94_t c lf l0_0 n1 := by kernel_rfl
theorem f94_eq (c : Orc) (lf : Nat) (l0_0 : List T) (n1 : Int) : funK c env lf 6 fi94 [.st [.sl l0_0], .i .i64 n1] = f94 c lf l0_0 n1 := by
  refine (f94_raw c lf l0_0 n1).trans ?_
  rfl
/-- loop.example/g00285/impl.NextPage, the loop at region 5. -/
def f38_0_s (c : Orc) (lf : Nat) (l0_0 : List T) (n1 : Int) (L : Int → Int → Option (List T)) (x331 : Int) (x332 : Int) : Option (List T) :=
  bif iLt x332 ((asL (T.cell (l0_0.getD n1.toNat T.u) 0)).length : Int) then
    bif inR x332 ((asL (T.cell (l0_0.getD n1.toNat T.u) 0)).length) then
    bif asB (T.cell ((asL (T.cell (l0_0.getD n1.toNat T.u) 0)).getD x332.toNat T.u) 0) then
      L (IntKind.wrap .i64 (x331 + 1)) (IntKind.wrap .i64 (x332 + 1))
    else
      L x331 (IntKind.wrap .i64 (x332 + 1))
    else none
  else
    some [T.i .i64 0, T.i .i64 x331]
def f38_0_c (l0_0 : List T) (n1 : Int) (x331 : Int) (x332 : Int) : CSt := ⟨[.i .i64 x331, .ro 0 true [.b, .sl false [.i .u8]] (asL (T.cell (l0_0.getD n1.toNat T.u) 0)), .i .i64 ((asL (T.cell (l0_0.getD n1.toNat T.u) 0)).length : Int), .i .i64 x332], [.dead, .dead]⟩
theorem f38_0_round (c : Orc) (lf : Nat) (l0_0 : List T) (n1 : Int) (L : CSt → Option (List T)) (x331 : Int) (x332 : Int) :
    roundK c env lf 6 fi38 2 5 [] [5, 17, 18, 19] (x38_5_0) L (f38_0_c l0_0 n1 x331 x332) = f38_0_s c lf l0_0 n1 (fun x331 x332 => L (f38_0_c l0_0 n1 x331 x332)) x331 x332 := by kernel_rfl
def f38_0 (c : Orc) (lf : Nat) (l0_0 : List T) (n1 : Int) : Nat → Int → Int → Option (List T)
  | 0 => fun _ _ => none
  | n + 1 => fun x331 x332 => f38_0_s c lf l0_0 n1 (f38_0 c lf l0_0 n1 n) x331 x332
theorem f38_0_u (c : Orc) (lf : Nat) (l0_0 : List T) (n1 : Int) (n : Nat) (x331 : Int) (x332 : Int) : f38_0 c lf l0_0 n1 (n + 1) x331 x332 = f38_0_s c lf l0_0 n1 (f38_0 c lf l0_0 n1 n) x331 x332 := rfl
theorem f38_0_eq (c : Orc) (lf : Nat) (l0_0 : List T) (n1 : Int) (n : Nat) (x331 : Int) (x332 : Int) :
    lpK c env lf 6 fi38 2 5 [] [5, 17, 18, 19] (x38_5_0) n (f38_0_c l0_0 n1 x331 x332) = f38_0 c lf l0_0 n1 n x331 x332 := by
  induction n generalizing x331 x332 with
  | zero => rfl
  | succ n ih =>
    refine (f38_0_round c lf l0_0 n1 _ x331 x332).trans ?_
    have e : (fun x331 x332 => lpK c env lf 6 fi38 2 5 [] [5, 17, 18, 19] (x38_5_0) n (f38_0_c l0_0 n1 x331 x332)) = f38_0 c lf l0_0 n1 n := by funext x331 x332; exact ih x331 x332
    show f38_0_s c lf l0_0 n1 (fun x331 x332 => lpK c env lf 6 fi38 2 5 [] [5, 17, 18, 19] (x38_5_0) n (f38_0_c l0_0 n1 x331 x332)) x331 x332 = _
    rw [e]; rfl
/-- loop.example/g00285/impl.NextPage -/
def f38_t (c : Orc) (lf : Nat) (lp0 : List T → Int → Int → Int → Option (List T)) (l0_0 : List T) (n1 : Int) : Option (List T) :=
  (c 94 [T.st [T.sl l0_0], T.i .i64 n1]).bind fun r330 =>
  bif !(asB (nth r330 0)) then
    some [T.i .i64 (-1)]
  else
    bif inR n1 l0_0.length then
    (lp0 l0_0 n1 0 0).bind fun r333 =>
    some [T.i .i64 (asI (nth r333 1))]
    else none
def f38 (c : Orc) (lf : Nat) (l0_0 : List T) (n1 : Int) : Option (List T) := f38_t c lf (fun (l0_0 : List T) (n1 : Int) (x331 : Int) (x332 : Int) => f38_0 c lf l0_0 n1 lf x331 x332) l0_0 n1
theorem f38_raw (c : Orc) (lf : Nat) (l0_0 : List T) (n1 : Int) : funK c env lf 6 fi38 [.st [.sl l0_0], .i .i64 n1] = f38_t c lf (fun (l0_0 : List T) (n1 : Int) (x331 : Int) (x332 : Int) => lpK c env lf 6 fi38 2 5 [] [5, 17, 18, 19] (x38_5_0) lf (f38_0_c l0_0 n1 x331 x332)) l0_0 n1 := by kernel_rfl
theorem f38_eq (c : Orc) (lf : Nat) (l0_0 : List T) (n1 : Int) : funK c env lf 6 fi38 [.st [.sl l0_0], .i .i64 n1] = f38 c lf l0_0 n1 := by
  refine (f38_raw c lf l0_0 n1).trans ?_
  have e0 : (fun (l0_0 : List T) (n1 : Int) (x331 : Int) (x332 : Int) => lpK c env lf 6 fi38 2 5 [] [5, 17, 18, 19] (x38_5_0) lf (f38_0_c l0_0 n1 x331 x332)) = (fun (l0_0 : List T) (n1 : Int) (x331 : Int) (x332 : Int) => f38_0 c lf l0_0 n1 lf x331 x332) := by funext l0_0 n1 x331 x332; exact f38_0_eq c lf l0_0 n1 lf x331 x332
  rw [e0]; rfl
/-- loop.example/g00285/impl.FreeBlocks, the loop at region 3. -/
def f34_0_s (c : Orc) (lf : Nat) (b0_3 : Bool) (l0_0 : List T) (l0_2 : List T) (n0_1 : Int) (n0_4 : Int) (L : Int → Int → Option (List T)) (x340 : Int) (x341 : Int) : Option (List T) :=
  bif iLt x341 (l0_0.length : Int) then
    bif inR x341 l0_0.length then
    bif !(asB (T.cell (l0_0.getD x341.toNat T.u) 2)) then
      (c 38 [T.st [T.sl l0_0], T.i .i64 x341]).bind fun r342 =>
      bif (asI (nth r342 0)) == 0 then
        L (IntKind.wrap .i64 (x340 + 1)) (IntKind.wrap .i64 (x341 + 1))
      else
        L x340 (IntKind.wrap .i64 (x341 + 1))
    else
      L x340 (IntKind.wrap .i64 (x341 + 1))
    else none
  else
    some [T.i .i64 0, T.i .i64 x340]
def f34_0_c (b0_3 : Bool) (l0_0 : List T) (l0_2 : List T) (n0_1 : Int) (n0_4 : Int) (x340 : Int) (x341 : Int) : CSt := ⟨[.bp 5 0, .i .i64 x340, .ro 0 true [.sl true [.b, .sl false [.i .u8]], .i .i64, .b] l0_0, .i .i64 (l0_0.length : Int), .i .i64 x341], [.dead, .dead, .dead, .dead, .dead, .box [.ro 0 true [.sl true [.b, .sl false [.i .u8]], .i .i64, .b] l0_0, .i .i64 n0_1, .ro 0 true [.i .i64, .i .i64, .i .i64] l0_2, .b b0_3, .i .i64 n0_4]]⟩
theorem f34_0_round (c : Orc) (lf : Nat) (b0_3 : Bool) (l0_0 : List T) (l0_2 : List T) (n0_1 : Int) (n0_4 : Int) (L : CSt → Option (List T)) (x340 : Int) (x341 : Int) :
    roundK c env lf 6 fi34 5 3 [] [1, 3, 9, 10, 11] (x34_3_0) L (f34_0_c b0_3 l0_0 l0_2 n0_1 n0_4 x340 x341) = f34_0_s c lf b0_3 l0_0 l0_2 n0_1 n0_4 (fun x340 x341 => L (f34_0_c b0_3 l0_0 l0_2 n0_1 n0_4 x340 x341)) x340 x341 := by kernel_rfl
def f34_0 (c : Orc) (lf : Nat) (b0_3 : Bool) (l0_0 : List T) (l0_2 : List T) (n0_1 : Int) (n0_4 : Int) : Nat → Int → Int → Option (List T)
  | 0 => fun _ _ => none
  | n + 1 => fun x340 x341 => f34_0_s c lf b0_3 l0_0 l0_2 n0_1 n0_4 (f34_0 c lf b0_3 l0_0 l0_2 n0_1 n0_4 n) x340 x341
theorem f34_0_u (c : Orc) (lf : Nat) (b0_3 : Bool) (l0_0 : List T) (l0_2 : List T) (n0_1 : Int) (n0_4 : Int) (n : Nat) (x340 : Int) (x341 : Int) : f34_0 c lf b0_3 l0_0 l0_2 n0_1 n0_4 (n + 1) x340 x341 = f34_0_s c lf b0_3 l0_0 l0_2 n0_1 n0_4 (f34_0 c lf b0_3 l0_0 l0_2 n0_1 n0_4 n) x340 x341 := rfl
theorem f34_0_eq (c : Orc) (lf : Nat) (b0_3 : Bool) (l0_0 : List T) (l0_2 : List T) (n0_1 : Int) (n0_4 : Int) (n : Nat) (x340 : Int) (x341 : Int) :
    lpK c env lf 6 fi34 5 3 [] [1, 3, 9, 10, 11] (x34_3_0) n (f34_0_c b0_3 l0_0 l0_2 n0_1 n0_4 x340 x341) = f34_0 c lf b0_3 l0_0 l0_2 n0_1 n0_4 n x340 x341 := by
  induction n generalizing x340 x341 with
  | zero => rfl
  | succ n ih =>
    refine (f34_0_round c lf b0_3 l0_0 l0_2 n0_1 n0_4 _ x340 x341).trans ?_
    have e : (fun x340 x341 => lpK c env lf 6 fi34 5 3 [] [1, 3, 9, 10, 11] (x34_3_0) n (f34_0_c b0_3 l0_0 l0_2 n0_1 n0_4 x340 x341)) = f34_0 c lf b0_3 l0_0 l0_2 n0_1 n0_4 n := by funext x340 x341; exact ih x340 x341
    show f34_0_s c lf b0_3 l0_0 l0_2 n0_1 n0_4 (fun x340 x341 => lpK c env lf 6 fi34 5 3 [] [1, 3, 9, 10, 11] (x34_3_0) n (f34_0_c b0_3 l0_0 l0_2 n0_1 n0_4 x340 x341)) x340 x341 = _
    rw [e]; rfl
/-- loop.example/g00285/impl.FreeBlocks -/
def f34_t (c : Orc) (lf : Nat) (lp0 : Bool → List T → List T → Int → Int → Int → Int → Option (List T)) (l0_0 : List T) (n0_1 : Int) (l0_2 : List T) (b0_3 : Bool) (n0_4 : Int) : Option (List T) :=
  (lp0 b0_3 l0_0 l0_2 n0_1 n0_4 0 0).bind fun r343 =>
  some [T.i .i64 (asI (nth r343 1))]
def f34 (c : Orc) (lf : Nat) (l0_0 : List T) (n0_1 : Int) (l0_2 : List T) (b0_3 : Bool) (n0_4 : Int) : Option (List T) := f34_t c lf (fun (b0_3 : Bool) (l0_0 : List T) (l0_2 : List T) (n0_1 : Int) (n0_4 : Int) (x340 : Int) (x341 : Int) => f34_0 c lf b0_3 l0_0 l0_2 n0_1 n0_4 lf x340 x341) l0_0 n0_1 l0_2 b0_3 n0_4
theorem f34_raw (c : Orc) (lf : Nat) (l0_0 : List T) (n0_1 : Int) (l0_2 : List T) (b0_3 : Bool) (n0_4 : Int) : funK c env lf 6 fi34 [.st [.sl l0_0, .i .i64 n0_1, .sl l0_2, .b b0_3, .i .i64 n0_4]] = f34_t c lf (fun (b0_3 : Bool) (l0_0 : List T) (l0_2 : List T) (n0_1 : Int) (n0_4 : Int) (x340 : Int) (x341 : Int) => lpK c env lf 6 fi34 5 3 [] [1, 3, 9, 10, 11] (x34_3_0) lf (f34_0_c b0_3 l0_0 l0_2 n0_1 n0_4 x340 x341)) l0_0 n0_1 l0_2 b0_3 n0_4 := by kernel_rfl
theorem f34_eq (c : Orc) (lf : Nat) (l0_0 : List T) (n0_1 : Int) (l0_2 : List T) (b0_3 : Bool) (n0_4 : Int) : funK c env lf 6 fi34 [.st [.sl l0_0, .i .i64 n0_1, .sl l0_2, .b b0_3, .i .i64 n0_4]] = f34 c lf l0_0 n0_1 l0_2 b0_3 n0_4 := by
  refine (f34_raw c lf l0_0 n0_1 l0_2 b0_3 n0_4).trans ?_
  have e0 : (fun (b0_3 : Bool) (l0_0 : List T) (l0_2 : List T) (n0_1 : Int) (n0_4 : Int) (x340 : Int) (x341 : Int) => lpK c env lf 6 fi34 5 3 [] [1, 3, 9, 10, 11] (x34_3_0) lf (f34_0_c b0_3 l0_0 l0_2 n0_1 n0_4 x340 x341)) = (fun (b0_3 : Bool) (l0_0 : List T) (l0_2 : List T) (n0_1 : Int) (n0_4 : Int) (x340 : Int) (x341 : Int) => f34_0 c lf b0_3 l0_0 l0_2 n0_1 n0_4 lf x340 x341) := by funext b0_3 l0_0 l0_2 n0_1 n0_4 x340 x341; exact f34_0_eq c lf b0_3 l0_0 l0_2 n0_1 n0_4 lf x340 x341
  rw [e0]; rfl
/-- loop.example/g00285/impl.OpenBlock, the loop at region 3. -/
def f35_0_s (c : Orc) (lf : Nat) (b0_3 : Bool) (l0_0 : List T) (l0_2 : List T) (n1 : Int) (n0_1 : Int) (n0_4 : Int) (L : Int → Int → Option (List T)) (x352 : Int) (x351 : Int) : Option (List T) :=
  bif iLt x351 (l0_0.length : Int) then
    bif inR x351 l0_0.length then
    (c 38 [T.st [T.sl l0_0], T.i .i64 x351]).bind fun r353 =>
    bif asB (T.cell (l0_0.getD x351.toNat T.u) 2) then
      L x352 (IntKind.wrap .i64 (x351 + 1))
    else
      bif iLt 0 (asI (nth r353 0)) then
        bif iLt (asI (nth r353 0)) ((asL (T.cell (l0_0.getD x351.toNat T.u) 0)).length : Int) then
          some [T.i .i64 0, T.i .i64 x351]
        else
          bif (asI (nth r353 0)) == 0 then
            bif iLt x352 0 then
              L x351 (IntKind.wrap .i64 (x351 + 1))
            else
              L x352 (IntKind.wrap .i64 (x351 + 1))
          else
            L x352 (IntKind.wrap .i64 (x351 + 1))
      else
        bif (asI (nth r353 0)) == 0 then
          bif iLt x352 0 then
            L x351 (IntKind.wrap .i64 (x351 + 1))
          else
            L x352 (IntKind.wrap .i64 (x351 + 1))
        else
          L x352 (IntKind.wrap .i64 (x351 + 1))
    else none
  else
    some [T.i .i64 1, T.i .i64 n1, T.i .i64 x352, T.sl l0_0, T.i .i64 n0_1, T.sl l0_2, T.b b0_3, T.i .i64 n0_4]
def f35_0_c (b0_3 : Bool) (l0_0 : List T) (l0_2 : List T) (n1 : Int) (n0_1 : Int) (n0_4 : Int) (x352 : Int) (x351 : Int) : CSt := ⟨[.i .i64 n1, .bp 6 0, .i .i64 x352, .ro 0 true [.sl true [.b, .sl false [.i .u8]], .i .i64, .b] l0_0, .i .i64 (l0_0.length : Int), .i .i64 x351], [.dead, .dead, .dead, .dead, .dead, .dead, .box [.ro 0 true [.sl true [.b, .sl false [.i .u8]], .i .i64, .b] l0_0, .i .i64 n0_1, .ro 0 true [.i .i64, .i .i64, .i .i64] l0_2, .b b0_3, .i .i64 n0_4]]⟩
theorem f35_0_round (c : Orc) (lf : Nat) (b0_3 : Bool) (l0_0 : List T) (l0_2 : List T) (n1 : Int) (n0_1 : Int) (n0_4 : Int) (L : CSt → Option (List T)) (x352 : Int) (x351 : Int) :
    roundK c env lf 6 fi35 6 3 [] [1, 2, 5, 12, 13, 14] (x35_3_0) L (f35_0_c b0_3 l0_0 l0_2 n1 n0_1 n0_4 x352 x351) = f35_0_s c lf b0_3 l0_0 l0_2 n1 n0_1 n0_4 (fun x352 x351 => L (f35_0_c b0_3 l0_0 l0_2 n1 n0_1 n0_4 x352 x351)) x352 x351 := by kernel_rfl
def f35_0 (c : Orc) (lf : Nat) (b0_3 : Bool) (l0_0 : List T) (l0_2 : List T) (n1 : Int) (n0_1 : Int) (n0_4 : Int) : Nat → Int → Int → Option (List T)
  | 0 => fun _ _ => none
  | n + 1 => fun x352 x351 => f35_0_s c lf b0_3 l0_0 l0_2 n1 n0_1 n0_4 (f35_0 c lf b0_3 l0_0 l0_2 n1 n0_1 n0_4 n) x352 x351
theorem f35_0_u (c : Orc) (lf : Nat) (b0_3 : Bool) (l0_0 : List T) (l0_2 : List T) (n1 : Int) (n0_1 : Int) (n0_4 : Int) (n : Nat) (x352 : Int) (x351 : Int) : f35_0 c lf b0_3 l0_0 l0_2 n1 n0_1 n0_4 (n + 1) x352 x351 = f35_0_s c lf b0_3 l0_0 l0_2 n1 n0_1 n0_4 (f35_0 c lf b0_3 l0_0 l0_2 n1 n0_1 n0_4 n) x352 x351 := rfl
theorem f35_0_eq (c : Orc) (lf : Nat) (b0_3 : Bool) (l0_0 : List T) (l0_2 : List T) (n1 : Int) (n0_1 : Int) (n0_4 : Int) (n : Nat) (x352 : Int) (x351 : Int) :
    lpK c env lf 6 fi35 6 3 [] [1, 2, 5, 12, 13, 14] (x35_3_0) n (f35_0_c b0_3 l0_0 l0_2 n1 n0_1 n0_4 x352 x351) = f35_0 c lf b0_3 l0_0 l0_2 n1 n0_1 n0_4 n x352 x351 := by
  induction n generalizing x352 x351 with
  | zero => rfl
  | succ n ih =>
    refine (f35_0_round c lf b0_3 l0_0 l0_2 n1 n0_1 n0_4 _ x352 x351).trans ?_
    have e : (fun x352 x351 => lpK c env lf 6 fi35 6 3 [] [1, 2, 5, 12, 13, 14] (x35_3_0) n (f35_0_c b0_3 l0_0 l0_2 n1 n0_1 n0_4 x352 x351)) = f35_0 c lf b0_3 l0_0 l0_2 n1 n0_1 n0_4 n := by funext x352 x351; exact ih x352 x351
    show f35_0_s c lf b0_3 l0_0 l0_2 n1 n0_1 n0_4 (fun x352 x351 => lpK c env lf 6 fi35 6 3 [] [1, 2, 5, 12, 13, 14] (x35_3_0) n (f35_0_c b0_3 l0_0 l0_2 n1 n0_1 n0_4 x352 x351)) x352 x351 = _
    rw [e]; rfl
/-- loop.example/g00285/impl.OpenBlock -/
def f35_t (c : Orc) (lf : Nat) (lp0 : Bool → List T → List T → Int → Int → Int → Int → Int → Option (List T)) (l0_0 : List T) (n0_1 : Int) (l0_2 : List T) (b0_3 : Bool) (n0_4 : Int) (n1 : Int) : Option (List T) :=
  (lp0 b0_3 l0_0 l0_2 n1 n0_1 n0_4 (-1) 0).bind fun r354 =>
  bif asI (nth r354 0) == 0 then
    some [T.i .i64 (asI (nth r354 1))]
  else
    (c 34 [T.st [T.sl (asL (nth r354 3)), T.i .i64 (asI (nth r354 4)), T.sl (asL (nth r354 5)), T.b (asB (nth r354 6)), T.i .i64 (asI (nth r354 7))]]).bind fun r355 =>
    bif iLt (asI (nth r354 1)) (asI (nth r355 0)) then
      some [T.i .i64 (asI (nth r354 2))]
    else
      some [T.i .i64 (-1)]
def f35 (c : Orc) (lf : Nat) (l0_0 : List T) (n0_1 : Int) (l0_2 : List T) (b0_3 : Bool) (n0_4 : Int) (n1 : Int) : Option (List T) := f35_t c lf (fun (b0_3 : Bool) (l0_0 : List T) (l0_2 : List T) (n1 : Int) (n0_1 : Int) (n0_4 : Int) (x352 : Int) (x351 : Int) => f35_0 c lf b0_3 l0_0 l0_2 n1 n0_1 n0_4 lf x352 x351) l0_0 n0_1 l0_2 b0_3 n0_4 n1
theorem f35_raw (c : Orc) (lf : Nat) (l0_0 : List T) (n0_1 : Int) (l0_2 : List T) (b0_3 : Bool) (n0_4 : Int) (n1 : Int) : funK c env lf 6 fi35 [.st [.sl l0_0, .i .i64 n0_1, .sl l0_2, .b b0_3, .i .i64 n0_4], .i .i64 n1] = f35_t c lf (fun (b0_3 : Bool) (l0_0 : List T) (l0_2 : List T) (n1 : Int) (n0_1 : Int) (n0_4 : Int) (x352 : Int) (x351 : Int) => lpK c env lf 6 fi35 6 3 [] [1, 2, 5, 12, 13, 14] (x35_3_0) lf (f35_0_c b0_3 l0_0 l0_2 n1 n0_1 n0_4 x352 x351)) l0_0 n0_1 l0_2 b0_3 n0_4 n1 := by kernel_rfl
theorem f35_eq (c : Orc) (lf : Nat) (l0_0 : List T) (n0_1 : Int) (l0_2 : List T) (b0_3 : Bool) (n0_4 : Int) (n1 : Int) : funK c env lf 6 fi35 [.st [.sl l0_0, .i .i64 n0_1, .sl l0_2, .b b0_3, .i .i64 n0_4], .i .i64 n1] = f35 c lf l0_0 n0_1 l0_2 b0_3 n0_4 n1 := by
  refine (f35_raw c lf l0_0 n0_1 l0_2 b0_3 n0_4 n1).trans ?_
  have e0 : (fun (b0_3 : Bool) (l0_0 : List T) (l0_2 : List T) (n1 : Int) (n0_1 : Int) (n0_4 : Int) (x352 : Int) (x351 : Int) => lpK c env lf 6 fi35 6 3 [] [1, 2, 5, 12, 13, 14] (x35_3_0) lf (f35_0_c b0_3 l0_0 l0_2 n1 n0_1 n0_4 x352 x351)) = (fun (b0_3 : Bool) (l0_0 : List T) (l0_2 : List T) (n1 : Int) (n0_1 : Int) (n0_4 : Int) (x352 : Int) (x351 : Int) => f35_0 c lf b0_3 l0_0 l0_2 n1 n0_1 n0_4 lf x352 x351) := by funext b0_3 l0_0 l0_2 n1 n0_1 n0_4 x352 x351; exact f35_0_eq c lf b0_3 l0_0 l0_2 n1 n0_1 n0_4 lf x352 x351
  rw [e0]; rfl
/-- loop.example/g00285/impl.PutNum, the loop at region 3. -/
def f93_0_s (c : Orc) (lf : Nat) (L : Int → List T → Option (List T)) (x361 : Int) (x362 : List T) : Option (List T) :=
  bif iLe 128 x361 then
    bif nLe (x362.length + ([T.i .u8 (IntKind.wrap .u8 (IntKind.wrap .i64 ((x361.tmod 128) + 128)))] : List T).length) LIM then
    L (IntKind.wrap .i64 (x361.tdiv 128)) (x362 ++ ([T.i .u8 (IntKind.wrap .u8 (IntKind.wrap .i64 ((x361.tmod 128) + 128)))] : List T))
    else none
  else
    some [T.i .i64 0, T.i .i64 x361, T.sl x362]
def f93_0_c (x361 : Int) (x362 : List T) : CSt := ⟨[.i .i64 x361, .rf 2 [] 0 none], [.dead, .dead, .row false [.i .u8] x362 0 false]⟩
theorem f93_0_round (c : Orc) (lf : Nat) (L : CSt → Option (List T)) (x361 : Int) (x362 : List T) :
    roundK c env lf 6 fi93 2 3 [] [1, 5] (x93_3_0) L (f93_0_c x361 x362) = f93_0_s c lf (fun x361 x362 => L (f93_0_c x361 x362)) x361 x362 := by kernel_rfl
def f93_0 (c : Orc) (lf : Nat) : Nat → Int → List T → Option (List T)
  | 0 => fun _ _ => none
  | n + 1 => fun x361 x362 => f93_0_s c lf (f93_0 c lf n) x361 x362
theorem f93_0_u (c : Orc) (lf : Nat) (n : Nat) (x361 : Int) (x362 : List T) : f93_0 c lf (n + 1) x361 x362 = f93_0_s c lf (f93_0 c lf n) x361 x362 := rfl
theorem f93_0_eq (c : Orc) (lf : Nat) (n : Nat) (x361 : Int) (x362 : List T) :
    lpK c env lf 6 fi93 2 3 [] [1, 5] (x93_3_0) n (f93_0_c x361 x362) = f93_0 c lf n x361 x362 := by
  induction n generalizing x361 x362 with
  | zero => rfl
  | succ n ih =>
    refine (f93_0_round c lf _ x361 x362).trans ?_
    have e : (fun x361 x362 => lpK c env lf 6 fi93 2 3 [] [1, 5] (x93_3_0) n (f93_0_c x361 x362)) = f93_0 c lf n := by funext x361 x362; exact ih x361 x362
    show f93_0_s c lf (fun x361 x362 => lpK c env lf 6 fi93 2 3 [] [1, 5] (x93_3_0) n (f93_0_c x361 x362)) x361 x362 = _
    rw [e]; rfl
/-- loop.example/g00285/impl.PutNum -/
def f93_t (c : Orc) (lf : Nat) (lp0 : Int → List T → Option (List T)) (l0 : List T) (n1 : Int) : Option (List T) :=
  (c 147 [T.sl l0]).bind fun r360 =>
  (lp0 (imax 0 (imin n1 1000000)) (asL (nth r360 0))).bind fun r363 =>
  bif nLe ((asL (nth r363 2)).length + ([T.i .u8 (IntKind.wrap .u8 (asI (nth r363 1)))] : List T).length) LIM then
  some [T.sl ((asL (nth r363 2)) ++ ([T.i .u8 (IntKind.wrap .u8 (asI (nth r363 1)))] : List T))]
  else none
def f93 (c : Orc) (lf : Nat) (l0 : List T) (n1 : Int) : Option (List T) := f93_t c lf (fun (x361 : Int) (x362 : List T) => f93_0 c lf lf x361 x362) l0 n1
theorem f93_raw (c : Orc) (lf : Nat) (l0 : List T) (n1 : Int) : funK c env lf 6 fi93 [.sl l0, .i .i64 n1] = f93_t c lf (fun (x361 : Int) (x362 : List T) => lpK c env lf 6 fi93 2 3 [] [1, 5] (x93_3_0) lf (f93_0_c x361 x362)) l0 n1 := by kernel_rfl
theorem f93_eq (c : Orc) (lf : Nat) (l0 : List T) (n1 : Int) : funK c env lf 6 fi93 [.sl l0, .i .i64 n1] = f93 c lf l0 n1 := by
  refine (f93_raw c lf l0 n1).trans ?_
  have e0 : (fun (x361 : Int) (x362 : List T) => lpK c env lf 6 fi93 2 3 [] [1, 5] (x93_3_0) lf (f93_0_c x361 x362)) = (fun (x361 : Int) (x362 : List T) => f93_0 c lf lf x361 x362) := by funext x361 x362; exact f93_0_eq c lf lf x361 x362
  rw [e0]; rfl
/-- loop.example/g00285/impl.PutText -/
def f92_t (c : Orc) (lf : Nat) (l0 : List T) (s1 : ByteArray) : Option (List T) :=
  (c 93 [T.sl l0, T.i .i64 (s1.size : Int)]).bind fun r364 =>
  bif nLe ((asL (nth r364 0)).length + (listOf s1).length) LIM then
  some [T.sl ((asL (nth r364 0)) ++ (listOf s1))]
  else none
def f92 (c : Orc) (lf : Nat) (l0 : List T) (s1 : ByteArray) : Option (List T) := f92_t c lf l0 s1
theorem f92_raw (c : Orc) (lf : Nat) (l0 : List T) (s1 : ByteArray) : funK c env lf 6 fi92 [.sl l0, .s s1] = f92_t c lf l0 s1 := by kernel_rfl
theorem f92_eq (c : Orc) (lf : Nat) (l0 : List T) (s1 : ByteArray) : funK c env lf 6 fi92 [.sl l0, .s s1] = f92 c lf l0 s1 := by
  refine (f92_raw c lf l0 s1).trans ?_
  rfl
/-- loop.example/g00285/impl.Crc, the loop at region 7. -/
def f146_1_s (c : Orc) (lf : Nat) (x380 : List T) (x381 : Int) (x382 : Int) (L : Int → Int → Option (List T)) (x383 : Int) (x384 : Int) : Option (List T) :=
  bif iLt x384 8 then
    bif (intBits .and .u32 x383 1) == 1 then
      L (intBits .xor .u32 (shiftI .shr .u32 x383 1) 2197175160) (IntKind.wrap .i64 (x384 + 1))
    else
      L (shiftI .shr .u32 x383 1) (IntKind.wrap .i64 (x384 + 1))
  else
    some [T.i .i64 0, T.i .u32 x383, T.sl x380, T.i .i64 x381, T.i .i64 x382]
def f146_1_c (x380 : List T) (x381 : Int) (x382 : Int) (x383 : Int) (x384 : Int) : CSt := ⟨[.i .u32 x383, .ro 0 false [.i .u8] x380, .i .i64 x381, .i .i64 x382, .i .i64 x384], [.dead]⟩
theorem f146_1_round (c : Orc) (lf : Nat) (x380 : List T) (x381 : Int) (x382 : Int) (L : CSt → Option (List T)) (x383 : Int) (x384 : Int) :
    roundK c env lf 6 fi146 1 7 [] [3, 7, 8, 9, 17] (x146_7_0) L (f146_1_c x380 x381 x382 x383 x384) = f146_1_s c lf x380 x381 x382 (fun x383 x384 => L (f146_1_c x380 x381 x382 x383 x384)) x383 x384 := by kernel_rfl
def f146_1 (c : Orc) (lf : Nat) (x380 : List T) (x381 : Int) (x382 : Int) : Nat → Int → Int → Option (List T)
  | 0 => fun _ _ => none
  | n + 1 => fun x383 x384 => f146_1_s c lf x380 x381 x382 (f146_1 c lf x380 x381 x382 n) x383 x384
theorem f146_1_u (c : Orc) (lf : Nat) (x380 : List T) (x381 : Int) (x382 : Int) (n : Nat) (x383 : Int) (x384 : Int) : f146_1 c lf x380 x381 x382 (n + 1) x383 x384 = f146_1_s c lf x380 x381 x382 (f146_1 c lf x380 x381 x382 n) x383 x384 := rfl
theorem f146_1_eq (c : Orc) (lf : Nat) (x380 : List T) (x381 : Int) (x382 : Int) (n : Nat) (x383 : Int) (x384 : Int) :
    lpK c env lf 6 fi146 1 7 [] [3, 7, 8, 9, 17] (x146_7_0) n (f146_1_c x380 x381 x382 x383 x384) = f146_1 c lf x380 x381 x382 n x383 x384 := by
  induction n generalizing x383 x384 with
  | zero => rfl
  | succ n ih =>
    refine (f146_1_round c lf x380 x381 x382 _ x383 x384).trans ?_
    have e : (fun x383 x384 => lpK c env lf 6 fi146 1 7 [] [3, 7, 8, 9, 17] (x146_7_0) n (f146_1_c x380 x381 x382 x383 x384)) = f146_1 c lf x380 x381 x382 n := by funext x383 x384; exact ih x383 x384
    show f146_1_s c lf x380 x381 x382 (fun x383 x384 => lpK c env lf 6 fi146 1 7 [] [3, 7, 8, 9, 17] (x146_7_0) n (f146_1_c x380 x381 x382 x383 x384)) x383 x384 = _
    rw [e]; rfl
/-- loop.example/g00285/impl.Crc, the loop at region 3. -/
def f146_0_s (c : Orc) (lf : Nat) (L : Int → List T → Int → Int → Option (List T)) (lp0 : List T → Int → Int → Int → Int → Option (List T)) (x379 : Int) (x380 : List T) (x381 : Int) (x382 : Int) : Option (List T) :=
  bif iLt x382 x381 then
    bif inR x382 x380.length then
    (lp0 x380 x381 x382 (intBits .xor .u32 x379 (IntKind.wrap .u32 (asI (x380.getD x382.toNat T.u)))) 0).bind fun r385 =>
    L (asI (nth r385 1)) (asL (nth r385 2)) (asI (nth r385 3)) (IntKind.wrap .i64 ((asI (nth r385 4)) + 1))
    else none
  else
    some [T.i .i64 0, T.i .u32 x379]
def f146_0_c (x379 : Int) (x380 : List T) (x381 : Int) (x382 : Int) : CSt := ⟨[.i .u32 x379, .ro 0 false [.i .u8] x380, .i .i64 x381, .i .i64 x382], [.dead]⟩
theorem f146_0_round (c : Orc) (lf : Nat) (L : CSt → Option (List T)) (x379 : Int) (x380 : List T) (x381 : Int) (x382 : Int) :
    roundK c env lf 6 fi146 1 3 [] [3, 7, 8, 9] (x146_3_0) L (f146_0_c x379 x380 x381 x382) = f146_0_s c lf (fun x379 x380 x381 x382 => L (f146_0_c x379 x380 x381 x382)) (fun (x380 : List T) (x381 : Int) (x382 : Int) (x383 : Int) (x384 : Int) => lpK c env lf 6 fi146 1 7 [] [3, 7, 8, 9, 17] (x146_7_0) lf (f146_1_c x380 x381 x382 x383 x384)) x379 x380 x381 x382 := by kernel_rfl
def f146_0 (c : Orc) (lf : Nat) : Nat → Int → List T → Int → Int → Option (List T)
  | 0 => fun _ _ _ _ => none
  | n + 1 => fun x379 x380 x381 x382 => f146_0_s c lf (f146_0 c lf n) (fun (x380 : List T) (x381 : Int) (x382 : Int) (x383 : Int) (x384 : Int) => f146_1 c lf x380 x381 x382 lf x383 x384) x379 x380 x381 x382
theorem f146_0_u (c : Orc) (lf : Nat) (n : Nat) (x379 : Int) (x380 : List T) (x381 : Int) (x382 : Int) : f146_0 c lf (n + 1) x379 x380 x381 x382 = f146_0_s c lf (f146_0 c lf n) (fun (x380 : List T) (x381 : Int) (x382 : Int) (x383 : Int) (x384 : Int) => f146_1 c lf x380 x381 x382 lf x383 x384) x379 x380 x381 x382 := rfl
theorem f146_0_eq (c : Orc) (lf : Nat) (n : Nat) (x379 : Int) (x380 : List T) (x381 : Int) (x382 : Int) :
    lpK c env lf 6 fi146 1 3 [] [3, 7, 8, 9] (x146_3_0) n (f146_0_c x379 x380 x381 x382) = f146_0 c lf n x379 x380 x381 x382 := by
  induction n generalizing x379 x380 x381 x382 with
  | zero => rfl
  | succ n ih =>
    refine (f146_0_round c lf _ x379 x380 x381 x382).trans ?_
    have e : (fun x379 x380 x381 x382 => lpK c env lf 6 fi146 1 3 [] [3, 7, 8, 9] (x146_3_0) n (f146_0_c x379 x380 x381 x382)) = f146_0 c lf n := by funext x379 x380 x381 x382; exact ih x379 x380 x381 x382
    have e0 : (fun (x380 : List T) (x381 : Int) (x382 : Int) (x383 : Int) (x384 : Int) => lpK c env lf 6 fi146 1 7 [] [3, 7, 8, 9, 17] (x146_7_0) lf (f146_1_c x380 x381 x382 x383 x384)) = (fun (x380 : List T) (x381 : Int) (x382 : Int) (x383 : Int) (x384 : Int) => f146_1 c lf x380 x381 x382 lf x383 x384) := by funext x380 x381 x382 x383 x384; exact f146_1_eq c lf x380 x381 x382 lf x383 x384
    show f146_0_s c lf (fun x379 x380 x381 x382 => lpK c env lf 6 fi146 1 3 [] [3, 7, 8, 9] (x146_3_0) n (f146_0_c x379 x380 x381 x382)) (fun (x380 : List T) (x381 : Int) (x382 : Int) (x383 : Int) (x384 : Int) => lpK c env lf 6 fi146 1 7 [] [3, 7, 8, 9, 17] (x146_7_0) lf (f146_1_c x380 x381 x382 x383 x384)) x379 x380 x381 x382 = _
    rw [e, e0]; rfl
/-- loop.example/g00285/impl.Crc -/
def f146_t (c : Orc) (lf : Nat) (lp0 : Int → List T → Int → Int → Option (List T)) (l0 : List T) : Option (List T) :=
  (lp0 4294967295 l0 (l0.length : Int) 0).bind fun r386 =>
  some [T.i .i64 (IntKind.wrap .i64 (intBits .xor .u32 4294967295 (asI (nth r386 1))))]
def f146 (c : Orc) (lf : Nat) (l0 : List T) : Option (List T) := f146_t c lf (fun (x379 : Int) (x380 : List T) (x381 : Int) (x382 : Int) => f146_0 c lf lf x379 x380 x381 x382) l0
theorem f146_raw (c : Orc) (lf : Nat) (l0 : List T) : funK c env lf 6 fi146 [.sl l0] = f146_t c lf (fun (x379 : Int) (x380 : List T) (x381 : Int) (x382 : Int) => lpK c env lf 6 fi146 1 3 [] [3, 7, 8, 9] (x146_3_0) lf (f146_0_c x379 x380 x381 x382)) l0 := by kernel_rfl
theorem f146_eq (c : Orc) (lf : Nat) (l0 : List T) : funK c env lf 6 fi146 [.sl l0] = f146 c lf l0 := by
  refine (f146_raw c lf l0).trans ?_
  have e0 : (fun (x379 : Int) (x380 : List T) (x381 : Int) (x382 : Int) => lpK c env lf 6 fi146 1 3 [] [3, 7, 8, 9] (x146_3_0) lf (f146_0_c x379 x380 x381 x382)) = (fun (x379 : Int) (x380 : List T) (x381 : Int) (x382 : Int) => f146_0 c lf lf x379 x380 x381 x382) := by funext x379 x380 x381 x382; exact f146_0_eq c lf lf x379 x380 x381 x382
  rw [e0]; rfl
/-- loop.example/g00285/impl.sealed -/
def f91_t (c : Orc) (lf : Nat) (l0 : List T) : Option (List T) :=
  (c 146 [T.sl l0]).bind fun r387 =>
  (c 147 [T.sl l0]).bind fun r388 =>
  bif nLe ((asL (nth r388 0)).length + ([T.i .u8 (IntKind.wrap .u8 (shiftI .shr .i64 (asI (nth r387 0)) 24)), T.i .u8 (IntKind.wrap .u8 (shiftI .shr .i64 (asI (nth r387 0)) 16)), T.i .u8 (IntKind.wrap .u8 (shiftI .shr .i64 (asI (nth r387 0)) 8)), T.i .u8 (IntKind.wrap .u8 (asI (nth r387 0)))] : List T).length) LIM then
  some [T.sl ((asL (nth r388 0)) ++ ([T.i .u8 (IntKind.wrap .u8 (shiftI .shr .i64 (asI (nth r387 0)) 24)), T.i .u8 (IntKind.wrap .u8 (shiftI .shr .i64 (asI (nth r387 0)) 16)), T.i .u8 (IntKind.wrap .u8 (shiftI .shr .i64 (asI (nth r387 0)) 8)), T.i .u8 (IntKind.wrap .u8 (asI (nth r387 0)))] : List T))]
  else none
def f91 (c : Orc) (lf : Nat) (l0 : List T) : Option (List T) := f91_t c lf l0
theorem f91_raw (c : Orc) (lf : Nat) (l0 : List T) : funK c env lf 6 fi91 [.sl l0] = f91_t c lf l0 := by kernel_rfl
theorem f91_eq (c : Orc) (lf : Nat) (l0 : List T) : funK c env lf 6 fi91 [.sl l0] = f91 c lf l0 := by
  refine (f91_raw c lf l0).trans ?_
  rfl
/-- loop.example/g00285/impl.PutRec -/
def f37_t (c : Orc) (lf : Nat) (n0_0 : Int) (n0_1 : Int) (l0_2 : List T) : Option (List T) :=
  (c 89 [T.st [T.i .i64 n0_0, T.i .i64 n0_1, T.sl l0_2]]).bind fun r389 =>
  bif !(asB (nth r389 0)) then
    some [T.sl []]
  else
    (c 93 [T.sl ([] : List T), T.i .i64 n0_0]).bind fun r390 =>
    (c 93 [T.sl (asL (nth r390 0)), T.i .i64 n0_1]).bind fun r391 =>
    (c 92 [T.sl (asL (nth r391 0)), T.s (bytesOf l0_2)]).bind fun r392 =>
    (c 91 [T.sl (asL (nth r392 0))]).bind fun r393 =>
    some [T.sl (asL (nth r393 0))]
def f37 (c : Orc) (lf : Nat) (n0_0 : Int) (n0_1 : Int) (l0_2 : List T) : Option (List T) := f37_t c lf n0_0 n0_1 l0_2
theorem f37_raw (c : Orc) (lf : Nat) (n0_0 : Int) (n0_1 : Int) (l0_2 : List T) : funK c env lf 6 fi37 [.st [.i .i64 n0_0, .i .i64 n0_1, .sl l0_2]] = f37_t c lf n0_0 n0_1 l0_2 := by kernel_rfl
theorem f37_eq (c : Orc) (lf : Nat) (n0_0 : Int) (n0_1 : Int) (l0_2 : List T) : funK c env lf 6 fi37 [.st [.i .i64 n0_0, .i .i64 n0_1, .sl l0_2]] = f37 c lf n0_0 n0_1 l0_2 := by
  refine (f37_raw c lf n0_0 n0_1 l0_2).trans ?_
  rfl
/-- loop.example/g00285/impl.Program -/
def f143_t (c : Orc) (lf : Nat) (l0_0 : List T) (n1 : Int) (l2 : List T) : Option (List T) :=
  (c 141 [T.st [T.sl l0_0]]).bind fun r394 =>
  (c 128 [T.st [T.sl (asL (T.cell (nth r394 0) 0))]]).bind fun r395 =>
  bif !(asB (nth r395 0)) then
    some [T.st [T.sl (asL (T.cell (nth r394 0) 0))], T.i .i64 1]
  else
    (c 94 [T.st [T.sl (asL (T.cell (nth r394 0) 0))], T.i .i64 n1]).bind fun r396 =>
    bif !(asB (nth r396 0)) then
      some [T.st [T.sl (asL (T.cell (nth r394 0) 0))], T.i .i64 1]
    else
      bif iLt 400 (l2.length : Int) then
        some [T.st [T.sl (asL (T.cell (nth r394 0) 0))], T.i .i64 1]
      else
        (c 38 [T.st [T.sl (asL (T.cell (nth r394 0) 0))], T.i .i64 n1]).bind fun r397 =>
        bif inR n1 ((asL (T.cell (nth r394 0) 0)).length) then
        bif asB (T.cell ((asL (T.cell (nth r394 0) 0)).getD n1.toNat T.u) 2) then
          some [T.st [T.sl (asL (T.cell (nth r394 0) 0))], T.i .i64 2]
        else
          bif (asI (nth r397 0)) == 8 then
            some [T.st [T.sl (asL (T.cell (nth r394 0) 0))], T.i .i64 5]
          else
            bif inR n1 ((asL (T.cell (nth r394 0) 0)).length) then
            (c 147 [T.sl l2]).bind fun r398 =>
            bif inR (asI (nth r397 0)) ((asL (T.cell ((asL (T.cell (nth r394 0) 0)).getD n1.toNat T.u) 0)).length) then
            some [T.st [T.sl ((asL (T.cell (nth r394 0) 0)).set n1.toNat (T.setc ((asL (T.cell (nth r394 0) 0)).getD n1.toNat T.u) 0 (T.sl ((asL (T.cell ((asL (T.cell (nth r394 0) 0)).getD n1.toNat T.u) 0)).set ((asI (nth r397 0)).toNat) (T.st [T.b true, T.sl (asL (nth r398 0))])))))], T.i .i64 0]
            else none
            else none
        else none
def f143 (c : Orc) (lf : Nat) (l0_0 : List T) (n1 : Int) (l2 : List T) : Option (List T) := f143_t c lf l0_0 n1 l2
theorem f143_raw (c : Orc) (lf : Nat) (l0_0 : List T) (n1 : Int) (l2 : List T) : funK c env lf 6 fi143 [.st [.sl l0_0], .i .i64 n1, .sl l2] = f143_t c lf l0_0 n1 l2 := by kernel_rfl
theorem f143_eq (c : Orc) (lf : Nat) (l0_0 : List T) (n1 : Int) (l2 : List T) : funK c env lf 6 fi143 [.st [.sl l0_0], .i .i64 n1, .sl l2] = f143 c lf l0_0 n1 l2 := by
  refine (f143_raw c lf l0_0 n1 l2).trans ?_
  rfl
/-- loop.example/g00285/impl.FaultAt, the loop at region 2. -/
def f189_0_s (c : Orc) (lf : Nat) (b0_3 : Bool) (l0_0 : List T) (l0_2 : List T) (n0_1 : Int) (L : Int → Option (List T)) (x401 : Int) : Option (List T) :=
  bif iLt x401 (l0_2.length : Int) then
    bif inR x401 l0_2.length then
    bif (asI (T.cell (l0_2.getD x401.toNat T.u) 0)) == n0_1 then
      some [T.i .i64 0, T.b true, T.i .i64 (asI (T.cell (l0_2.getD x401.toNat T.u) 0)), T.i .i64 (asI (T.cell (l0_2.getD x401.toNat T.u) 1)), T.i .i64 (asI (T.cell (l0_2.getD x401.toNat T.u) 2))]
    else
      L (IntKind.wrap .i64 (x401 + 1))
    else none
  else
    some [T.i .i64 1, T.i .i64 0, T.i .i64 0, T.i .i64 0]
def f189_0_c (b0_3 : Bool) (l0_0 : List T) (l0_2 : List T) (n0_1 : Int) (x401 : Int) : CSt := ⟨[.bp 4 0, .bp 5 0, .ro 0 true [.i .i64, .i .i64, .i .i64] l0_2, .i .i64 (l0_2.length : Int), .i .i64 x401], [.dead, .dead, .dead, .dead, .box [.ro 0 true [.sl true [.b, .sl false [.i .u8]], .i .i64, .b] l0_0, .i .i64 n0_1, .ro 0 true [.i .i64, .i .i64, .i .i64] l0_2, .b b0_3], .box [.i .i64 0, .i .i64 0, .i .i64 0]]⟩
theorem f189_0_round (c : Orc) (lf : Nat) (b0_3 : Bool) (l0_0 : List T) (l0_2 : List T) (n0_1 : Int) (L : CSt → Option (List T)) (x401 : Int) :
    roundK c env lf 6 fi189 4 2 [] [1, 2, 7, 8, 9] (x189_2_0) L (f189_0_c b0_3 l0_0 l0_2 n0_1 x401) = f189_0_s c lf b0_3 l0_0 l0_2 n0_1 (fun x401 => L (f189_0_c b0_3 l0_0 l0_2 n0_1 x401)) x401 := by kernel_rfl
def f189_0 (c : Orc) (lf : Nat) (b0_3 : Bool) (l0_0 : List T) (l0_2 : List T) (n0_1 : Int) : Nat → Int → Option (List T)
  | 0 => fun _ => none
  | n + 1 => fun x401 => f189_0_s c lf b0_3 l0_0 l0_2 n0_1 (f189_0 c lf b0_3 l0_0 l0_2 n0_1 n) x401
theorem f189_0_u (c : Orc) (lf : Nat) (b0_3 : Bool) (l0_0 : List T) (l0_2 : List T) (n0_1 : Int) (n : Nat) (x401 : Int) : f189_0 c lf b0_3 l0_0 l0_2 n0_1 (n + 1) x401 = f189_0_s c lf b0_3 l0_0 l0_2 n0_1 (f189_0 c lf b0_3 l0_0 l0_2 n0_1 n) x401 := rfl
theorem f189_0_eq (c : Orc) (lf : Nat) (b0_3 : Bool) (l0_0 : List T) (l0_2 : List T) (n0_1 : Int) (n : Nat) (x401 : Int) :
    lpK c env lf 6 fi189 4 2 [] [1, 2, 7, 8, 9] (x189_2_0) n (f189_0_c b0_3 l0_0 l0_2 n0_1 x401) = f189_0 c lf b0_3 l0_0 l0_2 n0_1 n x401 := by
  induction n generalizing x401 with
  | zero => rfl
  | succ n ih =>
    refine (f189_0_round c lf b0_3 l0_0 l0_2 n0_1 _ x401).trans ?_
    have e : (fun x401 => lpK c env lf 6 fi189 4 2 [] [1, 2, 7, 8, 9] (x189_2_0) n (f189_0_c b0_3 l0_0 l0_2 n0_1 x401)) = f189_0 c lf b0_3 l0_0 l0_2 n0_1 n := by funext x401; exact ih x401
    show f189_0_s c lf b0_3 l0_0 l0_2 n0_1 (fun x401 => lpK c env lf 6 fi189 4 2 [] [1, 2, 7, 8, 9] (x189_2_0) n (f189_0_c b0_3 l0_0 l0_2 n0_1 x401)) x401 = _
    rw [e]; rfl
/-- loop.example/g00285/impl.FaultAt -/
def f189_t (c : Orc) (lf : Nat) (lp0 : Bool → List T → List T → Int → Int → Option (List T)) (l0_0 : List T) (n0_1 : Int) (l0_2 : List T) (b0_3 : Bool) : Option (List T) :=
  (lp0 b0_3 l0_0 l0_2 n0_1 0).bind fun r402 =>
  bif asI (nth r402 0) == 0 then
    some [T.st [T.i .i64 (asI (nth r402 2)), T.i .i64 (asI (nth r402 3)), T.i .i64 (asI (nth r402 4))], T.b (asB (nth r402 1))]
  else
    some [T.st [T.i .i64 0, T.i .i64 0, T.i .i64 0], T.b false]
def f189 (c : Orc) (lf : Nat) (l0_0 : List T) (n0_1 : Int) (l0_2 : List T) (b0_3 : Bool) : Option (List T) := f189_t c lf (fun (b0_3 : Bool) (l0_0 : List T) (l0_2 : List T) (n0_1 : Int) (x401 : Int) => f189_0 c lf b0_3 l0_0 l0_2 n0_1 lf x401) l0_0 n0_1 l0_2 b0_3
theorem f189_raw (c : Orc) (lf : Nat) (l0_0 : List T) (n0_1 : Int) (l0_2 : List T) (b0_3 : Bool) : funK c env lf 6 fi189 [.st [.sl l0_0, .i .i64 n0_1, .sl l0_2, .b b0_3]] = f189_t c lf (fun (b0_3 : Bool) (l0_0 : List T) (l0_2 : List T) (n0_1 : Int) (x401 : Int) => lpK c env lf 6 fi189 4 2 [] [1, 2, 7, 8, 9] (x189_2_0) lf (f189_0_c b0_3 l0_0 l0_2 n0_1 x401)) l0_0 n0_1 l0_2 b0_3 := by kernel_rfl
theorem f189_eq (c : Orc) (lf : Nat) (l0_0 : List T) (n0_1 : Int) (l0_2 : List T) (b0_3 : Bool) : funK c env lf 6 fi189 [.st [.sl l0_0, .i .i64 n0_1, .sl l0_2, .b b0_3]] = f189 c lf l0_0 n0_1 l0_2 b0_3 := by
  refine (f189_raw c lf l0_0 n0_1 l0_2 b0_3).trans ?_
  have e0 : (fun (b0_3 : Bool) (l0_0 : List T) (l0_2 : List T) (n0_1 : Int) (x401 : Int) => lpK c env lf 6 fi189 4 2 [] [1, 2, 7, 8, 9] (x189_2_0) lf (f189_0_c b0_3 l0_0 l0_2 n0_1 x401)) = (fun (b0_3 : Bool) (l0_0 : List T) (l0_2 : List T) (n0_1 : Int) (x401 : Int) => f189_0 c lf b0_3 l0_0 l0_2 n0_1 lf x401) := by funext b0_3 l0_0 l0_2 n0_1 x401; exact f189_0_eq c lf b0_3 l0_0 l0_2 n0_1 lf x401
  rw [e0]; rfl
/-- loop.example/g00285/impl.DevProgram -/
def f90_t (c : Orc) (lf : Nat) (l0_0 : List T) (n0_1 : Int) (l0_2 : List T) (b0_3 : Bool) (n1 : Int) (l2 : List T) : Option (List T) :=
  (c 87 [T.st [T.sl l0_0, T.i .i64 n0_1, T.sl l0_2, T.b b0_3]]).bind fun r403 =>
  (c 74 [T.st [T.sl (asL (T.cell (nth r403 0) 0)), T.i .i64 (asI (T.cell (nth r403 0) 1)), T.sl (asL (T.cell (nth r403 0) 2)), T.b (asB (T.cell (nth r403 0) 3))]]).bind fun r404 =>
  bif !(asB (nth r404 0)) then
    some [T.st [T.sl (asL (T.cell (nth r403 0) 0)), T.i .i64 (asI (T.cell (nth r403 0) 1)), T.sl (asL (T.cell (nth r403 0) 2)), T.b (asB (T.cell (nth r403 0) 3))], T.i .i64 1]
  else
    bif asB (T.cell (nth r403 0) 3) then
      some [T.st [T.sl (asL (T.cell (nth r403 0) 0)), T.i .i64 (asI (T.cell (nth r403 0) 1)), T.sl (asL (T.cell (nth r403 0) 2)), T.b (asB (T.cell (nth r403 0) 3))], T.i .i64 10]
    else
      bif (asI (T.cell (nth r403 0) 1)) == 100000 then
        some [T.st [T.sl (asL (T.cell (nth r403 0) 0)), T.i .i64 (asI (T.cell (nth r403 0) 1)), T.sl (asL (T.cell (nth r403 0) 2)), T.b (asB (T.cell (nth r403 0) 3))], T.i .i64 10]
      else
        (c 143 [T.st [T.sl (asL (T.cell (nth r403 0) 0))], T.i .i64 n1, T.sl l2]).bind fun r405 =>
        bif (asI (nth r405 1)) != 0 then
          some [T.st [T.sl (asL (T.cell (nth r403 0) 0)), T.i .i64 (asI (T.cell (nth r403 0) 1)), T.sl (asL (T.cell (nth r403 0) 2)), T.b (asB (T.cell (nth r403 0) 3))], T.i .i64 (asI (nth r405 1))]
        else
          (c 189 [T.st [T.sl (asL (T.cell (nth r403 0) 0)), T.i .i64 (asI (T.cell (nth r403 0) 1)), T.sl (asL (T.cell (nth r403 0) 2)), T.b (asB (T.cell (nth r403 0) 3))]]).bind fun r406 =>
          bif !(asB (nth r406 1)) then
            some [T.st [T.sl (asL (T.cell (nth r405 0) 0)), T.i .i64 (IntKind.wrap .i64 ((asI (T.cell (nth r403 0) 1)) + 1)), T.sl (asL (T.cell (nth r403 0) 2)), T.b (asB (T.cell (nth r403 0) 3))], T.i .i64 0]
          else
            bif (asI (T.cell (nth r406 0) 1)) == 1 then
              bif inR n1 ((asL (T.cell (nth r403 0) 0)).length) then
              some [T.st [T.sl ((asL (T.cell (nth r403 0) 0)).set n1.toNat (T.setc ((asL (T.cell (nth r403 0) 0)).getD n1.toNat T.u) 2 (T.b true))), T.i .i64 (IntKind.wrap .i64 ((asI (T.cell (nth r403 0) 1)) + 1)), T.sl (asL (T.cell (nth r403 0) 2)), T.b (asB (T.cell (nth r403 0) 3))], T.i .i64 2]
              else none
            else
              bif iLe 0 (imin (asI (T.cell (nth r406 0) 2)) (l2.length : Int)) && iLe (imin (asI (T.cell (nth r406 0) 2)) (l2.length : Int)) (l2.length : Int) then
              (c 143 [T.st [T.sl (asL (T.cell (nth r403 0) 0))], T.i .i64 n1, T.sl (l2.take ((imin (asI (T.cell (nth r406 0) 2)) (l2.length : Int)).toNat))]).bind fun r407 =>
              some [T.st [T.sl (asL (T.cell (nth r407 0) 0)), T.i .i64 (IntKind.wrap .i64 ((asI (T.cell (nth r403 0) 1)) + 1)), T.sl (asL (T.cell (nth r403 0) 2)), T.b true], T.i .i64 10]
              else none
def f90 (c : Orc) (lf : Nat) (l0_0 : List T) (n0_1 : Int) (l0_2 : List T) (b0_3 : Bool) (n1 : Int) (l2 : List T) : Option (List T) := f90_t c lf l0_0 n0_1 l0_2 b0_3 n1 l2
theorem f90_raw (c : Orc) (lf : Nat) (l0_0 : List T) (n0_1 : Int) (l0_2 : List T) (b0_3 : Bool) (n1 : Int) (l2 : List T) : funK c env lf 6 fi90 [.st [.sl l0_0, .i .i64 n0_1, .sl l0_2, .b b0_3], .i .i64 n1, .sl l2] = f90_t c lf l0_0 n0_1 l0_2 b0_3 n1 l2 := by kernel_rfl
theorem f90_eq (c : Orc) (lf : Nat) (l0_0 : List T) (n0_1 : Int) (l0_2 : List T) (b0_3 : Bool) (n1 : Int) (l2 : List T) : funK c env lf 6 fi90 [.st [.sl l0_0, .i .i64 n0_1, .sl l0_2, .b b0_3], .i .i64 n1, .sl l2] = f90 c lf l0_0 n0_1 l0_2 b0_3 n1 l2 := by
  refine (f90_raw c lf l0_0 n0_1 l0_2 b0_3 n1 l2).trans ?_
  rfl
/-- loop.example/g00285/impl.Write, the loop at region 5. -/
def f32_0_s (c : Orc) (lf : Nat) (l2 : List T) (n1 : Int) (n3 : Int) (r424 : List T) (L : Int → Bool → List T → List T → Option (List T)) (x431 : Int) (x432 : Bool) (x433 : List T) (x434 : List T) : Option (List T) :=
  (c 35 [T.st [T.sl x433, T.i .i64 x431, T.sl x434, T.b x432, T.i .i64 (asI (T.cell (nth r424 0) 4))], T.i .i64 n3]).bind fun r435 =>
  bif x432 then
    some [T.i .i64 0, T.i .i64 (-1), T.i .i64 10, T.i .i64 x431, T.b x432, T.i .i64 (asI (T.cell (nth r424 0) 4)), T.sl x433, T.sl x434]
  else
    bif iLt (asI (nth r435 0)) 0 then
      some [T.i .i64 0, T.i .i64 (-1), T.i .i64 9, T.i .i64 x431, T.b x432, T.i .i64 (asI (T.cell (nth r424 0) 4)), T.sl x433, T.sl x434]
    else
      (c 38 [T.st [T.sl x433], T.i .i64 (asI (nth r435 0))]).bind fun r436 =>
      (c 37 [T.st [T.i .i64 n1, T.i .i64 (asI (T.cell (nth r424 0) 4)), T.sl l2]]).bind fun r437 =>
      (c 90 [T.st [T.sl x433, T.i .i64 x431, T.sl x434, T.b x432], T.i .i64 (asI (nth r435 0)), T.sl (asL (nth r437 0))]).bind fun r438 =>
      bif (asI (nth r438 1)) == 0 then
        some [T.i .i64 0, T.i .i64 (IntKind.wrap .i64 ((IntKind.wrap .i64 ((asI (nth r435 0)) * 8)) + (asI (nth r436 0)))), T.i .i64 0, T.i .i64 (asI (T.cell (nth r438 0) 1)), T.b (asB (T.cell (nth r438 0) 3)), T.i .i64 (IntKind.wrap .i64 ((asI (T.cell (nth r424 0) 4)) + 1)), T.sl (asL (T.cell (nth r438 0) 0)), T.sl (asL (T.cell (nth r438 0) 2))]
      else
        bif (asI (nth r438 1)) == 2 then
          L (asI (T.cell (nth r438 0) 1)) (asB (T.cell (nth r438 0) 3)) (asL (T.cell (nth r438 0) 0)) (asL (T.cell (nth r438 0) 2))
        else
          bif asB (T.cell (nth r438 0) 3) then
            some [T.i .i64 0, T.i .i64 (-1), T.i .i64 10, T.i .i64 (asI (T.cell (nth r438 0) 1)), T.b (asB (T.cell (nth r438 0) 3)), T.i .i64 (IntKind.wrap .i64 ((asI (T.cell (nth r424 0) 4)) + 1)), T.sl (asL (T.cell (nth r438 0) 0)), T.sl (asL (T.cell (nth r438 0) 2))]
          else
            some [T.i .i64 0, T.i .i64 (-1), T.i .i64 10, T.i .i64 (asI (T.cell (nth r438 0) 1)), T.b (asB (T.cell (nth r438 0) 3)), T.i .i64 (asI (T.cell (nth r424 0) 4)), T.sl (asL (T.cell (nth r438 0) 0)), T.sl (asL (T.cell (nth r438 0) 2))]
def f32_0_c (l2 : List T) (n1 : Int) (n3 : Int) (r424 : List T) (x431 : Int) (x432 : Bool) (x433 : List T) (x434 : List T) : CSt := ⟨[.i .i64 n3, .bp 8 0, .bp 11 0, .bp 14 0], [.dead, .dead, .dead, .dead, .dead, .dead, .dead, .dead, .box [.rf 9 [] 0 none, .i .i64 x431, .rf 10 [] 0 none, .b x432, .i .i64 (asI (T.cell (nth r424 0) 4))], .row true [.sl true [.b, .sl false [.i .u8]], .i .i64, .b] x433 0 false, .row true [.i .i64, .i .i64, .i .i64] x434 0 false, .box [.rf 12 [] 0 none, .i .i64 0, .rf 13 [] 0 none, .b false, .i .i64 0], .row true [.sl true [.b, .sl false [.i .u8]], .i .i64, .b] ([] : List T) 0 false, .row true [.i .i64, .i .i64, .i .i64] ([] : List T) 0 false, .box [.i .i64 n1, .i .i64 (asI (T.cell (nth r424 0) 4)), .ro 0 false [.i .u8] l2]]⟩
theorem f32_0_round (c : Orc) (lf : Nat) (l2 : List T) (n1 : Int) (n3 : Int) (r424 : List T) (L : CSt → Option (List T)) (x431 : Int) (x432 : Bool) (x433 : List T) (x434 : List T) :
    roundK c env lf 6 fi32 8 5 [] [3, 4, 8, 11] (x32_5_0) L (f32_0_c l2 n1 n3 r424 x431 x432 x433 x434) = f32_0_s c lf l2 n1 n3 r424 (fun x431 x432 x433 x434 => L (f32_0_c l2 n1 n3 r424 x431 x432 x433 x434)) x431 x432 x433 x434 := by kernel_rfl
def f32_0 (c : Orc) (lf : Nat) (l2 : List T) (n1 : Int) (n3 : Int) (r424 : List T) : Nat → Int → Bool → List T → List T → Option (List T)
  | 0 => fun _ _ _ _ => none
  | n + 1 => fun x431 x432 x433 x434 => f32_0_s c lf l2 n1 n3 r424 (f32_0 c lf l2 n1 n3 r424 n) x431 x432 x433 x434
theorem f32_0_u (c : Orc) (lf : Nat) (l2 : List T) (n1 : Int) (n3 : Int) (r424 : List T) (n : Nat) (x431 : Int) (x432 : Bool) (x433 : List T) (x434 : List T) : f32_0 c lf l2 n1 n3 r424 (n + 1) x431 x432 x433 x434 = f32_0_s c lf l2 n1 n3 r424 (f32_0 c lf l2 n1 n3 r424 n) x431 x432 x433 x434 := rfl
theorem f32_0_eq (c : Orc) (lf : Nat) (l2 : List T) (n1 : Int) (n3 : Int) (r424 : List T) (n : Nat) (x431 : Int) (x432 : Bool) (x433 : List T) (x434 : List T) :
    lpK c env lf 6 fi32 8 5 [] [3, 4, 8, 11] (x32_5_0) n (f32_0_c l2 n1 n3 r424 x431 x432 x433 x434) = f32_0 c lf l2 n1 n3 r424 n x431 x432 x433 x434 := by
  induction n generalizing x431 x432 x433 x434 with
  | zero => rfl
  | succ n ih =>
    refine (f32_0_round c lf l2 n1 n3 r424 _ x431 x432 x433 x434).trans ?_
    have e : (fun x431 x432 x433 x434 => lpK c env lf 6 fi32 8 5 [] [3, 4, 8, 11] (x32_5_0) n (f32_0_c l2 n1 n3 r424 x431 x432 x433 x434)) = f32_0 c lf l2 n1 n3 r424 n := by funext x431 x432 x433 x434; exact ih x431 x432 x433 x434
    show f32_0_s c lf l2 n1 n3 r424 (fun x431 x432 x433 x434 => lpK c env lf 6 fi32 8 5 [] [3, 4, 8, 11] (x32_5_0) n (f32_0_c l2 n1 n3 r424 x431 x432 x433 x434)) x431 x432 x433 x434 = _
    rw [e]; rfl
/-- loop.example/g00285/impl.Write -/
def f32_t (c : Orc) (lf : Nat) (lp0 : List T → Int → Int → List T → Int → Bool → List T → List T → Option (List T)) (l0_0 : List T) (n0_1 : Int) (l0_2 : List T) (b0_3 : Bool) (n0_4 : Int) (n1 : Int) (l2 : List T) (n3 : Int) : Option (List T) :=
  (c 88 [T.st [T.sl l0_0, T.i .i64 n0_1, T.sl l0_2, T.b b0_3, T.i .i64 n0_4]]).bind fun r424 =>
  (c 89 [T.st [T.i .i64 n1, T.i .i64 (asI (T.cell (nth r424 0) 4)), T.sl l2]]).bind fun r425 =>
  bif !(asB (nth r425 0)) then
    some [T.st [T.sl (asL (T.cell (nth r424 0) 0)), T.i .i64 (asI (T.cell (nth r424 0) 1)), T.sl (asL (T.cell (nth r424 0) 2)), T.b (asB (T.cell (nth r424 0) 3)), T.i .i64 (asI (T.cell (nth r424 0) 4))], T.i .i64 (-1), T.i .i64 1]
  else
    (c 74 [T.st [T.sl (asL (T.cell (nth r424 0) 0)), T.i .i64 (asI (T.cell (nth r424 0) 1)), T.sl (asL (T.cell (nth r424 0) 2)), T.b (asB (T.cell (nth r424 0) 3))]]).bind fun r426 =>
    bif !(asB (nth r426 0)) then
      some [T.st [T.sl (asL (T.cell (nth r424 0) 0)), T.i .i64 (asI (T.cell (nth r424 0) 1)), T.sl (asL (T.cell (nth r424 0) 2)), T.b (asB (T.cell (nth r424 0) 3)), T.i .i64 (asI (T.cell (nth r424 0) 4))], T.i .i64 (-1), T.i .i64 1]
    else
      bif (asI (T.cell (nth r424 0) 4)) == 1000000 then
        some [T.st [T.sl (asL (T.cell (nth r424 0) 0)), T.i .i64 (asI (T.cell (nth r424 0) 1)), T.sl (asL (T.cell (nth r424 0) 2)), T.b (asB (T.cell (nth r424 0) 3)), T.i .i64 (asI (T.cell (nth r424 0) 4))], T.i .i64 (-1), T.i .i64 1]
      else
        (lp0 l2 n1 n3 r424 (asI (T.cell (nth r424 0) 1)) (asB (T.cell (nth r424 0) 3)) (asL (T.cell (nth r424 0) 0)) (asL (T.cell (nth r424 0) 2))).bind fun r439 =>
        some [T.st [T.sl (asL (nth r439 6)), T.i .i64 (asI (nth r439 3)), T.sl (asL (nth r439 7)), T.b (asB (nth r439 4)), T.i .i64 (asI (nth r439 5))], T.i .i64 (asI (nth r439 1)), T.i .i64 (asI (nth r439 2))]
def f32 (c : Orc) (lf : Nat) (l0_0 : List T) (n0_1 : Int) (l0_2 : List T) (b0_3 : Bool) (n0_4 : Int) (n1 : Int) (l2 : List T) (n3 : Int) : Option (List T) := f32_t c lf (fun (l2 : List T) (n1 : Int) (n3 : Int) (r424 : List T) (x431 : Int) (x432 : Bool) (x433 : List T) (x434 : List T) => f32_0 c lf l2 n1 n3 r424 lf x431 x432 x433 x434) l0_0 n0_1 l0_2 b0_3 n0_4 n1 l2 n3
theorem f32_raw (c : Orc) (lf : Nat) (l0_0 : List T) (n0_1 : Int) (l0_2 : List T) (b0_3 : Bool) (n0_4 : Int) (n1 : Int) (l2 : List T) (n3 : Int) : funK c env lf 6 fi32 [.st [.sl l0_0, .i .i64 n0_1, .sl l0_2, .b b0_3, .i .i64 n0_4], .i .i64 n1, .sl l2, .i .i64 n3] = f32_t c lf (fun (l2 : List T) (n1 : Int) (n3 : Int) (r424 : List T) (x431 : Int) (x432 : Bool) (x433 : List T) (x434 : List T) => lpK c env lf 6 fi32 8 5 [] [3, 4, 8, 11] (x32_5_0) lf (f32_0_c l2 n1 n3 r424 x431 x432 x433 x434)) l0_0 n0_1 l0_2 b0_3 n0_4 n1 l2 n3 := by kernel_rfl
theorem f32_eq (c : Orc) (lf : Nat) (l0_0 : List T) (n0_1 : Int) (l0_2 : List T) (b0_3 : Bool) (n0_4 : Int) (n1 : Int) (l2 : List T) (n3 : Int) : funK c env lf 6 fi32 [.st [.sl l0_0, .i .i64 n0_1, .sl l0_2, .b b0_3, .i .i64 n0_4], .i .i64 n1, .sl l2, .i .i64 n3] = f32 c lf l0_0 n0_1 l0_2 b0_3 n0_4 n1 l2 n3 := by
  refine (f32_raw c lf l0_0 n0_1 l0_2 b0_3 n0_4 n1 l2 n3).trans ?_
  have e0 : (fun (l2 : List T) (n1 : Int) (n3 : Int) (r424 : List T) (x431 : Int) (x432 : Bool) (x433 : List T) (x434 : List T) => lpK c env lf 6 fi32 8 5 [] [3, 4, 8, 11] (x32_5_0) lf (f32_0_c l2 n1 n3 r424 x431 x432 x433 x434)) = (fun (l2 : List T) (n1 : Int) (n3 : Int) (r424 : List T) (x431 : Int) (x432 : Bool) (x433 : List T) (x434 : List T) => f32_0 c lf l2 n1 n3 r424 lf x431 x432 x433 x434) := by funext l2 n1 n3 r424 x431 x432 x433 x434; exact f32_0_eq c lf l2 n1 n3 r424 lf x431 x432 x433 x434
  rw [e0]; rfl
/-- loop.example/g00285/laws.eqByteS, the loop at region 4. -/
def f48_0_s (c : Orc) (lf : Nat) (l0 : List T) (l1 : List T) (L : Int → Option (List T)) (x442 : Int) : Option (List T) :=
  bif iLt x442 (l0.length : Int) then
    bif inR x442 l0.length then
    bif inR x442 l1.length then
    bif (asI (l0.getD x442.toNat T.u)) != (asI (l1.getD x442.toNat T.u)) then
      some [T.i .i64 0, T.b false]
    else
      L (IntKind.wrap .i64 (x442 + 1))
    else none
    else none
  else
    some [T.i .i64 1]
def f48_0_c (l0 : List T) (l1 : List T) (x442 : Int) : CSt := ⟨[.ro 0 false [.i .u8] l0, .ro 0 false [.i .u8] l1, .i .i64 x442], [.dead, .dead]⟩
theorem f48_0_round (c : Orc) (lf : Nat) (l0 : List T) (l1 : List T) (L : CSt → Option (List T)) (x442 : Int) :
    roundK c env lf 6 fi48 2 4 [] [0, 1, 5] (x48_4_0) L (f48_0_c l0 l1 x442) = f48_0_s c lf l0 l1 (fun x442 => L (f48_0_c l0 l1 x442)) x442 := by kernel_rfl
def f48_0 (c : Orc) (lf : Nat) (l0 : List T) (l1 : List T) : Nat → Int → Option (List T)
  | 0 => fun _ => none
  | n + 1 => fun x442 => f48_0_s c lf l0 l1 (f48_0 c lf l0 l1 n) x442
theorem f48_0_u (c : Orc) (lf : Nat) (l0 : List T) (l1 : List T) (n : Nat) (x442 : Int) : f48_0 c lf l0 l1 (n + 1) x442 = f48_0_s c lf l0 l1 (f48_0 c lf l0 l1 n) x442 := rfl
theorem f48_0_eq (c : Orc) (lf : Nat) (l0 : List T) (l1 : List T) (n : Nat) (x442 : Int) :
    lpK c env lf 6 fi48 2 4 [] [0, 1, 5] (x48_4_0) n (f48_0_c l0 l1 x442) = f48_0 c lf l0 l1 n x442 := by
  induction n generalizing x442 with
  | zero => rfl
  | succ n ih =>
    refine (f48_0_round c lf l0 l1 _ x442).trans ?_
    have e : (fun x442 => lpK c env lf 6 fi48 2 4 [] [0, 1, 5] (x48_4_0) n (f48_0_c l0 l1 x442)) = f48_0 c lf l0 l1 n := by funext x442; exact ih x442
    show f48_0_s c lf l0 l1 (fun x442 => lpK c env lf 6 fi48 2 4 [] [0, 1, 5] (x48_4_0) n (f48_0_c l0 l1 x442)) x442 = _
    rw [e]; rfl
/-- loop.example/g00285/laws.eqByteS -/
def f48_t (c : Orc) (lf : Nat) (lp0 : List T → List T → Int → Option (List T)) (l0 : List T) (l1 : List T) : Option (List T) :=
  bif (l0.length : Int) != (l1.length : Int) then
    some [T.b false]
  else
    (lp0 l0 l1 0).bind fun r443 =>
    bif asI (nth r443 0) == 0 then
      some [T.b (asB (nth r443 1))]
    else
      some [T.b true]
def f48 (c : Orc) (lf : Nat) (l0 : List T) (l1 : List T) : Option (List T) := f48_t c lf (fun (l0 : List T) (l1 : List T) (x442 : Int) => f48_0 c lf l0 l1 lf x442) l0 l1
theorem f48_raw (c : Orc) (lf : Nat) (l0 : List T) (l1 : List T) : funK c env lf 6 fi48 [.sl l0, .sl l1] = f48_t c lf (fun (l0 : List T) (l1 : List T) (x442 : Int) => lpK c env lf 6 fi48 2 4 [] [0, 1, 5] (x48_4_0) lf (f48_0_c l0 l1 x442)) l0 l1 := by kernel_rfl
theorem f48_eq (c : Orc) (lf : Nat) (l0 : List T) (l1 : List T) : funK c env lf 6 fi48 [.sl l0, .sl l1] = f48 c lf l0 l1 := by
  refine (f48_raw c lf l0 l1).trans ?_
  have e0 : (fun (l0 : List T) (l1 : List T) (x442 : Int) => lpK c env lf 6 fi48 2 4 [] [0, 1, 5] (x48_4_0) lf (f48_0_c l0 l1 x442)) = (fun (l0 : List T) (l1 : List T) (x442 : Int) => f48_0 c lf l0 l1 lf x442) := by funext l0 l1 x442; exact f48_0_eq c lf l0 l1 lf x442
  rw [e0]; rfl
/-- loop.example/g00285/laws.eqPage -/
def f254_t (c : Orc) (lf : Nat) (b0_0 : Bool) (l0_1 : List T) (b1_0 : Bool) (l1_1 : List T) : Option (List T) :=
  bif !(b0_0 == b1_0) then
    some [T.b false]
  else
    (c 48 [T.sl l0_1, T.sl l1_1]).bind fun r444 =>
    bif !(asB (nth r444 0)) then
      some [T.b false]
    else
      some [T.b true]
def f254 (c : Orc) (lf : Nat) (b0_0 : Bool) (l0_1 : List T) (b1_0 : Bool) (l1_1 : List T) : Option (List T) := f254_t c lf b0_0 l0_1 b1_0 l1_1
theorem f254_raw (c : Orc) (lf : Nat) (b0_0 : Bool) (l0_1 : List T) (b1_0 : Bool) (l1_1 : List T) : funK c env lf 6 fi254 [.st [.b b0_0, .sl l0_1], .st [.b b1_0, .sl l1_1]] = f254_t c lf b0_0 l0_1 b1_0 l1_1 := by kernel_rfl
theorem f254_eq (c : Orc) (lf : Nat) (b0_0 : Bool) (l0_1 : List T) (b1_0 : Bool) (l1_1 : List T) : funK c env lf 6 fi254 [.st [.b b0_0, .sl l0_1], .st [.b b1_0, .sl l1_1]] = f254 c lf b0_0 l0_1 b1_0 l1_1 := by
  refine (f254_raw c lf b0_0 l0_1 b1_0 l1_1).trans ?_
  rfl
/-- loop.example/g00285/laws.eqPageS, the loop at region 4. -/
def f244_0_s (c : Orc) (lf : Nat) (l0 : List T) (l1 : List T) (L : Int → Option (List T)) (x450 : Int) : Option (List T) :=
  bif iLt x450 (l0.length : Int) then
    bif inR x450 l0.length then
    bif inR x450 l1.length then
    (c 254 [T.st [T.b (asB (T.cell (l0.getD x450.toNat T.u) 0)), T.sl (asL (T.cell (l0.getD x450.toNat T.u) 1))], T.st [T.b (asB (T.cell (l1.getD x450.toNat T.u) 0)), T.sl (asL (T.cell (l1.getD x450.toNat T.u) 1))]]).bind fun r451 =>
    bif !(asB (nth r451 0)) then
      some [T.i .i64 0, T.b false]
    else
      L (IntKind.wrap .i64 (x450 + 1))
    else none
    else none
  else
    some [T.i .i64 1]
def f244_0_c (l0 : List T) (l1 : List T) (x450 : Int) : CSt := ⟨[.ro 0 true [.b, .sl false [.i .u8]] l0, .ro 0 true [.b, .sl false [.i .u8]] l1, .i .i64 x450], [.dead, .dead]⟩
theorem f244_0_round (c : Orc) (lf : Nat) (l0 : List T) (l1 : List T) (L : CSt → Option (List T)) (x450 : Int) :
    roundK c env lf 6 fi244 2 4 [] [0, 1, 5] (x244_4_0) L (f244_0_c l0 l1 x450) = f244_0_s c lf l0 l1 (fun x450 => L (f244_0_c l0 l1 x450)) x450 := by kernel_rfl
def f244_0 (c : Orc) (lf : Nat) (l0 : List T) (l1 : List T) : Nat → Int → Option (List T)
  | 0 => fun _ => none
  | n + 1 => fun x450 => f244_0_s c lf l0 l1 (f244_0 c lf l0 l1 n) x450
theorem f244_0_u (c : Orc) (lf : Nat) (l0 : List T) (l1 : List T) (n : Nat) (x450 : Int) : f244_0 c lf l0 l1 (n + 1) x450 = f244_0_s c lf l0 l1 (f244_0 c lf l0 l1 n) x450 := rfl
theorem f244_0_eq (c : Orc) (lf : Nat) (l0 : List T) (l1 : List T) (n : Nat) (x450 : Int) :
    lpK c env lf 6 fi244 2 4 [] [0, 1, 5] (x244_4_0) n (f244_0_c l0 l1 x450) = f244_0 c lf l0 l1 n x450 := by
  induction n generalizing x450 with
  | zero => rfl
  | succ n ih =>
    refine (f244_0_round c lf l0 l1 _ x450).trans ?_
    have e : (fun x450 => lpK c env lf 6 fi244 2 4 [] [0, 1, 5] (x244_4_0) n (f244_0_c l0 l1 x450)) = f244_0 c lf l0 l1 n := by funext x450; exact ih x450
    show f244_0_s c lf l0 l1 (fun x450 => lpK c env lf 6 fi244 2 4 [] [0, 1, 5] (x244_4_0) n (f244_0_c l0 l1 x450)) x450 = _
    rw [e]; rfl
/-- loop.example/g00285/laws.eqPageS -/
def f244_t (c : Orc) (lf : Nat) (lp0 : List T → List T → Int → Option (List T)) (l0 : List T) (l1 : List T) : Option (List T) :=
  bif (l0.length : Int) != (l1.length : Int) then
    some [T.b false]
  else
    (lp0 l0 l1 0).bind fun r452 =>
    bif asI (nth r452 0) == 0 then
      some [T.b (asB (nth r452 1))]
    else
      some [T.b true]
def f244 (c : Orc) (lf : Nat) (l0 : List T) (l1 : List T) : Option (List T) := f244_t c lf (fun (l0 : List T) (l1 : List T) (x450 : Int) => f244_0 c lf l0 l1 lf x450) l0 l1
theorem f244_raw (c : Orc) (lf : Nat) (l0 : List T) (l1 : List T) : funK c env lf 6 fi244 [.sl l0, .sl l1] = f244_t c lf (fun (l0 : List T) (l1 : List T) (x450 : Int) => lpK c env lf 6 fi244 2 4 [] [0, 1, 5] (x244_4_0) lf (f244_0_c l0 l1 x450)) l0 l1 := by kernel_rfl
theorem f244_eq (c : Orc) (lf : Nat) (l0 : List T) (l1 : List T) : funK c env lf 6 fi244 [.sl l0, .sl l1] = f244 c lf l0 l1 := by
  refine (f244_raw c lf l0 l1).trans ?_
  have e0 : (fun (l0 : List T) (l1 : List T) (x450 : Int) => lpK c env lf 6 fi244 2 4 [] [0, 1, 5] (x244_4_0) lf (f244_0_c l0 l1 x450)) = (fun (l0 : List T) (l1 : List T) (x450 : Int) => f244_0 c lf l0 l1 lf x450) := by funext l0 l1 x450; exact f244_0_eq c lf l0 l1 lf x450
  rw [e0]; rfl
/-- loop.example/g00285/laws.eqBlock -/
def f221_t (c : Orc) (lf : Nat) (l0_0 : List T) (n0_1 : Int) (b0_2 : Bool) (l1_0 : List T) (n1_1 : Int) (b1_2 : Bool) : Option (List T) :=
  (c 244 [T.sl l0_0, T.sl l1_0]).bind fun r453 =>
  bif !(asB (nth r453 0)) then
    some [T.b false]
  else
    bif n0_1 != n1_1 then
      some [T.b false]
    else
      bif !(b0_2 == b1_2) then
        some [T.b false]
      else
        some [T.b true]
def f221 (c : Orc) (lf : Nat) (l0_0 : List T) (n0_1 : Int) (b0_2 : Bool) (l1_0 : List T) (n1_1 : Int) (b1_2 : Bool) : Option (List T) := f221_t c lf l0_0 n0_1 b0_2 l1_0 n1_1 b1_2
theorem f221_raw (c : Orc) (lf : Nat) (l0_0 : List T) (n0_1 : Int) (b0_2 : Bool) (l1_0 : List T) (n1_1 : Int) (b1_2 : Bool) : funK c env lf 6 fi221 [.st [.sl l0_0, .i .i64 n0_1, .b b0_2], .st [.sl l1_0, .i .i64 n1_1, .b b1_2]] = f221_t c lf l0_0 n0_1 b0_2 l1_0 n1_1 b1_2 := by kernel_rfl
theorem f221_eq (c : Orc) (lf : Nat) (l0_0 : List T) (n0_1 : Int) (b0_2 : Bool) (l1_0 : List T) (n1_1 : Int) (b1_2 : Bool) : funK c env lf 6 fi221 [.st [.sl l0_0, .i .i64 n0_1, .b b0_2], .st [.sl l1_0, .i .i64 n1_1, .b b1_2]] = f221 c lf l0_0 n0_1 b0_2 l1_0 n1_1 b1_2 := by
  refine (f221_raw c lf l0_0 n0_1 b0_2 l1_0 n1_1 b1_2).trans ?_
  rfl
/-- loop.example/g00285/laws.eqBlockS, the loop at region 4. -/
def f179_0_s (c : Orc) (lf : Nat) (l0 : List T) (l1 : List T) (L : Int → Option (List T)) (x459 : Int) : Option (List T) :=
  bif iLt x459 (l0.length : Int) then
    bif inR x459 l0.length then
    bif inR x459 l1.length then
    (c 221 [T.st [T.sl (asL (T.cell (l0.getD x459.toNat T.u) 0)), T.i .i64 (asI (T.cell (l0.getD x459.toNat T.u) 1)), T.b (asB (T.cell (l0.getD x459.toNat T.u) 2))], T.st [T.sl (asL (T.cell (l1.getD x459.toNat T.u) 0)), T.i .i64 (asI (T.cell (l1.getD x459.toNat T.u) 1)), T.b (asB (T.cell (l1.getD x459.toNat T.u) 2))]]).bind fun r460 =>
    bif !(asB (nth r460 0)) then
      some [T.i .i64 0, T.b false]
    else
      L (IntKind.wrap .i64 (x459 + 1))
    else none
    else none
  else
    some [T.i .i64 1]
def f179_0_c (l0 : List T) (l1 : List T) (x459 : Int) : CSt := ⟨[.ro 0 true [.sl true [.b, .sl false [.i .u8]], .i .i64, .b] l0, .ro 0 true [.sl true [.b, .sl false [.i .u8]], .i .i64, .b] l1, .i .i64 x459], [.dead, .dead]⟩
theorem f179_0_round (c : Orc) (lf : Nat) (l0 : List T) (l1 : List T) (L : CSt → Option (List T)) (x459 : Int) :
    roundK c env lf 6 fi179 2 4 [] [0, 1, 5] (x179_4_0) L (f179_0_c l0 l1 x459) = f179_0_s c lf l0 l1 (fun x459 => L (f179_0_c l0 l1 x459)) x459 := by kernel_rfl
def f179_0 (c : Orc) (lf : Nat) (l0 : List T) (l1 : List T) : Nat → Int → Option (List T)
  | 0 => fun _ => none
  | n + 1 => fun x459 => f179_0_s c lf l0 l1 (f179_0 c lf l0 l1 n) x459
theorem f179_0_u (c : Orc) (lf : Nat) (l0 : List T) (l1 : List T) (n : Nat) (x459 : Int) : f179_0 c lf l0 l1 (n + 1) x459 = f179_0_s c lf l0 l1 (f179_0 c lf l0 l1 n) x459 := rfl
theorem f179_0_eq (c : Orc) (lf : Nat) (l0 : List T) (l1 : List T) (n : Nat) (x459 : Int) :
    lpK c env lf 6 fi179 2 4 [] [0, 1, 5] (x179_4_0) n (f179_0_c l0 l1 x459) = f179_0 c lf l0 l1 n x459 := by
  induction n generalizing x459 with
  | zero => rfl
  | succ n ih =>
    refine (f179_0_round c lf l0 l1 _ x459).trans ?_
    have e : (fun x459 => lpK c env lf 6 fi179 2 4 [] [0, 1, 5] (x179_4_0) n (f179_0_c l0 l1 x459)) = f179_0 c lf l0 l1 n := by funext x459; exact ih x459
    show f179_0_s c lf l0 l1 (fun x459 => lpK c env lf 6 fi179 2 4 [] [0, 1, 5] (x179_4_0) n (f179_0_c l0 l1 x459)) x459 = _
    rw [e]; rfl
/-- loop.example/g00285/laws.eqBlockS -/
def f179_t (c : Orc) (lf : Nat) (lp0 : List T → List T → Int → Option (List T)) (l0 : List T) (l1 : List T) : Option (List T) :=
  bif (l0.length : Int) != (l1.length : Int) then
    some [T.b false]
  else
    (lp0 l0 l1 0).bind fun r461 =>
    bif asI (nth r461 0) == 0 then
      some [T.b (asB (nth r461 1))]
    else
      some [T.b true]
def f179 (c : Orc) (lf : Nat) (l0 : List T) (l1 : List T) : Option (List T) := f179_t c lf (fun (l0 : List T) (l1 : List T) (x459 : Int) => f179_0 c lf l0 l1 lf x459) l0 l1
theorem f179_raw (c : Orc) (lf : Nat) (l0 : List T) (l1 : List T) : funK c env lf 6 fi179 [.sl l0, .sl l1] = f179_t c lf (fun (l0 : List T) (l1 : List T) (x459 : Int) => lpK c env lf 6 fi179 2 4 [] [0, 1, 5] (x179_4_0) lf (f179_0_c l0 l1 x459)) l0 l1 := by kernel_rfl
theorem f179_eq (c : Orc) (lf : Nat) (l0 : List T) (l1 : List T) : funK c env lf 6 fi179 [.sl l0, .sl l1] = f179 c lf l0 l1 := by
  refine (f179_raw c lf l0 l1).trans ?_
  have e0 : (fun (l0 : List T) (l1 : List T) (x459 : Int) => lpK c env lf 6 fi179 2 4 [] [0, 1, 5] (x179_4_0) lf (f179_0_c l0 l1 x459)) = (fun (l0 : List T) (l1 : List T) (x459 : Int) => f179_0 c lf l0 l1 lf x459) := by funext l0 l1 x459; exact f179_0_eq c lf l0 l1 lf x459
  rw [e0]; rfl
/-- loop.example/g00285/laws.eqChip -/
def f129_t (c : Orc) (lf : Nat) (l0_0 : List T) (l1_0 : List T) : Option (List T) :=
  (c 179 [T.sl l0_0, T.sl l1_0]).bind fun r462 =>
  bif !(asB (nth r462 0)) then
    some [T.b false]
  else
    some [T.b true]
def f129 (c : Orc) (lf : Nat) (l0_0 : List T) (l1_0 : List T) : Option (List T) := f129_t c lf l0_0 l1_0
theorem f129_raw (c : Orc) (lf : Nat) (l0_0 : List T) (l1_0 : List T) : funK c env lf 6 fi129 [.st [.sl l0_0], .st [.sl l1_0]] = f129_t c lf l0_0 l1_0 := by kernel_rfl
theorem f129_eq (c : Orc) (lf : Nat) (l0_0 : List T) (l1_0 : List T) : funK c env lf 6 fi129 [.st [.sl l0_0], .st [.sl l1_0]] = f129 c lf l0_0 l1_0 := by
  refine (f129_raw c lf l0_0 l1_0).trans ?_
  rfl
/-- loop.example/g00285/laws.eqFault -/
def f180_t (c : Orc) (lf : Nat) (n0_0 : Int) (n0_1 : Int) (n0_2 : Int) (n1_0 : Int) (n1_1 : Int) (n1_2 : Int) : Option (List T) :=
  bif n0_0 != n1_0 then
    some [T.b false]
  else
    bif n0_1 != n1_1 then
      some [T.b false]
    else
      bif n0_2 != n1_2 then
        some [T.b false]
      else
        some [T.b true]
def f180 (c : Orc) (lf : Nat) (n0_0 : Int) (n0_1 : Int) (n0_2 : Int) (n1_0 : Int) (n1_1 : Int) (n1_2 : Int) : Option (List T) := f180_t c lf n0_0 n0_1 n0_2 n1_0 n1_1 n1_2
theorem f180_raw (c : Orc) (lf : Nat) (n0_0 : Int) (n0_1 : Int) (n0_2 : Int) (n1_0 : Int) (n1_1 : Int) (n1_2 : Int) : funK c env lf 6 fi180 [.st [.i .i64 n0_0, .i .i64 n0_1, .i .i64 n0_2], .st [.i .i64 n1_0, .i .i64 n1_1, .i .i64 n1_2]] = f180_t c lf n0_0 n0_1 n0_2 n1_0 n1_1 n1_2 := by kernel_rfl
theorem f180_eq (c : Orc) (lf : Nat) (n0_0 : Int) (n0_1 : Int) (n0_2 : Int) (n1_0 : Int) (n1_1 : Int) (n1_2 : Int) : funK c env lf 6 fi180 [.st [.i .i64 n0_0, .i .i64 n0_1, .i .i64 n0_2], .st [.i .i64 n1_0, .i .i64 n1_1, .i .i64 n1_2]] = f180 c lf n0_0 n0_1 n0_2 n1_0 n1_1 n1_2 := by
  refine (f180_raw c lf n0_0 n0_1 n0_2 n1_0 n1_1 n1_2).trans ?_
  rfl
/-- loop.example/g00285/laws.eqFaultS, the loop at region 4. -/
def f130_0_s (c : Orc) (lf : Nat) (l0 : List T) (l1 : List T) (L : Int → Option (List T)) (x468 : Int) : Option (List T) :=
  bif iLt x468 (l0.length : Int) then
    bif inR x468 l0.length then
    bif inR x468 l1.length then
    (c 180 [T.st [T.i .i64 (asI (T.cell (l0.getD x468.toNat T.u) 0)), T.i .i64 (asI (T.cell (l0.getD x468.toNat T.u) 1)), T.i .i64 (asI (T.cell (l0.getD x468.toNat T.u) 2))], T.st [T.i .i64 (asI (T.cell (l1.getD x468.toNat T.u) 0)), T.i .i64 (asI (T.cell (l1.getD x468.toNat T.u) 1)), T.i .i64 (asI (T.cell (l1.getD x468.toNat T.u) 2))]]).bind fun r469 =>
    bif !(asB (nth r469 0)) then
      some [T.i .i64 0, T.b false]
    else
      L (IntKind.wrap .i64 (x468 + 1))
    else none
    else none
  else
    some [T.i .i64 1]
def f130_0_c (l0 : List T) (l1 : List T) (x468 : Int) : CSt := ⟨[.ro 0 true [.i .i64, .i .i64, .i .i64] l0, .ro 0 true [.i .i64, .i .i64, .i .i64] l1, .i .i64 x468], [.dead, .dead]⟩
theorem f130_0_round (c : Orc) (lf : Nat) (l0 : List T) (l1 : List T) (L : CSt → Option (List T)) (x468 : Int) :
    roundK c env lf 6 fi130 2 4 [] [0, 1, 5] (x130_4_0) L (f130_0_c l0 l1 x468) = f130_0_s c lf l0 l1 (fun x468 => L (f130_0_c l0 l1 x468)) x468 := by kernel_rfl
def f130_0 (c : Orc) (lf : Nat) (l0 : List T) (l1 : List T) : Nat → Int → Option (List T)
  | 0 => fun _ => none
  | n + 1 => fun x468 => f130_0_s c lf l0 l1 (f130_0 c lf l0 l1 n) x468
theorem f130_0_u (c : Orc) (lf : Nat) (l0 : List T) (l1 : List T) (n : Nat) (x468 : Int) : f130_0 c lf l0 l1 (n + 1) x468 = f130_0_s c lf l0 l1 (f130_0 c lf l0 l1 n) x468 := rfl
theorem f130_0_eq (c : Orc) (lf : Nat) (l0 : List T) (l1 : List T) (n : Nat) (x468 : Int) :
    lpK c env lf 6 fi130 2 4 [] [0, 1, 5] (x130_4_0) n (f130_0_c l0 l1 x468) = f130_0 c lf l0 l1 n x468 := by
  induction n generalizing x468 with
  | zero => rfl
  | succ n ih =>
    refine (f130_0_round c lf l0 l1 _ x468).trans ?_
    have e : (fun x468 => lpK c env lf 6 fi130 2 4 [] [0, 1, 5] (x130_4_0) n (f130_0_c l0 l1 x468)) = f130_0 c lf l0 l1 n := by funext x468; exact ih x468
    show f130_0_s c lf l0 l1 (fun x468 => lpK c env lf 6 fi130 2 4 [] [0, 1, 5] (x130_4_0) n (f130_0_c l0 l1 x468)) x468 = _
    rw [e]; rfl
/-- loop.example/g00285/laws.eqFaultS -/
def f130_t (c : Orc) (lf : Nat) (lp0 : List T → List T → Int → Option (List T)) (l0 : List T) (l1 : List T) : Option (List T) :=
  bif (l0.length : Int) != (l1.length : Int) then
    some [T.b false]
  else
    (lp0 l0 l1 0).bind fun r470 =>
    bif asI (nth r470 0) == 0 then
      some [T.b (asB (nth r470 1))]
    else
      some [T.b true]
def f130 (c : Orc) (lf : Nat) (l0 : List T) (l1 : List T) : Option (List T) := f130_t c lf (fun (l0 : List T) (l1 : List T) (x468 : Int) => f130_0 c lf l0 l1 lf x468) l0 l1
theorem f130_raw (c : Orc) (lf : Nat) (l0 : List T) (l1 : List T) : funK c env lf 6 fi130 [.sl l0, .sl l1] = f130_t c lf (fun (l0 : List T) (l1 : List T) (x468 : Int) => lpK c env lf 6 fi130 2 4 [] [0, 1, 5] (x130_4_0) lf (f130_0_c l0 l1 x468)) l0 l1 := by kernel_rfl
theorem f130_eq (c : Orc) (lf : Nat) (l0 : List T) (l1 : List T) : funK c env lf 6 fi130 [.sl l0, .sl l1] = f130 c lf l0 l1 := by
  refine (f130_raw c lf l0 l1).trans ?_
  have e0 : (fun (l0 : List T) (l1 : List T) (x468 : Int) => lpK c env lf 6 fi130 2 4 [] [0, 1, 5] (x130_4_0) lf (f130_0_c l0 l1 x468)) = (fun (l0 : List T) (l1 : List T) (x468 : Int) => f130_0 c lf l0 l1 lf x468) := by funext l0 l1 x468; exact f130_0_eq c lf l0 l1 lf x468
  rw [e0]; rfl
/-- loop.example/g00285/laws.eqDev -/
def f78_t (c : Orc) (lf : Nat) (l0_0 : List T) (n0_1 : Int) (l0_2 : List T) (b0_3 : Bool) (l1_0 : List T) (n1_1 : Int) (l1_2 : List T) (b1_3 : Bool) : Option (List T) :=
  (c 129 [T.st [T.sl l0_0], T.st [T.sl l1_0]]).bind fun r471 =>
  bif !(asB (nth r471 0)) then
    some [T.b false]
  else
    bif n0_1 != n1_1 then
      some [T.b false]
    else
      (c 130 [T.sl l0_2, T.sl l1_2]).bind fun r472 =>
      bif !(asB (nth r472 0)) then
        some [T.b false]
      else
        bif !(b0_3 == b1_3) then
          some [T.b false]
        else
          some [T.b true]
def f78 (c : Orc) (lf : Nat) (l0_0 : List T) (n0_1 : Int) (l0_2 : List T) (b0_3 : Bool) (l1_0 : List T) (n1_1 : Int) (l1_2 : List T) (b1_3 : Bool) : Option (List T) := f78_t c lf l0_0 n0_1 l0_2 b0_3 l1_0 n1_1 l1_2 b1_3
theorem f78_raw (c : Orc) (lf : Nat) (l0_0 : List T) (n0_1 : Int) (l0_2 : List T) (b0_3 : Bool) (l1_0 : List T) (n1_1 : Int) (l1_2 : List T) (b1_3 : Bool) : funK c env lf 6 fi78 [.st [.sl l0_0, .i .i64 n0_1, .sl l0_2, .b b0_3], .st [.sl l1_0, .i .i64 n1_1, .sl l1_2, .b b1_3]] = f78_t c lf l0_0 n0_1 l0_2 b0_3 l1_0 n1_1 l1_2 b1_3 := by kernel_rfl
theorem f78_eq (c : Orc) (lf : Nat) (l0_0 : List T) (n0_1 : Int) (l0_2 : List T) (b0_3 : Bool) (l1_0 : List T) (n1_1 : Int) (l1_2 : List T) (b1_3 : Bool) : funK c env lf 6 fi78 [.st [.sl l0_0, .i .i64 n0_1, .sl l0_2, .b b0_3], .st [.sl l1_0, .i .i64 n1_1, .sl l1_2, .b b1_3]] = f78 c lf l0_0 n0_1 l0_2 b0_3 l1_0 n1_1 l1_2 b1_3 := by
  refine (f78_raw c lf l0_0 n0_1 l0_2 b0_3 l1_0 n1_1 l1_2 b1_3).trans ?_
  rfl
/-- loop.example/g00285/laws.eqLog -/
def f22_t (c : Orc) (lf : Nat) (l0_0 : List T) (n0_1 : Int) (l0_2 : List T) (b0_3 : Bool) (n0_4 : Int) (l1_0 : List T) (n1_1 : Int) (l1_2 : List T) (b1_3 : Bool) (n1_4 : Int) : Option (List T) :=
  (c 78 [T.st [T.sl l0_0, T.i .i64 n0_1, T.sl l0_2, T.b b0_3], T.st [T.sl l1_0, T.i .i64 n1_1, T.sl l1_2, T.b b1_3]]).bind fun r473 =>
  bif !(asB (nth r473 0)) then
    some [T.b false]
  else
    bif n0_4 != n1_4 then
      some [T.b false]
    else
      some [T.b true]
def f22 (c : Orc) (lf : Nat) (l0_0 : List T) (n0_1 : Int) (l0_2 : List T) (b0_3 : Bool) (n0_4 : Int) (l1_0 : List T) (n1_1 : Int) (l1_2 : List T) (b1_3 : Bool) (n1_4 : Int) : Option (List T) := f22_t c lf l0_0 n0_1 l0_2 b0_3 n0_4 l1_0 n1_1 l1_2 b1_3 n1_4
theorem f22_raw (c : Orc) (lf : Nat) (l0_0 : List T) (n0_1 : Int) (l0_2 : List T) (b0_3 : Bool) (n0_4 : Int) (l1_0 : List T) (n1_1 : Int) (l1_2 : List T) (b1_3 : Bool) (n1_4 : Int) : funK c env lf 6 fi22 [.st [.sl l0_0, .i .i64 n0_1, .sl l0_2, .b b0_3, .i .i64 n0_4], .st [.sl l1_0, .i .i64 n1_1, .sl l1_2, .b b1_3, .i .i64 n1_4]] = f22_t c lf l0_0 n0_1 l0_2 b0_3 n0_4 l1_0 n1_1 l1_2 b1_3 n1_4 := by kernel_rfl
theorem f22_eq (c : Orc) (lf : Nat) (l0_0 : List T) (n0_1 : Int) (l0_2 : List T) (b0_3 : Bool) (n0_4 : Int) (l1_0 : List T) (n1_1 : Int) (l1_2 : List T) (b1_3 : Bool) (n1_4 : Int) : funK c env lf 6 fi22 [.st [.sl l0_0, .i .i64 n0_1, .sl l0_2, .b b0_3, .i .i64 n0_4], .st [.sl l1_0, .i .i64 n1_1, .sl l1_2, .b b1_3, .i .i64 n1_4]] = f22 c lf l0_0 n0_1 l0_2 b0_3 n0_4 l1_0 n1_1 l1_2 b1_3 n1_4 := by
  refine (f22_raw c lf l0_0 n0_1 l0_2 b0_3 n0_4 l1_0 n1_1 l1_2 b1_3 n1_4).trans ?_
  rfl
/-- loop.example/g00285/laws.markByteS, the loop at region 2. -/
def f49_0_s (c : Orc) (lf : Nat) (L : Int → Int → List T → Option (List T)) (x478 : Int) (x479 : Int) (x480 : List T) : Option (List T) :=
  bif iLt x479 (x480.length : Int) then
    bif inR x479 x480.length then
    L (IntKind.wrap .i64 (x478 + 1)) (IntKind.wrap .i64 (x479 + 1)) (x480.set x479.toNat (T.i .u8 (IntKind.wrap .u8 x478)))
    else none
  else
    some [T.i .i64 0, T.i .i64 x478, T.sl x480]
def f49_0_c (x478 : Int) (x479 : Int) (x480 : List T) : CSt := ⟨[.rf 0 [] 0 none, .i .i64 x478, .i .i64 x479], [.row false [.i .u8] x480 0 false, .dead]⟩
theorem f49_0_round (c : Orc) (lf : Nat) (L : CSt → Option (List T)) (x478 : Int) (x479 : Int) (x480 : List T) :
    roundK c env lf 6 fi49 2 2 [] [0, 1, 5] (x49_2_0) L (f49_0_c x478 x479 x480) = f49_0_s c lf (fun x478 x479 x480 => L (f49_0_c x478 x479 x480)) x478 x479 x480 := by kernel_rfl
def f49_0 (c : Orc) (lf : Nat) : Nat → Int → Int → List T → Option (List T)
  | 0 => fun _ _ _ => none
  | n + 1 => fun x478 x479 x480 => f49_0_s c lf (f49_0 c lf n) x478 x479 x480
theorem f49_0_u (c : Orc) (lf : Nat) (n : Nat) (x478 : Int) (x479 : Int) (x480 : List T) : f49_0 c lf (n + 1) x478 x479 x480 = f49_0_s c lf (f49_0 c lf n) x478 x479 x480 := rfl
theorem f49_0_eq (c : Orc) (lf : Nat) (n : Nat) (x478 : Int) (x479 : Int) (x480 : List T) :
    lpK c env lf 6 fi49 2 2 [] [0, 1, 5] (x49_2_0) n (f49_0_c x478 x479 x480) = f49_0 c lf n x478 x479 x480 := by
  induction n generalizing x478 x479 x480 with
  | zero => rfl
  | succ n ih =>
    refine (f49_0_round c lf _ x478 x479 x480).trans ?_
    have e : (fun x478 x479 x480 => lpK c env lf 6 fi49 2 2 [] [0, 1, 5] (x49_2_0) n (f49_0_c x478 x479 x480)) = f49_0 c lf n := by funext x478 x479 x480; exact ih x478 x479 x480
    show f49_0_s c lf (fun x478 x479 x480 => lpK c env lf 6 fi49 2 2 [] [0, 1, 5] (x49_2_0) n (f49_0_c x478 x479 x480)) x478 x479 x480 = _
    rw [e]; rfl
/-- loop.example/g00285/laws.markByteS -/
def f49_t (c : Orc) (lf : Nat) (lp0 : Int → Int → List T → Option (List T)) (l0 : List T) (n1 : Int) : Option (List T) :=
  (lp0 n1 0 l0).bind fun r481 =>
  some [T.i .i64 (asI (nth r481 1)), T.sl (asL (nth r481 2))]
def f49 (c : Orc) (lf : Nat) (l0 : List T) (n1 : Int) : Option (List T) := f49_t c lf (fun (x478 : Int) (x479 : Int) (x480 : List T) => f49_0 c lf lf x478 x479 x480) l0 n1
theorem f49_raw (c : Orc) (lf : Nat) (l0 : List T) (n1 : Int) : funK c env lf 6 fi49 [.sl l0, .i .i64 n1] = f49_t c lf (fun (x478 : Int) (x479 : Int) (x480 : List T) => lpK c env lf 6 fi49 2 2 [] [0, 1, 5] (x49_2_0) lf (f49_0_c x478 x479 x480)) l0 n1 := by kernel_rfl
theorem f49_eq (c : Orc) (lf : Nat) (l0 : List T) (n1 : Int) : funK c env lf 6 fi49 [.sl l0, .i .i64 n1] = f49 c lf l0 n1 := by
  refine (f49_raw c lf l0 n1).trans ?_
  have e0 : (fun (x478 : Int) (x479 : Int) (x480 : List T) => lpK c env lf 6 fi49 2 2 [] [0, 1, 5] (x49_2_0) lf (f49_0_c x478 x479 x480)) = (fun (x478 : Int) (x479 : Int) (x480 : List T) => f49_0 c lf lf x478 x479 x480) := by funext x478 x479 x480; exact f49_0_eq c lf lf x478 x479 x480
  rw [e0]; rfl
/-- loop.example/g00285/laws.markPageS, the loop at region 2. -/
def f224_0_s (c : Orc) (lf : Nat) (L : Int → Int → List T → Option (List T)) (x489 : Int) (x490 : Int) (x491 : List T) : Option (List T) :=
  bif iLt x490 (x491.length : Int) then
    bif inR x490 x491.length then
    bif inR x490 ((x491.set x490.toNat (T.setc (x491.getD x490.toNat T.u) 0 (T.b ((x489.tmod 3) == 0)))).length) then
    (c 49 [T.sl (asL (T.cell ((x491.set x490.toNat (T.setc (x491.getD x490.toNat T.u) 0 (T.b ((x489.tmod 3) == 0)))).getD x490.toNat T.u) 1)), T.i .i64 (IntKind.wrap .i64 (x489 + 1))]).bind fun r492 =>
    L (asI (nth r492 0)) (IntKind.wrap .i64 (x490 + 1)) ((x491.set x490.toNat (T.setc (x491.getD x490.toNat T.u) 0 (T.b ((x489.tmod 3) == 0)))).set x490.toNat (T.setc ((x491.set x490.toNat (T.setc (x491.getD x490.toNat T.u) 0 (T.b ((x489.tmod 3) == 0)))).getD x490.toNat T.u) 1 (T.sl (asL (nth r492 1)))))
    else none
    else none
  else
    some [T.i .i64 0, T.i .i64 x489, T.sl x491]
def f224_0_c (x489 : Int) (x490 : Int) (x491 : List T) : CSt := ⟨[.rf 0 [] 0 none, .i .i64 x489, .i .i64 x490], [.row true [.b, .sl false [.i .u8]] x491 0 false, .dead]⟩
theorem f224_0_round (c : Orc) (lf : Nat) (L : CSt → Option (List T)) (x489 : Int) (x490 : Int) (x491 : List T) :
    roundK c env lf 6 fi224 2 2 [] [0, 1, 5] (x224_2_0) L (f224_0_c x489 x490 x491) = f224_0_s c lf (fun x489 x490 x491 => L (f224_0_c x489 x490 x491)) x489 x490 x491 := by kernel_rfl
def f224_0 (c : Orc) (lf : Nat) : Nat → Int → Int → List T → Option (List T)
  | 0 => fun _ _ _ => none
  | n + 1 => fun x489 x490 x491 => f224_0_s c lf (f224_0 c lf n) x489 x490 x491
theorem f224_0_u (c : Orc) (lf : Nat) (n : Nat) (x489 : Int) (x490 : Int) (x491 : List T) : f224_0 c lf (n + 1) x489 x490 x491 = f224_0_s c lf (f224_0 c lf n) x489 x490 x491 := rfl
theorem f224_0_eq (c : Orc) (lf : Nat) (n : Nat) (x489 : Int) (x490 : Int) (x491 : List T) :
    lpK c env lf 6 fi224 2 2 [] [0, 1, 5] (x224_2_0) n (f224_0_c x489 x490 x491) = f224_0 c lf n x489 x490 x491 := by
  induction n generalizing x489 x490 x491 with
  | zero => rfl
  | succ n ih =>
    refine (f224_0_round c lf _ x489 x490 x491).trans ?_
    have e : (fun x489 x490 x491 => lpK c env lf 6 fi224 2 2 [] [0, 1, 5] (x224_2_0) n (f224_0_c x489 x490 x491)) = f224_0 c lf n := by funext x489 x490 x491; exact ih x489 x490 x491
    show f224_0_s c lf (fun x489 x490 x491 => lpK c env lf 6 fi224 2 2 [] [0, 1, 5] (x224_2_0) n (f224_0_c x489 x490 x491)) x489 x490 x491 = _
    rw [e]; rfl
/-- loop.example/g00285/laws.markPageS -/
def f224_t (c : Orc) (lf : Nat) (lp0 : Int → Int → List T → Option (List T)) (l0 : List T) (n1 : Int) : Option (List T) :=
  (lp0 n1 0 l0).bind fun r493 =>
  some [T.i .i64 (asI (nth r493 1)), T.sl (asL (nth r493 2))]
def f224 (c : Orc) (lf : Nat) (l0 : List T) (n1 : Int) : Option (List T) := f224_t c lf (fun (x489 : Int) (x490 : Int) (x491 : List T) => f224_0 c lf lf x489 x490 x491) l0 n1
theorem f224_raw (c : Orc) (lf : Nat) (l0 : List T) (n1 : Int) : funK c env lf 6 fi224 [.sl l0, .i .i64 n1] = f224_t c lf (fun (x489 : Int) (x490 : Int) (x491 : List T) => lpK c env lf 6 fi224 2 2 [] [0, 1, 5] (x224_2_0) lf (f224_0_c x489 x490 x491)) l0 n1 := by kernel_rfl
theorem f224_eq (c : Orc) (lf : Nat) (l0 : List T) (n1 : Int) : funK c env lf 6 fi224 [.sl l0, .i .i64 n1] = f224 c lf l0 n1 := by
  refine (f224_raw c lf l0 n1).trans ?_
  have e0 : (fun (x489 : Int) (x490 : Int) (x491 : List T) => lpK c env lf 6 fi224 2 2 [] [0, 1, 5] (x224_2_0) lf (f224_0_c x489 x490 x491)) = (fun (x489 : Int) (x490 : Int) (x491 : List T) => f224_0 c lf lf x489 x490 x491) := by funext x489 x490 x491; exact f224_0_eq c lf lf x489 x490 x491
  rw [e0]; rfl
/-- loop.example/g00285/laws.markBlockS, the loop at region 2. -/
def f187_0_s (c : Orc) (lf : Nat) (L : Int → Int → List T → Option (List T)) (x501 : Int) (x502 : Int) (x503 : List T) : Option (List T) :=
  bif iLt x502 (x503.length : Int) then
    bif inR x502 x503.length then
    (c 224 [T.sl (asL (T.cell (x503.getD x502.toNat T.u) 0)), T.i .i64 x501]).bind fun r504 =>
    bif inR x502 ((x503.set x502.toNat (T.setc (x503.getD x502.toNat T.u) 0 (T.sl (asL (nth r504 1))))).length) then
    bif inR x502 (((x503.set x502.toNat (T.setc (x503.getD x502.toNat T.u) 0 (T.sl (asL (nth r504 1))))).set x502.toNat (T.setc ((x503.set x502.toNat (T.setc (x503.getD x502.toNat T.u) 0 (T.sl (asL (nth r504 1))))).getD x502.toNat T.u) 1 (T.i .i64 (asI (nth r504 0))))).length) then
    L (IntKind.wrap .i64 ((IntKind.wrap .i64 ((asI (nth r504 0)) + 1)) + 1)) (IntKind.wrap .i64 (x502 + 1)) (((x503.set x502.toNat (T.setc (x503.getD x502.toNat T.u) 0 (T.sl (asL (nth r504 1))))).set x502.toNat (T.setc ((x503.set x502.toNat (T.setc (x503.getD x502.toNat T.u) 0 (T.sl (asL (nth r504 1))))).getD x502.toNat T.u) 1 (T.i .i64 (asI (nth r504 0))))).set x502.toNat (T.setc (((x503.set x502.toNat (T.setc (x503.getD x502.toNat T.u) 0 (T.sl (asL (nth r504 1))))).set x502.toNat (T.setc ((x503.set x502.toNat (T.setc (x503.getD x502.toNat T.u) 0 (T.sl (asL (nth r504 1))))).getD x502.toNat T.u) 1 (T.i .i64 (asI (nth r504 0))))).getD x502.toNat T.u) 2 (T.b (((IntKind.wrap .i64 ((asI (nth r504 0)) + 1)).tmod 3) == 0))))
    else none
    else none
    else none
  else
    some [T.i .i64 0, T.i .i64 x501, T.sl x503]
def f187_0_c (x501 : Int) (x502 : Int) (x503 : List T) : CSt := ⟨[.rf 0 [] 0 none, .i .i64 x501, .i .i64 x502], [.row true [.sl true [.b, .sl false [.i .u8]], .i .i64, .b] x503 0 false, .dead]⟩
theorem f187_0_round (c : Orc) (lf : Nat) (L : CSt → Option (List T)) (x501 : Int) (x502 : Int) (x503 : List T) :
    roundK c env lf 6 fi187 2 2 [] [0, 1, 5] (x187_2_0) L (f187_0_c x501 x502 x503) = f187_0_s c lf (fun x501 x502 x503 => L (f187_0_c x501 x502 x503)) x501 x502 x503 := by kernel_rfl
def f187_0 (c : Orc) (lf : Nat) : Nat → Int → Int → List T → Option (List T)
  | 0 => fun _ _ _ => none
  | n + 1 => fun x501 x502 x503 => f187_0_s c lf (f187_0 c lf n) x501 x502 x503
theorem f187_0_u (c : Orc) (lf : Nat) (n : Nat) (x501 : Int) (x502 : Int) (x503 : List T) : f187_0 c lf (n + 1) x501 x502 x503 = f187_0_s c lf (f187_0 c lf n) x501 x502 x503 := rfl
theorem f187_0_eq (c : Orc) (lf : Nat) (n : Nat) (x501 : Int) (x502 : Int) (x503 : List T) :
    lpK c env lf 6 fi187 2 2 [] [0, 1, 5] (x187_2_0) n (f187_0_c x501 x502 x503) = f187_0 c lf n x501 x502 x503 := by
  induction n generalizing x501 x502 x503 with
  | zero => rfl
  | succ n ih =>
    refine (f187_0_round c lf _ x501 x502 x503).trans ?_
    have e : (fun x501 x502 x503 => lpK c env lf 6 fi187 2 2 [] [0, 1, 5] (x187_2_0) n (f187_0_c x501 x502 x503)) = f187_0 c lf n := by funext x501 x502 x503; exact ih x501 x502 x503
    show f187_0_s c lf (fun x501 x502 x503 => lpK c env lf 6 fi187 2 2 [] [0, 1, 5] (x187_2_0) n (f187_0_c x501 x502 x503)) x501 x502 x503 = _
    rw [e]; rfl
/-- loop.example/g00285/laws.markBlockS -/
def f187_t (c : Orc) (lf : Nat) (lp0 : Int → Int → List T → Option (List T)) (l0 : List T) (n1 : Int) : Option (List T) :=
  (lp0 n1 0 l0).bind fun r505 =>
  some [T.i .i64 (asI (nth r505 1)), T.sl (asL (nth r505 2))]
def f187 (c : Orc) (lf : Nat) (l0 : List T) (n1 : Int) : Option (List T) := f187_t c lf (fun (x501 : Int) (x502 : Int) (x503 : List T) => f187_0 c lf lf x501 x502 x503) l0 n1
theorem f187_raw (c : Orc) (lf : Nat) (l0 : List T) (n1 : Int) : funK c env lf 6 fi187 [.sl l0, .i .i64 n1] = f187_t c lf (fun (x501 : Int) (x502 : Int) (x503 : List T) => lpK c env lf 6 fi187 2 2 [] [0, 1, 5] (x187_2_0) lf (f187_0_c x501 x502 x503)) l0 n1 := by kernel_rfl
theorem f187_eq (c : Orc) (lf : Nat) (l0 : List T) (n1 : Int) : funK c env lf 6 fi187 [.sl l0, .i .i64 n1] = f187 c lf l0 n1 := by
  refine (f187_raw c lf l0 n1).trans ?_
  have e0 : (fun (x501 : Int) (x502 : Int) (x503 : List T) => lpK c env lf 6 fi187 2 2 [] [0, 1, 5] (x187_2_0) lf (f187_0_c x501 x502 x503)) = (fun (x501 : Int) (x502 : Int) (x503 : List T) => f187_0 c lf lf x501 x502 x503) := by funext x501 x502 x503; exact f187_0_eq c lf lf x501 x502 x503
  rw [e0]; rfl
/-- loop.example/g00285/laws.markChip -/
def f136_t (c : Orc) (lf : Nat) (l0_0 : List T) (n1 : Int) : Option (List T) :=
  (c 187 [T.sl l0_0, T.i .i64 n1]).bind fun r506 =>
  some [T.i .i64 (asI (nth r506 0)), T.sl (asL (nth r506 1))]
def f136 (c : Orc) (lf : Nat) (l0_0 : List T) (n1 : Int) : Option (List T) := f136_t c lf l0_0 n1
theorem f136_raw (c : Orc) (lf : Nat) (l0_0 : List T) (n1 : Int) : funK c env lf 6 fi136 [.st [.sl l0_0], .i .i64 n1] = f136_t c lf l0_0 n1 := by kernel_rfl
theorem f136_eq (c : Orc) (lf : Nat) (l0_0 : List T) (n1 : Int) : funK c env lf 6 fi136 [.st [.sl l0_0], .i .i64 n1] = f136 c lf l0_0 n1 := by
  refine (f136_raw c lf l0_0 n1).trans ?_
  rfl
/-- loop.example/g00285/laws.markFaultS, the loop at region 2. -/
def f137_0_s (c : Orc) (lf : Nat) (L : Int → Int → List T → Option (List T)) (x511 : Int) (x512 : Int) (x513 : List T) : Option (List T) :=
  bif iLt x512 (x513.length : Int) then
    bif inR x512 x513.length then
    bif inR x512 ((x513.set x512.toNat (T.setc (x513.getD x512.toNat T.u) 0 (T.i .i64 x511))).length) then
    bif inR x512 (((x513.set x512.toNat (T.setc (x513.getD x512.toNat T.u) 0 (T.i .i64 x511))).set x512.toNat (T.setc ((x513.set x512.toNat (T.setc (x513.getD x512.toNat T.u) 0 (T.i .i64 x511))).getD x512.toNat T.u) 1 (T.i .i64 (IntKind.wrap .i64 (x511 + 1))))).length) then
    L (IntKind.wrap .i64 ((IntKind.wrap .i64 ((IntKind.wrap .i64 (x511 + 1)) + 1)) + 1)) (IntKind.wrap .i64 (x512 + 1)) (((x513.set x512.toNat (T.setc (x513.getD x512.toNat T.u) 0 (T.i .i64 x511))).set x512.toNat (T.setc ((x513.set x512.toNat (T.setc (x513.getD x512.toNat T.u) 0 (T.i .i64 x511))).getD x512.toNat T.u) 1 (T.i .i64 (IntKind.wrap .i64 (x511 + 1))))).set x512.toNat (T.setc (((x513.set x512.toNat (T.setc (x513.getD x512.toNat T.u) 0 (T.i .i64 x511))).set x512.toNat (T.setc ((x513.set x512.toNat (T.setc (x513.getD x512.toNat T.u) 0 (T.i .i64 x511))).getD x512.toNat T.u) 1 (T.i .i64 (IntKind.wrap .i64 (x511 + 1))))).getD x512.toNat T.u) 2 (T.i .i64 (IntKind.wrap .i64 ((IntKind.wrap .i64 (x511 + 1)) + 1)))))
    else none
    else none
    else none
  else
    some [T.i .i64 0, T.i .i64 x511, T.sl x513]
def f137_0_c (x511 : Int) (x512 : Int) (x513 : List T) : CSt := ⟨[.rf 0 [] 0 none, .i .i64 x511, .i .i64 x512], [.row true [.i .i64, .i .i64, .i .i64] x513 0 false, .dead]⟩
theorem f137_0_round (c : Orc) (lf : Nat) (L : CSt → Option (List T)) (x511 : Int) (x512 : Int) (x513 : List T) :
    roundK c env lf 6 fi137 2 2 [] [0, 1, 5] (x137_2_0) L (f137_0_c x511 x512 x513) = f137_0_s c lf (fun x511 x512 x513 => L (f137_0_c x511 x512 x513)) x511 x512 x513 := by kernel_rfl
def f137_0 (c : Orc) (lf : Nat) : Nat → Int → Int → List T → Option (List T)
  | 0 => fun _ _ _ => none
  | n + 1 => fun x511 x512 x513 => f137_0_s c lf (f137_0 c lf n) x511 x512 x513
theorem f137_0_u (c : Orc) (lf : Nat) (n : Nat) (x511 : Int) (x512 : Int) (x513 : List T) : f137_0 c lf (n + 1) x511 x512 x513 = f137_0_s c lf (f137_0 c lf n) x511 x512 x513 := rfl
theorem f137_0_eq (c : Orc) (lf : Nat) (n : Nat) (x511 : Int) (x512 : Int) (x513 : List T) :
    lpK c env lf 6 fi137 2 2 [] [0, 1, 5] (x137_2_0) n (f137_0_c x511 x512 x513) = f137_0 c lf n x511 x512 x513 := by
  induction n generalizing x511 x512 x513 with
  | zero => rfl
  | succ n ih =>
    refine (f137_0_round c lf _ x511 x512 x513).trans ?_
    have e : (fun x511 x512 x513 => lpK c env lf 6 fi137 2 2 [] [0, 1, 5] (x137_2_0) n (f137_0_c x511 x512 x513)) = f137_0 c lf n := by funext x511 x512 x513; exact ih x511 x512 x513
    show f137_0_s c lf (fun x511 x512 x513 => lpK c env lf 6 fi137 2 2 [] [0, 1, 5] (x137_2_0) n (f137_0_c x511 x512 x513)) x511 x512 x513 = _
    rw [e]; rfl
/-- loop.example/g00285/laws.markFaultS -/
def f137_t (c : Orc) (lf : Nat) (lp0 : Int → Int → List T → Option (List T)) (l0 : List T) (n1 : Int) : Option (List T) :=
  (lp0 n1 0 l0).bind fun r514 =>
  some [T.i .i64 (asI (nth r514 1)), T.sl (asL (nth r514 2))]
def f137 (c : Orc) (lf : Nat) (l0 : List T) (n1 : Int) : Option (List T) := f137_t c lf (fun (x511 : Int) (x512 : Int) (x513 : List T) => f137_0 c lf lf x511 x512 x513) l0 n1
theorem f137_raw (c : Orc) (lf : Nat) (l0 : List T) (n1 : Int) : funK c env lf 6 fi137 [.sl l0, .i .i64 n1] = f137_t c lf (fun (x511 : Int) (x512 : Int) (x513 : List T) => lpK c env lf 6 fi137 2 2 [] [0, 1, 5] (x137_2_0) lf (f137_0_c x511 x512 x513)) l0 n1 := by kernel_rfl
theorem f137_eq (c : Orc) (lf : Nat) (l0 : List T) (n1 : Int) : funK c env lf 6 fi137 [.sl l0, .i .i64 n1] = f137 c lf l0 n1 := by
  refine (f137_raw c lf l0 n1).trans ?_
  have e0 : (fun (x511 : Int) (x512 : Int) (x513 : List T) => lpK c env lf 6 fi137 2 2 [] [0, 1, 5] (x137_2_0) lf (f137_0_c x511 x512 x513)) = (fun (x511 : Int) (x512 : Int) (x513 : List T) => f137_0 c lf lf x511 x512 x513) := by funext x511 x512 x513; exact f137_0_eq c lf lf x511 x512 x513
  rw [e0]; rfl
/-- loop.example/g00285/laws.markDev -/
def f82_t (c : Orc) (lf : Nat) (l0_0 : List T) (n0_1 : Int) (l0_2 : List T) (b0_3 : Bool) (n1 : Int) : Option (List T) :=
  (c 136 [T.st [T.sl l0_0], T.i .i64 n1]).bind fun r515 =>
  (c 137 [T.sl l0_2, T.i .i64 (asI (nth r515 0))]).bind fun r516 =>
  some [T.i .i64 (asI (nth r516 0)), T.sl (asL (nth r515 1)), T.sl (asL (nth r516 1))]
def f82 (c : Orc) (lf : Nat) (l0_0 : List T) (n0_1 : Int) (l0_2 : List T) (b0_3 : Bool) (n1 : Int) : Option (List T) := f82_t c lf l0_0 n0_1 l0_2 b0_3 n1
theorem f82_raw (c : Orc) (lf : Nat) (l0_0 : List T) (n0_1 : Int) (l0_2 : List T) (b0_3 : Bool) (n1 : Int) : funK c env lf 6 fi82 [.st [.sl l0_0, .i .i64 n0_1, .sl l0_2, .b b0_3], .i .i64 n1] = f82_t c lf l0_0 n0_1 l0_2 b0_3 n1 := by kernel_rfl
theorem f82_eq (c : Orc) (lf : Nat) (l0_0 : List T) (n0_1 : Int) (l0_2 : List T) (b0_3 : Bool) (n1 : Int) : funK c env lf 6 fi82 [.st [.sl l0_0, .i .i64 n0_1, .sl l0_2, .b b0_3], .i .i64 n1] = f82 c lf l0_0 n0_1 l0_2 b0_3 n1 := by
  refine (f82_raw c lf l0_0 n0_1 l0_2 b0_3 n1).trans ?_
  rfl
/-- loop.example/g00285/laws.markLog -/
def f26_t (c : Orc) (lf : Nat) (l0_0 : List T) (n0_1 : Int) (l0_2 : List T) (b0_3 : Bool) (n0_4 : Int) (n1 : Int) : Option (List T) :=
  (c 82 [T.st [T.sl l0_0, T.i .i64 n0_1, T.sl l0_2, T.b b0_3], T.i .i64 n1]).bind fun r517 =>
  some [T.i .i64 (asI (nth r517 0)), T.sl (asL (nth r517 1)), T.sl (asL (nth r517 2))]
def f26 (c : Orc) (lf : Nat) (l0_0 : List T) (n0_1 : Int) (l0_2 : List T) (b0_3 : Bool) (n0_4 : Int) (n1 : Int) : Option (List T) := f26_t c lf l0_0 n0_1 l0_2 b0_3 n0_4 n1
theorem f26_raw (c : Orc) (lf : Nat) (l0_0 : List T) (n0_1 : Int) (l0_2 : List T) (b0_3 : Bool) (n0_4 : Int) (n1 : Int) : funK c env lf 6 fi26 [.st [.sl l0_0, .i .i64 n0_1, .sl l0_2, .b b0_3, .i .i64 n0_4], .i .i64 n1] = f26_t c lf l0_0 n0_1 l0_2 b0_3 n0_4 n1 := by kernel_rfl
theorem f26_eq (c : Orc) (lf : Nat) (l0_0 : List T) (n0_1 : Int) (l0_2 : List T) (b0_3 : Bool) (n0_4 : Int) (n1 : Int) : funK c env lf 6 fi26 [.st [.sl l0_0, .i .i64 n0_1, .sl l0_2, .b b0_3, .i .i64 n0_4], .i .i64 n1] = f26 c lf l0_0 n0_1 l0_2 b0_3 n0_4 n1 := by
  refine (f26_raw c lf l0_0 n0_1 l0_2 b0_3 n0_4 n1).trans ?_
  rfl
/-- loop.example/g00285/laws.heldByteS, the loop at region 2. -/
def f83_0_s (c : Orc) (lf : Nat) (l0 : List T) (L : Int → Int → Option (List T)) (x521 : Int) (x522 : Int) : Option (List T) :=
  bif iLt x522 (l0.length : Int) then
    bif inR x522 l0.length then
    bif (asI (l0.getD x522.toNat T.u)) != (IntKind.wrap .u8 x521) then
      some [T.i .i64 0, T.i .i64 (-1)]
    else
      L (IntKind.wrap .i64 (x521 + 1)) (IntKind.wrap .i64 (x522 + 1))
    else none
  else
    some [T.i .i64 1, T.i .i64 x521]
def f83_0_c (l0 : List T) (x521 : Int) (x522 : Int) : CSt := ⟨[.ro 0 false [.i .u8] l0, .i .i64 x521, .i .i64 x522], [.dead, .dead]⟩
theorem f83_0_round (c : Orc) (lf : Nat) (l0 : List T) (L : CSt → Option (List T)) (x521 : Int) (x522 : Int) :
    roundK c env lf 6 fi83 2 2 [] [0, 1, 5] (x83_2_0) L (f83_0_c l0 x521 x522) = f83_0_s c lf l0 (fun x521 x522 => L (f83_0_c l0 x521 x522)) x521 x522 := by kernel_rfl
def f83_0 (c : Orc) (lf : Nat) (l0 : List T) : Nat → Int → Int → Option (List T)
  | 0 => fun _ _ => none
  | n + 1 => fun x521 x522 => f83_0_s c lf l0 (f83_0 c lf l0 n) x521 x522
theorem f83_0_u (c : Orc) (lf : Nat) (l0 : List T) (n : Nat) (x521 : Int) (x522 : Int) : f83_0 c lf l0 (n + 1) x521 x522 = f83_0_s c lf l0 (f83_0 c lf l0 n) x521 x522 := rfl
theorem f83_0_eq (c : Orc) (lf : Nat) (l0 : List T) (n : Nat) (x521 : Int) (x522 : Int) :
    lpK c env lf 6 fi83 2 2 [] [0, 1, 5] (x83_2_0) n (f83_0_c l0 x521 x522) = f83_0 c lf l0 n x521 x522 := by
  induction n generalizing x521 x522 with
  | zero => rfl
  | succ n ih =>
    refine (f83_0_round c lf l0 _ x521 x522).trans ?_
    have e : (fun x521 x522 => lpK c env lf 6 fi83 2 2 [] [0, 1, 5] (x83_2_0) n (f83_0_c l0 x521 x522)) = f83_0 c lf l0 n := by funext x521 x522; exact ih x521 x522
    show f83_0_s c lf l0 (fun x521 x522 => lpK c env lf 6 fi83 2 2 [] [0, 1, 5] (x83_2_0) n (f83_0_c l0 x521 x522)) x521 x522 = _
    rw [e]; rfl
/-- loop.example/g00285/laws.heldByteS -/
def f83_t (c : Orc) (lf : Nat) (lp0 : List T → Int → Int → Option (List T)) (l0 : List T) (n1 : Int) : Option (List T) :=
  (lp0 l0 n1 0).bind fun r523 =>
  bif asI (nth r523 0) == 0 then
    some [T.i .i64 (asI (nth r523 1))]
  else
    some [T.i .i64 (asI (nth r523 1))]
def f83 (c : Orc) (lf : Nat) (l0 : List T) (n1 : Int) : Option (List T) := f83_t c lf (fun (l0 : List T) (x521 : Int) (x522 : Int) => f83_0 c lf l0 lf x521 x522) l0 n1
theorem f83_raw (c : Orc) (lf : Nat) (l0 : List T) (n1 : Int) : funK c env lf 6 fi83 [.sl l0, .i .i64 n1] = f83_t c lf (fun (l0 : List T) (x521 : Int) (x522 : Int) => lpK c env lf 6 fi83 2 2 [] [0, 1, 5] (x83_2_0) lf (f83_0_c l0 x521 x522)) l0 n1 := by kernel_rfl
theorem f83_eq (c : Orc) (lf : Nat) (l0 : List T) (n1 : Int) : funK c env lf 6 fi83 [.sl l0, .i .i64 n1] = f83 c lf l0 n1 := by
  refine (f83_raw c lf l0 n1).trans ?_
  have e0 : (fun (l0 : List T) (x521 : Int) (x522 : Int) => lpK c env lf 6 fi83 2 2 [] [0, 1, 5] (x83_2_0) lf (f83_0_c l0 x521 x522)) = (fun (l0 : List T) (x521 : Int) (x522 : Int) => f83_0 c lf l0 lf x521 x522) := by funext l0 x521 x522; exact f83_0_eq c lf l0 lf x521 x522
  rw [e0]; rfl
/-- loop.example/g00285/laws.heldPageS, the loop at region 2. -/
def f230_0_s (c : Orc) (lf : Nat) (l0 : List T) (L : Int → Int → Option (List T)) (x530 : Int) (x531 : Int) : Option (List T) :=
  bif iLt x531 (l0.length : Int) then
    bif inR x531 l0.length then
    bif !((asB (T.cell (l0.getD x531.toNat T.u) 0)) == ((x530.tmod 3) == 0)) then
      some [T.i .i64 0, T.i .i64 (-1)]
    else
      bif inR x531 l0.length then
      (c 83 [T.sl (asL (T.cell (l0.getD x531.toNat T.u) 1)), T.i .i64 (IntKind.wrap .i64 (x530 + 1))]).bind fun r532 =>
      bif iLt (asI (nth r532 0)) 0 then
        some [T.i .i64 0, T.i .i64 (-1)]
      else
        L (asI (nth r532 0)) (IntKind.wrap .i64 (x531 + 1))
      else none
    else none
  else
    some [T.i .i64 1, T.i .i64 x530]
def f230_0_c (l0 : List T) (x530 : Int) (x531 : Int) : CSt := ⟨[.ro 0 true [.b, .sl false [.i .u8]] l0, .i .i64 x530, .i .i64 x531], [.dead, .dead]⟩
theorem f230_0_round (c : Orc) (lf : Nat) (l0 : List T) (L : CSt → Option (List T)) (x530 : Int) (x531 : Int) :
    roundK c env lf 6 fi230 2 2 [] [0, 1, 5] (x230_2_0) L (f230_0_c l0 x530 x531) = f230_0_s c lf l0 (fun x530 x531 => L (f230_0_c l0 x530 x531)) x530 x531 := by kernel_rfl
def f230_0 (c : Orc) (lf : Nat) (l0 : List T) : Nat → Int → Int → Option (List T)
  | 0 => fun _ _ => none
  | n + 1 => fun x530 x531 => f230_0_s c lf l0 (f230_0 c lf l0 n) x530 x531
theorem f230_0_u (c : Orc) (lf : Nat) (l0 : List T) (n : Nat) (x530 : Int) (x531 : Int) : f230_0 c lf l0 (n + 1) x530 x531 = f230_0_s c lf l0 (f230_0 c lf l0 n) x530 x531 := rfl
theorem f230_0_eq (c : Orc) (lf : Nat) (l0 : List T) (n : Nat) (x530 : Int) (x531 : Int) :
    lpK c env lf 6 fi230 2 2 [] [0, 1, 5] (x230_2_0) n (f230_0_c l0 x530 x531) = f230_0 c lf l0 n x530 x531 := by
  induction n generalizing x530 x531 with
  | zero => rfl
  | succ n ih =>
    refine (f230_0_round c lf l0 _ x530 x531).trans ?_
    have e : (fun x530 x531 => lpK c env lf 6 fi230 2 2 [] [0, 1, 5] (x230_2_0) n (f230_0_c l0 x530 x531)) = f230_0 c lf l0 n := by funext x530 x531; exact ih x530 x531
    show f230_0_s c lf l0 (fun x530 x531 => lpK c env lf 6 fi230 2 2 [] [0, 1, 5] (x230_2_0) n (f230_0_c l0 x530 x531)) x530 x531 = _
    rw [e]; rfl
/-- loop.example/g00285/laws.heldPageS -/
def f230_t (c : Orc) (lf : Nat) (lp0 : List T → Int → Int → Option (List T)) (l0 : List T) (n1 : Int) : Option (List T) :=
  (lp0 l0 n1 0).bind fun r533 =>
  bif asI (nth r533 0) == 0 then
    some [T.i .i64 (asI (nth r533 1))]
  else
    some [T.i .i64 (asI (nth r533 1))]
def f230 (c : Orc) (lf : Nat) (l0 : List T) (n1 : Int) : Option (List T) := f230_t c lf (fun (l0 : List T) (x530 : Int) (x531 : Int) => f230_0 c lf l0 lf x530 x531) l0 n1
theorem f230_raw (c : Orc) (lf : Nat) (l0 : List T) (n1 : Int) : funK c env lf 6 fi230 [.sl l0, .i .i64 n1] = f230_t c lf (fun (l0 : List T) (x530 : Int) (x531 : Int) => lpK c env lf 6 fi230 2 2 [] [0, 1, 5] (x230_2_0) lf (f230_0_c l0 x530 x531)) l0 n1 := by kernel_rfl
theorem f230_eq (c : Orc) (lf : Nat) (l0 : List T) (n1 : Int) : funK c env lf 6 fi230 [.sl l0, .i .i64 n1] = f230 c lf l0 n1 := by
  refine (f230_raw c lf l0 n1).trans ?_
  have e0 : (fun (l0 : List T) (x530 : Int) (x531 : Int) => lpK c env lf 6 fi230 2 2 [] [0, 1, 5] (x230_2_0) lf (f230_0_c l0 x530 x531)) = (fun (l0 : List T) (x530 : Int) (x531 : Int) => f230_0 c lf l0 lf x530 x531) := by funext l0 x530 x531; exact f230_0_eq c lf l0 lf x530 x531
  rw [e0]; rfl
/-- loop.example/g00285/laws.heldBlockS, the loop at region 2. -/
def f203_0_s (c : Orc) (lf : Nat) (l0 : List T) (L : Int → Int → Option (List T)) (x540 : Int) (x541 : Int) : Option (List T) :=
  bif iLt x541 (l0.length : Int) then
    bif inR x541 l0.length then
    (c 230 [T.sl (asL (T.cell (l0.getD x541.toNat T.u) 0)), T.i .i64 x540]).bind fun r542 =>
    bif iLt (asI (nth r542 0)) 0 then
      some [T.i .i64 0, T.i .i64 (-1)]
    else
      bif inR x541 l0.length then
      bif (asI (T.cell (l0.getD x541.toNat T.u) 1)) != (asI (nth r542 0)) then
        some [T.i .i64 0, T.i .i64 (-1)]
      else
        bif inR x541 l0.length then
        bif !((asB (T.cell (l0.getD x541.toNat T.u) 2)) == (((IntKind.wrap .i64 ((asI (nth r542 0)) + 1)).tmod 3) == 0)) then
          some [T.i .i64 0, T.i .i64 (-1)]
        else
          L (IntKind.wrap .i64 ((IntKind.wrap .i64 ((asI (nth r542 0)) + 1)) + 1)) (IntKind.wrap .i64 (x541 + 1))
        else none
      else none
    else none
  else
    some [T.i .i64 1, T.i .i64 x540]
def f203_0_c (l0 : List T) (x540 : Int) (x541 : Int) : CSt := ⟨[.ro 0 true [.sl true [.b, .sl false [.i .u8]], .i .i64, .b] l0, .i .i64 x540, .i .i64 x541], [.dead, .dead]⟩
theorem f203_0_round (c : Orc) (lf : Nat) (l0 : List T) (L : CSt → Option (List T)) (x540 : Int) (x541 : Int) :
    roundK c env lf 6 fi203 2 2 [] [0, 1, 5] (x203_2_0) L (f203_0_c l0 x540 x541) = f203_0_s c lf l0 (fun x540 x541 => L (f203_0_c l0 x540 x541)) x540 x541 := by kernel_rfl
def f203_0 (c : Orc) (lf : Nat) (l0 : List T) : Nat → Int → Int → Option (List T)
  | 0 => fun _ _ => none
  | n + 1 => fun x540 x541 => f203_0_s c lf l0 (f203_0 c lf l0 n) x540 x541
theorem f203_0_u (c : Orc) (lf : Nat) (l0 : List T) (n : Nat) (x540 : Int) (x541 : Int) : f203_0 c lf l0 (n + 1) x540 x541 = f203_0_s c lf l0 (f203_0 c lf l0 n) x540 x541 := rfl
theorem f203_0_eq (c : Orc) (lf : Nat) (l0 : List T) (n : Nat) (x540 : Int) (x541 : Int) :
    lpK c env lf 6 fi203 2 2 [] [0, 1, 5] (x203_2_0) n (f203_0_c l0 x540 x541) = f203_0 c lf l0 n x540 x541 := by
  induction n generalizing x540 x541 with
  | zero => rfl
  | succ n ih =>
    refine (f203_0_round c lf l0 _ x540 x541).trans ?_
    have e : (fun x540 x541 => lpK c env lf 6 fi203 2 2 [] [0, 1, 5] (x203_2_0) n (f203_0_c l0 x540 x541)) = f203_0 c lf l0 n := by funext x540 x541; exact ih x540 x541
    show f203_0_s c lf l0 (fun x540 x541 => lpK c env lf 6 fi203 2 2 [] [0, 1, 5] (x203_2_0) n (f203_0_c l0 x540 x541)) x540 x541 = _
    rw [e]; rfl
/-- loop.example/g00285/laws.heldBlockS -/
def f203_t (c : Orc) (lf : Nat) (lp0 : List T → Int → Int → Option (List T)) (l0 : List T) (n1 : Int) : Option (List T) :=
  (lp0 l0 n1 0).bind fun r543 =>
  bif asI (nth r543 0) == 0 then
    some [T.i .i64 (asI (nth r543 1))]
  else
    some [T.i .i64 (asI (nth r543 1))]
def f203 (c : Orc) (lf : Nat) (l0 : List T) (n1 : Int) : Option (List T) := f203_t c lf (fun (l0 : List T) (x540 : Int) (x541 : Int) => f203_0 c lf l0 lf x540 x541) l0 n1
theorem f203_raw (c : Orc) (lf : Nat) (l0 : List T) (n1 : Int) : funK c env lf 6 fi203 [.sl l0, .i .i64 n1] = f203_t c lf (fun (l0 : List T) (x540 : Int) (x541 : Int) => lpK c env lf 6 fi203 2 2 [] [0, 1, 5] (x203_2_0) lf (f203_0_c l0 x540 x541)) l0 n1 := by kernel_rfl
theorem f203_eq (c : Orc) (lf : Nat) (l0 : List T) (n1 : Int) : funK c env lf 6 fi203 [.sl l0, .i .i64 n1] = f203 c lf l0 n1 := by
  refine (f203_raw c lf l0 n1).trans ?_
  have e0 : (fun (l0 : List T) (x540 : Int) (x541 : Int) => lpK c env lf 6 fi203 2 2 [] [0, 1, 5] (x203_2_0) lf (f203_0_c l0 x540 x541)) = (fun (l0 : List T) (x540 : Int) (x541 : Int) => f203_0 c lf l0 lf x540 x541) := by funext l0 x540 x541; exact f203_0_eq c lf l0 lf x540 x541
  rw [e0]; rfl
/-- loop.example/g00285/laws.heldChip -/
def f157_t (c : Orc) (lf : Nat) (l0_0 : List T) (n1 : Int) : Option (List T) :=
  (c 203 [T.sl l0_0, T.i .i64 n1]).bind fun r544 =>
  bif iLt (asI (nth r544 0)) 0 then
    some [T.i .i64 (-1)]
  else
    some [T.i .i64 (asI (nth r544 0))]
def f157 (c : Orc) (lf : Nat) (l0_0 : List T) (n1 : Int) : Option (List T) := f157_t c lf l0_0 n1
theorem f157_raw (c : Orc) (lf : Nat) (l0_0 : List T) (n1 : Int) : funK c env lf 6 fi157 [.st [.sl l0_0], .i .i64 n1] = f157_t c lf l0_0 n1 := by kernel_rfl
theorem f157_eq (c : Orc) (lf : Nat) (l0_0 : List T) (n1 : Int) : funK c env lf 6 fi157 [.st [.sl l0_0], .i .i64 n1] = f157 c lf l0_0 n1 := by
  refine (f157_raw c lf l0_0 n1).trans ?_
  rfl
/-- loop.example/g00285/laws.heldFaultS, the loop at region 2. -/
def f158_0_s (c : Orc) (lf : Nat) (l0 : List T) (L : Int → Int → Option (List T)) (x548 : Int) (x549 : Int) : Option (List T) :=
  bif iLt x549 (l0.length : Int) then
    bif inR x549 l0.length then
    bif (asI (T.cell (l0.getD x549.toNat T.u) 0)) != x548 then
      some [T.i .i64 0, T.i .i64 (-1)]
    else
      bif inR x549 l0.length then
      bif (asI (T.cell (l0.getD x549.toNat T.u) 1)) != (IntKind.wrap .i64 (x548 + 1)) then
        some [T.i .i64 0, T.i .i64 (-1)]
      else
        bif inR x549 l0.length then
        bif (asI (T.cell (l0.getD x549.toNat T.u) 2)) != (IntKind.wrap .i64 ((IntKind.wrap .i64 (x548 + 1)) + 1)) then
          some [T.i .i64 0, T.i .i64 (-1)]
        else
          L (IntKind.wrap .i64 ((IntKind.wrap .i64 ((IntKind.wrap .i64 (x548 + 1)) + 1)) + 1)) (IntKind.wrap .i64 (x549 + 1))
        else none
      else none
    else none
  else
    some [T.i .i64 1, T.i .i64 x548]
def f158_0_c (l0 : List T) (x548 : Int) (x549 : Int) : CSt := ⟨[.ro 0 true [.i .i64, .i .i64, .i .i64] l0, .i .i64 x548, .i .i64 x549], [.dead, .dead]⟩
theorem f158_0_round (c : Orc) (lf : Nat) (l0 : List T) (L : CSt → Option (List T)) (x548 : Int) (x549 : Int) :
    roundK c env lf 6 fi158 2 2 [] [0, 1, 5] (x158_2_0) L (f158_0_c l0 x548 x549) = f158_0_s c lf l0 (fun x548 x549 => L (f158_0_c l0 x548 x549)) x548 x549 := by kernel_rfl
def f158_0 (c : Orc) (lf : Nat) (l0 : List T) : Nat → Int → Int → Option (List T)
  | 0 => fun _ _ => none
  | n + 1 => fun x548 x549 => f158_0_s c lf l0 (f158_0 c lf l0 n) x548 x549
theorem f158_0_u (c : Orc) (lf : Nat) (l0 : List T) (n : Nat) (x548 : Int) (x549 : Int) : f158_0 c lf l0 (n + 1) x548 x549 = f158_0_s c lf l0 (f158_0 c lf l0 n) x548 x549 := rfl
theorem f158_0_eq (c : Orc) (lf : Nat) (l0 : List T) (n : Nat) (x548 : Int) (x549 : Int) :
    lpK c env lf 6 fi158 2 2 [] [0, 1, 5] (x158_2_0) n (f158_0_c l0 x548 x549) = f158_0 c lf l0 n x548 x549 := by
  induction n generalizing x548 x549 with
  | zero => rfl
  | succ n ih =>
    refine (f158_0_round c lf l0 _ x548 x549).trans ?_
    have e : (fun x548 x549 => lpK c env lf 6 fi158 2 2 [] [0, 1, 5] (x158_2_0) n (f158_0_c l0 x548 x549)) = f158_0 c lf l0 n := by funext x548 x549; exact ih x548 x549
    show f158_0_s c lf l0 (fun x548 x549 => lpK c env lf 6 fi158 2 2 [] [0, 1, 5] (x158_2_0) n (f158_0_c l0 x548 x549)) x548 x549 = _
    rw [e]; rfl
/-- loop.example/g00285/laws.heldFaultS -/
def f158_t (c : Orc) (lf : Nat) (lp0 : List T → Int → Int → Option (List T)) (l0 : List T) (n1 : Int) : Option (List T) :=
  (lp0 l0 n1 0).bind fun r550 =>
  bif asI (nth r550 0) == 0 then
    some [T.i .i64 (asI (nth r550 1))]
  else
    some [T.i .i64 (asI (nth r550 1))]
def f158 (c : Orc) (lf : Nat) (l0 : List T) (n1 : Int) : Option (List T) := f158_t c lf (fun (l0 : List T) (x548 : Int) (x549 : Int) => f158_0 c lf l0 lf x548 x549) l0 n1
theorem f158_raw (c : Orc) (lf : Nat) (l0 : List T) (n1 : Int) : funK c env lf 6 fi158 [.sl l0, .i .i64 n1] = f158_t c lf (fun (l0 : List T) (x548 : Int) (x549 : Int) => lpK c env lf 6 fi158 2 2 [] [0, 1, 5] (x158_2_0) lf (f158_0_c l0 x548 x549)) l0 n1 := by kernel_rfl
theorem f158_eq (c : Orc) (lf : Nat) (l0 : List T) (n1 : Int) : funK c env lf 6 fi158 [.sl l0, .i .i64 n1] = f158 c lf l0 n1 := by
  refine (f158_raw c lf l0 n1).trans ?_
  have e0 : (fun (l0 : List T) (x548 : Int) (x549 : Int) => lpK c env lf 6 fi158 2 2 [] [0, 1, 5] (x158_2_0) lf (f158_0_c l0 x548 x549)) = (fun (l0 : List T) (x548 : Int) (x549 : Int) => f158_0 c lf l0 lf x548 x549) := by funext l0 x548 x549; exact f158_0_eq c lf l0 lf x548 x549
  rw [e0]; rfl
/-- loop.example/g00285/laws.heldDev -/
def f105_t (c : Orc) (lf : Nat) (l0_0 : List T) (n0_1 : Int) (l0_2 : List T) (b0_3 : Bool) (n1 : Int) : Option (List T) :=
  (c 157 [T.st [T.sl l0_0], T.i .i64 n1]).bind fun r551 =>
  bif iLt (asI (nth r551 0)) 0 then
    some [T.i .i64 (-1)]
  else
    (c 158 [T.sl l0_2, T.i .i64 (asI (nth r551 0))]).bind fun r552 =>
    bif iLt (asI (nth r552 0)) 0 then
      some [T.i .i64 (-1)]
    else
      some [T.i .i64 (asI (nth r552 0))]
def f105 (c : Orc) (lf : Nat) (l0_0 : List T) (n0_1 : Int) (l0_2 : List T) (b0_3 : Bool) (n1 : Int) : Option (List T) := f105_t c lf l0_0 n0_1 l0_2 b0_3 n1
theorem f105_raw (c : Orc) (lf : Nat) (l0_0 : List T) (n0_1 : Int) (l0_2 : List T) (b0_3 : Bool) (n1 : Int) : funK c env lf 6 fi105 [.st [.sl l0_0, .i .i64 n0_1, .sl l0_2, .b b0_3], .i .i64 n1] = f105_t c lf l0_0 n0_1 l0_2 b0_3 n1 := by kernel_rfl
theorem f105_eq (c : Orc) (lf : Nat) (l0_0 : List T) (n0_1 : Int) (l0_2 : List T) (b0_3 : Bool) (n1 : Int) : funK c env lf 6 fi105 [.st [.sl l0_0, .i .i64 n0_1, .sl l0_2, .b b0_3], .i .i64 n1] = f105 c lf l0_0 n0_1 l0_2 b0_3 n1 := by
  refine (f105_raw c lf l0_0 n0_1 l0_2 b0_3 n1).trans ?_
  rfl
/-- loop.example/g00285/laws.heldLog -/
def f50_t (c : Orc) (lf : Nat) (l0_0 : List T) (n0_1 : Int) (l0_2 : List T) (b0_3 : Bool) (n0_4 : Int) (n1 : Int) : Option (List T) :=
  (c 105 [T.st [T.sl l0_0, T.i .i64 n0_1, T.sl l0_2, T.b b0_3], T.i .i64 n1]).bind fun r553 =>
  bif iLt (asI (nth r553 0)) 0 then
    some [T.i .i64 (-1)]
  else
    some [T.i .i64 (asI (nth r553 0))]
def f50 (c : Orc) (lf : Nat) (l0_0 : List T) (n0_1 : Int) (l0_2 : List T) (b0_3 : Bool) (n0_4 : Int) (n1 : Int) : Option (List T) := f50_t c lf l0_0 n0_1 l0_2 b0_3 n0_4 n1
theorem f50_raw (c : Orc) (lf : Nat) (l0_0 : List T) (n0_1 : Int) (l0_2 : List T) (b0_3 : Bool) (n0_4 : Int) (n1 : Int) : funK c env lf 6 fi50 [.st [.sl l0_0, .i .i64 n0_1, .sl l0_2, .b b0_3, .i .i64 n0_4], .i .i64 n1] = f50_t c lf l0_0 n0_1 l0_2 b0_3 n0_4 n1 := by kernel_rfl
theorem f50_eq (c : Orc) (lf : Nat) (l0_0 : List T) (n0_1 : Int) (l0_2 : List T) (b0_3 : Bool) (n0_4 : Int) (n1 : Int) : funK c env lf 6 fi50 [.st [.sl l0_0, .i .i64 n0_1, .sl l0_2, .b b0_3, .i .i64 n0_4], .i .i64 n1] = f50 c lf l0_0 n0_1 l0_2 b0_3 n0_4 n1 := by
  refine (f50_raw c lf l0_0 n0_1 l0_2 b0_3 n0_4 n1).trans ?_
  rfl
/-- loop.example/g00285/laws.FnExactWrite -/
def f10_t (c : Orc) (lf : Nat) (l0_0 : List T) (n0_1 : Int) (l0_2 : List T) (b0_3 : Bool) (n0_4 : Int) (n1 : Int) (l2 : List T) (n3 : Int) : Option (List T) :=
  bif iLt 1048576 (l2.length : Int) then
    some [T.b true]
  else
    (c 18 [T.st [T.sl l0_0, T.i .i64 n0_1, T.sl l0_2, T.b b0_3, T.i .i64 n0_4], T.i .i64 1048576]).bind fun r554 =>
    bif iLt (asI (nth r554 0)) 0 then
      some [T.b true]
    else
      (c 20 [T.st [T.sl l0_0, T.i .i64 n0_1, T.sl l0_2, T.b b0_3, T.i .i64 n0_4]]).bind fun r555 =>
      (c 47 [T.sl l2]).bind fun r556 =>
      (c 46 [T.st [T.sl (asL (T.cell (nth r555 0) 0)), T.i .i64 (asI (T.cell (nth r555 0) 1)), T.sl (asL (T.cell (nth r555 0) 2)), T.b (asB (T.cell (nth r555 0) 3)), T.i .i64 (asI (T.cell (nth r555 0) 4))], T.i .i64 n1, T.sl (asL (nth r556 0)), T.i .i64 n3]).bind fun r557 =>
      (c 20 [T.st [T.sl l0_0, T.i .i64 n0_1, T.sl l0_2, T.b b0_3, T.i .i64 n0_4]]).bind fun r558 =>
      (c 47 [T.sl l2]).bind fun r559 =>
      (c 32 [T.st [T.sl (asL (T.cell (nth r558 0) 0)), T.i .i64 (asI (T.cell (nth r558 0) 1)), T.sl (asL (T.cell (nth r558 0) 2)), T.b (asB (T.cell (nth r558 0) 3)), T.i .i64 (asI (T.cell (nth r558 0) 4))], T.i .i64 n1, T.sl (asL (nth r559 0)), T.i .i64 n3]).bind fun r560 =>
      (c 22 [T.st [T.sl (asL (T.cell (nth r560 0) 0)), T.i .i64 (asI (T.cell (nth r560 0) 1)), T.sl (asL (T.cell (nth r560 0) 2)), T.b (asB (T.cell (nth r560 0) 3)), T.i .i64 (asI (T.cell (nth r560 0) 4))], T.st [T.sl (asL (T.cell (nth r557 0) 0)), T.i .i64 (asI (T.cell (nth r557 0) 1)), T.sl (asL (T.cell (nth r557 0) 2)), T.b (asB (T.cell (nth r557 0) 3)), T.i .i64 (asI (T.cell (nth r557 0) 4))]]).bind fun r561 =>
      bif !(asB (nth r561 0)) then
        some [T.b false]
      else
        bif (asI (nth r560 1)) != (asI (nth r557 1)) then
          some [T.b false]
        else
          bif (asI (nth r560 2)) != (asI (nth r557 2)) then
            some [T.b false]
          else
            (c 20 [T.st [T.sl l0_0, T.i .i64 n0_1, T.sl l0_2, T.b b0_3, T.i .i64 n0_4]]).bind fun r562 =>
            (c 22 [T.st [T.sl (asL (T.cell (nth r558 0) 0)), T.i .i64 (asI (T.cell (nth r558 0) 1)), T.sl (asL (T.cell (nth r558 0) 2)), T.b (asB (T.cell (nth r558 0) 3)), T.i .i64 (asI (T.cell (nth r558 0) 4))], T.st [T.sl (asL (T.cell (nth r562 0) 0)), T.i .i64 (asI (T.cell (nth r562 0) 1)), T.sl (asL (T.cell (nth r562 0) 2)), T.b (asB (T.cell (nth r562 0) 3)), T.i .i64 (asI (T.cell (nth r562 0) 4))]]).bind fun r563 =>
            bif !(asB (nth r563 0)) then
              some [T.b false]
            else
              (c 47 [T.sl l2]).bind fun r564 =>
              (c 48 [T.sl (asL (nth r559 0)), T.sl (asL (nth r564 0))]).bind fun r565 =>
              bif !(asB (nth r565 0)) then
                some [T.b false]
              else
                (c 26 [T.st [T.sl (asL (T.cell (nth r558 0) 0)), T.i .i64 (asI (T.cell (nth r558 0) 1)), T.sl (asL (T.cell (nth r558 0) 2)), T.b (asB (T.cell (nth r558 0) 3)), T.i .i64 (asI (T.cell (nth r558 0) 4))], T.i .i64 1]).bind fun r566 =>
                (c 49 [T.sl (asL (nth r559 0)), T.i .i64 (asI (nth r566 0))]).bind fun r567 =>
                bif iLt (asI (nth r567 0)) 0 then
                  some [T.b false]
                else
                  (c 22 [T.st [T.sl (asL (T.cell (nth r560 0) 0)), T.i .i64 (asI (T.cell (nth r560 0) 1)), T.sl (asL (T.cell (nth r560 0) 2)), T.b (asB (T.cell (nth r560 0) 3)), T.i .i64 (asI (T.cell (nth r560 0) 4))], T.st [T.sl (asL (T.cell (nth r557 0) 0)), T.i .i64 (asI (T.cell (nth r557 0) 1)), T.sl (asL (T.cell (nth r557 0) 2)), T.b (asB (T.cell (nth r557 0) 3)), T.i .i64 (asI (T.cell (nth r557 0) 4))]]).bind fun r568 =>
                  bif !(asB (nth r568 0)) then
                    some [T.b false]
                  else
                    bif (asI (nth r560 1)) != (asI (nth r557 1)) then
                      some [T.b false]
                    else
                      bif (asI (nth r560 2)) != (asI (nth r557 2)) then
                        some [T.b false]
                      else
                        (c 26 [T.st [T.sl (asL (T.cell (nth r560 0) 0)), T.i .i64 (asI (T.cell (nth r560 0) 1)), T.sl (asL (T.cell (nth r560 0) 2)), T.b (asB (T.cell (nth r560 0) 3)), T.i .i64 (asI (T.cell (nth r560 0) 4))], T.i .i64 1]).bind fun r569 =>
                        (c 50 [T.st [T.sl (asL (nth r569 1)), T.i .i64 (asI (T.cell (nth r560 0) 1)), T.sl (asL (nth r569 2)), T.b (asB (T.cell (nth r560 0) 3)), T.i .i64 (asI (T.cell (nth r560 0) 4))], T.i .i64 1]).bind fun r570 =>
                        bif iLt (asI (nth r570 0)) 0 then
                          some [T.b false]
                        else
                          bif (asI (nth r570 0)) != (asI (nth r569 0)) then
                            some [T.b false]
                          else
                            (c 20 [T.st [T.sl l0_0, T.i .i64 n0_1, T.sl l0_2, T.b b0_3, T.i .i64 n0_4]]).bind fun r571 =>
                            (c 47 [T.sl l2]).bind fun r572 =>
                            (c 32 [T.st [T.sl (asL (T.cell (nth r571 0) 0)), T.i .i64 (asI (T.cell (nth r571 0) 1)), T.sl (asL (T.cell (nth r571 0) 2)), T.b (asB (T.cell (nth r571 0) 3)), T.i .i64 (asI (T.cell (nth r571 0) 4))], T.i .i64 n1, T.sl (asL (nth r572 0)), T.i .i64 n3]).bind fun r573 =>
                            (c 22 [T.st [T.sl (asL (T.cell (nth r573 0) 0)), T.i .i64 (asI (T.cell (nth r573 0) 1)), T.sl (asL (T.cell (nth r573 0) 2)), T.b (asB (T.cell (nth r573 0) 3)), T.i .i64 (asI (T.cell (nth r573 0) 4))], T.st [T.sl (asL (T.cell (nth r557 0) 0)), T.i .i64 (asI (T.cell (nth r557 0) 1)), T.sl (asL (T.cell (nth r557 0) 2)), T.b (asB (T.cell (nth r557 0) 3)), T.i .i64 (asI (T.cell (nth r557 0) 4))]]).bind fun r574 =>
                            bif !(asB (nth r574 0)) then
                              some [T.b false]
                            else
                              bif (asI (nth r573 1)) != (asI (nth r557 1)) then
                                some [T.b false]
                              else
                                bif (asI (nth r573 2)) != (asI (nth r557 2)) then
                                  some [T.b false]
                                else
                                  (c 50 [T.st [T.sl (asL (nth r569 1)), T.i .i64 (asI (T.cell (nth r560 0) 1)), T.sl (asL (nth r569 2)), T.b (asB (T.cell (nth r560 0) 3)), T.i .i64 (asI (T.cell (nth r560 0) 4))], T.i .i64 1]).bind fun r575 =>
                                  bif iLt (asI (nth r575 0)) 0 then
                                    some [T.b false]
                                  else
                                    bif (asI (nth r575 0)) != (asI (nth r569 0)) then
                                      some [T.b false]
                                    else
                                      some [T.b true]
def f10 (c : Orc) (lf : Nat) (l0_0 : List T) (n0_1 : Int) (l0_2 : List T) (b0_3 : Bool) (n0_4 : Int) (n1 : Int) (l2 : List T) (n3 : Int) : Option (List T) := f10_t c lf l0_0 n0_1 l0_2 b0_3 n0_4 n1 l2 n3
theorem f10_raw (c : Orc) (lf : Nat) (l0_0 : List T) (n0_1 : Int) (l0_2 : List T) (b0_3 : Bool) (n0_4 : Int) (n1 : Int) (l2 : List T) (n3 : Int) : funK c env lf 6 fi10 [.st [.sl l0_0, .i .i64 n0_1, .sl l0_2, .b b0_3, .i .i64 n0_4], .i .i64 n1, .sl l2, .i .i64 n3] = f10_t c lf l0_0 n0_1 l0_2 b0_3 n0_4 n1 l2 n3 := by kernel_rfl
theorem f10_eq (c : Orc) (lf : Nat) (l0_0 : List T) (n0_1 : Int) (l0_2 : List T) (b0_3 : Bool) (n0_4 : Int) (n1 : Int) (l2 : List T) (n3 : Int) : funK c env lf 6 fi10 [.st [.sl l0_0, .i .i64 n0_1, .sl l0_2, .b b0_3, .i .i64 n0_4], .i .i64 n1, .sl l2, .i .i64 n3] = f10 c lf l0_0 n0_1 l0_2 b0_3 n0_4 n1 l2 n3 := by
  refine (f10_raw c lf l0_0 n0_1 l0_2 b0_3 n0_4 n1 l2 n3).trans ?_
  rfl
end Go.Proofs.Ytdclnhlpifahpaa.T
