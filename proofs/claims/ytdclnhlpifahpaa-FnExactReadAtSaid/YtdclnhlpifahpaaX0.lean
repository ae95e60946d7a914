/- What functions of the law FnExactReadAt come to, in trees; no condition. -/
import Derived.Test.YtdclnhlpifahpaaRows
import Derived.Test.YtdclnhlpifahpaaV4
import Derived.KernelRfl
set_option linter.unusedVariables false
set_option linter.constructorNameAsVariable false
set_option linter.unusedSimpArgs false
set_option linter.unnecessarySimpa false
namespace Go.Proofs.Ytdclnhlpifahpaa.T
open Go Go.Proofs.YtdclnhlpifahpaaV
def tyTab : List (Nat × Ti) := [
  (3, ⟨false, [.i .i64], .o⟩),
  (4, ⟨false, [.b], .o⟩),
  (5, ⟨false, [.i .u8], .o⟩),
  (9, ⟨false, [.s], .o⟩),
  (35, ⟨false, [.sl true [.sl true [.b, .sl false [.i .u8]], .i .i64, .b]], .sl 269⟩),
  (37, ⟨true, [.sl true [.sl true [.b, .sl false [.i .u8]], .i .i64, .b]], .st [(0, 35)]⟩),
  (38, ⟨false, [.sl true [.i .i64, .i .i64, .i .i64]], .sl 221⟩),
  (40, ⟨true, [.sl true [.sl true [.b, .sl false [.i .u8]], .i .i64, .b], .i .i64, .sl true [.i .i64, .i .i64, .i .i64], .b], .st [(0, 37), (1, 3), (2, 38), (3, 4)]⟩),
  (42, ⟨true, [.sl true [.sl true [.b, .sl false [.i .u8]], .i .i64, .b], .i .i64, .sl true [.i .i64, .i .i64, .i .i64], .b, .i .i64], .st [(0, 40), (4, 3)]⟩),
  (45, ⟨false, [.sl true [.sl true [.b, .sl false [.i .u8]], .i .i64, .b]], .sl 137⟩),
  (47, ⟨true, [.sl true [.sl true [.b, .sl false [.i .u8]], .i .i64, .b]], .st [(0, 45)]⟩),
  (48, ⟨false, [.sl true [.i .i64, .i .i64, .i .i64]], .sl 76⟩),
  (50, ⟨true, [.sl true [.sl true [.b, .sl false [.i .u8]], .i .i64, .b], .i .i64, .sl true [.i .i64, .i .i64, .i .i64], .b], .st [(0, 47), (1, 3), (2, 48), (3, 4)]⟩),
  (52, ⟨true, [.sl true [.sl true [.b, .sl false [.i .u8]], .i .i64, .b], .i .i64, .sl true [.i .i64, .i .i64, .i .i64], .b, .i .i64], .st [(0, 50), (4, 3)]⟩),
  (56, ⟨false, [.sl false [.i .u8]], .sl 5⟩),
  (58, ⟨true, [.i .i64, .i .i64, .sl false [.i .u8]], .st [(0, 3), (1, 3), (2, 56)]⟩),
  (76, ⟨true, [.i .i64, .i .i64, .i .i64], .st [(0, 3), (1, 3), (2, 3)]⟩),
  (135, ⟨false, [.sl true [.b, .sl false [.i .u8]]], .sl 142⟩),
  (137, ⟨true, [.sl true [.b, .sl false [.i .u8]], .i .i64, .b], .st [(0, 135), (1, 3), (2, 4)]⟩),
  (142, ⟨true, [.b, .sl false [.i .u8]], .st [(0, 4), (1, 56)]⟩),
  (172, ⟨false, [.i .u64], .o⟩),
  (173, ⟨false, [.o], .o⟩),
  (175, ⟨true, [.sl false [.i .u8], .i .i64, .b], .st [(0, 56), (1, 3), (2, 4)]⟩),
  (221, ⟨true, [.i .i64, .i .i64, .i .i64], .st [(0, 3), (1, 3), (2, 3)]⟩),
  (229, ⟨false, [.o], .o⟩),
  (231, ⟨true, [.sl false [.i .u8], .i .i64, .b], .st [(0, 56), (1, 3), (2, 4)]⟩),
  (237, ⟨false, [.i .u32], .o⟩),
  (267, ⟨false, [.sl true [.b, .sl false [.i .u8]]], .sl 299⟩),
  (269, ⟨true, [.sl true [.b, .sl false [.i .u8]], .i .i64, .b], .st [(0, 267), (1, 3), (2, 4)]⟩),
  (299, ⟨true, [.b, .sl false [.i .u8]], .st [(0, 4), (1, 56)]⟩)]
noncomputable def fi259 : Fi := ⟨Try.f259, [], false, [.ro (.sl false [.i .u8]), .v (.i .i64)], [.v (.i .i64)]⟩
noncomputable def fi252 : Fi := ⟨Try.f252, [], false, [.ag [.v (.b), .ro (.sl false [.i .u8])], .v (.i .i64)], [.v (.i .i64)]⟩
def x242_5_0 : List (Ex × List Nat × CSt) := [(.ret, [4], ⟨[.i .i64 0], [.dead, .dead]⟩), ((.ex 0), [1], ⟨[.i .i64 0], [.dead, .dead]⟩)]
noncomputable def fi242 : Fi := ⟨Try.f242, [⟨5, [0, 1, 5], [], [(⟨[.ro 0 true [.b, .sl false [.i .u8]] [], .i .i64 0, .i .i64 0], [.dead, .dead]⟩, x242_5_0)]⟩], false, [.ro (.sl true [.b, .sl false [.i .u8]]), .v (.i .i64)], [.v (.i .i64)]⟩
noncomputable def fi219 : Fi := ⟨Try.f219, [], false, [.ag [.ro (.sl true [.b, .sl false [.i .u8]]), .v (.i .i64), .v (.b)], .v (.i .i64)], [.v (.i .i64)]⟩
def x175_5_0 : List (Ex × List Nat × CSt) := [(.ret, [4], ⟨[.i .i64 0], [.dead, .dead]⟩), ((.ex 0), [1], ⟨[.i .i64 0], [.dead, .dead]⟩)]
noncomputable def fi175 : Fi := ⟨Try.f175, [⟨5, [0, 1, 5], [], [(⟨[.ro 0 true [.sl true [.b, .sl false [.i .u8]], .i .i64, .b] [], .i .i64 0, .i .i64 0], [.dead, .dead]⟩, x175_5_0)]⟩], false, [.ro (.sl true [.sl true [.b, .sl false [.i .u8]], .i .i64, .b]), .v (.i .i64)], [.v (.i .i64)]⟩
noncomputable def fi122 : Fi := ⟨Try.f122, [], false, [.ag [.ro (.sl true [.sl true [.b, .sl false [.i .u8]], .i .i64, .b])], .v (.i .i64)], [.v (.i .i64)]⟩
noncomputable def fi123 : Fi := ⟨Try.f123, [], false, [.ro (.sl true [.i .i64, .i .i64, .i .i64]), .v (.i .i64)], [.v (.i .i64)]⟩
noncomputable def fi69 : Fi := ⟨Try.f69, [], false, [.ag [.ro (.sl true [.sl true [.b, .sl false [.i .u8]], .i .i64, .b]), .v (.i .i64), .ro (.sl true [.i .i64, .i .i64, .i .i64]), .v (.b)], .v (.i .i64)], [.v (.i .i64)]⟩
noncomputable def fi18 : Fi := ⟨Try.f18, [], false, [.ag [.ro (.sl true [.sl true [.b, .sl false [.i .u8]], .i .i64, .b]), .v (.i .i64), .ro (.sl true [.i .i64, .i .i64, .i .i64]), .v (.b), .v (.i .i64)], .v (.i .i64)], [.v (.i .i64)]⟩
def x47_3_0 : List (Ex × List Nat × CSt) := [((.ex 0), [3], ⟨[.rf 1 [] 0 none], [.dead, .row false [.i .u8] [] 0 false]⟩)]
noncomputable def fi47 : Fi := ⟨Try.f47, [⟨3, [0, 3, 4], [], [(⟨[.ro 0 false [.i .u8] [], .rf 1 [] 0 none, .i .i64 0], [.dead, .row false [.i .u8] [] 0 false]⟩, x47_3_0)]⟩], false, [.ro (.sl false [.i .u8])], [.ow (.sl false [.i .u8])]⟩
noncomputable def fi253 : Fi := ⟨Try.f253, [], false, [.ag [.v (.b), .ro (.sl false [.i .u8])]], [.ag [.v (.b), .ow (.sl false [.i .u8])]]⟩
def x243_3_0 : List (Ex × List Nat × CSt) := [((.ex 0), [3], ⟨[.rf 1 [] 0 none], [.dead, .row true [.b, .sl false [.i .u8]] [] 0 false]⟩)]
noncomputable def fi243 : Fi := ⟨Try.f243, [⟨3, [0, 3, 4], [], [(⟨[.ro 0 true [.b, .sl false [.i .u8]] [], .rf 1 [] 0 none, .i .i64 0], [.dead, .row true [.b, .sl false [.i .u8]] [] 0 false]⟩, x243_3_0)]⟩], false, [.ro (.sl true [.b, .sl false [.i .u8]])], [.ow (.sl true [.b, .sl false [.i .u8]])]⟩
noncomputable def fi220 : Fi := ⟨Try.f220, [], false, [.ag [.ro (.sl true [.b, .sl false [.i .u8]]), .v (.i .i64), .v (.b)]], [.ag [.ow (.sl true [.b, .sl false [.i .u8]]), .v (.i .i64), .v (.b)]]⟩
def x177_3_0 : List (Ex × List Nat × CSt) := [((.ex 0), [3], ⟨[.rf 1 [] 0 none], [.dead, .row true [.sl true [.b, .sl false [.i .u8]], .i .i64, .b] [] 0 false]⟩)]
noncomputable def fi177 : Fi := ⟨Try.f177, [⟨3, [0, 3, 4], [], [(⟨[.ro 0 true [.sl true [.b, .sl false [.i .u8]], .i .i64, .b] [], .rf 1 [] 0 none, .i .i64 0], [.dead, .row true [.sl true [.b, .sl false [.i .u8]], .i .i64, .b] [] 0 false]⟩, x177_3_0)]⟩], false, [.ro (.sl true [.sl true [.b, .sl false [.i .u8]], .i .i64, .b])], [.ow (.sl true [.sl true [.b, .sl false [.i .u8]], .i .i64, .b])]⟩
noncomputable def fi126 : Fi := ⟨Try.f126, [], false, [.ag [.ro (.sl true [.sl true [.b, .sl false [.i .u8]], .i .i64, .b])]], [.ag [.ow (.sl true [.sl true [.b, .sl false [.i .u8]], .i .i64, .b])]]⟩
noncomputable def fi178 : Fi := ⟨Try.f178, [], false, [.ag [.v (.i .i64), .v (.i .i64), .v (.i .i64)]], [.ag [.v (.i .i64), .v (.i .i64), .v (.i .i64)]]⟩
def x127_3_0 : List (Ex × List Nat × CSt) := [((.ex 0), [3], ⟨[.rf 1 [] 0 none], [.dead, .row true [.i .i64, .i .i64, .i .i64] [] 0 false]⟩)]
noncomputable def fi127 : Fi := ⟨Try.f127, [⟨3, [0, 3, 4], [], [(⟨[.ro 0 true [.i .i64, .i .i64, .i .i64] [], .rf 1 [] 0 none, .i .i64 0], [.dead, .row true [.i .i64, .i .i64, .i .i64] [] 0 false]⟩, x127_3_0)]⟩], false, [.ro (.sl true [.i .i64, .i .i64, .i .i64])], [.ow (.sl true [.i .i64, .i .i64, .i .i64])]⟩
noncomputable def fi73 : Fi := ⟨Try.f73, [], false, [.ag [.ro (.sl true [.sl true [.b, .sl false [.i .u8]], .i .i64, .b]), .v (.i .i64), .ro (.sl true [.i .i64, .i .i64, .i .i64]), .v (.b)]], [.ag [.ow (.sl true [.sl true [.b, .sl false [.i .u8]], .i .i64, .b]), .v (.i .i64), .ow (.sl true [.i .i64, .i .i64, .i .i64]), .v (.b)]]⟩
noncomputable def fi20 : Fi := ⟨Try.f20, [], false, [.ag [.ro (.sl true [.sl true [.b, .sl false [.i .u8]], .i .i64, .b]), .v (.i .i64), .ro (.sl true [.i .i64, .i .i64, .i .i64]), .v (.b), .v (.i .i64)]], [.ag [.ow (.sl true [.sl true [.b, .sl false [.i .u8]], .i .i64, .b]), .v (.i .i64), .ow (.sl true [.i .i64, .i .i64, .i .i64]), .v (.b), .v (.i .i64)]]⟩
noncomputable def fi79 : Fi := ⟨Try.f79, [], false, [.ag [.ro (.sl true [.sl true [.b, .sl false [.i .u8]], .i .i64, .b])], .v (.i .i64), .v (.i .i64)], [.ow (.sl false [.i .u8]), .v (.b)]⟩
def x181_3_0 : List (Ex × List Nat × CSt) := [(.ret, [4, 5, 6], ⟨[.i .i64 0, .i .i64 0, .b false], [.dead, .dead]⟩), ((.ex 0), [], ⟨[], [.dead, .dead]⟩)]
noncomputable def fi181 : Fi := ⟨Try.f181, [⟨3, [0, 1, 7, 8], [], [(⟨[.ro 0 false [.i .u8] [], .i .i64 0, .i .i64 0, .i .i64 0], [.dead, .dead]⟩, x181_3_0)]⟩], false, [.ro (.sl false [.i .u8]), .v (.i .i64)], [.v (.i .i64), .v (.i .i64), .v (.b)]⟩
noncomputable def fi131 : Fi := ⟨Try.f131, [], false, [.bx [.ro (.sl false [.i .u8]), .v (.i .i64), .v (.b)]], [.v (.i .i64)]⟩
noncomputable def fi182 : Fi := ⟨Try.f182, [], false, [.ro (.sl false [.i .u8]), .v (.i .i64)], [.v (.s), .v (.i .i64), .v (.b)]⟩
noncomputable def fi132 : Fi := ⟨Try.f132, [], false, [.bx [.ro (.sl false [.i .u8]), .v (.i .i64), .v (.b)]], [.v (.s)]⟩
def x133_3_0 : List (Ex × List Nat × CSt) := [((.ex 0), [3], ⟨[.i .i64 0], [.dead]⟩)]
def x133_7_0 : List (Ex × List Nat × CSt) := [((.ex 2), [0, 3, 4], ⟨[.ro 0 false [.i .u8] [], .i .i64 0, .i .i64 0], [.dead]⟩)]
noncomputable def fi133 : Fi := ⟨Try.f133, [⟨3, [0, 3, 4], [], [(⟨[.ro 0 false [.i .u8] [], .i .i64 0, .i .i64 0], [.dead]⟩, x133_3_0)]⟩, ⟨7, [0, 3, 4, 5], [], [(⟨[.ro 0 false [.i .u8] [], .i .i64 0, .i .i64 0, .i .i64 0], [.dead]⟩, x133_7_0)]⟩], false, [.ro (.sl false [.i .u8])], [.v (.i .i64)]⟩
noncomputable def fi71 : Fi := ⟨Try.f71, [], false, [.v (.i .i64), .v (.i .i64), .v (.i .i64)], [.v (.b)]⟩
noncomputable def fi103 : Fi := ⟨Try.f103, [], false, [.ag [.v (.i .i64), .v (.i .i64), .ro (.sl false [.i .u8])]], [.v (.b)]⟩
def x80_6_0 : List (Ex × List Nat × CSt) := [((.ex 0), [0, 2, 4, 5], ⟨[.ro 0 false [.i .u8] [], .bp 1 0, .i .i64 0, .i .i64 0], [.dead, .box [.i .i64 0, .i .i64 0, .rf 2 [] 0 none], .row false [.i .u8] [] 0 false]⟩)]
noncomputable def fi80 : Fi := ⟨Try.f80, [⟨6, [0, 2, 4, 5, 6], [], [(⟨[.ro 0 false [.i .u8] [], .bp 1 0, .i .i64 0, .i .i64 0, .i .i64 0], [.dead, .box [.i .i64 0, .i .i64 0, .rf 2 [] 0 none], .row false [.i .u8] [] 0 false]⟩, x80_6_0)]⟩], false, [.ro (.sl false [.i .u8])], [.ag [.v (.i .i64), .v (.i .i64), .ow (.sl false [.i .u8])], .v (.b)]⟩
noncomputable def fi23 : Fi := ⟨Try.f23, [], false, [.ag [.ro (.sl true [.sl true [.b, .sl false [.i .u8]], .i .i64, .b]), .v (.i .i64), .ro (.sl true [.i .i64, .i .i64, .i .i64]), .v (.b), .v (.i .i64)], .v (.i .i64), .v (.i .i64)], [.ag [.v (.i .i64), .v (.i .i64), .ow (.sl false [.i .u8])], .v (.b)]⟩
noncomputable def fi75 : Fi := ⟨Try.f75, [], false, [.v (.i .i64), .v (.i .i64), .v (.i .i64)], [.v (.b)]⟩
noncomputable def fi94 : Fi := ⟨Try.f94, [], false, [.ag [.ro (.sl true [.sl true [.b, .sl false [.i .u8]], .i .i64, .b])], .v (.i .i64)], [.v (.b)]⟩
noncomputable def fi147 : Fi := ⟨Try.f147, [], false, [.ro (.sl false [.i .u8])], [.ow (.sl false [.i .u8])]⟩
noncomputable def fi134 : Fi := ⟨Try.f134, [], false, [.ag [.ro (.sl true [.sl true [.b, .sl false [.i .u8]], .i .i64, .b])], .v (.i .i64), .v (.i .i64)], [.ow (.sl false [.i .u8]), .v (.b)]⟩
def x146_3_0 : List (Ex × List Nat × CSt) := [((.ex 0), [3], ⟨[.i .u32 0], [.dead]⟩)]
def x146_7_0 : List (Ex × List Nat × CSt) := [((.ex 2), [3, 7, 8, 9], ⟨[.i .u32 0, .ro 0 false [.i .u8] [], .i .i64 0, .i .i64 0], [.dead]⟩)]
noncomputable def fi146 : Fi := ⟨Try.f146, [⟨3, [3, 7, 8, 9], [], [(⟨[.i .u32 0, .ro 0 false [.i .u8] [], .i .i64 0, .i .i64 0], [.dead]⟩, x146_3_0)]⟩, ⟨7, [3, 7, 8, 9, 17], [], [(⟨[.i .u32 0, .ro 0 false [.i .u8] [], .i .i64 0, .i .i64 0, .i .i64 0], [.dead]⟩, x146_7_0)]⟩], false, [.ro (.sl false [.i .u8])], [.v (.i .i64)]⟩
noncomputable def fi91 : Fi := ⟨Try.f91, [], false, [.ro (.sl false [.i .u8])], [.ow (.sl false [.i .u8])]⟩
noncomputable def fi183 : Fi := ⟨Try.f183, [], false, [.ro (.sl false [.i .u8])], [.ro (.sl false [.i .u8]), .v (.b)]⟩
def x222_6_0 : List (Ex × List Nat × CSt) := [((.ex 0), [], ⟨[], [.dead, .dead]⟩), (.ret, [4, 5, 6], ⟨[.i .i64 0, .i .i64 0, .b false], [.dead, .dead]⟩)]
noncomputable def fi222 : Fi := ⟨Try.f222, [⟨6, [0, 1, 7, 8, 9], [], [(⟨[.ro 0 false [.i .u8] [], .i .i64 0, .i .i64 0, .i .i64 0, .i .i64 0], [.dead, .dead]⟩, x222_6_0)]⟩], false, [.ro (.sl false [.i .u8]), .v (.i .i64)], [.v (.i .i64), .v (.i .i64), .v (.b)]⟩
noncomputable def fi184 : Fi := ⟨Try.f184, [], false, [.bx [.ro (.sl false [.i .u8]), .v (.i .i64), .v (.b)]], [.v (.i .i64)]⟩
noncomputable def fi223 : Fi := ⟨Try.f223, [], false, [.ro (.sl false [.i .u8]), .v (.i .i64)], [.v (.s), .v (.i .i64), .v (.b)]⟩
noncomputable def fi185 : Fi := ⟨Try.f185, [], false, [.bx [.ro (.sl false [.i .u8]), .v (.i .i64), .v (.b)]], [.v (.s)]⟩
noncomputable def fi186 : Fi := ⟨Try.f186, [], false, [.bx [.ro (.sl false [.i .u8]), .v (.i .i64), .v (.b)]], [.v (.b)]⟩
noncomputable def fi89 : Fi := ⟨Try.f89, [], false, [.ag [.v (.i .i64), .v (.i .i64), .ro (.sl false [.i .u8])]], [.v (.b)]⟩
noncomputable def fi135 : Fi := ⟨Try.f135, [], false, [.ro (.sl false [.i .u8])], [.ag [.v (.i .i64), .v (.i .i64), .ow (.sl false [.i .u8])], .v (.b)]⟩
noncomputable def fi81 : Fi := ⟨Try.f81, [], false, [.ag [.ro (.sl true [.sl true [.b, .sl false [.i .u8]], .i .i64, .b]), .v (.i .i64), .ro (.sl true [.i .i64, .i .i64, .i .i64]), .v (.b), .v (.i .i64)], .v (.i .i64)], [.ag [.v (.i .i64), .v (.i .i64), .ow (.sl false [.i .u8])], .v (.b)]⟩
noncomputable def fi24 : Fi := ⟨Try.f24, [], false, [.ag [.ro (.sl true [.sl true [.b, .sl false [.i .u8]], .i .i64, .b]), .v (.i .i64), .ro (.sl true [.i .i64, .i .i64, .i .i64]), .v (.b), .v (.i .i64)], .v (.i .i64), .v (.i .i64)], [.ag [.v (.i .i64), .v (.i .i64), .ow (.sl false [.i .u8])], .v (.b)]⟩
def x48_4_0 : List (Ex × List Nat × CSt) := [(.ret, [4], ⟨[.b false], [.dead, .dead]⟩), ((.ex 0), [], ⟨[], [.dead, .dead]⟩)]
noncomputable def fi48 : Fi := ⟨Try.f48, [⟨4, [0, 1, 5], [], [(⟨[.ro 0 false [.i .u8] [], .ro 0 false [.i .u8] [], .i .i64 0], [.dead, .dead]⟩, x48_4_0)]⟩], false, [.ro (.sl false [.i .u8]), .ro (.sl false [.i .u8])], [.v (.b)]⟩
noncomputable def fi25 : Fi := ⟨Try.f25, [], false, [.ag [.v (.i .i64), .v (.i .i64), .ro (.sl false [.i .u8])], .ag [.v (.i .i64), .v (.i .i64), .ro (.sl false [.i .u8])]], [.v (.b)]⟩
noncomputable def fi254 : Fi := ⟨Try.f254, [], false, [.ag [.v (.b), .ro (.sl false [.i .u8])], .ag [.v (.b), .ro (.sl false [.i .u8])]], [.v (.b)]⟩
def x244_4_0 : List (Ex × List Nat × CSt) := [(.ret, [4], ⟨[.b false], [.dead, .dead]⟩), ((.ex 0), [], ⟨[], [.dead, .dead]⟩)]
noncomputable def fi244 : Fi := ⟨Try.f244, [⟨4, [0, 1, 5], [], [(⟨[.ro 0 true [.b, .sl false [.i .u8]] [], .ro 0 true [.b, .sl false [.i .u8]] [], .i .i64 0], [.dead, .dead]⟩, x244_4_0)]⟩], false, [.ro (.sl true [.b, .sl false [.i .u8]]), .ro (.sl true [.b, .sl false [.i .u8]])], [.v (.b)]⟩
noncomputable def fi221 : Fi := ⟨Try.f221, [], false, [.ag [.ro (.sl true [.b, .sl false [.i .u8]]), .v (.i .i64), .v (.b)], .ag [.ro (.sl true [.b, .sl false [.i .u8]]), .v (.i .i64), .v (.b)]], [.v (.b)]⟩
def x179_4_0 : List (Ex × List Nat × CSt) := [(.ret, [4], ⟨[.b false], [.dead, .dead]⟩), ((.ex 0), [], ⟨[], [.dead, .dead]⟩)]
noncomputable def fi179 : Fi := ⟨Try.f179, [⟨4, [0, 1, 5], [], [(⟨[.ro 0 true [.sl true [.b, .sl false [.i .u8]], .i .i64, .b] [], .ro 0 true [.sl true [.b, .sl false [.i .u8]], .i .i64, .b] [], .i .i64 0], [.dead, .dead]⟩, x179_4_0)]⟩], false, [.ro (.sl true [.sl true [.b, .sl false [.i .u8]], .i .i64, .b]), .ro (.sl true [.sl true [.b, .sl false [.i .u8]], .i .i64, .b])], [.v (.b)]⟩
noncomputable def fi129 : Fi := ⟨Try.f129, [], false, [.ag [.ro (.sl true [.sl true [.b, .sl false [.i .u8]], .i .i64, .b])], .ag [.ro (.sl true [.sl true [.b, .sl false [.i .u8]], .i .i64, .b])]], [.v (.b)]⟩
noncomputable def fi180 : Fi := ⟨Try.f180, [], false, [.ag [.v (.i .i64), .v (.i .i64), .v (.i .i64)], .ag [.v (.i .i64), .v (.i .i64), .v (.i .i64)]], [.v (.b)]⟩
def x130_4_0 : List (Ex × List Nat × CSt) := [(.ret, [4], ⟨[.b false], [.dead, .dead]⟩), ((.ex 0), [], ⟨[], [.dead, .dead]⟩)]
noncomputable def fi130 : Fi := ⟨Try.f130, [⟨4, [0, 1, 5], [], [(⟨[.ro 0 true [.i .i64, .i .i64, .i .i64] [], .ro 0 true [.i .i64, .i .i64, .i .i64] [], .i .i64 0], [.dead, .dead]⟩, x130_4_0)]⟩], false, [.ro (.sl true [.i .i64, .i .i64, .i .i64]), .ro (.sl true [.i .i64, .i .i64, .i .i64])], [.v (.b)]⟩
noncomputable def fi78 : Fi := ⟨Try.f78, [], false, [.ag [.ro (.sl true [.sl true [.b, .sl false [.i .u8]], .i .i64, .b]), .v (.i .i64), .ro (.sl true [.i .i64, .i .i64, .i .i64]), .v (.b)], .ag [.ro (.sl true [.sl true [.b, .sl false [.i .u8]], .i .i64, .b]), .v (.i .i64), .ro (.sl true [.i .i64, .i .i64, .i .i64]), .v (.b)]], [.v (.b)]⟩
noncomputable def fi22 : Fi := ⟨Try.f22, [], false, [.ag [.ro (.sl true [.sl true [.b, .sl false [.i .u8]], .i .i64, .b]), .v (.i .i64), .ro (.sl true [.i .i64, .i .i64, .i .i64]), .v (.b), .v (.i .i64)], .ag [.ro (.sl true [.sl true [.b, .sl false [.i .u8]], .i .i64, .b]), .v (.i .i64), .ro (.sl true [.i .i64, .i .i64, .i .i64]), .v (.b), .v (.i .i64)]], [.v (.b)]⟩
def x49_2_0 : List (Ex × List Nat × CSt) := [((.ex 0), [1], ⟨[.i .i64 0], [.row false [.i .u8] [] 0 false, .dead]⟩)]
noncomputable def fi49 : Fi := ⟨Try.f49, [⟨2, [0, 1, 5], [], [(⟨[.rf 0 [] 0 none, .i .i64 0, .i .i64 0], [.row false [.i .u8] [] 0 false, .dead]⟩, x49_2_0)]⟩], false, [.ow (.sl false [.i .u8]), .v (.i .i64)], [.v (.i .i64)]⟩
def x224_2_0 : List (Ex × List Nat × CSt) := [((.ex 0), [1], ⟨[.i .i64 0], [.row true [.b, .sl false [.i .u8]] [] 0 false, .dead]⟩)]
noncomputable def fi224 : Fi := ⟨Try.f224, [⟨2, [0, 1, 5], [], [(⟨[.rf 0 [] 0 none, .i .i64 0, .i .i64 0], [.row true [.b, .sl false [.i .u8]] [] 0 false, .dead]⟩, x224_2_0)]⟩], false, [.ow (.sl true [.b, .sl false [.i .u8]]), .v (.i .i64)], [.v (.i .i64)]⟩
def x187_2_0 : List (Ex × List Nat × CSt) := [((.ex 0), [1], ⟨[.i .i64 0], [.row true [.sl true [.b, .sl false [.i .u8]], .i .i64, .b] [] 0 false, .dead]⟩)]
noncomputable def fi187 : Fi := ⟨Try.f187, [⟨2, [0, 1, 5], [], [(⟨[.rf 0 [] 0 none, .i .i64 0, .i .i64 0], [.row true [.sl true [.b, .sl false [.i .u8]], .i .i64, .b] [] 0 false, .dead]⟩, x187_2_0)]⟩], false, [.ow (.sl true [.sl true [.b, .sl false [.i .u8]], .i .i64, .b]), .v (.i .i64)], [.v (.i .i64)]⟩
noncomputable def fi136 : Fi := ⟨Try.f136, [], false, [.ag [.ow (.sl true [.sl true [.b, .sl false [.i .u8]], .i .i64, .b])], .v (.i .i64)], [.v (.i .i64)]⟩
def x137_2_0 : List (Ex × List Nat × CSt) := [((.ex 0), [1], ⟨[.i .i64 0], [.row true [.i .i64, .i .i64, .i .i64] [] 0 false, .dead]⟩)]
noncomputable def fi137 : Fi := ⟨Try.f137, [⟨2, [0, 1, 5], [], [(⟨[.rf 0 [] 0 none, .i .i64 0, .i .i64 0], [.row true [.i .i64, .i .i64, .i .i64] [] 0 false, .dead]⟩, x137_2_0)]⟩], false, [.ow (.sl true [.i .i64, .i .i64, .i .i64]), .v (.i .i64)], [.v (.i .i64)]⟩
noncomputable def fi82 : Fi := ⟨Try.f82, [], false, [.ag [.ow (.sl true [.sl true [.b, .sl false [.i .u8]], .i .i64, .b]), .v (.i .i64), .ow (.sl true [.i .i64, .i .i64, .i .i64]), .v (.b)], .v (.i .i64)], [.v (.i .i64)]⟩
noncomputable def fi26 : Fi := ⟨Try.f26, [], false, [.ag [.ow (.sl true [.sl true [.b, .sl false [.i .u8]], .i .i64, .b]), .v (.i .i64), .ow (.sl true [.i .i64, .i .i64, .i .i64]), .v (.b), .v (.i .i64)], .v (.i .i64)], [.v (.i .i64)]⟩
noncomputable def fi27 : Fi := ⟨Try.f27, [], false, [.ag [.v (.i .i64), .v (.i .i64), .ow (.sl false [.i .u8])], .v (.i .i64)], [.v (.i .i64)]⟩
def x83_2_0 : List (Ex × List Nat × CSt) := [(.ret, [4], ⟨[.i .i64 0], [.dead, .dead]⟩), ((.ex 0), [1], ⟨[.i .i64 0], [.dead, .dead]⟩)]
noncomputable def fi83 : Fi := ⟨Try.f83, [⟨2, [0, 1, 5], [], [(⟨[.ro 0 false [.i .u8] [], .i .i64 0, .i .i64 0], [.dead, .dead]⟩, x83_2_0)]⟩], false, [.ro (.sl false [.i .u8]), .v (.i .i64)], [.v (.i .i64)]⟩
noncomputable def fi28 : Fi := ⟨Try.f28, [], false, [.ag [.v (.i .i64), .v (.i .i64), .ro (.sl false [.i .u8])], .v (.i .i64)], [.v (.i .i64)]⟩
noncomputable def fi5 : Fi := ⟨Try.f5, [], false, [.ag [.ro (.sl true [.sl true [.b, .sl false [.i .u8]], .i .i64, .b]), .v (.i .i64), .ro (.sl true [.i .i64, .i .i64, .i .i64]), .v (.b), .v (.i .i64)], .v (.i .i64), .v (.i .i64)], [.v (.b)]⟩
noncomputable def fiTab : List (Nat × Fi) := [(259, fi259), (252, fi252), (242, fi242), (219, fi219), (175, fi175), (122, fi122), (123, fi123), (69, fi69), (18, fi18), (47, fi47), (253, fi253), (243, fi243), (220, fi220), (177, fi177), (126, fi126), (178, fi178), (127, fi127), (73, fi73), (20, fi20), (79, fi79), (181, fi181), (131, fi131), (182, fi182), (132, fi132), (133, fi133), (71, fi71), (103, fi103), (80, fi80), (23, fi23), (75, fi75), (94, fi94), (147, fi147), (134, fi134), (146, fi146), (91, fi91), (183, fi183), (222, fi222), (184, fi184), (223, fi223), (185, fi185), (186, fi186), (89, fi89), (135, fi135), (81, fi81), (24, fi24), (48, fi48), (25, fi25), (254, fi254), (244, fi244), (221, fi221), (179, fi179), (129, fi129), (180, fi180), (130, fi130), (78, fi78), (22, fi22), (49, fi49), (224, fi224), (187, fi187), (136, fi136), (137, fi137), (82, fi82), (26, fi26), (27, fi27), (83, fi83), (28, fi28), (5, fi5)]
-- EXT 147 clone 56 5
def X : Nat → Option (List T → Option (List T)) := lookN [(147, cloneF)]
noncomputable def env : Env := ⟨lookN fiTab, lookN tyTab⟩
-- FUNCTIONS
/-- loop.example/g00285/laws.szByteS -/
def f259_t (c : Orc) (lf : Nat) (l0 : List T) (n1 : Int) : Option (List T) :=
  bif iLt (IntKind.wrap .i64 (n1 - (l0.length : Int))) 0 then
    some [T.i .i64 (-1)]
  else
    some [T.i .i64 (IntKind.wrap .i64 (n1 - (l0.length : Int)))]
def f259 (c : Orc) (lf : Nat) (l0 : List T) (n1 : Int) : Option (List T) := f259_t c lf l0 n1
theorem f259_raw (c : Orc) (lf : Nat) (l0 : List T) (n1 : Int) : funK c env lf 6 fi259 [.sl l0, .i .i64 n1] = f259_t c lf l0 n1 := by kernel_rfl
theorem f259_eq (c : Orc) (lf : Nat) (l0 : List T) (n1 : Int) : funK c env lf 6 fi259 [.sl l0, .i .i64 n1] = f259 c lf l0 n1 := by
  refine (f259_raw c lf l0 n1).trans ?_
  rfl
/-- loop.example/g00285/laws.szPage -/
def f252_t (c : Orc) (lf : Nat) (b0_0 : Bool) (l0_1 : List T) (n1 : Int) : Option (List T) :=
  (c 259 [T.sl l0_1, T.i .i64 n1]).bind fun r1 =>
  bif iLt (asI (nth r1 0)) 0 then
    some [T.i .i64 (-1)]
  else
    some [T.i .i64 (asI (nth r1 0))]
def f252 (c : Orc) (lf : Nat) (b0_0 : Bool) (l0_1 : List T) (n1 : Int) : Option (List T) := f252_t c lf b0_0 l0_1 n1
theorem f252_raw (c : Orc) (lf : Nat) (b0_0 : Bool) (l0_1 : List T) (n1 : Int) : funK c env lf 6 fi252 [.st [.b b0_0, .sl l0_1], .i .i64 n1] = f252_t c lf b0_0 l0_1 n1 := by kernel_rfl
theorem f252_eq (c : Orc) (lf : Nat) (b0_0 : Bool) (l0_1 : List T) (n1 : Int) : funK c env lf 6 fi252 [.st [.b b0_0, .sl l0_1], .i .i64 n1] = f252 c lf b0_0 l0_1 n1 := by
  refine (f252_raw c lf b0_0 l0_1 n1).trans ?_
  rfl
/-- loop.example/g00285/laws.szPageS, the loop at region 5. -/
def f242_0_s (c : Orc) (lf : Nat) (l0 : List T) (L : Int → Int → Option (List T)) (x8 : Int) (x9 : Int) : Option (List T) :=
  bif iLt x9 (l0.length : Int) then
    bif inR x9 l0.length then
    (c 252 [T.st [T.b (asB (T.cell (l0.getD x9.toNat T.u) 0)), T.sl (asL (T.cell (l0.getD x9.toNat T.u) 1))], T.i .i64 x8]).bind fun r10 =>
    bif iLt (asI (nth r10 0)) 0 then
      some [T.i .i64 0, T.i .i64 (-1)]
    else
      L (asI (nth r10 0)) (IntKind.wrap .i64 (x9 + 1))
    else none
  else
    some [T.i .i64 1, T.i .i64 x8]
def f242_0_c (l0 : List T) (x8 : Int) (x9 : Int) : CSt := ⟨[.ro 0 true [.b, .sl false [.i .u8]] l0, .i .i64 x8, .i .i64 x9], [.dead, .dead]⟩
theorem f242_0_round (c : Orc) (lf : Nat) (l0 : List T) (L : CSt → Option (List T)) (x8 : Int) (x9 : Int) :
    roundK c env lf 6 fi242 2 5 [] [0, 1, 5] (x242_5_0) L (f242_0_c l0 x8 x9) = f242_0_s c lf l0 (fun x8 x9 => L (f242_0_c l0 x8 x9)) x8 x9 := by kernel_rfl
def f242_0 (c : Orc) (lf : Nat) (l0 : List T) : Nat → Int → Int → Option (List T)
  | 0 => fun _ _ => none
  | n + 1 => fun x8 x9 => f242_0_s c lf l0 (f242_0 c lf l0 n) x8 x9
theorem f242_0_u (c : Orc) (lf : Nat) (l0 : List T) (n : Nat) (x8 : Int) (x9 : Int) : f242_0 c lf l0 (n + 1) x8 x9 = f242_0_s c lf l0 (f242_0 c lf l0 n) x8 x9 := rfl
theorem f242_0_eq (c : Orc) (lf : Nat) (l0 : List T) (n : Nat) (x8 : Int) (x9 : Int) :
    lpK c env lf 6 fi242 2 5 [] [0, 1, 5] (x242_5_0) n (f242_0_c l0 x8 x9) = f242_0 c lf l0 n x8 x9 := by
  induction n generalizing x8 x9 with
  | zero => rfl
  | succ n ih =>
    refine (f242_0_round c lf l0 _ x8 x9).trans ?_
    have e : (fun x8 x9 => lpK c env lf 6 fi242 2 5 [] [0, 1, 5] (x242_5_0) n (f242_0_c l0 x8 x9)) = f242_0 c lf l0 n := by funext x8 x9; exact ih x8 x9
    show f242_0_s c lf l0 (fun x8 x9 => lpK c env lf 6 fi242 2 5 [] [0, 1, 5] (x242_5_0) n (f242_0_c l0 x8 x9)) x8 x9 = _
    rw [e]; rfl
/-- loop.example/g00285/laws.szPageS -/
def f242_t (c : Orc) (lf : Nat) (lp0 : List T → Int → Int → Option (List T)) (l0 : List T) (n1 : Int) : Option (List T) :=
  bif iLt (IntKind.wrap .i64 (n1 - (l0.length : Int))) 0 then
    some [T.i .i64 (-1)]
  else
    (lp0 l0 (IntKind.wrap .i64 (n1 - (l0.length : Int))) 0).bind fun r11 =>
    bif asI (nth r11 0) == 0 then
      some [T.i .i64 (asI (nth r11 1))]
    else
      some [T.i .i64 (asI (nth r11 1))]
def f242 (c : Orc) (lf : Nat) (l0 : List T) (n1 : Int) : Option (List T) := f242_t c lf (fun (l0 : List T) (x8 : Int) (x9 : Int) => f242_0 c lf l0 lf x8 x9) l0 n1
theorem f242_raw (c : Orc) (lf : Nat) (l0 : List T) (n1 : Int) : funK c env lf 6 fi242 [.sl l0, .i .i64 n1] = f242_t c lf (fun (l0 : List T) (x8 : Int) (x9 : Int) => lpK c env lf 6 fi242 2 5 [] [0, 1, 5] (x242_5_0) lf (f242_0_c l0 x8 x9)) l0 n1 := by kernel_rfl
theorem f242_eq (c : Orc) (lf : Nat) (l0 : List T) (n1 : Int) : funK c env lf 6 fi242 [.sl l0, .i .i64 n1] = f242 c lf l0 n1 := by
  refine (f242_raw c lf l0 n1).trans ?_
  have e0 : (fun (l0 : List T) (x8 : Int) (x9 : Int) => lpK c env lf 6 fi242 2 5 [] [0, 1, 5] (x242_5_0) lf (f242_0_c l0 x8 x9)) = (fun (l0 : List T) (x8 : Int) (x9 : Int) => f242_0 c lf l0 lf x8 x9) := by funext l0 x8 x9; exact f242_0_eq c lf l0 lf x8 x9
  rw [e0]; rfl
/-- loop.example/g00285/laws.szBlock -/
def f219_t (c : Orc) (lf : Nat) (l0_0 : List T) (n0_1 : Int) (b0_2 : Bool) (n1 : Int) : Option (List T) :=
  (c 242 [T.sl l0_0, T.i .i64 n1]).bind fun r12 =>
  bif iLt (asI (nth r12 0)) 0 then
    some [T.i .i64 (-1)]
  else
    some [T.i .i64 (asI (nth r12 0))]
def f219 (c : Orc) (lf : Nat) (l0_0 : List T) (n0_1 : Int) (b0_2 : Bool) (n1 : Int) : Option (List T) := f219_t c lf l0_0 n0_1 b0_2 n1
theorem f219_raw (c : Orc) (lf : Nat) (l0_0 : List T) (n0_1 : Int) (b0_2 : Bool) (n1 : Int) : funK c env lf 6 fi219 [.st [.sl l0_0, .i .i64 n0_1, .b b0_2], .i .i64 n1] = f219_t c lf l0_0 n0_1 b0_2 n1 := by kernel_rfl
theorem f219_eq (c : Orc) (lf : Nat) (l0_0 : List T) (n0_1 : Int) (b0_2 : Bool) (n1 : Int) : funK c env lf 6 fi219 [.st [.sl l0_0, .i .i64 n0_1, .b b0_2], .i .i64 n1] = f219 c lf l0_0 n0_1 b0_2 n1 := by
  refine (f219_raw c lf l0_0 n0_1 b0_2 n1).trans ?_
  rfl
/-- loop.example/g00285/laws.szBlockS, the loop at region 5. -/
def f175_0_s (c : Orc) (lf : Nat) (l0 : List T) (L : Int → Int → Option (List T)) (x19 : Int) (x20 : Int) : Option (List T) :=
  bif iLt x20 (l0.length : Int) then
    bif inR x20 l0.length then
    (c 219 [T.st [T.sl (asL (T.cell (l0.getD x20.toNat T.u) 0)), T.i .i64 (asI (T.cell (l0.getD x20.toNat T.u) 1)), T.b (asB (T.cell (l0.getD x20.toNat T.u) 2))], T.i .i64 x19]).bind fun r21 =>
    bif iLt (asI (nth r21 0)) 0 then
      some [T.i .i64 0, T.i .i64 (-1)]
    else
      L (asI (nth r21 0)) (IntKind.wrap .i64 (x20 + 1))
    else none
  else
    some [T.i .i64 1, T.i .i64 x19]
def f175_0_c (l0 : List T) (x19 : Int) (x20 : Int) : CSt := ⟨[.ro 0 true [.sl true [.b, .sl false [.i .u8]], .i .i64, .b] l0, .i .i64 x19, .i .i64 x20], [.dead, .dead]⟩
theorem f175_0_round (c : Orc) (lf : Nat) (l0 : List T) (L : CSt → Option (List T)) (x19 : Int) (x20 : Int) :
    roundK c env lf 6 fi175 2 5 [] [0, 1, 5] (x175_5_0) L (f175_0_c l0 x19 x20) = f175_0_s c lf l0 (fun x19 x20 => L (f175_0_c l0 x19 x20)) x19 x20 := by kernel_rfl
def f175_0 (c : Orc) (lf : Nat) (l0 : List T) : Nat → Int → Int → Option (List T)
  | 0 => fun _ _ => none
  | n + 1 => fun x19 x20 => f175_0_s c lf l0 (f175_0 c lf l0 n) x19 x20
theorem f175_0_u (c : Orc) (lf : Nat) (l0 : List T) (n : Nat) (x19 : Int) (x20 : Int) : f175_0 c lf l0 (n + 1) x19 x20 = f175_0_s c lf l0 (f175_0 c lf l0 n) x19 x20 := rfl
theorem f175_0_eq (c : Orc) (lf : Nat) (l0 : List T) (n : Nat) (x19 : Int) (x20 : Int) :
    lpK c env lf 6 fi175 2 5 [] [0, 1, 5] (x175_5_0) n (f175_0_c l0 x19 x20) = f175_0 c lf l0 n x19 x20 := by
  induction n generalizing x19 x20 with
  | zero => rfl
  | succ n ih =>
    refine (f175_0_round c lf l0 _ x19 x20).trans ?_
    have e : (fun x19 x20 => lpK c env lf 6 fi175 2 5 [] [0, 1, 5] (x175_5_0) n (f175_0_c l0 x19 x20)) = f175_0 c lf l0 n := by funext x19 x20; exact ih x19 x20
    show f175_0_s c lf l0 (fun x19 x20 => lpK c env lf 6 fi175 2 5 [] [0, 1, 5] (x175_5_0) n (f175_0_c l0 x19 x20)) x19 x20 = _
    rw [e]; rfl
/-- loop.example/g00285/laws.szBlockS -/
def f175_t (c : Orc) (lf : Nat) (lp0 : List T → Int → Int → Option (List T)) (l0 : List T) (n1 : Int) : Option (List T) :=
  bif iLt (IntKind.wrap .i64 (n1 - (l0.length : Int))) 0 then
    some [T.i .i64 (-1)]
  else
    (lp0 l0 (IntKind.wrap .i64 (n1 - (l0.length : Int))) 0).bind fun r22 =>
    bif asI (nth r22 0) == 0 then
      some [T.i .i64 (asI (nth r22 1))]
    else
      some [T.i .i64 (asI (nth r22 1))]
def f175 (c : Orc) (lf : Nat) (l0 : List T) (n1 : Int) : Option (List T) := f175_t c lf (fun (l0 : List T) (x19 : Int) (x20 : Int) => f175_0 c lf l0 lf x19 x20) l0 n1
theorem f175_raw (c : Orc) (lf : Nat) (l0 : List T) (n1 : Int) : funK c env lf 6 fi175 [.sl l0, .i .i64 n1] = f175_t c lf (fun (l0 : List T) (x19 : Int) (x20 : Int) => lpK c env lf 6 fi175 2 5 [] [0, 1, 5] (x175_5_0) lf (f175_0_c l0 x19 x20)) l0 n1 := by kernel_rfl
theorem f175_eq (c : Orc) (lf : Nat) (l0 : List T) (n1 : Int) : funK c env lf 6 fi175 [.sl l0, .i .i64 n1] = f175 c lf l0 n1 := by
  refine (f175_raw c lf l0 n1).trans ?_
  have e0 : (fun (l0 : List T) (x19 : Int) (x20 : Int) => lpK c env lf 6 fi175 2 5 [] [0, 1, 5] (x175_5_0) lf (f175_0_c l0 x19 x20)) = (fun (l0 : List T) (x19 : Int) (x20 : Int) => f175_0 c lf l0 lf x19 x20) := by funext l0 x19 x20; exact f175_0_eq c lf l0 lf x19 x20
  rw [e0]; rfl
/-- loop.example/g00285/laws.szChip -/
def f122_t (c : Orc) (lf : Nat) (l0_0 : List T) (n1 : Int) : Option (List T) :=
  (c 175 [T.sl l0_0, T.i .i64 n1]).bind fun r23 =>
  bif iLt (asI (nth r23 0)) 0 then
    some [T.i .i64 (-1)]
  else
    some [T.i .i64 (asI (nth r23 0))]
def f122 (c : Orc) (lf : Nat) (l0_0 : List T) (n1 : Int) : Option (List T) := f122_t c lf l0_0 n1
theorem f122_raw (c : Orc) (lf : Nat) (l0_0 : List T) (n1 : Int) : funK c env lf 6 fi122 [.st [.sl l0_0], .i .i64 n1] = f122_t c lf l0_0 n1 := by kernel_rfl
theorem f122_eq (c : Orc) (lf : Nat) (l0_0 : List T) (n1 : Int) : funK c env lf 6 fi122 [.st [.sl l0_0], .i .i64 n1] = f122 c lf l0_0 n1 := by
  refine (f122_raw c lf l0_0 n1).trans ?_
  rfl
/-- loop.example/g00285/laws.szFaultS -/
def f123_t (c : Orc) (lf : Nat) (l0 : List T) (n1 : Int) : Option (List T) :=
  bif iLt (IntKind.wrap .i64 (n1 - (l0.length : Int))) 0 then
    some [T.i .i64 (-1)]
  else
    some [T.i .i64 (IntKind.wrap .i64 (n1 - (l0.length : Int)))]
def f123 (c : Orc) (lf : Nat) (l0 : List T) (n1 : Int) : Option (List T) := f123_t c lf l0 n1
theorem f123_raw (c : Orc) (lf : Nat) (l0 : List T) (n1 : Int) : funK c env lf 6 fi123 [.sl l0, .i .i64 n1] = f123_t c lf l0 n1 := by kernel_rfl
theorem f123_eq (c : Orc) (lf : Nat) (l0 : List T) (n1 : Int) : funK c env lf 6 fi123 [.sl l0, .i .i64 n1] = f123 c lf l0 n1 := by
  refine (f123_raw c lf l0 n1).trans ?_
  rfl
/-- loop.example/g00285/laws.szDev -/
def f69_t (c : Orc) (lf : Nat) (l0_0 : List T) (n0_1 : Int) (l0_2 : List T) (b0_3 : Bool) (n1 : Int) : Option (List T) :=
  (c 122 [T.st [T.sl l0_0], T.i .i64 n1]).bind fun r24 =>
  bif iLt (asI (nth r24 0)) 0 then
    some [T.i .i64 (-1)]
  else
    (c 123 [T.sl l0_2, T.i .i64 (asI (nth r24 0))]).bind fun r25 =>
    bif iLt (asI (nth r25 0)) 0 then
      some [T.i .i64 (-1)]
    else
      some [T.i .i64 (asI (nth r25 0))]
def f69 (c : Orc) (lf : Nat) (l0_0 : List T) (n0_1 : Int) (l0_2 : List T) (b0_3 : Bool) (n1 : Int) : Option (List T) := f69_t c lf l0_0 n0_1 l0_2 b0_3 n1
theorem f69_raw (c : Orc) (lf : Nat) (l0_0 : List T) (n0_1 : Int) (l0_2 : List T) (b0_3 : Bool) (n1 : Int) : funK c env lf 6 fi69 [.st [.sl l0_0, .i .i64 n0_1, .sl l0_2, .b b0_3], .i .i64 n1] = f69_t c lf l0_0 n0_1 l0_2 b0_3 n1 := by kernel_rfl
theorem f69_eq (c : Orc) (lf : Nat) (l0_0 : List T) (n0_1 : Int) (l0_2 : List T) (b0_3 : Bool) (n1 : Int) : funK c env lf 6 fi69 [.st [.sl l0_0, .i .i64 n0_1, .sl l0_2, .b b0_3], .i .i64 n1] = f69 c lf l0_0 n0_1 l0_2 b0_3 n1 := by
  refine (f69_raw c lf l0_0 n0_1 l0_2 b0_3 n1).trans ?_
  rfl
/-- loop.example/g00285/laws.szLog -/
def f18_t (c : Orc) (lf : Nat) (l0_0 : List T) (n0_1 : Int) (l0_2 : List T) (b0_3 : Bool) (n0_4 : Int) (n1 : Int) : Option (List T) :=
  (c 69 [T.st [T.sl l0_0, T.i .i64 n0_1, T.sl l0_2, T.b b0_3], T.i .i64 n1]).bind fun r26 =>
  bif iLt (asI (nth r26 0)) 0 then
    some [T.i .i64 (-1)]
  else
    some [T.i .i64 (asI (nth r26 0))]
def f18 (c : Orc) (lf : Nat) (l0_0 : List T) (n0_1 : Int) (l0_2 : List T) (b0_3 : Bool) (n0_4 : Int) (n1 : Int) : Option (List T) := f18_t c lf l0_0 n0_1 l0_2 b0_3 n0_4 n1
theorem f18_raw (c : Orc) (lf : Nat) (l0_0 : List T) (n0_1 : Int) (l0_2 : List T) (b0_3 : Bool) (n0_4 : Int) (n1 : Int) : funK c env lf 6 fi18 [.st [.sl l0_0, .i .i64 n0_1, .sl l0_2, .b b0_3, .i .i64 n0_4], .i .i64 n1] = f18_t c lf l0_0 n0_1 l0_2 b0_3 n0_4 n1 := by kernel_rfl
theorem f18_eq (c : Orc) (lf : Nat) (l0_0 : List T) (n0_1 : Int) (l0_2 : List T) (b0_3 : Bool) (n0_4 : Int) (n1 : Int) : funK c env lf 6 fi18 [.st [.sl l0_0, .i .i64 n0_1, .sl l0_2, .b b0_3, .i .i64 n0_4], .i .i64 n1] = f18 c lf l0_0 n0_1 l0_2 b0_3 n0_4 n1 := by
  refine (f18_raw c lf l0_0 n0_1 l0_2 b0_3 n0_4 n1).trans ?_
  rfl
/-- loop.example/g00285/laws.toByteS, the loop at region 3. -/
def f47_0_s (c : Orc) (lf : Nat) (l0 : List T) (L : Int → List T → Option (List T)) (x30 : Int) (x31 : List T) : Option (List T) :=
  bif iLt x30 (l0.length : Int) then
    bif inR x30 l0.length then
    bif inR x30 x31.length then
    L (IntKind.wrap .i64 (x30 + 1)) (x31.set x30.toNat (T.i .u8 (asI (l0.getD x30.toNat T.u))))
    else none
    else none
  else
    some [T.i .i64 0, T.sl x31]
def f47_0_c (l0 : List T) (x30 : Int) (x31 : List T) : CSt := ⟨[.ro 0 false [.i .u8] l0, .rf 1 [] 0 none, .i .i64 x30], [.dead, .row false [.i .u8] x31 0 false]⟩
theorem f47_0_round (c : Orc) (lf : Nat) (l0 : List T) (L : CSt → Option (List T)) (x30 : Int) (x31 : List T) :
    roundK c env lf 6 fi47 1 3 [] [0, 3, 4] (x47_3_0) L (f47_0_c l0 x30 x31) = f47_0_s c lf l0 (fun x30 x31 => L (f47_0_c l0 x30 x31)) x30 x31 := by kernel_rfl
def f47_0 (c : Orc) (lf : Nat) (l0 : List T) : Nat → Int → List T → Option (List T)
  | 0 => fun _ _ => none
  | n + 1 => fun x30 x31 => f47_0_s c lf l0 (f47_0 c lf l0 n) x30 x31
theorem f47_0_u (c : Orc) (lf : Nat) (l0 : List T) (n : Nat) (x30 : Int) (x31 : List T) : f47_0 c lf l0 (n + 1) x30 x31 = f47_0_s c lf l0 (f47_0 c lf l0 n) x30 x31 := rfl
theorem f47_0_eq (c : Orc) (lf : Nat) (l0 : List T) (n : Nat) (x30 : Int) (x31 : List T) :
    lpK c env lf 6 fi47 1 3 [] [0, 3, 4] (x47_3_0) n (f47_0_c l0 x30 x31) = f47_0 c lf l0 n x30 x31 := by
  induction n generalizing x30 x31 with
  | zero => rfl
  | succ n ih =>
    refine (f47_0_round c lf l0 _ x30 x31).trans ?_
    have e : (fun x30 x31 => lpK c env lf 6 fi47 1 3 [] [0, 3, 4] (x47_3_0) n (f47_0_c l0 x30 x31)) = f47_0 c lf l0 n := by funext x30 x31; exact ih x30 x31
    show f47_0_s c lf l0 (fun x30 x31 => lpK c env lf 6 fi47 1 3 [] [0, 3, 4] (x47_3_0) n (f47_0_c l0 x30 x31)) x30 x31 = _
    rw [e]; rfl
/-- loop.example/g00285/laws.toByteS -/
def f47_t (c : Orc) (lf : Nat) (lp0 : List T → Int → List T → Option (List T)) (l0 : List T) : Option (List T) :=
  bif iLe 0 (l0.length : Int) && iLe (l0.length : Int) (LIM : Int) && ((l0.length : Int) == (l0.length : Int)) then
  (lp0 l0 0 (List.replicate (l0.length : Int).toNat (T.i .u8 0))).bind fun r32 =>
  some [T.sl (asL (nth r32 1))]
  else none
def f47 (c : Orc) (lf : Nat) (l0 : List T) : Option (List T) := f47_t c lf (fun (l0 : List T) (x30 : Int) (x31 : List T) => f47_0 c lf l0 lf x30 x31) l0
theorem f47_raw (c : Orc) (lf : Nat) (l0 : List T) : funK c env lf 6 fi47 [.sl l0] = f47_t c lf (fun (l0 : List T) (x30 : Int) (x31 : List T) => lpK c env lf 6 fi47 1 3 [] [0, 3, 4] (x47_3_0) lf (f47_0_c l0 x30 x31)) l0 := by kernel_rfl
theorem f47_eq (c : Orc) (lf : Nat) (l0 : List T) : funK c env lf 6 fi47 [.sl l0] = f47 c lf l0 := by
  refine (f47_raw c lf l0).trans ?_
  have e0 : (fun (l0 : List T) (x30 : Int) (x31 : List T) => lpK c env lf 6 fi47 1 3 [] [0, 3, 4] (x47_3_0) lf (f47_0_c l0 x30 x31)) = (fun (l0 : List T) (x30 : Int) (x31 : List T) => f47_0 c lf l0 lf x30 x31) := by funext l0 x30 x31; exact f47_0_eq c lf l0 lf x30 x31
  rw [e0]; rfl
/-- loop.example/g00285/laws.toPage -/
def f253_t (c : Orc) (lf : Nat) (b0_0 : Bool) (l0_1 : List T) : Option (List T) :=
  (c 47 [T.sl l0_1]).bind fun r33 =>
  some [T.st [T.b b0_0, T.sl (asL (nth r33 0))]]
def f253 (c : Orc) (lf : Nat) (b0_0 : Bool) (l0_1 : List T) : Option (List T) := f253_t c lf b0_0 l0_1
theorem f253_raw (c : Orc) (lf : Nat) (b0_0 : Bool) (l0_1 : List T) : funK c env lf 6 fi253 [.st [.b b0_0, .sl l0_1]] = f253_t c lf b0_0 l0_1 := by kernel_rfl
theorem f253_eq (c : Orc) (lf : Nat) (b0_0 : Bool) (l0_1 : List T) : funK c env lf 6 fi253 [.st [.b b0_0, .sl l0_1]] = f253 c lf b0_0 l0_1 := by
  refine (f253_raw c lf b0_0 l0_1).trans ?_
  rfl
/-- loop.example/g00285/laws.toPageS, the loop at region 3. -/
def f243_0_s (c : Orc) (lf : Nat) (l0 : List T) (L : Int → List T → Option (List T)) (x40 : Int) (x41 : List T) : Option (List T) :=
  bif iLt x40 (l0.length : Int) then
    bif inR x40 l0.length then
    (c 253 [T.st [T.b (asB (T.cell (l0.getD x40.toNat T.u) 0)), T.sl (asL (T.cell (l0.getD x40.toNat T.u) 1))]]).bind fun r42 =>
    bif inR x40 x41.length then
    L (IntKind.wrap .i64 (x40 + 1)) (x41.set x40.toNat (T.st [T.b (asB (T.cell (nth r42 0) 0)), T.sl (asL (T.cell (nth r42 0) 1))]))
    else none
    else none
  else
    some [T.i .i64 0, T.sl x41]
def f243_0_c (l0 : List T) (x40 : Int) (x41 : List T) : CSt := ⟨[.ro 0 true [.b, .sl false [.i .u8]] l0, .rf 1 [] 0 none, .i .i64 x40], [.dead, .row true [.b, .sl false [.i .u8]] x41 0 false]⟩
theorem f243_0_round (c : Orc) (lf : Nat) (l0 : List T) (L : CSt → Option (List T)) (x40 : Int) (x41 : List T) :
    roundK c env lf 6 fi243 1 3 [] [0, 3, 4] (x243_3_0) L (f243_0_c l0 x40 x41) = f243_0_s c lf l0 (fun x40 x41 => L (f243_0_c l0 x40 x41)) x40 x41 := by kernel_rfl
def f243_0 (c : Orc) (lf : Nat) (l0 : List T) : Nat → Int → List T → Option (List T)
  | 0 => fun _ _ => none
  | n + 1 => fun x40 x41 => f243_0_s c lf l0 (f243_0 c lf l0 n) x40 x41
theorem f243_0_u (c : Orc) (lf : Nat) (l0 : List T) (n : Nat) (x40 : Int) (x41 : List T) : f243_0 c lf l0 (n + 1) x40 x41 = f243_0_s c lf l0 (f243_0 c lf l0 n) x40 x41 := rfl
theorem f243_0_eq (c : Orc) (lf : Nat) (l0 : List T) (n : Nat) (x40 : Int) (x41 : List T) :
    lpK c env lf 6 fi243 1 3 [] [0, 3, 4] (x243_3_0) n (f243_0_c l0 x40 x41) = f243_0 c lf l0 n x40 x41 := by
  induction n generalizing x40 x41 with
  | zero => rfl
  | succ n ih =>
    refine (f243_0_round c lf l0 _ x40 x41).trans ?_
    have e : (fun x40 x41 => lpK c env lf 6 fi243 1 3 [] [0, 3, 4] (x243_3_0) n (f243_0_c l0 x40 x41)) = f243_0 c lf l0 n := by funext x40 x41; exact ih x40 x41
    show f243_0_s c lf l0 (fun x40 x41 => lpK c env lf 6 fi243 1 3 [] [0, 3, 4] (x243_3_0) n (f243_0_c l0 x40 x41)) x40 x41 = _
    rw [e]; rfl
/-- loop.example/g00285/laws.toPageS -/
def f243_t (c : Orc) (lf : Nat) (lp0 : List T → Int → List T → Option (List T)) (l0 : List T) : Option (List T) :=
  bif iLe 0 (l0.length : Int) && iLe (l0.length : Int) (LIM : Int) && ((l0.length : Int) == (l0.length : Int)) then
  (lp0 l0 0 (List.replicate (l0.length : Int).toNat (T.st [T.b false, T.sl []]))).bind fun r43 =>
  some [T.sl (asL (nth r43 1))]
  else none
def f243 (c : Orc) (lf : Nat) (l0 : List T) : Option (List T) := f243_t c lf (fun (l0 : List T) (x40 : Int) (x41 : List T) => f243_0 c lf l0 lf x40 x41) l0
theorem f243_raw (c : Orc) (lf : Nat) (l0 : List T) : funK c env lf 6 fi243 [.sl l0] = f243_t c lf (fun (l0 : List T) (x40 : Int) (x41 : List T) => lpK c env lf 6 fi243 1 3 [] [0, 3, 4] (x243_3_0) lf (f243_0_c l0 x40 x41)) l0 := by kernel_rfl
theorem f243_eq (c : Orc) (lf : Nat) (l0 : List T) : funK c env lf 6 fi243 [.sl l0] = f243 c lf l0 := by
  refine (f243_raw c lf l0).trans ?_
  have e0 : (fun (l0 : List T) (x40 : Int) (x41 : List T) => lpK c env lf 6 fi243 1 3 [] [0, 3, 4] (x243_3_0) lf (f243_0_c l0 x40 x41)) = (fun (l0 : List T) (x40 : Int) (x41 : List T) => f243_0 c lf l0 lf x40 x41) := by funext l0 x40 x41; exact f243_0_eq c lf l0 lf x40 x41
  rw [e0]; rfl
/-- loop.example/g00285/laws.toBlock -/
def f220_t (c : Orc) (lf : Nat) (l0_0 : List T) (n0_1 : Int) (b0_2 : Bool) : Option (List T) :=
  (c 243 [T.sl l0_0]).bind fun r44 =>
  some [T.st [T.sl (asL (nth r44 0)), T.i .i64 n0_1, T.b b0_2]]
def f220 (c : Orc) (lf : Nat) (l0_0 : List T) (n0_1 : Int) (b0_2 : Bool) : Option (List T) := f220_t c lf l0_0 n0_1 b0_2
theorem f220_raw (c : Orc) (lf : Nat) (l0_0 : List T) (n0_1 : Int) (b0_2 : Bool) : funK c env lf 6 fi220 [.st [.sl l0_0, .i .i64 n0_1, .b b0_2]] = f220_t c lf l0_0 n0_1 b0_2 := by kernel_rfl
theorem f220_eq (c : Orc) (lf : Nat) (l0_0 : List T) (n0_1 : Int) (b0_2 : Bool) : funK c env lf 6 fi220 [.st [.sl l0_0, .i .i64 n0_1, .b b0_2]] = f220 c lf l0_0 n0_1 b0_2 := by
  refine (f220_raw c lf l0_0 n0_1 b0_2).trans ?_
  rfl
/-- loop.example/g00285/laws.toBlockS, the loop at region 3. -/
def f177_0_s (c : Orc) (lf : Nat) (l0 : List T) (L : Int → List T → Option (List T)) (x51 : Int) (x52 : List T) : Option (List T) :=
  bif iLt x51 (l0.length : Int) then
    bif inR x51 l0.length then
    (c 220 [T.st [T.sl (asL (T.cell (l0.getD x51.toNat T.u) 0)), T.i .i64 (asI (T.cell (l0.getD x51.toNat T.u) 1)), T.b (asB (T.cell (l0.getD x51.toNat T.u) 2))]]).bind fun r53 =>
    bif inR x51 x52.length then
    L (IntKind.wrap .i64 (x51 + 1)) (x52.set x51.toNat (T.st [T.sl (asL (T.cell (nth r53 0) 0)), T.i .i64 (asI (T.cell (nth r53 0) 1)), T.b (asB (T.cell (nth r53 0) 2))]))
    else none
    else none
  else
    some [T.i .i64 0, T.sl x52]
def f177_0_c (l0 : List T) (x51 : Int) (x52 : List T) : CSt := ⟨[.ro 0 true [.sl true [.b, .sl false [.i .u8]], .i .i64, .b] l0, .rf 1 [] 0 none, .i .i64 x51], [.dead, .row true [.sl true [.b, .sl false [.i .u8]], .i .i64, .b] x52 0 false]⟩
theorem f177_0_round (c : Orc) (lf : Nat) (l0 : List T) (L : CSt → Option (List T)) (x51 : Int) (x52 : List T) :
    roundK c env lf 6 fi177 1 3 [] [0, 3, 4] (x177_3_0) L (f177_0_c l0 x51 x52) = f177_0_s c lf l0 (fun x51 x52 => L (f177_0_c l0 x51 x52)) x51 x52 := by kernel_rfl
def f177_0 (c : Orc) (lf : Nat) (l0 : List T) : Nat → Int → List T → Option (List T)
  | 0 => fun _ _ => none
  | n + 1 => fun x51 x52 => f177_0_s c lf l0 (f177_0 c lf l0 n) x51 x52
theorem f177_0_u (c : Orc) (lf : Nat) (l0 : List T) (n : Nat) (x51 : Int) (x52 : List T) : f177_0 c lf l0 (n + 1) x51 x52 = f177_0_s c lf l0 (f177_0 c lf l0 n) x51 x52 := rfl
theorem f177_0_eq (c : Orc) (lf : Nat) (l0 : List T) (n : Nat) (x51 : Int) (x52 : List T) :
    lpK c env lf 6 fi177 1 3 [] [0, 3, 4] (x177_3_0) n (f177_0_c l0 x51 x52) = f177_0 c lf l0 n x51 x52 := by
  induction n generalizing x51 x52 with
  | zero => rfl
  | succ n ih =>
    refine (f177_0_round c lf l0 _ x51 x52).trans ?_
    have e : (fun x51 x52 => lpK c env lf 6 fi177 1 3 [] [0, 3, 4] (x177_3_0) n (f177_0_c l0 x51 x52)) = f177_0 c lf l0 n := by funext x51 x52; exact ih x51 x52
    show f177_0_s c lf l0 (fun x51 x52 => lpK c env lf 6 fi177 1 3 [] [0, 3, 4] (x177_3_0) n (f177_0_c l0 x51 x52)) x51 x52 = _
    rw [e]; rfl
/-- loop.example/g00285/laws.toBlockS -/
def f177_t (c : Orc) (lf : Nat) (lp0 : List T → Int → List T → Option (List T)) (l0 : List T) : Option (List T) :=
  bif iLe 0 (l0.length : Int) && iLe (l0.length : Int) (LIM : Int) && ((l0.length : Int) == (l0.length : Int)) then
  (lp0 l0 0 (List.replicate (l0.length : Int).toNat (T.st [T.sl [], T.i .i64 0, T.b false]))).bind fun r54 =>
  some [T.sl (asL (nth r54 1))]
  else none
def f177 (c : Orc) (lf : Nat) (l0 : List T) : Option (List T) := f177_t c lf (fun (l0 : List T) (x51 : Int) (x52 : List T) => f177_0 c lf l0 lf x51 x52) l0
theorem f177_raw (c : Orc) (lf : Nat) (l0 : List T) : funK c env lf 6 fi177 [.sl l0] = f177_t c lf (fun (l0 : List T) (x51 : Int) (x52 : List T) => lpK c env lf 6 fi177 1 3 [] [0, 3, 4] (x177_3_0) lf (f177_0_c l0 x51 x52)) l0 := by kernel_rfl
theorem f177_eq (c : Orc) (lf : Nat) (l0 : List T) : funK c env lf 6 fi177 [.sl l0] = f177 c lf l0 := by
  refine (f177_raw c lf l0).trans ?_
  have e0 : (fun (l0 : List T) (x51 : Int) (x52 : List T) => lpK c env lf 6 fi177 1 3 [] [0, 3, 4] (x177_3_0) lf (f177_0_c l0 x51 x52)) = (fun (l0 : List T) (x51 : Int) (x52 : List T) => f177_0 c lf l0 lf x51 x52) := by funext l0 x51 x52; exact f177_0_eq c lf l0 lf x51 x52
  rw [e0]; rfl
/-- loop.example/g00285/laws.toChip -/
def f126_t (c : Orc) (lf : Nat) (l0_0 : List T) : Option (List T) :=
  (c 177 [T.sl l0_0]).bind fun r55 =>
  some [T.st [T.sl (asL (nth r55 0))]]
def f126 (c : Orc) (lf : Nat) (l0_0 : List T) : Option (List T) := f126_t c lf l0_0
theorem f126_raw (c : Orc) (lf : Nat) (l0_0 : List T) : funK c env lf 6 fi126 [.st [.sl l0_0]] = f126_t c lf l0_0 := by kernel_rfl
theorem f126_eq (c : Orc) (lf : Nat) (l0_0 : List T) : funK c env lf 6 fi126 [.st [.sl l0_0]] = f126 c lf l0_0 := by
  refine (f126_raw c lf l0_0).trans ?_
  rfl
/-- loop.example/g00285/laws.toFault -/
def f178_t (c : Orc) (lf : Nat) (n0_0 : Int) (n0_1 : Int) (n0_2 : Int) : Option (List T) :=
  some [T.st [T.i .i64 n0_0, T.i .i64 n0_1, T.i .i64 n0_2]]
def f178 (c : Orc) (lf : Nat) (n0_0 : Int) (n0_1 : Int) (n0_2 : Int) : Option (List T) := f178_t c lf n0_0 n0_1 n0_2
theorem f178_raw (c : Orc) (lf : Nat) (n0_0 : Int) (n0_1 : Int) (n0_2 : Int) : funK c env lf 6 fi178 [.st [.i .i64 n0_0, .i .i64 n0_1, .i .i64 n0_2]] = f178_t c lf n0_0 n0_1 n0_2 := by kernel_rfl
theorem f178_eq (c : Orc) (lf : Nat) (n0_0 : Int) (n0_1 : Int) (n0_2 : Int) : funK c env lf 6 fi178 [.st [.i .i64 n0_0, .i .i64 n0_1, .i .i64 n0_2]] = f178 c lf n0_0 n0_1 n0_2 := by
  refine (f178_raw c lf n0_0 n0_1 n0_2).trans ?_
  rfl
/-- loop.example/g00285/laws.toFaultS, the loop at region 3. -/
def f127_0_s (c : Orc) (lf : Nat) (l0 : List T) (L : Int → List T → Option (List T)) (x62 : Int) (x63 : List T) : Option (List T) :=
  bif iLt x62 (l0.length : Int) then
    bif inR x62 l0.length then
    (c 178 [T.st [T.i .i64 (asI (T.cell (l0.getD x62.toNat T.u) 0)), T.i .i64 (asI (T.cell (l0.getD x62.toNat T.u) 1)), T.i .i64 (asI (T.cell (l0.getD x62.toNat T.u) 2))]]).bind fun r64 =>
    bif inR x62 x63.length then
    L (IntKind.wrap .i64 (x62 + 1)) (x63.set x62.toNat (T.st [T.i .i64 (asI (T.cell (nth r64 0) 0)), T.i .i64 (asI (T.cell (nth r64 0) 1)), T.i .i64 (asI (T.cell (nth r64 0) 2))]))
    else none
    else none
  else
    some [T.i .i64 0, T.sl x63]
def f127_0_c (l0 : List T) (x62 : Int) (x63 : List T) : CSt := ⟨[.ro 0 true [.i .i64, .i .i64, .i .i64] l0, .rf 1 [] 0 none, .i .i64 x62], [.dead, .row true [.i .i64, .i .i64, .i .i64] x63 0 false]⟩
theorem f127_0_round (c : Orc) (lf : Nat) (l0 : List T) (L : CSt → Option (List T)) (x62 : Int) (x63 : List T) :
    roundK c env lf 6 fi127 1 3 [] [0, 3, 4] (x127_3_0) L (f127_0_c l0 x62 x63) = f127_0_s c lf l0 (fun x62 x63 => L (f127_0_c l0 x62 x63)) x62 x63 := by kernel_rfl
def f127_0 (c : Orc) (lf : Nat) (l0 : List T) : Nat → Int → List T → Option (List T)
  | 0 => fun _ _ => none
  | n + 1 => fun x62 x63 => f127_0_s c lf l0 (f127_0 c lf l0 n) x62 x63
theorem f127_0_u (c : Orc) (lf : Nat) (l0 : List T) (n : Nat) (x62 : Int) (x63 : List T) : f127_0 c lf l0 (n + 1) x62 x63 = f127_0_s c lf l0 (f127_0 c lf l0 n) x62 x63 := rfl
theorem f127_0_eq (c : Orc) (lf : Nat) (l0 : List T) (n : Nat) (x62 : Int) (x63 : List T) :
    lpK c env lf 6 fi127 1 3 [] [0, 3, 4] (x127_3_0) n (f127_0_c l0 x62 x63) = f127_0 c lf l0 n x62 x63 := by
  induction n generalizing x62 x63 with
  | zero => rfl
  | succ n ih =>
    refine (f127_0_round c lf l0 _ x62 x63).trans ?_
    have e : (fun x62 x63 => lpK c env lf 6 fi127 1 3 [] [0, 3, 4] (x127_3_0) n (f127_0_c l0 x62 x63)) = f127_0 c lf l0 n := by funext x62 x63; exact ih x62 x63
    show f127_0_s c lf l0 (fun x62 x63 => lpK c env lf 6 fi127 1 3 [] [0, 3, 4] (x127_3_0) n (f127_0_c l0 x62 x63)) x62 x63 = _
    rw [e]; rfl
/-- loop.example/g00285/laws.toFaultS -/
def f127_t (c : Orc) (lf : Nat) (lp0 : List T → Int → List T → Option (List T)) (l0 : List T) : Option (List T) :=
  bif iLe 0 (l0.length : Int) && iLe (l0.length : Int) (LIM : Int) && ((l0.length : Int) == (l0.length : Int)) then
  (lp0 l0 0 (List.replicate (l0.length : Int).toNat (T.st [T.i .i64 0, T.i .i64 0, T.i .i64 0]))).bind fun r65 =>
  some [T.sl (asL (nth r65 1))]
  else none
def f127 (c : Orc) (lf : Nat) (l0 : List T) : Option (List T) := f127_t c lf (fun (l0 : List T) (x62 : Int) (x63 : List T) => f127_0 c lf l0 lf x62 x63) l0
theorem f127_raw (c : Orc) (lf : Nat) (l0 : List T) : funK c env lf 6 fi127 [.sl l0] = f127_t c lf (fun (l0 : List T) (x62 : Int) (x63 : List T) => lpK c env lf 6 fi127 1 3 [] [0, 3, 4] (x127_3_0) lf (f127_0_c l0 x62 x63)) l0 := by kernel_rfl
theorem f127_eq (c : Orc) (lf : Nat) (l0 : List T) : funK c env lf 6 fi127 [.sl l0] = f127 c lf l0 := by
  refine (f127_raw c lf l0).trans ?_
  have e0 : (fun (l0 : List T) (x62 : Int) (x63 : List T) => lpK c env lf 6 fi127 1 3 [] [0, 3, 4] (x127_3_0) lf (f127_0_c l0 x62 x63)) = (fun (l0 : List T) (x62 : Int) (x63 : List T) => f127_0 c lf l0 lf x62 x63) := by funext l0 x62 x63; exact f127_0_eq c lf l0 lf x62 x63
  rw [e0]; rfl
/-- loop.example/g00285/laws.toDev -/
def f73_t (c : Orc) (lf : Nat) (l0_0 : List T) (n0_1 : Int) (l0_2 : List T) (b0_3 : Bool) : Option (List T) :=
  (c 126 [T.st [T.sl l0_0]]).bind fun r66 =>
  (c 127 [T.sl l0_2]).bind fun r67 =>
  some [T.st [T.sl (asL (T.cell (nth r66 0) 0)), T.i .i64 n0_1, T.sl (asL (nth r67 0)), T.b b0_3]]
def f73 (c : Orc) (lf : Nat) (l0_0 : List T) (n0_1 : Int) (l0_2 : List T) (b0_3 : Bool) : Option (List T) := f73_t c lf l0_0 n0_1 l0_2 b0_3
theorem f73_raw (c : Orc) (lf : Nat) (l0_0 : List T) (n0_1 : Int) (l0_2 : List T) (b0_3 : Bool) : funK c env lf 6 fi73 [.st [.sl l0_0, .i .i64 n0_1, .sl l0_2, .b b0_3]] = f73_t c lf l0_0 n0_1 l0_2 b0_3 := by kernel_rfl
theorem f73_eq (c : Orc) (lf : Nat) (l0_0 : List T) (n0_1 : Int) (l0_2 : List T) (b0_3 : Bool) : funK c env lf 6 fi73 [.st [.sl l0_0, .i .i64 n0_1, .sl l0_2, .b b0_3]] = f73 c lf l0_0 n0_1 l0_2 b0_3 := by
  refine (f73_raw c lf l0_0 n0_1 l0_2 b0_3).trans ?_
  rfl
/-- loop.example/g00285/laws.toLog -/
def f20_t (c : Orc) (lf : Nat) (l0_0 : List T) (n0_1 : Int) (l0_2 : List T) (b0_3 : Bool) (n0_4 : Int) : Option (List T) :=
  (c 73 [T.st [T.sl l0_0, T.i .i64 n0_1, T.sl l0_2, T.b b0_3]]).bind fun r68 =>
  some [T.st [T.sl (asL (T.cell (nth r68 0) 0)), T.i .i64 (asI (T.cell (nth r68 0) 1)), T.sl (asL (T.cell (nth r68 0) 2)), T.b (asB (T.cell (nth r68 0) 3)), T.i .i64 n0_4]]
def f20 (c : Orc) (lf : Nat) (l0_0 : List T) (n0_1 : Int) (l0_2 : List T) (b0_3 : Bool) (n0_4 : Int) : Option (List T) := f20_t c lf l0_0 n0_1 l0_2 b0_3 n0_4
theorem f20_raw (c : Orc) (lf : Nat) (l0_0 : List T) (n0_1 : Int) (l0_2 : List T) (b0_3 : Bool) (n0_4 : Int) : funK c env lf 6 fi20 [.st [.sl l0_0, .i .i64 n0_1, .sl l0_2, .b b0_3, .i .i64 n0_4]] = f20_t c lf l0_0 n0_1 l0_2 b0_3 n0_4 := by kernel_rfl
theorem f20_eq (c : Orc) (lf : Nat) (l0_0 : List T) (n0_1 : Int) (l0_2 : List T) (b0_3 : Bool) (n0_4 : Int) : funK c env lf 6 fi20 [.st [.sl l0_0, .i .i64 n0_1, .sl l0_2, .b b0_3, .i .i64 n0_4]] = f20 c lf l0_0 n0_1 l0_2 b0_3 n0_4 := by
  refine (f20_raw c lf l0_0 n0_1 l0_2 b0_3 n0_4).trans ?_
  rfl
/-- loop.example/g00285/spec.ReadPage -/
def f79_t (c : Orc) (lf : Nat) (l0_0 : List T) (n1 : Int) (n2 : Int) : Option (List T) :=
  bif iLt n1 0 then
    some [T.sl ([] : List T), T.b false]
  else
    bif iLe (l0_0.length : Int) n1 then
      some [T.sl ([] : List T), T.b false]
    else
      bif iLt n2 0 then
        some [T.sl ([] : List T), T.b false]
      else
        bif inR n1 l0_0.length then
        bif iLe ((asL (T.cell (l0_0.getD n1.toNat T.u) 0)).length : Int) n2 then
          some [T.sl ([] : List T), T.b false]
        else
          bif inR n1 l0_0.length then
          bif inR n2 ((asL (T.cell (l0_0.getD n1.toNat T.u) 0)).length) then
          bif !(asB (T.cell ((asL (T.cell (l0_0.getD n1.toNat T.u) 0)).getD n2.toNat T.u) 0)) then
            some [T.sl ([] : List T), T.b false]
          else
            bif inR n1 l0_0.length then
            bif inR n2 ((asL (T.cell (l0_0.getD n1.toNat T.u) 0)).length) then
            bif nLe (([] : List T).length + (asL (T.cell ((asL (T.cell (l0_0.getD n1.toNat T.u) 0)).getD n2.toNat T.u) 1)).length) LIM then
            some [T.sl (([] : List T) ++ (asL (T.cell ((asL (T.cell (l0_0.getD n1.toNat T.u) 0)).getD n2.toNat T.u) 1))), T.b true]
            else none
            else none
            else none
          else none
          else none
        else none
def f79 (c : Orc) (lf : Nat) (l0_0 : List T) (n1 : Int) (n2 : Int) : Option (List T) := f79_t c lf l0_0 n1 n2
theorem f79_raw (c : Orc) (lf : Nat) (l0_0 : List T) (n1 : Int) (n2 : Int) : funK c env lf 6 fi79 [.st [.sl l0_0], .i .i64 n1, .i .i64 n2] = f79_t c lf l0_0 n1 n2 := by kernel_rfl
theorem f79_eq (c : Orc) (lf : Nat) (l0_0 : List T) (n1 : Int) (n2 : Int) : funK c env lf 6 fi79 [.st [.sl l0_0], .i .i64 n1, .i .i64 n2] = f79 c lf l0_0 n1 n2 := by
  refine (f79_raw c lf l0_0 n1 n2).trans ?_
  rfl
/-- loop.example/g00285/spec.GetNum, the loop at region 3. -/
def f181_0_s (c : Orc) (lf : Nat) (l0 : List T) (n1 : Int) (L : Int → Int → Option (List T)) (x72 : Int) (x73 : Int) : Option (List T) :=
  bif iLt x73 3 then
    bif iLe 0 n1 then
      bif iLt n1 (l0.length : Int) then
        bif iLt (IntKind.wrap .i64 (n1 + x73)) (l0.length : Int) then
          bif inR (IntKind.wrap .i64 (n1 + x73)) l0.length then
          bif iLe 0 (IntKind.wrap .u64 (IntKind.wrap .i64 (7 * x73))) then
          bif iLt 127 (IntKind.wrap .i64 (asI (l0.getD ((IntKind.wrap .i64 (n1 + x73)).toNat) T.u))) then
            L (intBits .or .i64 x72 (shiftI .shl .i64 (intBits .and .i64 (IntKind.wrap .i64 (asI (l0.getD ((IntKind.wrap .i64 (n1 + x73)).toNat) T.u))) 127) (IntKind.wrap .u64 (IntKind.wrap .i64 (7 * x73))))) (IntKind.wrap .i64 (x73 + 1))
          else
            bif iLt 0 x73 then
              bif (IntKind.wrap .i64 (asI (l0.getD ((IntKind.wrap .i64 (n1 + x73)).toNat) T.u))) == 0 then
                some [T.i .i64 0, T.i .i64 0, T.i .i64 0, T.b false]
              else
                bif iLt 1000000 (intBits .or .i64 x72 (shiftI .shl .i64 (intBits .and .i64 (IntKind.wrap .i64 (asI (l0.getD ((IntKind.wrap .i64 (n1 + x73)).toNat) T.u))) 127) (IntKind.wrap .u64 (IntKind.wrap .i64 (7 * x73))))) then
                  some [T.i .i64 0, T.i .i64 0, T.i .i64 0, T.b false]
                else
                  some [T.i .i64 0, T.i .i64 (intBits .or .i64 x72 (shiftI .shl .i64 (intBits .and .i64 (IntKind.wrap .i64 (asI (l0.getD ((IntKind.wrap .i64 (n1 + x73)).toNat) T.u))) 127) (IntKind.wrap .u64 (IntKind.wrap .i64 (7 * x73))))), T.i .i64 (IntKind.wrap .i64 ((IntKind.wrap .i64 (n1 + x73)) + 1)), T.b true]
            else
              bif iLt 1000000 (intBits .or .i64 x72 (shiftI .shl .i64 (intBits .and .i64 (IntKind.wrap .i64 (asI (l0.getD ((IntKind.wrap .i64 (n1 + x73)).toNat) T.u))) 127) (IntKind.wrap .u64 (IntKind.wrap .i64 (7 * x73))))) then
                some [T.i .i64 0, T.i .i64 0, T.i .i64 0, T.b false]
              else
                some [T.i .i64 0, T.i .i64 (intBits .or .i64 x72 (shiftI .shl .i64 (intBits .and .i64 (IntKind.wrap .i64 (asI (l0.getD ((IntKind.wrap .i64 (n1 + x73)).toNat) T.u))) 127) (IntKind.wrap .u64 (IntKind.wrap .i64 (7 * x73))))), T.i .i64 (IntKind.wrap .i64 ((IntKind.wrap .i64 (n1 + x73)) + 1)), T.b true]
          else none
          else none
        else
          some [T.i .i64 1]
      else
        some [T.i .i64 1]
    else
      some [T.i .i64 1]
  else
    some [T.i .i64 1]
def f181_0_c (l0 : List T) (n1 : Int) (x72 : Int) (x73 : Int) : CSt := ⟨[.ro 0 false [.i .u8] l0, .i .i64 n1, .i .i64 x72, .i .i64 x73], [.dead, .dead]⟩
theorem f181_0_round (c : Orc) (lf : Nat) (l0 : List T) (n1 : Int) (L : CSt → Option (List T)) (x72 : Int) (x73 : Int) :
    roundK c env lf 6 fi181 2 3 [] [0, 1, 7, 8] (x181_3_0) L (f181_0_c l0 n1 x72 x73) = f181_0_s c lf l0 n1 (fun x72 x73 => L (f181_0_c l0 n1 x72 x73)) x72 x73 := by kernel_rfl
def f181_0 (c : Orc) (lf : Nat) (l0 : List T) (n1 : Int) : Nat → Int → Int → Option (List T)
  | 0 => fun _ _ => none
  | n + 1 => fun x72 x73 => f181_0_s c lf l0 n1 (f181_0 c lf l0 n1 n) x72 x73
theorem f181_0_u (c : Orc) (lf : Nat) (l0 : List T) (n1 : Int) (n : Nat) (x72 : Int) (x73 : Int) : f181_0 c lf l0 n1 (n + 1) x72 x73 = f181_0_s c lf l0 n1 (f181_0 c lf l0 n1 n) x72 x73 := rfl
theorem f181_0_eq (c : Orc) (lf : Nat) (l0 : List T) (n1 : Int) (n : Nat) (x72 : Int) (x73 : Int) :
    lpK c env lf 6 fi181 2 3 [] [0, 1, 7, 8] (x181_3_0) n (f181_0_c l0 n1 x72 x73) = f181_0 c lf l0 n1 n x72 x73 := by
  induction n generalizing x72 x73 with
  | zero => rfl
  | succ n ih =>
    refine (f181_0_round c lf l0 n1 _ x72 x73).trans ?_
    have e : (fun x72 x73 => lpK c env lf 6 fi181 2 3 [] [0, 1, 7, 8] (x181_3_0) n (f181_0_c l0 n1 x72 x73)) = f181_0 c lf l0 n1 n := by funext x72 x73; exact ih x72 x73
    show f181_0_s c lf l0 n1 (fun x72 x73 => lpK c env lf 6 fi181 2 3 [] [0, 1, 7, 8] (x181_3_0) n (f181_0_c l0 n1 x72 x73)) x72 x73 = _
    rw [e]; rfl
/-- loop.example/g00285/spec.GetNum -/
def f181_t (c : Orc) (lf : Nat) (lp0 : List T → Int → Int → Int → Option (List T)) (l0 : List T) (n1 : Int) : Option (List T) :=
  (lp0 l0 n1 0 0).bind fun r74 =>
  bif asI (nth r74 0) == 0 then
    some [T.i .i64 (asI (nth r74 1)), T.i .i64 (asI (nth r74 2)), T.b (asB (nth r74 3))]
  else
    some [T.i .i64 0, T.i .i64 0, T.b false]
def f181 (c : Orc) (lf : Nat) (l0 : List T) (n1 : Int) : Option (List T) := f181_t c lf (fun (l0 : List T) (n1 : Int) (x72 : Int) (x73 : Int) => f181_0 c lf l0 n1 lf x72 x73) l0 n1
theorem f181_raw (c : Orc) (lf : Nat) (l0 : List T) (n1 : Int) : funK c env lf 6 fi181 [.sl l0, .i .i64 n1] = f181_t c lf (fun (l0 : List T) (n1 : Int) (x72 : Int) (x73 : Int) => lpK c env lf 6 fi181 2 3 [] [0, 1, 7, 8] (x181_3_0) lf (f181_0_c l0 n1 x72 x73)) l0 n1 := by kernel_rfl
theorem f181_eq (c : Orc) (lf : Nat) (l0 : List T) (n1 : Int) : funK c env lf 6 fi181 [.sl l0, .i .i64 n1] = f181 c lf l0 n1 := by
  refine (f181_raw c lf l0 n1).trans ?_
  have e0 : (fun (l0 : List T) (n1 : Int) (x72 : Int) (x73 : Int) => lpK c env lf 6 fi181 2 3 [] [0, 1, 7, 8] (x181_3_0) lf (f181_0_c l0 n1 x72 x73)) = (fun (l0 : List T) (n1 : Int) (x72 : Int) (x73 : Int) => f181_0 c lf l0 n1 lf x72 x73) := by funext l0 n1 x72 x73; exact f181_0_eq c lf l0 n1 lf x72 x73
  rw [e0]; rfl
/-- loop.example/g00285/spec.l3Num -/
def f131_t (c : Orc) (lf : Nat) (l0_0 : List T) (n0_1 : Int) (b0_2 : Bool) : Option (List T) :=
  (c 181 [T.sl l0_0, T.i .i64 n0_1]).bind fun r75 =>
  bif b0_2 then
    some [T.i .i64 0, T.st [T.sl l0_0, T.i .i64 n0_1, T.b true]]
  else
    bif !(asB (nth r75 2)) then
      some [T.i .i64 0, T.st [T.sl l0_0, T.i .i64 n0_1, T.b true]]
    else
      some [T.i .i64 (asI (nth r75 0)), T.st [T.sl l0_0, T.i .i64 (asI (nth r75 1)), T.b b0_2]]
def f131 (c : Orc) (lf : Nat) (l0_0 : List T) (n0_1 : Int) (b0_2 : Bool) : Option (List T) := f131_t c lf l0_0 n0_1 b0_2
theorem f131_raw (c : Orc) (lf : Nat) (l0_0 : List T) (n0_1 : Int) (b0_2 : Bool) : funK c env lf 6 fi131 [.st [.sl l0_0, .i .i64 n0_1, .b b0_2]] = f131_t c lf l0_0 n0_1 b0_2 := by kernel_rfl
theorem f131_eq (c : Orc) (lf : Nat) (l0_0 : List T) (n0_1 : Int) (b0_2 : Bool) : funK c env lf 6 fi131 [.st [.sl l0_0, .i .i64 n0_1, .b b0_2]] = f131 c lf l0_0 n0_1 b0_2 := by
  refine (f131_raw c lf l0_0 n0_1 b0_2).trans ?_
  rfl
/-- loop.example/g00285/spec.GetText -/
def f182_t (c : Orc) (lf : Nat) (l0 : List T) (n1 : Int) : Option (List T) :=
  (c 181 [T.sl l0, T.i .i64 n1]).bind fun r76 =>
  bif !(asB (nth r76 2)) then
    some [T.s (⟨#[]⟩ : ByteArray), T.i .i64 0, T.b false]
  else
    bif iLt (IntKind.wrap .i64 ((l0.length : Int) - (asI (nth r76 1)))) (asI (nth r76 0)) then
      some [T.s (⟨#[]⟩ : ByteArray), T.i .i64 0, T.b false]
    else
      bif iLe 0 (asI (nth r76 1)) && iLe (asI (nth r76 1)) (IntKind.wrap .i64 ((asI (nth r76 1)) + (asI (nth r76 0)))) && iLe (IntKind.wrap .i64 ((asI (nth r76 1)) + (asI (nth r76 0)))) (l0.length : Int) then
      some [T.s (bytesOf ((l0.drop ((asI (nth r76 1)).toNat)).take (((IntKind.wrap .i64 ((asI (nth r76 1)) + (asI (nth r76 0)))).toNat) - ((asI (nth r76 1)).toNat)))), T.i .i64 (IntKind.wrap .i64 ((asI (nth r76 1)) + (asI (nth r76 0)))), T.b true]
      else none
def f182 (c : Orc) (lf : Nat) (l0 : List T) (n1 : Int) : Option (List T) := f182_t c lf l0 n1
theorem f182_raw (c : Orc) (lf : Nat) (l0 : List T) (n1 : Int) : funK c env lf 6 fi182 [.sl l0, .i .i64 n1] = f182_t c lf l0 n1 := by kernel_rfl
theorem f182_eq (c : Orc) (lf : Nat) (l0 : List T) (n1 : Int) : funK c env lf 6 fi182 [.sl l0, .i .i64 n1] = f182 c lf l0 n1 := by
  refine (f182_raw c lf l0 n1).trans ?_
  rfl
/-- loop.example/g00285/spec.l3Text -/
def f132_t (c : Orc) (lf : Nat) (l0_0 : List T) (n0_1 : Int) (b0_2 : Bool) : Option (List T) :=
  (c 182 [T.sl l0_0, T.i .i64 n0_1]).bind fun r77 =>
  bif b0_2 then
    some [T.s (⟨#[]⟩ : ByteArray), T.st [T.sl l0_0, T.i .i64 n0_1, T.b true]]
  else
    bif !(asB (nth r77 2)) then
      some [T.s (⟨#[]⟩ : ByteArray), T.st [T.sl l0_0, T.i .i64 n0_1, T.b true]]
    else
      some [T.s (asS (nth r77 0)), T.st [T.sl l0_0, T.i .i64 (asI (nth r77 1)), T.b b0_2]]
def f132 (c : Orc) (lf : Nat) (l0_0 : List T) (n0_1 : Int) (b0_2 : Bool) : Option (List T) := f132_t c lf l0_0 n0_1 b0_2
theorem f132_raw (c : Orc) (lf : Nat) (l0_0 : List T) (n0_1 : Int) (b0_2 : Bool) : funK c env lf 6 fi132 [.st [.sl l0_0, .i .i64 n0_1, .b b0_2]] = f132_t c lf l0_0 n0_1 b0_2 := by kernel_rfl
theorem f132_eq (c : Orc) (lf : Nat) (l0_0 : List T) (n0_1 : Int) (b0_2 : Bool) : funK c env lf 6 fi132 [.st [.sl l0_0, .i .i64 n0_1, .b b0_2]] = f132 c lf l0_0 n0_1 b0_2 := by
  refine (f132_raw c lf l0_0 n0_1 b0_2).trans ?_
  rfl
/-- loop.example/g00285/spec.Crc, the loop at region 7. -/
def f133_1_s (c : Orc) (lf : Nat) (x91 : List T) (x93 : Int) (L : Int → Int → Option (List T)) (x94 : Int) (x95 : Int) : Option (List T) :=
  bif iLt x95 8 then
    bif (intBits .and .i64 x94 1) == 1 then
      L (intBits .xor .i64 (shiftI .shr .i64 x94 1) 2197175160) (IntKind.wrap .i64 (x95 + 1))
    else
      L (shiftI .shr .i64 x94 1) (IntKind.wrap .i64 (x95 + 1))
  else
    some [T.i .i64 0, T.sl x91, T.i .i64 x94, T.i .i64 x93]
def f133_1_c (x91 : List T) (x93 : Int) (x94 : Int) (x95 : Int) : CSt := ⟨[.ro 0 false [.i .u8] x91, .i .i64 x94, .i .i64 x93, .i .i64 x95], [.dead]⟩
theorem f133_1_round (c : Orc) (lf : Nat) (x91 : List T) (x93 : Int) (L : CSt → Option (List T)) (x94 : Int) (x95 : Int) :
    roundK c env lf 6 fi133 1 7 [] [0, 3, 4, 5] (x133_7_0) L (f133_1_c x91 x93 x94 x95) = f133_1_s c lf x91 x93 (fun x94 x95 => L (f133_1_c x91 x93 x94 x95)) x94 x95 := by kernel_rfl
def f133_1 (c : Orc) (lf : Nat) (x91 : List T) (x93 : Int) : Nat → Int → Int → Option (List T)
  | 0 => fun _ _ => none
  | n + 1 => fun x94 x95 => f133_1_s c lf x91 x93 (f133_1 c lf x91 x93 n) x94 x95
theorem f133_1_u (c : Orc) (lf : Nat) (x91 : List T) (x93 : Int) (n : Nat) (x94 : Int) (x95 : Int) : f133_1 c lf x91 x93 (n + 1) x94 x95 = f133_1_s c lf x91 x93 (f133_1 c lf x91 x93 n) x94 x95 := rfl
theorem f133_1_eq (c : Orc) (lf : Nat) (x91 : List T) (x93 : Int) (n : Nat) (x94 : Int) (x95 : Int) :
    lpK c env lf 6 fi133 1 7 [] [0, 3, 4, 5] (x133_7_0) n (f133_1_c x91 x93 x94 x95) = f133_1 c lf x91 x93 n x94 x95 := by
  induction n generalizing x94 x95 with
  | zero => rfl
  | succ n ih =>
    refine (f133_1_round c lf x91 x93 _ x94 x95).trans ?_
    have e : (fun x94 x95 => lpK c env lf 6 fi133 1 7 [] [0, 3, 4, 5] (x133_7_0) n (f133_1_c x91 x93 x94 x95)) = f133_1 c lf x91 x93 n := by funext x94 x95; exact ih x94 x95
    show f133_1_s c lf x91 x93 (fun x94 x95 => lpK c env lf 6 fi133 1 7 [] [0, 3, 4, 5] (x133_7_0) n (f133_1_c x91 x93 x94 x95)) x94 x95 = _
    rw [e]; rfl
/-- loop.example/g00285/spec.Crc, the loop at region 3. -/
def f133_0_s (c : Orc) (lf : Nat) (L : List T → Int → Int → Option (List T)) (lp0 : List T → Int → Int → Int → Option (List T)) (x91 : List T) (x92 : Int) (x93 : Int) : Option (List T) :=
  bif iLt x93 (x91.length : Int) then
    bif inR x93 x91.length then
    (lp0 x91 x93 (intBits .xor .i64 x92 (IntKind.wrap .i64 (asI (x91.getD x93.toNat T.u)))) 0).bind fun r96 =>
    L (asL (nth r96 1)) (asI (nth r96 2)) (IntKind.wrap .i64 ((asI (nth r96 3)) + 1))
    else none
  else
    some [T.i .i64 0, T.i .i64 x92]
def f133_0_c (x91 : List T) (x92 : Int) (x93 : Int) : CSt := ⟨[.ro 0 false [.i .u8] x91, .i .i64 x92, .i .i64 x93], [.dead]⟩
theorem f133_0_round (c : Orc) (lf : Nat) (L : CSt → Option (List T)) (x91 : List T) (x92 : Int) (x93 : Int) :
    roundK c env lf 6 fi133 1 3 [] [0, 3, 4] (x133_3_0) L (f133_0_c x91 x92 x93) = f133_0_s c lf (fun x91 x92 x93 => L (f133_0_c x91 x92 x93)) (fun (x91 : List T) (x93 : Int) (x94 : Int) (x95 : Int) => lpK c env lf 6 fi133 1 7 [] [0, 3, 4, 5] (x133_7_0) lf (f133_1_c x91 x93 x94 x95)) x91 x92 x93 := by kernel_rfl
def f133_0 (c : Orc) (lf : Nat) : Nat → List T → Int → Int → Option (List T)
  | 0 => fun _ _ _ => none
  | n + 1 => fun x91 x92 x93 => f133_0_s c lf (f133_0 c lf n) (fun (x91 : List T) (x93 : Int) (x94 : Int) (x95 : Int) => f133_1 c lf x91 x93 lf x94 x95) x91 x92 x93
theorem f133_0_u (c : Orc) (lf : Nat) (n : Nat) (x91 : List T) (x92 : Int) (x93 : Int) : f133_0 c lf (n + 1) x91 x92 x93 = f133_0_s c lf (f133_0 c lf n) (fun (x91 : List T) (x93 : Int) (x94 : Int) (x95 : Int) => f133_1 c lf x91 x93 lf x94 x95) x91 x92 x93 := rfl
theorem f133_0_eq (c : Orc) (lf : Nat) (n : Nat) (x91 : List T) (x92 : Int) (x93 : Int) :
    lpK c env lf 6 fi133 1 3 [] [0, 3, 4] (x133_3_0) n (f133_0_c x91 x92 x93) = f133_0 c lf n x91 x92 x93 := by
  induction n generalizing x91 x92 x93 with
  | zero => rfl
  | succ n ih =>
    refine (f133_0_round c lf _ x91 x92 x93).trans ?_
    have e : (fun x91 x92 x93 => lpK c env lf 6 fi133 1 3 [] [0, 3, 4] (x133_3_0) n (f133_0_c x91 x92 x93)) = f133_0 c lf n := by funext x91 x92 x93; exact ih x91 x92 x93
    have e0 : (fun (x91 : List T) (x93 : Int) (x94 : Int) (x95 : Int) => lpK c env lf 6 fi133 1 7 [] [0, 3, 4, 5] (x133_7_0) lf (f133_1_c x91 x93 x94 x95)) = (fun (x91 : List T) (x93 : Int) (x94 : Int) (x95 : Int) => f133_1 c lf x91 x93 lf x94 x95) := by funext x91 x93 x94 x95; exact f133_1_eq c lf x91 x93 lf x94 x95
    show f133_0_s c lf (fun x91 x92 x93 => lpK c env lf 6 fi133 1 3 [] [0, 3, 4] (x133_3_0) n (f133_0_c x91 x92 x93)) (fun (x91 : List T) (x93 : Int) (x94 : Int) (x95 : Int) => lpK c env lf 6 fi133 1 7 [] [0, 3, 4, 5] (x133_7_0) lf (f133_1_c x91 x93 x94 x95)) x91 x92 x93 = _
    rw [e, e0]; rfl
/-- loop.example/g00285/spec.Crc -/
def f133_t (c : Orc) (lf : Nat) (lp0 : List T → Int → Int → Option (List T)) (l0 : List T) : Option (List T) :=
  (lp0 l0 4294967295 0).bind fun r97 =>
  some [T.i .i64 (intBits .xor .i64 (asI (nth r97 1)) 4294967295)]
def f133 (c : Orc) (lf : Nat) (l0 : List T) : Option (List T) := f133_t c lf (fun (x91 : List T) (x92 : Int) (x93 : Int) => f133_0 c lf lf x91 x92 x93) l0
theorem f133_raw (c : Orc) (lf : Nat) (l0 : List T) : funK c env lf 6 fi133 [.sl l0] = f133_t c lf (fun (x91 : List T) (x92 : Int) (x93 : Int) => lpK c env lf 6 fi133 1 3 [] [0, 3, 4] (x133_3_0) lf (f133_0_c x91 x92 x93)) l0 := by kernel_rfl
theorem f133_eq (c : Orc) (lf : Nat) (l0 : List T) : funK c env lf 6 fi133 [.sl l0] = f133 c lf l0 := by
  refine (f133_raw c lf l0).trans ?_
  have e0 : (fun (x91 : List T) (x92 : Int) (x93 : Int) => lpK c env lf 6 fi133 1 3 [] [0, 3, 4] (x133_3_0) lf (f133_0_c x91 x92 x93)) = (fun (x91 : List T) (x92 : Int) (x93 : Int) => f133_0 c lf lf x91 x92 x93) := by funext x91 x92 x93; exact f133_0_eq c lf lf x91 x92 x93
  rw [e0]; rfl
/-- loop.example/g00285/spec.l1In -/
def f71_t (c : Orc) (lf : Nat) (n0 : Int) (n1 : Int) (n2 : Int) : Option (List T) :=
  bif iLe n1 n0 then
    some [T.b (iLe n0 n2)]
  else
    some [T.b false]
def f71 (c : Orc) (lf : Nat) (n0 : Int) (n1 : Int) (n2 : Int) : Option (List T) := f71_t c lf n0 n1 n2
theorem f71_raw (c : Orc) (lf : Nat) (n0 : Int) (n1 : Int) (n2 : Int) : funK c env lf 6 fi71 [.i .i64 n0, .i .i64 n1, .i .i64 n2] = f71_t c lf n0 n1 n2 := by kernel_rfl
theorem f71_eq (c : Orc) (lf : Nat) (n0 : Int) (n1 : Int) (n2 : Int) : funK c env lf 6 fi71 [.i .i64 n0, .i .i64 n1, .i .i64 n2] = f71 c lf n0 n1 n2 := by
  refine (f71_raw c lf n0 n1 n2).trans ?_
  rfl
/-- loop.example/g00285/spec.RecOk -/
def f103_t (c : Orc) (lf : Nat) (n0_0 : Int) (n0_1 : Int) (l0_2 : List T) : Option (List T) :=
  (c 71 [T.i .i64 n0_0, T.i .i64 1, T.i .i64 4]).bind fun r98 =>
  bif asB (nth r98 0) then
    (c 71 [T.i .i64 n0_1, T.i .i64 0, T.i .i64 1000000]).bind fun r99 =>
    bif asB (nth r99 0) then
      some [T.b (iLe (l0_2.length : Int) 380)]
    else
      some [T.b false]
  else
    some [T.b false]
def f103 (c : Orc) (lf : Nat) (n0_0 : Int) (n0_1 : Int) (l0_2 : List T) : Option (List T) := f103_t c lf n0_0 n0_1 l0_2
theorem f103_raw (c : Orc) (lf : Nat) (n0_0 : Int) (n0_1 : Int) (l0_2 : List T) : funK c env lf 6 fi103 [.st [.i .i64 n0_0, .i .i64 n0_1, .sl l0_2]] = f103_t c lf n0_0 n0_1 l0_2 := by kernel_rfl
theorem f103_eq (c : Orc) (lf : Nat) (n0_0 : Int) (n0_1 : Int) (l0_2 : List T) : funK c env lf 6 fi103 [.st [.i .i64 n0_0, .i .i64 n0_1, .sl l0_2]] = f103 c lf n0_0 n0_1 l0_2 := by
  refine (f103_raw c lf n0_0 n0_1 l0_2).trans ?_
  rfl
/-- loop.example/g00285/spec.GetRec, the loop at region 6. -/
def f80_0_s (c : Orc) (lf : Nat) (l0 : List T) (L : Int → Int → Option (List T)) (x108 : Int) (x109 : Int) : Option (List T) :=
  bif iLt x109 (l0.length : Int) then
    bif inR x109 l0.length then
    L (intBits .or .i64 (shiftI .shl .i64 x108 8) (IntKind.wrap .i64 (asI (l0.getD x109.toNat T.u)))) (IntKind.wrap .i64 (x109 + 1))
    else none
  else
    some [T.i .i64 0, T.sl l0, T.i .i64 (IntKind.wrap .i64 ((l0.length : Int) - 4)), T.i .i64 x108, T.i .i64 0, T.i .i64 0, T.sl ([] : List T)]
def f80_0_c (l0 : List T) (x108 : Int) (x109 : Int) : CSt := ⟨[.ro 0 false [.i .u8] l0, .bp 1 0, .i .i64 (IntKind.wrap .i64 ((l0.length : Int) - 4)), .i .i64 x108, .i .i64 x109], [.dead, .box [.i .i64 0, .i .i64 0, .rf 2 [] 0 none], .row false [.i .u8] ([] : List T) 0 false]⟩
theorem f80_0_round (c : Orc) (lf : Nat) (l0 : List T) (L : CSt → Option (List T)) (x108 : Int) (x109 : Int) :
    roundK c env lf 6 fi80 1 6 [] [0, 2, 4, 5, 6] (x80_6_0) L (f80_0_c l0 x108 x109) = f80_0_s c lf l0 (fun x108 x109 => L (f80_0_c l0 x108 x109)) x108 x109 := by kernel_rfl
def f80_0 (c : Orc) (lf : Nat) (l0 : List T) : Nat → Int → Int → Option (List T)
  | 0 => fun _ _ => none
  | n + 1 => fun x108 x109 => f80_0_s c lf l0 (f80_0 c lf l0 n) x108 x109
theorem f80_0_u (c : Orc) (lf : Nat) (l0 : List T) (n : Nat) (x108 : Int) (x109 : Int) : f80_0 c lf l0 (n + 1) x108 x109 = f80_0_s c lf l0 (f80_0 c lf l0 n) x108 x109 := rfl
theorem f80_0_eq (c : Orc) (lf : Nat) (l0 : List T) (n : Nat) (x108 : Int) (x109 : Int) :
    lpK c env lf 6 fi80 1 6 [] [0, 2, 4, 5, 6] (x80_6_0) n (f80_0_c l0 x108 x109) = f80_0 c lf l0 n x108 x109 := by
  induction n generalizing x108 x109 with
  | zero => rfl
  | succ n ih =>
    refine (f80_0_round c lf l0 _ x108 x109).trans ?_
    have e : (fun x108 x109 => lpK c env lf 6 fi80 1 6 [] [0, 2, 4, 5, 6] (x80_6_0) n (f80_0_c l0 x108 x109)) = f80_0 c lf l0 n := by funext x108 x109; exact ih x108 x109
    show f80_0_s c lf l0 (fun x108 x109 => lpK c env lf 6 fi80 1 6 [] [0, 2, 4, 5, 6] (x80_6_0) n (f80_0_c l0 x108 x109)) x108 x109 = _
    rw [e]; rfl
/-- loop.example/g00285/spec.GetRec -/
def f80_t (c : Orc) (lf : Nat) (lp0 : List T → Int → Int → Option (List T)) (l0 : List T) : Option (List T) :=
  bif iLt (IntKind.wrap .i64 ((l0.length : Int) - 4)) 0 then
    some [T.st [T.i .i64 0, T.i .i64 0, T.sl []], T.b false]
  else
    (lp0 l0 0 (IntKind.wrap .i64 ((l0.length : Int) - 4))).bind fun r110 =>
    bif iLe 0 (asI (nth r110 2)) && iLe (asI (nth r110 2)) ((asL (nth r110 1)).length : Int) then
    (c 131 [T.st [T.sl ((asL (nth r110 1)).take ((asI (nth r110 2)).toNat)), T.i .i64 0, T.b false]]).bind fun r111 =>
    (c 131 [T.st [T.sl ((asL (nth r110 1)).take ((asI (nth r110 2)).toNat)), T.i .i64 (asI (T.cell (nth r111 1) 1)), T.b (asB (T.cell (nth r111 1) 2))]]).bind fun r112 =>
    (c 132 [T.st [T.sl ((asL (nth r110 1)).take ((asI (nth r110 2)).toNat)), T.i .i64 (asI (T.cell (nth r112 1) 1)), T.b (asB (T.cell (nth r112 1) 2))]]).bind fun r113 =>
    bif nLe (asS (nth r113 0)).size LIM then
    bif asB (T.cell (nth r113 1) 2) then
      some [T.st [T.i .i64 0, T.i .i64 0, T.sl []], T.b false]
    else
      bif (asI (T.cell (nth r113 1) 1)) != (asI (nth r110 2)) then
        some [T.st [T.i .i64 0, T.i .i64 0, T.sl []], T.b false]
      else
        bif iLe 0 (asI (nth r110 2)) && iLe (asI (nth r110 2)) ((asL (nth r110 1)).length : Int) then
        (c 133 [T.sl ((asL (nth r110 1)).take ((asI (nth r110 2)).toNat))]).bind fun r114 =>
        bif (asI (nth r110 3)) != (asI (nth r114 0)) then
          some [T.st [T.i .i64 0, T.i .i64 0, T.sl []], T.b false]
        else
          (c 103 [T.st [T.i .i64 (asI (nth r111 0)), T.i .i64 (asI (nth r112 0)), T.sl (listOf (asS (nth r113 0)))]]).bind fun r115 =>
          bif !(asB (nth r115 0)) then
            some [T.st [T.i .i64 0, T.i .i64 0, T.sl []], T.b false]
          else
            some [T.st [T.i .i64 (asI (nth r111 0)), T.i .i64 (asI (nth r112 0)), T.sl (listOf (asS (nth r113 0)))], T.b true]
        else none
    else none
    else none
def f80 (c : Orc) (lf : Nat) (l0 : List T) : Option (List T) := f80_t c lf (fun (l0 : List T) (x108 : Int) (x109 : Int) => f80_0 c lf l0 lf x108 x109) l0
theorem f80_raw (c : Orc) (lf : Nat) (l0 : List T) : funK c env lf 6 fi80 [.sl l0] = f80_t c lf (fun (l0 : List T) (x108 : Int) (x109 : Int) => lpK c env lf 6 fi80 1 6 [] [0, 2, 4, 5, 6] (x80_6_0) lf (f80_0_c l0 x108 x109)) l0 := by kernel_rfl
theorem f80_eq (c : Orc) (lf : Nat) (l0 : List T) : funK c env lf 6 fi80 [.sl l0] = f80 c lf l0 := by
  refine (f80_raw c lf l0).trans ?_
  have e0 : (fun (l0 : List T) (x108 : Int) (x109 : Int) => lpK c env lf 6 fi80 1 6 [] [0, 2, 4, 5, 6] (x80_6_0) lf (f80_0_c l0 x108 x109)) = (fun (l0 : List T) (x108 : Int) (x109 : Int) => f80_0 c lf l0 lf x108 x109) := by funext l0 x108 x109; exact f80_0_eq c lf l0 lf x108 x109
  rw [e0]; rfl
/-- loop.example/g00285/spec.ReadAt -/
def f23_t (c : Orc) (lf : Nat) (l0_0 : List T) (n0_1 : Int) (l0_2 : List T) (b0_3 : Bool) (n0_4 : Int) (n1 : Int) (n2 : Int) : Option (List T) :=
  bif iLt n1 0 then
    some [T.st [T.i .i64 0, T.i .i64 0, T.sl []], T.b false]
  else
    (c 79 [T.st [T.sl l0_0], T.i .i64 (IntKind.wrap .i64 (n1.tdiv 8)), T.i .i64 (n1.tmod 8)]).bind fun r116 =>
    (c 80 [T.sl (asL (nth r116 0))]).bind fun r117 =>
    bif !(asB (nth r116 1)) then
      some [T.st [T.i .i64 0, T.i .i64 0, T.sl []], T.b false]
    else
      bif !(asB (nth r117 1)) then
        some [T.st [T.i .i64 0, T.i .i64 0, T.sl []], T.b false]
      else
        bif (asI (T.cell (nth r117 0) 0)) != n2 then
          some [T.st [T.i .i64 0, T.i .i64 0, T.sl []], T.b false]
        else
          some [T.st [T.i .i64 (asI (T.cell (nth r117 0) 0)), T.i .i64 (asI (T.cell (nth r117 0) 1)), T.sl (asL (T.cell (nth r117 0) 2))], T.b true]
def f23 (c : Orc) (lf : Nat) (l0_0 : List T) (n0_1 : Int) (l0_2 : List T) (b0_3 : Bool) (n0_4 : Int) (n1 : Int) (n2 : Int) : Option (List T) := f23_t c lf l0_0 n0_1 l0_2 b0_3 n0_4 n1 n2
theorem f23_raw (c : Orc) (lf : Nat) (l0_0 : List T) (n0_1 : Int) (l0_2 : List T) (b0_3 : Bool) (n0_4 : Int) (n1 : Int) (n2 : Int) : funK c env lf 6 fi23 [.st [.sl l0_0, .i .i64 n0_1, .sl l0_2, .b b0_3, .i .i64 n0_4], .i .i64 n1, .i .i64 n2] = f23_t c lf l0_0 n0_1 l0_2 b0_3 n0_4 n1 n2 := by kernel_rfl
theorem f23_eq (c : Orc) (lf : Nat) (l0_0 : List T) (n0_1 : Int) (l0_2 : List T) (b0_3 : Bool) (n0_4 : Int) (n1 : Int) (n2 : Int) : funK c env lf 6 fi23 [.st [.sl l0_0, .i .i64 n0_1, .sl l0_2, .b b0_3, .i .i64 n0_4], .i .i64 n1, .i .i64 n2] = f23 c lf l0_0 n0_1 l0_2 b0_3 n0_4 n1 n2 := by
  refine (f23_raw c lf l0_0 n0_1 l0_2 b0_3 n0_4 n1 n2).trans ?_
  rfl
/-- loop.example/g00285/impl.from -/
def f75_t (c : Orc) (lf : Nat) (n0 : Int) (n1 : Int) (n2 : Int) : Option (List T) :=
  bif iLe n1 n0 then
    some [T.b (iLe n0 n2)]
  else
    some [T.b false]
def f75 (c : Orc) (lf : Nat) (n0 : Int) (n1 : Int) (n2 : Int) : Option (List T) := f75_t c lf n0 n1 n2
theorem f75_raw (c : Orc) (lf : Nat) (n0 : Int) (n1 : Int) (n2 : Int) : funK c env lf 6 fi75 [.i .i64 n0, .i .i64 n1, .i .i64 n2] = f75_t c lf n0 n1 n2 := by kernel_rfl
theorem f75_eq (c : Orc) (lf : Nat) (n0 : Int) (n1 : Int) (n2 : Int) : funK c env lf 6 fi75 [.i .i64 n0, .i .i64 n1, .i .i64 n2] = f75 c lf n0 n1 n2 := by
  refine (f75_raw c lf n0 n1 n2).trans ?_
  rfl
/-- loop.example/g00285/impl.isBlock -/
def f94_t (c : Orc) (lf : Nat) (l0_0 : List T) (n1 : Int) : Option (List T) :=
  (c 75 [T.i .i64 n1, T.i .i64 0, T.i .i64 (IntKind.wrap .i64 ((l0_0.length : Int) - 1))]).bind fun r118 =>
  some [T.b (asB (nth r118 0))]
def f94 (c : Orc) (lf : Nat) (l0_0 : List T) (n1 : Int) : Option (List T) := f94_t c lf l0_0 n1
theorem f94_raw (c : Orc) (lf : Nat) (l0_0 : List T) (n1 : Int) : funK c env lf 6 fi94 [.st [.sl l0_0], .i .i64 n1] = f94_t c lf l0_0 n1 := by kernel_rfl
theorem f94_eq (c : Orc) (lf : Nat) (l0_0 : List T) (n1 : Int) : funK c env lf 6 fi94 [.st [.sl l0_0], .i .i64 n1] = f94 c lf l0_0 n1 := by
  refine (f94_raw c lf l0_0 n1).trans ?_
  rfl
/-- loop.example/g00285/impl.ReadPage -/
def f134_t (c : Orc) (lf : Nat) (l0_0 : List T) (n1 : Int) (n2 : Int) : Option (List T) :=
  (c 94 [T.st [T.sl l0_0], T.i .i64 n1]).bind fun r119 =>
  bif !(asB (nth r119 0)) then
    some [T.sl [], T.b false]
  else
    bif inR n1 l0_0.length then
    (c 75 [T.i .i64 n2, T.i .i64 0, T.i .i64 (IntKind.wrap .i64 (((asL (T.cell (l0_0.getD n1.toNat T.u) 0)).length : Int) - 1))]).bind fun r120 =>
    bif !(asB (nth r120 0)) then
      some [T.sl [], T.b false]
    else
      bif inR n1 l0_0.length then
      bif inR n2 ((asL (T.cell (l0_0.getD n1.toNat T.u) 0)).length) then
      bif !(asB (T.cell ((asL (T.cell (l0_0.getD n1.toNat T.u) 0)).getD n2.toNat T.u) 0)) then
        some [T.sl [], T.b false]
      else
        bif inR n1 l0_0.length then
        bif inR n2 ((asL (T.cell (l0_0.getD n1.toNat T.u) 0)).length) then
        (c 147 [T.sl (asL (T.cell ((asL (T.cell (l0_0.getD n1.toNat T.u) 0)).getD n2.toNat T.u) 1))]).bind fun r121 =>
        some [T.sl (asL (nth r121 0)), T.b true]
        else none
        else none
      else none
      else none
    else none
def f134 (c : Orc) (lf : Nat) (l0_0 : List T) (n1 : Int) (n2 : Int) : Option (List T) := f134_t c lf l0_0 n1 n2
theorem f134_raw (c : Orc) (lf : Nat) (l0_0 : List T) (n1 : Int) (n2 : Int) : funK c env lf 6 fi134 [.st [.sl l0_0], .i .i64 n1, .i .i64 n2] = f134_t c lf l0_0 n1 n2 := by kernel_rfl
theorem f134_eq (c : Orc) (lf : Nat) (l0_0 : List T) (n1 : Int) (n2 : Int) : funK c env lf 6 fi134 [.st [.sl l0_0], .i .i64 n1, .i .i64 n2] = f134 c lf l0_0 n1 n2 := by
  refine (f134_raw c lf l0_0 n1 n2).trans ?_
  rfl
/-- loop.example/g00285/impl.Crc, the loop at region 7. -/
def f146_1_s (c : Orc) (lf : Nat) (x137 : List T) (x138 : Int) (x139 : Int) (L : Int → Int → Option (List T)) (x140 : Int) (x141 : Int) : Option (List T) :=
  bif iLt x141 8 then
    bif (intBits .and .u32 x140 1) == 1 then
      L (intBits .xor .u32 (shiftI .shr .u32 x140 1) 2197175160) (IntKind.wrap .i64 (x141 + 1))
    else
      L (shiftI .shr .u32 x140 1) (IntKind.wrap .i64 (x141 + 1))
  else
    some [T.i .i64 0, T.i .u32 x140, T.sl x137, T.i .i64 x138, T.i .i64 x139]
def f146_1_c (x137 : List T) (x138 : Int) (x139 : Int) (x140 : Int) (x141 : Int) : CSt := ⟨[.i .u32 x140, .ro 0 false [.i .u8] x137, .i .i64 x138, .i .i64 x139, .i .i64 x141], [.dead]⟩
theorem f146_1_round (c : Orc) (lf : Nat) (x137 : List T) (x138 : Int) (x139 : Int) (L : CSt → Option (List T)) (x140 : Int) (x141 : Int) :
    roundK c env lf 6 fi146 1 7 [] [3, 7, 8, 9, 17] (x146_7_0) L (f146_1_c x137 x138 x139 x140 x141) = f146_1_s c lf x137 x138 x139 (fun x140 x141 => L (f146_1_c x137 x138 x139 x140 x141)) x140 x141 := by kernel_rfl
def f146_1 (c : Orc) (lf : Nat) (x137 : List T) (x138 : Int) (x139 : Int) : Nat → Int → Int → Option (List T)
  | 0 => fun _ _ => none
  | n + 1 => fun x140 x141 => f146_1_s c lf x137 x138 x139 (f146_1 c lf x137 x138 x139 n) x140 x141
theorem f146_1_u (c : Orc) (lf : Nat) (x137 : List T) (x138 : Int) (x139 : Int) (n : Nat) (x140 : Int) (x141 : Int) : f146_1 c lf x137 x138 x139 (n + 1) x140 x141 = f146_1_s c lf x137 x138 x139 (f146_1 c lf x137 x138 x139 n) x140 x141 := rfl
theorem f146_1_eq (c : Orc) (lf : Nat) (x137 : List T) (x138 : Int) (x139 : Int) (n : Nat) (x140 : Int) (x141 : Int) :
    lpK c env lf 6 fi146 1 7 [] [3, 7, 8, 9, 17] (x146_7_0) n (f146_1_c x137 x138 x139 x140 x141) = f146_1 c lf x137 x138 x139 n x140 x141 := by
  induction n generalizing x140 x141 with
  | zero => rfl
  | succ n ih =>
    refine (f146_1_round c lf x137 x138 x139 _ x140 x141).trans ?_
    have e : (fun x140 x141 => lpK c env lf 6 fi146 1 7 [] [3, 7, 8, 9, 17] (x146_7_0) n (f146_1_c x137 x138 x139 x140 x141)) = f146_1 c lf x137 x138 x139 n := by funext x140 x141; exact ih x140 x141
    show f146_1_s c lf x137 x138 x139 (fun x140 x141 => lpK c env lf 6 fi146 1 7 [] [3, 7, 8, 9, 17] (x146_7_0) n (f146_1_c x137 x138 x139 x140 x141)) x140 x141 = _
    rw [e]; rfl
/-- loop.example/g00285/impl.Crc, the loop at region 3. -/
def f146_0_s (c : Orc) (lf : Nat) (L : Int → List T → Int → Int → Option (List T)) (lp0 : List T → Int → Int → Int → Int → Option (List T)) (x136 : Int) (x137 : List T) (x138 : Int) (x139 : Int) : Option (List T) :=
  bif iLt x139 x138 then
    bif inR x139 x137.length then
    (lp0 x137 x138 x139 (intBits .xor .u32 x136 (IntKind.wrap .u32 (asI (x137.getD x139.toNat T.u)))) 0).bind fun r142 =>
    L (asI (nth r142 1)) (asL (nth r142 2)) (asI (nth r142 3)) (IntKind.wrap .i64 ((asI (nth r142 4)) + 1))
    else none
  else
    some [T.i .i64 0, T.i .u32 x136]
def f146_0_c (x136 : Int) (x137 : List T) (x138 : Int) (x139 : Int) : CSt := ⟨[.i .u32 x136, .ro 0 false [.i .u8] x137, .i .i64 x138, .i .i64 x139], [.dead]⟩
theorem f146_0_round (c : Orc) (lf : Nat) (L : CSt → Option (List T)) (x136 : Int) (x137 : List T) (x138 : Int) (x139 : Int) :
    roundK c env lf 6 fi146 1 3 [] [3, 7, 8, 9] (x146_3_0) L (f146_0_c x136 x137 x138 x139) = f146_0_s c lf (fun x136 x137 x138 x139 => L (f146_0_c x136 x137 x138 x139)) (fun (x137 : List T) (x138 : Int) (x139 : Int) (x140 : Int) (x141 : Int) => lpK c env lf 6 fi146 1 7 [] [3, 7, 8, 9, 17] (x146_7_0) lf (f146_1_c x137 x138 x139 x140 x141)) x136 x137 x138 x139 := by kernel_rfl
def f146_0 (c : Orc) (lf : Nat) : Nat → Int → List T → Int → Int → Option (List T)
  | 0 => fun _ _ _ _ => none
  | n + 1 => fun x136 x137 x138 x139 => f146_0_s c lf (f146_0 c lf n) (fun (x137 : List T) (x138 : Int) (x139 : Int) (x140 : Int) (x141 : Int) => f146_1 c lf x137 x138 x139 lf x140 x141) x136 x137 x138 x139
theorem f146_0_u (c : Orc) (lf : Nat) (n : Nat) (x136 : Int) (x137 : List T) (x138 : Int) (x139 : Int) : f146_0 c lf (n + 1) x136 x137 x138 x139 = f146_0_s c lf (f146_0 c lf n) (fun (x137 : List T) (x138 : Int) (x139 : Int) (x140 : Int) (x141 : Int) => f146_1 c lf x137 x138 x139 lf x140 x141) x136 x137 x138 x139 := rfl
theorem f146_0_eq (c : Orc) (lf : Nat) (n : Nat) (x136 : Int) (x137 : List T) (x138 : Int) (x139 : Int) :
    lpK c env lf 6 fi146 1 3 [] [3, 7, 8, 9] (x146_3_0) n (f146_0_c x136 x137 x138 x139) = f146_0 c lf n x136 x137 x138 x139 := by
  induction n generalizing x136 x137 x138 x139 with
  | zero => rfl
  | succ n ih =>
    refine (f146_0_round c lf _ x136 x137 x138 x139).trans ?_
    have e : (fun x136 x137 x138 x139 => lpK c env lf 6 fi146 1 3 [] [3, 7, 8, 9] (x146_3_0) n (f146_0_c x136 x137 x138 x139)) = f146_0 c lf n := by funext x136 x137 x138 x139; exact ih x136 x137 x138 x139
    have e0 : (fun (x137 : List T) (x138 : Int) (x139 : Int) (x140 : Int) (x141 : Int) => lpK c env lf 6 fi146 1 7 [] [3, 7, 8, 9, 17] (x146_7_0) lf (f146_1_c x137 x138 x139 x140 x141)) = (fun (x137 : List T) (x138 : Int) (x139 : Int) (x140 : Int) (x141 : Int) => f146_1 c lf x137 x138 x139 lf x140 x141) := by funext x137 x138 x139 x140 x141; exact f146_1_eq c lf x137 x138 x139 lf x140 x141
    show f146_0_s c lf (fun x136 x137 x138 x139 => lpK c env lf 6 fi146 1 3 [] [3, 7, 8, 9] (x146_3_0) n (f146_0_c x136 x137 x138 x139)) (fun (x137 : List T) (x138 : Int) (x139 : Int) (x140 : Int) (x141 : Int) => lpK c env lf 6 fi146 1 7 [] [3, 7, 8, 9, 17] (x146_7_0) lf (f146_1_c x137 x138 x139 x140 x141)) x136 x137 x138 x139 = _
    rw [e, e0]; rfl
/-- loop.example/g00285/impl.Crc -/
def f146_t (c : Orc) (lf : Nat) (lp0 : Int → List T → Int → Int → Option (List T)) (l0 : List T) : Option (List T) :=
  (lp0 4294967295 l0 (l0.length : Int) 0).bind fun r143 =>
  some [T.i .i64 (IntKind.wrap .i64 (intBits .xor .u32 4294967295 (asI (nth r143 1))))]
def f146 (c : Orc) (lf : Nat) (l0 : List T) : Option (List T) := f146_t c lf (fun (x136 : Int) (x137 : List T) (x138 : Int) (x139 : Int) => f146_0 c lf lf x136 x137 x138 x139) l0
theorem f146_raw (c : Orc) (lf : Nat) (l0 : List T) : funK c env lf 6 fi146 [.sl l0] = f146_t c lf (fun (x136 : Int) (x137 : List T) (x138 : Int) (x139 : Int) => lpK c env lf 6 fi146 1 3 [] [3, 7, 8, 9] (x146_3_0) lf (f146_0_c x136 x137 x138 x139)) l0 := by kernel_rfl
theorem f146_eq (c : Orc) (lf : Nat) (l0 : List T) : funK c env lf 6 fi146 [.sl l0] = f146 c lf l0 := by
  refine (f146_raw c lf l0).trans ?_
  have e0 : (fun (x136 : Int) (x137 : List T) (x138 : Int) (x139 : Int) => lpK c env lf 6 fi146 1 3 [] [3, 7, 8, 9] (x146_3_0) lf (f146_0_c x136 x137 x138 x139)) = (fun (x136 : Int) (x137 : List T) (x138 : Int) (x139 : Int) => f146_0 c lf lf x136 x137 x138 x139) := by funext x136 x137 x138 x139; exact f146_0_eq c lf lf x136 x137 x138 x139
  rw [e0]; rfl
/-- loop.example/g00285/impl.sealed -/
def f91_t (c : Orc) (lf : Nat) (l0 : List T) : Option (List T) :=
  (c 146 [T.sl l0]).bind fun r144 =>
  (c 147 [T.sl l0]).bind fun r145 =>
  bif nLe ((asL (nth r145 0)).length + ([T.i .u8 (IntKind.wrap .u8 (shiftI .shr .i64 (asI (nth r144 0)) 24)), T.i .u8 (IntKind.wrap .u8 (shiftI .shr .i64 (asI (nth r144 0)) 16)), T.i .u8 (IntKind.wrap .u8 (shiftI .shr .i64 (asI (nth r144 0)) 8)), T.i .u8 (IntKind.wrap .u8 (asI (nth r144 0)))] : List T).length) LIM then
  some [T.sl ((asL (nth r145 0)) ++ ([T.i .u8 (IntKind.wrap .u8 (shiftI .shr .i64 (asI (nth r144 0)) 24)), T.i .u8 (IntKind.wrap .u8 (shiftI .shr .i64 (asI (nth r144 0)) 16)), T.i .u8 (IntKind.wrap .u8 (shiftI .shr .i64 (asI (nth r144 0)) 8)), T.i .u8 (IntKind.wrap .u8 (asI (nth r144 0)))] : List T))]
  else none
def f91 (c : Orc) (lf : Nat) (l0 : List T) : Option (List T) := f91_t c lf l0
theorem f91_raw (c : Orc) (lf : Nat) (l0 : List T) : funK c env lf 6 fi91 [.sl l0] = f91_t c lf l0 := by kernel_rfl
theorem f91_eq (c : Orc) (lf : Nat) (l0 : List T) : funK c env lf 6 fi91 [.sl l0] = f91 c lf l0 := by
  refine (f91_raw c lf l0).trans ?_
  rfl
/-- loop.example/g00285/impl.opened -/
def f183_t (c : Orc) (lf : Nat) (l0 : List T) : Option (List T) :=
  bif iLt (IntKind.wrap .i64 ((l0.length : Int) - 4)) 0 then
    some [T.sl [], T.b false]
  else
    bif iLe 0 (IntKind.wrap .i64 ((l0.length : Int) - 4)) && iLe (IntKind.wrap .i64 ((l0.length : Int) - 4)) (l0.length : Int) then
    (c 91 [T.sl (l0.take ((IntKind.wrap .i64 ((l0.length : Int) - 4)).toNat))]).bind fun r147 =>
    bif !((bytesOf (asL (nth r147 0))).toList == (bytesOf l0).toList) then
      some [T.sl [], T.b false]
    else
      bif iLe 0 (IntKind.wrap .i64 ((l0.length : Int) - 4)) && iLe (IntKind.wrap .i64 ((l0.length : Int) - 4)) (l0.length : Int) then
      some [T.sl (l0.take ((IntKind.wrap .i64 ((l0.length : Int) - 4)).toNat)), T.b true]
      else none
    else none
def f183 (c : Orc) (lf : Nat) (l0 : List T) : Option (List T) := f183_t c lf l0
theorem f183_raw (c : Orc) (lf : Nat) (l0 : List T) : funK c env lf 6 fi183 [.sl l0] = f183_t c lf l0 := by kernel_rfl
theorem f183_eq (c : Orc) (lf : Nat) (l0 : List T) : funK c env lf 6 fi183 [.sl l0] = f183 c lf l0 := by
  refine (f183_raw c lf l0).trans ?_
  rfl
/-- loop.example/g00285/impl.GetNum, the loop at region 6. -/
def f222_0_s (c : Orc) (lf : Nat) (l0 : List T) (n1 : Int) (L : Int → Int → Int → Option (List T)) (x152 : Int) (x153 : Int) (x154 : Int) : Option (List T) :=
  bif iLt x154 3 then
    bif iLt n1 (IntKind.wrap .i64 ((l0.length : Int) - x154)) then
      bif inR (IntKind.wrap .i64 (n1 + x154)) l0.length then
      bif iLe 128 (IntKind.wrap .i64 (asI (l0.getD ((IntKind.wrap .i64 (n1 + x154)).toNat) T.u))) then
        L (IntKind.wrap .i64 (x152 + (IntKind.wrap .i64 (((IntKind.wrap .i64 (asI (l0.getD ((IntKind.wrap .i64 (n1 + x154)).toNat) T.u))).tmod 128) * x153)))) (IntKind.wrap .i64 (x153 * 128)) (IntKind.wrap .i64 (x154 + 1))
      else
        bif iLt 1000000 (IntKind.wrap .i64 (x152 + (IntKind.wrap .i64 (((IntKind.wrap .i64 (asI (l0.getD ((IntKind.wrap .i64 (n1 + x154)).toNat) T.u))).tmod 128) * x153)))) then
          some [T.i .i64 0]
        else
          bif (IntKind.wrap .i64 (asI (l0.getD ((IntKind.wrap .i64 (n1 + x154)).toNat) T.u))) == 0 then
            bif iLt 0 x154 then
              some [T.i .i64 0]
            else
              some [T.i .i64 1, T.i .i64 (IntKind.wrap .i64 (x152 + (IntKind.wrap .i64 (((IntKind.wrap .i64 (asI (l0.getD ((IntKind.wrap .i64 (n1 + x154)).toNat) T.u))).tmod 128) * x153)))), T.i .i64 (IntKind.wrap .i64 ((IntKind.wrap .i64 (n1 + x154)) + 1)), T.b true]
          else
            some [T.i .i64 1, T.i .i64 (IntKind.wrap .i64 (x152 + (IntKind.wrap .i64 (((IntKind.wrap .i64 (asI (l0.getD ((IntKind.wrap .i64 (n1 + x154)).toNat) T.u))).tmod 128) * x153)))), T.i .i64 (IntKind.wrap .i64 ((IntKind.wrap .i64 (n1 + x154)) + 1)), T.b true]
      else none
    else
      some [T.i .i64 0]
  else
    some [T.i .i64 0]
def f222_0_c (l0 : List T) (n1 : Int) (x152 : Int) (x153 : Int) (x154 : Int) : CSt := ⟨[.ro 0 false [.i .u8] l0, .i .i64 n1, .i .i64 x152, .i .i64 x153, .i .i64 x154], [.dead, .dead]⟩
theorem f222_0_round (c : Orc) (lf : Nat) (l0 : List T) (n1 : Int) (L : CSt → Option (List T)) (x152 : Int) (x153 : Int) (x154 : Int) :
    roundK c env lf 6 fi222 2 6 [] [0, 1, 7, 8, 9] (x222_6_0) L (f222_0_c l0 n1 x152 x153 x154) = f222_0_s c lf l0 n1 (fun x152 x153 x154 => L (f222_0_c l0 n1 x152 x153 x154)) x152 x153 x154 := by kernel_rfl
def f222_0 (c : Orc) (lf : Nat) (l0 : List T) (n1 : Int) : Nat → Int → Int → Int → Option (List T)
  | 0 => fun _ _ _ => none
  | n + 1 => fun x152 x153 x154 => f222_0_s c lf l0 n1 (f222_0 c lf l0 n1 n) x152 x153 x154
theorem f222_0_u (c : Orc) (lf : Nat) (l0 : List T) (n1 : Int) (n : Nat) (x152 : Int) (x153 : Int) (x154 : Int) : f222_0 c lf l0 n1 (n + 1) x152 x153 x154 = f222_0_s c lf l0 n1 (f222_0 c lf l0 n1 n) x152 x153 x154 := rfl
theorem f222_0_eq (c : Orc) (lf : Nat) (l0 : List T) (n1 : Int) (n : Nat) (x152 : Int) (x153 : Int) (x154 : Int) :
    lpK c env lf 6 fi222 2 6 [] [0, 1, 7, 8, 9] (x222_6_0) n (f222_0_c l0 n1 x152 x153 x154) = f222_0 c lf l0 n1 n x152 x153 x154 := by
  induction n generalizing x152 x153 x154 with
  | zero => rfl
  | succ n ih =>
    refine (f222_0_round c lf l0 n1 _ x152 x153 x154).trans ?_
    have e : (fun x152 x153 x154 => lpK c env lf 6 fi222 2 6 [] [0, 1, 7, 8, 9] (x222_6_0) n (f222_0_c l0 n1 x152 x153 x154)) = f222_0 c lf l0 n1 n := by funext x152 x153 x154; exact ih x152 x153 x154
    show f222_0_s c lf l0 n1 (fun x152 x153 x154 => lpK c env lf 6 fi222 2 6 [] [0, 1, 7, 8, 9] (x222_6_0) n (f222_0_c l0 n1 x152 x153 x154)) x152 x153 x154 = _
    rw [e]; rfl
/-- loop.example/g00285/impl.GetNum -/
def f222_t (c : Orc) (lf : Nat) (lp0 : List T → Int → Int → Int → Int → Option (List T)) (l0 : List T) (n1 : Int) : Option (List T) :=
  bif iLt n1 0 then
    some [T.i .i64 0, T.i .i64 0, T.b false]
  else
    (lp0 l0 n1 0 1 0).bind fun r155 =>
    bif asI (nth r155 0) == 0 then
      some [T.i .i64 0, T.i .i64 0, T.b false]
    else
      some [T.i .i64 (asI (nth r155 1)), T.i .i64 (asI (nth r155 2)), T.b (asB (nth r155 3))]
def f222 (c : Orc) (lf : Nat) (l0 : List T) (n1 : Int) : Option (List T) := f222_t c lf (fun (l0 : List T) (n1 : Int) (x152 : Int) (x153 : Int) (x154 : Int) => f222_0 c lf l0 n1 lf x152 x153 x154) l0 n1
theorem f222_raw (c : Orc) (lf : Nat) (l0 : List T) (n1 : Int) : funK c env lf 6 fi222 [.sl l0, .i .i64 n1] = f222_t c lf (fun (l0 : List T) (n1 : Int) (x152 : Int) (x153 : Int) (x154 : Int) => lpK c env lf 6 fi222 2 6 [] [0, 1, 7, 8, 9] (x222_6_0) lf (f222_0_c l0 n1 x152 x153 x154)) l0 n1 := by kernel_rfl
theorem f222_eq (c : Orc) (lf : Nat) (l0 : List T) (n1 : Int) : funK c env lf 6 fi222 [.sl l0, .i .i64 n1] = f222 c lf l0 n1 := by
  refine (f222_raw c lf l0 n1).trans ?_
  have e0 : (fun (l0 : List T) (n1 : Int) (x152 : Int) (x153 : Int) (x154 : Int) => lpK c env lf 6 fi222 2 6 [] [0, 1, 7, 8, 9] (x222_6_0) lf (f222_0_c l0 n1 x152 x153 x154)) = (fun (l0 : List T) (n1 : Int) (x152 : Int) (x153 : Int) (x154 : Int) => f222_0 c lf l0 n1 lf x152 x153 x154) := by funext l0 n1 x152 x153 x154; exact f222_0_eq c lf l0 n1 lf x152 x153 x154
  rw [e0]; rfl
/-- (*loop.example/g00285/impl.reader).num -/
def f184_t (c : Orc) (lf : Nat) (l0_0 : List T) (n0_1 : Int) (b0_2 : Bool) : Option (List T) :=
  bif !b0_2 then
    some [T.i .i64 0, T.st [T.sl l0_0, T.i .i64 n0_1, T.b b0_2]]
  else
    (c 222 [T.sl l0_0, T.i .i64 n0_1]).bind fun r156 =>
    some [T.i .i64 (asI (nth r156 0)), T.st [T.sl l0_0, T.i .i64 (asI (nth r156 1)), T.b (asB (nth r156 2))]]
def f184 (c : Orc) (lf : Nat) (l0_0 : List T) (n0_1 : Int) (b0_2 : Bool) : Option (List T) := f184_t c lf l0_0 n0_1 b0_2
theorem f184_raw (c : Orc) (lf : Nat) (l0_0 : List T) (n0_1 : Int) (b0_2 : Bool) : funK c env lf 6 fi184 [.st [.sl l0_0, .i .i64 n0_1, .b b0_2]] = f184_t c lf l0_0 n0_1 b0_2 := by kernel_rfl
theorem f184_eq (c : Orc) (lf : Nat) (l0_0 : List T) (n0_1 : Int) (b0_2 : Bool) : funK c env lf 6 fi184 [.st [.sl l0_0, .i .i64 n0_1, .b b0_2]] = f184 c lf l0_0 n0_1 b0_2 := by
  refine (f184_raw c lf l0_0 n0_1 b0_2).trans ?_
  rfl
/-- loop.example/g00285/impl.GetText -/
def f223_t (c : Orc) (lf : Nat) (l0 : List T) (n1 : Int) : Option (List T) :=
  (c 222 [T.sl l0, T.i .i64 n1]).bind fun r157 =>
  bif !(asB (nth r157 2)) then
    some [T.s (⟨#[]⟩ : ByteArray), T.i .i64 0, T.b false]
  else
    bif iLt (IntKind.wrap .i64 ((l0.length : Int) - (asI (nth r157 1)))) (asI (nth r157 0)) then
      some [T.s (⟨#[]⟩ : ByteArray), T.i .i64 0, T.b false]
    else
      bif iLe 0 (asI (nth r157 1)) && iLe (asI (nth r157 1)) (IntKind.wrap .i64 ((asI (nth r157 1)) + (asI (nth r157 0)))) && iLe (IntKind.wrap .i64 ((asI (nth r157 1)) + (asI (nth r157 0)))) (l0.length : Int) then
      some [T.s (bytesOf ((l0.drop ((asI (nth r157 1)).toNat)).take (((IntKind.wrap .i64 ((asI (nth r157 1)) + (asI (nth r157 0)))).toNat) - ((asI (nth r157 1)).toNat)))), T.i .i64 (IntKind.wrap .i64 ((asI (nth r157 1)) + (asI (nth r157 0)))), T.b true]
      else none
def f223 (c : Orc) (lf : Nat) (l0 : List T) (n1 : Int) : Option (List T) := f223_t c lf l0 n1
theorem f223_raw (c : Orc) (lf : Nat) (l0 : List T) (n1 : Int) : funK c env lf 6 fi223 [.sl l0, .i .i64 n1] = f223_t c lf l0 n1 := by kernel_rfl
theorem f223_eq (c : Orc) (lf : Nat) (l0 : List T) (n1 : Int) : funK c env lf 6 fi223 [.sl l0, .i .i64 n1] = f223 c lf l0 n1 := by
  refine (f223_raw c lf l0 n1).trans ?_
  rfl
/-- (*loop.example/g00285/impl.reader).text -/
def f185_t (c : Orc) (lf : Nat) (l0_0 : List T) (n0_1 : Int) (b0_2 : Bool) : Option (List T) :=
  bif !b0_2 then
    some [T.s (⟨#[]⟩ : ByteArray), T.st [T.sl l0_0, T.i .i64 n0_1, T.b b0_2]]
  else
    (c 223 [T.sl l0_0, T.i .i64 n0_1]).bind fun r158 =>
    some [T.s (asS (nth r158 0)), T.st [T.sl l0_0, T.i .i64 (asI (nth r158 1)), T.b (asB (nth r158 2))]]
def f185 (c : Orc) (lf : Nat) (l0_0 : List T) (n0_1 : Int) (b0_2 : Bool) : Option (List T) := f185_t c lf l0_0 n0_1 b0_2
theorem f185_raw (c : Orc) (lf : Nat) (l0_0 : List T) (n0_1 : Int) (b0_2 : Bool) : funK c env lf 6 fi185 [.st [.sl l0_0, .i .i64 n0_1, .b b0_2]] = f185_t c lf l0_0 n0_1 b0_2 := by kernel_rfl
theorem f185_eq (c : Orc) (lf : Nat) (l0_0 : List T) (n0_1 : Int) (b0_2 : Bool) : funK c env lf 6 fi185 [.st [.sl l0_0, .i .i64 n0_1, .b b0_2]] = f185 c lf l0_0 n0_1 b0_2 := by
  refine (f185_raw c lf l0_0 n0_1 b0_2).trans ?_
  rfl
/-- (*loop.example/g00285/impl.reader).done -/
def f186_t (c : Orc) (lf : Nat) (l0_0 : List T) (n0_1 : Int) (b0_2 : Bool) : Option (List T) :=
  bif b0_2 then
    some [T.b (n0_1 == (l0_0.length : Int)), T.st [T.sl l0_0, T.i .i64 n0_1, T.b b0_2]]
  else
    some [T.b false, T.st [T.sl l0_0, T.i .i64 n0_1, T.b b0_2]]
def f186 (c : Orc) (lf : Nat) (l0_0 : List T) (n0_1 : Int) (b0_2 : Bool) : Option (List T) := f186_t c lf l0_0 n0_1 b0_2
theorem f186_raw (c : Orc) (lf : Nat) (l0_0 : List T) (n0_1 : Int) (b0_2 : Bool) : funK c env lf 6 fi186 [.st [.sl l0_0, .i .i64 n0_1, .b b0_2]] = f186_t c lf l0_0 n0_1 b0_2 := by kernel_rfl
theorem f186_eq (c : Orc) (lf : Nat) (l0_0 : List T) (n0_1 : Int) (b0_2 : Bool) : funK c env lf 6 fi186 [.st [.sl l0_0, .i .i64 n0_1, .b b0_2]] = f186 c lf l0_0 n0_1 b0_2 := by
  refine (f186_raw c lf l0_0 n0_1 b0_2).trans ?_
  rfl
/-- loop.example/g00285/impl.RecOk -/
def f89_t (c : Orc) (lf : Nat) (n0_0 : Int) (n0_1 : Int) (l0_2 : List T) : Option (List T) :=
  (c 75 [T.i .i64 n0_0, T.i .i64 1, T.i .i64 4]).bind fun r159 =>
  bif asB (nth r159 0) then
    (c 75 [T.i .i64 n0_1, T.i .i64 0, T.i .i64 1000000]).bind fun r160 =>
    bif asB (nth r160 0) then
      some [T.b (iLe (l0_2.length : Int) 380)]
    else
      some [T.b false]
  else
    some [T.b false]
def f89 (c : Orc) (lf : Nat) (n0_0 : Int) (n0_1 : Int) (l0_2 : List T) : Option (List T) := f89_t c lf n0_0 n0_1 l0_2
theorem f89_raw (c : Orc) (lf : Nat) (n0_0 : Int) (n0_1 : Int) (l0_2 : List T) : funK c env lf 6 fi89 [.st [.i .i64 n0_0, .i .i64 n0_1, .sl l0_2]] = f89_t c lf n0_0 n0_1 l0_2 := by kernel_rfl
theorem f89_eq (c : Orc) (lf : Nat) (n0_0 : Int) (n0_1 : Int) (l0_2 : List T) : funK c env lf 6 fi89 [.st [.i .i64 n0_0, .i .i64 n0_1, .sl l0_2]] = f89 c lf n0_0 n0_1 l0_2 := by
  refine (f89_raw c lf n0_0 n0_1 l0_2).trans ?_
  rfl
/-- loop.example/g00285/impl.GetRec -/
def f135_t (c : Orc) (lf : Nat) (l0 : List T) : Option (List T) :=
  (c 183 [T.sl l0]).bind fun r161 =>
  (c 184 [T.st [T.sl (asL (nth r161 0)), T.i .i64 0, T.b (asB (nth r161 1))]]).bind fun r162 =>
  (c 184 [T.st [T.sl (asL (nth r161 0)), T.i .i64 (asI (T.cell (nth r162 1) 1)), T.b (asB (T.cell (nth r162 1) 2))]]).bind fun r163 =>
  (c 185 [T.st [T.sl (asL (nth r161 0)), T.i .i64 (asI (T.cell (nth r163 1) 1)), T.b (asB (T.cell (nth r163 1) 2))]]).bind fun r164 =>
  bif nLe (asS (nth r164 0)).size LIM then
  (c 186 [T.st [T.sl (asL (nth r161 0)), T.i .i64 (asI (T.cell (nth r164 1) 1)), T.b (asB (T.cell (nth r164 1) 2))]]).bind fun r165 =>
  bif !(asB (nth r165 0)) then
    some [T.st [T.i .i64 0, T.i .i64 0, T.sl []], T.b false]
  else
    (c 89 [T.st [T.i .i64 (asI (nth r162 0)), T.i .i64 (asI (nth r163 0)), T.sl (listOf (asS (nth r164 0)))]]).bind fun r166 =>
    bif !(asB (nth r166 0)) then
      some [T.st [T.i .i64 0, T.i .i64 0, T.sl []], T.b false]
    else
      some [T.st [T.i .i64 (asI (nth r162 0)), T.i .i64 (asI (nth r163 0)), T.sl (listOf (asS (nth r164 0)))], T.b true]
  else none
def f135 (c : Orc) (lf : Nat) (l0 : List T) : Option (List T) := f135_t c lf l0
theorem f135_raw (c : Orc) (lf : Nat) (l0 : List T) : funK c env lf 6 fi135 [.sl l0] = f135_t c lf l0 := by kernel_rfl
theorem f135_eq (c : Orc) (lf : Nat) (l0 : List T) : funK c env lf 6 fi135 [.sl l0] = f135 c lf l0 := by
  refine (f135_raw c lf l0).trans ?_
  rfl
/-- loop.example/g00285/impl.recAt -/
def f81_t (c : Orc) (lf : Nat) (l0_0 : List T) (n0_1 : Int) (l0_2 : List T) (b0_3 : Bool) (n0_4 : Int) (n1 : Int) : Option (List T) :=
  bif iLt n1 0 then
    some [T.st [T.i .i64 0, T.i .i64 0, T.sl []], T.b false]
  else
    (c 134 [T.st [T.sl l0_0], T.i .i64 (IntKind.wrap .i64 (n1.tdiv 8)), T.i .i64 (n1.tmod 8)]).bind fun r167 =>
    bif !(asB (nth r167 1)) then
      some [T.st [T.i .i64 0, T.i .i64 0, T.sl []], T.b false]
    else
      (c 135 [T.sl (asL (nth r167 0))]).bind fun r168 =>
      some [T.st [T.i .i64 (asI (T.cell (nth r168 0) 0)), T.i .i64 (asI (T.cell (nth r168 0) 1)), T.sl (asL (T.cell (nth r168 0) 2))], T.b (asB (nth r168 1))]
def f81 (c : Orc) (lf : Nat) (l0_0 : List T) (n0_1 : Int) (l0_2 : List T) (b0_3 : Bool) (n0_4 : Int) (n1 : Int) : Option (List T) := f81_t c lf l0_0 n0_1 l0_2 b0_3 n0_4 n1
theorem f81_raw (c : Orc) (lf : Nat) (l0_0 : List T) (n0_1 : Int) (l0_2 : List T) (b0_3 : Bool) (n0_4 : Int) (n1 : Int) : funK c env lf 6 fi81 [.st [.sl l0_0, .i .i64 n0_1, .sl l0_2, .b b0_3, .i .i64 n0_4], .i .i64 n1] = f81_t c lf l0_0 n0_1 l0_2 b0_3 n0_4 n1 := by kernel_rfl
theorem f81_eq (c : Orc) (lf : Nat) (l0_0 : List T) (n0_1 : Int) (l0_2 : List T) (b0_3 : Bool) (n0_4 : Int) (n1 : Int) : funK c env lf 6 fi81 [.st [.sl l0_0, .i .i64 n0_1, .sl l0_2, .b b0_3, .i .i64 n0_4], .i .i64 n1] = f81 c lf l0_0 n0_1 l0_2 b0_3 n0_4 n1 := by
  refine (f81_raw c lf l0_0 n0_1 l0_2 b0_3 n0_4 n1).trans ?_
  rfl
/-- loop.example/g00285/impl.ReadAt -/
def f24_t (c : Orc) (lf : Nat) (l0_0 : List T) (n0_1 : Int) (l0_2 : List T) (b0_3 : Bool) (n0_4 : Int) (n1 : Int) (n2 : Int) : Option (List T) :=
  (c 81 [T.st [T.sl l0_0, T.i .i64 n0_1, T.sl l0_2, T.b b0_3, T.i .i64 n0_4], T.i .i64 n1]).bind fun r169 =>
  bif !(asB (nth r169 1)) then
    some [T.st [T.i .i64 0, T.i .i64 0, T.sl []], T.b false]
  else
    bif (asI (T.cell (nth r169 0) 0)) != n2 then
      some [T.st [T.i .i64 0, T.i .i64 0, T.sl []], T.b false]
    else
      some [T.st [T.i .i64 (asI (T.cell (nth r169 0) 0)), T.i .i64 (asI (T.cell (nth r169 0) 1)), T.sl (asL (T.cell (nth r169 0) 2))], T.b true]
def f24 (c : Orc) (lf : Nat) (l0_0 : List T) (n0_1 : Int) (l0_2 : List T) (b0_3 : Bool) (n0_4 : Int) (n1 : Int) (n2 : Int) : Option (List T) := f24_t c lf l0_0 n0_1 l0_2 b0_3 n0_4 n1 n2
theorem f24_raw (c : Orc) (lf : Nat) (l0_0 : List T) (n0_1 : Int) (l0_2 : List T) (b0_3 : Bool) (n0_4 : Int) (n1 : Int) (n2 : Int) : funK c env lf 6 fi24 [.st [.sl l0_0, .i .i64 n0_1, .sl l0_2, .b b0_3, .i .i64 n0_4], .i .i64 n1, .i .i64 n2] = f24_t c lf l0_0 n0_1 l0_2 b0_3 n0_4 n1 n2 := by kernel_rfl
theorem f24_eq (c : Orc) (lf : Nat) (l0_0 : List T) (n0_1 : Int) (l0_2 : List T) (b0_3 : Bool) (n0_4 : Int) (n1 : Int) (n2 : Int) : funK c env lf 6 fi24 [.st [.sl l0_0, .i .i64 n0_1, .sl l0_2, .b b0_3, .i .i64 n0_4], .i .i64 n1, .i .i64 n2] = f24 c lf l0_0 n0_1 l0_2 b0_3 n0_4 n1 n2 := by
  refine (f24_raw c lf l0_0 n0_1 l0_2 b0_3 n0_4 n1 n2).trans ?_
  rfl
/-- loop.example/g00285/laws.eqByteS, the loop at region 4. -/
def f48_0_s (c : Orc) (lf : Nat) (l0 : List T) (l1 : List T) (L : Int → Option (List T)) (x172 : Int) : Option (List T) :=
  bif iLt x172 (l0.length : Int) then
    bif inR x172 l0.length then
    bif inR x172 l1.length then
    bif (asI (l0.getD x172.toNat T.u)) != (asI (l1.getD x172.toNat T.u)) then
      some [T.i .i64 0, T.b false]
    else
      L (IntKind.wrap .i64 (x172 + 1))
    else none
    else none
  else
    some [T.i .i64 1]
def f48_0_c (l0 : List T) (l1 : List T) (x172 : Int) : CSt := ⟨[.ro 0 false [.i .u8] l0, .ro 0 false [.i .u8] l1, .i .i64 x172], [.dead, .dead]⟩
theorem f48_0_round (c : Orc) (lf : Nat) (l0 : List T) (l1 : List T) (L : CSt → Option (List T)) (x172 : Int) :
    roundK c env lf 6 fi48 2 4 [] [0, 1, 5] (x48_4_0) L (f48_0_c l0 l1 x172) = f48_0_s c lf l0 l1 (fun x172 => L (f48_0_c l0 l1 x172)) x172 := by kernel_rfl
def f48_0 (c : Orc) (lf : Nat) (l0 : List T) (l1 : List T) : Nat → Int → Option (List T)
  | 0 => fun _ => none
  | n + 1 => fun x172 => f48_0_s c lf l0 l1 (f48_0 c lf l0 l1 n) x172
theorem f48_0_u (c : Orc) (lf : Nat) (l0 : List T) (l1 : List T) (n : Nat) (x172 : Int) : f48_0 c lf l0 l1 (n + 1) x172 = f48_0_s c lf l0 l1 (f48_0 c lf l0 l1 n) x172 := rfl
theorem f48_0_eq (c : Orc) (lf : Nat) (l0 : List T) (l1 : List T) (n : Nat) (x172 : Int) :
    lpK c env lf 6 fi48 2 4 [] [0, 1, 5] (x48_4_0) n (f48_0_c l0 l1 x172) = f48_0 c lf l0 l1 n x172 := by
  induction n generalizing x172 with
  | zero => rfl
  | succ n ih =>
    refine (f48_0_round c lf l0 l1 _ x172).trans ?_
    have e : (fun x172 => lpK c env lf 6 fi48 2 4 [] [0, 1, 5] (x48_4_0) n (f48_0_c l0 l1 x172)) = f48_0 c lf l0 l1 n := by funext x172; exact ih x172
    show f48_0_s c lf l0 l1 (fun x172 => lpK c env lf 6 fi48 2 4 [] [0, 1, 5] (x48_4_0) n (f48_0_c l0 l1 x172)) x172 = _
    rw [e]; rfl
/-- loop.example/g00285/laws.eqByteS -/
def f48_t (c : Orc) (lf : Nat) (lp0 : List T → List T → Int → Option (List T)) (l0 : List T) (l1 : List T) : Option (List T) :=
  bif (l0.length : Int) != (l1.length : Int) then
    some [T.b false]
  else
    (lp0 l0 l1 0).bind fun r173 =>
    bif asI (nth r173 0) == 0 then
      some [T.b (asB (nth r173 1))]
    else
      some [T.b true]
def f48 (c : Orc) (lf : Nat) (l0 : List T) (l1 : List T) : Option (List T) := f48_t c lf (fun (l0 : List T) (l1 : List T) (x172 : Int) => f48_0 c lf l0 l1 lf x172) l0 l1
theorem f48_raw (c : Orc) (lf : Nat) (l0 : List T) (l1 : List T) : funK c env lf 6 fi48 [.sl l0, .sl l1] = f48_t c lf (fun (l0 : List T) (l1 : List T) (x172 : Int) => lpK c env lf 6 fi48 2 4 [] [0, 1, 5] (x48_4_0) lf (f48_0_c l0 l1 x172)) l0 l1 := by kernel_rfl
theorem f48_eq (c : Orc) (lf : Nat) (l0 : List T) (l1 : List T) : funK c env lf 6 fi48 [.sl l0, .sl l1] = f48 c lf l0 l1 := by
  refine (f48_raw c lf l0 l1).trans ?_
  have e0 : (fun (l0 : List T) (l1 : List T) (x172 : Int) => lpK c env lf 6 fi48 2 4 [] [0, 1, 5] (x48_4_0) lf (f48_0_c l0 l1 x172)) = (fun (l0 : List T) (l1 : List T) (x172 : Int) => f48_0 c lf l0 l1 lf x172) := by funext l0 l1 x172; exact f48_0_eq c lf l0 l1 lf x172
  rw [e0]; rfl
/-- loop.example/g00285/laws.eqRec -/
def f25_t (c : Orc) (lf : Nat) (n0_0 : Int) (n0_1 : Int) (l0_2 : List T) (n1_0 : Int) (n1_1 : Int) (l1_2 : List T) : Option (List T) :=
  bif n0_0 != n1_0 then
    some [T.b false]
  else
    bif n0_1 != n1_1 then
      some [T.b false]
    else
      (c 48 [T.sl l0_2, T.sl l1_2]).bind fun r174 =>
      bif !(asB (nth r174 0)) then
        some [T.b false]
      else
        some [T.b true]
def f25 (c : Orc) (lf : Nat) (n0_0 : Int) (n0_1 : Int) (l0_2 : List T) (n1_0 : Int) (n1_1 : Int) (l1_2 : List T) : Option (List T) := f25_t c lf n0_0 n0_1 l0_2 n1_0 n1_1 l1_2
theorem f25_raw (c : Orc) (lf : Nat) (n0_0 : Int) (n0_1 : Int) (l0_2 : List T) (n1_0 : Int) (n1_1 : Int) (l1_2 : List T) : funK c env lf 6 fi25 [.st [.i .i64 n0_0, .i .i64 n0_1, .sl l0_2], .st [.i .i64 n1_0, .i .i64 n1_1, .sl l1_2]] = f25_t c lf n0_0 n0_1 l0_2 n1_0 n1_1 l1_2 := by kernel_rfl
theorem f25_eq (c : Orc) (lf : Nat) (n0_0 : Int) (n0_1 : Int) (l0_2 : List T) (n1_0 : Int) (n1_1 : Int) (l1_2 : List T) : funK c env lf 6 fi25 [.st [.i .i64 n0_0, .i .i64 n0_1, .sl l0_2], .st [.i .i64 n1_0, .i .i64 n1_1, .sl l1_2]] = f25 c lf n0_0 n0_1 l0_2 n1_0 n1_1 l1_2 := by
  refine (f25_raw c lf n0_0 n0_1 l0_2 n1_0 n1_1 l1_2).trans ?_
  rfl
/-- loop.example/g00285/laws.eqPage -/
def f254_t (c : Orc) (lf : Nat) (b0_0 : Bool) (l0_1 : List T) (b1_0 : Bool) (l1_1 : List T) : Option (List T) :=
  bif !(b0_0 == b1_0) then
    some [T.b false]
  else
    (c 48 [T.sl l0_1, T.sl l1_1]).bind fun r175 =>
    bif !(asB (nth r175 0)) then
      some [T.b false]
    else
      some [T.b true]
def f254 (c : Orc) (lf : Nat) (b0_0 : Bool) (l0_1 : List T) (b1_0 : Bool) (l1_1 : List T) : Option (List T) := f254_t c lf b0_0 l0_1 b1_0 l1_1
theorem f254_raw (c : Orc) (lf : Nat) (b0_0 : Bool) (l0_1 : List T) (b1_0 : Bool) (l1_1 : List T) : funK c env lf 6 fi254 [.st [.b b0_0, .sl l0_1], .st [.b b1_0, .sl l1_1]] = f254_t c lf b0_0 l0_1 b1_0 l1_1 := by kernel_rfl
theorem f254_eq (c : Orc) (lf : Nat) (b0_0 : Bool) (l0_1 : List T) (b1_0 : Bool) (l1_1 : List T) : funK c env lf 6 fi254 [.st [.b b0_0, .sl l0_1], .st [.b b1_0, .sl l1_1]] = f254 c lf b0_0 l0_1 b1_0 l1_1 := by
  refine (f254_raw c lf b0_0 l0_1 b1_0 l1_1).trans ?_
  rfl
/-- loop.example/g00285/laws.eqPageS, the loop at region 4. -/
def f244_0_s (c : Orc) (lf : Nat) (l0 : List T) (l1 : List T) (L : Int → Option (List T)) (x181 : Int) : Option (List T) :=
  bif iLt x181 (l0.length : Int) then
    bif inR x181 l0.length then
    bif inR x181 l1.length then
    (c 254 [T.st [T.b (asB (T.cell (l0.getD x181.toNat T.u) 0)), T.sl (asL (T.cell (l0.getD x181.toNat T.u) 1))], T.st [T.b (asB (T.cell (l1.getD x181.toNat T.u) 0)), T.sl (asL (T.cell (l1.getD x181.toNat T.u) 1))]]).bind fun r182 =>
    bif !(asB (nth r182 0)) then
      some [T.i .i64 0, T.b false]
    else
      L (IntKind.wrap .i64 (x181 + 1))
    else none
    else none
  else
    some [T.i .i64 1]
def f244_0_c (l0 : List T) (l1 : List T) (x181 : Int) : CSt := ⟨[.ro 0 true [.b, .sl false [.i .u8]] l0, .ro 0 true [.b, .sl false [.i .u8]] l1, .i .i64 x181], [.dead, .dead]⟩
theorem f244_0_round (c : Orc) (lf : Nat) (l0 : List T) (l1 : List T) (L : CSt → Option (List T)) (x181 : Int) :
    roundK c env lf 6 fi244 2 4 [] [0, 1, 5] (x244_4_0) L (f244_0_c l0 l1 x181) = f244_0_s c lf l0 l1 (fun x181 => L (f244_0_c l0 l1 x181)) x181 := by kernel_rfl
def f244_0 (c : Orc) (lf : Nat) (l0 : List T) (l1 : List T) : Nat → Int → Option (List T)
  | 0 => fun _ => none
  | n + 1 => fun x181 => f244_0_s c lf l0 l1 (f244_0 c lf l0 l1 n) x181
theorem f244_0_u (c : Orc) (lf : Nat) (l0 : List T) (l1 : List T) (n : Nat) (x181 : Int) : f244_0 c lf l0 l1 (n + 1) x181 = f244_0_s c lf l0 l1 (f244_0 c lf l0 l1 n) x181 := rfl
theorem f244_0_eq (c : Orc) (lf : Nat) (l0 : List T) (l1 : List T) (n : Nat) (x181 : Int) :
    lpK c env lf 6 fi244 2 4 [] [0, 1, 5] (x244_4_0) n (f244_0_c l0 l1 x181) = f244_0 c lf l0 l1 n x181 := by
  induction n generalizing x181 with
  | zero => rfl
  | succ n ih =>
    refine (f244_0_round c lf l0 l1 _ x181).trans ?_
    have e : (fun x181 => lpK c env lf 6 fi244 2 4 [] [0, 1, 5] (x244_4_0) n (f244_0_c l0 l1 x181)) = f244_0 c lf l0 l1 n := by funext x181; exact ih x181
    show f244_0_s c lf l0 l1 (fun x181 => lpK c env lf 6 fi244 2 4 [] [0, 1, 5] (x244_4_0) n (f244_0_c l0 l1 x181)) x181 = _
    rw [e]; rfl
/-- loop.example/g00285/laws.eqPageS -/
def f244_t (c : Orc) (lf : Nat) (lp0 : List T → List T → Int → Option (List T)) (l0 : List T) (l1 : List T) : Option (List T) :=
  bif (l0.length : Int) != (l1.length : Int) then
    some [T.b false]
  else
    (lp0 l0 l1 0).bind fun r183 =>
    bif asI (nth r183 0) == 0 then
      some [T.b (asB (nth r183 1))]
    else
      some [T.b true]
def f244 (c : Orc) (lf : Nat) (l0 : List T) (l1 : List T) : Option (List T) := f244_t c lf (fun (l0 : List T) (l1 : List T) (x181 : Int) => f244_0 c lf l0 l1 lf x181) l0 l1
theorem f244_raw (c : Orc) (lf : Nat) (l0 : List T) (l1 : List T) : funK c env lf 6 fi244 [.sl l0, .sl l1] = f244_t c lf (fun (l0 : List T) (l1 : List T) (x181 : Int) => lpK c env lf 6 fi244 2 4 [] [0, 1, 5] (x244_4_0) lf (f244_0_c l0 l1 x181)) l0 l1 := by kernel_rfl
theorem f244_eq (c : Orc) (lf : Nat) (l0 : List T) (l1 : List T) : funK c env lf 6 fi244 [.sl l0, .sl l1] = f244 c lf l0 l1 := by
  refine (f244_raw c lf l0 l1).trans ?_
  have e0 : (fun (l0 : List T) (l1 : List T) (x181 : Int) => lpK c env lf 6 fi244 2 4 [] [0, 1, 5] (x244_4_0) lf (f244_0_c l0 l1 x181)) = (fun (l0 : List T) (l1 : List T) (x181 : Int) => f244_0 c lf l0 l1 lf x181) := by funext l0 l1 x181; exact f244_0_eq c lf l0 l1 lf x181
  rw [e0]; rfl
/-- loop.example/g00285/laws.eqBlock -/
def f221_t (c : Orc) (lf : Nat) (l0_0 : List T) (n0_1 : Int) (b0_2 : Bool) (l1_0 : List T) (n1_1 : Int) (b1_2 : Bool) : Option (List T) :=
  (c 244 [T.sl l0_0, T.sl l1_0]).bind fun r184 =>
  bif !(asB (nth r184 0)) then
    some [T.b false]
  else
    bif n0_1 != n1_1 then
      some [T.b false]
    else
      bif !(b0_2 == b1_2) then
        some [T.b false]
      else
        some [T.b true]
def f221 (c : Orc) (lf : Nat) (l0_0 : List T) (n0_1 : Int) (b0_2 : Bool) (l1_0 : List T) (n1_1 : Int) (b1_2 : Bool) : Option (List T) := f221_t c lf l0_0 n0_1 b0_2 l1_0 n1_1 b1_2
theorem f221_raw (c : Orc) (lf : Nat) (l0_0 : List T) (n0_1 : Int) (b0_2 : Bool) (l1_0 : List T) (n1_1 : Int) (b1_2 : Bool) : funK c env lf 6 fi221 [.st [.sl l0_0, .i .i64 n0_1, .b b0_2], .st [.sl l1_0, .i .i64 n1_1, .b b1_2]] = f221_t c lf l0_0 n0_1 b0_2 l1_0 n1_1 b1_2 := by kernel_rfl
theorem f221_eq (c : Orc) (lf : Nat) (l0_0 : List T) (n0_1 : Int) (b0_2 : Bool) (l1_0 : List T) (n1_1 : Int) (b1_2 : Bool) : funK c env lf 6 fi221 [.st [.sl l0_0, .i .i64 n0_1, .b b0_2], .st [.sl l1_0, .i .i64 n1_1, .b b1_2]] = f221 c lf l0_0 n0_1 b0_2 l1_0 n1_1 b1_2 := by
  refine (f221_raw c lf l0_0 n0_1 b0_2 l1_0 n1_1 b1_2).trans ?_
  rfl
/-- loop.example/g00285/laws.eqBlockS, the loop at region 4. -/
def f179_0_s (c : Orc) (lf : Nat) (l0 : List T) (l1 : List T) (L : Int → Option (List T)) (x190 : Int) : Option (List T) :=
  bif iLt x190 (l0.length : Int) then
    bif inR x190 l0.length then
    bif inR x190 l1.length then
    (c 221 [T.st [T.sl (asL (T.cell (l0.getD x190.toNat T.u) 0)), T.i .i64 (asI (T.cell (l0.getD x190.toNat T.u) 1)), T.b (asB (T.cell (l0.getD x190.toNat T.u) 2))], T.st [T.sl (asL (T.cell (l1.getD x190.toNat T.u) 0)), T.i .i64 (asI (T.cell (l1.getD x190.toNat T.u) 1)), T.b (asB (T.cell (l1.getD x190.toNat T.u) 2))]]).bind fun r191 =>
    bif !(asB (nth r191 0)) then
      some [T.i .i64 0, T.b false]
    else
      L (IntKind.wrap .i64 (x190 + 1))
    else none
    else none
  else
    some [T.i .i64 1]
def f179_0_c (l0 : List T) (l1 : List T) (x190 : Int) : CSt := ⟨[.ro 0 true [.sl true [.b, .sl false [.i .u8]], .i .i64, .b] l0, .ro 0 true [.sl true [.b, .sl false [.i .u8]], .i .i64, .b] l1, .i .i64 x190], [.dead, .dead]⟩
theorem f179_0_round (c : Orc) (lf : Nat) (l0 : List T) (l1 : List T) (L : CSt → Option (List T)) (x190 : Int) :
    roundK c env lf 6 fi179 2 4 [] [0, 1, 5] (x179_4_0) L (f179_0_c l0 l1 x190) = f179_0_s c lf l0 l1 (fun x190 => L (f179_0_c l0 l1 x190)) x190 := by kernel_rfl
def f179_0 (c : Orc) (lf : Nat) (l0 : List T) (l1 : List T) : Nat → Int → Option (List T)
  | 0 => fun _ => none
  | n + 1 => fun x190 => f179_0_s c lf l0 l1 (f179_0 c lf l0 l1 n) x190
theorem f179_0_u (c : Orc) (lf : Nat) (l0 : List T) (l1 : List T) (n : Nat) (x190 : Int) : f179_0 c lf l0 l1 (n + 1) x190 = f179_0_s c lf l0 l1 (f179_0 c lf l0 l1 n) x190 := rfl
theorem f179_0_eq (c : Orc) (lf : Nat) (l0 : List T) (l1 : List T) (n : Nat) (x190 : Int) :
    lpK c env lf 6 fi179 2 4 [] [0, 1, 5] (x179_4_0) n (f179_0_c l0 l1 x190) = f179_0 c lf l0 l1 n x190 := by
  induction n generalizing x190 with
  | zero => rfl
  | succ n ih =>
    refine (f179_0_round c lf l0 l1 _ x190).trans ?_
    have e : (fun x190 => lpK c env lf 6 fi179 2 4 [] [0, 1, 5] (x179_4_0) n (f179_0_c l0 l1 x190)) = f179_0 c lf l0 l1 n := by funext x190; exact ih x190
    show f179_0_s c lf l0 l1 (fun x190 => lpK c env lf 6 fi179 2 4 [] [0, 1, 5] (x179_4_0) n (f179_0_c l0 l1 x190)) x190 = _
    rw [e]; rfl
/-- loop.example/g00285/laws.eqBlockS -/
def f179_t (c : Orc) (lf : Nat) (lp0 : List T → List T → Int → Option (List T)) (l0 : List T) (l1 : List T) : Option (List T) :=
  bif (l0.length : Int) != (l1.length : Int) then
    some [T.b false]
  else
    (lp0 l0 l1 0).bind fun r192 =>
    bif asI (nth r192 0) == 0 then
      some [T.b (asB (nth r192 1))]
    else
      some [T.b true]
def f179 (c : Orc) (lf : Nat) (l0 : List T) (l1 : List T) : Option (List T) := f179_t c lf (fun (l0 : List T) (l1 : List T) (x190 : Int) => f179_0 c lf l0 l1 lf x190) l0 l1
theorem f179_raw (c : Orc) (lf : Nat) (l0 : List T) (l1 : List T) : funK c env lf 6 fi179 [.sl l0, .sl l1] = f179_t c lf (fun (l0 : List T) (l1 : List T) (x190 : Int) => lpK c env lf 6 fi179 2 4 [] [0, 1, 5] (x179_4_0) lf (f179_0_c l0 l1 x190)) l0 l1 := by kernel_rfl
theorem f179_eq (c : Orc) (lf : Nat) (l0 : List T) (l1 : List T) : funK c env lf 6 fi179 [.sl l0, .sl l1] = f179 c lf l0 l1 := by
  refine (f179_raw c lf l0 l1).trans ?_
  have e0 : (fun (l0 : List T) (l1 : List T) (x190 : Int) => lpK c env lf 6 fi179 2 4 [] [0, 1, 5] (x179_4_0) lf (f179_0_c l0 l1 x190)) = (fun (l0 : List T) (l1 : List T) (x190 : Int) => f179_0 c lf l0 l1 lf x190) := by funext l0 l1 x190; exact f179_0_eq c lf l0 l1 lf x190
  rw [e0]; rfl
/-- loop.example/g00285/laws.eqChip -/
def f129_t (c : Orc) (lf : Nat) (l0_0 : List T) (l1_0 : List T) : Option (List T) :=
  (c 179 [T.sl l0_0, T.sl l1_0]).bind fun r193 =>
  bif !(asB (nth r193 0)) then
    some [T.b false]
  else
    some [T.b true]
def f129 (c : Orc) (lf : Nat) (l0_0 : List T) (l1_0 : List T) : Option (List T) := f129_t c lf l0_0 l1_0
theorem f129_raw (c : Orc) (lf : Nat) (l0_0 : List T) (l1_0 : List T) : funK c env lf 6 fi129 [.st [.sl l0_0], .st [.sl l1_0]] = f129_t c lf l0_0 l1_0 := by kernel_rfl
theorem f129_eq (c : Orc) (lf : Nat) (l0_0 : List T) (l1_0 : List T) : funK c env lf 6 fi129 [.st [.sl l0_0], .st [.sl l1_0]] = f129 c lf l0_0 l1_0 := by
  refine (f129_raw c lf l0_0 l1_0).trans ?_
  rfl
/-- loop.example/g00285/laws.eqFault -/
def f180_t (c : Orc) (lf : Nat) (n0_0 : Int) (n0_1 : Int) (n0_2 : Int) (n1_0 : Int) (n1_1 : Int) (n1_2 : Int) : Option (List T) :=
  bif n0_0 != n1_0 then
    some [T.b false]
  else
    bif n0_1 != n1_1 then
      some [T.b false]
    else
      bif n0_2 != n1_2 then
        some [T.b false]
      else
        some [T.b true]
def f180 (c : Orc) (lf : Nat) (n0_0 : Int) (n0_1 : Int) (n0_2 : Int) (n1_0 : Int) (n1_1 : Int) (n1_2 : Int) : Option (List T) := f180_t c lf n0_0 n0_1 n0_2 n1_0 n1_1 n1_2
theorem f180_raw (c : Orc) (lf : Nat) (n0_0 : Int) (n0_1 : Int) (n0_2 : Int) (n1_0 : Int) (n1_1 : Int) (n1_2 : Int) : funK c env lf 6 fi180 [.st [.i .i64 n0_0, .i .i64 n0_1, .i .i64 n0_2], .st [.i .i64 n1_0, .i .i64 n1_1, .i .i64 n1_2]] = f180_t c lf n0_0 n0_1 n0_2 n1_0 n1_1 n1_2 := by kernel_rfl
theorem f180_eq (c : Orc) (lf : Nat) (n0_0 : Int) (n0_1 : Int) (n0_2 : Int) (n1_0 : Int) (n1_1 : Int) (n1_2 : Int) : funK c env lf 6 fi180 [.st [.i .i64 n0_0, .i .i64 n0_1, .i .i64 n0_2], .st [.i .i64 n1_0, .i .i64 n1_1, .i .i64 n1_2]] = f180 c lf n0_0 n0_1 n0_2 n1_0 n1_1 n1_2 := by
  refine (f180_raw c lf n0_0 n0_1 n0_2 n1_0 n1_1 n1_2).trans ?_
  rfl
/-- loop.example/g00285/laws.eqFaultS, the loop at region 4. -/
def f130_0_s (c : Orc) (lf : Nat) (l0 : List T) (l1 : List T) (L : Int → Option (List T)) (x199 : Int) : Option (List T) :=
  bif iLt x199 (l0.length : Int) then
    bif inR x199 l0.length then
    bif inR x199 l1.length then
    (c 180 [T.st [T.i .i64 (asI (T.cell (l0.getD x199.toNat T.u) 0)), T.i .i64 (asI (T.cell (l0.getD x199.toNat T.u) 1)), T.i .i64 (asI (T.cell (l0.getD x199.toNat T.u) 2))], T.st [T.i .i64 (asI (T.cell (l1.getD x199.toNat T.u) 0)), T.i .i64 (asI (T.cell (l1.getD x199.toNat T.u) 1)), T.i .i64 (asI (T.cell (l1.getD x199.toNat T.u) 2))]]).bind fun r200 =>
    bif !(asB (nth r200 0)) then
      some [T.i .i64 0, T.b false]
    else
      L (IntKind.wrap .i64 (x199 + 1))
    else none
    else none
  else
    some [T.i .i64 1]
def f130_0_c (l0 : List T) (l1 : List T) (x199 : Int) : CSt := ⟨[.ro 0 true [.i .i64, .i .i64, .i .i64] l0, .ro 0 true [.i .i64, .i .i64, .i .i64] l1, .i .i64 x199], [.dead, .dead]⟩
theorem f130_0_round (c : Orc) (lf : Nat) (l0 : List T) (l1 : List T) (L : CSt → Option (List T)) (x199 : Int) :
    roundK c env lf 6 fi130 2 4 [] [0, 1, 5] (x130_4_0) L (f130_0_c l0 l1 x199) = f130_0_s c lf l0 l1 (fun x199 => L (f130_0_c l0 l1 x199)) x199 := by kernel_rfl
def f130_0 (c : Orc) (lf : Nat) (l0 : List T) (l1 : List T) : Nat → Int → Option (List T)
  | 0 => fun _ => none
  | n + 1 => fun x199 => f130_0_s c lf l0 l1 (f130_0 c lf l0 l1 n) x199
theorem f130_0_u (c : Orc) (lf : Nat) (l0 : List T) (l1 : List T) (n : Nat) (x199 : Int) : f130_0 c lf l0 l1 (n + 1) x199 = f130_0_s c lf l0 l1 (f130_0 c lf l0 l1 n) x199 := rfl
theorem f130_0_eq (c : Orc) (lf : Nat) (l0 : List T) (l1 : List T) (n : Nat) (x199 : Int) :
    lpK c env lf 6 fi130 2 4 [] [0, 1, 5] (x130_4_0) n (f130_0_c l0 l1 x199) = f130_0 c lf l0 l1 n x199 := by
  induction n generalizing x199 with
  | zero => rfl
  | succ n ih =>
    refine (f130_0_round c lf l0 l1 _ x199).trans ?_
    have e : (fun x199 => lpK c env lf 6 fi130 2 4 [] [0, 1, 5] (x130_4_0) n (f130_0_c l0 l1 x199)) = f130_0 c lf l0 l1 n := by funext x199; exact ih x199
    show f130_0_s c lf l0 l1 (fun x199 => lpK c env lf 6 fi130 2 4 [] [0, 1, 5] (x130_4_0) n (f130_0_c l0 l1 x199)) x199 = _
    rw [e]; rfl
/-- loop.example/g00285/laws.eqFaultS -/
def f130_t (c : Orc) (lf : Nat) (lp0 : List T → List T → Int → Option (List T)) (l0 : List T) (l1 : List T) : Option (List T) :=
  bif (l0.length : Int) != (l1.length : Int) then
    some [T.b false]
  else
    (lp0 l0 l1 0).bind fun r201 =>
    bif asI (nth r201 0) == 0 then
      some [T.b (asB (nth r201 1))]
    else
      some [T.b true]
def f130 (c : Orc) (lf : Nat) (l0 : List T) (l1 : List T) : Option (List T) := f130_t c lf (fun (l0 : List T) (l1 : List T) (x199 : Int) => f130_0 c lf l0 l1 lf x199) l0 l1
theorem f130_raw (c : Orc) (lf : Nat) (l0 : List T) (l1 : List T) : funK c env lf 6 fi130 [.sl l0, .sl l1] = f130_t c lf (fun (l0 : List T) (l1 : List T) (x199 : Int) => lpK c env lf 6 fi130 2 4 [] [0, 1, 5] (x130_4_0) lf (f130_0_c l0 l1 x199)) l0 l1 := by kernel_rfl
theorem f130_eq (c : Orc) (lf : Nat) (l0 : List T) (l1 : List T) : funK c env lf 6 fi130 [.sl l0, .sl l1] = f130 c lf l0 l1 := by
  refine (f130_raw c lf l0 l1).trans ?_
  have e0 : (fun (l0 : List T) (l1 : List T) (x199 : Int) => lpK c env lf 6 fi130 2 4 [] [0, 1, 5] (x130_4_0) lf (f130_0_c l0 l1 x199)) = (fun (l0 : List T) (l1 : List T) (x199 : Int) => f130_0 c lf l0 l1 lf x199) := by funext l0 l1 x199; exact f130_0_eq c lf l0 l1 lf x199
  rw [e0]; rfl
/-- loop.example/g00285/laws.eqDev -/
def f78_t (c : Orc) (lf : Nat) (l0_0 : List T) (n0_1 : Int) (l0_2 : List T) (b0_3 : Bool) (l1_0 : List T) (n1_1 : Int) (l1_2 : List T) (b1_3 : Bool) : Option (List T) :=
  (c 129 [T.st [T.sl l0_0], T.st [T.sl l1_0]]).bind fun r202 =>
  bif !(asB (nth r202 0)) then
    some [T.b false]
  else
    bif n0_1 != n1_1 then
      some [T.b false]
    else
      (c 130 [T.sl l0_2, T.sl l1_2]).bind fun r203 =>
      bif !(asB (nth r203 0)) then
        some [T.b false]
      else
        bif !(b0_3 == b1_3) then
          some [T.b false]
        else
          some [T.b true]
def f78 (c : Orc) (lf : Nat) (l0_0 : List T) (n0_1 : Int) (l0_2 : List T) (b0_3 : Bool) (l1_0 : List T) (n1_1 : Int) (l1_2 : List T) (b1_3 : Bool) : Option (List T) := f78_t c lf l0_0 n0_1 l0_2 b0_3 l1_0 n1_1 l1_2 b1_3
theorem f78_raw (c : Orc) (lf : Nat) (l0_0 : List T) (n0_1 : Int) (l0_2 : List T) (b0_3 : Bool) (l1_0 : List T) (n1_1 : Int) (l1_2 : List T) (b1_3 : Bool) : funK c env lf 6 fi78 [.st [.sl l0_0, .i .i64 n0_1, .sl l0_2, .b b0_3], .st [.sl l1_0, .i .i64 n1_1, .sl l1_2, .b b1_3]] = f78_t c lf l0_0 n0_1 l0_2 b0_3 l1_0 n1_1 l1_2 b1_3 := by kernel_rfl
theorem f78_eq (c : Orc) (lf : Nat) (l0_0 : List T) (n0_1 : Int) (l0_2 : List T) (b0_3 : Bool) (l1_0 : List T) (n1_1 : Int) (l1_2 : List T) (b1_3 : Bool) : funK c env lf 6 fi78 [.st [.sl l0_0, .i .i64 n0_1, .sl l0_2, .b b0_3], .st [.sl l1_0, .i .i64 n1_1, .sl l1_2, .b b1_3]] = f78 c lf l0_0 n0_1 l0_2 b0_3 l1_0 n1_1 l1_2 b1_3 := by
  refine (f78_raw c lf l0_0 n0_1 l0_2 b0_3 l1_0 n1_1 l1_2 b1_3).trans ?_
  rfl
/-- loop.example/g00285/laws.eqLog -/
def f22_t (c : Orc) (lf : Nat) (l0_0 : List T) (n0_1 : Int) (l0_2 : List T) (b0_3 : Bool) (n0_4 : Int) (l1_0 : List T) (n1_1 : Int) (l1_2 : List T) (b1_3 : Bool) (n1_4 : Int) : Option (List T) :=
  (c 78 [T.st [T.sl l0_0, T.i .i64 n0_1, T.sl l0_2, T.b b0_3], T.st [T.sl l1_0, T.i .i64 n1_1, T.sl l1_2, T.b b1_3]]).bind fun r204 =>
  bif !(asB (nth r204 0)) then
    some [T.b false]
  else
    bif n0_4 != n1_4 then
      some [T.b false]
    else
      some [T.b true]
def f22 (c : Orc) (lf : Nat) (l0_0 : List T) (n0_1 : Int) (l0_2 : List T) (b0_3 : Bool) (n0_4 : Int) (l1_0 : List T) (n1_1 : Int) (l1_2 : List T) (b1_3 : Bool) (n1_4 : Int) : Option (List T) := f22_t c lf l0_0 n0_1 l0_2 b0_3 n0_4 l1_0 n1_1 l1_2 b1_3 n1_4
theorem f22_raw (c : Orc) (lf : Nat) (l0_0 : List T) (n0_1 : Int) (l0_2 : List T) (b0_3 : Bool) (n0_4 : Int) (l1_0 : List T) (n1_1 : Int) (l1_2 : List T) (b1_3 : Bool) (n1_4 : Int) : funK c env lf 6 fi22 [.st [.sl l0_0, .i .i64 n0_1, .sl l0_2, .b b0_3, .i .i64 n0_4], .st [.sl l1_0, .i .i64 n1_1, .sl l1_2, .b b1_3, .i .i64 n1_4]] = f22_t c lf l0_0 n0_1 l0_2 b0_3 n0_4 l1_0 n1_1 l1_2 b1_3 n1_4 := by kernel_rfl
theorem f22_eq (c : Orc) (lf : Nat) (l0_0 : List T) (n0_1 : Int) (l0_2 : List T) (b0_3 : Bool) (n0_4 : Int) (l1_0 : List T) (n1_1 : Int) (l1_2 : List T) (b1_3 : Bool) (n1_4 : Int) : funK c env lf 6 fi22 [.st [.sl l0_0, .i .i64 n0_1, .sl l0_2, .b b0_3, .i .i64 n0_4], .st [.sl l1_0, .i .i64 n1_1, .sl l1_2, .b b1_3, .i .i64 n1_4]] = f22 c lf l0_0 n0_1 l0_2 b0_3 n0_4 l1_0 n1_1 l1_2 b1_3 n1_4 := by
  refine (f22_raw c lf l0_0 n0_1 l0_2 b0_3 n0_4 l1_0 n1_1 l1_2 b1_3 n1_4).trans ?_
  rfl
/-- loop.example/g00285/laws.markByteS, the loop at region 2. -/
def f49_0_s (c : Orc) (lf : Nat) (L : Int → Int → List T → Option (List T)) (x209 : Int) (x210 : Int) (x211 : List T) : Option (List T) :=
  bif iLt x210 (x211.length : Int) then
    bif inR x210 x211.length then
    L (IntKind.wrap .i64 (x209 + 1)) (IntKind.wrap .i64 (x210 + 1)) (x211.set x210.toNat (T.i .u8 (IntKind.wrap .u8 x209)))
    else none
  else
    some [T.i .i64 0, T.i .i64 x209, T.sl x211]
def f49_0_c (x209 : Int) (x210 : Int) (x211 : List T) : CSt := ⟨[.rf 0 [] 0 none, .i .i64 x209, .i .i64 x210], [.row false [.i .u8] x211 0 false, .dead]⟩
theorem f49_0_round (c : Orc) (lf : Nat) (L : CSt → Option (List T)) (x209 : Int) (x210 : Int) (x211 : List T) :
    roundK c env lf 6 fi49 2 2 [] [0, 1, 5] (x49_2_0) L (f49_0_c x209 x210 x211) = f49_0_s c lf (fun x209 x210 x211 => L (f49_0_c x209 x210 x211)) x209 x210 x211 := by kernel_rfl
def f49_0 (c : Orc) (lf : Nat) : Nat → Int → Int → List T → Option (List T)
  | 0 => fun _ _ _ => none
  | n + 1 => fun x209 x210 x211 => f49_0_s c lf (f49_0 c lf n) x209 x210 x211
theorem f49_0_u (c : Orc) (lf : Nat) (n : Nat) (x209 : Int) (x210 : Int) (x211 : List T) : f49_0 c lf (n + 1) x209 x210 x211 = f49_0_s c lf (f49_0 c lf n) x209 x210 x211 := rfl
theorem f49_0_eq (c : Orc) (lf : Nat) (n : Nat) (x209 : Int) (x210 : Int) (x211 : List T) :
    lpK c env lf 6 fi49 2 2 [] [0, 1, 5] (x49_2_0) n (f49_0_c x209 x210 x211) = f49_0 c lf n x209 x210 x211 := by
  induction n generalizing x209 x210 x211 with
  | zero => rfl
  | succ n ih =>
    refine (f49_0_round c lf _ x209 x210 x211).trans ?_
    have e : (fun x209 x210 x211 => lpK c env lf 6 fi49 2 2 [] [0, 1, 5] (x49_2_0) n (f49_0_c x209 x210 x211)) = f49_0 c lf n := by funext x209 x210 x211; exact ih x209 x210 x211
    show f49_0_s c lf (fun x209 x210 x211 => lpK c env lf 6 fi49 2 2 [] [0, 1, 5] (x49_2_0) n (f49_0_c x209 x210 x211)) x209 x210 x211 = _
    rw [e]; rfl
/-- loop.example/g00285/laws.markByteS -/
def f49_t (c : Orc) (lf : Nat) (lp0 : Int → Int → List T → Option (List T)) (l0 : List T) (n1 : Int) : Option (List T) :=
  (lp0 n1 0 l0).bind fun r212 =>
  some [T.i .i64 (asI (nth r212 1)), T.sl (asL (nth r212 2))]
def f49 (c : Orc) (lf : Nat) (l0 : List T) (n1 : Int) : Option (List T) := f49_t c lf (fun (x209 : Int) (x210 : Int) (x211 : List T) => f49_0 c lf lf x209 x210 x211) l0 n1
theorem f49_raw (c : Orc) (lf : Nat) (l0 : List T) (n1 : Int) : funK c env lf 6 fi49 [.sl l0, .i .i64 n1] = f49_t c lf (fun (x209 : Int) (x210 : Int) (x211 : List T) => lpK c env lf 6 fi49 2 2 [] [0, 1, 5] (x49_2_0) lf (f49_0_c x209 x210 x211)) l0 n1 := by kernel_rfl
theorem f49_eq (c : Orc) (lf : Nat) (l0 : List T) (n1 : Int) : funK c env lf 6 fi49 [.sl l0, .i .i64 n1] = f49 c lf l0 n1 := by
  refine (f49_raw c lf l0 n1).trans ?_
  have e0 : (fun (x209 : Int) (x210 : Int) (x211 : List T) => lpK c env lf 6 fi49 2 2 [] [0, 1, 5] (x49_2_0) lf (f49_0_c x209 x210 x211)) = (fun (x209 : Int) (x210 : Int) (x211 : List T) => f49_0 c lf lf x209 x210 x211) := by funext x209 x210 x211; exact f49_0_eq c lf lf x209 x210 x211
  rw [e0]; rfl
/-- loop.example/g00285/laws.markPageS, the loop at region 2. -/
def f224_0_s (c : Orc) (lf : Nat) (L : Int → Int → List T → Option (List T)) (x220 : Int) (x221 : Int) (x222 : List T) : Option (List T) :=
  bif iLt x221 (x222.length : Int) then
    bif inR x221 x222.length then
    bif inR x221 ((x222.set x221.toNat (T.setc (x222.getD x221.toNat T.u) 0 (T.b ((x220.tmod 3) == 0)))).length) then
    (c 49 [T.sl (asL (T.cell ((x222.set x221.toNat (T.setc (x222.getD x221.toNat T.u) 0 (T.b ((x220.tmod 3) == 0)))).getD x221.toNat T.u) 1)), T.i .i64 (IntKind.wrap .i64 (x220 + 1))]).bind fun r223 =>
    L (asI (nth r223 0)) (IntKind.wrap .i64 (x221 + 1)) ((x222.set x221.toNat (T.setc (x222.getD x221.toNat T.u) 0 (T.b ((x220.tmod 3) == 0)))).set x221.toNat (T.setc ((x222.set x221.toNat (T.setc (x222.getD x221.toNat T.u) 0 (T.b ((x220.tmod 3) == 0)))).getD x221.toNat T.u) 1 (T.sl (asL (nth r223 1)))))
    else none
    else none
  else
    some [T.i .i64 0, T.i .i64 x220, T.sl x222]
def f224_0_c (x220 : Int) (x221 : Int) (x222 : List T) : CSt := ⟨[.rf 0 [] 0 none, .i .i64 x220, .i .i64 x221], [.row true [.b, .sl false [.i .u8]] x222 0 false, .dead]⟩
theorem f224_0_round (c : Orc) (lf : Nat) (L : CSt → Option (List T)) (x220 : Int) (x221 : Int) (x222 : List T) :
    roundK c env lf 6 fi224 2 2 [] [0, 1, 5] (x224_2_0) L (f224_0_c x220 x221 x222) = f224_0_s c lf (fun x220 x221 x222 => L (f224_0_c x220 x221 x222)) x220 x221 x222 := by kernel_rfl
def f224_0 (c : Orc) (lf : Nat) : Nat → Int → Int → List T → Option (List T)
  | 0 => fun _ _ _ => none
  | n + 1 => fun x220 x221 x222 => f224_0_s c lf (f224_0 c lf n) x220 x221 x222
theorem f224_0_u (c : Orc) (lf : Nat) (n : Nat) (x220 : Int) (x221 : Int) (x222 : List T) : f224_0 c lf (n + 1) x220 x221 x222 = f224_0_s c lf (f224_0 c lf n) x220 x221 x222 := rfl
theorem f224_0_eq (c : Orc) (lf : Nat) (n : Nat) (x220 : Int) (x221 : Int) (x222 : List T) :
    lpK c env lf 6 fi224 2 2 [] [0, 1, 5] (x224_2_0) n (f224_0_c x220 x221 x222) = f224_0 c lf n x220 x221 x222 := by
  induction n generalizing x220 x221 x222 with
  | zero => rfl
  | succ n ih =>
    refine (f224_0_round c lf _ x220 x221 x222).trans ?_
    have e : (fun x220 x221 x222 => lpK c env lf 6 fi224 2 2 [] [0, 1, 5] (x224_2_0) n (f224_0_c x220 x221 x222)) = f224_0 c lf n := by funext x220 x221 x222; exact ih x220 x221 x222
    show f224_0_s c lf (fun x220 x221 x222 => lpK c env lf 6 fi224 2 2 [] [0, 1, 5] (x224_2_0) n (f224_0_c x220 x221 x222)) x220 x221 x222 = _
    rw [e]; rfl
/-- loop.example/g00285/laws.markPageS -/
def f224_t (c : Orc) (lf : Nat) (lp0 : Int → Int → List T → Option (List T)) (l0 : List T) (n1 : Int) : Option (List T) :=
  (lp0 n1 0 l0).bind fun r224 =>
  some [T.i .i64 (asI (nth r224 1)), T.sl (asL (nth r224 2))]
def f224 (c : Orc) (lf : Nat) (l0 : List T) (n1 : Int) : Option (List T) := f224_t c lf (fun (x220 : Int) (x221 : Int) (x222 : List T) => f224_0 c lf lf x220 x221 x222) l0 n1
theorem f224_raw (c : Orc) (lf : Nat) (l0 : List T) (n1 : Int) : funK c env lf 6 fi224 [.sl l0, .i .i64 n1] = f224_t c lf (fun (x220 : Int) (x221 : Int) (x222 : List T) => lpK c env lf 6 fi224 2 2 [] [0, 1, 5] (x224_2_0) lf (f224_0_c x220 x221 x222)) l0 n1 := by kernel_rfl
theorem f224_eq (c : Orc) (lf : Nat) (l0 : List T) (n1 : Int) : funK c env lf 6 fi224 [.sl l0, .i .i64 n1] = f224 c lf l0 n1 := by
  refine (f224_raw c lf l0 n1).trans ?_
  have e0 : (fun (x220 : Int) (x221 : Int) (x222 : List T) => lpK c env lf 6 fi224 2 2 [] [0, 1, 5] (x224_2_0) lf (f224_0_c x220 x221 x222)) = (fun (x220 : Int) (x221 : Int) (x222 : List T) => f224_0 c lf lf x220 x221 x222) := by funext x220 x221 x222; exact f224_0_eq c lf lf x220 x221 x222
  rw [e0]; rfl
/-- loop.example/g00285/laws.markBlockS, the loop at region 2. -/
def f187_0_s (c : Orc) (lf : Nat) (L : Int → Int → List T → Option (List T)) (x232 : Int) (x233 : Int) (x234 : List T) : Option (List T) :=
  bif iLt x233 (x234.length : Int) then
    bif inR x233 x234.length then
    (c 224 [T.sl (asL (T.cell (x234.getD x233.toNat T.u) 0)), T.i .i64 x232]).bind fun r235 =>
    bif inR x233 ((x234.set x233.toNat (T.setc (x234.getD x233.toNat T.u) 0 (T.sl (asL (nth r235 1))))).length) then
    bif inR x233 (((x234.set x233.toNat (T.setc (x234.getD x233.toNat T.u) 0 (T.sl (asL (nth r235 1))))).set x233.toNat (T.setc ((x234.set x233.toNat (T.setc (x234.getD x233.toNat T.u) 0 (T.sl (asL (nth r235 1))))).getD x233.toNat T.u) 1 (T.i .i64 (asI (nth r235 0))))).length) then
    L (IntKind.wrap .i64 ((IntKind.wrap .i64 ((asI (nth r235 0)) + 1)) + 1)) (IntKind.wrap .i64 (x233 + 1)) (((x234.set x233.toNat (T.setc (x234.getD x233.toNat T.u) 0 (T.sl (asL (nth r235 1))))).set x233.toNat (T.setc ((x234.set x233.toNat (T.setc (x234.getD x233.toNat T.u) 0 (T.sl (asL (nth r235 1))))).getD x233.toNat T.u) 1 (T.i .i64 (asI (nth r235 0))))).set x233.toNat (T.setc (((x234.set x233.toNat (T.setc (x234.getD x233.toNat T.u) 0 (T.sl (asL (nth r235 1))))).set x233.toNat (T.setc ((x234.set x233.toNat (T.setc (x234.getD x233.toNat T.u) 0 (T.sl (asL (nth r235 1))))).getD x233.toNat T.u) 1 (T.i .i64 (asI (nth r235 0))))).getD x233.toNat T.u) 2 (T.b (((IntKind.wrap .i64 ((asI (nth r235 0)) + 1)).tmod 3) == 0))))
    else none
    else none
    else none
  else
    some [T.i .i64 0, T.i .i64 x232, T.sl x234]
def f187_0_c (x232 : Int) (x233 : Int) (x234 : List T) : CSt := ⟨[.rf 0 [] 0 none, .i .i64 x232, .i .i64 x233], [.row true [.sl true [.b, .sl false [.i .u8]], .i .i64, .b] x234 0 false, .dead]⟩
theorem f187_0_round (c : Orc) (lf : Nat) (L : CSt → Option (List T)) (x232 : Int) (x233 : Int) (x234 : List T) :
    roundK c env lf 6 fi187 2 2 [] [0, 1, 5] (x187_2_0) L (f187_0_c x232 x233 x234) = f187_0_s c lf (fun x232 x233 x234 => L (f187_0_c x232 x233 x234)) x232 x233 x234 := by kernel_rfl
def f187_0 (c : Orc) (lf : Nat) : Nat → Int → Int → List T → Option (List T)
  | 0 => fun _ _ _ => none
  | n + 1 => fun x232 x233 x234 => f187_0_s c lf (f187_0 c lf n) x232 x233 x234
theorem f187_0_u (c : Orc) (lf : Nat) (n : Nat) (x232 : Int) (x233 : Int) (x234 : List T) : f187_0 c lf (n + 1) x232 x233 x234 = f187_0_s c lf (f187_0 c lf n) x232 x233 x234 := rfl
theorem f187_0_eq (c : Orc) (lf : Nat) (n : Nat) (x232 : Int) (x233 : Int) (x234 : List T) :
    lpK c env lf 6 fi187 2 2 [] [0, 1, 5] (x187_2_0) n (f187_0_c x232 x233 x234) = f187_0 c lf n x232 x233 x234 := by
  induction n generalizing x232 x233 x234 with
  | zero => rfl
  | succ n ih =>
    refine (f187_0_round c lf _ x232 x233 x234).trans ?_
    have e : (fun x232 x233 x234 => lpK c env lf 6 fi187 2 2 [] [0, 1, 5] (x187_2_0) n (f187_0_c x232 x233 x234)) = f187_0 c lf n := by funext x232 x233 x234; exact ih x232 x233 x234
    show f187_0_s c lf (fun x232 x233 x234 => lpK c env lf 6 fi187 2 2 [] [0, 1, 5] (x187_2_0) n (f187_0_c x232 x233 x234)) x232 x233 x234 = _
    rw [e]; rfl
/-- loop.example/g00285/laws.markBlockS -/
def f187_t (c : Orc) (lf : Nat) (lp0 : Int → Int → List T → Option (List T)) (l0 : List T) (n1 : Int) : Option (List T) :=
  (lp0 n1 0 l0).bind fun r236 =>
  some [T.i .i64 (asI (nth r236 1)), T.sl (asL (nth r236 2))]
def f187 (c : Orc) (lf : Nat) (l0 : List T) (n1 : Int) : Option (List T) := f187_t c lf (fun (x232 : Int) (x233 : Int) (x234 : List T) => f187_0 c lf lf x232 x233 x234) l0 n1
theorem f187_raw (c : Orc) (lf : Nat) (l0 : List T) (n1 : Int) : funK c env lf 6 fi187 [.sl l0, .i .i64 n1] = f187_t c lf (fun (x232 : Int) (x233 : Int) (x234 : List T) => lpK c env lf 6 fi187 2 2 [] [0, 1, 5] (x187_2_0) lf (f187_0_c x232 x233 x234)) l0 n1 := by kernel_rfl
theorem f187_eq (c : Orc) (lf : Nat) (l0 : List T) (n1 : Int) : funK c env lf 6 fi187 [.sl l0, .i .i64 n1] = f187 c lf l0 n1 := by
  refine (f187_raw c lf l0 n1).trans ?_
  have e0 : (fun (x232 : Int) (x233 : Int) (x234 : List T) => lpK c env lf 6 fi187 2 2 [] [0, 1, 5] (x187_2_0) lf (f187_0_c x232 x233 x234)) = (fun (x232 : Int) (x233 : Int) (x234 : List T) => f187_0 c lf lf x232 x233 x234) := by funext x232 x233 x234; exact f187_0_eq c lf lf x232 x233 x234
  rw [e0]; rfl
/-- loop.example/g00285/laws.markChip -/
def f136_t (c : Orc) (lf : Nat) (l0_0 : List T) (n1 : Int) : Option (List T) :=
  (c 187 [T.sl l0_0, T.i .i64 n1]).bind fun r237 =>
  some [T.i .i64 (asI (nth r237 0)), T.sl (asL (nth r237 1))]
def f136 (c : Orc) (lf : Nat) (l0_0 : List T) (n1 : Int) : Option (List T) := f136_t c lf l0_0 n1
theorem f136_raw (c : Orc) (lf : Nat) (l0_0 : List T) (n1 : Int) : funK c env lf 6 fi136 [.st [.sl l0_0], .i .i64 n1] = f136_t c lf l0_0 n1 := by kernel_rfl
theorem f136_eq (c : Orc) (lf : Nat) (l0_0 : List T) (n1 : Int) : funK c env lf 6 fi136 [.st [.sl l0_0], .i .i64 n1] = f136 c lf l0_0 n1 := by
  refine (f136_raw c lf l0_0 n1).trans ?_
  rfl
/-- loop.example/g00285/laws.markFaultS, the loop at region 2. -/
def f137_0_s (c : Orc) (lf : Nat) (L : Int → Int → List T → Option (List T)) (x242 : Int) (x243 : Int) (x244 : List T) : Option (List T) :=
  bif iLt x243 (x244.length : Int) then
    bif inR x243 x244.length then
    bif inR x243 ((x244.set x243.toNat (T.setc (x244.getD x243.toNat T.u) 0 (T.i .i64 x242))).length) then
    bif inR x243 (((x244.set x243.toNat (T.setc (x244.getD x243.toNat T.u) 0 (T.i .i64 x242))).set x243.toNat (T.setc ((x244.set x243.toNat (T.setc (x244.getD x243.toNat T.u) 0 (T.i .i64 x242))).getD x243.toNat T.u) 1 (T.i .i64 (IntKind.wrap .i64 (x242 + 1))))).length) then
    L (IntKind.wrap .i64 ((IntKind.wrap .i64 ((IntKind.wrap .i64 (x242 + 1)) + 1)) + 1)) (IntKind.wrap .i64 (x243 + 1)) (((x244.set x243.toNat (T.setc (x244.getD x243.toNat T.u) 0 (T.i .i64 x242))).set x243.toNat (T.setc ((x244.set x243.toNat (T.setc (x244.getD x243.toNat T.u) 0 (T.i .i64 x242))).getD x243.toNat T.u) 1 (T.i .i64 (IntKind.wrap .i64 (x242 + 1))))).set x243.toNat (T.setc (((x244.set x243.toNat (T.setc (x244.getD x243.toNat T.u) 0 (T.i .i64 x242))).set x243.toNat (T.setc ((x244.set x243.toNat (T.setc (x244.getD x243.toNat T.u) 0 (T.i .i64 x242))).getD x243.toNat T.u) 1 (T.i .i64 (IntKind.wrap .i64 (x242 + 1))))).getD x243.toNat T.u) 2 (T.i .i64 (IntKind.wrap .i64 ((IntKind.wrap .i64 (x242 + 1)) + 1)))))
    else none
    else none
    else none
  else
    some [T.i .i64 0, T.i .i64 x242, T.sl x244]
def f137_0_c (x242 : Int) (x243 : Int) (x244 : List T) : CSt := ⟨[.rf 0 [] 0 none, .i .i64 x242, .i .i64 x243], [.row true [.i .i64, .i .i64, .i .i64] x244 0 false, .dead]⟩
theorem f137_0_round (c : Orc) (lf : Nat) (L : CSt → Option (List T)) (x242 : Int) (x243 : Int) (x244 : List T) :
    roundK c env lf 6 fi137 2 2 [] [0, 1, 5] (x137_2_0) L (f137_0_c x242 x243 x244) = f137_0_s c lf (fun x242 x243 x244 => L (f137_0_c x242 x243 x244)) x242 x243 x244 := by kernel_rfl
def f137_0 (c : Orc) (lf : Nat) : Nat → Int → Int → List T → Option (List T)
  | 0 => fun _ _ _ => none
  | n + 1 => fun x242 x243 x244 => f137_0_s c lf (f137_0 c lf n) x242 x243 x244
theorem f137_0_u (c : Orc) (lf : Nat) (n : Nat) (x242 : Int) (x243 : Int) (x244 : List T) : f137_0 c lf (n + 1) x242 x243 x244 = f137_0_s c lf (f137_0 c lf n) x242 x243 x244 := rfl
theorem f137_0_eq (c : Orc) (lf : Nat) (n : Nat) (x242 : Int) (x243 : Int) (x244 : List T) :
    lpK c env lf 6 fi137 2 2 [] [0, 1, 5] (x137_2_0) n (f137_0_c x242 x243 x244) = f137_0 c lf n x242 x243 x244 := by
  induction n generalizing x242 x243 x244 with
  | zero => rfl
  | succ n ih =>
    refine (f137_0_round c lf _ x242 x243 x244).trans ?_
    have e : (fun x242 x243 x244 => lpK c env lf 6 fi137 2 2 [] [0, 1, 5] (x137_2_0) n (f137_0_c x242 x243 x244)) = f137_0 c lf n := by funext x242 x243 x244; exact ih x242 x243 x244
    show f137_0_s c lf (fun x242 x243 x244 => lpK c env lf 6 fi137 2 2 [] [0, 1, 5] (x137_2_0) n (f137_0_c x242 x243 x244)) x242 x243 x244 = _
    rw [e]; rfl
/-- loop.example/g00285/laws.markFaultS -/
def f137_t (c : Orc) (lf : Nat) (lp0 : Int → Int → List T → Option (List T)) (l0 : List T) (n1 : Int) : Option (List T) :=
  (lp0 n1 0 l0).bind fun r245 =>
  some [T.i .i64 (asI (nth r245 1)), T.sl (asL (nth r245 2))]
def f137 (c : Orc) (lf : Nat) (l0 : List T) (n1 : Int) : Option (List T) := f137_t c lf (fun (x242 : Int) (x243 : Int) (x244 : List T) => f137_0 c lf lf x242 x243 x244) l0 n1
theorem f137_raw (c : Orc) (lf : Nat) (l0 : List T) (n1 : Int) : funK c env lf 6 fi137 [.sl l0, .i .i64 n1] = f137_t c lf (fun (x242 : Int) (x243 : Int) (x244 : List T) => lpK c env lf 6 fi137 2 2 [] [0, 1, 5] (x137_2_0) lf (f137_0_c x242 x243 x244)) l0 n1 := by kernel_rfl
theorem f137_eq (c : Orc) (lf : Nat) (l0 : List T) (n1 : Int) : funK c env lf 6 fi137 [.sl l0, .i .i64 n1] = f137 c lf l0 n1 := by
  refine (f137_raw c lf l0 n1).trans ?_
  have e0 : (fun (x242 : Int) (x243 : Int) (x244 : List T) => lpK c env lf 6 fi137 2 2 [] [0, 1, 5] (x137_2_0) lf (f137_0_c x242 x243 x244)) = (fun (x242 : Int) (x243 : Int) (x244 : List T) => f137_0 c lf lf x242 x243 x244) := by funext x242 x243 x244; exact f137_0_eq c lf lf x242 x243 x244
  rw [e0]; rfl
/-- loop.example/g00285/laws.markDev -/
def f82_t (c : Orc) (lf : Nat) (l0_0 : List T) (n0_1 : Int) (l0_2 : List T) (b0_3 : Bool) (n1 : Int) : Option (List T) :=
  (c 136 [T.st [T.sl l0_0], T.i .i64 n1]).bind fun r246 =>
  (c 137 [T.sl l0_2, T.i .i64 (asI (nth r246 0))]).bind fun r247 =>
  some [T.i .i64 (asI (nth r247 0)), T.sl (asL (nth r246 1)), T.sl (asL (nth r247 1))]
def f82 (c : Orc) (lf : Nat) (l0_0 : List T) (n0_1 : Int) (l0_2 : List T) (b0_3 : Bool) (n1 : Int) : Option (List T) := f82_t c lf l0_0 n0_1 l0_2 b0_3 n1
theorem f82_raw (c : Orc) (lf : Nat) (l0_0 : List T) (n0_1 : Int) (l0_2 : List T) (b0_3 : Bool) (n1 : Int) : funK c env lf 6 fi82 [.st [.sl l0_0, .i .i64 n0_1, .sl l0_2, .b b0_3], .i .i64 n1] = f82_t c lf l0_0 n0_1 l0_2 b0_3 n1 := by kernel_rfl
theorem f82_eq (c : Orc) (lf : Nat) (l0_0 : List T) (n0_1 : Int) (l0_2 : List T) (b0_3 : Bool) (n1 : Int) : funK c env lf 6 fi82 [.st [.sl l0_0, .i .i64 n0_1, .sl l0_2, .b b0_3], .i .i64 n1] = f82 c lf l0_0 n0_1 l0_2 b0_3 n1 := by
  refine (f82_raw c lf l0_0 n0_1 l0_2 b0_3 n1).trans ?_
  rfl
/-- loop.example/g00285/laws.markLog -/
def f26_t (c : Orc) (lf : Nat) (l0_0 : List T) (n0_1 : Int) (l0_2 : List T) (b0_3 : Bool) (n0_4 : Int) (n1 : Int) : Option (List T) :=
  (c 82 [T.st [T.sl l0_0, T.i .i64 n0_1, T.sl l0_2, T.b b0_3], T.i .i64 n1]).bind fun r248 =>
  some [T.i .i64 (asI (nth r248 0)), T.sl (asL (nth r248 1)), T.sl (asL (nth r248 2))]
def f26 (c : Orc) (lf : Nat) (l0_0 : List T) (n0_1 : Int) (l0_2 : List T) (b0_3 : Bool) (n0_4 : Int) (n1 : Int) : Option (List T) := f26_t c lf l0_0 n0_1 l0_2 b0_3 n0_4 n1
theorem f26_raw (c : Orc) (lf : Nat) (l0_0 : List T) (n0_1 : Int) (l0_2 : List T) (b0_3 : Bool) (n0_4 : Int) (n1 : Int) : funK c env lf 6 fi26 [.st [.sl l0_0, .i .i64 n0_1, .sl l0_2, .b b0_3, .i .i64 n0_4], .i .i64 n1] = f26_t c lf l0_0 n0_1 l0_2 b0_3 n0_4 n1 := by kernel_rfl
theorem f26_eq (c : Orc) (lf : Nat) (l0_0 : List T) (n0_1 : Int) (l0_2 : List T) (b0_3 : Bool) (n0_4 : Int) (n1 : Int) : funK c env lf 6 fi26 [.st [.sl l0_0, .i .i64 n0_1, .sl l0_2, .b b0_3, .i .i64 n0_4], .i .i64 n1] = f26 c lf l0_0 n0_1 l0_2 b0_3 n0_4 n1 := by
  refine (f26_raw c lf l0_0 n0_1 l0_2 b0_3 n0_4 n1).trans ?_
  rfl
/-- loop.example/g00285/laws.markRec -/
def f27_t (c : Orc) (lf : Nat) (n0_0 : Int) (n0_1 : Int) (l0_2 : List T) (n1 : Int) : Option (List T) :=
  (c 49 [T.sl l0_2, T.i .i64 n1]).bind fun r249 =>
  some [T.i .i64 (asI (nth r249 0)), T.sl (asL (nth r249 1))]
def f27 (c : Orc) (lf : Nat) (n0_0 : Int) (n0_1 : Int) (l0_2 : List T) (n1 : Int) : Option (List T) := f27_t c lf n0_0 n0_1 l0_2 n1
theorem f27_raw (c : Orc) (lf : Nat) (n0_0 : Int) (n0_1 : Int) (l0_2 : List T) (n1 : Int) : funK c env lf 6 fi27 [.st [.i .i64 n0_0, .i .i64 n0_1, .sl l0_2], .i .i64 n1] = f27_t c lf n0_0 n0_1 l0_2 n1 := by kernel_rfl
theorem f27_eq (c : Orc) (lf : Nat) (n0_0 : Int) (n0_1 : Int) (l0_2 : List T) (n1 : Int) : funK c env lf 6 fi27 [.st [.i .i64 n0_0, .i .i64 n0_1, .sl l0_2], .i .i64 n1] = f27 c lf n0_0 n0_1 l0_2 n1 := by
  refine (f27_raw c lf n0_0 n0_1 l0_2 n1).trans ?_
  rfl
/-- loop.example/g00285/laws.heldByteS, the loop at region 2. -/
def f83_0_s (c : Orc) (lf : Nat) (l0 : List T) (L : Int → Int → Option (List T)) (x253 : Int) (x254 : Int) : Option (List T) :=
  bif iLt x254 (l0.length : Int) then
    bif inR x254 l0.length then
    bif (asI (l0.getD x254.toNat T.u)) != (IntKind.wrap .u8 x253) then
      some [T.i .i64 0, T.i .i64 (-1)]
    else
      L (IntKind.wrap .i64 (x253 + 1)) (IntKind.wrap .i64 (x254 + 1))
    else none
  else
    some [T.i .i64 1, T.i .i64 x253]
def f83_0_c (l0 : List T) (x253 : Int) (x254 : Int) : CSt := ⟨[.ro 0 false [.i .u8] l0, .i .i64 x253, .i .i64 x254], [.dead, .dead]⟩
theorem f83_0_round (c : Orc) (lf : Nat) (l0 : List T) (L : CSt → Option (List T)) (x253 : Int) (x254 : Int) :
    roundK c env lf 6 fi83 2 2 [] [0, 1, 5] (x83_2_0) L (f83_0_c l0 x253 x254) = f83_0_s c lf l0 (fun x253 x254 => L (f83_0_c l0 x253 x254)) x253 x254 := by kernel_rfl
def f83_0 (c : Orc) (lf : Nat) (l0 : List T) : Nat → Int → Int → Option (List T)
  | 0 => fun _ _ => none
  | n + 1 => fun x253 x254 => f83_0_s c lf l0 (f83_0 c lf l0 n) x253 x254
theorem f83_0_u (c : Orc) (lf : Nat) (l0 : List T) (n : Nat) (x253 : Int) (x254 : Int) : f83_0 c lf l0 (n + 1) x253 x254 = f83_0_s c lf l0 (f83_0 c lf l0 n) x253 x254 := rfl
theorem f83_0_eq (c : Orc) (lf : Nat) (l0 : List T) (n : Nat) (x253 : Int) (x254 : Int) :
    lpK c env lf 6 fi83 2 2 [] [0, 1, 5] (x83_2_0) n (f83_0_c l0 x253 x254) = f83_0 c lf l0 n x253 x254 := by
  induction n generalizing x253 x254 with
  | zero => rfl
  | succ n ih =>
    refine (f83_0_round c lf l0 _ x253 x254).trans ?_
    have e : (fun x253 x254 => lpK c env lf 6 fi83 2 2 [] [0, 1, 5] (x83_2_0) n (f83_0_c l0 x253 x254)) = f83_0 c lf l0 n := by funext x253 x254; exact ih x253 x254
    show f83_0_s c lf l0 (fun x253 x254 => lpK c env lf 6 fi83 2 2 [] [0, 1, 5] (x83_2_0) n (f83_0_c l0 x253 x254)) x253 x254 = _
    rw [e]; rfl
/-- loop.example/g00285/laws.heldByteS -/
def f83_t (c : Orc) (lf : Nat) (lp0 : List T → Int → Int → Option (List T)) (l0 : List T) (n1 : Int) : Option (List T) :=
  (lp0 l0 n1 0).bind fun r255 =>
  bif asI (nth r255 0) == 0 then
    some [T.i .i64 (asI (nth r255 1))]
  else
    some [T.i .i64 (asI (nth r255 1))]
def f83 (c : Orc) (lf : Nat) (l0 : List T) (n1 : Int) : Option (List T) := f83_t c lf (fun (l0 : List T) (x253 : Int) (x254 : Int) => f83_0 c lf l0 lf x253 x254) l0 n1
theorem f83_raw (c : Orc) (lf : Nat) (l0 : List T) (n1 : Int) : funK c env lf 6 fi83 [.sl l0, .i .i64 n1] = f83_t c lf (fun (l0 : List T) (x253 : Int) (x254 : Int) => lpK c env lf 6 fi83 2 2 [] [0, 1, 5] (x83_2_0) lf (f83_0_c l0 x253 x254)) l0 n1 := by kernel_rfl
theorem f83_eq (c : Orc) (lf : Nat) (l0 : List T) (n1 : Int) : funK c env lf 6 fi83 [.sl l0, .i .i64 n1] = f83 c lf l0 n1 := by
  refine (f83_raw c lf l0 n1).trans ?_
  have e0 : (fun (l0 : List T) (x253 : Int) (x254 : Int) => lpK c env lf 6 fi83 2 2 [] [0, 1, 5] (x83_2_0) lf (f83_0_c l0 x253 x254)) = (fun (l0 : List T) (x253 : Int) (x254 : Int) => f83_0 c lf l0 lf x253 x254) := by funext l0 x253 x254; exact f83_0_eq c lf l0 lf x253 x254
  rw [e0]; rfl
/-- loop.example/g00285/laws.heldRec -/
def f28_t (c : Orc) (lf : Nat) (n0_0 : Int) (n0_1 : Int) (l0_2 : List T) (n1 : Int) : Option (List T) :=
  (c 83 [T.sl l0_2, T.i .i64 n1]).bind fun r256 =>
  bif iLt (asI (nth r256 0)) 0 then
    some [T.i .i64 (-1)]
  else
    some [T.i .i64 (asI (nth r256 0))]
def f28 (c : Orc) (lf : Nat) (n0_0 : Int) (n0_1 : Int) (l0_2 : List T) (n1 : Int) : Option (List T) := f28_t c lf n0_0 n0_1 l0_2 n1
theorem f28_raw (c : Orc) (lf : Nat) (n0_0 : Int) (n0_1 : Int) (l0_2 : List T) (n1 : Int) : funK c env lf 6 fi28 [.st [.i .i64 n0_0, .i .i64 n0_1, .sl l0_2], .i .i64 n1] = f28_t c lf n0_0 n0_1 l0_2 n1 := by kernel_rfl
theorem f28_eq (c : Orc) (lf : Nat) (n0_0 : Int) (n0_1 : Int) (l0_2 : List T) (n1 : Int) : funK c env lf 6 fi28 [.st [.i .i64 n0_0, .i .i64 n0_1, .sl l0_2], .i .i64 n1] = f28 c lf n0_0 n0_1 l0_2 n1 := by
  refine (f28_raw c lf n0_0 n0_1 l0_2 n1).trans ?_
  rfl
/-- loop.example/g00285/laws.FnExactReadAt -/
def f5_t (c : Orc) (lf : Nat) (l0_0 : List T) (n0_1 : Int) (l0_2 : List T) (b0_3 : Bool) (n0_4 : Int) (n1 : Int) (n2 : Int) : Option (List T) :=
  (c 18 [T.st [T.sl l0_0, T.i .i64 n0_1, T.sl l0_2, T.b b0_3, T.i .i64 n0_4], T.i .i64 1048576]).bind fun r257 =>
  bif iLt (asI (nth r257 0)) 0 then
    some [T.b true]
  else
    (c 20 [T.st [T.sl l0_0, T.i .i64 n0_1, T.sl l0_2, T.b b0_3, T.i .i64 n0_4]]).bind fun r258 =>
    (c 23 [T.st [T.sl (asL (T.cell (nth r258 0) 0)), T.i .i64 (asI (T.cell (nth r258 0) 1)), T.sl (asL (T.cell (nth r258 0) 2)), T.b (asB (T.cell (nth r258 0) 3)), T.i .i64 (asI (T.cell (nth r258 0) 4))], T.i .i64 n1, T.i .i64 n2]).bind fun r259 =>
    (c 20 [T.st [T.sl l0_0, T.i .i64 n0_1, T.sl l0_2, T.b b0_3, T.i .i64 n0_4]]).bind fun r260 =>
    (c 24 [T.st [T.sl (asL (T.cell (nth r260 0) 0)), T.i .i64 (asI (T.cell (nth r260 0) 1)), T.sl (asL (T.cell (nth r260 0) 2)), T.b (asB (T.cell (nth r260 0) 3)), T.i .i64 (asI (T.cell (nth r260 0) 4))], T.i .i64 n1, T.i .i64 n2]).bind fun r261 =>
    (c 25 [T.st [T.i .i64 (asI (T.cell (nth r261 0) 0)), T.i .i64 (asI (T.cell (nth r261 0) 1)), T.sl (asL (T.cell (nth r261 0) 2))], T.st [T.i .i64 (asI (T.cell (nth r259 0) 0)), T.i .i64 (asI (T.cell (nth r259 0) 1)), T.sl (asL (T.cell (nth r259 0) 2))]]).bind fun r262 =>
    bif !(asB (nth r262 0)) then
      some [T.b false]
    else
      bif !((asB (nth r261 1)) == (asB (nth r259 1))) then
        some [T.b false]
      else
        (c 20 [T.st [T.sl l0_0, T.i .i64 n0_1, T.sl l0_2, T.b b0_3, T.i .i64 n0_4]]).bind fun r263 =>
        (c 22 [T.st [T.sl (asL (T.cell (nth r260 0) 0)), T.i .i64 (asI (T.cell (nth r260 0) 1)), T.sl (asL (T.cell (nth r260 0) 2)), T.b (asB (T.cell (nth r260 0) 3)), T.i .i64 (asI (T.cell (nth r260 0) 4))], T.st [T.sl (asL (T.cell (nth r263 0) 0)), T.i .i64 (asI (T.cell (nth r263 0) 1)), T.sl (asL (T.cell (nth r263 0) 2)), T.b (asB (T.cell (nth r263 0) 3)), T.i .i64 (asI (T.cell (nth r263 0) 4))]]).bind fun r264 =>
        bif !(asB (nth r264 0)) then
          some [T.b false]
        else
          (c 26 [T.st [T.sl (asL (T.cell (nth r260 0) 0)), T.i .i64 (asI (T.cell (nth r260 0) 1)), T.sl (asL (T.cell (nth r260 0) 2)), T.b (asB (T.cell (nth r260 0) 3)), T.i .i64 (asI (T.cell (nth r260 0) 4))], T.i .i64 1]).bind fun r265 =>
          bif iLt (asI (nth r265 0)) 0 then
            some [T.b false]
          else
            (c 25 [T.st [T.i .i64 (asI (T.cell (nth r261 0) 0)), T.i .i64 (asI (T.cell (nth r261 0) 1)), T.sl (asL (T.cell (nth r261 0) 2))], T.st [T.i .i64 (asI (T.cell (nth r259 0) 0)), T.i .i64 (asI (T.cell (nth r259 0) 1)), T.sl (asL (T.cell (nth r259 0) 2))]]).bind fun r266 =>
            bif !(asB (nth r266 0)) then
              some [T.b false]
            else
              bif !((asB (nth r261 1)) == (asB (nth r259 1))) then
                some [T.b false]
              else
                (c 27 [T.st [T.i .i64 (asI (T.cell (nth r261 0) 0)), T.i .i64 (asI (T.cell (nth r261 0) 1)), T.sl (asL (T.cell (nth r261 0) 2))], T.i .i64 1]).bind fun r267 =>
                (c 28 [T.st [T.i .i64 (asI (T.cell (nth r261 0) 0)), T.i .i64 (asI (T.cell (nth r261 0) 1)), T.sl (asL (nth r267 1))], T.i .i64 1]).bind fun r268 =>
                bif iLt (asI (nth r268 0)) 0 then
                  some [T.b false]
                else
                  bif (asI (nth r268 0)) != (asI (nth r267 0)) then
                    some [T.b false]
                  else
                    (c 20 [T.st [T.sl l0_0, T.i .i64 n0_1, T.sl l0_2, T.b b0_3, T.i .i64 n0_4]]).bind fun r269 =>
                    (c 24 [T.st [T.sl (asL (T.cell (nth r269 0) 0)), T.i .i64 (asI (T.cell (nth r269 0) 1)), T.sl (asL (T.cell (nth r269 0) 2)), T.b (asB (T.cell (nth r269 0) 3)), T.i .i64 (asI (T.cell (nth r269 0) 4))], T.i .i64 n1, T.i .i64 n2]).bind fun r270 =>
                    (c 25 [T.st [T.i .i64 (asI (T.cell (nth r270 0) 0)), T.i .i64 (asI (T.cell (nth r270 0) 1)), T.sl (asL (T.cell (nth r270 0) 2))], T.st [T.i .i64 (asI (T.cell (nth r259 0) 0)), T.i .i64 (asI (T.cell (nth r259 0) 1)), T.sl (asL (T.cell (nth r259 0) 2))]]).bind fun r271 =>
                    bif !(asB (nth r271 0)) then
                      some [T.b false]
                    else
                      bif !((asB (nth r270 1)) == (asB (nth r259 1))) then
                        some [T.b false]
                      else
                        (c 28 [T.st [T.i .i64 (asI (T.cell (nth r261 0) 0)), T.i .i64 (asI (T.cell (nth r261 0) 1)), T.sl (asL (nth r267 1))], T.i .i64 1]).bind fun r272 =>
                        bif iLt (asI (nth r272 0)) 0 then
                          some [T.b false]
                        else
                          bif (asI (nth r272 0)) != (asI (nth r267 0)) then
                            some [T.b false]
                          else
                            some [T.b true]
def f5 (c : Orc) (lf : Nat) (l0_0 : List T) (n0_1 : Int) (l0_2 : List T) (b0_3 : Bool) (n0_4 : Int) (n1 : Int) (n2 : Int) : Option (List T) := f5_t c lf l0_0 n0_1 l0_2 b0_3 n0_4 n1 n2
theorem f5_raw (c : Orc) (lf : Nat) (l0_0 : List T) (n0_1 : Int) (l0_2 : List T) (b0_3 : Bool) (n0_4 : Int) (n1 : Int) (n2 : Int) : funK c env lf 6 fi5 [.st [.sl l0_0, .i .i64 n0_1, .sl l0_2, .b b0_3, .i .i64 n0_4], .i .i64 n1, .i .i64 n2] = f5_t c lf l0_0 n0_1 l0_2 b0_3 n0_4 n1 n2 := by kernel_rfl
theorem f5_eq (c : Orc) (lf : Nat) (l0_0 : List T) (n0_1 : Int) (l0_2 : List T) (b0_3 : Bool) (n0_4 : Int) (n1 : Int) (n2 : Int) : funK c env lf 6 fi5 [.st [.sl l0_0, .i .i64 n0_1, .sl l0_2, .b b0_3, .i .i64 n0_4], .i .i64 n1, .i .i64 n2] = f5 c lf l0_0 n0_1 l0_2 b0_3 n0_4 n1 n2 := by
  refine (f5_raw c lf l0_0 n0_1 l0_2 b0_3 n0_4 n1 n2).trans ?_
  rfl
end Go.Proofs.Ytdclnhlpifahpaa.T
