/- What functions of the law FnExactOpenBlock come to, in trees; no condition. -/
import Derived.Test.YtockabaoaneplaaRows
import Derived.Test.YtockabaoaneplaaV4
import Derived.KernelRfl
set_option linter.unusedVariables false
set_option linter.constructorNameAsVariable false
set_option linter.unusedSimpArgs false
set_option linter.unnecessarySimpa false
namespace Go.Proofs.Ytockabaoaneplaa.T
open Go Go.Proofs.YtockabaoaneplaaV
def tyTab : List (Nat × Ti) := [
  (3, ⟨false, [.i .i64], .o⟩),
  (4, ⟨false, [.b], .o⟩),
  (5, ⟨false, [.i .u8], .o⟩),
  (22, ⟨false, [.sl false [.i .u8]], .sl 5⟩),
  (63, ⟨false, [.sl true [.sl true [.b, .sl false [.i .u8]], .i .i64, .b]], .sl 195⟩),
  (65, ⟨true, [.sl true [.sl true [.b, .sl false [.i .u8]], .i .i64, .b]], .st [(0, 63)]⟩),
  (66, ⟨false, [.sl true [.i .i64, .i .i64, .i .i64]], .sl 183⟩),
  (68, ⟨true, [.sl true [.sl true [.b, .sl false [.i .u8]], .i .i64, .b], .i .i64, .sl true [.i .i64, .i .i64, .i .i64], .b], .st [(0, 65), (1, 3), (2, 66), (3, 4)]⟩),
  (70, ⟨true, [.sl true [.sl true [.b, .sl false [.i .u8]], .i .i64, .b], .i .i64, .sl true [.i .i64, .i .i64, .i .i64], .b, .i .i64], .st [(0, 68), (4, 3)]⟩),
  (73, ⟨false, [.sl true [.sl true [.b, .sl false [.i .u8]], .i .i64, .b]], .sl 100⟩),
  (75, ⟨true, [.sl true [.sl true [.b, .sl false [.i .u8]], .i .i64, .b]], .st [(0, 73)]⟩),
  (76, ⟨false, [.sl true [.i .i64, .i .i64, .i .i64]], .sl 181⟩),
  (78, ⟨true, [.sl true [.sl true [.b, .sl false [.i .u8]], .i .i64, .b], .i .i64, .sl true [.i .i64, .i .i64, .i .i64], .b], .st [(0, 75), (1, 3), (2, 76), (3, 4)]⟩),
  (80, ⟨true, [.sl true [.sl true [.b, .sl false [.i .u8]], .i .i64, .b], .i .i64, .sl true [.i .i64, .i .i64, .i .i64], .b, .i .i64], .st [(0, 78), (4, 3)]⟩),
  (98, ⟨false, [.sl true [.b, .sl false [.i .u8]]], .sl 151⟩),
  (100, ⟨true, [.sl true [.b, .sl false [.i .u8]], .i .i64, .b], .st [(0, 98), (1, 3), (2, 4)]⟩),
  (151, ⟨true, [.b, .sl false [.i .u8]], .st [(0, 4), (1, 22)]⟩),
  (181, ⟨true, [.i .i64, .i .i64, .i .i64], .st [(0, 3), (1, 3), (2, 3)]⟩),
  (183, ⟨true, [.i .i64, .i .i64, .i .i64], .st [(0, 3), (1, 3), (2, 3)]⟩),
  (193, ⟨false, [.sl true [.b, .sl false [.i .u8]]], .sl 222⟩),
  (195, ⟨true, [.sl true [.b, .sl false [.i .u8]], .i .i64, .b], .st [(0, 193), (1, 3), (2, 4)]⟩),
  (222, ⟨true, [.b, .sl false [.i .u8]], .st [(0, 4), (1, 22)]⟩)]
noncomputable def fi189 : Fi := ⟨Try.f189, [], false, [.ro (.sl false [.i .u8]), .v (.i .i64)], [.v (.i .i64)]⟩
noncomputable def fi182 : Fi := ⟨Try.f182, [], false, [.ag [.v (.b), .ro (.sl false [.i .u8])], .v (.i .i64)], [.v (.i .i64)]⟩
def x168_5_0 : List (Ex × List Nat × CSt) := [(.ret, [4], ⟨[.i .i64 0], [.dead, .dead]⟩), ((.ex 0), [1], ⟨[.i .i64 0], [.dead, .dead]⟩)]
noncomputable def fi168 : Fi := ⟨Try.f168, [⟨5, [0, 1, 5], [], [(⟨[.ro 0 true [.b, .sl false [.i .u8]] [], .i .i64 0, .i .i64 0], [.dead, .dead]⟩, x168_5_0)]⟩], false, [.ro (.sl true [.b, .sl false [.i .u8]]), .v (.i .i64)], [.v (.i .i64)]⟩
noncomputable def fi157 : Fi := ⟨Try.f157, [], false, [.ag [.ro (.sl true [.b, .sl false [.i .u8]]), .v (.i .i64), .v (.b)], .v (.i .i64)], [.v (.i .i64)]⟩
def x146_5_0 : List (Ex × List Nat × CSt) := [(.ret, [4], ⟨[.i .i64 0], [.dead, .dead]⟩), ((.ex 0), [1], ⟨[.i .i64 0], [.dead, .dead]⟩)]
noncomputable def fi146 : Fi := ⟨Try.f146, [⟨5, [0, 1, 5], [], [(⟨[.ro 0 true [.sl true [.b, .sl false [.i .u8]], .i .i64, .b] [], .i .i64 0, .i .i64 0], [.dead, .dead]⟩, x146_5_0)]⟩], false, [.ro (.sl true [.sl true [.b, .sl false [.i .u8]], .i .i64, .b]), .v (.i .i64)], [.v (.i .i64)]⟩
noncomputable def fi133 : Fi := ⟨Try.f133, [], false, [.ag [.ro (.sl true [.sl true [.b, .sl false [.i .u8]], .i .i64, .b])], .v (.i .i64)], [.v (.i .i64)]⟩
noncomputable def fi134 : Fi := ⟨Try.f134, [], false, [.ro (.sl true [.i .i64, .i .i64, .i .i64]), .v (.i .i64)], [.v (.i .i64)]⟩
noncomputable def fi96 : Fi := ⟨Try.f96, [], false, [.ag [.ro (.sl true [.sl true [.b, .sl false [.i .u8]], .i .i64, .b]), .v (.i .i64), .ro (.sl true [.i .i64, .i .i64, .i .i64]), .v (.b)], .v (.i .i64)], [.v (.i .i64)]⟩
noncomputable def fi39 : Fi := ⟨Try.f39, [], false, [.ag [.ro (.sl true [.sl true [.b, .sl false [.i .u8]], .i .i64, .b]), .v (.i .i64), .ro (.sl true [.i .i64, .i .i64, .i .i64]), .v (.b), .v (.i .i64)], .v (.i .i64)], [.v (.i .i64)]⟩
def x45_3_0 : List (Ex × List Nat × CSt) := [((.ex 0), [3], ⟨[.rf 1 [] 0 none], [.dead, .row false [.i .u8] [] 0 false]⟩)]
noncomputable def fi45 : Fi := ⟨Try.f45, [⟨3, [0, 3, 4], [], [(⟨[.ro 0 false [.i .u8] [], .rf 1 [] 0 none, .i .i64 0], [.dead, .row false [.i .u8] [] 0 false]⟩, x45_3_0)]⟩], false, [.ro (.sl false [.i .u8])], [.ow (.sl false [.i .u8])]⟩
noncomputable def fi183 : Fi := ⟨Try.f183, [], false, [.ag [.v (.b), .ro (.sl false [.i .u8])]], [.ag [.v (.b), .ow (.sl false [.i .u8])]]⟩
def x169_3_0 : List (Ex × List Nat × CSt) := [((.ex 0), [3], ⟨[.rf 1 [] 0 none], [.dead, .row true [.b, .sl false [.i .u8]] [] 0 false]⟩)]
noncomputable def fi169 : Fi := ⟨Try.f169, [⟨3, [0, 3, 4], [], [(⟨[.ro 0 true [.b, .sl false [.i .u8]] [], .rf 1 [] 0 none, .i .i64 0], [.dead, .row true [.b, .sl false [.i .u8]] [] 0 false]⟩, x169_3_0)]⟩], false, [.ro (.sl true [.b, .sl false [.i .u8]])], [.ow (.sl true [.b, .sl false [.i .u8]])]⟩
noncomputable def fi158 : Fi := ⟨Try.f158, [], false, [.ag [.ro (.sl true [.b, .sl false [.i .u8]]), .v (.i .i64), .v (.b)]], [.ag [.ow (.sl true [.b, .sl false [.i .u8]]), .v (.i .i64), .v (.b)]]⟩
def x147_3_0 : List (Ex × List Nat × CSt) := [((.ex 0), [3], ⟨[.rf 1 [] 0 none], [.dead, .row true [.sl true [.b, .sl false [.i .u8]], .i .i64, .b] [] 0 false]⟩)]
noncomputable def fi147 : Fi := ⟨Try.f147, [⟨3, [0, 3, 4], [], [(⟨[.ro 0 true [.sl true [.b, .sl false [.i .u8]], .i .i64, .b] [], .rf 1 [] 0 none, .i .i64 0], [.dead, .row true [.sl true [.b, .sl false [.i .u8]], .i .i64, .b] [] 0 false]⟩, x147_3_0)]⟩], false, [.ro (.sl true [.sl true [.b, .sl false [.i .u8]], .i .i64, .b])], [.ow (.sl true [.sl true [.b, .sl false [.i .u8]], .i .i64, .b])]⟩
noncomputable def fi135 : Fi := ⟨Try.f135, [], false, [.ag [.ro (.sl true [.sl true [.b, .sl false [.i .u8]], .i .i64, .b])]], [.ag [.ow (.sl true [.sl true [.b, .sl false [.i .u8]], .i .i64, .b])]]⟩
noncomputable def fi148 : Fi := ⟨Try.f148, [], false, [.ag [.v (.i .i64), .v (.i .i64), .v (.i .i64)]], [.ag [.v (.i .i64), .v (.i .i64), .v (.i .i64)]]⟩
def x136_3_0 : List (Ex × List Nat × CSt) := [((.ex 0), [3], ⟨[.rf 1 [] 0 none], [.dead, .row true [.i .i64, .i .i64, .i .i64] [] 0 false]⟩)]
noncomputable def fi136 : Fi := ⟨Try.f136, [⟨3, [0, 3, 4], [], [(⟨[.ro 0 true [.i .i64, .i .i64, .i .i64] [], .rf 1 [] 0 none, .i .i64 0], [.dead, .row true [.i .i64, .i .i64, .i .i64] [] 0 false]⟩, x136_3_0)]⟩], false, [.ro (.sl true [.i .i64, .i .i64, .i .i64])], [.ow (.sl true [.i .i64, .i .i64, .i .i64])]⟩
noncomputable def fi98 : Fi := ⟨Try.f98, [], false, [.ag [.ro (.sl true [.sl true [.b, .sl false [.i .u8]], .i .i64, .b]), .v (.i .i64), .ro (.sl true [.i .i64, .i .i64, .i .i64]), .v (.b)]], [.ag [.ow (.sl true [.sl true [.b, .sl false [.i .u8]], .i .i64, .b]), .v (.i .i64), .ow (.sl true [.i .i64, .i .i64, .i .i64]), .v (.b)]]⟩
noncomputable def fi41 : Fi := ⟨Try.f41, [], false, [.ag [.ro (.sl true [.sl true [.b, .sl false [.i .u8]], .i .i64, .b]), .v (.i .i64), .ro (.sl true [.i .i64, .i .i64, .i .i64]), .v (.b), .v (.i .i64)]], [.ag [.ow (.sl true [.sl true [.b, .sl false [.i .u8]], .i .i64, .b]), .v (.i .i64), .ow (.sl true [.i .i64, .i .i64, .i .i64]), .v (.b), .v (.i .i64)]]⟩
def x97_3_0 : List (Ex × List Nat × CSt) := [((.ex 0), [3], ⟨[.i .i64 0], [.dead, .dead, .dead]⟩)]
noncomputable def fi97 : Fi := ⟨Try.f97, [⟨3, [1, 3, 4], [], [(⟨[.bp 3 0, .i .i64 0, .i .i64 0], [.dead, .dead, .dead, .box [.ro 0 true [.b, .sl false [.i .u8]] [], .i .i64 0, .b false]]⟩, x97_3_0)]⟩], false, [.ag [.ro (.sl true [.b, .sl false [.i .u8]]), .v (.i .i64), .v (.b)]], [.v (.i .i64)]⟩
def x63_3_0 : List (Ex × List Nat × CSt) := [((.ex 0), [3], ⟨[.i .i64 0], [.dead, .dead, .dead, .dead, .dead]⟩)]
noncomputable def fi63 : Fi := ⟨Try.f63, [⟨3, [1, 3, 4], [], [(⟨[.bp 5 0, .i .i64 0, .i .i64 0], [.dead, .dead, .dead, .dead, .dead, .box [.ro 0 true [.sl true [.b, .sl false [.i .u8]], .i .i64, .b] [], .i .i64 0, .ro 0 true [.i .i64, .i .i64, .i .i64] [], .b false, .i .i64 0]]⟩, x63_3_0)]⟩], false, [.ag [.ro (.sl true [.sl true [.b, .sl false [.i .u8]], .i .i64, .b]), .v (.i .i64), .ro (.sl true [.i .i64, .i .i64, .i .i64]), .v (.b), .v (.i .i64)]], [.v (.i .i64)]⟩
def x48_3_0 : List (Ex × List Nat × CSt) := [(.ret, [4], ⟨[.i .i64 0], [.dead, .dead, .dead, .dead, .dead, .dead]⟩), ((.ex 0), [1, 2, 5], ⟨[.i .i64 0, .bp 6 0, .i .i64 0], [.dead, .dead, .dead, .dead, .dead, .dead, .box [.ro 0 true [.sl true [.b, .sl false [.i .u8]], .i .i64, .b] [], .i .i64 0, .ro 0 true [.i .i64, .i .i64, .i .i64] [], .b false, .i .i64 0]]⟩)]
noncomputable def fi48 : Fi := ⟨Try.f48, [⟨3, [1, 2, 5, 6], [], [(⟨[.i .i64 0, .bp 6 0, .i .i64 0, .i .i64 0], [.dead, .dead, .dead, .dead, .dead, .dead, .box [.ro 0 true [.sl true [.b, .sl false [.i .u8]], .i .i64, .b] [], .i .i64 0, .ro 0 true [.i .i64, .i .i64, .i .i64] [], .b false, .i .i64 0]]⟩, x48_3_0)]⟩], false, [.ag [.ro (.sl true [.sl true [.b, .sl false [.i .u8]], .i .i64, .b]), .v (.i .i64), .ro (.sl true [.i .i64, .i .i64, .i .i64]), .v (.b), .v (.i .i64)], .v (.i .i64)], [.v (.i .i64)]⟩
noncomputable def fi76 : Fi := ⟨Try.f76, [], false, [.v (.i .i64), .v (.i .i64), .v (.i .i64)], [.v (.b)]⟩
noncomputable def fi122 : Fi := ⟨Try.f122, [], false, [.ag [.ro (.sl true [.sl true [.b, .sl false [.i .u8]], .i .i64, .b])], .v (.i .i64)], [.v (.b)]⟩
def x64_5_0 : List (Ex × List Nat × CSt) := [((.ex 0), [5], ⟨[.i .i64 0], [.dead, .dead]⟩)]
noncomputable def fi64 : Fi := ⟨Try.f64, [⟨5, [5, 17, 18, 19], [], [(⟨[.i .i64 0, .ro 0 true [.b, .sl false [.i .u8]] [], .i .i64 0, .i .i64 0], [.dead, .dead]⟩, x64_5_0)]⟩], false, [.ag [.ro (.sl true [.sl true [.b, .sl false [.i .u8]], .i .i64, .b])], .v (.i .i64)], [.v (.i .i64)]⟩
def x62_3_0 : List (Ex × List Nat × CSt) := [((.ex 0), [3], ⟨[.i .i64 0], [.dead, .dead, .dead, .dead, .dead]⟩)]
noncomputable def fi62 : Fi := ⟨Try.f62, [⟨3, [1, 3, 9, 10, 11], [], [(⟨[.bp 5 0, .i .i64 0, .ro 0 true [.sl true [.b, .sl false [.i .u8]], .i .i64, .b] [], .i .i64 0, .i .i64 0], [.dead, .dead, .dead, .dead, .dead, .box [.ro 0 true [.sl true [.b, .sl false [.i .u8]], .i .i64, .b] [], .i .i64 0, .ro 0 true [.i .i64, .i .i64, .i .i64] [], .b false, .i .i64 0]]⟩, x62_3_0)]⟩], false, [.ag [.ro (.sl true [.sl true [.b, .sl false [.i .u8]], .i .i64, .b]), .v (.i .i64), .ro (.sl true [.i .i64, .i .i64, .i .i64]), .v (.b), .v (.i .i64)]], [.v (.i .i64)]⟩
def x49_3_0 : List (Ex × List Nat × CSt) := [(.ret, [4], ⟨[.i .i64 0], [.dead, .dead, .dead, .dead, .dead, .dead]⟩), ((.ex 0), [1, 2, 5], ⟨[.i .i64 0, .bp 6 0, .i .i64 0], [.dead, .dead, .dead, .dead, .dead, .dead, .box [.ro 0 true [.sl true [.b, .sl false [.i .u8]], .i .i64, .b] [], .i .i64 0, .ro 0 true [.i .i64, .i .i64, .i .i64] [], .b false, .i .i64 0]]⟩)]
noncomputable def fi49 : Fi := ⟨Try.f49, [⟨3, [1, 2, 5, 12, 13, 14], [], [(⟨[.i .i64 0, .bp 6 0, .i .i64 0, .ro 0 true [.sl true [.b, .sl false [.i .u8]], .i .i64, .b] [], .i .i64 0, .i .i64 0], [.dead, .dead, .dead, .dead, .dead, .dead, .box [.ro 0 true [.sl true [.b, .sl false [.i .u8]], .i .i64, .b] [], .i .i64 0, .ro 0 true [.i .i64, .i .i64, .i .i64] [], .b false, .i .i64 0]]⟩, x49_3_0)]⟩], false, [.ag [.ro (.sl true [.sl true [.b, .sl false [.i .u8]], .i .i64, .b]), .v (.i .i64), .ro (.sl true [.i .i64, .i .i64, .i .i64]), .v (.b), .v (.i .i64)], .v (.i .i64)], [.v (.i .i64)]⟩
def x27_4_0 : List (Ex × List Nat × CSt) := [(.ret, [4], ⟨[.b false], [.dead, .dead]⟩), ((.ex 0), [], ⟨[], [.dead, .dead]⟩)]
noncomputable def fi27 : Fi := ⟨Try.f27, [⟨4, [0, 1, 5], [], [(⟨[.ro 0 false [.i .u8] [], .ro 0 false [.i .u8] [], .i .i64 0], [.dead, .dead]⟩, x27_4_0)]⟩], false, [.ro (.sl false [.i .u8]), .ro (.sl false [.i .u8])], [.v (.b)]⟩
noncomputable def fi184 : Fi := ⟨Try.f184, [], false, [.ag [.v (.b), .ro (.sl false [.i .u8])], .ag [.v (.b), .ro (.sl false [.i .u8])]], [.v (.b)]⟩
def x170_4_0 : List (Ex × List Nat × CSt) := [(.ret, [4], ⟨[.b false], [.dead, .dead]⟩), ((.ex 0), [], ⟨[], [.dead, .dead]⟩)]
noncomputable def fi170 : Fi := ⟨Try.f170, [⟨4, [0, 1, 5], [], [(⟨[.ro 0 true [.b, .sl false [.i .u8]] [], .ro 0 true [.b, .sl false [.i .u8]] [], .i .i64 0], [.dead, .dead]⟩, x170_4_0)]⟩], false, [.ro (.sl true [.b, .sl false [.i .u8]]), .ro (.sl true [.b, .sl false [.i .u8]])], [.v (.b)]⟩
noncomputable def fi159 : Fi := ⟨Try.f159, [], false, [.ag [.ro (.sl true [.b, .sl false [.i .u8]]), .v (.i .i64), .v (.b)], .ag [.ro (.sl true [.b, .sl false [.i .u8]]), .v (.i .i64), .v (.b)]], [.v (.b)]⟩
def x149_4_0 : List (Ex × List Nat × CSt) := [(.ret, [4], ⟨[.b false], [.dead, .dead]⟩), ((.ex 0), [], ⟨[], [.dead, .dead]⟩)]
noncomputable def fi149 : Fi := ⟨Try.f149, [⟨4, [0, 1, 5], [], [(⟨[.ro 0 true [.sl true [.b, .sl false [.i .u8]], .i .i64, .b] [], .ro 0 true [.sl true [.b, .sl false [.i .u8]], .i .i64, .b] [], .i .i64 0], [.dead, .dead]⟩, x149_4_0)]⟩], false, [.ro (.sl true [.sl true [.b, .sl false [.i .u8]], .i .i64, .b]), .ro (.sl true [.sl true [.b, .sl false [.i .u8]], .i .i64, .b])], [.v (.b)]⟩
noncomputable def fi137 : Fi := ⟨Try.f137, [], false, [.ag [.ro (.sl true [.sl true [.b, .sl false [.i .u8]], .i .i64, .b])], .ag [.ro (.sl true [.sl true [.b, .sl false [.i .u8]], .i .i64, .b])]], [.v (.b)]⟩
noncomputable def fi150 : Fi := ⟨Try.f150, [], false, [.ag [.v (.i .i64), .v (.i .i64), .v (.i .i64)], .ag [.v (.i .i64), .v (.i .i64), .v (.i .i64)]], [.v (.b)]⟩
def x138_4_0 : List (Ex × List Nat × CSt) := [(.ret, [4], ⟨[.b false], [.dead, .dead]⟩), ((.ex 0), [], ⟨[], [.dead, .dead]⟩)]
noncomputable def fi138 : Fi := ⟨Try.f138, [⟨4, [0, 1, 5], [], [(⟨[.ro 0 true [.i .i64, .i .i64, .i .i64] [], .ro 0 true [.i .i64, .i .i64, .i .i64] [], .i .i64 0], [.dead, .dead]⟩, x138_4_0)]⟩], false, [.ro (.sl true [.i .i64, .i .i64, .i .i64]), .ro (.sl true [.i .i64, .i .i64, .i .i64])], [.v (.b)]⟩
noncomputable def fi100 : Fi := ⟨Try.f100, [], false, [.ag [.ro (.sl true [.sl true [.b, .sl false [.i .u8]], .i .i64, .b]), .v (.i .i64), .ro (.sl true [.i .i64, .i .i64, .i .i64]), .v (.b)], .ag [.ro (.sl true [.sl true [.b, .sl false [.i .u8]], .i .i64, .b]), .v (.i .i64), .ro (.sl true [.i .i64, .i .i64, .i .i64]), .v (.b)]], [.v (.b)]⟩
noncomputable def fi43 : Fi := ⟨Try.f43, [], false, [.ag [.ro (.sl true [.sl true [.b, .sl false [.i .u8]], .i .i64, .b]), .v (.i .i64), .ro (.sl true [.i .i64, .i .i64, .i .i64]), .v (.b), .v (.i .i64)], .ag [.ro (.sl true [.sl true [.b, .sl false [.i .u8]], .i .i64, .b]), .v (.i .i64), .ro (.sl true [.i .i64, .i .i64, .i .i64]), .v (.b), .v (.i .i64)]], [.v (.b)]⟩
noncomputable def fi8 : Fi := ⟨Try.f8, [], false, [.ag [.ro (.sl true [.sl true [.b, .sl false [.i .u8]], .i .i64, .b]), .v (.i .i64), .ro (.sl true [.i .i64, .i .i64, .i .i64]), .v (.b), .v (.i .i64)], .v (.i .i64)], [.v (.b)]⟩
noncomputable def fiTab : List (Nat × Fi) := [(189, fi189), (182, fi182), (168, fi168), (157, fi157), (146, fi146), (133, fi133), (134, fi134), (96, fi96), (39, fi39), (45, fi45), (183, fi183), (169, fi169), (158, fi158), (147, fi147), (135, fi135), (148, fi148), (136, fi136), (98, fi98), (41, fi41), (97, fi97), (63, fi63), (48, fi48), (76, fi76), (122, fi122), (64, fi64), (62, fi62), (49, fi49), (27, fi27), (184, fi184), (170, fi170), (159, fi159), (149, fi149), (137, fi137), (150, fi150), (138, fi138), (100, fi100), (43, fi43), (8, fi8)]
def X : Nat → Option (List T → Option (List T)) := lookN []
noncomputable def env : Env := ⟨lookN fiTab, lookN tyTab⟩
-- FUNCTIONS
/-- loop.example/g00285/laws.szByteS -/
def f189_t (c : Orc) (lf : Nat) (l0 : List T) (n1 : Int) : Option (List T) :=
  bif iLt (IntKind.wrap .i64 (n1 - (l0.length : Int))) 0 then
    some [T.i .i64 (-1)]
  else
    some [T.i .i64 (IntKind.wrap .i64 (n1 - (l0.length : Int)))]
def f189 (c : Orc) (lf : Nat) (l0 : List T) (n1 : Int) : Option (List T) := f189_t c lf l0 n1
theorem f189_raw (c : Orc) (lf : Nat) (l0 : List T) (n1 : Int) : funK c env lf 6 fi189 [.sl l0, .i .i64 n1] = f189_t c lf l0 n1 := by kernel_rfl
theorem f189_eq (c : Orc) (lf : Nat) (l0 : List T) (n1 : Int) : funK c env lf 6 fi189 [.sl l0, .i .i64 n1] = f189 c lf l0 n1 := by
  refine (f189_raw c lf l0 n1).trans ?_
  rfl
/-- loop.example/g00285/laws.szPage -/
def f182_t (c : Orc) (lf : Nat) (b0_0 : Bool) (l0_1 : List T) (n1 : Int) : Option (List T) :=
  (c 189 [T.sl l0_1, T.i .i64 n1]).bind fun r1 =>
  bif iLt (asI (nth r1 0)) 0 then
    some [T.i .i64 (-1)]
  else
    some [T.i .i64 (asI (nth r1 0))]
def f182 (c : Orc) (lf : Nat) (b0_0 : Bool) (l0_1 : List T) (n1 : Int) : Option (List T) := f182_t c lf b0_0 l0_1 n1
theorem f182_raw (c : Orc) (lf : Nat) (b0_0 : Bool) (l0_1 : List T) (n1 : Int) : funK c env lf 6 fi182 [.st [.b b0_0, .sl l0_1], .i .i64 n1] = f182_t c lf b0_0 l0_1 n1 := by kernel_rfl
theorem f182_eq (c : Orc) (lf : Nat) (b0_0 : Bool) (l0_1 : List T) (n1 : Int) : funK c env lf 6 fi182 [.st [.b b0_0, .sl l0_1], .i .i64 n1] = f182 c lf b0_0 l0_1 n1 := by
  refine (f182_raw c lf b0_0 l0_1 n1).trans ?_
  rfl
/-- loop.example/g00285/laws.szPageS, the loop at region 5. -/
def f168_0_s (c : Orc) (lf : Nat) (l0 : List T) (L : Int → Int → Option (List T)) (x8 : Int) (x9 : Int) : Option (List T) :=
  bif iLt x9 (l0.length : Int) then
    bif inR x9 l0.length then
    (c 182 [T.st [T.b (asB (T.cell (l0.getD x9.toNat T.u) 0)), T.sl (asL (T.cell (l0.getD x9.toNat T.u) 1))], T.i .i64 x8]).bind fun r10 =>
    bif iLt (asI (nth r10 0)) 0 then
      some [T.i .i64 0, T.i .i64 (-1)]
    else
      L (asI (nth r10 0)) (IntKind.wrap .i64 (x9 + 1))
    else none
  else
    some [T.i .i64 1, T.i .i64 x8]
def f168_0_c (l0 : List T) (x8 : Int) (x9 : Int) : CSt := ⟨[.ro 0 true [.b, .sl false [.i .u8]] l0, .i .i64 x8, .i .i64 x9], [.dead, .dead]⟩
theorem f168_0_round (c : Orc) (lf : Nat) (l0 : List T) (L : CSt → Option (List T)) (x8 : Int) (x9 : Int) :
    roundK c env lf 6 fi168 2 5 [] [0, 1, 5] (x168_5_0) L (f168_0_c l0 x8 x9) = f168_0_s c lf l0 (fun x8 x9 => L (f168_0_c l0 x8 x9)) x8 x9 := by kernel_rfl
def f168_0 (c : Orc) (lf : Nat) (l0 : List T) : Nat → Int → Int → Option (List T)
  | 0 => fun _ _ => none
  | n + 1 => fun x8 x9 => f168_0_s c lf l0 (f168_0 c lf l0 n) x8 x9
theorem f168_0_u (c : Orc) (lf : Nat) (l0 : List T) (n : Nat) (x8 : Int) (x9 : Int) : f168_0 c lf l0 (n + 1) x8 x9 = f168_0_s c lf l0 (f168_0 c lf l0 n) x8 x9 := rfl
theorem f168_0_eq (c : Orc) (lf : Nat) (l0 : List T) (n : Nat) (x8 : Int) (x9 : Int) :
    lpK c env lf 6 fi168 2 5 [] [0, 1, 5] (x168_5_0) n (f168_0_c l0 x8 x9) = f168_0 c lf l0 n x8 x9 := by
  induction n generalizing x8 x9 with
  | zero => rfl
  | succ n ih =>
    refine (f168_0_round c lf l0 _ x8 x9).trans ?_
    have e : (fun x8 x9 => lpK c env lf 6 fi168 2 5 [] [0, 1, 5] (x168_5_0) n (f168_0_c l0 x8 x9)) = f168_0 c lf l0 n := by funext x8 x9; exact ih x8 x9
    show f168_0_s c lf l0 (fun x8 x9 => lpK c env lf 6 fi168 2 5 [] [0, 1, 5] (x168_5_0) n (f168_0_c l0 x8 x9)) x8 x9 = _
    rw [e]; rfl
/-- loop.example/g00285/laws.szPageS -/
def f168_t (c : Orc) (lf : Nat) (lp0 : List T → Int → Int → Option (List T)) (l0 : List T) (n1 : Int) : Option (List T) :=
  bif iLt (IntKind.wrap .i64 (n1 - (l0.length : Int))) 0 then
    some [T.i .i64 (-1)]
  else
    (lp0 l0 (IntKind.wrap .i64 (n1 - (l0.length : Int))) 0).bind fun r11 =>
    bif asI (nth r11 0) == 0 then
      some [T.i .i64 (asI (nth r11 1))]
    else
      some [T.i .i64 (asI (nth r11 1))]
def f168 (c : Orc) (lf : Nat) (l0 : List T) (n1 : Int) : Option (List T) := f168_t c lf (fun (l0 : List T) (x8 : Int) (x9 : Int) => f168_0 c lf l0 lf x8 x9) l0 n1
theorem f168_raw (c : Orc) (lf : Nat) (l0 : List T) (n1 : Int) : funK c env lf 6 fi168 [.sl l0, .i .i64 n1] = f168_t c lf (fun (l0 : List T) (x8 : Int) (x9 : Int) => lpK c env lf 6 fi168 2 5 [] [0, 1, 5] (x168_5_0) lf (f168_0_c l0 x8 x9)) l0 n1 := by kernel_rfl
theorem f168_eq (c : Orc) (lf : Nat) (l0 : List T) (n1 : Int) : funK c env lf 6 fi168 [.sl l0, .i .i64 n1] = f168 c lf l0 n1 := by
  refine (f168_raw c lf l0 n1).trans ?_
  have e0 : (fun (l0 : List T) (x8 : Int) (x9 : Int) => lpK c env lf 6 fi168 2 5 [] [0, 1, 5] (x168_5_0) lf (f168_0_c l0 x8 x9)) = (fun (l0 : List T) (x8 : Int) (x9 : Int) => f168_0 c lf l0 lf x8 x9) := by funext l0 x8 x9; exact f168_0_eq c lf l0 lf x8 x9
  rw [e0]; rfl
/-- loop.example/g00285/laws.szBlock -/
def f157_t (c : Orc) (lf : Nat) (l0_0 : List T) (n0_1 : Int) (b0_2 : Bool) (n1 : Int) : Option (List T) :=
  (c 168 [T.sl l0_0, T.i .i64 n1]).bind fun r12 =>
  bif iLt (asI (nth r12 0)) 0 then
    some [T.i .i64 (-1)]
  else
    some [T.i .i64 (asI (nth r12 0))]
def f157 (c : Orc) (lf : Nat) (l0_0 : List T) (n0_1 : Int) (b0_2 : Bool) (n1 : Int) : Option (List T) := f157_t c lf l0_0 n0_1 b0_2 n1
theorem f157_raw (c : Orc) (lf : Nat) (l0_0 : List T) (n0_1 : Int) (b0_2 : Bool) (n1 : Int) : funK c env lf 6 fi157 [.st [.sl l0_0, .i .i64 n0_1, .b b0_2], .i .i64 n1] = f157_t c lf l0_0 n0_1 b0_2 n1 := by kernel_rfl
theorem f157_eq (c : Orc) (lf : Nat) (l0_0 : List T) (n0_1 : Int) (b0_2 : Bool) (n1 : Int) : funK c env lf 6 fi157 [.st [.sl l0_0, .i .i64 n0_1, .b b0_2], .i .i64 n1] = f157 c lf l0_0 n0_1 b0_2 n1 := by
  refine (f157_raw c lf l0_0 n0_1 b0_2 n1).trans ?_
  rfl
/-- loop.example/g00285/laws.szBlockS, the loop at region 5. -/
def f146_0_s (c : Orc) (lf : Nat) (l0 : List T) (L : Int → Int → Option (List T)) (x19 : Int) (x20 : Int) : Option (List T) :=
  bif iLt x20 (l0.length : Int) then
    bif inR x20 l0.length then
    (c 157 [T.st [T.sl (asL (T.cell (l0.getD x20.toNat T.u) 0)), T.i .i64 (asI (T.cell (l0.getD x20.toNat T.u) 1)), T.b (asB (T.cell (l0.getD x20.toNat T.u) 2))], T.i .i64 x19]).bind fun r21 =>
    bif iLt (asI (nth r21 0)) 0 then
      some [T.i .i64 0, T.i .i64 (-1)]
    else
      L (asI (nth r21 0)) (IntKind.wrap .i64 (x20 + 1))
    else none
  else
    some [T.i .i64 1, T.i .i64 x19]
def f146_0_c (l0 : List T) (x19 : Int) (x20 : Int) : CSt := ⟨[.ro 0 true [.sl true [.b, .sl false [.i .u8]], .i .i64, .b] l0, .i .i64 x19, .i .i64 x20], [.dead, .dead]⟩
theorem f146_0_round (c : Orc) (lf : Nat) (l0 : List T) (L : CSt → Option (List T)) (x19 : Int) (x20 : Int) :
    roundK c env lf 6 fi146 2 5 [] [0, 1, 5] (x146_5_0) L (f146_0_c l0 x19 x20) = f146_0_s c lf l0 (fun x19 x20 => L (f146_0_c l0 x19 x20)) x19 x20 := by kernel_rfl
def f146_0 (c : Orc) (lf : Nat) (l0 : List T) : Nat → Int → Int → Option (List T)
  | 0 => fun _ _ => none
  | n + 1 => fun x19 x20 => f146_0_s c lf l0 (f146_0 c lf l0 n) x19 x20
theorem f146_0_u (c : Orc) (lf : Nat) (l0 : List T) (n : Nat) (x19 : Int) (x20 : Int) : f146_0 c lf l0 (n + 1) x19 x20 = f146_0_s c lf l0 (f146_0 c lf l0 n) x19 x20 := rfl
theorem f146_0_eq (c : Orc) (lf : Nat) (l0 : List T) (n : Nat) (x19 : Int) (x20 : Int) :
    lpK c env lf 6 fi146 2 5 [] [0, 1, 5] (x146_5_0) n (f146_0_c l0 x19 x20) = f146_0 c lf l0 n x19 x20 := by
  induction n generalizing x19 x20 with
  | zero => rfl
  | succ n ih =>
    refine (f146_0_round c lf l0 _ x19 x20).trans ?_
    have e : (fun x19 x20 => lpK c env lf 6 fi146 2 5 [] [0, 1, 5] (x146_5_0) n (f146_0_c l0 x19 x20)) = f146_0 c lf l0 n := by funext x19 x20; exact ih x19 x20
    show f146_0_s c lf l0 (fun x19 x20 => lpK c env lf 6 fi146 2 5 [] [0, 1, 5] (x146_5_0) n (f146_0_c l0 x19 x20)) x19 x20 = _
    rw [e]; rfl
/-- loop.example/g00285/laws.szBlockS -/
def f146_t (c : Orc) (lf : Nat) (lp0 : List T → Int → Int → Option (List T)) (l0 : List T) (n1 : Int) : Option (List T) :=
  bif iLt (IntKind.wrap .i64 (n1 - (l0.length : Int))) 0 then
    some [T.i .i64 (-1)]
  else
    (lp0 l0 (IntKind.wrap .i64 (n1 - (l0.length : Int))) 0).bind fun r22 =>
    bif asI (nth r22 0) == 0 then
      some [T.i .i64 (asI (nth r22 1))]
    else
      some [T.i .i64 (asI (nth r22 1))]
def f146 (c : Orc) (lf : Nat) (l0 : List T) (n1 : Int) : Option (List T) := f146_t c lf (fun (l0 : List T) (x19 : Int) (x20 : Int) => f146_0 c lf l0 lf x19 x20) l0 n1
theorem f146_raw (c : Orc) (lf : Nat) (l0 : List T) (n1 : Int) : funK c env lf 6 fi146 [.sl l0, .i .i64 n1] = f146_t c lf (fun (l0 : List T) (x19 : Int) (x20 : Int) => lpK c env lf 6 fi146 2 5 [] [0, 1, 5] (x146_5_0) lf (f146_0_c l0 x19 x20)) l0 n1 := by kernel_rfl
theorem f146_eq (c : Orc) (lf : Nat) (l0 : List T) (n1 : Int) : funK c env lf 6 fi146 [.sl l0, .i .i64 n1] = f146 c lf l0 n1 := by
  refine (f146_raw c lf l0 n1).trans ?_
  have e0 : (fun (l0 : List T) (x19 : Int) (x20 : Int) => lpK c env lf 6 fi146 2 5 [] [0, 1, 5] (x146_5_0) lf (f146_0_c l0 x19 x20)) = (fun (l0 : List T) (x19 : Int) (x20 : Int) => f146_0 c lf l0 lf x19 x20) := by funext l0 x19 x20; exact f146_0_eq c lf l0 lf x19 x20
  rw [e0]; rfl
/-- loop.example/g00285/laws.szChip -/
def f133_t (c : Orc) (lf : Nat) (l0_0 : List T) (n1 : Int) : Option (List T) :=
  (c 146 [T.sl l0_0, T.i .i64 n1]).bind fun r23 =>
  bif iLt (asI (nth r23 0)) 0 then
    some [T.i .i64 (-1)]
  else
    some [T.i .i64 (asI (nth r23 0))]
def f133 (c : Orc) (lf : Nat) (l0_0 : List T) (n1 : Int) : Option (List T) := f133_t c lf l0_0 n1
theorem f133_raw (c : Orc) (lf : Nat) (l0_0 : List T) (n1 : Int) : funK c env lf 6 fi133 [.st [.sl l0_0], .i .i64 n1] = f133_t c lf l0_0 n1 := by kernel_rfl
theorem f133_eq (c : Orc) (lf : Nat) (l0_0 : List T) (n1 : Int) : funK c env lf 6 fi133 [.st [.sl l0_0], .i .i64 n1] = f133 c lf l0_0 n1 := by
  refine (f133_raw c lf l0_0 n1).trans ?_
  rfl
/-- loop.example/g00285/laws.szFaultS -/
def f134_t (c : Orc) (lf : Nat) (l0 : List T) (n1 : Int) : Option (List T) :=
  bif iLt (IntKind.wrap .i64 (n1 - (l0.length : Int))) 0 then
    some [T.i .i64 (-1)]
  else
    some [T.i .i64 (IntKind.wrap .i64 (n1 - (l0.length : Int)))]
def f134 (c : Orc) (lf : Nat) (l0 : List T) (n1 : Int) : Option (List T) := f134_t c lf l0 n1
theorem f134_raw (c : Orc) (lf : Nat) (l0 : List T) (n1 : Int) : funK c env lf 6 fi134 [.sl l0, .i .i64 n1] = f134_t c lf l0 n1 := by kernel_rfl
theorem f134_eq (c : Orc) (lf : Nat) (l0 : List T) (n1 : Int) : funK c env lf 6 fi134 [.sl l0, .i .i64 n1] = f134 c lf l0 n1 := by
  refine (f134_raw c lf l0 n1).trans ?_
  rfl
/-- loop.example/g00285/laws.szDev -/
def f96_t (c : Orc) (lf : Nat) (l0_0 : List T) (n0_1 : Int) (l0_2 : List T) (b0_3 : Bool) (n1 : Int) : Option (List T) :=
  (c 133 [T.st [T.sl l0_0], T.i .i64 n1]).bind fun r24 =>
  bif iLt (asI (nth r24 0)) 0 then
    some [T.i .i64 (-1)]
  else
    (c 134 [T.sl l0_2, T.i .i64 (asI (nth r24 0))]).bind fun r25 =>
    bif iLt (asI (nth r25 0)) 0 then
      some [T.i .i64 (-1)]
    else
      some [T.i .i64 (asI (nth r25 0))]
def f96 (c : Orc) (lf : Nat) (l0_0 : List T) (n0_1 : Int) (l0_2 : List T) (b0_3 : Bool) (n1 : Int) : Option (List T) := f96_t c lf l0_0 n0_1 l0_2 b0_3 n1
theorem f96_raw (c : Orc) (lf : Nat) (l0_0 : List T) (n0_1 : Int) (l0_2 : List T) (b0_3 : Bool) (n1 : Int) : funK c env lf 6 fi96 [.st [.sl l0_0, .i .i64 n0_1, .sl l0_2, .b b0_3], .i .i64 n1] = f96_t c lf l0_0 n0_1 l0_2 b0_3 n1 := by kernel_rfl
theorem f96_eq (c : Orc) (lf : Nat) (l0_0 : List T) (n0_1 : Int) (l0_2 : List T) (b0_3 : Bool) (n1 : Int) : funK c env lf 6 fi96 [.st [.sl l0_0, .i .i64 n0_1, .sl l0_2, .b b0_3], .i .i64 n1] = f96 c lf l0_0 n0_1 l0_2 b0_3 n1 := by
  refine (f96_raw c lf l0_0 n0_1 l0_2 b0_3 n1).trans ?_
  rfl
/-- loop.example/g00285/laws.szLog -/
def f39_t (c : Orc) (lf : Nat) (l0_0 : List T) (n0_1 : Int) (l0_2 : List T) (b0_3 : Bool) (n0_4 : Int) (n1 : Int) : Option (List T) :=
  (c 96 [T.st [T.sl l0_0, T.i .i64 n0_1, T.sl l0_2, T.b b0_3], T.i .i64 n1]).bind fun r26 =>
  bif iLt (asI (nth r26 0)) 0 then
    some [T.i .i64 (-1)]
  else
    some [T.i .i64 (asI (nth r26 0))]
def f39 (c : Orc) (lf : Nat) (l0_0 : List T) (n0_1 : Int) (l0_2 : List T) (b0_3 : Bool) (n0_4 : Int) (n1 : Int) : Option (List T) := f39_t c lf l0_0 n0_1 l0_2 b0_3 n0_4 n1
theorem f39_raw (c : Orc) (lf : Nat) (l0_0 : List T) (n0_1 : Int) (l0_2 : List T) (b0_3 : Bool) (n0_4 : Int) (n1 : Int) : funK c env lf 6 fi39 [.st [.sl l0_0, .i .i64 n0_1, .sl l0_2, .b b0_3, .i .i64 n0_4], .i .i64 n1] = f39_t c lf l0_0 n0_1 l0_2 b0_3 n0_4 n1 := by kernel_rfl
theorem f39_eq (c : Orc) (lf : Nat) (l0_0 : List T) (n0_1 : Int) (l0_2 : List T) (b0_3 : Bool) (n0_4 : Int) (n1 : Int) : funK c env lf 6 fi39 [.st [.sl l0_0, .i .i64 n0_1, .sl l0_2, .b b0_3, .i .i64 n0_4], .i .i64 n1] = f39 c lf l0_0 n0_1 l0_2 b0_3 n0_4 n1 := by
  refine (f39_raw c lf l0_0 n0_1 l0_2 b0_3 n0_4 n1).trans ?_
  rfl
/-- loop.example/g00285/laws.toByteS, the loop at region 3. -/
def f45_0_s (c : Orc) (lf : Nat) (l0 : List T) (L : Int → List T → Option (List T)) (x30 : Int) (x31 : List T) : Option (List T) :=
  bif iLt x30 (l0.length : Int) then
    bif inR x30 l0.length then
    bif inR x30 x31.length then
    L (IntKind.wrap .i64 (x30 + 1)) (x31.set x30.toNat (T.i .u8 (asI (l0.getD x30.toNat T.u))))
    else none
    else none
  else
    some [T.i .i64 0, T.sl x31]
def f45_0_c (l0 : List T) (x30 : Int) (x31 : List T) : CSt := ⟨[.ro 0 false [.i .u8] l0, .rf 1 [] 0 none, .i .i64 x30], [.dead, .row false [.i .u8] x31 0 false]⟩
theorem f45_0_round (c : Orc) (lf : Nat) (l0 : List T) (L : CSt → Option (List T)) (x30 : Int) (x31 : List T) :
    roundK c env lf 6 fi45 1 3 [] [0, 3, 4] (x45_3_0) L (f45_0_c l0 x30 x31) = f45_0_s c lf l0 (fun x30 x31 => L (f45_0_c l0 x30 x31)) x30 x31 := by kernel_rfl
def f45_0 (c : Orc) (lf : Nat) (l0 : List T) : Nat → Int → List T → Option (List T)
  | 0 => fun _ _ => none
  | n + 1 => fun x30 x31 => f45_0_s c lf l0 (f45_0 c lf l0 n) x30 x31
theorem f45_0_u (c : Orc) (lf : Nat) (l0 : List T) (n : Nat) (x30 : Int) (x31 : List T) : f45_0 c lf l0 (n + 1) x30 x31 = f45_0_s c lf l0 (f45_0 c lf l0 n) x30 x31 := rfl
theorem f45_0_eq (c : Orc) (lf : Nat) (l0 : List T) (n : Nat) (x30 : Int) (x31 : List T) :
    lpK c env lf 6 fi45 1 3 [] [0, 3, 4] (x45_3_0) n (f45_0_c l0 x30 x31) = f45_0 c lf l0 n x30 x31 := by
  induction n generalizing x30 x31 with
  | zero => rfl
  | succ n ih =>
    refine (f45_0_round c lf l0 _ x30 x31).trans ?_
    have e : (fun x30 x31 => lpK c env lf 6 fi45 1 3 [] [0, 3, 4] (x45_3_0) n (f45_0_c l0 x30 x31)) = f45_0 c lf l0 n := by funext x30 x31; exact ih x30 x31
    show f45_0_s c lf l0 (fun x30 x31 => lpK c env lf 6 fi45 1 3 [] [0, 3, 4] (x45_3_0) n (f45_0_c l0 x30 x31)) x30 x31 = _
    rw [e]; rfl
/-- loop.example/g00285/laws.toByteS -/
def f45_t (c : Orc) (lf : Nat) (lp0 : List T → Int → List T → Option (List T)) (l0 : List T) : Option (List T) :=
  bif iLe 0 (l0.length : Int) && iLe (l0.length : Int) (LIM : Int) && ((l0.length : Int) == (l0.length : Int)) then
  (lp0 l0 0 (List.replicate (l0.length : Int).toNat (T.i .u8 0))).bind fun r32 =>
  some [T.sl (asL (nth r32 1))]
  else none
def f45 (c : Orc) (lf : Nat) (l0 : List T) : Option (List T) := f45_t c lf (fun (l0 : List T) (x30 : Int) (x31 : List T) => f45_0 c lf l0 lf x30 x31) l0
theorem f45_raw (c : Orc) (lf : Nat) (l0 : List T) : funK c env lf 6 fi45 [.sl l0] = f45_t c lf (fun (l0 : List T) (x30 : Int) (x31 : List T) => lpK c env lf 6 fi45 1 3 [] [0, 3, 4] (x45_3_0) lf (f45_0_c l0 x30 x31)) l0 := by kernel_rfl
theorem f45_eq (c : Orc) (lf : Nat) (l0 : List T) : funK c env lf 6 fi45 [.sl l0] = f45 c lf l0 := by
  refine (f45_raw c lf l0).trans ?_
  have e0 : (fun (l0 : List T) (x30 : Int) (x31 : List T) => lpK c env lf 6 fi45 1 3 [] [0, 3, 4] (x45_3_0) lf (f45_0_c l0 x30 x31)) = (fun (l0 : List T) (x30 : Int) (x31 : List T) => f45_0 c lf l0 lf x30 x31) := by funext l0 x30 x31; exact f45_0_eq c lf l0 lf x30 x31
  rw [e0]; rfl
/-- loop.example/g00285/laws.toPage -/
def f183_t (c : Orc) (lf : Nat) (b0_0 : Bool) (l0_1 : List T) : Option (List T) :=
  (c 45 [T.sl l0_1]).bind fun r33 =>
  some [T.st [T.b b0_0, T.sl (asL (nth r33 0))]]
def f183 (c : Orc) (lf : Nat) (b0_0 : Bool) (l0_1 : List T) : Option (List T) := f183_t c lf b0_0 l0_1
theorem f183_raw (c : Orc) (lf : Nat) (b0_0 : Bool) (l0_1 : List T) : funK c env lf 6 fi183 [.st [.b b0_0, .sl l0_1]] = f183_t c lf b0_0 l0_1 := by kernel_rfl
theorem f183_eq (c : Orc) (lf : Nat) (b0_0 : Bool) (l0_1 : List T) : funK c env lf 6 fi183 [.st [.b b0_0, .sl l0_1]] = f183 c lf b0_0 l0_1 := by
  refine (f183_raw c lf b0_0 l0_1).trans ?_
  rfl
/-- loop.example/g00285/laws.toPageS, the loop at region 3. -/
def f169_0_s (c : Orc) (lf : Nat) (l0 : List T) (L : Int → List T → Option (List T)) (x40 : Int) (x41 : List T) : Option (List T) :=
  bif iLt x40 (l0.length : Int) then
    bif inR x40 l0.length then
    (c 183 [T.st [T.b (asB (T.cell (l0.getD x40.toNat T.u) 0)), T.sl (asL (T.cell (l0.getD x40.toNat T.u) 1))]]).bind fun r42 =>
    bif inR x40 x41.length then
    L (IntKind.wrap .i64 (x40 + 1)) (x41.set x40.toNat (T.st [T.b (asB (T.cell (nth r42 0) 0)), T.sl (asL (T.cell (nth r42 0) 1))]))
    else none
    else none
  else
    some [T.i .i64 0, T.sl x41]
def f169_0_c (l0 : List T) (x40 : Int) (x41 : List T) : CSt := ⟨[.ro 0 true [.b, .sl false [.i .u8]] l0, .rf 1 [] 0 none, .i .i64 x40], [.dead, .row true [.b, .sl false [.i .u8]] x41 0 false]⟩
theorem f169_0_round (c : Orc) (lf : Nat) (l0 : List T) (L : CSt → Option (List T)) (x40 : Int) (x41 : List T) :
    roundK c env lf 6 fi169 1 3 [] [0, 3, 4] (x169_3_0) L (f169_0_c l0 x40 x41) = f169_0_s c lf l0 (fun x40 x41 => L (f169_0_c l0 x40 x41)) x40 x41 := by kernel_rfl
def f169_0 (c : Orc) (lf : Nat) (l0 : List T) : Nat → Int → List T → Option (List T)
  | 0 => fun _ _ => none
  | n + 1 => fun x40 x41 => f169_0_s c lf l0 (f169_0 c lf l0 n) x40 x41
theorem f169_0_u (c : Orc) (lf : Nat) (l0 : List T) (n : Nat) (x40 : Int) (x41 : List T) : f169_0 c lf l0 (n + 1) x40 x41 = f169_0_s c lf l0 (f169_0 c lf l0 n) x40 x41 := rfl
theorem f169_0_eq (c : Orc) (lf : Nat) (l0 : List T) (n : Nat) (x40 : Int) (x41 : List T) :
    lpK c env lf 6 fi169 1 3 [] [0, 3, 4] (x169_3_0) n (f169_0_c l0 x40 x41) = f169_0 c lf l0 n x40 x41 := by
  induction n generalizing x40 x41 with
  | zero => rfl
  | succ n ih =>
    refine (f169_0_round c lf l0 _ x40 x41).trans ?_
    have e : (fun x40 x41 => lpK c env lf 6 fi169 1 3 [] [0, 3, 4] (x169_3_0) n (f169_0_c l0 x40 x41)) = f169_0 c lf l0 n := by funext x40 x41; exact ih x40 x41
    show f169_0_s c lf l0 (fun x40 x41 => lpK c env lf 6 fi169 1 3 [] [0, 3, 4] (x169_3_0) n (f169_0_c l0 x40 x41)) x40 x41 = _
    rw [e]; rfl
/-- loop.example/g00285/laws.toPageS -/
def f169_t (c : Orc) (lf : Nat) (lp0 : List T → Int → List T → Option (List T)) (l0 : List T) : Option (List T) :=
  bif iLe 0 (l0.length : Int) && iLe (l0.length : Int) (LIM : Int) && ((l0.length : Int) == (l0.length : Int)) then
  (lp0 l0 0 (List.replicate (l0.length : Int).toNat (T.st [T.b false, T.sl []]))).bind fun r43 =>
  some [T.sl (asL (nth r43 1))]
  else none
def f169 (c : Orc) (lf : Nat) (l0 : List T) : Option (List T) := f169_t c lf (fun (l0 : List T) (x40 : Int) (x41 : List T) => f169_0 c lf l0 lf x40 x41) l0
theorem f169_raw (c : Orc) (lf : Nat) (l0 : List T) : funK c env lf 6 fi169 [.sl l0] = f169_t c lf (fun (l0 : List T) (x40 : Int) (x41 : List T) => lpK c env lf 6 fi169 1 3 [] [0, 3, 4] (x169_3_0) lf (f169_0_c l0 x40 x41)) l0 := by kernel_rfl
theorem f169_eq (c : Orc) (lf : Nat) (l0 : List T) : funK c env lf 6 fi169 [.sl l0] = f169 c lf l0 := by
  refine (f169_raw c lf l0).trans ?_
  have e0 : (fun (l0 : List T) (x40 : Int) (x41 : List T) => lpK c env lf 6 fi169 1 3 [] [0, 3, 4] (x169_3_0) lf (f169_0_c l0 x40 x41)) = (fun (l0 : List T) (x40 : Int) (x41 : List T) => f169_0 c lf l0 lf x40 x41) := by funext l0 x40 x41; exact f169_0_eq c lf l0 lf x40 x41
  rw [e0]; rfl
/-- loop.example/g00285/laws.toBlock -/
def f158_t (c : Orc) (lf : Nat) (l0_0 : List T) (n0_1 : Int) (b0_2 : Bool) : Option (List T) :=
  (c 169 [T.sl l0_0]).bind fun r44 =>
  some [T.st [T.sl (asL (nth r44 0)), T.i .i64 n0_1, T.b b0_2]]
def f158 (c : Orc) (lf : Nat) (l0_0 : List T) (n0_1 : Int) (b0_2 : Bool) : Option (List T) := f158_t c lf l0_0 n0_1 b0_2
theorem f158_raw (c : Orc) (lf : Nat) (l0_0 : List T) (n0_1 : Int) (b0_2 : Bool) : funK c env lf 6 fi158 [.st [.sl l0_0, .i .i64 n0_1, .b b0_2]] = f158_t c lf l0_0 n0_1 b0_2 := by kernel_rfl
theorem f158_eq (c : Orc) (lf : Nat) (l0_0 : List T) (n0_1 : Int) (b0_2 : Bool) : funK c env lf 6 fi158 [.st [.sl l0_0, .i .i64 n0_1, .b b0_2]] = f158 c lf l0_0 n0_1 b0_2 := by
  refine (f158_raw c lf l0_0 n0_1 b0_2).trans ?_
  rfl
/-- loop.example/g00285/laws.toBlockS, the loop at region 3. -/
def f147_0_s (c : Orc) (lf : Nat) (l0 : List T) (L : Int → List T → Option (List T)) (x51 : Int) (x52 : List T) : Option (List T) :=
  bif iLt x51 (l0.length : Int) then
    bif inR x51 l0.length then
    (c 158 [T.st [T.sl (asL (T.cell (l0.getD x51.toNat T.u) 0)), T.i .i64 (asI (T.cell (l0.getD x51.toNat T.u) 1)), T.b (asB (T.cell (l0.getD x51.toNat T.u) 2))]]).bind fun r53 =>
    bif inR x51 x52.length then
    L (IntKind.wrap .i64 (x51 + 1)) (x52.set x51.toNat (T.st [T.sl (asL (T.cell (nth r53 0) 0)), T.i .i64 (asI (T.cell (nth r53 0) 1)), T.b (asB (T.cell (nth r53 0) 2))]))
    else none
    else none
  else
    some [T.i .i64 0, T.sl x52]
def f147_0_c (l0 : List T) (x51 : Int) (x52 : List T) : CSt := ⟨[.ro 0 true [.sl true [.b, .sl false [.i .u8]], .i .i64, .b] l0, .rf 1 [] 0 none, .i .i64 x51], [.dead, .row true [.sl true [.b, .sl false [.i .u8]], .i .i64, .b] x52 0 false]⟩
theorem f147_0_round (c : Orc) (lf : Nat) (l0 : List T) (L : CSt → Option (List T)) (x51 : Int) (x52 : List T) :
    roundK c env lf 6 fi147 1 3 [] [0, 3, 4] (x147_3_0) L (f147_0_c l0 x51 x52) = f147_0_s c lf l0 (fun x51 x52 => L (f147_0_c l0 x51 x52)) x51 x52 := by kernel_rfl
def f147_0 (c : Orc) (lf : Nat) (l0 : List T) : Nat → Int → List T → Option (List T)
  | 0 => fun _ _ => none
  | n + 1 => fun x51 x52 => f147_0_s c lf l0 (f147_0 c lf l0 n) x51 x52
theorem f147_0_u (c : Orc) (lf : Nat) (l0 : List T) (n : Nat) (x51 : Int) (x52 : List T) : f147_0 c lf l0 (n + 1) x51 x52 = f147_0_s c lf l0 (f147_0 c lf l0 n) x51 x52 := rfl
theorem f147_0_eq (c : Orc) (lf : Nat) (l0 : List T) (n : Nat) (x51 : Int) (x52 : List T) :
    lpK c env lf 6 fi147 1 3 [] [0, 3, 4] (x147_3_0) n (f147_0_c l0 x51 x52) = f147_0 c lf l0 n x51 x52 := by
  induction n generalizing x51 x52 with
  | zero => rfl
  | succ n ih =>
    refine (f147_0_round c lf l0 _ x51 x52).trans ?_
    have e : (fun x51 x52 => lpK c env lf 6 fi147 1 3 [] [0, 3, 4] (x147_3_0) n (f147_0_c l0 x51 x52)) = f147_0 c lf l0 n := by funext x51 x52; exact ih x51 x52
    show f147_0_s c lf l0 (fun x51 x52 => lpK c env lf 6 fi147 1 3 [] [0, 3, 4] (x147_3_0) n (f147_0_c l0 x51 x52)) x51 x52 = _
    rw [e]; rfl
/-- loop.example/g00285/laws.toBlockS -/
def f147_t (c : Orc) (lf : Nat) (lp0 : List T → Int → List T → Option (List T)) (l0 : List T) : Option (List T) :=
  bif iLe 0 (l0.length : Int) && iLe (l0.length : Int) (LIM : Int) && ((l0.length : Int) == (l0.length : Int)) then
  (lp0 l0 0 (List.replicate (l0.length : Int).toNat (T.st [T.sl [], T.i .i64 0, T.b false]))).bind fun r54 =>
  some [T.sl (asL (nth r54 1))]
  else none
def f147 (c : Orc) (lf : Nat) (l0 : List T) : Option (List T) := f147_t c lf (fun (l0 : List T) (x51 : Int) (x52 : List T) => f147_0 c lf l0 lf x51 x52) l0
theorem f147_raw (c : Orc) (lf : Nat) (l0 : List T) : funK c env lf 6 fi147 [.sl l0] = f147_t c lf (fun (l0 : List T) (x51 : Int) (x52 : List T) => lpK c env lf 6 fi147 1 3 [] [0, 3, 4] (x147_3_0) lf (f147_0_c l0 x51 x52)) l0 := by kernel_rfl
theorem f147_eq (c : Orc) (lf : Nat) (l0 : List T) : funK c env lf 6 fi147 [.sl l0] = f147 c lf l0 := by
  refine (f147_raw c lf l0).trans ?_
  have e0 : (fun (l0 : List T) (x51 : Int) (x52 : List T) => lpK c env lf 6 fi147 1 3 [] [0, 3, 4] (x147_3_0) lf (f147_0_c l0 x51 x52)) = (fun (l0 : List T) (x51 : Int) (x52 : List T) => f147_0 c lf l0 lf x51 x52) := by funext l0 x51 x52; exact f147_0_eq c lf l0 lf x51 x52
  rw [e0]; rfl
/-- loop.example/g00285/laws.toChip -/
def f135_t (c : Orc) (lf : Nat) (l0_0 : List T) : Option (List T) :=
  (c 147 [T.sl l0_0]).bind fun r55 =>
  some [T.st [T.sl (asL (nth r55 0))]]
def f135 (c : Orc) (lf : Nat) (l0_0 : List T) : Option (List T) := f135_t c lf l0_0
theorem f135_raw (c : Orc) (lf : Nat) (l0_0 : List T) : funK c env lf 6 fi135 [.st [.sl l0_0]] = f135_t c lf l0_0 := by kernel_rfl
theorem f135_eq (c : Orc) (lf : Nat) (l0_0 : List T) : funK c env lf 6 fi135 [.st [.sl l0_0]] = f135 c lf l0_0 := by
  refine (f135_raw c lf l0_0).trans ?_
  rfl
/-- loop.example/g00285/laws.toFault -/
def f148_t (c : Orc) (lf : Nat) (n0_0 : Int) (n0_1 : Int) (n0_2 : Int) : Option (List T) :=
  some [T.st [T.i .i64 n0_0, T.i .i64 n0_1, T.i .i64 n0_2]]
def f148 (c : Orc) (lf : Nat) (n0_0 : Int) (n0_1 : Int) (n0_2 : Int) : Option (List T) := f148_t c lf n0_0 n0_1 n0_2
theorem f148_raw (c : Orc) (lf : Nat) (n0_0 : Int) (n0_1 : Int) (n0_2 : Int) : funK c env lf 6 fi148 [.st [.i .i64 n0_0, .i .i64 n0_1, .i .i64 n0_2]] = f148_t c lf n0_0 n0_1 n0_2 := by kernel_rfl
theorem f148_eq (c : Orc) (lf : Nat) (n0_0 : Int) (n0_1 : Int) (n0_2 : Int) : funK c env lf 6 fi148 [.st [.i .i64 n0_0, .i .i64 n0_1, .i .i64 n0_2]] = f148 c lf n0_0 n0_1 n0_2 := by
  refine (f148_raw c lf n0_0 n0_1 n0_2).trans ?_
  rfl
/-- loop.example/g00285/laws.toFaultS, the loop at region 3. -/
def f136_0_s (c : Orc) (lf : Nat) (l0 : List T) (L : Int → List T → Option (List T)) (x62 : Int) (x63 : List T) : Option (List T) :=
  bif iLt x62 (l0.length : Int) then
    bif inR x62 l0.length then
    (c 148 [T.st [T.i .i64 (asI (T.cell (l0.getD x62.toNat T.u) 0)), T.i .i64 (asI (T.cell (l0.getD x62.toNat T.u) 1)), T.i .i64 (asI (T.cell (l0.getD x62.toNat T.u) 2))]]).bind fun r64 =>
    bif inR x62 x63.length then
    L (IntKind.wrap .i64 (x62 + 1)) (x63.set x62.toNat (T.st [T.i .i64 (asI (T.cell (nth r64 0) 0)), T.i .i64 (asI (T.cell (nth r64 0) 1)), T.i .i64 (asI (T.cell (nth r64 0) 2))]))
    else none
    else none
  else
    some [T.i .i64 0, T.sl x63]
def f136_0_c (l0 : List T) (x62 : Int) (x63 : List T) : CSt := ⟨[.ro 0 true [.i .i64, .i .i64, .i .i64] l0, .rf 1 [] 0 none, .i .i64 x62], [.dead, .row true [.i .i64, .i .i64, .i .i64] x63 0 false]⟩
theorem f136_0_round (c : Orc) (lf : Nat) (l0 : List T) (L : CSt → Option (List T)) (x62 : Int) (x63 : List T) :
    roundK c env lf 6 fi136 1 3 [] [0, 3, 4] (x136_3_0) L (f136_0_c l0 x62 x63) = f136_0_s c lf l0 (fun x62 x63 => L (f136_0_c l0 x62 x63)) x62 x63 := by kernel_rfl
def f136_0 (c : Orc) (lf : Nat) (l0 : List T) : Nat → Int → List T → Option (List T)
  | 0 => fun _ _ => none
  | n + 1 => fun x62 x63 => f136_0_s c lf l0 (f136_0 c lf l0 n) x62 x63
theorem f136_0_u (c : Orc) (lf : Nat) (l0 : List T) (n : Nat) (x62 : Int) (x63 : List T) : f136_0 c lf l0 (n + 1) x62 x63 = f136_0_s c lf l0 (f136_0 c lf l0 n) x62 x63 := rfl
theorem f136_0_eq (c : Orc) (lf : Nat) (l0 : List T) (n : Nat) (x62 : Int) (x63 : List T) :
    lpK c env lf 6 fi136 1 3 [] [0, 3, 4] (x136_3_0) n (f136_0_c l0 x62 x63) = f136_0 c lf l0 n x62 x63 := by
  induction n generalizing x62 x63 with
  | zero => rfl
  | succ n ih =>
    refine (f136_0_round c lf l0 _ x62 x63).trans ?_
    have e : (fun x62 x63 => lpK c env lf 6 fi136 1 3 [] [0, 3, 4] (x136_3_0) n (f136_0_c l0 x62 x63)) = f136_0 c lf l0 n := by funext x62 x63; exact ih x62 x63
    show f136_0_s c lf l0 (fun x62 x63 => lpK c env lf 6 fi136 1 3 [] [0, 3, 4] (x136_3_0) n (f136_0_c l0 x62 x63)) x62 x63 = _
    rw [e]; rfl
/-- loop.example/g00285/laws.toFaultS -/
def f136_t (c : Orc) (lf : Nat) (lp0 : List T → Int → List T → Option (List T)) (l0 : List T) : Option (List T) :=
  bif iLe 0 (l0.length : Int) && iLe (l0.length : Int) (LIM : Int) && ((l0.length : Int) == (l0.length : Int)) then
  (lp0 l0 0 (List.replicate (l0.length : Int).toNat (T.st [T.i .i64 0, T.i .i64 0, T.i .i64 0]))).bind fun r65 =>
  some [T.sl (asL (nth r65 1))]
  else none
def f136 (c : Orc) (lf : Nat) (l0 : List T) : Option (List T) := f136_t c lf (fun (l0 : List T) (x62 : Int) (x63 : List T) => f136_0 c lf l0 lf x62 x63) l0
theorem f136_raw (c : Orc) (lf : Nat) (l0 : List T) : funK c env lf 6 fi136 [.sl l0] = f136_t c lf (fun (l0 : List T) (x62 : Int) (x63 : List T) => lpK c env lf 6 fi136 1 3 [] [0, 3, 4] (x136_3_0) lf (f136_0_c l0 x62 x63)) l0 := by kernel_rfl
theorem f136_eq (c : Orc) (lf : Nat) (l0 : List T) : funK c env lf 6 fi136 [.sl l0] = f136 c lf l0 := by
  refine (f136_raw c lf l0).trans ?_
  have e0 : (fun (l0 : List T) (x62 : Int) (x63 : List T) => lpK c env lf 6 fi136 1 3 [] [0, 3, 4] (x136_3_0) lf (f136_0_c l0 x62 x63)) = (fun (l0 : List T) (x62 : Int) (x63 : List T) => f136_0 c lf l0 lf x62 x63) := by funext l0 x62 x63; exact f136_0_eq c lf l0 lf x62 x63
  rw [e0]; rfl
/-- loop.example/g00285/laws.toDev -/
def f98_t (c : Orc) (lf : Nat) (l0_0 : List T) (n0_1 : Int) (l0_2 : List T) (b0_3 : Bool) : Option (List T) :=
  (c 135 [T.st [T.sl l0_0]]).bind fun r66 =>
  (c 136 [T.sl l0_2]).bind fun r67 =>
  some [T.st [T.sl (asL (T.cell (nth r66 0) 0)), T.i .i64 n0_1, T.sl (asL (nth r67 0)), T.b b0_3]]
def f98 (c : Orc) (lf : Nat) (l0_0 : List T) (n0_1 : Int) (l0_2 : List T) (b0_3 : Bool) : Option (List T) := f98_t c lf l0_0 n0_1 l0_2 b0_3
theorem f98_raw (c : Orc) (lf : Nat) (l0_0 : List T) (n0_1 : Int) (l0_2 : List T) (b0_3 : Bool) : funK c env lf 6 fi98 [.st [.sl l0_0, .i .i64 n0_1, .sl l0_2, .b b0_3]] = f98_t c lf l0_0 n0_1 l0_2 b0_3 := by kernel_rfl
theorem f98_eq (c : Orc) (lf : Nat) (l0_0 : List T) (n0_1 : Int) (l0_2 : List T) (b0_3 : Bool) : funK c env lf 6 fi98 [.st [.sl l0_0, .i .i64 n0_1, .sl l0_2, .b b0_3]] = f98 c lf l0_0 n0_1 l0_2 b0_3 := by
  refine (f98_raw c lf l0_0 n0_1 l0_2 b0_3).trans ?_
  rfl
/-- loop.example/g00285/laws.toLog -/
def f41_t (c : Orc) (lf : Nat) (l0_0 : List T) (n0_1 : Int) (l0_2 : List T) (b0_3 : Bool) (n0_4 : Int) : Option (List T) :=
  (c 98 [T.st [T.sl l0_0, T.i .i64 n0_1, T.sl l0_2, T.b b0_3]]).bind fun r68 =>
  some [T.st [T.sl (asL (T.cell (nth r68 0) 0)), T.i .i64 (asI (T.cell (nth r68 0) 1)), T.sl (asL (T.cell (nth r68 0) 2)), T.b (asB (T.cell (nth r68 0) 3)), T.i .i64 n0_4]]
def f41 (c : Orc) (lf : Nat) (l0_0 : List T) (n0_1 : Int) (l0_2 : List T) (b0_3 : Bool) (n0_4 : Int) : Option (List T) := f41_t c lf l0_0 n0_1 l0_2 b0_3 n0_4
theorem f41_raw (c : Orc) (lf : Nat) (l0_0 : List T) (n0_1 : Int) (l0_2 : List T) (b0_3 : Bool) (n0_4 : Int) : funK c env lf 6 fi41 [.st [.sl l0_0, .i .i64 n0_1, .sl l0_2, .b b0_3, .i .i64 n0_4]] = f41_t c lf l0_0 n0_1 l0_2 b0_3 n0_4 := by kernel_rfl
theorem f41_eq (c : Orc) (lf : Nat) (l0_0 : List T) (n0_1 : Int) (l0_2 : List T) (b0_3 : Bool) (n0_4 : Int) : funK c env lf 6 fi41 [.st [.sl l0_0, .i .i64 n0_1, .sl l0_2, .b b0_3, .i .i64 n0_4]] = f41 c lf l0_0 n0_1 l0_2 b0_3 n0_4 := by
  refine (f41_raw c lf l0_0 n0_1 l0_2 b0_3 n0_4).trans ?_
  rfl
/-- loop.example/g00285/spec.l10Next, the loop at region 3. -/
def f97_0_s (c : Orc) (lf : Nat) (b0_2 : Bool) (l0_0 : List T) (n0_1 : Int) (L : Int → Int → Option (List T)) (x72 : Int) (x73 : Int) : Option (List T) :=
  bif iLt x73 (l0_0.length : Int) then
    bif inR x73 l0_0.length then
    bif asB (T.cell (l0_0.getD x73.toNat T.u) 0) then
      L (IntKind.wrap .i64 (x72 + 1)) (IntKind.wrap .i64 (x73 + 1))
    else
      L x72 (IntKind.wrap .i64 (x73 + 1))
    else none
  else
    some [T.i .i64 0, T.i .i64 x72]
def f97_0_c (b0_2 : Bool) (l0_0 : List T) (n0_1 : Int) (x72 : Int) (x73 : Int) : CSt := ⟨[.bp 3 0, .i .i64 x72, .i .i64 x73], [.dead, .dead, .dead, .box [.ro 0 true [.b, .sl false [.i .u8]] l0_0, .i .i64 n0_1, .b b0_2]]⟩
theorem f97_0_round (c : Orc) (lf : Nat) (b0_2 : Bool) (l0_0 : List T) (n0_1 : Int) (L : CSt → Option (List T)) (x72 : Int) (x73 : Int) :
    roundK c env lf 6 fi97 3 3 [] [1, 3, 4] (x97_3_0) L (f97_0_c b0_2 l0_0 n0_1 x72 x73) = f97_0_s c lf b0_2 l0_0 n0_1 (fun x72 x73 => L (f97_0_c b0_2 l0_0 n0_1 x72 x73)) x72 x73 := by kernel_rfl
def f97_0 (c : Orc) (lf : Nat) (b0_2 : Bool) (l0_0 : List T) (n0_1 : Int) : Nat → Int → Int → Option (List T)
  | 0 => fun _ _ => none
  | n + 1 => fun x72 x73 => f97_0_s c lf b0_2 l0_0 n0_1 (f97_0 c lf b0_2 l0_0 n0_1 n) x72 x73
theorem f97_0_u (c : Orc) (lf : Nat) (b0_2 : Bool) (l0_0 : List T) (n0_1 : Int) (n : Nat) (x72 : Int) (x73 : Int) : f97_0 c lf b0_2 l0_0 n0_1 (n + 1) x72 x73 = f97_0_s c lf b0_2 l0_0 n0_1 (f97_0 c lf b0_2 l0_0 n0_1 n) x72 x73 := rfl
theorem f97_0_eq (c : Orc) (lf : Nat) (b0_2 : Bool) (l0_0 : List T) (n0_1 : Int) (n : Nat) (x72 : Int) (x73 : Int) :
    lpK c env lf 6 fi97 3 3 [] [1, 3, 4] (x97_3_0) n (f97_0_c b0_2 l0_0 n0_1 x72 x73) = f97_0 c lf b0_2 l0_0 n0_1 n x72 x73 := by
  induction n generalizing x72 x73 with
  | zero => rfl
  | succ n ih =>
    refine (f97_0_round c lf b0_2 l0_0 n0_1 _ x72 x73).trans ?_
    have e : (fun x72 x73 => lpK c env lf 6 fi97 3 3 [] [1, 3, 4] (x97_3_0) n (f97_0_c b0_2 l0_0 n0_1 x72 x73)) = f97_0 c lf b0_2 l0_0 n0_1 n := by funext x72 x73; exact ih x72 x73
    show f97_0_s c lf b0_2 l0_0 n0_1 (fun x72 x73 => lpK c env lf 6 fi97 3 3 [] [1, 3, 4] (x97_3_0) n (f97_0_c b0_2 l0_0 n0_1 x72 x73)) x72 x73 = _
    rw [e]; rfl
/-- loop.example/g00285/spec.l10Next -/
def f97_t (c : Orc) (lf : Nat) (lp0 : Bool → List T → Int → Int → Int → Option (List T)) (l0_0 : List T) (n0_1 : Int) (b0_2 : Bool) : Option (List T) :=
  (lp0 b0_2 l0_0 n0_1 0 0).bind fun r74 =>
  some [T.i .i64 (asI (nth r74 1))]
def f97 (c : Orc) (lf : Nat) (l0_0 : List T) (n0_1 : Int) (b0_2 : Bool) : Option (List T) := f97_t c lf (fun (b0_2 : Bool) (l0_0 : List T) (n0_1 : Int) (x72 : Int) (x73 : Int) => f97_0 c lf b0_2 l0_0 n0_1 lf x72 x73) l0_0 n0_1 b0_2
theorem f97_raw (c : Orc) (lf : Nat) (l0_0 : List T) (n0_1 : Int) (b0_2 : Bool) : funK c env lf 6 fi97 [.st [.sl l0_0, .i .i64 n0_1, .b b0_2]] = f97_t c lf (fun (b0_2 : Bool) (l0_0 : List T) (n0_1 : Int) (x72 : Int) (x73 : Int) => lpK c env lf 6 fi97 3 3 [] [1, 3, 4] (x97_3_0) lf (f97_0_c b0_2 l0_0 n0_1 x72 x73)) l0_0 n0_1 b0_2 := by kernel_rfl
theorem f97_eq (c : Orc) (lf : Nat) (l0_0 : List T) (n0_1 : Int) (b0_2 : Bool) : funK c env lf 6 fi97 [.st [.sl l0_0, .i .i64 n0_1, .b b0_2]] = f97 c lf l0_0 n0_1 b0_2 := by
  refine (f97_raw c lf l0_0 n0_1 b0_2).trans ?_
  have e0 : (fun (b0_2 : Bool) (l0_0 : List T) (n0_1 : Int) (x72 : Int) (x73 : Int) => lpK c env lf 6 fi97 3 3 [] [1, 3, 4] (x97_3_0) lf (f97_0_c b0_2 l0_0 n0_1 x72 x73)) = (fun (b0_2 : Bool) (l0_0 : List T) (n0_1 : Int) (x72 : Int) (x73 : Int) => f97_0 c lf b0_2 l0_0 n0_1 lf x72 x73) := by funext b0_2 l0_0 n0_1 x72 x73; exact f97_0_eq c lf b0_2 l0_0 n0_1 lf x72 x73
  rw [e0]; rfl
/-- loop.example/g00285/spec.FreeBlocks, the loop at region 3. -/
def f63_0_s (c : Orc) (lf : Nat) (b0_3 : Bool) (l0_0 : List T) (l0_2 : List T) (n0_1 : Int) (n0_4 : Int) (L : Int → Int → Option (List T)) (x81 : Int) (x82 : Int) : Option (List T) :=
  bif iLt x82 (l0_0.length : Int) then
    bif inR x82 l0_0.length then
    bif !(asB (T.cell (l0_0.getD x82.toNat T.u) 2)) then
      bif inR x82 l0_0.length then
      (c 97 [T.st [T.sl (asL (T.cell (l0_0.getD x82.toNat T.u) 0)), T.i .i64 (asI (T.cell (l0_0.getD x82.toNat T.u) 1)), T.b (asB (T.cell (l0_0.getD x82.toNat T.u) 2))]]).bind fun r83 =>
      bif (asI (nth r83 0)) == 0 then
        L (IntKind.wrap .i64 (x81 + 1)) (IntKind.wrap .i64 (x82 + 1))
      else
        L x81 (IntKind.wrap .i64 (x82 + 1))
      else none
    else
      L x81 (IntKind.wrap .i64 (x82 + 1))
    else none
  else
    some [T.i .i64 0, T.i .i64 x81]
def f63_0_c (b0_3 : Bool) (l0_0 : List T) (l0_2 : List T) (n0_1 : Int) (n0_4 : Int) (x81 : Int) (x82 : Int) : CSt := ⟨[.bp 5 0, .i .i64 x81, .i .i64 x82], [.dead, .dead, .dead, .dead, .dead, .box [.ro 0 true [.sl true [.b, .sl false [.i .u8]], .i .i64, .b] l0_0, .i .i64 n0_1, .ro 0 true [.i .i64, .i .i64, .i .i64] l0_2, .b b0_3, .i .i64 n0_4]]⟩
theorem f63_0_round (c : Orc) (lf : Nat) (b0_3 : Bool) (l0_0 : List T) (l0_2 : List T) (n0_1 : Int) (n0_4 : Int) (L : CSt → Option (List T)) (x81 : Int) (x82 : Int) :
    roundK c env lf 6 fi63 5 3 [] [1, 3, 4] (x63_3_0) L (f63_0_c b0_3 l0_0 l0_2 n0_1 n0_4 x81 x82) = f63_0_s c lf b0_3 l0_0 l0_2 n0_1 n0_4 (fun x81 x82 => L (f63_0_c b0_3 l0_0 l0_2 n0_1 n0_4 x81 x82)) x81 x82 := by kernel_rfl
def f63_0 (c : Orc) (lf : Nat) (b0_3 : Bool) (l0_0 : List T) (l0_2 : List T) (n0_1 : Int) (n0_4 : Int) : Nat → Int → Int → Option (List T)
  | 0 => fun _ _ => none
  | n + 1 => fun x81 x82 => f63_0_s c lf b0_3 l0_0 l0_2 n0_1 n0_4 (f63_0 c lf b0_3 l0_0 l0_2 n0_1 n0_4 n) x81 x82
theorem f63_0_u (c : Orc) (lf : Nat) (b0_3 : Bool) (l0_0 : List T) (l0_2 : List T) (n0_1 : Int) (n0_4 : Int) (n : Nat) (x81 : Int) (x82 : Int) : f63_0 c lf b0_3 l0_0 l0_2 n0_1 n0_4 (n + 1) x81 x82 = f63_0_s c lf b0_3 l0_0 l0_2 n0_1 n0_4 (f63_0 c lf b0_3 l0_0 l0_2 n0_1 n0_4 n) x81 x82 := rfl
theorem f63_0_eq (c : Orc) (lf : Nat) (b0_3 : Bool) (l0_0 : List T) (l0_2 : List T) (n0_1 : Int) (n0_4 : Int) (n : Nat) (x81 : Int) (x82 : Int) :
    lpK c env lf 6 fi63 5 3 [] [1, 3, 4] (x63_3_0) n (f63_0_c b0_3 l0_0 l0_2 n0_1 n0_4 x81 x82) = f63_0 c lf b0_3 l0_0 l0_2 n0_1 n0_4 n x81 x82 := by
  induction n generalizing x81 x82 with
  | zero => rfl
  | succ n ih =>
    refine (f63_0_round c lf b0_3 l0_0 l0_2 n0_1 n0_4 _ x81 x82).trans ?_
    have e : (fun x81 x82 => lpK c env lf 6 fi63 5 3 [] [1, 3, 4] (x63_3_0) n (f63_0_c b0_3 l0_0 l0_2 n0_1 n0_4 x81 x82)) = f63_0 c lf b0_3 l0_0 l0_2 n0_1 n0_4 n := by funext x81 x82; exact ih x81 x82
    show f63_0_s c lf b0_3 l0_0 l0_2 n0_1 n0_4 (fun x81 x82 => lpK c env lf 6 fi63 5 3 [] [1, 3, 4] (x63_3_0) n (f63_0_c b0_3 l0_0 l0_2 n0_1 n0_4 x81 x82)) x81 x82 = _
    rw [e]; rfl
/-- loop.example/g00285/spec.FreeBlocks -/
def f63_t (c : Orc) (lf : Nat) (lp0 : Bool → List T → List T → Int → Int → Int → Int → Option (List T)) (l0_0 : List T) (n0_1 : Int) (l0_2 : List T) (b0_3 : Bool) (n0_4 : Int) : Option (List T) :=
  (lp0 b0_3 l0_0 l0_2 n0_1 n0_4 0 0).bind fun r84 =>
  some [T.i .i64 (asI (nth r84 1))]
def f63 (c : Orc) (lf : Nat) (l0_0 : List T) (n0_1 : Int) (l0_2 : List T) (b0_3 : Bool) (n0_4 : Int) : Option (List T) := f63_t c lf (fun (b0_3 : Bool) (l0_0 : List T) (l0_2 : List T) (n0_1 : Int) (n0_4 : Int) (x81 : Int) (x82 : Int) => f63_0 c lf b0_3 l0_0 l0_2 n0_1 n0_4 lf x81 x82) l0_0 n0_1 l0_2 b0_3 n0_4
theorem f63_raw (c : Orc) (lf : Nat) (l0_0 : List T) (n0_1 : Int) (l0_2 : List T) (b0_3 : Bool) (n0_4 : Int) : funK c env lf 6 fi63 [.st [.sl l0_0, .i .i64 n0_1, .sl l0_2, .b b0_3, .i .i64 n0_4]] = f63_t c lf (fun (b0_3 : Bool) (l0_0 : List T) (l0_2 : List T) (n0_1 : Int) (n0_4 : Int) (x81 : Int) (x82 : Int) => lpK c env lf 6 fi63 5 3 [] [1, 3, 4] (x63_3_0) lf (f63_0_c b0_3 l0_0 l0_2 n0_1 n0_4 x81 x82)) l0_0 n0_1 l0_2 b0_3 n0_4 := by kernel_rfl
theorem f63_eq (c : Orc) (lf : Nat) (l0_0 : List T) (n0_1 : Int) (l0_2 : List T) (b0_3 : Bool) (n0_4 : Int) : funK c env lf 6 fi63 [.st [.sl l0_0, .i .i64 n0_1, .sl l0_2, .b b0_3, .i .i64 n0_4]] = f63 c lf l0_0 n0_1 l0_2 b0_3 n0_4 := by
  refine (f63_raw c lf l0_0 n0_1 l0_2 b0_3 n0_4).trans ?_
  have e0 : (fun (b0_3 : Bool) (l0_0 : List T) (l0_2 : List T) (n0_1 : Int) (n0_4 : Int) (x81 : Int) (x82 : Int) => lpK c env lf 6 fi63 5 3 [] [1, 3, 4] (x63_3_0) lf (f63_0_c b0_3 l0_0 l0_2 n0_1 n0_4 x81 x82)) = (fun (b0_3 : Bool) (l0_0 : List T) (l0_2 : List T) (n0_1 : Int) (n0_4 : Int) (x81 : Int) (x82 : Int) => f63_0 c lf b0_3 l0_0 l0_2 n0_1 n0_4 lf x81 x82) := by funext b0_3 l0_0 l0_2 n0_1 n0_4 x81 x82; exact f63_0_eq c lf b0_3 l0_0 l0_2 n0_1 n0_4 lf x81 x82
  rw [e0]; rfl
/-- loop.example/g00285/spec.OpenBlock, the loop at region 3. -/
def f48_0_s (c : Orc) (lf : Nat) (b0_3 : Bool) (l0_0 : List T) (l0_2 : List T) (n1 : Int) (n0_1 : Int) (n0_4 : Int) (L : Int → Int → Option (List T)) (x92 : Int) (x93 : Int) : Option (List T) :=
  bif iLt x93 (l0_0.length : Int) then
    bif inR x93 l0_0.length then
    (c 97 [T.st [T.sl (asL (T.cell (l0_0.getD x93.toNat T.u) 0)), T.i .i64 (asI (T.cell (l0_0.getD x93.toNat T.u) 1)), T.b (asB (T.cell (l0_0.getD x93.toNat T.u) 2))]]).bind fun r94 =>
    bif !(asB (T.cell (l0_0.getD x93.toNat T.u) 2)) then
      bif iLt 0 (asI (nth r94 0)) then
        bif iLt (asI (nth r94 0)) ((asL (T.cell (l0_0.getD x93.toNat T.u) 0)).length : Int) then
          some [T.i .i64 0, T.i .i64 x93]
        else
          bif !(asB (T.cell (l0_0.getD x93.toNat T.u) 2)) then
            bif (asI (nth r94 0)) == 0 then
              bif iLt x92 0 then
                L x93 (IntKind.wrap .i64 (x93 + 1))
              else
                L x92 (IntKind.wrap .i64 (x93 + 1))
            else
              L x92 (IntKind.wrap .i64 (x93 + 1))
          else
            L x92 (IntKind.wrap .i64 (x93 + 1))
      else
        bif !(asB (T.cell (l0_0.getD x93.toNat T.u) 2)) then
          bif (asI (nth r94 0)) == 0 then
            bif iLt x92 0 then
              L x93 (IntKind.wrap .i64 (x93 + 1))
            else
              L x92 (IntKind.wrap .i64 (x93 + 1))
          else
            L x92 (IntKind.wrap .i64 (x93 + 1))
        else
          L x92 (IntKind.wrap .i64 (x93 + 1))
    else
      bif !(asB (T.cell (l0_0.getD x93.toNat T.u) 2)) then
        bif (asI (nth r94 0)) == 0 then
          bif iLt x92 0 then
            L x93 (IntKind.wrap .i64 (x93 + 1))
          else
            L x92 (IntKind.wrap .i64 (x93 + 1))
        else
          L x92 (IntKind.wrap .i64 (x93 + 1))
      else
        L x92 (IntKind.wrap .i64 (x93 + 1))
    else none
  else
    some [T.i .i64 1, T.i .i64 n1, T.i .i64 x92, T.sl l0_0, T.i .i64 n0_1, T.sl l0_2, T.b b0_3, T.i .i64 n0_4]
def f48_0_c (b0_3 : Bool) (l0_0 : List T) (l0_2 : List T) (n1 : Int) (n0_1 : Int) (n0_4 : Int) (x92 : Int) (x93 : Int) : CSt := ⟨[.i .i64 n1, .bp 6 0, .i .i64 x92, .i .i64 x93], [.dead, .dead, .dead, .dead, .dead, .dead, .box [.ro 0 true [.sl true [.b, .sl false [.i .u8]], .i .i64, .b] l0_0, .i .i64 n0_1, .ro 0 true [.i .i64, .i .i64, .i .i64] l0_2, .b b0_3, .i .i64 n0_4]]⟩
theorem f48_0_round (c : Orc) (lf : Nat) (b0_3 : Bool) (l0_0 : List T) (l0_2 : List T) (n1 : Int) (n0_1 : Int) (n0_4 : Int) (L : CSt → Option (List T)) (x92 : Int) (x93 : Int) :
    roundK c env lf 6 fi48 6 3 [] [1, 2, 5, 6] (x48_3_0) L (f48_0_c b0_3 l0_0 l0_2 n1 n0_1 n0_4 x92 x93) = f48_0_s c lf b0_3 l0_0 l0_2 n1 n0_1 n0_4 (fun x92 x93 => L (f48_0_c b0_3 l0_0 l0_2 n1 n0_1 n0_4 x92 x93)) x92 x93 := by kernel_rfl
def f48_0 (c : Orc) (lf : Nat) (b0_3 : Bool) (l0_0 : List T) (l0_2 : List T) (n1 : Int) (n0_1 : Int) (n0_4 : Int) : Nat → Int → Int → Option (List T)
  | 0 => fun _ _ => none
  | n + 1 => fun x92 x93 => f48_0_s c lf b0_3 l0_0 l0_2 n1 n0_1 n0_4 (f48_0 c lf b0_3 l0_0 l0_2 n1 n0_1 n0_4 n) x92 x93
theorem f48_0_u (c : Orc) (lf : Nat) (b0_3 : Bool) (l0_0 : List T) (l0_2 : List T) (n1 : Int) (n0_1 : Int) (n0_4 : Int) (n : Nat) (x92 : Int) (x93 : Int) : f48_0 c lf b0_3 l0_0 l0_2 n1 n0_1 n0_4 (n + 1) x92 x93 = f48_0_s c lf b0_3 l0_0 l0_2 n1 n0_1 n0_4 (f48_0 c lf b0_3 l0_0 l0_2 n1 n0_1 n0_4 n) x92 x93 := rfl
theorem f48_0_eq (c : Orc) (lf : Nat) (b0_3 : Bool) (l0_0 : List T) (l0_2 : List T) (n1 : Int) (n0_1 : Int) (n0_4 : Int) (n : Nat) (x92 : Int) (x93 : Int) :
    lpK c env lf 6 fi48 6 3 [] [1, 2, 5, 6] (x48_3_0) n (f48_0_c b0_3 l0_0 l0_2 n1 n0_1 n0_4 x92 x93) = f48_0 c lf b0_3 l0_0 l0_2 n1 n0_1 n0_4 n x92 x93 := by
  induction n generalizing x92 x93 with
  | zero => rfl
  | succ n ih =>
    refine (f48_0_round c lf b0_3 l0_0 l0_2 n1 n0_1 n0_4 _ x92 x93).trans ?_
    have e : (fun x92 x93 => lpK c env lf 6 fi48 6 3 [] [1, 2, 5, 6] (x48_3_0) n (f48_0_c b0_3 l0_0 l0_2 n1 n0_1 n0_4 x92 x93)) = f48_0 c lf b0_3 l0_0 l0_2 n1 n0_1 n0_4 n := by funext x92 x93; exact ih x92 x93
    show f48_0_s c lf b0_3 l0_0 l0_2 n1 n0_1 n0_4 (fun x92 x93 => lpK c env lf 6 fi48 6 3 [] [1, 2, 5, 6] (x48_3_0) n (f48_0_c b0_3 l0_0 l0_2 n1 n0_1 n0_4 x92 x93)) x92 x93 = _
    rw [e]; rfl
/-- loop.example/g00285/spec.OpenBlock -/
def f48_t (c : Orc) (lf : Nat) (lp0 : Bool → List T → List T → Int → Int → Int → Int → Int → Option (List T)) (l0_0 : List T) (n0_1 : Int) (l0_2 : List T) (b0_3 : Bool) (n0_4 : Int) (n1 : Int) : Option (List T) :=
  (lp0 b0_3 l0_0 l0_2 n1 n0_1 n0_4 (-1) 0).bind fun r95 =>
  bif asI (nth r95 0) == 0 then
    some [T.i .i64 (asI (nth r95 1))]
  else
    (c 63 [T.st [T.sl (asL (nth r95 3)), T.i .i64 (asI (nth r95 4)), T.sl (asL (nth r95 5)), T.b (asB (nth r95 6)), T.i .i64 (asI (nth r95 7))]]).bind fun r96 =>
    bif iLt (asI (nth r95 1)) (asI (nth r96 0)) then
      some [T.i .i64 (asI (nth r95 2))]
    else
      some [T.i .i64 (-1)]
def f48 (c : Orc) (lf : Nat) (l0_0 : List T) (n0_1 : Int) (l0_2 : List T) (b0_3 : Bool) (n0_4 : Int) (n1 : Int) : Option (List T) := f48_t c lf (fun (b0_3 : Bool) (l0_0 : List T) (l0_2 : List T) (n1 : Int) (n0_1 : Int) (n0_4 : Int) (x92 : Int) (x93 : Int) => f48_0 c lf b0_3 l0_0 l0_2 n1 n0_1 n0_4 lf x92 x93) l0_0 n0_1 l0_2 b0_3 n0_4 n1
theorem f48_raw (c : Orc) (lf : Nat) (l0_0 : List T) (n0_1 : Int) (l0_2 : List T) (b0_3 : Bool) (n0_4 : Int) (n1 : Int) : funK c env lf 6 fi48 [.st [.sl l0_0, .i .i64 n0_1, .sl l0_2, .b b0_3, .i .i64 n0_4], .i .i64 n1] = f48_t c lf (fun (b0_3 : Bool) (l0_0 : List T) (l0_2 : List T) (n1 : Int) (n0_1 : Int) (n0_4 : Int) (x92 : Int) (x93 : Int) => lpK c env lf 6 fi48 6 3 [] [1, 2, 5, 6] (x48_3_0) lf (f48_0_c b0_3 l0_0 l0_2 n1 n0_1 n0_4 x92 x93)) l0_0 n0_1 l0_2 b0_3 n0_4 n1 := by kernel_rfl
theorem f48_eq (c : Orc) (lf : Nat) (l0_0 : List T) (n0_1 : Int) (l0_2 : List T) (b0_3 : Bool) (n0_4 : Int) (n1 : Int) : funK c env lf 6 fi48 [.st [.sl l0_0, .i .i64 n0_1, .sl l0_2, .b b0_3, .i .i64 n0_4], .i .i64 n1] = f48 c lf l0_0 n0_1 l0_2 b0_3 n0_4 n1 := by
  refine (f48_raw c lf l0_0 n0_1 l0_2 b0_3 n0_4 n1).trans ?_
  have e0 : (fun (b0_3 : Bool) (l0_0 : List T) (l0_2 : List T) (n1 : Int) (n0_1 : Int) (n0_4 : Int) (x92 : Int) (x93 : Int) => lpK c env lf 6 fi48 6 3 [] [1, 2, 5, 6] (x48_3_0) lf (f48_0_c b0_3 l0_0 l0_2 n1 n0_1 n0_4 x92 x93)) = (fun (b0_3 : Bool) (l0_0 : List T) (l0_2 : List T) (n1 : Int) (n0_1 : Int) (n0_4 : Int) (x92 : Int) (x93 : Int) => f48_0 c lf b0_3 l0_0 l0_2 n1 n0_1 n0_4 lf x92 x93) := by funext b0_3 l0_0 l0_2 n1 n0_1 n0_4 x92 x93; exact f48_0_eq c lf b0_3 l0_0 l0_2 n1 n0_1 n0_4 lf x92 x93
  rw [e0]; rfl
/-- loop.example/g00285/impl.from -/
def f76_t (c : Orc) (lf : Nat) (n0 : Int) (n1 : Int) (n2 : Int) : Option (List T) :=
  bif iLe n1 n0 then
    some [T.b (iLe n0 n2)]
  else
    some [T.b false]
def f76 (c : Orc) (lf : Nat) (n0 : Int) (n1 : Int) (n2 : Int) : Option (List T) := f76_t c lf n0 n1 n2
theorem f76_raw (c : Orc) (lf : Nat) (n0 : Int) (n1 : Int) (n2 : Int) : funK c env lf 6 fi76 [.i .i64 n0, .i .i64 n1, .i .i64 n2] = f76_t c lf n0 n1 n2 := by kernel_rfl
theorem f76_eq (c : Orc) (lf : Nat) (n0 : Int) (n1 : Int) (n2 : Int) : funK c env lf 6 fi76 [.i .i64 n0, .i .i64 n1, .i .i64 n2] = f76 c lf n0 n1 n2 := by
  refine (f76_raw c lf n0 n1 n2).trans ?_
  rfl
/-- loop.example/g00285/impl.isBlock -/
def f122_t (c : Orc) (lf : Nat) (l0_0 : List T) (n1 : Int) : Option (List T) :=
  (c 76 [T.i .i64 n1, T.i .i64 0, T.i .i64 (IntKind.wrap .i64 ((l0_0.length : Int) - 1))]).bind fun r97 =>
  some [T.b (asB (nth r97 0))]
def f122 (c : Orc) (lf : Nat) (l0_0 : List T) (n1 : Int) : Option (List T) := f122_t c lf l0_0 n1
theorem f122_raw (c : Orc) (lf : Nat) (l0_0 : List T) (n1 : Int) : funK c env lf 6 fi122 [.st [.sl l0_0], .i .i64 n1] = f122_t c lf l0_0 n1 := by kernel_rfl
theorem f122_eq (c : Orc) (lf : Nat) (l0_0 : List T) (n1 : Int) : funK c env lf 6 fi122 [.st [.sl l0_0], .i .i64 n1] = f122 c lf l0_0 n1 := by
  refine (f122_raw c lf l0_0 n1).trans ?_
  rfl
/-- loop.example/g00285/impl.NextPage, the loop at region 5. -/
def f64_0_s (c : Orc) (lf : Nat) (l0_0 : List T) (n1 : Int) (L : Int → Int → Option (List T)) (x103 : Int) (x104 : Int) : Option (List T) :=
  bif iLt x104 ((asL (T.cell (l0_0.getD n1.toNat T.u) 0)).length : Int) then
    bif inR x104 ((asL (T.cell (l0_0.getD n1.toNat T.u) 0)).length) then
    bif asB (T.cell ((asL (T.cell (l0_0.getD n1.toNat T.u) 0)).getD x104.toNat T.u) 0) then
      L (IntKind.wrap .i64 (x103 + 1)) (IntKind.wrap .i64 (x104 + 1))
    else
      L x103 (IntKind.wrap .i64 (x104 + 1))
    else none
  else
    some [T.i .i64 0, T.i .i64 x103]
def f64_0_c (l0_0 : List T) (n1 : Int) (x103 : Int) (x104 : Int) : CSt := ⟨[.i .i64 x103, .ro 0 true [.b, .sl false [.i .u8]] (asL (T.cell (l0_0.getD n1.toNat T.u) 0)), .i .i64 ((asL (T.cell (l0_0.getD n1.toNat T.u) 0)).length : Int), .i .i64 x104], [.dead, .dead]⟩
theorem f64_0_round (c : Orc) (lf : Nat) (l0_0 : List T) (n1 : Int) (L : CSt → Option (List T)) (x103 : Int) (x104 : Int) :
    roundK c env lf 6 fi64 2 5 [] [5, 17, 18, 19] (x64_5_0) L (f64_0_c l0_0 n1 x103 x104) = f64_0_s c lf l0_0 n1 (fun x103 x104 => L (f64_0_c l0_0 n1 x103 x104)) x103 x104 := by kernel_rfl
def f64_0 (c : Orc) (lf : Nat) (l0_0 : List T) (n1 : Int) : Nat → Int → Int → Option (List T)
  | 0 => fun _ _ => none
  | n + 1 => fun x103 x104 => f64_0_s c lf l0_0 n1 (f64_0 c lf l0_0 n1 n) x103 x104
theorem f64_0_u (c : Orc) (lf : Nat) (l0_0 : List T) (n1 : Int) (n : Nat) (x103 : Int) (x104 : Int) : f64_0 c lf l0_0 n1 (n + 1) x103 x104 = f64_0_s c lf l0_0 n1 (f64_0 c lf l0_0 n1 n) x103 x104 := rfl
theorem f64_0_eq (c : Orc) (lf : Nat) (l0_0 : List T) (n1 : Int) (n : Nat) (x103 : Int) (x104 : Int) :
    lpK c env lf 6 fi64 2 5 [] [5, 17, 18, 19] (x64_5_0) n (f64_0_c l0_0 n1 x103 x104) = f64_0 c lf l0_0 n1 n x103 x104 := by
  induction n generalizing x103 x104 with
  | zero => rfl
  | succ n ih =>
    refine (f64_0_round c lf l0_0 n1 _ x103 x104).trans ?_
    have e : (fun x103 x104 => lpK c env lf 6 fi64 2 5 [] [5, 17, 18, 19] (x64_5_0) n (f64_0_c l0_0 n1 x103 x104)) = f64_0 c lf l0_0 n1 n := by funext x103 x104; exact ih x103 x104
    show f64_0_s c lf l0_0 n1 (fun x103 x104 => lpK c env lf 6 fi64 2 5 [] [5, 17, 18, 19] (x64_5_0) n (f64_0_c l0_0 n1 x103 x104)) x103 x104 = _
    rw [e]; rfl
/-- loop.example/g00285/impl.NextPage -/
def f64_t (c : Orc) (lf : Nat) (lp0 : List T → Int → Int → Int → Option (List T)) (l0_0 : List T) (n1 : Int) : Option (List T) :=
  (c 122 [T.st [T.sl l0_0], T.i .i64 n1]).bind fun r102 =>
  bif !(asB (nth r102 0)) then
    some [T.i .i64 (-1)]
  else
    bif inR n1 l0_0.length then
    (lp0 l0_0 n1 0 0).bind fun r105 =>
    some [T.i .i64 (asI (nth r105 1))]
    else none
def f64 (c : Orc) (lf : Nat) (l0_0 : List T) (n1 : Int) : Option (List T) := f64_t c lf (fun (l0_0 : List T) (n1 : Int) (x103 : Int) (x104 : Int) => f64_0 c lf l0_0 n1 lf x103 x104) l0_0 n1
theorem f64_raw (c : Orc) (lf : Nat) (l0_0 : List T) (n1 : Int) : funK c env lf 6 fi64 [.st [.sl l0_0], .i .i64 n1] = f64_t c lf (fun (l0_0 : List T) (n1 : Int) (x103 : Int) (x104 : Int) => lpK c env lf 6 fi64 2 5 [] [5, 17, 18, 19] (x64_5_0) lf (f64_0_c l0_0 n1 x103 x104)) l0_0 n1 := by kernel_rfl
theorem f64_eq (c : Orc) (lf : Nat) (l0_0 : List T) (n1 : Int) : funK c env lf 6 fi64 [.st [.sl l0_0], .i .i64 n1] = f64 c lf l0_0 n1 := by
  refine (f64_raw c lf l0_0 n1).trans ?_
  have e0 : (fun (l0_0 : List T) (n1 : Int) (x103 : Int) (x104 : Int) => lpK c env lf 6 fi64 2 5 [] [5, 17, 18, 19] (x64_5_0) lf (f64_0_c l0_0 n1 x103 x104)) = (fun (l0_0 : List T) (n1 : Int) (x103 : Int) (x104 : Int) => f64_0 c lf l0_0 n1 lf x103 x104) := by funext l0_0 n1 x103 x104; exact f64_0_eq c lf l0_0 n1 lf x103 x104
  rw [e0]; rfl
/-- loop.example/g00285/impl.FreeBlocks, the loop at region 3. -/
def f62_0_s (c : Orc) (lf : Nat) (b0_3 : Bool) (l0_0 : List T) (l0_2 : List T) (n0_1 : Int) (n0_4 : Int) (L : Int → Int → Option (List T)) (x112 : Int) (x113 : Int) : Option (List T) :=
  bif iLt x113 (l0_0.length : Int) then
    bif inR x113 l0_0.length then
    bif !(asB (T.cell (l0_0.getD x113.toNat T.u) 2)) then
      (c 64 [T.st [T.sl l0_0], T.i .i64 x113]).bind fun r114 =>
      bif (asI (nth r114 0)) == 0 then
        L (IntKind.wrap .i64 (x112 + 1)) (IntKind.wrap .i64 (x113 + 1))
      else
        L x112 (IntKind.wrap .i64 (x113 + 1))
    else
      L x112 (IntKind.wrap .i64 (x113 + 1))
    else none
  else
    some [T.i .i64 0, T.i .i64 x112]
def f62_0_c (b0_3 : Bool) (l0_0 : List T) (l0_2 : List T) (n0_1 : Int) (n0_4 : Int) (x112 : Int) (x113 : Int) : CSt := ⟨[.bp 5 0, .i .i64 x112, .ro 0 true [.sl true [.b, .sl false [.i .u8]], .i .i64, .b] l0_0, .i .i64 (l0_0.length : Int), .i .i64 x113], [.dead, .dead, .dead, .dead, .dead, .box [.ro 0 true [.sl true [.b, .sl false [.i .u8]], .i .i64, .b] l0_0, .i .i64 n0_1, .ro 0 true [.i .i64, .i .i64, .i .i64] l0_2, .b b0_3, .i .i64 n0_4]]⟩
theorem f62_0_round (c : Orc) (lf : Nat) (b0_3 : Bool) (l0_0 : List T) (l0_2 : List T) (n0_1 : Int) (n0_4 : Int) (L : CSt → Option (List T)) (x112 : Int) (x113 : Int) :
    roundK c env lf 6 fi62 5 3 [] [1, 3, 9, 10, 11] (x62_3_0) L (f62_0_c b0_3 l0_0 l0_2 n0_1 n0_4 x112 x113) = f62_0_s c lf b0_3 l0_0 l0_2 n0_1 n0_4 (fun x112 x113 => L (f62_0_c b0_3 l0_0 l0_2 n0_1 n0_4 x112 x113)) x112 x113 := by kernel_rfl
def f62_0 (c : Orc) (lf : Nat) (b0_3 : Bool) (l0_0 : List T) (l0_2 : List T) (n0_1 : Int) (n0_4 : Int) : Nat → Int → Int → Option (List T)
  | 0 => fun _ _ => none
  | n + 1 => fun x112 x113 => f62_0_s c lf b0_3 l0_0 l0_2 n0_1 n0_4 (f62_0 c lf b0_3 l0_0 l0_2 n0_1 n0_4 n) x112 x113
theorem f62_0_u (c : Orc) (lf : Nat) (b0_3 : Bool) (l0_0 : List T) (l0_2 : List T) (n0_1 : Int) (n0_4 : Int) (n : Nat) (x112 : Int) (x113 : Int) : f62_0 c lf b0_3 l0_0 l0_2 n0_1 n0_4 (n + 1) x112 x113 = f62_0_s c lf b0_3 l0_0 l0_2 n0_1 n0_4 (f62_0 c lf b0_3 l0_0 l0_2 n0_1 n0_4 n) x112 x113 := rfl
theorem f62_0_eq (c : Orc) (lf : Nat) (b0_3 : Bool) (l0_0 : List T) (l0_2 : List T) (n0_1 : Int) (n0_4 : Int) (n : Nat) (x112 : Int) (x113 : Int) :
    lpK c env lf 6 fi62 5 3 [] [1, 3, 9, 10, 11] (x62_3_0) n (f62_0_c b0_3 l0_0 l0_2 n0_1 n0_4 x112 x113) = f62_0 c lf b0_3 l0_0 l0_2 n0_1 n0_4 n x112 x113 := by
  induction n generalizing x112 x113 with
  | zero => rfl
  | succ n ih =>
    refine (f62_0_round c lf b0_3 l0_0 l0_2 n0_1 n0_4 _ x112 x113).trans ?_
    have e : (fun x112 x113 => lpK c env lf 6 fi62 5 3 [] [1, 3, 9, 10, 11] (x62_3_0) n (f62_0_c b0_3 l0_0 l0_2 n0_1 n0_4 x112 x113)) = f62_0 c lf b0_3 l0_0 l0_2 n0_1 n0_4 n := by funext x112 x113; exact ih x112 x113
    show f62_0_s c lf b0_3 l0_0 l0_2 n0_1 n0_4 (fun x112 x113 => lpK c env lf 6 fi62 5 3 [] [1, 3, 9, 10, 11] (x62_3_0) n (f62_0_c b0_3 l0_0 l0_2 n0_1 n0_4 x112 x113)) x112 x113 = _
    rw [e]; rfl
/-- loop.example/g00285/impl.FreeBlocks -/
def f62_t (c : Orc) (lf : Nat) (lp0 : Bool → List T → List T → Int → Int → Int → Int → Option (List T)) (l0_0 : List T) (n0_1 : Int) (l0_2 : List T) (b0_3 : Bool) (n0_4 : Int) : Option (List T) :=
  (lp0 b0_3 l0_0 l0_2 n0_1 n0_4 0 0).bind fun r115 =>
  some [T.i .i64 (asI (nth r115 1))]
def f62 (c : Orc) (lf : Nat) (l0_0 : List T) (n0_1 : Int) (l0_2 : List T) (b0_3 : Bool) (n0_4 : Int) : Option (List T) := f62_t c lf (fun (b0_3 : Bool) (l0_0 : List T) (l0_2 : List T) (n0_1 : Int) (n0_4 : Int) (x112 : Int) (x113 : Int) => f62_0 c lf b0_3 l0_0 l0_2 n0_1 n0_4 lf x112 x113) l0_0 n0_1 l0_2 b0_3 n0_4
theorem f62_raw (c : Orc) (lf : Nat) (l0_0 : List T) (n0_1 : Int) (l0_2 : List T) (b0_3 : Bool) (n0_4 : Int) : funK c env lf 6 fi62 [.st [.sl l0_0, .i .i64 n0_1, .sl l0_2, .b b0_3, .i .i64 n0_4]] = f62_t c lf (fun (b0_3 : Bool) (l0_0 : List T) (l0_2 : List T) (n0_1 : Int) (n0_4 : Int) (x112 : Int) (x113 : Int) => lpK c env lf 6 fi62 5 3 [] [1, 3, 9, 10, 11] (x62_3_0) lf (f62_0_c b0_3 l0_0 l0_2 n0_1 n0_4 x112 x113)) l0_0 n0_1 l0_2 b0_3 n0_4 := by kernel_rfl
theorem f62_eq (c : Orc) (lf : Nat) (l0_0 : List T) (n0_1 : Int) (l0_2 : List T) (b0_3 : Bool) (n0_4 : Int) : funK c env lf 6 fi62 [.st [.sl l0_0, .i .i64 n0_1, .sl l0_2, .b b0_3, .i .i64 n0_4]] = f62 c lf l0_0 n0_1 l0_2 b0_3 n0_4 := by
  refine (f62_raw c lf l0_0 n0_1 l0_2 b0_3 n0_4).trans ?_
  have e0 : (fun (b0_3 : Bool) (l0_0 : List T) (l0_2 : List T) (n0_1 : Int) (n0_4 : Int) (x112 : Int) (x113 : Int) => lpK c env lf 6 fi62 5 3 [] [1, 3, 9, 10, 11] (x62_3_0) lf (f62_0_c b0_3 l0_0 l0_2 n0_1 n0_4 x112 x113)) = (fun (b0_3 : Bool) (l0_0 : List T) (l0_2 : List T) (n0_1 : Int) (n0_4 : Int) (x112 : Int) (x113 : Int) => f62_0 c lf b0_3 l0_0 l0_2 n0_1 n0_4 lf x112 x113) := by funext b0_3 l0_0 l0_2 n0_1 n0_4 x112 x113; exact f62_0_eq c lf b0_3 l0_0 l0_2 n0_1 n0_4 lf x112 x113
  rw [e0]; rfl
/-- loop.example/g00285/impl.OpenBlock, the loop at region 3. -/
def f49_0_s (c : Orc) (lf : Nat) (b0_3 : Bool) (l0_0 : List T) (l0_2 : List T) (n1 : Int) (n0_1 : Int) (n0_4 : Int) (L : Int → Int → Option (List T)) (x124 : Int) (x123 : Int) : Option (List T) :=
  bif iLt x123 (l0_0.length : Int) then
    bif inR x123 l0_0.length then
    (c 64 [T.st [T.sl l0_0], T.i .i64 x123]).bind fun r125 =>
    bif asB (T.cell (l0_0.getD x123.toNat T.u) 2) then
      L x124 (IntKind.wrap .i64 (x123 + 1))
    else
      bif iLt 0 (asI (nth r125 0)) then
        bif iLt (asI (nth r125 0)) ((asL (T.cell (l0_0.getD x123.toNat T.u) 0)).length : Int) then
          some [T.i .i64 0, T.i .i64 x123]
        else
          bif (asI (nth r125 0)) == 0 then
            bif iLt x124 0 then
              L x123 (IntKind.wrap .i64 (x123 + 1))
            else
              L x124 (IntKind.wrap .i64 (x123 + 1))
          else
            L x124 (IntKind.wrap .i64 (x123 + 1))
      else
        bif (asI (nth r125 0)) == 0 then
          bif iLt x124 0 then
            L x123 (IntKind.wrap .i64 (x123 + 1))
          else
            L x124 (IntKind.wrap .i64 (x123 + 1))
        else
          L x124 (IntKind.wrap .i64 (x123 + 1))
    else none
  else
    some [T.i .i64 1, T.i .i64 n1, T.i .i64 x124, T.sl l0_0, T.i .i64 n0_1, T.sl l0_2, T.b b0_3, T.i .i64 n0_4]
def f49_0_c (b0_3 : Bool) (l0_0 : List T) (l0_2 : List T) (n1 : Int) (n0_1 : Int) (n0_4 : Int) (x124 : Int) (x123 : Int) : CSt := ⟨[.i .i64 n1, .bp 6 0, .i .i64 x124, .ro 0 true [.sl true [.b, .sl false [.i .u8]], .i .i64, .b] l0_0, .i .i64 (l0_0.length : Int), .i .i64 x123], [.dead, .dead, .dead, .dead, .dead, .dead, .box [.ro 0 true [.sl true [.b, .sl false [.i .u8]], .i .i64, .b] l0_0, .i .i64 n0_1, .ro 0 true [.i .i64, .i .i64, .i .i64] l0_2, .b b0_3, .i .i64 n0_4]]⟩
theorem f49_0_round (c : Orc) (lf : Nat) (b0_3 : Bool) (l0_0 : List T) (l0_2 : List T) (n1 : Int) (n0_1 : Int) (n0_4 : Int) (L : CSt → Option (List T)) (x124 : Int) (x123 : Int) :
    roundK c env lf 6 fi49 6 3 [] [1, 2, 5, 12, 13, 14] (x49_3_0) L (f49_0_c b0_3 l0_0 l0_2 n1 n0_1 n0_4 x124 x123) = f49_0_s c lf b0_3 l0_0 l0_2 n1 n0_1 n0_4 (fun x124 x123 => L (f49_0_c b0_3 l0_0 l0_2 n1 n0_1 n0_4 x124 x123)) x124 x123 := by kernel_rfl
def f49_0 (c : Orc) (lf : Nat) (b0_3 : Bool) (l0_0 : List T) (l0_2 : List T) (n1 : Int) (n0_1 : Int) (n0_4 : Int) : Nat → Int → Int → Option (List T)
  | 0 => fun _ _ => none
  | n + 1 => fun x124 x123 => f49_0_s c lf b0_3 l0_0 l0_2 n1 n0_1 n0_4 (f49_0 c lf b0_3 l0_0 l0_2 n1 n0_1 n0_4 n) x124 x123
theorem f49_0_u (c : Orc) (lf : Nat) (b0_3 : Bool) (l0_0 : List T) (l0_2 : List T) (n1 : Int) (n0_1 : Int) (n0_4 : Int) (n : Nat) (x124 : Int) (x123 : Int) : f49_0 c lf b0_3 l0_0 l0_2 n1 n0_1 n0_4 (n + 1) x124 x123 = f49_0_s c lf b0_3 l0_0 l0_2 n1 n0_1 n0_4 (f49_0 c lf b0_3 l0_0 l0_2 n1 n0_1 n0_4 n) x124 x123 := rfl
theorem f49_0_eq (c : Orc) (lf : Nat) (b0_3 : Bool) (l0_0 : List T) (l0_2 : List T) (n1 : Int) (n0_1 : Int) (n0_4 : Int) (n : Nat) (x124 : Int) (x123 : Int) :
    lpK c env lf 6 fi49 6 3 [] [1, 2, 5, 12, 13, 14] (x49_3_0) n (f49_0_c b0_3 l0_0 l0_2 n1 n0_1 n0_4 x124 x123) = f49_0 c lf b0_3 l0_0 l0_2 n1 n0_1 n0_4 n x124 x123 := by
  induction n generalizing x124 x123 with
  | zero => rfl
  | succ n ih =>
    refine (f49_0_round c lf b0_3 l0_0 l0_2 n1 n0_1 n0_4 _ x124 x123).trans ?_
    have e : (fun x124 x123 => lpK c env lf 6 fi49 6 3 [] [1, 2, 5, 12, 13, 14] (x49_3_0) n (f49_0_c b0_3 l0_0 l0_2 n1 n0_1 n0_4 x124 x123)) = f49_0 c lf b0_3 l0_0 l0_2 n1 n0_1 n0_4 n := by funext x124 x123; exact ih x124 x123
    show f49_0_s c lf b0_3 l0_0 l0_2 n1 n0_1 n0_4 (fun x124 x123 => lpK c env lf 6 fi49 6 3 [] [1, 2, 5, 12, 13, 14] (x49_3_0) n (f49_0_c b0_3 l0_0 l0_2 n1 n0_1 n0_4 x124 x123)) x124 x123 = _
    rw [e]; rfl
/-- loop.example/g00285/impl.OpenBlock -/
def f49_t (c : Orc) (lf : Nat) (lp0 : Bool → List T → List T → Int → Int → Int → Int → Int → Option (List T)) (l0_0 : List T) (n0_1 : Int) (l0_2 : List T) (b0_3 : Bool) (n0_4 : Int) (n1 : Int) : Option (List T) :=
  (lp0 b0_3 l0_0 l0_2 n1 n0_1 n0_4 (-1) 0).bind fun r126 =>
  bif asI (nth r126 0) == 0 then
    some [T.i .i64 (asI (nth r126 1))]
  else
    (c 62 [T.st [T.sl (asL (nth r126 3)), T.i .i64 (asI (nth r126 4)), T.sl (asL (nth r126 5)), T.b (asB (nth r126 6)), T.i .i64 (asI (nth r126 7))]]).bind fun r127 =>
    bif iLt (asI (nth r126 1)) (asI (nth r127 0)) then
      some [T.i .i64 (asI (nth r126 2))]
    else
      some [T.i .i64 (-1)]
def f49 (c : Orc) (lf : Nat) (l0_0 : List T) (n0_1 : Int) (l0_2 : List T) (b0_3 : Bool) (n0_4 : Int) (n1 : Int) : Option (List T) := f49_t c lf (fun (b0_3 : Bool) (l0_0 : List T) (l0_2 : List T) (n1 : Int) (n0_1 : Int) (n0_4 : Int) (x124 : Int) (x123 : Int) => f49_0 c lf b0_3 l0_0 l0_2 n1 n0_1 n0_4 lf x124 x123) l0_0 n0_1 l0_2 b0_3 n0_4 n1
theorem f49_raw (c : Orc) (lf : Nat) (l0_0 : List T) (n0_1 : Int) (l0_2 : List T) (b0_3 : Bool) (n0_4 : Int) (n1 : Int) : funK c env lf 6 fi49 [.st [.sl l0_0, .i .i64 n0_1, .sl l0_2, .b b0_3, .i .i64 n0_4], .i .i64 n1] = f49_t c lf (fun (b0_3 : Bool) (l0_0 : List T) (l0_2 : List T) (n1 : Int) (n0_1 : Int) (n0_4 : Int) (x124 : Int) (x123 : Int) => lpK c env lf 6 fi49 6 3 [] [1, 2, 5, 12, 13, 14] (x49_3_0) lf (f49_0_c b0_3 l0_0 l0_2 n1 n0_1 n0_4 x124 x123)) l0_0 n0_1 l0_2 b0_3 n0_4 n1 := by kernel_rfl
theorem f49_eq (c : Orc) (lf : Nat) (l0_0 : List T) (n0_1 : Int) (l0_2 : List T) (b0_3 : Bool) (n0_4 : Int) (n1 : Int) : funK c env lf 6 fi49 [.st [.sl l0_0, .i .i64 n0_1, .sl l0_2, .b b0_3, .i .i64 n0_4], .i .i64 n1] = f49 c lf l0_0 n0_1 l0_2 b0_3 n0_4 n1 := by
  refine (f49_raw c lf l0_0 n0_1 l0_2 b0_3 n0_4 n1).trans ?_
  have e0 : (fun (b0_3 : Bool) (l0_0 : List T) (l0_2 : List T) (n1 : Int) (n0_1 : Int) (n0_4 : Int) (x124 : Int) (x123 : Int) => lpK c env lf 6 fi49 6 3 [] [1, 2, 5, 12, 13, 14] (x49_3_0) lf (f49_0_c b0_3 l0_0 l0_2 n1 n0_1 n0_4 x124 x123)) = (fun (b0_3 : Bool) (l0_0 : List T) (l0_2 : List T) (n1 : Int) (n0_1 : Int) (n0_4 : Int) (x124 : Int) (x123 : Int) => f49_0 c lf b0_3 l0_0 l0_2 n1 n0_1 n0_4 lf x124 x123) := by funext b0_3 l0_0 l0_2 n1 n0_1 n0_4 x124 x123; exact f49_0_eq c lf b0_3 l0_0 l0_2 n1 n0_1 n0_4 lf x124 x123
  rw [e0]; rfl
/-- loop.example/g00285/laws.eqByteS, the loop at region 4. -/
def f27_0_s (c : Orc) (lf : Nat) (l0 : List T) (l1 : List T) (L : Int → Option (List T)) (x130 : Int) : Option (List T) :=
  bif iLt x130 (l0.length : Int) then
    bif inR x130 l0.length then
    bif inR x130 l1.length then
    bif (asI (l0.getD x130.toNat T.u)) != (asI (l1.getD x130.toNat T.u)) then
      some [T.i .i64 0, T.b false]
    else
      L (IntKind.wrap .i64 (x130 + 1))
    else none
    else none
  else
    some [T.i .i64 1]
def f27_0_c (l0 : List T) (l1 : List T) (x130 : Int) : CSt := ⟨[.ro 0 false [.i .u8] l0, .ro 0 false [.i .u8] l1, .i .i64 x130], [.dead, .dead]⟩
theorem f27_0_round (c : Orc) (lf : Nat) (l0 : List T) (l1 : List T) (L : CSt → Option (List T)) (x130 : Int) :
    roundK c env lf 6 fi27 2 4 [] [0, 1, 5] (x27_4_0) L (f27_0_c l0 l1 x130) = f27_0_s c lf l0 l1 (fun x130 => L (f27_0_c l0 l1 x130)) x130 := by kernel_rfl
def f27_0 (c : Orc) (lf : Nat) (l0 : List T) (l1 : List T) : Nat → Int → Option (List T)
  | 0 => fun _ => none
  | n + 1 => fun x130 => f27_0_s c lf l0 l1 (f27_0 c lf l0 l1 n) x130
theorem f27_0_u (c : Orc) (lf : Nat) (l0 : List T) (l1 : List T) (n : Nat) (x130 : Int) : f27_0 c lf l0 l1 (n + 1) x130 = f27_0_s c lf l0 l1 (f27_0 c lf l0 l1 n) x130 := rfl
theorem f27_0_eq (c : Orc) (lf : Nat) (l0 : List T) (l1 : List T) (n : Nat) (x130 : Int) :
    lpK c env lf 6 fi27 2 4 [] [0, 1, 5] (x27_4_0) n (f27_0_c l0 l1 x130) = f27_0 c lf l0 l1 n x130 := by
  induction n generalizing x130 with
  | zero => rfl
  | succ n ih =>
    refine (f27_0_round c lf l0 l1 _ x130).trans ?_
    have e : (fun x130 => lpK c env lf 6 fi27 2 4 [] [0, 1, 5] (x27_4_0) n (f27_0_c l0 l1 x130)) = f27_0 c lf l0 l1 n := by funext x130; exact ih x130
    show f27_0_s c lf l0 l1 (fun x130 => lpK c env lf 6 fi27 2 4 [] [0, 1, 5] (x27_4_0) n (f27_0_c l0 l1 x130)) x130 = _
    rw [e]; rfl
/-- loop.example/g00285/laws.eqByteS -/
def f27_t (c : Orc) (lf : Nat) (lp0 : List T → List T → Int → Option (List T)) (l0 : List T) (l1 : List T) : Option (List T) :=
  bif (l0.length : Int) != (l1.length : Int) then
    some [T.b false]
  else
    (lp0 l0 l1 0).bind fun r131 =>
    bif asI (nth r131 0) == 0 then
      some [T.b (asB (nth r131 1))]
    else
      some [T.b true]
def f27 (c : Orc) (lf : Nat) (l0 : List T) (l1 : List T) : Option (List T) := f27_t c lf (fun (l0 : List T) (l1 : List T) (x130 : Int) => f27_0 c lf l0 l1 lf x130) l0 l1
theorem f27_raw (c : Orc) (lf : Nat) (l0 : List T) (l1 : List T) : funK c env lf 6 fi27 [.sl l0, .sl l1] = f27_t c lf (fun (l0 : List T) (l1 : List T) (x130 : Int) => lpK c env lf 6 fi27 2 4 [] [0, 1, 5] (x27_4_0) lf (f27_0_c l0 l1 x130)) l0 l1 := by kernel_rfl
theorem f27_eq (c : Orc) (lf : Nat) (l0 : List T) (l1 : List T) : funK c env lf 6 fi27 [.sl l0, .sl l1] = f27 c lf l0 l1 := by
  refine (f27_raw c lf l0 l1).trans ?_
  have e0 : (fun (l0 : List T) (l1 : List T) (x130 : Int) => lpK c env lf 6 fi27 2 4 [] [0, 1, 5] (x27_4_0) lf (f27_0_c l0 l1 x130)) = (fun (l0 : List T) (l1 : List T) (x130 : Int) => f27_0 c lf l0 l1 lf x130) := by funext l0 l1 x130; exact f27_0_eq c lf l0 l1 lf x130
  rw [e0]; rfl
/-- loop.example/g00285/laws.eqPage -/
def f184_t (c : Orc) (lf : Nat) (b0_0 : Bool) (l0_1 : List T) (b1_0 : Bool) (l1_1 : List T) : Option (List T) :=
  bif !(b0_0 == b1_0) then
    some [T.b false]
  else
    (c 27 [T.sl l0_1, T.sl l1_1]).bind fun r132 =>
    bif !(asB (nth r132 0)) then
      some [T.b false]
    else
      some [T.b true]
def f184 (c : Orc) (lf : Nat) (b0_0 : Bool) (l0_1 : List T) (b1_0 : Bool) (l1_1 : List T) : Option (List T) := f184_t c lf b0_0 l0_1 b1_0 l1_1
theorem f184_raw (c : Orc) (lf : Nat) (b0_0 : Bool) (l0_1 : List T) (b1_0 : Bool) (l1_1 : List T) : funK c env lf 6 fi184 [.st [.b b0_0, .sl l0_1], .st [.b b1_0, .sl l1_1]] = f184_t c lf b0_0 l0_1 b1_0 l1_1 := by kernel_rfl
theorem f184_eq (c : Orc) (lf : Nat) (b0_0 : Bool) (l0_1 : List T) (b1_0 : Bool) (l1_1 : List T) : funK c env lf 6 fi184 [.st [.b b0_0, .sl l0_1], .st [.b b1_0, .sl l1_1]] = f184 c lf b0_0 l0_1 b1_0 l1_1 := by
  refine (f184_raw c lf b0_0 l0_1 b1_0 l1_1).trans ?_
  rfl
/-- loop.example/g00285/laws.eqPageS, the loop at region 4. -/
def f170_0_s (c : Orc) (lf : Nat) (l0 : List T) (l1 : List T) (L : Int → Option (List T)) (x138 : Int) : Option (List T) :=
  bif iLt x138 (l0.length : Int) then
    bif inR x138 l0.length then
    bif inR x138 l1.length then
    (c 184 [T.st [T.b (asB (T.cell (l0.getD x138.toNat T.u) 0)), T.sl (asL (T.cell (l0.getD x138.toNat T.u) 1))], T.st [T.b (asB (T.cell (l1.getD x138.toNat T.u) 0)), T.sl (asL (T.cell (l1.getD x138.toNat T.u) 1))]]).bind fun r139 =>
    bif !(asB (nth r139 0)) then
      some [T.i .i64 0, T.b false]
    else
      L (IntKind.wrap .i64 (x138 + 1))
    else none
    else none
  else
    some [T.i .i64 1]
def f170_0_c (l0 : List T) (l1 : List T) (x138 : Int) : CSt := ⟨[.ro 0 true [.b, .sl false [.i .u8]] l0, .ro 0 true [.b, .sl false [.i .u8]] l1, .i .i64 x138], [.dead, .dead]⟩
theorem f170_0_round (c : Orc) (lf : Nat) (l0 : List T) (l1 : List T) (L : CSt → Option (List T)) (x138 : Int) :
    roundK c env lf 6 fi170 2 4 [] [0, 1, 5] (x170_4_0) L (f170_0_c l0 l1 x138) = f170_0_s c lf l0 l1 (fun x138 => L (f170_0_c l0 l1 x138)) x138 := by kernel_rfl
def f170_0 (c : Orc) (lf : Nat) (l0 : List T) (l1 : List T) : Nat → Int → Option (List T)
  | 0 => fun _ => none
  | n + 1 => fun x138 => f170_0_s c lf l0 l1 (f170_0 c lf l0 l1 n) x138
theorem f170_0_u (c : Orc) (lf : Nat) (l0 : List T) (l1 : List T) (n : Nat) (x138 : Int) : f170_0 c lf l0 l1 (n + 1) x138 = f170_0_s c lf l0 l1 (f170_0 c lf l0 l1 n) x138 := rfl
theorem f170_0_eq (c : Orc) (lf : Nat) (l0 : List T) (l1 : List T) (n : Nat) (x138 : Int) :
    lpK c env lf 6 fi170 2 4 [] [0, 1, 5] (x170_4_0) n (f170_0_c l0 l1 x138) = f170_0 c lf l0 l1 n x138 := by
  induction n generalizing x138 with
  | zero => rfl
  | succ n ih =>
    refine (f170_0_round c lf l0 l1 _ x138).trans ?_
    have e : (fun x138 => lpK c env lf 6 fi170 2 4 [] [0, 1, 5] (x170_4_0) n (f170_0_c l0 l1 x138)) = f170_0 c lf l0 l1 n := by funext x138; exact ih x138
    show f170_0_s c lf l0 l1 (fun x138 => lpK c env lf 6 fi170 2 4 [] [0, 1, 5] (x170_4_0) n (f170_0_c l0 l1 x138)) x138 = _
    rw [e]; rfl
/-- loop.example/g00285/laws.eqPageS -/
def f170_t (c : Orc) (lf : Nat) (lp0 : List T → List T → Int → Option (List T)) (l0 : List T) (l1 : List T) : Option (List T) :=
  bif (l0.length : Int) != (l1.length : Int) then
    some [T.b false]
  else
    (lp0 l0 l1 0).bind fun r140 =>
    bif asI (nth r140 0) == 0 then
      some [T.b (asB (nth r140 1))]
    else
      some [T.b true]
def f170 (c : Orc) (lf : Nat) (l0 : List T) (l1 : List T) : Option (List T) := f170_t c lf (fun (l0 : List T) (l1 : List T) (x138 : Int) => f170_0 c lf l0 l1 lf x138) l0 l1
theorem f170_raw (c : Orc) (lf : Nat) (l0 : List T) (l1 : List T) : funK c env lf 6 fi170 [.sl l0, .sl l1] = f170_t c lf (fun (l0 : List T) (l1 : List T) (x138 : Int) => lpK c env lf 6 fi170 2 4 [] [0, 1, 5] (x170_4_0) lf (f170_0_c l0 l1 x138)) l0 l1 := by kernel_rfl
theorem f170_eq (c : Orc) (lf : Nat) (l0 : List T) (l1 : List T) : funK c env lf 6 fi170 [.sl l0, .sl l1] = f170 c lf l0 l1 := by
  refine (f170_raw c lf l0 l1).trans ?_
  have e0 : (fun (l0 : List T) (l1 : List T) (x138 : Int) => lpK c env lf 6 fi170 2 4 [] [0, 1, 5] (x170_4_0) lf (f170_0_c l0 l1 x138)) = (fun (l0 : List T) (l1 : List T) (x138 : Int) => f170_0 c lf l0 l1 lf x138) := by funext l0 l1 x138; exact f170_0_eq c lf l0 l1 lf x138
  rw [e0]; rfl
/-- loop.example/g00285/laws.eqBlock -/
def f159_t (c : Orc) (lf : Nat) (l0_0 : List T) (n0_1 : Int) (b0_2 : Bool) (l1_0 : List T) (n1_1 : Int) (b1_2 : Bool) : Option (List T) :=
  (c 170 [T.sl l0_0, T.sl l1_0]).bind fun r141 =>
  bif !(asB (nth r141 0)) then
    some [T.b false]
  else
    bif n0_1 != n1_1 then
      some [T.b false]
    else
      bif !(b0_2 == b1_2) then
        some [T.b false]
      else
        some [T.b true]
def f159 (c : Orc) (lf : Nat) (l0_0 : List T) (n0_1 : Int) (b0_2 : Bool) (l1_0 : List T) (n1_1 : Int) (b1_2 : Bool) : Option (List T) := f159_t c lf l0_0 n0_1 b0_2 l1_0 n1_1 b1_2
theorem f159_raw (c : Orc) (lf : Nat) (l0_0 : List T) (n0_1 : Int) (b0_2 : Bool) (l1_0 : List T) (n1_1 : Int) (b1_2 : Bool) : funK c env lf 6 fi159 [.st [.sl l0_0, .i .i64 n0_1, .b b0_2], .st [.sl l1_0, .i .i64 n1_1, .b b1_2]] = f159_t c lf l0_0 n0_1 b0_2 l1_0 n1_1 b1_2 := by kernel_rfl
theorem f159_eq (c : Orc) (lf : Nat) (l0_0 : List T) (n0_1 : Int) (b0_2 : Bool) (l1_0 : List T) (n1_1 : Int) (b1_2 : Bool) : funK c env lf 6 fi159 [.st [.sl l0_0, .i .i64 n0_1, .b b0_2], .st [.sl l1_0, .i .i64 n1_1, .b b1_2]] = f159 c lf l0_0 n0_1 b0_2 l1_0 n1_1 b1_2 := by
  refine (f159_raw c lf l0_0 n0_1 b0_2 l1_0 n1_1 b1_2).trans ?_
  rfl
/-- loop.example/g00285/laws.eqBlockS, the loop at region 4. -/
def f149_0_s (c : Orc) (lf : Nat) (l0 : List T) (l1 : List T) (L : Int → Option (List T)) (x147 : Int) : Option (List T) :=
  bif iLt x147 (l0.length : Int) then
    bif inR x147 l0.length then
    bif inR x147 l1.length then
    (c 159 [T.st [T.sl (asL (T.cell (l0.getD x147.toNat T.u) 0)), T.i .i64 (asI (T.cell (l0.getD x147.toNat T.u) 1)), T.b (asB (T.cell (l0.getD x147.toNat T.u) 2))], T.st [T.sl (asL (T.cell (l1.getD x147.toNat T.u) 0)), T.i .i64 (asI (T.cell (l1.getD x147.toNat T.u) 1)), T.b (asB (T.cell (l1.getD x147.toNat T.u) 2))]]).bind fun r148 =>
    bif !(asB (nth r148 0)) then
      some [T.i .i64 0, T.b false]
    else
      L (IntKind.wrap .i64 (x147 + 1))
    else none
    else none
  else
    some [T.i .i64 1]
def f149_0_c (l0 : List T) (l1 : List T) (x147 : Int) : CSt := ⟨[.ro 0 true [.sl true [.b, .sl false [.i .u8]], .i .i64, .b] l0, .ro 0 true [.sl true [.b, .sl false [.i .u8]], .i .i64, .b] l1, .i .i64 x147], [.dead, .dead]⟩
theorem f149_0_round (c : Orc) (lf : Nat) (l0 : List T) (l1 : List T) (L : CSt → Option (List T)) (x147 : Int) :
    roundK c env lf 6 fi149 2 4 [] [0, 1, 5] (x149_4_0) L (f149_0_c l0 l1 x147) = f149_0_s c lf l0 l1 (fun x147 => L (f149_0_c l0 l1 x147)) x147 := by kernel_rfl
def f149_0 (c : Orc) (lf : Nat) (l0 : List T) (l1 : List T) : Nat → Int → Option (List T)
  | 0 => fun _ => none
  | n + 1 => fun x147 => f149_0_s c lf l0 l1 (f149_0 c lf l0 l1 n) x147
theorem f149_0_u (c : Orc) (lf : Nat) (l0 : List T) (l1 : List T) (n : Nat) (x147 : Int) : f149_0 c lf l0 l1 (n + 1) x147 = f149_0_s c lf l0 l1 (f149_0 c lf l0 l1 n) x147 := rfl
theorem f149_0_eq (c : Orc) (lf : Nat) (l0 : List T) (l1 : List T) (n : Nat) (x147 : Int) :
    lpK c env lf 6 fi149 2 4 [] [0, 1, 5] (x149_4_0) n (f149_0_c l0 l1 x147) = f149_0 c lf l0 l1 n x147 := by
  induction n generalizing x147 with
  | zero => rfl
  | succ n ih =>
    refine (f149_0_round c lf l0 l1 _ x147).trans ?_
    have e : (fun x147 => lpK c env lf 6 fi149 2 4 [] [0, 1, 5] (x149_4_0) n (f149_0_c l0 l1 x147)) = f149_0 c lf l0 l1 n := by funext x147; exact ih x147
    show f149_0_s c lf l0 l1 (fun x147 => lpK c env lf 6 fi149 2 4 [] [0, 1, 5] (x149_4_0) n (f149_0_c l0 l1 x147)) x147 = _
    rw [e]; rfl
/-- loop.example/g00285/laws.eqBlockS -/
def f149_t (c : Orc) (lf : Nat) (lp0 : List T → List T → Int → Option (List T)) (l0 : List T) (l1 : List T) : Option (List T) :=
  bif (l0.length : Int) != (l1.length : Int) then
    some [T.b false]
  else
    (lp0 l0 l1 0).bind fun r149 =>
    bif asI (nth r149 0) == 0 then
      some [T.b (asB (nth r149 1))]
    else
      some [T.b true]
def f149 (c : Orc) (lf : Nat) (l0 : List T) (l1 : List T) : Option (List T) := f149_t c lf (fun (l0 : List T) (l1 : List T) (x147 : Int) => f149_0 c lf l0 l1 lf x147) l0 l1
theorem f149_raw (c : Orc) (lf : Nat) (l0 : List T) (l1 : List T) : funK c env lf 6 fi149 [.sl l0, .sl l1] = f149_t c lf (fun (l0 : List T) (l1 : List T) (x147 : Int) => lpK c env lf 6 fi149 2 4 [] [0, 1, 5] (x149_4_0) lf (f149_0_c l0 l1 x147)) l0 l1 := by kernel_rfl
theorem f149_eq (c : Orc) (lf : Nat) (l0 : List T) (l1 : List T) : funK c env lf 6 fi149 [.sl l0, .sl l1] = f149 c lf l0 l1 := by
  refine (f149_raw c lf l0 l1).trans ?_
  have e0 : (fun (l0 : List T) (l1 : List T) (x147 : Int) => lpK c env lf 6 fi149 2 4 [] [0, 1, 5] (x149_4_0) lf (f149_0_c l0 l1 x147)) = (fun (l0 : List T) (l1 : List T) (x147 : Int) => f149_0 c lf l0 l1 lf x147) := by funext l0 l1 x147; exact f149_0_eq c lf l0 l1 lf x147
  rw [e0]; rfl
/-- loop.example/g00285/laws.eqChip -/
def f137_t (c : Orc) (lf : Nat) (l0_0 : List T) (l1_0 : List T) : Option (List T) :=
  (c 149 [T.sl l0_0, T.sl l1_0]).bind fun r150 =>
  bif !(asB (nth r150 0)) then
    some [T.b false]
  else
    some [T.b true]
def f137 (c : Orc) (lf : Nat) (l0_0 : List T) (l1_0 : List T) : Option (List T) := f137_t c lf l0_0 l1_0
theorem f137_raw (c : Orc) (lf : Nat) (l0_0 : List T) (l1_0 : List T) : funK c env lf 6 fi137 [.st [.sl l0_0], .st [.sl l1_0]] = f137_t c lf l0_0 l1_0 := by kernel_rfl
theorem f137_eq (c : Orc) (lf : Nat) (l0_0 : List T) (l1_0 : List T) : funK c env lf 6 fi137 [.st [.sl l0_0], .st [.sl l1_0]] = f137 c lf l0_0 l1_0 := by
  refine (f137_raw c lf l0_0 l1_0).trans ?_
  rfl
/-- loop.example/g00285/laws.eqFault -/
def f150_t (c : Orc) (lf : Nat) (n0_0 : Int) (n0_1 : Int) (n0_2 : Int) (n1_0 : Int) (n1_1 : Int) (n1_2 : Int) : Option (List T) :=
  bif n0_0 != n1_0 then
    some [T.b false]
  else
    bif n0_1 != n1_1 then
      some [T.b false]
    else
      bif n0_2 != n1_2 then
        some [T.b false]
      else
        some [T.b true]
def f150 (c : Orc) (lf : Nat) (n0_0 : Int) (n0_1 : Int) (n0_2 : Int) (n1_0 : Int) (n1_1 : Int) (n1_2 : Int) : Option (List T) := f150_t c lf n0_0 n0_1 n0_2 n1_0 n1_1 n1_2
theorem f150_raw (c : Orc) (lf : Nat) (n0_0 : Int) (n0_1 : Int) (n0_2 : Int) (n1_0 : Int) (n1_1 : Int) (n1_2 : Int) : funK c env lf 6 fi150 [.st [.i .i64 n0_0, .i .i64 n0_1, .i .i64 n0_2], .st [.i .i64 n1_0, .i .i64 n1_1, .i .i64 n1_2]] = f150_t c lf n0_0 n0_1 n0_2 n1_0 n1_1 n1_2 := by kernel_rfl
theorem f150_eq (c : Orc) (lf : Nat) (n0_0 : Int) (n0_1 : Int) (n0_2 : Int) (n1_0 : Int) (n1_1 : Int) (n1_2 : Int) : funK c env lf 6 fi150 [.st [.i .i64 n0_0, .i .i64 n0_1, .i .i64 n0_2], .st [.i .i64 n1_0, .i .i64 n1_1, .i .i64 n1_2]] = f150 c lf n0_0 n0_1 n0_2 n1_0 n1_1 n1_2 := by
  refine (f150_raw c lf n0_0 n0_1 n0_2 n1_0 n1_1 n1_2).trans ?_
  rfl
/-- loop.example/g00285/laws.eqFaultS, the loop at region 4. -/
def f138_0_s (c : Orc) (lf : Nat) (l0 : List T) (l1 : List T) (L : Int → Option (List T)) (x156 : Int) : Option (List T) :=
  bif iLt x156 (l0.length : Int) then
    bif inR x156 l0.length then
    bif inR x156 l1.length then
    (c 150 [T.st [T.i .i64 (asI (T.cell (l0.getD x156.toNat T.u) 0)), T.i .i64 (asI (T.cell (l0.getD x156.toNat T.u) 1)), T.i .i64 (asI (T.cell (l0.getD x156.toNat T.u) 2))], T.st [T.i .i64 (asI (T.cell (l1.getD x156.toNat T.u) 0)), T.i .i64 (asI (T.cell (l1.getD x156.toNat T.u) 1)), T.i .i64 (asI (T.cell (l1.getD x156.toNat T.u) 2))]]).bind fun r157 =>
    bif !(asB (nth r157 0)) then
      some [T.i .i64 0, T.b false]
    else
      L (IntKind.wrap .i64 (x156 + 1))
    else none
    else none
  else
    some [T.i .i64 1]
def f138_0_c (l0 : List T) (l1 : List T) (x156 : Int) : CSt := ⟨[.ro 0 true [.i .i64, .i .i64, .i .i64] l0, .ro 0 true [.i .i64, .i .i64, .i .i64] l1, .i .i64 x156], [.dead, .dead]⟩
theorem f138_0_round (c : Orc) (lf : Nat) (l0 : List T) (l1 : List T) (L : CSt → Option (List T)) (x156 : Int) :
    roundK c env lf 6 fi138 2 4 [] [0, 1, 5] (x138_4_0) L (f138_0_c l0 l1 x156) = f138_0_s c lf l0 l1 (fun x156 => L (f138_0_c l0 l1 x156)) x156 := by kernel_rfl
def f138_0 (c : Orc) (lf : Nat) (l0 : List T) (l1 : List T) : Nat → Int → Option (List T)
  | 0 => fun _ => none
  | n + 1 => fun x156 => f138_0_s c lf l0 l1 (f138_0 c lf l0 l1 n) x156
theorem f138_0_u (c : Orc) (lf : Nat) (l0 : List T) (l1 : List T) (n : Nat) (x156 : Int) : f138_0 c lf l0 l1 (n + 1) x156 = f138_0_s c lf l0 l1 (f138_0 c lf l0 l1 n) x156 := rfl
theorem f138_0_eq (c : Orc) (lf : Nat) (l0 : List T) (l1 : List T) (n : Nat) (x156 : Int) :
    lpK c env lf 6 fi138 2 4 [] [0, 1, 5] (x138_4_0) n (f138_0_c l0 l1 x156) = f138_0 c lf l0 l1 n x156 := by
  induction n generalizing x156 with
  | zero => rfl
  | succ n ih =>
    refine (f138_0_round c lf l0 l1 _ x156).trans ?_
    have e : (fun x156 => lpK c env lf 6 fi138 2 4 [] [0, 1, 5] (x138_4_0) n (f138_0_c l0 l1 x156)) = f138_0 c lf l0 l1 n := by funext x156; exact ih x156
    show f138_0_s c lf l0 l1 (fun x156 => lpK c env lf 6 fi138 2 4 [] [0, 1, 5] (x138_4_0) n (f138_0_c l0 l1 x156)) x156 = _
    rw [e]; rfl
/-- loop.example/g00285/laws.eqFaultS -/
def f138_t (c : Orc) (lf : Nat) (lp0 : List T → List T → Int → Option (List T)) (l0 : List T) (l1 : List T) : Option (List T) :=
  bif (l0.length : Int) != (l1.length : Int) then
    some [T.b false]
  else
    (lp0 l0 l1 0).bind fun r158 =>
    bif asI (nth r158 0) == 0 then
      some [T.b (asB (nth r158 1))]
    else
      some [T.b true]
def f138 (c : Orc) (lf : Nat) (l0 : List T) (l1 : List T) : Option (List T) := f138_t c lf (fun (l0 : List T) (l1 : List T) (x156 : Int) => f138_0 c lf l0 l1 lf x156) l0 l1
theorem f138_raw (c : Orc) (lf : Nat) (l0 : List T) (l1 : List T) : funK c env lf 6 fi138 [.sl l0, .sl l1] = f138_t c lf (fun (l0 : List T) (l1 : List T) (x156 : Int) => lpK c env lf 6 fi138 2 4 [] [0, 1, 5] (x138_4_0) lf (f138_0_c l0 l1 x156)) l0 l1 := by kernel_rfl
theorem f138_eq (c : Orc) (lf : Nat) (l0 : List T) (l1 : List T) : funK c env lf 6 fi138 [.sl l0, .sl l1] = f138 c lf l0 l1 := by
  refine (f138_raw c lf l0 l1).trans ?_
  have e0 : (fun (l0 : List T) (l1 : List T) (x156 : Int) => lpK c env lf 6 fi138 2 4 [] [0, 1, 5] (x138_4_0) lf (f138_0_c l0 l1 x156)) = (fun (l0 : List T) (l1 : List T) (x156 : Int) => f138_0 c lf l0 l1 lf x156) := by funext l0 l1 x156; exact f138_0_eq c lf l0 l1 lf x156
  rw [e0]; rfl
/-- loop.example/g00285/laws.eqDev -/
def f100_t (c : Orc) (lf : Nat) (l0_0 : List T) (n0_1 : Int) (l0_2 : List T) (b0_3 : Bool) (l1_0 : List T) (n1_1 : Int) (l1_2 : List T) (b1_3 : Bool) : Option (List T) :=
  (c 137 [T.st [T.sl l0_0], T.st [T.sl l1_0]]).bind fun r159 =>
  bif !(asB (nth r159 0)) then
    some [T.b false]
  else
    bif n0_1 != n1_1 then
      some [T.b false]
    else
      (c 138 [T.sl l0_2, T.sl l1_2]).bind fun r160 =>
      bif !(asB (nth r160 0)) then
        some [T.b false]
      else
        bif !(b0_3 == b1_3) then
          some [T.b false]
        else
          some [T.b true]
def f100 (c : Orc) (lf : Nat) (l0_0 : List T) (n0_1 : Int) (l0_2 : List T) (b0_3 : Bool) (l1_0 : List T) (n1_1 : Int) (l1_2 : List T) (b1_3 : Bool) : Option (List T) := f100_t c lf l0_0 n0_1 l0_2 b0_3 l1_0 n1_1 l1_2 b1_3
theorem f100_raw (c : Orc) (lf : Nat) (l0_0 : List T) (n0_1 : Int) (l0_2 : List T) (b0_3 : Bool) (l1_0 : List T) (n1_1 : Int) (l1_2 : List T) (b1_3 : Bool) : funK c env lf 6 fi100 [.st [.sl l0_0, .i .i64 n0_1, .sl l0_2, .b b0_3], .st [.sl l1_0, .i .i64 n1_1, .sl l1_2, .b b1_3]] = f100_t c lf l0_0 n0_1 l0_2 b0_3 l1_0 n1_1 l1_2 b1_3 := by kernel_rfl
theorem f100_eq (c : Orc) (lf : Nat) (l0_0 : List T) (n0_1 : Int) (l0_2 : List T) (b0_3 : Bool) (l1_0 : List T) (n1_1 : Int) (l1_2 : List T) (b1_3 : Bool) : funK c env lf 6 fi100 [.st [.sl l0_0, .i .i64 n0_1, .sl l0_2, .b b0_3], .st [.sl l1_0, .i .i64 n1_1, .sl l1_2, .b b1_3]] = f100 c lf l0_0 n0_1 l0_2 b0_3 l1_0 n1_1 l1_2 b1_3 := by
  refine (f100_raw c lf l0_0 n0_1 l0_2 b0_3 l1_0 n1_1 l1_2 b1_3).trans ?_
  rfl
/-- loop.example/g00285/laws.eqLog -/
def f43_t (c : Orc) (lf : Nat) (l0_0 : List T) (n0_1 : Int) (l0_2 : List T) (b0_3 : Bool) (n0_4 : Int) (l1_0 : List T) (n1_1 : Int) (l1_2 : List T) (b1_3 : Bool) (n1_4 : Int) : Option (List T) :=
  (c 100 [T.st [T.sl l0_0, T.i .i64 n0_1, T.sl l0_2, T.b b0_3], T.st [T.sl l1_0, T.i .i64 n1_1, T.sl l1_2, T.b b1_3]]).bind fun r161 =>
  bif !(asB (nth r161 0)) then
    some [T.b false]
  else
    bif n0_4 != n1_4 then
      some [T.b false]
    else
      some [T.b true]
def f43 (c : Orc) (lf : Nat) (l0_0 : List T) (n0_1 : Int) (l0_2 : List T) (b0_3 : Bool) (n0_4 : Int) (l1_0 : List T) (n1_1 : Int) (l1_2 : List T) (b1_3 : Bool) (n1_4 : Int) : Option (List T) := f43_t c lf l0_0 n0_1 l0_2 b0_3 n0_4 l1_0 n1_1 l1_2 b1_3 n1_4
theorem f43_raw (c : Orc) (lf : Nat) (l0_0 : List T) (n0_1 : Int) (l0_2 : List T) (b0_3 : Bool) (n0_4 : Int) (l1_0 : List T) (n1_1 : Int) (l1_2 : List T) (b1_3 : Bool) (n1_4 : Int) : funK c env lf 6 fi43 [.st [.sl l0_0, .i .i64 n0_1, .sl l0_2, .b b0_3, .i .i64 n0_4], .st [.sl l1_0, .i .i64 n1_1, .sl l1_2, .b b1_3, .i .i64 n1_4]] = f43_t c lf l0_0 n0_1 l0_2 b0_3 n0_4 l1_0 n1_1 l1_2 b1_3 n1_4 := by kernel_rfl
theorem f43_eq (c : Orc) (lf : Nat) (l0_0 : List T) (n0_1 : Int) (l0_2 : List T) (b0_3 : Bool) (n0_4 : Int) (l1_0 : List T) (n1_1 : Int) (l1_2 : List T) (b1_3 : Bool) (n1_4 : Int) : funK c env lf 6 fi43 [.st [.sl l0_0, .i .i64 n0_1, .sl l0_2, .b b0_3, .i .i64 n0_4], .st [.sl l1_0, .i .i64 n1_1, .sl l1_2, .b b1_3, .i .i64 n1_4]] = f43 c lf l0_0 n0_1 l0_2 b0_3 n0_4 l1_0 n1_1 l1_2 b1_3 n1_4 := by
  refine (f43_raw c lf l0_0 n0_1 l0_2 b0_3 n0_4 l1_0 n1_1 l1_2 b1_3 n1_4).trans ?_
  rfl
/-- loop.example/g00285/laws.FnExactOpenBlock -/
def f8_t (c : Orc) (lf : Nat) (l0_0 : List T) (n0_1 : Int) (l0_2 : List T) (b0_3 : Bool) (n0_4 : Int) (n1 : Int) : Option (List T) :=
  (c 39 [T.st [T.sl l0_0, T.i .i64 n0_1, T.sl l0_2, T.b b0_3, T.i .i64 n0_4], T.i .i64 1048576]).bind fun r162 =>
  bif iLt (asI (nth r162 0)) 0 then
    some [T.b true]
  else
    (c 41 [T.st [T.sl l0_0, T.i .i64 n0_1, T.sl l0_2, T.b b0_3, T.i .i64 n0_4]]).bind fun r163 =>
    (c 48 [T.st [T.sl (asL (T.cell (nth r163 0) 0)), T.i .i64 (asI (T.cell (nth r163 0) 1)), T.sl (asL (T.cell (nth r163 0) 2)), T.b (asB (T.cell (nth r163 0) 3)), T.i .i64 (asI (T.cell (nth r163 0) 4))], T.i .i64 n1]).bind fun r164 =>
    (c 41 [T.st [T.sl l0_0, T.i .i64 n0_1, T.sl l0_2, T.b b0_3, T.i .i64 n0_4]]).bind fun r165 =>
    (c 49 [T.st [T.sl (asL (T.cell (nth r165 0) 0)), T.i .i64 (asI (T.cell (nth r165 0) 1)), T.sl (asL (T.cell (nth r165 0) 2)), T.b (asB (T.cell (nth r165 0) 3)), T.i .i64 (asI (T.cell (nth r165 0) 4))], T.i .i64 n1]).bind fun r166 =>
    bif (asI (nth r166 0)) != (asI (nth r164 0)) then
      some [T.b false]
    else
      (c 41 [T.st [T.sl l0_0, T.i .i64 n0_1, T.sl l0_2, T.b b0_3, T.i .i64 n0_4]]).bind fun r167 =>
      (c 43 [T.st [T.sl (asL (T.cell (nth r165 0) 0)), T.i .i64 (asI (T.cell (nth r165 0) 1)), T.sl (asL (T.cell (nth r165 0) 2)), T.b (asB (T.cell (nth r165 0) 3)), T.i .i64 (asI (T.cell (nth r165 0) 4))], T.st [T.sl (asL (T.cell (nth r167 0) 0)), T.i .i64 (asI (T.cell (nth r167 0) 1)), T.sl (asL (T.cell (nth r167 0) 2)), T.b (asB (T.cell (nth r167 0) 3)), T.i .i64 (asI (T.cell (nth r167 0) 4))]]).bind fun r168 =>
      bif !(asB (nth r168 0)) then
        some [T.b false]
      else
        some [T.b true]
def f8 (c : Orc) (lf : Nat) (l0_0 : List T) (n0_1 : Int) (l0_2 : List T) (b0_3 : Bool) (n0_4 : Int) (n1 : Int) : Option (List T) := f8_t c lf l0_0 n0_1 l0_2 b0_3 n0_4 n1
theorem f8_raw (c : Orc) (lf : Nat) (l0_0 : List T) (n0_1 : Int) (l0_2 : List T) (b0_3 : Bool) (n0_4 : Int) (n1 : Int) : funK c env lf 6 fi8 [.st [.sl l0_0, .i .i64 n0_1, .sl l0_2, .b b0_3, .i .i64 n0_4], .i .i64 n1] = f8_t c lf l0_0 n0_1 l0_2 b0_3 n0_4 n1 := by kernel_rfl
theorem f8_eq (c : Orc) (lf : Nat) (l0_0 : List T) (n0_1 : Int) (l0_2 : List T) (b0_3 : Bool) (n0_4 : Int) (n1 : Int) : funK c env lf 6 fi8 [.st [.sl l0_0, .i .i64 n0_1, .sl l0_2, .b b0_3, .i .i64 n0_4], .i .i64 n1] = f8 c lf l0_0 n0_1 l0_2 b0_3 n0_4 n1 := by
  refine (f8_raw c lf l0_0 n0_1 l0_2 b0_3 n0_4 n1).trans ?_
  rfl
end Go.Proofs.Ytockabaoaneplaa.T
