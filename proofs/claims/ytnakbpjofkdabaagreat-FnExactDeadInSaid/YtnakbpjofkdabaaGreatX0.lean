/- What functions of the law FnExactDeadIn come to, in trees; no condition. -/
import Derived.Test.YtnakbpjofkdabaaGreatRows
import Derived.Test.YtnakbpjofkdabaaGreatV3
import Derived.KernelRfl
set_option linter.unusedVariables false
set_option linter.constructorNameAsVariable false
set_option linter.unusedSimpArgs false
set_option linter.unnecessarySimpa false
namespace Go.Proofs.YtnakbpjofkdabaaGreat.T
open Go Go.Proofs.YtnakbpjofkdabaaGreatV
def tyTab : List (Nat × Ti) := [
 (3, ⟨false, [.i .i64], .o⟩),
 (4, ⟨false, [.b], .o⟩),
 (5, ⟨false, [.i .u8], .o⟩),
 (9, ⟨false, [.s], .o⟩),
 (22, ⟨false, [.sl true [.i .i64, .s, .b, .i .i64, .sl true [.i .i64, .i .i64, .i .i64, .sl false [.i .u8], .sl true [.s, .i .i64], .sl true [.s, .s]], .i .i64]], .sl 144⟩),
 (24, ⟨true, [.sl true [.i .i64, .s, .b, .i .i64, .sl true [.i .i64, .i .i64, .i .i64, .sl false [.i .u8], .sl true [.s, .i .i64], .sl true [.s, .s]], .i .i64], .i .i64], .st [(0, 22), (1, 3)]⟩),
 (25, ⟨false, [.sl true [.i .i64, .s, .b, .i .i64, .i .i64]], .sl 146⟩),
 (27, ⟨true, [.i .i64, .sl true [.i .i64, .s, .b, .i .i64, .i .i64]], .st [(0, 3), (1, 25)]⟩),
 (28, ⟨false, [.sl true [.i .i64, .sl true [.i .i64, .i .i64]]], .sl 117⟩),
 (30, ⟨true, [.sl true [.i .i64, .s, .b, .i .i64, .sl true [.i .i64, .i .i64, .i .i64, .sl false [.i .u8], .sl true [.s, .i .i64], .sl true [.s, .s]], .i .i64], .i .i64, .i .i64, .sl true [.i .i64, .s, .b, .i .i64, .i .i64], .sl true [.i .i64, .sl true [.i .i64, .i .i64]], .i .i64, .i .i64], .st [(0, 24), (2, 27), (4, 28), (5, 3), (6, 3)]⟩),
 (32, ⟨false, [.sl false [.i .i64]], .sl 3⟩),
 (34, ⟨false, [.sl true [.i .i64, .s, .b, .i .i64, .sl true [.i .i64, .i .i64, .i .i64, .sl false [.i .u8], .sl true [.s, .i .i64], .sl true [.s, .s]], .i .i64]], .sl 152⟩),
 (36, ⟨true, [.sl true [.i .i64, .s, .b, .i .i64, .sl true [.i .i64, .i .i64, .i .i64, .sl false [.i .u8], .sl true [.s, .i .i64], .sl true [.s, .s]], .i .i64], .i .i64], .st [(0, 34), (1, 3)]⟩),
 (37, ⟨false, [.sl true [.i .i64, .s, .b, .i .i64, .i .i64]], .sl 77⟩),
 (39, ⟨true, [.i .i64, .sl true [.i .i64, .s, .b, .i .i64, .i .i64]], .st [(0, 3), (1, 37)]⟩),
 (40, ⟨false, [.sl true [.i .i64, .sl true [.i .i64, .i .i64]]], .sl 80⟩),
 (42, ⟨true, [.sl true [.i .i64, .s, .b, .i .i64, .sl true [.i .i64, .i .i64, .i .i64, .sl false [.i .u8], .sl true [.s, .i .i64], .sl true [.s, .s]], .i .i64], .i .i64, .i .i64, .sl true [.i .i64, .s, .b, .i .i64, .i .i64], .sl true [.i .i64, .sl true [.i .i64, .i .i64]], .i .i64, .i .i64], .st [(0, 36), (2, 39), (4, 40), (5, 3), (6, 3)]⟩),
 (49, ⟨false, [.sl true [.sl true [.b, .sl false [.i .u8]], .i .i64, .b]], .sl 204⟩),
 (51, ⟨true, [.sl true [.sl true [.b, .sl false [.i .u8]], .i .i64, .b]], .st [(0, 49)]⟩),
 (52, ⟨false, [.sl true [.i .i64, .i .i64, .i .i64]], .sl 179⟩),
 (54, ⟨true, [.sl true [.sl true [.b, .sl false [.i .u8]], .i .i64, .b], .i .i64, .sl true [.i .i64, .i .i64, .i .i64], .b], .st [(0, 51), (1, 3), (2, 52), (3, 4)]⟩),
 (56, ⟨true, [.sl true [.sl true [.b, .sl false [.i .u8]], .i .i64, .b], .i .i64, .sl true [.i .i64, .i .i64, .i .i64], .b, .i .i64], .st [(0, 54), (4, 3)]⟩),
 (59, ⟨false, [.sl true [.sl true [.b, .sl false [.i .u8]], .i .i64, .b]], .sl 102⟩),
 (61, ⟨true, [.sl true [.sl true [.b, .sl false [.i .u8]], .i .i64, .b]], .st [(0, 59)]⟩),
 (62, ⟨false, [.sl true [.i .i64, .i .i64, .i .i64]], .sl 177⟩),
 (64, ⟨true, [.sl true [.sl true [.b, .sl false [.i .u8]], .i .i64, .b], .i .i64, .sl true [.i .i64, .i .i64, .i .i64], .b], .st [(0, 61), (1, 3), (2, 62), (3, 4)]⟩),
 (66, ⟨true, [.sl true [.sl true [.b, .sl false [.i .u8]], .i .i64, .b], .i .i64, .sl true [.i .i64, .i .i64, .i .i64], .b, .i .i64], .st [(0, 64), (4, 3)]⟩),
 (77, ⟨true, [.i .i64, .s, .b, .i .i64, .i .i64], .st [(0, 3), (1, 9), (2, 4), (3, 3), (4, 3)]⟩),
 (78, ⟨false, [.sl true [.i .i64, .i .i64]], .sl 82⟩),
 (80, ⟨true, [.i .i64, .sl true [.i .i64, .i .i64]], .st [(0, 3), (1, 78)]⟩),
 (82, ⟨true, [.i .i64, .i .i64], .st [(0, 3), (1, 3)]⟩),
 (87, ⟨false, [.sl false [.sl false [.i .i64]]], .sl 32⟩),
 (92, ⟨false, [.o], .o⟩),
 (100, ⟨false, [.sl true [.b, .sl false [.i .u8]]], .sl 105⟩),
 (102, ⟨true, [.sl true [.b, .sl false [.i .u8]], .i .i64, .b], .st [(0, 100), (1, 3), (2, 4)]⟩),
 (103, ⟨false, [.sl false [.i .u8]], .sl 5⟩),
 (105, ⟨true, [.b, .sl false [.i .u8]], .st [(0, 4), (1, 103)]⟩),
 (115, ⟨false, [.sl true [.i .i64, .i .i64]], .sl 185⟩),
 (117, ⟨true, [.i .i64, .sl true [.i .i64, .i .i64]], .st [(0, 3), (1, 115)]⟩),
 (140, ⟨false, [.sl true [.i .i64, .i .i64, .i .i64, .sl false [.i .u8], .sl true [.s, .i .i64], .sl true [.s, .s]]], .sl 224⟩),
 (142, ⟨true, [.sl true [.i .i64, .i .i64, .i .i64, .sl false [.i .u8], .sl true [.s, .i .i64], .sl true [.s, .s]], .i .i64], .st [(0, 140), (1, 3)]⟩),
 (144, ⟨true, [.i .i64, .s, .b, .i .i64, .sl true [.i .i64, .i .i64, .i .i64, .sl false [.i .u8], .sl true [.s, .i .i64], .sl true [.s, .s]], .i .i64], .st [(0, 3), (1, 9), (2, 4), (3, 3), (4, 142)]⟩),
 (146, ⟨true, [.i .i64, .s, .b, .i .i64, .i .i64], .st [(0, 3), (1, 9), (2, 4), (3, 3), (4, 3)]⟩),
 (148, ⟨false, [.sl true [.i .i64, .i .i64, .i .i64, .sl false [.i .u8], .sl true [.s, .i .i64], .sl true [.s, .s]]], .sl 197⟩),
 (150, ⟨true, [.sl true [.i .i64, .i .i64, .i .i64, .sl false [.i .u8], .sl true [.s, .i .i64], .sl true [.s, .s]], .i .i64], .st [(0, 148), (1, 3)]⟩),
 (152, ⟨true, [.i .i64, .s, .b, .i .i64, .sl true [.i .i64, .i .i64, .i .i64, .sl false [.i .u8], .sl true [.s, .i .i64], .sl true [.s, .s]], .i .i64], .st [(0, 3), (1, 9), (2, 4), (3, 3), (4, 150)]⟩),
 (177, ⟨true, [.i .i64, .i .i64, .i .i64], .st [(0, 3), (1, 3), (2, 3)]⟩),
 (179, ⟨true, [.i .i64, .i .i64, .i .i64], .st [(0, 3), (1, 3), (2, 3)]⟩),
 (185, ⟨true, [.i .i64, .i .i64], .st [(0, 3), (1, 3)]⟩),
 (194, ⟨false, [.sl true [.s, .i .i64]], .sl 214⟩),
 (195, ⟨false, [.sl true [.s, .s]], .sl 216⟩),
 (197, ⟨true, [.i .i64, .i .i64, .i .i64, .sl false [.i .u8], .sl true [.s, .i .i64], .sl true [.s, .s]], .st [(0, 3), (1, 3), (2, 3), (3, 103), (4, 194), (5, 195)]⟩),
 (202, ⟨false, [.sl true [.b, .sl false [.i .u8]]], .sl 228⟩),
 (204, ⟨true, [.sl true [.b, .sl false [.i .u8]], .i .i64, .b], .st [(0, 202), (1, 3), (2, 4)]⟩),
 (214, ⟨true, [.s, .i .i64], .st [(0, 9), (1, 3)]⟩),
 (216, ⟨true, [.s, .s], .st [(0, 9), (1, 9)]⟩),
 (221, ⟨false, [.sl true [.s, .i .i64]], .sl 240⟩),
 (222, ⟨false, [.sl true [.s, .s]], .sl 242⟩),
 (224, ⟨true, [.i .i64, .i .i64, .i .i64, .sl false [.i .u8], .sl true [.s, .i .i64], .sl true [.s, .s]], .st [(0, 3), (1, 3), (2, 3), (3, 103), (4, 221), (5, 222)]⟩),
 (228, ⟨true, [.b, .sl false [.i .u8]], .st [(0, 4), (1, 103)]⟩),
 (240, ⟨true, [.s, .i .i64], .st [(0, 9), (1, 3)]⟩),
 (242, ⟨true, [.s, .s], .st [(0, 9), (1, 9)]⟩)]
noncomputable def fi132 : Fi := ⟨Tryz.f132, [], false, [.ro (.sl false [.i .u8]), .v (.i .i64)], [.v (.i .i64)]⟩
noncomputable def fi129 : Fi := ⟨Tryz.f129, [], false, [.ag [.v (.b), .ro (.sl false [.i .u8])], .v (.i .i64)], [.v (.i .i64)]⟩
def x123_5_0 : List (Ex × List Nat × CSt) := [(.ret, [4], ⟨[.i .i64 0], [.dead, .dead]⟩), ((.ex 0), [1], ⟨[.i .i64 0], [.dead, .dead]⟩)]
noncomputable def fi123 : Fi := ⟨Tryz.f123, [⟨5, [0, 1, 5], [], [(⟨[.ro 0 true [.b, .sl false [.i .u8]] [], .i .i64 0, .i .i64 0], [.dead, .dead]⟩, x123_5_0)]⟩], false, [.ro (.sl true [.b, .sl false [.i .u8]]), .v (.i .i64)], [.v (.i .i64)]⟩
noncomputable def fi116 : Fi := ⟨Tryz.f116, [], false, [.ag [.ro (.sl true [.b, .sl false [.i .u8]]), .v (.i .i64), .v (.b)], .v (.i .i64)], [.v (.i .i64)]⟩
def x97_5_0 : List (Ex × List Nat × CSt) := [(.ret, [4], ⟨[.i .i64 0], [.dead, .dead]⟩), ((.ex 0), [1], ⟨[.i .i64 0], [.dead, .dead]⟩)]
noncomputable def fi97 : Fi := ⟨Tryz.f97, [⟨5, [0, 1, 5], [], [(⟨[.ro 0 true [.sl true [.b, .sl false [.i .u8]], .i .i64, .b] [], .i .i64 0, .i .i64 0], [.dead, .dead]⟩, x97_5_0)]⟩], false, [.ro (.sl true [.sl true [.b, .sl false [.i .u8]], .i .i64, .b]), .v (.i .i64)], [.v (.i .i64)]⟩
noncomputable def fi66 : Fi := ⟨Tryz.f66, [], false, [.ag [.ro (.sl true [.sl true [.b, .sl false [.i .u8]], .i .i64, .b])], .v (.i .i64)], [.v (.i .i64)]⟩
noncomputable def fi67 : Fi := ⟨Tryz.f67, [], false, [.ro (.sl true [.i .i64, .i .i64, .i .i64]), .v (.i .i64)], [.v (.i .i64)]⟩
noncomputable def fi41 : Fi := ⟨Tryz.f41, [], false, [.ag [.ro (.sl true [.sl true [.b, .sl false [.i .u8]], .i .i64, .b]), .v (.i .i64), .ro (.sl true [.i .i64, .i .i64, .i .i64]), .v (.b)], .v (.i .i64)], [.v (.i .i64)]⟩
noncomputable def fi15 : Fi := ⟨Tryz.f15, [], false, [.ag [.ro (.sl true [.sl true [.b, .sl false [.i .u8]], .i .i64, .b]), .v (.i .i64), .ro (.sl true [.i .i64, .i .i64, .i .i64]), .v (.b), .v (.i .i64)], .v (.i .i64)], [.v (.i .i64)]⟩
noncomputable def fi141 : Fi := ⟨Tryz.f141, [], false, [.ag [.v (.s), .v (.i .i64)], .v (.i .i64)], [.v (.i .i64)]⟩
def x133_5_0 : List (Ex × List Nat × CSt) := [(.ret, [4], ⟨[.i .i64 0], [.dead, .dead]⟩), ((.ex 0), [1], ⟨[.i .i64 0], [.dead, .dead]⟩)]
noncomputable def fi133 : Fi := ⟨Tryz.f133, [⟨5, [0, 1, 5], [], [(⟨[.ro 0 true [.s, .i .i64] [], .i .i64 0, .i .i64 0], [.dead, .dead]⟩, x133_5_0)]⟩], false, [.ro (.sl true [.s, .i .i64]), .v (.i .i64)], [.v (.i .i64)]⟩
noncomputable def fi142 : Fi := ⟨Tryz.f142, [], false, [.ag [.v (.s), .v (.s)], .v (.i .i64)], [.v (.i .i64)]⟩
def x134_5_0 : List (Ex × List Nat × CSt) := [(.ret, [4], ⟨[.i .i64 0], [.dead, .dead]⟩), ((.ex 0), [1], ⟨[.i .i64 0], [.dead, .dead]⟩)]
noncomputable def fi134 : Fi := ⟨Tryz.f134, [⟨5, [0, 1, 5], [], [(⟨[.ro 0 true [.s, .s] [], .i .i64 0, .i .i64 0], [.dead, .dead]⟩, x134_5_0)]⟩], false, [.ro (.sl true [.s, .s]), .v (.i .i64)], [.v (.i .i64)]⟩
noncomputable def fi126 : Fi := ⟨Tryz.f126, [], false, [.ag [.v (.i .i64), .v (.i .i64), .v (.i .i64), .ro (.sl false [.i .u8]), .ro (.sl true [.s, .i .i64]), .ro (.sl true [.s, .s])], .v (.i .i64)], [.v (.i .i64)]⟩
def x119_5_0 : List (Ex × List Nat × CSt) := [(.ret, [4], ⟨[.i .i64 0], [.dead, .dead]⟩), ((.ex 0), [1], ⟨[.i .i64 0], [.dead, .dead]⟩)]
noncomputable def fi119 : Fi := ⟨Tryz.f119, [⟨5, [0, 1, 5], [], [(⟨[.ro 0 true [.i .i64, .i .i64, .i .i64, .sl false [.i .u8], .sl true [.s, .i .i64], .sl true [.s, .s]] [], .i .i64 0, .i .i64 0], [.dead, .dead]⟩, x119_5_0)]⟩], false, [.ro (.sl true [.i .i64, .i .i64, .i .i64, .sl false [.i .u8], .sl true [.s, .i .i64], .sl true [.s, .s]]), .v (.i .i64)], [.v (.i .i64)]⟩
noncomputable def fi102 : Fi := ⟨Tryz.f102, [], false, [.ag [.ro (.sl true [.i .i64, .i .i64, .i .i64, .sl false [.i .u8], .sl true [.s, .i .i64], .sl true [.s, .s]]), .v (.i .i64)], .v (.i .i64)], [.v (.i .i64)]⟩
noncomputable def fi75 : Fi := ⟨Tryz.f75, [], false, [.ag [.v (.i .i64), .v (.s), .v (.b), .v (.i .i64), .ro (.sl true [.i .i64, .i .i64, .i .i64, .sl false [.i .u8], .sl true [.s, .i .i64], .sl true [.s, .s]]), .v (.i .i64)], .v (.i .i64)], [.v (.i .i64)]⟩
def x49_5_0 : List (Ex × List Nat × CSt) := [(.ret, [4], ⟨[.i .i64 0], [.dead, .dead]⟩), ((.ex 0), [1], ⟨[.i .i64 0], [.dead, .dead]⟩)]
noncomputable def fi49 : Fi := ⟨Tryz.f49, [⟨5, [0, 1, 5], [], [(⟨[.ro 0 true [.i .i64, .s, .b, .i .i64, .sl true [.i .i64, .i .i64, .i .i64, .sl false [.i .u8], .sl true [.s, .i .i64], .sl true [.s, .s]], .i .i64] [], .i .i64 0, .i .i64 0], [.dead, .dead]⟩, x49_5_0)]⟩], false, [.ro (.sl true [.i .i64, .s, .b, .i .i64, .sl true [.i .i64, .i .i64, .i .i64, .sl false [.i .u8], .sl true [.s, .i .i64], .sl true [.s, .s]], .i .i64]), .v (.i .i64)], [.v (.i .i64)]⟩
noncomputable def fi22 : Fi := ⟨Tryz.f22, [], false, [.ag [.ro (.sl true [.i .i64, .s, .b, .i .i64, .sl true [.i .i64, .i .i64, .i .i64, .sl false [.i .u8], .sl true [.s, .i .i64], .sl true [.s, .s]], .i .i64]), .v (.i .i64)], .v (.i .i64)], [.v (.i .i64)]⟩
noncomputable def fi76 : Fi := ⟨Tryz.f76, [], false, [.ag [.v (.i .i64), .v (.s), .v (.b), .v (.i .i64), .v (.i .i64)], .v (.i .i64)], [.v (.i .i64)]⟩
def x50_5_0 : List (Ex × List Nat × CSt) := [(.ret, [4], ⟨[.i .i64 0], [.dead, .dead]⟩), ((.ex 0), [1], ⟨[.i .i64 0], [.dead, .dead]⟩)]
noncomputable def fi50 : Fi := ⟨Tryz.f50, [⟨5, [0, 1, 5], [], [(⟨[.ro 0 true [.i .i64, .s, .b, .i .i64, .i .i64] [], .i .i64 0, .i .i64 0], [.dead, .dead]⟩, x50_5_0)]⟩], false, [.ro (.sl true [.i .i64, .s, .b, .i .i64, .i .i64]), .v (.i .i64)], [.v (.i .i64)]⟩
noncomputable def fi23 : Fi := ⟨Tryz.f23, [], false, [.ag [.v (.i .i64), .ro (.sl true [.i .i64, .s, .b, .i .i64, .i .i64])], .v (.i .i64)], [.v (.i .i64)]⟩
noncomputable def fi77 : Fi := ⟨Tryz.f77, [], false, [.ro (.sl true [.i .i64, .i .i64]), .v (.i .i64)], [.v (.i .i64)]⟩
noncomputable def fi51 : Fi := ⟨Tryz.f51, [], false, [.ag [.v (.i .i64), .ro (.sl true [.i .i64, .i .i64])], .v (.i .i64)], [.v (.i .i64)]⟩
def x24_5_0 : List (Ex × List Nat × CSt) := [(.ret, [4], ⟨[.i .i64 0], [.dead, .dead]⟩), ((.ex 0), [1], ⟨[.i .i64 0], [.dead, .dead]⟩)]
noncomputable def fi24 : Fi := ⟨Tryz.f24, [⟨5, [0, 1, 5], [], [(⟨[.ro 0 true [.i .i64, .sl true [.i .i64, .i .i64]] [], .i .i64 0, .i .i64 0], [.dead, .dead]⟩, x24_5_0)]⟩], false, [.ro (.sl true [.i .i64, .sl true [.i .i64, .i .i64]]), .v (.i .i64)], [.v (.i .i64)]⟩
noncomputable def fi6 : Fi := ⟨Tryz.f6, [], false, [.ag [.ro (.sl true [.i .i64, .s, .b, .i .i64, .sl true [.i .i64, .i .i64, .i .i64, .sl false [.i .u8], .sl true [.s, .i .i64], .sl true [.s, .s]], .i .i64]), .v (.i .i64), .v (.i .i64), .ro (.sl true [.i .i64, .s, .b, .i .i64, .i .i64]), .ro (.sl true [.i .i64, .sl true [.i .i64, .i .i64]]), .v (.i .i64), .v (.i .i64)], .v (.i .i64)], [.v (.i .i64)]⟩
def x135_3_0 : List (Ex × List Nat × CSt) := [((.ex 0), [3], ⟨[.rf 1 [] 0 none], [.dead, .row false [.i .u8] [] 0 false]⟩)]
noncomputable def fi135 : Fi := ⟨Tryz.f135, [⟨3, [0, 3, 4], [], [(⟨[.ro 0 false [.i .u8] [], .rf 1 [] 0 none, .i .i64 0], [.dead, .row false [.i .u8] [] 0 false]⟩, x135_3_0)]⟩], false, [.ro (.sl false [.i .u8])], [.ow (.sl false [.i .u8])]⟩
noncomputable def fi130 : Fi := ⟨Tryz.f130, [], false, [.ag [.v (.b), .ro (.sl false [.i .u8])]], [.ag [.v (.b), .ow (.sl false [.i .u8])]]⟩
def x124_3_0 : List (Ex × List Nat × CSt) := [((.ex 0), [3], ⟨[.rf 1 [] 0 none], [.dead, .row true [.b, .sl false [.i .u8]] [] 0 false]⟩)]
noncomputable def fi124 : Fi := ⟨Tryz.f124, [⟨3, [0, 3, 4], [], [(⟨[.ro 0 true [.b, .sl false [.i .u8]] [], .rf 1 [] 0 none, .i .i64 0], [.dead, .row true [.b, .sl false [.i .u8]] [] 0 false]⟩, x124_3_0)]⟩], false, [.ro (.sl true [.b, .sl false [.i .u8]])], [.ow (.sl true [.b, .sl false [.i .u8]])]⟩
noncomputable def fi117 : Fi := ⟨Tryz.f117, [], false, [.ag [.ro (.sl true [.b, .sl false [.i .u8]]), .v (.i .i64), .v (.b)]], [.ag [.ow (.sl true [.b, .sl false [.i .u8]]), .v (.i .i64), .v (.b)]]⟩
def x98_3_0 : List (Ex × List Nat × CSt) := [((.ex 0), [3], ⟨[.rf 1 [] 0 none], [.dead, .row true [.sl true [.b, .sl false [.i .u8]], .i .i64, .b] [] 0 false]⟩)]
noncomputable def fi98 : Fi := ⟨Tryz.f98, [⟨3, [0, 3, 4], [], [(⟨[.ro 0 true [.sl true [.b, .sl false [.i .u8]], .i .i64, .b] [], .rf 1 [] 0 none, .i .i64 0], [.dead, .row true [.sl true [.b, .sl false [.i .u8]], .i .i64, .b] [] 0 false]⟩, x98_3_0)]⟩], false, [.ro (.sl true [.sl true [.b, .sl false [.i .u8]], .i .i64, .b])], [.ow (.sl true [.sl true [.b, .sl false [.i .u8]], .i .i64, .b])]⟩
noncomputable def fi68 : Fi := ⟨Tryz.f68, [], false, [.ag [.ro (.sl true [.sl true [.b, .sl false [.i .u8]], .i .i64, .b])]], [.ag [.ow (.sl true [.sl true [.b, .sl false [.i .u8]], .i .i64, .b])]]⟩
noncomputable def fi99 : Fi := ⟨Tryz.f99, [], false, [.ag [.v (.i .i64), .v (.i .i64), .v (.i .i64)]], [.ag [.v (.i .i64), .v (.i .i64), .v (.i .i64)]]⟩
def x69_3_0 : List (Ex × List Nat × CSt) := [((.ex 0), [3], ⟨[.rf 1 [] 0 none], [.dead, .row true [.i .i64, .i .i64, .i .i64] [] 0 false]⟩)]
noncomputable def fi69 : Fi := ⟨Tryz.f69, [⟨3, [0, 3, 4], [], [(⟨[.ro 0 true [.i .i64, .i .i64, .i .i64] [], .rf 1 [] 0 none, .i .i64 0], [.dead, .row true [.i .i64, .i .i64, .i .i64] [] 0 false]⟩, x69_3_0)]⟩], false, [.ro (.sl true [.i .i64, .i .i64, .i .i64])], [.ow (.sl true [.i .i64, .i .i64, .i .i64])]⟩
noncomputable def fi43 : Fi := ⟨Tryz.f43, [], false, [.ag [.ro (.sl true [.sl true [.b, .sl false [.i .u8]], .i .i64, .b]), .v (.i .i64), .ro (.sl true [.i .i64, .i .i64, .i .i64]), .v (.b)]], [.ag [.ow (.sl true [.sl true [.b, .sl false [.i .u8]], .i .i64, .b]), .v (.i .i64), .ow (.sl true [.i .i64, .i .i64, .i .i64]), .v (.b)]]⟩
noncomputable def fi17 : Fi := ⟨Tryz.f17, [], false, [.ag [.ro (.sl true [.sl true [.b, .sl false [.i .u8]], .i .i64, .b]), .v (.i .i64), .ro (.sl true [.i .i64, .i .i64, .i .i64]), .v (.b), .v (.i .i64)]], [.ag [.ow (.sl true [.sl true [.b, .sl false [.i .u8]], .i .i64, .b]), .v (.i .i64), .ow (.sl true [.i .i64, .i .i64, .i .i64]), .v (.b), .v (.i .i64)]]⟩
noncomputable def fi143 : Fi := ⟨Tryz.f143, [], false, [.ag [.v (.s), .v (.i .i64)]], [.ag [.v (.s), .v (.i .i64)]]⟩
def x136_3_0 : List (Ex × List Nat × CSt) := [((.ex 0), [3], ⟨[.rf 1 [] 0 none], [.dead, .row true [.s, .i .i64] [] 0 false]⟩)]
noncomputable def fi136 : Fi := ⟨Tryz.f136, [⟨3, [0, 3, 4], [], [(⟨[.ro 0 true [.s, .i .i64] [], .rf 1 [] 0 none, .i .i64 0], [.dead, .row true [.s, .i .i64] [] 0 false]⟩, x136_3_0)]⟩], false, [.ro (.sl true [.s, .i .i64])], [.ow (.sl true [.s, .i .i64])]⟩
noncomputable def fi144 : Fi := ⟨Tryz.f144, [], false, [.ag [.v (.s), .v (.s)]], [.ag [.v (.s), .v (.s)]]⟩
def x137_3_0 : List (Ex × List Nat × CSt) := [((.ex 0), [3], ⟨[.rf 1 [] 0 none], [.dead, .row true [.s, .s] [] 0 false]⟩)]
noncomputable def fi137 : Fi := ⟨Tryz.f137, [⟨3, [0, 3, 4], [], [(⟨[.ro 0 true [.s, .s] [], .rf 1 [] 0 none, .i .i64 0], [.dead, .row true [.s, .s] [] 0 false]⟩, x137_3_0)]⟩], false, [.ro (.sl true [.s, .s])], [.ow (.sl true [.s, .s])]⟩
noncomputable def fi127 : Fi := ⟨Tryz.f127, [], false, [.ag [.v (.i .i64), .v (.i .i64), .v (.i .i64), .ro (.sl false [.i .u8]), .ro (.sl true [.s, .i .i64]), .ro (.sl true [.s, .s])]], [.ag [.v (.i .i64), .v (.i .i64), .v (.i .i64), .ow (.sl false [.i .u8]), .ow (.sl true [.s, .i .i64]), .ow (.sl true [.s, .s])]]⟩
def x120_3_0 : List (Ex × List Nat × CSt) := [((.ex 0), [3], ⟨[.rf 1 [] 0 none], [.dead, .row true [.i .i64, .i .i64, .i .i64, .sl false [.i .u8], .sl true [.s, .i .i64], .sl true [.s, .s]] [] 0 false]⟩)]
noncomputable def fi120 : Fi := ⟨Tryz.f120, [⟨3, [0, 3, 4], [], [(⟨[.ro 0 true [.i .i64, .i .i64, .i .i64, .sl false [.i .u8], .sl true [.s, .i .i64], .sl true [.s, .s]] [], .rf 1 [] 0 none, .i .i64 0], [.dead, .row true [.i .i64, .i .i64, .i .i64, .sl false [.i .u8], .sl true [.s, .i .i64], .sl true [.s, .s]] [] 0 false]⟩, x120_3_0)]⟩], false, [.ro (.sl true [.i .i64, .i .i64, .i .i64, .sl false [.i .u8], .sl true [.s, .i .i64], .sl true [.s, .s]])], [.ow (.sl true [.i .i64, .i .i64, .i .i64, .sl false [.i .u8], .sl true [.s, .i .i64], .sl true [.s, .s]])]⟩
noncomputable def fi103 : Fi := ⟨Tryz.f103, [], false, [.ag [.ro (.sl true [.i .i64, .i .i64, .i .i64, .sl false [.i .u8], .sl true [.s, .i .i64], .sl true [.s, .s]]), .v (.i .i64)]], [.ag [.ow (.sl true [.i .i64, .i .i64, .i .i64, .sl false [.i .u8], .sl true [.s, .i .i64], .sl true [.s, .s]]), .v (.i .i64)]]⟩
noncomputable def fi78 : Fi := ⟨Tryz.f78, [], false, [.ag [.v (.i .i64), .v (.s), .v (.b), .v (.i .i64), .ro (.sl true [.i .i64, .i .i64, .i .i64, .sl false [.i .u8], .sl true [.s, .i .i64], .sl true [.s, .s]]), .v (.i .i64)]], [.ag [.v (.i .i64), .v (.s), .v (.b), .v (.i .i64), .ow (.sl true [.i .i64, .i .i64, .i .i64, .sl false [.i .u8], .sl true [.s, .i .i64], .sl true [.s, .s]]), .v (.i .i64)]]⟩
def x53_3_0 : List (Ex × List Nat × CSt) := [((.ex 0), [3], ⟨[.rf 1 [] 0 none], [.dead, .row true [.i .i64, .s, .b, .i .i64, .sl true [.i .i64, .i .i64, .i .i64, .sl false [.i .u8], .sl true [.s, .i .i64], .sl true [.s, .s]], .i .i64] [] 0 false]⟩)]
noncomputable def fi53 : Fi := ⟨Tryz.f53, [⟨3, [0, 3, 4], [], [(⟨[.ro 0 true [.i .i64, .s, .b, .i .i64, .sl true [.i .i64, .i .i64, .i .i64, .sl false [.i .u8], .sl true [.s, .i .i64], .sl true [.s, .s]], .i .i64] [], .rf 1 [] 0 none, .i .i64 0], [.dead, .row true [.i .i64, .s, .b, .i .i64, .sl true [.i .i64, .i .i64, .i .i64, .sl false [.i .u8], .sl true [.s, .i .i64], .sl true [.s, .s]], .i .i64] [] 0 false]⟩, x53_3_0)]⟩], false, [.ro (.sl true [.i .i64, .s, .b, .i .i64, .sl true [.i .i64, .i .i64, .i .i64, .sl false [.i .u8], .sl true [.s, .i .i64], .sl true [.s, .s]], .i .i64])], [.ow (.sl true [.i .i64, .s, .b, .i .i64, .sl true [.i .i64, .i .i64, .i .i64, .sl false [.i .u8], .sl true [.s, .i .i64], .sl true [.s, .s]], .i .i64])]⟩
noncomputable def fi26 : Fi := ⟨Tryz.f26, [], false, [.ag [.ro (.sl true [.i .i64, .s, .b, .i .i64, .sl true [.i .i64, .i .i64, .i .i64, .sl false [.i .u8], .sl true [.s, .i .i64], .sl true [.s, .s]], .i .i64]), .v (.i .i64)]], [.ag [.ow (.sl true [.i .i64, .s, .b, .i .i64, .sl true [.i .i64, .i .i64, .i .i64, .sl false [.i .u8], .sl true [.s, .i .i64], .sl true [.s, .s]], .i .i64]), .v (.i .i64)]]⟩
noncomputable def fi79 : Fi := ⟨Tryz.f79, [], false, [.ag [.v (.i .i64), .v (.s), .v (.b), .v (.i .i64), .v (.i .i64)]], [.ag [.v (.i .i64), .v (.s), .v (.b), .v (.i .i64), .v (.i .i64)]]⟩
def x54_3_0 : List (Ex × List Nat × CSt) := [((.ex 0), [3], ⟨[.rf 1 [] 0 none], [.dead, .row true [.i .i64, .s, .b, .i .i64, .i .i64] [] 0 false]⟩)]
noncomputable def fi54 : Fi := ⟨Tryz.f54, [⟨3, [0, 3, 4], [], [(⟨[.ro 0 true [.i .i64, .s, .b, .i .i64, .i .i64] [], .rf 1 [] 0 none, .i .i64 0], [.dead, .row true [.i .i64, .s, .b, .i .i64, .i .i64] [] 0 false]⟩, x54_3_0)]⟩], false, [.ro (.sl true [.i .i64, .s, .b, .i .i64, .i .i64])], [.ow (.sl true [.i .i64, .s, .b, .i .i64, .i .i64])]⟩
noncomputable def fi27 : Fi := ⟨Tryz.f27, [], false, [.ag [.v (.i .i64), .ro (.sl true [.i .i64, .s, .b, .i .i64, .i .i64])]], [.ag [.v (.i .i64), .ow (.sl true [.i .i64, .s, .b, .i .i64, .i .i64])]]⟩
noncomputable def fi104 : Fi := ⟨Tryz.f104, [], false, [.ag [.v (.i .i64), .v (.i .i64)]], [.ag [.v (.i .i64), .v (.i .i64)]]⟩
def x80_3_0 : List (Ex × List Nat × CSt) := [((.ex 0), [3], ⟨[.rf 1 [] 0 none], [.dead, .row true [.i .i64, .i .i64] [] 0 false]⟩)]
noncomputable def fi80 : Fi := ⟨Tryz.f80, [⟨3, [0, 3, 4], [], [(⟨[.ro 0 true [.i .i64, .i .i64] [], .rf 1 [] 0 none, .i .i64 0], [.dead, .row true [.i .i64, .i .i64] [] 0 false]⟩, x80_3_0)]⟩], false, [.ro (.sl true [.i .i64, .i .i64])], [.ow (.sl true [.i .i64, .i .i64])]⟩
noncomputable def fi55 : Fi := ⟨Tryz.f55, [], false, [.ag [.v (.i .i64), .ro (.sl true [.i .i64, .i .i64])]], [.ag [.v (.i .i64), .ow (.sl true [.i .i64, .i .i64])]]⟩
def x28_3_0 : List (Ex × List Nat × CSt) := [((.ex 0), [3], ⟨[.rf 1 [] 0 none], [.dead, .row true [.i .i64, .sl true [.i .i64, .i .i64]] [] 0 false]⟩)]
noncomputable def fi28 : Fi := ⟨Tryz.f28, [⟨3, [0, 3, 4], [], [(⟨[.ro 0 true [.i .i64, .sl true [.i .i64, .i .i64]] [], .rf 1 [] 0 none, .i .i64 0], [.dead, .row true [.i .i64, .sl true [.i .i64, .i .i64]] [] 0 false]⟩, x28_3_0)]⟩], false, [.ro (.sl true [.i .i64, .sl true [.i .i64, .i .i64]])], [.ow (.sl true [.i .i64, .sl true [.i .i64, .i .i64]])]⟩
noncomputable def fi8 : Fi := ⟨Tryz.f8, [], false, [.ag [.ro (.sl true [.i .i64, .s, .b, .i .i64, .sl true [.i .i64, .i .i64, .i .i64, .sl false [.i .u8], .sl true [.s, .i .i64], .sl true [.s, .s]], .i .i64]), .v (.i .i64), .v (.i .i64), .ro (.sl true [.i .i64, .s, .b, .i .i64, .i .i64]), .ro (.sl true [.i .i64, .sl true [.i .i64, .i .i64]]), .v (.i .i64), .v (.i .i64)]], [.ag [.ow (.sl true [.i .i64, .s, .b, .i .i64, .sl true [.i .i64, .i .i64, .i .i64, .sl false [.i .u8], .sl true [.s, .i .i64], .sl true [.s, .s]], .i .i64]), .v (.i .i64), .v (.i .i64), .ow (.sl true [.i .i64, .s, .b, .i .i64, .i .i64]), .ow (.sl true [.i .i64, .sl true [.i .i64, .i .i64]]), .v (.i .i64), .v (.i .i64)]]⟩
def x42_2_0 : List (Ex × List Nat × CSt) := [(.ret, [4], ⟨[.b false], [.dead, .dead]⟩), ((.ex 0), [], ⟨[], [.dead, .dead]⟩)]
noncomputable def fi42 : Fi := ⟨Tryz.f42, [⟨2, [0, 1, 5], [], [(⟨[.ro 0 false [.i .i64] [], .i .i64 0, .i .i64 0], [.dead, .dead]⟩, x42_2_0)]⟩], false, [.ro (.sl false [.i .i64]), .v (.i .i64)], [.v (.b)]⟩
def x52_5_0 : List (Ex × List Nat × CSt) := [((.ex 0), [1, 5, 6], ⟨[.i .i64 0, .rf 2 [] 0 none, .i .i64 0], [.dead, .dead, .row false [.i .i64] [] 0 false]⟩)]
noncomputable def fi52 : Fi := ⟨Tryz.f52, [⟨5, [1, 5, 6], [], [(⟨[.i .i64 0, .rf 2 [] 0 none, .i .i64 0], [.dead, .dead, .row false [.i .i64] [] 0 false]⟩, x52_5_0)]⟩], false, [.ro (.sl false [.i .i64]), .v (.i .i64)], [.ro (.sl false [.i .i64])]⟩
noncomputable def fi25 : Fi := ⟨Tryz.f25, [], false, [.ro (.sl false [.i .i64]), .v (.i .i64)], [.ro (.sl false [.i .i64])]⟩
def x7_3_0 : List (Ex × List Nat × CSt) := [((.ex 0), [1, 3], ⟨[.bp 7 0, .ro 0 false [.i .i64] []], [.dead, .dead, .dead, .dead, .dead, .dead, .dead, .box [.ro 0 true [.i .i64, .s, .b, .i .i64, .sl true [.i .i64, .i .i64, .i .i64, .sl false [.i .u8], .sl true [.s, .i .i64], .sl true [.s, .s]], .i .i64] [], .i .i64 0, .i .i64 0, .ro 0 true [.i .i64, .s, .b, .i .i64, .i .i64] [], .ro 0 true [.i .i64, .sl true [.i .i64, .i .i64]] [], .i .i64 0, .i .i64 0]]⟩)]
def x7_7_0 : List (Ex × List Nat × CSt) := [((.ex 2), [3], ⟨[.ro 0 false [.i .i64] []], [.dead, .dead, .dead, .dead, .dead, .dead, .dead]⟩)]
def x7_10_0 : List (Ex × List Nat × CSt) := [((.ex 4), [1, 3, 5], ⟨[.bp 7 0, .ro 0 false [.i .i64] [], .i .i64 0], [.dead, .dead, .dead, .dead, .dead, .dead, .dead, .box [.ro 0 true [.i .i64, .s, .b, .i .i64, .sl true [.i .i64, .i .i64, .i .i64, .sl false [.i .u8], .sl true [.s, .i .i64], .sl true [.s, .s]], .i .i64] [], .i .i64 0, .i .i64 0, .ro 0 true [.i .i64, .s, .b, .i .i64, .i .i64] [], .ro 0 true [.i .i64, .sl true [.i .i64, .i .i64]] [], .i .i64 0, .i .i64 0]]⟩)]
noncomputable def fi7 : Fi := ⟨Tryz.f7, [⟨3, [1, 3, 4], [], [(⟨[.bp 7 0, .ro 0 false [.i .i64] [], .i .i64 0], [.dead, .dead, .dead, .dead, .dead, .dead, .dead, .box [.ro 0 true [.i .i64, .s, .b, .i .i64, .sl true [.i .i64, .i .i64, .i .i64, .sl false [.i .u8], .sl true [.s, .i .i64], .sl true [.s, .s]], .i .i64] [], .i .i64 0, .i .i64 0, .ro 0 true [.i .i64, .s, .b, .i .i64, .i .i64] [], .ro 0 true [.i .i64, .sl true [.i .i64, .i .i64]] [], .i .i64 0, .i .i64 0]]⟩, x7_3_0)]⟩, ⟨7, [1, 3, 5], [], [(⟨[.bp 7 0, .ro 0 false [.i .i64] [], .i .i64 0], [.dead, .dead, .dead, .dead, .dead, .dead, .dead, .box [.ro 0 true [.i .i64, .s, .b, .i .i64, .sl true [.i .i64, .i .i64, .i .i64, .sl false [.i .u8], .sl true [.s, .i .i64], .sl true [.s, .s]], .i .i64] [], .i .i64 0, .i .i64 0, .ro 0 true [.i .i64, .s, .b, .i .i64, .i .i64] [], .ro 0 true [.i .i64, .sl true [.i .i64, .i .i64]] [], .i .i64 0, .i .i64 0]]⟩, x7_7_0)]⟩, ⟨10, [1, 3, 5, 6], [], [(⟨[.bp 7 0, .ro 0 false [.i .i64] [], .i .i64 0, .i .i64 0], [.dead, .dead, .dead, .dead, .dead, .dead, .dead, .box [.ro 0 true [.i .i64, .s, .b, .i .i64, .sl true [.i .i64, .i .i64, .i .i64, .sl false [.i .u8], .sl true [.s, .i .i64], .sl true [.s, .s]], .i .i64] [], .i .i64 0, .i .i64 0, .ro 0 true [.i .i64, .s, .b, .i .i64, .i .i64] [], .ro 0 true [.i .i64, .sl true [.i .i64, .i .i64]] [], .i .i64 0, .i .i64 0]]⟩, x7_10_0)]⟩], false, [.ag [.ro (.sl true [.i .i64, .s, .b, .i .i64, .sl true [.i .i64, .i .i64, .i .i64, .sl false [.i .u8], .sl true [.s, .i .i64], .sl true [.s, .s]], .i .i64]), .v (.i .i64), .v (.i .i64), .ro (.sl true [.i .i64, .s, .b, .i .i64, .i .i64]), .ro (.sl true [.i .i64, .sl true [.i .i64, .i .i64]]), .v (.i .i64), .v (.i .i64)]], [.ro (.sl false [.i .i64])]⟩
def x16_4_0 : List (Ex × List Nat × CSt) := [((.ex 0), [8], ⟨[.i .i64 0], [.dead, .dead, .dead, .dead, .dead, .dead, .dead, .dead, .dead, .dead, .dead, .dead, .dead]⟩)]
noncomputable def fi16 : Fi := ⟨Tryz.f16, [⟨4, [2, 3, 7, 8, 9], [], [(⟨[.i .i64 0, .bp 13 0, .ro 0 false [.i .i64] [], .i .i64 0, .i .i64 0], [.dead, .dead, .dead, .dead, .dead, .dead, .dead, .dead, .dead, .dead, .dead, .dead, .dead, .box [.ro 0 true [.sl true [.b, .sl false [.i .u8]], .i .i64, .b] [], .i .i64 0, .ro 0 true [.i .i64, .i .i64, .i .i64] [], .b false, .i .i64 0]]⟩, x16_4_0)]⟩], false, [.ag [.ro (.sl true [.sl true [.b, .sl false [.i .u8]], .i .i64, .b]), .v (.i .i64), .ro (.sl true [.i .i64, .i .i64, .i .i64]), .v (.b), .v (.i .i64)], .ag [.ro (.sl true [.i .i64, .s, .b, .i .i64, .sl true [.i .i64, .i .i64, .i .i64, .sl false [.i .u8], .sl true [.s, .i .i64], .sl true [.s, .s]], .i .i64]), .v (.i .i64), .v (.i .i64), .ro (.sl true [.i .i64, .s, .b, .i .i64, .i .i64]), .ro (.sl true [.i .i64, .sl true [.i .i64, .i .i64]]), .v (.i .i64), .v (.i .i64)], .v (.i .i64)], [.v (.i .i64)]⟩
noncomputable def fi70 : Fi := ⟨Tryz.f70, [], false, [.v (.i .i64), .v (.i .i64), .v (.i .i64)], [.v (.b)]⟩
noncomputable def fi44 : Fi := ⟨Tryz.f44, [], false, [.ag [.ro (.sl true [.sl true [.b, .sl false [.i .u8]], .i .i64, .b])], .v (.i .i64)], [.v (.b)]⟩
def x30_3_0 : List (Ex × List Nat × CSt) := [((.ex 0), [1, 3], ⟨[.bp 7 0, .rf 8 [] 0 none], [.dead, .dead, .dead, .dead, .dead, .dead, .dead, .box [.ro 0 true [.i .i64, .s, .b, .i .i64, .sl true [.i .i64, .i .i64, .i .i64, .sl false [.i .u8], .sl true [.s, .i .i64], .sl true [.s, .s]], .i .i64] [], .i .i64 0, .i .i64 0, .ro 0 true [.i .i64, .s, .b, .i .i64, .i .i64] [], .ro 0 true [.i .i64, .sl true [.i .i64, .i .i64]] [], .i .i64 0, .i .i64 0], .row false [.sl false [.i .i64]] [] 0 true]⟩)]
def x30_8_0 : List (Ex × List Nat × CSt) := [((.ex 2), [3], ⟨[.rf 7 [] 0 none], [.dead, .dead, .dead, .dead, .dead, .dead, .dead, .row false [.sl false [.i .i64]] [] 0 true]⟩)]
def x30_11_0 : List (Ex × List Nat × CSt) := [((.ex 4), [3, 41, 42, 43], ⟨[.rf 7 [] 0 none, .ro 0 true [.i .i64, .sl true [.i .i64, .i .i64]] [], .i .i64 0, .i .i64 0], [.dead, .dead, .dead, .dead, .dead, .dead, .dead, .row false [.sl false [.i .i64]] [] 0 true]⟩)]
noncomputable def fi30 : Fi := ⟨Tryz.f30, [⟨3, [1, 3, 21, 22, 23], [(3, 1)], [(⟨[.bp 7 0, .rf 8 [] 0 none, .ro 0 true [.i .i64, .s, .b, .i .i64, .i .i64] [], .i .i64 0, .i .i64 0], [.dead, .dead, .dead, .dead, .dead, .dead, .dead, .box [.ro 0 true [.i .i64, .s, .b, .i .i64, .sl true [.i .i64, .i .i64, .i .i64, .sl false [.i .u8], .sl true [.s, .i .i64], .sl true [.s, .s]], .i .i64] [], .i .i64 0, .i .i64 0, .ro 0 true [.i .i64, .s, .b, .i .i64, .i .i64] [], .ro 0 true [.i .i64, .sl true [.i .i64, .i .i64]] [], .i .i64 0, .i .i64 0], .row false [.sl false [.i .i64]] [] 0 true]⟩, x30_3_0)]⟩, ⟨8, [3, 41, 42, 43], [(3, 1)], [(⟨[.rf 7 [] 0 none, .ro 0 true [.i .i64, .sl true [.i .i64, .i .i64]] [], .i .i64 0, .i .i64 0], [.dead, .dead, .dead, .dead, .dead, .dead, .dead, .row false [.sl false [.i .i64]] [] 0 true]⟩, x30_8_0)]⟩, ⟨11, [3, 6, 41, 42, 43, 49, 50, 51], [(3, 1)], [(⟨[.rf 7 [] 0 none, .i .i64 0, .ro 0 true [.i .i64, .sl true [.i .i64, .i .i64]] [], .i .i64 0, .i .i64 0, .ro 0 true [.i .i64, .i .i64] [], .i .i64 0, .i .i64 0], [.dead, .dead, .dead, .dead, .dead, .dead, .dead, .row false [.sl false [.i .i64]] [] 0 true]⟩, x30_11_0)]⟩], false, [.ag [.ro (.sl true [.i .i64, .s, .b, .i .i64, .sl true [.i .i64, .i .i64, .i .i64, .sl false [.i .u8], .sl true [.s, .i .i64], .sl true [.s, .s]], .i .i64]), .v (.i .i64), .v (.i .i64), .ro (.sl true [.i .i64, .s, .b, .i .i64, .i .i64]), .ro (.sl true [.i .i64, .sl true [.i .i64, .i .i64]]), .v (.i .i64), .v (.i .i64)]], [.ow (.sl false [.sl false [.i .i64]])]⟩
noncomputable def fi56 : Fi := ⟨Tryz.f56, [], true, [], []⟩
def x29_3_0 : List (Ex × List Nat × CSt) := [((.ex 0), [0, 3], ⟨[.ro 0 false [.sl false [.i .i64]] [], .i .i64 0], [.dead]⟩)]
def x29_11_0 : List (Ex × List Nat × CSt) := [((.ex 2), [6], ⟨[.rf 1 [] 0 (some (0, 0))], [.dead, .row false [.i .i64] [] 0 false]⟩)]
noncomputable def fi29 : Fi := ⟨Tryz.f29, [⟨3, [0, 3, 9, 10, 11], [], [(⟨[.ro 0 false [.sl false [.i .i64]] [], .i .i64 0, .ro 0 false [.sl false [.i .i64]] [], .i .i64 0, .i .i64 0], [.dead]⟩, x29_3_0)]⟩, ⟨11, [6, 25, 26, 27], [(6, 2)], [(⟨[.rf 1 [] 0 (some (0, 0)), .ro 0 false [.sl false [.i .i64]] [], .i .i64 0, .i .i64 0], [.dead, .row false [.i .i64] [] 0 false]⟩, x29_11_0)]⟩], false, [.ro (.sl false [.sl false [.i .i64]])], [.ow (.sl false [.i .i64])]⟩
noncomputable def fi31 : Fi := ⟨Tryz.f31, [], false, [.ow (.sl false [.i .i64])], []⟩
def x33_4_0 : List (Ex × List Nat × CSt) := [(.ret, [2], ⟨[.rf 1 [] 0 (some (0, 0))], [.dead, .row false [.i .i64] [] 0 false]⟩), ((.ex 0), [0], ⟨[.rf 1 [] 0 none], [.dead, .row false [.i .i64] [] 0 false]⟩)]
def x33_9_0 : List (Ex × List Nat × CSt) := [((.ex 2), [0, 3], ⟨[.rf 1 [] 0 none, .i .i64 0], [.dead, .row false [.i .i64] [] 0 false]⟩)]
noncomputable def fi33 : Fi := ⟨Tryz.f33, [⟨4, [0, 3], [], [(⟨[.rf 1 [] 0 none, .i .i64 0], [.dead, .row false [.i .i64] [] 0 false]⟩, x33_4_0)]⟩, ⟨9, [0, 3, 4, 5], [], [(⟨[.rf 1 [] 0 none, .i .i64 0, .rf 1 [] 0 (some (0, 0)), .i .i64 0], [.dead, .row false [.i .i64] [] 0 false]⟩, x33_9_0)]⟩], false, [.mv (.sl false [.i .i64])], [.ow (.sl false [.i .i64])]⟩
def x59_2_0 : List (Ex × List Nat × CSt) := [(.ret, [4], ⟨[.i .i64 0], [.row false [.i .i64] [] 0 false]⟩), ((.ex 0), [], ⟨[], [.row false [.i .i64] [] 0 false]⟩)]
noncomputable def fi59 : Fi := ⟨Tryz.f59, [⟨2, [0, 1, 7, 8], [], [(⟨[.rf 0 [] 0 none, .fn 34 [], .i .i64 0, .i .i64 0], [.row false [.i .i64] [] 0 false]⟩, x59_2_0)]⟩], true, [], []⟩
def x32_5_0 : List (Ex × List Nat × CSt) := [((.ex 0), [0, 5], ⟨[.rf 0 [] 0 none, .i .i64 0], [.row false [.i .i64] [] 0 false]⟩)]
noncomputable def fi32 : Fi := ⟨Tryz.f32, [⟨5, [0, 1, 5, 6], [], [(⟨[.rf 0 [] 0 none, .fn 34 [], .i .i64 0, .i .i64 0], [.row false [.i .i64] [] 0 false]⟩, x32_5_0)]⟩], true, [], []⟩
noncomputable def fi34 : Fi := ⟨Tryz.f34, [], false, [.v (.i .i64)], [.v (.b)]⟩
noncomputable def fi9 : Fi := ⟨Tryz.f9, [], false, [.ag [.ro (.sl true [.i .i64, .s, .b, .i .i64, .sl true [.i .i64, .i .i64, .i .i64, .sl false [.i .u8], .sl true [.s, .i .i64], .sl true [.s, .s]], .i .i64]), .v (.i .i64), .v (.i .i64), .ro (.sl true [.i .i64, .s, .b, .i .i64, .i .i64]), .ro (.sl true [.i .i64, .sl true [.i .i64, .i .i64]]), .v (.i .i64), .v (.i .i64)]], [.ow (.sl false [.i .i64])]⟩
def x71_2_0 : List (Ex × List Nat × CSt) := [(.ret, [4], ⟨[.i .i64 0], [.dead, .dead]⟩), ((.ex 0), [], ⟨[], [.dead, .dead]⟩)]
noncomputable def fi71 : Fi := ⟨Tryz.f71, [⟨2, [0, 1, 7, 8], [], [(⟨[.ro 0 false [.i .i64] [], .i .i64 0, .i .i64 0, .i .i64 0], [.dead, .dead]⟩, x71_2_0)]⟩], false, [.ro (.sl false [.i .i64]), .v (.i .i64)], [.v (.i .i64)]⟩
noncomputable def fi45 : Fi := ⟨Tryz.f45, [], false, [.ro (.sl false [.i .i64]), .v (.i .i64)], [.v (.b)]⟩
def x18_6_0 : List (Ex × List Nat × CSt) := [((.ex 0), [8], ⟨[.i .i64 0], [.dead, .dead, .dead, .dead, .dead, .dead, .dead, .dead, .dead, .dead, .dead, .dead, .dead]⟩)]
noncomputable def fi18 : Fi := ⟨Tryz.f18, [⟨6, [2, 7, 8, 26, 27, 28], [], [(⟨[.i .i64 0, .rf 13 [] 0 none, .i .i64 0, .ro 0 true [.b, .sl false [.i .u8]] [], .i .i64 0, .i .i64 0], [.dead, .dead, .dead, .dead, .dead, .dead, .dead, .dead, .dead, .dead, .dead, .dead, .dead, .row false [.i .i64] [] 0 false]⟩, x18_6_0)]⟩], false, [.ag [.ro (.sl true [.sl true [.b, .sl false [.i .u8]], .i .i64, .b]), .v (.i .i64), .ro (.sl true [.i .i64, .i .i64, .i .i64]), .v (.b), .v (.i .i64)], .ag [.ro (.sl true [.i .i64, .s, .b, .i .i64, .sl true [.i .i64, .i .i64, .i .i64, .sl false [.i .u8], .sl true [.s, .i .i64], .sl true [.s, .s]], .i .i64]), .v (.i .i64), .v (.i .i64), .ro (.sl true [.i .i64, .s, .b, .i .i64, .i .i64]), .ro (.sl true [.i .i64, .sl true [.i .i64, .i .i64]]), .v (.i .i64), .v (.i .i64)], .v (.i .i64)], [.v (.i .i64)]⟩
def x138_4_0 : List (Ex × List Nat × CSt) := [(.ret, [4], ⟨[.b false], [.dead, .dead]⟩), ((.ex 0), [], ⟨[], [.dead, .dead]⟩)]
noncomputable def fi138 : Fi := ⟨Tryz.f138, [⟨4, [0, 1, 5], [], [(⟨[.ro 0 false [.i .u8] [], .ro 0 false [.i .u8] [], .i .i64 0], [.dead, .dead]⟩, x138_4_0)]⟩], false, [.ro (.sl false [.i .u8]), .ro (.sl false [.i .u8])], [.v (.b)]⟩
noncomputable def fi131 : Fi := ⟨Tryz.f131, [], false, [.ag [.v (.b), .ro (.sl false [.i .u8])], .ag [.v (.b), .ro (.sl false [.i .u8])]], [.v (.b)]⟩
def x125_4_0 : List (Ex × List Nat × CSt) := [(.ret, [4], ⟨[.b false], [.dead, .dead]⟩), ((.ex 0), [], ⟨[], [.dead, .dead]⟩)]
noncomputable def fi125 : Fi := ⟨Tryz.f125, [⟨4, [0, 1, 5], [], [(⟨[.ro 0 true [.b, .sl false [.i .u8]] [], .ro 0 true [.b, .sl false [.i .u8]] [], .i .i64 0], [.dead, .dead]⟩, x125_4_0)]⟩], false, [.ro (.sl true [.b, .sl false [.i .u8]]), .ro (.sl true [.b, .sl false [.i .u8]])], [.v (.b)]⟩
noncomputable def fi118 : Fi := ⟨Tryz.f118, [], false, [.ag [.ro (.sl true [.b, .sl false [.i .u8]]), .v (.i .i64), .v (.b)], .ag [.ro (.sl true [.b, .sl false [.i .u8]]), .v (.i .i64), .v (.b)]], [.v (.b)]⟩
def x100_4_0 : List (Ex × List Nat × CSt) := [(.ret, [4], ⟨[.b false], [.dead, .dead]⟩), ((.ex 0), [], ⟨[], [.dead, .dead]⟩)]
noncomputable def fi100 : Fi := ⟨Tryz.f100, [⟨4, [0, 1, 5], [], [(⟨[.ro 0 true [.sl true [.b, .sl false [.i .u8]], .i .i64, .b] [], .ro 0 true [.sl true [.b, .sl false [.i .u8]], .i .i64, .b] [], .i .i64 0], [.dead, .dead]⟩, x100_4_0)]⟩], false, [.ro (.sl true [.sl true [.b, .sl false [.i .u8]], .i .i64, .b]), .ro (.sl true [.sl true [.b, .sl false [.i .u8]], .i .i64, .b])], [.v (.b)]⟩
noncomputable def fi72 : Fi := ⟨Tryz.f72, [], false, [.ag [.ro (.sl true [.sl true [.b, .sl false [.i .u8]], .i .i64, .b])], .ag [.ro (.sl true [.sl true [.b, .sl false [.i .u8]], .i .i64, .b])]], [.v (.b)]⟩
noncomputable def fi101 : Fi := ⟨Tryz.f101, [], false, [.ag [.v (.i .i64), .v (.i .i64), .v (.i .i64)], .ag [.v (.i .i64), .v (.i .i64), .v (.i .i64)]], [.v (.b)]⟩
def x73_4_0 : List (Ex × List Nat × CSt) := [(.ret, [4], ⟨[.b false], [.dead, .dead]⟩), ((.ex 0), [], ⟨[], [.dead, .dead]⟩)]
noncomputable def fi73 : Fi := ⟨Tryz.f73, [⟨4, [0, 1, 5], [], [(⟨[.ro 0 true [.i .i64, .i .i64, .i .i64] [], .ro 0 true [.i .i64, .i .i64, .i .i64] [], .i .i64 0], [.dead, .dead]⟩, x73_4_0)]⟩], false, [.ro (.sl true [.i .i64, .i .i64, .i .i64]), .ro (.sl true [.i .i64, .i .i64, .i .i64])], [.v (.b)]⟩
noncomputable def fi46 : Fi := ⟨Tryz.f46, [], false, [.ag [.ro (.sl true [.sl true [.b, .sl false [.i .u8]], .i .i64, .b]), .v (.i .i64), .ro (.sl true [.i .i64, .i .i64, .i .i64]), .v (.b)], .ag [.ro (.sl true [.sl true [.b, .sl false [.i .u8]], .i .i64, .b]), .v (.i .i64), .ro (.sl true [.i .i64, .i .i64, .i .i64]), .v (.b)]], [.v (.b)]⟩
noncomputable def fi19 : Fi := ⟨Tryz.f19, [], false, [.ag [.ro (.sl true [.sl true [.b, .sl false [.i .u8]], .i .i64, .b]), .v (.i .i64), .ro (.sl true [.i .i64, .i .i64, .i .i64]), .v (.b), .v (.i .i64)], .ag [.ro (.sl true [.sl true [.b, .sl false [.i .u8]], .i .i64, .b]), .v (.i .i64), .ro (.sl true [.i .i64, .i .i64, .i .i64]), .v (.b), .v (.i .i64)]], [.v (.b)]⟩
noncomputable def fi145 : Fi := ⟨Tryz.f145, [], false, [.ag [.v (.s), .v (.i .i64)], .ag [.v (.s), .v (.i .i64)]], [.v (.b)]⟩
def x139_4_0 : List (Ex × List Nat × CSt) := [(.ret, [4], ⟨[.b false], [.dead, .dead]⟩), ((.ex 0), [], ⟨[], [.dead, .dead]⟩)]
noncomputable def fi139 : Fi := ⟨Tryz.f139, [⟨4, [0, 1, 5], [], [(⟨[.ro 0 true [.s, .i .i64] [], .ro 0 true [.s, .i .i64] [], .i .i64 0], [.dead, .dead]⟩, x139_4_0)]⟩], false, [.ro (.sl true [.s, .i .i64]), .ro (.sl true [.s, .i .i64])], [.v (.b)]⟩
noncomputable def fi146 : Fi := ⟨Tryz.f146, [], false, [.ag [.v (.s), .v (.s)], .ag [.v (.s), .v (.s)]], [.v (.b)]⟩
def x140_4_0 : List (Ex × List Nat × CSt) := [(.ret, [4], ⟨[.b false], [.dead, .dead]⟩), ((.ex 0), [], ⟨[], [.dead, .dead]⟩)]
noncomputable def fi140 : Fi := ⟨Tryz.f140, [⟨4, [0, 1, 5], [], [(⟨[.ro 0 true [.s, .s] [], .ro 0 true [.s, .s] [], .i .i64 0], [.dead, .dead]⟩, x140_4_0)]⟩], false, [.ro (.sl true [.s, .s]), .ro (.sl true [.s, .s])], [.v (.b)]⟩
noncomputable def fi128 : Fi := ⟨Tryz.f128, [], false, [.ag [.v (.i .i64), .v (.i .i64), .v (.i .i64), .ro (.sl false [.i .u8]), .ro (.sl true [.s, .i .i64]), .ro (.sl true [.s, .s])], .ag [.v (.i .i64), .v (.i .i64), .v (.i .i64), .ro (.sl false [.i .u8]), .ro (.sl true [.s, .i .i64]), .ro (.sl true [.s, .s])]], [.v (.b)]⟩
def x122_4_0 : List (Ex × List Nat × CSt) := [(.ret, [4], ⟨[.b false], [.dead, .dead]⟩), ((.ex 0), [], ⟨[], [.dead, .dead]⟩)]
noncomputable def fi122 : Fi := ⟨Tryz.f122, [⟨4, [0, 1, 5], [], [(⟨[.ro 0 true [.i .i64, .i .i64, .i .i64, .sl false [.i .u8], .sl true [.s, .i .i64], .sl true [.s, .s]] [], .ro 0 true [.i .i64, .i .i64, .i .i64, .sl false [.i .u8], .sl true [.s, .i .i64], .sl true [.s, .s]] [], .i .i64 0], [.dead, .dead]⟩, x122_4_0)]⟩], false, [.ro (.sl true [.i .i64, .i .i64, .i .i64, .sl false [.i .u8], .sl true [.s, .i .i64], .sl true [.s, .s]]), .ro (.sl true [.i .i64, .i .i64, .i .i64, .sl false [.i .u8], .sl true [.s, .i .i64], .sl true [.s, .s]])], [.v (.b)]⟩
noncomputable def fi111 : Fi := ⟨Tryz.f111, [], false, [.ag [.ro (.sl true [.i .i64, .i .i64, .i .i64, .sl false [.i .u8], .sl true [.s, .i .i64], .sl true [.s, .s]]), .v (.i .i64)], .ag [.ro (.sl true [.i .i64, .i .i64, .i .i64, .sl false [.i .u8], .sl true [.s, .i .i64], .sl true [.s, .s]]), .v (.i .i64)]], [.v (.b)]⟩
noncomputable def fi92 : Fi := ⟨Tryz.f92, [], false, [.ag [.v (.i .i64), .v (.s), .v (.b), .v (.i .i64), .ro (.sl true [.i .i64, .i .i64, .i .i64, .sl false [.i .u8], .sl true [.s, .i .i64], .sl true [.s, .s]]), .v (.i .i64)], .ag [.v (.i .i64), .v (.s), .v (.b), .v (.i .i64), .ro (.sl true [.i .i64, .i .i64, .i .i64, .sl false [.i .u8], .sl true [.s, .i .i64], .sl true [.s, .s]]), .v (.i .i64)]], [.v (.b)]⟩
def x60_4_0 : List (Ex × List Nat × CSt) := [(.ret, [4], ⟨[.b false], [.dead, .dead]⟩), ((.ex 0), [], ⟨[], [.dead, .dead]⟩)]
noncomputable def fi60 : Fi := ⟨Tryz.f60, [⟨4, [0, 1, 5], [], [(⟨[.ro 0 true [.i .i64, .s, .b, .i .i64, .sl true [.i .i64, .i .i64, .i .i64, .sl false [.i .u8], .sl true [.s, .i .i64], .sl true [.s, .s]], .i .i64] [], .ro 0 true [.i .i64, .s, .b, .i .i64, .sl true [.i .i64, .i .i64, .i .i64, .sl false [.i .u8], .sl true [.s, .i .i64], .sl true [.s, .s]], .i .i64] [], .i .i64 0], [.dead, .dead]⟩, x60_4_0)]⟩], false, [.ro (.sl true [.i .i64, .s, .b, .i .i64, .sl true [.i .i64, .i .i64, .i .i64, .sl false [.i .u8], .sl true [.s, .i .i64], .sl true [.s, .s]], .i .i64]), .ro (.sl true [.i .i64, .s, .b, .i .i64, .sl true [.i .i64, .i .i64, .i .i64, .sl false [.i .u8], .sl true [.s, .i .i64], .sl true [.s, .s]], .i .i64])], [.v (.b)]⟩
noncomputable def fi35 : Fi := ⟨Tryz.f35, [], false, [.ag [.ro (.sl true [.i .i64, .s, .b, .i .i64, .sl true [.i .i64, .i .i64, .i .i64, .sl false [.i .u8], .sl true [.s, .i .i64], .sl true [.s, .s]], .i .i64]), .v (.i .i64)], .ag [.ro (.sl true [.i .i64, .s, .b, .i .i64, .sl true [.i .i64, .i .i64, .i .i64, .sl false [.i .u8], .sl true [.s, .i .i64], .sl true [.s, .s]], .i .i64]), .v (.i .i64)]], [.v (.b)]⟩
noncomputable def fi93 : Fi := ⟨Tryz.f93, [], false, [.ag [.v (.i .i64), .v (.s), .v (.b), .v (.i .i64), .v (.i .i64)], .ag [.v (.i .i64), .v (.s), .v (.b), .v (.i .i64), .v (.i .i64)]], [.v (.b)]⟩
def x61_4_0 : List (Ex × List Nat × CSt) := [(.ret, [4], ⟨[.b false], [.dead, .dead]⟩), ((.ex 0), [], ⟨[], [.dead, .dead]⟩)]
noncomputable def fi61 : Fi := ⟨Tryz.f61, [⟨4, [0, 1, 5], [], [(⟨[.ro 0 true [.i .i64, .s, .b, .i .i64, .i .i64] [], .ro 0 true [.i .i64, .s, .b, .i .i64, .i .i64] [], .i .i64 0], [.dead, .dead]⟩, x61_4_0)]⟩], false, [.ro (.sl true [.i .i64, .s, .b, .i .i64, .i .i64]), .ro (.sl true [.i .i64, .s, .b, .i .i64, .i .i64])], [.v (.b)]⟩
noncomputable def fi36 : Fi := ⟨Tryz.f36, [], false, [.ag [.v (.i .i64), .ro (.sl true [.i .i64, .s, .b, .i .i64, .i .i64])], .ag [.v (.i .i64), .ro (.sl true [.i .i64, .s, .b, .i .i64, .i .i64])]], [.v (.b)]⟩
noncomputable def fi112 : Fi := ⟨Tryz.f112, [], false, [.ag [.v (.i .i64), .v (.i .i64)], .ag [.v (.i .i64), .v (.i .i64)]], [.v (.b)]⟩
def x94_4_0 : List (Ex × List Nat × CSt) := [(.ret, [4], ⟨[.b false], [.dead, .dead]⟩), ((.ex 0), [], ⟨[], [.dead, .dead]⟩)]
noncomputable def fi94 : Fi := ⟨Tryz.f94, [⟨4, [0, 1, 5], [], [(⟨[.ro 0 true [.i .i64, .i .i64] [], .ro 0 true [.i .i64, .i .i64] [], .i .i64 0], [.dead, .dead]⟩, x94_4_0)]⟩], false, [.ro (.sl true [.i .i64, .i .i64]), .ro (.sl true [.i .i64, .i .i64])], [.v (.b)]⟩
noncomputable def fi62 : Fi := ⟨Tryz.f62, [], false, [.ag [.v (.i .i64), .ro (.sl true [.i .i64, .i .i64])], .ag [.v (.i .i64), .ro (.sl true [.i .i64, .i .i64])]], [.v (.b)]⟩
def x37_4_0 : List (Ex × List Nat × CSt) := [(.ret, [4], ⟨[.b false], [.dead, .dead]⟩), ((.ex 0), [], ⟨[], [.dead, .dead]⟩)]
noncomputable def fi37 : Fi := ⟨Tryz.f37, [⟨4, [0, 1, 5], [], [(⟨[.ro 0 true [.i .i64, .sl true [.i .i64, .i .i64]] [], .ro 0 true [.i .i64, .sl true [.i .i64, .i .i64]] [], .i .i64 0], [.dead, .dead]⟩, x37_4_0)]⟩], false, [.ro (.sl true [.i .i64, .sl true [.i .i64, .i .i64]]), .ro (.sl true [.i .i64, .sl true [.i .i64, .i .i64]])], [.v (.b)]⟩
noncomputable def fi11 : Fi := ⟨Tryz.f11, [], false, [.ag [.ro (.sl true [.i .i64, .s, .b, .i .i64, .sl true [.i .i64, .i .i64, .i .i64, .sl false [.i .u8], .sl true [.s, .i .i64], .sl true [.s, .s]], .i .i64]), .v (.i .i64), .v (.i .i64), .ro (.sl true [.i .i64, .s, .b, .i .i64, .i .i64]), .ro (.sl true [.i .i64, .sl true [.i .i64, .i .i64]]), .v (.i .i64), .v (.i .i64)], .ag [.ro (.sl true [.i .i64, .s, .b, .i .i64, .sl true [.i .i64, .i .i64, .i .i64, .sl false [.i .u8], .sl true [.s, .i .i64], .sl true [.s, .s]], .i .i64]), .v (.i .i64), .v (.i .i64), .ro (.sl true [.i .i64, .s, .b, .i .i64, .i .i64]), .ro (.sl true [.i .i64, .sl true [.i .i64, .i .i64]]), .v (.i .i64), .v (.i .i64)]], [.v (.b)]⟩
noncomputable def fi4 : Fi := ⟨Tryz.f4, [], false, [.ag [.ro (.sl true [.sl true [.b, .sl false [.i .u8]], .i .i64, .b]), .v (.i .i64), .ro (.sl true [.i .i64, .i .i64, .i .i64]), .v (.b), .v (.i .i64)], .ag [.ro (.sl true [.i .i64, .s, .b, .i .i64, .sl true [.i .i64, .i .i64, .i .i64, .sl false [.i .u8], .sl true [.s, .i .i64], .sl true [.s, .s]], .i .i64]), .v (.i .i64), .v (.i .i64), .ro (.sl true [.i .i64, .s, .b, .i .i64, .i .i64]), .ro (.sl true [.i .i64, .sl true [.i .i64, .i .i64]]), .v (.i .i64), .v (.i .i64)], .v (.i .i64)], [.v (.b)]⟩
noncomputable def fiTab : List (Nat × Fi) := [(132, fi132), (129, fi129), (123, fi123), (116, fi116), (97, fi97), (66, fi66), (67, fi67), (41, fi41), (15, fi15), (141, fi141), (133, fi133), (142, fi142), (134, fi134), (126, fi126), (119, fi119), (102, fi102), (75, fi75), (49, fi49), (22, fi22), (76, fi76), (50, fi50), (23, fi23), (77, fi77), (51, fi51), (24, fi24), (6, fi6), (135, fi135), (130, fi130), (124, fi124), (117, fi117), (98, fi98), (68, fi68), (99, fi99), (69, fi69), (43, fi43), (17, fi17), (143, fi143), (136, fi136), (144, fi144), (137, fi137), (127, fi127), (120, fi120), (103, fi103), (78, fi78), (53, fi53), (26, fi26), (79, fi79), (54, fi54), (27, fi27), (104, fi104), (80, fi80), (55, fi55), (28, fi28), (8, fi8), (42, fi42), (52, fi52), (25, fi25), (7, fi7), (16, fi16), (70, fi70), (44, fi44), (30, fi30), (56, fi56), (29, fi29), (31, fi31), (33, fi33), (59, fi59), (32, fi32), (34, fi34), (9, fi9), (71, fi71), (45, fi45), (18, fi18), (138, fi138), (131, fi131), (125, fi125), (118, fi118), (100, fi100), (72, fi72), (101, fi101), (73, fi73), (46, fi46), (19, fi19), (145, fi145), (139, fi139), (146, fi146), (140, fi140), (128, fi128), (122, fi122), (111, fi111), (92, fi92), (60, fi60), (35, fi35), (93, fi93), (61, fi61), (36, fi36), (112, fi112), (94, fi94), (62, fi62), (37, fi37), (11, fi11), (4, fi4)]
def X : Nat → Option (List T → Option (List T)) := lookN [(31, sortF)]
noncomputable def env : Env := ⟨lookN fiTab, lookN tyTab⟩
def f132_t (c : Orc) (lf : Nat) (l0 : List T) (n1 : Int) : Option (List T) :=
 bif iLt (IntKind.wrap .i64 (n1 - (l0.length : Int))) 0 then
  some [T.i .i64 (-1)]
 else
  some [T.i .i64 (IntKind.wrap .i64 (n1 - (l0.length : Int)))]
def f132 (c : Orc) (lf : Nat) (l0 : List T) (n1 : Int) : Option (List T) := f132_t c lf l0 n1
theorem f132_eq (c : Orc) (lf : Nat) (l0 : List T) (n1 : Int) : funK c env lf 6 fi132 [.sl l0, .i .i64 n1] = f132 c lf l0 n1 := by kernel_rfl
def f129_t (c : Orc) (lf : Nat) (b0_0 : Bool) (l0_1 : List T) (n1 : Int) : Option (List T) :=
 (c 132 [T.sl l0_1, T.i .i64 n1]).bind fun r1 =>
 bif iLt (asI (nth r1 0)) 0 then
  some [T.i .i64 (-1)]
 else
  some [T.i .i64 (asI (nth r1 0))]
def f129 (c : Orc) (lf : Nat) (b0_0 : Bool) (l0_1 : List T) (n1 : Int) : Option (List T) := f129_t c lf b0_0 l0_1 n1
theorem f129_eq (c : Orc) (lf : Nat) (b0_0 : Bool) (l0_1 : List T) (n1 : Int) : funK c env lf 6 fi129 [.st [.b b0_0, .sl l0_1], .i .i64 n1] = f129 c lf b0_0 l0_1 n1 := by kernel_rfl
def f123_0_s (c : Orc) (lf : Nat) (l0 : List T) (L : Int → Int → Option (List T)) (x8 x9 : Int) : Option (List T) :=
 bif iLt x9 (l0.length : Int) then
  bif inR x9 l0.length then
  (c 129 [T.st [T.b (asB (T.cell (l0.getD x9.toNat T.u) 0)), T.sl (asL (T.cell (l0.getD x9.toNat T.u) 1))], T.i .i64 x8]).bind fun r10 =>
  bif iLt (asI (nth r10 0)) 0 then
   some [T.i .i64 0, T.i .i64 (-1)]
  else
   L (asI (nth r10 0)) (IntKind.wrap .i64 (x9 + 1))
  else none
 else
  some [T.i .i64 1, T.i .i64 x8]
def f123_0_c (l0 : List T) (x8 x9 : Int) : CSt := ⟨[.ro 0 true [.b, .sl false [.i .u8]] l0, .i .i64 x8, .i .i64 x9], [.dead, .dead]⟩
theorem f123_0_round (c : Orc) (lf : Nat) (l0 : List T) (L : CSt → Option (List T)) (x8 x9 : Int) :
 roundK c env lf 6 fi123 2 5 [] [0, 1, 5] (x123_5_0) L (f123_0_c l0 x8 x9) = f123_0_s c lf l0 (fun x8 x9 => L (f123_0_c l0 x8 x9)) x8 x9 := by kernel_rfl
def f123_0 (c : Orc) (lf : Nat) (l0 : List T) : Nat → Int → Int → Option (List T)
 | 0 => fun _ _ => none
 | n + 1 => fun x8 x9 => f123_0_s c lf l0 (f123_0 c lf l0 n) x8 x9
theorem f123_0_eq (c : Orc) (lf : Nat) (l0 : List T) (n : Nat) (x8 x9 : Int) :
 lpK c env lf 6 fi123 2 5 [] [0, 1, 5] (x123_5_0) n (f123_0_c l0 x8 x9) = f123_0 c lf l0 n x8 x9 := by
 induction n generalizing x8 x9 with
 | zero => rfl
 | succ n ih =>
  refine (f123_0_round c lf l0 _ x8 x9).trans ?_
  have e : (fun x8 x9 => lpK c env lf 6 fi123 2 5 [] [0, 1, 5] (x123_5_0) n (f123_0_c l0 x8 x9)) = f123_0 c lf l0 n := by funext x8 x9; exact ih x8 x9
  show f123_0_s c lf l0 (fun x8 x9 => lpK c env lf 6 fi123 2 5 [] [0, 1, 5] (x123_5_0) n (f123_0_c l0 x8 x9)) x8 x9 = _
  rw [e]; rfl
def f123_t (c : Orc) (lf : Nat) (lp0 : List T → Int → Int → Option (List T)) (l0 : List T) (n1 : Int) : Option (List T) :=
 bif iLt (IntKind.wrap .i64 (n1 - (l0.length : Int))) 0 then
  some [T.i .i64 (-1)]
 else
  (lp0 l0 (IntKind.wrap .i64 (n1 - (l0.length : Int))) 0).bind fun r11 =>
  bif asI (nth r11 0) == 0 then
   some [T.i .i64 (asI (nth r11 1))]
  else
   some [T.i .i64 (asI (nth r11 1))]
def f123 (c : Orc) (lf : Nat) (l0 : List T) (n1 : Int) : Option (List T) := f123_t c lf (fun (l0 : List T) (x8 x9 : Int) => f123_0 c lf l0 lf x8 x9) l0 n1
theorem f123_raw (c : Orc) (lf : Nat) (l0 : List T) (n1 : Int) : funK c env lf 6 fi123 [.sl l0, .i .i64 n1] = f123_t c lf (fun (l0 : List T) (x8 x9 : Int) => lpK c env lf 6 fi123 2 5 [] [0, 1, 5] (x123_5_0) lf (f123_0_c l0 x8 x9)) l0 n1 := by kernel_rfl
theorem f123_eq (c : Orc) (lf : Nat) (l0 : List T) (n1 : Int) : funK c env lf 6 fi123 [.sl l0, .i .i64 n1] = f123 c lf l0 n1 := by
 refine (f123_raw c lf l0 n1).trans ?_
 have e0 : (fun (l0 : List T) (x8 x9 : Int) => lpK c env lf 6 fi123 2 5 [] [0, 1, 5] (x123_5_0) lf (f123_0_c l0 x8 x9)) = (fun (l0 : List T) (x8 x9 : Int) => f123_0 c lf l0 lf x8 x9) := by funext l0 x8 x9; exact f123_0_eq c lf l0 lf x8 x9
 rw [e0]; rfl
def f116_t (c : Orc) (lf : Nat) (l0_0 : List T) (n0_1 : Int) (b0_2 : Bool) (n1 : Int) : Option (List T) :=
 (c 123 [T.sl l0_0, T.i .i64 n1]).bind fun r12 =>
 bif iLt (asI (nth r12 0)) 0 then
  some [T.i .i64 (-1)]
 else
  some [T.i .i64 (asI (nth r12 0))]
def f116 (c : Orc) (lf : Nat) (l0_0 : List T) (n0_1 : Int) (b0_2 : Bool) (n1 : Int) : Option (List T) := f116_t c lf l0_0 n0_1 b0_2 n1
theorem f116_eq (c : Orc) (lf : Nat) (l0_0 : List T) (n0_1 : Int) (b0_2 : Bool) (n1 : Int) : funK c env lf 6 fi116 [.st [.sl l0_0, .i .i64 n0_1, .b b0_2], .i .i64 n1] = f116 c lf l0_0 n0_1 b0_2 n1 := by kernel_rfl
def f97_0_s (c : Orc) (lf : Nat) (l0 : List T) (L : Int → Int → Option (List T)) (x19 x20 : Int) : Option (List T) :=
 bif iLt x20 (l0.length : Int) then
  bif inR x20 l0.length then
  (c 116 [T.st [T.sl (asL (T.cell (l0.getD x20.toNat T.u) 0)), T.i .i64 (asI (T.cell (l0.getD x20.toNat T.u) 1)), T.b (asB (T.cell (l0.getD x20.toNat T.u) 2))], T.i .i64 x19]).bind fun r21 =>
  bif iLt (asI (nth r21 0)) 0 then
   some [T.i .i64 0, T.i .i64 (-1)]
  else
   L (asI (nth r21 0)) (IntKind.wrap .i64 (x20 + 1))
  else none
 else
  some [T.i .i64 1, T.i .i64 x19]
def f97_0_c (l0 : List T) (x19 x20 : Int) : CSt := ⟨[.ro 0 true [.sl true [.b, .sl false [.i .u8]], .i .i64, .b] l0, .i .i64 x19, .i .i64 x20], [.dead, .dead]⟩
theorem f97_0_round (c : Orc) (lf : Nat) (l0 : List T) (L : CSt → Option (List T)) (x19 x20 : Int) :
 roundK c env lf 6 fi97 2 5 [] [0, 1, 5] (x97_5_0) L (f97_0_c l0 x19 x20) = f97_0_s c lf l0 (fun x19 x20 => L (f97_0_c l0 x19 x20)) x19 x20 := by kernel_rfl
def f97_0 (c : Orc) (lf : Nat) (l0 : List T) : Nat → Int → Int → Option (List T)
 | 0 => fun _ _ => none
 | n + 1 => fun x19 x20 => f97_0_s c lf l0 (f97_0 c lf l0 n) x19 x20
theorem f97_0_eq (c : Orc) (lf : Nat) (l0 : List T) (n : Nat) (x19 x20 : Int) :
 lpK c env lf 6 fi97 2 5 [] [0, 1, 5] (x97_5_0) n (f97_0_c l0 x19 x20) = f97_0 c lf l0 n x19 x20 := by
 induction n generalizing x19 x20 with
 | zero => rfl
 | succ n ih =>
  refine (f97_0_round c lf l0 _ x19 x20).trans ?_
  have e : (fun x19 x20 => lpK c env lf 6 fi97 2 5 [] [0, 1, 5] (x97_5_0) n (f97_0_c l0 x19 x20)) = f97_0 c lf l0 n := by funext x19 x20; exact ih x19 x20
  show f97_0_s c lf l0 (fun x19 x20 => lpK c env lf 6 fi97 2 5 [] [0, 1, 5] (x97_5_0) n (f97_0_c l0 x19 x20)) x19 x20 = _
  rw [e]; rfl
def f97_t (c : Orc) (lf : Nat) (lp0 : List T → Int → Int → Option (List T)) (l0 : List T) (n1 : Int) : Option (List T) :=
 bif iLt (IntKind.wrap .i64 (n1 - (l0.length : Int))) 0 then
  some [T.i .i64 (-1)]
 else
  (lp0 l0 (IntKind.wrap .i64 (n1 - (l0.length : Int))) 0).bind fun r22 =>
  bif asI (nth r22 0) == 0 then
   some [T.i .i64 (asI (nth r22 1))]
  else
   some [T.i .i64 (asI (nth r22 1))]
def f97 (c : Orc) (lf : Nat) (l0 : List T) (n1 : Int) : Option (List T) := f97_t c lf (fun (l0 : List T) (x19 x20 : Int) => f97_0 c lf l0 lf x19 x20) l0 n1
theorem f97_raw (c : Orc) (lf : Nat) (l0 : List T) (n1 : Int) : funK c env lf 6 fi97 [.sl l0, .i .i64 n1] = f97_t c lf (fun (l0 : List T) (x19 x20 : Int) => lpK c env lf 6 fi97 2 5 [] [0, 1, 5] (x97_5_0) lf (f97_0_c l0 x19 x20)) l0 n1 := by kernel_rfl
theorem f97_eq (c : Orc) (lf : Nat) (l0 : List T) (n1 : Int) : funK c env lf 6 fi97 [.sl l0, .i .i64 n1] = f97 c lf l0 n1 := by
 refine (f97_raw c lf l0 n1).trans ?_
 have e0 : (fun (l0 : List T) (x19 x20 : Int) => lpK c env lf 6 fi97 2 5 [] [0, 1, 5] (x97_5_0) lf (f97_0_c l0 x19 x20)) = (fun (l0 : List T) (x19 x20 : Int) => f97_0 c lf l0 lf x19 x20) := by funext l0 x19 x20; exact f97_0_eq c lf l0 lf x19 x20
 rw [e0]; rfl
def f66_t (c : Orc) (lf : Nat) (l0_0 : List T) (n1 : Int) : Option (List T) :=
 (c 97 [T.sl l0_0, T.i .i64 n1]).bind fun r23 =>
 bif iLt (asI (nth r23 0)) 0 then
  some [T.i .i64 (-1)]
 else
  some [T.i .i64 (asI (nth r23 0))]
def f66 (c : Orc) (lf : Nat) (l0_0 : List T) (n1 : Int) : Option (List T) := f66_t c lf l0_0 n1
theorem f66_eq (c : Orc) (lf : Nat) (l0_0 : List T) (n1 : Int) : funK c env lf 6 fi66 [.st [.sl l0_0], .i .i64 n1] = f66 c lf l0_0 n1 := by kernel_rfl
def f67_t (c : Orc) (lf : Nat) (l0 : List T) (n1 : Int) : Option (List T) :=
 bif iLt (IntKind.wrap .i64 (n1 - (l0.length : Int))) 0 then
  some [T.i .i64 (-1)]
 else
  some [T.i .i64 (IntKind.wrap .i64 (n1 - (l0.length : Int)))]
def f67 (c : Orc) (lf : Nat) (l0 : List T) (n1 : Int) : Option (List T) := f67_t c lf l0 n1
theorem f67_eq (c : Orc) (lf : Nat) (l0 : List T) (n1 : Int) : funK c env lf 6 fi67 [.sl l0, .i .i64 n1] = f67 c lf l0 n1 := by kernel_rfl
def f41_t (c : Orc) (lf : Nat) (l0_0 : List T) (n0_1 : Int) (l0_2 : List T) (b0_3 : Bool) (n1 : Int) : Option (List T) :=
 (c 66 [T.st [T.sl l0_0], T.i .i64 n1]).bind fun r24 =>
 bif iLt (asI (nth r24 0)) 0 then
  some [T.i .i64 (-1)]
 else
  (c 67 [T.sl l0_2, T.i .i64 (asI (nth r24 0))]).bind fun r25 =>
  bif iLt (asI (nth r25 0)) 0 then
   some [T.i .i64 (-1)]
  else
   some [T.i .i64 (asI (nth r25 0))]
def f41 (c : Orc) (lf : Nat) (l0_0 : List T) (n0_1 : Int) (l0_2 : List T) (b0_3 : Bool) (n1 : Int) : Option (List T) := f41_t c lf l0_0 n0_1 l0_2 b0_3 n1
theorem f41_eq (c : Orc) (lf : Nat) (l0_0 : List T) (n0_1 : Int) (l0_2 : List T) (b0_3 : Bool) (n1 : Int) : funK c env lf 6 fi41 [.st [.sl l0_0, .i .i64 n0_1, .sl l0_2, .b b0_3], .i .i64 n1] = f41 c lf l0_0 n0_1 l0_2 b0_3 n1 := by kernel_rfl
def f15_t (c : Orc) (lf : Nat) (l0_0 : List T) (n0_1 : Int) (l0_2 : List T) (b0_3 : Bool) (n0_4 n1 : Int) : Option (List T) :=
 (c 41 [T.st [T.sl l0_0, T.i .i64 n0_1, T.sl l0_2, T.b b0_3], T.i .i64 n1]).bind fun r26 =>
 bif iLt (asI (nth r26 0)) 0 then
  some [T.i .i64 (-1)]
 else
  some [T.i .i64 (asI (nth r26 0))]
def f15 (c : Orc) (lf : Nat) (l0_0 : List T) (n0_1 : Int) (l0_2 : List T) (b0_3 : Bool) (n0_4 n1 : Int) : Option (List T) := f15_t c lf l0_0 n0_1 l0_2 b0_3 n0_4 n1
theorem f15_eq (c : Orc) (lf : Nat) (l0_0 : List T) (n0_1 : Int) (l0_2 : List T) (b0_3 : Bool) (n0_4 n1 : Int) : funK c env lf 6 fi15 [.st [.sl l0_0, .i .i64 n0_1, .sl l0_2, .b b0_3, .i .i64 n0_4], .i .i64 n1] = f15 c lf l0_0 n0_1 l0_2 b0_3 n0_4 n1 := by kernel_rfl
def f141_t (c : Orc) (lf : Nat) (s0_0 : ByteArray) (n0_1 n1 : Int) : Option (List T) :=
 bif iLt (IntKind.wrap .i64 (n1 - (s0_0.size : Int))) 0 then
  some [T.i .i64 (-1)]
 else
  some [T.i .i64 (IntKind.wrap .i64 (n1 - (s0_0.size : Int)))]
def f141 (c : Orc) (lf : Nat) (s0_0 : ByteArray) (n0_1 n1 : Int) : Option (List T) := f141_t c lf s0_0 n0_1 n1
theorem f141_eq (c : Orc) (lf : Nat) (s0_0 : ByteArray) (n0_1 n1 : Int) : funK c env lf 6 fi141 [.st [.s s0_0, .i .i64 n0_1], .i .i64 n1] = f141 c lf s0_0 n0_1 n1 := by kernel_rfl
def f133_0_s (c : Orc) (lf : Nat) (l0 : List T) (L : Int → Int → Option (List T)) (x33 x34 : Int) : Option (List T) :=
 bif iLt x34 (l0.length : Int) then
  bif inR x34 l0.length then
  (c 141 [T.st [T.s (asS (T.cell (l0.getD x34.toNat T.u) 0)), T.i .i64 (asI (T.cell (l0.getD x34.toNat T.u) 1))], T.i .i64 x33]).bind fun r35 =>
  bif iLt (asI (nth r35 0)) 0 then
   some [T.i .i64 0, T.i .i64 (-1)]
  else
   L (asI (nth r35 0)) (IntKind.wrap .i64 (x34 + 1))
  else none
 else
  some [T.i .i64 1, T.i .i64 x33]
def f133_0_c (l0 : List T) (x33 x34 : Int) : CSt := ⟨[.ro 0 true [.s, .i .i64] l0, .i .i64 x33, .i .i64 x34], [.dead, .dead]⟩
theorem f133_0_round (c : Orc) (lf : Nat) (l0 : List T) (L : CSt → Option (List T)) (x33 x34 : Int) :
 roundK c env lf 6 fi133 2 5 [] [0, 1, 5] (x133_5_0) L (f133_0_c l0 x33 x34) = f133_0_s c lf l0 (fun x33 x34 => L (f133_0_c l0 x33 x34)) x33 x34 := by kernel_rfl
def f133_0 (c : Orc) (lf : Nat) (l0 : List T) : Nat → Int → Int → Option (List T)
 | 0 => fun _ _ => none
 | n + 1 => fun x33 x34 => f133_0_s c lf l0 (f133_0 c lf l0 n) x33 x34
theorem f133_0_eq (c : Orc) (lf : Nat) (l0 : List T) (n : Nat) (x33 x34 : Int) :
 lpK c env lf 6 fi133 2 5 [] [0, 1, 5] (x133_5_0) n (f133_0_c l0 x33 x34) = f133_0 c lf l0 n x33 x34 := by
 induction n generalizing x33 x34 with
 | zero => rfl
 | succ n ih =>
  refine (f133_0_round c lf l0 _ x33 x34).trans ?_
  have e : (fun x33 x34 => lpK c env lf 6 fi133 2 5 [] [0, 1, 5] (x133_5_0) n (f133_0_c l0 x33 x34)) = f133_0 c lf l0 n := by funext x33 x34; exact ih x33 x34
  show f133_0_s c lf l0 (fun x33 x34 => lpK c env lf 6 fi133 2 5 [] [0, 1, 5] (x133_5_0) n (f133_0_c l0 x33 x34)) x33 x34 = _
  rw [e]; rfl
def f133_t (c : Orc) (lf : Nat) (lp0 : List T → Int → Int → Option (List T)) (l0 : List T) (n1 : Int) : Option (List T) :=
 bif iLt (IntKind.wrap .i64 (n1 - (l0.length : Int))) 0 then
  some [T.i .i64 (-1)]
 else
  (lp0 l0 (IntKind.wrap .i64 (n1 - (l0.length : Int))) 0).bind fun r36 =>
  bif asI (nth r36 0) == 0 then
   some [T.i .i64 (asI (nth r36 1))]
  else
   some [T.i .i64 (asI (nth r36 1))]
def f133 (c : Orc) (lf : Nat) (l0 : List T) (n1 : Int) : Option (List T) := f133_t c lf (fun (l0 : List T) (x33 x34 : Int) => f133_0 c lf l0 lf x33 x34) l0 n1
theorem f133_raw (c : Orc) (lf : Nat) (l0 : List T) (n1 : Int) : funK c env lf 6 fi133 [.sl l0, .i .i64 n1] = f133_t c lf (fun (l0 : List T) (x33 x34 : Int) => lpK c env lf 6 fi133 2 5 [] [0, 1, 5] (x133_5_0) lf (f133_0_c l0 x33 x34)) l0 n1 := by kernel_rfl
theorem f133_eq (c : Orc) (lf : Nat) (l0 : List T) (n1 : Int) : funK c env lf 6 fi133 [.sl l0, .i .i64 n1] = f133 c lf l0 n1 := by
 refine (f133_raw c lf l0 n1).trans ?_
 have e0 : (fun (l0 : List T) (x33 x34 : Int) => lpK c env lf 6 fi133 2 5 [] [0, 1, 5] (x133_5_0) lf (f133_0_c l0 x33 x34)) = (fun (l0 : List T) (x33 x34 : Int) => f133_0 c lf l0 lf x33 x34) := by funext l0 x33 x34; exact f133_0_eq c lf l0 lf x33 x34
 rw [e0]; rfl
def f142_t (c : Orc) (lf : Nat) (s0_0 s0_1 : ByteArray) (n1 : Int) : Option (List T) :=
 bif iLt (IntKind.wrap .i64 (n1 - (s0_0.size : Int))) 0 then
  some [T.i .i64 (-1)]
 else
  bif iLt (IntKind.wrap .i64 ((IntKind.wrap .i64 (n1 - (s0_0.size : Int))) - (s0_1.size : Int))) 0 then
   some [T.i .i64 (-1)]
  else
   some [T.i .i64 (IntKind.wrap .i64 ((IntKind.wrap .i64 (n1 - (s0_0.size : Int))) - (s0_1.size : Int)))]
def f142 (c : Orc) (lf : Nat) (s0_0 s0_1 : ByteArray) (n1 : Int) : Option (List T) := f142_t c lf s0_0 s0_1 n1
theorem f142_eq (c : Orc) (lf : Nat) (s0_0 s0_1 : ByteArray) (n1 : Int) : funK c env lf 6 fi142 [.st [.s s0_0, .s s0_1], .i .i64 n1] = f142 c lf s0_0 s0_1 n1 := by kernel_rfl
def f134_0_s (c : Orc) (lf : Nat) (l0 : List T) (L : Int → Int → Option (List T)) (x43 x44 : Int) : Option (List T) :=
 bif iLt x44 (l0.length : Int) then
  bif inR x44 l0.length then
  (c 142 [T.st [T.s (asS (T.cell (l0.getD x44.toNat T.u) 0)), T.s (asS (T.cell (l0.getD x44.toNat T.u) 1))], T.i .i64 x43]).bind fun r45 =>
  bif iLt (asI (nth r45 0)) 0 then
   some [T.i .i64 0, T.i .i64 (-1)]
  else
   L (asI (nth r45 0)) (IntKind.wrap .i64 (x44 + 1))
  else none
 else
  some [T.i .i64 1, T.i .i64 x43]
def f134_0_c (l0 : List T) (x43 x44 : Int) : CSt := ⟨[.ro 0 true [.s, .s] l0, .i .i64 x43, .i .i64 x44], [.dead, .dead]⟩
theorem f134_0_round (c : Orc) (lf : Nat) (l0 : List T) (L : CSt → Option (List T)) (x43 x44 : Int) :
 roundK c env lf 6 fi134 2 5 [] [0, 1, 5] (x134_5_0) L (f134_0_c l0 x43 x44) = f134_0_s c lf l0 (fun x43 x44 => L (f134_0_c l0 x43 x44)) x43 x44 := by kernel_rfl
def f134_0 (c : Orc) (lf : Nat) (l0 : List T) : Nat → Int → Int → Option (List T)
 | 0 => fun _ _ => none
 | n + 1 => fun x43 x44 => f134_0_s c lf l0 (f134_0 c lf l0 n) x43 x44
theorem f134_0_eq (c : Orc) (lf : Nat) (l0 : List T) (n : Nat) (x43 x44 : Int) :
 lpK c env lf 6 fi134 2 5 [] [0, 1, 5] (x134_5_0) n (f134_0_c l0 x43 x44) = f134_0 c lf l0 n x43 x44 := by
 induction n generalizing x43 x44 with
 | zero => rfl
 | succ n ih =>
  refine (f134_0_round c lf l0 _ x43 x44).trans ?_
  have e : (fun x43 x44 => lpK c env lf 6 fi134 2 5 [] [0, 1, 5] (x134_5_0) n (f134_0_c l0 x43 x44)) = f134_0 c lf l0 n := by funext x43 x44; exact ih x43 x44
  show f134_0_s c lf l0 (fun x43 x44 => lpK c env lf 6 fi134 2 5 [] [0, 1, 5] (x134_5_0) n (f134_0_c l0 x43 x44)) x43 x44 = _
  rw [e]; rfl
def f134_t (c : Orc) (lf : Nat) (lp0 : List T → Int → Int → Option (List T)) (l0 : List T) (n1 : Int) : Option (List T) :=
 bif iLt (IntKind.wrap .i64 (n1 - (l0.length : Int))) 0 then
  some [T.i .i64 (-1)]
 else
  (lp0 l0 (IntKind.wrap .i64 (n1 - (l0.length : Int))) 0).bind fun r46 =>
  bif asI (nth r46 0) == 0 then
   some [T.i .i64 (asI (nth r46 1))]
  else
   some [T.i .i64 (asI (nth r46 1))]
def f134 (c : Orc) (lf : Nat) (l0 : List T) (n1 : Int) : Option (List T) := f134_t c lf (fun (l0 : List T) (x43 x44 : Int) => f134_0 c lf l0 lf x43 x44) l0 n1
theorem f134_raw (c : Orc) (lf : Nat) (l0 : List T) (n1 : Int) : funK c env lf 6 fi134 [.sl l0, .i .i64 n1] = f134_t c lf (fun (l0 : List T) (x43 x44 : Int) => lpK c env lf 6 fi134 2 5 [] [0, 1, 5] (x134_5_0) lf (f134_0_c l0 x43 x44)) l0 n1 := by kernel_rfl
theorem f134_eq (c : Orc) (lf : Nat) (l0 : List T) (n1 : Int) : funK c env lf 6 fi134 [.sl l0, .i .i64 n1] = f134 c lf l0 n1 := by
 refine (f134_raw c lf l0 n1).trans ?_
 have e0 : (fun (l0 : List T) (x43 x44 : Int) => lpK c env lf 6 fi134 2 5 [] [0, 1, 5] (x134_5_0) lf (f134_0_c l0 x43 x44)) = (fun (l0 : List T) (x43 x44 : Int) => f134_0 c lf l0 lf x43 x44) := by funext l0 x43 x44; exact f134_0_eq c lf l0 lf x43 x44
 rw [e0]; rfl
def f126_t (c : Orc) (lf : Nat) (n0_0 n0_1 n0_2 : Int) (l0_3 l0_4 l0_5 : List T) (n1 : Int) : Option (List T) :=
 (c 132 [T.sl l0_3, T.i .i64 n1]).bind fun r47 =>
 bif iLt (asI (nth r47 0)) 0 then
  some [T.i .i64 (-1)]
 else
  (c 133 [T.sl l0_4, T.i .i64 (asI (nth r47 0))]).bind fun r48 =>
  bif iLt (asI (nth r48 0)) 0 then
   some [T.i .i64 (-1)]
  else
   (c 134 [T.sl l0_5, T.i .i64 (asI (nth r48 0))]).bind fun r49 =>
   bif iLt (asI (nth r49 0)) 0 then
    some [T.i .i64 (-1)]
   else
    some [T.i .i64 (asI (nth r49 0))]
def f126 (c : Orc) (lf : Nat) (n0_0 n0_1 n0_2 : Int) (l0_3 l0_4 l0_5 : List T) (n1 : Int) : Option (List T) := f126_t c lf n0_0 n0_1 n0_2 l0_3 l0_4 l0_5 n1
theorem f126_eq (c : Orc) (lf : Nat) (n0_0 n0_1 n0_2 : Int) (l0_3 l0_4 l0_5 : List T) (n1 : Int) : funK c env lf 6 fi126 [.st [.i .i64 n0_0, .i .i64 n0_1, .i .i64 n0_2, .sl l0_3, .sl l0_4, .sl l0_5], .i .i64 n1] = f126 c lf n0_0 n0_1 n0_2 l0_3 l0_4 l0_5 n1 := by kernel_rfl
def f119_0_s (c : Orc) (lf : Nat) (l0 : List T) (L : Int → Int → Option (List T)) (x56 x57 : Int) : Option (List T) :=
 bif iLt x57 (l0.length : Int) then
  bif inR x57 l0.length then
  (c 126 [T.st [T.i .i64 (asI (T.cell (l0.getD x57.toNat T.u) 0)), T.i .i64 (asI (T.cell (l0.getD x57.toNat T.u) 1)), T.i .i64 (asI (T.cell (l0.getD x57.toNat T.u) 2)), T.sl (asL (T.cell (l0.getD x57.toNat T.u) 3)), T.sl (asL (T.cell (l0.getD x57.toNat T.u) 4)), T.sl (asL (T.cell (l0.getD x57.toNat T.u) 5))], T.i .i64 x56]).bind fun r58 =>
  bif iLt (asI (nth r58 0)) 0 then
   some [T.i .i64 0, T.i .i64 (-1)]
  else
   L (asI (nth r58 0)) (IntKind.wrap .i64 (x57 + 1))
  else none
 else
  some [T.i .i64 1, T.i .i64 x56]
def f119_0_c (l0 : List T) (x56 x57 : Int) : CSt := ⟨[.ro 0 true [.i .i64, .i .i64, .i .i64, .sl false [.i .u8], .sl true [.s, .i .i64], .sl true [.s, .s]] l0, .i .i64 x56, .i .i64 x57], [.dead, .dead]⟩
theorem f119_0_round (c : Orc) (lf : Nat) (l0 : List T) (L : CSt → Option (List T)) (x56 x57 : Int) :
 roundK c env lf 6 fi119 2 5 [] [0, 1, 5] (x119_5_0) L (f119_0_c l0 x56 x57) = f119_0_s c lf l0 (fun x56 x57 => L (f119_0_c l0 x56 x57)) x56 x57 := by kernel_rfl
def f119_0 (c : Orc) (lf : Nat) (l0 : List T) : Nat → Int → Int → Option (List T)
 | 0 => fun _ _ => none
 | n + 1 => fun x56 x57 => f119_0_s c lf l0 (f119_0 c lf l0 n) x56 x57
theorem f119_0_eq (c : Orc) (lf : Nat) (l0 : List T) (n : Nat) (x56 x57 : Int) :
 lpK c env lf 6 fi119 2 5 [] [0, 1, 5] (x119_5_0) n (f119_0_c l0 x56 x57) = f119_0 c lf l0 n x56 x57 := by
 induction n generalizing x56 x57 with
 | zero => rfl
 | succ n ih =>
  refine (f119_0_round c lf l0 _ x56 x57).trans ?_
  have e : (fun x56 x57 => lpK c env lf 6 fi119 2 5 [] [0, 1, 5] (x119_5_0) n (f119_0_c l0 x56 x57)) = f119_0 c lf l0 n := by funext x56 x57; exact ih x56 x57
  show f119_0_s c lf l0 (fun x56 x57 => lpK c env lf 6 fi119 2 5 [] [0, 1, 5] (x119_5_0) n (f119_0_c l0 x56 x57)) x56 x57 = _
  rw [e]; rfl
def f119_t (c : Orc) (lf : Nat) (lp0 : List T → Int → Int → Option (List T)) (l0 : List T) (n1 : Int) : Option (List T) :=
 bif iLt (IntKind.wrap .i64 (n1 - (l0.length : Int))) 0 then
  some [T.i .i64 (-1)]
 else
  (lp0 l0 (IntKind.wrap .i64 (n1 - (l0.length : Int))) 0).bind fun r59 =>
  bif asI (nth r59 0) == 0 then
   some [T.i .i64 (asI (nth r59 1))]
  else
   some [T.i .i64 (asI (nth r59 1))]
def f119 (c : Orc) (lf : Nat) (l0 : List T) (n1 : Int) : Option (List T) := f119_t c lf (fun (l0 : List T) (x56 x57 : Int) => f119_0 c lf l0 lf x56 x57) l0 n1
theorem f119_raw (c : Orc) (lf : Nat) (l0 : List T) (n1 : Int) : funK c env lf 6 fi119 [.sl l0, .i .i64 n1] = f119_t c lf (fun (l0 : List T) (x56 x57 : Int) => lpK c env lf 6 fi119 2 5 [] [0, 1, 5] (x119_5_0) lf (f119_0_c l0 x56 x57)) l0 n1 := by kernel_rfl
theorem f119_eq (c : Orc) (lf : Nat) (l0 : List T) (n1 : Int) : funK c env lf 6 fi119 [.sl l0, .i .i64 n1] = f119 c lf l0 n1 := by
 refine (f119_raw c lf l0 n1).trans ?_
 have e0 : (fun (l0 : List T) (x56 x57 : Int) => lpK c env lf 6 fi119 2 5 [] [0, 1, 5] (x119_5_0) lf (f119_0_c l0 x56 x57)) = (fun (l0 : List T) (x56 x57 : Int) => f119_0 c lf l0 lf x56 x57) := by funext l0 x56 x57; exact f119_0_eq c lf l0 lf x56 x57
 rw [e0]; rfl
def f102_t (c : Orc) (lf : Nat) (l0_0 : List T) (n0_1 n1 : Int) : Option (List T) :=
 (c 119 [T.sl l0_0, T.i .i64 n1]).bind fun r60 =>
 bif iLt (asI (nth r60 0)) 0 then
  some [T.i .i64 (-1)]
 else
  some [T.i .i64 (asI (nth r60 0))]
def f102 (c : Orc) (lf : Nat) (l0_0 : List T) (n0_1 n1 : Int) : Option (List T) := f102_t c lf l0_0 n0_1 n1
theorem f102_eq (c : Orc) (lf : Nat) (l0_0 : List T) (n0_1 n1 : Int) : funK c env lf 6 fi102 [.st [.sl l0_0, .i .i64 n0_1], .i .i64 n1] = f102 c lf l0_0 n0_1 n1 := by kernel_rfl
def f75_t (c : Orc) (lf : Nat) (n0_0 : Int) (s0_1 : ByteArray) (b0_2 : Bool) (n0_3 : Int) (l0_4 : List T) (n0_5 n1 : Int) : Option (List T) :=
 bif iLt (IntKind.wrap .i64 (n1 - (s0_1.size : Int))) 0 then
  some [T.i .i64 (-1)]
 else
  (c 102 [T.st [T.sl l0_4, T.i .i64 n0_5], T.i .i64 (IntKind.wrap .i64 (n1 - (s0_1.size : Int)))]).bind fun r61 =>
  bif iLt (asI (nth r61 0)) 0 then
   some [T.i .i64 (-1)]
  else
   some [T.i .i64 (asI (nth r61 0))]
def f75 (c : Orc) (lf : Nat) (n0_0 : Int) (s0_1 : ByteArray) (b0_2 : Bool) (n0_3 : Int) (l0_4 : List T) (n0_5 n1 : Int) : Option (List T) := f75_t c lf n0_0 s0_1 b0_2 n0_3 l0_4 n0_5 n1
theorem f75_eq (c : Orc) (lf : Nat) (n0_0 : Int) (s0_1 : ByteArray) (b0_2 : Bool) (n0_3 : Int) (l0_4 : List T) (n0_5 n1 : Int) : funK c env lf 6 fi75 [.st [.i .i64 n0_0, .s s0_1, .b b0_2, .i .i64 n0_3, .sl l0_4, .i .i64 n0_5], .i .i64 n1] = f75 c lf n0_0 s0_1 b0_2 n0_3 l0_4 n0_5 n1 := by kernel_rfl
def f49_0_s (c : Orc) (lf : Nat) (l0 : List T) (L : Int → Int → Option (List T)) (x68 x69 : Int) : Option (List T) :=
 bif iLt x69 (l0.length : Int) then
  bif inR x69 l0.length then
  (c 75 [T.st [T.i .i64 (asI (T.cell (l0.getD x69.toNat T.u) 0)), T.s (asS (T.cell (l0.getD x69.toNat T.u) 1)), T.b (asB (T.cell (l0.getD x69.toNat T.u) 2)), T.i .i64 (asI (T.cell (l0.getD x69.toNat T.u) 3)), T.sl (asL (T.cell (l0.getD x69.toNat T.u) 4)), T.i .i64 (asI (T.cell (l0.getD x69.toNat T.u) 5))], T.i .i64 x68]).bind fun r70 =>
  bif iLt (asI (nth r70 0)) 0 then
   some [T.i .i64 0, T.i .i64 (-1)]
  else
   L (asI (nth r70 0)) (IntKind.wrap .i64 (x69 + 1))
  else none
 else
  some [T.i .i64 1, T.i .i64 x68]
def f49_0_c (l0 : List T) (x68 x69 : Int) : CSt := ⟨[.ro 0 true [.i .i64, .s, .b, .i .i64, .sl true [.i .i64, .i .i64, .i .i64, .sl false [.i .u8], .sl true [.s, .i .i64], .sl true [.s, .s]], .i .i64] l0, .i .i64 x68, .i .i64 x69], [.dead, .dead]⟩
theorem f49_0_round (c : Orc) (lf : Nat) (l0 : List T) (L : CSt → Option (List T)) (x68 x69 : Int) :
 roundK c env lf 6 fi49 2 5 [] [0, 1, 5] (x49_5_0) L (f49_0_c l0 x68 x69) = f49_0_s c lf l0 (fun x68 x69 => L (f49_0_c l0 x68 x69)) x68 x69 := by kernel_rfl
def f49_0 (c : Orc) (lf : Nat) (l0 : List T) : Nat → Int → Int → Option (List T)
 | 0 => fun _ _ => none
 | n + 1 => fun x68 x69 => f49_0_s c lf l0 (f49_0 c lf l0 n) x68 x69
theorem f49_0_eq (c : Orc) (lf : Nat) (l0 : List T) (n : Nat) (x68 x69 : Int) :
 lpK c env lf 6 fi49 2 5 [] [0, 1, 5] (x49_5_0) n (f49_0_c l0 x68 x69) = f49_0 c lf l0 n x68 x69 := by
 induction n generalizing x68 x69 with
 | zero => rfl
 | succ n ih =>
  refine (f49_0_round c lf l0 _ x68 x69).trans ?_
  have e : (fun x68 x69 => lpK c env lf 6 fi49 2 5 [] [0, 1, 5] (x49_5_0) n (f49_0_c l0 x68 x69)) = f49_0 c lf l0 n := by funext x68 x69; exact ih x68 x69
  show f49_0_s c lf l0 (fun x68 x69 => lpK c env lf 6 fi49 2 5 [] [0, 1, 5] (x49_5_0) n (f49_0_c l0 x68 x69)) x68 x69 = _
  rw [e]; rfl
def f49_t (c : Orc) (lf : Nat) (lp0 : List T → Int → Int → Option (List T)) (l0 : List T) (n1 : Int) : Option (List T) :=
 bif iLt (IntKind.wrap .i64 (n1 - (l0.length : Int))) 0 then
  some [T.i .i64 (-1)]
 else
  (lp0 l0 (IntKind.wrap .i64 (n1 - (l0.length : Int))) 0).bind fun r71 =>
  bif asI (nth r71 0) == 0 then
   some [T.i .i64 (asI (nth r71 1))]
  else
   some [T.i .i64 (asI (nth r71 1))]
def f49 (c : Orc) (lf : Nat) (l0 : List T) (n1 : Int) : Option (List T) := f49_t c lf (fun (l0 : List T) (x68 x69 : Int) => f49_0 c lf l0 lf x68 x69) l0 n1
theorem f49_raw (c : Orc) (lf : Nat) (l0 : List T) (n1 : Int) : funK c env lf 6 fi49 [.sl l0, .i .i64 n1] = f49_t c lf (fun (l0 : List T) (x68 x69 : Int) => lpK c env lf 6 fi49 2 5 [] [0, 1, 5] (x49_5_0) lf (f49_0_c l0 x68 x69)) l0 n1 := by kernel_rfl
theorem f49_eq (c : Orc) (lf : Nat) (l0 : List T) (n1 : Int) : funK c env lf 6 fi49 [.sl l0, .i .i64 n1] = f49 c lf l0 n1 := by
 refine (f49_raw c lf l0 n1).trans ?_
 have e0 : (fun (l0 : List T) (x68 x69 : Int) => lpK c env lf 6 fi49 2 5 [] [0, 1, 5] (x49_5_0) lf (f49_0_c l0 x68 x69)) = (fun (l0 : List T) (x68 x69 : Int) => f49_0 c lf l0 lf x68 x69) := by funext l0 x68 x69; exact f49_0_eq c lf l0 lf x68 x69
 rw [e0]; rfl
def f22_t (c : Orc) (lf : Nat) (l0_0 : List T) (n0_1 n1 : Int) : Option (List T) :=
 (c 49 [T.sl l0_0, T.i .i64 n1]).bind fun r72 =>
 bif iLt (asI (nth r72 0)) 0 then
  some [T.i .i64 (-1)]
 else
  some [T.i .i64 (asI (nth r72 0))]
def f22 (c : Orc) (lf : Nat) (l0_0 : List T) (n0_1 n1 : Int) : Option (List T) := f22_t c lf l0_0 n0_1 n1
theorem f22_eq (c : Orc) (lf : Nat) (l0_0 : List T) (n0_1 n1 : Int) : funK c env lf 6 fi22 [.st [.sl l0_0, .i .i64 n0_1], .i .i64 n1] = f22 c lf l0_0 n0_1 n1 := by kernel_rfl
def f76_t (c : Orc) (lf : Nat) (n0_0 : Int) (s0_1 : ByteArray) (b0_2 : Bool) (n0_3 n0_4 n1 : Int) : Option (List T) :=
 bif iLt (IntKind.wrap .i64 (n1 - (s0_1.size : Int))) 0 then
  some [T.i .i64 (-1)]
 else
  some [T.i .i64 (IntKind.wrap .i64 (n1 - (s0_1.size : Int)))]
def f76 (c : Orc) (lf : Nat) (n0_0 : Int) (s0_1 : ByteArray) (b0_2 : Bool) (n0_3 n0_4 n1 : Int) : Option (List T) := f76_t c lf n0_0 s0_1 b0_2 n0_3 n0_4 n1
theorem f76_eq (c : Orc) (lf : Nat) (n0_0 : Int) (s0_1 : ByteArray) (b0_2 : Bool) (n0_3 n0_4 n1 : Int) : funK c env lf 6 fi76 [.st [.i .i64 n0_0, .s s0_1, .b b0_2, .i .i64 n0_3, .i .i64 n0_4], .i .i64 n1] = f76 c lf n0_0 s0_1 b0_2 n0_3 n0_4 n1 := by kernel_rfl
def f50_0_s (c : Orc) (lf : Nat) (l0 : List T) (L : Int → Int → Option (List T)) (x79 x80 : Int) : Option (List T) :=
 bif iLt x80 (l0.length : Int) then
  bif inR x80 l0.length then
  (c 76 [T.st [T.i .i64 (asI (T.cell (l0.getD x80.toNat T.u) 0)), T.s (asS (T.cell (l0.getD x80.toNat T.u) 1)), T.b (asB (T.cell (l0.getD x80.toNat T.u) 2)), T.i .i64 (asI (T.cell (l0.getD x80.toNat T.u) 3)), T.i .i64 (asI (T.cell (l0.getD x80.toNat T.u) 4))], T.i .i64 x79]).bind fun r81 =>
  bif iLt (asI (nth r81 0)) 0 then
   some [T.i .i64 0, T.i .i64 (-1)]
  else
   L (asI (nth r81 0)) (IntKind.wrap .i64 (x80 + 1))
  else none
 else
  some [T.i .i64 1, T.i .i64 x79]
def f50_0_c (l0 : List T) (x79 x80 : Int) : CSt := ⟨[.ro 0 true [.i .i64, .s, .b, .i .i64, .i .i64] l0, .i .i64 x79, .i .i64 x80], [.dead, .dead]⟩
theorem f50_0_round (c : Orc) (lf : Nat) (l0 : List T) (L : CSt → Option (List T)) (x79 x80 : Int) :
 roundK c env lf 6 fi50 2 5 [] [0, 1, 5] (x50_5_0) L (f50_0_c l0 x79 x80) = f50_0_s c lf l0 (fun x79 x80 => L (f50_0_c l0 x79 x80)) x79 x80 := by kernel_rfl
def f50_0 (c : Orc) (lf : Nat) (l0 : List T) : Nat → Int → Int → Option (List T)
 | 0 => fun _ _ => none
 | n + 1 => fun x79 x80 => f50_0_s c lf l0 (f50_0 c lf l0 n) x79 x80
theorem f50_0_eq (c : Orc) (lf : Nat) (l0 : List T) (n : Nat) (x79 x80 : Int) :
 lpK c env lf 6 fi50 2 5 [] [0, 1, 5] (x50_5_0) n (f50_0_c l0 x79 x80) = f50_0 c lf l0 n x79 x80 := by
 induction n generalizing x79 x80 with
 | zero => rfl
 | succ n ih =>
  refine (f50_0_round c lf l0 _ x79 x80).trans ?_
  have e : (fun x79 x80 => lpK c env lf 6 fi50 2 5 [] [0, 1, 5] (x50_5_0) n (f50_0_c l0 x79 x80)) = f50_0 c lf l0 n := by funext x79 x80; exact ih x79 x80
  show f50_0_s c lf l0 (fun x79 x80 => lpK c env lf 6 fi50 2 5 [] [0, 1, 5] (x50_5_0) n (f50_0_c l0 x79 x80)) x79 x80 = _
  rw [e]; rfl
def f50_t (c : Orc) (lf : Nat) (lp0 : List T → Int → Int → Option (List T)) (l0 : List T) (n1 : Int) : Option (List T) :=
 bif iLt (IntKind.wrap .i64 (n1 - (l0.length : Int))) 0 then
  some [T.i .i64 (-1)]
 else
  (lp0 l0 (IntKind.wrap .i64 (n1 - (l0.length : Int))) 0).bind fun r82 =>
  bif asI (nth r82 0) == 0 then
   some [T.i .i64 (asI (nth r82 1))]
  else
   some [T.i .i64 (asI (nth r82 1))]
def f50 (c : Orc) (lf : Nat) (l0 : List T) (n1 : Int) : Option (List T) := f50_t c lf (fun (l0 : List T) (x79 x80 : Int) => f50_0 c lf l0 lf x79 x80) l0 n1
theorem f50_raw (c : Orc) (lf : Nat) (l0 : List T) (n1 : Int) : funK c env lf 6 fi50 [.sl l0, .i .i64 n1] = f50_t c lf (fun (l0 : List T) (x79 x80 : Int) => lpK c env lf 6 fi50 2 5 [] [0, 1, 5] (x50_5_0) lf (f50_0_c l0 x79 x80)) l0 n1 := by kernel_rfl
theorem f50_eq (c : Orc) (lf : Nat) (l0 : List T) (n1 : Int) : funK c env lf 6 fi50 [.sl l0, .i .i64 n1] = f50 c lf l0 n1 := by
 refine (f50_raw c lf l0 n1).trans ?_
 have e0 : (fun (l0 : List T) (x79 x80 : Int) => lpK c env lf 6 fi50 2 5 [] [0, 1, 5] (x50_5_0) lf (f50_0_c l0 x79 x80)) = (fun (l0 : List T) (x79 x80 : Int) => f50_0 c lf l0 lf x79 x80) := by funext l0 x79 x80; exact f50_0_eq c lf l0 lf x79 x80
 rw [e0]; rfl
def f23_t (c : Orc) (lf : Nat) (n0_0 : Int) (l0_1 : List T) (n1 : Int) : Option (List T) :=
 (c 50 [T.sl l0_1, T.i .i64 n1]).bind fun r83 =>
 bif iLt (asI (nth r83 0)) 0 then
  some [T.i .i64 (-1)]
 else
  some [T.i .i64 (asI (nth r83 0))]
def f23 (c : Orc) (lf : Nat) (n0_0 : Int) (l0_1 : List T) (n1 : Int) : Option (List T) := f23_t c lf n0_0 l0_1 n1
theorem f23_eq (c : Orc) (lf : Nat) (n0_0 : Int) (l0_1 : List T) (n1 : Int) : funK c env lf 6 fi23 [.st [.i .i64 n0_0, .sl l0_1], .i .i64 n1] = f23 c lf n0_0 l0_1 n1 := by kernel_rfl
def f77_t (c : Orc) (lf : Nat) (l0 : List T) (n1 : Int) : Option (List T) :=
 bif iLt (IntKind.wrap .i64 (n1 - (l0.length : Int))) 0 then
  some [T.i .i64 (-1)]
 else
  some [T.i .i64 (IntKind.wrap .i64 (n1 - (l0.length : Int)))]
def f77 (c : Orc) (lf : Nat) (l0 : List T) (n1 : Int) : Option (List T) := f77_t c lf l0 n1
theorem f77_eq (c : Orc) (lf : Nat) (l0 : List T) (n1 : Int) : funK c env lf 6 fi77 [.sl l0, .i .i64 n1] = f77 c lf l0 n1 := by kernel_rfl
def f51_t (c : Orc) (lf : Nat) (n0_0 : Int) (l0_1 : List T) (n1 : Int) : Option (List T) :=
 (c 77 [T.sl l0_1, T.i .i64 n1]).bind fun r84 =>
 bif iLt (asI (nth r84 0)) 0 then
  some [T.i .i64 (-1)]
 else
  some [T.i .i64 (asI (nth r84 0))]
def f51 (c : Orc) (lf : Nat) (n0_0 : Int) (l0_1 : List T) (n1 : Int) : Option (List T) := f51_t c lf n0_0 l0_1 n1
theorem f51_eq (c : Orc) (lf : Nat) (n0_0 : Int) (l0_1 : List T) (n1 : Int) : funK c env lf 6 fi51 [.st [.i .i64 n0_0, .sl l0_1], .i .i64 n1] = f51 c lf n0_0 l0_1 n1 := by kernel_rfl
def f24_0_s (c : Orc) (lf : Nat) (l0 : List T) (L : Int → Int → Option (List T)) (x91 x92 : Int) : Option (List T) :=
 bif iLt x92 (l0.length : Int) then
  bif inR x92 l0.length then
  (c 51 [T.st [T.i .i64 (asI (T.cell (l0.getD x92.toNat T.u) 0)), T.sl (asL (T.cell (l0.getD x92.toNat T.u) 1))], T.i .i64 x91]).bind fun r93 =>
  bif iLt (asI (nth r93 0)) 0 then
   some [T.i .i64 0, T.i .i64 (-1)]
  else
   L (asI (nth r93 0)) (IntKind.wrap .i64 (x92 + 1))
  else none
 else
  some [T.i .i64 1, T.i .i64 x91]
def f24_0_c (l0 : List T) (x91 x92 : Int) : CSt := ⟨[.ro 0 true [.i .i64, .sl true [.i .i64, .i .i64]] l0, .i .i64 x91, .i .i64 x92], [.dead, .dead]⟩
theorem f24_0_round (c : Orc) (lf : Nat) (l0 : List T) (L : CSt → Option (List T)) (x91 x92 : Int) :
 roundK c env lf 6 fi24 2 5 [] [0, 1, 5] (x24_5_0) L (f24_0_c l0 x91 x92) = f24_0_s c lf l0 (fun x91 x92 => L (f24_0_c l0 x91 x92)) x91 x92 := by kernel_rfl
def f24_0 (c : Orc) (lf : Nat) (l0 : List T) : Nat → Int → Int → Option (List T)
 | 0 => fun _ _ => none
 | n + 1 => fun x91 x92 => f24_0_s c lf l0 (f24_0 c lf l0 n) x91 x92
theorem f24_0_eq (c : Orc) (lf : Nat) (l0 : List T) (n : Nat) (x91 x92 : Int) :
 lpK c env lf 6 fi24 2 5 [] [0, 1, 5] (x24_5_0) n (f24_0_c l0 x91 x92) = f24_0 c lf l0 n x91 x92 := by
 induction n generalizing x91 x92 with
 | zero => rfl
 | succ n ih =>
  refine (f24_0_round c lf l0 _ x91 x92).trans ?_
  have e : (fun x91 x92 => lpK c env lf 6 fi24 2 5 [] [0, 1, 5] (x24_5_0) n (f24_0_c l0 x91 x92)) = f24_0 c lf l0 n := by funext x91 x92; exact ih x91 x92
  show f24_0_s c lf l0 (fun x91 x92 => lpK c env lf 6 fi24 2 5 [] [0, 1, 5] (x24_5_0) n (f24_0_c l0 x91 x92)) x91 x92 = _
  rw [e]; rfl
def f24_t (c : Orc) (lf : Nat) (lp0 : List T → Int → Int → Option (List T)) (l0 : List T) (n1 : Int) : Option (List T) :=
 bif iLt (IntKind.wrap .i64 (n1 - (l0.length : Int))) 0 then
  some [T.i .i64 (-1)]
 else
  (lp0 l0 (IntKind.wrap .i64 (n1 - (l0.length : Int))) 0).bind fun r94 =>
  bif asI (nth r94 0) == 0 then
   some [T.i .i64 (asI (nth r94 1))]
  else
   some [T.i .i64 (asI (nth r94 1))]
def f24 (c : Orc) (lf : Nat) (l0 : List T) (n1 : Int) : Option (List T) := f24_t c lf (fun (l0 : List T) (x91 x92 : Int) => f24_0 c lf l0 lf x91 x92) l0 n1
theorem f24_raw (c : Orc) (lf : Nat) (l0 : List T) (n1 : Int) : funK c env lf 6 fi24 [.sl l0, .i .i64 n1] = f24_t c lf (fun (l0 : List T) (x91 x92 : Int) => lpK c env lf 6 fi24 2 5 [] [0, 1, 5] (x24_5_0) lf (f24_0_c l0 x91 x92)) l0 n1 := by kernel_rfl
theorem f24_eq (c : Orc) (lf : Nat) (l0 : List T) (n1 : Int) : funK c env lf 6 fi24 [.sl l0, .i .i64 n1] = f24 c lf l0 n1 := by
 refine (f24_raw c lf l0 n1).trans ?_
 have e0 : (fun (l0 : List T) (x91 x92 : Int) => lpK c env lf 6 fi24 2 5 [] [0, 1, 5] (x24_5_0) lf (f24_0_c l0 x91 x92)) = (fun (l0 : List T) (x91 x92 : Int) => f24_0 c lf l0 lf x91 x92) := by funext l0 x91 x92; exact f24_0_eq c lf l0 lf x91 x92
 rw [e0]; rfl
def f6_t (c : Orc) (lf : Nat) (l0_0 : List T) (n0_1 n0_2 : Int) (l0_3 l0_4 : List T) (n0_5 n0_6 n1 : Int) : Option (List T) :=
 (c 22 [T.st [T.sl l0_0, T.i .i64 n0_1], T.i .i64 n1]).bind fun r95 =>
 bif iLt (asI (nth r95 0)) 0 then
  some [T.i .i64 (-1)]
 else
  (c 23 [T.st [T.i .i64 n0_2, T.sl l0_3], T.i .i64 (asI (nth r95 0))]).bind fun r96 =>
  bif iLt (asI (nth r96 0)) 0 then
   some [T.i .i64 (-1)]
  else
   (c 24 [T.sl l0_4, T.i .i64 (asI (nth r96 0))]).bind fun r97 =>
   bif iLt (asI (nth r97 0)) 0 then
    some [T.i .i64 (-1)]
   else
    some [T.i .i64 (asI (nth r97 0))]
def f6 (c : Orc) (lf : Nat) (l0_0 : List T) (n0_1 n0_2 : Int) (l0_3 l0_4 : List T) (n0_5 n0_6 n1 : Int) : Option (List T) := f6_t c lf l0_0 n0_1 n0_2 l0_3 l0_4 n0_5 n0_6 n1
theorem f6_eq (c : Orc) (lf : Nat) (l0_0 : List T) (n0_1 n0_2 : Int) (l0_3 l0_4 : List T) (n0_5 n0_6 n1 : Int) : funK c env lf 6 fi6 [.st [.sl l0_0, .i .i64 n0_1, .i .i64 n0_2, .sl l0_3, .sl l0_4, .i .i64 n0_5, .i .i64 n0_6], .i .i64 n1] = f6 c lf l0_0 n0_1 n0_2 l0_3 l0_4 n0_5 n0_6 n1 := by kernel_rfl
def f135_0_s (c : Orc) (lf : Nat) (l0 : List T) (L : Int → List T → Option (List T)) (x101 : Int) (x102 : List T) : Option (List T) :=
 bif iLt x101 (l0.length : Int) then
  bif inR x101 l0.length then
  bif inR x101 x102.length then
  L (IntKind.wrap .i64 (x101 + 1)) (x102.set x101.toNat (T.i .u8 (asI (l0.getD x101.toNat T.u))))
  else none
  else none
 else
  some [T.i .i64 0, T.sl x102]
def f135_0_c (l0 : List T) (x101 : Int) (x102 : List T) : CSt := ⟨[.ro 0 false [.i .u8] l0, .rf 1 [] 0 none, .i .i64 x101], [.dead, .row false [.i .u8] x102 0 false]⟩
theorem f135_0_round (c : Orc) (lf : Nat) (l0 : List T) (L : CSt → Option (List T)) (x101 : Int) (x102 : List T) :
 roundK c env lf 6 fi135 1 3 [] [0, 3, 4] (x135_3_0) L (f135_0_c l0 x101 x102) = f135_0_s c lf l0 (fun x101 x102 => L (f135_0_c l0 x101 x102)) x101 x102 := by kernel_rfl
def f135_0 (c : Orc) (lf : Nat) (l0 : List T) : Nat → Int → List T → Option (List T)
 | 0 => fun _ _ => none
 | n + 1 => fun x101 x102 => f135_0_s c lf l0 (f135_0 c lf l0 n) x101 x102
theorem f135_0_eq (c : Orc) (lf : Nat) (l0 : List T) (n : Nat) (x101 : Int) (x102 : List T) :
 lpK c env lf 6 fi135 1 3 [] [0, 3, 4] (x135_3_0) n (f135_0_c l0 x101 x102) = f135_0 c lf l0 n x101 x102 := by
 induction n generalizing x101 x102 with
 | zero => rfl
 | succ n ih =>
  refine (f135_0_round c lf l0 _ x101 x102).trans ?_
  have e : (fun x101 x102 => lpK c env lf 6 fi135 1 3 [] [0, 3, 4] (x135_3_0) n (f135_0_c l0 x101 x102)) = f135_0 c lf l0 n := by funext x101 x102; exact ih x101 x102
  show f135_0_s c lf l0 (fun x101 x102 => lpK c env lf 6 fi135 1 3 [] [0, 3, 4] (x135_3_0) n (f135_0_c l0 x101 x102)) x101 x102 = _
  rw [e]; rfl
def f135_t (c : Orc) (lf : Nat) (lp0 : List T → Int → List T → Option (List T)) (l0 : List T) : Option (List T) :=
 bif iLe 0 (l0.length : Int) && iLe (l0.length : Int) (LIM : Int) && ((l0.length : Int) == (l0.length : Int)) then
 (lp0 l0 0 (List.replicate (l0.length : Int).toNat (T.i .u8 0))).bind fun r103 =>
 some [T.sl (asL (nth r103 1))]
 else none
def f135 (c : Orc) (lf : Nat) (l0 : List T) : Option (List T) := f135_t c lf (fun (l0 : List T) (x101 : Int) (x102 : List T) => f135_0 c lf l0 lf x101 x102) l0
theorem f135_raw (c : Orc) (lf : Nat) (l0 : List T) : funK c env lf 6 fi135 [.sl l0] = f135_t c lf (fun (l0 : List T) (x101 : Int) (x102 : List T) => lpK c env lf 6 fi135 1 3 [] [0, 3, 4] (x135_3_0) lf (f135_0_c l0 x101 x102)) l0 := by kernel_rfl
theorem f135_eq (c : Orc) (lf : Nat) (l0 : List T) : funK c env lf 6 fi135 [.sl l0] = f135 c lf l0 := by
 refine (f135_raw c lf l0).trans ?_
 have e0 : (fun (l0 : List T) (x101 : Int) (x102 : List T) => lpK c env lf 6 fi135 1 3 [] [0, 3, 4] (x135_3_0) lf (f135_0_c l0 x101 x102)) = (fun (l0 : List T) (x101 : Int) (x102 : List T) => f135_0 c lf l0 lf x101 x102) := by funext l0 x101 x102; exact f135_0_eq c lf l0 lf x101 x102
 rw [e0]; rfl
def f130_t (c : Orc) (lf : Nat) (b0_0 : Bool) (l0_1 : List T) : Option (List T) :=
 (c 135 [T.sl l0_1]).bind fun r104 =>
 some [T.st [T.b b0_0, T.sl (asL (nth r104 0))]]
def f130 (c : Orc) (lf : Nat) (b0_0 : Bool) (l0_1 : List T) : Option (List T) := f130_t c lf b0_0 l0_1
theorem f130_eq (c : Orc) (lf : Nat) (b0_0 : Bool) (l0_1 : List T) : funK c env lf 6 fi130 [.st [.b b0_0, .sl l0_1]] = f130 c lf b0_0 l0_1 := by kernel_rfl
def f124_0_s (c : Orc) (lf : Nat) (l0 : List T) (L : Int → List T → Option (List T)) (x111 : Int) (x112 : List T) : Option (List T) :=
 bif iLt x111 (l0.length : Int) then
  bif inR x111 l0.length then
  (c 130 [T.st [T.b (asB (T.cell (l0.getD x111.toNat T.u) 0)), T.sl (asL (T.cell (l0.getD x111.toNat T.u) 1))]]).bind fun r113 =>
  bif inR x111 x112.length then
  L (IntKind.wrap .i64 (x111 + 1)) (x112.set x111.toNat (T.st [T.b (asB (T.cell (nth r113 0) 0)), T.sl (asL (T.cell (nth r113 0) 1))]))
  else none
  else none
 else
  some [T.i .i64 0, T.sl x112]
def f124_0_c (l0 : List T) (x111 : Int) (x112 : List T) : CSt := ⟨[.ro 0 true [.b, .sl false [.i .u8]] l0, .rf 1 [] 0 none, .i .i64 x111], [.dead, .row true [.b, .sl false [.i .u8]] x112 0 false]⟩
theorem f124_0_round (c : Orc) (lf : Nat) (l0 : List T) (L : CSt → Option (List T)) (x111 : Int) (x112 : List T) :
 roundK c env lf 6 fi124 1 3 [] [0, 3, 4] (x124_3_0) L (f124_0_c l0 x111 x112) = f124_0_s c lf l0 (fun x111 x112 => L (f124_0_c l0 x111 x112)) x111 x112 := by kernel_rfl
def f124_0 (c : Orc) (lf : Nat) (l0 : List T) : Nat → Int → List T → Option (List T)
 | 0 => fun _ _ => none
 | n + 1 => fun x111 x112 => f124_0_s c lf l0 (f124_0 c lf l0 n) x111 x112
theorem f124_0_eq (c : Orc) (lf : Nat) (l0 : List T) (n : Nat) (x111 : Int) (x112 : List T) :
 lpK c env lf 6 fi124 1 3 [] [0, 3, 4] (x124_3_0) n (f124_0_c l0 x111 x112) = f124_0 c lf l0 n x111 x112 := by
 induction n generalizing x111 x112 with
 | zero => rfl
 | succ n ih =>
  refine (f124_0_round c lf l0 _ x111 x112).trans ?_
  have e : (fun x111 x112 => lpK c env lf 6 fi124 1 3 [] [0, 3, 4] (x124_3_0) n (f124_0_c l0 x111 x112)) = f124_0 c lf l0 n := by funext x111 x112; exact ih x111 x112
  show f124_0_s c lf l0 (fun x111 x112 => lpK c env lf 6 fi124 1 3 [] [0, 3, 4] (x124_3_0) n (f124_0_c l0 x111 x112)) x111 x112 = _
  rw [e]; rfl
def f124_t (c : Orc) (lf : Nat) (lp0 : List T → Int → List T → Option (List T)) (l0 : List T) : Option (List T) :=
 bif iLe 0 (l0.length : Int) && iLe (l0.length : Int) (LIM : Int) && ((l0.length : Int) == (l0.length : Int)) then
 (lp0 l0 0 (List.replicate (l0.length : Int).toNat (T.st [T.b false, T.sl []]))).bind fun r114 =>
 some [T.sl (asL (nth r114 1))]
 else none
def f124 (c : Orc) (lf : Nat) (l0 : List T) : Option (List T) := f124_t c lf (fun (l0 : List T) (x111 : Int) (x112 : List T) => f124_0 c lf l0 lf x111 x112) l0
theorem f124_raw (c : Orc) (lf : Nat) (l0 : List T) : funK c env lf 6 fi124 [.sl l0] = f124_t c lf (fun (l0 : List T) (x111 : Int) (x112 : List T) => lpK c env lf 6 fi124 1 3 [] [0, 3, 4] (x124_3_0) lf (f124_0_c l0 x111 x112)) l0 := by kernel_rfl
theorem f124_eq (c : Orc) (lf : Nat) (l0 : List T) : funK c env lf 6 fi124 [.sl l0] = f124 c lf l0 := by
 refine (f124_raw c lf l0).trans ?_
 have e0 : (fun (l0 : List T) (x111 : Int) (x112 : List T) => lpK c env lf 6 fi124 1 3 [] [0, 3, 4] (x124_3_0) lf (f124_0_c l0 x111 x112)) = (fun (l0 : List T) (x111 : Int) (x112 : List T) => f124_0 c lf l0 lf x111 x112) := by funext l0 x111 x112; exact f124_0_eq c lf l0 lf x111 x112
 rw [e0]; rfl
def f117_t (c : Orc) (lf : Nat) (l0_0 : List T) (n0_1 : Int) (b0_2 : Bool) : Option (List T) :=
 (c 124 [T.sl l0_0]).bind fun r115 =>
 some [T.st [T.sl (asL (nth r115 0)), T.i .i64 n0_1, T.b b0_2]]
def f117 (c : Orc) (lf : Nat) (l0_0 : List T) (n0_1 : Int) (b0_2 : Bool) : Option (List T) := f117_t c lf l0_0 n0_1 b0_2
theorem f117_eq (c : Orc) (lf : Nat) (l0_0 : List T) (n0_1 : Int) (b0_2 : Bool) : funK c env lf 6 fi117 [.st [.sl l0_0, .i .i64 n0_1, .b b0_2]] = f117 c lf l0_0 n0_1 b0_2 := by kernel_rfl
def f98_0_s (c : Orc) (lf : Nat) (l0 : List T) (L : Int → List T → Option (List T)) (x122 : Int) (x123 : List T) : Option (List T) :=
 bif iLt x122 (l0.length : Int) then
  bif inR x122 l0.length then
  (c 117 [T.st [T.sl (asL (T.cell (l0.getD x122.toNat T.u) 0)), T.i .i64 (asI (T.cell (l0.getD x122.toNat T.u) 1)), T.b (asB (T.cell (l0.getD x122.toNat T.u) 2))]]).bind fun r124 =>
  bif inR x122 x123.length then
  L (IntKind.wrap .i64 (x122 + 1)) (x123.set x122.toNat (T.st [T.sl (asL (T.cell (nth r124 0) 0)), T.i .i64 (asI (T.cell (nth r124 0) 1)), T.b (asB (T.cell (nth r124 0) 2))]))
  else none
  else none
 else
  some [T.i .i64 0, T.sl x123]
def f98_0_c (l0 : List T) (x122 : Int) (x123 : List T) : CSt := ⟨[.ro 0 true [.sl true [.b, .sl false [.i .u8]], .i .i64, .b] l0, .rf 1 [] 0 none, .i .i64 x122], [.dead, .row true [.sl true [.b, .sl false [.i .u8]], .i .i64, .b] x123 0 false]⟩
theorem f98_0_round (c : Orc) (lf : Nat) (l0 : List T) (L : CSt → Option (List T)) (x122 : Int) (x123 : List T) :
 roundK c env lf 6 fi98 1 3 [] [0, 3, 4] (x98_3_0) L (f98_0_c l0 x122 x123) = f98_0_s c lf l0 (fun x122 x123 => L (f98_0_c l0 x122 x123)) x122 x123 := by kernel_rfl
def f98_0 (c : Orc) (lf : Nat) (l0 : List T) : Nat → Int → List T → Option (List T)
 | 0 => fun _ _ => none
 | n + 1 => fun x122 x123 => f98_0_s c lf l0 (f98_0 c lf l0 n) x122 x123
theorem f98_0_eq (c : Orc) (lf : Nat) (l0 : List T) (n : Nat) (x122 : Int) (x123 : List T) :
 lpK c env lf 6 fi98 1 3 [] [0, 3, 4] (x98_3_0) n (f98_0_c l0 x122 x123) = f98_0 c lf l0 n x122 x123 := by
 induction n generalizing x122 x123 with
 | zero => rfl
 | succ n ih =>
  refine (f98_0_round c lf l0 _ x122 x123).trans ?_
  have e : (fun x122 x123 => lpK c env lf 6 fi98 1 3 [] [0, 3, 4] (x98_3_0) n (f98_0_c l0 x122 x123)) = f98_0 c lf l0 n := by funext x122 x123; exact ih x122 x123
  show f98_0_s c lf l0 (fun x122 x123 => lpK c env lf 6 fi98 1 3 [] [0, 3, 4] (x98_3_0) n (f98_0_c l0 x122 x123)) x122 x123 = _
  rw [e]; rfl
def f98_t (c : Orc) (lf : Nat) (lp0 : List T → Int → List T → Option (List T)) (l0 : List T) : Option (List T) :=
 bif iLe 0 (l0.length : Int) && iLe (l0.length : Int) (LIM : Int) && ((l0.length : Int) == (l0.length : Int)) then
 (lp0 l0 0 (List.replicate (l0.length : Int).toNat (T.st [T.sl [], T.i .i64 0, T.b false]))).bind fun r125 =>
 some [T.sl (asL (nth r125 1))]
 else none
def f98 (c : Orc) (lf : Nat) (l0 : List T) : Option (List T) := f98_t c lf (fun (l0 : List T) (x122 : Int) (x123 : List T) => f98_0 c lf l0 lf x122 x123) l0
theorem f98_raw (c : Orc) (lf : Nat) (l0 : List T) : funK c env lf 6 fi98 [.sl l0] = f98_t c lf (fun (l0 : List T) (x122 : Int) (x123 : List T) => lpK c env lf 6 fi98 1 3 [] [0, 3, 4] (x98_3_0) lf (f98_0_c l0 x122 x123)) l0 := by kernel_rfl
theorem f98_eq (c : Orc) (lf : Nat) (l0 : List T) : funK c env lf 6 fi98 [.sl l0] = f98 c lf l0 := by
 refine (f98_raw c lf l0).trans ?_
 have e0 : (fun (l0 : List T) (x122 : Int) (x123 : List T) => lpK c env lf 6 fi98 1 3 [] [0, 3, 4] (x98_3_0) lf (f98_0_c l0 x122 x123)) = (fun (l0 : List T) (x122 : Int) (x123 : List T) => f98_0 c lf l0 lf x122 x123) := by funext l0 x122 x123; exact f98_0_eq c lf l0 lf x122 x123
 rw [e0]; rfl
def f68_t (c : Orc) (lf : Nat) (l0_0 : List T) : Option (List T) :=
 (c 98 [T.sl l0_0]).bind fun r126 =>
 some [T.st [T.sl (asL (nth r126 0))]]
def f68 (c : Orc) (lf : Nat) (l0_0 : List T) : Option (List T) := f68_t c lf l0_0
theorem f68_eq (c : Orc) (lf : Nat) (l0_0 : List T) : funK c env lf 6 fi68 [.st [.sl l0_0]] = f68 c lf l0_0 := by kernel_rfl
def f99_t (c : Orc) (lf : Nat) (n0_0 n0_1 n0_2 : Int) : Option (List T) :=
 some [T.st [T.i .i64 n0_0, T.i .i64 n0_1, T.i .i64 n0_2]]
def f99 (c : Orc) (lf : Nat) (n0_0 n0_1 n0_2 : Int) : Option (List T) := f99_t c lf n0_0 n0_1 n0_2
theorem f99_eq (c : Orc) (lf : Nat) (n0_0 n0_1 n0_2 : Int) : funK c env lf 6 fi99 [.st [.i .i64 n0_0, .i .i64 n0_1, .i .i64 n0_2]] = f99 c lf n0_0 n0_1 n0_2 := by kernel_rfl
def f69_0_s (c : Orc) (lf : Nat) (l0 : List T) (L : Int → List T → Option (List T)) (x133 : Int) (x134 : List T) : Option (List T) :=
 bif iLt x133 (l0.length : Int) then
  bif inR x133 l0.length then
  (c 99 [T.st [T.i .i64 (asI (T.cell (l0.getD x133.toNat T.u) 0)), T.i .i64 (asI (T.cell (l0.getD x133.toNat T.u) 1)), T.i .i64 (asI (T.cell (l0.getD x133.toNat T.u) 2))]]).bind fun r135 =>
  bif inR x133 x134.length then
  L (IntKind.wrap .i64 (x133 + 1)) (x134.set x133.toNat (T.st [T.i .i64 (asI (T.cell (nth r135 0) 0)), T.i .i64 (asI (T.cell (nth r135 0) 1)), T.i .i64 (asI (T.cell (nth r135 0) 2))]))
  else none
  else none
 else
  some [T.i .i64 0, T.sl x134]
def f69_0_c (l0 : List T) (x133 : Int) (x134 : List T) : CSt := ⟨[.ro 0 true [.i .i64, .i .i64, .i .i64] l0, .rf 1 [] 0 none, .i .i64 x133], [.dead, .row true [.i .i64, .i .i64, .i .i64] x134 0 false]⟩
theorem f69_0_round (c : Orc) (lf : Nat) (l0 : List T) (L : CSt → Option (List T)) (x133 : Int) (x134 : List T) :
 roundK c env lf 6 fi69 1 3 [] [0, 3, 4] (x69_3_0) L (f69_0_c l0 x133 x134) = f69_0_s c lf l0 (fun x133 x134 => L (f69_0_c l0 x133 x134)) x133 x134 := by kernel_rfl
def f69_0 (c : Orc) (lf : Nat) (l0 : List T) : Nat → Int → List T → Option (List T)
 | 0 => fun _ _ => none
 | n + 1 => fun x133 x134 => f69_0_s c lf l0 (f69_0 c lf l0 n) x133 x134
theorem f69_0_eq (c : Orc) (lf : Nat) (l0 : List T) (n : Nat) (x133 : Int) (x134 : List T) :
 lpK c env lf 6 fi69 1 3 [] [0, 3, 4] (x69_3_0) n (f69_0_c l0 x133 x134) = f69_0 c lf l0 n x133 x134 := by
 induction n generalizing x133 x134 with
 | zero => rfl
 | succ n ih =>
  refine (f69_0_round c lf l0 _ x133 x134).trans ?_
  have e : (fun x133 x134 => lpK c env lf 6 fi69 1 3 [] [0, 3, 4] (x69_3_0) n (f69_0_c l0 x133 x134)) = f69_0 c lf l0 n := by funext x133 x134; exact ih x133 x134
  show f69_0_s c lf l0 (fun x133 x134 => lpK c env lf 6 fi69 1 3 [] [0, 3, 4] (x69_3_0) n (f69_0_c l0 x133 x134)) x133 x134 = _
  rw [e]; rfl
def f69_t (c : Orc) (lf : Nat) (lp0 : List T → Int → List T → Option (List T)) (l0 : List T) : Option (List T) :=
 bif iLe 0 (l0.length : Int) && iLe (l0.length : Int) (LIM : Int) && ((l0.length : Int) == (l0.length : Int)) then
 (lp0 l0 0 (List.replicate (l0.length : Int).toNat (T.st [T.i .i64 0, T.i .i64 0, T.i .i64 0]))).bind fun r136 =>
 some [T.sl (asL (nth r136 1))]
 else none
def f69 (c : Orc) (lf : Nat) (l0 : List T) : Option (List T) := f69_t c lf (fun (l0 : List T) (x133 : Int) (x134 : List T) => f69_0 c lf l0 lf x133 x134) l0
theorem f69_raw (c : Orc) (lf : Nat) (l0 : List T) : funK c env lf 6 fi69 [.sl l0] = f69_t c lf (fun (l0 : List T) (x133 : Int) (x134 : List T) => lpK c env lf 6 fi69 1 3 [] [0, 3, 4] (x69_3_0) lf (f69_0_c l0 x133 x134)) l0 := by kernel_rfl
theorem f69_eq (c : Orc) (lf : Nat) (l0 : List T) : funK c env lf 6 fi69 [.sl l0] = f69 c lf l0 := by
 refine (f69_raw c lf l0).trans ?_
 have e0 : (fun (l0 : List T) (x133 : Int) (x134 : List T) => lpK c env lf 6 fi69 1 3 [] [0, 3, 4] (x69_3_0) lf (f69_0_c l0 x133 x134)) = (fun (l0 : List T) (x133 : Int) (x134 : List T) => f69_0 c lf l0 lf x133 x134) := by funext l0 x133 x134; exact f69_0_eq c lf l0 lf x133 x134
 rw [e0]; rfl
def f43_t (c : Orc) (lf : Nat) (l0_0 : List T) (n0_1 : Int) (l0_2 : List T) (b0_3 : Bool) : Option (List T) :=
 (c 68 [T.st [T.sl l0_0]]).bind fun r137 =>
 (c 69 [T.sl l0_2]).bind fun r138 =>
 some [T.st [T.sl (asL (T.cell (nth r137 0) 0)), T.i .i64 n0_1, T.sl (asL (nth r138 0)), T.b b0_3]]
def f43 (c : Orc) (lf : Nat) (l0_0 : List T) (n0_1 : Int) (l0_2 : List T) (b0_3 : Bool) : Option (List T) := f43_t c lf l0_0 n0_1 l0_2 b0_3
theorem f43_eq (c : Orc) (lf : Nat) (l0_0 : List T) (n0_1 : Int) (l0_2 : List T) (b0_3 : Bool) : funK c env lf 6 fi43 [.st [.sl l0_0, .i .i64 n0_1, .sl l0_2, .b b0_3]] = f43 c lf l0_0 n0_1 l0_2 b0_3 := by kernel_rfl
def f17_t (c : Orc) (lf : Nat) (l0_0 : List T) (n0_1 : Int) (l0_2 : List T) (b0_3 : Bool) (n0_4 : Int) : Option (List T) :=
 (c 43 [T.st [T.sl l0_0, T.i .i64 n0_1, T.sl l0_2, T.b b0_3]]).bind fun r139 =>
 some [T.st [T.sl (asL (T.cell (nth r139 0) 0)), T.i .i64 (asI (T.cell (nth r139 0) 1)), T.sl (asL (T.cell (nth r139 0) 2)), T.b (asB (T.cell (nth r139 0) 3)), T.i .i64 n0_4]]
def f17 (c : Orc) (lf : Nat) (l0_0 : List T) (n0_1 : Int) (l0_2 : List T) (b0_3 : Bool) (n0_4 : Int) : Option (List T) := f17_t c lf l0_0 n0_1 l0_2 b0_3 n0_4
theorem f17_eq (c : Orc) (lf : Nat) (l0_0 : List T) (n0_1 : Int) (l0_2 : List T) (b0_3 : Bool) (n0_4 : Int) : funK c env lf 6 fi17 [.st [.sl l0_0, .i .i64 n0_1, .sl l0_2, .b b0_3, .i .i64 n0_4]] = f17 c lf l0_0 n0_1 l0_2 b0_3 n0_4 := by kernel_rfl
def f143_t (c : Orc) (lf : Nat) (s0_0 : ByteArray) (n0_1 : Int) : Option (List T) :=
 some [T.st [T.s s0_0, T.i .i64 n0_1]]
def f143 (c : Orc) (lf : Nat) (s0_0 : ByteArray) (n0_1 : Int) : Option (List T) := f143_t c lf s0_0 n0_1
theorem f143_eq (c : Orc) (lf : Nat) (s0_0 : ByteArray) (n0_1 : Int) : funK c env lf 6 fi143 [.st [.s s0_0, .i .i64 n0_1]] = f143 c lf s0_0 n0_1 := by kernel_rfl
def f136_0_s (c : Orc) (lf : Nat) (l0 : List T) (L : Int → List T → Option (List T)) (x146 : Int) (x147 : List T) : Option (List T) :=
 bif iLt x146 (l0.length : Int) then
  bif inR x146 l0.length then
  (c 143 [T.st [T.s (asS (T.cell (l0.getD x146.toNat T.u) 0)), T.i .i64 (asI (T.cell (l0.getD x146.toNat T.u) 1))]]).bind fun r148 =>
  bif inR x146 x147.length then
  L (IntKind.wrap .i64 (x146 + 1)) (x147.set x146.toNat (T.st [T.s (asS (T.cell (nth r148 0) 0)), T.i .i64 (asI (T.cell (nth r148 0) 1))]))
  else none
  else none
 else
  some [T.i .i64 0, T.sl x147]
def f136_0_c (l0 : List T) (x146 : Int) (x147 : List T) : CSt := ⟨[.ro 0 true [.s, .i .i64] l0, .rf 1 [] 0 none, .i .i64 x146], [.dead, .row true [.s, .i .i64] x147 0 false]⟩
theorem f136_0_round (c : Orc) (lf : Nat) (l0 : List T) (L : CSt → Option (List T)) (x146 : Int) (x147 : List T) :
 roundK c env lf 6 fi136 1 3 [] [0, 3, 4] (x136_3_0) L (f136_0_c l0 x146 x147) = f136_0_s c lf l0 (fun x146 x147 => L (f136_0_c l0 x146 x147)) x146 x147 := by kernel_rfl
def f136_0 (c : Orc) (lf : Nat) (l0 : List T) : Nat → Int → List T → Option (List T)
 | 0 => fun _ _ => none
 | n + 1 => fun x146 x147 => f136_0_s c lf l0 (f136_0 c lf l0 n) x146 x147
theorem f136_0_eq (c : Orc) (lf : Nat) (l0 : List T) (n : Nat) (x146 : Int) (x147 : List T) :
 lpK c env lf 6 fi136 1 3 [] [0, 3, 4] (x136_3_0) n (f136_0_c l0 x146 x147) = f136_0 c lf l0 n x146 x147 := by
 induction n generalizing x146 x147 with
 | zero => rfl
 | succ n ih =>
  refine (f136_0_round c lf l0 _ x146 x147).trans ?_
  have e : (fun x146 x147 => lpK c env lf 6 fi136 1 3 [] [0, 3, 4] (x136_3_0) n (f136_0_c l0 x146 x147)) = f136_0 c lf l0 n := by funext x146 x147; exact ih x146 x147
  show f136_0_s c lf l0 (fun x146 x147 => lpK c env lf 6 fi136 1 3 [] [0, 3, 4] (x136_3_0) n (f136_0_c l0 x146 x147)) x146 x147 = _
  rw [e]; rfl
def f136_t (c : Orc) (lf : Nat) (lp0 : List T → Int → List T → Option (List T)) (l0 : List T) : Option (List T) :=
 bif iLe 0 (l0.length : Int) && iLe (l0.length : Int) (LIM : Int) && ((l0.length : Int) == (l0.length : Int)) then
 (lp0 l0 0 (List.replicate (l0.length : Int).toNat (T.st [T.s (⟨#[]⟩ : ByteArray), T.i .i64 0]))).bind fun r149 =>
 some [T.sl (asL (nth r149 1))]
 else none
def f136 (c : Orc) (lf : Nat) (l0 : List T) : Option (List T) := f136_t c lf (fun (l0 : List T) (x146 : Int) (x147 : List T) => f136_0 c lf l0 lf x146 x147) l0
theorem f136_raw (c : Orc) (lf : Nat) (l0 : List T) : funK c env lf 6 fi136 [.sl l0] = f136_t c lf (fun (l0 : List T) (x146 : Int) (x147 : List T) => lpK c env lf 6 fi136 1 3 [] [0, 3, 4] (x136_3_0) lf (f136_0_c l0 x146 x147)) l0 := by kernel_rfl
theorem f136_eq (c : Orc) (lf : Nat) (l0 : List T) : funK c env lf 6 fi136 [.sl l0] = f136 c lf l0 := by
 refine (f136_raw c lf l0).trans ?_
 have e0 : (fun (l0 : List T) (x146 : Int) (x147 : List T) => lpK c env lf 6 fi136 1 3 [] [0, 3, 4] (x136_3_0) lf (f136_0_c l0 x146 x147)) = (fun (l0 : List T) (x146 : Int) (x147 : List T) => f136_0 c lf l0 lf x146 x147) := by funext l0 x146 x147; exact f136_0_eq c lf l0 lf x146 x147
 rw [e0]; rfl
def f144_t (c : Orc) (lf : Nat) (s0_0 s0_1 : ByteArray) : Option (List T) :=
 some [T.st [T.s s0_0, T.s s0_1]]
def f144 (c : Orc) (lf : Nat) (s0_0 s0_1 : ByteArray) : Option (List T) := f144_t c lf s0_0 s0_1
theorem f144_eq (c : Orc) (lf : Nat) (s0_0 s0_1 : ByteArray) : funK c env lf 6 fi144 [.st [.s s0_0, .s s0_1]] = f144 c lf s0_0 s0_1 := by kernel_rfl
def f137_0_s (c : Orc) (lf : Nat) (l0 : List T) (L : Int → List T → Option (List T)) (x156 : Int) (x157 : List T) : Option (List T) :=
 bif iLt x156 (l0.length : Int) then
  bif inR x156 l0.length then
  (c 144 [T.st [T.s (asS (T.cell (l0.getD x156.toNat T.u) 0)), T.s (asS (T.cell (l0.getD x156.toNat T.u) 1))]]).bind fun r158 =>
  bif inR x156 x157.length then
  L (IntKind.wrap .i64 (x156 + 1)) (x157.set x156.toNat (T.st [T.s (asS (T.cell (nth r158 0) 0)), T.s (asS (T.cell (nth r158 0) 1))]))
  else none
  else none
 else
  some [T.i .i64 0, T.sl x157]
def f137_0_c (l0 : List T) (x156 : Int) (x157 : List T) : CSt := ⟨[.ro 0 true [.s, .s] l0, .rf 1 [] 0 none, .i .i64 x156], [.dead, .row true [.s, .s] x157 0 false]⟩
theorem f137_0_round (c : Orc) (lf : Nat) (l0 : List T) (L : CSt → Option (List T)) (x156 : Int) (x157 : List T) :
 roundK c env lf 6 fi137 1 3 [] [0, 3, 4] (x137_3_0) L (f137_0_c l0 x156 x157) = f137_0_s c lf l0 (fun x156 x157 => L (f137_0_c l0 x156 x157)) x156 x157 := by kernel_rfl
def f137_0 (c : Orc) (lf : Nat) (l0 : List T) : Nat → Int → List T → Option (List T)
 | 0 => fun _ _ => none
 | n + 1 => fun x156 x157 => f137_0_s c lf l0 (f137_0 c lf l0 n) x156 x157
theorem f137_0_eq (c : Orc) (lf : Nat) (l0 : List T) (n : Nat) (x156 : Int) (x157 : List T) :
 lpK c env lf 6 fi137 1 3 [] [0, 3, 4] (x137_3_0) n (f137_0_c l0 x156 x157) = f137_0 c lf l0 n x156 x157 := by
 induction n generalizing x156 x157 with
 | zero => rfl
 | succ n ih =>
  refine (f137_0_round c lf l0 _ x156 x157).trans ?_
  have e : (fun x156 x157 => lpK c env lf 6 fi137 1 3 [] [0, 3, 4] (x137_3_0) n (f137_0_c l0 x156 x157)) = f137_0 c lf l0 n := by funext x156 x157; exact ih x156 x157
  show f137_0_s c lf l0 (fun x156 x157 => lpK c env lf 6 fi137 1 3 [] [0, 3, 4] (x137_3_0) n (f137_0_c l0 x156 x157)) x156 x157 = _
  rw [e]; rfl
def f137_t (c : Orc) (lf : Nat) (lp0 : List T → Int → List T → Option (List T)) (l0 : List T) : Option (List T) :=
 bif iLe 0 (l0.length : Int) && iLe (l0.length : Int) (LIM : Int) && ((l0.length : Int) == (l0.length : Int)) then
 (lp0 l0 0 (List.replicate (l0.length : Int).toNat (T.st [T.s (⟨#[]⟩ : ByteArray), T.s (⟨#[]⟩ : ByteArray)]))).bind fun r159 =>
 some [T.sl (asL (nth r159 1))]
 else none
def f137 (c : Orc) (lf : Nat) (l0 : List T) : Option (List T) := f137_t c lf (fun (l0 : List T) (x156 : Int) (x157 : List T) => f137_0 c lf l0 lf x156 x157) l0
theorem f137_raw (c : Orc) (lf : Nat) (l0 : List T) : funK c env lf 6 fi137 [.sl l0] = f137_t c lf (fun (l0 : List T) (x156 : Int) (x157 : List T) => lpK c env lf 6 fi137 1 3 [] [0, 3, 4] (x137_3_0) lf (f137_0_c l0 x156 x157)) l0 := by kernel_rfl
theorem f137_eq (c : Orc) (lf : Nat) (l0 : List T) : funK c env lf 6 fi137 [.sl l0] = f137 c lf l0 := by
 refine (f137_raw c lf l0).trans ?_
 have e0 : (fun (l0 : List T) (x156 : Int) (x157 : List T) => lpK c env lf 6 fi137 1 3 [] [0, 3, 4] (x137_3_0) lf (f137_0_c l0 x156 x157)) = (fun (l0 : List T) (x156 : Int) (x157 : List T) => f137_0 c lf l0 lf x156 x157) := by funext l0 x156 x157; exact f137_0_eq c lf l0 lf x156 x157
 rw [e0]; rfl
def f127_t (c : Orc) (lf : Nat) (n0_0 n0_1 n0_2 : Int) (l0_3 l0_4 l0_5 : List T) : Option (List T) :=
 (c 135 [T.sl l0_3]).bind fun r160 =>
 (c 136 [T.sl l0_4]).bind fun r161 =>
 (c 137 [T.sl l0_5]).bind fun r162 =>
 some [T.st [T.i .i64 n0_0, T.i .i64 n0_1, T.i .i64 n0_2, T.sl (asL (nth r160 0)), T.sl (asL (nth r161 0)), T.sl (asL (nth r162 0))]]
def f127 (c : Orc) (lf : Nat) (n0_0 n0_1 n0_2 : Int) (l0_3 l0_4 l0_5 : List T) : Option (List T) := f127_t c lf n0_0 n0_1 n0_2 l0_3 l0_4 l0_5
theorem f127_eq (c : Orc) (lf : Nat) (n0_0 n0_1 n0_2 : Int) (l0_3 l0_4 l0_5 : List T) : funK c env lf 6 fi127 [.st [.i .i64 n0_0, .i .i64 n0_1, .i .i64 n0_2, .sl l0_3, .sl l0_4, .sl l0_5]] = f127 c lf n0_0 n0_1 n0_2 l0_3 l0_4 l0_5 := by kernel_rfl
def f120_0_s (c : Orc) (lf : Nat) (l0 : List T) (L : Int → List T → Option (List T)) (x169 : Int) (x170 : List T) : Option (List T) :=
 bif iLt x169 (l0.length : Int) then
  bif inR x169 l0.length then
  (c 127 [T.st [T.i .i64 (asI (T.cell (l0.getD x169.toNat T.u) 0)), T.i .i64 (asI (T.cell (l0.getD x169.toNat T.u) 1)), T.i .i64 (asI (T.cell (l0.getD x169.toNat T.u) 2)), T.sl (asL (T.cell (l0.getD x169.toNat T.u) 3)), T.sl (asL (T.cell (l0.getD x169.toNat T.u) 4)), T.sl (asL (T.cell (l0.getD x169.toNat T.u) 5))]]).bind fun r171 =>
  bif inR x169 x170.length then
  L (IntKind.wrap .i64 (x169 + 1)) (x170.set x169.toNat (T.st [T.i .i64 (asI (T.cell (nth r171 0) 0)), T.i .i64 (asI (T.cell (nth r171 0) 1)), T.i .i64 (asI (T.cell (nth r171 0) 2)), T.sl (asL (T.cell (nth r171 0) 3)), T.sl (asL (T.cell (nth r171 0) 4)), T.sl (asL (T.cell (nth r171 0) 5))]))
  else none
  else none
 else
  some [T.i .i64 0, T.sl x170]
def f120_0_c (l0 : List T) (x169 : Int) (x170 : List T) : CSt := ⟨[.ro 0 true [.i .i64, .i .i64, .i .i64, .sl false [.i .u8], .sl true [.s, .i .i64], .sl true [.s, .s]] l0, .rf 1 [] 0 none, .i .i64 x169], [.dead, .row true [.i .i64, .i .i64, .i .i64, .sl false [.i .u8], .sl true [.s, .i .i64], .sl true [.s, .s]] x170 0 false]⟩
theorem f120_0_round (c : Orc) (lf : Nat) (l0 : List T) (L : CSt → Option (List T)) (x169 : Int) (x170 : List T) :
 roundK c env lf 6 fi120 1 3 [] [0, 3, 4] (x120_3_0) L (f120_0_c l0 x169 x170) = f120_0_s c lf l0 (fun x169 x170 => L (f120_0_c l0 x169 x170)) x169 x170 := by kernel_rfl
def f120_0 (c : Orc) (lf : Nat) (l0 : List T) : Nat → Int → List T → Option (List T)
 | 0 => fun _ _ => none
 | n + 1 => fun x169 x170 => f120_0_s c lf l0 (f120_0 c lf l0 n) x169 x170
theorem f120_0_eq (c : Orc) (lf : Nat) (l0 : List T) (n : Nat) (x169 : Int) (x170 : List T) :
 lpK c env lf 6 fi120 1 3 [] [0, 3, 4] (x120_3_0) n (f120_0_c l0 x169 x170) = f120_0 c lf l0 n x169 x170 := by
 induction n generalizing x169 x170 with
 | zero => rfl
 | succ n ih =>
  refine (f120_0_round c lf l0 _ x169 x170).trans ?_
  have e : (fun x169 x170 => lpK c env lf 6 fi120 1 3 [] [0, 3, 4] (x120_3_0) n (f120_0_c l0 x169 x170)) = f120_0 c lf l0 n := by funext x169 x170; exact ih x169 x170
  show f120_0_s c lf l0 (fun x169 x170 => lpK c env lf 6 fi120 1 3 [] [0, 3, 4] (x120_3_0) n (f120_0_c l0 x169 x170)) x169 x170 = _
  rw [e]; rfl
def f120_t (c : Orc) (lf : Nat) (lp0 : List T → Int → List T → Option (List T)) (l0 : List T) : Option (List T) :=
 bif iLe 0 (l0.length : Int) && iLe (l0.length : Int) (LIM : Int) && ((l0.length : Int) == (l0.length : Int)) then
 (lp0 l0 0 (List.replicate (l0.length : Int).toNat (T.st [T.i .i64 0, T.i .i64 0, T.i .i64 0, T.sl [], T.sl [], T.sl []]))).bind fun r172 =>
 some [T.sl (asL (nth r172 1))]
 else none
def f120 (c : Orc) (lf : Nat) (l0 : List T) : Option (List T) := f120_t c lf (fun (l0 : List T) (x169 : Int) (x170 : List T) => f120_0 c lf l0 lf x169 x170) l0
theorem f120_raw (c : Orc) (lf : Nat) (l0 : List T) : funK c env lf 6 fi120 [.sl l0] = f120_t c lf (fun (l0 : List T) (x169 : Int) (x170 : List T) => lpK c env lf 6 fi120 1 3 [] [0, 3, 4] (x120_3_0) lf (f120_0_c l0 x169 x170)) l0 := by kernel_rfl
theorem f120_eq (c : Orc) (lf : Nat) (l0 : List T) : funK c env lf 6 fi120 [.sl l0] = f120 c lf l0 := by
 refine (f120_raw c lf l0).trans ?_
 have e0 : (fun (l0 : List T) (x169 : Int) (x170 : List T) => lpK c env lf 6 fi120 1 3 [] [0, 3, 4] (x120_3_0) lf (f120_0_c l0 x169 x170)) = (fun (l0 : List T) (x169 : Int) (x170 : List T) => f120_0 c lf l0 lf x169 x170) := by funext l0 x169 x170; exact f120_0_eq c lf l0 lf x169 x170
 rw [e0]; rfl
def f103_t (c : Orc) (lf : Nat) (l0_0 : List T) (n0_1 : Int) : Option (List T) :=
 (c 120 [T.sl l0_0]).bind fun r173 =>
 some [T.st [T.sl (asL (nth r173 0)), T.i .i64 n0_1]]
def f103 (c : Orc) (lf : Nat) (l0_0 : List T) (n0_1 : Int) : Option (List T) := f103_t c lf l0_0 n0_1
theorem f103_eq (c : Orc) (lf : Nat) (l0_0 : List T) (n0_1 : Int) : funK c env lf 6 fi103 [.st [.sl l0_0, .i .i64 n0_1]] = f103 c lf l0_0 n0_1 := by kernel_rfl
def f78_t (c : Orc) (lf : Nat) (n0_0 : Int) (s0_1 : ByteArray) (b0_2 : Bool) (n0_3 : Int) (l0_4 : List T) (n0_5 : Int) : Option (List T) :=
 (c 103 [T.st [T.sl l0_4, T.i .i64 n0_5]]).bind fun r174 =>
 some [T.st [T.i .i64 n0_0, T.s s0_1, T.b b0_2, T.i .i64 n0_3, T.sl (asL (T.cell (nth r174 0) 0)), T.i .i64 (asI (T.cell (nth r174 0) 1))]]
def f78 (c : Orc) (lf : Nat) (n0_0 : Int) (s0_1 : ByteArray) (b0_2 : Bool) (n0_3 : Int) (l0_4 : List T) (n0_5 : Int) : Option (List T) := f78_t c lf n0_0 s0_1 b0_2 n0_3 l0_4 n0_5
theorem f78_eq (c : Orc) (lf : Nat) (n0_0 : Int) (s0_1 : ByteArray) (b0_2 : Bool) (n0_3 : Int) (l0_4 : List T) (n0_5 : Int) : funK c env lf 6 fi78 [.st [.i .i64 n0_0, .s s0_1, .b b0_2, .i .i64 n0_3, .sl l0_4, .i .i64 n0_5]] = f78 c lf n0_0 s0_1 b0_2 n0_3 l0_4 n0_5 := by kernel_rfl
def f53_0_s (c : Orc) (lf : Nat) (l0 : List T) (L : Int → List T → Option (List T)) (x181 : Int) (x182 : List T) : Option (List T) :=
 bif iLt x181 (l0.length : Int) then
  bif inR x181 l0.length then
  (c 78 [T.st [T.i .i64 (asI (T.cell (l0.getD x181.toNat T.u) 0)), T.s (asS (T.cell (l0.getD x181.toNat T.u) 1)), T.b (asB (T.cell (l0.getD x181.toNat T.u) 2)), T.i .i64 (asI (T.cell (l0.getD x181.toNat T.u) 3)), T.sl (asL (T.cell (l0.getD x181.toNat T.u) 4)), T.i .i64 (asI (T.cell (l0.getD x181.toNat T.u) 5))]]).bind fun r183 =>
  bif inR x181 x182.length then
  L (IntKind.wrap .i64 (x181 + 1)) (x182.set x181.toNat (T.st [T.i .i64 (asI (T.cell (nth r183 0) 0)), T.s (asS (T.cell (nth r183 0) 1)), T.b (asB (T.cell (nth r183 0) 2)), T.i .i64 (asI (T.cell (nth r183 0) 3)), T.sl (asL (T.cell (nth r183 0) 4)), T.i .i64 (asI (T.cell (nth r183 0) 5))]))
  else none
  else none
 else
  some [T.i .i64 0, T.sl x182]
def f53_0_c (l0 : List T) (x181 : Int) (x182 : List T) : CSt := ⟨[.ro 0 true [.i .i64, .s, .b, .i .i64, .sl true [.i .i64, .i .i64, .i .i64, .sl false [.i .u8], .sl true [.s, .i .i64], .sl true [.s, .s]], .i .i64] l0, .rf 1 [] 0 none, .i .i64 x181], [.dead, .row true [.i .i64, .s, .b, .i .i64, .sl true [.i .i64, .i .i64, .i .i64, .sl false [.i .u8], .sl true [.s, .i .i64], .sl true [.s, .s]], .i .i64] x182 0 false]⟩
theorem f53_0_round (c : Orc) (lf : Nat) (l0 : List T) (L : CSt → Option (List T)) (x181 : Int) (x182 : List T) :
 roundK c env lf 6 fi53 1 3 [] [0, 3, 4] (x53_3_0) L (f53_0_c l0 x181 x182) = f53_0_s c lf l0 (fun x181 x182 => L (f53_0_c l0 x181 x182)) x181 x182 := by kernel_rfl
def f53_0 (c : Orc) (lf : Nat) (l0 : List T) : Nat → Int → List T → Option (List T)
 | 0 => fun _ _ => none
 | n + 1 => fun x181 x182 => f53_0_s c lf l0 (f53_0 c lf l0 n) x181 x182
theorem f53_0_eq (c : Orc) (lf : Nat) (l0 : List T) (n : Nat) (x181 : Int) (x182 : List T) :
 lpK c env lf 6 fi53 1 3 [] [0, 3, 4] (x53_3_0) n (f53_0_c l0 x181 x182) = f53_0 c lf l0 n x181 x182 := by
 induction n generalizing x181 x182 with
 | zero => rfl
 | succ n ih =>
  refine (f53_0_round c lf l0 _ x181 x182).trans ?_
  have e : (fun x181 x182 => lpK c env lf 6 fi53 1 3 [] [0, 3, 4] (x53_3_0) n (f53_0_c l0 x181 x182)) = f53_0 c lf l0 n := by funext x181 x182; exact ih x181 x182
  show f53_0_s c lf l0 (fun x181 x182 => lpK c env lf 6 fi53 1 3 [] [0, 3, 4] (x53_3_0) n (f53_0_c l0 x181 x182)) x181 x182 = _
  rw [e]; rfl
def f53_t (c : Orc) (lf : Nat) (lp0 : List T → Int → List T → Option (List T)) (l0 : List T) : Option (List T) :=
 bif iLe 0 (l0.length : Int) && iLe (l0.length : Int) (LIM : Int) && ((l0.length : Int) == (l0.length : Int)) then
 (lp0 l0 0 (List.replicate (l0.length : Int).toNat (T.st [T.i .i64 0, T.s (⟨#[]⟩ : ByteArray), T.b false, T.i .i64 0, T.sl [], T.i .i64 0]))).bind fun r184 =>
 some [T.sl (asL (nth r184 1))]
 else none
def f53 (c : Orc) (lf : Nat) (l0 : List T) : Option (List T) := f53_t c lf (fun (l0 : List T) (x181 : Int) (x182 : List T) => f53_0 c lf l0 lf x181 x182) l0
theorem f53_raw (c : Orc) (lf : Nat) (l0 : List T) : funK c env lf 6 fi53 [.sl l0] = f53_t c lf (fun (l0 : List T) (x181 : Int) (x182 : List T) => lpK c env lf 6 fi53 1 3 [] [0, 3, 4] (x53_3_0) lf (f53_0_c l0 x181 x182)) l0 := by kernel_rfl
theorem f53_eq (c : Orc) (lf : Nat) (l0 : List T) : funK c env lf 6 fi53 [.sl l0] = f53 c lf l0 := by
 refine (f53_raw c lf l0).trans ?_
 have e0 : (fun (l0 : List T) (x181 : Int) (x182 : List T) => lpK c env lf 6 fi53 1 3 [] [0, 3, 4] (x53_3_0) lf (f53_0_c l0 x181 x182)) = (fun (l0 : List T) (x181 : Int) (x182 : List T) => f53_0 c lf l0 lf x181 x182) := by funext l0 x181 x182; exact f53_0_eq c lf l0 lf x181 x182
 rw [e0]; rfl
def f26_t (c : Orc) (lf : Nat) (l0_0 : List T) (n0_1 : Int) : Option (List T) :=
 (c 53 [T.sl l0_0]).bind fun r185 =>
 some [T.st [T.sl (asL (nth r185 0)), T.i .i64 n0_1]]
def f26 (c : Orc) (lf : Nat) (l0_0 : List T) (n0_1 : Int) : Option (List T) := f26_t c lf l0_0 n0_1
theorem f26_eq (c : Orc) (lf : Nat) (l0_0 : List T) (n0_1 : Int) : funK c env lf 6 fi26 [.st [.sl l0_0, .i .i64 n0_1]] = f26 c lf l0_0 n0_1 := by kernel_rfl
def f79_t (c : Orc) (lf : Nat) (n0_0 : Int) (s0_1 : ByteArray) (b0_2 : Bool) (n0_3 n0_4 : Int) : Option (List T) :=
 some [T.st [T.i .i64 n0_0, T.s s0_1, T.b b0_2, T.i .i64 n0_3, T.i .i64 n0_4]]
def f79 (c : Orc) (lf : Nat) (n0_0 : Int) (s0_1 : ByteArray) (b0_2 : Bool) (n0_3 n0_4 : Int) : Option (List T) := f79_t c lf n0_0 s0_1 b0_2 n0_3 n0_4
theorem f79_eq (c : Orc) (lf : Nat) (n0_0 : Int) (s0_1 : ByteArray) (b0_2 : Bool) (n0_3 n0_4 : Int) : funK c env lf 6 fi79 [.st [.i .i64 n0_0, .s s0_1, .b b0_2, .i .i64 n0_3, .i .i64 n0_4]] = f79 c lf n0_0 s0_1 b0_2 n0_3 n0_4 := by kernel_rfl
def f54_0_s (c : Orc) (lf : Nat) (l0 : List T) (L : Int → List T → Option (List T)) (x192 : Int) (x193 : List T) : Option (List T) :=
 bif iLt x192 (l0.length : Int) then
  bif inR x192 l0.length then
  (c 79 [T.st [T.i .i64 (asI (T.cell (l0.getD x192.toNat T.u) 0)), T.s (asS (T.cell (l0.getD x192.toNat T.u) 1)), T.b (asB (T.cell (l0.getD x192.toNat T.u) 2)), T.i .i64 (asI (T.cell (l0.getD x192.toNat T.u) 3)), T.i .i64 (asI (T.cell (l0.getD x192.toNat T.u) 4))]]).bind fun r194 =>
  bif inR x192 x193.length then
  L (IntKind.wrap .i64 (x192 + 1)) (x193.set x192.toNat (T.st [T.i .i64 (asI (T.cell (nth r194 0) 0)), T.s (asS (T.cell (nth r194 0) 1)), T.b (asB (T.cell (nth r194 0) 2)), T.i .i64 (asI (T.cell (nth r194 0) 3)), T.i .i64 (asI (T.cell (nth r194 0) 4))]))
  else none
  else none
 else
  some [T.i .i64 0, T.sl x193]
def f54_0_c (l0 : List T) (x192 : Int) (x193 : List T) : CSt := ⟨[.ro 0 true [.i .i64, .s, .b, .i .i64, .i .i64] l0, .rf 1 [] 0 none, .i .i64 x192], [.dead, .row true [.i .i64, .s, .b, .i .i64, .i .i64] x193 0 false]⟩
theorem f54_0_round (c : Orc) (lf : Nat) (l0 : List T) (L : CSt → Option (List T)) (x192 : Int) (x193 : List T) :
 roundK c env lf 6 fi54 1 3 [] [0, 3, 4] (x54_3_0) L (f54_0_c l0 x192 x193) = f54_0_s c lf l0 (fun x192 x193 => L (f54_0_c l0 x192 x193)) x192 x193 := by kernel_rfl
def f54_0 (c : Orc) (lf : Nat) (l0 : List T) : Nat → Int → List T → Option (List T)
 | 0 => fun _ _ => none
 | n + 1 => fun x192 x193 => f54_0_s c lf l0 (f54_0 c lf l0 n) x192 x193
theorem f54_0_eq (c : Orc) (lf : Nat) (l0 : List T) (n : Nat) (x192 : Int) (x193 : List T) :
 lpK c env lf 6 fi54 1 3 [] [0, 3, 4] (x54_3_0) n (f54_0_c l0 x192 x193) = f54_0 c lf l0 n x192 x193 := by
 induction n generalizing x192 x193 with
 | zero => rfl
 | succ n ih =>
  refine (f54_0_round c lf l0 _ x192 x193).trans ?_
  have e : (fun x192 x193 => lpK c env lf 6 fi54 1 3 [] [0, 3, 4] (x54_3_0) n (f54_0_c l0 x192 x193)) = f54_0 c lf l0 n := by funext x192 x193; exact ih x192 x193
  show f54_0_s c lf l0 (fun x192 x193 => lpK c env lf 6 fi54 1 3 [] [0, 3, 4] (x54_3_0) n (f54_0_c l0 x192 x193)) x192 x193 = _
  rw [e]; rfl
def f54_t (c : Orc) (lf : Nat) (lp0 : List T → Int → List T → Option (List T)) (l0 : List T) : Option (List T) :=
 bif iLe 0 (l0.length : Int) && iLe (l0.length : Int) (LIM : Int) && ((l0.length : Int) == (l0.length : Int)) then
 (lp0 l0 0 (List.replicate (l0.length : Int).toNat (T.st [T.i .i64 0, T.s (⟨#[]⟩ : ByteArray), T.b false, T.i .i64 0, T.i .i64 0]))).bind fun r195 =>
 some [T.sl (asL (nth r195 1))]
 else none
def f54 (c : Orc) (lf : Nat) (l0 : List T) : Option (List T) := f54_t c lf (fun (l0 : List T) (x192 : Int) (x193 : List T) => f54_0 c lf l0 lf x192 x193) l0
theorem f54_raw (c : Orc) (lf : Nat) (l0 : List T) : funK c env lf 6 fi54 [.sl l0] = f54_t c lf (fun (l0 : List T) (x192 : Int) (x193 : List T) => lpK c env lf 6 fi54 1 3 [] [0, 3, 4] (x54_3_0) lf (f54_0_c l0 x192 x193)) l0 := by kernel_rfl
theorem f54_eq (c : Orc) (lf : Nat) (l0 : List T) : funK c env lf 6 fi54 [.sl l0] = f54 c lf l0 := by
 refine (f54_raw c lf l0).trans ?_
 have e0 : (fun (l0 : List T) (x192 : Int) (x193 : List T) => lpK c env lf 6 fi54 1 3 [] [0, 3, 4] (x54_3_0) lf (f54_0_c l0 x192 x193)) = (fun (l0 : List T) (x192 : Int) (x193 : List T) => f54_0 c lf l0 lf x192 x193) := by funext l0 x192 x193; exact f54_0_eq c lf l0 lf x192 x193
 rw [e0]; rfl
def f27_t (c : Orc) (lf : Nat) (n0_0 : Int) (l0_1 : List T) : Option (List T) :=
 (c 54 [T.sl l0_1]).bind fun r196 =>
 some [T.st [T.i .i64 n0_0, T.sl (asL (nth r196 0))]]
def f27 (c : Orc) (lf : Nat) (n0_0 : Int) (l0_1 : List T) : Option (List T) := f27_t c lf n0_0 l0_1
theorem f27_eq (c : Orc) (lf : Nat) (n0_0 : Int) (l0_1 : List T) : funK c env lf 6 fi27 [.st [.i .i64 n0_0, .sl l0_1]] = f27 c lf n0_0 l0_1 := by kernel_rfl
def f104_t (c : Orc) (lf : Nat) (n0_0 n0_1 : Int) : Option (List T) :=
 some [T.st [T.i .i64 n0_0, T.i .i64 n0_1]]
def f104 (c : Orc) (lf : Nat) (n0_0 n0_1 : Int) : Option (List T) := f104_t c lf n0_0 n0_1
theorem f104_eq (c : Orc) (lf : Nat) (n0_0 n0_1 : Int) : funK c env lf 6 fi104 [.st [.i .i64 n0_0, .i .i64 n0_1]] = f104 c lf n0_0 n0_1 := by kernel_rfl
def f80_0_s (c : Orc) (lf : Nat) (l0 : List T) (L : Int → List T → Option (List T)) (x203 : Int) (x204 : List T) : Option (List T) :=
 bif iLt x203 (l0.length : Int) then
  bif inR x203 l0.length then
  (c 104 [T.st [T.i .i64 (asI (T.cell (l0.getD x203.toNat T.u) 0)), T.i .i64 (asI (T.cell (l0.getD x203.toNat T.u) 1))]]).bind fun r205 =>
  bif inR x203 x204.length then
  L (IntKind.wrap .i64 (x203 + 1)) (x204.set x203.toNat (T.st [T.i .i64 (asI (T.cell (nth r205 0) 0)), T.i .i64 (asI (T.cell (nth r205 0) 1))]))
  else none
  else none
 else
  some [T.i .i64 0, T.sl x204]
def f80_0_c (l0 : List T) (x203 : Int) (x204 : List T) : CSt := ⟨[.ro 0 true [.i .i64, .i .i64] l0, .rf 1 [] 0 none, .i .i64 x203], [.dead, .row true [.i .i64, .i .i64] x204 0 false]⟩
theorem f80_0_round (c : Orc) (lf : Nat) (l0 : List T) (L : CSt → Option (List T)) (x203 : Int) (x204 : List T) :
 roundK c env lf 6 fi80 1 3 [] [0, 3, 4] (x80_3_0) L (f80_0_c l0 x203 x204) = f80_0_s c lf l0 (fun x203 x204 => L (f80_0_c l0 x203 x204)) x203 x204 := by kernel_rfl
def f80_0 (c : Orc) (lf : Nat) (l0 : List T) : Nat → Int → List T → Option (List T)
 | 0 => fun _ _ => none
 | n + 1 => fun x203 x204 => f80_0_s c lf l0 (f80_0 c lf l0 n) x203 x204
theorem f80_0_eq (c : Orc) (lf : Nat) (l0 : List T) (n : Nat) (x203 : Int) (x204 : List T) :
 lpK c env lf 6 fi80 1 3 [] [0, 3, 4] (x80_3_0) n (f80_0_c l0 x203 x204) = f80_0 c lf l0 n x203 x204 := by
 induction n generalizing x203 x204 with
 | zero => rfl
 | succ n ih =>
  refine (f80_0_round c lf l0 _ x203 x204).trans ?_
  have e : (fun x203 x204 => lpK c env lf 6 fi80 1 3 [] [0, 3, 4] (x80_3_0) n (f80_0_c l0 x203 x204)) = f80_0 c lf l0 n := by funext x203 x204; exact ih x203 x204
  show f80_0_s c lf l0 (fun x203 x204 => lpK c env lf 6 fi80 1 3 [] [0, 3, 4] (x80_3_0) n (f80_0_c l0 x203 x204)) x203 x204 = _
  rw [e]; rfl
def f80_t (c : Orc) (lf : Nat) (lp0 : List T → Int → List T → Option (List T)) (l0 : List T) : Option (List T) :=
 bif iLe 0 (l0.length : Int) && iLe (l0.length : Int) (LIM : Int) && ((l0.length : Int) == (l0.length : Int)) then
 (lp0 l0 0 (List.replicate (l0.length : Int).toNat (T.st [T.i .i64 0, T.i .i64 0]))).bind fun r206 =>
 some [T.sl (asL (nth r206 1))]
 else none
def f80 (c : Orc) (lf : Nat) (l0 : List T) : Option (List T) := f80_t c lf (fun (l0 : List T) (x203 : Int) (x204 : List T) => f80_0 c lf l0 lf x203 x204) l0
theorem f80_raw (c : Orc) (lf : Nat) (l0 : List T) : funK c env lf 6 fi80 [.sl l0] = f80_t c lf (fun (l0 : List T) (x203 : Int) (x204 : List T) => lpK c env lf 6 fi80 1 3 [] [0, 3, 4] (x80_3_0) lf (f80_0_c l0 x203 x204)) l0 := by kernel_rfl
theorem f80_eq (c : Orc) (lf : Nat) (l0 : List T) : funK c env lf 6 fi80 [.sl l0] = f80 c lf l0 := by
 refine (f80_raw c lf l0).trans ?_
 have e0 : (fun (l0 : List T) (x203 : Int) (x204 : List T) => lpK c env lf 6 fi80 1 3 [] [0, 3, 4] (x80_3_0) lf (f80_0_c l0 x203 x204)) = (fun (l0 : List T) (x203 : Int) (x204 : List T) => f80_0 c lf l0 lf x203 x204) := by funext l0 x203 x204; exact f80_0_eq c lf l0 lf x203 x204
 rw [e0]; rfl
def f55_t (c : Orc) (lf : Nat) (n0_0 : Int) (l0_1 : List T) : Option (List T) :=
 (c 80 [T.sl l0_1]).bind fun r207 =>
 some [T.st [T.i .i64 n0_0, T.sl (asL (nth r207 0))]]
def f55 (c : Orc) (lf : Nat) (n0_0 : Int) (l0_1 : List T) : Option (List T) := f55_t c lf n0_0 l0_1
theorem f55_eq (c : Orc) (lf : Nat) (n0_0 : Int) (l0_1 : List T) : funK c env lf 6 fi55 [.st [.i .i64 n0_0, .sl l0_1]] = f55 c lf n0_0 l0_1 := by kernel_rfl
def f28_0_s (c : Orc) (lf : Nat) (l0 : List T) (L : Int → List T → Option (List T)) (x214 : Int) (x215 : List T) : Option (List T) :=
 bif iLt x214 (l0.length : Int) then
  bif inR x214 l0.length then
  (c 55 [T.st [T.i .i64 (asI (T.cell (l0.getD x214.toNat T.u) 0)), T.sl (asL (T.cell (l0.getD x214.toNat T.u) 1))]]).bind fun r216 =>
  bif inR x214 x215.length then
  L (IntKind.wrap .i64 (x214 + 1)) (x215.set x214.toNat (T.st [T.i .i64 (asI (T.cell (nth r216 0) 0)), T.sl (asL (T.cell (nth r216 0) 1))]))
  else none
  else none
 else
  some [T.i .i64 0, T.sl x215]
def f28_0_c (l0 : List T) (x214 : Int) (x215 : List T) : CSt := ⟨[.ro 0 true [.i .i64, .sl true [.i .i64, .i .i64]] l0, .rf 1 [] 0 none, .i .i64 x214], [.dead, .row true [.i .i64, .sl true [.i .i64, .i .i64]] x215 0 false]⟩
theorem f28_0_round (c : Orc) (lf : Nat) (l0 : List T) (L : CSt → Option (List T)) (x214 : Int) (x215 : List T) :
 roundK c env lf 6 fi28 1 3 [] [0, 3, 4] (x28_3_0) L (f28_0_c l0 x214 x215) = f28_0_s c lf l0 (fun x214 x215 => L (f28_0_c l0 x214 x215)) x214 x215 := by kernel_rfl
def f28_0 (c : Orc) (lf : Nat) (l0 : List T) : Nat → Int → List T → Option (List T)
 | 0 => fun _ _ => none
 | n + 1 => fun x214 x215 => f28_0_s c lf l0 (f28_0 c lf l0 n) x214 x215
theorem f28_0_eq (c : Orc) (lf : Nat) (l0 : List T) (n : Nat) (x214 : Int) (x215 : List T) :
 lpK c env lf 6 fi28 1 3 [] [0, 3, 4] (x28_3_0) n (f28_0_c l0 x214 x215) = f28_0 c lf l0 n x214 x215 := by
 induction n generalizing x214 x215 with
 | zero => rfl
 | succ n ih =>
  refine (f28_0_round c lf l0 _ x214 x215).trans ?_
  have e : (fun x214 x215 => lpK c env lf 6 fi28 1 3 [] [0, 3, 4] (x28_3_0) n (f28_0_c l0 x214 x215)) = f28_0 c lf l0 n := by funext x214 x215; exact ih x214 x215
  show f28_0_s c lf l0 (fun x214 x215 => lpK c env lf 6 fi28 1 3 [] [0, 3, 4] (x28_3_0) n (f28_0_c l0 x214 x215)) x214 x215 = _
  rw [e]; rfl
def f28_t (c : Orc) (lf : Nat) (lp0 : List T → Int → List T → Option (List T)) (l0 : List T) : Option (List T) :=
 bif iLe 0 (l0.length : Int) && iLe (l0.length : Int) (LIM : Int) && ((l0.length : Int) == (l0.length : Int)) then
 (lp0 l0 0 (List.replicate (l0.length : Int).toNat (T.st [T.i .i64 0, T.sl []]))).bind fun r217 =>
 some [T.sl (asL (nth r217 1))]
 else none
def f28 (c : Orc) (lf : Nat) (l0 : List T) : Option (List T) := f28_t c lf (fun (l0 : List T) (x214 : Int) (x215 : List T) => f28_0 c lf l0 lf x214 x215) l0
theorem f28_raw (c : Orc) (lf : Nat) (l0 : List T) : funK c env lf 6 fi28 [.sl l0] = f28_t c lf (fun (l0 : List T) (x214 : Int) (x215 : List T) => lpK c env lf 6 fi28 1 3 [] [0, 3, 4] (x28_3_0) lf (f28_0_c l0 x214 x215)) l0 := by kernel_rfl
theorem f28_eq (c : Orc) (lf : Nat) (l0 : List T) : funK c env lf 6 fi28 [.sl l0] = f28 c lf l0 := by
 refine (f28_raw c lf l0).trans ?_
 have e0 : (fun (l0 : List T) (x214 : Int) (x215 : List T) => lpK c env lf 6 fi28 1 3 [] [0, 3, 4] (x28_3_0) lf (f28_0_c l0 x214 x215)) = (fun (l0 : List T) (x214 : Int) (x215 : List T) => f28_0 c lf l0 lf x214 x215) := by funext l0 x214 x215; exact f28_0_eq c lf l0 lf x214 x215
 rw [e0]; rfl
def f8_t (c : Orc) (lf : Nat) (l0_0 : List T) (n0_1 n0_2 : Int) (l0_3 l0_4 : List T) (n0_5 n0_6 : Int) : Option (List T) :=
 (c 26 [T.st [T.sl l0_0, T.i .i64 n0_1]]).bind fun r218 =>
 (c 27 [T.st [T.i .i64 n0_2, T.sl l0_3]]).bind fun r219 =>
 (c 28 [T.sl l0_4]).bind fun r220 =>
 some [T.st [T.sl (asL (T.cell (nth r218 0) 0)), T.i .i64 (asI (T.cell (nth r218 0) 1)), T.i .i64 (asI (T.cell (nth r219 0) 0)), T.sl (asL (T.cell (nth r219 0) 1)), T.sl (asL (nth r220 0)), T.i .i64 n0_5, T.i .i64 n0_6]]
def f8 (c : Orc) (lf : Nat) (l0_0 : List T) (n0_1 n0_2 : Int) (l0_3 l0_4 : List T) (n0_5 n0_6 : Int) : Option (List T) := f8_t c lf l0_0 n0_1 n0_2 l0_3 l0_4 n0_5 n0_6
theorem f8_eq (c : Orc) (lf : Nat) (l0_0 : List T) (n0_1 n0_2 : Int) (l0_3 l0_4 : List T) (n0_5 n0_6 : Int) : funK c env lf 6 fi8 [.st [.sl l0_0, .i .i64 n0_1, .i .i64 n0_2, .sl l0_3, .sl l0_4, .i .i64 n0_5, .i .i64 n0_6]] = f8 c lf l0_0 n0_1 n0_2 l0_3 l0_4 n0_5 n0_6 := by kernel_rfl
def f42_0_s (c : Orc) (lf : Nat) (l0 : List T) (n1 : Int) (L : Int → Option (List T)) (x223 : Int) : Option (List T) :=
 bif iLt x223 (l0.length : Int) then
  bif inR x223 l0.length then
  bif (asI (l0.getD x223.toNat T.u)) == n1 then
   some [T.i .i64 0, T.b true]
  else
   L (IntKind.wrap .i64 (x223 + 1))
  else none
 else
  some [T.i .i64 1]
def f42_0_c (l0 : List T) (n1 x223 : Int) : CSt := ⟨[.ro 0 false [.i .i64] l0, .i .i64 n1, .i .i64 x223], [.dead, .dead]⟩
theorem f42_0_round (c : Orc) (lf : Nat) (l0 : List T) (n1 : Int) (L : CSt → Option (List T)) (x223 : Int) :
 roundK c env lf 6 fi42 2 2 [] [0, 1, 5] (x42_2_0) L (f42_0_c l0 n1 x223) = f42_0_s c lf l0 n1 (fun x223 => L (f42_0_c l0 n1 x223)) x223 := by kernel_rfl
def f42_0 (c : Orc) (lf : Nat) (l0 : List T) (n1 : Int) : Nat → Int → Option (List T)
 | 0 => fun _ => none
 | n + 1 => fun x223 => f42_0_s c lf l0 n1 (f42_0 c lf l0 n1 n) x223
theorem f42_0_u (c : Orc) (lf : Nat) (l0 : List T) (n1 : Int) (n : Nat) (x223 : Int) : f42_0 c lf l0 n1 (n + 1) x223 = f42_0_s c lf l0 n1 (f42_0 c lf l0 n1 n) x223 := rfl
theorem f42_0_eq (c : Orc) (lf : Nat) (l0 : List T) (n1 : Int) (n : Nat) (x223 : Int) :
 lpK c env lf 6 fi42 2 2 [] [0, 1, 5] (x42_2_0) n (f42_0_c l0 n1 x223) = f42_0 c lf l0 n1 n x223 := by
 induction n generalizing x223 with
 | zero => rfl
 | succ n ih =>
  refine (f42_0_round c lf l0 n1 _ x223).trans ?_
  have e : (fun x223 => lpK c env lf 6 fi42 2 2 [] [0, 1, 5] (x42_2_0) n (f42_0_c l0 n1 x223)) = f42_0 c lf l0 n1 n := by funext x223; exact ih x223
  show f42_0_s c lf l0 n1 (fun x223 => lpK c env lf 6 fi42 2 2 [] [0, 1, 5] (x42_2_0) n (f42_0_c l0 n1 x223)) x223 = _
  rw [e]; rfl
def f42_t (c : Orc) (lf : Nat) (lp0 : List T → Int → Int → Option (List T)) (l0 : List T) (n1 : Int) : Option (List T) :=
 (lp0 l0 n1 0).bind fun r224 =>
 bif asI (nth r224 0) == 0 then
  some [T.b (asB (nth r224 1))]
 else
  some [T.b false]
def f42 (c : Orc) (lf : Nat) (l0 : List T) (n1 : Int) : Option (List T) := f42_t c lf (fun (l0 : List T) (n1 x223 : Int) => f42_0 c lf l0 n1 lf x223) l0 n1
theorem f42_raw (c : Orc) (lf : Nat) (l0 : List T) (n1 : Int) : funK c env lf 6 fi42 [.sl l0, .i .i64 n1] = f42_t c lf (fun (l0 : List T) (n1 x223 : Int) => lpK c env lf 6 fi42 2 2 [] [0, 1, 5] (x42_2_0) lf (f42_0_c l0 n1 x223)) l0 n1 := by kernel_rfl
theorem f42_eq (c : Orc) (lf : Nat) (l0 : List T) (n1 : Int) : funK c env lf 6 fi42 [.sl l0, .i .i64 n1] = f42 c lf l0 n1 := by
 refine (f42_raw c lf l0 n1).trans ?_
 have e0 : (fun (l0 : List T) (n1 x223 : Int) => lpK c env lf 6 fi42 2 2 [] [0, 1, 5] (x42_2_0) lf (f42_0_c l0 n1 x223)) = (fun (l0 : List T) (n1 x223 : Int) => f42_0 c lf l0 n1 lf x223) := by funext l0 n1 x223; exact f42_0_eq c lf l0 n1 lf x223
 rw [e0]; rfl
def f52_0_s (c : Orc) (lf : Nat) (n1 : Int) (L : Int → List T → Option (List T)) (x234 : Int) (x235 : List T) : Option (List T) :=
 bif iLt 0 x234 then
  bif inR (IntKind.wrap .i64 (x234 - 1)) x235.length then
  bif iLt n1 (asI (x235.getD ((IntKind.wrap .i64 (x234 - 1)).toNat) T.u)) then
   bif inR (IntKind.wrap .i64 (x234 - 1)) x235.length then
   bif inR x234 x235.length then
   L (IntKind.wrap .i64 (x234 - 1)) (x235.set x234.toNat (T.i .i64 (asI (x235.getD ((IntKind.wrap .i64 (x234 - 1)).toNat) T.u))))
   else none
   else none
  else
   some [T.i .i64 0, T.i .i64 n1, T.i .i64 x234, T.sl x235]
  else none
 else
  some [T.i .i64 0, T.i .i64 n1, T.i .i64 x234, T.sl x235]
def f52_0_c (n1 x234 : Int) (x235 : List T) : CSt := ⟨[.i .i64 n1, .rf 2 [] 0 none, .i .i64 x234], [.dead, .dead, .row false [.i .i64] x235 0 false]⟩
theorem f52_0_round (c : Orc) (lf : Nat) (n1 : Int) (L : CSt → Option (List T)) (x234 : Int) (x235 : List T) :
 roundK c env lf 6 fi52 2 5 [] [1, 5, 6] (x52_5_0) L (f52_0_c n1 x234 x235) = f52_0_s c lf n1 (fun x234 x235 => L (f52_0_c n1 x234 x235)) x234 x235 := by kernel_rfl
def f52_0 (c : Orc) (lf : Nat) (n1 : Int) : Nat → Int → List T → Option (List T)
 | 0 => fun _ _ => none
 | n + 1 => fun x234 x235 => f52_0_s c lf n1 (f52_0 c lf n1 n) x234 x235
theorem f52_0_u (c : Orc) (lf : Nat) (n1 : Int) (n : Nat) (x234 : Int) (x235 : List T) : f52_0 c lf n1 (n + 1) x234 x235 = f52_0_s c lf n1 (f52_0 c lf n1 n) x234 x235 := rfl
theorem f52_0_eq (c : Orc) (lf : Nat) (n1 : Int) (n : Nat) (x234 : Int) (x235 : List T) :
 lpK c env lf 6 fi52 2 5 [] [1, 5, 6] (x52_5_0) n (f52_0_c n1 x234 x235) = f52_0 c lf n1 n x234 x235 := by
 induction n generalizing x234 x235 with
 | zero => rfl
 | succ n ih =>
  refine (f52_0_round c lf n1 _ x234 x235).trans ?_
  have e : (fun x234 x235 => lpK c env lf 6 fi52 2 5 [] [1, 5, 6] (x52_5_0) n (f52_0_c n1 x234 x235)) = f52_0 c lf n1 n := by funext x234 x235; exact ih x234 x235
  show f52_0_s c lf n1 (fun x234 x235 => lpK c env lf 6 fi52 2 5 [] [1, 5, 6] (x52_5_0) n (f52_0_c n1 x234 x235)) x234 x235 = _
  rw [e]; rfl
def f52_t (c : Orc) (lf : Nat) (lp0 : Int → Int → List T → Option (List T)) (l0 : List T) (n1 : Int) : Option (List T) :=
 (c 42 [T.sl l0, T.i .i64 n1]).bind fun r233 =>
 bif asB (nth r233 0) then
  some [T.sl l0]
 else
  bif nLe (([] : List T).length + l0.length) LIM then
  bif nLe ((([] : List T) ++ l0).length + ([T.i .i64 n1] : List T).length) LIM then
  (lp0 n1 (IntKind.wrap .i64 ((((([] : List T) ++ l0) ++ ([T.i .i64 n1] : List T)).length : Int) - 1)) ((([] : List T) ++ l0) ++ ([T.i .i64 n1] : List T))).bind fun r236 =>
  bif inR (asI (nth r236 2)) ((asL (nth r236 3)).length) then
  some [T.sl ((asL (nth r236 3)).set ((asI (nth r236 2)).toNat) (T.i .i64 (asI (nth r236 1))))]
  else none
  else none
  else none
def f52 (c : Orc) (lf : Nat) (l0 : List T) (n1 : Int) : Option (List T) := f52_t c lf (fun (n1 x234 : Int) (x235 : List T) => f52_0 c lf n1 lf x234 x235) l0 n1
theorem f52_raw (c : Orc) (lf : Nat) (l0 : List T) (n1 : Int) : funK c env lf 6 fi52 [.sl l0, .i .i64 n1] = f52_t c lf (fun (n1 x234 : Int) (x235 : List T) => lpK c env lf 6 fi52 2 5 [] [1, 5, 6] (x52_5_0) lf (f52_0_c n1 x234 x235)) l0 n1 := by kernel_rfl
theorem f52_eq (c : Orc) (lf : Nat) (l0 : List T) (n1 : Int) : funK c env lf 6 fi52 [.sl l0, .i .i64 n1] = f52 c lf l0 n1 := by
 refine (f52_raw c lf l0 n1).trans ?_
 have e0 : (fun (n1 x234 : Int) (x235 : List T) => lpK c env lf 6 fi52 2 5 [] [1, 5, 6] (x52_5_0) lf (f52_0_c n1 x234 x235)) = (fun (n1 x234 : Int) (x235 : List T) => f52_0 c lf n1 lf x234 x235) := by funext n1 x234 x235; exact f52_0_eq c lf n1 lf x234 x235
 rw [e0]; rfl
def f25_t (c : Orc) (lf : Nat) (l0 : List T) (n1 : Int) : Option (List T) :=
 bif iLt n1 0 then
  some [T.sl l0]
 else
  (c 52 [T.sl l0, T.i .i64 n1]).bind fun r238 =>
  some [T.sl (asL (nth r238 0))]
def f25 (c : Orc) (lf : Nat) (l0 : List T) (n1 : Int) : Option (List T) := f25_t c lf l0 n1
theorem f25_eq (c : Orc) (lf : Nat) (l0 : List T) (n1 : Int) : funK c env lf 6 fi25 [.sl l0, .i .i64 n1] = f25 c lf l0 n1 := by kernel_rfl
def f7_0_s (c : Orc) (lf : Nat) (l0_0 l0_3 l0_4 : List T) (n0_1 n0_2 : Int) (n0_5 n0_6 : Int) (L : List T → Int → Option (List T)) (x296 : List T) (x297 : Int) : Option (List T) :=
 bif iLt x297 (l0_3.length : Int) then
  bif inR x297 l0_3.length then
  (c 25 [T.sl x296, T.i .i64 (asI (T.cell (l0_3.getD x297.toNat T.u) 4))]).bind fun r298 =>
  L (asL (nth r298 0)) (IntKind.wrap .i64 (x297 + 1))
  else none
 else
  some [T.i .i64 0, T.sl x296, T.sl l0_0, T.i .i64 n0_1, T.i .i64 n0_2, T.sl l0_3, T.sl l0_4, T.i .i64 n0_5, T.i .i64 n0_6]
def f7_0_c (l0_0 l0_3 l0_4 : List T) (n0_1 n0_2 : Int) (n0_5 n0_6 : Int) (x296 : List T) (x297 : Int) : CSt := ⟨[.bp 7 0, .ro 0 false [.i .i64] x296, .i .i64 x297], [.dead, .dead, .dead, .dead, .dead, .dead, .dead, .box [.ro 0 true [.i .i64, .s, .b, .i .i64, .sl true [.i .i64, .i .i64, .i .i64, .sl false [.i .u8], .sl true [.s, .i .i64], .sl true [.s, .s]], .i .i64] l0_0, .i .i64 n0_1, .i .i64 n0_2, .ro 0 true [.i .i64, .s, .b, .i .i64, .i .i64] l0_3, .ro 0 true [.i .i64, .sl true [.i .i64, .i .i64]] l0_4, .i .i64 n0_5, .i .i64 n0_6]]⟩
theorem f7_0_round (c : Orc) (lf : Nat) (l0_0 l0_3 l0_4 : List T) (n0_1 n0_2 : Int) (n0_5 n0_6 : Int) (L : CSt → Option (List T)) (x296 : List T) (x297 : Int) :
 roundK c env lf 6 fi7 7 3 [] [1, 3, 4] (x7_3_0) L (f7_0_c l0_0 l0_3 l0_4 n0_1 n0_2 n0_5 n0_6 x296 x297) = f7_0_s c lf l0_0 l0_3 l0_4 n0_1 n0_2 n0_5 n0_6 (fun x296 x297 => L (f7_0_c l0_0 l0_3 l0_4 n0_1 n0_2 n0_5 n0_6 x296 x297)) x296 x297 := by kernel_rfl
def f7_0 (c : Orc) (lf : Nat) (l0_0 l0_3 l0_4 : List T) (n0_1 n0_2 : Int) (n0_5 n0_6 : Int) : Nat → List T → Int → Option (List T)
 | 0 => fun _ _ => none
 | n + 1 => fun x296 x297 => f7_0_s c lf l0_0 l0_3 l0_4 n0_1 n0_2 n0_5 n0_6 (f7_0 c lf l0_0 l0_3 l0_4 n0_1 n0_2 n0_5 n0_6 n) x296 x297
theorem f7_0_u (c : Orc) (lf : Nat) (l0_0 l0_3 l0_4 : List T) (n0_1 n0_2 : Int) (n0_5 n0_6 : Int) (n : Nat) (x296 : List T) (x297 : Int) : f7_0 c lf l0_0 l0_3 l0_4 n0_1 n0_2 n0_5 n0_6 (n + 1) x296 x297 = f7_0_s c lf l0_0 l0_3 l0_4 n0_1 n0_2 n0_5 n0_6 (f7_0 c lf l0_0 l0_3 l0_4 n0_1 n0_2 n0_5 n0_6 n) x296 x297 := rfl
theorem f7_0_eq (c : Orc) (lf : Nat) (l0_0 l0_3 l0_4 : List T) (n0_1 n0_2 : Int) (n0_5 n0_6 : Int) (n : Nat) (x296 : List T) (x297 : Int) :
 lpK c env lf 6 fi7 7 3 [] [1, 3, 4] (x7_3_0) n (f7_0_c l0_0 l0_3 l0_4 n0_1 n0_2 n0_5 n0_6 x296 x297) = f7_0 c lf l0_0 l0_3 l0_4 n0_1 n0_2 n0_5 n0_6 n x296 x297 := by
 induction n generalizing x296 x297 with
 | zero => rfl
 | succ n ih =>
  refine (f7_0_round c lf l0_0 l0_3 l0_4 n0_1 n0_2 n0_5 n0_6 _ x296 x297).trans ?_
  have e : (fun x296 x297 => lpK c env lf 6 fi7 7 3 [] [1, 3, 4] (x7_3_0) n (f7_0_c l0_0 l0_3 l0_4 n0_1 n0_2 n0_5 n0_6 x296 x297)) = f7_0 c lf l0_0 l0_3 l0_4 n0_1 n0_2 n0_5 n0_6 n := by funext x296 x297; exact ih x296 x297
  show f7_0_s c lf l0_0 l0_3 l0_4 n0_1 n0_2 n0_5 n0_6 (fun x296 x297 => lpK c env lf 6 fi7 7 3 [] [1, 3, 4] (x7_3_0) n (f7_0_c l0_0 l0_3 l0_4 n0_1 n0_2 n0_5 n0_6 x296 x297)) x296 x297 = _
  rw [e]; rfl
def f7_2_s (c : Orc) (lf : Nat) (x306 : Int) (x307 : List T) (x308 x309 : Int) (x310 x311 : List T) (x312 x313 : Int) (L : List T → Int → Option (List T)) (x315 : List T) (x316 : Int) : Option (List T) :=
 bif inR x306 x311.length then
 bif iLt x316 ((asL (T.cell (x311.getD x306.toNat T.u) 1)).length : Int) then
  bif inR x306 x311.length then
  bif inR x316 ((asL (T.cell (x311.getD x306.toNat T.u) 1)).length) then
  (c 25 [T.sl x315, T.i .i64 (asI (T.cell ((asL (T.cell (x311.getD x306.toNat T.u) 1)).getD x316.toNat T.u) 1))]).bind fun r317 =>
  L (asL (nth r317 0)) (IntKind.wrap .i64 (x316 + 1))
  else none
  else none
 else
  some [T.i .i64 0, T.sl x315, T.i .i64 x306, T.sl x307, T.i .i64 x308, T.i .i64 x309, T.sl x310, T.sl x311, T.i .i64 x312, T.i .i64 x313]
 else none
def f7_2_c (x306 : Int) (x307 : List T) (x308 x309 : Int) (x310 x311 : List T) (x312 x313 : Int) (x315 : List T) (x316 : Int) : CSt := ⟨[.bp 7 0, .ro 0 false [.i .i64] x315, .i .i64 x306, .i .i64 x316], [.dead, .dead, .dead, .dead, .dead, .dead, .dead, .box [.ro 0 true [.i .i64, .s, .b, .i .i64, .sl true [.i .i64, .i .i64, .i .i64, .sl false [.i .u8], .sl true [.s, .i .i64], .sl true [.s, .s]], .i .i64] x307, .i .i64 x308, .i .i64 x309, .ro 0 true [.i .i64, .s, .b, .i .i64, .i .i64] x310, .ro 0 true [.i .i64, .sl true [.i .i64, .i .i64]] x311, .i .i64 x312, .i .i64 x313]]⟩
theorem f7_2_round (c : Orc) (lf : Nat) (x306 : Int) (x307 : List T) (x308 x309 : Int) (x310 x311 : List T) (x312 x313 : Int) (L : CSt → Option (List T)) (x315 : List T) (x316 : Int) :
 roundK c env lf 6 fi7 7 10 [] [1, 3, 5, 6] (x7_10_0) L (f7_2_c x306 x307 x308 x309 x310 x311 x312 x313 x315 x316) = f7_2_s c lf x306 x307 x308 x309 x310 x311 x312 x313 (fun x315 x316 => L (f7_2_c x306 x307 x308 x309 x310 x311 x312 x313 x315 x316)) x315 x316 := by kernel_rfl
def f7_2 (c : Orc) (lf : Nat) (x306 : Int) (x307 : List T) (x308 x309 : Int) (x310 x311 : List T) (x312 x313 : Int) : Nat → List T → Int → Option (List T)
 | 0 => fun _ _ => none
 | n + 1 => fun x315 x316 => f7_2_s c lf x306 x307 x308 x309 x310 x311 x312 x313 (f7_2 c lf x306 x307 x308 x309 x310 x311 x312 x313 n) x315 x316
theorem f7_2_u (c : Orc) (lf : Nat) (x306 : Int) (x307 : List T) (x308 x309 : Int) (x310 x311 : List T) (x312 x313 : Int) (n : Nat) (x315 : List T) (x316 : Int) : f7_2 c lf x306 x307 x308 x309 x310 x311 x312 x313 (n + 1) x315 x316 = f7_2_s c lf x306 x307 x308 x309 x310 x311 x312 x313 (f7_2 c lf x306 x307 x308 x309 x310 x311 x312 x313 n) x315 x316 := rfl
theorem f7_2_eq (c : Orc) (lf : Nat) (x306 : Int) (x307 : List T) (x308 x309 : Int) (x310 x311 : List T) (x312 x313 : Int) (n : Nat) (x315 : List T) (x316 : Int) :
 lpK c env lf 6 fi7 7 10 [] [1, 3, 5, 6] (x7_10_0) n (f7_2_c x306 x307 x308 x309 x310 x311 x312 x313 x315 x316) = f7_2 c lf x306 x307 x308 x309 x310 x311 x312 x313 n x315 x316 := by
 induction n generalizing x315 x316 with
 | zero => rfl
 | succ n ih =>
  refine (f7_2_round c lf x306 x307 x308 x309 x310 x311 x312 x313 _ x315 x316).trans ?_
  have e : (fun x315 x316 => lpK c env lf 6 fi7 7 10 [] [1, 3, 5, 6] (x7_10_0) n (f7_2_c x306 x307 x308 x309 x310 x311 x312 x313 x315 x316)) = f7_2 c lf x306 x307 x308 x309 x310 x311 x312 x313 n := by funext x315 x316; exact ih x315 x316
  show f7_2_s c lf x306 x307 x308 x309 x310 x311 x312 x313 (fun x315 x316 => lpK c env lf 6 fi7 7 10 [] [1, 3, 5, 6] (x7_10_0) n (f7_2_c x306 x307 x308 x309 x310 x311 x312 x313 x315 x316)) x315 x316 = _
  rw [e]; rfl
def f7_1_s (c : Orc) (lf : Nat) (L : List T → Int → List T → Int → Int → List T → List T → Int → Int → Option (List T)) (lp0 : Int → List T → Int → Int → List T → List T → Int → Int → List T → Int → Option (List T)) (x305 : List T) (x306 : Int) (x307 : List T) (x308 x309 : Int) (x310 x311 : List T) (x312 x313 : Int) : Option (List T) :=
 bif iLt x306 (x311.length : Int) then
  (lp0 x306 x307 x308 x309 x310 x311 x312 x313 x305 0).bind fun r318 =>
  L (asL (nth r318 1)) (IntKind.wrap .i64 ((asI (nth r318 2)) + 1)) (asL (nth r318 3)) (asI (nth r318 4)) (asI (nth r318 5)) (asL (nth r318 6)) (asL (nth r318 7)) (asI (nth r318 8)) (asI (nth r318 9))
 else
  some [T.i .i64 0, T.sl x305]
def f7_1_c (x305 : List T) (x306 : Int) (x307 : List T) (x308 x309 : Int) (x310 x311 : List T) (x312 x313 : Int) : CSt := ⟨[.bp 7 0, .ro 0 false [.i .i64] x305, .i .i64 x306], [.dead, .dead, .dead, .dead, .dead, .dead, .dead, .box [.ro 0 true [.i .i64, .s, .b, .i .i64, .sl true [.i .i64, .i .i64, .i .i64, .sl false [.i .u8], .sl true [.s, .i .i64], .sl true [.s, .s]], .i .i64] x307, .i .i64 x308, .i .i64 x309, .ro 0 true [.i .i64, .s, .b, .i .i64, .i .i64] x310, .ro 0 true [.i .i64, .sl true [.i .i64, .i .i64]] x311, .i .i64 x312, .i .i64 x313]]⟩
theorem f7_1_round (c : Orc) (lf : Nat) (L : CSt → Option (List T)) (x305 : List T) (x306 : Int) (x307 : List T) (x308 x309 : Int) (x310 x311 : List T) (x312 x313 : Int) :
 roundK c env lf 6 fi7 7 7 [] [1, 3, 5] (x7_7_0) L (f7_1_c x305 x306 x307 x308 x309 x310 x311 x312 x313) = f7_1_s c lf (fun x305 x306 x307 x308 x309 x310 x311 x312 x313 => L (f7_1_c x305 x306 x307 x308 x309 x310 x311 x312 x313)) (fun (x306 : Int) (x307 : List T) (x308 x309 : Int) (x310 x311 : List T) (x312 x313 : Int) (x315 : List T) (x316 : Int) => lpK c env lf 6 fi7 7 10 [] [1, 3, 5, 6] (x7_10_0) lf (f7_2_c x306 x307 x308 x309 x310 x311 x312 x313 x315 x316)) x305 x306 x307 x308 x309 x310 x311 x312 x313 := by kernel_rfl
def f7_1 (c : Orc) (lf : Nat) : Nat → List T → Int → List T → Int → Int → List T → List T → Int → Int → Option (List T)
 | 0 => fun _ _ _ _ _ _ _ _ _ => none
 | n + 1 => fun x305 x306 x307 x308 x309 x310 x311 x312 x313 => f7_1_s c lf (f7_1 c lf n) (fun (x306 : Int) (x307 : List T) (x308 x309 : Int) (x310 x311 : List T) (x312 x313 : Int) (x315 : List T) (x316 : Int) => f7_2 c lf x306 x307 x308 x309 x310 x311 x312 x313 lf x315 x316) x305 x306 x307 x308 x309 x310 x311 x312 x313
theorem f7_1_u (c : Orc) (lf n : Nat) (x305 : List T) (x306 : Int) (x307 : List T) (x308 x309 : Int) (x310 x311 : List T) (x312 x313 : Int) : f7_1 c lf (n + 1) x305 x306 x307 x308 x309 x310 x311 x312 x313 = f7_1_s c lf (f7_1 c lf n) (fun (x306 : Int) (x307 : List T) (x308 x309 : Int) (x310 x311 : List T) (x312 x313 : Int) (x315 : List T) (x316 : Int) => f7_2 c lf x306 x307 x308 x309 x310 x311 x312 x313 lf x315 x316) x305 x306 x307 x308 x309 x310 x311 x312 x313 := rfl
theorem f7_1_eq (c : Orc) (lf n : Nat) (x305 : List T) (x306 : Int) (x307 : List T) (x308 x309 : Int) (x310 x311 : List T) (x312 x313 : Int) :
 lpK c env lf 6 fi7 7 7 [] [1, 3, 5] (x7_7_0) n (f7_1_c x305 x306 x307 x308 x309 x310 x311 x312 x313) = f7_1 c lf n x305 x306 x307 x308 x309 x310 x311 x312 x313 := by
 induction n generalizing x305 x306 x307 x308 x309 x310 x311 x312 x313 with
 | zero => rfl
 | succ n ih =>
  refine (f7_1_round c lf _ x305 x306 x307 x308 x309 x310 x311 x312 x313).trans ?_
  have e : (fun x305 x306 x307 x308 x309 x310 x311 x312 x313 => lpK c env lf 6 fi7 7 7 [] [1, 3, 5] (x7_7_0) n (f7_1_c x305 x306 x307 x308 x309 x310 x311 x312 x313)) = f7_1 c lf n := by funext x305 x306 x307 x308 x309 x310 x311 x312 x313; exact ih x305 x306 x307 x308 x309 x310 x311 x312 x313
  have e0 : (fun (x306 : Int) (x307 : List T) (x308 x309 : Int) (x310 x311 : List T) (x312 x313 : Int) (x315 : List T) (x316 : Int) => lpK c env lf 6 fi7 7 10 [] [1, 3, 5, 6] (x7_10_0) lf (f7_2_c x306 x307 x308 x309 x310 x311 x312 x313 x315 x316)) = (fun (x306 : Int) (x307 : List T) (x308 x309 : Int) (x310 x311 : List T) (x312 x313 : Int) (x315 : List T) (x316 : Int) => f7_2 c lf x306 x307 x308 x309 x310 x311 x312 x313 lf x315 x316) := by funext x306 x307 x308 x309 x310 x311 x312 x313 x315 x316; exact f7_2_eq c lf x306 x307 x308 x309 x310 x311 x312 x313 lf x315 x316
  show f7_1_s c lf (fun x305 x306 x307 x308 x309 x310 x311 x312 x313 => lpK c env lf 6 fi7 7 7 [] [1, 3, 5] (x7_7_0) n (f7_1_c x305 x306 x307 x308 x309 x310 x311 x312 x313)) (fun (x306 : Int) (x307 : List T) (x308 x309 : Int) (x310 x311 : List T) (x312 x313 : Int) (x315 : List T) (x316 : Int) => lpK c env lf 6 fi7 7 10 [] [1, 3, 5, 6] (x7_10_0) lf (f7_2_c x306 x307 x308 x309 x310 x311 x312 x313 x315 x316)) x305 x306 x307 x308 x309 x310 x311 x312 x313 = _
  rw [e, e0]; rfl
def f7_t (c : Orc) (lf : Nat) (lp0 : List T → List T → List T → Int → Int → Int → Int → List T → Int → Option (List T)) (lp1 : List T → Int → List T → Int → Int → List T → List T → Int → Int → Option (List T)) (l0_0 : List T) (n0_1 n0_2 : Int) (l0_3 l0_4 : List T) (n0_5 n0_6 : Int) : Option (List T) :=
 (c 25 [T.sl ([] : List T), T.i .i64 n0_6]).bind fun r293 =>
 (c 25 [T.sl (asL (nth r293 0)), T.i .i64 n0_5]).bind fun r294 =>
 (lp0 l0_0 l0_3 l0_4 n0_1 n0_2 n0_5 n0_6 (asL (nth r294 0)) 0).bind fun r299 =>
 (lp1 (asL (nth r299 1)) 0 (asL (nth r299 2)) (asI (nth r299 3)) (asI (nth r299 4)) (asL (nth r299 5)) (asL (nth r299 6)) (asI (nth r299 7)) (asI (nth r299 8))).bind fun r319 =>
 some [T.sl (asL (nth r319 1))]
def f7 (c : Orc) (lf : Nat) (l0_0 : List T) (n0_1 n0_2 : Int) (l0_3 l0_4 : List T) (n0_5 n0_6 : Int) : Option (List T) := f7_t c lf (fun (l0_0 l0_3 l0_4 : List T) (n0_1 n0_2 : Int) (n0_5 n0_6 : Int) (x296 : List T) (x297 : Int) => f7_0 c lf l0_0 l0_3 l0_4 n0_1 n0_2 n0_5 n0_6 lf x296 x297) (fun (x305 : List T) (x306 : Int) (x307 : List T) (x308 x309 : Int) (x310 x311 : List T) (x312 x313 : Int) => f7_1 c lf lf x305 x306 x307 x308 x309 x310 x311 x312 x313) l0_0 n0_1 n0_2 l0_3 l0_4 n0_5 n0_6
theorem f7_raw (c : Orc) (lf : Nat) (l0_0 : List T) (n0_1 n0_2 : Int) (l0_3 l0_4 : List T) (n0_5 n0_6 : Int) : funK c env lf 6 fi7 [.st [.sl l0_0, .i .i64 n0_1, .i .i64 n0_2, .sl l0_3, .sl l0_4, .i .i64 n0_5, .i .i64 n0_6]] = f7_t c lf (fun (l0_0 l0_3 l0_4 : List T) (n0_1 n0_2 : Int) (n0_5 n0_6 : Int) (x296 : List T) (x297 : Int) => lpK c env lf 6 fi7 7 3 [] [1, 3, 4] (x7_3_0) lf (f7_0_c l0_0 l0_3 l0_4 n0_1 n0_2 n0_5 n0_6 x296 x297)) (fun (x305 : List T) (x306 : Int) (x307 : List T) (x308 x309 : Int) (x310 x311 : List T) (x312 x313 : Int) => lpK c env lf 6 fi7 7 7 [] [1, 3, 5] (x7_7_0) lf (f7_1_c x305 x306 x307 x308 x309 x310 x311 x312 x313)) l0_0 n0_1 n0_2 l0_3 l0_4 n0_5 n0_6 := by kernel_rfl
theorem f7_eq (c : Orc) (lf : Nat) (l0_0 : List T) (n0_1 n0_2 : Int) (l0_3 l0_4 : List T) (n0_5 n0_6 : Int) : funK c env lf 6 fi7 [.st [.sl l0_0, .i .i64 n0_1, .i .i64 n0_2, .sl l0_3, .sl l0_4, .i .i64 n0_5, .i .i64 n0_6]] = f7 c lf l0_0 n0_1 n0_2 l0_3 l0_4 n0_5 n0_6 := by
 refine (f7_raw c lf l0_0 n0_1 n0_2 l0_3 l0_4 n0_5 n0_6).trans ?_
 have e0 : (fun (l0_0 l0_3 l0_4 : List T) (n0_1 n0_2 : Int) (n0_5 n0_6 : Int) (x296 : List T) (x297 : Int) => lpK c env lf 6 fi7 7 3 [] [1, 3, 4] (x7_3_0) lf (f7_0_c l0_0 l0_3 l0_4 n0_1 n0_2 n0_5 n0_6 x296 x297)) = (fun (l0_0 l0_3 l0_4 : List T) (n0_1 n0_2 : Int) (n0_5 n0_6 : Int) (x296 : List T) (x297 : Int) => f7_0 c lf l0_0 l0_3 l0_4 n0_1 n0_2 n0_5 n0_6 lf x296 x297) := by funext l0_0 l0_3 l0_4 n0_1 n0_2 n0_5 n0_6 x296 x297; exact f7_0_eq c lf l0_0 l0_3 l0_4 n0_1 n0_2 n0_5 n0_6 lf x296 x297
 have e1 : (fun (x305 : List T) (x306 : Int) (x307 : List T) (x308 x309 : Int) (x310 x311 : List T) (x312 x313 : Int) => lpK c env lf 6 fi7 7 7 [] [1, 3, 5] (x7_7_0) lf (f7_1_c x305 x306 x307 x308 x309 x310 x311 x312 x313)) = (fun (x305 : List T) (x306 : Int) (x307 : List T) (x308 x309 : Int) (x310 x311 : List T) (x312 x313 : Int) => f7_1 c lf lf x305 x306 x307 x308 x309 x310 x311 x312 x313) := by funext x305 x306 x307 x308 x309 x310 x311 x312 x313; exact f7_1_eq c lf lf x305 x306 x307 x308 x309 x310 x311 x312 x313
 rw [e0, e1]; rfl
def f16_0_s (c : Orc) (lf : Nat) (b0_3 : Bool) (l0_0 l0_2 : List T) (n2 n0_1 n0_4 : Int) (r326 : List T) (L : Int → Int → Option (List T)) (x328 x329 : Int) : Option (List T) :=
 bif iLe 0 n2 then
  bif iLt n2 (l0_0.length : Int) then
   bif inR n2 l0_0.length then
   bif iLt x329 ((asL (T.cell (l0_0.getD n2.toNat T.u) 0)).length : Int) then
    bif inR n2 l0_0.length then
    bif inR x329 ((asL (T.cell (l0_0.getD n2.toNat T.u) 0)).length) then
    bif asB (T.cell ((asL (T.cell (l0_0.getD n2.toNat T.u) 0)).getD x329.toNat T.u) 0) then
     (c 42 [T.sl (asL (nth r326 0)), T.i .i64 (IntKind.wrap .i64 ((IntKind.wrap .i64 (n2 * 8)) + x329))]).bind fun r330 =>
     bif !(asB (nth r330 0)) then
      L (IntKind.wrap .i64 (x328 + 1)) (IntKind.wrap .i64 (x329 + 1))
     else
      L x328 (IntKind.wrap .i64 (x329 + 1))
    else
     L x328 (IntKind.wrap .i64 (x329 + 1))
    else none
    else none
   else
    some [T.i .i64 0, T.i .i64 x328]
   else none
  else
   some [T.i .i64 0, T.i .i64 x328]
 else
  some [T.i .i64 0, T.i .i64 x328]
def f16_0_c (b0_3 : Bool) (l0_0 l0_2 : List T) (n2 n0_1 n0_4 : Int) (r326 : List T) (x328 x329 : Int) : CSt := ⟨[.i .i64 n2, .bp 13 0, .ro 0 false [.i .i64] (asL (nth r326 0)), .i .i64 x328, .i .i64 x329], [.dead, .dead, .dead, .dead, .dead, .dead, .dead, .dead, .dead, .dead, .dead, .dead, .dead, .box [.ro 0 true [.sl true [.b, .sl false [.i .u8]], .i .i64, .b] l0_0, .i .i64 n0_1, .ro 0 true [.i .i64, .i .i64, .i .i64] l0_2, .b b0_3, .i .i64 n0_4]]⟩
theorem f16_0_round (c : Orc) (lf : Nat) (b0_3 : Bool) (l0_0 l0_2 : List T) (n2 n0_1 n0_4 : Int) (r326 : List T) (L : CSt → Option (List T)) (x328 x329 : Int) :
 roundK c env lf 6 fi16 13 4 [] [2, 3, 7, 8, 9] (x16_4_0) L (f16_0_c b0_3 l0_0 l0_2 n2 n0_1 n0_4 r326 x328 x329) = f16_0_s c lf b0_3 l0_0 l0_2 n2 n0_1 n0_4 r326 (fun x328 x329 => L (f16_0_c b0_3 l0_0 l0_2 n2 n0_1 n0_4 r326 x328 x329)) x328 x329 := by kernel_rfl
def f16_0 (c : Orc) (lf : Nat) (b0_3 : Bool) (l0_0 l0_2 : List T) (n2 n0_1 n0_4 : Int) (r326 : List T) : Nat → Int → Int → Option (List T)
 | 0 => fun _ _ => none
 | n + 1 => fun x328 x329 => f16_0_s c lf b0_3 l0_0 l0_2 n2 n0_1 n0_4 r326 (f16_0 c lf b0_3 l0_0 l0_2 n2 n0_1 n0_4 r326 n) x328 x329
theorem f16_0_u (c : Orc) (lf : Nat) (b0_3 : Bool) (l0_0 l0_2 : List T) (n2 n0_1 n0_4 : Int) (r326 : List T) (n : Nat) (x328 x329 : Int) : f16_0 c lf b0_3 l0_0 l0_2 n2 n0_1 n0_4 r326 (n + 1) x328 x329 = f16_0_s c lf b0_3 l0_0 l0_2 n2 n0_1 n0_4 r326 (f16_0 c lf b0_3 l0_0 l0_2 n2 n0_1 n0_4 r326 n) x328 x329 := rfl
theorem f16_0_eq (c : Orc) (lf : Nat) (b0_3 : Bool) (l0_0 l0_2 : List T) (n2 n0_1 n0_4 : Int) (r326 : List T) (n : Nat) (x328 x329 : Int) :
 lpK c env lf 6 fi16 13 4 [] [2, 3, 7, 8, 9] (x16_4_0) n (f16_0_c b0_3 l0_0 l0_2 n2 n0_1 n0_4 r326 x328 x329) = f16_0 c lf b0_3 l0_0 l0_2 n2 n0_1 n0_4 r326 n x328 x329 := by
 induction n generalizing x328 x329 with
 | zero => rfl
 | succ n ih =>
  refine (f16_0_round c lf b0_3 l0_0 l0_2 n2 n0_1 n0_4 r326 _ x328 x329).trans ?_
  have e : (fun x328 x329 => lpK c env lf 6 fi16 13 4 [] [2, 3, 7, 8, 9] (x16_4_0) n (f16_0_c b0_3 l0_0 l0_2 n2 n0_1 n0_4 r326 x328 x329)) = f16_0 c lf b0_3 l0_0 l0_2 n2 n0_1 n0_4 r326 n := by funext x328 x329; exact ih x328 x329
  show f16_0_s c lf b0_3 l0_0 l0_2 n2 n0_1 n0_4 r326 (fun x328 x329 => lpK c env lf 6 fi16 13 4 [] [2, 3, 7, 8, 9] (x16_4_0) n (f16_0_c b0_3 l0_0 l0_2 n2 n0_1 n0_4 r326 x328 x329)) x328 x329 = _
  rw [e]; rfl
def f16_t (c : Orc) (lf : Nat) (lp0 : Bool → List T → List T → Int → Int → Int → List T → Int → Int → Option (List T)) (l0_0 : List T) (n0_1 : Int) (l0_2 : List T) (b0_3 : Bool) (n0_4 : Int) (l1_0 : List T) (n1_1 n1_2 : Int) (l1_3 l1_4 : List T) (n1_5 n1_6 n2 : Int) : Option (List T) :=
 (c 7 [T.st [T.sl l1_0, T.i .i64 n1_1, T.i .i64 n1_2, T.sl l1_3, T.sl l1_4, T.i .i64 n1_5, T.i .i64 n1_6]]).bind fun r326 =>
 (lp0 b0_3 l0_0 l0_2 n2 n0_1 n0_4 r326 0 0).bind fun r331 =>
 some [T.i .i64 (asI (nth r331 1))]
def f16 (c : Orc) (lf : Nat) (l0_0 : List T) (n0_1 : Int) (l0_2 : List T) (b0_3 : Bool) (n0_4 : Int) (l1_0 : List T) (n1_1 n1_2 : Int) (l1_3 l1_4 : List T) (n1_5 n1_6 n2 : Int) : Option (List T) := f16_t c lf (fun (b0_3 : Bool) (l0_0 l0_2 : List T) (n2 n0_1 n0_4 : Int) (r326 : List T) (x328 x329 : Int) => f16_0 c lf b0_3 l0_0 l0_2 n2 n0_1 n0_4 r326 lf x328 x329) l0_0 n0_1 l0_2 b0_3 n0_4 l1_0 n1_1 n1_2 l1_3 l1_4 n1_5 n1_6 n2
theorem f16_raw (c : Orc) (lf : Nat) (l0_0 : List T) (n0_1 : Int) (l0_2 : List T) (b0_3 : Bool) (n0_4 : Int) (l1_0 : List T) (n1_1 n1_2 : Int) (l1_3 l1_4 : List T) (n1_5 n1_6 n2 : Int) : funK c env lf 6 fi16 [.st [.sl l0_0, .i .i64 n0_1, .sl l0_2, .b b0_3, .i .i64 n0_4], .st [.sl l1_0, .i .i64 n1_1, .i .i64 n1_2, .sl l1_3, .sl l1_4, .i .i64 n1_5, .i .i64 n1_6], .i .i64 n2] = f16_t c lf (fun (b0_3 : Bool) (l0_0 l0_2 : List T) (n2 n0_1 n0_4 : Int) (r326 : List T) (x328 x329 : Int) => lpK c env lf 6 fi16 13 4 [] [2, 3, 7, 8, 9] (x16_4_0) lf (f16_0_c b0_3 l0_0 l0_2 n2 n0_1 n0_4 r326 x328 x329)) l0_0 n0_1 l0_2 b0_3 n0_4 l1_0 n1_1 n1_2 l1_3 l1_4 n1_5 n1_6 n2 := by kernel_rfl
theorem f16_eq (c : Orc) (lf : Nat) (l0_0 : List T) (n0_1 : Int) (l0_2 : List T) (b0_3 : Bool) (n0_4 : Int) (l1_0 : List T) (n1_1 n1_2 : Int) (l1_3 l1_4 : List T) (n1_5 n1_6 n2 : Int) : funK c env lf 6 fi16 [.st [.sl l0_0, .i .i64 n0_1, .sl l0_2, .b b0_3, .i .i64 n0_4], .st [.sl l1_0, .i .i64 n1_1, .i .i64 n1_2, .sl l1_3, .sl l1_4, .i .i64 n1_5, .i .i64 n1_6], .i .i64 n2] = f16 c lf l0_0 n0_1 l0_2 b0_3 n0_4 l1_0 n1_1 n1_2 l1_3 l1_4 n1_5 n1_6 n2 := by
 refine (f16_raw c lf l0_0 n0_1 l0_2 b0_3 n0_4 l1_0 n1_1 n1_2 l1_3 l1_4 n1_5 n1_6 n2).trans ?_
 have e0 : (fun (b0_3 : Bool) (l0_0 l0_2 : List T) (n2 n0_1 n0_4 : Int) (r326 : List T) (x328 x329 : Int) => lpK c env lf 6 fi16 13 4 [] [2, 3, 7, 8, 9] (x16_4_0) lf (f16_0_c b0_3 l0_0 l0_2 n2 n0_1 n0_4 r326 x328 x329)) = (fun (b0_3 : Bool) (l0_0 l0_2 : List T) (n2 n0_1 n0_4 : Int) (r326 : List T) (x328 x329 : Int) => f16_0 c lf b0_3 l0_0 l0_2 n2 n0_1 n0_4 r326 lf x328 x329) := by funext b0_3 l0_0 l0_2 n2 n0_1 n0_4 r326 x328 x329; exact f16_0_eq c lf b0_3 l0_0 l0_2 n2 n0_1 n0_4 r326 lf x328 x329
 rw [e0]; rfl
def f70_t (c : Orc) (lf : Nat) (n0 n1 n2 : Int) : Option (List T) :=
 bif iLe n1 n0 then
  some [T.b (iLe n0 n2)]
 else
  some [T.b false]
def f70 (c : Orc) (lf : Nat) (n0 n1 n2 : Int) : Option (List T) := f70_t c lf n0 n1 n2
theorem f70_eq (c : Orc) (lf : Nat) (n0 n1 n2 : Int) : funK c env lf 6 fi70 [.i .i64 n0, .i .i64 n1, .i .i64 n2] = f70 c lf n0 n1 n2 := by kernel_rfl
def f44_t (c : Orc) (lf : Nat) (l0_0 : List T) (n1 : Int) : Option (List T) :=
 (c 70 [T.i .i64 n1, T.i .i64 0, T.i .i64 (IntKind.wrap .i64 ((l0_0.length : Int) - 1))]).bind fun r332 =>
 some [T.b (asB (nth r332 0))]
def f44 (c : Orc) (lf : Nat) (l0_0 : List T) (n1 : Int) : Option (List T) := f44_t c lf l0_0 n1
theorem f44_eq (c : Orc) (lf : Nat) (l0_0 : List T) (n1 : Int) : funK c env lf 6 fi44 [.st [.sl l0_0], .i .i64 n1] = f44 c lf l0_0 n1 := by kernel_rfl
def f30_0_s (c : Orc) (lf : Nat) (l0_0 l0_3 l0_4 : List T) (n0_1 n0_2 : Int) (n0_5 n0_6 : Int) (L : Int → List T → Option (List T)) (x347 : Int) (x348 : List T) : Option (List T) :=
 bif iLt x347 (l0_3.length : Int) then
  bif inR x347 l0_3.length then
  bif inR x347 x348.length then
  bif okC (.sl false [.i .i64]) (x348.getD x347.toNat T.u) && true then
  bif nLe ((asL (x348.getD x347.toNat T.u)).length + ([T.i .i64 (asI (T.cell (l0_3.getD x347.toNat T.u) 4))] : List T).length) LIM then
  bif inR x347 ((x348.set x347.toNat T.u).length) then
  L (IntKind.wrap .i64 (x347 + 1)) ((x348.set x347.toNat T.u).set x347.toNat (T.sl ((asL (x348.getD x347.toNat T.u)) ++ ([T.i .i64 (asI (T.cell (l0_3.getD x347.toNat T.u) 4))] : List T))))
  else none
  else none
  else none
  else none
  else none
 else
  some [T.i .i64 0, T.sl l0_0, T.i .i64 n0_1, T.i .i64 n0_2, T.sl l0_3, T.sl l0_4, T.i .i64 n0_5, T.i .i64 n0_6, T.sl x348]
def f30_0_c (l0_0 l0_3 l0_4 : List T) (n0_1 n0_2 : Int) (n0_5 n0_6 x347 : Int) (x348 : List T) : CSt := ⟨[.bp 7 0, .rf 8 [] 0 none, .ro 0 true [.i .i64, .s, .b, .i .i64, .i .i64] l0_3, .i .i64 (l0_3.length : Int), .i .i64 x347], [.dead, .dead, .dead, .dead, .dead, .dead, .dead, .box [.ro 0 true [.i .i64, .s, .b, .i .i64, .sl true [.i .i64, .i .i64, .i .i64, .sl false [.i .u8], .sl true [.s, .i .i64], .sl true [.s, .s]], .i .i64] l0_0, .i .i64 n0_1, .i .i64 n0_2, .ro 0 true [.i .i64, .s, .b, .i .i64, .i .i64] l0_3, .ro 0 true [.i .i64, .sl true [.i .i64, .i .i64]] l0_4, .i .i64 n0_5, .i .i64 n0_6], .row false [.sl false [.i .i64]] x348 0 true]⟩
theorem f30_0_round (c : Orc) (lf : Nat) (l0_0 l0_3 l0_4 : List T) (n0_1 n0_2 : Int) (n0_5 n0_6 : Int) (L : CSt → Option (List T)) (x347 : Int) (x348 : List T) :
 roundK c env lf 6 fi30 7 3 [(3, 1)] [1, 3, 21, 22, 23] (x30_3_0) L (f30_0_c l0_0 l0_3 l0_4 n0_1 n0_2 n0_5 n0_6 x347 x348) = f30_0_s c lf l0_0 l0_3 l0_4 n0_1 n0_2 n0_5 n0_6 (fun x347 x348 => L (f30_0_c l0_0 l0_3 l0_4 n0_1 n0_2 n0_5 n0_6 x347 x348)) x347 x348 := by kernel_rfl
def f30_0 (c : Orc) (lf : Nat) (l0_0 l0_3 l0_4 : List T) (n0_1 n0_2 : Int) (n0_5 n0_6 : Int) : Nat → Int → List T → Option (List T)
 | 0 => fun _ _ => none
 | n + 1 => fun x347 x348 => f30_0_s c lf l0_0 l0_3 l0_4 n0_1 n0_2 n0_5 n0_6 (f30_0 c lf l0_0 l0_3 l0_4 n0_1 n0_2 n0_5 n0_6 n) x347 x348
theorem f30_0_u (c : Orc) (lf : Nat) (l0_0 l0_3 l0_4 : List T) (n0_1 n0_2 : Int) (n0_5 n0_6 : Int) (n : Nat) (x347 : Int) (x348 : List T) : f30_0 c lf l0_0 l0_3 l0_4 n0_1 n0_2 n0_5 n0_6 (n + 1) x347 x348 = f30_0_s c lf l0_0 l0_3 l0_4 n0_1 n0_2 n0_5 n0_6 (f30_0 c lf l0_0 l0_3 l0_4 n0_1 n0_2 n0_5 n0_6 n) x347 x348 := rfl
theorem f30_0_eq (c : Orc) (lf : Nat) (l0_0 l0_3 l0_4 : List T) (n0_1 n0_2 : Int) (n0_5 n0_6 : Int) (n : Nat) (x347 : Int) (x348 : List T) :
 lpK c env lf 6 fi30 7 3 [(3, 1)] [1, 3, 21, 22, 23] (x30_3_0) n (f30_0_c l0_0 l0_3 l0_4 n0_1 n0_2 n0_5 n0_6 x347 x348) = f30_0 c lf l0_0 l0_3 l0_4 n0_1 n0_2 n0_5 n0_6 n x347 x348 := by
 induction n generalizing x347 x348 with
 | zero => rfl
 | succ n ih =>
  refine (f30_0_round c lf l0_0 l0_3 l0_4 n0_1 n0_2 n0_5 n0_6 _ x347 x348).trans ?_
  have e : (fun x347 x348 => lpK c env lf 6 fi30 7 3 [(3, 1)] [1, 3, 21, 22, 23] (x30_3_0) n (f30_0_c l0_0 l0_3 l0_4 n0_1 n0_2 n0_5 n0_6 x347 x348)) = f30_0 c lf l0_0 l0_3 l0_4 n0_1 n0_2 n0_5 n0_6 n := by funext x347 x348; exact ih x347 x348
  show f30_0_s c lf l0_0 l0_3 l0_4 n0_1 n0_2 n0_5 n0_6 (fun x347 x348 => lpK c env lf 6 fi30 7 3 [(3, 1)] [1, 3, 21, 22, 23] (x30_3_0) n (f30_0_c l0_0 l0_3 l0_4 n0_1 n0_2 n0_5 n0_6 x347 x348)) x347 x348 = _
  rw [e]; rfl
def f30_2_s (c : Orc) (lf : Nat) (x353 : List T) (x354 x355 : Int) (L : Int → List T → Option (List T)) (x357 : Int) (x358 : List T) : Option (List T) :=
 bif iLt x357 ((asL (T.cell (x353.getD x355.toNat T.u) 1)).length : Int) then
  bif inR x357 ((asL (T.cell (x353.getD x355.toNat T.u) 1)).length) then
  bif inR x355 x358.length then
  bif okC (.sl false [.i .i64]) (x358.getD x355.toNat T.u) && true then
  bif nLe ((asL (x358.getD x355.toNat T.u)).length + ([T.i .i64 (asI (T.cell ((asL (T.cell (x353.getD x355.toNat T.u) 1)).getD x357.toNat T.u) 1))] : List T).length) LIM then
  bif inR x355 ((x358.set x355.toNat T.u).length) then
  L (IntKind.wrap .i64 (x357 + 1)) ((x358.set x355.toNat T.u).set x355.toNat (T.sl ((asL (x358.getD x355.toNat T.u)) ++ ([T.i .i64 (asI (T.cell ((asL (T.cell (x353.getD x355.toNat T.u) 1)).getD x357.toNat T.u) 1))] : List T))))
  else none
  else none
  else none
  else none
  else none
 else
  some [T.i .i64 0, T.sl x353, T.i .i64 x354, T.i .i64 x355, T.sl x358]
def f30_2_c (x353 : List T) (x354 x355 x357 : Int) (x358 : List T) : CSt := ⟨[.rf 7 [] 0 none, .i .i64 x355, .ro 0 true [.i .i64, .sl true [.i .i64, .i .i64]] x353, .i .i64 x354, .i .i64 x355, .ro 0 true [.i .i64, .i .i64] (asL (T.cell (x353.getD x355.toNat T.u) 1)), .i .i64 ((asL (T.cell (x353.getD x355.toNat T.u) 1)).length : Int), .i .i64 x357], [.dead, .dead, .dead, .dead, .dead, .dead, .dead, .row false [.sl false [.i .i64]] x358 0 true]⟩
theorem f30_2_round (c : Orc) (lf : Nat) (x353 : List T) (x354 x355 : Int) (L : CSt → Option (List T)) (x357 : Int) (x358 : List T) :
 roundK c env lf 6 fi30 7 11 [(3, 1)] [3, 6, 41, 42, 43, 49, 50, 51] (x30_11_0) L (f30_2_c x353 x354 x355 x357 x358) = f30_2_s c lf x353 x354 x355 (fun x357 x358 => L (f30_2_c x353 x354 x355 x357 x358)) x357 x358 := by kernel_rfl
def f30_2 (c : Orc) (lf : Nat) (x353 : List T) (x354 x355 : Int) : Nat → Int → List T → Option (List T)
 | 0 => fun _ _ => none
 | n + 1 => fun x357 x358 => f30_2_s c lf x353 x354 x355 (f30_2 c lf x353 x354 x355 n) x357 x358
theorem f30_2_u (c : Orc) (lf : Nat) (x353 : List T) (x354 x355 : Int) (n : Nat) (x357 : Int) (x358 : List T) : f30_2 c lf x353 x354 x355 (n + 1) x357 x358 = f30_2_s c lf x353 x354 x355 (f30_2 c lf x353 x354 x355 n) x357 x358 := rfl
theorem f30_2_eq (c : Orc) (lf : Nat) (x353 : List T) (x354 x355 : Int) (n : Nat) (x357 : Int) (x358 : List T) :
 lpK c env lf 6 fi30 7 11 [(3, 1)] [3, 6, 41, 42, 43, 49, 50, 51] (x30_11_0) n (f30_2_c x353 x354 x355 x357 x358) = f30_2 c lf x353 x354 x355 n x357 x358 := by
 induction n generalizing x357 x358 with
 | zero => rfl
 | succ n ih =>
  refine (f30_2_round c lf x353 x354 x355 _ x357 x358).trans ?_
  have e : (fun x357 x358 => lpK c env lf 6 fi30 7 11 [(3, 1)] [3, 6, 41, 42, 43, 49, 50, 51] (x30_11_0) n (f30_2_c x353 x354 x355 x357 x358)) = f30_2 c lf x353 x354 x355 n := by funext x357 x358; exact ih x357 x358
  show f30_2_s c lf x353 x354 x355 (fun x357 x358 => lpK c env lf 6 fi30 7 11 [(3, 1)] [3, 6, 41, 42, 43, 49, 50, 51] (x30_11_0) n (f30_2_c x353 x354 x355 x357 x358)) x357 x358 = _
  rw [e]; rfl
def f30_1_s (c : Orc) (lf : Nat) (L : List T → Int → Int → List T → Option (List T)) (lp0 : List T → Int → Int → Int → List T → Option (List T)) (x353 : List T) (x354 x355 : Int) (x356 : List T) : Option (List T) :=
 bif iLt x355 x354 then
  bif inR x355 x353.length then
  (lp0 x353 x354 x355 0 x356).bind fun r359 =>
  L (asL (nth r359 1)) (asI (nth r359 2)) (IntKind.wrap .i64 ((asI (nth r359 3)) + 1)) (asL (nth r359 4))
  else none
 else
  some [T.i .i64 0, T.sl x356]
def f30_1_c (x353 : List T) (x354 x355 : Int) (x356 : List T) : CSt := ⟨[.rf 7 [] 0 none, .ro 0 true [.i .i64, .sl true [.i .i64, .i .i64]] x353, .i .i64 x354, .i .i64 x355], [.dead, .dead, .dead, .dead, .dead, .dead, .dead, .row false [.sl false [.i .i64]] x356 0 true]⟩
theorem f30_1_round (c : Orc) (lf : Nat) (L : CSt → Option (List T)) (x353 : List T) (x354 x355 : Int) (x356 : List T) :
 roundK c env lf 6 fi30 7 8 [(3, 1)] [3, 41, 42, 43] (x30_8_0) L (f30_1_c x353 x354 x355 x356) = f30_1_s c lf (fun x353 x354 x355 x356 => L (f30_1_c x353 x354 x355 x356)) (fun (x353 : List T) (x354 x355 x357 : Int) (x358 : List T) => lpK c env lf 6 fi30 7 11 [(3, 1)] [3, 6, 41, 42, 43, 49, 50, 51] (x30_11_0) lf (f30_2_c x353 x354 x355 x357 x358)) x353 x354 x355 x356 := by kernel_rfl
def f30_1 (c : Orc) (lf : Nat) : Nat → List T → Int → Int → List T → Option (List T)
 | 0 => fun _ _ _ _ => none
 | n + 1 => fun x353 x354 x355 x356 => f30_1_s c lf (f30_1 c lf n) (fun (x353 : List T) (x354 x355 x357 : Int) (x358 : List T) => f30_2 c lf x353 x354 x355 lf x357 x358) x353 x354 x355 x356
theorem f30_1_u (c : Orc) (lf n : Nat) (x353 : List T) (x354 x355 : Int) (x356 : List T) : f30_1 c lf (n + 1) x353 x354 x355 x356 = f30_1_s c lf (f30_1 c lf n) (fun (x353 : List T) (x354 x355 x357 : Int) (x358 : List T) => f30_2 c lf x353 x354 x355 lf x357 x358) x353 x354 x355 x356 := rfl
theorem f30_1_eq (c : Orc) (lf n : Nat) (x353 : List T) (x354 x355 : Int) (x356 : List T) :
 lpK c env lf 6 fi30 7 8 [(3, 1)] [3, 41, 42, 43] (x30_8_0) n (f30_1_c x353 x354 x355 x356) = f30_1 c lf n x353 x354 x355 x356 := by
 induction n generalizing x353 x354 x355 x356 with
 | zero => rfl
 | succ n ih =>
  refine (f30_1_round c lf _ x353 x354 x355 x356).trans ?_
  have e : (fun x353 x354 x355 x356 => lpK c env lf 6 fi30 7 8 [(3, 1)] [3, 41, 42, 43] (x30_8_0) n (f30_1_c x353 x354 x355 x356)) = f30_1 c lf n := by funext x353 x354 x355 x356; exact ih x353 x354 x355 x356
  have e0 : (fun (x353 : List T) (x354 x355 x357 : Int) (x358 : List T) => lpK c env lf 6 fi30 7 11 [(3, 1)] [3, 6, 41, 42, 43, 49, 50, 51] (x30_11_0) lf (f30_2_c x353 x354 x355 x357 x358)) = (fun (x353 : List T) (x354 x355 x357 : Int) (x358 : List T) => f30_2 c lf x353 x354 x355 lf x357 x358) := by funext x353 x354 x355 x357 x358; exact f30_2_eq c lf x353 x354 x355 lf x357 x358
  show f30_1_s c lf (fun x353 x354 x355 x356 => lpK c env lf 6 fi30 7 8 [(3, 1)] [3, 41, 42, 43] (x30_8_0) n (f30_1_c x353 x354 x355 x356)) (fun (x353 : List T) (x354 x355 x357 : Int) (x358 : List T) => lpK c env lf 6 fi30 7 11 [(3, 1)] [3, 6, 41, 42, 43, 49, 50, 51] (x30_11_0) lf (f30_2_c x353 x354 x355 x357 x358)) x353 x354 x355 x356 = _
  rw [e, e0]; rfl
def f30_t (c : Orc) (lf : Nat) (lp0 : List T → List T → List T → Int → Int → Int → Int → Int → List T → Option (List T)) (lp1 : List T → Int → Int → List T → Option (List T)) (l0_0 : List T) (n0_1 n0_2 : Int) (l0_3 l0_4 : List T) (n0_5 n0_6 : Int) : Option (List T) :=
 bif iLe 0 (imax (l0_3.length : Int) (l0_4.length : Int)) && iLe (imax (l0_3.length : Int) (l0_4.length : Int)) (LIM : Int) && ((imax (l0_3.length : Int) (l0_4.length : Int)) == (imax (l0_3.length : Int) (l0_4.length : Int))) then
 (lp0 l0_0 l0_3 l0_4 n0_1 n0_2 n0_5 n0_6 0 (List.replicate (imax (l0_3.length : Int) (l0_4.length : Int)).toNat (T.sl []))).bind fun r349 =>
 (lp1 (asL (nth r349 5)) ((asL (nth r349 5)).length : Int) 0 (asL (nth r349 8))).bind fun r360 =>
 bif ((okL false [.sl false [.i .i64]] (asL (nth r360 1))) && true) && true then
 some [T.sl (asL (nth r360 1))]
 else none
 else none
def f30 (c : Orc) (lf : Nat) (l0_0 : List T) (n0_1 n0_2 : Int) (l0_3 l0_4 : List T) (n0_5 n0_6 : Int) : Option (List T) := f30_t c lf (fun (l0_0 l0_3 l0_4 : List T) (n0_1 n0_2 : Int) (n0_5 n0_6 x347 : Int) (x348 : List T) => f30_0 c lf l0_0 l0_3 l0_4 n0_1 n0_2 n0_5 n0_6 lf x347 x348) (fun (x353 : List T) (x354 x355 : Int) (x356 : List T) => f30_1 c lf lf x353 x354 x355 x356) l0_0 n0_1 n0_2 l0_3 l0_4 n0_5 n0_6
theorem f30_raw (c : Orc) (lf : Nat) (l0_0 : List T) (n0_1 n0_2 : Int) (l0_3 l0_4 : List T) (n0_5 n0_6 : Int) : funK c env lf 6 fi30 [.st [.sl l0_0, .i .i64 n0_1, .i .i64 n0_2, .sl l0_3, .sl l0_4, .i .i64 n0_5, .i .i64 n0_6]] = f30_t c lf (fun (l0_0 l0_3 l0_4 : List T) (n0_1 n0_2 : Int) (n0_5 n0_6 x347 : Int) (x348 : List T) => lpK c env lf 6 fi30 7 3 [(3, 1)] [1, 3, 21, 22, 23] (x30_3_0) lf (f30_0_c l0_0 l0_3 l0_4 n0_1 n0_2 n0_5 n0_6 x347 x348)) (fun (x353 : List T) (x354 x355 : Int) (x356 : List T) => lpK c env lf 6 fi30 7 8 [(3, 1)] [3, 41, 42, 43] (x30_8_0) lf (f30_1_c x353 x354 x355 x356)) l0_0 n0_1 n0_2 l0_3 l0_4 n0_5 n0_6 := by kernel_rfl
theorem f30_eq (c : Orc) (lf : Nat) (l0_0 : List T) (n0_1 n0_2 : Int) (l0_3 l0_4 : List T) (n0_5 n0_6 : Int) : funK c env lf 6 fi30 [.st [.sl l0_0, .i .i64 n0_1, .i .i64 n0_2, .sl l0_3, .sl l0_4, .i .i64 n0_5, .i .i64 n0_6]] = f30 c lf l0_0 n0_1 n0_2 l0_3 l0_4 n0_5 n0_6 := by
 refine (f30_raw c lf l0_0 n0_1 n0_2 l0_3 l0_4 n0_5 n0_6).trans ?_
 have e0 : (fun (l0_0 l0_3 l0_4 : List T) (n0_1 n0_2 : Int) (n0_5 n0_6 x347 : Int) (x348 : List T) => lpK c env lf 6 fi30 7 3 [(3, 1)] [1, 3, 21, 22, 23] (x30_3_0) lf (f30_0_c l0_0 l0_3 l0_4 n0_1 n0_2 n0_5 n0_6 x347 x348)) = (fun (l0_0 l0_3 l0_4 : List T) (n0_1 n0_2 : Int) (n0_5 n0_6 x347 : Int) (x348 : List T) => f30_0 c lf l0_0 l0_3 l0_4 n0_1 n0_2 n0_5 n0_6 lf x347 x348) := by funext l0_0 l0_3 l0_4 n0_1 n0_2 n0_5 n0_6 x347 x348; exact f30_0_eq c lf l0_0 l0_3 l0_4 n0_1 n0_2 n0_5 n0_6 lf x347 x348
 have e1 : (fun (x353 : List T) (x354 x355 : Int) (x356 : List T) => lpK c env lf 6 fi30 7 8 [(3, 1)] [3, 41, 42, 43] (x30_8_0) lf (f30_1_c x353 x354 x355 x356)) = (fun (x353 : List T) (x354 x355 : Int) (x356 : List T) => f30_1 c lf lf x353 x354 x355 x356) := by funext x353 x354 x355 x356; exact f30_1_eq c lf lf x353 x354 x355 x356
 rw [e0, e1]; rfl
def f29_0_s (c : Orc) (lf : Nat) (l0 : List T) (L : Int → Int → Option (List T)) (x368 x369 : Int) : Option (List T) :=
 bif iLt x369 (l0.length : Int) then
  bif inR x369 l0.length then
  bif iLt (IntKind.wrap .i64 (x368 + ((asL (l0.getD x369.toNat T.u)).length : Int))) 0 then
   none
  else
   L (IntKind.wrap .i64 (x368 + ((asL (l0.getD x369.toNat T.u)).length : Int))) (IntKind.wrap .i64 (x369 + 1))
  else none
 else
  some [T.i .i64 0, T.sl l0, T.i .i64 x368]
def f29_0_c (l0 : List T) (x368 x369 : Int) : CSt := ⟨[.ro 0 false [.sl false [.i .i64]] l0, .i .i64 x368, .ro 0 false [.sl false [.i .i64]] l0, .i .i64 (l0.length : Int), .i .i64 x369], [.dead]⟩
theorem f29_0_round (c : Orc) (lf : Nat) (l0 : List T) (L : CSt → Option (List T)) (x368 x369 : Int) :
 roundK c env lf 6 fi29 1 3 [] [0, 3, 9, 10, 11] (x29_3_0) L (f29_0_c l0 x368 x369) = f29_0_s c lf l0 (fun x368 x369 => L (f29_0_c l0 x368 x369)) x368 x369 := by kernel_rfl
def f29_0 (c : Orc) (lf : Nat) (l0 : List T) : Nat → Int → Int → Option (List T)
 | 0 => fun _ _ => none
 | n + 1 => fun x368 x369 => f29_0_s c lf l0 (f29_0 c lf l0 n) x368 x369
theorem f29_0_u (c : Orc) (lf : Nat) (l0 : List T) (n : Nat) (x368 x369 : Int) : f29_0 c lf l0 (n + 1) x368 x369 = f29_0_s c lf l0 (f29_0 c lf l0 n) x368 x369 := rfl
theorem f29_0_eq (c : Orc) (lf : Nat) (l0 : List T) (n : Nat) (x368 x369 : Int) :
 lpK c env lf 6 fi29 1 3 [] [0, 3, 9, 10, 11] (x29_3_0) n (f29_0_c l0 x368 x369) = f29_0 c lf l0 n x368 x369 := by
 induction n generalizing x368 x369 with
 | zero => rfl
 | succ n ih =>
  refine (f29_0_round c lf l0 _ x368 x369).trans ?_
  have e : (fun x368 x369 => lpK c env lf 6 fi29 1 3 [] [0, 3, 9, 10, 11] (x29_3_0) n (f29_0_c l0 x368 x369)) = f29_0 c lf l0 n := by funext x368 x369; exact ih x368 x369
  show f29_0_s c lf l0 (fun x368 x369 => lpK c env lf 6 fi29 1 3 [] [0, 3, 9, 10, 11] (x29_3_0) n (f29_0_c l0 x368 x369)) x368 x369 = _
  rw [e]; rfl
def f29_1_s (c : Orc) (lf : Nat) (r370 : List T) (L : Nat → Int → List T → Option (List T)) (x371 : Nat) (x372 : Int) (x373 : List T) : Option (List T) :=
 bif iLt x372 ((asL (nth r370 1)).length : Int) then
  bif inR x372 ((asL (nth r370 1)).length) then
  bif nLe (((x373.drop 0).take x371).length + (asL ((asL (nth r370 1)).getD x372.toNat T.u)).length) LIM then
  L ((((x373.drop 0).take x371) ++ (asL ((asL (nth r370 1)).getD x372.toNat T.u))).length) (IntKind.wrap .i64 (x372 + 1)) (((x373.drop 0).take x371) ++ (asL ((asL (nth r370 1)).getD x372.toNat T.u)))
  else none
  else none
 else
  some [T.i .i64 0, T.i .i64 (0 : Int), T.i .i64 (x371 : Int), T.sl x373]
def f29_1_c (r370 : List T) (x371 : Nat) (x372 : Int) (x373 : List T) : CSt := ⟨[.rf 1 [] 0 (some (0, x371)), .ro 0 false [.sl false [.i .i64]] (asL (nth r370 1)), .i .i64 ((asL (nth r370 1)).length : Int), .i .i64 x372], [.dead, .row false [.i .i64] x373 0 false]⟩
theorem f29_1_round (c : Orc) (lf : Nat) (r370 : List T) (L : CSt → Option (List T)) (x371 : Nat) (x372 : Int) (x373 : List T) :
 roundK c env lf 6 fi29 1 11 [(6, 2)] [6, 25, 26, 27] (x29_11_0) L (f29_1_c r370 x371 x372 x373) = f29_1_s c lf r370 (fun x371 x372 x373 => L (f29_1_c r370 x371 x372 x373)) x371 x372 x373 := by kernel_rfl
def f29_1 (c : Orc) (lf : Nat) (r370 : List T) : Nat → Nat → Int → List T → Option (List T)
 | 0 => fun _ _ _ => none
 | n + 1 => fun x371 x372 x373 => f29_1_s c lf r370 (f29_1 c lf r370 n) x371 x372 x373
theorem f29_1_u (c : Orc) (lf : Nat) (r370 : List T) (n x371 : Nat) (x372 : Int) (x373 : List T) : f29_1 c lf r370 (n + 1) x371 x372 x373 = f29_1_s c lf r370 (f29_1 c lf r370 n) x371 x372 x373 := rfl
theorem f29_1_eq (c : Orc) (lf : Nat) (r370 : List T) (n x371 : Nat) (x372 : Int) (x373 : List T) :
 lpK c env lf 6 fi29 1 11 [(6, 2)] [6, 25, 26, 27] (x29_11_0) n (f29_1_c r370 x371 x372 x373) = f29_1 c lf r370 n x371 x372 x373 := by
 induction n generalizing x371 x372 x373 with
 | zero => rfl
 | succ n ih =>
  refine (f29_1_round c lf r370 _ x371 x372 x373).trans ?_
  have e : (fun x371 x372 x373 => lpK c env lf 6 fi29 1 11 [(6, 2)] [6, 25, 26, 27] (x29_11_0) n (f29_1_c r370 x371 x372 x373)) = f29_1 c lf r370 n := by funext x371 x372 x373; exact ih x371 x372 x373
  show f29_1_s c lf r370 (fun x371 x372 x373 => lpK c env lf 6 fi29 1 11 [(6, 2)] [6, 25, 26, 27] (x29_11_0) n (f29_1_c r370 x371 x372 x373)) x371 x372 x373 = _
  rw [e]; rfl
def f29_t (c : Orc) (lf : Nat) (lp0 : List T → Int → Int → Option (List T)) (lp1 : List T → Nat → Int → List T → Option (List T)) (l0 : List T) : Option (List T) :=
 (lp0 l0 0 0).bind fun r370 =>
 bif iLt (asI (nth r370 2)) 0 then
  none
 else
  bif iLt 0 (IntKind.wrap .i64 ((asI (nth r370 2)) - 0)) then
  bif iLe 1 (IntKind.wrap .i64 ((asI (nth r370 2)) - 0)) && iLe (IntKind.wrap .i64 ((asI (nth r370 2)) - 0)) (LIM : Int) then
  bif iLe 0 0 && iLe 0 0 && iLe 0 (((List.replicate (IntKind.wrap .i64 ((asI (nth r370 2)) - 0)).toNat (T.i .i64 0)).length : Nat) : Int) then
  (lp1 r370 (0 - 0) 0 (List.replicate (IntKind.wrap .i64 ((asI (nth r370 2)) - 0)).toNat (T.i .i64 0))).bind fun r374 =>
  some [T.sl (((asL (nth r374 3)).drop ((asI (nth r374 1)).toNat)).take ((asI (nth r374 2)).toNat))]
  else none
  else none
  else none
def f29 (c : Orc) (lf : Nat) (l0 : List T) : Option (List T) := f29_t c lf (fun (l0 : List T) (x368 x369 : Int) => f29_0 c lf l0 lf x368 x369) (fun (r370 : List T) (x371 : Nat) (x372 : Int) (x373 : List T) => f29_1 c lf r370 lf x371 x372 x373) l0
theorem f29_raw (c : Orc) (lf : Nat) (l0 : List T) : funK c env lf 6 fi29 [.sl l0] = f29_t c lf (fun (l0 : List T) (x368 x369 : Int) => lpK c env lf 6 fi29 1 3 [] [0, 3, 9, 10, 11] (x29_3_0) lf (f29_0_c l0 x368 x369)) (fun (r370 : List T) (x371 : Nat) (x372 : Int) (x373 : List T) => lpK c env lf 6 fi29 1 11 [(6, 2)] [6, 25, 26, 27] (x29_11_0) lf (f29_1_c r370 x371 x372 x373)) l0 := by kernel_rfl
theorem f29_eq (c : Orc) (lf : Nat) (l0 : List T) : funK c env lf 6 fi29 [.sl l0] = f29 c lf l0 := by
 refine (f29_raw c lf l0).trans ?_
 have e0 : (fun (l0 : List T) (x368 x369 : Int) => lpK c env lf 6 fi29 1 3 [] [0, 3, 9, 10, 11] (x29_3_0) lf (f29_0_c l0 x368 x369)) = (fun (l0 : List T) (x368 x369 : Int) => f29_0 c lf l0 lf x368 x369) := by funext l0 x368 x369; exact f29_0_eq c lf l0 lf x368 x369
 have e1 : (fun (r370 : List T) (x371 : Nat) (x372 : Int) (x373 : List T) => lpK c env lf 6 fi29 1 11 [(6, 2)] [6, 25, 26, 27] (x29_11_0) lf (f29_1_c r370 x371 x372 x373)) = (fun (r370 : List T) (x371 : Nat) (x372 : Int) (x373 : List T) => f29_1 c lf r370 lf x371 x372 x373) := by funext r370 x371 x372 x373; exact f29_1_eq c lf r370 lf x371 x372 x373
 rw [e0, e1]; rfl
def f33_1_s (c : Orc) (lf : Nat) (l0 : List T) (x389 : Int) (L : Int → Int → List T → Option (List T)) (x390 x391 : Int) (x392 : List T) : Option (List T) :=
 bif iLt x391 ((((l0.length : Int).toNat) - x389.toNat : Nat) : Int) then
  bif inR x391 (((l0.length : Int).toNat) - x389.toNat) then
  bif inR (IntKind.wrap .i64 (x391 - 1)) (((l0.length : Int).toNat) - x389.toNat) then
  bif (asI (x392.getD (x389.toNat + x391.toNat) T.u)) != (asI (x392.getD (x389.toNat + ((IntKind.wrap .i64 (x391 - 1)).toNat)) T.u)) then
   bif inR x391 (((l0.length : Int).toNat) - x389.toNat) then
   bif inR x390 x392.length then
   L (IntKind.wrap .i64 (x390 + 1)) (IntKind.wrap .i64 (x391 + 1)) (x392.set x390.toNat (T.i .i64 (asI (x392.getD (x389.toNat + x391.toNat) T.u))))
   else none
   else none
  else
   L x390 (IntKind.wrap .i64 (x391 + 1)) x392
  else none
  else none
 else
  some [T.i .i64 0, T.i .i64 x390, T.sl x392]
def f33_1_c (l0 : List T) (x389 x390 x391 : Int) (x392 : List T) : CSt := ⟨[.rf 1 [] 0 none, .i .i64 x390, .rf 1 [] 0 (some (x389.toNat, ((l0.length : Int).toNat) - x389.toNat)), .i .i64 x391], [.dead, .row false [.i .i64] x392 0 false]⟩
theorem f33_1_round (c : Orc) (lf : Nat) (l0 : List T) (x389 : Int) (L : CSt → Option (List T)) (x390 x391 : Int) (x392 : List T) :
 roundK c env lf 6 fi33 1 9 [] [0, 3, 4, 5] (x33_9_0) L (f33_1_c l0 x389 x390 x391 x392) = f33_1_s c lf l0 x389 (fun x390 x391 x392 => L (f33_1_c l0 x389 x390 x391 x392)) x390 x391 x392 := by kernel_rfl
def f33_1 (c : Orc) (lf : Nat) (l0 : List T) (x389 : Int) : Nat → Int → Int → List T → Option (List T)
 | 0 => fun _ _ _ => none
 | n + 1 => fun x390 x391 x392 => f33_1_s c lf l0 x389 (f33_1 c lf l0 x389 n) x390 x391 x392
theorem f33_1_u (c : Orc) (lf : Nat) (l0 : List T) (x389 : Int) (n : Nat) (x390 x391 : Int) (x392 : List T) : f33_1 c lf l0 x389 (n + 1) x390 x391 x392 = f33_1_s c lf l0 x389 (f33_1 c lf l0 x389 n) x390 x391 x392 := rfl
theorem f33_1_eq (c : Orc) (lf : Nat) (l0 : List T) (x389 : Int) (n : Nat) (x390 x391 : Int) (x392 : List T) :
 lpK c env lf 6 fi33 1 9 [] [0, 3, 4, 5] (x33_9_0) n (f33_1_c l0 x389 x390 x391 x392) = f33_1 c lf l0 x389 n x390 x391 x392 := by
 induction n generalizing x390 x391 x392 with
 | zero => rfl
 | succ n ih =>
  refine (f33_1_round c lf l0 x389 _ x390 x391 x392).trans ?_
  have e : (fun x390 x391 x392 => lpK c env lf 6 fi33 1 9 [] [0, 3, 4, 5] (x33_9_0) n (f33_1_c l0 x389 x390 x391 x392)) = f33_1 c lf l0 x389 n := by funext x390 x391 x392; exact ih x390 x391 x392
  show f33_1_s c lf l0 x389 (fun x390 x391 x392 => lpK c env lf 6 fi33 1 9 [] [0, 3, 4, 5] (x33_9_0) n (f33_1_c l0 x389 x390 x391 x392)) x390 x391 x392 = _
  rw [e]; rfl
def f33_0_s (c : Orc) (lf : Nat) (l0 : List T) (L : Int → Option (List T)) (lp0 : List T → Int → Int → Int → List T → Option (List T)) (x389 : Int) : Option (List T) :=
 bif iLt x389 (l0.length : Int) then
  bif inR x389 l0.length then
  bif inR (IntKind.wrap .i64 (x389 - 1)) l0.length then
  bif (asI (l0.getD x389.toNat T.u)) == (asI (l0.getD ((IntKind.wrap .i64 (x389 - 1)).toNat) T.u)) then
   bif iLe 0 x389 && iLe x389 (l0.length : Int) && iLe (l0.length : Int) (l0.length : Int) then
   (lp0 l0 x389 x389 1 l0).bind fun r393 =>
   bif iLe 0 (asI (nth r393 1)) && iLe (asI (nth r393 1)) ((asL (nth r393 2)).length : Int) && iLe ((asL (nth r393 2)).length : Int) ((asL (nth r393 2)).length : Int) then
   bif iLe 0 0 && iLe 0 (asI (nth r393 1)) && iLe (asI (nth r393 1)) (((splice (asL (nth r393 2)) ((asI (nth r393 1)).toNat) (List.replicate (((asL (nth r393 2)).drop ((asI (nth r393 1)).toNat)).take ((((asL (nth r393 2)).length : Int).toNat) - ((asI (nth r393 1)).toNat))).length (T.i .i64 0))).length : Nat) : Int) then
   some [T.i .i64 0, T.i .i64 (0 : Int), T.i .i64 (((((asI (nth r393 1)).toNat) - 0) : Nat) : Int), T.sl (splice (asL (nth r393 2)) ((asI (nth r393 1)).toNat) (List.replicate (((asL (nth r393 2)).drop ((asI (nth r393 1)).toNat)).take ((((asL (nth r393 2)).length : Int).toNat) - ((asI (nth r393 1)).toNat))).length (T.i .i64 0)))]
   else none
   else none
   else none
  else
   L (IntKind.wrap .i64 (x389 + 1))
  else none
  else none
 else
  some [T.i .i64 1, T.sl l0]
def f33_0_c (l0 : List T) (x389 : Int) : CSt := ⟨[.rf 1 [] 0 none, .i .i64 x389], [.dead, .row false [.i .i64] l0 0 false]⟩
theorem f33_0_round (c : Orc) (lf : Nat) (l0 : List T) (L : CSt → Option (List T)) (x389 : Int) :
 roundK c env lf 6 fi33 1 4 [] [0, 3] (x33_4_0) L (f33_0_c l0 x389) = f33_0_s c lf l0 (fun x389 => L (f33_0_c l0 x389)) (fun (l0 : List T) (x389 x390 x391 : Int) (x392 : List T) => lpK c env lf 6 fi33 1 9 [] [0, 3, 4, 5] (x33_9_0) lf (f33_1_c l0 x389 x390 x391 x392)) x389 := by kernel_rfl
def f33_0 (c : Orc) (lf : Nat) (l0 : List T) : Nat → Int → Option (List T)
 | 0 => fun _ => none
 | n + 1 => fun x389 => f33_0_s c lf l0 (f33_0 c lf l0 n) (fun (l0 : List T) (x389 x390 x391 : Int) (x392 : List T) => f33_1 c lf l0 x389 lf x390 x391 x392) x389
theorem f33_0_u (c : Orc) (lf : Nat) (l0 : List T) (n : Nat) (x389 : Int) : f33_0 c lf l0 (n + 1) x389 = f33_0_s c lf l0 (f33_0 c lf l0 n) (fun (l0 : List T) (x389 x390 x391 : Int) (x392 : List T) => f33_1 c lf l0 x389 lf x390 x391 x392) x389 := rfl
theorem f33_0_eq (c : Orc) (lf : Nat) (l0 : List T) (n : Nat) (x389 : Int) :
 lpK c env lf 6 fi33 1 4 [] [0, 3] (x33_4_0) n (f33_0_c l0 x389) = f33_0 c lf l0 n x389 := by
 induction n generalizing x389 with
 | zero => rfl
 | succ n ih =>
  refine (f33_0_round c lf l0 _ x389).trans ?_
  have e : (fun x389 => lpK c env lf 6 fi33 1 4 [] [0, 3] (x33_4_0) n (f33_0_c l0 x389)) = f33_0 c lf l0 n := by funext x389; exact ih x389
  have e0 : (fun (l0 : List T) (x389 x390 x391 : Int) (x392 : List T) => lpK c env lf 6 fi33 1 9 [] [0, 3, 4, 5] (x33_9_0) lf (f33_1_c l0 x389 x390 x391 x392)) = (fun (l0 : List T) (x389 x390 x391 : Int) (x392 : List T) => f33_1 c lf l0 x389 lf x390 x391 x392) := by funext l0 x389 x390 x391 x392; exact f33_1_eq c lf l0 x389 lf x390 x391 x392
  show f33_0_s c lf l0 (fun x389 => lpK c env lf 6 fi33 1 4 [] [0, 3] (x33_4_0) n (f33_0_c l0 x389)) (fun (l0 : List T) (x389 x390 x391 : Int) (x392 : List T) => lpK c env lf 6 fi33 1 9 [] [0, 3, 4, 5] (x33_9_0) lf (f33_1_c l0 x389 x390 x391 x392)) x389 = _
  rw [e, e0]; rfl
def f33_t (c : Orc) (lf : Nat) (lp0 : List T → Int → Option (List T)) (l0 : List T) : Option (List T) :=
 bif iLt (l0.length : Int) 2 then
  some [T.sl l0]
 else
  (lp0 l0 1).bind fun r394 =>
  bif asI (nth r394 0) == 0 then
   some [T.sl (((asL (nth r394 3)).drop ((asI (nth r394 1)).toNat)).take ((asI (nth r394 2)).toNat))]
  else
   some [T.sl (asL (nth r394 1))]
def f33 (c : Orc) (lf : Nat) (l0 : List T) : Option (List T) := f33_t c lf (fun (l0 : List T) (x389 : Int) => f33_0 c lf l0 lf x389) l0
theorem f33_raw (c : Orc) (lf : Nat) (l0 : List T) : funK c env lf 6 fi33 [.sl l0] = f33_t c lf (fun (l0 : List T) (x389 : Int) => lpK c env lf 6 fi33 1 4 [] [0, 3] (x33_4_0) lf (f33_0_c l0 x389)) l0 := by kernel_rfl
theorem f33_eq (c : Orc) (lf : Nat) (l0 : List T) : funK c env lf 6 fi33 [.sl l0] = f33 c lf l0 := by
 refine (f33_raw c lf l0).trans ?_
 have e0 : (fun (l0 : List T) (x389 : Int) => lpK c env lf 6 fi33 1 4 [] [0, 3] (x33_4_0) lf (f33_0_c l0 x389)) = (fun (l0 : List T) (x389 : Int) => f33_0 c lf l0 lf x389) := by funext l0 x389; exact f33_0_eq c lf l0 lf x389
 rw [e0]; rfl
def f34_t (c : Orc) (lf : Nat) (n0 : Int) : Option (List T) :=
 some [T.b (iLt n0 0)]
def f34 (c : Orc) (lf : Nat) (n0 : Int) : Option (List T) := f34_t c lf n0
theorem f34_eq (c : Orc) (lf : Nat) (n0 : Int) : funK c env lf 6 fi34 [.i .i64 n0] = f34 c lf n0 := by kernel_rfl
def f9_0_s (c : Orc) (lf : Nat) (r412 : List T) (L : Int → Option (List T)) (x414 : Int) : Option (List T) :=
 bif iLt x414 ((asL (nth r412 0)).length : Int) then
  bif inR x414 ((asL (nth r412 0)).length) then
  (c 34 [T.i .i64 (asI ((asL (nth r412 0)).getD x414.toNat T.u))]).bind fun r415 =>
  bif asB (nth r415 0) then
   some [T.i .i64 0, T.i .i64 x414, T.sl (asL (nth r412 0))]
  else
   L (IntKind.wrap .i64 (x414 + 1))
  else none
 else
  some [T.i .i64 1, T.sl (asL (nth r412 0))]
def f9_0_c (r412 : List T) (x414 : Int) : CSt := ⟨[.rf 0 [] 0 none, .fn 34 [], .i .i64 ((asL (nth r412 0)).length : Int), .i .i64 x414], [.row false [.i .i64] (asL (nth r412 0)) 0 false]⟩
theorem f9_0_round (c : Orc) (lf : Nat) (r412 : List T) (L : CSt → Option (List T)) (x414 : Int) :
 roundK c env lf 4 fi59 1 2 [] [0, 1, 7, 8] (x59_2_0) L (f9_0_c r412 x414) = f9_0_s c lf r412 (fun x414 => L (f9_0_c r412 x414)) x414 := by kernel_rfl
def f9_0 (c : Orc) (lf : Nat) (r412 : List T) : Nat → Int → Option (List T)
 | 0 => fun _ => none
 | n + 1 => fun x414 => f9_0_s c lf r412 (f9_0 c lf r412 n) x414
theorem f9_0_u (c : Orc) (lf : Nat) (r412 : List T) (n : Nat) (x414 : Int) : f9_0 c lf r412 (n + 1) x414 = f9_0_s c lf r412 (f9_0 c lf r412 n) x414 := rfl
theorem f9_0_eq (c : Orc) (lf : Nat) (r412 : List T) (n : Nat) (x414 : Int) :
 lpK c env lf 4 fi59 1 2 [] [0, 1, 7, 8] (x59_2_0) n (f9_0_c r412 x414) = f9_0 c lf r412 n x414 := by
 induction n generalizing x414 with
 | zero => rfl
 | succ n ih =>
  refine (f9_0_round c lf r412 _ x414).trans ?_
  have e : (fun x414 => lpK c env lf 4 fi59 1 2 [] [0, 1, 7, 8] (x59_2_0) n (f9_0_c r412 x414)) = f9_0 c lf r412 n := by funext x414; exact ih x414
  show f9_0_s c lf r412 (fun x414 => lpK c env lf 4 fi59 1 2 [] [0, 1, 7, 8] (x59_2_0) n (f9_0_c r412 x414)) x414 = _
  rw [e]; rfl
def f9_1_s (c : Orc) (lf : Nat) (L : Int → Int → List T → Option (List T)) (x418 x419 : Int) (x420 : List T) : Option (List T) :=
 bif iLt x419 (x420.length : Int) then
  bif inR x419 x420.length then
  (c 34 [T.i .i64 (asI (x420.getD x419.toNat T.u))]).bind fun r421 =>
  bif !(asB (nth r421 0)) then
   bif inR x418 x420.length then
   L (IntKind.wrap .i64 (x418 + 1)) (IntKind.wrap .i64 (x419 + 1)) (x420.set x418.toNat (T.i .i64 (asI (x420.getD x419.toNat T.u))))
   else none
  else
   L x418 (IntKind.wrap .i64 (x419 + 1)) x420
  else none
 else
  some [T.i .i64 0, T.i .i64 x418, T.sl x420]
def f9_1_c (x418 x419 : Int) (x420 : List T) : CSt := ⟨[.rf 0 [] 0 none, .fn 34 [], .i .i64 x418, .i .i64 x419], [.row false [.i .i64] x420 0 false]⟩
theorem f9_1_round (c : Orc) (lf : Nat) (L : CSt → Option (List T)) (x418 x419 : Int) (x420 : List T) :
 roundK c env lf 5 fi32 1 5 [] [0, 1, 5, 6] (x32_5_0) L (f9_1_c x418 x419 x420) = f9_1_s c lf (fun x418 x419 x420 => L (f9_1_c x418 x419 x420)) x418 x419 x420 := by kernel_rfl
def f9_1 (c : Orc) (lf : Nat) : Nat → Int → Int → List T → Option (List T)
 | 0 => fun _ _ _ => none
 | n + 1 => fun x418 x419 x420 => f9_1_s c lf (f9_1 c lf n) x418 x419 x420
theorem f9_1_u (c : Orc) (lf n : Nat) (x418 x419 : Int) (x420 : List T) : f9_1 c lf (n + 1) x418 x419 x420 = f9_1_s c lf (f9_1 c lf n) x418 x419 x420 := rfl
theorem f9_1_eq (c : Orc) (lf n : Nat) (x418 x419 : Int) (x420 : List T) :
 lpK c env lf 5 fi32 1 5 [] [0, 1, 5, 6] (x32_5_0) n (f9_1_c x418 x419 x420) = f9_1 c lf n x418 x419 x420 := by
 induction n generalizing x418 x419 x420 with
 | zero => rfl
 | succ n ih =>
  refine (f9_1_round c lf _ x418 x419 x420).trans ?_
  have e : (fun x418 x419 x420 => lpK c env lf 5 fi32 1 5 [] [0, 1, 5, 6] (x32_5_0) n (f9_1_c x418 x419 x420)) = f9_1 c lf n := by funext x418 x419 x420; exact ih x418 x419 x420
  show f9_1_s c lf (fun x418 x419 x420 => lpK c env lf 5 fi32 1 5 [] [0, 1, 5, 6] (x32_5_0) n (f9_1_c x418 x419 x420)) x418 x419 x420 = _
  rw [e]; rfl
def f9_t (c : Orc) (lf : Nat) (lp0 : List T → Int → Option (List T)) (lp1 : Int → Int → List T → Option (List T)) (l0_0 : List T) (n0_1 n0_2 : Int) (l0_3 l0_4 : List T) (n0_5 n0_6 : Int) : Option (List T) :=
 (c 30 [T.st [T.sl l0_0, T.i .i64 n0_1, T.i .i64 n0_2, T.sl l0_3, T.sl l0_4, T.i .i64 n0_5, T.i .i64 n0_6]]).bind fun r409 =>
 bif nLe ((asL (nth r409 0)).length + ([T.sl ([T.i .i64 n0_6, T.i .i64 n0_5] : List T)] : List T).length) LIM then
 (c 29 [T.sl ((asL (nth r409 0)) ++ ([T.sl ([T.i .i64 n0_6, T.i .i64 n0_5] : List T)] : List T))]).bind fun r410 =>
 (c 31 [T.sl (asL (nth r410 0))]).bind fun r411 =>
 (c 33 [T.sl (asL (nth r411 0))]).bind fun r412 =>
 (lp0 r412 0).bind fun r416 =>
 bif asI (nth r416 0) == 0 then
  bif (asI (nth r416 1)) == (-1) then
   some [T.sl (asL (nth r416 2))]
  else
   (lp1 (asI (nth r416 1)) (IntKind.wrap .i64 ((asI (nth r416 1)) + 1)) (asL (nth r416 2))).bind fun r422 =>
   bif iLe 0 (asI (nth r422 1)) && iLe (asI (nth r422 1)) ((asL (nth r422 2)).length : Int) && iLe ((asL (nth r422 2)).length : Int) ((asL (nth r422 2)).length : Int) then
   bif iLe 0 0 && iLe 0 (asI (nth r422 1)) && iLe (asI (nth r422 1)) (((splice (asL (nth r422 2)) ((asI (nth r422 1)).toNat) (List.replicate (((asL (nth r422 2)).drop ((asI (nth r422 1)).toNat)).take ((((asL (nth r422 2)).length : Int).toNat) - ((asI (nth r422 1)).toNat))).length (T.i .i64 0))).length : Nat) : Int) then
   some [T.sl (((splice (asL (nth r422 2)) ((asI (nth r422 1)).toNat) (List.replicate (((asL (nth r422 2)).drop ((asI (nth r422 1)).toNat)).take ((((asL (nth r422 2)).length : Int).toNat) - ((asI (nth r422 1)).toNat))).length (T.i .i64 0))).drop 0).take (((asI (nth r422 1)).toNat) - 0))]
   else none
   else none
 else
  some [T.sl (asL (nth r416 1))]
 else none
def f9 (c : Orc) (lf : Nat) (l0_0 : List T) (n0_1 n0_2 : Int) (l0_3 l0_4 : List T) (n0_5 n0_6 : Int) : Option (List T) := f9_t c lf (fun (r412 : List T) (x414 : Int) => f9_0 c lf r412 lf x414) (fun (x418 x419 : Int) (x420 : List T) => f9_1 c lf lf x418 x419 x420) l0_0 n0_1 n0_2 l0_3 l0_4 n0_5 n0_6
theorem f9_raw (c : Orc) (lf : Nat) (l0_0 : List T) (n0_1 n0_2 : Int) (l0_3 l0_4 : List T) (n0_5 n0_6 : Int) : funK c env lf 6 fi9 [.st [.sl l0_0, .i .i64 n0_1, .i .i64 n0_2, .sl l0_3, .sl l0_4, .i .i64 n0_5, .i .i64 n0_6]] = f9_t c lf (fun (r412 : List T) (x414 : Int) => lpK c env lf 4 fi59 1 2 [] [0, 1, 7, 8] (x59_2_0) lf (f9_0_c r412 x414)) (fun (x418 x419 : Int) (x420 : List T) => lpK c env lf 5 fi32 1 5 [] [0, 1, 5, 6] (x32_5_0) lf (f9_1_c x418 x419 x420)) l0_0 n0_1 n0_2 l0_3 l0_4 n0_5 n0_6 := by kernel_rfl
theorem f9_eq (c : Orc) (lf : Nat) (l0_0 : List T) (n0_1 n0_2 : Int) (l0_3 l0_4 : List T) (n0_5 n0_6 : Int) : funK c env lf 6 fi9 [.st [.sl l0_0, .i .i64 n0_1, .i .i64 n0_2, .sl l0_3, .sl l0_4, .i .i64 n0_5, .i .i64 n0_6]] = f9 c lf l0_0 n0_1 n0_2 l0_3 l0_4 n0_5 n0_6 := by
 refine (f9_raw c lf l0_0 n0_1 n0_2 l0_3 l0_4 n0_5 n0_6).trans ?_
 have e0 : (fun (r412 : List T) (x414 : Int) => lpK c env lf 4 fi59 1 2 [] [0, 1, 7, 8] (x59_2_0) lf (f9_0_c r412 x414)) = (fun (r412 : List T) (x414 : Int) => f9_0 c lf r412 lf x414) := by funext r412 x414; exact f9_0_eq c lf r412 lf x414
 have e1 : (fun (x418 x419 : Int) (x420 : List T) => lpK c env lf 5 fi32 1 5 [] [0, 1, 5, 6] (x32_5_0) lf (f9_1_c x418 x419 x420)) = (fun (x418 x419 : Int) (x420 : List T) => f9_1 c lf lf x418 x419 x420) := by funext x418 x419 x420; exact f9_1_eq c lf lf x418 x419 x420
 rw [e0, e1]; rfl
def f71_0_s (c : Orc) (lf : Nat) (l0 : List T) (n1 : Int) (L : Int → Option (List T)) (x425 : Int) : Option (List T) :=
 bif iLt x425 (l0.length : Int) then
  bif inR x425 l0.length then
  bif n1 == (asI (l0.getD x425.toNat T.u)) then
   some [T.i .i64 0, T.i .i64 x425]
  else
   L (IntKind.wrap .i64 (x425 + 1))
  else none
 else
  some [T.i .i64 1]
def f71_0_c (l0 : List T) (n1 x425 : Int) : CSt := ⟨[.ro 0 false [.i .i64] l0, .i .i64 n1, .i .i64 (l0.length : Int), .i .i64 x425], [.dead, .dead]⟩
theorem f71_0_round (c : Orc) (lf : Nat) (l0 : List T) (n1 : Int) (L : CSt → Option (List T)) (x425 : Int) :
 roundK c env lf 6 fi71 2 2 [] [0, 1, 7, 8] (x71_2_0) L (f71_0_c l0 n1 x425) = f71_0_s c lf l0 n1 (fun x425 => L (f71_0_c l0 n1 x425)) x425 := by kernel_rfl
def f71_0 (c : Orc) (lf : Nat) (l0 : List T) (n1 : Int) : Nat → Int → Option (List T)
 | 0 => fun _ => none
 | n + 1 => fun x425 => f71_0_s c lf l0 n1 (f71_0 c lf l0 n1 n) x425
theorem f71_0_u (c : Orc) (lf : Nat) (l0 : List T) (n1 : Int) (n : Nat) (x425 : Int) : f71_0 c lf l0 n1 (n + 1) x425 = f71_0_s c lf l0 n1 (f71_0 c lf l0 n1 n) x425 := rfl
theorem f71_0_eq (c : Orc) (lf : Nat) (l0 : List T) (n1 : Int) (n : Nat) (x425 : Int) :
 lpK c env lf 6 fi71 2 2 [] [0, 1, 7, 8] (x71_2_0) n (f71_0_c l0 n1 x425) = f71_0 c lf l0 n1 n x425 := by
 induction n generalizing x425 with
 | zero => rfl
 | succ n ih =>
  refine (f71_0_round c lf l0 n1 _ x425).trans ?_
  have e : (fun x425 => lpK c env lf 6 fi71 2 2 [] [0, 1, 7, 8] (x71_2_0) n (f71_0_c l0 n1 x425)) = f71_0 c lf l0 n1 n := by funext x425; exact ih x425
  show f71_0_s c lf l0 n1 (fun x425 => lpK c env lf 6 fi71 2 2 [] [0, 1, 7, 8] (x71_2_0) n (f71_0_c l0 n1 x425)) x425 = _
  rw [e]; rfl
def f71_t (c : Orc) (lf : Nat) (lp0 : List T → Int → Int → Option (List T)) (l0 : List T) (n1 : Int) : Option (List T) :=
 (lp0 l0 n1 0).bind fun r426 =>
 bif asI (nth r426 0) == 0 then
  some [T.i .i64 (asI (nth r426 1))]
 else
  some [T.i .i64 (-1)]
def f71 (c : Orc) (lf : Nat) (l0 : List T) (n1 : Int) : Option (List T) := f71_t c lf (fun (l0 : List T) (n1 x425 : Int) => f71_0 c lf l0 n1 lf x425) l0 n1
theorem f71_raw (c : Orc) (lf : Nat) (l0 : List T) (n1 : Int) : funK c env lf 6 fi71 [.sl l0, .i .i64 n1] = f71_t c lf (fun (l0 : List T) (n1 x425 : Int) => lpK c env lf 6 fi71 2 2 [] [0, 1, 7, 8] (x71_2_0) lf (f71_0_c l0 n1 x425)) l0 n1 := by kernel_rfl
theorem f71_eq (c : Orc) (lf : Nat) (l0 : List T) (n1 : Int) : funK c env lf 6 fi71 [.sl l0, .i .i64 n1] = f71 c lf l0 n1 := by
 refine (f71_raw c lf l0 n1).trans ?_
 have e0 : (fun (l0 : List T) (n1 x425 : Int) => lpK c env lf 6 fi71 2 2 [] [0, 1, 7, 8] (x71_2_0) lf (f71_0_c l0 n1 x425)) = (fun (l0 : List T) (n1 x425 : Int) => f71_0 c lf l0 n1 lf x425) := by funext l0 n1 x425; exact f71_0_eq c lf l0 n1 lf x425
 rw [e0]; rfl
def f45_t (c : Orc) (lf : Nat) (l0 : List T) (n1 : Int) : Option (List T) :=
 (c 71 [T.sl l0, T.i .i64 n1]).bind fun r427 =>
 some [T.b (iLe 0 (asI (nth r427 0)))]
def f45 (c : Orc) (lf : Nat) (l0 : List T) (n1 : Int) : Option (List T) := f45_t c lf l0 n1
theorem f45_eq (c : Orc) (lf : Nat) (l0 : List T) (n1 : Int) : funK c env lf 6 fi45 [.sl l0, .i .i64 n1] = f45 c lf l0 n1 := by kernel_rfl
def f18_0_s (c : Orc) (lf : Nat) (l0_0 : List T) (n2 : Int) (r436 : List T) (L : Int → Int → Option (List T)) (x438 x439 : Int) : Option (List T) :=
 bif iLt x439 ((asL (T.cell (l0_0.getD n2.toNat T.u) 0)).length : Int) then
  bif inR x439 ((asL (T.cell (l0_0.getD n2.toNat T.u) 0)).length) then
  bif asB (T.cell ((asL (T.cell (l0_0.getD n2.toNat T.u) 0)).getD x439.toNat T.u) 0) then
   (c 45 [T.sl (asL (nth r436 0)), T.i .i64 (IntKind.wrap .i64 ((IntKind.wrap .i64 (n2 * 8)) + x439))]).bind fun r440 =>
   bif !(asB (nth r440 0)) then
    L (IntKind.wrap .i64 (x438 + 1)) (IntKind.wrap .i64 (x439 + 1))
   else
    L x438 (IntKind.wrap .i64 (x439 + 1))
  else
   L x438 (IntKind.wrap .i64 (x439 + 1))
  else none
 else
  some [T.i .i64 0, T.i .i64 x438]
def f18_0_c (l0_0 : List T) (n2 : Int) (r436 : List T) (x438 x439 : Int) : CSt := ⟨[.i .i64 n2, .rf 13 [] 0 none, .i .i64 x438, .ro 0 true [.b, .sl false [.i .u8]] (asL (T.cell (l0_0.getD n2.toNat T.u) 0)), .i .i64 ((asL (T.cell (l0_0.getD n2.toNat T.u) 0)).length : Int), .i .i64 x439], [.dead, .dead, .dead, .dead, .dead, .dead, .dead, .dead, .dead, .dead, .dead, .dead, .dead, .row false [.i .i64] (asL (nth r436 0)) 0 false]⟩
theorem f18_0_round (c : Orc) (lf : Nat) (l0_0 : List T) (n2 : Int) (r436 : List T) (L : CSt → Option (List T)) (x438 x439 : Int) :
 roundK c env lf 6 fi18 13 6 [] [2, 7, 8, 26, 27, 28] (x18_6_0) L (f18_0_c l0_0 n2 r436 x438 x439) = f18_0_s c lf l0_0 n2 r436 (fun x438 x439 => L (f18_0_c l0_0 n2 r436 x438 x439)) x438 x439 := by kernel_rfl
def f18_0 (c : Orc) (lf : Nat) (l0_0 : List T) (n2 : Int) (r436 : List T) : Nat → Int → Int → Option (List T)
 | 0 => fun _ _ => none
 | n + 1 => fun x438 x439 => f18_0_s c lf l0_0 n2 r436 (f18_0 c lf l0_0 n2 r436 n) x438 x439
theorem f18_0_u (c : Orc) (lf : Nat) (l0_0 : List T) (n2 : Int) (r436 : List T) (n : Nat) (x438 x439 : Int) : f18_0 c lf l0_0 n2 r436 (n + 1) x438 x439 = f18_0_s c lf l0_0 n2 r436 (f18_0 c lf l0_0 n2 r436 n) x438 x439 := rfl
theorem f18_0_eq (c : Orc) (lf : Nat) (l0_0 : List T) (n2 : Int) (r436 : List T) (n : Nat) (x438 x439 : Int) :
 lpK c env lf 6 fi18 13 6 [] [2, 7, 8, 26, 27, 28] (x18_6_0) n (f18_0_c l0_0 n2 r436 x438 x439) = f18_0 c lf l0_0 n2 r436 n x438 x439 := by
 induction n generalizing x438 x439 with
 | zero => rfl
 | succ n ih =>
  refine (f18_0_round c lf l0_0 n2 r436 _ x438 x439).trans ?_
  have e : (fun x438 x439 => lpK c env lf 6 fi18 13 6 [] [2, 7, 8, 26, 27, 28] (x18_6_0) n (f18_0_c l0_0 n2 r436 x438 x439)) = f18_0 c lf l0_0 n2 r436 n := by funext x438 x439; exact ih x438 x439
  show f18_0_s c lf l0_0 n2 r436 (fun x438 x439 => lpK c env lf 6 fi18 13 6 [] [2, 7, 8, 26, 27, 28] (x18_6_0) n (f18_0_c l0_0 n2 r436 x438 x439)) x438 x439 = _
  rw [e]; rfl
def f18_t (c : Orc) (lf : Nat) (lp0 : List T → Int → List T → Int → Int → Option (List T)) (l0_0 : List T) (n0_1 : Int) (l0_2 : List T) (b0_3 : Bool) (n0_4 : Int) (l1_0 : List T) (n1_1 n1_2 : Int) (l1_3 l1_4 : List T) (n1_5 n1_6 n2 : Int) : Option (List T) :=
 (c 44 [T.st [T.sl l0_0], T.i .i64 n2]).bind fun r435 =>
 bif !(asB (nth r435 0)) then
  some [T.i .i64 0]
 else
  (c 9 [T.st [T.sl l1_0, T.i .i64 n1_1, T.i .i64 n1_2, T.sl l1_3, T.sl l1_4, T.i .i64 n1_5, T.i .i64 n1_6]]).bind fun r436 =>
  bif inR n2 l0_0.length then
  (lp0 l0_0 n2 r436 0 0).bind fun r441 =>
  some [T.i .i64 (asI (nth r441 1))]
  else none
def f18 (c : Orc) (lf : Nat) (l0_0 : List T) (n0_1 : Int) (l0_2 : List T) (b0_3 : Bool) (n0_4 : Int) (l1_0 : List T) (n1_1 n1_2 : Int) (l1_3 l1_4 : List T) (n1_5 n1_6 n2 : Int) : Option (List T) := f18_t c lf (fun (l0_0 : List T) (n2 : Int) (r436 : List T) (x438 x439 : Int) => f18_0 c lf l0_0 n2 r436 lf x438 x439) l0_0 n0_1 l0_2 b0_3 n0_4 l1_0 n1_1 n1_2 l1_3 l1_4 n1_5 n1_6 n2
theorem f18_raw (c : Orc) (lf : Nat) (l0_0 : List T) (n0_1 : Int) (l0_2 : List T) (b0_3 : Bool) (n0_4 : Int) (l1_0 : List T) (n1_1 n1_2 : Int) (l1_3 l1_4 : List T) (n1_5 n1_6 n2 : Int) : funK c env lf 6 fi18 [.st [.sl l0_0, .i .i64 n0_1, .sl l0_2, .b b0_3, .i .i64 n0_4], .st [.sl l1_0, .i .i64 n1_1, .i .i64 n1_2, .sl l1_3, .sl l1_4, .i .i64 n1_5, .i .i64 n1_6], .i .i64 n2] = f18_t c lf (fun (l0_0 : List T) (n2 : Int) (r436 : List T) (x438 x439 : Int) => lpK c env lf 6 fi18 13 6 [] [2, 7, 8, 26, 27, 28] (x18_6_0) lf (f18_0_c l0_0 n2 r436 x438 x439)) l0_0 n0_1 l0_2 b0_3 n0_4 l1_0 n1_1 n1_2 l1_3 l1_4 n1_5 n1_6 n2 := by kernel_rfl
theorem f18_eq (c : Orc) (lf : Nat) (l0_0 : List T) (n0_1 : Int) (l0_2 : List T) (b0_3 : Bool) (n0_4 : Int) (l1_0 : List T) (n1_1 n1_2 : Int) (l1_3 l1_4 : List T) (n1_5 n1_6 n2 : Int) : funK c env lf 6 fi18 [.st [.sl l0_0, .i .i64 n0_1, .sl l0_2, .b b0_3, .i .i64 n0_4], .st [.sl l1_0, .i .i64 n1_1, .i .i64 n1_2, .sl l1_3, .sl l1_4, .i .i64 n1_5, .i .i64 n1_6], .i .i64 n2] = f18 c lf l0_0 n0_1 l0_2 b0_3 n0_4 l1_0 n1_1 n1_2 l1_3 l1_4 n1_5 n1_6 n2 := by
 refine (f18_raw c lf l0_0 n0_1 l0_2 b0_3 n0_4 l1_0 n1_1 n1_2 l1_3 l1_4 n1_5 n1_6 n2).trans ?_
 have e0 : (fun (l0_0 : List T) (n2 : Int) (r436 : List T) (x438 x439 : Int) => lpK c env lf 6 fi18 13 6 [] [2, 7, 8, 26, 27, 28] (x18_6_0) lf (f18_0_c l0_0 n2 r436 x438 x439)) = (fun (l0_0 : List T) (n2 : Int) (r436 : List T) (x438 x439 : Int) => f18_0 c lf l0_0 n2 r436 lf x438 x439) := by funext l0_0 n2 r436 x438 x439; exact f18_0_eq c lf l0_0 n2 r436 lf x438 x439
 rw [e0]; rfl
def f138_0_s (c : Orc) (lf : Nat) (l0 l1 : List T) (L : Int → Option (List T)) (x444 : Int) : Option (List T) :=
 bif iLt x444 (l0.length : Int) then
  bif inR x444 l0.length then
  bif inR x444 l1.length then
  bif (asI (l0.getD x444.toNat T.u)) != (asI (l1.getD x444.toNat T.u)) then
   some [T.i .i64 0, T.b false]
  else
   L (IntKind.wrap .i64 (x444 + 1))
  else none
  else none
 else
  some [T.i .i64 1]
def f138_0_c (l0 l1 : List T) (x444 : Int) : CSt := ⟨[.ro 0 false [.i .u8] l0, .ro 0 false [.i .u8] l1, .i .i64 x444], [.dead, .dead]⟩
theorem f138_0_round (c : Orc) (lf : Nat) (l0 l1 : List T) (L : CSt → Option (List T)) (x444 : Int) :
 roundK c env lf 6 fi138 2 4 [] [0, 1, 5] (x138_4_0) L (f138_0_c l0 l1 x444) = f138_0_s c lf l0 l1 (fun x444 => L (f138_0_c l0 l1 x444)) x444 := by kernel_rfl
def f138_0 (c : Orc) (lf : Nat) (l0 l1 : List T) : Nat → Int → Option (List T)
 | 0 => fun _ => none
 | n + 1 => fun x444 => f138_0_s c lf l0 l1 (f138_0 c lf l0 l1 n) x444
theorem f138_0_eq (c : Orc) (lf : Nat) (l0 l1 : List T) (n : Nat) (x444 : Int) :
 lpK c env lf 6 fi138 2 4 [] [0, 1, 5] (x138_4_0) n (f138_0_c l0 l1 x444) = f138_0 c lf l0 l1 n x444 := by
 induction n generalizing x444 with
 | zero => rfl
 | succ n ih =>
  refine (f138_0_round c lf l0 l1 _ x444).trans ?_
  have e : (fun x444 => lpK c env lf 6 fi138 2 4 [] [0, 1, 5] (x138_4_0) n (f138_0_c l0 l1 x444)) = f138_0 c lf l0 l1 n := by funext x444; exact ih x444
  show f138_0_s c lf l0 l1 (fun x444 => lpK c env lf 6 fi138 2 4 [] [0, 1, 5] (x138_4_0) n (f138_0_c l0 l1 x444)) x444 = _
  rw [e]; rfl
def f138_t (c : Orc) (lf : Nat) (lp0 : List T → List T → Int → Option (List T)) (l0 l1 : List T) : Option (List T) :=
 bif (l0.length : Int) != (l1.length : Int) then
  some [T.b false]
 else
  (lp0 l0 l1 0).bind fun r445 =>
  bif asI (nth r445 0) == 0 then
   some [T.b (asB (nth r445 1))]
  else
   some [T.b true]
def f138 (c : Orc) (lf : Nat) (l0 l1 : List T) : Option (List T) := f138_t c lf (fun (l0 l1 : List T) (x444 : Int) => f138_0 c lf l0 l1 lf x444) l0 l1
theorem f138_raw (c : Orc) (lf : Nat) (l0 l1 : List T) : funK c env lf 6 fi138 [.sl l0, .sl l1] = f138_t c lf (fun (l0 l1 : List T) (x444 : Int) => lpK c env lf 6 fi138 2 4 [] [0, 1, 5] (x138_4_0) lf (f138_0_c l0 l1 x444)) l0 l1 := by kernel_rfl
theorem f138_eq (c : Orc) (lf : Nat) (l0 l1 : List T) : funK c env lf 6 fi138 [.sl l0, .sl l1] = f138 c lf l0 l1 := by
 refine (f138_raw c lf l0 l1).trans ?_
 have e0 : (fun (l0 l1 : List T) (x444 : Int) => lpK c env lf 6 fi138 2 4 [] [0, 1, 5] (x138_4_0) lf (f138_0_c l0 l1 x444)) = (fun (l0 l1 : List T) (x444 : Int) => f138_0 c lf l0 l1 lf x444) := by funext l0 l1 x444; exact f138_0_eq c lf l0 l1 lf x444
 rw [e0]; rfl
def f131_t (c : Orc) (lf : Nat) (b0_0 : Bool) (l0_1 : List T) (b1_0 : Bool) (l1_1 : List T) : Option (List T) :=
 bif !(b0_0 == b1_0) then
  some [T.b false]
 else
  (c 138 [T.sl l0_1, T.sl l1_1]).bind fun r446 =>
  bif !(asB (nth r446 0)) then
   some [T.b false]
  else
   some [T.b true]
def f131 (c : Orc) (lf : Nat) (b0_0 : Bool) (l0_1 : List T) (b1_0 : Bool) (l1_1 : List T) : Option (List T) := f131_t c lf b0_0 l0_1 b1_0 l1_1
theorem f131_eq (c : Orc) (lf : Nat) (b0_0 : Bool) (l0_1 : List T) (b1_0 : Bool) (l1_1 : List T) : funK c env lf 6 fi131 [.st [.b b0_0, .sl l0_1], .st [.b b1_0, .sl l1_1]] = f131 c lf b0_0 l0_1 b1_0 l1_1 := by kernel_rfl
def f125_0_s (c : Orc) (lf : Nat) (l0 l1 : List T) (L : Int → Option (List T)) (x452 : Int) : Option (List T) :=
 bif iLt x452 (l0.length : Int) then
  bif inR x452 l0.length then
  bif inR x452 l1.length then
  (c 131 [T.st [T.b (asB (T.cell (l0.getD x452.toNat T.u) 0)), T.sl (asL (T.cell (l0.getD x452.toNat T.u) 1))], T.st [T.b (asB (T.cell (l1.getD x452.toNat T.u) 0)), T.sl (asL (T.cell (l1.getD x452.toNat T.u) 1))]]).bind fun r453 =>
  bif !(asB (nth r453 0)) then
   some [T.i .i64 0, T.b false]
  else
   L (IntKind.wrap .i64 (x452 + 1))
  else none
  else none
 else
  some [T.i .i64 1]
def f125_0_c (l0 l1 : List T) (x452 : Int) : CSt := ⟨[.ro 0 true [.b, .sl false [.i .u8]] l0, .ro 0 true [.b, .sl false [.i .u8]] l1, .i .i64 x452], [.dead, .dead]⟩
theorem f125_0_round (c : Orc) (lf : Nat) (l0 l1 : List T) (L : CSt → Option (List T)) (x452 : Int) :
 roundK c env lf 6 fi125 2 4 [] [0, 1, 5] (x125_4_0) L (f125_0_c l0 l1 x452) = f125_0_s c lf l0 l1 (fun x452 => L (f125_0_c l0 l1 x452)) x452 := by kernel_rfl
def f125_0 (c : Orc) (lf : Nat) (l0 l1 : List T) : Nat → Int → Option (List T)
 | 0 => fun _ => none
 | n + 1 => fun x452 => f125_0_s c lf l0 l1 (f125_0 c lf l0 l1 n) x452
theorem f125_0_eq (c : Orc) (lf : Nat) (l0 l1 : List T) (n : Nat) (x452 : Int) :
 lpK c env lf 6 fi125 2 4 [] [0, 1, 5] (x125_4_0) n (f125_0_c l0 l1 x452) = f125_0 c lf l0 l1 n x452 := by
 induction n generalizing x452 with
 | zero => rfl
 | succ n ih =>
  refine (f125_0_round c lf l0 l1 _ x452).trans ?_
  have e : (fun x452 => lpK c env lf 6 fi125 2 4 [] [0, 1, 5] (x125_4_0) n (f125_0_c l0 l1 x452)) = f125_0 c lf l0 l1 n := by funext x452; exact ih x452
  show f125_0_s c lf l0 l1 (fun x452 => lpK c env lf 6 fi125 2 4 [] [0, 1, 5] (x125_4_0) n (f125_0_c l0 l1 x452)) x452 = _
  rw [e]; rfl
def f125_t (c : Orc) (lf : Nat) (lp0 : List T → List T → Int → Option (List T)) (l0 l1 : List T) : Option (List T) :=
 bif (l0.length : Int) != (l1.length : Int) then
  some [T.b false]
 else
  (lp0 l0 l1 0).bind fun r454 =>
  bif asI (nth r454 0) == 0 then
   some [T.b (asB (nth r454 1))]
  else
   some [T.b true]
def f125 (c : Orc) (lf : Nat) (l0 l1 : List T) : Option (List T) := f125_t c lf (fun (l0 l1 : List T) (x452 : Int) => f125_0 c lf l0 l1 lf x452) l0 l1
theorem f125_raw (c : Orc) (lf : Nat) (l0 l1 : List T) : funK c env lf 6 fi125 [.sl l0, .sl l1] = f125_t c lf (fun (l0 l1 : List T) (x452 : Int) => lpK c env lf 6 fi125 2 4 [] [0, 1, 5] (x125_4_0) lf (f125_0_c l0 l1 x452)) l0 l1 := by kernel_rfl
theorem f125_eq (c : Orc) (lf : Nat) (l0 l1 : List T) : funK c env lf 6 fi125 [.sl l0, .sl l1] = f125 c lf l0 l1 := by
 refine (f125_raw c lf l0 l1).trans ?_
 have e0 : (fun (l0 l1 : List T) (x452 : Int) => lpK c env lf 6 fi125 2 4 [] [0, 1, 5] (x125_4_0) lf (f125_0_c l0 l1 x452)) = (fun (l0 l1 : List T) (x452 : Int) => f125_0 c lf l0 l1 lf x452) := by funext l0 l1 x452; exact f125_0_eq c lf l0 l1 lf x452
 rw [e0]; rfl
def f118_t (c : Orc) (lf : Nat) (l0_0 : List T) (n0_1 : Int) (b0_2 : Bool) (l1_0 : List T) (n1_1 : Int) (b1_2 : Bool) : Option (List T) :=
 (c 125 [T.sl l0_0, T.sl l1_0]).bind fun r455 =>
 bif !(asB (nth r455 0)) then
  some [T.b false]
 else
  bif n0_1 != n1_1 then
   some [T.b false]
  else
   bif !(b0_2 == b1_2) then
    some [T.b false]
   else
    some [T.b true]
def f118 (c : Orc) (lf : Nat) (l0_0 : List T) (n0_1 : Int) (b0_2 : Bool) (l1_0 : List T) (n1_1 : Int) (b1_2 : Bool) : Option (List T) := f118_t c lf l0_0 n0_1 b0_2 l1_0 n1_1 b1_2
theorem f118_eq (c : Orc) (lf : Nat) (l0_0 : List T) (n0_1 : Int) (b0_2 : Bool) (l1_0 : List T) (n1_1 : Int) (b1_2 : Bool) : funK c env lf 6 fi118 [.st [.sl l0_0, .i .i64 n0_1, .b b0_2], .st [.sl l1_0, .i .i64 n1_1, .b b1_2]] = f118 c lf l0_0 n0_1 b0_2 l1_0 n1_1 b1_2 := by kernel_rfl
def f100_0_s (c : Orc) (lf : Nat) (l0 l1 : List T) (L : Int → Option (List T)) (x461 : Int) : Option (List T) :=
 bif iLt x461 (l0.length : Int) then
  bif inR x461 l0.length then
  bif inR x461 l1.length then
  (c 118 [T.st [T.sl (asL (T.cell (l0.getD x461.toNat T.u) 0)), T.i .i64 (asI (T.cell (l0.getD x461.toNat T.u) 1)), T.b (asB (T.cell (l0.getD x461.toNat T.u) 2))], T.st [T.sl (asL (T.cell (l1.getD x461.toNat T.u) 0)), T.i .i64 (asI (T.cell (l1.getD x461.toNat T.u) 1)), T.b (asB (T.cell (l1.getD x461.toNat T.u) 2))]]).bind fun r462 =>
  bif !(asB (nth r462 0)) then
   some [T.i .i64 0, T.b false]
  else
   L (IntKind.wrap .i64 (x461 + 1))
  else none
  else none
 else
  some [T.i .i64 1]
def f100_0_c (l0 l1 : List T) (x461 : Int) : CSt := ⟨[.ro 0 true [.sl true [.b, .sl false [.i .u8]], .i .i64, .b] l0, .ro 0 true [.sl true [.b, .sl false [.i .u8]], .i .i64, .b] l1, .i .i64 x461], [.dead, .dead]⟩
theorem f100_0_round (c : Orc) (lf : Nat) (l0 l1 : List T) (L : CSt → Option (List T)) (x461 : Int) :
 roundK c env lf 6 fi100 2 4 [] [0, 1, 5] (x100_4_0) L (f100_0_c l0 l1 x461) = f100_0_s c lf l0 l1 (fun x461 => L (f100_0_c l0 l1 x461)) x461 := by kernel_rfl
def f100_0 (c : Orc) (lf : Nat) (l0 l1 : List T) : Nat → Int → Option (List T)
 | 0 => fun _ => none
 | n + 1 => fun x461 => f100_0_s c lf l0 l1 (f100_0 c lf l0 l1 n) x461
theorem f100_0_eq (c : Orc) (lf : Nat) (l0 l1 : List T) (n : Nat) (x461 : Int) :
 lpK c env lf 6 fi100 2 4 [] [0, 1, 5] (x100_4_0) n (f100_0_c l0 l1 x461) = f100_0 c lf l0 l1 n x461 := by
 induction n generalizing x461 with
 | zero => rfl
 | succ n ih =>
  refine (f100_0_round c lf l0 l1 _ x461).trans ?_
  have e : (fun x461 => lpK c env lf 6 fi100 2 4 [] [0, 1, 5] (x100_4_0) n (f100_0_c l0 l1 x461)) = f100_0 c lf l0 l1 n := by funext x461; exact ih x461
  show f100_0_s c lf l0 l1 (fun x461 => lpK c env lf 6 fi100 2 4 [] [0, 1, 5] (x100_4_0) n (f100_0_c l0 l1 x461)) x461 = _
  rw [e]; rfl
def f100_t (c : Orc) (lf : Nat) (lp0 : List T → List T → Int → Option (List T)) (l0 l1 : List T) : Option (List T) :=
 bif (l0.length : Int) != (l1.length : Int) then
  some [T.b false]
 else
  (lp0 l0 l1 0).bind fun r463 =>
  bif asI (nth r463 0) == 0 then
   some [T.b (asB (nth r463 1))]
  else
   some [T.b true]
def f100 (c : Orc) (lf : Nat) (l0 l1 : List T) : Option (List T) := f100_t c lf (fun (l0 l1 : List T) (x461 : Int) => f100_0 c lf l0 l1 lf x461) l0 l1
theorem f100_raw (c : Orc) (lf : Nat) (l0 l1 : List T) : funK c env lf 6 fi100 [.sl l0, .sl l1] = f100_t c lf (fun (l0 l1 : List T) (x461 : Int) => lpK c env lf 6 fi100 2 4 [] [0, 1, 5] (x100_4_0) lf (f100_0_c l0 l1 x461)) l0 l1 := by kernel_rfl
theorem f100_eq (c : Orc) (lf : Nat) (l0 l1 : List T) : funK c env lf 6 fi100 [.sl l0, .sl l1] = f100 c lf l0 l1 := by
 refine (f100_raw c lf l0 l1).trans ?_
 have e0 : (fun (l0 l1 : List T) (x461 : Int) => lpK c env lf 6 fi100 2 4 [] [0, 1, 5] (x100_4_0) lf (f100_0_c l0 l1 x461)) = (fun (l0 l1 : List T) (x461 : Int) => f100_0 c lf l0 l1 lf x461) := by funext l0 l1 x461; exact f100_0_eq c lf l0 l1 lf x461
 rw [e0]; rfl
def f72_t (c : Orc) (lf : Nat) (l0_0 l1_0 : List T) : Option (List T) :=
 (c 100 [T.sl l0_0, T.sl l1_0]).bind fun r464 =>
 bif !(asB (nth r464 0)) then
  some [T.b false]
 else
  some [T.b true]
def f72 (c : Orc) (lf : Nat) (l0_0 l1_0 : List T) : Option (List T) := f72_t c lf l0_0 l1_0
theorem f72_eq (c : Orc) (lf : Nat) (l0_0 l1_0 : List T) : funK c env lf 6 fi72 [.st [.sl l0_0], .st [.sl l1_0]] = f72 c lf l0_0 l1_0 := by kernel_rfl
def f101_t (c : Orc) (lf : Nat) (n0_0 n0_1 : Int) (n0_2 n1_0 : Int) (n1_1 n1_2 : Int) : Option (List T) :=
 bif n0_0 != n1_0 then
  some [T.b false]
 else
  bif n0_1 != n1_1 then
   some [T.b false]
  else
   bif n0_2 != n1_2 then
    some [T.b false]
   else
    some [T.b true]
def f101 (c : Orc) (lf : Nat) (n0_0 n0_1 : Int) (n0_2 n1_0 : Int) (n1_1 n1_2 : Int) : Option (List T) := f101_t c lf n0_0 n0_1 n0_2 n1_0 n1_1 n1_2
theorem f101_eq (c : Orc) (lf : Nat) (n0_0 n0_1 : Int) (n0_2 n1_0 : Int) (n1_1 n1_2 : Int) : funK c env lf 6 fi101 [.st [.i .i64 n0_0, .i .i64 n0_1, .i .i64 n0_2], .st [.i .i64 n1_0, .i .i64 n1_1, .i .i64 n1_2]] = f101 c lf n0_0 n0_1 n0_2 n1_0 n1_1 n1_2 := by kernel_rfl
def f73_0_s (c : Orc) (lf : Nat) (l0 l1 : List T) (L : Int → Option (List T)) (x470 : Int) : Option (List T) :=
 bif iLt x470 (l0.length : Int) then
  bif inR x470 l0.length then
  bif inR x470 l1.length then
  (c 101 [T.st [T.i .i64 (asI (T.cell (l0.getD x470.toNat T.u) 0)), T.i .i64 (asI (T.cell (l0.getD x470.toNat T.u) 1)), T.i .i64 (asI (T.cell (l0.getD x470.toNat T.u) 2))], T.st [T.i .i64 (asI (T.cell (l1.getD x470.toNat T.u) 0)), T.i .i64 (asI (T.cell (l1.getD x470.toNat T.u) 1)), T.i .i64 (asI (T.cell (l1.getD x470.toNat T.u) 2))]]).bind fun r471 =>
  bif !(asB (nth r471 0)) then
   some [T.i .i64 0, T.b false]
  else
   L (IntKind.wrap .i64 (x470 + 1))
  else none
  else none
 else
  some [T.i .i64 1]
def f73_0_c (l0 l1 : List T) (x470 : Int) : CSt := ⟨[.ro 0 true [.i .i64, .i .i64, .i .i64] l0, .ro 0 true [.i .i64, .i .i64, .i .i64] l1, .i .i64 x470], [.dead, .dead]⟩
theorem f73_0_round (c : Orc) (lf : Nat) (l0 l1 : List T) (L : CSt → Option (List T)) (x470 : Int) :
 roundK c env lf 6 fi73 2 4 [] [0, 1, 5] (x73_4_0) L (f73_0_c l0 l1 x470) = f73_0_s c lf l0 l1 (fun x470 => L (f73_0_c l0 l1 x470)) x470 := by kernel_rfl
def f73_0 (c : Orc) (lf : Nat) (l0 l1 : List T) : Nat → Int → Option (List T)
 | 0 => fun _ => none
 | n + 1 => fun x470 => f73_0_s c lf l0 l1 (f73_0 c lf l0 l1 n) x470
theorem f73_0_eq (c : Orc) (lf : Nat) (l0 l1 : List T) (n : Nat) (x470 : Int) :
 lpK c env lf 6 fi73 2 4 [] [0, 1, 5] (x73_4_0) n (f73_0_c l0 l1 x470) = f73_0 c lf l0 l1 n x470 := by
 induction n generalizing x470 with
 | zero => rfl
 | succ n ih =>
  refine (f73_0_round c lf l0 l1 _ x470).trans ?_
  have e : (fun x470 => lpK c env lf 6 fi73 2 4 [] [0, 1, 5] (x73_4_0) n (f73_0_c l0 l1 x470)) = f73_0 c lf l0 l1 n := by funext x470; exact ih x470
  show f73_0_s c lf l0 l1 (fun x470 => lpK c env lf 6 fi73 2 4 [] [0, 1, 5] (x73_4_0) n (f73_0_c l0 l1 x470)) x470 = _
  rw [e]; rfl
def f73_t (c : Orc) (lf : Nat) (lp0 : List T → List T → Int → Option (List T)) (l0 l1 : List T) : Option (List T) :=
 bif (l0.length : Int) != (l1.length : Int) then
  some [T.b false]
 else
  (lp0 l0 l1 0).bind fun r472 =>
  bif asI (nth r472 0) == 0 then
   some [T.b (asB (nth r472 1))]
  else
   some [T.b true]
def f73 (c : Orc) (lf : Nat) (l0 l1 : List T) : Option (List T) := f73_t c lf (fun (l0 l1 : List T) (x470 : Int) => f73_0 c lf l0 l1 lf x470) l0 l1
theorem f73_raw (c : Orc) (lf : Nat) (l0 l1 : List T) : funK c env lf 6 fi73 [.sl l0, .sl l1] = f73_t c lf (fun (l0 l1 : List T) (x470 : Int) => lpK c env lf 6 fi73 2 4 [] [0, 1, 5] (x73_4_0) lf (f73_0_c l0 l1 x470)) l0 l1 := by kernel_rfl
theorem f73_eq (c : Orc) (lf : Nat) (l0 l1 : List T) : funK c env lf 6 fi73 [.sl l0, .sl l1] = f73 c lf l0 l1 := by
 refine (f73_raw c lf l0 l1).trans ?_
 have e0 : (fun (l0 l1 : List T) (x470 : Int) => lpK c env lf 6 fi73 2 4 [] [0, 1, 5] (x73_4_0) lf (f73_0_c l0 l1 x470)) = (fun (l0 l1 : List T) (x470 : Int) => f73_0 c lf l0 l1 lf x470) := by funext l0 l1 x470; exact f73_0_eq c lf l0 l1 lf x470
 rw [e0]; rfl
def f46_t (c : Orc) (lf : Nat) (l0_0 : List T) (n0_1 : Int) (l0_2 : List T) (b0_3 : Bool) (l1_0 : List T) (n1_1 : Int) (l1_2 : List T) (b1_3 : Bool) : Option (List T) :=
 (c 72 [T.st [T.sl l0_0], T.st [T.sl l1_0]]).bind fun r473 =>
 bif !(asB (nth r473 0)) then
  some [T.b false]
 else
  bif n0_1 != n1_1 then
   some [T.b false]
  else
   (c 73 [T.sl l0_2, T.sl l1_2]).bind fun r474 =>
   bif !(asB (nth r474 0)) then
    some [T.b false]
   else
    bif !(b0_3 == b1_3) then
     some [T.b false]
    else
     some [T.b true]
def f46 (c : Orc) (lf : Nat) (l0_0 : List T) (n0_1 : Int) (l0_2 : List T) (b0_3 : Bool) (l1_0 : List T) (n1_1 : Int) (l1_2 : List T) (b1_3 : Bool) : Option (List T) := f46_t c lf l0_0 n0_1 l0_2 b0_3 l1_0 n1_1 l1_2 b1_3
theorem f46_eq (c : Orc) (lf : Nat) (l0_0 : List T) (n0_1 : Int) (l0_2 : List T) (b0_3 : Bool) (l1_0 : List T) (n1_1 : Int) (l1_2 : List T) (b1_3 : Bool) : funK c env lf 6 fi46 [.st [.sl l0_0, .i .i64 n0_1, .sl l0_2, .b b0_3], .st [.sl l1_0, .i .i64 n1_1, .sl l1_2, .b b1_3]] = f46 c lf l0_0 n0_1 l0_2 b0_3 l1_0 n1_1 l1_2 b1_3 := by kernel_rfl
def f19_t (c : Orc) (lf : Nat) (l0_0 : List T) (n0_1 : Int) (l0_2 : List T) (b0_3 : Bool) (n0_4 : Int) (l1_0 : List T) (n1_1 : Int) (l1_2 : List T) (b1_3 : Bool) (n1_4 : Int) : Option (List T) :=
 (c 46 [T.st [T.sl l0_0, T.i .i64 n0_1, T.sl l0_2, T.b b0_3], T.st [T.sl l1_0, T.i .i64 n1_1, T.sl l1_2, T.b b1_3]]).bind fun r475 =>
 bif !(asB (nth r475 0)) then
  some [T.b false]
 else
  bif n0_4 != n1_4 then
   some [T.b false]
  else
   some [T.b true]
def f19 (c : Orc) (lf : Nat) (l0_0 : List T) (n0_1 : Int) (l0_2 : List T) (b0_3 : Bool) (n0_4 : Int) (l1_0 : List T) (n1_1 : Int) (l1_2 : List T) (b1_3 : Bool) (n1_4 : Int) : Option (List T) := f19_t c lf l0_0 n0_1 l0_2 b0_3 n0_4 l1_0 n1_1 l1_2 b1_3 n1_4
theorem f19_eq (c : Orc) (lf : Nat) (l0_0 : List T) (n0_1 : Int) (l0_2 : List T) (b0_3 : Bool) (n0_4 : Int) (l1_0 : List T) (n1_1 : Int) (l1_2 : List T) (b1_3 : Bool) (n1_4 : Int) : funK c env lf 6 fi19 [.st [.sl l0_0, .i .i64 n0_1, .sl l0_2, .b b0_3, .i .i64 n0_4], .st [.sl l1_0, .i .i64 n1_1, .sl l1_2, .b b1_3, .i .i64 n1_4]] = f19 c lf l0_0 n0_1 l0_2 b0_3 n0_4 l1_0 n1_1 l1_2 b1_3 n1_4 := by kernel_rfl
def f145_t (c : Orc) (lf : Nat) (s0_0 : ByteArray) (n0_1 : Int) (s1_0 : ByteArray) (n1_1 : Int) : Option (List T) :=
 bif !(s0_0.toList == s1_0.toList) then
  some [T.b false]
 else
  bif n0_1 != n1_1 then
   some [T.b false]
  else
   some [T.b true]
def f145 (c : Orc) (lf : Nat) (s0_0 : ByteArray) (n0_1 : Int) (s1_0 : ByteArray) (n1_1 : Int) : Option (List T) := f145_t c lf s0_0 n0_1 s1_0 n1_1
theorem f145_eq (c : Orc) (lf : Nat) (s0_0 : ByteArray) (n0_1 : Int) (s1_0 : ByteArray) (n1_1 : Int) : funK c env lf 6 fi145 [.st [.s s0_0, .i .i64 n0_1], .st [.s s1_0, .i .i64 n1_1]] = f145 c lf s0_0 n0_1 s1_0 n1_1 := by kernel_rfl
def f139_0_s (c : Orc) (lf : Nat) (l0 l1 : List T) (L : Int → Option (List T)) (x481 : Int) : Option (List T) :=
 bif iLt x481 (l0.length : Int) then
  bif inR x481 l0.length then
  bif inR x481 l1.length then
  (c 145 [T.st [T.s (asS (T.cell (l0.getD x481.toNat T.u) 0)), T.i .i64 (asI (T.cell (l0.getD x481.toNat T.u) 1))], T.st [T.s (asS (T.cell (l1.getD x481.toNat T.u) 0)), T.i .i64 (asI (T.cell (l1.getD x481.toNat T.u) 1))]]).bind fun r482 =>
  bif !(asB (nth r482 0)) then
   some [T.i .i64 0, T.b false]
  else
   L (IntKind.wrap .i64 (x481 + 1))
  else none
  else none
 else
  some [T.i .i64 1]
def f139_0_c (l0 l1 : List T) (x481 : Int) : CSt := ⟨[.ro 0 true [.s, .i .i64] l0, .ro 0 true [.s, .i .i64] l1, .i .i64 x481], [.dead, .dead]⟩
theorem f139_0_round (c : Orc) (lf : Nat) (l0 l1 : List T) (L : CSt → Option (List T)) (x481 : Int) :
 roundK c env lf 6 fi139 2 4 [] [0, 1, 5] (x139_4_0) L (f139_0_c l0 l1 x481) = f139_0_s c lf l0 l1 (fun x481 => L (f139_0_c l0 l1 x481)) x481 := by kernel_rfl
def f139_0 (c : Orc) (lf : Nat) (l0 l1 : List T) : Nat → Int → Option (List T)
 | 0 => fun _ => none
 | n + 1 => fun x481 => f139_0_s c lf l0 l1 (f139_0 c lf l0 l1 n) x481
theorem f139_0_eq (c : Orc) (lf : Nat) (l0 l1 : List T) (n : Nat) (x481 : Int) :
 lpK c env lf 6 fi139 2 4 [] [0, 1, 5] (x139_4_0) n (f139_0_c l0 l1 x481) = f139_0 c lf l0 l1 n x481 := by
 induction n generalizing x481 with
 | zero => rfl
 | succ n ih =>
  refine (f139_0_round c lf l0 l1 _ x481).trans ?_
  have e : (fun x481 => lpK c env lf 6 fi139 2 4 [] [0, 1, 5] (x139_4_0) n (f139_0_c l0 l1 x481)) = f139_0 c lf l0 l1 n := by funext x481; exact ih x481
  show f139_0_s c lf l0 l1 (fun x481 => lpK c env lf 6 fi139 2 4 [] [0, 1, 5] (x139_4_0) n (f139_0_c l0 l1 x481)) x481 = _
  rw [e]; rfl
def f139_t (c : Orc) (lf : Nat) (lp0 : List T → List T → Int → Option (List T)) (l0 l1 : List T) : Option (List T) :=
 bif (l0.length : Int) != (l1.length : Int) then
  some [T.b false]
 else
  (lp0 l0 l1 0).bind fun r483 =>
  bif asI (nth r483 0) == 0 then
   some [T.b (asB (nth r483 1))]
  else
   some [T.b true]
def f139 (c : Orc) (lf : Nat) (l0 l1 : List T) : Option (List T) := f139_t c lf (fun (l0 l1 : List T) (x481 : Int) => f139_0 c lf l0 l1 lf x481) l0 l1
theorem f139_raw (c : Orc) (lf : Nat) (l0 l1 : List T) : funK c env lf 6 fi139 [.sl l0, .sl l1] = f139_t c lf (fun (l0 l1 : List T) (x481 : Int) => lpK c env lf 6 fi139 2 4 [] [0, 1, 5] (x139_4_0) lf (f139_0_c l0 l1 x481)) l0 l1 := by kernel_rfl
theorem f139_eq (c : Orc) (lf : Nat) (l0 l1 : List T) : funK c env lf 6 fi139 [.sl l0, .sl l1] = f139 c lf l0 l1 := by
 refine (f139_raw c lf l0 l1).trans ?_
 have e0 : (fun (l0 l1 : List T) (x481 : Int) => lpK c env lf 6 fi139 2 4 [] [0, 1, 5] (x139_4_0) lf (f139_0_c l0 l1 x481)) = (fun (l0 l1 : List T) (x481 : Int) => f139_0 c lf l0 l1 lf x481) := by funext l0 l1 x481; exact f139_0_eq c lf l0 l1 lf x481
 rw [e0]; rfl
def f146_t (c : Orc) (lf : Nat) (s0_0 s0_1 : ByteArray) (s1_0 s1_1 : ByteArray) : Option (List T) :=
 bif !(s0_0.toList == s1_0.toList) then
  some [T.b false]
 else
  bif !(s0_1.toList == s1_1.toList) then
   some [T.b false]
  else
   some [T.b true]
def f146 (c : Orc) (lf : Nat) (s0_0 s0_1 : ByteArray) (s1_0 s1_1 : ByteArray) : Option (List T) := f146_t c lf s0_0 s0_1 s1_0 s1_1
theorem f146_eq (c : Orc) (lf : Nat) (s0_0 s0_1 : ByteArray) (s1_0 s1_1 : ByteArray) : funK c env lf 6 fi146 [.st [.s s0_0, .s s0_1], .st [.s s1_0, .s s1_1]] = f146 c lf s0_0 s0_1 s1_0 s1_1 := by kernel_rfl
def f140_0_s (c : Orc) (lf : Nat) (l0 l1 : List T) (L : Int → Option (List T)) (x489 : Int) : Option (List T) :=
 bif iLt x489 (l0.length : Int) then
  bif inR x489 l0.length then
  bif inR x489 l1.length then
  (c 146 [T.st [T.s (asS (T.cell (l0.getD x489.toNat T.u) 0)), T.s (asS (T.cell (l0.getD x489.toNat T.u) 1))], T.st [T.s (asS (T.cell (l1.getD x489.toNat T.u) 0)), T.s (asS (T.cell (l1.getD x489.toNat T.u) 1))]]).bind fun r490 =>
  bif !(asB (nth r490 0)) then
   some [T.i .i64 0, T.b false]
  else
   L (IntKind.wrap .i64 (x489 + 1))
  else none
  else none
 else
  some [T.i .i64 1]
def f140_0_c (l0 l1 : List T) (x489 : Int) : CSt := ⟨[.ro 0 true [.s, .s] l0, .ro 0 true [.s, .s] l1, .i .i64 x489], [.dead, .dead]⟩
theorem f140_0_round (c : Orc) (lf : Nat) (l0 l1 : List T) (L : CSt → Option (List T)) (x489 : Int) :
 roundK c env lf 6 fi140 2 4 [] [0, 1, 5] (x140_4_0) L (f140_0_c l0 l1 x489) = f140_0_s c lf l0 l1 (fun x489 => L (f140_0_c l0 l1 x489)) x489 := by kernel_rfl
def f140_0 (c : Orc) (lf : Nat) (l0 l1 : List T) : Nat → Int → Option (List T)
 | 0 => fun _ => none
 | n + 1 => fun x489 => f140_0_s c lf l0 l1 (f140_0 c lf l0 l1 n) x489
theorem f140_0_eq (c : Orc) (lf : Nat) (l0 l1 : List T) (n : Nat) (x489 : Int) :
 lpK c env lf 6 fi140 2 4 [] [0, 1, 5] (x140_4_0) n (f140_0_c l0 l1 x489) = f140_0 c lf l0 l1 n x489 := by
 induction n generalizing x489 with
 | zero => rfl
 | succ n ih =>
  refine (f140_0_round c lf l0 l1 _ x489).trans ?_
  have e : (fun x489 => lpK c env lf 6 fi140 2 4 [] [0, 1, 5] (x140_4_0) n (f140_0_c l0 l1 x489)) = f140_0 c lf l0 l1 n := by funext x489; exact ih x489
  show f140_0_s c lf l0 l1 (fun x489 => lpK c env lf 6 fi140 2 4 [] [0, 1, 5] (x140_4_0) n (f140_0_c l0 l1 x489)) x489 = _
  rw [e]; rfl
def f140_t (c : Orc) (lf : Nat) (lp0 : List T → List T → Int → Option (List T)) (l0 l1 : List T) : Option (List T) :=
 bif (l0.length : Int) != (l1.length : Int) then
  some [T.b false]
 else
  (lp0 l0 l1 0).bind fun r491 =>
  bif asI (nth r491 0) == 0 then
   some [T.b (asB (nth r491 1))]
  else
   some [T.b true]
def f140 (c : Orc) (lf : Nat) (l0 l1 : List T) : Option (List T) := f140_t c lf (fun (l0 l1 : List T) (x489 : Int) => f140_0 c lf l0 l1 lf x489) l0 l1
theorem f140_raw (c : Orc) (lf : Nat) (l0 l1 : List T) : funK c env lf 6 fi140 [.sl l0, .sl l1] = f140_t c lf (fun (l0 l1 : List T) (x489 : Int) => lpK c env lf 6 fi140 2 4 [] [0, 1, 5] (x140_4_0) lf (f140_0_c l0 l1 x489)) l0 l1 := by kernel_rfl
theorem f140_eq (c : Orc) (lf : Nat) (l0 l1 : List T) : funK c env lf 6 fi140 [.sl l0, .sl l1] = f140 c lf l0 l1 := by
 refine (f140_raw c lf l0 l1).trans ?_
 have e0 : (fun (l0 l1 : List T) (x489 : Int) => lpK c env lf 6 fi140 2 4 [] [0, 1, 5] (x140_4_0) lf (f140_0_c l0 l1 x489)) = (fun (l0 l1 : List T) (x489 : Int) => f140_0 c lf l0 l1 lf x489) := by funext l0 l1 x489; exact f140_0_eq c lf l0 l1 lf x489
 rw [e0]; rfl
def f128_t (c : Orc) (lf : Nat) (n0_0 n0_1 n0_2 : Int) (l0_3 l0_4 l0_5 : List T) (n1_0 n1_1 n1_2 : Int) (l1_3 l1_4 l1_5 : List T) : Option (List T) :=
 bif n0_0 != n1_0 then
  some [T.b false]
 else
  bif n0_1 != n1_1 then
   some [T.b false]
  else
   bif n0_2 != n1_2 then
    some [T.b false]
   else
    (c 138 [T.sl l0_3, T.sl l1_3]).bind fun r492 =>
    bif !(asB (nth r492 0)) then
     some [T.b false]
    else
     (c 139 [T.sl l0_4, T.sl l1_4]).bind fun r493 =>
     bif !(asB (nth r493 0)) then
      some [T.b false]
     else
      (c 140 [T.sl l0_5, T.sl l1_5]).bind fun r494 =>
      bif !(asB (nth r494 0)) then
       some [T.b false]
      else
       some [T.b true]
def f128 (c : Orc) (lf : Nat) (n0_0 n0_1 n0_2 : Int) (l0_3 l0_4 l0_5 : List T) (n1_0 n1_1 n1_2 : Int) (l1_3 l1_4 l1_5 : List T) : Option (List T) := f128_t c lf n0_0 n0_1 n0_2 l0_3 l0_4 l0_5 n1_0 n1_1 n1_2 l1_3 l1_4 l1_5
theorem f128_eq (c : Orc) (lf : Nat) (n0_0 n0_1 n0_2 : Int) (l0_3 l0_4 l0_5 : List T) (n1_0 n1_1 n1_2 : Int) (l1_3 l1_4 l1_5 : List T) : funK c env lf 6 fi128 [.st [.i .i64 n0_0, .i .i64 n0_1, .i .i64 n0_2, .sl l0_3, .sl l0_4, .sl l0_5], .st [.i .i64 n1_0, .i .i64 n1_1, .i .i64 n1_2, .sl l1_3, .sl l1_4, .sl l1_5]] = f128 c lf n0_0 n0_1 n0_2 l0_3 l0_4 l0_5 n1_0 n1_1 n1_2 l1_3 l1_4 l1_5 := by kernel_rfl
def f122_0_s (c : Orc) (lf : Nat) (l0 l1 : List T) (L : Int → Option (List T)) (x500 : Int) : Option (List T) :=
 bif iLt x500 (l0.length : Int) then
  bif inR x500 l0.length then
  bif inR x500 l1.length then
  (c 128 [T.st [T.i .i64 (asI (T.cell (l0.getD x500.toNat T.u) 0)), T.i .i64 (asI (T.cell (l0.getD x500.toNat T.u) 1)), T.i .i64 (asI (T.cell (l0.getD x500.toNat T.u) 2)), T.sl (asL (T.cell (l0.getD x500.toNat T.u) 3)), T.sl (asL (T.cell (l0.getD x500.toNat T.u) 4)), T.sl (asL (T.cell (l0.getD x500.toNat T.u) 5))], T.st [T.i .i64 (asI (T.cell (l1.getD x500.toNat T.u) 0)), T.i .i64 (asI (T.cell (l1.getD x500.toNat T.u) 1)), T.i .i64 (asI (T.cell (l1.getD x500.toNat T.u) 2)), T.sl (asL (T.cell (l1.getD x500.toNat T.u) 3)), T.sl (asL (T.cell (l1.getD x500.toNat T.u) 4)), T.sl (asL (T.cell (l1.getD x500.toNat T.u) 5))]]).bind fun r501 =>
  bif !(asB (nth r501 0)) then
   some [T.i .i64 0, T.b false]
  else
   L (IntKind.wrap .i64 (x500 + 1))
  else none
  else none
 else
  some [T.i .i64 1]
def f122_0_c (l0 l1 : List T) (x500 : Int) : CSt := ⟨[.ro 0 true [.i .i64, .i .i64, .i .i64, .sl false [.i .u8], .sl true [.s, .i .i64], .sl true [.s, .s]] l0, .ro 0 true [.i .i64, .i .i64, .i .i64, .sl false [.i .u8], .sl true [.s, .i .i64], .sl true [.s, .s]] l1, .i .i64 x500], [.dead, .dead]⟩
theorem f122_0_round (c : Orc) (lf : Nat) (l0 l1 : List T) (L : CSt → Option (List T)) (x500 : Int) :
 roundK c env lf 6 fi122 2 4 [] [0, 1, 5] (x122_4_0) L (f122_0_c l0 l1 x500) = f122_0_s c lf l0 l1 (fun x500 => L (f122_0_c l0 l1 x500)) x500 := by kernel_rfl
def f122_0 (c : Orc) (lf : Nat) (l0 l1 : List T) : Nat → Int → Option (List T)
 | 0 => fun _ => none
 | n + 1 => fun x500 => f122_0_s c lf l0 l1 (f122_0 c lf l0 l1 n) x500
theorem f122_0_eq (c : Orc) (lf : Nat) (l0 l1 : List T) (n : Nat) (x500 : Int) :
 lpK c env lf 6 fi122 2 4 [] [0, 1, 5] (x122_4_0) n (f122_0_c l0 l1 x500) = f122_0 c lf l0 l1 n x500 := by
 induction n generalizing x500 with
 | zero => rfl
 | succ n ih =>
  refine (f122_0_round c lf l0 l1 _ x500).trans ?_
  have e : (fun x500 => lpK c env lf 6 fi122 2 4 [] [0, 1, 5] (x122_4_0) n (f122_0_c l0 l1 x500)) = f122_0 c lf l0 l1 n := by funext x500; exact ih x500
  show f122_0_s c lf l0 l1 (fun x500 => lpK c env lf 6 fi122 2 4 [] [0, 1, 5] (x122_4_0) n (f122_0_c l0 l1 x500)) x500 = _
  rw [e]; rfl
def f122_t (c : Orc) (lf : Nat) (lp0 : List T → List T → Int → Option (List T)) (l0 l1 : List T) : Option (List T) :=
 bif (l0.length : Int) != (l1.length : Int) then
  some [T.b false]
 else
  (lp0 l0 l1 0).bind fun r502 =>
  bif asI (nth r502 0) == 0 then
   some [T.b (asB (nth r502 1))]
  else
   some [T.b true]
def f122 (c : Orc) (lf : Nat) (l0 l1 : List T) : Option (List T) := f122_t c lf (fun (l0 l1 : List T) (x500 : Int) => f122_0 c lf l0 l1 lf x500) l0 l1
theorem f122_raw (c : Orc) (lf : Nat) (l0 l1 : List T) : funK c env lf 6 fi122 [.sl l0, .sl l1] = f122_t c lf (fun (l0 l1 : List T) (x500 : Int) => lpK c env lf 6 fi122 2 4 [] [0, 1, 5] (x122_4_0) lf (f122_0_c l0 l1 x500)) l0 l1 := by kernel_rfl
theorem f122_eq (c : Orc) (lf : Nat) (l0 l1 : List T) : funK c env lf 6 fi122 [.sl l0, .sl l1] = f122 c lf l0 l1 := by
 refine (f122_raw c lf l0 l1).trans ?_
 have e0 : (fun (l0 l1 : List T) (x500 : Int) => lpK c env lf 6 fi122 2 4 [] [0, 1, 5] (x122_4_0) lf (f122_0_c l0 l1 x500)) = (fun (l0 l1 : List T) (x500 : Int) => f122_0 c lf l0 l1 lf x500) := by funext l0 l1 x500; exact f122_0_eq c lf l0 l1 lf x500
 rw [e0]; rfl
def f111_t (c : Orc) (lf : Nat) (l0_0 : List T) (n0_1 : Int) (l1_0 : List T) (n1_1 : Int) : Option (List T) :=
 (c 122 [T.sl l0_0, T.sl l1_0]).bind fun r503 =>
 bif !(asB (nth r503 0)) then
  some [T.b false]
 else
  bif n0_1 != n1_1 then
   some [T.b false]
  else
   some [T.b true]
def f111 (c : Orc) (lf : Nat) (l0_0 : List T) (n0_1 : Int) (l1_0 : List T) (n1_1 : Int) : Option (List T) := f111_t c lf l0_0 n0_1 l1_0 n1_1
theorem f111_eq (c : Orc) (lf : Nat) (l0_0 : List T) (n0_1 : Int) (l1_0 : List T) (n1_1 : Int) : funK c env lf 6 fi111 [.st [.sl l0_0, .i .i64 n0_1], .st [.sl l1_0, .i .i64 n1_1]] = f111 c lf l0_0 n0_1 l1_0 n1_1 := by kernel_rfl
def f92_t (c : Orc) (lf : Nat) (n0_0 : Int) (s0_1 : ByteArray) (b0_2 : Bool) (n0_3 : Int) (l0_4 : List T) (n0_5 n1_0 : Int) (s1_1 : ByteArray) (b1_2 : Bool) (n1_3 : Int) (l1_4 : List T) (n1_5 : Int) : Option (List T) :=
 bif n0_0 != n1_0 then
  some [T.b false]
 else
  bif !(s0_1.toList == s1_1.toList) then
   some [T.b false]
  else
   bif !(b0_2 == b1_2) then
    some [T.b false]
   else
    bif n0_3 != n1_3 then
     some [T.b false]
    else
     (c 111 [T.st [T.sl l0_4, T.i .i64 n0_5], T.st [T.sl l1_4, T.i .i64 n1_5]]).bind fun r504 =>
     bif !(asB (nth r504 0)) then
      some [T.b false]
     else
      some [T.b true]
def f92 (c : Orc) (lf : Nat) (n0_0 : Int) (s0_1 : ByteArray) (b0_2 : Bool) (n0_3 : Int) (l0_4 : List T) (n0_5 n1_0 : Int) (s1_1 : ByteArray) (b1_2 : Bool) (n1_3 : Int) (l1_4 : List T) (n1_5 : Int) : Option (List T) := f92_t c lf n0_0 s0_1 b0_2 n0_3 l0_4 n0_5 n1_0 s1_1 b1_2 n1_3 l1_4 n1_5
theorem f92_eq (c : Orc) (lf : Nat) (n0_0 : Int) (s0_1 : ByteArray) (b0_2 : Bool) (n0_3 : Int) (l0_4 : List T) (n0_5 n1_0 : Int) (s1_1 : ByteArray) (b1_2 : Bool) (n1_3 : Int) (l1_4 : List T) (n1_5 : Int) : funK c env lf 6 fi92 [.st [.i .i64 n0_0, .s s0_1, .b b0_2, .i .i64 n0_3, .sl l0_4, .i .i64 n0_5], .st [.i .i64 n1_0, .s s1_1, .b b1_2, .i .i64 n1_3, .sl l1_4, .i .i64 n1_5]] = f92 c lf n0_0 s0_1 b0_2 n0_3 l0_4 n0_5 n1_0 s1_1 b1_2 n1_3 l1_4 n1_5 := by kernel_rfl
def f60_0_s (c : Orc) (lf : Nat) (l0 l1 : List T) (L : Int → Option (List T)) (x510 : Int) : Option (List T) :=
 bif iLt x510 (l0.length : Int) then
  bif inR x510 l0.length then
  bif inR x510 l1.length then
  (c 92 [T.st [T.i .i64 (asI (T.cell (l0.getD x510.toNat T.u) 0)), T.s (asS (T.cell (l0.getD x510.toNat T.u) 1)), T.b (asB (T.cell (l0.getD x510.toNat T.u) 2)), T.i .i64 (asI (T.cell (l0.getD x510.toNat T.u) 3)), T.sl (asL (T.cell (l0.getD x510.toNat T.u) 4)), T.i .i64 (asI (T.cell (l0.getD x510.toNat T.u) 5))], T.st [T.i .i64 (asI (T.cell (l1.getD x510.toNat T.u) 0)), T.s (asS (T.cell (l1.getD x510.toNat T.u) 1)), T.b (asB (T.cell (l1.getD x510.toNat T.u) 2)), T.i .i64 (asI (T.cell (l1.getD x510.toNat T.u) 3)), T.sl (asL (T.cell (l1.getD x510.toNat T.u) 4)), T.i .i64 (asI (T.cell (l1.getD x510.toNat T.u) 5))]]).bind fun r511 =>
  bif !(asB (nth r511 0)) then
   some [T.i .i64 0, T.b false]
  else
   L (IntKind.wrap .i64 (x510 + 1))
  else none
  else none
 else
  some [T.i .i64 1]
def f60_0_c (l0 l1 : List T) (x510 : Int) : CSt := ⟨[.ro 0 true [.i .i64, .s, .b, .i .i64, .sl true [.i .i64, .i .i64, .i .i64, .sl false [.i .u8], .sl true [.s, .i .i64], .sl true [.s, .s]], .i .i64] l0, .ro 0 true [.i .i64, .s, .b, .i .i64, .sl true [.i .i64, .i .i64, .i .i64, .sl false [.i .u8], .sl true [.s, .i .i64], .sl true [.s, .s]], .i .i64] l1, .i .i64 x510], [.dead, .dead]⟩
theorem f60_0_round (c : Orc) (lf : Nat) (l0 l1 : List T) (L : CSt → Option (List T)) (x510 : Int) :
 roundK c env lf 6 fi60 2 4 [] [0, 1, 5] (x60_4_0) L (f60_0_c l0 l1 x510) = f60_0_s c lf l0 l1 (fun x510 => L (f60_0_c l0 l1 x510)) x510 := by kernel_rfl
def f60_0 (c : Orc) (lf : Nat) (l0 l1 : List T) : Nat → Int → Option (List T)
 | 0 => fun _ => none
 | n + 1 => fun x510 => f60_0_s c lf l0 l1 (f60_0 c lf l0 l1 n) x510
theorem f60_0_eq (c : Orc) (lf : Nat) (l0 l1 : List T) (n : Nat) (x510 : Int) :
 lpK c env lf 6 fi60 2 4 [] [0, 1, 5] (x60_4_0) n (f60_0_c l0 l1 x510) = f60_0 c lf l0 l1 n x510 := by
 induction n generalizing x510 with
 | zero => rfl
 | succ n ih =>
  refine (f60_0_round c lf l0 l1 _ x510).trans ?_
  have e : (fun x510 => lpK c env lf 6 fi60 2 4 [] [0, 1, 5] (x60_4_0) n (f60_0_c l0 l1 x510)) = f60_0 c lf l0 l1 n := by funext x510; exact ih x510
  show f60_0_s c lf l0 l1 (fun x510 => lpK c env lf 6 fi60 2 4 [] [0, 1, 5] (x60_4_0) n (f60_0_c l0 l1 x510)) x510 = _
  rw [e]; rfl
def f60_t (c : Orc) (lf : Nat) (lp0 : List T → List T → Int → Option (List T)) (l0 l1 : List T) : Option (List T) :=
 bif (l0.length : Int) != (l1.length : Int) then
  some [T.b false]
 else
  (lp0 l0 l1 0).bind fun r512 =>
  bif asI (nth r512 0) == 0 then
   some [T.b (asB (nth r512 1))]
  else
   some [T.b true]
def f60 (c : Orc) (lf : Nat) (l0 l1 : List T) : Option (List T) := f60_t c lf (fun (l0 l1 : List T) (x510 : Int) => f60_0 c lf l0 l1 lf x510) l0 l1
theorem f60_raw (c : Orc) (lf : Nat) (l0 l1 : List T) : funK c env lf 6 fi60 [.sl l0, .sl l1] = f60_t c lf (fun (l0 l1 : List T) (x510 : Int) => lpK c env lf 6 fi60 2 4 [] [0, 1, 5] (x60_4_0) lf (f60_0_c l0 l1 x510)) l0 l1 := by kernel_rfl
theorem f60_eq (c : Orc) (lf : Nat) (l0 l1 : List T) : funK c env lf 6 fi60 [.sl l0, .sl l1] = f60 c lf l0 l1 := by
 refine (f60_raw c lf l0 l1).trans ?_
 have e0 : (fun (l0 l1 : List T) (x510 : Int) => lpK c env lf 6 fi60 2 4 [] [0, 1, 5] (x60_4_0) lf (f60_0_c l0 l1 x510)) = (fun (l0 l1 : List T) (x510 : Int) => f60_0 c lf l0 l1 lf x510) := by funext l0 l1 x510; exact f60_0_eq c lf l0 l1 lf x510
 rw [e0]; rfl
def f35_t (c : Orc) (lf : Nat) (l0_0 : List T) (n0_1 : Int) (l1_0 : List T) (n1_1 : Int) : Option (List T) :=
 (c 60 [T.sl l0_0, T.sl l1_0]).bind fun r513 =>
 bif !(asB (nth r513 0)) then
  some [T.b false]
 else
  bif n0_1 != n1_1 then
   some [T.b false]
  else
   some [T.b true]
def f35 (c : Orc) (lf : Nat) (l0_0 : List T) (n0_1 : Int) (l1_0 : List T) (n1_1 : Int) : Option (List T) := f35_t c lf l0_0 n0_1 l1_0 n1_1
theorem f35_eq (c : Orc) (lf : Nat) (l0_0 : List T) (n0_1 : Int) (l1_0 : List T) (n1_1 : Int) : funK c env lf 6 fi35 [.st [.sl l0_0, .i .i64 n0_1], .st [.sl l1_0, .i .i64 n1_1]] = f35 c lf l0_0 n0_1 l1_0 n1_1 := by kernel_rfl
def f93_t (c : Orc) (lf : Nat) (n0_0 : Int) (s0_1 : ByteArray) (b0_2 : Bool) (n0_3 n0_4 n1_0 : Int) (s1_1 : ByteArray) (b1_2 : Bool) (n1_3 n1_4 : Int) : Option (List T) :=
 bif n0_0 != n1_0 then
  some [T.b false]
 else
  bif !(s0_1.toList == s1_1.toList) then
   some [T.b false]
  else
   bif !(b0_2 == b1_2) then
    some [T.b false]
   else
    bif n0_3 != n1_3 then
     some [T.b false]
    else
     bif n0_4 != n1_4 then
      some [T.b false]
     else
      some [T.b true]
def f93 (c : Orc) (lf : Nat) (n0_0 : Int) (s0_1 : ByteArray) (b0_2 : Bool) (n0_3 n0_4 n1_0 : Int) (s1_1 : ByteArray) (b1_2 : Bool) (n1_3 n1_4 : Int) : Option (List T) := f93_t c lf n0_0 s0_1 b0_2 n0_3 n0_4 n1_0 s1_1 b1_2 n1_3 n1_4
theorem f93_eq (c : Orc) (lf : Nat) (n0_0 : Int) (s0_1 : ByteArray) (b0_2 : Bool) (n0_3 n0_4 n1_0 : Int) (s1_1 : ByteArray) (b1_2 : Bool) (n1_3 n1_4 : Int) : funK c env lf 6 fi93 [.st [.i .i64 n0_0, .s s0_1, .b b0_2, .i .i64 n0_3, .i .i64 n0_4], .st [.i .i64 n1_0, .s s1_1, .b b1_2, .i .i64 n1_3, .i .i64 n1_4]] = f93 c lf n0_0 s0_1 b0_2 n0_3 n0_4 n1_0 s1_1 b1_2 n1_3 n1_4 := by kernel_rfl
def f61_0_s (c : Orc) (lf : Nat) (l0 l1 : List T) (L : Int → Option (List T)) (x519 : Int) : Option (List T) :=
 bif iLt x519 (l0.length : Int) then
  bif inR x519 l0.length then
  bif inR x519 l1.length then
  (c 93 [T.st [T.i .i64 (asI (T.cell (l0.getD x519.toNat T.u) 0)), T.s (asS (T.cell (l0.getD x519.toNat T.u) 1)), T.b (asB (T.cell (l0.getD x519.toNat T.u) 2)), T.i .i64 (asI (T.cell (l0.getD x519.toNat T.u) 3)), T.i .i64 (asI (T.cell (l0.getD x519.toNat T.u) 4))], T.st [T.i .i64 (asI (T.cell (l1.getD x519.toNat T.u) 0)), T.s (asS (T.cell (l1.getD x519.toNat T.u) 1)), T.b (asB (T.cell (l1.getD x519.toNat T.u) 2)), T.i .i64 (asI (T.cell (l1.getD x519.toNat T.u) 3)), T.i .i64 (asI (T.cell (l1.getD x519.toNat T.u) 4))]]).bind fun r520 =>
  bif !(asB (nth r520 0)) then
   some [T.i .i64 0, T.b false]
  else
   L (IntKind.wrap .i64 (x519 + 1))
  else none
  else none
 else
  some [T.i .i64 1]
def f61_0_c (l0 l1 : List T) (x519 : Int) : CSt := ⟨[.ro 0 true [.i .i64, .s, .b, .i .i64, .i .i64] l0, .ro 0 true [.i .i64, .s, .b, .i .i64, .i .i64] l1, .i .i64 x519], [.dead, .dead]⟩
theorem f61_0_round (c : Orc) (lf : Nat) (l0 l1 : List T) (L : CSt → Option (List T)) (x519 : Int) :
 roundK c env lf 6 fi61 2 4 [] [0, 1, 5] (x61_4_0) L (f61_0_c l0 l1 x519) = f61_0_s c lf l0 l1 (fun x519 => L (f61_0_c l0 l1 x519)) x519 := by kernel_rfl
def f61_0 (c : Orc) (lf : Nat) (l0 l1 : List T) : Nat → Int → Option (List T)
 | 0 => fun _ => none
 | n + 1 => fun x519 => f61_0_s c lf l0 l1 (f61_0 c lf l0 l1 n) x519
theorem f61_0_eq (c : Orc) (lf : Nat) (l0 l1 : List T) (n : Nat) (x519 : Int) :
 lpK c env lf 6 fi61 2 4 [] [0, 1, 5] (x61_4_0) n (f61_0_c l0 l1 x519) = f61_0 c lf l0 l1 n x519 := by
 induction n generalizing x519 with
 | zero => rfl
 | succ n ih =>
  refine (f61_0_round c lf l0 l1 _ x519).trans ?_
  have e : (fun x519 => lpK c env lf 6 fi61 2 4 [] [0, 1, 5] (x61_4_0) n (f61_0_c l0 l1 x519)) = f61_0 c lf l0 l1 n := by funext x519; exact ih x519
  show f61_0_s c lf l0 l1 (fun x519 => lpK c env lf 6 fi61 2 4 [] [0, 1, 5] (x61_4_0) n (f61_0_c l0 l1 x519)) x519 = _
  rw [e]; rfl
def f61_t (c : Orc) (lf : Nat) (lp0 : List T → List T → Int → Option (List T)) (l0 l1 : List T) : Option (List T) :=
 bif (l0.length : Int) != (l1.length : Int) then
  some [T.b false]
 else
  (lp0 l0 l1 0).bind fun r521 =>
  bif asI (nth r521 0) == 0 then
   some [T.b (asB (nth r521 1))]
  else
   some [T.b true]
def f61 (c : Orc) (lf : Nat) (l0 l1 : List T) : Option (List T) := f61_t c lf (fun (l0 l1 : List T) (x519 : Int) => f61_0 c lf l0 l1 lf x519) l0 l1
theorem f61_raw (c : Orc) (lf : Nat) (l0 l1 : List T) : funK c env lf 6 fi61 [.sl l0, .sl l1] = f61_t c lf (fun (l0 l1 : List T) (x519 : Int) => lpK c env lf 6 fi61 2 4 [] [0, 1, 5] (x61_4_0) lf (f61_0_c l0 l1 x519)) l0 l1 := by kernel_rfl
theorem f61_eq (c : Orc) (lf : Nat) (l0 l1 : List T) : funK c env lf 6 fi61 [.sl l0, .sl l1] = f61 c lf l0 l1 := by
 refine (f61_raw c lf l0 l1).trans ?_
 have e0 : (fun (l0 l1 : List T) (x519 : Int) => lpK c env lf 6 fi61 2 4 [] [0, 1, 5] (x61_4_0) lf (f61_0_c l0 l1 x519)) = (fun (l0 l1 : List T) (x519 : Int) => f61_0 c lf l0 l1 lf x519) := by funext l0 l1 x519; exact f61_0_eq c lf l0 l1 lf x519
 rw [e0]; rfl
def f36_t (c : Orc) (lf : Nat) (n0_0 : Int) (l0_1 : List T) (n1_0 : Int) (l1_1 : List T) : Option (List T) :=
 bif n0_0 != n1_0 then
  some [T.b false]
 else
  (c 61 [T.sl l0_1, T.sl l1_1]).bind fun r522 =>
  bif !(asB (nth r522 0)) then
   some [T.b false]
  else
   some [T.b true]
def f36 (c : Orc) (lf : Nat) (n0_0 : Int) (l0_1 : List T) (n1_0 : Int) (l1_1 : List T) : Option (List T) := f36_t c lf n0_0 l0_1 n1_0 l1_1
theorem f36_eq (c : Orc) (lf : Nat) (n0_0 : Int) (l0_1 : List T) (n1_0 : Int) (l1_1 : List T) : funK c env lf 6 fi36 [.st [.i .i64 n0_0, .sl l0_1], .st [.i .i64 n1_0, .sl l1_1]] = f36 c lf n0_0 l0_1 n1_0 l1_1 := by kernel_rfl
def f112_t (c : Orc) (lf : Nat) (n0_0 n0_1 : Int) (n1_0 n1_1 : Int) : Option (List T) :=
 bif n0_0 != n1_0 then
  some [T.b false]
 else
  bif n0_1 != n1_1 then
   some [T.b false]
  else
   some [T.b true]
def f112 (c : Orc) (lf : Nat) (n0_0 n0_1 : Int) (n1_0 n1_1 : Int) : Option (List T) := f112_t c lf n0_0 n0_1 n1_0 n1_1
theorem f112_eq (c : Orc) (lf : Nat) (n0_0 n0_1 : Int) (n1_0 n1_1 : Int) : funK c env lf 6 fi112 [.st [.i .i64 n0_0, .i .i64 n0_1], .st [.i .i64 n1_0, .i .i64 n1_1]] = f112 c lf n0_0 n0_1 n1_0 n1_1 := by kernel_rfl
def f94_0_s (c : Orc) (lf : Nat) (l0 l1 : List T) (L : Int → Option (List T)) (x528 : Int) : Option (List T) :=
 bif iLt x528 (l0.length : Int) then
  bif inR x528 l0.length then
  bif inR x528 l1.length then
  (c 112 [T.st [T.i .i64 (asI (T.cell (l0.getD x528.toNat T.u) 0)), T.i .i64 (asI (T.cell (l0.getD x528.toNat T.u) 1))], T.st [T.i .i64 (asI (T.cell (l1.getD x528.toNat T.u) 0)), T.i .i64 (asI (T.cell (l1.getD x528.toNat T.u) 1))]]).bind fun r529 =>
  bif !(asB (nth r529 0)) then
   some [T.i .i64 0, T.b false]
  else
   L (IntKind.wrap .i64 (x528 + 1))
  else none
  else none
 else
  some [T.i .i64 1]
def f94_0_c (l0 l1 : List T) (x528 : Int) : CSt := ⟨[.ro 0 true [.i .i64, .i .i64] l0, .ro 0 true [.i .i64, .i .i64] l1, .i .i64 x528], [.dead, .dead]⟩
theorem f94_0_round (c : Orc) (lf : Nat) (l0 l1 : List T) (L : CSt → Option (List T)) (x528 : Int) :
 roundK c env lf 6 fi94 2 4 [] [0, 1, 5] (x94_4_0) L (f94_0_c l0 l1 x528) = f94_0_s c lf l0 l1 (fun x528 => L (f94_0_c l0 l1 x528)) x528 := by kernel_rfl
def f94_0 (c : Orc) (lf : Nat) (l0 l1 : List T) : Nat → Int → Option (List T)
 | 0 => fun _ => none
 | n + 1 => fun x528 => f94_0_s c lf l0 l1 (f94_0 c lf l0 l1 n) x528
theorem f94_0_eq (c : Orc) (lf : Nat) (l0 l1 : List T) (n : Nat) (x528 : Int) :
 lpK c env lf 6 fi94 2 4 [] [0, 1, 5] (x94_4_0) n (f94_0_c l0 l1 x528) = f94_0 c lf l0 l1 n x528 := by
 induction n generalizing x528 with
 | zero => rfl
 | succ n ih =>
  refine (f94_0_round c lf l0 l1 _ x528).trans ?_
  have e : (fun x528 => lpK c env lf 6 fi94 2 4 [] [0, 1, 5] (x94_4_0) n (f94_0_c l0 l1 x528)) = f94_0 c lf l0 l1 n := by funext x528; exact ih x528
  show f94_0_s c lf l0 l1 (fun x528 => lpK c env lf 6 fi94 2 4 [] [0, 1, 5] (x94_4_0) n (f94_0_c l0 l1 x528)) x528 = _
  rw [e]; rfl
def f94_t (c : Orc) (lf : Nat) (lp0 : List T → List T → Int → Option (List T)) (l0 l1 : List T) : Option (List T) :=
 bif (l0.length : Int) != (l1.length : Int) then
  some [T.b false]
 else
  (lp0 l0 l1 0).bind fun r530 =>
  bif asI (nth r530 0) == 0 then
   some [T.b (asB (nth r530 1))]
  else
   some [T.b true]
def f94 (c : Orc) (lf : Nat) (l0 l1 : List T) : Option (List T) := f94_t c lf (fun (l0 l1 : List T) (x528 : Int) => f94_0 c lf l0 l1 lf x528) l0 l1
theorem f94_raw (c : Orc) (lf : Nat) (l0 l1 : List T) : funK c env lf 6 fi94 [.sl l0, .sl l1] = f94_t c lf (fun (l0 l1 : List T) (x528 : Int) => lpK c env lf 6 fi94 2 4 [] [0, 1, 5] (x94_4_0) lf (f94_0_c l0 l1 x528)) l0 l1 := by kernel_rfl
theorem f94_eq (c : Orc) (lf : Nat) (l0 l1 : List T) : funK c env lf 6 fi94 [.sl l0, .sl l1] = f94 c lf l0 l1 := by
 refine (f94_raw c lf l0 l1).trans ?_
 have e0 : (fun (l0 l1 : List T) (x528 : Int) => lpK c env lf 6 fi94 2 4 [] [0, 1, 5] (x94_4_0) lf (f94_0_c l0 l1 x528)) = (fun (l0 l1 : List T) (x528 : Int) => f94_0 c lf l0 l1 lf x528) := by funext l0 l1 x528; exact f94_0_eq c lf l0 l1 lf x528
 rw [e0]; rfl
def f62_t (c : Orc) (lf : Nat) (n0_0 : Int) (l0_1 : List T) (n1_0 : Int) (l1_1 : List T) : Option (List T) :=
 bif n0_0 != n1_0 then
  some [T.b false]
 else
  (c 94 [T.sl l0_1, T.sl l1_1]).bind fun r531 =>
  bif !(asB (nth r531 0)) then
   some [T.b false]
  else
   some [T.b true]
def f62 (c : Orc) (lf : Nat) (n0_0 : Int) (l0_1 : List T) (n1_0 : Int) (l1_1 : List T) : Option (List T) := f62_t c lf n0_0 l0_1 n1_0 l1_1
theorem f62_eq (c : Orc) (lf : Nat) (n0_0 : Int) (l0_1 : List T) (n1_0 : Int) (l1_1 : List T) : funK c env lf 6 fi62 [.st [.i .i64 n0_0, .sl l0_1], .st [.i .i64 n1_0, .sl l1_1]] = f62 c lf n0_0 l0_1 n1_0 l1_1 := by kernel_rfl
def f37_0_s (c : Orc) (lf : Nat) (l0 l1 : List T) (L : Int → Option (List T)) (x537 : Int) : Option (List T) :=
 bif iLt x537 (l0.length : Int) then
  bif inR x537 l0.length then
  bif inR x537 l1.length then
  (c 62 [T.st [T.i .i64 (asI (T.cell (l0.getD x537.toNat T.u) 0)), T.sl (asL (T.cell (l0.getD x537.toNat T.u) 1))], T.st [T.i .i64 (asI (T.cell (l1.getD x537.toNat T.u) 0)), T.sl (asL (T.cell (l1.getD x537.toNat T.u) 1))]]).bind fun r538 =>
  bif !(asB (nth r538 0)) then
   some [T.i .i64 0, T.b false]
  else
   L (IntKind.wrap .i64 (x537 + 1))
  else none
  else none
 else
  some [T.i .i64 1]
def f37_0_c (l0 l1 : List T) (x537 : Int) : CSt := ⟨[.ro 0 true [.i .i64, .sl true [.i .i64, .i .i64]] l0, .ro 0 true [.i .i64, .sl true [.i .i64, .i .i64]] l1, .i .i64 x537], [.dead, .dead]⟩
theorem f37_0_round (c : Orc) (lf : Nat) (l0 l1 : List T) (L : CSt → Option (List T)) (x537 : Int) :
 roundK c env lf 6 fi37 2 4 [] [0, 1, 5] (x37_4_0) L (f37_0_c l0 l1 x537) = f37_0_s c lf l0 l1 (fun x537 => L (f37_0_c l0 l1 x537)) x537 := by kernel_rfl
def f37_0 (c : Orc) (lf : Nat) (l0 l1 : List T) : Nat → Int → Option (List T)
 | 0 => fun _ => none
 | n + 1 => fun x537 => f37_0_s c lf l0 l1 (f37_0 c lf l0 l1 n) x537
theorem f37_0_eq (c : Orc) (lf : Nat) (l0 l1 : List T) (n : Nat) (x537 : Int) :
 lpK c env lf 6 fi37 2 4 [] [0, 1, 5] (x37_4_0) n (f37_0_c l0 l1 x537) = f37_0 c lf l0 l1 n x537 := by
 induction n generalizing x537 with
 | zero => rfl
 | succ n ih =>
  refine (f37_0_round c lf l0 l1 _ x537).trans ?_
  have e : (fun x537 => lpK c env lf 6 fi37 2 4 [] [0, 1, 5] (x37_4_0) n (f37_0_c l0 l1 x537)) = f37_0 c lf l0 l1 n := by funext x537; exact ih x537
  show f37_0_s c lf l0 l1 (fun x537 => lpK c env lf 6 fi37 2 4 [] [0, 1, 5] (x37_4_0) n (f37_0_c l0 l1 x537)) x537 = _
  rw [e]; rfl
def f37_t (c : Orc) (lf : Nat) (lp0 : List T → List T → Int → Option (List T)) (l0 l1 : List T) : Option (List T) :=
 bif (l0.length : Int) != (l1.length : Int) then
  some [T.b false]
 else
  (lp0 l0 l1 0).bind fun r539 =>
  bif asI (nth r539 0) == 0 then
   some [T.b (asB (nth r539 1))]
  else
   some [T.b true]
def f37 (c : Orc) (lf : Nat) (l0 l1 : List T) : Option (List T) := f37_t c lf (fun (l0 l1 : List T) (x537 : Int) => f37_0 c lf l0 l1 lf x537) l0 l1
theorem f37_raw (c : Orc) (lf : Nat) (l0 l1 : List T) : funK c env lf 6 fi37 [.sl l0, .sl l1] = f37_t c lf (fun (l0 l1 : List T) (x537 : Int) => lpK c env lf 6 fi37 2 4 [] [0, 1, 5] (x37_4_0) lf (f37_0_c l0 l1 x537)) l0 l1 := by kernel_rfl
theorem f37_eq (c : Orc) (lf : Nat) (l0 l1 : List T) : funK c env lf 6 fi37 [.sl l0, .sl l1] = f37 c lf l0 l1 := by
 refine (f37_raw c lf l0 l1).trans ?_
 have e0 : (fun (l0 l1 : List T) (x537 : Int) => lpK c env lf 6 fi37 2 4 [] [0, 1, 5] (x37_4_0) lf (f37_0_c l0 l1 x537)) = (fun (l0 l1 : List T) (x537 : Int) => f37_0 c lf l0 l1 lf x537) := by funext l0 l1 x537; exact f37_0_eq c lf l0 l1 lf x537
 rw [e0]; rfl
def f11_t (c : Orc) (lf : Nat) (l0_0 : List T) (n0_1 n0_2 : Int) (l0_3 l0_4 : List T) (n0_5 n0_6 : Int) (l1_0 : List T) (n1_1 n1_2 : Int) (l1_3 l1_4 : List T) (n1_5 n1_6 : Int) : Option (List T) :=
 (c 35 [T.st [T.sl l0_0, T.i .i64 n0_1], T.st [T.sl l1_0, T.i .i64 n1_1]]).bind fun r540 =>
 bif !(asB (nth r540 0)) then
  some [T.b false]
 else
  (c 36 [T.st [T.i .i64 n0_2, T.sl l0_3], T.st [T.i .i64 n1_2, T.sl l1_3]]).bind fun r541 =>
  bif !(asB (nth r541 0)) then
   some [T.b false]
  else
   (c 37 [T.sl l0_4, T.sl l1_4]).bind fun r542 =>
   bif !(asB (nth r542 0)) then
    some [T.b false]
   else
    bif n0_5 != n1_5 then
     some [T.b false]
    else
     bif n0_6 != n1_6 then
      some [T.b false]
     else
      some [T.b true]
def f11 (c : Orc) (lf : Nat) (l0_0 : List T) (n0_1 n0_2 : Int) (l0_3 l0_4 : List T) (n0_5 n0_6 : Int) (l1_0 : List T) (n1_1 n1_2 : Int) (l1_3 l1_4 : List T) (n1_5 n1_6 : Int) : Option (List T) := f11_t c lf l0_0 n0_1 n0_2 l0_3 l0_4 n0_5 n0_6 l1_0 n1_1 n1_2 l1_3 l1_4 n1_5 n1_6
theorem f11_eq (c : Orc) (lf : Nat) (l0_0 : List T) (n0_1 n0_2 : Int) (l0_3 l0_4 : List T) (n0_5 n0_6 : Int) (l1_0 : List T) (n1_1 n1_2 : Int) (l1_3 l1_4 : List T) (n1_5 n1_6 : Int) : funK c env lf 6 fi11 [.st [.sl l0_0, .i .i64 n0_1, .i .i64 n0_2, .sl l0_3, .sl l0_4, .i .i64 n0_5, .i .i64 n0_6], .st [.sl l1_0, .i .i64 n1_1, .i .i64 n1_2, .sl l1_3, .sl l1_4, .i .i64 n1_5, .i .i64 n1_6]] = f11 c lf l0_0 n0_1 n0_2 l0_3 l0_4 n0_5 n0_6 l1_0 n1_1 n1_2 l1_3 l1_4 n1_5 n1_6 := by kernel_rfl
def f4_t (c : Orc) (lf : Nat) (l0_0 : List T) (n0_1 : Int) (l0_2 : List T) (b0_3 : Bool) (n0_4 : Int) (l1_0 : List T) (n1_1 n1_2 : Int) (l1_3 l1_4 : List T) (n1_5 n1_6 n2 : Int) : Option (List T) :=
 (c 15 [T.st [T.sl l0_0, T.i .i64 n0_1, T.sl l0_2, T.b b0_3, T.i .i64 n0_4], T.i .i64 1048576]).bind fun r543 =>
 bif iLt (asI (nth r543 0)) 0 then
  some [T.b true]
 else
  (c 6 [T.st [T.sl l1_0, T.i .i64 n1_1, T.i .i64 n1_2, T.sl l1_3, T.sl l1_4, T.i .i64 n1_5, T.i .i64 n1_6], T.i .i64 (asI (nth r543 0))]).bind fun r544 =>
  bif iLt (asI (nth r544 0)) 0 then
   some [T.b true]
  else
   (c 17 [T.st [T.sl l0_0, T.i .i64 n0_1, T.sl l0_2, T.b b0_3, T.i .i64 n0_4]]).bind fun r545 =>
   (c 8 [T.st [T.sl l1_0, T.i .i64 n1_1, T.i .i64 n1_2, T.sl l1_3, T.sl l1_4, T.i .i64 n1_5, T.i .i64 n1_6]]).bind fun r546 =>
   (c 16 [T.st [T.sl (asL (T.cell (nth r545 0) 0)), T.i .i64 (asI (T.cell (nth r545 0) 1)), T.sl (asL (T.cell (nth r545 0) 2)), T.b (asB (T.cell (nth r545 0) 3)), T.i .i64 (asI (T.cell (nth r545 0) 4))], T.st [T.sl (asL (T.cell (nth r546 0) 0)), T.i .i64 (asI (T.cell (nth r546 0) 1)), T.i .i64 (asI (T.cell (nth r546 0) 2)), T.sl (asL (T.cell (nth r546 0) 3)), T.sl (asL (T.cell (nth r546 0) 4)), T.i .i64 (asI (T.cell (nth r546 0) 5)), T.i .i64 (asI (T.cell (nth r546 0) 6))], T.i .i64 n2]).bind fun r547 =>
   (c 17 [T.st [T.sl l0_0, T.i .i64 n0_1, T.sl l0_2, T.b b0_3, T.i .i64 n0_4]]).bind fun r548 =>
   (c 8 [T.st [T.sl l1_0, T.i .i64 n1_1, T.i .i64 n1_2, T.sl l1_3, T.sl l1_4, T.i .i64 n1_5, T.i .i64 n1_6]]).bind fun r549 =>
   (c 18 [T.st [T.sl (asL (T.cell (nth r548 0) 0)), T.i .i64 (asI (T.cell (nth r548 0) 1)), T.sl (asL (T.cell (nth r548 0) 2)), T.b (asB (T.cell (nth r548 0) 3)), T.i .i64 (asI (T.cell (nth r548 0) 4))], T.st [T.sl (asL (T.cell (nth r549 0) 0)), T.i .i64 (asI (T.cell (nth r549 0) 1)), T.i .i64 (asI (T.cell (nth r549 0) 2)), T.sl (asL (T.cell (nth r549 0) 3)), T.sl (asL (T.cell (nth r549 0) 4)), T.i .i64 (asI (T.cell (nth r549 0) 5)), T.i .i64 (asI (T.cell (nth r549 0) 6))], T.i .i64 n2]).bind fun r550 =>
   bif (asI (nth r550 0)) != (asI (nth r547 0)) then
    some [T.b false]
   else
    (c 17 [T.st [T.sl l0_0, T.i .i64 n0_1, T.sl l0_2, T.b b0_3, T.i .i64 n0_4]]).bind fun r551 =>
    (c 19 [T.st [T.sl (asL (T.cell (nth r548 0) 0)), T.i .i64 (asI (T.cell (nth r548 0) 1)), T.sl (asL (T.cell (nth r548 0) 2)), T.b (asB (T.cell (nth r548 0) 3)), T.i .i64 (asI (T.cell (nth r548 0) 4))], T.st [T.sl (asL (T.cell (nth r551 0) 0)), T.i .i64 (asI (T.cell (nth r551 0) 1)), T.sl (asL (T.cell (nth r551 0) 2)), T.b (asB (T.cell (nth r551 0) 3)), T.i .i64 (asI (T.cell (nth r551 0) 4))]]).bind fun r552 =>
    bif !(asB (nth r552 0)) then
     some [T.b false]
    else
     (c 8 [T.st [T.sl l1_0, T.i .i64 n1_1, T.i .i64 n1_2, T.sl l1_3, T.sl l1_4, T.i .i64 n1_5, T.i .i64 n1_6]]).bind fun r553 =>
     (c 11 [T.st [T.sl (asL (T.cell (nth r549 0) 0)), T.i .i64 (asI (T.cell (nth r549 0) 1)), T.i .i64 (asI (T.cell (nth r549 0) 2)), T.sl (asL (T.cell (nth r549 0) 3)), T.sl (asL (T.cell (nth r549 0) 4)), T.i .i64 (asI (T.cell (nth r549 0) 5)), T.i .i64 (asI (T.cell (nth r549 0) 6))], T.st [T.sl (asL (T.cell (nth r553 0) 0)), T.i .i64 (asI (T.cell (nth r553 0) 1)), T.i .i64 (asI (T.cell (nth r553 0) 2)), T.sl (asL (T.cell (nth r553 0) 3)), T.sl (asL (T.cell (nth r553 0) 4)), T.i .i64 (asI (T.cell (nth r553 0) 5)), T.i .i64 (asI (T.cell (nth r553 0) 6))]]).bind fun r554 =>
     bif !(asB (nth r554 0)) then
      some [T.b false]
     else
      some [T.b true]
def f4 (c : Orc) (lf : Nat) (l0_0 : List T) (n0_1 : Int) (l0_2 : List T) (b0_3 : Bool) (n0_4 : Int) (l1_0 : List T) (n1_1 n1_2 : Int) (l1_3 l1_4 : List T) (n1_5 n1_6 n2 : Int) : Option (List T) := f4_t c lf l0_0 n0_1 l0_2 b0_3 n0_4 l1_0 n1_1 n1_2 l1_3 l1_4 n1_5 n1_6 n2
theorem f4_eq (c : Orc) (lf : Nat) (l0_0 : List T) (n0_1 : Int) (l0_2 : List T) (b0_3 : Bool) (n0_4 : Int) (l1_0 : List T) (n1_1 n1_2 : Int) (l1_3 l1_4 : List T) (n1_5 n1_6 n2 : Int) : funK c env lf 6 fi4 [.st [.sl l0_0, .i .i64 n0_1, .sl l0_2, .b b0_3, .i .i64 n0_4], .st [.sl l1_0, .i .i64 n1_1, .i .i64 n1_2, .sl l1_3, .sl l1_4, .i .i64 n1_5, .i .i64 n1_6], .i .i64 n2] = f4 c lf l0_0 n0_1 l0_2 b0_3 n0_4 l1_0 n1_1 n1_2 l1_3 l1_4 n1_5 n1_6 n2 := by kernel_rfl
end Go.Proofs.YtnakbpjofkdabaaGreat.T
