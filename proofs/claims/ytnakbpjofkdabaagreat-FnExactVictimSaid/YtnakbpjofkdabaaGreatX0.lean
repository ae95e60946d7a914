/- What functions of the law FnExactVictim come to, in trees; no condition. -/
import Derived.Test.YtnakbpjofkdabaaGreatRows
import Derived.Test.YtnakbpjofkdabaaGreatV3
import Derived.KernelRfl
set_option linter.unusedVariables false
set_option linter.constructorNameAsVariable false
set_option linter.unusedSimpArgs false
set_option linter.unnecessarySimpa false
namespace Go.Proofs.YtnakbpjofkdabaaGreat.T
open Go Go.Proofs.YtnakbpjofkdabaaGreatV
def tyTab : List (Nat × Ti) := [
 (3, ⟨false, [.i .i64], .o⟩),
 (4, ⟨false, [.b], .o⟩),
 (5, ⟨false, [.i .u8], .o⟩),
 (9, ⟨false, [.s], .o⟩),
 (22, ⟨false, [.sl true [.i .i64, .s, .b, .i .i64, .sl true [.i .i64, .i .i64, .i .i64, .sl false [.i .u8], .sl true [.s, .i .i64], .sl true [.s, .s]], .i .i64]], .sl 144⟩),
 (24, ⟨true, [.sl true [.i .i64, .s, .b, .i .i64, .sl true [.i .i64, .i .i64, .i .i64, .sl false [.i .u8], .sl true [.s, .i .i64], .sl true [.s, .s]], .i .i64], .i .i64], .st [(0, 22), (1, 3)]⟩),
 (25, ⟨false, [.sl true [.i .i64, .s, .b, .i .i64, .i .i64]], .sl 146⟩),
 (27, ⟨true, [.i .i64, .sl true [.i .i64, .s, .b, .i .i64, .i .i64]], .st [(0, 3), (1, 25)]⟩),
 (28, ⟨false, [.sl true [.i .i64, .sl true [.i .i64, .i .i64]]], .sl 117⟩),
 (30, ⟨true, [.sl true [.i .i64, .s, .b, .i .i64, .sl true [.i .i64, .i .i64, .i .i64, .sl false [.i .u8], .sl true [.s, .i .i64], .sl true [.s, .s]], .i .i64], .i .i64, .i .i64, .sl true [.i .i64, .s, .b, .i .i64, .i .i64], .sl true [.i .i64, .sl true [.i .i64, .i .i64]], .i .i64, .i .i64], .st [(0, 24), (2, 27), (4, 28), (5, 3), (6, 3)]⟩),
 (32, ⟨false, [.sl false [.i .i64]], .sl 3⟩),
 (34, ⟨false, [.sl true [.i .i64, .s, .b, .i .i64, .sl true [.i .i64, .i .i64, .i .i64, .sl false [.i .u8], .sl true [.s, .i .i64], .sl true [.s, .s]], .i .i64]], .sl 152⟩),
 (36, ⟨true, [.sl true [.i .i64, .s, .b, .i .i64, .sl true [.i .i64, .i .i64, .i .i64, .sl false [.i .u8], .sl true [.s, .i .i64], .sl true [.s, .s]], .i .i64], .i .i64], .st [(0, 34), (1, 3)]⟩),
 (37, ⟨false, [.sl true [.i .i64, .s, .b, .i .i64, .i .i64]], .sl 77⟩),
 (39, ⟨true, [.i .i64, .sl true [.i .i64, .s, .b, .i .i64, .i .i64]], .st [(0, 3), (1, 37)]⟩),
 (40, ⟨false, [.sl true [.i .i64, .sl true [.i .i64, .i .i64]]], .sl 80⟩),
 (42, ⟨true, [.sl true [.i .i64, .s, .b, .i .i64, .sl true [.i .i64, .i .i64, .i .i64, .sl false [.i .u8], .sl true [.s, .i .i64], .sl true [.s, .s]], .i .i64], .i .i64, .i .i64, .sl true [.i .i64, .s, .b, .i .i64, .i .i64], .sl true [.i .i64, .sl true [.i .i64, .i .i64]], .i .i64, .i .i64], .st [(0, 36), (2, 39), (4, 40), (5, 3), (6, 3)]⟩),
 (49, ⟨false, [.sl true [.sl true [.b, .sl false [.i .u8]], .i .i64, .b]], .sl 204⟩),
 (51, ⟨true, [.sl true [.sl true [.b, .sl false [.i .u8]], .i .i64, .b]], .st [(0, 49)]⟩),
 (52, ⟨false, [.sl true [.i .i64, .i .i64, .i .i64]], .sl 179⟩),
 (54, ⟨true, [.sl true [.sl true [.b, .sl false [.i .u8]], .i .i64, .b], .i .i64, .sl true [.i .i64, .i .i64, .i .i64], .b], .st [(0, 51), (1, 3), (2, 52), (3, 4)]⟩),
 (56, ⟨true, [.sl true [.sl true [.b, .sl false [.i .u8]], .i .i64, .b], .i .i64, .sl true [.i .i64, .i .i64, .i .i64], .b, .i .i64], .st [(0, 54), (4, 3)]⟩),
 (59, ⟨false, [.sl true [.sl true [.b, .sl false [.i .u8]], .i .i64, .b]], .sl 102⟩),
 (61, ⟨true, [.sl true [.sl true [.b, .sl false [.i .u8]], .i .i64, .b]], .st [(0, 59)]⟩),
 (62, ⟨false, [.sl true [.i .i64, .i .i64, .i .i64]], .sl 177⟩),
 (64, ⟨true, [.sl true [.sl true [.b, .sl false [.i .u8]], .i .i64, .b], .i .i64, .sl true [.i .i64, .i .i64, .i .i64], .b], .st [(0, 61), (1, 3), (2, 62), (3, 4)]⟩),
 (66, ⟨true, [.sl true [.sl true [.b, .sl false [.i .u8]], .i .i64, .b], .i .i64, .sl true [.i .i64, .i .i64, .i .i64], .b, .i .i64], .st [(0, 64), (4, 3)]⟩),
 (77, ⟨true, [.i .i64, .s, .b, .i .i64, .i .i64], .st [(0, 3), (1, 9), (2, 4), (3, 3), (4, 3)]⟩),
 (78, ⟨false, [.sl true [.i .i64, .i .i64]], .sl 82⟩),
 (80, ⟨true, [.i .i64, .sl true [.i .i64, .i .i64]], .st [(0, 3), (1, 78)]⟩),
 (82, ⟨true, [.i .i64, .i .i64], .st [(0, 3), (1, 3)]⟩),
 (87, ⟨false, [.sl false [.sl false [.i .i64]]], .sl 32⟩),
 (92, ⟨false, [.o], .o⟩),
 (100, ⟨false, [.sl true [.b, .sl false [.i .u8]]], .sl 105⟩),
 (102, ⟨true, [.sl true [.b, .sl false [.i .u8]], .i .i64, .b], .st [(0, 100), (1, 3), (2, 4)]⟩),
 (103, ⟨false, [.sl false [.i .u8]], .sl 5⟩),
 (105, ⟨true, [.b, .sl false [.i .u8]], .st [(0, 4), (1, 103)]⟩),
 (115, ⟨false, [.sl true [.i .i64, .i .i64]], .sl 185⟩),
 (117, ⟨true, [.i .i64, .sl true [.i .i64, .i .i64]], .st [(0, 3), (1, 115)]⟩),
 (140, ⟨false, [.sl true [.i .i64, .i .i64, .i .i64, .sl false [.i .u8], .sl true [.s, .i .i64], .sl true [.s, .s]]], .sl 224⟩),
 (142, ⟨true, [.sl true [.i .i64, .i .i64, .i .i64, .sl false [.i .u8], .sl true [.s, .i .i64], .sl true [.s, .s]], .i .i64], .st [(0, 140), (1, 3)]⟩),
 (144, ⟨true, [.i .i64, .s, .b, .i .i64, .sl true [.i .i64, .i .i64, .i .i64, .sl false [.i .u8], .sl true [.s, .i .i64], .sl true [.s, .s]], .i .i64], .st [(0, 3), (1, 9), (2, 4), (3, 3), (4, 142)]⟩),
 (146, ⟨true, [.i .i64, .s, .b, .i .i64, .i .i64], .st [(0, 3), (1, 9), (2, 4), (3, 3), (4, 3)]⟩),
 (148, ⟨false, [.sl true [.i .i64, .i .i64, .i .i64, .sl false [.i .u8], .sl true [.s, .i .i64], .sl true [.s, .s]]], .sl 197⟩),
 (150, ⟨true, [.sl true [.i .i64, .i .i64, .i .i64, .sl false [.i .u8], .sl true [.s, .i .i64], .sl true [.s, .s]], .i .i64], .st [(0, 148), (1, 3)]⟩),
 (152, ⟨true, [.i .i64, .s, .b, .i .i64, .sl true [.i .i64, .i .i64, .i .i64, .sl false [.i .u8], .sl true [.s, .i .i64], .sl true [.s, .s]], .i .i64], .st [(0, 3), (1, 9), (2, 4), (3, 3), (4, 150)]⟩),
 (177, ⟨true, [.i .i64, .i .i64, .i .i64], .st [(0, 3), (1, 3), (2, 3)]⟩),
 (179, ⟨true, [.i .i64, .i .i64, .i .i64], .st [(0, 3), (1, 3), (2, 3)]⟩),
 (185, ⟨true, [.i .i64, .i .i64], .st [(0, 3), (1, 3)]⟩),
 (194, ⟨false, [.sl true [.s, .i .i64]], .sl 214⟩),
 (195, ⟨false, [.sl true [.s, .s]], .sl 216⟩),
 (197, ⟨true, [.i .i64, .i .i64, .i .i64, .sl false [.i .u8], .sl true [.s, .i .i64], .sl true [.s, .s]], .st [(0, 3), (1, 3), (2, 3), (3, 103), (4, 194), (5, 195)]⟩),
 (202, ⟨false, [.sl true [.b, .sl false [.i .u8]]], .sl 228⟩),
 (204, ⟨true, [.sl true [.b, .sl false [.i .u8]], .i .i64, .b], .st [(0, 202), (1, 3), (2, 4)]⟩),
 (214, ⟨true, [.s, .i .i64], .st [(0, 9), (1, 3)]⟩),
 (216, ⟨true, [.s, .s], .st [(0, 9), (1, 9)]⟩),
 (221, ⟨false, [.sl true [.s, .i .i64]], .sl 240⟩),
 (222, ⟨false, [.sl true [.s, .s]], .sl 242⟩),
 (224, ⟨true, [.i .i64, .i .i64, .i .i64, .sl false [.i .u8], .sl true [.s, .i .i64], .sl true [.s, .s]], .st [(0, 3), (1, 3), (2, 3), (3, 103), (4, 221), (5, 222)]⟩),
 (228, ⟨true, [.b, .sl false [.i .u8]], .st [(0, 4), (1, 103)]⟩),
 (240, ⟨true, [.s, .i .i64], .st [(0, 9), (1, 3)]⟩),
 (242, ⟨true, [.s, .s], .st [(0, 9), (1, 9)]⟩)]
noncomputable def fi132 : Fi := ⟨Tryz.f132, [], false, [.ro (.sl false [.i .u8]), .v (.i .i64)], [.v (.i .i64)]⟩
noncomputable def fi129 : Fi := ⟨Tryz.f129, [], false, [.ag [.v (.b), .ro (.sl false [.i .u8])], .v (.i .i64)], [.v (.i .i64)]⟩
def x123_5_0 : List (Ex × List Nat × CSt) := [(.ret, [4], ⟨[.i .i64 0], [.dead, .dead]⟩), ((.ex 0), [1], ⟨[.i .i64 0], [.dead, .dead]⟩)]
noncomputable def fi123 : Fi := ⟨Tryz.f123, [⟨5, [0, 1, 5], [], [(⟨[.ro 0 true [.b, .sl false [.i .u8]] [], .i .i64 0, .i .i64 0], [.dead, .dead]⟩, x123_5_0)]⟩], false, [.ro (.sl true [.b, .sl false [.i .u8]]), .v (.i .i64)], [.v (.i .i64)]⟩
noncomputable def fi116 : Fi := ⟨Tryz.f116, [], false, [.ag [.ro (.sl true [.b, .sl false [.i .u8]]), .v (.i .i64), .v (.b)], .v (.i .i64)], [.v (.i .i64)]⟩
def x97_5_0 : List (Ex × List Nat × CSt) := [(.ret, [4], ⟨[.i .i64 0], [.dead, .dead]⟩), ((.ex 0), [1], ⟨[.i .i64 0], [.dead, .dead]⟩)]
noncomputable def fi97 : Fi := ⟨Tryz.f97, [⟨5, [0, 1, 5], [], [(⟨[.ro 0 true [.sl true [.b, .sl false [.i .u8]], .i .i64, .b] [], .i .i64 0, .i .i64 0], [.dead, .dead]⟩, x97_5_0)]⟩], false, [.ro (.sl true [.sl true [.b, .sl false [.i .u8]], .i .i64, .b]), .v (.i .i64)], [.v (.i .i64)]⟩
noncomputable def fi66 : Fi := ⟨Tryz.f66, [], false, [.ag [.ro (.sl true [.sl true [.b, .sl false [.i .u8]], .i .i64, .b])], .v (.i .i64)], [.v (.i .i64)]⟩
noncomputable def fi67 : Fi := ⟨Tryz.f67, [], false, [.ro (.sl true [.i .i64, .i .i64, .i .i64]), .v (.i .i64)], [.v (.i .i64)]⟩
noncomputable def fi41 : Fi := ⟨Tryz.f41, [], false, [.ag [.ro (.sl true [.sl true [.b, .sl false [.i .u8]], .i .i64, .b]), .v (.i .i64), .ro (.sl true [.i .i64, .i .i64, .i .i64]), .v (.b)], .v (.i .i64)], [.v (.i .i64)]⟩
noncomputable def fi15 : Fi := ⟨Tryz.f15, [], false, [.ag [.ro (.sl true [.sl true [.b, .sl false [.i .u8]], .i .i64, .b]), .v (.i .i64), .ro (.sl true [.i .i64, .i .i64, .i .i64]), .v (.b), .v (.i .i64)], .v (.i .i64)], [.v (.i .i64)]⟩
noncomputable def fi141 : Fi := ⟨Tryz.f141, [], false, [.ag [.v (.s), .v (.i .i64)], .v (.i .i64)], [.v (.i .i64)]⟩
def x133_5_0 : List (Ex × List Nat × CSt) := [(.ret, [4], ⟨[.i .i64 0], [.dead, .dead]⟩), ((.ex 0), [1], ⟨[.i .i64 0], [.dead, .dead]⟩)]
noncomputable def fi133 : Fi := ⟨Tryz.f133, [⟨5, [0, 1, 5], [], [(⟨[.ro 0 true [.s, .i .i64] [], .i .i64 0, .i .i64 0], [.dead, .dead]⟩, x133_5_0)]⟩], false, [.ro (.sl true [.s, .i .i64]), .v (.i .i64)], [.v (.i .i64)]⟩
noncomputable def fi142 : Fi := ⟨Tryz.f142, [], false, [.ag [.v (.s), .v (.s)], .v (.i .i64)], [.v (.i .i64)]⟩
def x134_5_0 : List (Ex × List Nat × CSt) := [(.ret, [4], ⟨[.i .i64 0], [.dead, .dead]⟩), ((.ex 0), [1], ⟨[.i .i64 0], [.dead, .dead]⟩)]
noncomputable def fi134 : Fi := ⟨Tryz.f134, [⟨5, [0, 1, 5], [], [(⟨[.ro 0 true [.s, .s] [], .i .i64 0, .i .i64 0], [.dead, .dead]⟩, x134_5_0)]⟩], false, [.ro (.sl true [.s, .s]), .v (.i .i64)], [.v (.i .i64)]⟩
noncomputable def fi126 : Fi := ⟨Tryz.f126, [], false, [.ag [.v (.i .i64), .v (.i .i64), .v (.i .i64), .ro (.sl false [.i .u8]), .ro (.sl true [.s, .i .i64]), .ro (.sl true [.s, .s])], .v (.i .i64)], [.v (.i .i64)]⟩
def x119_5_0 : List (Ex × List Nat × CSt) := [(.ret, [4], ⟨[.i .i64 0], [.dead, .dead]⟩), ((.ex 0), [1], ⟨[.i .i64 0], [.dead, .dead]⟩)]
noncomputable def fi119 : Fi := ⟨Tryz.f119, [⟨5, [0, 1, 5], [], [(⟨[.ro 0 true [.i .i64, .i .i64, .i .i64, .sl false [.i .u8], .sl true [.s, .i .i64], .sl true [.s, .s]] [], .i .i64 0, .i .i64 0], [.dead, .dead]⟩, x119_5_0)]⟩], false, [.ro (.sl true [.i .i64, .i .i64, .i .i64, .sl false [.i .u8], .sl true [.s, .i .i64], .sl true [.s, .s]]), .v (.i .i64)], [.v (.i .i64)]⟩
noncomputable def fi102 : Fi := ⟨Tryz.f102, [], false, [.ag [.ro (.sl true [.i .i64, .i .i64, .i .i64, .sl false [.i .u8], .sl true [.s, .i .i64], .sl true [.s, .s]]), .v (.i .i64)], .v (.i .i64)], [.v (.i .i64)]⟩
noncomputable def fi75 : Fi := ⟨Tryz.f75, [], false, [.ag [.v (.i .i64), .v (.s), .v (.b), .v (.i .i64), .ro (.sl true [.i .i64, .i .i64, .i .i64, .sl false [.i .u8], .sl true [.s, .i .i64], .sl true [.s, .s]]), .v (.i .i64)], .v (.i .i64)], [.v (.i .i64)]⟩
def x49_5_0 : List (Ex × List Nat × CSt) := [(.ret, [4], ⟨[.i .i64 0], [.dead, .dead]⟩), ((.ex 0), [1], ⟨[.i .i64 0], [.dead, .dead]⟩)]
noncomputable def fi49 : Fi := ⟨Tryz.f49, [⟨5, [0, 1, 5], [], [(⟨[.ro 0 true [.i .i64, .s, .b, .i .i64, .sl true [.i .i64, .i .i64, .i .i64, .sl false [.i .u8], .sl true [.s, .i .i64], .sl true [.s, .s]], .i .i64] [], .i .i64 0, .i .i64 0], [.dead, .dead]⟩, x49_5_0)]⟩], false, [.ro (.sl true [.i .i64, .s, .b, .i .i64, .sl true [.i .i64, .i .i64, .i .i64, .sl false [.i .u8], .sl true [.s, .i .i64], .sl true [.s, .s]], .i .i64]), .v (.i .i64)], [.v (.i .i64)]⟩
noncomputable def fi22 : Fi := ⟨Tryz.f22, [], false, [.ag [.ro (.sl true [.i .i64, .s, .b, .i .i64, .sl true [.i .i64, .i .i64, .i .i64, .sl false [.i .u8], .sl true [.s, .i .i64], .sl true [.s, .s]], .i .i64]), .v (.i .i64)], .v (.i .i64)], [.v (.i .i64)]⟩
noncomputable def fi76 : Fi := ⟨Tryz.f76, [], false, [.ag [.v (.i .i64), .v (.s), .v (.b), .v (.i .i64), .v (.i .i64)], .v (.i .i64)], [.v (.i .i64)]⟩
def x50_5_0 : List (Ex × List Nat × CSt) := [(.ret, [4], ⟨[.i .i64 0], [.dead, .dead]⟩), ((.ex 0), [1], ⟨[.i .i64 0], [.dead, .dead]⟩)]
noncomputable def fi50 : Fi := ⟨Tryz.f50, [⟨5, [0, 1, 5], [], [(⟨[.ro 0 true [.i .i64, .s, .b, .i .i64, .i .i64] [], .i .i64 0, .i .i64 0], [.dead, .dead]⟩, x50_5_0)]⟩], false, [.ro (.sl true [.i .i64, .s, .b, .i .i64, .i .i64]), .v (.i .i64)], [.v (.i .i64)]⟩
noncomputable def fi23 : Fi := ⟨Tryz.f23, [], false, [.ag [.v (.i .i64), .ro (.sl true [.i .i64, .s, .b, .i .i64, .i .i64])], .v (.i .i64)], [.v (.i .i64)]⟩
noncomputable def fi77 : Fi := ⟨Tryz.f77, [], false, [.ro (.sl true [.i .i64, .i .i64]), .v (.i .i64)], [.v (.i .i64)]⟩
noncomputable def fi51 : Fi := ⟨Tryz.f51, [], false, [.ag [.v (.i .i64), .ro (.sl true [.i .i64, .i .i64])], .v (.i .i64)], [.v (.i .i64)]⟩
def x24_5_0 : List (Ex × List Nat × CSt) := [(.ret, [4], ⟨[.i .i64 0], [.dead, .dead]⟩), ((.ex 0), [1], ⟨[.i .i64 0], [.dead, .dead]⟩)]
noncomputable def fi24 : Fi := ⟨Tryz.f24, [⟨5, [0, 1, 5], [], [(⟨[.ro 0 true [.i .i64, .sl true [.i .i64, .i .i64]] [], .i .i64 0, .i .i64 0], [.dead, .dead]⟩, x24_5_0)]⟩], false, [.ro (.sl true [.i .i64, .sl true [.i .i64, .i .i64]]), .v (.i .i64)], [.v (.i .i64)]⟩
noncomputable def fi6 : Fi := ⟨Tryz.f6, [], false, [.ag [.ro (.sl true [.i .i64, .s, .b, .i .i64, .sl true [.i .i64, .i .i64, .i .i64, .sl false [.i .u8], .sl true [.s, .i .i64], .sl true [.s, .s]], .i .i64]), .v (.i .i64), .v (.i .i64), .ro (.sl true [.i .i64, .s, .b, .i .i64, .i .i64]), .ro (.sl true [.i .i64, .sl true [.i .i64, .i .i64]]), .v (.i .i64), .v (.i .i64)], .v (.i .i64)], [.v (.i .i64)]⟩
def x135_3_0 : List (Ex × List Nat × CSt) := [((.ex 0), [3], ⟨[.rf 1 [] 0 none], [.dead, .row false [.i .u8] [] 0 false]⟩)]
noncomputable def fi135 : Fi := ⟨Tryz.f135, [⟨3, [0, 3, 4], [], [(⟨[.ro 0 false [.i .u8] [], .rf 1 [] 0 none, .i .i64 0], [.dead, .row false [.i .u8] [] 0 false]⟩, x135_3_0)]⟩], false, [.ro (.sl false [.i .u8])], [.ow (.sl false [.i .u8])]⟩
noncomputable def fi130 : Fi := ⟨Tryz.f130, [], false, [.ag [.v (.b), .ro (.sl false [.i .u8])]], [.ag [.v (.b), .ow (.sl false [.i .u8])]]⟩
def x124_3_0 : List (Ex × List Nat × CSt) := [((.ex 0), [3], ⟨[.rf 1 [] 0 none], [.dead, .row true [.b, .sl false [.i .u8]] [] 0 false]⟩)]
noncomputable def fi124 : Fi := ⟨Tryz.f124, [⟨3, [0, 3, 4], [], [(⟨[.ro 0 true [.b, .sl false [.i .u8]] [], .rf 1 [] 0 none, .i .i64 0], [.dead, .row true [.b, .sl false [.i .u8]] [] 0 false]⟩, x124_3_0)]⟩], false, [.ro (.sl true [.b, .sl false [.i .u8]])], [.ow (.sl true [.b, .sl false [.i .u8]])]⟩
noncomputable def fi117 : Fi := ⟨Tryz.f117, [], false, [.ag [.ro (.sl true [.b, .sl false [.i .u8]]), .v (.i .i64), .v (.b)]], [.ag [.ow (.sl true [.b, .sl false [.i .u8]]), .v (.i .i64), .v (.b)]]⟩
def x98_3_0 : List (Ex × List Nat × CSt) := [((.ex 0), [3], ⟨[.rf 1 [] 0 none], [.dead, .row true [.sl true [.b, .sl false [.i .u8]], .i .i64, .b] [] 0 false]⟩)]
noncomputable def fi98 : Fi := ⟨Tryz.f98, [⟨3, [0, 3, 4], [], [(⟨[.ro 0 true [.sl true [.b, .sl false [.i .u8]], .i .i64, .b] [], .rf 1 [] 0 none, .i .i64 0], [.dead, .row true [.sl true [.b, .sl false [.i .u8]], .i .i64, .b] [] 0 false]⟩, x98_3_0)]⟩], false, [.ro (.sl true [.sl true [.b, .sl false [.i .u8]], .i .i64, .b])], [.ow (.sl true [.sl true [.b, .sl false [.i .u8]], .i .i64, .b])]⟩
noncomputable def fi68 : Fi := ⟨Tryz.f68, [], false, [.ag [.ro (.sl true [.sl true [.b, .sl false [.i .u8]], .i .i64, .b])]], [.ag [.ow (.sl true [.sl true [.b, .sl false [.i .u8]], .i .i64, .b])]]⟩
noncomputable def fi99 : Fi := ⟨Tryz.f99, [], false, [.ag [.v (.i .i64), .v (.i .i64), .v (.i .i64)]], [.ag [.v (.i .i64), .v (.i .i64), .v (.i .i64)]]⟩
def x69_3_0 : List (Ex × List Nat × CSt) := [((.ex 0), [3], ⟨[.rf 1 [] 0 none], [.dead, .row true [.i .i64, .i .i64, .i .i64] [] 0 false]⟩)]
noncomputable def fi69 : Fi := ⟨Tryz.f69, [⟨3, [0, 3, 4], [], [(⟨[.ro 0 true [.i .i64, .i .i64, .i .i64] [], .rf 1 [] 0 none, .i .i64 0], [.dead, .row true [.i .i64, .i .i64, .i .i64] [] 0 false]⟩, x69_3_0)]⟩], false, [.ro (.sl true [.i .i64, .i .i64, .i .i64])], [.ow (.sl true [.i .i64, .i .i64, .i .i64])]⟩
noncomputable def fi43 : Fi := ⟨Tryz.f43, [], false, [.ag [.ro (.sl true [.sl true [.b, .sl false [.i .u8]], .i .i64, .b]), .v (.i .i64), .ro (.sl true [.i .i64, .i .i64, .i .i64]), .v (.b)]], [.ag [.ow (.sl true [.sl true [.b, .sl false [.i .u8]], .i .i64, .b]), .v (.i .i64), .ow (.sl true [.i .i64, .i .i64, .i .i64]), .v (.b)]]⟩
noncomputable def fi17 : Fi := ⟨Tryz.f17, [], false, [.ag [.ro (.sl true [.sl true [.b, .sl false [.i .u8]], .i .i64, .b]), .v (.i .i64), .ro (.sl true [.i .i64, .i .i64, .i .i64]), .v (.b), .v (.i .i64)]], [.ag [.ow (.sl true [.sl true [.b, .sl false [.i .u8]], .i .i64, .b]), .v (.i .i64), .ow (.sl true [.i .i64, .i .i64, .i .i64]), .v (.b), .v (.i .i64)]]⟩
noncomputable def fi143 : Fi := ⟨Tryz.f143, [], false, [.ag [.v (.s), .v (.i .i64)]], [.ag [.v (.s), .v (.i .i64)]]⟩
def x136_3_0 : List (Ex × List Nat × CSt) := [((.ex 0), [3], ⟨[.rf 1 [] 0 none], [.dead, .row true [.s, .i .i64] [] 0 false]⟩)]
noncomputable def fi136 : Fi := ⟨Tryz.f136, [⟨3, [0, 3, 4], [], [(⟨[.ro 0 true [.s, .i .i64] [], .rf 1 [] 0 none, .i .i64 0], [.dead, .row true [.s, .i .i64] [] 0 false]⟩, x136_3_0)]⟩], false, [.ro (.sl true [.s, .i .i64])], [.ow (.sl true [.s, .i .i64])]⟩
noncomputable def fi144 : Fi := ⟨Tryz.f144, [], false, [.ag [.v (.s), .v (.s)]], [.ag [.v (.s), .v (.s)]]⟩
def x137_3_0 : List (Ex × List Nat × CSt) := [((.ex 0), [3], ⟨[.rf 1 [] 0 none], [.dead, .row true [.s, .s] [] 0 false]⟩)]
noncomputable def fi137 : Fi := ⟨Tryz.f137, [⟨3, [0, 3, 4], [], [(⟨[.ro 0 true [.s, .s] [], .rf 1 [] 0 none, .i .i64 0], [.dead, .row true [.s, .s] [] 0 false]⟩, x137_3_0)]⟩], false, [.ro (.sl true [.s, .s])], [.ow (.sl true [.s, .s])]⟩
noncomputable def fi127 : Fi := ⟨Tryz.f127, [], false, [.ag [.v (.i .i64), .v (.i .i64), .v (.i .i64), .ro (.sl false [.i .u8]), .ro (.sl true [.s, .i .i64]), .ro (.sl true [.s, .s])]], [.ag [.v (.i .i64), .v (.i .i64), .v (.i .i64), .ow (.sl false [.i .u8]), .ow (.sl true [.s, .i .i64]), .ow (.sl true [.s, .s])]]⟩
def x120_3_0 : List (Ex × List Nat × CSt) := [((.ex 0), [3], ⟨[.rf 1 [] 0 none], [.dead, .row true [.i .i64, .i .i64, .i .i64, .sl false [.i .u8], .sl true [.s, .i .i64], .sl true [.s, .s]] [] 0 false]⟩)]
noncomputable def fi120 : Fi := ⟨Tryz.f120, [⟨3, [0, 3, 4], [], [(⟨[.ro 0 true [.i .i64, .i .i64, .i .i64, .sl false [.i .u8], .sl true [.s, .i .i64], .sl true [.s, .s]] [], .rf 1 [] 0 none, .i .i64 0], [.dead, .row true [.i .i64, .i .i64, .i .i64, .sl false [.i .u8], .sl true [.s, .i .i64], .sl true [.s, .s]] [] 0 false]⟩, x120_3_0)]⟩], false, [.ro (.sl true [.i .i64, .i .i64, .i .i64, .sl false [.i .u8], .sl true [.s, .i .i64], .sl true [.s, .s]])], [.ow (.sl true [.i .i64, .i .i64, .i .i64, .sl false [.i .u8], .sl true [.s, .i .i64], .sl true [.s, .s]])]⟩
noncomputable def fi103 : Fi := ⟨Tryz.f103, [], false, [.ag [.ro (.sl true [.i .i64, .i .i64, .i .i64, .sl false [.i .u8], .sl true [.s, .i .i64], .sl true [.s, .s]]), .v (.i .i64)]], [.ag [.ow (.sl true [.i .i64, .i .i64, .i .i64, .sl false [.i .u8], .sl true [.s, .i .i64], .sl true [.s, .s]]), .v (.i .i64)]]⟩
noncomputable def fi78 : Fi := ⟨Tryz.f78, [], false, [.ag [.v (.i .i64), .v (.s), .v (.b), .v (.i .i64), .ro (.sl true [.i .i64, .i .i64, .i .i64, .sl false [.i .u8], .sl true [.s, .i .i64], .sl true [.s, .s]]), .v (.i .i64)]], [.ag [.v (.i .i64), .v (.s), .v (.b), .v (.i .i64), .ow (.sl true [.i .i64, .i .i64, .i .i64, .sl false [.i .u8], .sl true [.s, .i .i64], .sl true [.s, .s]]), .v (.i .i64)]]⟩
def x53_3_0 : List (Ex × List Nat × CSt) := [((.ex 0), [3], ⟨[.rf 1 [] 0 none], [.dead, .row true [.i .i64, .s, .b, .i .i64, .sl true [.i .i64, .i .i64, .i .i64, .sl false [.i .u8], .sl true [.s, .i .i64], .sl true [.s, .s]], .i .i64] [] 0 false]⟩)]
noncomputable def fi53 : Fi := ⟨Tryz.f53, [⟨3, [0, 3, 4], [], [(⟨[.ro 0 true [.i .i64, .s, .b, .i .i64, .sl true [.i .i64, .i .i64, .i .i64, .sl false [.i .u8], .sl true [.s, .i .i64], .sl true [.s, .s]], .i .i64] [], .rf 1 [] 0 none, .i .i64 0], [.dead, .row true [.i .i64, .s, .b, .i .i64, .sl true [.i .i64, .i .i64, .i .i64, .sl false [.i .u8], .sl true [.s, .i .i64], .sl true [.s, .s]], .i .i64] [] 0 false]⟩, x53_3_0)]⟩], false, [.ro (.sl true [.i .i64, .s, .b, .i .i64, .sl true [.i .i64, .i .i64, .i .i64, .sl false [.i .u8], .sl true [.s, .i .i64], .sl true [.s, .s]], .i .i64])], [.ow (.sl true [.i .i64, .s, .b, .i .i64, .sl true [.i .i64, .i .i64, .i .i64, .sl false [.i .u8], .sl true [.s, .i .i64], .sl true [.s, .s]], .i .i64])]⟩
noncomputable def fi26 : Fi := ⟨Tryz.f26, [], false, [.ag [.ro (.sl true [.i .i64, .s, .b, .i .i64, .sl true [.i .i64, .i .i64, .i .i64, .sl false [.i .u8], .sl true [.s, .i .i64], .sl true [.s, .s]], .i .i64]), .v (.i .i64)]], [.ag [.ow (.sl true [.i .i64, .s, .b, .i .i64, .sl true [.i .i64, .i .i64, .i .i64, .sl false [.i .u8], .sl true [.s, .i .i64], .sl true [.s, .s]], .i .i64]), .v (.i .i64)]]⟩
noncomputable def fi79 : Fi := ⟨Tryz.f79, [], false, [.ag [.v (.i .i64), .v (.s), .v (.b), .v (.i .i64), .v (.i .i64)]], [.ag [.v (.i .i64), .v (.s), .v (.b), .v (.i .i64), .v (.i .i64)]]⟩
def x54_3_0 : List (Ex × List Nat × CSt) := [((.ex 0), [3], ⟨[.rf 1 [] 0 none], [.dead, .row true [.i .i64, .s, .b, .i .i64, .i .i64] [] 0 false]⟩)]
noncomputable def fi54 : Fi := ⟨Tryz.f54, [⟨3, [0, 3, 4], [], [(⟨[.ro 0 true [.i .i64, .s, .b, .i .i64, .i .i64] [], .rf 1 [] 0 none, .i .i64 0], [.dead, .row true [.i .i64, .s, .b, .i .i64, .i .i64] [] 0 false]⟩, x54_3_0)]⟩], false, [.ro (.sl true [.i .i64, .s, .b, .i .i64, .i .i64])], [.ow (.sl true [.i .i64, .s, .b, .i .i64, .i .i64])]⟩
noncomputable def fi27 : Fi := ⟨Tryz.f27, [], false, [.ag [.v (.i .i64), .ro (.sl true [.i .i64, .s, .b, .i .i64, .i .i64])]], [.ag [.v (.i .i64), .ow (.sl true [.i .i64, .s, .b, .i .i64, .i .i64])]]⟩
noncomputable def fi104 : Fi := ⟨Tryz.f104, [], false, [.ag [.v (.i .i64), .v (.i .i64)]], [.ag [.v (.i .i64), .v (.i .i64)]]⟩
def x80_3_0 : List (Ex × List Nat × CSt) := [((.ex 0), [3], ⟨[.rf 1 [] 0 none], [.dead, .row true [.i .i64, .i .i64] [] 0 false]⟩)]
noncomputable def fi80 : Fi := ⟨Tryz.f80, [⟨3, [0, 3, 4], [], [(⟨[.ro 0 true [.i .i64, .i .i64] [], .rf 1 [] 0 none, .i .i64 0], [.dead, .row true [.i .i64, .i .i64] [] 0 false]⟩, x80_3_0)]⟩], false, [.ro (.sl true [.i .i64, .i .i64])], [.ow (.sl true [.i .i64, .i .i64])]⟩
noncomputable def fi55 : Fi := ⟨Tryz.f55, [], false, [.ag [.v (.i .i64), .ro (.sl true [.i .i64, .i .i64])]], [.ag [.v (.i .i64), .ow (.sl true [.i .i64, .i .i64])]]⟩
def x28_3_0 : List (Ex × List Nat × CSt) := [((.ex 0), [3], ⟨[.rf 1 [] 0 none], [.dead, .row true [.i .i64, .sl true [.i .i64, .i .i64]] [] 0 false]⟩)]
noncomputable def fi28 : Fi := ⟨Tryz.f28, [⟨3, [0, 3, 4], [], [(⟨[.ro 0 true [.i .i64, .sl true [.i .i64, .i .i64]] [], .rf 1 [] 0 none, .i .i64 0], [.dead, .row true [.i .i64, .sl true [.i .i64, .i .i64]] [] 0 false]⟩, x28_3_0)]⟩], false, [.ro (.sl true [.i .i64, .sl true [.i .i64, .i .i64]])], [.ow (.sl true [.i .i64, .sl true [.i .i64, .i .i64]])]⟩
noncomputable def fi8 : Fi := ⟨Tryz.f8, [], false, [.ag [.ro (.sl true [.i .i64, .s, .b, .i .i64, .sl true [.i .i64, .i .i64, .i .i64, .sl false [.i .u8], .sl true [.s, .i .i64], .sl true [.s, .s]], .i .i64]), .v (.i .i64), .v (.i .i64), .ro (.sl true [.i .i64, .s, .b, .i .i64, .i .i64]), .ro (.sl true [.i .i64, .sl true [.i .i64, .i .i64]]), .v (.i .i64), .v (.i .i64)]], [.ag [.ow (.sl true [.i .i64, .s, .b, .i .i64, .sl true [.i .i64, .i .i64, .i .i64, .sl false [.i .u8], .sl true [.s, .i .i64], .sl true [.s, .s]], .i .i64]), .v (.i .i64), .v (.i .i64), .ow (.sl true [.i .i64, .s, .b, .i .i64, .i .i64]), .ow (.sl true [.i .i64, .sl true [.i .i64, .i .i64]]), .v (.i .i64), .v (.i .i64)]]⟩
def x47_3_0 : List (Ex × List Nat × CSt) := [((.ex 0), [3], ⟨[.i .i64 0], [.dead, .dead, .dead]⟩)]
noncomputable def fi47 : Fi := ⟨Tryz.f47, [⟨3, [1, 3, 4], [], [(⟨[.bp 3 0, .i .i64 0, .i .i64 0], [.dead, .dead, .dead, .box [.ro 0 true [.b, .sl false [.i .u8]] [], .i .i64 0, .b false]]⟩, x47_3_0)]⟩], false, [.ag [.ro (.sl true [.b, .sl false [.i .u8]]), .v (.i .i64), .v (.b)]], [.v (.i .i64)]⟩
def x42_2_0 : List (Ex × List Nat × CSt) := [(.ret, [4], ⟨[.b false], [.dead, .dead]⟩), ((.ex 0), [], ⟨[], [.dead, .dead]⟩)]
noncomputable def fi42 : Fi := ⟨Tryz.f42, [⟨2, [0, 1, 5], [], [(⟨[.ro 0 false [.i .i64] [], .i .i64 0, .i .i64 0], [.dead, .dead]⟩, x42_2_0)]⟩], false, [.ro (.sl false [.i .i64]), .v (.i .i64)], [.v (.b)]⟩
def x52_5_0 : List (Ex × List Nat × CSt) := [((.ex 0), [1, 5, 6], ⟨[.i .i64 0, .rf 2 [] 0 none, .i .i64 0], [.dead, .dead, .row false [.i .i64] [] 0 false]⟩)]
noncomputable def fi52 : Fi := ⟨Tryz.f52, [⟨5, [1, 5, 6], [], [(⟨[.i .i64 0, .rf 2 [] 0 none, .i .i64 0], [.dead, .dead, .row false [.i .i64] [] 0 false]⟩, x52_5_0)]⟩], false, [.ro (.sl false [.i .i64]), .v (.i .i64)], [.ro (.sl false [.i .i64])]⟩
noncomputable def fi25 : Fi := ⟨Tryz.f25, [], false, [.ro (.sl false [.i .i64]), .v (.i .i64)], [.ro (.sl false [.i .i64])]⟩
def x7_3_0 : List (Ex × List Nat × CSt) := [((.ex 0), [1, 3], ⟨[.bp 7 0, .ro 0 false [.i .i64] []], [.dead, .dead, .dead, .dead, .dead, .dead, .dead, .box [.ro 0 true [.i .i64, .s, .b, .i .i64, .sl true [.i .i64, .i .i64, .i .i64, .sl false [.i .u8], .sl true [.s, .i .i64], .sl true [.s, .s]], .i .i64] [], .i .i64 0, .i .i64 0, .ro 0 true [.i .i64, .s, .b, .i .i64, .i .i64] [], .ro 0 true [.i .i64, .sl true [.i .i64, .i .i64]] [], .i .i64 0, .i .i64 0]]⟩)]
def x7_7_0 : List (Ex × List Nat × CSt) := [((.ex 2), [3], ⟨[.ro 0 false [.i .i64] []], [.dead, .dead, .dead, .dead, .dead, .dead, .dead]⟩)]
def x7_10_0 : List (Ex × List Nat × CSt) := [((.ex 4), [1, 3, 5], ⟨[.bp 7 0, .ro 0 false [.i .i64] [], .i .i64 0], [.dead, .dead, .dead, .dead, .dead, .dead, .dead, .box [.ro 0 true [.i .i64, .s, .b, .i .i64, .sl true [.i .i64, .i .i64, .i .i64, .sl false [.i .u8], .sl true [.s, .i .i64], .sl true [.s, .s]], .i .i64] [], .i .i64 0, .i .i64 0, .ro 0 true [.i .i64, .s, .b, .i .i64, .i .i64] [], .ro 0 true [.i .i64, .sl true [.i .i64, .i .i64]] [], .i .i64 0, .i .i64 0]]⟩)]
noncomputable def fi7 : Fi := ⟨Tryz.f7, [⟨3, [1, 3, 4], [], [(⟨[.bp 7 0, .ro 0 false [.i .i64] [], .i .i64 0], [.dead, .dead, .dead, .dead, .dead, .dead, .dead, .box [.ro 0 true [.i .i64, .s, .b, .i .i64, .sl true [.i .i64, .i .i64, .i .i64, .sl false [.i .u8], .sl true [.s, .i .i64], .sl true [.s, .s]], .i .i64] [], .i .i64 0, .i .i64 0, .ro 0 true [.i .i64, .s, .b, .i .i64, .i .i64] [], .ro 0 true [.i .i64, .sl true [.i .i64, .i .i64]] [], .i .i64 0, .i .i64 0]]⟩, x7_3_0)]⟩, ⟨7, [1, 3, 5], [], [(⟨[.bp 7 0, .ro 0 false [.i .i64] [], .i .i64 0], [.dead, .dead, .dead, .dead, .dead, .dead, .dead, .box [.ro 0 true [.i .i64, .s, .b, .i .i64, .sl true [.i .i64, .i .i64, .i .i64, .sl false [.i .u8], .sl true [.s, .i .i64], .sl true [.s, .s]], .i .i64] [], .i .i64 0, .i .i64 0, .ro 0 true [.i .i64, .s, .b, .i .i64, .i .i64] [], .ro 0 true [.i .i64, .sl true [.i .i64, .i .i64]] [], .i .i64 0, .i .i64 0]]⟩, x7_7_0)]⟩, ⟨10, [1, 3, 5, 6], [], [(⟨[.bp 7 0, .ro 0 false [.i .i64] [], .i .i64 0, .i .i64 0], [.dead, .dead, .dead, .dead, .dead, .dead, .dead, .box [.ro 0 true [.i .i64, .s, .b, .i .i64, .sl true [.i .i64, .i .i64, .i .i64, .sl false [.i .u8], .sl true [.s, .i .i64], .sl true [.s, .s]], .i .i64] [], .i .i64 0, .i .i64 0, .ro 0 true [.i .i64, .s, .b, .i .i64, .i .i64] [], .ro 0 true [.i .i64, .sl true [.i .i64, .i .i64]] [], .i .i64 0, .i .i64 0]]⟩, x7_10_0)]⟩], false, [.ag [.ro (.sl true [.i .i64, .s, .b, .i .i64, .sl true [.i .i64, .i .i64, .i .i64, .sl false [.i .u8], .sl true [.s, .i .i64], .sl true [.s, .s]], .i .i64]), .v (.i .i64), .v (.i .i64), .ro (.sl true [.i .i64, .s, .b, .i .i64, .i .i64]), .ro (.sl true [.i .i64, .sl true [.i .i64, .i .i64]]), .v (.i .i64), .v (.i .i64)]], [.ro (.sl false [.i .i64])]⟩
def x16_4_0 : List (Ex × List Nat × CSt) := [((.ex 0), [8], ⟨[.i .i64 0], [.dead, .dead, .dead, .dead, .dead, .dead, .dead, .dead, .dead, .dead, .dead, .dead, .dead]⟩)]
noncomputable def fi16 : Fi := ⟨Tryz.f16, [⟨4, [2, 3, 7, 8, 9], [], [(⟨[.i .i64 0, .bp 13 0, .ro 0 false [.i .i64] [], .i .i64 0, .i .i64 0], [.dead, .dead, .dead, .dead, .dead, .dead, .dead, .dead, .dead, .dead, .dead, .dead, .dead, .box [.ro 0 true [.sl true [.b, .sl false [.i .u8]], .i .i64, .b] [], .i .i64 0, .ro 0 true [.i .i64, .i .i64, .i .i64] [], .b false, .i .i64 0]]⟩, x16_4_0)]⟩], false, [.ag [.ro (.sl true [.sl true [.b, .sl false [.i .u8]], .i .i64, .b]), .v (.i .i64), .ro (.sl true [.i .i64, .i .i64, .i .i64]), .v (.b), .v (.i .i64)], .ag [.ro (.sl true [.i .i64, .s, .b, .i .i64, .sl true [.i .i64, .i .i64, .i .i64, .sl false [.i .u8], .sl true [.s, .i .i64], .sl true [.s, .s]], .i .i64]), .v (.i .i64), .v (.i .i64), .ro (.sl true [.i .i64, .s, .b, .i .i64, .i .i64]), .ro (.sl true [.i .i64, .sl true [.i .i64, .i .i64]]), .v (.i .i64), .v (.i .i64)], .v (.i .i64)], [.v (.i .i64)]⟩
def x20_4_0 : List (Ex × List Nat × CSt) := [((.ex 0), [5], ⟨[.i .i64 0], [.dead, .dead, .dead, .dead, .dead, .dead, .dead, .dead, .dead, .dead, .dead, .dead]⟩)]
noncomputable def fi20 : Fi := ⟨Tryz.f20, [⟨4, [2, 3, 5, 6, 7], [], [(⟨[.bp 12 0, .bp 13 0, .i .i64 0, .i .i64 0, .i .i64 0], [.dead, .dead, .dead, .dead, .dead, .dead, .dead, .dead, .dead, .dead, .dead, .dead, .box [.ro 0 true [.sl true [.b, .sl false [.i .u8]], .i .i64, .b] [], .i .i64 0, .ro 0 true [.i .i64, .i .i64, .i .i64] [], .b false, .i .i64 0], .box [.ro 0 true [.i .i64, .s, .b, .i .i64, .sl true [.i .i64, .i .i64, .i .i64, .sl false [.i .u8], .sl true [.s, .i .i64], .sl true [.s, .s]], .i .i64] [], .i .i64 0, .i .i64 0, .ro 0 true [.i .i64, .s, .b, .i .i64, .i .i64] [], .ro 0 true [.i .i64, .sl true [.i .i64, .i .i64]] [], .i .i64 0, .i .i64 0]]⟩, x20_4_0)]⟩], false, [.ag [.ro (.sl true [.sl true [.b, .sl false [.i .u8]], .i .i64, .b]), .v (.i .i64), .ro (.sl true [.i .i64, .i .i64, .i .i64]), .v (.b), .v (.i .i64)], .ag [.ro (.sl true [.i .i64, .s, .b, .i .i64, .sl true [.i .i64, .i .i64, .i .i64, .sl false [.i .u8], .sl true [.s, .i .i64], .sl true [.s, .s]], .i .i64]), .v (.i .i64), .v (.i .i64), .ro (.sl true [.i .i64, .s, .b, .i .i64, .i .i64]), .ro (.sl true [.i .i64, .sl true [.i .i64, .i .i64]]), .v (.i .i64), .v (.i .i64)]], [.v (.i .i64)]⟩
noncomputable def fi70 : Fi := ⟨Tryz.f70, [], false, [.v (.i .i64), .v (.i .i64), .v (.i .i64)], [.v (.b)]⟩
noncomputable def fi44 : Fi := ⟨Tryz.f44, [], false, [.ag [.ro (.sl true [.sl true [.b, .sl false [.i .u8]], .i .i64, .b])], .v (.i .i64)], [.v (.b)]⟩
def x30_3_0 : List (Ex × List Nat × CSt) := [((.ex 0), [1, 3], ⟨[.bp 7 0, .rf 8 [] 0 none], [.dead, .dead, .dead, .dead, .dead, .dead, .dead, .box [.ro 0 true [.i .i64, .s, .b, .i .i64, .sl true [.i .i64, .i .i64, .i .i64, .sl false [.i .u8], .sl true [.s, .i .i64], .sl true [.s, .s]], .i .i64] [], .i .i64 0, .i .i64 0, .ro 0 true [.i .i64, .s, .b, .i .i64, .i .i64] [], .ro 0 true [.i .i64, .sl true [.i .i64, .i .i64]] [], .i .i64 0, .i .i64 0], .row false [.sl false [.i .i64]] [] 0 true]⟩)]
def x30_8_0 : List (Ex × List Nat × CSt) := [((.ex 2), [3], ⟨[.rf 7 [] 0 none], [.dead, .dead, .dead, .dead, .dead, .dead, .dead, .row false [.sl false [.i .i64]] [] 0 true]⟩)]
def x30_11_0 : List (Ex × List Nat × CSt) := [((.ex 4), [3, 41, 42, 43], ⟨[.rf 7 [] 0 none, .ro 0 true [.i .i64, .sl true [.i .i64, .i .i64]] [], .i .i64 0, .i .i64 0], [.dead, .dead, .dead, .dead, .dead, .dead, .dead, .row false [.sl false [.i .i64]] [] 0 true]⟩)]
noncomputable def fi30 : Fi := ⟨Tryz.f30, [⟨3, [1, 3, 21, 22, 23], [(3, 1)], [(⟨[.bp 7 0, .rf 8 [] 0 none, .ro 0 true [.i .i64, .s, .b, .i .i64, .i .i64] [], .i .i64 0, .i .i64 0], [.dead, .dead, .dead, .dead, .dead, .dead, .dead, .box [.ro 0 true [.i .i64, .s, .b, .i .i64, .sl true [.i .i64, .i .i64, .i .i64, .sl false [.i .u8], .sl true [.s, .i .i64], .sl true [.s, .s]], .i .i64] [], .i .i64 0, .i .i64 0, .ro 0 true [.i .i64, .s, .b, .i .i64, .i .i64] [], .ro 0 true [.i .i64, .sl true [.i .i64, .i .i64]] [], .i .i64 0, .i .i64 0], .row false [.sl false [.i .i64]] [] 0 true]⟩, x30_3_0)]⟩, ⟨8, [3, 41, 42, 43], [(3, 1)], [(⟨[.rf 7 [] 0 none, .ro 0 true [.i .i64, .sl true [.i .i64, .i .i64]] [], .i .i64 0, .i .i64 0], [.dead, .dead, .dead, .dead, .dead, .dead, .dead, .row false [.sl false [.i .i64]] [] 0 true]⟩, x30_8_0)]⟩, ⟨11, [3, 6, 41, 42, 43, 49, 50, 51], [(3, 1)], [(⟨[.rf 7 [] 0 none, .i .i64 0, .ro 0 true [.i .i64, .sl true [.i .i64, .i .i64]] [], .i .i64 0, .i .i64 0, .ro 0 true [.i .i64, .i .i64] [], .i .i64 0, .i .i64 0], [.dead, .dead, .dead, .dead, .dead, .dead, .dead, .row false [.sl false [.i .i64]] [] 0 true]⟩, x30_11_0)]⟩], false, [.ag [.ro (.sl true [.i .i64, .s, .b, .i .i64, .sl true [.i .i64, .i .i64, .i .i64, .sl false [.i .u8], .sl true [.s, .i .i64], .sl true [.s, .s]], .i .i64]), .v (.i .i64), .v (.i .i64), .ro (.sl true [.i .i64, .s, .b, .i .i64, .i .i64]), .ro (.sl true [.i .i64, .sl true [.i .i64, .i .i64]]), .v (.i .i64), .v (.i .i64)]], [.ow (.sl false [.sl false [.i .i64]])]⟩
noncomputable def fi56 : Fi := ⟨Tryz.f56, [], true, [], []⟩
def x29_3_0 : List (Ex × List Nat × CSt) := [((.ex 0), [0, 3], ⟨[.ro 0 false [.sl false [.i .i64]] [], .i .i64 0], [.dead]⟩)]
def x29_11_0 : List (Ex × List Nat × CSt) := [((.ex 2), [6], ⟨[.rf 1 [] 0 (some (0, 0))], [.dead, .row false [.i .i64] [] 0 false]⟩)]
noncomputable def fi29 : Fi := ⟨Tryz.f29, [⟨3, [0, 3, 9, 10, 11], [], [(⟨[.ro 0 false [.sl false [.i .i64]] [], .i .i64 0, .ro 0 false [.sl false [.i .i64]] [], .i .i64 0, .i .i64 0], [.dead]⟩, x29_3_0)]⟩, ⟨11, [6, 25, 26, 27], [(6, 2)], [(⟨[.rf 1 [] 0 (some (0, 0)), .ro 0 false [.sl false [.i .i64]] [], .i .i64 0, .i .i64 0], [.dead, .row false [.i .i64] [] 0 false]⟩, x29_11_0)]⟩], false, [.ro (.sl false [.sl false [.i .i64]])], [.ow (.sl false [.i .i64])]⟩
noncomputable def fi31 : Fi := ⟨Tryz.f31, [], false, [.ow (.sl false [.i .i64])], []⟩
def x33_4_0 : List (Ex × List Nat × CSt) := [(.ret, [2], ⟨[.rf 1 [] 0 (some (0, 0))], [.dead, .row false [.i .i64] [] 0 false]⟩), ((.ex 0), [0], ⟨[.rf 1 [] 0 none], [.dead, .row false [.i .i64] [] 0 false]⟩)]
def x33_9_0 : List (Ex × List Nat × CSt) := [((.ex 2), [0, 3], ⟨[.rf 1 [] 0 none, .i .i64 0], [.dead, .row false [.i .i64] [] 0 false]⟩)]
noncomputable def fi33 : Fi := ⟨Tryz.f33, [⟨4, [0, 3], [], [(⟨[.rf 1 [] 0 none, .i .i64 0], [.dead, .row false [.i .i64] [] 0 false]⟩, x33_4_0)]⟩, ⟨9, [0, 3, 4, 5], [], [(⟨[.rf 1 [] 0 none, .i .i64 0, .rf 1 [] 0 (some (0, 0)), .i .i64 0], [.dead, .row false [.i .i64] [] 0 false]⟩, x33_9_0)]⟩], false, [.mv (.sl false [.i .i64])], [.ow (.sl false [.i .i64])]⟩
def x59_2_0 : List (Ex × List Nat × CSt) := [(.ret, [4], ⟨[.i .i64 0], [.row false [.i .i64] [] 0 false]⟩), ((.ex 0), [], ⟨[], [.row false [.i .i64] [] 0 false]⟩)]
noncomputable def fi59 : Fi := ⟨Tryz.f59, [⟨2, [0, 1, 7, 8], [], [(⟨[.rf 0 [] 0 none, .fn 34 [], .i .i64 0, .i .i64 0], [.row false [.i .i64] [] 0 false]⟩, x59_2_0)]⟩], true, [], []⟩
def x32_5_0 : List (Ex × List Nat × CSt) := [((.ex 0), [0, 5], ⟨[.rf 0 [] 0 none, .i .i64 0], [.row false [.i .i64] [] 0 false]⟩)]
noncomputable def fi32 : Fi := ⟨Tryz.f32, [⟨5, [0, 1, 5, 6], [], [(⟨[.rf 0 [] 0 none, .fn 34 [], .i .i64 0, .i .i64 0], [.row false [.i .i64] [] 0 false]⟩, x32_5_0)]⟩], true, [], []⟩
noncomputable def fi34 : Fi := ⟨Tryz.f34, [], false, [.v (.i .i64)], [.v (.b)]⟩
noncomputable def fi9 : Fi := ⟨Tryz.f9, [], false, [.ag [.ro (.sl true [.i .i64, .s, .b, .i .i64, .sl true [.i .i64, .i .i64, .i .i64, .sl false [.i .u8], .sl true [.s, .i .i64], .sl true [.s, .s]], .i .i64]), .v (.i .i64), .v (.i .i64), .ro (.sl true [.i .i64, .s, .b, .i .i64, .i .i64]), .ro (.sl true [.i .i64, .sl true [.i .i64, .i .i64]]), .v (.i .i64), .v (.i .i64)]], [.ow (.sl false [.i .i64])]⟩
def x71_2_0 : List (Ex × List Nat × CSt) := [(.ret, [4], ⟨[.i .i64 0], [.dead, .dead]⟩), ((.ex 0), [], ⟨[], [.dead, .dead]⟩)]
noncomputable def fi71 : Fi := ⟨Tryz.f71, [⟨2, [0, 1, 7, 8], [], [(⟨[.ro 0 false [.i .i64] [], .i .i64 0, .i .i64 0, .i .i64 0], [.dead, .dead]⟩, x71_2_0)]⟩], false, [.ro (.sl false [.i .i64]), .v (.i .i64)], [.v (.i .i64)]⟩
noncomputable def fi45 : Fi := ⟨Tryz.f45, [], false, [.ro (.sl false [.i .i64]), .v (.i .i64)], [.v (.b)]⟩
def x18_6_0 : List (Ex × List Nat × CSt) := [((.ex 0), [8], ⟨[.i .i64 0], [.dead, .dead, .dead, .dead, .dead, .dead, .dead, .dead, .dead, .dead, .dead, .dead, .dead]⟩)]
noncomputable def fi18 : Fi := ⟨Tryz.f18, [⟨6, [2, 7, 8, 26, 27, 28], [], [(⟨[.i .i64 0, .rf 13 [] 0 none, .i .i64 0, .ro 0 true [.b, .sl false [.i .u8]] [], .i .i64 0, .i .i64 0], [.dead, .dead, .dead, .dead, .dead, .dead, .dead, .dead, .dead, .dead, .dead, .dead, .dead, .row false [.i .i64] [] 0 false]⟩, x18_6_0)]⟩], false, [.ag [.ro (.sl true [.sl true [.b, .sl false [.i .u8]], .i .i64, .b]), .v (.i .i64), .ro (.sl true [.i .i64, .i .i64, .i .i64]), .v (.b), .v (.i .i64)], .ag [.ro (.sl true [.i .i64, .s, .b, .i .i64, .sl true [.i .i64, .i .i64, .i .i64, .sl false [.i .u8], .sl true [.s, .i .i64], .sl true [.s, .s]], .i .i64]), .v (.i .i64), .v (.i .i64), .ro (.sl true [.i .i64, .s, .b, .i .i64, .i .i64]), .ro (.sl true [.i .i64, .sl true [.i .i64, .i .i64]]), .v (.i .i64), .v (.i .i64)], .v (.i .i64)], [.v (.i .i64)]⟩
def x74_5_0 : List (Ex × List Nat × CSt) := [((.ex 0), [5], ⟨[.i .i64 0], [.dead, .dead]⟩)]
noncomputable def fi74 : Fi := ⟨Tryz.f74, [⟨5, [5, 17, 18, 19], [], [(⟨[.i .i64 0, .ro 0 true [.b, .sl false [.i .u8]] [], .i .i64 0, .i .i64 0], [.dead, .dead]⟩, x74_5_0)]⟩], false, [.ag [.ro (.sl true [.sl true [.b, .sl false [.i .u8]], .i .i64, .b])], .v (.i .i64)], [.v (.i .i64)]⟩
noncomputable def fi48 : Fi := ⟨Tryz.f48, [], false, [.ag [.ro (.sl true [.sl true [.b, .sl false [.i .u8]], .i .i64, .b]), .v (.i .i64), .ro (.sl true [.i .i64, .i .i64, .i .i64]), .v (.b), .v (.i .i64)], .v (.i .i64)], [.v (.b)]⟩
def x21_4_0 : List (Ex × List Nat × CSt) := [((.ex 0), [5], ⟨[.i .i64 0], [.dead, .dead, .dead, .dead, .dead, .dead, .dead, .dead, .dead, .dead, .dead, .dead]⟩)]
noncomputable def fi21 : Fi := ⟨Tryz.f21, [⟨4, [2, 3, 5, 6, 13, 14], [], [(⟨[.bp 12 0, .bp 13 0, .i .i64 0, .i .i64 0, .i .i64 0, .i .i64 0], [.dead, .dead, .dead, .dead, .dead, .dead, .dead, .dead, .dead, .dead, .dead, .dead, .box [.ro 0 true [.sl true [.b, .sl false [.i .u8]], .i .i64, .b] [], .i .i64 0, .ro 0 true [.i .i64, .i .i64, .i .i64] [], .b false, .i .i64 0], .box [.ro 0 true [.i .i64, .s, .b, .i .i64, .sl true [.i .i64, .i .i64, .i .i64, .sl false [.i .u8], .sl true [.s, .i .i64], .sl true [.s, .s]], .i .i64] [], .i .i64 0, .i .i64 0, .ro 0 true [.i .i64, .s, .b, .i .i64, .i .i64] [], .ro 0 true [.i .i64, .sl true [.i .i64, .i .i64]] [], .i .i64 0, .i .i64 0]]⟩, x21_4_0)]⟩], false, [.ag [.ro (.sl true [.sl true [.b, .sl false [.i .u8]], .i .i64, .b]), .v (.i .i64), .ro (.sl true [.i .i64, .i .i64, .i .i64]), .v (.b), .v (.i .i64)], .ag [.ro (.sl true [.i .i64, .s, .b, .i .i64, .sl true [.i .i64, .i .i64, .i .i64, .sl false [.i .u8], .sl true [.s, .i .i64], .sl true [.s, .s]], .i .i64]), .v (.i .i64), .v (.i .i64), .ro (.sl true [.i .i64, .s, .b, .i .i64, .i .i64]), .ro (.sl true [.i .i64, .sl true [.i .i64, .i .i64]]), .v (.i .i64), .v (.i .i64)]], [.v (.i .i64)]⟩
def x138_4_0 : List (Ex × List Nat × CSt) := [(.ret, [4], ⟨[.b false], [.dead, .dead]⟩), ((.ex 0), [], ⟨[], [.dead, .dead]⟩)]
noncomputable def fi138 : Fi := ⟨Tryz.f138, [⟨4, [0, 1, 5], [], [(⟨[.ro 0 false [.i .u8] [], .ro 0 false [.i .u8] [], .i .i64 0], [.dead, .dead]⟩, x138_4_0)]⟩], false, [.ro (.sl false [.i .u8]), .ro (.sl false [.i .u8])], [.v (.b)]⟩
noncomputable def fi131 : Fi := ⟨Tryz.f131, [], false, [.ag [.v (.b), .ro (.sl false [.i .u8])], .ag [.v (.b), .ro (.sl false [.i .u8])]], [.v (.b)]⟩
def x125_4_0 : List (Ex × List Nat × CSt) := [(.ret, [4], ⟨[.b false], [.dead, .dead]⟩), ((.ex 0), [], ⟨[], [.dead, .dead]⟩)]
noncomputable def fi125 : Fi := ⟨Tryz.f125, [⟨4, [0, 1, 5], [], [(⟨[.ro 0 true [.b, .sl false [.i .u8]] [], .ro 0 true [.b, .sl false [.i .u8]] [], .i .i64 0], [.dead, .dead]⟩, x125_4_0)]⟩], false, [.ro (.sl true [.b, .sl false [.i .u8]]), .ro (.sl true [.b, .sl false [.i .u8]])], [.v (.b)]⟩
noncomputable def fi118 : Fi := ⟨Tryz.f118, [], false, [.ag [.ro (.sl true [.b, .sl false [.i .u8]]), .v (.i .i64), .v (.b)], .ag [.ro (.sl true [.b, .sl false [.i .u8]]), .v (.i .i64), .v (.b)]], [.v (.b)]⟩
def x100_4_0 : List (Ex × List Nat × CSt) := [(.ret, [4], ⟨[.b false], [.dead, .dead]⟩), ((.ex 0), [], ⟨[], [.dead, .dead]⟩)]
noncomputable def fi100 : Fi := ⟨Tryz.f100, [⟨4, [0, 1, 5], [], [(⟨[.ro 0 true [.sl true [.b, .sl false [.i .u8]], .i .i64, .b] [], .ro 0 true [.sl true [.b, .sl false [.i .u8]], .i .i64, .b] [], .i .i64 0], [.dead, .dead]⟩, x100_4_0)]⟩], false, [.ro (.sl true [.sl true [.b, .sl false [.i .u8]], .i .i64, .b]), .ro (.sl true [.sl true [.b, .sl false [.i .u8]], .i .i64, .b])], [.v (.b)]⟩
noncomputable def fi72 : Fi := ⟨Tryz.f72, [], false, [.ag [.ro (.sl true [.sl true [.b, .sl false [.i .u8]], .i .i64, .b])], .ag [.ro (.sl true [.sl true [.b, .sl false [.i .u8]], .i .i64, .b])]], [.v (.b)]⟩
noncomputable def fi101 : Fi := ⟨Tryz.f101, [], false, [.ag [.v (.i .i64), .v (.i .i64), .v (.i .i64)], .ag [.v (.i .i64), .v (.i .i64), .v (.i .i64)]], [.v (.b)]⟩
def x73_4_0 : List (Ex × List Nat × CSt) := [(.ret, [4], ⟨[.b false], [.dead, .dead]⟩), ((.ex 0), [], ⟨[], [.dead, .dead]⟩)]
noncomputable def fi73 : Fi := ⟨Tryz.f73, [⟨4, [0, 1, 5], [], [(⟨[.ro 0 true [.i .i64, .i .i64, .i .i64] [], .ro 0 true [.i .i64, .i .i64, .i .i64] [], .i .i64 0], [.dead, .dead]⟩, x73_4_0)]⟩], false, [.ro (.sl true [.i .i64, .i .i64, .i .i64]), .ro (.sl true [.i .i64, .i .i64, .i .i64])], [.v (.b)]⟩
noncomputable def fi46 : Fi := ⟨Tryz.f46, [], false, [.ag [.ro (.sl true [.sl true [.b, .sl false [.i .u8]], .i .i64, .b]), .v (.i .i64), .ro (.sl true [.i .i64, .i .i64, .i .i64]), .v (.b)], .ag [.ro (.sl true [.sl true [.b, .sl false [.i .u8]], .i .i64, .b]), .v (.i .i64), .ro (.sl true [.i .i64, .i .i64, .i .i64]), .v (.b)]], [.v (.b)]⟩
noncomputable def fi19 : Fi := ⟨Tryz.f19, [], false, [.ag [.ro (.sl true [.sl true [.b, .sl false [.i .u8]], .i .i64, .b]), .v (.i .i64), .ro (.sl true [.i .i64, .i .i64, .i .i64]), .v (.b), .v (.i .i64)], .ag [.ro (.sl true [.sl true [.b, .sl false [.i .u8]], .i .i64, .b]), .v (.i .i64), .ro (.sl true [.i .i64, .i .i64, .i .i64]), .v (.b), .v (.i .i64)]], [.v (.b)]⟩
noncomputable def fi145 : Fi := ⟨Tryz.f145, [], false, [.ag [.v (.s), .v (.i .i64)], .ag [.v (.s), .v (.i .i64)]], [.v (.b)]⟩
def x139_4_0 : List (Ex × List Nat × CSt) := [(.ret, [4], ⟨[.b false], [.dead, .dead]⟩), ((.ex 0), [], ⟨[], [.dead, .dead]⟩)]
noncomputable def fi139 : Fi := ⟨Tryz.f139, [⟨4, [0, 1, 5], [], [(⟨[.ro 0 true [.s, .i .i64] [], .ro 0 true [.s, .i .i64] [], .i .i64 0], [.dead, .dead]⟩, x139_4_0)]⟩], false, [.ro (.sl true [.s, .i .i64]), .ro (.sl true [.s, .i .i64])], [.v (.b)]⟩
noncomputable def fi146 : Fi := ⟨Tryz.f146, [], false, [.ag [.v (.s), .v (.s)], .ag [.v (.s), .v (.s)]], [.v (.b)]⟩
def x140_4_0 : List (Ex × List Nat × CSt) := [(.ret, [4], ⟨[.b false], [.dead, .dead]⟩), ((.ex 0), [], ⟨[], [.dead, .dead]⟩)]
noncomputable def fi140 : Fi := ⟨Tryz.f140, [⟨4, [0, 1, 5], [], [(⟨[.ro 0 true [.s, .s] [], .ro 0 true [.s, .s] [], .i .i64 0], [.dead, .dead]⟩, x140_4_0)]⟩], false, [.ro (.sl true [.s, .s]), .ro (.sl true [.s, .s])], [.v (.b)]⟩
noncomputable def fi128 : Fi := ⟨Tryz.f128, [], false, [.ag [.v (.i .i64), .v (.i .i64), .v (.i .i64), .ro (.sl false [.i .u8]), .ro (.sl true [.s, .i .i64]), .ro (.sl true [.s, .s])], .ag [.v (.i .i64), .v (.i .i64), .v (.i .i64), .ro (.sl false [.i .u8]), .ro (.sl true [.s, .i .i64]), .ro (.sl true [.s, .s])]], [.v (.b)]⟩
def x122_4_0 : List (Ex × List Nat × CSt) := [(.ret, [4], ⟨[.b false], [.dead, .dead]⟩), ((.ex 0), [], ⟨[], [.dead, .dead]⟩)]
noncomputable def fi122 : Fi := ⟨Tryz.f122, [⟨4, [0, 1, 5], [], [(⟨[.ro 0 true [.i .i64, .i .i64, .i .i64, .sl false [.i .u8], .sl true [.s, .i .i64], .sl true [.s, .s]] [], .ro 0 true [.i .i64, .i .i64, .i .i64, .sl false [.i .u8], .sl true [.s, .i .i64], .sl true [.s, .s]] [], .i .i64 0], [.dead, .dead]⟩, x122_4_0)]⟩], false, [.ro (.sl true [.i .i64, .i .i64, .i .i64, .sl false [.i .u8], .sl true [.s, .i .i64], .sl true [.s, .s]]), .ro (.sl true [.i .i64, .i .i64, .i .i64, .sl false [.i .u8], .sl true [.s, .i .i64], .sl true [.s, .s]])], [.v (.b)]⟩
noncomputable def fi111 : Fi := ⟨Tryz.f111, [], false, [.ag [.ro (.sl true [.i .i64, .i .i64, .i .i64, .sl false [.i .u8], .sl true [.s, .i .i64], .sl true [.s, .s]]), .v (.i .i64)], .ag [.ro (.sl true [.i .i64, .i .i64, .i .i64, .sl false [.i .u8], .sl true [.s, .i .i64], .sl true [.s, .s]]), .v (.i .i64)]], [.v (.b)]⟩
noncomputable def fi92 : Fi := ⟨Tryz.f92, [], false, [.ag [.v (.i .i64), .v (.s), .v (.b), .v (.i .i64), .ro (.sl true [.i .i64, .i .i64, .i .i64, .sl false [.i .u8], .sl true [.s, .i .i64], .sl true [.s, .s]]), .v (.i .i64)], .ag [.v (.i .i64), .v (.s), .v (.b), .v (.i .i64), .ro (.sl true [.i .i64, .i .i64, .i .i64, .sl false [.i .u8], .sl true [.s, .i .i64], .sl true [.s, .s]]), .v (.i .i64)]], [.v (.b)]⟩
def x60_4_0 : List (Ex × List Nat × CSt) := [(.ret, [4], ⟨[.b false], [.dead, .dead]⟩), ((.ex 0), [], ⟨[], [.dead, .dead]⟩)]
noncomputable def fi60 : Fi := ⟨Tryz.f60, [⟨4, [0, 1, 5], [], [(⟨[.ro 0 true [.i .i64, .s, .b, .i .i64, .sl true [.i .i64, .i .i64, .i .i64, .sl false [.i .u8], .sl true [.s, .i .i64], .sl true [.s, .s]], .i .i64] [], .ro 0 true [.i .i64, .s, .b, .i .i64, .sl true [.i .i64, .i .i64, .i .i64, .sl false [.i .u8], .sl true [.s, .i .i64], .sl true [.s, .s]], .i .i64] [], .i .i64 0], [.dead, .dead]⟩, x60_4_0)]⟩], false, [.ro (.sl true [.i .i64, .s, .b, .i .i64, .sl true [.i .i64, .i .i64, .i .i64, .sl false [.i .u8], .sl true [.s, .i .i64], .sl true [.s, .s]], .i .i64]), .ro (.sl true [.i .i64, .s, .b, .i .i64, .sl true [.i .i64, .i .i64, .i .i64, .sl false [.i .u8], .sl true [.s, .i .i64], .sl true [.s, .s]], .i .i64])], [.v (.b)]⟩
noncomputable def fi35 : Fi := ⟨Tryz.f35, [], false, [.ag [.ro (.sl true [.i .i64, .s, .b, .i .i64, .sl true [.i .i64, .i .i64, .i .i64, .sl false [.i .u8], .sl true [.s, .i .i64], .sl true [.s, .s]], .i .i64]), .v (.i .i64)], .ag [.ro (.sl true [.i .i64, .s, .b, .i .i64, .sl true [.i .i64, .i .i64, .i .i64, .sl false [.i .u8], .sl true [.s, .i .i64], .sl true [.s, .s]], .i .i64]), .v (.i .i64)]], [.v (.b)]⟩
noncomputable def fi93 : Fi := ⟨Tryz.f93, [], false, [.ag [.v (.i .i64), .v (.s), .v (.b), .v (.i .i64), .v (.i .i64)], .ag [.v (.i .i64), .v (.s), .v (.b), .v (.i .i64), .v (.i .i64)]], [.v (.b)]⟩
def x61_4_0 : List (Ex × List Nat × CSt) := [(.ret, [4], ⟨[.b false], [.dead, .dead]⟩), ((.ex 0), [], ⟨[], [.dead, .dead]⟩)]
noncomputable def fi61 : Fi := ⟨Tryz.f61, [⟨4, [0, 1, 5], [], [(⟨[.ro 0 true [.i .i64, .s, .b, .i .i64, .i .i64] [], .ro 0 true [.i .i64, .s, .b, .i .i64, .i .i64] [], .i .i64 0], [.dead, .dead]⟩, x61_4_0)]⟩], false, [.ro (.sl true [.i .i64, .s, .b, .i .i64, .i .i64]), .ro (.sl true [.i .i64, .s, .b, .i .i64, .i .i64])], [.v (.b)]⟩
noncomputable def fi36 : Fi := ⟨Tryz.f36, [], false, [.ag [.v (.i .i64), .ro (.sl true [.i .i64, .s, .b, .i .i64, .i .i64])], .ag [.v (.i .i64), .ro (.sl true [.i .i64, .s, .b, .i .i64, .i .i64])]], [.v (.b)]⟩
noncomputable def fi112 : Fi := ⟨Tryz.f112, [], false, [.ag [.v (.i .i64), .v (.i .i64)], .ag [.v (.i .i64), .v (.i .i64)]], [.v (.b)]⟩
def x94_4_0 : List (Ex × List Nat × CSt) := [(.ret, [4], ⟨[.b false], [.dead, .dead]⟩), ((.ex 0), [], ⟨[], [.dead, .dead]⟩)]
noncomputable def fi94 : Fi := ⟨Tryz.f94, [⟨4, [0, 1, 5], [], [(⟨[.ro 0 true [.i .i64, .i .i64] [], .ro 0 true [.i .i64, .i .i64] [], .i .i64 0], [.dead, .dead]⟩, x94_4_0)]⟩], false, [.ro (.sl true [.i .i64, .i .i64]), .ro (.sl true [.i .i64, .i .i64])], [.v (.b)]⟩
noncomputable def fi62 : Fi := ⟨Tryz.f62, [], false, [.ag [.v (.i .i64), .ro (.sl true [.i .i64, .i .i64])], .ag [.v (.i .i64), .ro (.sl true [.i .i64, .i .i64])]], [.v (.b)]⟩
def x37_4_0 : List (Ex × List Nat × CSt) := [(.ret, [4], ⟨[.b false], [.dead, .dead]⟩), ((.ex 0), [], ⟨[], [.dead, .dead]⟩)]
noncomputable def fi37 : Fi := ⟨Tryz.f37, [⟨4, [0, 1, 5], [], [(⟨[.ro 0 true [.i .i64, .sl true [.i .i64, .i .i64]] [], .ro 0 true [.i .i64, .sl true [.i .i64, .i .i64]] [], .i .i64 0], [.dead, .dead]⟩, x37_4_0)]⟩], false, [.ro (.sl true [.i .i64, .sl true [.i .i64, .i .i64]]), .ro (.sl true [.i .i64, .sl true [.i .i64, .i .i64]])], [.v (.b)]⟩
noncomputable def fi11 : Fi := ⟨Tryz.f11, [], false, [.ag [.ro (.sl true [.i .i64, .s, .b, .i .i64, .sl true [.i .i64, .i .i64, .i .i64, .sl false [.i .u8], .sl true [.s, .i .i64], .sl true [.s, .s]], .i .i64]), .v (.i .i64), .v (.i .i64), .ro (.sl true [.i .i64, .s, .b, .i .i64, .i .i64]), .ro (.sl true [.i .i64, .sl true [.i .i64, .i .i64]]), .v (.i .i64), .v (.i .i64)], .ag [.ro (.sl true [.i .i64, .s, .b, .i .i64, .sl true [.i .i64, .i .i64, .i .i64, .sl false [.i .u8], .sl true [.s, .i .i64], .sl true [.s, .s]], .i .i64]), .v (.i .i64), .v (.i .i64), .ro (.sl true [.i .i64, .s, .b, .i .i64, .i .i64]), .ro (.sl true [.i .i64, .sl true [.i .i64, .i .i64]]), .v (.i .i64), .v (.i .i64)]], [.v (.b)]⟩
noncomputable def fi5 : Fi := ⟨Tryz.f5, [], false, [.ag [.ro (.sl true [.sl true [.b, .sl false [.i .u8]], .i .i64, .b]), .v (.i .i64), .ro (.sl true [.i .i64, .i .i64, .i .i64]), .v (.b), .v (.i .i64)], .ag [.ro (.sl true [.i .i64, .s, .b, .i .i64, .sl true [.i .i64, .i .i64, .i .i64, .sl false [.i .u8], .sl true [.s, .i .i64], .sl true [.s, .s]], .i .i64]), .v (.i .i64), .v (.i .i64), .ro (.sl true [.i .i64, .s, .b, .i .i64, .i .i64]), .ro (.sl true [.i .i64, .sl true [.i .i64, .i .i64]]), .v (.i .i64), .v (.i .i64)]], [.v (.b)]⟩
noncomputable def fiTab : List (Nat × Fi) := [(132, fi132), (129, fi129), (123, fi123), (116, fi116), (97, fi97), (66, fi66), (67, fi67), (41, fi41), (15, fi15), (141, fi141), (133, fi133), (142, fi142), (134, fi134), (126, fi126), (119, fi119), (102, fi102), (75, fi75), (49, fi49), (22, fi22), (76, fi76), (50, fi50), (23, fi23), (77, fi77), (51, fi51), (24, fi24), (6, fi6), (135, fi135), (130, fi130), (124, fi124), (117, fi117), (98, fi98), (68, fi68), (99, fi99), (69, fi69), (43, fi43), (17, fi17), (143, fi143), (136, fi136), (144, fi144), (137, fi137), (127, fi127), (120, fi120), (103, fi103), (78, fi78), (53, fi53), (26, fi26), (79, fi79), (54, fi54), (27, fi27), (104, fi104), (80, fi80), (55, fi55), (28, fi28), (8, fi8), (47, fi47), (42, fi42), (52, fi52), (25, fi25), (7, fi7), (16, fi16), (20, fi20), (70, fi70), (44, fi44), (30, fi30), (56, fi56), (29, fi29), (31, fi31), (33, fi33), (59, fi59), (32, fi32), (34, fi34), (9, fi9), (71, fi71), (45, fi45), (18, fi18), (74, fi74), (48, fi48), (21, fi21), (138, fi138), (131, fi131), (125, fi125), (118, fi118), (100, fi100), (72, fi72), (101, fi101), (73, fi73), (46, fi46), (19, fi19), (145, fi145), (139, fi139), (146, fi146), (140, fi140), (128, fi128), (122, fi122), (111, fi111), (92, fi92), (60, fi60), (35, fi35), (93, fi93), (61, fi61), (36, fi36), (112, fi112), (94, fi94), (62, fi62), (37, fi37), (11, fi11), (5, fi5)]
def X : Nat → Option (List T → Option (List T)) := lookN [(31, sortF)]
noncomputable def env : Env := ⟨lookN fiTab, lookN tyTab⟩
def f132_t (c : Orc) (lf : Nat) (l0 : List T) (n1 : Int) : Option (List T) :=
 bif iLt (IntKind.wrap .i64 (n1 - (l0.length : Int))) 0 then
  some [T.i .i64 (-1)]
 else
  some [T.i .i64 (IntKind.wrap .i64 (n1 - (l0.length : Int)))]
def f132 (c : Orc) (lf : Nat) (l0 : List T) (n1 : Int) : Option (List T) := f132_t c lf l0 n1
theorem f132_eq (c : Orc) (lf : Nat) (l0 : List T) (n1 : Int) : funK c env lf 6 fi132 [.sl l0, .i .i64 n1] = f132 c lf l0 n1 := by kernel_rfl
def f129_t (c : Orc) (lf : Nat) (b0_0 : Bool) (l0_1 : List T) (n1 : Int) : Option (List T) :=
 (c 132 [T.sl l0_1, T.i .i64 n1]).bind fun r1 =>
 bif iLt (asI (nth r1 0)) 0 then
  some [T.i .i64 (-1)]
 else
  some [T.i .i64 (asI (nth r1 0))]
def f129 (c : Orc) (lf : Nat) (b0_0 : Bool) (l0_1 : List T) (n1 : Int) : Option (List T) := f129_t c lf b0_0 l0_1 n1
theorem f129_eq (c : Orc) (lf : Nat) (b0_0 : Bool) (l0_1 : List T) (n1 : Int) : funK c env lf 6 fi129 [.st [.b b0_0, .sl l0_1], .i .i64 n1] = f129 c lf b0_0 l0_1 n1 := by kernel_rfl
def f123_0_s (c : Orc) (lf : Nat) (l0 : List T) (L : Int → Int → Option (List T)) (x8 x9 : Int) : Option (List T) :=
 bif iLt x9 (l0.length : Int) then
  bif inR x9 l0.length then
  (c 129 [T.st [T.b (asB (T.cell (l0.getD x9.toNat T.u) 0)), T.sl (asL (T.cell (l0.getD x9.toNat T.u) 1))], T.i .i64 x8]).bind fun r10 =>
  bif iLt (asI (nth r10 0)) 0 then
   some [T.i .i64 0, T.i .i64 (-1)]
  else
   L (asI (nth r10 0)) (IntKind.wrap .i64 (x9 + 1))
  else none
 else
  some [T.i .i64 1, T.i .i64 x8]
def f123_0_c (l0 : List T) (x8 x9 : Int) : CSt := ⟨[.ro 0 true [.b, .sl false [.i .u8]] l0, .i .i64 x8, .i .i64 x9], [.dead, .dead]⟩
theorem f123_0_round (c : Orc) (lf : Nat) (l0 : List T) (L : CSt → Option (List T)) (x8 x9 : Int) :
 roundK c env lf 6 fi123 2 5 [] [0, 1, 5] (x123_5_0) L (f123_0_c l0 x8 x9) = f123_0_s c lf l0 (fun x8 x9 => L (f123_0_c l0 x8 x9)) x8 x9 := by kernel_rfl
def f123_0 (c : Orc) (lf : Nat) (l0 : List T) : Nat → Int → Int → Option (List T)
 | 0 => fun _ _ => none
 | n + 1 => fun x8 x9 => f123_0_s c lf l0 (f123_0 c lf l0 n) x8 x9
theorem f123_0_eq (c : Orc) (lf : Nat) (l0 : List T) (n : Nat) (x8 x9 : Int) :
 lpK c env lf 6 fi123 2 5 [] [0, 1, 5] (x123_5_0) n (f123_0_c l0 x8 x9) = f123_0 c lf l0 n x8 x9 := by
 induction n generalizing x8 x9 with
 | zero => rfl
 | succ n ih =>
  refine (f123_0_round c lf l0 _ x8 x9).trans ?_
  have e : (fun x8 x9 => lpK c env lf 6 fi123 2 5 [] [0, 1, 5] (x123_5_0) n (f123_0_c l0 x8 x9)) = f123_0 c lf l0 n := by funext x8 x9; exact ih x8 x9
  show f123_0_s c lf l0 (fun x8 x9 => lpK c env lf 6 fi123 2 5 [] [0, 1, 5] (x123_5_0) n (f123_0_c l0 x8 x9)) x8 x9 = _
  rw [e]; rfl
def f123_t (c : Orc) (lf : Nat) (lp0 : List T → Int → Int → Option (List T)) (l0 : List T) (n1 : Int) : Option (List T) :=
 bif iLt (IntKind.wrap .i64 (n1 - (l0.length : Int))) 0 then
  some [T.i .i64 (-1)]
 else
  (lp0 l0 (IntKind.wrap .i64 (n1 - (l0.length : Int))) 0).bind fun r11 =>
  bif asI (nth r11 0) == 0 then
   some [T.i .i64 (asI (nth r11 1))]
  else
   some [T.i .i64 (asI (nth r11 1))]
def f123 (c : Orc) (lf : Nat) (l0 : List T) (n1 : Int) : Option (List T) := f123_t c lf (fun (l0 : List T) (x8 x9 : Int) => f123_0 c lf l0 lf x8 x9) l0 n1
theorem f123_raw (c : Orc) (lf : Nat) (l0 : List T) (n1 : Int) : funK c env lf 6 fi123 [.sl l0, .i .i64 n1] = f123_t c lf (fun (l0 : List T) (x8 x9 : Int) => lpK c env lf 6 fi123 2 5 [] [0, 1, 5] (x123_5_0) lf (f123_0_c l0 x8 x9)) l0 n1 := by kernel_rfl
theorem f123_eq (c : Orc) (lf : Nat) (l0 : List T) (n1 : Int) : funK c env lf 6 fi123 [.sl l0, .i .i64 n1] = f123 c lf l0 n1 := by
 refine (f123_raw c lf l0 n1).trans ?_
 have e0 : (fun (l0 : List T) (x8 x9 : Int) => lpK c env lf 6 fi123 2 5 [] [0, 1, 5] (x123_5_0) lf (f123_0_c l0 x8 x9)) = (fun (l0 : List T) (x8 x9 : Int) => f123_0 c lf l0 lf x8 x9) := by funext l0 x8 x9; exact f123_0_eq c lf l0 lf x8 x9
 rw [e0]; rfl
def f116_t (c : Orc) (lf : Nat) (l0_0 : List T) (n0_1 : Int) (b0_2 : Bool) (n1 : Int) : Option (List T) :=
 (c 123 [T.sl l0_0, T.i .i64 n1]).bind fun r12 =>
 bif iLt (asI (nth r12 0)) 0 then
  some [T.i .i64 (-1)]
 else
  some [T.i .i64 (asI (nth r12 0))]
def f116 (c : Orc) (lf : Nat) (l0_0 : List T) (n0_1 : Int) (b0_2 : Bool) (n1 : Int) : Option (List T) := f116_t c lf l0_0 n0_1 b0_2 n1
theorem f116_eq (c : Orc) (lf : Nat) (l0_0 : List T) (n0_1 : Int) (b0_2 : Bool) (n1 : Int) : funK c env lf 6 fi116 [.st [.sl l0_0, .i .i64 n0_1, .b b0_2], .i .i64 n1] = f116 c lf l0_0 n0_1 b0_2 n1 := by kernel_rfl
def f97_0_s (c : Orc) (lf : Nat) (l0 : List T) (L : Int → Int → Option (List T)) (x19 x20 : Int) : Option (List T) :=
 bif iLt x20 (l0.length : Int) then
  bif inR x20 l0.length then
  (c 116 [T.st [T.sl (asL (T.cell (l0.getD x20.toNat T.u) 0)), T.i .i64 (asI (T.cell (l0.getD x20.toNat T.u) 1)), T.b (asB (T.cell (l0.getD x20.toNat T.u) 2))], T.i .i64 x19]).bind fun r21 =>
  bif iLt (asI (nth r21 0)) 0 then
   some [T.i .i64 0, T.i .i64 (-1)]
  else
   L (asI (nth r21 0)) (IntKind.wrap .i64 (x20 + 1))
  else none
 else
  some [T.i .i64 1, T.i .i64 x19]
def f97_0_c (l0 : List T) (x19 x20 : Int) : CSt := ⟨[.ro 0 true [.sl true [.b, .sl false [.i .u8]], .i .i64, .b] l0, .i .i64 x19, .i .i64 x20], [.dead, .dead]⟩
theorem f97_0_round (c : Orc) (lf : Nat) (l0 : List T) (L : CSt → Option (List T)) (x19 x20 : Int) :
 roundK c env lf 6 fi97 2 5 [] [0, 1, 5] (x97_5_0) L (f97_0_c l0 x19 x20) = f97_0_s c lf l0 (fun x19 x20 => L (f97_0_c l0 x19 x20)) x19 x20 := by kernel_rfl
def f97_0 (c : Orc) (lf : Nat) (l0 : List T) : Nat → Int → Int → Option (List T)
 | 0 => fun _ _ => none
 | n + 1 => fun x19 x20 => f97_0_s c lf l0 (f97_0 c lf l0 n) x19 x20
theorem f97_0_eq (c : Orc) (lf : Nat) (l0 : List T) (n : Nat) (x19 x20 : Int) :
 lpK c env lf 6 fi97 2 5 [] [0, 1, 5] (x97_5_0) n (f97_0_c l0 x19 x20) = f97_0 c lf l0 n x19 x20 := by
 induction n generalizing x19 x20 with
 | zero => rfl
 | succ n ih =>
  refine (f97_0_round c lf l0 _ x19 x20).trans ?_
  have e : (fun x19 x20 => lpK c env lf 6 fi97 2 5 [] [0, 1, 5] (x97_5_0) n (f97_0_c l0 x19 x20)) = f97_0 c lf l0 n := by funext x19 x20; exact ih x19 x20
  show f97_0_s c lf l0 (fun x19 x20 => lpK c env lf 6 fi97 2 5 [] [0, 1, 5] (x97_5_0) n (f97_0_c l0 x19 x20)) x19 x20 = _
  rw [e]; rfl
def f97_t (c : Orc) (lf : Nat) (lp0 : List T → Int → Int → Option (List T)) (l0 : List T) (n1 : Int) : Option (List T) :=
 bif iLt (IntKind.wrap .i64 (n1 - (l0.length : Int))) 0 then
  some [T.i .i64 (-1)]
 else
  (lp0 l0 (IntKind.wrap .i64 (n1 - (l0.length : Int))) 0).bind fun r22 =>
  bif asI (nth r22 0) == 0 then
   some [T.i .i64 (asI (nth r22 1))]
  else
   some [T.i .i64 (asI (nth r22 1))]
def f97 (c : Orc) (lf : Nat) (l0 : List T) (n1 : Int) : Option (List T) := f97_t c lf (fun (l0 : List T) (x19 x20 : Int) => f97_0 c lf l0 lf x19 x20) l0 n1
theorem f97_raw (c : Orc) (lf : Nat) (l0 : List T) (n1 : Int) : funK c env lf 6 fi97 [.sl l0, .i .i64 n1] = f97_t c lf (fun (l0 : List T) (x19 x20 : Int) => lpK c env lf 6 fi97 2 5 [] [0, 1, 5] (x97_5_0) lf (f97_0_c l0 x19 x20)) l0 n1 := by kernel_rfl
theorem f97_eq (c : Orc) (lf : Nat) (l0 : List T) (n1 : Int) : funK c env lf 6 fi97 [.sl l0, .i .i64 n1] = f97 c lf l0 n1 := by
 refine (f97_raw c lf l0 n1).trans ?_
 have e0 : (fun (l0 : List T) (x19 x20 : Int) => lpK c env lf 6 fi97 2 5 [] [0, 1, 5] (x97_5_0) lf (f97_0_c l0 x19 x20)) = (fun (l0 : List T) (x19 x20 : Int) => f97_0 c lf l0 lf x19 x20) := by funext l0 x19 x20; exact f97_0_eq c lf l0 lf x19 x20
 rw [e0]; rfl
def f66_t (c : Orc) (lf : Nat) (l0_0 : List T) (n1 : Int) : Option (List T) :=
 (c 97 [T.sl l0_0, T.i .i64 n1]).bind fun r23 =>
 bif iLt (asI (nth r23 0)) 0 then
  some [T.i .i64 (-1)]
 else
  some [T.i .i64 (asI (nth r23 0))]
def f66 (c : Orc) (lf : Nat) (l0_0 : List T) (n1 : Int) : Option (List T) := f66_t c lf l0_0 n1
theorem f66_eq (c : Orc) (lf : Nat) (l0_0 : List T) (n1 : Int) : funK c env lf 6 fi66 [.st [.sl l0_0], .i .i64 n1] = f66 c lf l0_0 n1 := by kernel_rfl
def f67_t (c : Orc) (lf : Nat) (l0 : List T) (n1 : Int) : Option (List T) :=
 bif iLt (IntKind.wrap .i64 (n1 - (l0.length : Int))) 0 then
  some [T.i .i64 (-1)]
 else
  some [T.i .i64 (IntKind.wrap .i64 (n1 - (l0.length : Int)))]
def f67 (c : Orc) (lf : Nat) (l0 : List T) (n1 : Int) : Option (List T) := f67_t c lf l0 n1
theorem f67_eq (c : Orc) (lf : Nat) (l0 : List T) (n1 : Int) : funK c env lf 6 fi67 [.sl l0, .i .i64 n1] = f67 c lf l0 n1 := by kernel_rfl
def f41_t (c : Orc) (lf : Nat) (l0_0 : List T) (n0_1 : Int) (l0_2 : List T) (b0_3 : Bool) (n1 : Int) : Option (List T) :=
 (c 66 [T.st [T.sl l0_0], T.i .i64 n1]).bind fun r24 =>
 bif iLt (asI (nth r24 0)) 0 then
  some [T.i .i64 (-1)]
 else
  (c 67 [T.sl l0_2, T.i .i64 (asI (nth r24 0))]).bind fun r25 =>
  bif iLt (asI (nth r25 0)) 0 then
   some [T.i .i64 (-1)]
  else
   some [T.i .i64 (asI (nth r25 0))]
def f41 (c : Orc) (lf : Nat) (l0_0 : List T) (n0_1 : Int) (l0_2 : List T) (b0_3 : Bool) (n1 : Int) : Option (List T) := f41_t c lf l0_0 n0_1 l0_2 b0_3 n1
theorem f41_eq (c : Orc) (lf : Nat) (l0_0 : List T) (n0_1 : Int) (l0_2 : List T) (b0_3 : Bool) (n1 : Int) : funK c env lf 6 fi41 [.st [.sl l0_0, .i .i64 n0_1, .sl l0_2, .b b0_3], .i .i64 n1] = f41 c lf l0_0 n0_1 l0_2 b0_3 n1 := by kernel_rfl
def f15_t (c : Orc) (lf : Nat) (l0_0 : List T) (n0_1 : Int) (l0_2 : List T) (b0_3 : Bool) (n0_4 n1 : Int) : Option (List T) :=
 (c 41 [T.st [T.sl l0_0, T.i .i64 n0_1, T.sl l0_2, T.b b0_3], T.i .i64 n1]).bind fun r26 =>
 bif iLt (asI (nth r26 0)) 0 then
  some [T.i .i64 (-1)]
 else
  some [T.i .i64 (asI (nth r26 0))]
def f15 (c : Orc) (lf : Nat) (l0_0 : List T) (n0_1 : Int) (l0_2 : List T) (b0_3 : Bool) (n0_4 n1 : Int) : Option (List T) := f15_t c lf l0_0 n0_1 l0_2 b0_3 n0_4 n1
theorem f15_eq (c : Orc) (lf : Nat) (l0_0 : List T) (n0_1 : Int) (l0_2 : List T) (b0_3 : Bool) (n0_4 n1 : Int) : funK c env lf 6 fi15 [.st [.sl l0_0, .i .i64 n0_1, .sl l0_2, .b b0_3, .i .i64 n0_4], .i .i64 n1] = f15 c lf l0_0 n0_1 l0_2 b0_3 n0_4 n1 := by kernel_rfl
def f141_t (c : Orc) (lf : Nat) (s0_0 : ByteArray) (n0_1 n1 : Int) : Option (List T) :=
 bif iLt (IntKind.wrap .i64 (n1 - (s0_0.size : Int))) 0 then
  some [T.i .i64 (-1)]
 else
  some [T.i .i64 (IntKind.wrap .i64 (n1 - (s0_0.size : Int)))]
def f141 (c : Orc) (lf : Nat) (s0_0 : ByteArray) (n0_1 n1 : Int) : Option (List T) := f141_t c lf s0_0 n0_1 n1
theorem f141_eq (c : Orc) (lf : Nat) (s0_0 : ByteArray) (n0_1 n1 : Int) : funK c env lf 6 fi141 [.st [.s s0_0, .i .i64 n0_1], .i .i64 n1] = f141 c lf s0_0 n0_1 n1 := by kernel_rfl
def f133_0_s (c : Orc) (lf : Nat) (l0 : List T) (L : Int → Int → Option (List T)) (x33 x34 : Int) : Option (List T) :=
 bif iLt x34 (l0.length : Int) then
  bif inR x34 l0.length then
  (c 141 [T.st [T.s (asS (T.cell (l0.getD x34.toNat T.u) 0)), T.i .i64 (asI (T.cell (l0.getD x34.toNat T.u) 1))], T.i .i64 x33]).bind fun r35 =>
  bif iLt (asI (nth r35 0)) 0 then
   some [T.i .i64 0, T.i .i64 (-1)]
  else
   L (asI (nth r35 0)) (IntKind.wrap .i64 (x34 + 1))
  else none
 else
  some [T.i .i64 1, T.i .i64 x33]
def f133_0_c (l0 : List T) (x33 x34 : Int) : CSt := ⟨[.ro 0 true [.s, .i .i64] l0, .i .i64 x33, .i .i64 x34], [.dead, .dead]⟩
theorem f133_0_round (c : Orc) (lf : Nat) (l0 : List T) (L : CSt → Option (List T)) (x33 x34 : Int) :
 roundK c env lf 6 fi133 2 5 [] [0, 1, 5] (x133_5_0) L (f133_0_c l0 x33 x34) = f133_0_s c lf l0 (fun x33 x34 => L (f133_0_c l0 x33 x34)) x33 x34 := by kernel_rfl
def f133_0 (c : Orc) (lf : Nat) (l0 : List T) : Nat → Int → Int → Option (List T)
 | 0 => fun _ _ => none
 | n + 1 => fun x33 x34 => f133_0_s c lf l0 (f133_0 c lf l0 n) x33 x34
theorem f133_0_eq (c : Orc) (lf : Nat) (l0 : List T) (n : Nat) (x33 x34 : Int) :
 lpK c env lf 6 fi133 2 5 [] [0, 1, 5] (x133_5_0) n (f133_0_c l0 x33 x34) = f133_0 c lf l0 n x33 x34 := by
 induction n generalizing x33 x34 with
 | zero => rfl
 | succ n ih =>
  refine (f133_0_round c lf l0 _ x33 x34).trans ?_
  have e : (fun x33 x34 => lpK c env lf 6 fi133 2 5 [] [0, 1, 5] (x133_5_0) n (f133_0_c l0 x33 x34)) = f133_0 c lf l0 n := by funext x33 x34; exact ih x33 x34
  show f133_0_s c lf l0 (fun x33 x34 => lpK c env lf 6 fi133 2 5 [] [0, 1, 5] (x133_5_0) n (f133_0_c l0 x33 x34)) x33 x34 = _
  rw [e]; rfl
def f133_t (c : Orc) (lf : Nat) (lp0 : List T → Int → Int → Option (List T)) (l0 : List T) (n1 : Int) : Option (List T) :=
 bif iLt (IntKind.wrap .i64 (n1 - (l0.length : Int))) 0 then
  some [T.i .i64 (-1)]
 else
  (lp0 l0 (IntKind.wrap .i64 (n1 - (l0.length : Int))) 0).bind fun r36 =>
  bif asI (nth r36 0) == 0 then
   some [T.i .i64 (asI (nth r36 1))]
  else
   some [T.i .i64 (asI (nth r36 1))]
def f133 (c : Orc) (lf : Nat) (l0 : List T) (n1 : Int) : Option (List T) := f133_t c lf (fun (l0 : List T) (x33 x34 : Int) => f133_0 c lf l0 lf x33 x34) l0 n1
theorem f133_raw (c : Orc) (lf : Nat) (l0 : List T) (n1 : Int) : funK c env lf 6 fi133 [.sl l0, .i .i64 n1] = f133_t c lf (fun (l0 : List T) (x33 x34 : Int) => lpK c env lf 6 fi133 2 5 [] [0, 1, 5] (x133_5_0) lf (f133_0_c l0 x33 x34)) l0 n1 := by kernel_rfl
theorem f133_eq (c : Orc) (lf : Nat) (l0 : List T) (n1 : Int) : funK c env lf 6 fi133 [.sl l0, .i .i64 n1] = f133 c lf l0 n1 := by
 refine (f133_raw c lf l0 n1).trans ?_
 have e0 : (fun (l0 : List T) (x33 x34 : Int) => lpK c env lf 6 fi133 2 5 [] [0, 1, 5] (x133_5_0) lf (f133_0_c l0 x33 x34)) = (fun (l0 : List T) (x33 x34 : Int) => f133_0 c lf l0 lf x33 x34) := by funext l0 x33 x34; exact f133_0_eq c lf l0 lf x33 x34
 rw [e0]; rfl
def f142_t (c : Orc) (lf : Nat) (s0_0 s0_1 : ByteArray) (n1 : Int) : Option (List T) :=
 bif iLt (IntKind.wrap .i64 (n1 - (s0_0.size : Int))) 0 then
  some [T.i .i64 (-1)]
 else
  bif iLt (IntKind.wrap .i64 ((IntKind.wrap .i64 (n1 - (s0_0.size : Int))) - (s0_1.size : Int))) 0 then
   some [T.i .i64 (-1)]
  else
   some [T.i .i64 (IntKind.wrap .i64 ((IntKind.wrap .i64 (n1 - (s0_0.size : Int))) - (s0_1.size : Int)))]
def f142 (c : Orc) (lf : Nat) (s0_0 s0_1 : ByteArray) (n1 : Int) : Option (List T) := f142_t c lf s0_0 s0_1 n1
theorem f142_eq (c : Orc) (lf : Nat) (s0_0 s0_1 : ByteArray) (n1 : Int) : funK c env lf 6 fi142 [.st [.s s0_0, .s s0_1], .i .i64 n1] = f142 c lf s0_0 s0_1 n1 := by kernel_rfl
def f134_0_s (c : Orc) (lf : Nat) (l0 : List T) (L : Int → Int → Option (List T)) (x43 x44 : Int) : Option (List T) :=
 bif iLt x44 (l0.length : Int) then
  bif inR x44 l0.length then
  (c 142 [T.st [T.s (asS (T.cell (l0.getD x44.toNat T.u) 0)), T.s (asS (T.cell (l0.getD x44.toNat T.u) 1))], T.i .i64 x43]).bind fun r45 =>
  bif iLt (asI (nth r45 0)) 0 then
   some [T.i .i64 0, T.i .i64 (-1)]
  else
   L (asI (nth r45 0)) (IntKind.wrap .i64 (x44 + 1))
  else none
 else
  some [T.i .i64 1, T.i .i64 x43]
def f134_0_c (l0 : List T) (x43 x44 : Int) : CSt := ⟨[.ro 0 true [.s, .s] l0, .i .i64 x43, .i .i64 x44], [.dead, .dead]⟩
theorem f134_0_round (c : Orc) (lf : Nat) (l0 : List T) (L : CSt → Option (List T)) (x43 x44 : Int) :
 roundK c env lf 6 fi134 2 5 [] [0, 1, 5] (x134_5_0) L (f134_0_c l0 x43 x44) = f134_0_s c lf l0 (fun x43 x44 => L (f134_0_c l0 x43 x44)) x43 x44 := by kernel_rfl
def f134_0 (c : Orc) (lf : Nat) (l0 : List T) : Nat → Int → Int → Option (List T)
 | 0 => fun _ _ => none
 | n + 1 => fun x43 x44 => f134_0_s c lf l0 (f134_0 c lf l0 n) x43 x44
theorem f134_0_eq (c : Orc) (lf : Nat) (l0 : List T) (n : Nat) (x43 x44 : Int) :
 lpK c env lf 6 fi134 2 5 [] [0, 1, 5] (x134_5_0) n (f134_0_c l0 x43 x44) = f134_0 c lf l0 n x43 x44 := by
 induction n generalizing x43 x44 with
 | zero => rfl
 | succ n ih =>
  refine (f134_0_round c lf l0 _ x43 x44).trans ?_
  have e : (fun x43 x44 => lpK c env lf 6 fi134 2 5 [] [0, 1, 5] (x134_5_0) n (f134_0_c l0 x43 x44)) = f134_0 c lf l0 n := by funext x43 x44; exact ih x43 x44
  show f134_0_s c lf l0 (fun x43 x44 => lpK c env lf 6 fi134 2 5 [] [0, 1, 5] (x134_5_0) n (f134_0_c l0 x43 x44)) x43 x44 = _
  rw [e]; rfl
def f134_t (c : Orc) (lf : Nat) (lp0 : List T → Int → Int → Option (List T)) (l0 : List T) (n1 : Int) : Option (List T) :=
 bif iLt (IntKind.wrap .i64 (n1 - (l0.length : Int))) 0 then
  some [T.i .i64 (-1)]
 else
  (lp0 l0 (IntKind.wrap .i64 (n1 - (l0.length : Int))) 0).bind fun r46 =>
  bif asI (nth r46 0) == 0 then
   some [T.i .i64 (asI (nth r46 1))]
  else
   some [T.i .i64 (asI (nth r46 1))]
def f134 (c : Orc) (lf : Nat) (l0 : List T) (n1 : Int) : Option (List T) := f134_t c lf (fun (l0 : List T) (x43 x44 : Int) => f134_0 c lf l0 lf x43 x44) l0 n1
theorem f134_raw (c : Orc) (lf : Nat) (l0 : List T) (n1 : Int) : funK c env lf 6 fi134 [.sl l0, .i .i64 n1] = f134_t c lf (fun (l0 : List T) (x43 x44 : Int) => lpK c env lf 6 fi134 2 5 [] [0, 1, 5] (x134_5_0) lf (f134_0_c l0 x43 x44)) l0 n1 := by kernel_rfl
theorem f134_eq (c : Orc) (lf : Nat) (l0 : List T) (n1 : Int) : funK c env lf 6 fi134 [.sl l0, .i .i64 n1] = f134 c lf l0 n1 := by
 refine (f134_raw c lf l0 n1).trans ?_
 have e0 : (fun (l0 : List T) (x43 x44 : Int) => lpK c env lf 6 fi134 2 5 [] [0, 1, 5] (x134_5_0) lf (f134_0_c l0 x43 x44)) = (fun (l0 : List T) (x43 x44 : Int) => f134_0 c lf l0 lf x43 x44) := by funext l0 x43 x44; exact f134_0_eq c lf l0 lf x43 x44
 rw [e0]; rfl
def f126_t (c : Orc) (lf : Nat) (n0_0 n0_1 n0_2 : Int) (l0_3 l0_4 l0_5 : List T) (n1 : Int) : Option (List T) :=
 (c 132 [T.sl l0_3, T.i .i64 n1]).bind fun r47 =>
 bif iLt (asI (nth r47 0)) 0 then
  some [T.i .i64 (-1)]
 else
  (c 133 [T.sl l0_4, T.i .i64 (asI (nth r47 0))]).bind fun r48 =>
  bif iLt (asI (nth r48 0)) 0 then
   some [T.i .i64 (-1)]
  else
   (c 134 [T.sl l0_5, T.i .i64 (asI (nth r48 0))]).bind fun r49 =>
   bif iLt (asI (nth r49 0)) 0 then
    some [T.i .i64 (-1)]
   else
    some [T.i .i64 (asI (nth r49 0))]
def f126 (c : Orc) (lf : Nat) (n0_0 n0_1 n0_2 : Int) (l0_3 l0_4 l0_5 : List T) (n1 : Int) : Option (List T) := f126_t c lf n0_0 n0_1 n0_2 l0_3 l0_4 l0_5 n1
theorem f126_eq (c : Orc) (lf : Nat) (n0_0 n0_1 n0_2 : Int) (l0_3 l0_4 l0_5 : List T) (n1 : Int) : funK c env lf 6 fi126 [.st [.i .i64 n0_0, .i .i64 n0_1, .i .i64 n0_2, .sl l0_3, .sl l0_4, .sl l0_5], .i .i64 n1] = f126 c lf n0_0 n0_1 n0_2 l0_3 l0_4 l0_5 n1 := by kernel_rfl
def f119_0_s (c : Orc) (lf : Nat) (l0 : List T) (L : Int → Int → Option (List T)) (x56 x57 : Int) : Option (List T) :=
 bif iLt x57 (l0.length : Int) then
  bif inR x57 l0.length then
  (c 126 [T.st [T.i .i64 (asI (T.cell (l0.getD x57.toNat T.u) 0)), T.i .i64 (asI (T.cell (l0.getD x57.toNat T.u) 1)), T.i .i64 (asI (T.cell (l0.getD x57.toNat T.u) 2)), T.sl (asL (T.cell (l0.getD x57.toNat T.u) 3)), T.sl (asL (T.cell (l0.getD x57.toNat T.u) 4)), T.sl (asL (T.cell (l0.getD x57.toNat T.u) 5))], T.i .i64 x56]).bind fun r58 =>
  bif iLt (asI (nth r58 0)) 0 then
   some [T.i .i64 0, T.i .i64 (-1)]
  else
   L (asI (nth r58 0)) (IntKind.wrap .i64 (x57 + 1))
  else none
 else
  some [T.i .i64 1, T.i .i64 x56]
def f119_0_c (l0 : List T) (x56 x57 : Int) : CSt := ⟨[.ro 0 true [.i .i64, .i .i64, .i .i64, .sl false [.i .u8], .sl true [.s, .i .i64], .sl true [.s, .s]] l0, .i .i64 x56, .i .i64 x57], [.dead, .dead]⟩
theorem f119_0_round (c : Orc) (lf : Nat) (l0 : List T) (L : CSt → Option (List T)) (x56 x57 : Int) :
 roundK c env lf 6 fi119 2 5 [] [0, 1, 5] (x119_5_0) L (f119_0_c l0 x56 x57) = f119_0_s c lf l0 (fun x56 x57 => L (f119_0_c l0 x56 x57)) x56 x57 := by kernel_rfl
def f119_0 (c : Orc) (lf : Nat) (l0 : List T) : Nat → Int → Int → Option (List T)
 | 0 => fun _ _ => none
 | n + 1 => fun x56 x57 => f119_0_s c lf l0 (f119_0 c lf l0 n) x56 x57
theorem f119_0_eq (c : Orc) (lf : Nat) (l0 : List T) (n : Nat) (x56 x57 : Int) :
 lpK c env lf 6 fi119 2 5 [] [0, 1, 5] (x119_5_0) n (f119_0_c l0 x56 x57) = f119_0 c lf l0 n x56 x57 := by
 induction n generalizing x56 x57 with
 | zero => rfl
 | succ n ih =>
  refine (f119_0_round c lf l0 _ x56 x57).trans ?_
  have e : (fun x56 x57 => lpK c env lf 6 fi119 2 5 [] [0, 1, 5] (x119_5_0) n (f119_0_c l0 x56 x57)) = f119_0 c lf l0 n := by funext x56 x57; exact ih x56 x57
  show f119_0_s c lf l0 (fun x56 x57 => lpK c env lf 6 fi119 2 5 [] [0, 1, 5] (x119_5_0) n (f119_0_c l0 x56 x57)) x56 x57 = _
  rw [e]; rfl
def f119_t (c : Orc) (lf : Nat) (lp0 : List T → Int → Int → Option (List T)) (l0 : List T) (n1 : Int) : Option (List T) :=
 bif iLt (IntKind.wrap .i64 (n1 - (l0.length : Int))) 0 then
  some [T.i .i64 (-1)]
 else
  (lp0 l0 (IntKind.wrap .i64 (n1 - (l0.length : Int))) 0).bind fun r59 =>
  bif asI (nth r59 0) == 0 then
   some [T.i .i64 (asI (nth r59 1))]
  else
   some [T.i .i64 (asI (nth r59 1))]
def f119 (c : Orc) (lf : Nat) (l0 : List T) (n1 : Int) : Option (List T) := f119_t c lf (fun (l0 : List T) (x56 x57 : Int) => f119_0 c lf l0 lf x56 x57) l0 n1
theorem f119_raw (c : Orc) (lf : Nat) (l0 : List T) (n1 : Int) : funK c env lf 6 fi119 [.sl l0, .i .i64 n1] = f119_t c lf (fun (l0 : List T) (x56 x57 : Int) => lpK c env lf 6 fi119 2 5 [] [0, 1, 5] (x119_5_0) lf (f119_0_c l0 x56 x57)) l0 n1 := by kernel_rfl
theorem f119_eq (c : Orc) (lf : Nat) (l0 : List T) (n1 : Int) : funK c env lf 6 fi119 [.sl l0, .i .i64 n1] = f119 c lf l0 n1 := by
 refine (f119_raw c lf l0 n1).trans ?_
 have e0 : (fun (l0 : List T) (x56 x57 : Int) => lpK c env lf 6 fi119 2 5 [] [0, 1, 5] (x119_5_0) lf (f119_0_c l0 x56 x57)) = (fun (l0 : List T) (x56 x57 : Int) => f119_0 c lf l0 lf x56 x57) := by funext l0 x56 x57; exact f119_0_eq c lf l0 lf x56 x57
 rw [e0]; rfl
def f102_t (c : Orc) (lf : Nat) (l0_0 : List T) (n0_1 n1 : Int) : Option (List T) :=
 (c 119 [T.sl l0_0, T.i .i64 n1]).bind fun r60 =>
 bif iLt (asI (nth r60 0)) 0 then
  some [T.i .i64 (-1)]
 else
  some [T.i .i64 (asI (nth r60 0))]
def f102 (c : Orc) (lf : Nat) (l0_0 : List T) (n0_1 n1 : Int) : Option (List T) := f102_t c lf l0_0 n0_1 n1
theorem f102_eq (c : Orc) (lf : Nat) (l0_0 : List T) (n0_1 n1 : Int) : funK c env lf 6 fi102 [.st [.sl l0_0, .i .i64 n0_1], .i .i64 n1] = f102 c lf l0_0 n0_1 n1 := by kernel_rfl
def f75_t (c : Orc) (lf : Nat) (n0_0 : Int) (s0_1 : ByteArray) (b0_2 : Bool) (n0_3 : Int) (l0_4 : List T) (n0_5 n1 : Int) : Option (List T) :=
 bif iLt (IntKind.wrap .i64 (n1 - (s0_1.size : Int))) 0 then
  some [T.i .i64 (-1)]
 else
  (c 102 [T.st [T.sl l0_4, T.i .i64 n0_5], T.i .i64 (IntKind.wrap .i64 (n1 - (s0_1.size : Int)))]).bind fun r61 =>
  bif iLt (asI (nth r61 0)) 0 then
   some [T.i .i64 (-1)]
  else
   some [T.i .i64 (asI (nth r61 0))]
def f75 (c : Orc) (lf : Nat) (n0_0 : Int) (s0_1 : ByteArray) (b0_2 : Bool) (n0_3 : Int) (l0_4 : List T) (n0_5 n1 : Int) : Option (List T) := f75_t c lf n0_0 s0_1 b0_2 n0_3 l0_4 n0_5 n1
theorem f75_eq (c : Orc) (lf : Nat) (n0_0 : Int) (s0_1 : ByteArray) (b0_2 : Bool) (n0_3 : Int) (l0_4 : List T) (n0_5 n1 : Int) : funK c env lf 6 fi75 [.st [.i .i64 n0_0, .s s0_1, .b b0_2, .i .i64 n0_3, .sl l0_4, .i .i64 n0_5], .i .i64 n1] = f75 c lf n0_0 s0_1 b0_2 n0_3 l0_4 n0_5 n1 := by kernel_rfl
def f49_0_s (c : Orc) (lf : Nat) (l0 : List T) (L : Int → Int → Option (List T)) (x68 x69 : Int) : Option (List T) :=
 bif iLt x69 (l0.length : Int) then
  bif inR x69 l0.length then
  (c 75 [T.st [T.i .i64 (asI (T.cell (l0.getD x69.toNat T.u) 0)), T.s (asS (T.cell (l0.getD x69.toNat T.u) 1)), T.b (asB (T.cell (l0.getD x69.toNat T.u) 2)), T.i .i64 (asI (T.cell (l0.getD x69.toNat T.u) 3)), T.sl (asL (T.cell (l0.getD x69.toNat T.u) 4)), T.i .i64 (asI (T.cell (l0.getD x69.toNat T.u) 5))], T.i .i64 x68]).bind fun r70 =>
  bif iLt (asI (nth r70 0)) 0 then
   some [T.i .i64 0, T.i .i64 (-1)]
  else
   L (asI (nth r70 0)) (IntKind.wrap .i64 (x69 + 1))
  else none
 else
  some [T.i .i64 1, T.i .i64 x68]
def f49_0_c (l0 : List T) (x68 x69 : Int) : CSt := ⟨[.ro 0 true [.i .i64, .s, .b, .i .i64, .sl true [.i .i64, .i .i64, .i .i64, .sl false [.i .u8], .sl true [.s, .i .i64], .sl true [.s, .s]], .i .i64] l0, .i .i64 x68, .i .i64 x69], [.dead, .dead]⟩
theorem f49_0_round (c : Orc) (lf : Nat) (l0 : List T) (L : CSt → Option (List T)) (x68 x69 : Int) :
 roundK c env lf 6 fi49 2 5 [] [0, 1, 5] (x49_5_0) L (f49_0_c l0 x68 x69) = f49_0_s c lf l0 (fun x68 x69 => L (f49_0_c l0 x68 x69)) x68 x69 := by kernel_rfl
def f49_0 (c : Orc) (lf : Nat) (l0 : List T) : Nat → Int → Int → Option (List T)
 | 0 => fun _ _ => none
 | n + 1 => fun x68 x69 => f49_0_s c lf l0 (f49_0 c lf l0 n) x68 x69
theorem f49_0_eq (c : Orc) (lf : Nat) (l0 : List T) (n : Nat) (x68 x69 : Int) :
 lpK c env lf 6 fi49 2 5 [] [0, 1, 5] (x49_5_0) n (f49_0_c l0 x68 x69) = f49_0 c lf l0 n x68 x69 := by
 induction n generalizing x68 x69 with
 | zero => rfl
 | succ n ih =>
  refine (f49_0_round c lf l0 _ x68 x69).trans ?_
  have e : (fun x68 x69 => lpK c env lf 6 fi49 2 5 [] [0, 1, 5] (x49_5_0) n (f49_0_c l0 x68 x69)) = f49_0 c lf l0 n := by funext x68 x69; exact ih x68 x69
  show f49_0_s c lf l0 (fun x68 x69 => lpK c env lf 6 fi49 2 5 [] [0, 1, 5] (x49_5_0) n (f49_0_c l0 x68 x69)) x68 x69 = _
  rw [e]; rfl
def f49_t (c : Orc) (lf : Nat) (lp0 : List T → Int → Int → Option (List T)) (l0 : List T) (n1 : Int) : Option (List T) :=
 bif iLt (IntKind.wrap .i64 (n1 - (l0.length : Int))) 0 then
  some [T.i .i64 (-1)]
 else
  (lp0 l0 (IntKind.wrap .i64 (n1 - (l0.length : Int))) 0).bind fun r71 =>
  bif asI (nth r71 0) == 0 then
   some [T.i .i64 (asI (nth r71 1))]
  else
   some [T.i .i64 (asI (nth r71 1))]
def f49 (c : Orc) (lf : Nat) (l0 : List T) (n1 : Int) : Option (List T) := f49_t c lf (fun (l0 : List T) (x68 x69 : Int) => f49_0 c lf l0 lf x68 x69) l0 n1
theorem f49_raw (c : Orc) (lf : Nat) (l0 : List T) (n1 : Int) : funK c env lf 6 fi49 [.sl l0, .i .i64 n1] = f49_t c lf (fun (l0 : List T) (x68 x69 : Int) => lpK c env lf 6 fi49 2 5 [] [0, 1, 5] (x49_5_0) lf (f49_0_c l0 x68 x69)) l0 n1 := by kernel_rfl
theorem f49_eq (c : Orc) (lf : Nat) (l0 : List T) (n1 : Int) : funK c env lf 6 fi49 [.sl l0, .i .i64 n1] = f49 c lf l0 n1 := by
 refine (f49_raw c lf l0 n1).trans ?_
 have e0 : (fun (l0 : List T) (x68 x69 : Int) => lpK c env lf 6 fi49 2 5 [] [0, 1, 5] (x49_5_0) lf (f49_0_c l0 x68 x69)) = (fun (l0 : List T) (x68 x69 : Int) => f49_0 c lf l0 lf x68 x69) := by funext l0 x68 x69; exact f49_0_eq c lf l0 lf x68 x69
 rw [e0]; rfl
def f22_t (c : Orc) (lf : Nat) (l0_0 : List T) (n0_1 n1 : Int) : Option (List T) :=
 (c 49 [T.sl l0_0, T.i .i64 n1]).bind fun r72 =>
 bif iLt (asI (nth r72 0)) 0 then
  some [T.i .i64 (-1)]
 else
  some [T.i .i64 (asI (nth r72 0))]
def f22 (c : Orc) (lf : Nat) (l0_0 : List T) (n0_1 n1 : Int) : Option (List T) := f22_t c lf l0_0 n0_1 n1
theorem f22_eq (c : Orc) (lf : Nat) (l0_0 : List T) (n0_1 n1 : Int) : funK c env lf 6 fi22 [.st [.sl l0_0, .i .i64 n0_1], .i .i64 n1] = f22 c lf l0_0 n0_1 n1 := by kernel_rfl
def f76_t (c : Orc) (lf : Nat) (n0_0 : Int) (s0_1 : ByteArray) (b0_2 : Bool) (n0_3 n0_4 n1 : Int) : Option (List T) :=
 bif iLt (IntKind.wrap .i64 (n1 - (s0_1.size : Int))) 0 then
  some [T.i .i64 (-1)]
 else
  some [T.i .i64 (IntKind.wrap .i64 (n1 - (s0_1.size : Int)))]
def f76 (c : Orc) (lf : Nat) (n0_0 : Int) (s0_1 : ByteArray) (b0_2 : Bool) (n0_3 n0_4 n1 : Int) : Option (List T) := f76_t c lf n0_0 s0_1 b0_2 n0_3 n0_4 n1
theorem f76_eq (c : Orc) (lf : Nat) (n0_0 : Int) (s0_1 : ByteArray) (b0_2 : Bool) (n0_3 n0_4 n1 : Int) : funK c env lf 6 fi76 [.st [.i .i64 n0_0, .s s0_1, .b b0_2, .i .i64 n0_3, .i .i64 n0_4], .i .i64 n1] = f76 c lf n0_0 s0_1 b0_2 n0_3 n0_4 n1 := by kernel_rfl
def f50_0_s (c : Orc) (lf : Nat) (l0 : List T) (L : Int → Int → Option (List T)) (x79 x80 : Int) : Option (List T) :=
 bif iLt x80 (l0.length : Int) then
  bif inR x80 l0.length then
  (c 76 [T.st [T.i .i64 (asI (T.cell (l0.getD x80.toNat T.u) 0)), T.s (asS (T.cell (l0.getD x80.toNat T.u) 1)), T.b (asB (T.cell (l0.getD x80.toNat T.u) 2)), T.i .i64 (asI (T.cell (l0.getD x80.toNat T.u) 3)), T.i .i64 (asI (T.cell (l0.getD x80.toNat T.u) 4))], T.i .i64 x79]).bind fun r81 =>
  bif iLt (asI (nth r81 0)) 0 then
   some [T.i .i64 0, T.i .i64 (-1)]
  else
   L (asI (nth r81 0)) (IntKind.wrap .i64 (x80 + 1))
  else none
 else
  some [T.i .i64 1, T.i .i64 x79]
def f50_0_c (l0 : List T) (x79 x80 : Int) : CSt := ⟨[.ro 0 true [.i .i64, .s, .b, .i .i64, .i .i64] l0, .i .i64 x79, .i .i64 x80], [.dead, .dead]⟩
theorem f50_0_round (c : Orc) (lf : Nat) (l0 : List T) (L : CSt → Option (List T)) (x79 x80 : Int) :
 roundK c env lf 6 fi50 2 5 [] [0, 1, 5] (x50_5_0) L (f50_0_c l0 x79 x80) = f50_0_s c lf l0 (fun x79 x80 => L (f50_0_c l0 x79 x80)) x79 x80 := by kernel_rfl
def f50_0 (c : Orc) (lf : Nat) (l0 : List T) : Nat → Int → Int → Option (List T)
 | 0 => fun _ _ => none
 | n + 1 => fun x79 x80 => f50_0_s c lf l0 (f50_0 c lf l0 n) x79 x80
theorem f50_0_eq (c : Orc) (lf : Nat) (l0 : List T) (n : Nat) (x79 x80 : Int) :
 lpK c env lf 6 fi50 2 5 [] [0, 1, 5] (x50_5_0) n (f50_0_c l0 x79 x80) = f50_0 c lf l0 n x79 x80 := by
 induction n generalizing x79 x80 with
 | zero => rfl
 | succ n ih =>
  refine (f50_0_round c lf l0 _ x79 x80).trans ?_
  have e : (fun x79 x80 => lpK c env lf 6 fi50 2 5 [] [0, 1, 5] (x50_5_0) n (f50_0_c l0 x79 x80)) = f50_0 c lf l0 n := by funext x79 x80; exact ih x79 x80
  show f50_0_s c lf l0 (fun x79 x80 => lpK c env lf 6 fi50 2 5 [] [0, 1, 5] (x50_5_0) n (f50_0_c l0 x79 x80)) x79 x80 = _
  rw [e]; rfl
def f50_t (c : Orc) (lf : Nat) (lp0 : List T → Int → Int → Option (List T)) (l0 : List T) (n1 : Int) : Option (List T) :=
 bif iLt (IntKind.wrap .i64 (n1 - (l0.length : Int))) 0 then
  some [T.i .i64 (-1)]
 else
  (lp0 l0 (IntKind.wrap .i64 (n1 - (l0.length : Int))) 0).bind fun r82 =>
  bif asI (nth r82 0) == 0 then
   some [T.i .i64 (asI (nth r82 1))]
  else
   some [T.i .i64 (asI (nth r82 1))]
def f50 (c : Orc) (lf : Nat) (l0 : List T) (n1 : Int) : Option (List T) := f50_t c lf (fun (l0 : List T) (x79 x80 : Int) => f50_0 c lf l0 lf x79 x80) l0 n1
theorem f50_raw (c : Orc) (lf : Nat) (l0 : List T) (n1 : Int) : funK c env lf 6 fi50 [.sl l0, .i .i64 n1] = f50_t c lf (fun (l0 : List T) (x79 x80 : Int) => lpK c env lf 6 fi50 2 5 [] [0, 1, 5] (x50_5_0) lf (f50_0_c l0 x79 x80)) l0 n1 := by kernel_rfl
theorem f50_eq (c : Orc) (lf : Nat) (l0 : List T) (n1 : Int) : funK c env lf 6 fi50 [.sl l0, .i .i64 n1] = f50 c lf l0 n1 := by
 refine (f50_raw c lf l0 n1).trans ?_
 have e0 : (fun (l0 : List T) (x79 x80 : Int) => lpK c env lf 6 fi50 2 5 [] [0, 1, 5] (x50_5_0) lf (f50_0_c l0 x79 x80)) = (fun (l0 : List T) (x79 x80 : Int) => f50_0 c lf l0 lf x79 x80) := by funext l0 x79 x80; exact f50_0_eq c lf l0 lf x79 x80
 rw [e0]; rfl
def f23_t (c : Orc) (lf : Nat) (n0_0 : Int) (l0_1 : List T) (n1 : Int) : Option (List T) :=
 (c 50 [T.sl l0_1, T.i .i64 n1]).bind fun r83 =>
 bif iLt (asI (nth r83 0)) 0 then
  some [T.i .i64 (-1)]
 else
  some [T.i .i64 (asI (nth r83 0))]
def f23 (c : Orc) (lf : Nat) (n0_0 : Int) (l0_1 : List T) (n1 : Int) : Option (List T) := f23_t c lf n0_0 l0_1 n1
theorem f23_eq (c : Orc) (lf : Nat) (n0_0 : Int) (l0_1 : List T) (n1 : Int) : funK c env lf 6 fi23 [.st [.i .i64 n0_0, .sl l0_1], .i .i64 n1] = f23 c lf n0_0 l0_1 n1 := by kernel_rfl
def f77_t (c : Orc) (lf : Nat) (l0 : List T) (n1 : Int) : Option (List T) :=
 bif iLt (IntKind.wrap .i64 (n1 - (l0.length : Int))) 0 then
  some [T.i .i64 (-1)]
 else
  some [T.i .i64 (IntKind.wrap .i64 (n1 - (l0.length : Int)))]
def f77 (c : Orc) (lf : Nat) (l0 : List T) (n1 : Int) : Option (List T) := f77_t c lf l0 n1
theorem f77_eq (c : Orc) (lf : Nat) (l0 : List T) (n1 : Int) : funK c env lf 6 fi77 [.sl l0, .i .i64 n1] = f77 c lf l0 n1 := by kernel_rfl
def f51_t (c : Orc) (lf : Nat) (n0_0 : Int) (l0_1 : List T) (n1 : Int) : Option (List T) :=
 (c 77 [T.sl l0_1, T.i .i64 n1]).bind fun r84 =>
 bif iLt (asI (nth r84 0)) 0 then
  some [T.i .i64 (-1)]
 else
  some [T.i .i64 (asI (nth r84 0))]
def f51 (c : Orc) (lf : Nat) (n0_0 : Int) (l0_1 : List T) (n1 : Int) : Option (List T) := f51_t c lf n0_0 l0_1 n1
theorem f51_eq (c : Orc) (lf : Nat) (n0_0 : Int) (l0_1 : List T) (n1 : Int) : funK c env lf 6 fi51 [.st [.i .i64 n0_0, .sl l0_1], .i .i64 n1] = f51 c lf n0_0 l0_1 n1 := by kernel_rfl
def f24_0_s (c : Orc) (lf : Nat) (l0 : List T) (L : Int → Int → Option (List T)) (x91 x92 : Int) : Option (List T) :=
 bif iLt x92 (l0.length : Int) then
  bif inR x92 l0.length then
  (c 51 [T.st [T.i .i64 (asI (T.cell (l0.getD x92.toNat T.u) 0)), T.sl (asL (T.cell (l0.getD x92.toNat T.u) 1))], T.i .i64 x91]).bind fun r93 =>
  bif iLt (asI (nth r93 0)) 0 then
   some [T.i .i64 0, T.i .i64 (-1)]
  else
   L (asI (nth r93 0)) (IntKind.wrap .i64 (x92 + 1))
  else none
 else
  some [T.i .i64 1, T.i .i64 x91]
def f24_0_c (l0 : List T) (x91 x92 : Int) : CSt := ⟨[.ro 0 true [.i .i64, .sl true [.i .i64, .i .i64]] l0, .i .i64 x91, .i .i64 x92], [.dead, .dead]⟩
theorem f24_0_round (c : Orc) (lf : Nat) (l0 : List T) (L : CSt → Option (List T)) (x91 x92 : Int) :
 roundK c env lf 6 fi24 2 5 [] [0, 1, 5] (x24_5_0) L (f24_0_c l0 x91 x92) = f24_0_s c lf l0 (fun x91 x92 => L (f24_0_c l0 x91 x92)) x91 x92 := by kernel_rfl
def f24_0 (c : Orc) (lf : Nat) (l0 : List T) : Nat → Int → Int → Option (List T)
 | 0 => fun _ _ => none
 | n + 1 => fun x91 x92 => f24_0_s c lf l0 (f24_0 c lf l0 n) x91 x92
theorem f24_0_eq (c : Orc) (lf : Nat) (l0 : List T) (n : Nat) (x91 x92 : Int) :
 lpK c env lf 6 fi24 2 5 [] [0, 1, 5] (x24_5_0) n (f24_0_c l0 x91 x92) = f24_0 c lf l0 n x91 x92 := by
 induction n generalizing x91 x92 with
 | zero => rfl
 | succ n ih =>
  refine (f24_0_round c lf l0 _ x91 x92).trans ?_
  have e : (fun x91 x92 => lpK c env lf 6 fi24 2 5 [] [0, 1, 5] (x24_5_0) n (f24_0_c l0 x91 x92)) = f24_0 c lf l0 n := by funext x91 x92; exact ih x91 x92
  show f24_0_s c lf l0 (fun x91 x92 => lpK c env lf 6 fi24 2 5 [] [0, 1, 5] (x24_5_0) n (f24_0_c l0 x91 x92)) x91 x92 = _
  rw [e]; rfl
def f24_t (c : Orc) (lf : Nat) (lp0 : List T → Int → Int → Option (List T)) (l0 : List T) (n1 : Int) : Option (List T) :=
 bif iLt (IntKind.wrap .i64 (n1 - (l0.length : Int))) 0 then
  some [T.i .i64 (-1)]
 else
  (lp0 l0 (IntKind.wrap .i64 (n1 - (l0.length : Int))) 0).bind fun r94 =>
  bif asI (nth r94 0) == 0 then
   some [T.i .i64 (asI (nth r94 1))]
  else
   some [T.i .i64 (asI (nth r94 1))]
def f24 (c : Orc) (lf : Nat) (l0 : List T) (n1 : Int) : Option (List T) := f24_t c lf (fun (l0 : List T) (x91 x92 : Int) => f24_0 c lf l0 lf x91 x92) l0 n1
theorem f24_raw (c : Orc) (lf : Nat) (l0 : List T) (n1 : Int) : funK c env lf 6 fi24 [.sl l0, .i .i64 n1] = f24_t c lf (fun (l0 : List T) (x91 x92 : Int) => lpK c env lf 6 fi24 2 5 [] [0, 1, 5] (x24_5_0) lf (f24_0_c l0 x91 x92)) l0 n1 := by kernel_rfl
theorem f24_eq (c : Orc) (lf : Nat) (l0 : List T) (n1 : Int) : funK c env lf 6 fi24 [.sl l0, .i .i64 n1] = f24 c lf l0 n1 := by
 refine (f24_raw c lf l0 n1).trans ?_
 have e0 : (fun (l0 : List T) (x91 x92 : Int) => lpK c env lf 6 fi24 2 5 [] [0, 1, 5] (x24_5_0) lf (f24_0_c l0 x91 x92)) = (fun (l0 : List T) (x91 x92 : Int) => f24_0 c lf l0 lf x91 x92) := by funext l0 x91 x92; exact f24_0_eq c lf l0 lf x91 x92
 rw [e0]; rfl
def f6_t (c : Orc) (lf : Nat) (l0_0 : List T) (n0_1 n0_2 : Int) (l0_3 l0_4 : List T) (n0_5 n0_6 n1 : Int) : Option (List T) :=
 (c 22 [T.st [T.sl l0_0, T.i .i64 n0_1], T.i .i64 n1]).bind fun r95 =>
 bif iLt (asI (nth r95 0)) 0 then
  some [T.i .i64 (-1)]
 else
  (c 23 [T.st [T.i .i64 n0_2, T.sl l0_3], T.i .i64 (asI (nth r95 0))]).bind fun r96 =>
  bif iLt (asI (nth r96 0)) 0 then
   some [T.i .i64 (-1)]
  else
   (c 24 [T.sl l0_4, T.i .i64 (asI (nth r96 0))]).bind fun r97 =>
   bif iLt (asI (nth r97 0)) 0 then
    some [T.i .i64 (-1)]
   else
    some [T.i .i64 (asI (nth r97 0))]
def f6 (c : Orc) (lf : Nat) (l0_0 : List T) (n0_1 n0_2 : Int) (l0_3 l0_4 : List T) (n0_5 n0_6 n1 : Int) : Option (List T) := f6_t c lf l0_0 n0_1 n0_2 l0_3 l0_4 n0_5 n0_6 n1
theorem f6_eq (c : Orc) (lf : Nat) (l0_0 : List T) (n0_1 n0_2 : Int) (l0_3 l0_4 : List T) (n0_5 n0_6 n1 : Int) : funK c env lf 6 fi6 [.st [.sl l0_0, .i .i64 n0_1, .i .i64 n0_2, .sl l0_3, .sl l0_4, .i .i64 n0_5, .i .i64 n0_6], .i .i64 n1] = f6 c lf l0_0 n0_1 n0_2 l0_3 l0_4 n0_5 n0_6 n1 := by kernel_rfl
def f135_0_s (c : Orc) (lf : Nat) (l0 : List T) (L : Int → List T → Option (List T)) (x101 : Int) (x102 : List T) : Option (List T) :=
 bif iLt x101 (l0.length : Int) then
  bif inR x101 l0.length then
  bif inR x101 x102.length then
  L (IntKind.wrap .i64 (x101 + 1)) (x102.set x101.toNat (T.i .u8 (asI (l0.getD x101.toNat T.u))))
  else none
  else none
 else
  some [T.i .i64 0, T.sl x102]
def f135_0_c (l0 : List T) (x101 : Int) (x102 : List T) : CSt := ⟨[.ro 0 false [.i .u8] l0, .rf 1 [] 0 none, .i .i64 x101], [.dead, .row false [.i .u8] x102 0 false]⟩
theorem f135_0_round (c : Orc) (lf : Nat) (l0 : List T) (L : CSt → Option (List T)) (x101 : Int) (x102 : List T) :
 roundK c env lf 6 fi135 1 3 [] [0, 3, 4] (x135_3_0) L (f135_0_c l0 x101 x102) = f135_0_s c lf l0 (fun x101 x102 => L (f135_0_c l0 x101 x102)) x101 x102 := by kernel_rfl
def f135_0 (c : Orc) (lf : Nat) (l0 : List T) : Nat → Int → List T → Option (List T)
 | 0 => fun _ _ => none
 | n + 1 => fun x101 x102 => f135_0_s c lf l0 (f135_0 c lf l0 n) x101 x102
theorem f135_0_eq (c : Orc) (lf : Nat) (l0 : List T) (n : Nat) (x101 : Int) (x102 : List T) :
 lpK c env lf 6 fi135 1 3 [] [0, 3, 4] (x135_3_0) n (f135_0_c l0 x101 x102) = f135_0 c lf l0 n x101 x102 := by
 induction n generalizing x101 x102 with
 | zero => rfl
 | succ n ih =>
  refine (f135_0_round c lf l0 _ x101 x102).trans ?_
  have e : (fun x101 x102 => lpK c env lf 6 fi135 1 3 [] [0, 3, 4] (x135_3_0) n (f135_0_c l0 x101 x102)) = f135_0 c lf l0 n := by funext x101 x102; exact ih x101 x102
  show f135_0_s c lf l0 (fun x101 x102 => lpK c env lf 6 fi135 1 3 [] [0, 3, 4] (x135_3_0) n (f135_0_c l0 x101 x102)) x101 x102 = _
  rw [e]; rfl
def f135_t (c : Orc) (lf : Nat) (lp0 : List T → Int → List T → Option (List T)) (l0 : List T) : Option (List T) :=
 bif iLe 0 (l0.length : Int) && iLe (l0.length : Int) (LIM : Int) && ((l0.length : Int) == (l0.length : Int)) then
 (lp0 l0 0 (List.replicate (l0.length : Int).toNat (T.i .u8 0))).bind fun r103 =>
 some [T.sl (asL (nth r103 1))]
 else none
def f135 (c : Orc) (lf : Nat) (l0 : List T) : Option (List T) := f135_t c lf (fun (l0 : List T) (x101 : Int) (x102 : List T) => f135_0 c lf l0 lf x101 x102) l0
theorem f135_raw (c : Orc) (lf : Nat) (l0 : List T) : funK c env lf 6 fi135 [.sl l0] = f135_t c lf (fun (l0 : List T) (x101 : Int) (x102 : List T) => lpK c env lf 6 fi135 1 3 [] [0, 3, 4] (x135_3_0) lf (f135_0_c l0 x101 x102)) l0 := by kernel_rfl
theorem f135_eq (c : Orc) (lf : Nat) (l0 : List T) : funK c env lf 6 fi135 [.sl l0] = f135 c lf l0 := by
 refine (f135_raw c lf l0).trans ?_
 have e0 : (fun (l0 : List T) (x101 : Int) (x102 : List T) => lpK c env lf 6 fi135 1 3 [] [0, 3, 4] (x135_3_0) lf (f135_0_c l0 x101 x102)) = (fun (l0 : List T) (x101 : Int) (x102 : List T) => f135_0 c lf l0 lf x101 x102) := by funext l0 x101 x102; exact f135_0_eq c lf l0 lf x101 x102
 rw [e0]; rfl
def f130_t (c : Orc) (lf : Nat) (b0_0 : Bool) (l0_1 : List T) : Option (List T) :=
 (c 135 [T.sl l0_1]).bind fun r104 =>
 some [T.st [T.b b0_0, T.sl (asL (nth r104 0))]]
def f130 (c : Orc) (lf : Nat) (b0_0 : Bool) (l0_1 : List T) : Option (List T) := f130_t c lf b0_0 l0_1
theorem f130_eq (c : Orc) (lf : Nat) (b0_0 : Bool) (l0_1 : List T) : funK c env lf 6 fi130 [.st [.b b0_0, .sl l0_1]] = f130 c lf b0_0 l0_1 := by kernel_rfl
def f124_0_s (c : Orc) (lf : Nat) (l0 : List T) (L : Int → List T → Option (List T)) (x111 : Int) (x112 : List T) : Option (List T) :=
 bif iLt x111 (l0.length : Int) then
  bif inR x111 l0.length then
  (c 130 [T.st [T.b (asB (T.cell (l0.getD x111.toNat T.u) 0)), T.sl (asL (T.cell (l0.getD x111.toNat T.u) 1))]]).bind fun r113 =>
  bif inR x111 x112.length then
  L (IntKind.wrap .i64 (x111 + 1)) (x112.set x111.toNat (T.st [T.b (asB (T.cell (nth r113 0) 0)), T.sl (asL (T.cell (nth r113 0) 1))]))
  else none
  else none
 else
  some [T.i .i64 0, T.sl x112]
def f124_0_c (l0 : List T) (x111 : Int) (x112 : List T) : CSt := ⟨[.ro 0 true [.b, .sl false [.i .u8]] l0, .rf 1 [] 0 none, .i .i64 x111], [.dead, .row true [.b, .sl false [.i .u8]] x112 0 false]⟩
theorem f124_0_round (c : Orc) (lf : Nat) (l0 : List T) (L : CSt → Option (List T)) (x111 : Int) (x112 : List T) :
 roundK c env lf 6 fi124 1 3 [] [0, 3, 4] (x124_3_0) L (f124_0_c l0 x111 x112) = f124_0_s c lf l0 (fun x111 x112 => L (f124_0_c l0 x111 x112)) x111 x112 := by kernel_rfl
def f124_0 (c : Orc) (lf : Nat) (l0 : List T) : Nat → Int → List T → Option (List T)
 | 0 => fun _ _ => none
 | n + 1 => fun x111 x112 => f124_0_s c lf l0 (f124_0 c lf l0 n) x111 x112
theorem f124_0_eq (c : Orc) (lf : Nat) (l0 : List T) (n : Nat) (x111 : Int) (x112 : List T) :
 lpK c env lf 6 fi124 1 3 [] [0, 3, 4] (x124_3_0) n (f124_0_c l0 x111 x112) = f124_0 c lf l0 n x111 x112 := by
 induction n generalizing x111 x112 with
 | zero => rfl
 | succ n ih =>
  refine (f124_0_round c lf l0 _ x111 x112).trans ?_
  have e : (fun x111 x112 => lpK c env lf 6 fi124 1 3 [] [0, 3, 4] (x124_3_0) n (f124_0_c l0 x111 x112)) = f124_0 c lf l0 n := by funext x111 x112; exact ih x111 x112
  show f124_0_s c lf l0 (fun x111 x112 => lpK c env lf 6 fi124 1 3 [] [0, 3, 4] (x124_3_0) n (f124_0_c l0 x111 x112)) x111 x112 = _
  rw [e]; rfl
def f124_t (c : Orc) (lf : Nat) (lp0 : List T → Int → List T → Option (List T)) (l0 : List T) : Option (List T) :=
 bif iLe 0 (l0.length : Int) && iLe (l0.length : Int) (LIM : Int) && ((l0.length : Int) == (l0.length : Int)) then
 (lp0 l0 0 (List.replicate (l0.length : Int).toNat (T.st [T.b false, T.sl []]))).bind fun r114 =>
 some [T.sl (asL (nth r114 1))]
 else none
def f124 (c : Orc) (lf : Nat) (l0 : List T) : Option (List T) := f124_t c lf (fun (l0 : List T) (x111 : Int) (x112 : List T) => f124_0 c lf l0 lf x111 x112) l0
theorem f124_raw (c : Orc) (lf : Nat) (l0 : List T) : funK c env lf 6 fi124 [.sl l0] = f124_t c lf (fun (l0 : List T) (x111 : Int) (x112 : List T) => lpK c env lf 6 fi124 1 3 [] [0, 3, 4] (x124_3_0) lf (f124_0_c l0 x111 x112)) l0 := by kernel_rfl
theorem f124_eq (c : Orc) (lf : Nat) (l0 : List T) : funK c env lf 6 fi124 [.sl l0] = f124 c lf l0 := by
 refine (f124_raw c lf l0).trans ?_
 have e0 : (fun (l0 : List T) (x111 : Int) (x112 : List T) => lpK c env lf 6 fi124 1 3 [] [0, 3, 4] (x124_3_0) lf (f124_0_c l0 x111 x112)) = (fun (l0 : List T) (x111 : Int) (x112 : List T) => f124_0 c lf l0 lf x111 x112) := by funext l0 x111 x112; exact f124_0_eq c lf l0 lf x111 x112
 rw [e0]; rfl
def f117_t (c : Orc) (lf : Nat) (l0_0 : List T) (n0_1 : Int) (b0_2 : Bool) : Option (List T) :=
 (c 124 [T.sl l0_0]).bind fun r115 =>
 some [T.st [T.sl (asL (nth r115 0)), T.i .i64 n0_1, T.b b0_2]]
def f117 (c : Orc) (lf : Nat) (l0_0 : List T) (n0_1 : Int) (b0_2 : Bool) : Option (List T) := f117_t c lf l0_0 n0_1 b0_2
theorem f117_eq (c : Orc) (lf : Nat) (l0_0 : List T) (n0_1 : Int) (b0_2 : Bool) : funK c env lf 6 fi117 [.st [.sl l0_0, .i .i64 n0_1, .b b0_2]] = f117 c lf l0_0 n0_1 b0_2 := by kernel_rfl
def f98_0_s (c : Orc) (lf : Nat) (l0 : List T) (L : Int → List T → Option (List T)) (x122 : Int) (x123 : List T) : Option (List T) :=
 bif iLt x122 (l0.length : Int) then
  bif inR x122 l0.length then
  (c 117 [T.st [T.sl (asL (T.cell (l0.getD x122.toNat T.u) 0)), T.i .i64 (asI (T.cell (l0.getD x122.toNat T.u) 1)), T.b (asB (T.cell (l0.getD x122.toNat T.u) 2))]]).bind fun r124 =>
  bif inR x122 x123.length then
  L (IntKind.wrap .i64 (x122 + 1)) (x123.set x122.toNat (T.st [T.sl (asL (T.cell (nth r124 0) 0)), T.i .i64 (asI (T.cell (nth r124 0) 1)), T.b (asB (T.cell (nth r124 0) 2))]))
  else none
  else none
 else
  some [T.i .i64 0, T.sl x123]
def f98_0_c (l0 : List T) (x122 : Int) (x123 : List T) : CSt := ⟨[.ro 0 true [.sl true [.b, .sl false [.i .u8]], .i .i64, .b] l0, .rf 1 [] 0 none, .i .i64 x122], [.dead, .row true [.sl true [.b, .sl false [.i .u8]], .i .i64, .b] x123 0 false]⟩
theorem f98_0_round (c : Orc) (lf : Nat) (l0 : List T) (L : CSt → Option (List T)) (x122 : Int) (x123 : List T) :
 roundK c env lf 6 fi98 1 3 [] [0, 3, 4] (x98_3_0) L (f98_0_c l0 x122 x123) = f98_0_s c lf l0 (fun x122 x123 => L (f98_0_c l0 x122 x123)) x122 x123 := by kernel_rfl
def f98_0 (c : Orc) (lf : Nat) (l0 : List T) : Nat → Int → List T → Option (List T)
 | 0 => fun _ _ => none
 | n + 1 => fun x122 x123 => f98_0_s c lf l0 (f98_0 c lf l0 n) x122 x123
theorem f98_0_eq (c : Orc) (lf : Nat) (l0 : List T) (n : Nat) (x122 : Int) (x123 : List T) :
 lpK c env lf 6 fi98 1 3 [] [0, 3, 4] (x98_3_0) n (f98_0_c l0 x122 x123) = f98_0 c lf l0 n x122 x123 := by
 induction n generalizing x122 x123 with
 | zero => rfl
 | succ n ih =>
  refine (f98_0_round c lf l0 _ x122 x123).trans ?_
  have e : (fun x122 x123 => lpK c env lf 6 fi98 1 3 [] [0, 3, 4] (x98_3_0) n (f98_0_c l0 x122 x123)) = f98_0 c lf l0 n := by funext x122 x123; exact ih x122 x123
  show f98_0_s c lf l0 (fun x122 x123 => lpK c env lf 6 fi98 1 3 [] [0, 3, 4] (x98_3_0) n (f98_0_c l0 x122 x123)) x122 x123 = _
  rw [e]; rfl
def f98_t (c : Orc) (lf : Nat) (lp0 : List T → Int → List T → Option (List T)) (l0 : List T) : Option (List T) :=
 bif iLe 0 (l0.length : Int) && iLe (l0.length : Int) (LIM : Int) && ((l0.length : Int) == (l0.length : Int)) then
 (lp0 l0 0 (List.replicate (l0.length : Int).toNat (T.st [T.sl [], T.i .i64 0, T.b false]))).bind fun r125 =>
 some [T.sl (asL (nth r125 1))]
 else none
def f98 (c : Orc) (lf : Nat) (l0 : List T) : Option (List T) := f98_t c lf (fun (l0 : List T) (x122 : Int) (x123 : List T) => f98_0 c lf l0 lf x122 x123) l0
theorem f98_raw (c : Orc) (lf : Nat) (l0 : List T) : funK c env lf 6 fi98 [.sl l0] = f98_t c lf (fun (l0 : List T) (x122 : Int) (x123 : List T) => lpK c env lf 6 fi98 1 3 [] [0, 3, 4] (x98_3_0) lf (f98_0_c l0 x122 x123)) l0 := by kernel_rfl
theorem f98_eq (c : Orc) (lf : Nat) (l0 : List T) : funK c env lf 6 fi98 [.sl l0] = f98 c lf l0 := by
 refine (f98_raw c lf l0).trans ?_
 have e0 : (fun (l0 : List T) (x122 : Int) (x123 : List T) => lpK c env lf 6 fi98 1 3 [] [0, 3, 4] (x98_3_0) lf (f98_0_c l0 x122 x123)) = (fun (l0 : List T) (x122 : Int) (x123 : List T) => f98_0 c lf l0 lf x122 x123) := by funext l0 x122 x123; exact f98_0_eq c lf l0 lf x122 x123
 rw [e0]; rfl
def f68_t (c : Orc) (lf : Nat) (l0_0 : List T) : Option (List T) :=
 (c 98 [T.sl l0_0]).bind fun r126 =>
 some [T.st [T.sl (asL (nth r126 0))]]
def f68 (c : Orc) (lf : Nat) (l0_0 : List T) : Option (List T) := f68_t c lf l0_0
theorem f68_eq (c : Orc) (lf : Nat) (l0_0 : List T) : funK c env lf 6 fi68 [.st [.sl l0_0]] = f68 c lf l0_0 := by kernel_rfl
def f99_t (c : Orc) (lf : Nat) (n0_0 n0_1 n0_2 : Int) : Option (List T) :=
 some [T.st [T.i .i64 n0_0, T.i .i64 n0_1, T.i .i64 n0_2]]
def f99 (c : Orc) (lf : Nat) (n0_0 n0_1 n0_2 : Int) : Option (List T) := f99_t c lf n0_0 n0_1 n0_2
theorem f99_eq (c : Orc) (lf : Nat) (n0_0 n0_1 n0_2 : Int) : funK c env lf 6 fi99 [.st [.i .i64 n0_0, .i .i64 n0_1, .i .i64 n0_2]] = f99 c lf n0_0 n0_1 n0_2 := by kernel_rfl
def f69_0_s (c : Orc) (lf : Nat) (l0 : List T) (L : Int → List T → Option (List T)) (x133 : Int) (x134 : List T) : Option (List T) :=
 bif iLt x133 (l0.length : Int) then
  bif inR x133 l0.length then
  (c 99 [T.st [T.i .i64 (asI (T.cell (l0.getD x133.toNat T.u) 0)), T.i .i64 (asI (T.cell (l0.getD x133.toNat T.u) 1)), T.i .i64 (asI (T.cell (l0.getD x133.toNat T.u) 2))]]).bind fun r135 =>
  bif inR x133 x134.length then
  L (IntKind.wrap .i64 (x133 + 1)) (x134.set x133.toNat (T.st [T.i .i64 (asI (T.cell (nth r135 0) 0)), T.i .i64 (asI (T.cell (nth r135 0) 1)), T.i .i64 (asI (T.cell (nth r135 0) 2))]))
  else none
  else none
 else
  some [T.i .i64 0, T.sl x134]
def f69_0_c (l0 : List T) (x133 : Int) (x134 : List T) : CSt := ⟨[.ro 0 true [.i .i64, .i .i64, .i .i64] l0, .rf 1 [] 0 none, .i .i64 x133], [.dead, .row true [.i .i64, .i .i64, .i .i64] x134 0 false]⟩
theorem f69_0_round (c : Orc) (lf : Nat) (l0 : List T) (L : CSt → Option (List T)) (x133 : Int) (x134 : List T) :
 roundK c env lf 6 fi69 1 3 [] [0, 3, 4] (x69_3_0) L (f69_0_c l0 x133 x134) = f69_0_s c lf l0 (fun x133 x134 => L (f69_0_c l0 x133 x134)) x133 x134 := by kernel_rfl
def f69_0 (c : Orc) (lf : Nat) (l0 : List T) : Nat → Int → List T → Option (List T)
 | 0 => fun _ _ => none
 | n + 1 => fun x133 x134 => f69_0_s c lf l0 (f69_0 c lf l0 n) x133 x134
theorem f69_0_eq (c : Orc) (lf : Nat) (l0 : List T) (n : Nat) (x133 : Int) (x134 : List T) :
 lpK c env lf 6 fi69 1 3 [] [0, 3, 4] (x69_3_0) n (f69_0_c l0 x133 x134) = f69_0 c lf l0 n x133 x134 := by
 induction n generalizing x133 x134 with
 | zero => rfl
 | succ n ih =>
  refine (f69_0_round c lf l0 _ x133 x134).trans ?_
  have e : (fun x133 x134 => lpK c env lf 6 fi69 1 3 [] [0, 3, 4] (x69_3_0) n (f69_0_c l0 x133 x134)) = f69_0 c lf l0 n := by funext x133 x134; exact ih x133 x134
  show f69_0_s c lf l0 (fun x133 x134 => lpK c env lf 6 fi69 1 3 [] [0, 3, 4] (x69_3_0) n (f69_0_c l0 x133 x134)) x133 x134 = _
  rw [e]; rfl
def f69_t (c : Orc) (lf : Nat) (lp0 : List T → Int → List T → Option (List T)) (l0 : List T) : Option (List T) :=
 bif iLe 0 (l0.length : Int) && iLe (l0.length : Int) (LIM : Int) && ((l0.length : Int) == (l0.length : Int)) then
 (lp0 l0 0 (List.replicate (l0.length : Int).toNat (T.st [T.i .i64 0, T.i .i64 0, T.i .i64 0]))).bind fun r136 =>
 some [T.sl (asL (nth r136 1))]
 else none
def f69 (c : Orc) (lf : Nat) (l0 : List T) : Option (List T) := f69_t c lf (fun (l0 : List T) (x133 : Int) (x134 : List T) => f69_0 c lf l0 lf x133 x134) l0
theorem f69_raw (c : Orc) (lf : Nat) (l0 : List T) : funK c env lf 6 fi69 [.sl l0] = f69_t c lf (fun (l0 : List T) (x133 : Int) (x134 : List T) => lpK c env lf 6 fi69 1 3 [] [0, 3, 4] (x69_3_0) lf (f69_0_c l0 x133 x134)) l0 := by kernel_rfl
theorem f69_eq (c : Orc) (lf : Nat) (l0 : List T) : funK c env lf 6 fi69 [.sl l0] = f69 c lf l0 := by
 refine (f69_raw c lf l0).trans ?_
 have e0 : (fun (l0 : List T) (x133 : Int) (x134 : List T) => lpK c env lf 6 fi69 1 3 [] [0, 3, 4] (x69_3_0) lf (f69_0_c l0 x133 x134)) = (fun (l0 : List T) (x133 : Int) (x134 : List T) => f69_0 c lf l0 lf x133 x134) := by funext l0 x133 x134; exact f69_0_eq c lf l0 lf x133 x134
 rw [e0]; rfl
def f43_t (c : Orc) (lf : Nat) (l0_0 : List T) (n0_1 : Int) (l0_2 : List T) (b0_3 : Bool) : Option (List T) :=
 (c 68 [T.st [T.sl l0_0]]).bind fun r137 =>
 (c 69 [T.sl l0_2]).bind fun r138 =>
 some [T.st [T.sl (asL (T.cell (nth r137 0) 0)), T.i .i64 n0_1, T.sl (asL (nth r138 0)), T.b b0_3]]
def f43 (c : Orc) (lf : Nat) (l0_0 : List T) (n0_1 : Int) (l0_2 : List T) (b0_3 : Bool) : Option (List T) := f43_t c lf l0_0 n0_1 l0_2 b0_3
theorem f43_eq (c : Orc) (lf : Nat) (l0_0 : List T) (n0_1 : Int) (l0_2 : List T) (b0_3 : Bool) : funK c env lf 6 fi43 [.st [.sl l0_0, .i .i64 n0_1, .sl l0_2, .b b0_3]] = f43 c lf l0_0 n0_1 l0_2 b0_3 := by kernel_rfl
def f17_t (c : Orc) (lf : Nat) (l0_0 : List T) (n0_1 : Int) (l0_2 : List T) (b0_3 : Bool) (n0_4 : Int) : Option (List T) :=
 (c 43 [T.st [T.sl l0_0, T.i .i64 n0_1, T.sl l0_2, T.b b0_3]]).bind fun r139 =>
 some [T.st [T.sl (asL (T.cell (nth r139 0) 0)), T.i .i64 (asI (T.cell (nth r139 0) 1)), T.sl (asL (T.cell (nth r139 0) 2)), T.b (asB (T.cell (nth r139 0) 3)), T.i .i64 n0_4]]
def f17 (c : Orc) (lf : Nat) (l0_0 : List T) (n0_1 : Int) (l0_2 : List T) (b0_3 : Bool) (n0_4 : Int) : Option (List T) := f17_t c lf l0_0 n0_1 l0_2 b0_3 n0_4
theorem f17_eq (c : Orc) (lf : Nat) (l0_0 : List T) (n0_1 : Int) (l0_2 : List T) (b0_3 : Bool) (n0_4 : Int) : funK c env lf 6 fi17 [.st [.sl l0_0, .i .i64 n0_1, .sl l0_2, .b b0_3, .i .i64 n0_4]] = f17 c lf l0_0 n0_1 l0_2 b0_3 n0_4 := by kernel_rfl
def f143_t (c : Orc) (lf : Nat) (s0_0 : ByteArray) (n0_1 : Int) : Option (List T) :=
 some [T.st [T.s s0_0, T.i .i64 n0_1]]
def f143 (c : Orc) (lf : Nat) (s0_0 : ByteArray) (n0_1 : Int) : Option (List T) := f143_t c lf s0_0 n0_1
theorem f143_eq (c : Orc) (lf : Nat) (s0_0 : ByteArray) (n0_1 : Int) : funK c env lf 6 fi143 [.st [.s s0_0, .i .i64 n0_1]] = f143 c lf s0_0 n0_1 := by kernel_rfl
def f136_0_s (c : Orc) (lf : Nat) (l0 : List T) (L : Int → List T → Option (List T)) (x146 : Int) (x147 : List T) : Option (List T) :=
 bif iLt x146 (l0.length : Int) then
  bif inR x146 l0.length then
  (c 143 [T.st [T.s (asS (T.cell (l0.getD x146.toNat T.u) 0)), T.i .i64 (asI (T.cell (l0.getD x146.toNat T.u) 1))]]).bind fun r148 =>
  bif inR x146 x147.length then
  L (IntKind.wrap .i64 (x146 + 1)) (x147.set x146.toNat (T.st [T.s (asS (T.cell (nth r148 0) 0)), T.i .i64 (asI (T.cell (nth r148 0) 1))]))
  else none
  else none
 else
  some [T.i .i64 0, T.sl x147]
def f136_0_c (l0 : List T) (x146 : Int) (x147 : List T) : CSt := ⟨[.ro 0 true [.s, .i .i64] l0, .rf 1 [] 0 none, .i .i64 x146], [.dead, .row true [.s, .i .i64] x147 0 false]⟩
theorem f136_0_round (c : Orc) (lf : Nat) (l0 : List T) (L : CSt → Option (List T)) (x146 : Int) (x147 : List T) :
 roundK c env lf 6 fi136 1 3 [] [0, 3, 4] (x136_3_0) L (f136_0_c l0 x146 x147) = f136_0_s c lf l0 (fun x146 x147 => L (f136_0_c l0 x146 x147)) x146 x147 := by kernel_rfl
def f136_0 (c : Orc) (lf : Nat) (l0 : List T) : Nat → Int → List T → Option (List T)
 | 0 => fun _ _ => none
 | n + 1 => fun x146 x147 => f136_0_s c lf l0 (f136_0 c lf l0 n) x146 x147
theorem f136_0_eq (c : Orc) (lf : Nat) (l0 : List T) (n : Nat) (x146 : Int) (x147 : List T) :
 lpK c env lf 6 fi136 1 3 [] [0, 3, 4] (x136_3_0) n (f136_0_c l0 x146 x147) = f136_0 c lf l0 n x146 x147 := by
 induction n generalizing x146 x147 with
 | zero => rfl
 | succ n ih =>
  refine (f136_0_round c lf l0 _ x146 x147).trans ?_
  have e : (fun x146 x147 => lpK c env lf 6 fi136 1 3 [] [0, 3, 4] (x136_3_0) n (f136_0_c l0 x146 x147)) = f136_0 c lf l0 n := by funext x146 x147; exact ih x146 x147
  show f136_0_s c lf l0 (fun x146 x147 => lpK c env lf 6 fi136 1 3 [] [0, 3, 4] (x136_3_0) n (f136_0_c l0 x146 x147)) x146 x147 = _
  rw [e]; rfl
def f136_t (c : Orc) (lf : Nat) (lp0 : List T → Int → List T → Option (List T)) (l0 : List T) : Option (List T) :=
 bif iLe 0 (l0.length : Int) && iLe (l0.length : Int) (LIM : Int) && ((l0.length : Int) == (l0.length : Int)) then
 (lp0 l0 0 (List.replicate (l0.length : Int).toNat (T.st [T.s (⟨#[]⟩ : ByteArray), T.i .i64 0]))).bind fun r149 =>
 some [T.sl (asL (nth r149 1))]
 else none
def f136 (c : Orc) (lf : Nat) (l0 : List T) : Option (List T) := f136_t c lf (fun (l0 : List T) (x146 : Int) (x147 : List T) => f136_0 c lf l0 lf x146 x147) l0
theorem f136_raw (c : Orc) (lf : Nat) (l0 : List T) : funK c env lf 6 fi136 [.sl l0] = f136_t c lf (fun (l0 : List T) (x146 : Int) (x147 : List T) => lpK c env lf 6 fi136 1 3 [] [0, 3, 4] (x136_3_0) lf (f136_0_c l0 x146 x147)) l0 := by kernel_rfl
theorem f136_eq (c : Orc) (lf : Nat) (l0 : List T) : funK c env lf 6 fi136 [.sl l0] = f136 c lf l0 := by
 refine (f136_raw c lf l0).trans ?_
 have e0 : (fun (l0 : List T) (x146 : Int) (x147 : List T) => lpK c env lf 6 fi136 1 3 [] [0, 3, 4] (x136_3_0) lf (f136_0_c l0 x146 x147)) = (fun (l0 : List T) (x146 : Int) (x147 : List T) => f136_0 c lf l0 lf x146 x147) := by funext l0 x146 x147; exact f136_0_eq c lf l0 lf x146 x147
 rw [e0]; rfl
def f144_t (c : Orc) (lf : Nat) (s0_0 s0_1 : ByteArray) : Option (List T) :=
 some [T.st [T.s s0_0, T.s s0_1]]
def f144 (c : Orc) (lf : Nat) (s0_0 s0_1 : ByteArray) : Option (List T) := f144_t c lf s0_0 s0_1
theorem f144_eq (c : Orc) (lf : Nat) (s0_0 s0_1 : ByteArray) : funK c env lf 6 fi144 [.st [.s s0_0, .s s0_1]] = f144 c lf s0_0 s0_1 := by kernel_rfl
def f137_0_s (c : Orc) (lf : Nat) (l0 : List T) (L : Int → List T → Option (List T)) (x156 : Int) (x157 : List T) : Option (List T) :=
 bif iLt x156 (l0.length : Int) then
  bif inR x156 l0.length then
  (c 144 [T.st [T.s (asS (T.cell (l0.getD x156.toNat T.u) 0)), T.s (asS (T.cell (l0.getD x156.toNat T.u) 1))]]).bind fun r158 =>
  bif inR x156 x157.length then
  L (IntKind.wrap .i64 (x156 + 1)) (x157.set x156.toNat (T.st [T.s (asS (T.cell (nth r158 0) 0)), T.s (asS (T.cell (nth r158 0) 1))]))
  else none
  else none
 else
  some [T.i .i64 0, T.sl x157]
def f137_0_c (l0 : List T) (x156 : Int) (x157 : List T) : CSt := ⟨[.ro 0 true [.s, .s] l0, .rf 1 [] 0 none, .i .i64 x156], [.dead, .row true [.s, .s] x157 0 false]⟩
theorem f137_0_round (c : Orc) (lf : Nat) (l0 : List T) (L : CSt → Option (List T)) (x156 : Int) (x157 : List T) :
 roundK c env lf 6 fi137 1 3 [] [0, 3, 4] (x137_3_0) L (f137_0_c l0 x156 x157) = f137_0_s c lf l0 (fun x156 x157 => L (f137_0_c l0 x156 x157)) x156 x157 := by kernel_rfl
def f137_0 (c : Orc) (lf : Nat) (l0 : List T) : Nat → Int → List T → Option (List T)
 | 0 => fun _ _ => none
 | n + 1 => fun x156 x157 => f137_0_s c lf l0 (f137_0 c lf l0 n) x156 x157
theorem f137_0_eq (c : Orc) (lf : Nat) (l0 : List T) (n : Nat) (x156 : Int) (x157 : List T) :
 lpK c env lf 6 fi137 1 3 [] [0, 3, 4] (x137_3_0) n (f137_0_c l0 x156 x157) = f137_0 c lf l0 n x156 x157 := by
 induction n generalizing x156 x157 with
 | zero => rfl
 | succ n ih =>
  refine (f137_0_round c lf l0 _ x156 x157).trans ?_
  have e : (fun x156 x157 => lpK c env lf 6 fi137 1 3 [] [0, 3, 4] (x137_3_0) n (f137_0_c l0 x156 x157)) = f137_0 c lf l0 n := by funext x156 x157; exact ih x156 x157
  show f137_0_s c lf l0 (fun x156 x157 => lpK c env lf 6 fi137 1 3 [] [0, 3, 4] (x137_3_0) n (f137_0_c l0 x156 x157)) x156 x157 = _
  rw [e]; rfl
def f137_t (c : Orc) (lf : Nat) (lp0 : List T → Int → List T → Option (List T)) (l0 : List T) : Option (List T) :=
 bif iLe 0 (l0.length : Int) && iLe (l0.length : Int) (LIM : Int) && ((l0.length : Int) == (l0.length : Int)) then
 (lp0 l0 0 (List.replicate (l0.length : Int).toNat (T.st [T.s (⟨#[]⟩ : ByteArray), T.s (⟨#[]⟩ : ByteArray)]))).bind fun r159 =>
 some [T.sl (asL (nth r159 1))]
 else none
def f137 (c : Orc) (lf : Nat) (l0 : List T) : Option (List T) := f137_t c lf (fun (l0 : List T) (x156 : Int) (x157 : List T) => f137_0 c lf l0 lf x156 x157) l0
theorem f137_raw (c : Orc) (lf : Nat) (l0 : List T) : funK c env lf 6 fi137 [.sl l0] = f137_t c lf (fun (l0 : List T) (x156 : Int) (x157 : List T) => lpK c env lf 6 fi137 1 3 [] [0, 3, 4] (x137_3_0) lf (f137_0_c l0 x156 x157)) l0 := by kernel_rfl
theorem f137_eq (c : Orc) (lf : Nat) (l0 : List T) : funK c env lf 6 fi137 [.sl l0] = f137 c lf l0 := by
 refine (f137_raw c lf l0).trans ?_
 have e0 : (fun (l0 : List T) (x156 : Int) (x157 : List T) => lpK c env lf 6 fi137 1 3 [] [0, 3, 4] (x137_3_0) lf (f137_0_c l0 x156 x157)) = (fun (l0 : List T) (x156 : Int) (x157 : List T) => f137_0 c lf l0 lf x156 x157) := by funext l0 x156 x157; exact f137_0_eq c lf l0 lf x156 x157
 rw [e0]; rfl
def f127_t (c : Orc) (lf : Nat) (n0_0 n0_1 n0_2 : Int) (l0_3 l0_4 l0_5 : List T) : Option (List T) :=
 (c 135 [T.sl l0_3]).bind fun r160 =>
 (c 136 [T.sl l0_4]).bind fun r161 =>
 (c 137 [T.sl l0_5]).bind fun r162 =>
 some [T.st [T.i .i64 n0_0, T.i .i64 n0_1, T.i .i64 n0_2, T.sl (asL (nth r160 0)), T.sl (asL (nth r161 0)), T.sl (asL (nth r162 0))]]
def f127 (c : Orc) (lf : Nat) (n0_0 n0_1 n0_2 : Int) (l0_3 l0_4 l0_5 : List T) : Option (List T) := f127_t c lf n0_0 n0_1 n0_2 l0_3 l0_4 l0_5
theorem f127_eq (c : Orc) (lf : Nat) (n0_0 n0_1 n0_2 : Int) (l0_3 l0_4 l0_5 : List T) : funK c env lf 6 fi127 [.st [.i .i64 n0_0, .i .i64 n0_1, .i .i64 n0_2, .sl l0_3, .sl l0_4, .sl l0_5]] = f127 c lf n0_0 n0_1 n0_2 l0_3 l0_4 l0_5 := by kernel_rfl
def f120_0_s (c : Orc) (lf : Nat) (l0 : List T) (L : Int → List T → Option (List T)) (x169 : Int) (x170 : List T) : Option (List T) :=
 bif iLt x169 (l0.length : Int) then
  bif inR x169 l0.length then
  (c 127 [T.st [T.i .i64 (asI (T.cell (l0.getD x169.toNat T.u) 0)), T.i .i64 (asI (T.cell (l0.getD x169.toNat T.u) 1)), T.i .i64 (asI (T.cell (l0.getD x169.toNat T.u) 2)), T.sl (asL (T.cell (l0.getD x169.toNat T.u) 3)), T.sl (asL (T.cell (l0.getD x169.toNat T.u) 4)), T.sl (asL (T.cell (l0.getD x169.toNat T.u) 5))]]).bind fun r171 =>
  bif inR x169 x170.length then
  L (IntKind.wrap .i64 (x169 + 1)) (x170.set x169.toNat (T.st [T.i .i64 (asI (T.cell (nth r171 0) 0)), T.i .i64 (asI (T.cell (nth r171 0) 1)), T.i .i64 (asI (T.cell (nth r171 0) 2)), T.sl (asL (T.cell (nth r171 0) 3)), T.sl (asL (T.cell (nth r171 0) 4)), T.sl (asL (T.cell (nth r171 0) 5))]))
  else none
  else none
 else
  some [T.i .i64 0, T.sl x170]
def f120_0_c (l0 : List T) (x169 : Int) (x170 : List T) : CSt := ⟨[.ro 0 true [.i .i64, .i .i64, .i .i64, .sl false [.i .u8], .sl true [.s, .i .i64], .sl true [.s, .s]] l0, .rf 1 [] 0 none, .i .i64 x169], [.dead, .row true [.i .i64, .i .i64, .i .i64, .sl false [.i .u8], .sl true [.s, .i .i64], .sl true [.s, .s]] x170 0 false]⟩
theorem f120_0_round (c : Orc) (lf : Nat) (l0 : List T) (L : CSt → Option (List T)) (x169 : Int) (x170 : List T) :
 roundK c env lf 6 fi120 1 3 [] [0, 3, 4] (x120_3_0) L (f120_0_c l0 x169 x170) = f120_0_s c lf l0 (fun x169 x170 => L (f120_0_c l0 x169 x170)) x169 x170 := by kernel_rfl
def f120_0 (c : Orc) (lf : Nat) (l0 : List T) : Nat → Int → List T → Option (List T)
 | 0 => fun _ _ => none
 | n + 1 => fun x169 x170 => f120_0_s c lf l0 (f120_0 c lf l0 n) x169 x170
theorem f120_0_eq (c : Orc) (lf : Nat) (l0 : List T) (n : Nat) (x169 : Int) (x170 : List T) :
 lpK c env lf 6 fi120 1 3 [] [0, 3, 4] (x120_3_0) n (f120_0_c l0 x169 x170) = f120_0 c lf l0 n x169 x170 := by
 induction n generalizing x169 x170 with
 | zero => rfl
 | succ n ih =>
  refine (f120_0_round c lf l0 _ x169 x170).trans ?_
  have e : (fun x169 x170 => lpK c env lf 6 fi120 1 3 [] [0, 3, 4] (x120_3_0) n (f120_0_c l0 x169 x170)) = f120_0 c lf l0 n := by funext x169 x170; exact ih x169 x170
  show f120_0_s c lf l0 (fun x169 x170 => lpK c env lf 6 fi120 1 3 [] [0, 3, 4] (x120_3_0) n (f120_0_c l0 x169 x170)) x169 x170 = _
  rw [e]; rfl
def f120_t (c : Orc) (lf : Nat) (lp0 : List T → Int → List T → Option (List T)) (l0 : List T) : Option (List T) :=
 bif iLe 0 (l0.length : Int) && iLe (l0.length : Int) (LIM : Int) && ((l0.length : Int) == (l0.length : Int)) then
 (lp0 l0 0 (List.replicate (l0.length : Int).toNat (T.st [T.i .i64 0, T.i .i64 0, T.i .i64 0, T.sl [], T.sl [], T.sl []]))).bind fun r172 =>
 some [T.sl (asL (nth r172 1))]
 else none
def f120 (c : Orc) (lf : Nat) (l0 : List T) : Option (List T) := f120_t c lf (fun (l0 : List T) (x169 : Int) (x170 : List T) => f120_0 c lf l0 lf x169 x170) l0
theorem f120_raw (c : Orc) (lf : Nat) (l0 : List T) : funK c env lf 6 fi120 [.sl l0] = f120_t c lf (fun (l0 : List T) (x169 : Int) (x170 : List T) => lpK c env lf 6 fi120 1 3 [] [0, 3, 4] (x120_3_0) lf (f120_0_c l0 x169 x170)) l0 := by kernel_rfl
theorem f120_eq (c : Orc) (lf : Nat) (l0 : List T) : funK c env lf 6 fi120 [.sl l0] = f120 c lf l0 := by
 refine (f120_raw c lf l0).trans ?_
 have e0 : (fun (l0 : List T) (x169 : Int) (x170 : List T) => lpK c env lf 6 fi120 1 3 [] [0, 3, 4] (x120_3_0) lf (f120_0_c l0 x169 x170)) = (fun (l0 : List T) (x169 : Int) (x170 : List T) => f120_0 c lf l0 lf x169 x170) := by funext l0 x169 x170; exact f120_0_eq c lf l0 lf x169 x170
 rw [e0]; rfl
def f103_t (c : Orc) (lf : Nat) (l0_0 : List T) (n0_1 : Int) : Option (List T) :=
 (c 120 [T.sl l0_0]).bind fun r173 =>
 some [T.st [T.sl (asL (nth r173 0)), T.i .i64 n0_1]]
def f103 (c : Orc) (lf : Nat) (l0_0 : List T) (n0_1 : Int) : Option (List T) := f103_t c lf l0_0 n0_1
theorem f103_eq (c : Orc) (lf : Nat) (l0_0 : List T) (n0_1 : Int) : funK c env lf 6 fi103 [.st [.sl l0_0, .i .i64 n0_1]] = f103 c lf l0_0 n0_1 := by kernel_rfl
def f78_t (c : Orc) (lf : Nat) (n0_0 : Int) (s0_1 : ByteArray) (b0_2 : Bool) (n0_3 : Int) (l0_4 : List T) (n0_5 : Int) : Option (List T) :=
 (c 103 [T.st [T.sl l0_4, T.i .i64 n0_5]]).bind fun r174 =>
 some [T.st [T.i .i64 n0_0, T.s s0_1, T.b b0_2, T.i .i64 n0_3, T.sl (asL (T.cell (nth r174 0) 0)), T.i .i64 (asI (T.cell (nth r174 0) 1))]]
def f78 (c : Orc) (lf : Nat) (n0_0 : Int) (s0_1 : ByteArray) (b0_2 : Bool) (n0_3 : Int) (l0_4 : List T) (n0_5 : Int) : Option (List T) := f78_t c lf n0_0 s0_1 b0_2 n0_3 l0_4 n0_5
theorem f78_eq (c : Orc) (lf : Nat) (n0_0 : Int) (s0_1 : ByteArray) (b0_2 : Bool) (n0_3 : Int) (l0_4 : List T) (n0_5 : Int) : funK c env lf 6 fi78 [.st [.i .i64 n0_0, .s s0_1, .b b0_2, .i .i64 n0_3, .sl l0_4, .i .i64 n0_5]] = f78 c lf n0_0 s0_1 b0_2 n0_3 l0_4 n0_5 := by kernel_rfl
def f53_0_s (c : Orc) (lf : Nat) (l0 : List T) (L : Int → List T → Option (List T)) (x181 : Int) (x182 : List T) : Option (List T) :=
 bif iLt x181 (l0.length : Int) then
  bif inR x181 l0.length then
  (c 78 [T.st [T.i .i64 (asI (T.cell (l0.getD x181.toNat T.u) 0)), T.s (asS (T.cell (l0.getD x181.toNat T.u) 1)), T.b (asB (T.cell (l0.getD x181.toNat T.u) 2)), T.i .i64 (asI (T.cell (l0.getD x181.toNat T.u) 3)), T.sl (asL (T.cell (l0.getD x181.toNat T.u) 4)), T.i .i64 (asI (T.cell (l0.getD x181.toNat T.u) 5))]]).bind fun r183 =>
  bif inR x181 x182.length then
  L (IntKind.wrap .i64 (x181 + 1)) (x182.set x181.toNat (T.st [T.i .i64 (asI (T.cell (nth r183 0) 0)), T.s (asS (T.cell (nth r183 0) 1)), T.b (asB (T.cell (nth r183 0) 2)), T.i .i64 (asI (T.cell (nth r183 0) 3)), T.sl (asL (T.cell (nth r183 0) 4)), T.i .i64 (asI (T.cell (nth r183 0) 5))]))
  else none
  else none
 else
  some [T.i .i64 0, T.sl x182]
def f53_0_c (l0 : List T) (x181 : Int) (x182 : List T) : CSt := ⟨[.ro 0 true [.i .i64, .s, .b, .i .i64, .sl true [.i .i64, .i .i64, .i .i64, .sl false [.i .u8], .sl true [.s, .i .i64], .sl true [.s, .s]], .i .i64] l0, .rf 1 [] 0 none, .i .i64 x181], [.dead, .row true [.i .i64, .s, .b, .i .i64, .sl true [.i .i64, .i .i64, .i .i64, .sl false [.i .u8], .sl true [.s, .i .i64], .sl true [.s, .s]], .i .i64] x182 0 false]⟩
theorem f53_0_round (c : Orc) (lf : Nat) (l0 : List T) (L : CSt → Option (List T)) (x181 : Int) (x182 : List T) :
 roundK c env lf 6 fi53 1 3 [] [0, 3, 4] (x53_3_0) L (f53_0_c l0 x181 x182) = f53_0_s c lf l0 (fun x181 x182 => L (f53_0_c l0 x181 x182)) x181 x182 := by kernel_rfl
def f53_0 (c : Orc) (lf : Nat) (l0 : List T) : Nat → Int → List T → Option (List T)
 | 0 => fun _ _ => none
 | n + 1 => fun x181 x182 => f53_0_s c lf l0 (f53_0 c lf l0 n) x181 x182
theorem f53_0_eq (c : Orc) (lf : Nat) (l0 : List T) (n : Nat) (x181 : Int) (x182 : List T) :
 lpK c env lf 6 fi53 1 3 [] [0, 3, 4] (x53_3_0) n (f53_0_c l0 x181 x182) = f53_0 c lf l0 n x181 x182 := by
 induction n generalizing x181 x182 with
 | zero => rfl
 | succ n ih =>
  refine (f53_0_round c lf l0 _ x181 x182).trans ?_
  have e : (fun x181 x182 => lpK c env lf 6 fi53 1 3 [] [0, 3, 4] (x53_3_0) n (f53_0_c l0 x181 x182)) = f53_0 c lf l0 n := by funext x181 x182; exact ih x181 x182
  show f53_0_s c lf l0 (fun x181 x182 => lpK c env lf 6 fi53 1 3 [] [0, 3, 4] (x53_3_0) n (f53_0_c l0 x181 x182)) x181 x182 = _
  rw [e]; rfl
def f53_t (c : Orc) (lf : Nat) (lp0 : List T → Int → List T → Option (List T)) (l0 : List T) : Option (List T) :=
 bif iLe 0 (l0.length : Int) && iLe (l0.length : Int) (LIM : Int) && ((l0.length : Int) == (l0.length : Int)) then
 (lp0 l0 0 (List.replicate (l0.length : Int).toNat (T.st [T.i .i64 0, T.s (⟨#[]⟩ : ByteArray), T.b false, T.i .i64 0, T.sl [], T.i .i64 0]))).bind fun r184 =>
 some [T.sl (asL (nth r184 1))]
 else none
def f53 (c : Orc) (lf : Nat) (l0 : List T) : Option (List T) := f53_t c lf (fun (l0 : List T) (x181 : Int) (x182 : List T) => f53_0 c lf l0 lf x181 x182) l0
theorem f53_raw (c : Orc) (lf : Nat) (l0 : List T) : funK c env lf 6 fi53 [.sl l0] = f53_t c lf (fun (l0 : List T) (x181 : Int) (x182 : List T) => lpK c env lf 6 fi53 1 3 [] [0, 3, 4] (x53_3_0) lf (f53_0_c l0 x181 x182)) l0 := by kernel_rfl
theorem f53_eq (c : Orc) (lf : Nat) (l0 : List T) : funK c env lf 6 fi53 [.sl l0] = f53 c lf l0 := by
 refine (f53_raw c lf l0).trans ?_
 have e0 : (fun (l0 : List T) (x181 : Int) (x182 : List T) => lpK c env lf 6 fi53 1 3 [] [0, 3, 4] (x53_3_0) lf (f53_0_c l0 x181 x182)) = (fun (l0 : List T) (x181 : Int) (x182 : List T) => f53_0 c lf l0 lf x181 x182) := by funext l0 x181 x182; exact f53_0_eq c lf l0 lf x181 x182
 rw [e0]; rfl
def f26_t (c : Orc) (lf : Nat) (l0_0 : List T) (n0_1 : Int) : Option (List T) :=
 (c 53 [T.sl l0_0]).bind fun r185 =>
 some [T.st [T.sl (asL (nth r185 0)), T.i .i64 n0_1]]
def f26 (c : Orc) (lf : Nat) (l0_0 : List T) (n0_1 : Int) : Option (List T) := f26_t c lf l0_0 n0_1
theorem f26_eq (c : Orc) (lf : Nat) (l0_0 : List T) (n0_1 : Int) : funK c env lf 6 fi26 [.st [.sl l0_0, .i .i64 n0_1]] = f26 c lf l0_0 n0_1 := by kernel_rfl
def f79_t (c : Orc) (lf : Nat) (n0_0 : Int) (s0_1 : ByteArray) (b0_2 : Bool) (n0_3 n0_4 : Int) : Option (List T) :=
 some [T.st [T.i .i64 n0_0, T.s s0_1, T.b b0_2, T.i .i64 n0_3, T.i .i64 n0_4]]
def f79 (c : Orc) (lf : Nat) (n0_0 : Int) (s0_1 : ByteArray) (b0_2 : Bool) (n0_3 n0_4 : Int) : Option (List T) := f79_t c lf n0_0 s0_1 b0_2 n0_3 n0_4
theorem f79_eq (c : Orc) (lf : Nat) (n0_0 : Int) (s0_1 : ByteArray) (b0_2 : Bool) (n0_3 n0_4 : Int) : funK c env lf 6 fi79 [.st [.i .i64 n0_0, .s s0_1, .b b0_2, .i .i64 n0_3, .i .i64 n0_4]] = f79 c lf n0_0 s0_1 b0_2 n0_3 n0_4 := by kernel_rfl
def f54_0_s (c : Orc) (lf : Nat) (l0 : List T) (L : Int → List T → Option (List T)) (x192 : Int) (x193 : List T) : Option (List T) :=
 bif iLt x192 (l0.length : Int) then
  bif inR x192 l0.length then
  (c 79 [T.st [T.i .i64 (asI (T.cell (l0.getD x192.toNat T.u) 0)), T.s (asS (T.cell (l0.getD x192.toNat T.u) 1)), T.b (asB (T.cell (l0.getD x192.toNat T.u) 2)), T.i .i64 (asI (T.cell (l0.getD x192.toNat T.u) 3)), T.i .i64 (asI (T.cell (l0.getD x192.toNat T.u) 4))]]).bind fun r194 =>
  bif inR x192 x193.length then
  L (IntKind.wrap .i64 (x192 + 1)) (x193.set x192.toNat (T.st [T.i .i64 (asI (T.cell (nth r194 0) 0)), T.s (asS (T.cell (nth r194 0) 1)), T.b (asB (T.cell (nth r194 0) 2)), T.i .i64 (asI (T.cell (nth r194 0) 3)), T.i .i64 (asI (T.cell (nth r194 0) 4))]))
  else none
  else none
 else
  some [T.i .i64 0, T.sl x193]
def f54_0_c (l0 : List T) (x192 : Int) (x193 : List T) : CSt := ⟨[.ro 0 true [.i .i64, .s, .b, .i .i64, .i .i64] l0, .rf 1 [] 0 none, .i .i64 x192], [.dead, .row true [.i .i64, .s, .b, .i .i64, .i .i64] x193 0 false]⟩
theorem f54_0_round (c : Orc) (lf : Nat) (l0 : List T) (L : CSt → Option (List T)) (x192 : Int) (x193 : List T) :
 roundK c env lf 6 fi54 1 3 [] [0, 3, 4] (x54_3_0) L (f54_0_c l0 x192 x193) = f54_0_s c lf l0 (fun x192 x193 => L (f54_0_c l0 x192 x193)) x192 x193 := by kernel_rfl
def f54_0 (c : Orc) (lf : Nat) (l0 : List T) : Nat → Int → List T → Option (List T)
 | 0 => fun _ _ => none
 | n + 1 => fun x192 x193 => f54_0_s c lf l0 (f54_0 c lf l0 n) x192 x193
theorem f54_0_eq (c : Orc) (lf : Nat) (l0 : List T) (n : Nat) (x192 : Int) (x193 : List T) :
 lpK c env lf 6 fi54 1 3 [] [0, 3, 4] (x54_3_0) n (f54_0_c l0 x192 x193) = f54_0 c lf l0 n x192 x193 := by
 induction n generalizing x192 x193 with
 | zero => rfl
 | succ n ih =>
  refine (f54_0_round c lf l0 _ x192 x193).trans ?_
  have e : (fun x192 x193 => lpK c env lf 6 fi54 1 3 [] [0, 3, 4] (x54_3_0) n (f54_0_c l0 x192 x193)) = f54_0 c lf l0 n := by funext x192 x193; exact ih x192 x193
  show f54_0_s c lf l0 (fun x192 x193 => lpK c env lf 6 fi54 1 3 [] [0, 3, 4] (x54_3_0) n (f54_0_c l0 x192 x193)) x192 x193 = _
  rw [e]; rfl
def f54_t (c : Orc) (lf : Nat) (lp0 : List T → Int → List T → Option (List T)) (l0 : List T) : Option (List T) :=
 bif iLe 0 (l0.length : Int) && iLe (l0.length : Int) (LIM : Int) && ((l0.length : Int) == (l0.length : Int)) then
 (lp0 l0 0 (List.replicate (l0.length : Int).toNat (T.st [T.i .i64 0, T.s (⟨#[]⟩ : ByteArray), T.b false, T.i .i64 0, T.i .i64 0]))).bind fun r195 =>
 some [T.sl (asL (nth r195 1))]
 else none
def f54 (c : Orc) (lf : Nat) (l0 : List T) : Option (List T) := f54_t c lf (fun (l0 : List T) (x192 : Int) (x193 : List T) => f54_0 c lf l0 lf x192 x193) l0
theorem f54_raw (c : Orc) (lf : Nat) (l0 : List T) : funK c env lf 6 fi54 [.sl l0] = f54_t c lf (fun (l0 : List T) (x192 : Int) (x193 : List T) => lpK c env lf 6 fi54 1 3 [] [0, 3, 4] (x54_3_0) lf (f54_0_c l0 x192 x193)) l0 := by kernel_rfl
theorem f54_eq (c : Orc) (lf : Nat) (l0 : List T) : funK c env lf 6 fi54 [.sl l0] = f54 c lf l0 := by
 refine (f54_raw c lf l0).trans ?_
 have e0 : (fun (l0 : List T) (x192 : Int) (x193 : List T) => lpK c env lf 6 fi54 1 3 [] [0, 3, 4] (x54_3_0) lf (f54_0_c l0 x192 x193)) = (fun (l0 : List T) (x192 : Int) (x193 : List T) => f54_0 c lf l0 lf x192 x193) := by funext l0 x192 x193; exact f54_0_eq c lf l0 lf x192 x193
 rw [e0]; rfl
def f27_t (c : Orc) (lf : Nat) (n0_0 : Int) (l0_1 : List T) : Option (List T) :=
 (c 54 [T.sl l0_1]).bind fun r196 =>
 some [T.st [T.i .i64 n0_0, T.sl (asL (nth r196 0))]]
def f27 (c : Orc) (lf : Nat) (n0_0 : Int) (l0_1 : List T) : Option (List T) := f27_t c lf n0_0 l0_1
theorem f27_eq (c : Orc) (lf : Nat) (n0_0 : Int) (l0_1 : List T) : funK c env lf 6 fi27 [.st [.i .i64 n0_0, .sl l0_1]] = f27 c lf n0_0 l0_1 := by kernel_rfl
def f104_t (c : Orc) (lf : Nat) (n0_0 n0_1 : Int) : Option (List T) :=
 some [T.st [T.i .i64 n0_0, T.i .i64 n0_1]]
def f104 (c : Orc) (lf : Nat) (n0_0 n0_1 : Int) : Option (List T) := f104_t c lf n0_0 n0_1
theorem f104_eq (c : Orc) (lf : Nat) (n0_0 n0_1 : Int) : funK c env lf 6 fi104 [.st [.i .i64 n0_0, .i .i64 n0_1]] = f104 c lf n0_0 n0_1 := by kernel_rfl
def f80_0_s (c : Orc) (lf : Nat) (l0 : List T) (L : Int → List T → Option (List T)) (x203 : Int) (x204 : List T) : Option (List T) :=
 bif iLt x203 (l0.length : Int) then
  bif inR x203 l0.length then
  (c 104 [T.st [T.i .i64 (asI (T.cell (l0.getD x203.toNat T.u) 0)), T.i .i64 (asI (T.cell (l0.getD x203.toNat T.u) 1))]]).bind fun r205 =>
  bif inR x203 x204.length then
  L (IntKind.wrap .i64 (x203 + 1)) (x204.set x203.toNat (T.st [T.i .i64 (asI (T.cell (nth r205 0) 0)), T.i .i64 (asI (T.cell (nth r205 0) 1))]))
  else none
  else none
 else
  some [T.i .i64 0, T.sl x204]
def f80_0_c (l0 : List T) (x203 : Int) (x204 : List T) : CSt := ⟨[.ro 0 true [.i .i64, .i .i64] l0, .rf 1 [] 0 none, .i .i64 x203], [.dead, .row true [.i .i64, .i .i64] x204 0 false]⟩
theorem f80_0_round (c : Orc) (lf : Nat) (l0 : List T) (L : CSt → Option (List T)) (x203 : Int) (x204 : List T) :
 roundK c env lf 6 fi80 1 3 [] [0, 3, 4] (x80_3_0) L (f80_0_c l0 x203 x204) = f80_0_s c lf l0 (fun x203 x204 => L (f80_0_c l0 x203 x204)) x203 x204 := by kernel_rfl
def f80_0 (c : Orc) (lf : Nat) (l0 : List T) : Nat → Int → List T → Option (List T)
 | 0 => fun _ _ => none
 | n + 1 => fun x203 x204 => f80_0_s c lf l0 (f80_0 c lf l0 n) x203 x204
theorem f80_0_eq (c : Orc) (lf : Nat) (l0 : List T) (n : Nat) (x203 : Int) (x204 : List T) :
 lpK c env lf 6 fi80 1 3 [] [0, 3, 4] (x80_3_0) n (f80_0_c l0 x203 x204) = f80_0 c lf l0 n x203 x204 := by
 induction n generalizing x203 x204 with
 | zero => rfl
 | succ n ih =>
  refine (f80_0_round c lf l0 _ x203 x204).trans ?_
  have e : (fun x203 x204 => lpK c env lf 6 fi80 1 3 [] [0, 3, 4] (x80_3_0) n (f80_0_c l0 x203 x204)) = f80_0 c lf l0 n := by funext x203 x204; exact ih x203 x204
  show f80_0_s c lf l0 (fun x203 x204 => lpK c env lf 6 fi80 1 3 [] [0, 3, 4] (x80_3_0) n (f80_0_c l0 x203 x204)) x203 x204 = _
  rw [e]; rfl
def f80_t (c : Orc) (lf : Nat) (lp0 : List T → Int → List T → Option (List T)) (l0 : List T) : Option (List T) :=
 bif iLe 0 (l0.length : Int) && iLe (l0.length : Int) (LIM : Int) && ((l0.length : Int) == (l0.length : Int)) then
 (lp0 l0 0 (List.replicate (l0.length : Int).toNat (T.st [T.i .i64 0, T.i .i64 0]))).bind fun r206 =>
 some [T.sl (asL (nth r206 1))]
 else none
def f80 (c : Orc) (lf : Nat) (l0 : List T) : Option (List T) := f80_t c lf (fun (l0 : List T) (x203 : Int) (x204 : List T) => f80_0 c lf l0 lf x203 x204) l0
theorem f80_raw (c : Orc) (lf : Nat) (l0 : List T) : funK c env lf 6 fi80 [.sl l0] = f80_t c lf (fun (l0 : List T) (x203 : Int) (x204 : List T) => lpK c env lf 6 fi80 1 3 [] [0, 3, 4] (x80_3_0) lf (f80_0_c l0 x203 x204)) l0 := by kernel_rfl
theorem f80_eq (c : Orc) (lf : Nat) (l0 : List T) : funK c env lf 6 fi80 [.sl l0] = f80 c lf l0 := by
 refine (f80_raw c lf l0).trans ?_
 have e0 : (fun (l0 : List T) (x203 : Int) (x204 : List T) => lpK c env lf 6 fi80 1 3 [] [0, 3, 4] (x80_3_0) lf (f80_0_c l0 x203 x204)) = (fun (l0 : List T) (x203 : Int) (x204 : List T) => f80_0 c lf l0 lf x203 x204) := by funext l0 x203 x204; exact f80_0_eq c lf l0 lf x203 x204
 rw [e0]; rfl
def f55_t (c : Orc) (lf : Nat) (n0_0 : Int) (l0_1 : List T) : Option (List T) :=
 (c 80 [T.sl l0_1]).bind fun r207 =>
 some [T.st [T.i .i64 n0_0, T.sl (asL (nth r207 0))]]
def f55 (c : Orc) (lf : Nat) (n0_0 : Int) (l0_1 : List T) : Option (List T) := f55_t c lf n0_0 l0_1
theorem f55_eq (c : Orc) (lf : Nat) (n0_0 : Int) (l0_1 : List T) : funK c env lf 6 fi55 [.st [.i .i64 n0_0, .sl l0_1]] = f55 c lf n0_0 l0_1 := by kernel_rfl
def f28_0_s (c : Orc) (lf : Nat) (l0 : List T) (L : Int → List T → Option (List T)) (x214 : Int) (x215 : List T) : Option (List T) :=
 bif iLt x214 (l0.length : Int) then
  bif inR x214 l0.length then
  (c 55 [T.st [T.i .i64 (asI (T.cell (l0.getD x214.toNat T.u) 0)), T.sl (asL (T.cell (l0.getD x214.toNat T.u) 1))]]).bind fun r216 =>
  bif inR x214 x215.length then
  L (IntKind.wrap .i64 (x214 + 1)) (x215.set x214.toNat (T.st [T.i .i64 (asI (T.cell (nth r216 0) 0)), T.sl (asL (T.cell (nth r216 0) 1))]))
  else none
  else none
 else
  some [T.i .i64 0, T.sl x215]
def f28_0_c (l0 : List T) (x214 : Int) (x215 : List T) : CSt := ⟨[.ro 0 true [.i .i64, .sl true [.i .i64, .i .i64]] l0, .rf 1 [] 0 none, .i .i64 x214], [.dead, .row true [.i .i64, .sl true [.i .i64, .i .i64]] x215 0 false]⟩
theorem f28_0_round (c : Orc) (lf : Nat) (l0 : List T) (L : CSt → Option (List T)) (x214 : Int) (x215 : List T) :
 roundK c env lf 6 fi28 1 3 [] [0, 3, 4] (x28_3_0) L (f28_0_c l0 x214 x215) = f28_0_s c lf l0 (fun x214 x215 => L (f28_0_c l0 x214 x215)) x214 x215 := by kernel_rfl
def f28_0 (c : Orc) (lf : Nat) (l0 : List T) : Nat → Int → List T → Option (List T)
 | 0 => fun _ _ => none
 | n + 1 => fun x214 x215 => f28_0_s c lf l0 (f28_0 c lf l0 n) x214 x215
theorem f28_0_eq (c : Orc) (lf : Nat) (l0 : List T) (n : Nat) (x214 : Int) (x215 : List T) :
 lpK c env lf 6 fi28 1 3 [] [0, 3, 4] (x28_3_0) n (f28_0_c l0 x214 x215) = f28_0 c lf l0 n x214 x215 := by
 induction n generalizing x214 x215 with
 | zero => rfl
 | succ n ih =>
  refine (f28_0_round c lf l0 _ x214 x215).trans ?_
  have e : (fun x214 x215 => lpK c env lf 6 fi28 1 3 [] [0, 3, 4] (x28_3_0) n (f28_0_c l0 x214 x215)) = f28_0 c lf l0 n := by funext x214 x215; exact ih x214 x215
  show f28_0_s c lf l0 (fun x214 x215 => lpK c env lf 6 fi28 1 3 [] [0, 3, 4] (x28_3_0) n (f28_0_c l0 x214 x215)) x214 x215 = _
  rw [e]; rfl
def f28_t (c : Orc) (lf : Nat) (lp0 : List T → Int → List T → Option (List T)) (l0 : List T) : Option (List T) :=
 bif iLe 0 (l0.length : Int) && iLe (l0.length : Int) (LIM : Int) && ((l0.length : Int) == (l0.length : Int)) then
 (lp0 l0 0 (List.replicate (l0.length : Int).toNat (T.st [T.i .i64 0, T.sl []]))).bind fun r217 =>
 some [T.sl (asL (nth r217 1))]
 else none
def f28 (c : Orc) (lf : Nat) (l0 : List T) : Option (List T) := f28_t c lf (fun (l0 : List T) (x214 : Int) (x215 : List T) => f28_0 c lf l0 lf x214 x215) l0
theorem f28_raw (c : Orc) (lf : Nat) (l0 : List T) : funK c env lf 6 fi28 [.sl l0] = f28_t c lf (fun (l0 : List T) (x214 : Int) (x215 : List T) => lpK c env lf 6 fi28 1 3 [] [0, 3, 4] (x28_3_0) lf (f28_0_c l0 x214 x215)) l0 := by kernel_rfl
theorem f28_eq (c : Orc) (lf : Nat) (l0 : List T) : funK c env lf 6 fi28 [.sl l0] = f28 c lf l0 := by
 refine (f28_raw c lf l0).trans ?_
 have e0 : (fun (l0 : List T) (x214 : Int) (x215 : List T) => lpK c env lf 6 fi28 1 3 [] [0, 3, 4] (x28_3_0) lf (f28_0_c l0 x214 x215)) = (fun (l0 : List T) (x214 : Int) (x215 : List T) => f28_0 c lf l0 lf x214 x215) := by funext l0 x214 x215; exact f28_0_eq c lf l0 lf x214 x215
 rw [e0]; rfl
def f8_t (c : Orc) (lf : Nat) (l0_0 : List T) (n0_1 n0_2 : Int) (l0_3 l0_4 : List T) (n0_5 n0_6 : Int) : Option (List T) :=
 (c 26 [T.st [T.sl l0_0, T.i .i64 n0_1]]).bind fun r218 =>
 (c 27 [T.st [T.i .i64 n0_2, T.sl l0_3]]).bind fun r219 =>
 (c 28 [T.sl l0_4]).bind fun r220 =>
 some [T.st [T.sl (asL (T.cell (nth r218 0) 0)), T.i .i64 (asI (T.cell (nth r218 0) 1)), T.i .i64 (asI (T.cell (nth r219 0) 0)), T.sl (asL (T.cell (nth r219 0) 1)), T.sl (asL (nth r220 0)), T.i .i64 n0_5, T.i .i64 n0_6]]
def f8 (c : Orc) (lf : Nat) (l0_0 : List T) (n0_1 n0_2 : Int) (l0_3 l0_4 : List T) (n0_5 n0_6 : Int) : Option (List T) := f8_t c lf l0_0 n0_1 n0_2 l0_3 l0_4 n0_5 n0_6
theorem f8_eq (c : Orc) (lf : Nat) (l0_0 : List T) (n0_1 n0_2 : Int) (l0_3 l0_4 : List T) (n0_5 n0_6 : Int) : funK c env lf 6 fi8 [.st [.sl l0_0, .i .i64 n0_1, .i .i64 n0_2, .sl l0_3, .sl l0_4, .i .i64 n0_5, .i .i64 n0_6]] = f8 c lf l0_0 n0_1 n0_2 l0_3 l0_4 n0_5 n0_6 := by kernel_rfl
def f47_0_s (c : Orc) (lf : Nat) (b0_2 : Bool) (l0_0 : List T) (n0_1 : Int) (L : Int → Int → Option (List T)) (x224 x225 : Int) : Option (List T) :=
 bif iLt x225 (l0_0.length : Int) then
  bif inR x225 l0_0.length then
  bif asB (T.cell (l0_0.getD x225.toNat T.u) 0) then
   L (IntKind.wrap .i64 (x224 + 1)) (IntKind.wrap .i64 (x225 + 1))
  else
   L x224 (IntKind.wrap .i64 (x225 + 1))
  else none
 else
  some [T.i .i64 0, T.i .i64 x224]
def f47_0_c (b0_2 : Bool) (l0_0 : List T) (n0_1 x224 x225 : Int) : CSt := ⟨[.bp 3 0, .i .i64 x224, .i .i64 x225], [.dead, .dead, .dead, .box [.ro 0 true [.b, .sl false [.i .u8]] l0_0, .i .i64 n0_1, .b b0_2]]⟩
theorem f47_0_round (c : Orc) (lf : Nat) (b0_2 : Bool) (l0_0 : List T) (n0_1 : Int) (L : CSt → Option (List T)) (x224 x225 : Int) :
 roundK c env lf 6 fi47 3 3 [] [1, 3, 4] (x47_3_0) L (f47_0_c b0_2 l0_0 n0_1 x224 x225) = f47_0_s c lf b0_2 l0_0 n0_1 (fun x224 x225 => L (f47_0_c b0_2 l0_0 n0_1 x224 x225)) x224 x225 := by kernel_rfl
def f47_0 (c : Orc) (lf : Nat) (b0_2 : Bool) (l0_0 : List T) (n0_1 : Int) : Nat → Int → Int → Option (List T)
 | 0 => fun _ _ => none
 | n + 1 => fun x224 x225 => f47_0_s c lf b0_2 l0_0 n0_1 (f47_0 c lf b0_2 l0_0 n0_1 n) x224 x225
theorem f47_0_u (c : Orc) (lf : Nat) (b0_2 : Bool) (l0_0 : List T) (n0_1 : Int) (n : Nat) (x224 x225 : Int) : f47_0 c lf b0_2 l0_0 n0_1 (n + 1) x224 x225 = f47_0_s c lf b0_2 l0_0 n0_1 (f47_0 c lf b0_2 l0_0 n0_1 n) x224 x225 := rfl
theorem f47_0_eq (c : Orc) (lf : Nat) (b0_2 : Bool) (l0_0 : List T) (n0_1 : Int) (n : Nat) (x224 x225 : Int) :
 lpK c env lf 6 fi47 3 3 [] [1, 3, 4] (x47_3_0) n (f47_0_c b0_2 l0_0 n0_1 x224 x225) = f47_0 c lf b0_2 l0_0 n0_1 n x224 x225 := by
 induction n generalizing x224 x225 with
 | zero => rfl
 | succ n ih =>
  refine (f47_0_round c lf b0_2 l0_0 n0_1 _ x224 x225).trans ?_
  have e : (fun x224 x225 => lpK c env lf 6 fi47 3 3 [] [1, 3, 4] (x47_3_0) n (f47_0_c b0_2 l0_0 n0_1 x224 x225)) = f47_0 c lf b0_2 l0_0 n0_1 n := by funext x224 x225; exact ih x224 x225
  show f47_0_s c lf b0_2 l0_0 n0_1 (fun x224 x225 => lpK c env lf 6 fi47 3 3 [] [1, 3, 4] (x47_3_0) n (f47_0_c b0_2 l0_0 n0_1 x224 x225)) x224 x225 = _
  rw [e]; rfl
def f47_t (c : Orc) (lf : Nat) (lp0 : Bool → List T → Int → Int → Int → Option (List T)) (l0_0 : List T) (n0_1 : Int) (b0_2 : Bool) : Option (List T) :=
 (lp0 b0_2 l0_0 n0_1 0 0).bind fun r226 =>
 some [T.i .i64 (asI (nth r226 1))]
def f47 (c : Orc) (lf : Nat) (l0_0 : List T) (n0_1 : Int) (b0_2 : Bool) : Option (List T) := f47_t c lf (fun (b0_2 : Bool) (l0_0 : List T) (n0_1 x224 x225 : Int) => f47_0 c lf b0_2 l0_0 n0_1 lf x224 x225) l0_0 n0_1 b0_2
theorem f47_raw (c : Orc) (lf : Nat) (l0_0 : List T) (n0_1 : Int) (b0_2 : Bool) : funK c env lf 6 fi47 [.st [.sl l0_0, .i .i64 n0_1, .b b0_2]] = f47_t c lf (fun (b0_2 : Bool) (l0_0 : List T) (n0_1 x224 x225 : Int) => lpK c env lf 6 fi47 3 3 [] [1, 3, 4] (x47_3_0) lf (f47_0_c b0_2 l0_0 n0_1 x224 x225)) l0_0 n0_1 b0_2 := by kernel_rfl
theorem f47_eq (c : Orc) (lf : Nat) (l0_0 : List T) (n0_1 : Int) (b0_2 : Bool) : funK c env lf 6 fi47 [.st [.sl l0_0, .i .i64 n0_1, .b b0_2]] = f47 c lf l0_0 n0_1 b0_2 := by
 refine (f47_raw c lf l0_0 n0_1 b0_2).trans ?_
 have e0 : (fun (b0_2 : Bool) (l0_0 : List T) (n0_1 x224 x225 : Int) => lpK c env lf 6 fi47 3 3 [] [1, 3, 4] (x47_3_0) lf (f47_0_c b0_2 l0_0 n0_1 x224 x225)) = (fun (b0_2 : Bool) (l0_0 : List T) (n0_1 x224 x225 : Int) => f47_0 c lf b0_2 l0_0 n0_1 lf x224 x225) := by funext b0_2 l0_0 n0_1 x224 x225; exact f47_0_eq c lf b0_2 l0_0 n0_1 lf x224 x225
 rw [e0]; rfl
def f42_0_s (c : Orc) (lf : Nat) (l0 : List T) (n1 : Int) (L : Int → Option (List T)) (x229 : Int) : Option (List T) :=
 bif iLt x229 (l0.length : Int) then
  bif inR x229 l0.length then
  bif (asI (l0.getD x229.toNat T.u)) == n1 then
   some [T.i .i64 0, T.b true]
  else
   L (IntKind.wrap .i64 (x229 + 1))
  else none
 else
  some [T.i .i64 1]
def f42_0_c (l0 : List T) (n1 x229 : Int) : CSt := ⟨[.ro 0 false [.i .i64] l0, .i .i64 n1, .i .i64 x229], [.dead, .dead]⟩
theorem f42_0_round (c : Orc) (lf : Nat) (l0 : List T) (n1 : Int) (L : CSt → Option (List T)) (x229 : Int) :
 roundK c env lf 6 fi42 2 2 [] [0, 1, 5] (x42_2_0) L (f42_0_c l0 n1 x229) = f42_0_s c lf l0 n1 (fun x229 => L (f42_0_c l0 n1 x229)) x229 := by kernel_rfl
def f42_0 (c : Orc) (lf : Nat) (l0 : List T) (n1 : Int) : Nat → Int → Option (List T)
 | 0 => fun _ => none
 | n + 1 => fun x229 => f42_0_s c lf l0 n1 (f42_0 c lf l0 n1 n) x229
theorem f42_0_u (c : Orc) (lf : Nat) (l0 : List T) (n1 : Int) (n : Nat) (x229 : Int) : f42_0 c lf l0 n1 (n + 1) x229 = f42_0_s c lf l0 n1 (f42_0 c lf l0 n1 n) x229 := rfl
theorem f42_0_eq (c : Orc) (lf : Nat) (l0 : List T) (n1 : Int) (n : Nat) (x229 : Int) :
 lpK c env lf 6 fi42 2 2 [] [0, 1, 5] (x42_2_0) n (f42_0_c l0 n1 x229) = f42_0 c lf l0 n1 n x229 := by
 induction n generalizing x229 with
 | zero => rfl
 | succ n ih =>
  refine (f42_0_round c lf l0 n1 _ x229).trans ?_
  have e : (fun x229 => lpK c env lf 6 fi42 2 2 [] [0, 1, 5] (x42_2_0) n (f42_0_c l0 n1 x229)) = f42_0 c lf l0 n1 n := by funext x229; exact ih x229
  show f42_0_s c lf l0 n1 (fun x229 => lpK c env lf 6 fi42 2 2 [] [0, 1, 5] (x42_2_0) n (f42_0_c l0 n1 x229)) x229 = _
  rw [e]; rfl
def f42_t (c : Orc) (lf : Nat) (lp0 : List T → Int → Int → Option (List T)) (l0 : List T) (n1 : Int) : Option (List T) :=
 (lp0 l0 n1 0).bind fun r230 =>
 bif asI (nth r230 0) == 0 then
  some [T.b (asB (nth r230 1))]
 else
  some [T.b false]
def f42 (c : Orc) (lf : Nat) (l0 : List T) (n1 : Int) : Option (List T) := f42_t c lf (fun (l0 : List T) (n1 x229 : Int) => f42_0 c lf l0 n1 lf x229) l0 n1
theorem f42_raw (c : Orc) (lf : Nat) (l0 : List T) (n1 : Int) : funK c env lf 6 fi42 [.sl l0, .i .i64 n1] = f42_t c lf (fun (l0 : List T) (n1 x229 : Int) => lpK c env lf 6 fi42 2 2 [] [0, 1, 5] (x42_2_0) lf (f42_0_c l0 n1 x229)) l0 n1 := by kernel_rfl
theorem f42_eq (c : Orc) (lf : Nat) (l0 : List T) (n1 : Int) : funK c env lf 6 fi42 [.sl l0, .i .i64 n1] = f42 c lf l0 n1 := by
 refine (f42_raw c lf l0 n1).trans ?_
 have e0 : (fun (l0 : List T) (n1 x229 : Int) => lpK c env lf 6 fi42 2 2 [] [0, 1, 5] (x42_2_0) lf (f42_0_c l0 n1 x229)) = (fun (l0 : List T) (n1 x229 : Int) => f42_0 c lf l0 n1 lf x229) := by funext l0 n1 x229; exact f42_0_eq c lf l0 n1 lf x229
 rw [e0]; rfl
def f52_0_s (c : Orc) (lf : Nat) (n1 : Int) (L : Int → List T → Option (List T)) (x240 : Int) (x241 : List T) : Option (List T) :=
 bif iLt 0 x240 then
  bif inR (IntKind.wrap .i64 (x240 - 1)) x241.length then
  bif iLt n1 (asI (x241.getD ((IntKind.wrap .i64 (x240 - 1)).toNat) T.u)) then
   bif inR (IntKind.wrap .i64 (x240 - 1)) x241.length then
   bif inR x240 x241.length then
   L (IntKind.wrap .i64 (x240 - 1)) (x241.set x240.toNat (T.i .i64 (asI (x241.getD ((IntKind.wrap .i64 (x240 - 1)).toNat) T.u))))
   else none
   else none
  else
   some [T.i .i64 0, T.i .i64 n1, T.i .i64 x240, T.sl x241]
  else none
 else
  some [T.i .i64 0, T.i .i64 n1, T.i .i64 x240, T.sl x241]
def f52_0_c (n1 x240 : Int) (x241 : List T) : CSt := ⟨[.i .i64 n1, .rf 2 [] 0 none, .i .i64 x240], [.dead, .dead, .row false [.i .i64] x241 0 false]⟩
theorem f52_0_round (c : Orc) (lf : Nat) (n1 : Int) (L : CSt → Option (List T)) (x240 : Int) (x241 : List T) :
 roundK c env lf 6 fi52 2 5 [] [1, 5, 6] (x52_5_0) L (f52_0_c n1 x240 x241) = f52_0_s c lf n1 (fun x240 x241 => L (f52_0_c n1 x240 x241)) x240 x241 := by kernel_rfl
def f52_0 (c : Orc) (lf : Nat) (n1 : Int) : Nat → Int → List T → Option (List T)
 | 0 => fun _ _ => none
 | n + 1 => fun x240 x241 => f52_0_s c lf n1 (f52_0 c lf n1 n) x240 x241
theorem f52_0_u (c : Orc) (lf : Nat) (n1 : Int) (n : Nat) (x240 : Int) (x241 : List T) : f52_0 c lf n1 (n + 1) x240 x241 = f52_0_s c lf n1 (f52_0 c lf n1 n) x240 x241 := rfl
theorem f52_0_eq (c : Orc) (lf : Nat) (n1 : Int) (n : Nat) (x240 : Int) (x241 : List T) :
 lpK c env lf 6 fi52 2 5 [] [1, 5, 6] (x52_5_0) n (f52_0_c n1 x240 x241) = f52_0 c lf n1 n x240 x241 := by
 induction n generalizing x240 x241 with
 | zero => rfl
 | succ n ih =>
  refine (f52_0_round c lf n1 _ x240 x241).trans ?_
  have e : (fun x240 x241 => lpK c env lf 6 fi52 2 5 [] [1, 5, 6] (x52_5_0) n (f52_0_c n1 x240 x241)) = f52_0 c lf n1 n := by funext x240 x241; exact ih x240 x241
  show f52_0_s c lf n1 (fun x240 x241 => lpK c env lf 6 fi52 2 5 [] [1, 5, 6] (x52_5_0) n (f52_0_c n1 x240 x241)) x240 x241 = _
  rw [e]; rfl
def f52_t (c : Orc) (lf : Nat) (lp0 : Int → Int → List T → Option (List T)) (l0 : List T) (n1 : Int) : Option (List T) :=
 (c 42 [T.sl l0, T.i .i64 n1]).bind fun r239 =>
 bif asB (nth r239 0) then
  some [T.sl l0]
 else
  bif nLe (([] : List T).length + l0.length) LIM then
  bif nLe ((([] : List T) ++ l0).length + ([T.i .i64 n1] : List T).length) LIM then
  (lp0 n1 (IntKind.wrap .i64 ((((([] : List T) ++ l0) ++ ([T.i .i64 n1] : List T)).length : Int) - 1)) ((([] : List T) ++ l0) ++ ([T.i .i64 n1] : List T))).bind fun r242 =>
  bif inR (asI (nth r242 2)) ((asL (nth r242 3)).length) then
  some [T.sl ((asL (nth r242 3)).set ((asI (nth r242 2)).toNat) (T.i .i64 (asI (nth r242 1))))]
  else none
  else none
  else none
def f52 (c : Orc) (lf : Nat) (l0 : List T) (n1 : Int) : Option (List T) := f52_t c lf (fun (n1 x240 : Int) (x241 : List T) => f52_0 c lf n1 lf x240 x241) l0 n1
theorem f52_raw (c : Orc) (lf : Nat) (l0 : List T) (n1 : Int) : funK c env lf 6 fi52 [.sl l0, .i .i64 n1] = f52_t c lf (fun (n1 x240 : Int) (x241 : List T) => lpK c env lf 6 fi52 2 5 [] [1, 5, 6] (x52_5_0) lf (f52_0_c n1 x240 x241)) l0 n1 := by kernel_rfl
theorem f52_eq (c : Orc) (lf : Nat) (l0 : List T) (n1 : Int) : funK c env lf 6 fi52 [.sl l0, .i .i64 n1] = f52 c lf l0 n1 := by
 refine (f52_raw c lf l0 n1).trans ?_
 have e0 : (fun (n1 x240 : Int) (x241 : List T) => lpK c env lf 6 fi52 2 5 [] [1, 5, 6] (x52_5_0) lf (f52_0_c n1 x240 x241)) = (fun (n1 x240 : Int) (x241 : List T) => f52_0 c lf n1 lf x240 x241) := by funext n1 x240 x241; exact f52_0_eq c lf n1 lf x240 x241
 rw [e0]; rfl
def f25_t (c : Orc) (lf : Nat) (l0 : List T) (n1 : Int) : Option (List T) :=
 bif iLt n1 0 then
  some [T.sl l0]
 else
  (c 52 [T.sl l0, T.i .i64 n1]).bind fun r244 =>
  some [T.sl (asL (nth r244 0))]
def f25 (c : Orc) (lf : Nat) (l0 : List T) (n1 : Int) : Option (List T) := f25_t c lf l0 n1
theorem f25_eq (c : Orc) (lf : Nat) (l0 : List T) (n1 : Int) : funK c env lf 6 fi25 [.sl l0, .i .i64 n1] = f25 c lf l0 n1 := by kernel_rfl
def f7_0_s (c : Orc) (lf : Nat) (l0_0 l0_3 l0_4 : List T) (n0_1 n0_2 : Int) (n0_5 n0_6 : Int) (L : List T → Int → Option (List T)) (x302 : List T) (x303 : Int) : Option (List T) :=
 bif iLt x303 (l0_3.length : Int) then
  bif inR x303 l0_3.length then
  (c 25 [T.sl x302, T.i .i64 (asI (T.cell (l0_3.getD x303.toNat T.u) 4))]).bind fun r304 =>
  L (asL (nth r304 0)) (IntKind.wrap .i64 (x303 + 1))
  else none
 else
  some [T.i .i64 0, T.sl x302, T.sl l0_0, T.i .i64 n0_1, T.i .i64 n0_2, T.sl l0_3, T.sl l0_4, T.i .i64 n0_5, T.i .i64 n0_6]
def f7_0_c (l0_0 l0_3 l0_4 : List T) (n0_1 n0_2 : Int) (n0_5 n0_6 : Int) (x302 : List T) (x303 : Int) : CSt := ⟨[.bp 7 0, .ro 0 false [.i .i64] x302, .i .i64 x303], [.dead, .dead, .dead, .dead, .dead, .dead, .dead, .box [.ro 0 true [.i .i64, .s, .b, .i .i64, .sl true [.i .i64, .i .i64, .i .i64, .sl false [.i .u8], .sl true [.s, .i .i64], .sl true [.s, .s]], .i .i64] l0_0, .i .i64 n0_1, .i .i64 n0_2, .ro 0 true [.i .i64, .s, .b, .i .i64, .i .i64] l0_3, .ro 0 true [.i .i64, .sl true [.i .i64, .i .i64]] l0_4, .i .i64 n0_5, .i .i64 n0_6]]⟩
theorem f7_0_round (c : Orc) (lf : Nat) (l0_0 l0_3 l0_4 : List T) (n0_1 n0_2 : Int) (n0_5 n0_6 : Int) (L : CSt → Option (List T)) (x302 : List T) (x303 : Int) :
 roundK c env lf 6 fi7 7 3 [] [1, 3, 4] (x7_3_0) L (f7_0_c l0_0 l0_3 l0_4 n0_1 n0_2 n0_5 n0_6 x302 x303) = f7_0_s c lf l0_0 l0_3 l0_4 n0_1 n0_2 n0_5 n0_6 (fun x302 x303 => L (f7_0_c l0_0 l0_3 l0_4 n0_1 n0_2 n0_5 n0_6 x302 x303)) x302 x303 := by kernel_rfl
def f7_0 (c : Orc) (lf : Nat) (l0_0 l0_3 l0_4 : List T) (n0_1 n0_2 : Int) (n0_5 n0_6 : Int) : Nat → List T → Int → Option (List T)
 | 0 => fun _ _ => none
 | n + 1 => fun x302 x303 => f7_0_s c lf l0_0 l0_3 l0_4 n0_1 n0_2 n0_5 n0_6 (f7_0 c lf l0_0 l0_3 l0_4 n0_1 n0_2 n0_5 n0_6 n) x302 x303
theorem f7_0_u (c : Orc) (lf : Nat) (l0_0 l0_3 l0_4 : List T) (n0_1 n0_2 : Int) (n0_5 n0_6 : Int) (n : Nat) (x302 : List T) (x303 : Int) : f7_0 c lf l0_0 l0_3 l0_4 n0_1 n0_2 n0_5 n0_6 (n + 1) x302 x303 = f7_0_s c lf l0_0 l0_3 l0_4 n0_1 n0_2 n0_5 n0_6 (f7_0 c lf l0_0 l0_3 l0_4 n0_1 n0_2 n0_5 n0_6 n) x302 x303 := rfl
theorem f7_0_eq (c : Orc) (lf : Nat) (l0_0 l0_3 l0_4 : List T) (n0_1 n0_2 : Int) (n0_5 n0_6 : Int) (n : Nat) (x302 : List T) (x303 : Int) :
 lpK c env lf 6 fi7 7 3 [] [1, 3, 4] (x7_3_0) n (f7_0_c l0_0 l0_3 l0_4 n0_1 n0_2 n0_5 n0_6 x302 x303) = f7_0 c lf l0_0 l0_3 l0_4 n0_1 n0_2 n0_5 n0_6 n x302 x303 := by
 induction n generalizing x302 x303 with
 | zero => rfl
 | succ n ih =>
  refine (f7_0_round c lf l0_0 l0_3 l0_4 n0_1 n0_2 n0_5 n0_6 _ x302 x303).trans ?_
  have e : (fun x302 x303 => lpK c env lf 6 fi7 7 3 [] [1, 3, 4] (x7_3_0) n (f7_0_c l0_0 l0_3 l0_4 n0_1 n0_2 n0_5 n0_6 x302 x303)) = f7_0 c lf l0_0 l0_3 l0_4 n0_1 n0_2 n0_5 n0_6 n := by funext x302 x303; exact ih x302 x303
  show f7_0_s c lf l0_0 l0_3 l0_4 n0_1 n0_2 n0_5 n0_6 (fun x302 x303 => lpK c env lf 6 fi7 7 3 [] [1, 3, 4] (x7_3_0) n (f7_0_c l0_0 l0_3 l0_4 n0_1 n0_2 n0_5 n0_6 x302 x303)) x302 x303 = _
  rw [e]; rfl
def f7_2_s (c : Orc) (lf : Nat) (x312 : Int) (x313 : List T) (x314 x315 : Int) (x316 x317 : List T) (x318 x319 : Int) (L : List T → Int → Option (List T)) (x321 : List T) (x322 : Int) : Option (List T) :=
 bif inR x312 x317.length then
 bif iLt x322 ((asL (T.cell (x317.getD x312.toNat T.u) 1)).length : Int) then
  bif inR x312 x317.length then
  bif inR x322 ((asL (T.cell (x317.getD x312.toNat T.u) 1)).length) then
  (c 25 [T.sl x321, T.i .i64 (asI (T.cell ((asL (T.cell (x317.getD x312.toNat T.u) 1)).getD x322.toNat T.u) 1))]).bind fun r323 =>
  L (asL (nth r323 0)) (IntKind.wrap .i64 (x322 + 1))
  else none
  else none
 else
  some [T.i .i64 0, T.sl x321, T.i .i64 x312, T.sl x313, T.i .i64 x314, T.i .i64 x315, T.sl x316, T.sl x317, T.i .i64 x318, T.i .i64 x319]
 else none
def f7_2_c (x312 : Int) (x313 : List T) (x314 x315 : Int) (x316 x317 : List T) (x318 x319 : Int) (x321 : List T) (x322 : Int) : CSt := ⟨[.bp 7 0, .ro 0 false [.i .i64] x321, .i .i64 x312, .i .i64 x322], [.dead, .dead, .dead, .dead, .dead, .dead, .dead, .box [.ro 0 true [.i .i64, .s, .b, .i .i64, .sl true [.i .i64, .i .i64, .i .i64, .sl false [.i .u8], .sl true [.s, .i .i64], .sl true [.s, .s]], .i .i64] x313, .i .i64 x314, .i .i64 x315, .ro 0 true [.i .i64, .s, .b, .i .i64, .i .i64] x316, .ro 0 true [.i .i64, .sl true [.i .i64, .i .i64]] x317, .i .i64 x318, .i .i64 x319]]⟩
theorem f7_2_round (c : Orc) (lf : Nat) (x312 : Int) (x313 : List T) (x314 x315 : Int) (x316 x317 : List T) (x318 x319 : Int) (L : CSt → Option (List T)) (x321 : List T) (x322 : Int) :
 roundK c env lf 6 fi7 7 10 [] [1, 3, 5, 6] (x7_10_0) L (f7_2_c x312 x313 x314 x315 x316 x317 x318 x319 x321 x322) = f7_2_s c lf x312 x313 x314 x315 x316 x317 x318 x319 (fun x321 x322 => L (f7_2_c x312 x313 x314 x315 x316 x317 x318 x319 x321 x322)) x321 x322 := by kernel_rfl
def f7_2 (c : Orc) (lf : Nat) (x312 : Int) (x313 : List T) (x314 x315 : Int) (x316 x317 : List T) (x318 x319 : Int) : Nat → List T → Int → Option (List T)
 | 0 => fun _ _ => none
 | n + 1 => fun x321 x322 => f7_2_s c lf x312 x313 x314 x315 x316 x317 x318 x319 (f7_2 c lf x312 x313 x314 x315 x316 x317 x318 x319 n) x321 x322
theorem f7_2_u (c : Orc) (lf : Nat) (x312 : Int) (x313 : List T) (x314 x315 : Int) (x316 x317 : List T) (x318 x319 : Int) (n : Nat) (x321 : List T) (x322 : Int) : f7_2 c lf x312 x313 x314 x315 x316 x317 x318 x319 (n + 1) x321 x322 = f7_2_s c lf x312 x313 x314 x315 x316 x317 x318 x319 (f7_2 c lf x312 x313 x314 x315 x316 x317 x318 x319 n) x321 x322 := rfl
theorem f7_2_eq (c : Orc) (lf : Nat) (x312 : Int) (x313 : List T) (x314 x315 : Int) (x316 x317 : List T) (x318 x319 : Int) (n : Nat) (x321 : List T) (x322 : Int) :
 lpK c env lf 6 fi7 7 10 [] [1, 3, 5, 6] (x7_10_0) n (f7_2_c x312 x313 x314 x315 x316 x317 x318 x319 x321 x322) = f7_2 c lf x312 x313 x314 x315 x316 x317 x318 x319 n x321 x322 := by
 induction n generalizing x321 x322 with
 | zero => rfl
 | succ n ih =>
  refine (f7_2_round c lf x312 x313 x314 x315 x316 x317 x318 x319 _ x321 x322).trans ?_
  have e : (fun x321 x322 => lpK c env lf 6 fi7 7 10 [] [1, 3, 5, 6] (x7_10_0) n (f7_2_c x312 x313 x314 x315 x316 x317 x318 x319 x321 x322)) = f7_2 c lf x312 x313 x314 x315 x316 x317 x318 x319 n := by funext x321 x322; exact ih x321 x322
  show f7_2_s c lf x312 x313 x314 x315 x316 x317 x318 x319 (fun x321 x322 => lpK c env lf 6 fi7 7 10 [] [1, 3, 5, 6] (x7_10_0) n (f7_2_c x312 x313 x314 x315 x316 x317 x318 x319 x321 x322)) x321 x322 = _
  rw [e]; rfl
def f7_1_s (c : Orc) (lf : Nat) (L : List T → Int → List T → Int → Int → List T → List T → Int → Int → Option (List T)) (lp0 : Int → List T → Int → Int → List T → List T → Int → Int → List T → Int → Option (List T)) (x311 : List T) (x312 : Int) (x313 : List T) (x314 x315 : Int) (x316 x317 : List T) (x318 x319 : Int) : Option (List T) :=
 bif iLt x312 (x317.length : Int) then
  (lp0 x312 x313 x314 x315 x316 x317 x318 x319 x311 0).bind fun r324 =>
  L (asL (nth r324 1)) (IntKind.wrap .i64 ((asI (nth r324 2)) + 1)) (asL (nth r324 3)) (asI (nth r324 4)) (asI (nth r324 5)) (asL (nth r324 6)) (asL (nth r324 7)) (asI (nth r324 8)) (asI (nth r324 9))
 else
  some [T.i .i64 0, T.sl x311]
def f7_1_c (x311 : List T) (x312 : Int) (x313 : List T) (x314 x315 : Int) (x316 x317 : List T) (x318 x319 : Int) : CSt := ⟨[.bp 7 0, .ro 0 false [.i .i64] x311, .i .i64 x312], [.dead, .dead, .dead, .dead, .dead, .dead, .dead, .box [.ro 0 true [.i .i64, .s, .b, .i .i64, .sl true [.i .i64, .i .i64, .i .i64, .sl false [.i .u8], .sl true [.s, .i .i64], .sl true [.s, .s]], .i .i64] x313, .i .i64 x314, .i .i64 x315, .ro 0 true [.i .i64, .s, .b, .i .i64, .i .i64] x316, .ro 0 true [.i .i64, .sl true [.i .i64, .i .i64]] x317, .i .i64 x318, .i .i64 x319]]⟩
theorem f7_1_round (c : Orc) (lf : Nat) (L : CSt → Option (List T)) (x311 : List T) (x312 : Int) (x313 : List T) (x314 x315 : Int) (x316 x317 : List T) (x318 x319 : Int) :
 roundK c env lf 6 fi7 7 7 [] [1, 3, 5] (x7_7_0) L (f7_1_c x311 x312 x313 x314 x315 x316 x317 x318 x319) = f7_1_s c lf (fun x311 x312 x313 x314 x315 x316 x317 x318 x319 => L (f7_1_c x311 x312 x313 x314 x315 x316 x317 x318 x319)) (fun (x312 : Int) (x313 : List T) (x314 x315 : Int) (x316 x317 : List T) (x318 x319 : Int) (x321 : List T) (x322 : Int) => lpK c env lf 6 fi7 7 10 [] [1, 3, 5, 6] (x7_10_0) lf (f7_2_c x312 x313 x314 x315 x316 x317 x318 x319 x321 x322)) x311 x312 x313 x314 x315 x316 x317 x318 x319 := by kernel_rfl
def f7_1 (c : Orc) (lf : Nat) : Nat → List T → Int → List T → Int → Int → List T → List T → Int → Int → Option (List T)
 | 0 => fun _ _ _ _ _ _ _ _ _ => none
 | n + 1 => fun x311 x312 x313 x314 x315 x316 x317 x318 x319 => f7_1_s c lf (f7_1 c lf n) (fun (x312 : Int) (x313 : List T) (x314 x315 : Int) (x316 x317 : List T) (x318 x319 : Int) (x321 : List T) (x322 : Int) => f7_2 c lf x312 x313 x314 x315 x316 x317 x318 x319 lf x321 x322) x311 x312 x313 x314 x315 x316 x317 x318 x319
theorem f7_1_u (c : Orc) (lf n : Nat) (x311 : List T) (x312 : Int) (x313 : List T) (x314 x315 : Int) (x316 x317 : List T) (x318 x319 : Int) : f7_1 c lf (n + 1) x311 x312 x313 x314 x315 x316 x317 x318 x319 = f7_1_s c lf (f7_1 c lf n) (fun (x312 : Int) (x313 : List T) (x314 x315 : Int) (x316 x317 : List T) (x318 x319 : Int) (x321 : List T) (x322 : Int) => f7_2 c lf x312 x313 x314 x315 x316 x317 x318 x319 lf x321 x322) x311 x312 x313 x314 x315 x316 x317 x318 x319 := rfl
theorem f7_1_eq (c : Orc) (lf n : Nat) (x311 : List T) (x312 : Int) (x313 : List T) (x314 x315 : Int) (x316 x317 : List T) (x318 x319 : Int) :
 lpK c env lf 6 fi7 7 7 [] [1, 3, 5] (x7_7_0) n (f7_1_c x311 x312 x313 x314 x315 x316 x317 x318 x319) = f7_1 c lf n x311 x312 x313 x314 x315 x316 x317 x318 x319 := by
 induction n generalizing x311 x312 x313 x314 x315 x316 x317 x318 x319 with
 | zero => rfl
 | succ n ih =>
  refine (f7_1_round c lf _ x311 x312 x313 x314 x315 x316 x317 x318 x319).trans ?_
  have e : (fun x311 x312 x313 x314 x315 x316 x317 x318 x319 => lpK c env lf 6 fi7 7 7 [] [1, 3, 5] (x7_7_0) n (f7_1_c x311 x312 x313 x314 x315 x316 x317 x318 x319)) = f7_1 c lf n := by funext x311 x312 x313 x314 x315 x316 x317 x318 x319; exact ih x311 x312 x313 x314 x315 x316 x317 x318 x319
  have e0 : (fun (x312 : Int) (x313 : List T) (x314 x315 : Int) (x316 x317 : List T) (x318 x319 : Int) (x321 : List T) (x322 : Int) => lpK c env lf 6 fi7 7 10 [] [1, 3, 5, 6] (x7_10_0) lf (f7_2_c x312 x313 x314 x315 x316 x317 x318 x319 x321 x322)) = (fun (x312 : Int) (x313 : List T) (x314 x315 : Int) (x316 x317 : List T) (x318 x319 : Int) (x321 : List T) (x322 : Int) => f7_2 c lf x312 x313 x314 x315 x316 x317 x318 x319 lf x321 x322) := by funext x312 x313 x314 x315 x316 x317 x318 x319 x321 x322; exact f7_2_eq c lf x312 x313 x314 x315 x316 x317 x318 x319 lf x321 x322
  show f7_1_s c lf (fun x311 x312 x313 x314 x315 x316 x317 x318 x319 => lpK c env lf 6 fi7 7 7 [] [1, 3, 5] (x7_7_0) n (f7_1_c x311 x312 x313 x314 x315 x316 x317 x318 x319)) (fun (x312 : Int) (x313 : List T) (x314 x315 : Int) (x316 x317 : List T) (x318 x319 : Int) (x321 : List T) (x322 : Int) => lpK c env lf 6 fi7 7 10 [] [1, 3, 5, 6] (x7_10_0) lf (f7_2_c x312 x313 x314 x315 x316 x317 x318 x319 x321 x322)) x311 x312 x313 x314 x315 x316 x317 x318 x319 = _
  rw [e, e0]; rfl
def f7_t (c : Orc) (lf : Nat) (lp0 : List T → List T → List T → Int → Int → Int → Int → List T → Int → Option (List T)) (lp1 : List T → Int → List T → Int → Int → List T → List T → Int → Int → Option (List T)) (l0_0 : List T) (n0_1 n0_2 : Int) (l0_3 l0_4 : List T) (n0_5 n0_6 : Int) : Option (List T) :=
 (c 25 [T.sl ([] : List T), T.i .i64 n0_6]).bind fun r299 =>
 (c 25 [T.sl (asL (nth r299 0)), T.i .i64 n0_5]).bind fun r300 =>
 (lp0 l0_0 l0_3 l0_4 n0_1 n0_2 n0_5 n0_6 (asL (nth r300 0)) 0).bind fun r305 =>
 (lp1 (asL (nth r305 1)) 0 (asL (nth r305 2)) (asI (nth r305 3)) (asI (nth r305 4)) (asL (nth r305 5)) (asL (nth r305 6)) (asI (nth r305 7)) (asI (nth r305 8))).bind fun r325 =>
 some [T.sl (asL (nth r325 1))]
def f7 (c : Orc) (lf : Nat) (l0_0 : List T) (n0_1 n0_2 : Int) (l0_3 l0_4 : List T) (n0_5 n0_6 : Int) : Option (List T) := f7_t c lf (fun (l0_0 l0_3 l0_4 : List T) (n0_1 n0_2 : Int) (n0_5 n0_6 : Int) (x302 : List T) (x303 : Int) => f7_0 c lf l0_0 l0_3 l0_4 n0_1 n0_2 n0_5 n0_6 lf x302 x303) (fun (x311 : List T) (x312 : Int) (x313 : List T) (x314 x315 : Int) (x316 x317 : List T) (x318 x319 : Int) => f7_1 c lf lf x311 x312 x313 x314 x315 x316 x317 x318 x319) l0_0 n0_1 n0_2 l0_3 l0_4 n0_5 n0_6
theorem f7_raw (c : Orc) (lf : Nat) (l0_0 : List T) (n0_1 n0_2 : Int) (l0_3 l0_4 : List T) (n0_5 n0_6 : Int) : funK c env lf 6 fi7 [.st [.sl l0_0, .i .i64 n0_1, .i .i64 n0_2, .sl l0_3, .sl l0_4, .i .i64 n0_5, .i .i64 n0_6]] = f7_t c lf (fun (l0_0 l0_3 l0_4 : List T) (n0_1 n0_2 : Int) (n0_5 n0_6 : Int) (x302 : List T) (x303 : Int) => lpK c env lf 6 fi7 7 3 [] [1, 3, 4] (x7_3_0) lf (f7_0_c l0_0 l0_3 l0_4 n0_1 n0_2 n0_5 n0_6 x302 x303)) (fun (x311 : List T) (x312 : Int) (x313 : List T) (x314 x315 : Int) (x316 x317 : List T) (x318 x319 : Int) => lpK c env lf 6 fi7 7 7 [] [1, 3, 5] (x7_7_0) lf (f7_1_c x311 x312 x313 x314 x315 x316 x317 x318 x319)) l0_0 n0_1 n0_2 l0_3 l0_4 n0_5 n0_6 := by kernel_rfl
theorem f7_eq (c : Orc) (lf : Nat) (l0_0 : List T) (n0_1 n0_2 : Int) (l0_3 l0_4 : List T) (n0_5 n0_6 : Int) : funK c env lf 6 fi7 [.st [.sl l0_0, .i .i64 n0_1, .i .i64 n0_2, .sl l0_3, .sl l0_4, .i .i64 n0_5, .i .i64 n0_6]] = f7 c lf l0_0 n0_1 n0_2 l0_3 l0_4 n0_5 n0_6 := by
 refine (f7_raw c lf l0_0 n0_1 n0_2 l0_3 l0_4 n0_5 n0_6).trans ?_
 have e0 : (fun (l0_0 l0_3 l0_4 : List T) (n0_1 n0_2 : Int) (n0_5 n0_6 : Int) (x302 : List T) (x303 : Int) => lpK c env lf 6 fi7 7 3 [] [1, 3, 4] (x7_3_0) lf (f7_0_c l0_0 l0_3 l0_4 n0_1 n0_2 n0_5 n0_6 x302 x303)) = (fun (l0_0 l0_3 l0_4 : List T) (n0_1 n0_2 : Int) (n0_5 n0_6 : Int) (x302 : List T) (x303 : Int) => f7_0 c lf l0_0 l0_3 l0_4 n0_1 n0_2 n0_5 n0_6 lf x302 x303) := by funext l0_0 l0_3 l0_4 n0_1 n0_2 n0_5 n0_6 x302 x303; exact f7_0_eq c lf l0_0 l0_3 l0_4 n0_1 n0_2 n0_5 n0_6 lf x302 x303
 have e1 : (fun (x311 : List T) (x312 : Int) (x313 : List T) (x314 x315 : Int) (x316 x317 : List T) (x318 x319 : Int) => lpK c env lf 6 fi7 7 7 [] [1, 3, 5] (x7_7_0) lf (f7_1_c x311 x312 x313 x314 x315 x316 x317 x318 x319)) = (fun (x311 : List T) (x312 : Int) (x313 : List T) (x314 x315 : Int) (x316 x317 : List T) (x318 x319 : Int) => f7_1 c lf lf x311 x312 x313 x314 x315 x316 x317 x318 x319) := by funext x311 x312 x313 x314 x315 x316 x317 x318 x319; exact f7_1_eq c lf lf x311 x312 x313 x314 x315 x316 x317 x318 x319
 rw [e0, e1]; rfl
def f16_0_s (c : Orc) (lf : Nat) (b0_3 : Bool) (l0_0 l0_2 : List T) (n2 n0_1 n0_4 : Int) (r332 : List T) (L : Int → Int → Option (List T)) (x334 x335 : Int) : Option (List T) :=
 bif iLe 0 n2 then
  bif iLt n2 (l0_0.length : Int) then
   bif inR n2 l0_0.length then
   bif iLt x335 ((asL (T.cell (l0_0.getD n2.toNat T.u) 0)).length : Int) then
    bif inR n2 l0_0.length then
    bif inR x335 ((asL (T.cell (l0_0.getD n2.toNat T.u) 0)).length) then
    bif asB (T.cell ((asL (T.cell (l0_0.getD n2.toNat T.u) 0)).getD x335.toNat T.u) 0) then
     (c 42 [T.sl (asL (nth r332 0)), T.i .i64 (IntKind.wrap .i64 ((IntKind.wrap .i64 (n2 * 8)) + x335))]).bind fun r336 =>
     bif !(asB (nth r336 0)) then
      L (IntKind.wrap .i64 (x334 + 1)) (IntKind.wrap .i64 (x335 + 1))
     else
      L x334 (IntKind.wrap .i64 (x335 + 1))
    else
     L x334 (IntKind.wrap .i64 (x335 + 1))
    else none
    else none
   else
    some [T.i .i64 0, T.i .i64 x334]
   else none
  else
   some [T.i .i64 0, T.i .i64 x334]
 else
  some [T.i .i64 0, T.i .i64 x334]
def f16_0_c (b0_3 : Bool) (l0_0 l0_2 : List T) (n2 n0_1 n0_4 : Int) (r332 : List T) (x334 x335 : Int) : CSt := ⟨[.i .i64 n2, .bp 13 0, .ro 0 false [.i .i64] (asL (nth r332 0)), .i .i64 x334, .i .i64 x335], [.dead, .dead, .dead, .dead, .dead, .dead, .dead, .dead, .dead, .dead, .dead, .dead, .dead, .box [.ro 0 true [.sl true [.b, .sl false [.i .u8]], .i .i64, .b] l0_0, .i .i64 n0_1, .ro 0 true [.i .i64, .i .i64, .i .i64] l0_2, .b b0_3, .i .i64 n0_4]]⟩
theorem f16_0_round (c : Orc) (lf : Nat) (b0_3 : Bool) (l0_0 l0_2 : List T) (n2 n0_1 n0_4 : Int) (r332 : List T) (L : CSt → Option (List T)) (x334 x335 : Int) :
 roundK c env lf 6 fi16 13 4 [] [2, 3, 7, 8, 9] (x16_4_0) L (f16_0_c b0_3 l0_0 l0_2 n2 n0_1 n0_4 r332 x334 x335) = f16_0_s c lf b0_3 l0_0 l0_2 n2 n0_1 n0_4 r332 (fun x334 x335 => L (f16_0_c b0_3 l0_0 l0_2 n2 n0_1 n0_4 r332 x334 x335)) x334 x335 := by kernel_rfl
def f16_0 (c : Orc) (lf : Nat) (b0_3 : Bool) (l0_0 l0_2 : List T) (n2 n0_1 n0_4 : Int) (r332 : List T) : Nat → Int → Int → Option (List T)
 | 0 => fun _ _ => none
 | n + 1 => fun x334 x335 => f16_0_s c lf b0_3 l0_0 l0_2 n2 n0_1 n0_4 r332 (f16_0 c lf b0_3 l0_0 l0_2 n2 n0_1 n0_4 r332 n) x334 x335
theorem f16_0_u (c : Orc) (lf : Nat) (b0_3 : Bool) (l0_0 l0_2 : List T) (n2 n0_1 n0_4 : Int) (r332 : List T) (n : Nat) (x334 x335 : Int) : f16_0 c lf b0_3 l0_0 l0_2 n2 n0_1 n0_4 r332 (n + 1) x334 x335 = f16_0_s c lf b0_3 l0_0 l0_2 n2 n0_1 n0_4 r332 (f16_0 c lf b0_3 l0_0 l0_2 n2 n0_1 n0_4 r332 n) x334 x335 := rfl
theorem f16_0_eq (c : Orc) (lf : Nat) (b0_3 : Bool) (l0_0 l0_2 : List T) (n2 n0_1 n0_4 : Int) (r332 : List T) (n : Nat) (x334 x335 : Int) :
 lpK c env lf 6 fi16 13 4 [] [2, 3, 7, 8, 9] (x16_4_0) n (f16_0_c b0_3 l0_0 l0_2 n2 n0_1 n0_4 r332 x334 x335) = f16_0 c lf b0_3 l0_0 l0_2 n2 n0_1 n0_4 r332 n x334 x335 := by
 induction n generalizing x334 x335 with
 | zero => rfl
 | succ n ih =>
  refine (f16_0_round c lf b0_3 l0_0 l0_2 n2 n0_1 n0_4 r332 _ x334 x335).trans ?_
  have e : (fun x334 x335 => lpK c env lf 6 fi16 13 4 [] [2, 3, 7, 8, 9] (x16_4_0) n (f16_0_c b0_3 l0_0 l0_2 n2 n0_1 n0_4 r332 x334 x335)) = f16_0 c lf b0_3 l0_0 l0_2 n2 n0_1 n0_4 r332 n := by funext x334 x335; exact ih x334 x335
  show f16_0_s c lf b0_3 l0_0 l0_2 n2 n0_1 n0_4 r332 (fun x334 x335 => lpK c env lf 6 fi16 13 4 [] [2, 3, 7, 8, 9] (x16_4_0) n (f16_0_c b0_3 l0_0 l0_2 n2 n0_1 n0_4 r332 x334 x335)) x334 x335 = _
  rw [e]; rfl
def f16_t (c : Orc) (lf : Nat) (lp0 : Bool → List T → List T → Int → Int → Int → List T → Int → Int → Option (List T)) (l0_0 : List T) (n0_1 : Int) (l0_2 : List T) (b0_3 : Bool) (n0_4 : Int) (l1_0 : List T) (n1_1 n1_2 : Int) (l1_3 l1_4 : List T) (n1_5 n1_6 n2 : Int) : Option (List T) :=
 (c 7 [T.st [T.sl l1_0, T.i .i64 n1_1, T.i .i64 n1_2, T.sl l1_3, T.sl l1_4, T.i .i64 n1_5, T.i .i64 n1_6]]).bind fun r332 =>
 (lp0 b0_3 l0_0 l0_2 n2 n0_1 n0_4 r332 0 0).bind fun r337 =>
 some [T.i .i64 (asI (nth r337 1))]
def f16 (c : Orc) (lf : Nat) (l0_0 : List T) (n0_1 : Int) (l0_2 : List T) (b0_3 : Bool) (n0_4 : Int) (l1_0 : List T) (n1_1 n1_2 : Int) (l1_3 l1_4 : List T) (n1_5 n1_6 n2 : Int) : Option (List T) := f16_t c lf (fun (b0_3 : Bool) (l0_0 l0_2 : List T) (n2 n0_1 n0_4 : Int) (r332 : List T) (x334 x335 : Int) => f16_0 c lf b0_3 l0_0 l0_2 n2 n0_1 n0_4 r332 lf x334 x335) l0_0 n0_1 l0_2 b0_3 n0_4 l1_0 n1_1 n1_2 l1_3 l1_4 n1_5 n1_6 n2
theorem f16_raw (c : Orc) (lf : Nat) (l0_0 : List T) (n0_1 : Int) (l0_2 : List T) (b0_3 : Bool) (n0_4 : Int) (l1_0 : List T) (n1_1 n1_2 : Int) (l1_3 l1_4 : List T) (n1_5 n1_6 n2 : Int) : funK c env lf 6 fi16 [.st [.sl l0_0, .i .i64 n0_1, .sl l0_2, .b b0_3, .i .i64 n0_4], .st [.sl l1_0, .i .i64 n1_1, .i .i64 n1_2, .sl l1_3, .sl l1_4, .i .i64 n1_5, .i .i64 n1_6], .i .i64 n2] = f16_t c lf (fun (b0_3 : Bool) (l0_0 l0_2 : List T) (n2 n0_1 n0_4 : Int) (r332 : List T) (x334 x335 : Int) => lpK c env lf 6 fi16 13 4 [] [2, 3, 7, 8, 9] (x16_4_0) lf (f16_0_c b0_3 l0_0 l0_2 n2 n0_1 n0_4 r332 x334 x335)) l0_0 n0_1 l0_2 b0_3 n0_4 l1_0 n1_1 n1_2 l1_3 l1_4 n1_5 n1_6 n2 := by kernel_rfl
theorem f16_eq (c : Orc) (lf : Nat) (l0_0 : List T) (n0_1 : Int) (l0_2 : List T) (b0_3 : Bool) (n0_4 : Int) (l1_0 : List T) (n1_1 n1_2 : Int) (l1_3 l1_4 : List T) (n1_5 n1_6 n2 : Int) : funK c env lf 6 fi16 [.st [.sl l0_0, .i .i64 n0_1, .sl l0_2, .b b0_3, .i .i64 n0_4], .st [.sl l1_0, .i .i64 n1_1, .i .i64 n1_2, .sl l1_3, .sl l1_4, .i .i64 n1_5, .i .i64 n1_6], .i .i64 n2] = f16 c lf l0_0 n0_1 l0_2 b0_3 n0_4 l1_0 n1_1 n1_2 l1_3 l1_4 n1_5 n1_6 n2 := by
 refine (f16_raw c lf l0_0 n0_1 l0_2 b0_3 n0_4 l1_0 n1_1 n1_2 l1_3 l1_4 n1_5 n1_6 n2).trans ?_
 have e0 : (fun (b0_3 : Bool) (l0_0 l0_2 : List T) (n2 n0_1 n0_4 : Int) (r332 : List T) (x334 x335 : Int) => lpK c env lf 6 fi16 13 4 [] [2, 3, 7, 8, 9] (x16_4_0) lf (f16_0_c b0_3 l0_0 l0_2 n2 n0_1 n0_4 r332 x334 x335)) = (fun (b0_3 : Bool) (l0_0 l0_2 : List T) (n2 n0_1 n0_4 : Int) (r332 : List T) (x334 x335 : Int) => f16_0 c lf b0_3 l0_0 l0_2 n2 n0_1 n0_4 r332 lf x334 x335) := by funext b0_3 l0_0 l0_2 n2 n0_1 n0_4 r332 x334 x335; exact f16_0_eq c lf b0_3 l0_0 l0_2 n2 n0_1 n0_4 r332 lf x334 x335
 rw [e0]; rfl
def f20_0_s (c : Orc) (lf : Nat) (b0_3 : Bool) (l0_0 l0_2 : List T) (l1_0 l1_3 l1_4 : List T) (n0_1 n0_4 : Int) (n1_1 n1_2 : Int) (n1_5 n1_6 : Int) (L : Int → Int → Int → Option (List T)) (x349 x350 x348 : Int) : Option (List T) :=
 bif iLt x348 (l0_0.length : Int) then
  bif inR x348 l0_0.length then
  bif asB (T.cell (l0_0.getD x348.toNat T.u) 2) then
   L x349 x350 (IntKind.wrap .i64 (x348 + 1))
  else
   (c 47 [T.st [T.sl (asL (T.cell (l0_0.getD x348.toNat T.u) 0)), T.i .i64 (asI (T.cell (l0_0.getD x348.toNat T.u) 1)), T.b (asB (T.cell (l0_0.getD x348.toNat T.u) 2))]]).bind fun r351 =>
   bif (asI (nth r351 0)) != 8 then
    L x349 x350 (IntKind.wrap .i64 (x348 + 1))
   else
    (c 16 [T.st [T.sl l0_0, T.i .i64 n0_1, T.sl l0_2, T.b b0_3, T.i .i64 n0_4], T.st [T.sl l1_0, T.i .i64 n1_1, T.i .i64 n1_2, T.sl l1_3, T.sl l1_4, T.i .i64 n1_5, T.i .i64 n1_6], T.i .i64 x348]).bind fun r352 =>
    bif iLt x350 (asI (nth r352 0)) then
     L x348 (asI (nth r352 0)) (IntKind.wrap .i64 (x348 + 1))
    else
     L x349 x350 (IntKind.wrap .i64 (x348 + 1))
  else none
 else
  some [T.i .i64 0, T.i .i64 x349]
def f20_0_c (b0_3 : Bool) (l0_0 l0_2 : List T) (l1_0 l1_3 l1_4 : List T) (n0_1 n0_4 : Int) (n1_1 n1_2 : Int) (n1_5 n1_6 : Int) (x349 x350 x348 : Int) : CSt := ⟨[.bp 12 0, .bp 13 0, .i .i64 x349, .i .i64 x350, .i .i64 x348], [.dead, .dead, .dead, .dead, .dead, .dead, .dead, .dead, .dead, .dead, .dead, .dead, .box [.ro 0 true [.sl true [.b, .sl false [.i .u8]], .i .i64, .b] l0_0, .i .i64 n0_1, .ro 0 true [.i .i64, .i .i64, .i .i64] l0_2, .b b0_3, .i .i64 n0_4], .box [.ro 0 true [.i .i64, .s, .b, .i .i64, .sl true [.i .i64, .i .i64, .i .i64, .sl false [.i .u8], .sl true [.s, .i .i64], .sl true [.s, .s]], .i .i64] l1_0, .i .i64 n1_1, .i .i64 n1_2, .ro 0 true [.i .i64, .s, .b, .i .i64, .i .i64] l1_3, .ro 0 true [.i .i64, .sl true [.i .i64, .i .i64]] l1_4, .i .i64 n1_5, .i .i64 n1_6]]⟩
theorem f20_0_round (c : Orc) (lf : Nat) (b0_3 : Bool) (l0_0 l0_2 : List T) (l1_0 l1_3 l1_4 : List T) (n0_1 n0_4 : Int) (n1_1 n1_2 : Int) (n1_5 n1_6 : Int) (L : CSt → Option (List T)) (x349 x350 x348 : Int) :
 roundK c env lf 6 fi20 12 4 [] [2, 3, 5, 6, 7] (x20_4_0) L (f20_0_c b0_3 l0_0 l0_2 l1_0 l1_3 l1_4 n0_1 n0_4 n1_1 n1_2 n1_5 n1_6 x349 x350 x348) = f20_0_s c lf b0_3 l0_0 l0_2 l1_0 l1_3 l1_4 n0_1 n0_4 n1_1 n1_2 n1_5 n1_6 (fun x349 x350 x348 => L (f20_0_c b0_3 l0_0 l0_2 l1_0 l1_3 l1_4 n0_1 n0_4 n1_1 n1_2 n1_5 n1_6 x349 x350 x348)) x349 x350 x348 := by kernel_rfl
def f20_0 (c : Orc) (lf : Nat) (b0_3 : Bool) (l0_0 l0_2 : List T) (l1_0 l1_3 l1_4 : List T) (n0_1 n0_4 : Int) (n1_1 n1_2 : Int) (n1_5 n1_6 : Int) : Nat → Int → Int → Int → Option (List T)
 | 0 => fun _ _ _ => none
 | n + 1 => fun x349 x350 x348 => f20_0_s c lf b0_3 l0_0 l0_2 l1_0 l1_3 l1_4 n0_1 n0_4 n1_1 n1_2 n1_5 n1_6 (f20_0 c lf b0_3 l0_0 l0_2 l1_0 l1_3 l1_4 n0_1 n0_4 n1_1 n1_2 n1_5 n1_6 n) x349 x350 x348
theorem f20_0_u (c : Orc) (lf : Nat) (b0_3 : Bool) (l0_0 l0_2 : List T) (l1_0 l1_3 l1_4 : List T) (n0_1 n0_4 : Int) (n1_1 n1_2 : Int) (n1_5 n1_6 : Int) (n : Nat) (x349 x350 x348 : Int) : f20_0 c lf b0_3 l0_0 l0_2 l1_0 l1_3 l1_4 n0_1 n0_4 n1_1 n1_2 n1_5 n1_6 (n + 1) x349 x350 x348 = f20_0_s c lf b0_3 l0_0 l0_2 l1_0 l1_3 l1_4 n0_1 n0_4 n1_1 n1_2 n1_5 n1_6 (f20_0 c lf b0_3 l0_0 l0_2 l1_0 l1_3 l1_4 n0_1 n0_4 n1_1 n1_2 n1_5 n1_6 n) x349 x350 x348 := rfl
theorem f20_0_eq (c : Orc) (lf : Nat) (b0_3 : Bool) (l0_0 l0_2 : List T) (l1_0 l1_3 l1_4 : List T) (n0_1 n0_4 : Int) (n1_1 n1_2 : Int) (n1_5 n1_6 : Int) (n : Nat) (x349 x350 x348 : Int) :
 lpK c env lf 6 fi20 12 4 [] [2, 3, 5, 6, 7] (x20_4_0) n (f20_0_c b0_3 l0_0 l0_2 l1_0 l1_3 l1_4 n0_1 n0_4 n1_1 n1_2 n1_5 n1_6 x349 x350 x348) = f20_0 c lf b0_3 l0_0 l0_2 l1_0 l1_3 l1_4 n0_1 n0_4 n1_1 n1_2 n1_5 n1_6 n x349 x350 x348 := by
 induction n generalizing x349 x350 x348 with
 | zero => rfl
 | succ n ih =>
  refine (f20_0_round c lf b0_3 l0_0 l0_2 l1_0 l1_3 l1_4 n0_1 n0_4 n1_1 n1_2 n1_5 n1_6 _ x349 x350 x348).trans ?_
  have e : (fun x349 x350 x348 => lpK c env lf 6 fi20 12 4 [] [2, 3, 5, 6, 7] (x20_4_0) n (f20_0_c b0_3 l0_0 l0_2 l1_0 l1_3 l1_4 n0_1 n0_4 n1_1 n1_2 n1_5 n1_6 x349 x350 x348)) = f20_0 c lf b0_3 l0_0 l0_2 l1_0 l1_3 l1_4 n0_1 n0_4 n1_1 n1_2 n1_5 n1_6 n := by funext x349 x350 x348; exact ih x349 x350 x348
  show f20_0_s c lf b0_3 l0_0 l0_2 l1_0 l1_3 l1_4 n0_1 n0_4 n1_1 n1_2 n1_5 n1_6 (fun x349 x350 x348 => lpK c env lf 6 fi20 12 4 [] [2, 3, 5, 6, 7] (x20_4_0) n (f20_0_c b0_3 l0_0 l0_2 l1_0 l1_3 l1_4 n0_1 n0_4 n1_1 n1_2 n1_5 n1_6 x349 x350 x348)) x349 x350 x348 = _
  rw [e]; rfl
def f20_t (c : Orc) (lf : Nat) (lp0 : Bool → List T → List T → List T → List T → List T → Int → Int → Int → Int → Int → Int → Int → Int → Int → Option (List T)) (l0_0 : List T) (n0_1 : Int) (l0_2 : List T) (b0_3 : Bool) (n0_4 : Int) (l1_0 : List T) (n1_1 n1_2 : Int) (l1_3 l1_4 : List T) (n1_5 n1_6 : Int) : Option (List T) :=
 (lp0 b0_3 l0_0 l0_2 l1_0 l1_3 l1_4 n0_1 n0_4 n1_1 n1_2 n1_5 n1_6 (-1) 0 0).bind fun r353 =>
 some [T.i .i64 (asI (nth r353 1))]
def f20 (c : Orc) (lf : Nat) (l0_0 : List T) (n0_1 : Int) (l0_2 : List T) (b0_3 : Bool) (n0_4 : Int) (l1_0 : List T) (n1_1 n1_2 : Int) (l1_3 l1_4 : List T) (n1_5 n1_6 : Int) : Option (List T) := f20_t c lf (fun (b0_3 : Bool) (l0_0 l0_2 : List T) (l1_0 l1_3 l1_4 : List T) (n0_1 n0_4 : Int) (n1_1 n1_2 : Int) (n1_5 n1_6 : Int) (x349 x350 x348 : Int) => f20_0 c lf b0_3 l0_0 l0_2 l1_0 l1_3 l1_4 n0_1 n0_4 n1_1 n1_2 n1_5 n1_6 lf x349 x350 x348) l0_0 n0_1 l0_2 b0_3 n0_4 l1_0 n1_1 n1_2 l1_3 l1_4 n1_5 n1_6
theorem f20_raw (c : Orc) (lf : Nat) (l0_0 : List T) (n0_1 : Int) (l0_2 : List T) (b0_3 : Bool) (n0_4 : Int) (l1_0 : List T) (n1_1 n1_2 : Int) (l1_3 l1_4 : List T) (n1_5 n1_6 : Int) : funK c env lf 6 fi20 [.st [.sl l0_0, .i .i64 n0_1, .sl l0_2, .b b0_3, .i .i64 n0_4], .st [.sl l1_0, .i .i64 n1_1, .i .i64 n1_2, .sl l1_3, .sl l1_4, .i .i64 n1_5, .i .i64 n1_6]] = f20_t c lf (fun (b0_3 : Bool) (l0_0 l0_2 : List T) (l1_0 l1_3 l1_4 : List T) (n0_1 n0_4 : Int) (n1_1 n1_2 : Int) (n1_5 n1_6 : Int) (x349 x350 x348 : Int) => lpK c env lf 6 fi20 12 4 [] [2, 3, 5, 6, 7] (x20_4_0) lf (f20_0_c b0_3 l0_0 l0_2 l1_0 l1_3 l1_4 n0_1 n0_4 n1_1 n1_2 n1_5 n1_6 x349 x350 x348)) l0_0 n0_1 l0_2 b0_3 n0_4 l1_0 n1_1 n1_2 l1_3 l1_4 n1_5 n1_6 := by kernel_rfl
theorem f20_eq (c : Orc) (lf : Nat) (l0_0 : List T) (n0_1 : Int) (l0_2 : List T) (b0_3 : Bool) (n0_4 : Int) (l1_0 : List T) (n1_1 n1_2 : Int) (l1_3 l1_4 : List T) (n1_5 n1_6 : Int) : funK c env lf 6 fi20 [.st [.sl l0_0, .i .i64 n0_1, .sl l0_2, .b b0_3, .i .i64 n0_4], .st [.sl l1_0, .i .i64 n1_1, .i .i64 n1_2, .sl l1_3, .sl l1_4, .i .i64 n1_5, .i .i64 n1_6]] = f20 c lf l0_0 n0_1 l0_2 b0_3 n0_4 l1_0 n1_1 n1_2 l1_3 l1_4 n1_5 n1_6 := by
 refine (f20_raw c lf l0_0 n0_1 l0_2 b0_3 n0_4 l1_0 n1_1 n1_2 l1_3 l1_4 n1_5 n1_6).trans ?_
 have e0 : (fun (b0_3 : Bool) (l0_0 l0_2 : List T) (l1_0 l1_3 l1_4 : List T) (n0_1 n0_4 : Int) (n1_1 n1_2 : Int) (n1_5 n1_6 : Int) (x349 x350 x348 : Int) => lpK c env lf 6 fi20 12 4 [] [2, 3, 5, 6, 7] (x20_4_0) lf (f20_0_c b0_3 l0_0 l0_2 l1_0 l1_3 l1_4 n0_1 n0_4 n1_1 n1_2 n1_5 n1_6 x349 x350 x348)) = (fun (b0_3 : Bool) (l0_0 l0_2 : List T) (l1_0 l1_3 l1_4 : List T) (n0_1 n0_4 : Int) (n1_1 n1_2 : Int) (n1_5 n1_6 : Int) (x349 x350 x348 : Int) => f20_0 c lf b0_3 l0_0 l0_2 l1_0 l1_3 l1_4 n0_1 n0_4 n1_1 n1_2 n1_5 n1_6 lf x349 x350 x348) := by funext b0_3 l0_0 l0_2 l1_0 l1_3 l1_4 n0_1 n0_4 n1_1 n1_2 n1_5 n1_6 x349 x350 x348; exact f20_0_eq c lf b0_3 l0_0 l0_2 l1_0 l1_3 l1_4 n0_1 n0_4 n1_1 n1_2 n1_5 n1_6 lf x349 x350 x348
 rw [e0]; rfl
def f70_t (c : Orc) (lf : Nat) (n0 n1 n2 : Int) : Option (List T) :=
 bif iLe n1 n0 then
  some [T.b (iLe n0 n2)]
 else
  some [T.b false]
def f70 (c : Orc) (lf : Nat) (n0 n1 n2 : Int) : Option (List T) := f70_t c lf n0 n1 n2
theorem f70_eq (c : Orc) (lf : Nat) (n0 n1 n2 : Int) : funK c env lf 6 fi70 [.i .i64 n0, .i .i64 n1, .i .i64 n2] = f70 c lf n0 n1 n2 := by kernel_rfl
def f44_t (c : Orc) (lf : Nat) (l0_0 : List T) (n1 : Int) : Option (List T) :=
 (c 70 [T.i .i64 n1, T.i .i64 0, T.i .i64 (IntKind.wrap .i64 ((l0_0.length : Int) - 1))]).bind fun r354 =>
 some [T.b (asB (nth r354 0))]
def f44 (c : Orc) (lf : Nat) (l0_0 : List T) (n1 : Int) : Option (List T) := f44_t c lf l0_0 n1
theorem f44_eq (c : Orc) (lf : Nat) (l0_0 : List T) (n1 : Int) : funK c env lf 6 fi44 [.st [.sl l0_0], .i .i64 n1] = f44 c lf l0_0 n1 := by kernel_rfl
def f30_0_s (c : Orc) (lf : Nat) (l0_0 l0_3 l0_4 : List T) (n0_1 n0_2 : Int) (n0_5 n0_6 : Int) (L : Int → List T → Option (List T)) (x369 : Int) (x370 : List T) : Option (List T) :=
 bif iLt x369 (l0_3.length : Int) then
  bif inR x369 l0_3.length then
  bif inR x369 x370.length then
  bif okC (.sl false [.i .i64]) (x370.getD x369.toNat T.u) && true then
  bif nLe ((asL (x370.getD x369.toNat T.u)).length + ([T.i .i64 (asI (T.cell (l0_3.getD x369.toNat T.u) 4))] : List T).length) LIM then
  bif inR x369 ((x370.set x369.toNat T.u).length) then
  L (IntKind.wrap .i64 (x369 + 1)) ((x370.set x369.toNat T.u).set x369.toNat (T.sl ((asL (x370.getD x369.toNat T.u)) ++ ([T.i .i64 (asI (T.cell (l0_3.getD x369.toNat T.u) 4))] : List T))))
  else none
  else none
  else none
  else none
  else none
 else
  some [T.i .i64 0, T.sl l0_0, T.i .i64 n0_1, T.i .i64 n0_2, T.sl l0_3, T.sl l0_4, T.i .i64 n0_5, T.i .i64 n0_6, T.sl x370]
def f30_0_c (l0_0 l0_3 l0_4 : List T) (n0_1 n0_2 : Int) (n0_5 n0_6 x369 : Int) (x370 : List T) : CSt := ⟨[.bp 7 0, .rf 8 [] 0 none, .ro 0 true [.i .i64, .s, .b, .i .i64, .i .i64] l0_3, .i .i64 (l0_3.length : Int), .i .i64 x369], [.dead, .dead, .dead, .dead, .dead, .dead, .dead, .box [.ro 0 true [.i .i64, .s, .b, .i .i64, .sl true [.i .i64, .i .i64, .i .i64, .sl false [.i .u8], .sl true [.s, .i .i64], .sl true [.s, .s]], .i .i64] l0_0, .i .i64 n0_1, .i .i64 n0_2, .ro 0 true [.i .i64, .s, .b, .i .i64, .i .i64] l0_3, .ro 0 true [.i .i64, .sl true [.i .i64, .i .i64]] l0_4, .i .i64 n0_5, .i .i64 n0_6], .row false [.sl false [.i .i64]] x370 0 true]⟩
theorem f30_0_round (c : Orc) (lf : Nat) (l0_0 l0_3 l0_4 : List T) (n0_1 n0_2 : Int) (n0_5 n0_6 : Int) (L : CSt → Option (List T)) (x369 : Int) (x370 : List T) :
 roundK c env lf 6 fi30 7 3 [(3, 1)] [1, 3, 21, 22, 23] (x30_3_0) L (f30_0_c l0_0 l0_3 l0_4 n0_1 n0_2 n0_5 n0_6 x369 x370) = f30_0_s c lf l0_0 l0_3 l0_4 n0_1 n0_2 n0_5 n0_6 (fun x369 x370 => L (f30_0_c l0_0 l0_3 l0_4 n0_1 n0_2 n0_5 n0_6 x369 x370)) x369 x370 := by kernel_rfl
def f30_0 (c : Orc) (lf : Nat) (l0_0 l0_3 l0_4 : List T) (n0_1 n0_2 : Int) (n0_5 n0_6 : Int) : Nat → Int → List T → Option (List T)
 | 0 => fun _ _ => none
 | n + 1 => fun x369 x370 => f30_0_s c lf l0_0 l0_3 l0_4 n0_1 n0_2 n0_5 n0_6 (f30_0 c lf l0_0 l0_3 l0_4 n0_1 n0_2 n0_5 n0_6 n) x369 x370
theorem f30_0_u (c : Orc) (lf : Nat) (l0_0 l0_3 l0_4 : List T) (n0_1 n0_2 : Int) (n0_5 n0_6 : Int) (n : Nat) (x369 : Int) (x370 : List T) : f30_0 c lf l0_0 l0_3 l0_4 n0_1 n0_2 n0_5 n0_6 (n + 1) x369 x370 = f30_0_s c lf l0_0 l0_3 l0_4 n0_1 n0_2 n0_5 n0_6 (f30_0 c lf l0_0 l0_3 l0_4 n0_1 n0_2 n0_5 n0_6 n) x369 x370 := rfl
theorem f30_0_eq (c : Orc) (lf : Nat) (l0_0 l0_3 l0_4 : List T) (n0_1 n0_2 : Int) (n0_5 n0_6 : Int) (n : Nat) (x369 : Int) (x370 : List T) :
 lpK c env lf 6 fi30 7 3 [(3, 1)] [1, 3, 21, 22, 23] (x30_3_0) n (f30_0_c l0_0 l0_3 l0_4 n0_1 n0_2 n0_5 n0_6 x369 x370) = f30_0 c lf l0_0 l0_3 l0_4 n0_1 n0_2 n0_5 n0_6 n x369 x370 := by
 induction n generalizing x369 x370 with
 | zero => rfl
 | succ n ih =>
  refine (f30_0_round c lf l0_0 l0_3 l0_4 n0_1 n0_2 n0_5 n0_6 _ x369 x370).trans ?_
  have e : (fun x369 x370 => lpK c env lf 6 fi30 7 3 [(3, 1)] [1, 3, 21, 22, 23] (x30_3_0) n (f30_0_c l0_0 l0_3 l0_4 n0_1 n0_2 n0_5 n0_6 x369 x370)) = f30_0 c lf l0_0 l0_3 l0_4 n0_1 n0_2 n0_5 n0_6 n := by funext x369 x370; exact ih x369 x370
  show f30_0_s c lf l0_0 l0_3 l0_4 n0_1 n0_2 n0_5 n0_6 (fun x369 x370 => lpK c env lf 6 fi30 7 3 [(3, 1)] [1, 3, 21, 22, 23] (x30_3_0) n (f30_0_c l0_0 l0_3 l0_4 n0_1 n0_2 n0_5 n0_6 x369 x370)) x369 x370 = _
  rw [e]; rfl
def f30_2_s (c : Orc) (lf : Nat) (x375 : List T) (x376 x377 : Int) (L : Int → List T → Option (List T)) (x379 : Int) (x380 : List T) : Option (List T) :=
 bif iLt x379 ((asL (T.cell (x375.getD x377.toNat T.u) 1)).length : Int) then
  bif inR x379 ((asL (T.cell (x375.getD x377.toNat T.u) 1)).length) then
  bif inR x377 x380.length then
  bif okC (.sl false [.i .i64]) (x380.getD x377.toNat T.u) && true then
  bif nLe ((asL (x380.getD x377.toNat T.u)).length + ([T.i .i64 (asI (T.cell ((asL (T.cell (x375.getD x377.toNat T.u) 1)).getD x379.toNat T.u) 1))] : List T).length) LIM then
  bif inR x377 ((x380.set x377.toNat T.u).length) then
  L (IntKind.wrap .i64 (x379 + 1)) ((x380.set x377.toNat T.u).set x377.toNat (T.sl ((asL (x380.getD x377.toNat T.u)) ++ ([T.i .i64 (asI (T.cell ((asL (T.cell (x375.getD x377.toNat T.u) 1)).getD x379.toNat T.u) 1))] : List T))))
  else none
  else none
  else none
  else none
  else none
 else
  some [T.i .i64 0, T.sl x375, T.i .i64 x376, T.i .i64 x377, T.sl x380]
def f30_2_c (x375 : List T) (x376 x377 x379 : Int) (x380 : List T) : CSt := ⟨[.rf 7 [] 0 none, .i .i64 x377, .ro 0 true [.i .i64, .sl true [.i .i64, .i .i64]] x375, .i .i64 x376, .i .i64 x377, .ro 0 true [.i .i64, .i .i64] (asL (T.cell (x375.getD x377.toNat T.u) 1)), .i .i64 ((asL (T.cell (x375.getD x377.toNat T.u) 1)).length : Int), .i .i64 x379], [.dead, .dead, .dead, .dead, .dead, .dead, .dead, .row false [.sl false [.i .i64]] x380 0 true]⟩
theorem f30_2_round (c : Orc) (lf : Nat) (x375 : List T) (x376 x377 : Int) (L : CSt → Option (List T)) (x379 : Int) (x380 : List T) :
 roundK c env lf 6 fi30 7 11 [(3, 1)] [3, 6, 41, 42, 43, 49, 50, 51] (x30_11_0) L (f30_2_c x375 x376 x377 x379 x380) = f30_2_s c lf x375 x376 x377 (fun x379 x380 => L (f30_2_c x375 x376 x377 x379 x380)) x379 x380 := by kernel_rfl
def f30_2 (c : Orc) (lf : Nat) (x375 : List T) (x376 x377 : Int) : Nat → Int → List T → Option (List T)
 | 0 => fun _ _ => none
 | n + 1 => fun x379 x380 => f30_2_s c lf x375 x376 x377 (f30_2 c lf x375 x376 x377 n) x379 x380
theorem f30_2_u (c : Orc) (lf : Nat) (x375 : List T) (x376 x377 : Int) (n : Nat) (x379 : Int) (x380 : List T) : f30_2 c lf x375 x376 x377 (n + 1) x379 x380 = f30_2_s c lf x375 x376 x377 (f30_2 c lf x375 x376 x377 n) x379 x380 := rfl
theorem f30_2_eq (c : Orc) (lf : Nat) (x375 : List T) (x376 x377 : Int) (n : Nat) (x379 : Int) (x380 : List T) :
 lpK c env lf 6 fi30 7 11 [(3, 1)] [3, 6, 41, 42, 43, 49, 50, 51] (x30_11_0) n (f30_2_c x375 x376 x377 x379 x380) = f30_2 c lf x375 x376 x377 n x379 x380 := by
 induction n generalizing x379 x380 with
 | zero => rfl
 | succ n ih =>
  refine (f30_2_round c lf x375 x376 x377 _ x379 x380).trans ?_
  have e : (fun x379 x380 => lpK c env lf 6 fi30 7 11 [(3, 1)] [3, 6, 41, 42, 43, 49, 50, 51] (x30_11_0) n (f30_2_c x375 x376 x377 x379 x380)) = f30_2 c lf x375 x376 x377 n := by funext x379 x380; exact ih x379 x380
  show f30_2_s c lf x375 x376 x377 (fun x379 x380 => lpK c env lf 6 fi30 7 11 [(3, 1)] [3, 6, 41, 42, 43, 49, 50, 51] (x30_11_0) n (f30_2_c x375 x376 x377 x379 x380)) x379 x380 = _
  rw [e]; rfl
def f30_1_s (c : Orc) (lf : Nat) (L : List T → Int → Int → List T → Option (List T)) (lp0 : List T → Int → Int → Int → List T → Option (List T)) (x375 : List T) (x376 x377 : Int) (x378 : List T) : Option (List T) :=
 bif iLt x377 x376 then
  bif inR x377 x375.length then
  (lp0 x375 x376 x377 0 x378).bind fun r381 =>
  L (asL (nth r381 1)) (asI (nth r381 2)) (IntKind.wrap .i64 ((asI (nth r381 3)) + 1)) (asL (nth r381 4))
  else none
 else
  some [T.i .i64 0, T.sl x378]
def f30_1_c (x375 : List T) (x376 x377 : Int) (x378 : List T) : CSt := ⟨[.rf 7 [] 0 none, .ro 0 true [.i .i64, .sl true [.i .i64, .i .i64]] x375, .i .i64 x376, .i .i64 x377], [.dead, .dead, .dead, .dead, .dead, .dead, .dead, .row false [.sl false [.i .i64]] x378 0 true]⟩
theorem f30_1_round (c : Orc) (lf : Nat) (L : CSt → Option (List T)) (x375 : List T) (x376 x377 : Int) (x378 : List T) :
 roundK c env lf 6 fi30 7 8 [(3, 1)] [3, 41, 42, 43] (x30_8_0) L (f30_1_c x375 x376 x377 x378) = f30_1_s c lf (fun x375 x376 x377 x378 => L (f30_1_c x375 x376 x377 x378)) (fun (x375 : List T) (x376 x377 x379 : Int) (x380 : List T) => lpK c env lf 6 fi30 7 11 [(3, 1)] [3, 6, 41, 42, 43, 49, 50, 51] (x30_11_0) lf (f30_2_c x375 x376 x377 x379 x380)) x375 x376 x377 x378 := by kernel_rfl
def f30_1 (c : Orc) (lf : Nat) : Nat → List T → Int → Int → List T → Option (List T)
 | 0 => fun _ _ _ _ => none
 | n + 1 => fun x375 x376 x377 x378 => f30_1_s c lf (f30_1 c lf n) (fun (x375 : List T) (x376 x377 x379 : Int) (x380 : List T) => f30_2 c lf x375 x376 x377 lf x379 x380) x375 x376 x377 x378
theorem f30_1_u (c : Orc) (lf n : Nat) (x375 : List T) (x376 x377 : Int) (x378 : List T) : f30_1 c lf (n + 1) x375 x376 x377 x378 = f30_1_s c lf (f30_1 c lf n) (fun (x375 : List T) (x376 x377 x379 : Int) (x380 : List T) => f30_2 c lf x375 x376 x377 lf x379 x380) x375 x376 x377 x378 := rfl
theorem f30_1_eq (c : Orc) (lf n : Nat) (x375 : List T) (x376 x377 : Int) (x378 : List T) :
 lpK c env lf 6 fi30 7 8 [(3, 1)] [3, 41, 42, 43] (x30_8_0) n (f30_1_c x375 x376 x377 x378) = f30_1 c lf n x375 x376 x377 x378 := by
 induction n generalizing x375 x376 x377 x378 with
 | zero => rfl
 | succ n ih =>
  refine (f30_1_round c lf _ x375 x376 x377 x378).trans ?_
  have e : (fun x375 x376 x377 x378 => lpK c env lf 6 fi30 7 8 [(3, 1)] [3, 41, 42, 43] (x30_8_0) n (f30_1_c x375 x376 x377 x378)) = f30_1 c lf n := by funext x375 x376 x377 x378; exact ih x375 x376 x377 x378
  have e0 : (fun (x375 : List T) (x376 x377 x379 : Int) (x380 : List T) => lpK c env lf 6 fi30 7 11 [(3, 1)] [3, 6, 41, 42, 43, 49, 50, 51] (x30_11_0) lf (f30_2_c x375 x376 x377 x379 x380)) = (fun (x375 : List T) (x376 x377 x379 : Int) (x380 : List T) => f30_2 c lf x375 x376 x377 lf x379 x380) := by funext x375 x376 x377 x379 x380; exact f30_2_eq c lf x375 x376 x377 lf x379 x380
  show f30_1_s c lf (fun x375 x376 x377 x378 => lpK c env lf 6 fi30 7 8 [(3, 1)] [3, 41, 42, 43] (x30_8_0) n (f30_1_c x375 x376 x377 x378)) (fun (x375 : List T) (x376 x377 x379 : Int) (x380 : List T) => lpK c env lf 6 fi30 7 11 [(3, 1)] [3, 6, 41, 42, 43, 49, 50, 51] (x30_11_0) lf (f30_2_c x375 x376 x377 x379 x380)) x375 x376 x377 x378 = _
  rw [e, e0]; rfl
def f30_t (c : Orc) (lf : Nat) (lp0 : List T → List T → List T → Int → Int → Int → Int → Int → List T → Option (List T)) (lp1 : List T → Int → Int → List T → Option (List T)) (l0_0 : List T) (n0_1 n0_2 : Int) (l0_3 l0_4 : List T) (n0_5 n0_6 : Int) : Option (List T) :=
 bif iLe 0 (imax (l0_3.length : Int) (l0_4.length : Int)) && iLe (imax (l0_3.length : Int) (l0_4.length : Int)) (LIM : Int) && ((imax (l0_3.length : Int) (l0_4.length : Int)) == (imax (l0_3.length : Int) (l0_4.length : Int))) then
 (lp0 l0_0 l0_3 l0_4 n0_1 n0_2 n0_5 n0_6 0 (List.replicate (imax (l0_3.length : Int) (l0_4.length : Int)).toNat (T.sl []))).bind fun r371 =>
 (lp1 (asL (nth r371 5)) ((asL (nth r371 5)).length : Int) 0 (asL (nth r371 8))).bind fun r382 =>
 bif ((okL false [.sl false [.i .i64]] (asL (nth r382 1))) && true) && true then
 some [T.sl (asL (nth r382 1))]
 else none
 else none
def f30 (c : Orc) (lf : Nat) (l0_0 : List T) (n0_1 n0_2 : Int) (l0_3 l0_4 : List T) (n0_5 n0_6 : Int) : Option (List T) := f30_t c lf (fun (l0_0 l0_3 l0_4 : List T) (n0_1 n0_2 : Int) (n0_5 n0_6 x369 : Int) (x370 : List T) => f30_0 c lf l0_0 l0_3 l0_4 n0_1 n0_2 n0_5 n0_6 lf x369 x370) (fun (x375 : List T) (x376 x377 : Int) (x378 : List T) => f30_1 c lf lf x375 x376 x377 x378) l0_0 n0_1 n0_2 l0_3 l0_4 n0_5 n0_6
theorem f30_raw (c : Orc) (lf : Nat) (l0_0 : List T) (n0_1 n0_2 : Int) (l0_3 l0_4 : List T) (n0_5 n0_6 : Int) : funK c env lf 6 fi30 [.st [.sl l0_0, .i .i64 n0_1, .i .i64 n0_2, .sl l0_3, .sl l0_4, .i .i64 n0_5, .i .i64 n0_6]] = f30_t c lf (fun (l0_0 l0_3 l0_4 : List T) (n0_1 n0_2 : Int) (n0_5 n0_6 x369 : Int) (x370 : List T) => lpK c env lf 6 fi30 7 3 [(3, 1)] [1, 3, 21, 22, 23] (x30_3_0) lf (f30_0_c l0_0 l0_3 l0_4 n0_1 n0_2 n0_5 n0_6 x369 x370)) (fun (x375 : List T) (x376 x377 : Int) (x378 : List T) => lpK c env lf 6 fi30 7 8 [(3, 1)] [3, 41, 42, 43] (x30_8_0) lf (f30_1_c x375 x376 x377 x378)) l0_0 n0_1 n0_2 l0_3 l0_4 n0_5 n0_6 := by kernel_rfl
theorem f30_eq (c : Orc) (lf : Nat) (l0_0 : List T) (n0_1 n0_2 : Int) (l0_3 l0_4 : List T) (n0_5 n0_6 : Int) : funK c env lf 6 fi30 [.st [.sl l0_0, .i .i64 n0_1, .i .i64 n0_2, .sl l0_3, .sl l0_4, .i .i64 n0_5, .i .i64 n0_6]] = f30 c lf l0_0 n0_1 n0_2 l0_3 l0_4 n0_5 n0_6 := by
 refine (f30_raw c lf l0_0 n0_1 n0_2 l0_3 l0_4 n0_5 n0_6).trans ?_
 have e0 : (fun (l0_0 l0_3 l0_4 : List T) (n0_1 n0_2 : Int) (n0_5 n0_6 x369 : Int) (x370 : List T) => lpK c env lf 6 fi30 7 3 [(3, 1)] [1, 3, 21, 22, 23] (x30_3_0) lf (f30_0_c l0_0 l0_3 l0_4 n0_1 n0_2 n0_5 n0_6 x369 x370)) = (fun (l0_0 l0_3 l0_4 : List T) (n0_1 n0_2 : Int) (n0_5 n0_6 x369 : Int) (x370 : List T) => f30_0 c lf l0_0 l0_3 l0_4 n0_1 n0_2 n0_5 n0_6 lf x369 x370) := by funext l0_0 l0_3 l0_4 n0_1 n0_2 n0_5 n0_6 x369 x370; exact f30_0_eq c lf l0_0 l0_3 l0_4 n0_1 n0_2 n0_5 n0_6 lf x369 x370
 have e1 : (fun (x375 : List T) (x376 x377 : Int) (x378 : List T) => lpK c env lf 6 fi30 7 8 [(3, 1)] [3, 41, 42, 43] (x30_8_0) lf (f30_1_c x375 x376 x377 x378)) = (fun (x375 : List T) (x376 x377 : Int) (x378 : List T) => f30_1 c lf lf x375 x376 x377 x378) := by funext x375 x376 x377 x378; exact f30_1_eq c lf lf x375 x376 x377 x378
 rw [e0, e1]; rfl
def f29_0_s (c : Orc) (lf : Nat) (l0 : List T) (L : Int → Int → Option (List T)) (x390 x391 : Int) : Option (List T) :=
 bif iLt x391 (l0.length : Int) then
  bif inR x391 l0.length then
  bif iLt (IntKind.wrap .i64 (x390 + ((asL (l0.getD x391.toNat T.u)).length : Int))) 0 then
   none
  else
   L (IntKind.wrap .i64 (x390 + ((asL (l0.getD x391.toNat T.u)).length : Int))) (IntKind.wrap .i64 (x391 + 1))
  else none
 else
  some [T.i .i64 0, T.sl l0, T.i .i64 x390]
def f29_0_c (l0 : List T) (x390 x391 : Int) : CSt := ⟨[.ro 0 false [.sl false [.i .i64]] l0, .i .i64 x390, .ro 0 false [.sl false [.i .i64]] l0, .i .i64 (l0.length : Int), .i .i64 x391], [.dead]⟩
theorem f29_0_round (c : Orc) (lf : Nat) (l0 : List T) (L : CSt → Option (List T)) (x390 x391 : Int) :
 roundK c env lf 6 fi29 1 3 [] [0, 3, 9, 10, 11] (x29_3_0) L (f29_0_c l0 x390 x391) = f29_0_s c lf l0 (fun x390 x391 => L (f29_0_c l0 x390 x391)) x390 x391 := by kernel_rfl
def f29_0 (c : Orc) (lf : Nat) (l0 : List T) : Nat → Int → Int → Option (List T)
 | 0 => fun _ _ => none
 | n + 1 => fun x390 x391 => f29_0_s c lf l0 (f29_0 c lf l0 n) x390 x391
theorem f29_0_u (c : Orc) (lf : Nat) (l0 : List T) (n : Nat) (x390 x391 : Int) : f29_0 c lf l0 (n + 1) x390 x391 = f29_0_s c lf l0 (f29_0 c lf l0 n) x390 x391 := rfl
theorem f29_0_eq (c : Orc) (lf : Nat) (l0 : List T) (n : Nat) (x390 x391 : Int) :
 lpK c env lf 6 fi29 1 3 [] [0, 3, 9, 10, 11] (x29_3_0) n (f29_0_c l0 x390 x391) = f29_0 c lf l0 n x390 x391 := by
 induction n generalizing x390 x391 with
 | zero => rfl
 | succ n ih =>
  refine (f29_0_round c lf l0 _ x390 x391).trans ?_
  have e : (fun x390 x391 => lpK c env lf 6 fi29 1 3 [] [0, 3, 9, 10, 11] (x29_3_0) n (f29_0_c l0 x390 x391)) = f29_0 c lf l0 n := by funext x390 x391; exact ih x390 x391
  show f29_0_s c lf l0 (fun x390 x391 => lpK c env lf 6 fi29 1 3 [] [0, 3, 9, 10, 11] (x29_3_0) n (f29_0_c l0 x390 x391)) x390 x391 = _
  rw [e]; rfl
def f29_1_s (c : Orc) (lf : Nat) (r392 : List T) (L : Nat → Int → List T → Option (List T)) (x393 : Nat) (x394 : Int) (x395 : List T) : Option (List T) :=
 bif iLt x394 ((asL (nth r392 1)).length : Int) then
  bif inR x394 ((asL (nth r392 1)).length) then
  bif nLe (((x395.drop 0).take x393).length + (asL ((asL (nth r392 1)).getD x394.toNat T.u)).length) LIM then
  L ((((x395.drop 0).take x393) ++ (asL ((asL (nth r392 1)).getD x394.toNat T.u))).length) (IntKind.wrap .i64 (x394 + 1)) (((x395.drop 0).take x393) ++ (asL ((asL (nth r392 1)).getD x394.toNat T.u)))
  else none
  else none
 else
  some [T.i .i64 0, T.i .i64 (0 : Int), T.i .i64 (x393 : Int), T.sl x395]
def f29_1_c (r392 : List T) (x393 : Nat) (x394 : Int) (x395 : List T) : CSt := ⟨[.rf 1 [] 0 (some (0, x393)), .ro 0 false [.sl false [.i .i64]] (asL (nth r392 1)), .i .i64 ((asL (nth r392 1)).length : Int), .i .i64 x394], [.dead, .row false [.i .i64] x395 0 false]⟩
theorem f29_1_round (c : Orc) (lf : Nat) (r392 : List T) (L : CSt → Option (List T)) (x393 : Nat) (x394 : Int) (x395 : List T) :
 roundK c env lf 6 fi29 1 11 [(6, 2)] [6, 25, 26, 27] (x29_11_0) L (f29_1_c r392 x393 x394 x395) = f29_1_s c lf r392 (fun x393 x394 x395 => L (f29_1_c r392 x393 x394 x395)) x393 x394 x395 := by kernel_rfl
def f29_1 (c : Orc) (lf : Nat) (r392 : List T) : Nat → Nat → Int → List T → Option (List T)
 | 0 => fun _ _ _ => none
 | n + 1 => fun x393 x394 x395 => f29_1_s c lf r392 (f29_1 c lf r392 n) x393 x394 x395
theorem f29_1_u (c : Orc) (lf : Nat) (r392 : List T) (n x393 : Nat) (x394 : Int) (x395 : List T) : f29_1 c lf r392 (n + 1) x393 x394 x395 = f29_1_s c lf r392 (f29_1 c lf r392 n) x393 x394 x395 := rfl
theorem f29_1_eq (c : Orc) (lf : Nat) (r392 : List T) (n x393 : Nat) (x394 : Int) (x395 : List T) :
 lpK c env lf 6 fi29 1 11 [(6, 2)] [6, 25, 26, 27] (x29_11_0) n (f29_1_c r392 x393 x394 x395) = f29_1 c lf r392 n x393 x394 x395 := by
 induction n generalizing x393 x394 x395 with
 | zero => rfl
 | succ n ih =>
  refine (f29_1_round c lf r392 _ x393 x394 x395).trans ?_
  have e : (fun x393 x394 x395 => lpK c env lf 6 fi29 1 11 [(6, 2)] [6, 25, 26, 27] (x29_11_0) n (f29_1_c r392 x393 x394 x395)) = f29_1 c lf r392 n := by funext x393 x394 x395; exact ih x393 x394 x395
  show f29_1_s c lf r392 (fun x393 x394 x395 => lpK c env lf 6 fi29 1 11 [(6, 2)] [6, 25, 26, 27] (x29_11_0) n (f29_1_c r392 x393 x394 x395)) x393 x394 x395 = _
  rw [e]; rfl
def f29_t (c : Orc) (lf : Nat) (lp0 : List T → Int → Int → Option (List T)) (lp1 : List T → Nat → Int → List T → Option (List T)) (l0 : List T) : Option (List T) :=
 (lp0 l0 0 0).bind fun r392 =>
 bif iLt (asI (nth r392 2)) 0 then
  none
 else
  bif iLt 0 (IntKind.wrap .i64 ((asI (nth r392 2)) - 0)) then
  bif iLe 1 (IntKind.wrap .i64 ((asI (nth r392 2)) - 0)) && iLe (IntKind.wrap .i64 ((asI (nth r392 2)) - 0)) (LIM : Int) then
  bif iLe 0 0 && iLe 0 0 && iLe 0 (((List.replicate (IntKind.wrap .i64 ((asI (nth r392 2)) - 0)).toNat (T.i .i64 0)).length : Nat) : Int) then
  (lp1 r392 (0 - 0) 0 (List.replicate (IntKind.wrap .i64 ((asI (nth r392 2)) - 0)).toNat (T.i .i64 0))).bind fun r396 =>
  some [T.sl (((asL (nth r396 3)).drop ((asI (nth r396 1)).toNat)).take ((asI (nth r396 2)).toNat))]
  else none
  else none
  else none
def f29 (c : Orc) (lf : Nat) (l0 : List T) : Option (List T) := f29_t c lf (fun (l0 : List T) (x390 x391 : Int) => f29_0 c lf l0 lf x390 x391) (fun (r392 : List T) (x393 : Nat) (x394 : Int) (x395 : List T) => f29_1 c lf r392 lf x393 x394 x395) l0
theorem f29_raw (c : Orc) (lf : Nat) (l0 : List T) : funK c env lf 6 fi29 [.sl l0] = f29_t c lf (fun (l0 : List T) (x390 x391 : Int) => lpK c env lf 6 fi29 1 3 [] [0, 3, 9, 10, 11] (x29_3_0) lf (f29_0_c l0 x390 x391)) (fun (r392 : List T) (x393 : Nat) (x394 : Int) (x395 : List T) => lpK c env lf 6 fi29 1 11 [(6, 2)] [6, 25, 26, 27] (x29_11_0) lf (f29_1_c r392 x393 x394 x395)) l0 := by kernel_rfl
theorem f29_eq (c : Orc) (lf : Nat) (l0 : List T) : funK c env lf 6 fi29 [.sl l0] = f29 c lf l0 := by
 refine (f29_raw c lf l0).trans ?_
 have e0 : (fun (l0 : List T) (x390 x391 : Int) => lpK c env lf 6 fi29 1 3 [] [0, 3, 9, 10, 11] (x29_3_0) lf (f29_0_c l0 x390 x391)) = (fun (l0 : List T) (x390 x391 : Int) => f29_0 c lf l0 lf x390 x391) := by funext l0 x390 x391; exact f29_0_eq c lf l0 lf x390 x391
 have e1 : (fun (r392 : List T) (x393 : Nat) (x394 : Int) (x395 : List T) => lpK c env lf 6 fi29 1 11 [(6, 2)] [6, 25, 26, 27] (x29_11_0) lf (f29_1_c r392 x393 x394 x395)) = (fun (r392 : List T) (x393 : Nat) (x394 : Int) (x395 : List T) => f29_1 c lf r392 lf x393 x394 x395) := by funext r392 x393 x394 x395; exact f29_1_eq c lf r392 lf x393 x394 x395
 rw [e0, e1]; rfl
def f33_1_s (c : Orc) (lf : Nat) (l0 : List T) (x411 : Int) (L : Int → Int → List T → Option (List T)) (x412 x413 : Int) (x414 : List T) : Option (List T) :=
 bif iLt x413 ((((l0.length : Int).toNat) - x411.toNat : Nat) : Int) then
  bif inR x413 (((l0.length : Int).toNat) - x411.toNat) then
  bif inR (IntKind.wrap .i64 (x413 - 1)) (((l0.length : Int).toNat) - x411.toNat) then
  bif (asI (x414.getD (x411.toNat + x413.toNat) T.u)) != (asI (x414.getD (x411.toNat + ((IntKind.wrap .i64 (x413 - 1)).toNat)) T.u)) then
   bif inR x413 (((l0.length : Int).toNat) - x411.toNat) then
   bif inR x412 x414.length then
   L (IntKind.wrap .i64 (x412 + 1)) (IntKind.wrap .i64 (x413 + 1)) (x414.set x412.toNat (T.i .i64 (asI (x414.getD (x411.toNat + x413.toNat) T.u))))
   else none
   else none
  else
   L x412 (IntKind.wrap .i64 (x413 + 1)) x414
  else none
  else none
 else
  some [T.i .i64 0, T.i .i64 x412, T.sl x414]
def f33_1_c (l0 : List T) (x411 x412 x413 : Int) (x414 : List T) : CSt := ⟨[.rf 1 [] 0 none, .i .i64 x412, .rf 1 [] 0 (some (x411.toNat, ((l0.length : Int).toNat) - x411.toNat)), .i .i64 x413], [.dead, .row false [.i .i64] x414 0 false]⟩
theorem f33_1_round (c : Orc) (lf : Nat) (l0 : List T) (x411 : Int) (L : CSt → Option (List T)) (x412 x413 : Int) (x414 : List T) :
 roundK c env lf 6 fi33 1 9 [] [0, 3, 4, 5] (x33_9_0) L (f33_1_c l0 x411 x412 x413 x414) = f33_1_s c lf l0 x411 (fun x412 x413 x414 => L (f33_1_c l0 x411 x412 x413 x414)) x412 x413 x414 := by kernel_rfl
def f33_1 (c : Orc) (lf : Nat) (l0 : List T) (x411 : Int) : Nat → Int → Int → List T → Option (List T)
 | 0 => fun _ _ _ => none
 | n + 1 => fun x412 x413 x414 => f33_1_s c lf l0 x411 (f33_1 c lf l0 x411 n) x412 x413 x414
theorem f33_1_u (c : Orc) (lf : Nat) (l0 : List T) (x411 : Int) (n : Nat) (x412 x413 : Int) (x414 : List T) : f33_1 c lf l0 x411 (n + 1) x412 x413 x414 = f33_1_s c lf l0 x411 (f33_1 c lf l0 x411 n) x412 x413 x414 := rfl
theorem f33_1_eq (c : Orc) (lf : Nat) (l0 : List T) (x411 : Int) (n : Nat) (x412 x413 : Int) (x414 : List T) :
 lpK c env lf 6 fi33 1 9 [] [0, 3, 4, 5] (x33_9_0) n (f33_1_c l0 x411 x412 x413 x414) = f33_1 c lf l0 x411 n x412 x413 x414 := by
 induction n generalizing x412 x413 x414 with
 | zero => rfl
 | succ n ih =>
  refine (f33_1_round c lf l0 x411 _ x412 x413 x414).trans ?_
  have e : (fun x412 x413 x414 => lpK c env lf 6 fi33 1 9 [] [0, 3, 4, 5] (x33_9_0) n (f33_1_c l0 x411 x412 x413 x414)) = f33_1 c lf l0 x411 n := by funext x412 x413 x414; exact ih x412 x413 x414
  show f33_1_s c lf l0 x411 (fun x412 x413 x414 => lpK c env lf 6 fi33 1 9 [] [0, 3, 4, 5] (x33_9_0) n (f33_1_c l0 x411 x412 x413 x414)) x412 x413 x414 = _
  rw [e]; rfl
def f33_0_s (c : Orc) (lf : Nat) (l0 : List T) (L : Int → Option (List T)) (lp0 : List T → Int → Int → Int → List T → Option (List T)) (x411 : Int) : Option (List T) :=
 bif iLt x411 (l0.length : Int) then
  bif inR x411 l0.length then
  bif inR (IntKind.wrap .i64 (x411 - 1)) l0.length then
  bif (asI (l0.getD x411.toNat T.u)) == (asI (l0.getD ((IntKind.wrap .i64 (x411 - 1)).toNat) T.u)) then
   bif iLe 0 x411 && iLe x411 (l0.length : Int) && iLe (l0.length : Int) (l0.length : Int) then
   (lp0 l0 x411 x411 1 l0).bind fun r415 =>
   bif iLe 0 (asI (nth r415 1)) && iLe (asI (nth r415 1)) ((asL (nth r415 2)).length : Int) && iLe ((asL (nth r415 2)).length : Int) ((asL (nth r415 2)).length : Int) then
   bif iLe 0 0 && iLe 0 (asI (nth r415 1)) && iLe (asI (nth r415 1)) (((splice (asL (nth r415 2)) ((asI (nth r415 1)).toNat) (List.replicate (((asL (nth r415 2)).drop ((asI (nth r415 1)).toNat)).take ((((asL (nth r415 2)).length : Int).toNat) - ((asI (nth r415 1)).toNat))).length (T.i .i64 0))).length : Nat) : Int) then
   some [T.i .i64 0, T.i .i64 (0 : Int), T.i .i64 (((((asI (nth r415 1)).toNat) - 0) : Nat) : Int), T.sl (splice (asL (nth r415 2)) ((asI (nth r415 1)).toNat) (List.replicate (((asL (nth r415 2)).drop ((asI (nth r415 1)).toNat)).take ((((asL (nth r415 2)).length : Int).toNat) - ((asI (nth r415 1)).toNat))).length (T.i .i64 0)))]
   else none
   else none
   else none
  else
   L (IntKind.wrap .i64 (x411 + 1))
  else none
  else none
 else
  some [T.i .i64 1, T.sl l0]
def f33_0_c (l0 : List T) (x411 : Int) : CSt := ⟨[.rf 1 [] 0 none, .i .i64 x411], [.dead, .row false [.i .i64] l0 0 false]⟩
theorem f33_0_round (c : Orc) (lf : Nat) (l0 : List T) (L : CSt → Option (List T)) (x411 : Int) :
 roundK c env lf 6 fi33 1 4 [] [0, 3] (x33_4_0) L (f33_0_c l0 x411) = f33_0_s c lf l0 (fun x411 => L (f33_0_c l0 x411)) (fun (l0 : List T) (x411 x412 x413 : Int) (x414 : List T) => lpK c env lf 6 fi33 1 9 [] [0, 3, 4, 5] (x33_9_0) lf (f33_1_c l0 x411 x412 x413 x414)) x411 := by kernel_rfl
def f33_0 (c : Orc) (lf : Nat) (l0 : List T) : Nat → Int → Option (List T)
 | 0 => fun _ => none
 | n + 1 => fun x411 => f33_0_s c lf l0 (f33_0 c lf l0 n) (fun (l0 : List T) (x411 x412 x413 : Int) (x414 : List T) => f33_1 c lf l0 x411 lf x412 x413 x414) x411
theorem f33_0_u (c : Orc) (lf : Nat) (l0 : List T) (n : Nat) (x411 : Int) : f33_0 c lf l0 (n + 1) x411 = f33_0_s c lf l0 (f33_0 c lf l0 n) (fun (l0 : List T) (x411 x412 x413 : Int) (x414 : List T) => f33_1 c lf l0 x411 lf x412 x413 x414) x411 := rfl
theorem f33_0_eq (c : Orc) (lf : Nat) (l0 : List T) (n : Nat) (x411 : Int) :
 lpK c env lf 6 fi33 1 4 [] [0, 3] (x33_4_0) n (f33_0_c l0 x411) = f33_0 c lf l0 n x411 := by
 induction n generalizing x411 with
 | zero => rfl
 | succ n ih =>
  refine (f33_0_round c lf l0 _ x411).trans ?_
  have e : (fun x411 => lpK c env lf 6 fi33 1 4 [] [0, 3] (x33_4_0) n (f33_0_c l0 x411)) = f33_0 c lf l0 n := by funext x411; exact ih x411
  have e0 : (fun (l0 : List T) (x411 x412 x413 : Int) (x414 : List T) => lpK c env lf 6 fi33 1 9 [] [0, 3, 4, 5] (x33_9_0) lf (f33_1_c l0 x411 x412 x413 x414)) = (fun (l0 : List T) (x411 x412 x413 : Int) (x414 : List T) => f33_1 c lf l0 x411 lf x412 x413 x414) := by funext l0 x411 x412 x413 x414; exact f33_1_eq c lf l0 x411 lf x412 x413 x414
  show f33_0_s c lf l0 (fun x411 => lpK c env lf 6 fi33 1 4 [] [0, 3] (x33_4_0) n (f33_0_c l0 x411)) (fun (l0 : List T) (x411 x412 x413 : Int) (x414 : List T) => lpK c env lf 6 fi33 1 9 [] [0, 3, 4, 5] (x33_9_0) lf (f33_1_c l0 x411 x412 x413 x414)) x411 = _
  rw [e, e0]; rfl
def f33_t (c : Orc) (lf : Nat) (lp0 : List T → Int → Option (List T)) (l0 : List T) : Option (List T) :=
 bif iLt (l0.length : Int) 2 then
  some [T.sl l0]
 else
  (lp0 l0 1).bind fun r416 =>
  bif asI (nth r416 0) == 0 then
   some [T.sl (((asL (nth r416 3)).drop ((asI (nth r416 1)).toNat)).take ((asI (nth r416 2)).toNat))]
  else
   some [T.sl (asL (nth r416 1))]
def f33 (c : Orc) (lf : Nat) (l0 : List T) : Option (List T) := f33_t c lf (fun (l0 : List T) (x411 : Int) => f33_0 c lf l0 lf x411) l0
theorem f33_raw (c : Orc) (lf : Nat) (l0 : List T) : funK c env lf 6 fi33 [.sl l0] = f33_t c lf (fun (l0 : List T) (x411 : Int) => lpK c env lf 6 fi33 1 4 [] [0, 3] (x33_4_0) lf (f33_0_c l0 x411)) l0 := by kernel_rfl
theorem f33_eq (c : Orc) (lf : Nat) (l0 : List T) : funK c env lf 6 fi33 [.sl l0] = f33 c lf l0 := by
 refine (f33_raw c lf l0).trans ?_
 have e0 : (fun (l0 : List T) (x411 : Int) => lpK c env lf 6 fi33 1 4 [] [0, 3] (x33_4_0) lf (f33_0_c l0 x411)) = (fun (l0 : List T) (x411 : Int) => f33_0 c lf l0 lf x411) := by funext l0 x411; exact f33_0_eq c lf l0 lf x411
 rw [e0]; rfl
def f34_t (c : Orc) (lf : Nat) (n0 : Int) : Option (List T) :=
 some [T.b (iLt n0 0)]
def f34 (c : Orc) (lf : Nat) (n0 : Int) : Option (List T) := f34_t c lf n0
theorem f34_eq (c : Orc) (lf : Nat) (n0 : Int) : funK c env lf 6 fi34 [.i .i64 n0] = f34 c lf n0 := by kernel_rfl
def f9_0_s (c : Orc) (lf : Nat) (r434 : List T) (L : Int → Option (List T)) (x436 : Int) : Option (List T) :=
 bif iLt x436 ((asL (nth r434 0)).length : Int) then
  bif inR x436 ((asL (nth r434 0)).length) then
  (c 34 [T.i .i64 (asI ((asL (nth r434 0)).getD x436.toNat T.u))]).bind fun r437 =>
  bif asB (nth r437 0) then
   some [T.i .i64 0, T.i .i64 x436, T.sl (asL (nth r434 0))]
  else
   L (IntKind.wrap .i64 (x436 + 1))
  else none
 else
  some [T.i .i64 1, T.sl (asL (nth r434 0))]
def f9_0_c (r434 : List T) (x436 : Int) : CSt := ⟨[.rf 0 [] 0 none, .fn 34 [], .i .i64 ((asL (nth r434 0)).length : Int), .i .i64 x436], [.row false [.i .i64] (asL (nth r434 0)) 0 false]⟩
theorem f9_0_round (c : Orc) (lf : Nat) (r434 : List T) (L : CSt → Option (List T)) (x436 : Int) :
 roundK c env lf 4 fi59 1 2 [] [0, 1, 7, 8] (x59_2_0) L (f9_0_c r434 x436) = f9_0_s c lf r434 (fun x436 => L (f9_0_c r434 x436)) x436 := by kernel_rfl
def f9_0 (c : Orc) (lf : Nat) (r434 : List T) : Nat → Int → Option (List T)
 | 0 => fun _ => none
 | n + 1 => fun x436 => f9_0_s c lf r434 (f9_0 c lf r434 n) x436
theorem f9_0_u (c : Orc) (lf : Nat) (r434 : List T) (n : Nat) (x436 : Int) : f9_0 c lf r434 (n + 1) x436 = f9_0_s c lf r434 (f9_0 c lf r434 n) x436 := rfl
theorem f9_0_eq (c : Orc) (lf : Nat) (r434 : List T) (n : Nat) (x436 : Int) :
 lpK c env lf 4 fi59 1 2 [] [0, 1, 7, 8] (x59_2_0) n (f9_0_c r434 x436) = f9_0 c lf r434 n x436 := by
 induction n generalizing x436 with
 | zero => rfl
 | succ n ih =>
  refine (f9_0_round c lf r434 _ x436).trans ?_
  have e : (fun x436 => lpK c env lf 4 fi59 1 2 [] [0, 1, 7, 8] (x59_2_0) n (f9_0_c r434 x436)) = f9_0 c lf r434 n := by funext x436; exact ih x436
  show f9_0_s c lf r434 (fun x436 => lpK c env lf 4 fi59 1 2 [] [0, 1, 7, 8] (x59_2_0) n (f9_0_c r434 x436)) x436 = _
  rw [e]; rfl
def f9_1_s (c : Orc) (lf : Nat) (L : Int → Int → List T → Option (List T)) (x440 x441 : Int) (x442 : List T) : Option (List T) :=
 bif iLt x441 (x442.length : Int) then
  bif inR x441 x442.length then
  (c 34 [T.i .i64 (asI (x442.getD x441.toNat T.u))]).bind fun r443 =>
  bif !(asB (nth r443 0)) then
   bif inR x440 x442.length then
   L (IntKind.wrap .i64 (x440 + 1)) (IntKind.wrap .i64 (x441 + 1)) (x442.set x440.toNat (T.i .i64 (asI (x442.getD x441.toNat T.u))))
   else none
  else
   L x440 (IntKind.wrap .i64 (x441 + 1)) x442
  else none
 else
  some [T.i .i64 0, T.i .i64 x440, T.sl x442]
def f9_1_c (x440 x441 : Int) (x442 : List T) : CSt := ⟨[.rf 0 [] 0 none, .fn 34 [], .i .i64 x440, .i .i64 x441], [.row false [.i .i64] x442 0 false]⟩
theorem f9_1_round (c : Orc) (lf : Nat) (L : CSt → Option (List T)) (x440 x441 : Int) (x442 : List T) :
 roundK c env lf 5 fi32 1 5 [] [0, 1, 5, 6] (x32_5_0) L (f9_1_c x440 x441 x442) = f9_1_s c lf (fun x440 x441 x442 => L (f9_1_c x440 x441 x442)) x440 x441 x442 := by kernel_rfl
def f9_1 (c : Orc) (lf : Nat) : Nat → Int → Int → List T → Option (List T)
 | 0 => fun _ _ _ => none
 | n + 1 => fun x440 x441 x442 => f9_1_s c lf (f9_1 c lf n) x440 x441 x442
theorem f9_1_u (c : Orc) (lf n : Nat) (x440 x441 : Int) (x442 : List T) : f9_1 c lf (n + 1) x440 x441 x442 = f9_1_s c lf (f9_1 c lf n) x440 x441 x442 := rfl
theorem f9_1_eq (c : Orc) (lf n : Nat) (x440 x441 : Int) (x442 : List T) :
 lpK c env lf 5 fi32 1 5 [] [0, 1, 5, 6] (x32_5_0) n (f9_1_c x440 x441 x442) = f9_1 c lf n x440 x441 x442 := by
 induction n generalizing x440 x441 x442 with
 | zero => rfl
 | succ n ih =>
  refine (f9_1_round c lf _ x440 x441 x442).trans ?_
  have e : (fun x440 x441 x442 => lpK c env lf 5 fi32 1 5 [] [0, 1, 5, 6] (x32_5_0) n (f9_1_c x440 x441 x442)) = f9_1 c lf n := by funext x440 x441 x442; exact ih x440 x441 x442
  show f9_1_s c lf (fun x440 x441 x442 => lpK c env lf 5 fi32 1 5 [] [0, 1, 5, 6] (x32_5_0) n (f9_1_c x440 x441 x442)) x440 x441 x442 = _
  rw [e]; rfl
def f9_t (c : Orc) (lf : Nat) (lp0 : List T → Int → Option (List T)) (lp1 : Int → Int → List T → Option (List T)) (l0_0 : List T) (n0_1 n0_2 : Int) (l0_3 l0_4 : List T) (n0_5 n0_6 : Int) : Option (List T) :=
 (c 30 [T.st [T.sl l0_0, T.i .i64 n0_1, T.i .i64 n0_2, T.sl l0_3, T.sl l0_4, T.i .i64 n0_5, T.i .i64 n0_6]]).bind fun r431 =>
 bif nLe ((asL (nth r431 0)).length + ([T.sl ([T.i .i64 n0_6, T.i .i64 n0_5] : List T)] : List T).length) LIM then
 (c 29 [T.sl ((asL (nth r431 0)) ++ ([T.sl ([T.i .i64 n0_6, T.i .i64 n0_5] : List T)] : List T))]).bind fun r432 =>
 (c 31 [T.sl (asL (nth r432 0))]).bind fun r433 =>
 (c 33 [T.sl (asL (nth r433 0))]).bind fun r434 =>
 (lp0 r434 0).bind fun r438 =>
 bif asI (nth r438 0) == 0 then
  bif (asI (nth r438 1)) == (-1) then
   some [T.sl (asL (nth r438 2))]
  else
   (lp1 (asI (nth r438 1)) (IntKind.wrap .i64 ((asI (nth r438 1)) + 1)) (asL (nth r438 2))).bind fun r444 =>
   bif iLe 0 (asI (nth r444 1)) && iLe (asI (nth r444 1)) ((asL (nth r444 2)).length : Int) && iLe ((asL (nth r444 2)).length : Int) ((asL (nth r444 2)).length : Int) then
   bif iLe 0 0 && iLe 0 (asI (nth r444 1)) && iLe (asI (nth r444 1)) (((splice (asL (nth r444 2)) ((asI (nth r444 1)).toNat) (List.replicate (((asL (nth r444 2)).drop ((asI (nth r444 1)).toNat)).take ((((asL (nth r444 2)).length : Int).toNat) - ((asI (nth r444 1)).toNat))).length (T.i .i64 0))).length : Nat) : Int) then
   some [T.sl (((splice (asL (nth r444 2)) ((asI (nth r444 1)).toNat) (List.replicate (((asL (nth r444 2)).drop ((asI (nth r444 1)).toNat)).take ((((asL (nth r444 2)).length : Int).toNat) - ((asI (nth r444 1)).toNat))).length (T.i .i64 0))).drop 0).take (((asI (nth r444 1)).toNat) - 0))]
   else none
   else none
 else
  some [T.sl (asL (nth r438 1))]
 else none
def f9 (c : Orc) (lf : Nat) (l0_0 : List T) (n0_1 n0_2 : Int) (l0_3 l0_4 : List T) (n0_5 n0_6 : Int) : Option (List T) := f9_t c lf (fun (r434 : List T) (x436 : Int) => f9_0 c lf r434 lf x436) (fun (x440 x441 : Int) (x442 : List T) => f9_1 c lf lf x440 x441 x442) l0_0 n0_1 n0_2 l0_3 l0_4 n0_5 n0_6
theorem f9_raw (c : Orc) (lf : Nat) (l0_0 : List T) (n0_1 n0_2 : Int) (l0_3 l0_4 : List T) (n0_5 n0_6 : Int) : funK c env lf 6 fi9 [.st [.sl l0_0, .i .i64 n0_1, .i .i64 n0_2, .sl l0_3, .sl l0_4, .i .i64 n0_5, .i .i64 n0_6]] = f9_t c lf (fun (r434 : List T) (x436 : Int) => lpK c env lf 4 fi59 1 2 [] [0, 1, 7, 8] (x59_2_0) lf (f9_0_c r434 x436)) (fun (x440 x441 : Int) (x442 : List T) => lpK c env lf 5 fi32 1 5 [] [0, 1, 5, 6] (x32_5_0) lf (f9_1_c x440 x441 x442)) l0_0 n0_1 n0_2 l0_3 l0_4 n0_5 n0_6 := by kernel_rfl
theorem f9_eq (c : Orc) (lf : Nat) (l0_0 : List T) (n0_1 n0_2 : Int) (l0_3 l0_4 : List T) (n0_5 n0_6 : Int) : funK c env lf 6 fi9 [.st [.sl l0_0, .i .i64 n0_1, .i .i64 n0_2, .sl l0_3, .sl l0_4, .i .i64 n0_5, .i .i64 n0_6]] = f9 c lf l0_0 n0_1 n0_2 l0_3 l0_4 n0_5 n0_6 := by
 refine (f9_raw c lf l0_0 n0_1 n0_2 l0_3 l0_4 n0_5 n0_6).trans ?_
 have e0 : (fun (r434 : List T) (x436 : Int) => lpK c env lf 4 fi59 1 2 [] [0, 1, 7, 8] (x59_2_0) lf (f9_0_c r434 x436)) = (fun (r434 : List T) (x436 : Int) => f9_0 c lf r434 lf x436) := by funext r434 x436; exact f9_0_eq c lf r434 lf x436
 have e1 : (fun (x440 x441 : Int) (x442 : List T) => lpK c env lf 5 fi32 1 5 [] [0, 1, 5, 6] (x32_5_0) lf (f9_1_c x440 x441 x442)) = (fun (x440 x441 : Int) (x442 : List T) => f9_1 c lf lf x440 x441 x442) := by funext x440 x441 x442; exact f9_1_eq c lf lf x440 x441 x442
 rw [e0, e1]; rfl
def f71_0_s (c : Orc) (lf : Nat) (l0 : List T) (n1 : Int) (L : Int → Option (List T)) (x447 : Int) : Option (List T) :=
 bif iLt x447 (l0.length : Int) then
  bif inR x447 l0.length then
  bif n1 == (asI (l0.getD x447.toNat T.u)) then
   some [T.i .i64 0, T.i .i64 x447]
  else
   L (IntKind.wrap .i64 (x447 + 1))
  else none
 else
  some [T.i .i64 1]
def f71_0_c (l0 : List T) (n1 x447 : Int) : CSt := ⟨[.ro 0 false [.i .i64] l0, .i .i64 n1, .i .i64 (l0.length : Int), .i .i64 x447], [.dead, .dead]⟩
theorem f71_0_round (c : Orc) (lf : Nat) (l0 : List T) (n1 : Int) (L : CSt → Option (List T)) (x447 : Int) :
 roundK c env lf 6 fi71 2 2 [] [0, 1, 7, 8] (x71_2_0) L (f71_0_c l0 n1 x447) = f71_0_s c lf l0 n1 (fun x447 => L (f71_0_c l0 n1 x447)) x447 := by kernel_rfl
def f71_0 (c : Orc) (lf : Nat) (l0 : List T) (n1 : Int) : Nat → Int → Option (List T)
 | 0 => fun _ => none
 | n + 1 => fun x447 => f71_0_s c lf l0 n1 (f71_0 c lf l0 n1 n) x447
theorem f71_0_u (c : Orc) (lf : Nat) (l0 : List T) (n1 : Int) (n : Nat) (x447 : Int) : f71_0 c lf l0 n1 (n + 1) x447 = f71_0_s c lf l0 n1 (f71_0 c lf l0 n1 n) x447 := rfl
theorem f71_0_eq (c : Orc) (lf : Nat) (l0 : List T) (n1 : Int) (n : Nat) (x447 : Int) :
 lpK c env lf 6 fi71 2 2 [] [0, 1, 7, 8] (x71_2_0) n (f71_0_c l0 n1 x447) = f71_0 c lf l0 n1 n x447 := by
 induction n generalizing x447 with
 | zero => rfl
 | succ n ih =>
  refine (f71_0_round c lf l0 n1 _ x447).trans ?_
  have e : (fun x447 => lpK c env lf 6 fi71 2 2 [] [0, 1, 7, 8] (x71_2_0) n (f71_0_c l0 n1 x447)) = f71_0 c lf l0 n1 n := by funext x447; exact ih x447
  show f71_0_s c lf l0 n1 (fun x447 => lpK c env lf 6 fi71 2 2 [] [0, 1, 7, 8] (x71_2_0) n (f71_0_c l0 n1 x447)) x447 = _
  rw [e]; rfl
def f71_t (c : Orc) (lf : Nat) (lp0 : List T → Int → Int → Option (List T)) (l0 : List T) (n1 : Int) : Option (List T) :=
 (lp0 l0 n1 0).bind fun r448 =>
 bif asI (nth r448 0) == 0 then
  some [T.i .i64 (asI (nth r448 1))]
 else
  some [T.i .i64 (-1)]
def f71 (c : Orc) (lf : Nat) (l0 : List T) (n1 : Int) : Option (List T) := f71_t c lf (fun (l0 : List T) (n1 x447 : Int) => f71_0 c lf l0 n1 lf x447) l0 n1
theorem f71_raw (c : Orc) (lf : Nat) (l0 : List T) (n1 : Int) : funK c env lf 6 fi71 [.sl l0, .i .i64 n1] = f71_t c lf (fun (l0 : List T) (n1 x447 : Int) => lpK c env lf 6 fi71 2 2 [] [0, 1, 7, 8] (x71_2_0) lf (f71_0_c l0 n1 x447)) l0 n1 := by kernel_rfl
theorem f71_eq (c : Orc) (lf : Nat) (l0 : List T) (n1 : Int) : funK c env lf 6 fi71 [.sl l0, .i .i64 n1] = f71 c lf l0 n1 := by
 refine (f71_raw c lf l0 n1).trans ?_
 have e0 : (fun (l0 : List T) (n1 x447 : Int) => lpK c env lf 6 fi71 2 2 [] [0, 1, 7, 8] (x71_2_0) lf (f71_0_c l0 n1 x447)) = (fun (l0 : List T) (n1 x447 : Int) => f71_0 c lf l0 n1 lf x447) := by funext l0 n1 x447; exact f71_0_eq c lf l0 n1 lf x447
 rw [e0]; rfl
def f45_t (c : Orc) (lf : Nat) (l0 : List T) (n1 : Int) : Option (List T) :=
 (c 71 [T.sl l0, T.i .i64 n1]).bind fun r449 =>
 some [T.b (iLe 0 (asI (nth r449 0)))]
def f45 (c : Orc) (lf : Nat) (l0 : List T) (n1 : Int) : Option (List T) := f45_t c lf l0 n1
theorem f45_eq (c : Orc) (lf : Nat) (l0 : List T) (n1 : Int) : funK c env lf 6 fi45 [.sl l0, .i .i64 n1] = f45 c lf l0 n1 := by kernel_rfl
def f18_0_s (c : Orc) (lf : Nat) (l0_0 : List T) (n2 : Int) (r458 : List T) (L : Int → Int → Option (List T)) (x460 x461 : Int) : Option (List T) :=
 bif iLt x461 ((asL (T.cell (l0_0.getD n2.toNat T.u) 0)).length : Int) then
  bif inR x461 ((asL (T.cell (l0_0.getD n2.toNat T.u) 0)).length) then
  bif asB (T.cell ((asL (T.cell (l0_0.getD n2.toNat T.u) 0)).getD x461.toNat T.u) 0) then
   (c 45 [T.sl (asL (nth r458 0)), T.i .i64 (IntKind.wrap .i64 ((IntKind.wrap .i64 (n2 * 8)) + x461))]).bind fun r462 =>
   bif !(asB (nth r462 0)) then
    L (IntKind.wrap .i64 (x460 + 1)) (IntKind.wrap .i64 (x461 + 1))
   else
    L x460 (IntKind.wrap .i64 (x461 + 1))
  else
   L x460 (IntKind.wrap .i64 (x461 + 1))
  else none
 else
  some [T.i .i64 0, T.i .i64 x460]
def f18_0_c (l0_0 : List T) (n2 : Int) (r458 : List T) (x460 x461 : Int) : CSt := ⟨[.i .i64 n2, .rf 13 [] 0 none, .i .i64 x460, .ro 0 true [.b, .sl false [.i .u8]] (asL (T.cell (l0_0.getD n2.toNat T.u) 0)), .i .i64 ((asL (T.cell (l0_0.getD n2.toNat T.u) 0)).length : Int), .i .i64 x461], [.dead, .dead, .dead, .dead, .dead, .dead, .dead, .dead, .dead, .dead, .dead, .dead, .dead, .row false [.i .i64] (asL (nth r458 0)) 0 false]⟩
theorem f18_0_round (c : Orc) (lf : Nat) (l0_0 : List T) (n2 : Int) (r458 : List T) (L : CSt → Option (List T)) (x460 x461 : Int) :
 roundK c env lf 6 fi18 13 6 [] [2, 7, 8, 26, 27, 28] (x18_6_0) L (f18_0_c l0_0 n2 r458 x460 x461) = f18_0_s c lf l0_0 n2 r458 (fun x460 x461 => L (f18_0_c l0_0 n2 r458 x460 x461)) x460 x461 := by kernel_rfl
def f18_0 (c : Orc) (lf : Nat) (l0_0 : List T) (n2 : Int) (r458 : List T) : Nat → Int → Int → Option (List T)
 | 0 => fun _ _ => none
 | n + 1 => fun x460 x461 => f18_0_s c lf l0_0 n2 r458 (f18_0 c lf l0_0 n2 r458 n) x460 x461
theorem f18_0_u (c : Orc) (lf : Nat) (l0_0 : List T) (n2 : Int) (r458 : List T) (n : Nat) (x460 x461 : Int) : f18_0 c lf l0_0 n2 r458 (n + 1) x460 x461 = f18_0_s c lf l0_0 n2 r458 (f18_0 c lf l0_0 n2 r458 n) x460 x461 := rfl
theorem f18_0_eq (c : Orc) (lf : Nat) (l0_0 : List T) (n2 : Int) (r458 : List T) (n : Nat) (x460 x461 : Int) :
 lpK c env lf 6 fi18 13 6 [] [2, 7, 8, 26, 27, 28] (x18_6_0) n (f18_0_c l0_0 n2 r458 x460 x461) = f18_0 c lf l0_0 n2 r458 n x460 x461 := by
 induction n generalizing x460 x461 with
 | zero => rfl
 | succ n ih =>
  refine (f18_0_round c lf l0_0 n2 r458 _ x460 x461).trans ?_
  have e : (fun x460 x461 => lpK c env lf 6 fi18 13 6 [] [2, 7, 8, 26, 27, 28] (x18_6_0) n (f18_0_c l0_0 n2 r458 x460 x461)) = f18_0 c lf l0_0 n2 r458 n := by funext x460 x461; exact ih x460 x461
  show f18_0_s c lf l0_0 n2 r458 (fun x460 x461 => lpK c env lf 6 fi18 13 6 [] [2, 7, 8, 26, 27, 28] (x18_6_0) n (f18_0_c l0_0 n2 r458 x460 x461)) x460 x461 = _
  rw [e]; rfl
def f18_t (c : Orc) (lf : Nat) (lp0 : List T → Int → List T → Int → Int → Option (List T)) (l0_0 : List T) (n0_1 : Int) (l0_2 : List T) (b0_3 : Bool) (n0_4 : Int) (l1_0 : List T) (n1_1 n1_2 : Int) (l1_3 l1_4 : List T) (n1_5 n1_6 n2 : Int) : Option (List T) :=
 (c 44 [T.st [T.sl l0_0], T.i .i64 n2]).bind fun r457 =>
 bif !(asB (nth r457 0)) then
  some [T.i .i64 0]
 else
  (c 9 [T.st [T.sl l1_0, T.i .i64 n1_1, T.i .i64 n1_2, T.sl l1_3, T.sl l1_4, T.i .i64 n1_5, T.i .i64 n1_6]]).bind fun r458 =>
  bif inR n2 l0_0.length then
  (lp0 l0_0 n2 r458 0 0).bind fun r463 =>
  some [T.i .i64 (asI (nth r463 1))]
  else none
def f18 (c : Orc) (lf : Nat) (l0_0 : List T) (n0_1 : Int) (l0_2 : List T) (b0_3 : Bool) (n0_4 : Int) (l1_0 : List T) (n1_1 n1_2 : Int) (l1_3 l1_4 : List T) (n1_5 n1_6 n2 : Int) : Option (List T) := f18_t c lf (fun (l0_0 : List T) (n2 : Int) (r458 : List T) (x460 x461 : Int) => f18_0 c lf l0_0 n2 r458 lf x460 x461) l0_0 n0_1 l0_2 b0_3 n0_4 l1_0 n1_1 n1_2 l1_3 l1_4 n1_5 n1_6 n2
theorem f18_raw (c : Orc) (lf : Nat) (l0_0 : List T) (n0_1 : Int) (l0_2 : List T) (b0_3 : Bool) (n0_4 : Int) (l1_0 : List T) (n1_1 n1_2 : Int) (l1_3 l1_4 : List T) (n1_5 n1_6 n2 : Int) : funK c env lf 6 fi18 [.st [.sl l0_0, .i .i64 n0_1, .sl l0_2, .b b0_3, .i .i64 n0_4], .st [.sl l1_0, .i .i64 n1_1, .i .i64 n1_2, .sl l1_3, .sl l1_4, .i .i64 n1_5, .i .i64 n1_6], .i .i64 n2] = f18_t c lf (fun (l0_0 : List T) (n2 : Int) (r458 : List T) (x460 x461 : Int) => lpK c env lf 6 fi18 13 6 [] [2, 7, 8, 26, 27, 28] (x18_6_0) lf (f18_0_c l0_0 n2 r458 x460 x461)) l0_0 n0_1 l0_2 b0_3 n0_4 l1_0 n1_1 n1_2 l1_3 l1_4 n1_5 n1_6 n2 := by kernel_rfl
theorem f18_eq (c : Orc) (lf : Nat) (l0_0 : List T) (n0_1 : Int) (l0_2 : List T) (b0_3 : Bool) (n0_4 : Int) (l1_0 : List T) (n1_1 n1_2 : Int) (l1_3 l1_4 : List T) (n1_5 n1_6 n2 : Int) : funK c env lf 6 fi18 [.st [.sl l0_0, .i .i64 n0_1, .sl l0_2, .b b0_3, .i .i64 n0_4], .st [.sl l1_0, .i .i64 n1_1, .i .i64 n1_2, .sl l1_3, .sl l1_4, .i .i64 n1_5, .i .i64 n1_6], .i .i64 n2] = f18 c lf l0_0 n0_1 l0_2 b0_3 n0_4 l1_0 n1_1 n1_2 l1_3 l1_4 n1_5 n1_6 n2 := by
 refine (f18_raw c lf l0_0 n0_1 l0_2 b0_3 n0_4 l1_0 n1_1 n1_2 l1_3 l1_4 n1_5 n1_6 n2).trans ?_
 have e0 : (fun (l0_0 : List T) (n2 : Int) (r458 : List T) (x460 x461 : Int) => lpK c env lf 6 fi18 13 6 [] [2, 7, 8, 26, 27, 28] (x18_6_0) lf (f18_0_c l0_0 n2 r458 x460 x461)) = (fun (l0_0 : List T) (n2 : Int) (r458 : List T) (x460 x461 : Int) => f18_0 c lf l0_0 n2 r458 lf x460 x461) := by funext l0_0 n2 r458 x460 x461; exact f18_0_eq c lf l0_0 n2 r458 lf x460 x461
 rw [e0]; rfl
def f74_0_s (c : Orc) (lf : Nat) (l0_0 : List T) (n1 : Int) (L : Int → Int → Option (List T)) (x469 x470 : Int) : Option (List T) :=
 bif iLt x470 ((asL (T.cell (l0_0.getD n1.toNat T.u) 0)).length : Int) then
  bif inR x470 ((asL (T.cell (l0_0.getD n1.toNat T.u) 0)).length) then
  bif asB (T.cell ((asL (T.cell (l0_0.getD n1.toNat T.u) 0)).getD x470.toNat T.u) 0) then
   L (IntKind.wrap .i64 (x469 + 1)) (IntKind.wrap .i64 (x470 + 1))
  else
   L x469 (IntKind.wrap .i64 (x470 + 1))
  else none
 else
  some [T.i .i64 0, T.i .i64 x469]
def f74_0_c (l0_0 : List T) (n1 x469 x470 : Int) : CSt := ⟨[.i .i64 x469, .ro 0 true [.b, .sl false [.i .u8]] (asL (T.cell (l0_0.getD n1.toNat T.u) 0)), .i .i64 ((asL (T.cell (l0_0.getD n1.toNat T.u) 0)).length : Int), .i .i64 x470], [.dead, .dead]⟩
theorem f74_0_round (c : Orc) (lf : Nat) (l0_0 : List T) (n1 : Int) (L : CSt → Option (List T)) (x469 x470 : Int) :
 roundK c env lf 6 fi74 2 5 [] [5, 17, 18, 19] (x74_5_0) L (f74_0_c l0_0 n1 x469 x470) = f74_0_s c lf l0_0 n1 (fun x469 x470 => L (f74_0_c l0_0 n1 x469 x470)) x469 x470 := by kernel_rfl
def f74_0 (c : Orc) (lf : Nat) (l0_0 : List T) (n1 : Int) : Nat → Int → Int → Option (List T)
 | 0 => fun _ _ => none
 | n + 1 => fun x469 x470 => f74_0_s c lf l0_0 n1 (f74_0 c lf l0_0 n1 n) x469 x470
theorem f74_0_u (c : Orc) (lf : Nat) (l0_0 : List T) (n1 : Int) (n : Nat) (x469 x470 : Int) : f74_0 c lf l0_0 n1 (n + 1) x469 x470 = f74_0_s c lf l0_0 n1 (f74_0 c lf l0_0 n1 n) x469 x470 := rfl
theorem f74_0_eq (c : Orc) (lf : Nat) (l0_0 : List T) (n1 : Int) (n : Nat) (x469 x470 : Int) :
 lpK c env lf 6 fi74 2 5 [] [5, 17, 18, 19] (x74_5_0) n (f74_0_c l0_0 n1 x469 x470) = f74_0 c lf l0_0 n1 n x469 x470 := by
 induction n generalizing x469 x470 with
 | zero => rfl
 | succ n ih =>
  refine (f74_0_round c lf l0_0 n1 _ x469 x470).trans ?_
  have e : (fun x469 x470 => lpK c env lf 6 fi74 2 5 [] [5, 17, 18, 19] (x74_5_0) n (f74_0_c l0_0 n1 x469 x470)) = f74_0 c lf l0_0 n1 n := by funext x469 x470; exact ih x469 x470
  show f74_0_s c lf l0_0 n1 (fun x469 x470 => lpK c env lf 6 fi74 2 5 [] [5, 17, 18, 19] (x74_5_0) n (f74_0_c l0_0 n1 x469 x470)) x469 x470 = _
  rw [e]; rfl
def f74_t (c : Orc) (lf : Nat) (lp0 : List T → Int → Int → Int → Option (List T)) (l0_0 : List T) (n1 : Int) : Option (List T) :=
 (c 44 [T.st [T.sl l0_0], T.i .i64 n1]).bind fun r468 =>
 bif !(asB (nth r468 0)) then
  some [T.i .i64 (-1)]
 else
  bif inR n1 l0_0.length then
  (lp0 l0_0 n1 0 0).bind fun r471 =>
  some [T.i .i64 (asI (nth r471 1))]
  else none
def f74 (c : Orc) (lf : Nat) (l0_0 : List T) (n1 : Int) : Option (List T) := f74_t c lf (fun (l0_0 : List T) (n1 x469 x470 : Int) => f74_0 c lf l0_0 n1 lf x469 x470) l0_0 n1
theorem f74_raw (c : Orc) (lf : Nat) (l0_0 : List T) (n1 : Int) : funK c env lf 6 fi74 [.st [.sl l0_0], .i .i64 n1] = f74_t c lf (fun (l0_0 : List T) (n1 x469 x470 : Int) => lpK c env lf 6 fi74 2 5 [] [5, 17, 18, 19] (x74_5_0) lf (f74_0_c l0_0 n1 x469 x470)) l0_0 n1 := by kernel_rfl
theorem f74_eq (c : Orc) (lf : Nat) (l0_0 : List T) (n1 : Int) : funK c env lf 6 fi74 [.st [.sl l0_0], .i .i64 n1] = f74 c lf l0_0 n1 := by
 refine (f74_raw c lf l0_0 n1).trans ?_
 have e0 : (fun (l0_0 : List T) (n1 x469 x470 : Int) => lpK c env lf 6 fi74 2 5 [] [5, 17, 18, 19] (x74_5_0) lf (f74_0_c l0_0 n1 x469 x470)) = (fun (l0_0 : List T) (n1 x469 x470 : Int) => f74_0 c lf l0_0 n1 lf x469 x470) := by funext l0_0 n1 x469 x470; exact f74_0_eq c lf l0_0 n1 lf x469 x470
 rw [e0]; rfl
def f48_t (c : Orc) (lf : Nat) (l0_0 : List T) (n0_1 : Int) (l0_2 : List T) (b0_3 : Bool) (n0_4 n1 : Int) : Option (List T) :=
 (c 44 [T.st [T.sl l0_0], T.i .i64 n1]).bind fun r472 =>
 bif asB (nth r472 0) then
  bif inR n1 l0_0.length then
  bif !(asB (T.cell (l0_0.getD n1.toNat T.u) 2)) then
   (c 74 [T.st [T.sl l0_0], T.i .i64 n1]).bind fun r473 =>
   some [T.b ((asI (nth r473 0)) == 8)]
  else
   some [T.b false]
  else none
 else
  some [T.b false]
def f48 (c : Orc) (lf : Nat) (l0_0 : List T) (n0_1 : Int) (l0_2 : List T) (b0_3 : Bool) (n0_4 n1 : Int) : Option (List T) := f48_t c lf l0_0 n0_1 l0_2 b0_3 n0_4 n1
theorem f48_eq (c : Orc) (lf : Nat) (l0_0 : List T) (n0_1 : Int) (l0_2 : List T) (b0_3 : Bool) (n0_4 n1 : Int) : funK c env lf 6 fi48 [.st [.sl l0_0, .i .i64 n0_1, .sl l0_2, .b b0_3, .i .i64 n0_4], .i .i64 n1] = f48 c lf l0_0 n0_1 l0_2 b0_3 n0_4 n1 := by kernel_rfl
def f21_0_s (c : Orc) (lf : Nat) (b0_3 : Bool) (l0_0 l0_2 : List T) (l1_0 l1_3 l1_4 : List T) (n0_1 n0_4 : Int) (n1_1 n1_2 : Int) (n1_5 n1_6 : Int) (L : Int → Int → Int → Option (List T)) (x484 x485 x486 : Int) : Option (List T) :=
 bif iLt x486 (l0_0.length : Int) then
  (c 18 [T.st [T.sl l0_0, T.i .i64 n0_1, T.sl l0_2, T.b b0_3, T.i .i64 n0_4], T.st [T.sl l1_0, T.i .i64 n1_1, T.i .i64 n1_2, T.sl l1_3, T.sl l1_4, T.i .i64 n1_5, T.i .i64 n1_6], T.i .i64 x486]).bind fun r487 =>
  (c 48 [T.st [T.sl l0_0, T.i .i64 n0_1, T.sl l0_2, T.b b0_3, T.i .i64 n0_4], T.i .i64 x486]).bind fun r488 =>
  bif asB (nth r488 0) then
   bif iLt x485 (asI (nth r487 0)) then
    L x486 (asI (nth r487 0)) (IntKind.wrap .i64 (x486 + 1))
   else
    L x484 x485 (IntKind.wrap .i64 (x486 + 1))
  else
   L x484 x485 (IntKind.wrap .i64 (x486 + 1))
 else
  some [T.i .i64 0, T.i .i64 x484]
def f21_0_c (b0_3 : Bool) (l0_0 l0_2 : List T) (l1_0 l1_3 l1_4 : List T) (n0_1 n0_4 : Int) (n1_1 n1_2 : Int) (n1_5 n1_6 : Int) (x484 x485 x486 : Int) : CSt := ⟨[.bp 12 0, .bp 13 0, .i .i64 x484, .i .i64 x485, .i .i64 (l0_0.length : Int), .i .i64 x486], [.dead, .dead, .dead, .dead, .dead, .dead, .dead, .dead, .dead, .dead, .dead, .dead, .box [.ro 0 true [.sl true [.b, .sl false [.i .u8]], .i .i64, .b] l0_0, .i .i64 n0_1, .ro 0 true [.i .i64, .i .i64, .i .i64] l0_2, .b b0_3, .i .i64 n0_4], .box [.ro 0 true [.i .i64, .s, .b, .i .i64, .sl true [.i .i64, .i .i64, .i .i64, .sl false [.i .u8], .sl true [.s, .i .i64], .sl true [.s, .s]], .i .i64] l1_0, .i .i64 n1_1, .i .i64 n1_2, .ro 0 true [.i .i64, .s, .b, .i .i64, .i .i64] l1_3, .ro 0 true [.i .i64, .sl true [.i .i64, .i .i64]] l1_4, .i .i64 n1_5, .i .i64 n1_6]]⟩
theorem f21_0_round (c : Orc) (lf : Nat) (b0_3 : Bool) (l0_0 l0_2 : List T) (l1_0 l1_3 l1_4 : List T) (n0_1 n0_4 : Int) (n1_1 n1_2 : Int) (n1_5 n1_6 : Int) (L : CSt → Option (List T)) (x484 x485 x486 : Int) :
 roundK c env lf 6 fi21 12 4 [] [2, 3, 5, 6, 13, 14] (x21_4_0) L (f21_0_c b0_3 l0_0 l0_2 l1_0 l1_3 l1_4 n0_1 n0_4 n1_1 n1_2 n1_5 n1_6 x484 x485 x486) = f21_0_s c lf b0_3 l0_0 l0_2 l1_0 l1_3 l1_4 n0_1 n0_4 n1_1 n1_2 n1_5 n1_6 (fun x484 x485 x486 => L (f21_0_c b0_3 l0_0 l0_2 l1_0 l1_3 l1_4 n0_1 n0_4 n1_1 n1_2 n1_5 n1_6 x484 x485 x486)) x484 x485 x486 := by kernel_rfl
def f21_0 (c : Orc) (lf : Nat) (b0_3 : Bool) (l0_0 l0_2 : List T) (l1_0 l1_3 l1_4 : List T) (n0_1 n0_4 : Int) (n1_1 n1_2 : Int) (n1_5 n1_6 : Int) : Nat → Int → Int → Int → Option (List T)
 | 0 => fun _ _ _ => none
 | n + 1 => fun x484 x485 x486 => f21_0_s c lf b0_3 l0_0 l0_2 l1_0 l1_3 l1_4 n0_1 n0_4 n1_1 n1_2 n1_5 n1_6 (f21_0 c lf b0_3 l0_0 l0_2 l1_0 l1_3 l1_4 n0_1 n0_4 n1_1 n1_2 n1_5 n1_6 n) x484 x485 x486
theorem f21_0_u (c : Orc) (lf : Nat) (b0_3 : Bool) (l0_0 l0_2 : List T) (l1_0 l1_3 l1_4 : List T) (n0_1 n0_4 : Int) (n1_1 n1_2 : Int) (n1_5 n1_6 : Int) (n : Nat) (x484 x485 x486 : Int) : f21_0 c lf b0_3 l0_0 l0_2 l1_0 l1_3 l1_4 n0_1 n0_4 n1_1 n1_2 n1_5 n1_6 (n + 1) x484 x485 x486 = f21_0_s c lf b0_3 l0_0 l0_2 l1_0 l1_3 l1_4 n0_1 n0_4 n1_1 n1_2 n1_5 n1_6 (f21_0 c lf b0_3 l0_0 l0_2 l1_0 l1_3 l1_4 n0_1 n0_4 n1_1 n1_2 n1_5 n1_6 n) x484 x485 x486 := rfl
theorem f21_0_eq (c : Orc) (lf : Nat) (b0_3 : Bool) (l0_0 l0_2 : List T) (l1_0 l1_3 l1_4 : List T) (n0_1 n0_4 : Int) (n1_1 n1_2 : Int) (n1_5 n1_6 : Int) (n : Nat) (x484 x485 x486 : Int) :
 lpK c env lf 6 fi21 12 4 [] [2, 3, 5, 6, 13, 14] (x21_4_0) n (f21_0_c b0_3 l0_0 l0_2 l1_0 l1_3 l1_4 n0_1 n0_4 n1_1 n1_2 n1_5 n1_6 x484 x485 x486) = f21_0 c lf b0_3 l0_0 l0_2 l1_0 l1_3 l1_4 n0_1 n0_4 n1_1 n1_2 n1_5 n1_6 n x484 x485 x486 := by
 induction n generalizing x484 x485 x486 with
 | zero => rfl
 | succ n ih =>
  refine (f21_0_round c lf b0_3 l0_0 l0_2 l1_0 l1_3 l1_4 n0_1 n0_4 n1_1 n1_2 n1_5 n1_6 _ x484 x485 x486).trans ?_
  have e : (fun x484 x485 x486 => lpK c env lf 6 fi21 12 4 [] [2, 3, 5, 6, 13, 14] (x21_4_0) n (f21_0_c b0_3 l0_0 l0_2 l1_0 l1_3 l1_4 n0_1 n0_4 n1_1 n1_2 n1_5 n1_6 x484 x485 x486)) = f21_0 c lf b0_3 l0_0 l0_2 l1_0 l1_3 l1_4 n0_1 n0_4 n1_1 n1_2 n1_5 n1_6 n := by funext x484 x485 x486; exact ih x484 x485 x486
  show f21_0_s c lf b0_3 l0_0 l0_2 l1_0 l1_3 l1_4 n0_1 n0_4 n1_1 n1_2 n1_5 n1_6 (fun x484 x485 x486 => lpK c env lf 6 fi21 12 4 [] [2, 3, 5, 6, 13, 14] (x21_4_0) n (f21_0_c b0_3 l0_0 l0_2 l1_0 l1_3 l1_4 n0_1 n0_4 n1_1 n1_2 n1_5 n1_6 x484 x485 x486)) x484 x485 x486 = _
  rw [e]; rfl
def f21_t (c : Orc) (lf : Nat) (lp0 : Bool → List T → List T → List T → List T → List T → Int → Int → Int → Int → Int → Int → Int → Int → Int → Option (List T)) (l0_0 : List T) (n0_1 : Int) (l0_2 : List T) (b0_3 : Bool) (n0_4 : Int) (l1_0 : List T) (n1_1 n1_2 : Int) (l1_3 l1_4 : List T) (n1_5 n1_6 : Int) : Option (List T) :=
 (lp0 b0_3 l0_0 l0_2 l1_0 l1_3 l1_4 n0_1 n0_4 n1_1 n1_2 n1_5 n1_6 (-1) 0 0).bind fun r489 =>
 some [T.i .i64 (asI (nth r489 1))]
def f21 (c : Orc) (lf : Nat) (l0_0 : List T) (n0_1 : Int) (l0_2 : List T) (b0_3 : Bool) (n0_4 : Int) (l1_0 : List T) (n1_1 n1_2 : Int) (l1_3 l1_4 : List T) (n1_5 n1_6 : Int) : Option (List T) := f21_t c lf (fun (b0_3 : Bool) (l0_0 l0_2 : List T) (l1_0 l1_3 l1_4 : List T) (n0_1 n0_4 : Int) (n1_1 n1_2 : Int) (n1_5 n1_6 : Int) (x484 x485 x486 : Int) => f21_0 c lf b0_3 l0_0 l0_2 l1_0 l1_3 l1_4 n0_1 n0_4 n1_1 n1_2 n1_5 n1_6 lf x484 x485 x486) l0_0 n0_1 l0_2 b0_3 n0_4 l1_0 n1_1 n1_2 l1_3 l1_4 n1_5 n1_6
theorem f21_raw (c : Orc) (lf : Nat) (l0_0 : List T) (n0_1 : Int) (l0_2 : List T) (b0_3 : Bool) (n0_4 : Int) (l1_0 : List T) (n1_1 n1_2 : Int) (l1_3 l1_4 : List T) (n1_5 n1_6 : Int) : funK c env lf 6 fi21 [.st [.sl l0_0, .i .i64 n0_1, .sl l0_2, .b b0_3, .i .i64 n0_4], .st [.sl l1_0, .i .i64 n1_1, .i .i64 n1_2, .sl l1_3, .sl l1_4, .i .i64 n1_5, .i .i64 n1_6]] = f21_t c lf (fun (b0_3 : Bool) (l0_0 l0_2 : List T) (l1_0 l1_3 l1_4 : List T) (n0_1 n0_4 : Int) (n1_1 n1_2 : Int) (n1_5 n1_6 : Int) (x484 x485 x486 : Int) => lpK c env lf 6 fi21 12 4 [] [2, 3, 5, 6, 13, 14] (x21_4_0) lf (f21_0_c b0_3 l0_0 l0_2 l1_0 l1_3 l1_4 n0_1 n0_4 n1_1 n1_2 n1_5 n1_6 x484 x485 x486)) l0_0 n0_1 l0_2 b0_3 n0_4 l1_0 n1_1 n1_2 l1_3 l1_4 n1_5 n1_6 := by kernel_rfl
theorem f21_eq (c : Orc) (lf : Nat) (l0_0 : List T) (n0_1 : Int) (l0_2 : List T) (b0_3 : Bool) (n0_4 : Int) (l1_0 : List T) (n1_1 n1_2 : Int) (l1_3 l1_4 : List T) (n1_5 n1_6 : Int) : funK c env lf 6 fi21 [.st [.sl l0_0, .i .i64 n0_1, .sl l0_2, .b b0_3, .i .i64 n0_4], .st [.sl l1_0, .i .i64 n1_1, .i .i64 n1_2, .sl l1_3, .sl l1_4, .i .i64 n1_5, .i .i64 n1_6]] = f21 c lf l0_0 n0_1 l0_2 b0_3 n0_4 l1_0 n1_1 n1_2 l1_3 l1_4 n1_5 n1_6 := by
 refine (f21_raw c lf l0_0 n0_1 l0_2 b0_3 n0_4 l1_0 n1_1 n1_2 l1_3 l1_4 n1_5 n1_6).trans ?_
 have e0 : (fun (b0_3 : Bool) (l0_0 l0_2 : List T) (l1_0 l1_3 l1_4 : List T) (n0_1 n0_4 : Int) (n1_1 n1_2 : Int) (n1_5 n1_6 : Int) (x484 x485 x486 : Int) => lpK c env lf 6 fi21 12 4 [] [2, 3, 5, 6, 13, 14] (x21_4_0) lf (f21_0_c b0_3 l0_0 l0_2 l1_0 l1_3 l1_4 n0_1 n0_4 n1_1 n1_2 n1_5 n1_6 x484 x485 x486)) = (fun (b0_3 : Bool) (l0_0 l0_2 : List T) (l1_0 l1_3 l1_4 : List T) (n0_1 n0_4 : Int) (n1_1 n1_2 : Int) (n1_5 n1_6 : Int) (x484 x485 x486 : Int) => f21_0 c lf b0_3 l0_0 l0_2 l1_0 l1_3 l1_4 n0_1 n0_4 n1_1 n1_2 n1_5 n1_6 lf x484 x485 x486) := by funext b0_3 l0_0 l0_2 l1_0 l1_3 l1_4 n0_1 n0_4 n1_1 n1_2 n1_5 n1_6 x484 x485 x486; exact f21_0_eq c lf b0_3 l0_0 l0_2 l1_0 l1_3 l1_4 n0_1 n0_4 n1_1 n1_2 n1_5 n1_6 lf x484 x485 x486
 rw [e0]; rfl
def f138_0_s (c : Orc) (lf : Nat) (l0 l1 : List T) (L : Int → Option (List T)) (x492 : Int) : Option (List T) :=
 bif iLt x492 (l0.length : Int) then
  bif inR x492 l0.length then
  bif inR x492 l1.length then
  bif (asI (l0.getD x492.toNat T.u)) != (asI (l1.getD x492.toNat T.u)) then
   some [T.i .i64 0, T.b false]
  else
   L (IntKind.wrap .i64 (x492 + 1))
  else none
  else none
 else
  some [T.i .i64 1]
def f138_0_c (l0 l1 : List T) (x492 : Int) : CSt := ⟨[.ro 0 false [.i .u8] l0, .ro 0 false [.i .u8] l1, .i .i64 x492], [.dead, .dead]⟩
theorem f138_0_round (c : Orc) (lf : Nat) (l0 l1 : List T) (L : CSt → Option (List T)) (x492 : Int) :
 roundK c env lf 6 fi138 2 4 [] [0, 1, 5] (x138_4_0) L (f138_0_c l0 l1 x492) = f138_0_s c lf l0 l1 (fun x492 => L (f138_0_c l0 l1 x492)) x492 := by kernel_rfl
def f138_0 (c : Orc) (lf : Nat) (l0 l1 : List T) : Nat → Int → Option (List T)
 | 0 => fun _ => none
 | n + 1 => fun x492 => f138_0_s c lf l0 l1 (f138_0 c lf l0 l1 n) x492
theorem f138_0_eq (c : Orc) (lf : Nat) (l0 l1 : List T) (n : Nat) (x492 : Int) :
 lpK c env lf 6 fi138 2 4 [] [0, 1, 5] (x138_4_0) n (f138_0_c l0 l1 x492) = f138_0 c lf l0 l1 n x492 := by
 induction n generalizing x492 with
 | zero => rfl
 | succ n ih =>
  refine (f138_0_round c lf l0 l1 _ x492).trans ?_
  have e : (fun x492 => lpK c env lf 6 fi138 2 4 [] [0, 1, 5] (x138_4_0) n (f138_0_c l0 l1 x492)) = f138_0 c lf l0 l1 n := by funext x492; exact ih x492
  show f138_0_s c lf l0 l1 (fun x492 => lpK c env lf 6 fi138 2 4 [] [0, 1, 5] (x138_4_0) n (f138_0_c l0 l1 x492)) x492 = _
  rw [e]; rfl
def f138_t (c : Orc) (lf : Nat) (lp0 : List T → List T → Int → Option (List T)) (l0 l1 : List T) : Option (List T) :=
 bif (l0.length : Int) != (l1.length : Int) then
  some [T.b false]
 else
  (lp0 l0 l1 0).bind fun r493 =>
  bif asI (nth r493 0) == 0 then
   some [T.b (asB (nth r493 1))]
  else
   some [T.b true]
def f138 (c : Orc) (lf : Nat) (l0 l1 : List T) : Option (List T) := f138_t c lf (fun (l0 l1 : List T) (x492 : Int) => f138_0 c lf l0 l1 lf x492) l0 l1
theorem f138_raw (c : Orc) (lf : Nat) (l0 l1 : List T) : funK c env lf 6 fi138 [.sl l0, .sl l1] = f138_t c lf (fun (l0 l1 : List T) (x492 : Int) => lpK c env lf 6 fi138 2 4 [] [0, 1, 5] (x138_4_0) lf (f138_0_c l0 l1 x492)) l0 l1 := by kernel_rfl
theorem f138_eq (c : Orc) (lf : Nat) (l0 l1 : List T) : funK c env lf 6 fi138 [.sl l0, .sl l1] = f138 c lf l0 l1 := by
 refine (f138_raw c lf l0 l1).trans ?_
 have e0 : (fun (l0 l1 : List T) (x492 : Int) => lpK c env lf 6 fi138 2 4 [] [0, 1, 5] (x138_4_0) lf (f138_0_c l0 l1 x492)) = (fun (l0 l1 : List T) (x492 : Int) => f138_0 c lf l0 l1 lf x492) := by funext l0 l1 x492; exact f138_0_eq c lf l0 l1 lf x492
 rw [e0]; rfl
def f131_t (c : Orc) (lf : Nat) (b0_0 : Bool) (l0_1 : List T) (b1_0 : Bool) (l1_1 : List T) : Option (List T) :=
 bif !(b0_0 == b1_0) then
  some [T.b false]
 else
  (c 138 [T.sl l0_1, T.sl l1_1]).bind fun r494 =>
  bif !(asB (nth r494 0)) then
   some [T.b false]
  else
   some [T.b true]
def f131 (c : Orc) (lf : Nat) (b0_0 : Bool) (l0_1 : List T) (b1_0 : Bool) (l1_1 : List T) : Option (List T) := f131_t c lf b0_0 l0_1 b1_0 l1_1
theorem f131_eq (c : Orc) (lf : Nat) (b0_0 : Bool) (l0_1 : List T) (b1_0 : Bool) (l1_1 : List T) : funK c env lf 6 fi131 [.st [.b b0_0, .sl l0_1], .st [.b b1_0, .sl l1_1]] = f131 c lf b0_0 l0_1 b1_0 l1_1 := by kernel_rfl
def f125_0_s (c : Orc) (lf : Nat) (l0 l1 : List T) (L : Int → Option (List T)) (x500 : Int) : Option (List T) :=
 bif iLt x500 (l0.length : Int) then
  bif inR x500 l0.length then
  bif inR x500 l1.length then
  (c 131 [T.st [T.b (asB (T.cell (l0.getD x500.toNat T.u) 0)), T.sl (asL (T.cell (l0.getD x500.toNat T.u) 1))], T.st [T.b (asB (T.cell (l1.getD x500.toNat T.u) 0)), T.sl (asL (T.cell (l1.getD x500.toNat T.u) 1))]]).bind fun r501 =>
  bif !(asB (nth r501 0)) then
   some [T.i .i64 0, T.b false]
  else
   L (IntKind.wrap .i64 (x500 + 1))
  else none
  else none
 else
  some [T.i .i64 1]
def f125_0_c (l0 l1 : List T) (x500 : Int) : CSt := ⟨[.ro 0 true [.b, .sl false [.i .u8]] l0, .ro 0 true [.b, .sl false [.i .u8]] l1, .i .i64 x500], [.dead, .dead]⟩
theorem f125_0_round (c : Orc) (lf : Nat) (l0 l1 : List T) (L : CSt → Option (List T)) (x500 : Int) :
 roundK c env lf 6 fi125 2 4 [] [0, 1, 5] (x125_4_0) L (f125_0_c l0 l1 x500) = f125_0_s c lf l0 l1 (fun x500 => L (f125_0_c l0 l1 x500)) x500 := by kernel_rfl
def f125_0 (c : Orc) (lf : Nat) (l0 l1 : List T) : Nat → Int → Option (List T)
 | 0 => fun _ => none
 | n + 1 => fun x500 => f125_0_s c lf l0 l1 (f125_0 c lf l0 l1 n) x500
theorem f125_0_eq (c : Orc) (lf : Nat) (l0 l1 : List T) (n : Nat) (x500 : Int) :
 lpK c env lf 6 fi125 2 4 [] [0, 1, 5] (x125_4_0) n (f125_0_c l0 l1 x500) = f125_0 c lf l0 l1 n x500 := by
 induction n generalizing x500 with
 | zero => rfl
 | succ n ih =>
  refine (f125_0_round c lf l0 l1 _ x500).trans ?_
  have e : (fun x500 => lpK c env lf 6 fi125 2 4 [] [0, 1, 5] (x125_4_0) n (f125_0_c l0 l1 x500)) = f125_0 c lf l0 l1 n := by funext x500; exact ih x500
  show f125_0_s c lf l0 l1 (fun x500 => lpK c env lf 6 fi125 2 4 [] [0, 1, 5] (x125_4_0) n (f125_0_c l0 l1 x500)) x500 = _
  rw [e]; rfl
def f125_t (c : Orc) (lf : Nat) (lp0 : List T → List T → Int → Option (List T)) (l0 l1 : List T) : Option (List T) :=
 bif (l0.length : Int) != (l1.length : Int) then
  some [T.b false]
 else
  (lp0 l0 l1 0).bind fun r502 =>
  bif asI (nth r502 0) == 0 then
   some [T.b (asB (nth r502 1))]
  else
   some [T.b true]
def f125 (c : Orc) (lf : Nat) (l0 l1 : List T) : Option (List T) := f125_t c lf (fun (l0 l1 : List T) (x500 : Int) => f125_0 c lf l0 l1 lf x500) l0 l1
theorem f125_raw (c : Orc) (lf : Nat) (l0 l1 : List T) : funK c env lf 6 fi125 [.sl l0, .sl l1] = f125_t c lf (fun (l0 l1 : List T) (x500 : Int) => lpK c env lf 6 fi125 2 4 [] [0, 1, 5] (x125_4_0) lf (f125_0_c l0 l1 x500)) l0 l1 := by kernel_rfl
theorem f125_eq (c : Orc) (lf : Nat) (l0 l1 : List T) : funK c env lf 6 fi125 [.sl l0, .sl l1] = f125 c lf l0 l1 := by
 refine (f125_raw c lf l0 l1).trans ?_
 have e0 : (fun (l0 l1 : List T) (x500 : Int) => lpK c env lf 6 fi125 2 4 [] [0, 1, 5] (x125_4_0) lf (f125_0_c l0 l1 x500)) = (fun (l0 l1 : List T) (x500 : Int) => f125_0 c lf l0 l1 lf x500) := by funext l0 l1 x500; exact f125_0_eq c lf l0 l1 lf x500
 rw [e0]; rfl
def f118_t (c : Orc) (lf : Nat) (l0_0 : List T) (n0_1 : Int) (b0_2 : Bool) (l1_0 : List T) (n1_1 : Int) (b1_2 : Bool) : Option (List T) :=
 (c 125 [T.sl l0_0, T.sl l1_0]).bind fun r503 =>
 bif !(asB (nth r503 0)) then
  some [T.b false]
 else
  bif n0_1 != n1_1 then
   some [T.b false]
  else
   bif !(b0_2 == b1_2) then
    some [T.b false]
   else
    some [T.b true]
def f118 (c : Orc) (lf : Nat) (l0_0 : List T) (n0_1 : Int) (b0_2 : Bool) (l1_0 : List T) (n1_1 : Int) (b1_2 : Bool) : Option (List T) := f118_t c lf l0_0 n0_1 b0_2 l1_0 n1_1 b1_2
theorem f118_eq (c : Orc) (lf : Nat) (l0_0 : List T) (n0_1 : Int) (b0_2 : Bool) (l1_0 : List T) (n1_1 : Int) (b1_2 : Bool) : funK c env lf 6 fi118 [.st [.sl l0_0, .i .i64 n0_1, .b b0_2], .st [.sl l1_0, .i .i64 n1_1, .b b1_2]] = f118 c lf l0_0 n0_1 b0_2 l1_0 n1_1 b1_2 := by kernel_rfl
def f100_0_s (c : Orc) (lf : Nat) (l0 l1 : List T) (L : Int → Option (List T)) (x509 : Int) : Option (List T) :=
 bif iLt x509 (l0.length : Int) then
  bif inR x509 l0.length then
  bif inR x509 l1.length then
  (c 118 [T.st [T.sl (asL (T.cell (l0.getD x509.toNat T.u) 0)), T.i .i64 (asI (T.cell (l0.getD x509.toNat T.u) 1)), T.b (asB (T.cell (l0.getD x509.toNat T.u) 2))], T.st [T.sl (asL (T.cell (l1.getD x509.toNat T.u) 0)), T.i .i64 (asI (T.cell (l1.getD x509.toNat T.u) 1)), T.b (asB (T.cell (l1.getD x509.toNat T.u) 2))]]).bind fun r510 =>
  bif !(asB (nth r510 0)) then
   some [T.i .i64 0, T.b false]
  else
   L (IntKind.wrap .i64 (x509 + 1))
  else none
  else none
 else
  some [T.i .i64 1]
def f100_0_c (l0 l1 : List T) (x509 : Int) : CSt := ⟨[.ro 0 true [.sl true [.b, .sl false [.i .u8]], .i .i64, .b] l0, .ro 0 true [.sl true [.b, .sl false [.i .u8]], .i .i64, .b] l1, .i .i64 x509], [.dead, .dead]⟩
theorem f100_0_round (c : Orc) (lf : Nat) (l0 l1 : List T) (L : CSt → Option (List T)) (x509 : Int) :
 roundK c env lf 6 fi100 2 4 [] [0, 1, 5] (x100_4_0) L (f100_0_c l0 l1 x509) = f100_0_s c lf l0 l1 (fun x509 => L (f100_0_c l0 l1 x509)) x509 := by kernel_rfl
def f100_0 (c : Orc) (lf : Nat) (l0 l1 : List T) : Nat → Int → Option (List T)
 | 0 => fun _ => none
 | n + 1 => fun x509 => f100_0_s c lf l0 l1 (f100_0 c lf l0 l1 n) x509
theorem f100_0_eq (c : Orc) (lf : Nat) (l0 l1 : List T) (n : Nat) (x509 : Int) :
 lpK c env lf 6 fi100 2 4 [] [0, 1, 5] (x100_4_0) n (f100_0_c l0 l1 x509) = f100_0 c lf l0 l1 n x509 := by
 induction n generalizing x509 with
 | zero => rfl
 | succ n ih =>
  refine (f100_0_round c lf l0 l1 _ x509).trans ?_
  have e : (fun x509 => lpK c env lf 6 fi100 2 4 [] [0, 1, 5] (x100_4_0) n (f100_0_c l0 l1 x509)) = f100_0 c lf l0 l1 n := by funext x509; exact ih x509
  show f100_0_s c lf l0 l1 (fun x509 => lpK c env lf 6 fi100 2 4 [] [0, 1, 5] (x100_4_0) n (f100_0_c l0 l1 x509)) x509 = _
  rw [e]; rfl
def f100_t (c : Orc) (lf : Nat) (lp0 : List T → List T → Int → Option (List T)) (l0 l1 : List T) : Option (List T) :=
 bif (l0.length : Int) != (l1.length : Int) then
  some [T.b false]
 else
  (lp0 l0 l1 0).bind fun r511 =>
  bif asI (nth r511 0) == 0 then
   some [T.b (asB (nth r511 1))]
  else
   some [T.b true]
def f100 (c : Orc) (lf : Nat) (l0 l1 : List T) : Option (List T) := f100_t c lf (fun (l0 l1 : List T) (x509 : Int) => f100_0 c lf l0 l1 lf x509) l0 l1
theorem f100_raw (c : Orc) (lf : Nat) (l0 l1 : List T) : funK c env lf 6 fi100 [.sl l0, .sl l1] = f100_t c lf (fun (l0 l1 : List T) (x509 : Int) => lpK c env lf 6 fi100 2 4 [] [0, 1, 5] (x100_4_0) lf (f100_0_c l0 l1 x509)) l0 l1 := by kernel_rfl
theorem f100_eq (c : Orc) (lf : Nat) (l0 l1 : List T) : funK c env lf 6 fi100 [.sl l0, .sl l1] = f100 c lf l0 l1 := by
 refine (f100_raw c lf l0 l1).trans ?_
 have e0 : (fun (l0 l1 : List T) (x509 : Int) => lpK c env lf 6 fi100 2 4 [] [0, 1, 5] (x100_4_0) lf (f100_0_c l0 l1 x509)) = (fun (l0 l1 : List T) (x509 : Int) => f100_0 c lf l0 l1 lf x509) := by funext l0 l1 x509; exact f100_0_eq c lf l0 l1 lf x509
 rw [e0]; rfl
def f72_t (c : Orc) (lf : Nat) (l0_0 l1_0 : List T) : Option (List T) :=
 (c 100 [T.sl l0_0, T.sl l1_0]).bind fun r512 =>
 bif !(asB (nth r512 0)) then
  some [T.b false]
 else
  some [T.b true]
def f72 (c : Orc) (lf : Nat) (l0_0 l1_0 : List T) : Option (List T) := f72_t c lf l0_0 l1_0
theorem f72_eq (c : Orc) (lf : Nat) (l0_0 l1_0 : List T) : funK c env lf 6 fi72 [.st [.sl l0_0], .st [.sl l1_0]] = f72 c lf l0_0 l1_0 := by kernel_rfl
def f101_t (c : Orc) (lf : Nat) (n0_0 n0_1 : Int) (n0_2 n1_0 : Int) (n1_1 n1_2 : Int) : Option (List T) :=
 bif n0_0 != n1_0 then
  some [T.b false]
 else
  bif n0_1 != n1_1 then
   some [T.b false]
  else
   bif n0_2 != n1_2 then
    some [T.b false]
   else
    some [T.b true]
def f101 (c : Orc) (lf : Nat) (n0_0 n0_1 : Int) (n0_2 n1_0 : Int) (n1_1 n1_2 : Int) : Option (List T) := f101_t c lf n0_0 n0_1 n0_2 n1_0 n1_1 n1_2
theorem f101_eq (c : Orc) (lf : Nat) (n0_0 n0_1 : Int) (n0_2 n1_0 : Int) (n1_1 n1_2 : Int) : funK c env lf 6 fi101 [.st [.i .i64 n0_0, .i .i64 n0_1, .i .i64 n0_2], .st [.i .i64 n1_0, .i .i64 n1_1, .i .i64 n1_2]] = f101 c lf n0_0 n0_1 n0_2 n1_0 n1_1 n1_2 := by kernel_rfl
def f73_0_s (c : Orc) (lf : Nat) (l0 l1 : List T) (L : Int → Option (List T)) (x518 : Int) : Option (List T) :=
 bif iLt x518 (l0.length : Int) then
  bif inR x518 l0.length then
  bif inR x518 l1.length then
  (c 101 [T.st [T.i .i64 (asI (T.cell (l0.getD x518.toNat T.u) 0)), T.i .i64 (asI (T.cell (l0.getD x518.toNat T.u) 1)), T.i .i64 (asI (T.cell (l0.getD x518.toNat T.u) 2))], T.st [T.i .i64 (asI (T.cell (l1.getD x518.toNat T.u) 0)), T.i .i64 (asI (T.cell (l1.getD x518.toNat T.u) 1)), T.i .i64 (asI (T.cell (l1.getD x518.toNat T.u) 2))]]).bind fun r519 =>
  bif !(asB (nth r519 0)) then
   some [T.i .i64 0, T.b false]
  else
   L (IntKind.wrap .i64 (x518 + 1))
  else none
  else none
 else
  some [T.i .i64 1]
def f73_0_c (l0 l1 : List T) (x518 : Int) : CSt := ⟨[.ro 0 true [.i .i64, .i .i64, .i .i64] l0, .ro 0 true [.i .i64, .i .i64, .i .i64] l1, .i .i64 x518], [.dead, .dead]⟩
theorem f73_0_round (c : Orc) (lf : Nat) (l0 l1 : List T) (L : CSt → Option (List T)) (x518 : Int) :
 roundK c env lf 6 fi73 2 4 [] [0, 1, 5] (x73_4_0) L (f73_0_c l0 l1 x518) = f73_0_s c lf l0 l1 (fun x518 => L (f73_0_c l0 l1 x518)) x518 := by kernel_rfl
def f73_0 (c : Orc) (lf : Nat) (l0 l1 : List T) : Nat → Int → Option (List T)
 | 0 => fun _ => none
 | n + 1 => fun x518 => f73_0_s c lf l0 l1 (f73_0 c lf l0 l1 n) x518
theorem f73_0_eq (c : Orc) (lf : Nat) (l0 l1 : List T) (n : Nat) (x518 : Int) :
 lpK c env lf 6 fi73 2 4 [] [0, 1, 5] (x73_4_0) n (f73_0_c l0 l1 x518) = f73_0 c lf l0 l1 n x518 := by
 induction n generalizing x518 with
 | zero => rfl
 | succ n ih =>
  refine (f73_0_round c lf l0 l1 _ x518).trans ?_
  have e : (fun x518 => lpK c env lf 6 fi73 2 4 [] [0, 1, 5] (x73_4_0) n (f73_0_c l0 l1 x518)) = f73_0 c lf l0 l1 n := by funext x518; exact ih x518
  show f73_0_s c lf l0 l1 (fun x518 => lpK c env lf 6 fi73 2 4 [] [0, 1, 5] (x73_4_0) n (f73_0_c l0 l1 x518)) x518 = _
  rw [e]; rfl
def f73_t (c : Orc) (lf : Nat) (lp0 : List T → List T → Int → Option (List T)) (l0 l1 : List T) : Option (List T) :=
 bif (l0.length : Int) != (l1.length : Int) then
  some [T.b false]
 else
  (lp0 l0 l1 0).bind fun r520 =>
  bif asI (nth r520 0) == 0 then
   some [T.b (asB (nth r520 1))]
  else
   some [T.b true]
def f73 (c : Orc) (lf : Nat) (l0 l1 : List T) : Option (List T) := f73_t c lf (fun (l0 l1 : List T) (x518 : Int) => f73_0 c lf l0 l1 lf x518) l0 l1
theorem f73_raw (c : Orc) (lf : Nat) (l0 l1 : List T) : funK c env lf 6 fi73 [.sl l0, .sl l1] = f73_t c lf (fun (l0 l1 : List T) (x518 : Int) => lpK c env lf 6 fi73 2 4 [] [0, 1, 5] (x73_4_0) lf (f73_0_c l0 l1 x518)) l0 l1 := by kernel_rfl
theorem f73_eq (c : Orc) (lf : Nat) (l0 l1 : List T) : funK c env lf 6 fi73 [.sl l0, .sl l1] = f73 c lf l0 l1 := by
 refine (f73_raw c lf l0 l1).trans ?_
 have e0 : (fun (l0 l1 : List T) (x518 : Int) => lpK c env lf 6 fi73 2 4 [] [0, 1, 5] (x73_4_0) lf (f73_0_c l0 l1 x518)) = (fun (l0 l1 : List T) (x518 : Int) => f73_0 c lf l0 l1 lf x518) := by funext l0 l1 x518; exact f73_0_eq c lf l0 l1 lf x518
 rw [e0]; rfl
def f46_t (c : Orc) (lf : Nat) (l0_0 : List T) (n0_1 : Int) (l0_2 : List T) (b0_3 : Bool) (l1_0 : List T) (n1_1 : Int) (l1_2 : List T) (b1_3 : Bool) : Option (List T) :=
 (c 72 [T.st [T.sl l0_0], T.st [T.sl l1_0]]).bind fun r521 =>
 bif !(asB (nth r521 0)) then
  some [T.b false]
 else
  bif n0_1 != n1_1 then
   some [T.b false]
  else
   (c 73 [T.sl l0_2, T.sl l1_2]).bind fun r522 =>
   bif !(asB (nth r522 0)) then
    some [T.b false]
   else
    bif !(b0_3 == b1_3) then
     some [T.b false]
    else
     some [T.b true]
def f46 (c : Orc) (lf : Nat) (l0_0 : List T) (n0_1 : Int) (l0_2 : List T) (b0_3 : Bool) (l1_0 : List T) (n1_1 : Int) (l1_2 : List T) (b1_3 : Bool) : Option (List T) := f46_t c lf l0_0 n0_1 l0_2 b0_3 l1_0 n1_1 l1_2 b1_3
theorem f46_eq (c : Orc) (lf : Nat) (l0_0 : List T) (n0_1 : Int) (l0_2 : List T) (b0_3 : Bool) (l1_0 : List T) (n1_1 : Int) (l1_2 : List T) (b1_3 : Bool) : funK c env lf 6 fi46 [.st [.sl l0_0, .i .i64 n0_1, .sl l0_2, .b b0_3], .st [.sl l1_0, .i .i64 n1_1, .sl l1_2, .b b1_3]] = f46 c lf l0_0 n0_1 l0_2 b0_3 l1_0 n1_1 l1_2 b1_3 := by kernel_rfl
def f19_t (c : Orc) (lf : Nat) (l0_0 : List T) (n0_1 : Int) (l0_2 : List T) (b0_3 : Bool) (n0_4 : Int) (l1_0 : List T) (n1_1 : Int) (l1_2 : List T) (b1_3 : Bool) (n1_4 : Int) : Option (List T) :=
 (c 46 [T.st [T.sl l0_0, T.i .i64 n0_1, T.sl l0_2, T.b b0_3], T.st [T.sl l1_0, T.i .i64 n1_1, T.sl l1_2, T.b b1_3]]).bind fun r523 =>
 bif !(asB (nth r523 0)) then
  some [T.b false]
 else
  bif n0_4 != n1_4 then
   some [T.b false]
  else
   some [T.b true]
def f19 (c : Orc) (lf : Nat) (l0_0 : List T) (n0_1 : Int) (l0_2 : List T) (b0_3 : Bool) (n0_4 : Int) (l1_0 : List T) (n1_1 : Int) (l1_2 : List T) (b1_3 : Bool) (n1_4 : Int) : Option (List T) := f19_t c lf l0_0 n0_1 l0_2 b0_3 n0_4 l1_0 n1_1 l1_2 b1_3 n1_4
theorem f19_eq (c : Orc) (lf : Nat) (l0_0 : List T) (n0_1 : Int) (l0_2 : List T) (b0_3 : Bool) (n0_4 : Int) (l1_0 : List T) (n1_1 : Int) (l1_2 : List T) (b1_3 : Bool) (n1_4 : Int) : funK c env lf 6 fi19 [.st [.sl l0_0, .i .i64 n0_1, .sl l0_2, .b b0_3, .i .i64 n0_4], .st [.sl l1_0, .i .i64 n1_1, .sl l1_2, .b b1_3, .i .i64 n1_4]] = f19 c lf l0_0 n0_1 l0_2 b0_3 n0_4 l1_0 n1_1 l1_2 b1_3 n1_4 := by kernel_rfl
def f145_t (c : Orc) (lf : Nat) (s0_0 : ByteArray) (n0_1 : Int) (s1_0 : ByteArray) (n1_1 : Int) : Option (List T) :=
 bif !(s0_0.toList == s1_0.toList) then
  some [T.b false]
 else
  bif n0_1 != n1_1 then
   some [T.b false]
  else
   some [T.b true]
def f145 (c : Orc) (lf : Nat) (s0_0 : ByteArray) (n0_1 : Int) (s1_0 : ByteArray) (n1_1 : Int) : Option (List T) := f145_t c lf s0_0 n0_1 s1_0 n1_1
theorem f145_eq (c : Orc) (lf : Nat) (s0_0 : ByteArray) (n0_1 : Int) (s1_0 : ByteArray) (n1_1 : Int) : funK c env lf 6 fi145 [.st [.s s0_0, .i .i64 n0_1], .st [.s s1_0, .i .i64 n1_1]] = f145 c lf s0_0 n0_1 s1_0 n1_1 := by kernel_rfl
def f139_0_s (c : Orc) (lf : Nat) (l0 l1 : List T) (L : Int → Option (List T)) (x529 : Int) : Option (List T) :=
 bif iLt x529 (l0.length : Int) then
  bif inR x529 l0.length then
  bif inR x529 l1.length then
  (c 145 [T.st [T.s (asS (T.cell (l0.getD x529.toNat T.u) 0)), T.i .i64 (asI (T.cell (l0.getD x529.toNat T.u) 1))], T.st [T.s (asS (T.cell (l1.getD x529.toNat T.u) 0)), T.i .i64 (asI (T.cell (l1.getD x529.toNat T.u) 1))]]).bind fun r530 =>
  bif !(asB (nth r530 0)) then
   some [T.i .i64 0, T.b false]
  else
   L (IntKind.wrap .i64 (x529 + 1))
  else none
  else none
 else
  some [T.i .i64 1]
def f139_0_c (l0 l1 : List T) (x529 : Int) : CSt := ⟨[.ro 0 true [.s, .i .i64] l0, .ro 0 true [.s, .i .i64] l1, .i .i64 x529], [.dead, .dead]⟩
theorem f139_0_round (c : Orc) (lf : Nat) (l0 l1 : List T) (L : CSt → Option (List T)) (x529 : Int) :
 roundK c env lf 6 fi139 2 4 [] [0, 1, 5] (x139_4_0) L (f139_0_c l0 l1 x529) = f139_0_s c lf l0 l1 (fun x529 => L (f139_0_c l0 l1 x529)) x529 := by kernel_rfl
def f139_0 (c : Orc) (lf : Nat) (l0 l1 : List T) : Nat → Int → Option (List T)
 | 0 => fun _ => none
 | n + 1 => fun x529 => f139_0_s c lf l0 l1 (f139_0 c lf l0 l1 n) x529
theorem f139_0_eq (c : Orc) (lf : Nat) (l0 l1 : List T) (n : Nat) (x529 : Int) :
 lpK c env lf 6 fi139 2 4 [] [0, 1, 5] (x139_4_0) n (f139_0_c l0 l1 x529) = f139_0 c lf l0 l1 n x529 := by
 induction n generalizing x529 with
 | zero => rfl
 | succ n ih =>
  refine (f139_0_round c lf l0 l1 _ x529).trans ?_
  have e : (fun x529 => lpK c env lf 6 fi139 2 4 [] [0, 1, 5] (x139_4_0) n (f139_0_c l0 l1 x529)) = f139_0 c lf l0 l1 n := by funext x529; exact ih x529
  show f139_0_s c lf l0 l1 (fun x529 => lpK c env lf 6 fi139 2 4 [] [0, 1, 5] (x139_4_0) n (f139_0_c l0 l1 x529)) x529 = _
  rw [e]; rfl
def f139_t (c : Orc) (lf : Nat) (lp0 : List T → List T → Int → Option (List T)) (l0 l1 : List T) : Option (List T) :=
 bif (l0.length : Int) != (l1.length : Int) then
  some [T.b false]
 else
  (lp0 l0 l1 0).bind fun r531 =>
  bif asI (nth r531 0) == 0 then
   some [T.b (asB (nth r531 1))]
  else
   some [T.b true]
def f139 (c : Orc) (lf : Nat) (l0 l1 : List T) : Option (List T) := f139_t c lf (fun (l0 l1 : List T) (x529 : Int) => f139_0 c lf l0 l1 lf x529) l0 l1
theorem f139_raw (c : Orc) (lf : Nat) (l0 l1 : List T) : funK c env lf 6 fi139 [.sl l0, .sl l1] = f139_t c lf (fun (l0 l1 : List T) (x529 : Int) => lpK c env lf 6 fi139 2 4 [] [0, 1, 5] (x139_4_0) lf (f139_0_c l0 l1 x529)) l0 l1 := by kernel_rfl
theorem f139_eq (c : Orc) (lf : Nat) (l0 l1 : List T) : funK c env lf 6 fi139 [.sl l0, .sl l1] = f139 c lf l0 l1 := by
 refine (f139_raw c lf l0 l1).trans ?_
 have e0 : (fun (l0 l1 : List T) (x529 : Int) => lpK c env lf 6 fi139 2 4 [] [0, 1, 5] (x139_4_0) lf (f139_0_c l0 l1 x529)) = (fun (l0 l1 : List T) (x529 : Int) => f139_0 c lf l0 l1 lf x529) := by funext l0 l1 x529; exact f139_0_eq c lf l0 l1 lf x529
 rw [e0]; rfl
def f146_t (c : Orc) (lf : Nat) (s0_0 s0_1 : ByteArray) (s1_0 s1_1 : ByteArray) : Option (List T) :=
 bif !(s0_0.toList == s1_0.toList) then
  some [T.b false]
 else
  bif !(s0_1.toList == s1_1.toList) then
   some [T.b false]
  else
   some [T.b true]
def f146 (c : Orc) (lf : Nat) (s0_0 s0_1 : ByteArray) (s1_0 s1_1 : ByteArray) : Option (List T) := f146_t c lf s0_0 s0_1 s1_0 s1_1
theorem f146_eq (c : Orc) (lf : Nat) (s0_0 s0_1 : ByteArray) (s1_0 s1_1 : ByteArray) : funK c env lf 6 fi146 [.st [.s s0_0, .s s0_1], .st [.s s1_0, .s s1_1]] = f146 c lf s0_0 s0_1 s1_0 s1_1 := by kernel_rfl
def f140_0_s (c : Orc) (lf : Nat) (l0 l1 : List T) (L : Int → Option (List T)) (x537 : Int) : Option (List T) :=
 bif iLt x537 (l0.length : Int) then
  bif inR x537 l0.length then
  bif inR x537 l1.length then
  (c 146 [T.st [T.s (asS (T.cell (l0.getD x537.toNat T.u) 0)), T.s (asS (T.cell (l0.getD x537.toNat T.u) 1))], T.st [T.s (asS (T.cell (l1.getD x537.toNat T.u) 0)), T.s (asS (T.cell (l1.getD x537.toNat T.u) 1))]]).bind fun r538 =>
  bif !(asB (nth r538 0)) then
   some [T.i .i64 0, T.b false]
  else
   L (IntKind.wrap .i64 (x537 + 1))
  else none
  else none
 else
  some [T.i .i64 1]
def f140_0_c (l0 l1 : List T) (x537 : Int) : CSt := ⟨[.ro 0 true [.s, .s] l0, .ro 0 true [.s, .s] l1, .i .i64 x537], [.dead, .dead]⟩
theorem f140_0_round (c : Orc) (lf : Nat) (l0 l1 : List T) (L : CSt → Option (List T)) (x537 : Int) :
 roundK c env lf 6 fi140 2 4 [] [0, 1, 5] (x140_4_0) L (f140_0_c l0 l1 x537) = f140_0_s c lf l0 l1 (fun x537 => L (f140_0_c l0 l1 x537)) x537 := by kernel_rfl
def f140_0 (c : Orc) (lf : Nat) (l0 l1 : List T) : Nat → Int → Option (List T)
 | 0 => fun _ => none
 | n + 1 => fun x537 => f140_0_s c lf l0 l1 (f140_0 c lf l0 l1 n) x537
theorem f140_0_eq (c : Orc) (lf : Nat) (l0 l1 : List T) (n : Nat) (x537 : Int) :
 lpK c env lf 6 fi140 2 4 [] [0, 1, 5] (x140_4_0) n (f140_0_c l0 l1 x537) = f140_0 c lf l0 l1 n x537 := by
 induction n generalizing x537 with
 | zero => rfl
 | succ n ih =>
  refine (f140_0_round c lf l0 l1 _ x537).trans ?_
  have e : (fun x537 => lpK c env lf 6 fi140 2 4 [] [0, 1, 5] (x140_4_0) n (f140_0_c l0 l1 x537)) = f140_0 c lf l0 l1 n := by funext x537; exact ih x537
  show f140_0_s c lf l0 l1 (fun x537 => lpK c env lf 6 fi140 2 4 [] [0, 1, 5] (x140_4_0) n (f140_0_c l0 l1 x537)) x537 = _
  rw [e]; rfl
def f140_t (c : Orc) (lf : Nat) (lp0 : List T → List T → Int → Option (List T)) (l0 l1 : List T) : Option (List T) :=
 bif (l0.length : Int) != (l1.length : Int) then
  some [T.b false]
 else
  (lp0 l0 l1 0).bind fun r539 =>
  bif asI (nth r539 0) == 0 then
   some [T.b (asB (nth r539 1))]
  else
   some [T.b true]
def f140 (c : Orc) (lf : Nat) (l0 l1 : List T) : Option (List T) := f140_t c lf (fun (l0 l1 : List T) (x537 : Int) => f140_0 c lf l0 l1 lf x537) l0 l1
theorem f140_raw (c : Orc) (lf : Nat) (l0 l1 : List T) : funK c env lf 6 fi140 [.sl l0, .sl l1] = f140_t c lf (fun (l0 l1 : List T) (x537 : Int) => lpK c env lf 6 fi140 2 4 [] [0, 1, 5] (x140_4_0) lf (f140_0_c l0 l1 x537)) l0 l1 := by kernel_rfl
theorem f140_eq (c : Orc) (lf : Nat) (l0 l1 : List T) : funK c env lf 6 fi140 [.sl l0, .sl l1] = f140 c lf l0 l1 := by
 refine (f140_raw c lf l0 l1).trans ?_
 have e0 : (fun (l0 l1 : List T) (x537 : Int) => lpK c env lf 6 fi140 2 4 [] [0, 1, 5] (x140_4_0) lf (f140_0_c l0 l1 x537)) = (fun (l0 l1 : List T) (x537 : Int) => f140_0 c lf l0 l1 lf x537) := by funext l0 l1 x537; exact f140_0_eq c lf l0 l1 lf x537
 rw [e0]; rfl
def f128_t (c : Orc) (lf : Nat) (n0_0 n0_1 n0_2 : Int) (l0_3 l0_4 l0_5 : List T) (n1_0 n1_1 n1_2 : Int) (l1_3 l1_4 l1_5 : List T) : Option (List T) :=
 bif n0_0 != n1_0 then
  some [T.b false]
 else
  bif n0_1 != n1_1 then
   some [T.b false]
  else
   bif n0_2 != n1_2 then
    some [T.b false]
   else
    (c 138 [T.sl l0_3, T.sl l1_3]).bind fun r540 =>
    bif !(asB (nth r540 0)) then
     some [T.b false]
    else
     (c 139 [T.sl l0_4, T.sl l1_4]).bind fun r541 =>
     bif !(asB (nth r541 0)) then
      some [T.b false]
     else
      (c 140 [T.sl l0_5, T.sl l1_5]).bind fun r542 =>
      bif !(asB (nth r542 0)) then
       some [T.b false]
      else
       some [T.b true]
def f128 (c : Orc) (lf : Nat) (n0_0 n0_1 n0_2 : Int) (l0_3 l0_4 l0_5 : List T) (n1_0 n1_1 n1_2 : Int) (l1_3 l1_4 l1_5 : List T) : Option (List T) := f128_t c lf n0_0 n0_1 n0_2 l0_3 l0_4 l0_5 n1_0 n1_1 n1_2 l1_3 l1_4 l1_5
theorem f128_eq (c : Orc) (lf : Nat) (n0_0 n0_1 n0_2 : Int) (l0_3 l0_4 l0_5 : List T) (n1_0 n1_1 n1_2 : Int) (l1_3 l1_4 l1_5 : List T) : funK c env lf 6 fi128 [.st [.i .i64 n0_0, .i .i64 n0_1, .i .i64 n0_2, .sl l0_3, .sl l0_4, .sl l0_5], .st [.i .i64 n1_0, .i .i64 n1_1, .i .i64 n1_2, .sl l1_3, .sl l1_4, .sl l1_5]] = f128 c lf n0_0 n0_1 n0_2 l0_3 l0_4 l0_5 n1_0 n1_1 n1_2 l1_3 l1_4 l1_5 := by kernel_rfl
def f122_0_s (c : Orc) (lf : Nat) (l0 l1 : List T) (L : Int → Option (List T)) (x548 : Int) : Option (List T) :=
 bif iLt x548 (l0.length : Int) then
  bif inR x548 l0.length then
  bif inR x548 l1.length then
  (c 128 [T.st [T.i .i64 (asI (T.cell (l0.getD x548.toNat T.u) 0)), T.i .i64 (asI (T.cell (l0.getD x548.toNat T.u) 1)), T.i .i64 (asI (T.cell (l0.getD x548.toNat T.u) 2)), T.sl (asL (T.cell (l0.getD x548.toNat T.u) 3)), T.sl (asL (T.cell (l0.getD x548.toNat T.u) 4)), T.sl (asL (T.cell (l0.getD x548.toNat T.u) 5))], T.st [T.i .i64 (asI (T.cell (l1.getD x548.toNat T.u) 0)), T.i .i64 (asI (T.cell (l1.getD x548.toNat T.u) 1)), T.i .i64 (asI (T.cell (l1.getD x548.toNat T.u) 2)), T.sl (asL (T.cell (l1.getD x548.toNat T.u) 3)), T.sl (asL (T.cell (l1.getD x548.toNat T.u) 4)), T.sl (asL (T.cell (l1.getD x548.toNat T.u) 5))]]).bind fun r549 =>
  bif !(asB (nth r549 0)) then
   some [T.i .i64 0, T.b false]
  else
   L (IntKind.wrap .i64 (x548 + 1))
  else none
  else none
 else
  some [T.i .i64 1]
def f122_0_c (l0 l1 : List T) (x548 : Int) : CSt := ⟨[.ro 0 true [.i .i64, .i .i64, .i .i64, .sl false [.i .u8], .sl true [.s, .i .i64], .sl true [.s, .s]] l0, .ro 0 true [.i .i64, .i .i64, .i .i64, .sl false [.i .u8], .sl true [.s, .i .i64], .sl true [.s, .s]] l1, .i .i64 x548], [.dead, .dead]⟩
theorem f122_0_round (c : Orc) (lf : Nat) (l0 l1 : List T) (L : CSt → Option (List T)) (x548 : Int) :
 roundK c env lf 6 fi122 2 4 [] [0, 1, 5] (x122_4_0) L (f122_0_c l0 l1 x548) = f122_0_s c lf l0 l1 (fun x548 => L (f122_0_c l0 l1 x548)) x548 := by kernel_rfl
def f122_0 (c : Orc) (lf : Nat) (l0 l1 : List T) : Nat → Int → Option (List T)
 | 0 => fun _ => none
 | n + 1 => fun x548 => f122_0_s c lf l0 l1 (f122_0 c lf l0 l1 n) x548
theorem f122_0_eq (c : Orc) (lf : Nat) (l0 l1 : List T) (n : Nat) (x548 : Int) :
 lpK c env lf 6 fi122 2 4 [] [0, 1, 5] (x122_4_0) n (f122_0_c l0 l1 x548) = f122_0 c lf l0 l1 n x548 := by
 induction n generalizing x548 with
 | zero => rfl
 | succ n ih =>
  refine (f122_0_round c lf l0 l1 _ x548).trans ?_
  have e : (fun x548 => lpK c env lf 6 fi122 2 4 [] [0, 1, 5] (x122_4_0) n (f122_0_c l0 l1 x548)) = f122_0 c lf l0 l1 n := by funext x548; exact ih x548
  show f122_0_s c lf l0 l1 (fun x548 => lpK c env lf 6 fi122 2 4 [] [0, 1, 5] (x122_4_0) n (f122_0_c l0 l1 x548)) x548 = _
  rw [e]; rfl
def f122_t (c : Orc) (lf : Nat) (lp0 : List T → List T → Int → Option (List T)) (l0 l1 : List T) : Option (List T) :=
 bif (l0.length : Int) != (l1.length : Int) then
  some [T.b false]
 else
  (lp0 l0 l1 0).bind fun r550 =>
  bif asI (nth r550 0) == 0 then
   some [T.b (asB (nth r550 1))]
  else
   some [T.b true]
def f122 (c : Orc) (lf : Nat) (l0 l1 : List T) : Option (List T) := f122_t c lf (fun (l0 l1 : List T) (x548 : Int) => f122_0 c lf l0 l1 lf x548) l0 l1
theorem f122_raw (c : Orc) (lf : Nat) (l0 l1 : List T) : funK c env lf 6 fi122 [.sl l0, .sl l1] = f122_t c lf (fun (l0 l1 : List T) (x548 : Int) => lpK c env lf 6 fi122 2 4 [] [0, 1, 5] (x122_4_0) lf (f122_0_c l0 l1 x548)) l0 l1 := by kernel_rfl
theorem f122_eq (c : Orc) (lf : Nat) (l0 l1 : List T) : funK c env lf 6 fi122 [.sl l0, .sl l1] = f122 c lf l0 l1 := by
 refine (f122_raw c lf l0 l1).trans ?_
 have e0 : (fun (l0 l1 : List T) (x548 : Int) => lpK c env lf 6 fi122 2 4 [] [0, 1, 5] (x122_4_0) lf (f122_0_c l0 l1 x548)) = (fun (l0 l1 : List T) (x548 : Int) => f122_0 c lf l0 l1 lf x548) := by funext l0 l1 x548; exact f122_0_eq c lf l0 l1 lf x548
 rw [e0]; rfl
def f111_t (c : Orc) (lf : Nat) (l0_0 : List T) (n0_1 : Int) (l1_0 : List T) (n1_1 : Int) : Option (List T) :=
 (c 122 [T.sl l0_0, T.sl l1_0]).bind fun r551 =>
 bif !(asB (nth r551 0)) then
  some [T.b false]
 else
  bif n0_1 != n1_1 then
   some [T.b false]
  else
   some [T.b true]
def f111 (c : Orc) (lf : Nat) (l0_0 : List T) (n0_1 : Int) (l1_0 : List T) (n1_1 : Int) : Option (List T) := f111_t c lf l0_0 n0_1 l1_0 n1_1
theorem f111_eq (c : Orc) (lf : Nat) (l0_0 : List T) (n0_1 : Int) (l1_0 : List T) (n1_1 : Int) : funK c env lf 6 fi111 [.st [.sl l0_0, .i .i64 n0_1], .st [.sl l1_0, .i .i64 n1_1]] = f111 c lf l0_0 n0_1 l1_0 n1_1 := by kernel_rfl
def f92_t (c : Orc) (lf : Nat) (n0_0 : Int) (s0_1 : ByteArray) (b0_2 : Bool) (n0_3 : Int) (l0_4 : List T) (n0_5 n1_0 : Int) (s1_1 : ByteArray) (b1_2 : Bool) (n1_3 : Int) (l1_4 : List T) (n1_5 : Int) : Option (List T) :=
 bif n0_0 != n1_0 then
  some [T.b false]
 else
  bif !(s0_1.toList == s1_1.toList) then
   some [T.b false]
  else
   bif !(b0_2 == b1_2) then
    some [T.b false]
   else
    bif n0_3 != n1_3 then
     some [T.b false]
    else
     (c 111 [T.st [T.sl l0_4, T.i .i64 n0_5], T.st [T.sl l1_4, T.i .i64 n1_5]]).bind fun r552 =>
     bif !(asB (nth r552 0)) then
      some [T.b false]
     else
      some [T.b true]
def f92 (c : Orc) (lf : Nat) (n0_0 : Int) (s0_1 : ByteArray) (b0_2 : Bool) (n0_3 : Int) (l0_4 : List T) (n0_5 n1_0 : Int) (s1_1 : ByteArray) (b1_2 : Bool) (n1_3 : Int) (l1_4 : List T) (n1_5 : Int) : Option (List T) := f92_t c lf n0_0 s0_1 b0_2 n0_3 l0_4 n0_5 n1_0 s1_1 b1_2 n1_3 l1_4 n1_5
theorem f92_eq (c : Orc) (lf : Nat) (n0_0 : Int) (s0_1 : ByteArray) (b0_2 : Bool) (n0_3 : Int) (l0_4 : List T) (n0_5 n1_0 : Int) (s1_1 : ByteArray) (b1_2 : Bool) (n1_3 : Int) (l1_4 : List T) (n1_5 : Int) : funK c env lf 6 fi92 [.st [.i .i64 n0_0, .s s0_1, .b b0_2, .i .i64 n0_3, .sl l0_4, .i .i64 n0_5], .st [.i .i64 n1_0, .s s1_1, .b b1_2, .i .i64 n1_3, .sl l1_4, .i .i64 n1_5]] = f92 c lf n0_0 s0_1 b0_2 n0_3 l0_4 n0_5 n1_0 s1_1 b1_2 n1_3 l1_4 n1_5 := by kernel_rfl
def f60_0_s (c : Orc) (lf : Nat) (l0 l1 : List T) (L : Int → Option (List T)) (x558 : Int) : Option (List T) :=
 bif iLt x558 (l0.length : Int) then
  bif inR x558 l0.length then
  bif inR x558 l1.length then
  (c 92 [T.st [T.i .i64 (asI (T.cell (l0.getD x558.toNat T.u) 0)), T.s (asS (T.cell (l0.getD x558.toNat T.u) 1)), T.b (asB (T.cell (l0.getD x558.toNat T.u) 2)), T.i .i64 (asI (T.cell (l0.getD x558.toNat T.u) 3)), T.sl (asL (T.cell (l0.getD x558.toNat T.u) 4)), T.i .i64 (asI (T.cell (l0.getD x558.toNat T.u) 5))], T.st [T.i .i64 (asI (T.cell (l1.getD x558.toNat T.u) 0)), T.s (asS (T.cell (l1.getD x558.toNat T.u) 1)), T.b (asB (T.cell (l1.getD x558.toNat T.u) 2)), T.i .i64 (asI (T.cell (l1.getD x558.toNat T.u) 3)), T.sl (asL (T.cell (l1.getD x558.toNat T.u) 4)), T.i .i64 (asI (T.cell (l1.getD x558.toNat T.u) 5))]]).bind fun r559 =>
  bif !(asB (nth r559 0)) then
   some [T.i .i64 0, T.b false]
  else
   L (IntKind.wrap .i64 (x558 + 1))
  else none
  else none
 else
  some [T.i .i64 1]
def f60_0_c (l0 l1 : List T) (x558 : Int) : CSt := ⟨[.ro 0 true [.i .i64, .s, .b, .i .i64, .sl true [.i .i64, .i .i64, .i .i64, .sl false [.i .u8], .sl true [.s, .i .i64], .sl true [.s, .s]], .i .i64] l0, .ro 0 true [.i .i64, .s, .b, .i .i64, .sl true [.i .i64, .i .i64, .i .i64, .sl false [.i .u8], .sl true [.s, .i .i64], .sl true [.s, .s]], .i .i64] l1, .i .i64 x558], [.dead, .dead]⟩
theorem f60_0_round (c : Orc) (lf : Nat) (l0 l1 : List T) (L : CSt → Option (List T)) (x558 : Int) :
 roundK c env lf 6 fi60 2 4 [] [0, 1, 5] (x60_4_0) L (f60_0_c l0 l1 x558) = f60_0_s c lf l0 l1 (fun x558 => L (f60_0_c l0 l1 x558)) x558 := by kernel_rfl
def f60_0 (c : Orc) (lf : Nat) (l0 l1 : List T) : Nat → Int → Option (List T)
 | 0 => fun _ => none
 | n + 1 => fun x558 => f60_0_s c lf l0 l1 (f60_0 c lf l0 l1 n) x558
theorem f60_0_eq (c : Orc) (lf : Nat) (l0 l1 : List T) (n : Nat) (x558 : Int) :
 lpK c env lf 6 fi60 2 4 [] [0, 1, 5] (x60_4_0) n (f60_0_c l0 l1 x558) = f60_0 c lf l0 l1 n x558 := by
 induction n generalizing x558 with
 | zero => rfl
 | succ n ih =>
  refine (f60_0_round c lf l0 l1 _ x558).trans ?_
  have e : (fun x558 => lpK c env lf 6 fi60 2 4 [] [0, 1, 5] (x60_4_0) n (f60_0_c l0 l1 x558)) = f60_0 c lf l0 l1 n := by funext x558; exact ih x558
  show f60_0_s c lf l0 l1 (fun x558 => lpK c env lf 6 fi60 2 4 [] [0, 1, 5] (x60_4_0) n (f60_0_c l0 l1 x558)) x558 = _
  rw [e]; rfl
def f60_t (c : Orc) (lf : Nat) (lp0 : List T → List T → Int → Option (List T)) (l0 l1 : List T) : Option (List T) :=
 bif (l0.length : Int) != (l1.length : Int) then
  some [T.b false]
 else
  (lp0 l0 l1 0).bind fun r560 =>
  bif asI (nth r560 0) == 0 then
   some [T.b (asB (nth r560 1))]
  else
   some [T.b true]
def f60 (c : Orc) (lf : Nat) (l0 l1 : List T) : Option (List T) := f60_t c lf (fun (l0 l1 : List T) (x558 : Int) => f60_0 c lf l0 l1 lf x558) l0 l1
theorem f60_raw (c : Orc) (lf : Nat) (l0 l1 : List T) : funK c env lf 6 fi60 [.sl l0, .sl l1] = f60_t c lf (fun (l0 l1 : List T) (x558 : Int) => lpK c env lf 6 fi60 2 4 [] [0, 1, 5] (x60_4_0) lf (f60_0_c l0 l1 x558)) l0 l1 := by kernel_rfl
theorem f60_eq (c : Orc) (lf : Nat) (l0 l1 : List T) : funK c env lf 6 fi60 [.sl l0, .sl l1] = f60 c lf l0 l1 := by
 refine (f60_raw c lf l0 l1).trans ?_
 have e0 : (fun (l0 l1 : List T) (x558 : Int) => lpK c env lf 6 fi60 2 4 [] [0, 1, 5] (x60_4_0) lf (f60_0_c l0 l1 x558)) = (fun (l0 l1 : List T) (x558 : Int) => f60_0 c lf l0 l1 lf x558) := by funext l0 l1 x558; exact f60_0_eq c lf l0 l1 lf x558
 rw [e0]; rfl
def f35_t (c : Orc) (lf : Nat) (l0_0 : List T) (n0_1 : Int) (l1_0 : List T) (n1_1 : Int) : Option (List T) :=
 (c 60 [T.sl l0_0, T.sl l1_0]).bind fun r561 =>
 bif !(asB (nth r561 0)) then
  some [T.b false]
 else
  bif n0_1 != n1_1 then
   some [T.b false]
  else
   some [T.b true]
def f35 (c : Orc) (lf : Nat) (l0_0 : List T) (n0_1 : Int) (l1_0 : List T) (n1_1 : Int) : Option (List T) := f35_t c lf l0_0 n0_1 l1_0 n1_1
theorem f35_eq (c : Orc) (lf : Nat) (l0_0 : List T) (n0_1 : Int) (l1_0 : List T) (n1_1 : Int) : funK c env lf 6 fi35 [.st [.sl l0_0, .i .i64 n0_1], .st [.sl l1_0, .i .i64 n1_1]] = f35 c lf l0_0 n0_1 l1_0 n1_1 := by kernel_rfl
def f93_t (c : Orc) (lf : Nat) (n0_0 : Int) (s0_1 : ByteArray) (b0_2 : Bool) (n0_3 n0_4 n1_0 : Int) (s1_1 : ByteArray) (b1_2 : Bool) (n1_3 n1_4 : Int) : Option (List T) :=
 bif n0_0 != n1_0 then
  some [T.b false]
 else
  bif !(s0_1.toList == s1_1.toList) then
   some [T.b false]
  else
   bif !(b0_2 == b1_2) then
    some [T.b false]
   else
    bif n0_3 != n1_3 then
     some [T.b false]
    else
     bif n0_4 != n1_4 then
      some [T.b false]
     else
      some [T.b true]
def f93 (c : Orc) (lf : Nat) (n0_0 : Int) (s0_1 : ByteArray) (b0_2 : Bool) (n0_3 n0_4 n1_0 : Int) (s1_1 : ByteArray) (b1_2 : Bool) (n1_3 n1_4 : Int) : Option (List T) := f93_t c lf n0_0 s0_1 b0_2 n0_3 n0_4 n1_0 s1_1 b1_2 n1_3 n1_4
theorem f93_eq (c : Orc) (lf : Nat) (n0_0 : Int) (s0_1 : ByteArray) (b0_2 : Bool) (n0_3 n0_4 n1_0 : Int) (s1_1 : ByteArray) (b1_2 : Bool) (n1_3 n1_4 : Int) : funK c env lf 6 fi93 [.st [.i .i64 n0_0, .s s0_1, .b b0_2, .i .i64 n0_3, .i .i64 n0_4], .st [.i .i64 n1_0, .s s1_1, .b b1_2, .i .i64 n1_3, .i .i64 n1_4]] = f93 c lf n0_0 s0_1 b0_2 n0_3 n0_4 n1_0 s1_1 b1_2 n1_3 n1_4 := by kernel_rfl
def f61_0_s (c : Orc) (lf : Nat) (l0 l1 : List T) (L : Int → Option (List T)) (x567 : Int) : Option (List T) :=
 bif iLt x567 (l0.length : Int) then
  bif inR x567 l0.length then
  bif inR x567 l1.length then
  (c 93 [T.st [T.i .i64 (asI (T.cell (l0.getD x567.toNat T.u) 0)), T.s (asS (T.cell (l0.getD x567.toNat T.u) 1)), T.b (asB (T.cell (l0.getD x567.toNat T.u) 2)), T.i .i64 (asI (T.cell (l0.getD x567.toNat T.u) 3)), T.i .i64 (asI (T.cell (l0.getD x567.toNat T.u) 4))], T.st [T.i .i64 (asI (T.cell (l1.getD x567.toNat T.u) 0)), T.s (asS (T.cell (l1.getD x567.toNat T.u) 1)), T.b (asB (T.cell (l1.getD x567.toNat T.u) 2)), T.i .i64 (asI (T.cell (l1.getD x567.toNat T.u) 3)), T.i .i64 (asI (T.cell (l1.getD x567.toNat T.u) 4))]]).bind fun r568 =>
  bif !(asB (nth r568 0)) then
   some [T.i .i64 0, T.b false]
  else
   L (IntKind.wrap .i64 (x567 + 1))
  else none
  else none
 else
  some [T.i .i64 1]
def f61_0_c (l0 l1 : List T) (x567 : Int) : CSt := ⟨[.ro 0 true [.i .i64, .s, .b, .i .i64, .i .i64] l0, .ro 0 true [.i .i64, .s, .b, .i .i64, .i .i64] l1, .i .i64 x567], [.dead, .dead]⟩
theorem f61_0_round (c : Orc) (lf : Nat) (l0 l1 : List T) (L : CSt → Option (List T)) (x567 : Int) :
 roundK c env lf 6 fi61 2 4 [] [0, 1, 5] (x61_4_0) L (f61_0_c l0 l1 x567) = f61_0_s c lf l0 l1 (fun x567 => L (f61_0_c l0 l1 x567)) x567 := by kernel_rfl
def f61_0 (c : Orc) (lf : Nat) (l0 l1 : List T) : Nat → Int → Option (List T)
 | 0 => fun _ => none
 | n + 1 => fun x567 => f61_0_s c lf l0 l1 (f61_0 c lf l0 l1 n) x567
theorem f61_0_eq (c : Orc) (lf : Nat) (l0 l1 : List T) (n : Nat) (x567 : Int) :
 lpK c env lf 6 fi61 2 4 [] [0, 1, 5] (x61_4_0) n (f61_0_c l0 l1 x567) = f61_0 c lf l0 l1 n x567 := by
 induction n generalizing x567 with
 | zero => rfl
 | succ n ih =>
  refine (f61_0_round c lf l0 l1 _ x567).trans ?_
  have e : (fun x567 => lpK c env lf 6 fi61 2 4 [] [0, 1, 5] (x61_4_0) n (f61_0_c l0 l1 x567)) = f61_0 c lf l0 l1 n := by funext x567; exact ih x567
  show f61_0_s c lf l0 l1 (fun x567 => lpK c env lf 6 fi61 2 4 [] [0, 1, 5] (x61_4_0) n (f61_0_c l0 l1 x567)) x567 = _
  rw [e]; rfl
def f61_t (c : Orc) (lf : Nat) (lp0 : List T → List T → Int → Option (List T)) (l0 l1 : List T) : Option (List T) :=
 bif (l0.length : Int) != (l1.length : Int) then
  some [T.b false]
 else
  (lp0 l0 l1 0).bind fun r569 =>
  bif asI (nth r569 0) == 0 then
   some [T.b (asB (nth r569 1))]
  else
   some [T.b true]
def f61 (c : Orc) (lf : Nat) (l0 l1 : List T) : Option (List T) := f61_t c lf (fun (l0 l1 : List T) (x567 : Int) => f61_0 c lf l0 l1 lf x567) l0 l1
theorem f61_raw (c : Orc) (lf : Nat) (l0 l1 : List T) : funK c env lf 6 fi61 [.sl l0, .sl l1] = f61_t c lf (fun (l0 l1 : List T) (x567 : Int) => lpK c env lf 6 fi61 2 4 [] [0, 1, 5] (x61_4_0) lf (f61_0_c l0 l1 x567)) l0 l1 := by kernel_rfl
theorem f61_eq (c : Orc) (lf : Nat) (l0 l1 : List T) : funK c env lf 6 fi61 [.sl l0, .sl l1] = f61 c lf l0 l1 := by
 refine (f61_raw c lf l0 l1).trans ?_
 have e0 : (fun (l0 l1 : List T) (x567 : Int) => lpK c env lf 6 fi61 2 4 [] [0, 1, 5] (x61_4_0) lf (f61_0_c l0 l1 x567)) = (fun (l0 l1 : List T) (x567 : Int) => f61_0 c lf l0 l1 lf x567) := by funext l0 l1 x567; exact f61_0_eq c lf l0 l1 lf x567
 rw [e0]; rfl
def f36_t (c : Orc) (lf : Nat) (n0_0 : Int) (l0_1 : List T) (n1_0 : Int) (l1_1 : List T) : Option (List T) :=
 bif n0_0 != n1_0 then
  some [T.b false]
 else
  (c 61 [T.sl l0_1, T.sl l1_1]).bind fun r570 =>
  bif !(asB (nth r570 0)) then
   some [T.b false]
  else
   some [T.b true]
def f36 (c : Orc) (lf : Nat) (n0_0 : Int) (l0_1 : List T) (n1_0 : Int) (l1_1 : List T) : Option (List T) := f36_t c lf n0_0 l0_1 n1_0 l1_1
theorem f36_eq (c : Orc) (lf : Nat) (n0_0 : Int) (l0_1 : List T) (n1_0 : Int) (l1_1 : List T) : funK c env lf 6 fi36 [.st [.i .i64 n0_0, .sl l0_1], .st [.i .i64 n1_0, .sl l1_1]] = f36 c lf n0_0 l0_1 n1_0 l1_1 := by kernel_rfl
def f112_t (c : Orc) (lf : Nat) (n0_0 n0_1 : Int) (n1_0 n1_1 : Int) : Option (List T) :=
 bif n0_0 != n1_0 then
  some [T.b false]
 else
  bif n0_1 != n1_1 then
   some [T.b false]
  else
   some [T.b true]
def f112 (c : Orc) (lf : Nat) (n0_0 n0_1 : Int) (n1_0 n1_1 : Int) : Option (List T) := f112_t c lf n0_0 n0_1 n1_0 n1_1
theorem f112_eq (c : Orc) (lf : Nat) (n0_0 n0_1 : Int) (n1_0 n1_1 : Int) : funK c env lf 6 fi112 [.st [.i .i64 n0_0, .i .i64 n0_1], .st [.i .i64 n1_0, .i .i64 n1_1]] = f112 c lf n0_0 n0_1 n1_0 n1_1 := by kernel_rfl
def f94_0_s (c : Orc) (lf : Nat) (l0 l1 : List T) (L : Int → Option (List T)) (x576 : Int) : Option (List T) :=
 bif iLt x576 (l0.length : Int) then
  bif inR x576 l0.length then
  bif inR x576 l1.length then
  (c 112 [T.st [T.i .i64 (asI (T.cell (l0.getD x576.toNat T.u) 0)), T.i .i64 (asI (T.cell (l0.getD x576.toNat T.u) 1))], T.st [T.i .i64 (asI (T.cell (l1.getD x576.toNat T.u) 0)), T.i .i64 (asI (T.cell (l1.getD x576.toNat T.u) 1))]]).bind fun r577 =>
  bif !(asB (nth r577 0)) then
   some [T.i .i64 0, T.b false]
  else
   L (IntKind.wrap .i64 (x576 + 1))
  else none
  else none
 else
  some [T.i .i64 1]
def f94_0_c (l0 l1 : List T) (x576 : Int) : CSt := ⟨[.ro 0 true [.i .i64, .i .i64] l0, .ro 0 true [.i .i64, .i .i64] l1, .i .i64 x576], [.dead, .dead]⟩
theorem f94_0_round (c : Orc) (lf : Nat) (l0 l1 : List T) (L : CSt → Option (List T)) (x576 : Int) :
 roundK c env lf 6 fi94 2 4 [] [0, 1, 5] (x94_4_0) L (f94_0_c l0 l1 x576) = f94_0_s c lf l0 l1 (fun x576 => L (f94_0_c l0 l1 x576)) x576 := by kernel_rfl
def f94_0 (c : Orc) (lf : Nat) (l0 l1 : List T) : Nat → Int → Option (List T)
 | 0 => fun _ => none
 | n + 1 => fun x576 => f94_0_s c lf l0 l1 (f94_0 c lf l0 l1 n) x576
theorem f94_0_eq (c : Orc) (lf : Nat) (l0 l1 : List T) (n : Nat) (x576 : Int) :
 lpK c env lf 6 fi94 2 4 [] [0, 1, 5] (x94_4_0) n (f94_0_c l0 l1 x576) = f94_0 c lf l0 l1 n x576 := by
 induction n generalizing x576 with
 | zero => rfl
 | succ n ih =>
  refine (f94_0_round c lf l0 l1 _ x576).trans ?_
  have e : (fun x576 => lpK c env lf 6 fi94 2 4 [] [0, 1, 5] (x94_4_0) n (f94_0_c l0 l1 x576)) = f94_0 c lf l0 l1 n := by funext x576; exact ih x576
  show f94_0_s c lf l0 l1 (fun x576 => lpK c env lf 6 fi94 2 4 [] [0, 1, 5] (x94_4_0) n (f94_0_c l0 l1 x576)) x576 = _
  rw [e]; rfl
def f94_t (c : Orc) (lf : Nat) (lp0 : List T → List T → Int → Option (List T)) (l0 l1 : List T) : Option (List T) :=
 bif (l0.length : Int) != (l1.length : Int) then
  some [T.b false]
 else
  (lp0 l0 l1 0).bind fun r578 =>
  bif asI (nth r578 0) == 0 then
   some [T.b (asB (nth r578 1))]
  else
   some [T.b true]
def f94 (c : Orc) (lf : Nat) (l0 l1 : List T) : Option (List T) := f94_t c lf (fun (l0 l1 : List T) (x576 : Int) => f94_0 c lf l0 l1 lf x576) l0 l1
theorem f94_raw (c : Orc) (lf : Nat) (l0 l1 : List T) : funK c env lf 6 fi94 [.sl l0, .sl l1] = f94_t c lf (fun (l0 l1 : List T) (x576 : Int) => lpK c env lf 6 fi94 2 4 [] [0, 1, 5] (x94_4_0) lf (f94_0_c l0 l1 x576)) l0 l1 := by kernel_rfl
theorem f94_eq (c : Orc) (lf : Nat) (l0 l1 : List T) : funK c env lf 6 fi94 [.sl l0, .sl l1] = f94 c lf l0 l1 := by
 refine (f94_raw c lf l0 l1).trans ?_
 have e0 : (fun (l0 l1 : List T) (x576 : Int) => lpK c env lf 6 fi94 2 4 [] [0, 1, 5] (x94_4_0) lf (f94_0_c l0 l1 x576)) = (fun (l0 l1 : List T) (x576 : Int) => f94_0 c lf l0 l1 lf x576) := by funext l0 l1 x576; exact f94_0_eq c lf l0 l1 lf x576
 rw [e0]; rfl
def f62_t (c : Orc) (lf : Nat) (n0_0 : Int) (l0_1 : List T) (n1_0 : Int) (l1_1 : List T) : Option (List T) :=
 bif n0_0 != n1_0 then
  some [T.b false]
 else
  (c 94 [T.sl l0_1, T.sl l1_1]).bind fun r579 =>
  bif !(asB (nth r579 0)) then
   some [T.b false]
  else
   some [T.b true]
def f62 (c : Orc) (lf : Nat) (n0_0 : Int) (l0_1 : List T) (n1_0 : Int) (l1_1 : List T) : Option (List T) := f62_t c lf n0_0 l0_1 n1_0 l1_1
theorem f62_eq (c : Orc) (lf : Nat) (n0_0 : Int) (l0_1 : List T) (n1_0 : Int) (l1_1 : List T) : funK c env lf 6 fi62 [.st [.i .i64 n0_0, .sl l0_1], .st [.i .i64 n1_0, .sl l1_1]] = f62 c lf n0_0 l0_1 n1_0 l1_1 := by kernel_rfl
def f37_0_s (c : Orc) (lf : Nat) (l0 l1 : List T) (L : Int → Option (List T)) (x585 : Int) : Option (List T) :=
 bif iLt x585 (l0.length : Int) then
  bif inR x585 l0.length then
  bif inR x585 l1.length then
  (c 62 [T.st [T.i .i64 (asI (T.cell (l0.getD x585.toNat T.u) 0)), T.sl (asL (T.cell (l0.getD x585.toNat T.u) 1))], T.st [T.i .i64 (asI (T.cell (l1.getD x585.toNat T.u) 0)), T.sl (asL (T.cell (l1.getD x585.toNat T.u) 1))]]).bind fun r586 =>
  bif !(asB (nth r586 0)) then
   some [T.i .i64 0, T.b false]
  else
   L (IntKind.wrap .i64 (x585 + 1))
  else none
  else none
 else
  some [T.i .i64 1]
def f37_0_c (l0 l1 : List T) (x585 : Int) : CSt := ⟨[.ro 0 true [.i .i64, .sl true [.i .i64, .i .i64]] l0, .ro 0 true [.i .i64, .sl true [.i .i64, .i .i64]] l1, .i .i64 x585], [.dead, .dead]⟩
theorem f37_0_round (c : Orc) (lf : Nat) (l0 l1 : List T) (L : CSt → Option (List T)) (x585 : Int) :
 roundK c env lf 6 fi37 2 4 [] [0, 1, 5] (x37_4_0) L (f37_0_c l0 l1 x585) = f37_0_s c lf l0 l1 (fun x585 => L (f37_0_c l0 l1 x585)) x585 := by kernel_rfl
def f37_0 (c : Orc) (lf : Nat) (l0 l1 : List T) : Nat → Int → Option (List T)
 | 0 => fun _ => none
 | n + 1 => fun x585 => f37_0_s c lf l0 l1 (f37_0 c lf l0 l1 n) x585
theorem f37_0_eq (c : Orc) (lf : Nat) (l0 l1 : List T) (n : Nat) (x585 : Int) :
 lpK c env lf 6 fi37 2 4 [] [0, 1, 5] (x37_4_0) n (f37_0_c l0 l1 x585) = f37_0 c lf l0 l1 n x585 := by
 induction n generalizing x585 with
 | zero => rfl
 | succ n ih =>
  refine (f37_0_round c lf l0 l1 _ x585).trans ?_
  have e : (fun x585 => lpK c env lf 6 fi37 2 4 [] [0, 1, 5] (x37_4_0) n (f37_0_c l0 l1 x585)) = f37_0 c lf l0 l1 n := by funext x585; exact ih x585
  show f37_0_s c lf l0 l1 (fun x585 => lpK c env lf 6 fi37 2 4 [] [0, 1, 5] (x37_4_0) n (f37_0_c l0 l1 x585)) x585 = _
  rw [e]; rfl
def f37_t (c : Orc) (lf : Nat) (lp0 : List T → List T → Int → Option (List T)) (l0 l1 : List T) : Option (List T) :=
 bif (l0.length : Int) != (l1.length : Int) then
  some [T.b false]
 else
  (lp0 l0 l1 0).bind fun r587 =>
  bif asI (nth r587 0) == 0 then
   some [T.b (asB (nth r587 1))]
  else
   some [T.b true]
def f37 (c : Orc) (lf : Nat) (l0 l1 : List T) : Option (List T) := f37_t c lf (fun (l0 l1 : List T) (x585 : Int) => f37_0 c lf l0 l1 lf x585) l0 l1
theorem f37_raw (c : Orc) (lf : Nat) (l0 l1 : List T) : funK c env lf 6 fi37 [.sl l0, .sl l1] = f37_t c lf (fun (l0 l1 : List T) (x585 : Int) => lpK c env lf 6 fi37 2 4 [] [0, 1, 5] (x37_4_0) lf (f37_0_c l0 l1 x585)) l0 l1 := by kernel_rfl
theorem f37_eq (c : Orc) (lf : Nat) (l0 l1 : List T) : funK c env lf 6 fi37 [.sl l0, .sl l1] = f37 c lf l0 l1 := by
 refine (f37_raw c lf l0 l1).trans ?_
 have e0 : (fun (l0 l1 : List T) (x585 : Int) => lpK c env lf 6 fi37 2 4 [] [0, 1, 5] (x37_4_0) lf (f37_0_c l0 l1 x585)) = (fun (l0 l1 : List T) (x585 : Int) => f37_0 c lf l0 l1 lf x585) := by funext l0 l1 x585; exact f37_0_eq c lf l0 l1 lf x585
 rw [e0]; rfl
def f11_t (c : Orc) (lf : Nat) (l0_0 : List T) (n0_1 n0_2 : Int) (l0_3 l0_4 : List T) (n0_5 n0_6 : Int) (l1_0 : List T) (n1_1 n1_2 : Int) (l1_3 l1_4 : List T) (n1_5 n1_6 : Int) : Option (List T) :=
 (c 35 [T.st [T.sl l0_0, T.i .i64 n0_1], T.st [T.sl l1_0, T.i .i64 n1_1]]).bind fun r588 =>
 bif !(asB (nth r588 0)) then
  some [T.b false]
 else
  (c 36 [T.st [T.i .i64 n0_2, T.sl l0_3], T.st [T.i .i64 n1_2, T.sl l1_3]]).bind fun r589 =>
  bif !(asB (nth r589 0)) then
   some [T.b false]
  else
   (c 37 [T.sl l0_4, T.sl l1_4]).bind fun r590 =>
   bif !(asB (nth r590 0)) then
    some [T.b false]
   else
    bif n0_5 != n1_5 then
     some [T.b false]
    else
     bif n0_6 != n1_6 then
      some [T.b false]
     else
      some [T.b true]
def f11 (c : Orc) (lf : Nat) (l0_0 : List T) (n0_1 n0_2 : Int) (l0_3 l0_4 : List T) (n0_5 n0_6 : Int) (l1_0 : List T) (n1_1 n1_2 : Int) (l1_3 l1_4 : List T) (n1_5 n1_6 : Int) : Option (List T) := f11_t c lf l0_0 n0_1 n0_2 l0_3 l0_4 n0_5 n0_6 l1_0 n1_1 n1_2 l1_3 l1_4 n1_5 n1_6
theorem f11_eq (c : Orc) (lf : Nat) (l0_0 : List T) (n0_1 n0_2 : Int) (l0_3 l0_4 : List T) (n0_5 n0_6 : Int) (l1_0 : List T) (n1_1 n1_2 : Int) (l1_3 l1_4 : List T) (n1_5 n1_6 : Int) : funK c env lf 6 fi11 [.st [.sl l0_0, .i .i64 n0_1, .i .i64 n0_2, .sl l0_3, .sl l0_4, .i .i64 n0_5, .i .i64 n0_6], .st [.sl l1_0, .i .i64 n1_1, .i .i64 n1_2, .sl l1_3, .sl l1_4, .i .i64 n1_5, .i .i64 n1_6]] = f11 c lf l0_0 n0_1 n0_2 l0_3 l0_4 n0_5 n0_6 l1_0 n1_1 n1_2 l1_3 l1_4 n1_5 n1_6 := by kernel_rfl
def f5_t (c : Orc) (lf : Nat) (l0_0 : List T) (n0_1 : Int) (l0_2 : List T) (b0_3 : Bool) (n0_4 : Int) (l1_0 : List T) (n1_1 n1_2 : Int) (l1_3 l1_4 : List T) (n1_5 n1_6 : Int) : Option (List T) :=
 (c 15 [T.st [T.sl l0_0, T.i .i64 n0_1, T.sl l0_2, T.b b0_3, T.i .i64 n0_4], T.i .i64 1048576]).bind fun r591 =>
 bif iLt (asI (nth r591 0)) 0 then
  some [T.b true]
 else
  (c 6 [T.st [T.sl l1_0, T.i .i64 n1_1, T.i .i64 n1_2, T.sl l1_3, T.sl l1_4, T.i .i64 n1_5, T.i .i64 n1_6], T.i .i64 (asI (nth r591 0))]).bind fun r592 =>
  bif iLt (asI (nth r592 0)) 0 then
   some [T.b true]
  else
   (c 17 [T.st [T.sl l0_0, T.i .i64 n0_1, T.sl l0_2, T.b b0_3, T.i .i64 n0_4]]).bind fun r593 =>
   (c 8 [T.st [T.sl l1_0, T.i .i64 n1_1, T.i .i64 n1_2, T.sl l1_3, T.sl l1_4, T.i .i64 n1_5, T.i .i64 n1_6]]).bind fun r594 =>
   (c 20 [T.st [T.sl (asL (T.cell (nth r593 0) 0)), T.i .i64 (asI (T.cell (nth r593 0) 1)), T.sl (asL (T.cell (nth r593 0) 2)), T.b (asB (T.cell (nth r593 0) 3)), T.i .i64 (asI (T.cell (nth r593 0) 4))], T.st [T.sl (asL (T.cell (nth r594 0) 0)), T.i .i64 (asI (T.cell (nth r594 0) 1)), T.i .i64 (asI (T.cell (nth r594 0) 2)), T.sl (asL (T.cell (nth r594 0) 3)), T.sl (asL (T.cell (nth r594 0) 4)), T.i .i64 (asI (T.cell (nth r594 0) 5)), T.i .i64 (asI (T.cell (nth r594 0) 6))]]).bind fun r595 =>
   (c 17 [T.st [T.sl l0_0, T.i .i64 n0_1, T.sl l0_2, T.b b0_3, T.i .i64 n0_4]]).bind fun r596 =>
   (c 8 [T.st [T.sl l1_0, T.i .i64 n1_1, T.i .i64 n1_2, T.sl l1_3, T.sl l1_4, T.i .i64 n1_5, T.i .i64 n1_6]]).bind fun r597 =>
   (c 21 [T.st [T.sl (asL (T.cell (nth r596 0) 0)), T.i .i64 (asI (T.cell (nth r596 0) 1)), T.sl (asL (T.cell (nth r596 0) 2)), T.b (asB (T.cell (nth r596 0) 3)), T.i .i64 (asI (T.cell (nth r596 0) 4))], T.st [T.sl (asL (T.cell (nth r597 0) 0)), T.i .i64 (asI (T.cell (nth r597 0) 1)), T.i .i64 (asI (T.cell (nth r597 0) 2)), T.sl (asL (T.cell (nth r597 0) 3)), T.sl (asL (T.cell (nth r597 0) 4)), T.i .i64 (asI (T.cell (nth r597 0) 5)), T.i .i64 (asI (T.cell (nth r597 0) 6))]]).bind fun r598 =>
   bif (asI (nth r598 0)) != (asI (nth r595 0)) then
    some [T.b false]
   else
    (c 17 [T.st [T.sl l0_0, T.i .i64 n0_1, T.sl l0_2, T.b b0_3, T.i .i64 n0_4]]).bind fun r599 =>
    (c 19 [T.st [T.sl (asL (T.cell (nth r596 0) 0)), T.i .i64 (asI (T.cell (nth r596 0) 1)), T.sl (asL (T.cell (nth r596 0) 2)), T.b (asB (T.cell (nth r596 0) 3)), T.i .i64 (asI (T.cell (nth r596 0) 4))], T.st [T.sl (asL (T.cell (nth r599 0) 0)), T.i .i64 (asI (T.cell (nth r599 0) 1)), T.sl (asL (T.cell (nth r599 0) 2)), T.b (asB (T.cell (nth r599 0) 3)), T.i .i64 (asI (T.cell (nth r599 0) 4))]]).bind fun r600 =>
    bif !(asB (nth r600 0)) then
     some [T.b false]
    else
     (c 8 [T.st [T.sl l1_0, T.i .i64 n1_1, T.i .i64 n1_2, T.sl l1_3, T.sl l1_4, T.i .i64 n1_5, T.i .i64 n1_6]]).bind fun r601 =>
     (c 11 [T.st [T.sl (asL (T.cell (nth r597 0) 0)), T.i .i64 (asI (T.cell (nth r597 0) 1)), T.i .i64 (asI (T.cell (nth r597 0) 2)), T.sl (asL (T.cell (nth r597 0) 3)), T.sl (asL (T.cell (nth r597 0) 4)), T.i .i64 (asI (T.cell (nth r597 0) 5)), T.i .i64 (asI (T.cell (nth r597 0) 6))], T.st [T.sl (asL (T.cell (nth r601 0) 0)), T.i .i64 (asI (T.cell (nth r601 0) 1)), T.i .i64 (asI (T.cell (nth r601 0) 2)), T.sl (asL (T.cell (nth r601 0) 3)), T.sl (asL (T.cell (nth r601 0) 4)), T.i .i64 (asI (T.cell (nth r601 0) 5)), T.i .i64 (asI (T.cell (nth r601 0) 6))]]).bind fun r602 =>
     bif !(asB (nth r602 0)) then
      some [T.b false]
     else
      some [T.b true]
def f5 (c : Orc) (lf : Nat) (l0_0 : List T) (n0_1 : Int) (l0_2 : List T) (b0_3 : Bool) (n0_4 : Int) (l1_0 : List T) (n1_1 n1_2 : Int) (l1_3 l1_4 : List T) (n1_5 n1_6 : Int) : Option (List T) := f5_t c lf l0_0 n0_1 l0_2 b0_3 n0_4 l1_0 n1_1 n1_2 l1_3 l1_4 n1_5 n1_6
theorem f5_eq (c : Orc) (lf : Nat) (l0_0 : List T) (n0_1 : Int) (l0_2 : List T) (b0_3 : Bool) (n0_4 : Int) (l1_0 : List T) (n1_1 n1_2 : Int) (l1_3 l1_4 : List T) (n1_5 n1_6 : Int) : funK c env lf 6 fi5 [.st [.sl l0_0, .i .i64 n0_1, .sl l0_2, .b b0_3, .i .i64 n0_4], .st [.sl l1_0, .i .i64 n1_1, .i .i64 n1_2, .sl l1_3, .sl l1_4, .i .i64 n1_5, .i .i64 n1_6]] = f5 c lf l0_0 n0_1 l0_2 b0_3 n0_4 l1_0 n1_1 n1_2 l1_3 l1_4 n1_5 n1_6 := by kernel_rfl
end Go.Proofs.YtnakbpjofkdabaaGreat.T
