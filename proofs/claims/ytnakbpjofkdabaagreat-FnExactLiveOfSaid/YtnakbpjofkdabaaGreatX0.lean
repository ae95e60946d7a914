/- What functions of the law FnExactLiveOf come to, in trees; no condition. -/
import Derived.Test.YtnakbpjofkdabaaGreatRows
import Derived.Test.YtnakbpjofkdabaaGreatV3
import Derived.KernelRfl
set_option linter.unusedVariables false
set_option linter.constructorNameAsVariable false
set_option linter.unusedSimpArgs false
set_option linter.unnecessarySimpa false
namespace Go.Proofs.YtnakbpjofkdabaaGreat.T
open Go Go.Proofs.YtnakbpjofkdabaaGreatV
def tyTab : List (Nat × Ti) := [
 (3, ⟨false, [.i .i64], .o⟩),
 (4, ⟨false, [.b], .o⟩),
 (5, ⟨false, [.i .u8], .o⟩),
 (9, ⟨false, [.s], .o⟩),
 (22, ⟨false, [.sl true [.i .i64, .s, .b, .i .i64, .sl true [.i .i64, .i .i64, .i .i64, .sl false [.i .u8], .sl true [.s, .i .i64], .sl true [.s, .s]], .i .i64]], .sl 144⟩),
 (24, ⟨true, [.sl true [.i .i64, .s, .b, .i .i64, .sl true [.i .i64, .i .i64, .i .i64, .sl false [.i .u8], .sl true [.s, .i .i64], .sl true [.s, .s]], .i .i64], .i .i64], .st [(0, 22), (1, 3)]⟩),
 (25, ⟨false, [.sl true [.i .i64, .s, .b, .i .i64, .i .i64]], .sl 146⟩),
 (27, ⟨true, [.i .i64, .sl true [.i .i64, .s, .b, .i .i64, .i .i64]], .st [(0, 3), (1, 25)]⟩),
 (28, ⟨false, [.sl true [.i .i64, .sl true [.i .i64, .i .i64]]], .sl 117⟩),
 (30, ⟨true, [.sl true [.i .i64, .s, .b, .i .i64, .sl true [.i .i64, .i .i64, .i .i64, .sl false [.i .u8], .sl true [.s, .i .i64], .sl true [.s, .s]], .i .i64], .i .i64, .i .i64, .sl true [.i .i64, .s, .b, .i .i64, .i .i64], .sl true [.i .i64, .sl true [.i .i64, .i .i64]], .i .i64, .i .i64], .st [(0, 24), (2, 27), (4, 28), (5, 3), (6, 3)]⟩),
 (32, ⟨false, [.sl false [.i .i64]], .sl 3⟩),
 (34, ⟨false, [.sl true [.i .i64, .s, .b, .i .i64, .sl true [.i .i64, .i .i64, .i .i64, .sl false [.i .u8], .sl true [.s, .i .i64], .sl true [.s, .s]], .i .i64]], .sl 152⟩),
 (36, ⟨true, [.sl true [.i .i64, .s, .b, .i .i64, .sl true [.i .i64, .i .i64, .i .i64, .sl false [.i .u8], .sl true [.s, .i .i64], .sl true [.s, .s]], .i .i64], .i .i64], .st [(0, 34), (1, 3)]⟩),
 (37, ⟨false, [.sl true [.i .i64, .s, .b, .i .i64, .i .i64]], .sl 77⟩),
 (39, ⟨true, [.i .i64, .sl true [.i .i64, .s, .b, .i .i64, .i .i64]], .st [(0, 3), (1, 37)]⟩),
 (40, ⟨false, [.sl true [.i .i64, .sl true [.i .i64, .i .i64]]], .sl 80⟩),
 (42, ⟨true, [.sl true [.i .i64, .s, .b, .i .i64, .sl true [.i .i64, .i .i64, .i .i64, .sl false [.i .u8], .sl true [.s, .i .i64], .sl true [.s, .s]], .i .i64], .i .i64, .i .i64, .sl true [.i .i64, .s, .b, .i .i64, .i .i64], .sl true [.i .i64, .sl true [.i .i64, .i .i64]], .i .i64, .i .i64], .st [(0, 36), (2, 39), (4, 40), (5, 3), (6, 3)]⟩),
 (77, ⟨true, [.i .i64, .s, .b, .i .i64, .i .i64], .st [(0, 3), (1, 9), (2, 4), (3, 3), (4, 3)]⟩),
 (78, ⟨false, [.sl true [.i .i64, .i .i64]], .sl 82⟩),
 (80, ⟨true, [.i .i64, .sl true [.i .i64, .i .i64]], .st [(0, 3), (1, 78)]⟩),
 (82, ⟨true, [.i .i64, .i .i64], .st [(0, 3), (1, 3)]⟩),
 (87, ⟨false, [.sl false [.sl false [.i .i64]]], .sl 32⟩),
 (92, ⟨false, [.o], .o⟩),
 (103, ⟨false, [.sl false [.i .u8]], .sl 5⟩),
 (115, ⟨false, [.sl true [.i .i64, .i .i64]], .sl 185⟩),
 (117, ⟨true, [.i .i64, .sl true [.i .i64, .i .i64]], .st [(0, 3), (1, 115)]⟩),
 (140, ⟨false, [.sl true [.i .i64, .i .i64, .i .i64, .sl false [.i .u8], .sl true [.s, .i .i64], .sl true [.s, .s]]], .sl 224⟩),
 (142, ⟨true, [.sl true [.i .i64, .i .i64, .i .i64, .sl false [.i .u8], .sl true [.s, .i .i64], .sl true [.s, .s]], .i .i64], .st [(0, 140), (1, 3)]⟩),
 (144, ⟨true, [.i .i64, .s, .b, .i .i64, .sl true [.i .i64, .i .i64, .i .i64, .sl false [.i .u8], .sl true [.s, .i .i64], .sl true [.s, .s]], .i .i64], .st [(0, 3), (1, 9), (2, 4), (3, 3), (4, 142)]⟩),
 (146, ⟨true, [.i .i64, .s, .b, .i .i64, .i .i64], .st [(0, 3), (1, 9), (2, 4), (3, 3), (4, 3)]⟩),
 (148, ⟨false, [.sl true [.i .i64, .i .i64, .i .i64, .sl false [.i .u8], .sl true [.s, .i .i64], .sl true [.s, .s]]], .sl 197⟩),
 (150, ⟨true, [.sl true [.i .i64, .i .i64, .i .i64, .sl false [.i .u8], .sl true [.s, .i .i64], .sl true [.s, .s]], .i .i64], .st [(0, 148), (1, 3)]⟩),
 (152, ⟨true, [.i .i64, .s, .b, .i .i64, .sl true [.i .i64, .i .i64, .i .i64, .sl false [.i .u8], .sl true [.s, .i .i64], .sl true [.s, .s]], .i .i64], .st [(0, 3), (1, 9), (2, 4), (3, 3), (4, 150)]⟩),
 (185, ⟨true, [.i .i64, .i .i64], .st [(0, 3), (1, 3)]⟩),
 (194, ⟨false, [.sl true [.s, .i .i64]], .sl 214⟩),
 (195, ⟨false, [.sl true [.s, .s]], .sl 216⟩),
 (197, ⟨true, [.i .i64, .i .i64, .i .i64, .sl false [.i .u8], .sl true [.s, .i .i64], .sl true [.s, .s]], .st [(0, 3), (1, 3), (2, 3), (3, 103), (4, 194), (5, 195)]⟩),
 (214, ⟨true, [.s, .i .i64], .st [(0, 9), (1, 3)]⟩),
 (216, ⟨true, [.s, .s], .st [(0, 9), (1, 9)]⟩),
 (221, ⟨false, [.sl true [.s, .i .i64]], .sl 240⟩),
 (222, ⟨false, [.sl true [.s, .s]], .sl 242⟩),
 (224, ⟨true, [.i .i64, .i .i64, .i .i64, .sl false [.i .u8], .sl true [.s, .i .i64], .sl true [.s, .s]], .st [(0, 3), (1, 3), (2, 3), (3, 103), (4, 221), (5, 222)]⟩),
 (240, ⟨true, [.s, .i .i64], .st [(0, 9), (1, 3)]⟩),
 (242, ⟨true, [.s, .s], .st [(0, 9), (1, 9)]⟩)]
noncomputable def fi132 : Fi := ⟨Tryz.f132, [], false, [.ro (.sl false [.i .u8]), .v (.i .i64)], [.v (.i .i64)]⟩
noncomputable def fi141 : Fi := ⟨Tryz.f141, [], false, [.ag [.v (.s), .v (.i .i64)], .v (.i .i64)], [.v (.i .i64)]⟩
def x133_5_0 : List (Ex × List Nat × CSt) := [(.ret, [4], ⟨[.i .i64 0], [.dead, .dead]⟩), ((.ex 0), [1], ⟨[.i .i64 0], [.dead, .dead]⟩)]
noncomputable def fi133 : Fi := ⟨Tryz.f133, [⟨5, [0, 1, 5], [], [(⟨[.ro 0 true [.s, .i .i64] [], .i .i64 0, .i .i64 0], [.dead, .dead]⟩, x133_5_0)]⟩], false, [.ro (.sl true [.s, .i .i64]), .v (.i .i64)], [.v (.i .i64)]⟩
noncomputable def fi142 : Fi := ⟨Tryz.f142, [], false, [.ag [.v (.s), .v (.s)], .v (.i .i64)], [.v (.i .i64)]⟩
def x134_5_0 : List (Ex × List Nat × CSt) := [(.ret, [4], ⟨[.i .i64 0], [.dead, .dead]⟩), ((.ex 0), [1], ⟨[.i .i64 0], [.dead, .dead]⟩)]
noncomputable def fi134 : Fi := ⟨Tryz.f134, [⟨5, [0, 1, 5], [], [(⟨[.ro 0 true [.s, .s] [], .i .i64 0, .i .i64 0], [.dead, .dead]⟩, x134_5_0)]⟩], false, [.ro (.sl true [.s, .s]), .v (.i .i64)], [.v (.i .i64)]⟩
noncomputable def fi126 : Fi := ⟨Tryz.f126, [], false, [.ag [.v (.i .i64), .v (.i .i64), .v (.i .i64), .ro (.sl false [.i .u8]), .ro (.sl true [.s, .i .i64]), .ro (.sl true [.s, .s])], .v (.i .i64)], [.v (.i .i64)]⟩
def x119_5_0 : List (Ex × List Nat × CSt) := [(.ret, [4], ⟨[.i .i64 0], [.dead, .dead]⟩), ((.ex 0), [1], ⟨[.i .i64 0], [.dead, .dead]⟩)]
noncomputable def fi119 : Fi := ⟨Tryz.f119, [⟨5, [0, 1, 5], [], [(⟨[.ro 0 true [.i .i64, .i .i64, .i .i64, .sl false [.i .u8], .sl true [.s, .i .i64], .sl true [.s, .s]] [], .i .i64 0, .i .i64 0], [.dead, .dead]⟩, x119_5_0)]⟩], false, [.ro (.sl true [.i .i64, .i .i64, .i .i64, .sl false [.i .u8], .sl true [.s, .i .i64], .sl true [.s, .s]]), .v (.i .i64)], [.v (.i .i64)]⟩
noncomputable def fi102 : Fi := ⟨Tryz.f102, [], false, [.ag [.ro (.sl true [.i .i64, .i .i64, .i .i64, .sl false [.i .u8], .sl true [.s, .i .i64], .sl true [.s, .s]]), .v (.i .i64)], .v (.i .i64)], [.v (.i .i64)]⟩
noncomputable def fi75 : Fi := ⟨Tryz.f75, [], false, [.ag [.v (.i .i64), .v (.s), .v (.b), .v (.i .i64), .ro (.sl true [.i .i64, .i .i64, .i .i64, .sl false [.i .u8], .sl true [.s, .i .i64], .sl true [.s, .s]]), .v (.i .i64)], .v (.i .i64)], [.v (.i .i64)]⟩
def x49_5_0 : List (Ex × List Nat × CSt) := [(.ret, [4], ⟨[.i .i64 0], [.dead, .dead]⟩), ((.ex 0), [1], ⟨[.i .i64 0], [.dead, .dead]⟩)]
noncomputable def fi49 : Fi := ⟨Tryz.f49, [⟨5, [0, 1, 5], [], [(⟨[.ro 0 true [.i .i64, .s, .b, .i .i64, .sl true [.i .i64, .i .i64, .i .i64, .sl false [.i .u8], .sl true [.s, .i .i64], .sl true [.s, .s]], .i .i64] [], .i .i64 0, .i .i64 0], [.dead, .dead]⟩, x49_5_0)]⟩], false, [.ro (.sl true [.i .i64, .s, .b, .i .i64, .sl true [.i .i64, .i .i64, .i .i64, .sl false [.i .u8], .sl true [.s, .i .i64], .sl true [.s, .s]], .i .i64]), .v (.i .i64)], [.v (.i .i64)]⟩
noncomputable def fi22 : Fi := ⟨Tryz.f22, [], false, [.ag [.ro (.sl true [.i .i64, .s, .b, .i .i64, .sl true [.i .i64, .i .i64, .i .i64, .sl false [.i .u8], .sl true [.s, .i .i64], .sl true [.s, .s]], .i .i64]), .v (.i .i64)], .v (.i .i64)], [.v (.i .i64)]⟩
noncomputable def fi76 : Fi := ⟨Tryz.f76, [], false, [.ag [.v (.i .i64), .v (.s), .v (.b), .v (.i .i64), .v (.i .i64)], .v (.i .i64)], [.v (.i .i64)]⟩
def x50_5_0 : List (Ex × List Nat × CSt) := [(.ret, [4], ⟨[.i .i64 0], [.dead, .dead]⟩), ((.ex 0), [1], ⟨[.i .i64 0], [.dead, .dead]⟩)]
noncomputable def fi50 : Fi := ⟨Tryz.f50, [⟨5, [0, 1, 5], [], [(⟨[.ro 0 true [.i .i64, .s, .b, .i .i64, .i .i64] [], .i .i64 0, .i .i64 0], [.dead, .dead]⟩, x50_5_0)]⟩], false, [.ro (.sl true [.i .i64, .s, .b, .i .i64, .i .i64]), .v (.i .i64)], [.v (.i .i64)]⟩
noncomputable def fi23 : Fi := ⟨Tryz.f23, [], false, [.ag [.v (.i .i64), .ro (.sl true [.i .i64, .s, .b, .i .i64, .i .i64])], .v (.i .i64)], [.v (.i .i64)]⟩
noncomputable def fi77 : Fi := ⟨Tryz.f77, [], false, [.ro (.sl true [.i .i64, .i .i64]), .v (.i .i64)], [.v (.i .i64)]⟩
noncomputable def fi51 : Fi := ⟨Tryz.f51, [], false, [.ag [.v (.i .i64), .ro (.sl true [.i .i64, .i .i64])], .v (.i .i64)], [.v (.i .i64)]⟩
def x24_5_0 : List (Ex × List Nat × CSt) := [(.ret, [4], ⟨[.i .i64 0], [.dead, .dead]⟩), ((.ex 0), [1], ⟨[.i .i64 0], [.dead, .dead]⟩)]
noncomputable def fi24 : Fi := ⟨Tryz.f24, [⟨5, [0, 1, 5], [], [(⟨[.ro 0 true [.i .i64, .sl true [.i .i64, .i .i64]] [], .i .i64 0, .i .i64 0], [.dead, .dead]⟩, x24_5_0)]⟩], false, [.ro (.sl true [.i .i64, .sl true [.i .i64, .i .i64]]), .v (.i .i64)], [.v (.i .i64)]⟩
noncomputable def fi6 : Fi := ⟨Tryz.f6, [], false, [.ag [.ro (.sl true [.i .i64, .s, .b, .i .i64, .sl true [.i .i64, .i .i64, .i .i64, .sl false [.i .u8], .sl true [.s, .i .i64], .sl true [.s, .s]], .i .i64]), .v (.i .i64), .v (.i .i64), .ro (.sl true [.i .i64, .s, .b, .i .i64, .i .i64]), .ro (.sl true [.i .i64, .sl true [.i .i64, .i .i64]]), .v (.i .i64), .v (.i .i64)], .v (.i .i64)], [.v (.i .i64)]⟩
def x135_3_0 : List (Ex × List Nat × CSt) := [((.ex 0), [3], ⟨[.rf 1 [] 0 none], [.dead, .row false [.i .u8] [] 0 false]⟩)]
noncomputable def fi135 : Fi := ⟨Tryz.f135, [⟨3, [0, 3, 4], [], [(⟨[.ro 0 false [.i .u8] [], .rf 1 [] 0 none, .i .i64 0], [.dead, .row false [.i .u8] [] 0 false]⟩, x135_3_0)]⟩], false, [.ro (.sl false [.i .u8])], [.ow (.sl false [.i .u8])]⟩
noncomputable def fi143 : Fi := ⟨Tryz.f143, [], false, [.ag [.v (.s), .v (.i .i64)]], [.ag [.v (.s), .v (.i .i64)]]⟩
def x136_3_0 : List (Ex × List Nat × CSt) := [((.ex 0), [3], ⟨[.rf 1 [] 0 none], [.dead, .row true [.s, .i .i64] [] 0 false]⟩)]
noncomputable def fi136 : Fi := ⟨Tryz.f136, [⟨3, [0, 3, 4], [], [(⟨[.ro 0 true [.s, .i .i64] [], .rf 1 [] 0 none, .i .i64 0], [.dead, .row true [.s, .i .i64] [] 0 false]⟩, x136_3_0)]⟩], false, [.ro (.sl true [.s, .i .i64])], [.ow (.sl true [.s, .i .i64])]⟩
noncomputable def fi144 : Fi := ⟨Tryz.f144, [], false, [.ag [.v (.s), .v (.s)]], [.ag [.v (.s), .v (.s)]]⟩
def x137_3_0 : List (Ex × List Nat × CSt) := [((.ex 0), [3], ⟨[.rf 1 [] 0 none], [.dead, .row true [.s, .s] [] 0 false]⟩)]
noncomputable def fi137 : Fi := ⟨Tryz.f137, [⟨3, [0, 3, 4], [], [(⟨[.ro 0 true [.s, .s] [], .rf 1 [] 0 none, .i .i64 0], [.dead, .row true [.s, .s] [] 0 false]⟩, x137_3_0)]⟩], false, [.ro (.sl true [.s, .s])], [.ow (.sl true [.s, .s])]⟩
noncomputable def fi127 : Fi := ⟨Tryz.f127, [], false, [.ag [.v (.i .i64), .v (.i .i64), .v (.i .i64), .ro (.sl false [.i .u8]), .ro (.sl true [.s, .i .i64]), .ro (.sl true [.s, .s])]], [.ag [.v (.i .i64), .v (.i .i64), .v (.i .i64), .ow (.sl false [.i .u8]), .ow (.sl true [.s, .i .i64]), .ow (.sl true [.s, .s])]]⟩
def x120_3_0 : List (Ex × List Nat × CSt) := [((.ex 0), [3], ⟨[.rf 1 [] 0 none], [.dead, .row true [.i .i64, .i .i64, .i .i64, .sl false [.i .u8], .sl true [.s, .i .i64], .sl true [.s, .s]] [] 0 false]⟩)]
noncomputable def fi120 : Fi := ⟨Tryz.f120, [⟨3, [0, 3, 4], [], [(⟨[.ro 0 true [.i .i64, .i .i64, .i .i64, .sl false [.i .u8], .sl true [.s, .i .i64], .sl true [.s, .s]] [], .rf 1 [] 0 none, .i .i64 0], [.dead, .row true [.i .i64, .i .i64, .i .i64, .sl false [.i .u8], .sl true [.s, .i .i64], .sl true [.s, .s]] [] 0 false]⟩, x120_3_0)]⟩], false, [.ro (.sl true [.i .i64, .i .i64, .i .i64, .sl false [.i .u8], .sl true [.s, .i .i64], .sl true [.s, .s]])], [.ow (.sl true [.i .i64, .i .i64, .i .i64, .sl false [.i .u8], .sl true [.s, .i .i64], .sl true [.s, .s]])]⟩
noncomputable def fi103 : Fi := ⟨Tryz.f103, [], false, [.ag [.ro (.sl true [.i .i64, .i .i64, .i .i64, .sl false [.i .u8], .sl true [.s, .i .i64], .sl true [.s, .s]]), .v (.i .i64)]], [.ag [.ow (.sl true [.i .i64, .i .i64, .i .i64, .sl false [.i .u8], .sl true [.s, .i .i64], .sl true [.s, .s]]), .v (.i .i64)]]⟩
noncomputable def fi78 : Fi := ⟨Tryz.f78, [], false, [.ag [.v (.i .i64), .v (.s), .v (.b), .v (.i .i64), .ro (.sl true [.i .i64, .i .i64, .i .i64, .sl false [.i .u8], .sl true [.s, .i .i64], .sl true [.s, .s]]), .v (.i .i64)]], [.ag [.v (.i .i64), .v (.s), .v (.b), .v (.i .i64), .ow (.sl true [.i .i64, .i .i64, .i .i64, .sl false [.i .u8], .sl true [.s, .i .i64], .sl true [.s, .s]]), .v (.i .i64)]]⟩
def x53_3_0 : List (Ex × List Nat × CSt) := [((.ex 0), [3], ⟨[.rf 1 [] 0 none], [.dead, .row true [.i .i64, .s, .b, .i .i64, .sl true [.i .i64, .i .i64, .i .i64, .sl false [.i .u8], .sl true [.s, .i .i64], .sl true [.s, .s]], .i .i64] [] 0 false]⟩)]
noncomputable def fi53 : Fi := ⟨Tryz.f53, [⟨3, [0, 3, 4], [], [(⟨[.ro 0 true [.i .i64, .s, .b, .i .i64, .sl true [.i .i64, .i .i64, .i .i64, .sl false [.i .u8], .sl true [.s, .i .i64], .sl true [.s, .s]], .i .i64] [], .rf 1 [] 0 none, .i .i64 0], [.dead, .row true [.i .i64, .s, .b, .i .i64, .sl true [.i .i64, .i .i64, .i .i64, .sl false [.i .u8], .sl true [.s, .i .i64], .sl true [.s, .s]], .i .i64] [] 0 false]⟩, x53_3_0)]⟩], false, [.ro (.sl true [.i .i64, .s, .b, .i .i64, .sl true [.i .i64, .i .i64, .i .i64, .sl false [.i .u8], .sl true [.s, .i .i64], .sl true [.s, .s]], .i .i64])], [.ow (.sl true [.i .i64, .s, .b, .i .i64, .sl true [.i .i64, .i .i64, .i .i64, .sl false [.i .u8], .sl true [.s, .i .i64], .sl true [.s, .s]], .i .i64])]⟩
noncomputable def fi26 : Fi := ⟨Tryz.f26, [], false, [.ag [.ro (.sl true [.i .i64, .s, .b, .i .i64, .sl true [.i .i64, .i .i64, .i .i64, .sl false [.i .u8], .sl true [.s, .i .i64], .sl true [.s, .s]], .i .i64]), .v (.i .i64)]], [.ag [.ow (.sl true [.i .i64, .s, .b, .i .i64, .sl true [.i .i64, .i .i64, .i .i64, .sl false [.i .u8], .sl true [.s, .i .i64], .sl true [.s, .s]], .i .i64]), .v (.i .i64)]]⟩
noncomputable def fi79 : Fi := ⟨Tryz.f79, [], false, [.ag [.v (.i .i64), .v (.s), .v (.b), .v (.i .i64), .v (.i .i64)]], [.ag [.v (.i .i64), .v (.s), .v (.b), .v (.i .i64), .v (.i .i64)]]⟩
def x54_3_0 : List (Ex × List Nat × CSt) := [((.ex 0), [3], ⟨[.rf 1 [] 0 none], [.dead, .row true [.i .i64, .s, .b, .i .i64, .i .i64] [] 0 false]⟩)]
noncomputable def fi54 : Fi := ⟨Tryz.f54, [⟨3, [0, 3, 4], [], [(⟨[.ro 0 true [.i .i64, .s, .b, .i .i64, .i .i64] [], .rf 1 [] 0 none, .i .i64 0], [.dead, .row true [.i .i64, .s, .b, .i .i64, .i .i64] [] 0 false]⟩, x54_3_0)]⟩], false, [.ro (.sl true [.i .i64, .s, .b, .i .i64, .i .i64])], [.ow (.sl true [.i .i64, .s, .b, .i .i64, .i .i64])]⟩
noncomputable def fi27 : Fi := ⟨Tryz.f27, [], false, [.ag [.v (.i .i64), .ro (.sl true [.i .i64, .s, .b, .i .i64, .i .i64])]], [.ag [.v (.i .i64), .ow (.sl true [.i .i64, .s, .b, .i .i64, .i .i64])]]⟩
noncomputable def fi104 : Fi := ⟨Tryz.f104, [], false, [.ag [.v (.i .i64), .v (.i .i64)]], [.ag [.v (.i .i64), .v (.i .i64)]]⟩
def x80_3_0 : List (Ex × List Nat × CSt) := [((.ex 0), [3], ⟨[.rf 1 [] 0 none], [.dead, .row true [.i .i64, .i .i64] [] 0 false]⟩)]
noncomputable def fi80 : Fi := ⟨Tryz.f80, [⟨3, [0, 3, 4], [], [(⟨[.ro 0 true [.i .i64, .i .i64] [], .rf 1 [] 0 none, .i .i64 0], [.dead, .row true [.i .i64, .i .i64] [] 0 false]⟩, x80_3_0)]⟩], false, [.ro (.sl true [.i .i64, .i .i64])], [.ow (.sl true [.i .i64, .i .i64])]⟩
noncomputable def fi55 : Fi := ⟨Tryz.f55, [], false, [.ag [.v (.i .i64), .ro (.sl true [.i .i64, .i .i64])]], [.ag [.v (.i .i64), .ow (.sl true [.i .i64, .i .i64])]]⟩
def x28_3_0 : List (Ex × List Nat × CSt) := [((.ex 0), [3], ⟨[.rf 1 [] 0 none], [.dead, .row true [.i .i64, .sl true [.i .i64, .i .i64]] [] 0 false]⟩)]
noncomputable def fi28 : Fi := ⟨Tryz.f28, [⟨3, [0, 3, 4], [], [(⟨[.ro 0 true [.i .i64, .sl true [.i .i64, .i .i64]] [], .rf 1 [] 0 none, .i .i64 0], [.dead, .row true [.i .i64, .sl true [.i .i64, .i .i64]] [] 0 false]⟩, x28_3_0)]⟩], false, [.ro (.sl true [.i .i64, .sl true [.i .i64, .i .i64]])], [.ow (.sl true [.i .i64, .sl true [.i .i64, .i .i64]])]⟩
noncomputable def fi8 : Fi := ⟨Tryz.f8, [], false, [.ag [.ro (.sl true [.i .i64, .s, .b, .i .i64, .sl true [.i .i64, .i .i64, .i .i64, .sl false [.i .u8], .sl true [.s, .i .i64], .sl true [.s, .s]], .i .i64]), .v (.i .i64), .v (.i .i64), .ro (.sl true [.i .i64, .s, .b, .i .i64, .i .i64]), .ro (.sl true [.i .i64, .sl true [.i .i64, .i .i64]]), .v (.i .i64), .v (.i .i64)]], [.ag [.ow (.sl true [.i .i64, .s, .b, .i .i64, .sl true [.i .i64, .i .i64, .i .i64, .sl false [.i .u8], .sl true [.s, .i .i64], .sl true [.s, .s]], .i .i64]), .v (.i .i64), .v (.i .i64), .ow (.sl true [.i .i64, .s, .b, .i .i64, .i .i64]), .ow (.sl true [.i .i64, .sl true [.i .i64, .i .i64]]), .v (.i .i64), .v (.i .i64)]]⟩
def x42_2_0 : List (Ex × List Nat × CSt) := [(.ret, [4], ⟨[.b false], [.dead, .dead]⟩), ((.ex 0), [], ⟨[], [.dead, .dead]⟩)]
noncomputable def fi42 : Fi := ⟨Tryz.f42, [⟨2, [0, 1, 5], [], [(⟨[.ro 0 false [.i .i64] [], .i .i64 0, .i .i64 0], [.dead, .dead]⟩, x42_2_0)]⟩], false, [.ro (.sl false [.i .i64]), .v (.i .i64)], [.v (.b)]⟩
def x52_5_0 : List (Ex × List Nat × CSt) := [((.ex 0), [1, 5, 6], ⟨[.i .i64 0, .rf 2 [] 0 none, .i .i64 0], [.dead, .dead, .row false [.i .i64] [] 0 false]⟩)]
noncomputable def fi52 : Fi := ⟨Tryz.f52, [⟨5, [1, 5, 6], [], [(⟨[.i .i64 0, .rf 2 [] 0 none, .i .i64 0], [.dead, .dead, .row false [.i .i64] [] 0 false]⟩, x52_5_0)]⟩], false, [.ro (.sl false [.i .i64]), .v (.i .i64)], [.ro (.sl false [.i .i64])]⟩
noncomputable def fi25 : Fi := ⟨Tryz.f25, [], false, [.ro (.sl false [.i .i64]), .v (.i .i64)], [.ro (.sl false [.i .i64])]⟩
def x7_3_0 : List (Ex × List Nat × CSt) := [((.ex 0), [1, 3], ⟨[.bp 7 0, .ro 0 false [.i .i64] []], [.dead, .dead, .dead, .dead, .dead, .dead, .dead, .box [.ro 0 true [.i .i64, .s, .b, .i .i64, .sl true [.i .i64, .i .i64, .i .i64, .sl false [.i .u8], .sl true [.s, .i .i64], .sl true [.s, .s]], .i .i64] [], .i .i64 0, .i .i64 0, .ro 0 true [.i .i64, .s, .b, .i .i64, .i .i64] [], .ro 0 true [.i .i64, .sl true [.i .i64, .i .i64]] [], .i .i64 0, .i .i64 0]]⟩)]
def x7_7_0 : List (Ex × List Nat × CSt) := [((.ex 2), [3], ⟨[.ro 0 false [.i .i64] []], [.dead, .dead, .dead, .dead, .dead, .dead, .dead]⟩)]
def x7_10_0 : List (Ex × List Nat × CSt) := [((.ex 4), [1, 3, 5], ⟨[.bp 7 0, .ro 0 false [.i .i64] [], .i .i64 0], [.dead, .dead, .dead, .dead, .dead, .dead, .dead, .box [.ro 0 true [.i .i64, .s, .b, .i .i64, .sl true [.i .i64, .i .i64, .i .i64, .sl false [.i .u8], .sl true [.s, .i .i64], .sl true [.s, .s]], .i .i64] [], .i .i64 0, .i .i64 0, .ro 0 true [.i .i64, .s, .b, .i .i64, .i .i64] [], .ro 0 true [.i .i64, .sl true [.i .i64, .i .i64]] [], .i .i64 0, .i .i64 0]]⟩)]
noncomputable def fi7 : Fi := ⟨Tryz.f7, [⟨3, [1, 3, 4], [], [(⟨[.bp 7 0, .ro 0 false [.i .i64] [], .i .i64 0], [.dead, .dead, .dead, .dead, .dead, .dead, .dead, .box [.ro 0 true [.i .i64, .s, .b, .i .i64, .sl true [.i .i64, .i .i64, .i .i64, .sl false [.i .u8], .sl true [.s, .i .i64], .sl true [.s, .s]], .i .i64] [], .i .i64 0, .i .i64 0, .ro 0 true [.i .i64, .s, .b, .i .i64, .i .i64] [], .ro 0 true [.i .i64, .sl true [.i .i64, .i .i64]] [], .i .i64 0, .i .i64 0]]⟩, x7_3_0)]⟩, ⟨7, [1, 3, 5], [], [(⟨[.bp 7 0, .ro 0 false [.i .i64] [], .i .i64 0], [.dead, .dead, .dead, .dead, .dead, .dead, .dead, .box [.ro 0 true [.i .i64, .s, .b, .i .i64, .sl true [.i .i64, .i .i64, .i .i64, .sl false [.i .u8], .sl true [.s, .i .i64], .sl true [.s, .s]], .i .i64] [], .i .i64 0, .i .i64 0, .ro 0 true [.i .i64, .s, .b, .i .i64, .i .i64] [], .ro 0 true [.i .i64, .sl true [.i .i64, .i .i64]] [], .i .i64 0, .i .i64 0]]⟩, x7_7_0)]⟩, ⟨10, [1, 3, 5, 6], [], [(⟨[.bp 7 0, .ro 0 false [.i .i64] [], .i .i64 0, .i .i64 0], [.dead, .dead, .dead, .dead, .dead, .dead, .dead, .box [.ro 0 true [.i .i64, .s, .b, .i .i64, .sl true [.i .i64, .i .i64, .i .i64, .sl false [.i .u8], .sl true [.s, .i .i64], .sl true [.s, .s]], .i .i64] [], .i .i64 0, .i .i64 0, .ro 0 true [.i .i64, .s, .b, .i .i64, .i .i64] [], .ro 0 true [.i .i64, .sl true [.i .i64, .i .i64]] [], .i .i64 0, .i .i64 0]]⟩, x7_10_0)]⟩], false, [.ag [.ro (.sl true [.i .i64, .s, .b, .i .i64, .sl true [.i .i64, .i .i64, .i .i64, .sl false [.i .u8], .sl true [.s, .i .i64], .sl true [.s, .s]], .i .i64]), .v (.i .i64), .v (.i .i64), .ro (.sl true [.i .i64, .s, .b, .i .i64, .i .i64]), .ro (.sl true [.i .i64, .sl true [.i .i64, .i .i64]]), .v (.i .i64), .v (.i .i64)]], [.ro (.sl false [.i .i64])]⟩
def x30_3_0 : List (Ex × List Nat × CSt) := [((.ex 0), [1, 3], ⟨[.bp 7 0, .rf 8 [] 0 none], [.dead, .dead, .dead, .dead, .dead, .dead, .dead, .box [.ro 0 true [.i .i64, .s, .b, .i .i64, .sl true [.i .i64, .i .i64, .i .i64, .sl false [.i .u8], .sl true [.s, .i .i64], .sl true [.s, .s]], .i .i64] [], .i .i64 0, .i .i64 0, .ro 0 true [.i .i64, .s, .b, .i .i64, .i .i64] [], .ro 0 true [.i .i64, .sl true [.i .i64, .i .i64]] [], .i .i64 0, .i .i64 0], .row false [.sl false [.i .i64]] [] 0 true]⟩)]
def x30_8_0 : List (Ex × List Nat × CSt) := [((.ex 2), [3], ⟨[.rf 7 [] 0 none], [.dead, .dead, .dead, .dead, .dead, .dead, .dead, .row false [.sl false [.i .i64]] [] 0 true]⟩)]
def x30_11_0 : List (Ex × List Nat × CSt) := [((.ex 4), [3, 41, 42, 43], ⟨[.rf 7 [] 0 none, .ro 0 true [.i .i64, .sl true [.i .i64, .i .i64]] [], .i .i64 0, .i .i64 0], [.dead, .dead, .dead, .dead, .dead, .dead, .dead, .row false [.sl false [.i .i64]] [] 0 true]⟩)]
noncomputable def fi30 : Fi := ⟨Tryz.f30, [⟨3, [1, 3, 21, 22, 23], [(3, 1)], [(⟨[.bp 7 0, .rf 8 [] 0 none, .ro 0 true [.i .i64, .s, .b, .i .i64, .i .i64] [], .i .i64 0, .i .i64 0], [.dead, .dead, .dead, .dead, .dead, .dead, .dead, .box [.ro 0 true [.i .i64, .s, .b, .i .i64, .sl true [.i .i64, .i .i64, .i .i64, .sl false [.i .u8], .sl true [.s, .i .i64], .sl true [.s, .s]], .i .i64] [], .i .i64 0, .i .i64 0, .ro 0 true [.i .i64, .s, .b, .i .i64, .i .i64] [], .ro 0 true [.i .i64, .sl true [.i .i64, .i .i64]] [], .i .i64 0, .i .i64 0], .row false [.sl false [.i .i64]] [] 0 true]⟩, x30_3_0)]⟩, ⟨8, [3, 41, 42, 43], [(3, 1)], [(⟨[.rf 7 [] 0 none, .ro 0 true [.i .i64, .sl true [.i .i64, .i .i64]] [], .i .i64 0, .i .i64 0], [.dead, .dead, .dead, .dead, .dead, .dead, .dead, .row false [.sl false [.i .i64]] [] 0 true]⟩, x30_8_0)]⟩, ⟨11, [3, 6, 41, 42, 43, 49, 50, 51], [(3, 1)], [(⟨[.rf 7 [] 0 none, .i .i64 0, .ro 0 true [.i .i64, .sl true [.i .i64, .i .i64]] [], .i .i64 0, .i .i64 0, .ro 0 true [.i .i64, .i .i64] [], .i .i64 0, .i .i64 0], [.dead, .dead, .dead, .dead, .dead, .dead, .dead, .row false [.sl false [.i .i64]] [] 0 true]⟩, x30_11_0)]⟩], false, [.ag [.ro (.sl true [.i .i64, .s, .b, .i .i64, .sl true [.i .i64, .i .i64, .i .i64, .sl false [.i .u8], .sl true [.s, .i .i64], .sl true [.s, .s]], .i .i64]), .v (.i .i64), .v (.i .i64), .ro (.sl true [.i .i64, .s, .b, .i .i64, .i .i64]), .ro (.sl true [.i .i64, .sl true [.i .i64, .i .i64]]), .v (.i .i64), .v (.i .i64)]], [.ow (.sl false [.sl false [.i .i64]])]⟩
noncomputable def fi56 : Fi := ⟨Tryz.f56, [], true, [], []⟩
def x29_3_0 : List (Ex × List Nat × CSt) := [((.ex 0), [0, 3], ⟨[.ro 0 false [.sl false [.i .i64]] [], .i .i64 0], [.dead]⟩)]
def x29_11_0 : List (Ex × List Nat × CSt) := [((.ex 2), [6], ⟨[.rf 1 [] 0 (some (0, 0))], [.dead, .row false [.i .i64] [] 0 false]⟩)]
noncomputable def fi29 : Fi := ⟨Tryz.f29, [⟨3, [0, 3, 9, 10, 11], [], [(⟨[.ro 0 false [.sl false [.i .i64]] [], .i .i64 0, .ro 0 false [.sl false [.i .i64]] [], .i .i64 0, .i .i64 0], [.dead]⟩, x29_3_0)]⟩, ⟨11, [6, 25, 26, 27], [(6, 2)], [(⟨[.rf 1 [] 0 (some (0, 0)), .ro 0 false [.sl false [.i .i64]] [], .i .i64 0, .i .i64 0], [.dead, .row false [.i .i64] [] 0 false]⟩, x29_11_0)]⟩], false, [.ro (.sl false [.sl false [.i .i64]])], [.ow (.sl false [.i .i64])]⟩
noncomputable def fi31 : Fi := ⟨Tryz.f31, [], false, [.ow (.sl false [.i .i64])], []⟩
def x33_4_0 : List (Ex × List Nat × CSt) := [(.ret, [2], ⟨[.rf 1 [] 0 (some (0, 0))], [.dead, .row false [.i .i64] [] 0 false]⟩), ((.ex 0), [0], ⟨[.rf 1 [] 0 none], [.dead, .row false [.i .i64] [] 0 false]⟩)]
def x33_9_0 : List (Ex × List Nat × CSt) := [((.ex 2), [0, 3], ⟨[.rf 1 [] 0 none, .i .i64 0], [.dead, .row false [.i .i64] [] 0 false]⟩)]
noncomputable def fi33 : Fi := ⟨Tryz.f33, [⟨4, [0, 3], [], [(⟨[.rf 1 [] 0 none, .i .i64 0], [.dead, .row false [.i .i64] [] 0 false]⟩, x33_4_0)]⟩, ⟨9, [0, 3, 4, 5], [], [(⟨[.rf 1 [] 0 none, .i .i64 0, .rf 1 [] 0 (some (0, 0)), .i .i64 0], [.dead, .row false [.i .i64] [] 0 false]⟩, x33_9_0)]⟩], false, [.mv (.sl false [.i .i64])], [.ow (.sl false [.i .i64])]⟩
def x59_2_0 : List (Ex × List Nat × CSt) := [(.ret, [4], ⟨[.i .i64 0], [.row false [.i .i64] [] 0 false]⟩), ((.ex 0), [], ⟨[], [.row false [.i .i64] [] 0 false]⟩)]
noncomputable def fi59 : Fi := ⟨Tryz.f59, [⟨2, [0, 1, 7, 8], [], [(⟨[.rf 0 [] 0 none, .fn 34 [], .i .i64 0, .i .i64 0], [.row false [.i .i64] [] 0 false]⟩, x59_2_0)]⟩], true, [], []⟩
def x32_5_0 : List (Ex × List Nat × CSt) := [((.ex 0), [0, 5], ⟨[.rf 0 [] 0 none, .i .i64 0], [.row false [.i .i64] [] 0 false]⟩)]
noncomputable def fi32 : Fi := ⟨Tryz.f32, [⟨5, [0, 1, 5, 6], [], [(⟨[.rf 0 [] 0 none, .fn 34 [], .i .i64 0, .i .i64 0], [.row false [.i .i64] [] 0 false]⟩, x32_5_0)]⟩], true, [], []⟩
noncomputable def fi34 : Fi := ⟨Tryz.f34, [], false, [.v (.i .i64)], [.v (.b)]⟩
noncomputable def fi9 : Fi := ⟨Tryz.f9, [], false, [.ag [.ro (.sl true [.i .i64, .s, .b, .i .i64, .sl true [.i .i64, .i .i64, .i .i64, .sl false [.i .u8], .sl true [.s, .i .i64], .sl true [.s, .s]], .i .i64]), .v (.i .i64), .v (.i .i64), .ro (.sl true [.i .i64, .s, .b, .i .i64, .i .i64]), .ro (.sl true [.i .i64, .sl true [.i .i64, .i .i64]]), .v (.i .i64), .v (.i .i64)]], [.ow (.sl false [.i .i64])]⟩
def x10_4_0 : List (Ex × List Nat × CSt) := [(.ret, [4], ⟨[.b false], [.dead, .dead]⟩), ((.ex 0), [], ⟨[], [.dead, .dead]⟩)]
noncomputable def fi10 : Fi := ⟨Tryz.f10, [⟨4, [0, 1, 5], [], [(⟨[.ro 0 false [.i .i64] [], .ro 0 false [.i .i64] [], .i .i64 0], [.dead, .dead]⟩, x10_4_0)]⟩], false, [.ro (.sl false [.i .i64]), .ro (.sl false [.i .i64])], [.v (.b)]⟩
def x138_4_0 : List (Ex × List Nat × CSt) := [(.ret, [4], ⟨[.b false], [.dead, .dead]⟩), ((.ex 0), [], ⟨[], [.dead, .dead]⟩)]
noncomputable def fi138 : Fi := ⟨Tryz.f138, [⟨4, [0, 1, 5], [], [(⟨[.ro 0 false [.i .u8] [], .ro 0 false [.i .u8] [], .i .i64 0], [.dead, .dead]⟩, x138_4_0)]⟩], false, [.ro (.sl false [.i .u8]), .ro (.sl false [.i .u8])], [.v (.b)]⟩
noncomputable def fi145 : Fi := ⟨Tryz.f145, [], false, [.ag [.v (.s), .v (.i .i64)], .ag [.v (.s), .v (.i .i64)]], [.v (.b)]⟩
def x139_4_0 : List (Ex × List Nat × CSt) := [(.ret, [4], ⟨[.b false], [.dead, .dead]⟩), ((.ex 0), [], ⟨[], [.dead, .dead]⟩)]
noncomputable def fi139 : Fi := ⟨Tryz.f139, [⟨4, [0, 1, 5], [], [(⟨[.ro 0 true [.s, .i .i64] [], .ro 0 true [.s, .i .i64] [], .i .i64 0], [.dead, .dead]⟩, x139_4_0)]⟩], false, [.ro (.sl true [.s, .i .i64]), .ro (.sl true [.s, .i .i64])], [.v (.b)]⟩
noncomputable def fi146 : Fi := ⟨Tryz.f146, [], false, [.ag [.v (.s), .v (.s)], .ag [.v (.s), .v (.s)]], [.v (.b)]⟩
def x140_4_0 : List (Ex × List Nat × CSt) := [(.ret, [4], ⟨[.b false], [.dead, .dead]⟩), ((.ex 0), [], ⟨[], [.dead, .dead]⟩)]
noncomputable def fi140 : Fi := ⟨Tryz.f140, [⟨4, [0, 1, 5], [], [(⟨[.ro 0 true [.s, .s] [], .ro 0 true [.s, .s] [], .i .i64 0], [.dead, .dead]⟩, x140_4_0)]⟩], false, [.ro (.sl true [.s, .s]), .ro (.sl true [.s, .s])], [.v (.b)]⟩
noncomputable def fi128 : Fi := ⟨Tryz.f128, [], false, [.ag [.v (.i .i64), .v (.i .i64), .v (.i .i64), .ro (.sl false [.i .u8]), .ro (.sl true [.s, .i .i64]), .ro (.sl true [.s, .s])], .ag [.v (.i .i64), .v (.i .i64), .v (.i .i64), .ro (.sl false [.i .u8]), .ro (.sl true [.s, .i .i64]), .ro (.sl true [.s, .s])]], [.v (.b)]⟩
def x122_4_0 : List (Ex × List Nat × CSt) := [(.ret, [4], ⟨[.b false], [.dead, .dead]⟩), ((.ex 0), [], ⟨[], [.dead, .dead]⟩)]
noncomputable def fi122 : Fi := ⟨Tryz.f122, [⟨4, [0, 1, 5], [], [(⟨[.ro 0 true [.i .i64, .i .i64, .i .i64, .sl false [.i .u8], .sl true [.s, .i .i64], .sl true [.s, .s]] [], .ro 0 true [.i .i64, .i .i64, .i .i64, .sl false [.i .u8], .sl true [.s, .i .i64], .sl true [.s, .s]] [], .i .i64 0], [.dead, .dead]⟩, x122_4_0)]⟩], false, [.ro (.sl true [.i .i64, .i .i64, .i .i64, .sl false [.i .u8], .sl true [.s, .i .i64], .sl true [.s, .s]]), .ro (.sl true [.i .i64, .i .i64, .i .i64, .sl false [.i .u8], .sl true [.s, .i .i64], .sl true [.s, .s]])], [.v (.b)]⟩
noncomputable def fi111 : Fi := ⟨Tryz.f111, [], false, [.ag [.ro (.sl true [.i .i64, .i .i64, .i .i64, .sl false [.i .u8], .sl true [.s, .i .i64], .sl true [.s, .s]]), .v (.i .i64)], .ag [.ro (.sl true [.i .i64, .i .i64, .i .i64, .sl false [.i .u8], .sl true [.s, .i .i64], .sl true [.s, .s]]), .v (.i .i64)]], [.v (.b)]⟩
noncomputable def fi92 : Fi := ⟨Tryz.f92, [], false, [.ag [.v (.i .i64), .v (.s), .v (.b), .v (.i .i64), .ro (.sl true [.i .i64, .i .i64, .i .i64, .sl false [.i .u8], .sl true [.s, .i .i64], .sl true [.s, .s]]), .v (.i .i64)], .ag [.v (.i .i64), .v (.s), .v (.b), .v (.i .i64), .ro (.sl true [.i .i64, .i .i64, .i .i64, .sl false [.i .u8], .sl true [.s, .i .i64], .sl true [.s, .s]]), .v (.i .i64)]], [.v (.b)]⟩
def x60_4_0 : List (Ex × List Nat × CSt) := [(.ret, [4], ⟨[.b false], [.dead, .dead]⟩), ((.ex 0), [], ⟨[], [.dead, .dead]⟩)]
noncomputable def fi60 : Fi := ⟨Tryz.f60, [⟨4, [0, 1, 5], [], [(⟨[.ro 0 true [.i .i64, .s, .b, .i .i64, .sl true [.i .i64, .i .i64, .i .i64, .sl false [.i .u8], .sl true [.s, .i .i64], .sl true [.s, .s]], .i .i64] [], .ro 0 true [.i .i64, .s, .b, .i .i64, .sl true [.i .i64, .i .i64, .i .i64, .sl false [.i .u8], .sl true [.s, .i .i64], .sl true [.s, .s]], .i .i64] [], .i .i64 0], [.dead, .dead]⟩, x60_4_0)]⟩], false, [.ro (.sl true [.i .i64, .s, .b, .i .i64, .sl true [.i .i64, .i .i64, .i .i64, .sl false [.i .u8], .sl true [.s, .i .i64], .sl true [.s, .s]], .i .i64]), .ro (.sl true [.i .i64, .s, .b, .i .i64, .sl true [.i .i64, .i .i64, .i .i64, .sl false [.i .u8], .sl true [.s, .i .i64], .sl true [.s, .s]], .i .i64])], [.v (.b)]⟩
noncomputable def fi35 : Fi := ⟨Tryz.f35, [], false, [.ag [.ro (.sl true [.i .i64, .s, .b, .i .i64, .sl true [.i .i64, .i .i64, .i .i64, .sl false [.i .u8], .sl true [.s, .i .i64], .sl true [.s, .s]], .i .i64]), .v (.i .i64)], .ag [.ro (.sl true [.i .i64, .s, .b, .i .i64, .sl true [.i .i64, .i .i64, .i .i64, .sl false [.i .u8], .sl true [.s, .i .i64], .sl true [.s, .s]], .i .i64]), .v (.i .i64)]], [.v (.b)]⟩
noncomputable def fi93 : Fi := ⟨Tryz.f93, [], false, [.ag [.v (.i .i64), .v (.s), .v (.b), .v (.i .i64), .v (.i .i64)], .ag [.v (.i .i64), .v (.s), .v (.b), .v (.i .i64), .v (.i .i64)]], [.v (.b)]⟩
def x61_4_0 : List (Ex × List Nat × CSt) := [(.ret, [4], ⟨[.b false], [.dead, .dead]⟩), ((.ex 0), [], ⟨[], [.dead, .dead]⟩)]
noncomputable def fi61 : Fi := ⟨Tryz.f61, [⟨4, [0, 1, 5], [], [(⟨[.ro 0 true [.i .i64, .s, .b, .i .i64, .i .i64] [], .ro 0 true [.i .i64, .s, .b, .i .i64, .i .i64] [], .i .i64 0], [.dead, .dead]⟩, x61_4_0)]⟩], false, [.ro (.sl true [.i .i64, .s, .b, .i .i64, .i .i64]), .ro (.sl true [.i .i64, .s, .b, .i .i64, .i .i64])], [.v (.b)]⟩
noncomputable def fi36 : Fi := ⟨Tryz.f36, [], false, [.ag [.v (.i .i64), .ro (.sl true [.i .i64, .s, .b, .i .i64, .i .i64])], .ag [.v (.i .i64), .ro (.sl true [.i .i64, .s, .b, .i .i64, .i .i64])]], [.v (.b)]⟩
noncomputable def fi112 : Fi := ⟨Tryz.f112, [], false, [.ag [.v (.i .i64), .v (.i .i64)], .ag [.v (.i .i64), .v (.i .i64)]], [.v (.b)]⟩
def x94_4_0 : List (Ex × List Nat × CSt) := [(.ret, [4], ⟨[.b false], [.dead, .dead]⟩), ((.ex 0), [], ⟨[], [.dead, .dead]⟩)]
noncomputable def fi94 : Fi := ⟨Tryz.f94, [⟨4, [0, 1, 5], [], [(⟨[.ro 0 true [.i .i64, .i .i64] [], .ro 0 true [.i .i64, .i .i64] [], .i .i64 0], [.dead, .dead]⟩, x94_4_0)]⟩], false, [.ro (.sl true [.i .i64, .i .i64]), .ro (.sl true [.i .i64, .i .i64])], [.v (.b)]⟩
noncomputable def fi62 : Fi := ⟨Tryz.f62, [], false, [.ag [.v (.i .i64), .ro (.sl true [.i .i64, .i .i64])], .ag [.v (.i .i64), .ro (.sl true [.i .i64, .i .i64])]], [.v (.b)]⟩
def x37_4_0 : List (Ex × List Nat × CSt) := [(.ret, [4], ⟨[.b false], [.dead, .dead]⟩), ((.ex 0), [], ⟨[], [.dead, .dead]⟩)]
noncomputable def fi37 : Fi := ⟨Tryz.f37, [⟨4, [0, 1, 5], [], [(⟨[.ro 0 true [.i .i64, .sl true [.i .i64, .i .i64]] [], .ro 0 true [.i .i64, .sl true [.i .i64, .i .i64]] [], .i .i64 0], [.dead, .dead]⟩, x37_4_0)]⟩], false, [.ro (.sl true [.i .i64, .sl true [.i .i64, .i .i64]]), .ro (.sl true [.i .i64, .sl true [.i .i64, .i .i64]])], [.v (.b)]⟩
noncomputable def fi11 : Fi := ⟨Tryz.f11, [], false, [.ag [.ro (.sl true [.i .i64, .s, .b, .i .i64, .sl true [.i .i64, .i .i64, .i .i64, .sl false [.i .u8], .sl true [.s, .i .i64], .sl true [.s, .s]], .i .i64]), .v (.i .i64), .v (.i .i64), .ro (.sl true [.i .i64, .s, .b, .i .i64, .i .i64]), .ro (.sl true [.i .i64, .sl true [.i .i64, .i .i64]]), .v (.i .i64), .v (.i .i64)], .ag [.ro (.sl true [.i .i64, .s, .b, .i .i64, .sl true [.i .i64, .i .i64, .i .i64, .sl false [.i .u8], .sl true [.s, .i .i64], .sl true [.s, .s]], .i .i64]), .v (.i .i64), .v (.i .i64), .ro (.sl true [.i .i64, .s, .b, .i .i64, .i .i64]), .ro (.sl true [.i .i64, .sl true [.i .i64, .i .i64]]), .v (.i .i64), .v (.i .i64)]], [.v (.b)]⟩
def x95_4_0 : List (Ex × List Nat × CSt) := [((.ex 0), [3], ⟨[.s (⟨#[]⟩ : ByteArray)], [.dead]⟩)]
noncomputable def fi95 : Fi := ⟨Tryz.f95, [⟨4, [0, 3], [], [(⟨[.i .i64 0, .s (⟨#[]⟩ : ByteArray)], [.dead]⟩, x95_4_0)]⟩], false, [.v (.i .i64)], [.v (.s)]⟩
def x113_2_0 : List (Ex × List Nat × CSt) := [((.ex 0), [1], ⟨[.i .i64 0], [.row false [.i .u8] [] 0 false, .dead]⟩)]
noncomputable def fi113 : Fi := ⟨Tryz.f113, [⟨2, [0, 1, 5], [], [(⟨[.rf 0 [] 0 none, .i .i64 0, .i .i64 0], [.row false [.i .u8] [] 0 false, .dead]⟩, x113_2_0)]⟩], false, [.ow (.sl false [.i .u8]), .v (.i .i64)], [.v (.i .i64)]⟩
def x114_2_0 : List (Ex × List Nat × CSt) := [((.ex 0), [1], ⟨[.i .i64 0], [.row true [.s, .i .i64] [] 0 false, .dead]⟩)]
noncomputable def fi114 : Fi := ⟨Tryz.f114, [⟨2, [0, 1, 5], [], [(⟨[.rf 0 [] 0 none, .i .i64 0, .i .i64 0], [.row true [.s, .i .i64] [] 0 false, .dead]⟩, x114_2_0)]⟩], false, [.ow (.sl true [.s, .i .i64]), .v (.i .i64)], [.v (.i .i64)]⟩
def x115_2_0 : List (Ex × List Nat × CSt) := [((.ex 0), [1], ⟨[.i .i64 0], [.row true [.s, .s] [] 0 false, .dead]⟩)]
noncomputable def fi115 : Fi := ⟨Tryz.f115, [⟨2, [0, 1, 5], [], [(⟨[.rf 0 [] 0 none, .i .i64 0, .i .i64 0], [.row true [.s, .s] [] 0 false, .dead]⟩, x115_2_0)]⟩], false, [.ow (.sl true [.s, .s]), .v (.i .i64)], [.v (.i .i64)]⟩
def x96_2_0 : List (Ex × List Nat × CSt) := [((.ex 0), [1], ⟨[.i .i64 0], [.row true [.i .i64, .i .i64, .i .i64, .sl false [.i .u8], .sl true [.s, .i .i64], .sl true [.s, .s]] [] 0 false, .dead]⟩)]
noncomputable def fi96 : Fi := ⟨Tryz.f96, [⟨2, [0, 1, 5], [], [(⟨[.rf 0 [] 0 none, .i .i64 0, .i .i64 0], [.row true [.i .i64, .i .i64, .i .i64, .sl false [.i .u8], .sl true [.s, .i .i64], .sl true [.s, .s]] [] 0 false, .dead]⟩, x96_2_0)]⟩], false, [.ow (.sl true [.i .i64, .i .i64, .i .i64, .sl false [.i .u8], .sl true [.s, .i .i64], .sl true [.s, .s]]), .v (.i .i64)], [.v (.i .i64)]⟩
def x63_2_0 : List (Ex × List Nat × CSt) := [((.ex 0), [1], ⟨[.i .i64 0], [.row true [.i .i64, .s, .b, .i .i64, .sl true [.i .i64, .i .i64, .i .i64, .sl false [.i .u8], .sl true [.s, .i .i64], .sl true [.s, .s]], .i .i64] [] 0 false, .dead]⟩)]
noncomputable def fi63 : Fi := ⟨Tryz.f63, [⟨2, [0, 1, 5], [], [(⟨[.rf 0 [] 0 none, .i .i64 0, .i .i64 0], [.row true [.i .i64, .s, .b, .i .i64, .sl true [.i .i64, .i .i64, .i .i64, .sl false [.i .u8], .sl true [.s, .i .i64], .sl true [.s, .s]], .i .i64] [] 0 false, .dead]⟩, x63_2_0)]⟩], false, [.ow (.sl true [.i .i64, .s, .b, .i .i64, .sl true [.i .i64, .i .i64, .i .i64, .sl false [.i .u8], .sl true [.s, .i .i64], .sl true [.s, .s]], .i .i64]), .v (.i .i64)], [.v (.i .i64)]⟩
noncomputable def fi38 : Fi := ⟨Tryz.f38, [], false, [.ag [.ow (.sl true [.i .i64, .s, .b, .i .i64, .sl true [.i .i64, .i .i64, .i .i64, .sl false [.i .u8], .sl true [.s, .i .i64], .sl true [.s, .s]], .i .i64]), .v (.i .i64)], .v (.i .i64)], [.v (.i .i64)]⟩
def x64_2_0 : List (Ex × List Nat × CSt) := [((.ex 0), [1], ⟨[.i .i64 0], [.row true [.i .i64, .s, .b, .i .i64, .i .i64] [] 0 false, .dead]⟩)]
noncomputable def fi64 : Fi := ⟨Tryz.f64, [⟨2, [0, 1, 5], [], [(⟨[.rf 0 [] 0 none, .i .i64 0, .i .i64 0], [.row true [.i .i64, .s, .b, .i .i64, .i .i64] [] 0 false, .dead]⟩, x64_2_0)]⟩], false, [.ow (.sl true [.i .i64, .s, .b, .i .i64, .i .i64]), .v (.i .i64)], [.v (.i .i64)]⟩
noncomputable def fi39 : Fi := ⟨Tryz.f39, [], false, [.ag [.v (.i .i64), .ow (.sl true [.i .i64, .s, .b, .i .i64, .i .i64])], .v (.i .i64)], [.v (.i .i64)]⟩
def x65_2_0 : List (Ex × List Nat × CSt) := [((.ex 0), [1], ⟨[.i .i64 0], [.row true [.i .i64, .i .i64] [] 0 false, .dead]⟩)]
noncomputable def fi65 : Fi := ⟨Tryz.f65, [⟨2, [0, 1, 5], [], [(⟨[.rf 0 [] 0 none, .i .i64 0, .i .i64 0], [.row true [.i .i64, .i .i64] [] 0 false, .dead]⟩, x65_2_0)]⟩], false, [.ow (.sl true [.i .i64, .i .i64]), .v (.i .i64)], [.v (.i .i64)]⟩
def x40_2_0 : List (Ex × List Nat × CSt) := [((.ex 0), [1], ⟨[.i .i64 0], [.row true [.i .i64, .sl true [.i .i64, .i .i64]] [] 0 false, .dead]⟩)]
noncomputable def fi40 : Fi := ⟨Tryz.f40, [⟨2, [0, 1, 5], [], [(⟨[.rf 0 [] 0 none, .i .i64 0, .i .i64 0], [.row true [.i .i64, .sl true [.i .i64, .i .i64]] [] 0 false, .dead]⟩, x40_2_0)]⟩], false, [.ow (.sl true [.i .i64, .sl true [.i .i64, .i .i64]]), .v (.i .i64)], [.v (.i .i64)]⟩
noncomputable def fi12 : Fi := ⟨Tryz.f12, [], false, [.ag [.ow (.sl true [.i .i64, .s, .b, .i .i64, .sl true [.i .i64, .i .i64, .i .i64, .sl false [.i .u8], .sl true [.s, .i .i64], .sl true [.s, .s]], .i .i64]), .v (.i .i64), .v (.i .i64), .ow (.sl true [.i .i64, .s, .b, .i .i64, .i .i64]), .ow (.sl true [.i .i64, .sl true [.i .i64, .i .i64]]), .v (.i .i64), .v (.i .i64)], .v (.i .i64)], [.v (.i .i64)]⟩
def x13_2_0 : List (Ex × List Nat × CSt) := [((.ex 0), [1], ⟨[.i .i64 0], [.row false [.i .i64] [] 0 false, .dead]⟩)]
noncomputable def fi13 : Fi := ⟨Tryz.f13, [⟨2, [0, 1, 5], [], [(⟨[.rf 0 [] 0 none, .i .i64 0, .i .i64 0], [.row false [.i .i64] [] 0 false, .dead]⟩, x13_2_0)]⟩], false, [.ow (.sl false [.i .i64]), .v (.i .i64)], [.v (.i .i64)]⟩
def x14_2_0 : List (Ex × List Nat × CSt) := [(.ret, [4], ⟨[.i .i64 0], [.dead, .dead]⟩), ((.ex 0), [1], ⟨[.i .i64 0], [.dead, .dead]⟩)]
noncomputable def fi14 : Fi := ⟨Tryz.f14, [⟨2, [0, 1, 5], [], [(⟨[.ro 0 false [.i .i64] [], .i .i64 0, .i .i64 0], [.dead, .dead]⟩, x14_2_0)]⟩], false, [.ro (.sl false [.i .i64]), .v (.i .i64)], [.v (.i .i64)]⟩
noncomputable def fi3 : Fi := ⟨Tryz.f3, [], false, [.ag [.ro (.sl true [.i .i64, .s, .b, .i .i64, .sl true [.i .i64, .i .i64, .i .i64, .sl false [.i .u8], .sl true [.s, .i .i64], .sl true [.s, .s]], .i .i64]), .v (.i .i64), .v (.i .i64), .ro (.sl true [.i .i64, .s, .b, .i .i64, .i .i64]), .ro (.sl true [.i .i64, .sl true [.i .i64, .i .i64]]), .v (.i .i64), .v (.i .i64)]], [.v (.b)]⟩
noncomputable def fiTab : List (Nat × Fi) := [(132, fi132), (141, fi141), (133, fi133), (142, fi142), (134, fi134), (126, fi126), (119, fi119), (102, fi102), (75, fi75), (49, fi49), (22, fi22), (76, fi76), (50, fi50), (23, fi23), (77, fi77), (51, fi51), (24, fi24), (6, fi6), (135, fi135), (143, fi143), (136, fi136), (144, fi144), (137, fi137), (127, fi127), (120, fi120), (103, fi103), (78, fi78), (53, fi53), (26, fi26), (79, fi79), (54, fi54), (27, fi27), (104, fi104), (80, fi80), (55, fi55), (28, fi28), (8, fi8), (42, fi42), (52, fi52), (25, fi25), (7, fi7), (30, fi30), (56, fi56), (29, fi29), (31, fi31), (33, fi33), (59, fi59), (32, fi32), (34, fi34), (9, fi9), (10, fi10), (138, fi138), (145, fi145), (139, fi139), (146, fi146), (140, fi140), (128, fi128), (122, fi122), (111, fi111), (92, fi92), (60, fi60), (35, fi35), (93, fi93), (61, fi61), (36, fi36), (112, fi112), (94, fi94), (62, fi62), (37, fi37), (11, fi11), (95, fi95), (113, fi113), (114, fi114), (115, fi115), (96, fi96), (63, fi63), (38, fi38), (64, fi64), (39, fi39), (65, fi65), (40, fi40), (12, fi12), (13, fi13), (14, fi14), (3, fi3)]
def X : Nat → Option (List T → Option (List T)) := lookN [(31, sortF)]
noncomputable def env : Env := ⟨lookN fiTab, lookN tyTab⟩
def f132_t (c : Orc) (lf : Nat) (l0 : List T) (n1 : Int) : Option (List T) :=
 bif iLt (IntKind.wrap .i64 (n1 - (l0.length : Int))) 0 then
  some [T.i .i64 (-1)]
 else
  some [T.i .i64 (IntKind.wrap .i64 (n1 - (l0.length : Int)))]
def f132 (c : Orc) (lf : Nat) (l0 : List T) (n1 : Int) : Option (List T) := f132_t c lf l0 n1
theorem f132_eq (c : Orc) (lf : Nat) (l0 : List T) (n1 : Int) : funK c env lf 6 fi132 [.sl l0, .i .i64 n1] = f132 c lf l0 n1 := by kernel_rfl
def f141_t (c : Orc) (lf : Nat) (s0_0 : ByteArray) (n0_1 n1 : Int) : Option (List T) :=
 bif iLt (IntKind.wrap .i64 (n1 - (s0_0.size : Int))) 0 then
  some [T.i .i64 (-1)]
 else
  some [T.i .i64 (IntKind.wrap .i64 (n1 - (s0_0.size : Int)))]
def f141 (c : Orc) (lf : Nat) (s0_0 : ByteArray) (n0_1 n1 : Int) : Option (List T) := f141_t c lf s0_0 n0_1 n1
theorem f141_eq (c : Orc) (lf : Nat) (s0_0 : ByteArray) (n0_1 n1 : Int) : funK c env lf 6 fi141 [.st [.s s0_0, .i .i64 n0_1], .i .i64 n1] = f141 c lf s0_0 n0_1 n1 := by kernel_rfl
def f133_0_s (c : Orc) (lf : Nat) (l0 : List T) (L : Int → Int → Option (List T)) (x7 x8 : Int) : Option (List T) :=
 bif iLt x8 (l0.length : Int) then
  bif inR x8 l0.length then
  (c 141 [T.st [T.s (asS (T.cell (l0.getD x8.toNat T.u) 0)), T.i .i64 (asI (T.cell (l0.getD x8.toNat T.u) 1))], T.i .i64 x7]).bind fun r9 =>
  bif iLt (asI (nth r9 0)) 0 then
   some [T.i .i64 0, T.i .i64 (-1)]
  else
   L (asI (nth r9 0)) (IntKind.wrap .i64 (x8 + 1))
  else none
 else
  some [T.i .i64 1, T.i .i64 x7]
def f133_0_c (l0 : List T) (x7 x8 : Int) : CSt := ⟨[.ro 0 true [.s, .i .i64] l0, .i .i64 x7, .i .i64 x8], [.dead, .dead]⟩
theorem f133_0_round (c : Orc) (lf : Nat) (l0 : List T) (L : CSt → Option (List T)) (x7 x8 : Int) :
 roundK c env lf 6 fi133 2 5 [] [0, 1, 5] (x133_5_0) L (f133_0_c l0 x7 x8) = f133_0_s c lf l0 (fun x7 x8 => L (f133_0_c l0 x7 x8)) x7 x8 := by kernel_rfl
def f133_0 (c : Orc) (lf : Nat) (l0 : List T) : Nat → Int → Int → Option (List T)
 | 0 => fun _ _ => none
 | n + 1 => fun x7 x8 => f133_0_s c lf l0 (f133_0 c lf l0 n) x7 x8
theorem f133_0_eq (c : Orc) (lf : Nat) (l0 : List T) (n : Nat) (x7 x8 : Int) :
 lpK c env lf 6 fi133 2 5 [] [0, 1, 5] (x133_5_0) n (f133_0_c l0 x7 x8) = f133_0 c lf l0 n x7 x8 := by
 induction n generalizing x7 x8 with
 | zero => rfl
 | succ n ih =>
  refine (f133_0_round c lf l0 _ x7 x8).trans ?_
  have e : (fun x7 x8 => lpK c env lf 6 fi133 2 5 [] [0, 1, 5] (x133_5_0) n (f133_0_c l0 x7 x8)) = f133_0 c lf l0 n := by funext x7 x8; exact ih x7 x8
  show f133_0_s c lf l0 (fun x7 x8 => lpK c env lf 6 fi133 2 5 [] [0, 1, 5] (x133_5_0) n (f133_0_c l0 x7 x8)) x7 x8 = _
  rw [e]; rfl
def f133_t (c : Orc) (lf : Nat) (lp0 : List T → Int → Int → Option (List T)) (l0 : List T) (n1 : Int) : Option (List T) :=
 bif iLt (IntKind.wrap .i64 (n1 - (l0.length : Int))) 0 then
  some [T.i .i64 (-1)]
 else
  (lp0 l0 (IntKind.wrap .i64 (n1 - (l0.length : Int))) 0).bind fun r10 =>
  bif asI (nth r10 0) == 0 then
   some [T.i .i64 (asI (nth r10 1))]
  else
   some [T.i .i64 (asI (nth r10 1))]
def f133 (c : Orc) (lf : Nat) (l0 : List T) (n1 : Int) : Option (List T) := f133_t c lf (fun (l0 : List T) (x7 x8 : Int) => f133_0 c lf l0 lf x7 x8) l0 n1
theorem f133_raw (c : Orc) (lf : Nat) (l0 : List T) (n1 : Int) : funK c env lf 6 fi133 [.sl l0, .i .i64 n1] = f133_t c lf (fun (l0 : List T) (x7 x8 : Int) => lpK c env lf 6 fi133 2 5 [] [0, 1, 5] (x133_5_0) lf (f133_0_c l0 x7 x8)) l0 n1 := by kernel_rfl
theorem f133_eq (c : Orc) (lf : Nat) (l0 : List T) (n1 : Int) : funK c env lf 6 fi133 [.sl l0, .i .i64 n1] = f133 c lf l0 n1 := by
 refine (f133_raw c lf l0 n1).trans ?_
 have e0 : (fun (l0 : List T) (x7 x8 : Int) => lpK c env lf 6 fi133 2 5 [] [0, 1, 5] (x133_5_0) lf (f133_0_c l0 x7 x8)) = (fun (l0 : List T) (x7 x8 : Int) => f133_0 c lf l0 lf x7 x8) := by funext l0 x7 x8; exact f133_0_eq c lf l0 lf x7 x8
 rw [e0]; rfl
def f142_t (c : Orc) (lf : Nat) (s0_0 s0_1 : ByteArray) (n1 : Int) : Option (List T) :=
 bif iLt (IntKind.wrap .i64 (n1 - (s0_0.size : Int))) 0 then
  some [T.i .i64 (-1)]
 else
  bif iLt (IntKind.wrap .i64 ((IntKind.wrap .i64 (n1 - (s0_0.size : Int))) - (s0_1.size : Int))) 0 then
   some [T.i .i64 (-1)]
  else
   some [T.i .i64 (IntKind.wrap .i64 ((IntKind.wrap .i64 (n1 - (s0_0.size : Int))) - (s0_1.size : Int)))]
def f142 (c : Orc) (lf : Nat) (s0_0 s0_1 : ByteArray) (n1 : Int) : Option (List T) := f142_t c lf s0_0 s0_1 n1
theorem f142_eq (c : Orc) (lf : Nat) (s0_0 s0_1 : ByteArray) (n1 : Int) : funK c env lf 6 fi142 [.st [.s s0_0, .s s0_1], .i .i64 n1] = f142 c lf s0_0 s0_1 n1 := by kernel_rfl
def f134_0_s (c : Orc) (lf : Nat) (l0 : List T) (L : Int → Int → Option (List T)) (x17 x18 : Int) : Option (List T) :=
 bif iLt x18 (l0.length : Int) then
  bif inR x18 l0.length then
  (c 142 [T.st [T.s (asS (T.cell (l0.getD x18.toNat T.u) 0)), T.s (asS (T.cell (l0.getD x18.toNat T.u) 1))], T.i .i64 x17]).bind fun r19 =>
  bif iLt (asI (nth r19 0)) 0 then
   some [T.i .i64 0, T.i .i64 (-1)]
  else
   L (asI (nth r19 0)) (IntKind.wrap .i64 (x18 + 1))
  else none
 else
  some [T.i .i64 1, T.i .i64 x17]
def f134_0_c (l0 : List T) (x17 x18 : Int) : CSt := ⟨[.ro 0 true [.s, .s] l0, .i .i64 x17, .i .i64 x18], [.dead, .dead]⟩
theorem f134_0_round (c : Orc) (lf : Nat) (l0 : List T) (L : CSt → Option (List T)) (x17 x18 : Int) :
 roundK c env lf 6 fi134 2 5 [] [0, 1, 5] (x134_5_0) L (f134_0_c l0 x17 x18) = f134_0_s c lf l0 (fun x17 x18 => L (f134_0_c l0 x17 x18)) x17 x18 := by kernel_rfl
def f134_0 (c : Orc) (lf : Nat) (l0 : List T) : Nat → Int → Int → Option (List T)
 | 0 => fun _ _ => none
 | n + 1 => fun x17 x18 => f134_0_s c lf l0 (f134_0 c lf l0 n) x17 x18
theorem f134_0_eq (c : Orc) (lf : Nat) (l0 : List T) (n : Nat) (x17 x18 : Int) :
 lpK c env lf 6 fi134 2 5 [] [0, 1, 5] (x134_5_0) n (f134_0_c l0 x17 x18) = f134_0 c lf l0 n x17 x18 := by
 induction n generalizing x17 x18 with
 | zero => rfl
 | succ n ih =>
  refine (f134_0_round c lf l0 _ x17 x18).trans ?_
  have e : (fun x17 x18 => lpK c env lf 6 fi134 2 5 [] [0, 1, 5] (x134_5_0) n (f134_0_c l0 x17 x18)) = f134_0 c lf l0 n := by funext x17 x18; exact ih x17 x18
  show f134_0_s c lf l0 (fun x17 x18 => lpK c env lf 6 fi134 2 5 [] [0, 1, 5] (x134_5_0) n (f134_0_c l0 x17 x18)) x17 x18 = _
  rw [e]; rfl
def f134_t (c : Orc) (lf : Nat) (lp0 : List T → Int → Int → Option (List T)) (l0 : List T) (n1 : Int) : Option (List T) :=
 bif iLt (IntKind.wrap .i64 (n1 - (l0.length : Int))) 0 then
  some [T.i .i64 (-1)]
 else
  (lp0 l0 (IntKind.wrap .i64 (n1 - (l0.length : Int))) 0).bind fun r20 =>
  bif asI (nth r20 0) == 0 then
   some [T.i .i64 (asI (nth r20 1))]
  else
   some [T.i .i64 (asI (nth r20 1))]
def f134 (c : Orc) (lf : Nat) (l0 : List T) (n1 : Int) : Option (List T) := f134_t c lf (fun (l0 : List T) (x17 x18 : Int) => f134_0 c lf l0 lf x17 x18) l0 n1
theorem f134_raw (c : Orc) (lf : Nat) (l0 : List T) (n1 : Int) : funK c env lf 6 fi134 [.sl l0, .i .i64 n1] = f134_t c lf (fun (l0 : List T) (x17 x18 : Int) => lpK c env lf 6 fi134 2 5 [] [0, 1, 5] (x134_5_0) lf (f134_0_c l0 x17 x18)) l0 n1 := by kernel_rfl
theorem f134_eq (c : Orc) (lf : Nat) (l0 : List T) (n1 : Int) : funK c env lf 6 fi134 [.sl l0, .i .i64 n1] = f134 c lf l0 n1 := by
 refine (f134_raw c lf l0 n1).trans ?_
 have e0 : (fun (l0 : List T) (x17 x18 : Int) => lpK c env lf 6 fi134 2 5 [] [0, 1, 5] (x134_5_0) lf (f134_0_c l0 x17 x18)) = (fun (l0 : List T) (x17 x18 : Int) => f134_0 c lf l0 lf x17 x18) := by funext l0 x17 x18; exact f134_0_eq c lf l0 lf x17 x18
 rw [e0]; rfl
def f126_t (c : Orc) (lf : Nat) (n0_0 n0_1 n0_2 : Int) (l0_3 l0_4 l0_5 : List T) (n1 : Int) : Option (List T) :=
 (c 132 [T.sl l0_3, T.i .i64 n1]).bind fun r21 =>
 bif iLt (asI (nth r21 0)) 0 then
  some [T.i .i64 (-1)]
 else
  (c 133 [T.sl l0_4, T.i .i64 (asI (nth r21 0))]).bind fun r22 =>
  bif iLt (asI (nth r22 0)) 0 then
   some [T.i .i64 (-1)]
  else
   (c 134 [T.sl l0_5, T.i .i64 (asI (nth r22 0))]).bind fun r23 =>
   bif iLt (asI (nth r23 0)) 0 then
    some [T.i .i64 (-1)]
   else
    some [T.i .i64 (asI (nth r23 0))]
def f126 (c : Orc) (lf : Nat) (n0_0 n0_1 n0_2 : Int) (l0_3 l0_4 l0_5 : List T) (n1 : Int) : Option (List T) := f126_t c lf n0_0 n0_1 n0_2 l0_3 l0_4 l0_5 n1
theorem f126_eq (c : Orc) (lf : Nat) (n0_0 n0_1 n0_2 : Int) (l0_3 l0_4 l0_5 : List T) (n1 : Int) : funK c env lf 6 fi126 [.st [.i .i64 n0_0, .i .i64 n0_1, .i .i64 n0_2, .sl l0_3, .sl l0_4, .sl l0_5], .i .i64 n1] = f126 c lf n0_0 n0_1 n0_2 l0_3 l0_4 l0_5 n1 := by kernel_rfl
def f119_0_s (c : Orc) (lf : Nat) (l0 : List T) (L : Int → Int → Option (List T)) (x30 x31 : Int) : Option (List T) :=
 bif iLt x31 (l0.length : Int) then
  bif inR x31 l0.length then
  (c 126 [T.st [T.i .i64 (asI (T.cell (l0.getD x31.toNat T.u) 0)), T.i .i64 (asI (T.cell (l0.getD x31.toNat T.u) 1)), T.i .i64 (asI (T.cell (l0.getD x31.toNat T.u) 2)), T.sl (asL (T.cell (l0.getD x31.toNat T.u) 3)), T.sl (asL (T.cell (l0.getD x31.toNat T.u) 4)), T.sl (asL (T.cell (l0.getD x31.toNat T.u) 5))], T.i .i64 x30]).bind fun r32 =>
  bif iLt (asI (nth r32 0)) 0 then
   some [T.i .i64 0, T.i .i64 (-1)]
  else
   L (asI (nth r32 0)) (IntKind.wrap .i64 (x31 + 1))
  else none
 else
  some [T.i .i64 1, T.i .i64 x30]
def f119_0_c (l0 : List T) (x30 x31 : Int) : CSt := ⟨[.ro 0 true [.i .i64, .i .i64, .i .i64, .sl false [.i .u8], .sl true [.s, .i .i64], .sl true [.s, .s]] l0, .i .i64 x30, .i .i64 x31], [.dead, .dead]⟩
theorem f119_0_round (c : Orc) (lf : Nat) (l0 : List T) (L : CSt → Option (List T)) (x30 x31 : Int) :
 roundK c env lf 6 fi119 2 5 [] [0, 1, 5] (x119_5_0) L (f119_0_c l0 x30 x31) = f119_0_s c lf l0 (fun x30 x31 => L (f119_0_c l0 x30 x31)) x30 x31 := by kernel_rfl
def f119_0 (c : Orc) (lf : Nat) (l0 : List T) : Nat → Int → Int → Option (List T)
 | 0 => fun _ _ => none
 | n + 1 => fun x30 x31 => f119_0_s c lf l0 (f119_0 c lf l0 n) x30 x31
theorem f119_0_eq (c : Orc) (lf : Nat) (l0 : List T) (n : Nat) (x30 x31 : Int) :
 lpK c env lf 6 fi119 2 5 [] [0, 1, 5] (x119_5_0) n (f119_0_c l0 x30 x31) = f119_0 c lf l0 n x30 x31 := by
 induction n generalizing x30 x31 with
 | zero => rfl
 | succ n ih =>
  refine (f119_0_round c lf l0 _ x30 x31).trans ?_
  have e : (fun x30 x31 => lpK c env lf 6 fi119 2 5 [] [0, 1, 5] (x119_5_0) n (f119_0_c l0 x30 x31)) = f119_0 c lf l0 n := by funext x30 x31; exact ih x30 x31
  show f119_0_s c lf l0 (fun x30 x31 => lpK c env lf 6 fi119 2 5 [] [0, 1, 5] (x119_5_0) n (f119_0_c l0 x30 x31)) x30 x31 = _
  rw [e]; rfl
def f119_t (c : Orc) (lf : Nat) (lp0 : List T → Int → Int → Option (List T)) (l0 : List T) (n1 : Int) : Option (List T) :=
 bif iLt (IntKind.wrap .i64 (n1 - (l0.length : Int))) 0 then
  some [T.i .i64 (-1)]
 else
  (lp0 l0 (IntKind.wrap .i64 (n1 - (l0.length : Int))) 0).bind fun r33 =>
  bif asI (nth r33 0) == 0 then
   some [T.i .i64 (asI (nth r33 1))]
  else
   some [T.i .i64 (asI (nth r33 1))]
def f119 (c : Orc) (lf : Nat) (l0 : List T) (n1 : Int) : Option (List T) := f119_t c lf (fun (l0 : List T) (x30 x31 : Int) => f119_0 c lf l0 lf x30 x31) l0 n1
theorem f119_raw (c : Orc) (lf : Nat) (l0 : List T) (n1 : Int) : funK c env lf 6 fi119 [.sl l0, .i .i64 n1] = f119_t c lf (fun (l0 : List T) (x30 x31 : Int) => lpK c env lf 6 fi119 2 5 [] [0, 1, 5] (x119_5_0) lf (f119_0_c l0 x30 x31)) l0 n1 := by kernel_rfl
theorem f119_eq (c : Orc) (lf : Nat) (l0 : List T) (n1 : Int) : funK c env lf 6 fi119 [.sl l0, .i .i64 n1] = f119 c lf l0 n1 := by
 refine (f119_raw c lf l0 n1).trans ?_
 have e0 : (fun (l0 : List T) (x30 x31 : Int) => lpK c env lf 6 fi119 2 5 [] [0, 1, 5] (x119_5_0) lf (f119_0_c l0 x30 x31)) = (fun (l0 : List T) (x30 x31 : Int) => f119_0 c lf l0 lf x30 x31) := by funext l0 x30 x31; exact f119_0_eq c lf l0 lf x30 x31
 rw [e0]; rfl
def f102_t (c : Orc) (lf : Nat) (l0_0 : List T) (n0_1 n1 : Int) : Option (List T) :=
 (c 119 [T.sl l0_0, T.i .i64 n1]).bind fun r34 =>
 bif iLt (asI (nth r34 0)) 0 then
  some [T.i .i64 (-1)]
 else
  some [T.i .i64 (asI (nth r34 0))]
def f102 (c : Orc) (lf : Nat) (l0_0 : List T) (n0_1 n1 : Int) : Option (List T) := f102_t c lf l0_0 n0_1 n1
theorem f102_eq (c : Orc) (lf : Nat) (l0_0 : List T) (n0_1 n1 : Int) : funK c env lf 6 fi102 [.st [.sl l0_0, .i .i64 n0_1], .i .i64 n1] = f102 c lf l0_0 n0_1 n1 := by kernel_rfl
def f75_t (c : Orc) (lf : Nat) (n0_0 : Int) (s0_1 : ByteArray) (b0_2 : Bool) (n0_3 : Int) (l0_4 : List T) (n0_5 n1 : Int) : Option (List T) :=
 bif iLt (IntKind.wrap .i64 (n1 - (s0_1.size : Int))) 0 then
  some [T.i .i64 (-1)]
 else
  (c 102 [T.st [T.sl l0_4, T.i .i64 n0_5], T.i .i64 (IntKind.wrap .i64 (n1 - (s0_1.size : Int)))]).bind fun r35 =>
  bif iLt (asI (nth r35 0)) 0 then
   some [T.i .i64 (-1)]
  else
   some [T.i .i64 (asI (nth r35 0))]
def f75 (c : Orc) (lf : Nat) (n0_0 : Int) (s0_1 : ByteArray) (b0_2 : Bool) (n0_3 : Int) (l0_4 : List T) (n0_5 n1 : Int) : Option (List T) := f75_t c lf n0_0 s0_1 b0_2 n0_3 l0_4 n0_5 n1
theorem f75_eq (c : Orc) (lf : Nat) (n0_0 : Int) (s0_1 : ByteArray) (b0_2 : Bool) (n0_3 : Int) (l0_4 : List T) (n0_5 n1 : Int) : funK c env lf 6 fi75 [.st [.i .i64 n0_0, .s s0_1, .b b0_2, .i .i64 n0_3, .sl l0_4, .i .i64 n0_5], .i .i64 n1] = f75 c lf n0_0 s0_1 b0_2 n0_3 l0_4 n0_5 n1 := by kernel_rfl
def f49_0_s (c : Orc) (lf : Nat) (l0 : List T) (L : Int → Int → Option (List T)) (x42 x43 : Int) : Option (List T) :=
 bif iLt x43 (l0.length : Int) then
  bif inR x43 l0.length then
  (c 75 [T.st [T.i .i64 (asI (T.cell (l0.getD x43.toNat T.u) 0)), T.s (asS (T.cell (l0.getD x43.toNat T.u) 1)), T.b (asB (T.cell (l0.getD x43.toNat T.u) 2)), T.i .i64 (asI (T.cell (l0.getD x43.toNat T.u) 3)), T.sl (asL (T.cell (l0.getD x43.toNat T.u) 4)), T.i .i64 (asI (T.cell (l0.getD x43.toNat T.u) 5))], T.i .i64 x42]).bind fun r44 =>
  bif iLt (asI (nth r44 0)) 0 then
   some [T.i .i64 0, T.i .i64 (-1)]
  else
   L (asI (nth r44 0)) (IntKind.wrap .i64 (x43 + 1))
  else none
 else
  some [T.i .i64 1, T.i .i64 x42]
def f49_0_c (l0 : List T) (x42 x43 : Int) : CSt := ⟨[.ro 0 true [.i .i64, .s, .b, .i .i64, .sl true [.i .i64, .i .i64, .i .i64, .sl false [.i .u8], .sl true [.s, .i .i64], .sl true [.s, .s]], .i .i64] l0, .i .i64 x42, .i .i64 x43], [.dead, .dead]⟩
theorem f49_0_round (c : Orc) (lf : Nat) (l0 : List T) (L : CSt → Option (List T)) (x42 x43 : Int) :
 roundK c env lf 6 fi49 2 5 [] [0, 1, 5] (x49_5_0) L (f49_0_c l0 x42 x43) = f49_0_s c lf l0 (fun x42 x43 => L (f49_0_c l0 x42 x43)) x42 x43 := by kernel_rfl
def f49_0 (c : Orc) (lf : Nat) (l0 : List T) : Nat → Int → Int → Option (List T)
 | 0 => fun _ _ => none
 | n + 1 => fun x42 x43 => f49_0_s c lf l0 (f49_0 c lf l0 n) x42 x43
theorem f49_0_eq (c : Orc) (lf : Nat) (l0 : List T) (n : Nat) (x42 x43 : Int) :
 lpK c env lf 6 fi49 2 5 [] [0, 1, 5] (x49_5_0) n (f49_0_c l0 x42 x43) = f49_0 c lf l0 n x42 x43 := by
 induction n generalizing x42 x43 with
 | zero => rfl
 | succ n ih =>
  refine (f49_0_round c lf l0 _ x42 x43).trans ?_
  have e : (fun x42 x43 => lpK c env lf 6 fi49 2 5 [] [0, 1, 5] (x49_5_0) n (f49_0_c l0 x42 x43)) = f49_0 c lf l0 n := by funext x42 x43; exact ih x42 x43
  show f49_0_s c lf l0 (fun x42 x43 => lpK c env lf 6 fi49 2 5 [] [0, 1, 5] (x49_5_0) n (f49_0_c l0 x42 x43)) x42 x43 = _
  rw [e]; rfl
def f49_t (c : Orc) (lf : Nat) (lp0 : List T → Int → Int → Option (List T)) (l0 : List T) (n1 : Int) : Option (List T) :=
 bif iLt (IntKind.wrap .i64 (n1 - (l0.length : Int))) 0 then
  some [T.i .i64 (-1)]
 else
  (lp0 l0 (IntKind.wrap .i64 (n1 - (l0.length : Int))) 0).bind fun r45 =>
  bif asI (nth r45 0) == 0 then
   some [T.i .i64 (asI (nth r45 1))]
  else
   some [T.i .i64 (asI (nth r45 1))]
def f49 (c : Orc) (lf : Nat) (l0 : List T) (n1 : Int) : Option (List T) := f49_t c lf (fun (l0 : List T) (x42 x43 : Int) => f49_0 c lf l0 lf x42 x43) l0 n1
theorem f49_raw (c : Orc) (lf : Nat) (l0 : List T) (n1 : Int) : funK c env lf 6 fi49 [.sl l0, .i .i64 n1] = f49_t c lf (fun (l0 : List T) (x42 x43 : Int) => lpK c env lf 6 fi49 2 5 [] [0, 1, 5] (x49_5_0) lf (f49_0_c l0 x42 x43)) l0 n1 := by kernel_rfl
theorem f49_eq (c : Orc) (lf : Nat) (l0 : List T) (n1 : Int) : funK c env lf 6 fi49 [.sl l0, .i .i64 n1] = f49 c lf l0 n1 := by
 refine (f49_raw c lf l0 n1).trans ?_
 have e0 : (fun (l0 : List T) (x42 x43 : Int) => lpK c env lf 6 fi49 2 5 [] [0, 1, 5] (x49_5_0) lf (f49_0_c l0 x42 x43)) = (fun (l0 : List T) (x42 x43 : Int) => f49_0 c lf l0 lf x42 x43) := by funext l0 x42 x43; exact f49_0_eq c lf l0 lf x42 x43
 rw [e0]; rfl
def f22_t (c : Orc) (lf : Nat) (l0_0 : List T) (n0_1 n1 : Int) : Option (List T) :=
 (c 49 [T.sl l0_0, T.i .i64 n1]).bind fun r46 =>
 bif iLt (asI (nth r46 0)) 0 then
  some [T.i .i64 (-1)]
 else
  some [T.i .i64 (asI (nth r46 0))]
def f22 (c : Orc) (lf : Nat) (l0_0 : List T) (n0_1 n1 : Int) : Option (List T) := f22_t c lf l0_0 n0_1 n1
theorem f22_eq (c : Orc) (lf : Nat) (l0_0 : List T) (n0_1 n1 : Int) : funK c env lf 6 fi22 [.st [.sl l0_0, .i .i64 n0_1], .i .i64 n1] = f22 c lf l0_0 n0_1 n1 := by kernel_rfl
def f76_t (c : Orc) (lf : Nat) (n0_0 : Int) (s0_1 : ByteArray) (b0_2 : Bool) (n0_3 n0_4 n1 : Int) : Option (List T) :=
 bif iLt (IntKind.wrap .i64 (n1 - (s0_1.size : Int))) 0 then
  some [T.i .i64 (-1)]
 else
  some [T.i .i64 (IntKind.wrap .i64 (n1 - (s0_1.size : Int)))]
def f76 (c : Orc) (lf : Nat) (n0_0 : Int) (s0_1 : ByteArray) (b0_2 : Bool) (n0_3 n0_4 n1 : Int) : Option (List T) := f76_t c lf n0_0 s0_1 b0_2 n0_3 n0_4 n1
theorem f76_eq (c : Orc) (lf : Nat) (n0_0 : Int) (s0_1 : ByteArray) (b0_2 : Bool) (n0_3 n0_4 n1 : Int) : funK c env lf 6 fi76 [.st [.i .i64 n0_0, .s s0_1, .b b0_2, .i .i64 n0_3, .i .i64 n0_4], .i .i64 n1] = f76 c lf n0_0 s0_1 b0_2 n0_3 n0_4 n1 := by kernel_rfl
def f50_0_s (c : Orc) (lf : Nat) (l0 : List T) (L : Int → Int → Option (List T)) (x53 x54 : Int) : Option (List T) :=
 bif iLt x54 (l0.length : Int) then
  bif inR x54 l0.length then
  (c 76 [T.st [T.i .i64 (asI (T.cell (l0.getD x54.toNat T.u) 0)), T.s (asS (T.cell (l0.getD x54.toNat T.u) 1)), T.b (asB (T.cell (l0.getD x54.toNat T.u) 2)), T.i .i64 (asI (T.cell (l0.getD x54.toNat T.u) 3)), T.i .i64 (asI (T.cell (l0.getD x54.toNat T.u) 4))], T.i .i64 x53]).bind fun r55 =>
  bif iLt (asI (nth r55 0)) 0 then
   some [T.i .i64 0, T.i .i64 (-1)]
  else
   L (asI (nth r55 0)) (IntKind.wrap .i64 (x54 + 1))
  else none
 else
  some [T.i .i64 1, T.i .i64 x53]
def f50_0_c (l0 : List T) (x53 x54 : Int) : CSt := ⟨[.ro 0 true [.i .i64, .s, .b, .i .i64, .i .i64] l0, .i .i64 x53, .i .i64 x54], [.dead, .dead]⟩
theorem f50_0_round (c : Orc) (lf : Nat) (l0 : List T) (L : CSt → Option (List T)) (x53 x54 : Int) :
 roundK c env lf 6 fi50 2 5 [] [0, 1, 5] (x50_5_0) L (f50_0_c l0 x53 x54) = f50_0_s c lf l0 (fun x53 x54 => L (f50_0_c l0 x53 x54)) x53 x54 := by kernel_rfl
def f50_0 (c : Orc) (lf : Nat) (l0 : List T) : Nat → Int → Int → Option (List T)
 | 0 => fun _ _ => none
 | n + 1 => fun x53 x54 => f50_0_s c lf l0 (f50_0 c lf l0 n) x53 x54
theorem f50_0_eq (c : Orc) (lf : Nat) (l0 : List T) (n : Nat) (x53 x54 : Int) :
 lpK c env lf 6 fi50 2 5 [] [0, 1, 5] (x50_5_0) n (f50_0_c l0 x53 x54) = f50_0 c lf l0 n x53 x54 := by
 induction n generalizing x53 x54 with
 | zero => rfl
 | succ n ih =>
  refine (f50_0_round c lf l0 _ x53 x54).trans ?_
  have e : (fun x53 x54 => lpK c env lf 6 fi50 2 5 [] [0, 1, 5] (x50_5_0) n (f50_0_c l0 x53 x54)) = f50_0 c lf l0 n := by funext x53 x54; exact ih x53 x54
  show f50_0_s c lf l0 (fun x53 x54 => lpK c env lf 6 fi50 2 5 [] [0, 1, 5] (x50_5_0) n (f50_0_c l0 x53 x54)) x53 x54 = _
  rw [e]; rfl
def f50_t (c : Orc) (lf : Nat) (lp0 : List T → Int → Int → Option (List T)) (l0 : List T) (n1 : Int) : Option (List T) :=
 bif iLt (IntKind.wrap .i64 (n1 - (l0.length : Int))) 0 then
  some [T.i .i64 (-1)]
 else
  (lp0 l0 (IntKind.wrap .i64 (n1 - (l0.length : Int))) 0).bind fun r56 =>
  bif asI (nth r56 0) == 0 then
   some [T.i .i64 (asI (nth r56 1))]
  else
   some [T.i .i64 (asI (nth r56 1))]
def f50 (c : Orc) (lf : Nat) (l0 : List T) (n1 : Int) : Option (List T) := f50_t c lf (fun (l0 : List T) (x53 x54 : Int) => f50_0 c lf l0 lf x53 x54) l0 n1
theorem f50_raw (c : Orc) (lf : Nat) (l0 : List T) (n1 : Int) : funK c env lf 6 fi50 [.sl l0, .i .i64 n1] = f50_t c lf (fun (l0 : List T) (x53 x54 : Int) => lpK c env lf 6 fi50 2 5 [] [0, 1, 5] (x50_5_0) lf (f50_0_c l0 x53 x54)) l0 n1 := by kernel_rfl
theorem f50_eq (c : Orc) (lf : Nat) (l0 : List T) (n1 : Int) : funK c env lf 6 fi50 [.sl l0, .i .i64 n1] = f50 c lf l0 n1 := by
 refine (f50_raw c lf l0 n1).trans ?_
 have e0 : (fun (l0 : List T) (x53 x54 : Int) => lpK c env lf 6 fi50 2 5 [] [0, 1, 5] (x50_5_0) lf (f50_0_c l0 x53 x54)) = (fun (l0 : List T) (x53 x54 : Int) => f50_0 c lf l0 lf x53 x54) := by funext l0 x53 x54; exact f50_0_eq c lf l0 lf x53 x54
 rw [e0]; rfl
def f23_t (c : Orc) (lf : Nat) (n0_0 : Int) (l0_1 : List T) (n1 : Int) : Option (List T) :=
 (c 50 [T.sl l0_1, T.i .i64 n1]).bind fun r57 =>
 bif iLt (asI (nth r57 0)) 0 then
  some [T.i .i64 (-1)]
 else
  some [T.i .i64 (asI (nth r57 0))]
def f23 (c : Orc) (lf : Nat) (n0_0 : Int) (l0_1 : List T) (n1 : Int) : Option (List T) := f23_t c lf n0_0 l0_1 n1
theorem f23_eq (c : Orc) (lf : Nat) (n0_0 : Int) (l0_1 : List T) (n1 : Int) : funK c env lf 6 fi23 [.st [.i .i64 n0_0, .sl l0_1], .i .i64 n1] = f23 c lf n0_0 l0_1 n1 := by kernel_rfl
def f77_t (c : Orc) (lf : Nat) (l0 : List T) (n1 : Int) : Option (List T) :=
 bif iLt (IntKind.wrap .i64 (n1 - (l0.length : Int))) 0 then
  some [T.i .i64 (-1)]
 else
  some [T.i .i64 (IntKind.wrap .i64 (n1 - (l0.length : Int)))]
def f77 (c : Orc) (lf : Nat) (l0 : List T) (n1 : Int) : Option (List T) := f77_t c lf l0 n1
theorem f77_eq (c : Orc) (lf : Nat) (l0 : List T) (n1 : Int) : funK c env lf 6 fi77 [.sl l0, .i .i64 n1] = f77 c lf l0 n1 := by kernel_rfl
def f51_t (c : Orc) (lf : Nat) (n0_0 : Int) (l0_1 : List T) (n1 : Int) : Option (List T) :=
 (c 77 [T.sl l0_1, T.i .i64 n1]).bind fun r58 =>
 bif iLt (asI (nth r58 0)) 0 then
  some [T.i .i64 (-1)]
 else
  some [T.i .i64 (asI (nth r58 0))]
def f51 (c : Orc) (lf : Nat) (n0_0 : Int) (l0_1 : List T) (n1 : Int) : Option (List T) := f51_t c lf n0_0 l0_1 n1
theorem f51_eq (c : Orc) (lf : Nat) (n0_0 : Int) (l0_1 : List T) (n1 : Int) : funK c env lf 6 fi51 [.st [.i .i64 n0_0, .sl l0_1], .i .i64 n1] = f51 c lf n0_0 l0_1 n1 := by kernel_rfl
def f24_0_s (c : Orc) (lf : Nat) (l0 : List T) (L : Int → Int → Option (List T)) (x65 x66 : Int) : Option (List T) :=
 bif iLt x66 (l0.length : Int) then
  bif inR x66 l0.length then
  (c 51 [T.st [T.i .i64 (asI (T.cell (l0.getD x66.toNat T.u) 0)), T.sl (asL (T.cell (l0.getD x66.toNat T.u) 1))], T.i .i64 x65]).bind fun r67 =>
  bif iLt (asI (nth r67 0)) 0 then
   some [T.i .i64 0, T.i .i64 (-1)]
  else
   L (asI (nth r67 0)) (IntKind.wrap .i64 (x66 + 1))
  else none
 else
  some [T.i .i64 1, T.i .i64 x65]
def f24_0_c (l0 : List T) (x65 x66 : Int) : CSt := ⟨[.ro 0 true [.i .i64, .sl true [.i .i64, .i .i64]] l0, .i .i64 x65, .i .i64 x66], [.dead, .dead]⟩
theorem f24_0_round (c : Orc) (lf : Nat) (l0 : List T) (L : CSt → Option (List T)) (x65 x66 : Int) :
 roundK c env lf 6 fi24 2 5 [] [0, 1, 5] (x24_5_0) L (f24_0_c l0 x65 x66) = f24_0_s c lf l0 (fun x65 x66 => L (f24_0_c l0 x65 x66)) x65 x66 := by kernel_rfl
def f24_0 (c : Orc) (lf : Nat) (l0 : List T) : Nat → Int → Int → Option (List T)
 | 0 => fun _ _ => none
 | n + 1 => fun x65 x66 => f24_0_s c lf l0 (f24_0 c lf l0 n) x65 x66
theorem f24_0_eq (c : Orc) (lf : Nat) (l0 : List T) (n : Nat) (x65 x66 : Int) :
 lpK c env lf 6 fi24 2 5 [] [0, 1, 5] (x24_5_0) n (f24_0_c l0 x65 x66) = f24_0 c lf l0 n x65 x66 := by
 induction n generalizing x65 x66 with
 | zero => rfl
 | succ n ih =>
  refine (f24_0_round c lf l0 _ x65 x66).trans ?_
  have e : (fun x65 x66 => lpK c env lf 6 fi24 2 5 [] [0, 1, 5] (x24_5_0) n (f24_0_c l0 x65 x66)) = f24_0 c lf l0 n := by funext x65 x66; exact ih x65 x66
  show f24_0_s c lf l0 (fun x65 x66 => lpK c env lf 6 fi24 2 5 [] [0, 1, 5] (x24_5_0) n (f24_0_c l0 x65 x66)) x65 x66 = _
  rw [e]; rfl
def f24_t (c : Orc) (lf : Nat) (lp0 : List T → Int → Int → Option (List T)) (l0 : List T) (n1 : Int) : Option (List T) :=
 bif iLt (IntKind.wrap .i64 (n1 - (l0.length : Int))) 0 then
  some [T.i .i64 (-1)]
 else
  (lp0 l0 (IntKind.wrap .i64 (n1 - (l0.length : Int))) 0).bind fun r68 =>
  bif asI (nth r68 0) == 0 then
   some [T.i .i64 (asI (nth r68 1))]
  else
   some [T.i .i64 (asI (nth r68 1))]
def f24 (c : Orc) (lf : Nat) (l0 : List T) (n1 : Int) : Option (List T) := f24_t c lf (fun (l0 : List T) (x65 x66 : Int) => f24_0 c lf l0 lf x65 x66) l0 n1
theorem f24_raw (c : Orc) (lf : Nat) (l0 : List T) (n1 : Int) : funK c env lf 6 fi24 [.sl l0, .i .i64 n1] = f24_t c lf (fun (l0 : List T) (x65 x66 : Int) => lpK c env lf 6 fi24 2 5 [] [0, 1, 5] (x24_5_0) lf (f24_0_c l0 x65 x66)) l0 n1 := by kernel_rfl
theorem f24_eq (c : Orc) (lf : Nat) (l0 : List T) (n1 : Int) : funK c env lf 6 fi24 [.sl l0, .i .i64 n1] = f24 c lf l0 n1 := by
 refine (f24_raw c lf l0 n1).trans ?_
 have e0 : (fun (l0 : List T) (x65 x66 : Int) => lpK c env lf 6 fi24 2 5 [] [0, 1, 5] (x24_5_0) lf (f24_0_c l0 x65 x66)) = (fun (l0 : List T) (x65 x66 : Int) => f24_0 c lf l0 lf x65 x66) := by funext l0 x65 x66; exact f24_0_eq c lf l0 lf x65 x66
 rw [e0]; rfl
def f6_t (c : Orc) (lf : Nat) (l0_0 : List T) (n0_1 n0_2 : Int) (l0_3 l0_4 : List T) (n0_5 n0_6 n1 : Int) : Option (List T) :=
 (c 22 [T.st [T.sl l0_0, T.i .i64 n0_1], T.i .i64 n1]).bind fun r69 =>
 bif iLt (asI (nth r69 0)) 0 then
  some [T.i .i64 (-1)]
 else
  (c 23 [T.st [T.i .i64 n0_2, T.sl l0_3], T.i .i64 (asI (nth r69 0))]).bind fun r70 =>
  bif iLt (asI (nth r70 0)) 0 then
   some [T.i .i64 (-1)]
  else
   (c 24 [T.sl l0_4, T.i .i64 (asI (nth r70 0))]).bind fun r71 =>
   bif iLt (asI (nth r71 0)) 0 then
    some [T.i .i64 (-1)]
   else
    some [T.i .i64 (asI (nth r71 0))]
def f6 (c : Orc) (lf : Nat) (l0_0 : List T) (n0_1 n0_2 : Int) (l0_3 l0_4 : List T) (n0_5 n0_6 n1 : Int) : Option (List T) := f6_t c lf l0_0 n0_1 n0_2 l0_3 l0_4 n0_5 n0_6 n1
theorem f6_eq (c : Orc) (lf : Nat) (l0_0 : List T) (n0_1 n0_2 : Int) (l0_3 l0_4 : List T) (n0_5 n0_6 n1 : Int) : funK c env lf 6 fi6 [.st [.sl l0_0, .i .i64 n0_1, .i .i64 n0_2, .sl l0_3, .sl l0_4, .i .i64 n0_5, .i .i64 n0_6], .i .i64 n1] = f6 c lf l0_0 n0_1 n0_2 l0_3 l0_4 n0_5 n0_6 n1 := by kernel_rfl
def f135_0_s (c : Orc) (lf : Nat) (l0 : List T) (L : Int → List T → Option (List T)) (x75 : Int) (x76 : List T) : Option (List T) :=
 bif iLt x75 (l0.length : Int) then
  bif inR x75 l0.length then
  bif inR x75 x76.length then
  L (IntKind.wrap .i64 (x75 + 1)) (x76.set x75.toNat (T.i .u8 (asI (l0.getD x75.toNat T.u))))
  else none
  else none
 else
  some [T.i .i64 0, T.sl x76]
def f135_0_c (l0 : List T) (x75 : Int) (x76 : List T) : CSt := ⟨[.ro 0 false [.i .u8] l0, .rf 1 [] 0 none, .i .i64 x75], [.dead, .row false [.i .u8] x76 0 false]⟩
theorem f135_0_round (c : Orc) (lf : Nat) (l0 : List T) (L : CSt → Option (List T)) (x75 : Int) (x76 : List T) :
 roundK c env lf 6 fi135 1 3 [] [0, 3, 4] (x135_3_0) L (f135_0_c l0 x75 x76) = f135_0_s c lf l0 (fun x75 x76 => L (f135_0_c l0 x75 x76)) x75 x76 := by kernel_rfl
def f135_0 (c : Orc) (lf : Nat) (l0 : List T) : Nat → Int → List T → Option (List T)
 | 0 => fun _ _ => none
 | n + 1 => fun x75 x76 => f135_0_s c lf l0 (f135_0 c lf l0 n) x75 x76
theorem f135_0_eq (c : Orc) (lf : Nat) (l0 : List T) (n : Nat) (x75 : Int) (x76 : List T) :
 lpK c env lf 6 fi135 1 3 [] [0, 3, 4] (x135_3_0) n (f135_0_c l0 x75 x76) = f135_0 c lf l0 n x75 x76 := by
 induction n generalizing x75 x76 with
 | zero => rfl
 | succ n ih =>
  refine (f135_0_round c lf l0 _ x75 x76).trans ?_
  have e : (fun x75 x76 => lpK c env lf 6 fi135 1 3 [] [0, 3, 4] (x135_3_0) n (f135_0_c l0 x75 x76)) = f135_0 c lf l0 n := by funext x75 x76; exact ih x75 x76
  show f135_0_s c lf l0 (fun x75 x76 => lpK c env lf 6 fi135 1 3 [] [0, 3, 4] (x135_3_0) n (f135_0_c l0 x75 x76)) x75 x76 = _
  rw [e]; rfl
def f135_t (c : Orc) (lf : Nat) (lp0 : List T → Int → List T → Option (List T)) (l0 : List T) : Option (List T) :=
 bif iLe 0 (l0.length : Int) && iLe (l0.length : Int) (LIM : Int) && ((l0.length : Int) == (l0.length : Int)) then
 (lp0 l0 0 (List.replicate (l0.length : Int).toNat (T.i .u8 0))).bind fun r77 =>
 some [T.sl (asL (nth r77 1))]
 else none
def f135 (c : Orc) (lf : Nat) (l0 : List T) : Option (List T) := f135_t c lf (fun (l0 : List T) (x75 : Int) (x76 : List T) => f135_0 c lf l0 lf x75 x76) l0
theorem f135_raw (c : Orc) (lf : Nat) (l0 : List T) : funK c env lf 6 fi135 [.sl l0] = f135_t c lf (fun (l0 : List T) (x75 : Int) (x76 : List T) => lpK c env lf 6 fi135 1 3 [] [0, 3, 4] (x135_3_0) lf (f135_0_c l0 x75 x76)) l0 := by kernel_rfl
theorem f135_eq (c : Orc) (lf : Nat) (l0 : List T) : funK c env lf 6 fi135 [.sl l0] = f135 c lf l0 := by
 refine (f135_raw c lf l0).trans ?_
 have e0 : (fun (l0 : List T) (x75 : Int) (x76 : List T) => lpK c env lf 6 fi135 1 3 [] [0, 3, 4] (x135_3_0) lf (f135_0_c l0 x75 x76)) = (fun (l0 : List T) (x75 : Int) (x76 : List T) => f135_0 c lf l0 lf x75 x76) := by funext l0 x75 x76; exact f135_0_eq c lf l0 lf x75 x76
 rw [e0]; rfl
def f143_t (c : Orc) (lf : Nat) (s0_0 : ByteArray) (n0_1 : Int) : Option (List T) :=
 some [T.st [T.s s0_0, T.i .i64 n0_1]]
def f143 (c : Orc) (lf : Nat) (s0_0 : ByteArray) (n0_1 : Int) : Option (List T) := f143_t c lf s0_0 n0_1
theorem f143_eq (c : Orc) (lf : Nat) (s0_0 : ByteArray) (n0_1 : Int) : funK c env lf 6 fi143 [.st [.s s0_0, .i .i64 n0_1]] = f143 c lf s0_0 n0_1 := by kernel_rfl
def f136_0_s (c : Orc) (lf : Nat) (l0 : List T) (L : Int → List T → Option (List T)) (x84 : Int) (x85 : List T) : Option (List T) :=
 bif iLt x84 (l0.length : Int) then
  bif inR x84 l0.length then
  (c 143 [T.st [T.s (asS (T.cell (l0.getD x84.toNat T.u) 0)), T.i .i64 (asI (T.cell (l0.getD x84.toNat T.u) 1))]]).bind fun r86 =>
  bif inR x84 x85.length then
  L (IntKind.wrap .i64 (x84 + 1)) (x85.set x84.toNat (T.st [T.s (asS (T.cell (nth r86 0) 0)), T.i .i64 (asI (T.cell (nth r86 0) 1))]))
  else none
  else none
 else
  some [T.i .i64 0, T.sl x85]
def f136_0_c (l0 : List T) (x84 : Int) (x85 : List T) : CSt := ⟨[.ro 0 true [.s, .i .i64] l0, .rf 1 [] 0 none, .i .i64 x84], [.dead, .row true [.s, .i .i64] x85 0 false]⟩
theorem f136_0_round (c : Orc) (lf : Nat) (l0 : List T) (L : CSt → Option (List T)) (x84 : Int) (x85 : List T) :
 roundK c env lf 6 fi136 1 3 [] [0, 3, 4] (x136_3_0) L (f136_0_c l0 x84 x85) = f136_0_s c lf l0 (fun x84 x85 => L (f136_0_c l0 x84 x85)) x84 x85 := by kernel_rfl
def f136_0 (c : Orc) (lf : Nat) (l0 : List T) : Nat → Int → List T → Option (List T)
 | 0 => fun _ _ => none
 | n + 1 => fun x84 x85 => f136_0_s c lf l0 (f136_0 c lf l0 n) x84 x85
theorem f136_0_eq (c : Orc) (lf : Nat) (l0 : List T) (n : Nat) (x84 : Int) (x85 : List T) :
 lpK c env lf 6 fi136 1 3 [] [0, 3, 4] (x136_3_0) n (f136_0_c l0 x84 x85) = f136_0 c lf l0 n x84 x85 := by
 induction n generalizing x84 x85 with
 | zero => rfl
 | succ n ih =>
  refine (f136_0_round c lf l0 _ x84 x85).trans ?_
  have e : (fun x84 x85 => lpK c env lf 6 fi136 1 3 [] [0, 3, 4] (x136_3_0) n (f136_0_c l0 x84 x85)) = f136_0 c lf l0 n := by funext x84 x85; exact ih x84 x85
  show f136_0_s c lf l0 (fun x84 x85 => lpK c env lf 6 fi136 1 3 [] [0, 3, 4] (x136_3_0) n (f136_0_c l0 x84 x85)) x84 x85 = _
  rw [e]; rfl
def f136_t (c : Orc) (lf : Nat) (lp0 : List T → Int → List T → Option (List T)) (l0 : List T) : Option (List T) :=
 bif iLe 0 (l0.length : Int) && iLe (l0.length : Int) (LIM : Int) && ((l0.length : Int) == (l0.length : Int)) then
 (lp0 l0 0 (List.replicate (l0.length : Int).toNat (T.st [T.s (⟨#[]⟩ : ByteArray), T.i .i64 0]))).bind fun r87 =>
 some [T.sl (asL (nth r87 1))]
 else none
def f136 (c : Orc) (lf : Nat) (l0 : List T) : Option (List T) := f136_t c lf (fun (l0 : List T) (x84 : Int) (x85 : List T) => f136_0 c lf l0 lf x84 x85) l0
theorem f136_raw (c : Orc) (lf : Nat) (l0 : List T) : funK c env lf 6 fi136 [.sl l0] = f136_t c lf (fun (l0 : List T) (x84 : Int) (x85 : List T) => lpK c env lf 6 fi136 1 3 [] [0, 3, 4] (x136_3_0) lf (f136_0_c l0 x84 x85)) l0 := by kernel_rfl
theorem f136_eq (c : Orc) (lf : Nat) (l0 : List T) : funK c env lf 6 fi136 [.sl l0] = f136 c lf l0 := by
 refine (f136_raw c lf l0).trans ?_
 have e0 : (fun (l0 : List T) (x84 : Int) (x85 : List T) => lpK c env lf 6 fi136 1 3 [] [0, 3, 4] (x136_3_0) lf (f136_0_c l0 x84 x85)) = (fun (l0 : List T) (x84 : Int) (x85 : List T) => f136_0 c lf l0 lf x84 x85) := by funext l0 x84 x85; exact f136_0_eq c lf l0 lf x84 x85
 rw [e0]; rfl
def f144_t (c : Orc) (lf : Nat) (s0_0 s0_1 : ByteArray) : Option (List T) :=
 some [T.st [T.s s0_0, T.s s0_1]]
def f144 (c : Orc) (lf : Nat) (s0_0 s0_1 : ByteArray) : Option (List T) := f144_t c lf s0_0 s0_1
theorem f144_eq (c : Orc) (lf : Nat) (s0_0 s0_1 : ByteArray) : funK c env lf 6 fi144 [.st [.s s0_0, .s s0_1]] = f144 c lf s0_0 s0_1 := by kernel_rfl
def f137_0_s (c : Orc) (lf : Nat) (l0 : List T) (L : Int → List T → Option (List T)) (x94 : Int) (x95 : List T) : Option (List T) :=
 bif iLt x94 (l0.length : Int) then
  bif inR x94 l0.length then
  (c 144 [T.st [T.s (asS (T.cell (l0.getD x94.toNat T.u) 0)), T.s (asS (T.cell (l0.getD x94.toNat T.u) 1))]]).bind fun r96 =>
  bif inR x94 x95.length then
  L (IntKind.wrap .i64 (x94 + 1)) (x95.set x94.toNat (T.st [T.s (asS (T.cell (nth r96 0) 0)), T.s (asS (T.cell (nth r96 0) 1))]))
  else none
  else none
 else
  some [T.i .i64 0, T.sl x95]
def f137_0_c (l0 : List T) (x94 : Int) (x95 : List T) : CSt := ⟨[.ro 0 true [.s, .s] l0, .rf 1 [] 0 none, .i .i64 x94], [.dead, .row true [.s, .s] x95 0 false]⟩
theorem f137_0_round (c : Orc) (lf : Nat) (l0 : List T) (L : CSt → Option (List T)) (x94 : Int) (x95 : List T) :
 roundK c env lf 6 fi137 1 3 [] [0, 3, 4] (x137_3_0) L (f137_0_c l0 x94 x95) = f137_0_s c lf l0 (fun x94 x95 => L (f137_0_c l0 x94 x95)) x94 x95 := by kernel_rfl
def f137_0 (c : Orc) (lf : Nat) (l0 : List T) : Nat → Int → List T → Option (List T)
 | 0 => fun _ _ => none
 | n + 1 => fun x94 x95 => f137_0_s c lf l0 (f137_0 c lf l0 n) x94 x95
theorem f137_0_eq (c : Orc) (lf : Nat) (l0 : List T) (n : Nat) (x94 : Int) (x95 : List T) :
 lpK c env lf 6 fi137 1 3 [] [0, 3, 4] (x137_3_0) n (f137_0_c l0 x94 x95) = f137_0 c lf l0 n x94 x95 := by
 induction n generalizing x94 x95 with
 | zero => rfl
 | succ n ih =>
  refine (f137_0_round c lf l0 _ x94 x95).trans ?_
  have e : (fun x94 x95 => lpK c env lf 6 fi137 1 3 [] [0, 3, 4] (x137_3_0) n (f137_0_c l0 x94 x95)) = f137_0 c lf l0 n := by funext x94 x95; exact ih x94 x95
  show f137_0_s c lf l0 (fun x94 x95 => lpK c env lf 6 fi137 1 3 [] [0, 3, 4] (x137_3_0) n (f137_0_c l0 x94 x95)) x94 x95 = _
  rw [e]; rfl
def f137_t (c : Orc) (lf : Nat) (lp0 : List T → Int → List T → Option (List T)) (l0 : List T) : Option (List T) :=
 bif iLe 0 (l0.length : Int) && iLe (l0.length : Int) (LIM : Int) && ((l0.length : Int) == (l0.length : Int)) then
 (lp0 l0 0 (List.replicate (l0.length : Int).toNat (T.st [T.s (⟨#[]⟩ : ByteArray), T.s (⟨#[]⟩ : ByteArray)]))).bind fun r97 =>
 some [T.sl (asL (nth r97 1))]
 else none
def f137 (c : Orc) (lf : Nat) (l0 : List T) : Option (List T) := f137_t c lf (fun (l0 : List T) (x94 : Int) (x95 : List T) => f137_0 c lf l0 lf x94 x95) l0
theorem f137_raw (c : Orc) (lf : Nat) (l0 : List T) : funK c env lf 6 fi137 [.sl l0] = f137_t c lf (fun (l0 : List T) (x94 : Int) (x95 : List T) => lpK c env lf 6 fi137 1 3 [] [0, 3, 4] (x137_3_0) lf (f137_0_c l0 x94 x95)) l0 := by kernel_rfl
theorem f137_eq (c : Orc) (lf : Nat) (l0 : List T) : funK c env lf 6 fi137 [.sl l0] = f137 c lf l0 := by
 refine (f137_raw c lf l0).trans ?_
 have e0 : (fun (l0 : List T) (x94 : Int) (x95 : List T) => lpK c env lf 6 fi137 1 3 [] [0, 3, 4] (x137_3_0) lf (f137_0_c l0 x94 x95)) = (fun (l0 : List T) (x94 : Int) (x95 : List T) => f137_0 c lf l0 lf x94 x95) := by funext l0 x94 x95; exact f137_0_eq c lf l0 lf x94 x95
 rw [e0]; rfl
def f127_t (c : Orc) (lf : Nat) (n0_0 n0_1 n0_2 : Int) (l0_3 l0_4 l0_5 : List T) : Option (List T) :=
 (c 135 [T.sl l0_3]).bind fun r98 =>
 (c 136 [T.sl l0_4]).bind fun r99 =>
 (c 137 [T.sl l0_5]).bind fun r100 =>
 some [T.st [T.i .i64 n0_0, T.i .i64 n0_1, T.i .i64 n0_2, T.sl (asL (nth r98 0)), T.sl (asL (nth r99 0)), T.sl (asL (nth r100 0))]]
def f127 (c : Orc) (lf : Nat) (n0_0 n0_1 n0_2 : Int) (l0_3 l0_4 l0_5 : List T) : Option (List T) := f127_t c lf n0_0 n0_1 n0_2 l0_3 l0_4 l0_5
theorem f127_eq (c : Orc) (lf : Nat) (n0_0 n0_1 n0_2 : Int) (l0_3 l0_4 l0_5 : List T) : funK c env lf 6 fi127 [.st [.i .i64 n0_0, .i .i64 n0_1, .i .i64 n0_2, .sl l0_3, .sl l0_4, .sl l0_5]] = f127 c lf n0_0 n0_1 n0_2 l0_3 l0_4 l0_5 := by kernel_rfl
def f120_0_s (c : Orc) (lf : Nat) (l0 : List T) (L : Int → List T → Option (List T)) (x107 : Int) (x108 : List T) : Option (List T) :=
 bif iLt x107 (l0.length : Int) then
  bif inR x107 l0.length then
  (c 127 [T.st [T.i .i64 (asI (T.cell (l0.getD x107.toNat T.u) 0)), T.i .i64 (asI (T.cell (l0.getD x107.toNat T.u) 1)), T.i .i64 (asI (T.cell (l0.getD x107.toNat T.u) 2)), T.sl (asL (T.cell (l0.getD x107.toNat T.u) 3)), T.sl (asL (T.cell (l0.getD x107.toNat T.u) 4)), T.sl (asL (T.cell (l0.getD x107.toNat T.u) 5))]]).bind fun r109 =>
  bif inR x107 x108.length then
  L (IntKind.wrap .i64 (x107 + 1)) (x108.set x107.toNat (T.st [T.i .i64 (asI (T.cell (nth r109 0) 0)), T.i .i64 (asI (T.cell (nth r109 0) 1)), T.i .i64 (asI (T.cell (nth r109 0) 2)), T.sl (asL (T.cell (nth r109 0) 3)), T.sl (asL (T.cell (nth r109 0) 4)), T.sl (asL (T.cell (nth r109 0) 5))]))
  else none
  else none
 else
  some [T.i .i64 0, T.sl x108]
def f120_0_c (l0 : List T) (x107 : Int) (x108 : List T) : CSt := ⟨[.ro 0 true [.i .i64, .i .i64, .i .i64, .sl false [.i .u8], .sl true [.s, .i .i64], .sl true [.s, .s]] l0, .rf 1 [] 0 none, .i .i64 x107], [.dead, .row true [.i .i64, .i .i64, .i .i64, .sl false [.i .u8], .sl true [.s, .i .i64], .sl true [.s, .s]] x108 0 false]⟩
theorem f120_0_round (c : Orc) (lf : Nat) (l0 : List T) (L : CSt → Option (List T)) (x107 : Int) (x108 : List T) :
 roundK c env lf 6 fi120 1 3 [] [0, 3, 4] (x120_3_0) L (f120_0_c l0 x107 x108) = f120_0_s c lf l0 (fun x107 x108 => L (f120_0_c l0 x107 x108)) x107 x108 := by kernel_rfl
def f120_0 (c : Orc) (lf : Nat) (l0 : List T) : Nat → Int → List T → Option (List T)
 | 0 => fun _ _ => none
 | n + 1 => fun x107 x108 => f120_0_s c lf l0 (f120_0 c lf l0 n) x107 x108
theorem f120_0_eq (c : Orc) (lf : Nat) (l0 : List T) (n : Nat) (x107 : Int) (x108 : List T) :
 lpK c env lf 6 fi120 1 3 [] [0, 3, 4] (x120_3_0) n (f120_0_c l0 x107 x108) = f120_0 c lf l0 n x107 x108 := by
 induction n generalizing x107 x108 with
 | zero => rfl
 | succ n ih =>
  refine (f120_0_round c lf l0 _ x107 x108).trans ?_
  have e : (fun x107 x108 => lpK c env lf 6 fi120 1 3 [] [0, 3, 4] (x120_3_0) n (f120_0_c l0 x107 x108)) = f120_0 c lf l0 n := by funext x107 x108; exact ih x107 x108
  show f120_0_s c lf l0 (fun x107 x108 => lpK c env lf 6 fi120 1 3 [] [0, 3, 4] (x120_3_0) n (f120_0_c l0 x107 x108)) x107 x108 = _
  rw [e]; rfl
def f120_t (c : Orc) (lf : Nat) (lp0 : List T → Int → List T → Option (List T)) (l0 : List T) : Option (List T) :=
 bif iLe 0 (l0.length : Int) && iLe (l0.length : Int) (LIM : Int) && ((l0.length : Int) == (l0.length : Int)) then
 (lp0 l0 0 (List.replicate (l0.length : Int).toNat (T.st [T.i .i64 0, T.i .i64 0, T.i .i64 0, T.sl [], T.sl [], T.sl []]))).bind fun r110 =>
 some [T.sl (asL (nth r110 1))]
 else none
def f120 (c : Orc) (lf : Nat) (l0 : List T) : Option (List T) := f120_t c lf (fun (l0 : List T) (x107 : Int) (x108 : List T) => f120_0 c lf l0 lf x107 x108) l0
theorem f120_raw (c : Orc) (lf : Nat) (l0 : List T) : funK c env lf 6 fi120 [.sl l0] = f120_t c lf (fun (l0 : List T) (x107 : Int) (x108 : List T) => lpK c env lf 6 fi120 1 3 [] [0, 3, 4] (x120_3_0) lf (f120_0_c l0 x107 x108)) l0 := by kernel_rfl
theorem f120_eq (c : Orc) (lf : Nat) (l0 : List T) : funK c env lf 6 fi120 [.sl l0] = f120 c lf l0 := by
 refine (f120_raw c lf l0).trans ?_
 have e0 : (fun (l0 : List T) (x107 : Int) (x108 : List T) => lpK c env lf 6 fi120 1 3 [] [0, 3, 4] (x120_3_0) lf (f120_0_c l0 x107 x108)) = (fun (l0 : List T) (x107 : Int) (x108 : List T) => f120_0 c lf l0 lf x107 x108) := by funext l0 x107 x108; exact f120_0_eq c lf l0 lf x107 x108
 rw [e0]; rfl
def f103_t (c : Orc) (lf : Nat) (l0_0 : List T) (n0_1 : Int) : Option (List T) :=
 (c 120 [T.sl l0_0]).bind fun r111 =>
 some [T.st [T.sl (asL (nth r111 0)), T.i .i64 n0_1]]
def f103 (c : Orc) (lf : Nat) (l0_0 : List T) (n0_1 : Int) : Option (List T) := f103_t c lf l0_0 n0_1
theorem f103_eq (c : Orc) (lf : Nat) (l0_0 : List T) (n0_1 : Int) : funK c env lf 6 fi103 [.st [.sl l0_0, .i .i64 n0_1]] = f103 c lf l0_0 n0_1 := by kernel_rfl
def f78_t (c : Orc) (lf : Nat) (n0_0 : Int) (s0_1 : ByteArray) (b0_2 : Bool) (n0_3 : Int) (l0_4 : List T) (n0_5 : Int) : Option (List T) :=
 (c 103 [T.st [T.sl l0_4, T.i .i64 n0_5]]).bind fun r112 =>
 some [T.st [T.i .i64 n0_0, T.s s0_1, T.b b0_2, T.i .i64 n0_3, T.sl (asL (T.cell (nth r112 0) 0)), T.i .i64 (asI (T.cell (nth r112 0) 1))]]
def f78 (c : Orc) (lf : Nat) (n0_0 : Int) (s0_1 : ByteArray) (b0_2 : Bool) (n0_3 : Int) (l0_4 : List T) (n0_5 : Int) : Option (List T) := f78_t c lf n0_0 s0_1 b0_2 n0_3 l0_4 n0_5
theorem f78_eq (c : Orc) (lf : Nat) (n0_0 : Int) (s0_1 : ByteArray) (b0_2 : Bool) (n0_3 : Int) (l0_4 : List T) (n0_5 : Int) : funK c env lf 6 fi78 [.st [.i .i64 n0_0, .s s0_1, .b b0_2, .i .i64 n0_3, .sl l0_4, .i .i64 n0_5]] = f78 c lf n0_0 s0_1 b0_2 n0_3 l0_4 n0_5 := by kernel_rfl
def f53_0_s (c : Orc) (lf : Nat) (l0 : List T) (L : Int → List T → Option (List T)) (x119 : Int) (x120 : List T) : Option (List T) :=
 bif iLt x119 (l0.length : Int) then
  bif inR x119 l0.length then
  (c 78 [T.st [T.i .i64 (asI (T.cell (l0.getD x119.toNat T.u) 0)), T.s (asS (T.cell (l0.getD x119.toNat T.u) 1)), T.b (asB (T.cell (l0.getD x119.toNat T.u) 2)), T.i .i64 (asI (T.cell (l0.getD x119.toNat T.u) 3)), T.sl (asL (T.cell (l0.getD x119.toNat T.u) 4)), T.i .i64 (asI (T.cell (l0.getD x119.toNat T.u) 5))]]).bind fun r121 =>
  bif inR x119 x120.length then
  L (IntKind.wrap .i64 (x119 + 1)) (x120.set x119.toNat (T.st [T.i .i64 (asI (T.cell (nth r121 0) 0)), T.s (asS (T.cell (nth r121 0) 1)), T.b (asB (T.cell (nth r121 0) 2)), T.i .i64 (asI (T.cell (nth r121 0) 3)), T.sl (asL (T.cell (nth r121 0) 4)), T.i .i64 (asI (T.cell (nth r121 0) 5))]))
  else none
  else none
 else
  some [T.i .i64 0, T.sl x120]
def f53_0_c (l0 : List T) (x119 : Int) (x120 : List T) : CSt := ⟨[.ro 0 true [.i .i64, .s, .b, .i .i64, .sl true [.i .i64, .i .i64, .i .i64, .sl false [.i .u8], .sl true [.s, .i .i64], .sl true [.s, .s]], .i .i64] l0, .rf 1 [] 0 none, .i .i64 x119], [.dead, .row true [.i .i64, .s, .b, .i .i64, .sl true [.i .i64, .i .i64, .i .i64, .sl false [.i .u8], .sl true [.s, .i .i64], .sl true [.s, .s]], .i .i64] x120 0 false]⟩
theorem f53_0_round (c : Orc) (lf : Nat) (l0 : List T) (L : CSt → Option (List T)) (x119 : Int) (x120 : List T) :
 roundK c env lf 6 fi53 1 3 [] [0, 3, 4] (x53_3_0) L (f53_0_c l0 x119 x120) = f53_0_s c lf l0 (fun x119 x120 => L (f53_0_c l0 x119 x120)) x119 x120 := by kernel_rfl
def f53_0 (c : Orc) (lf : Nat) (l0 : List T) : Nat → Int → List T → Option (List T)
 | 0 => fun _ _ => none
 | n + 1 => fun x119 x120 => f53_0_s c lf l0 (f53_0 c lf l0 n) x119 x120
theorem f53_0_eq (c : Orc) (lf : Nat) (l0 : List T) (n : Nat) (x119 : Int) (x120 : List T) :
 lpK c env lf 6 fi53 1 3 [] [0, 3, 4] (x53_3_0) n (f53_0_c l0 x119 x120) = f53_0 c lf l0 n x119 x120 := by
 induction n generalizing x119 x120 with
 | zero => rfl
 | succ n ih =>
  refine (f53_0_round c lf l0 _ x119 x120).trans ?_
  have e : (fun x119 x120 => lpK c env lf 6 fi53 1 3 [] [0, 3, 4] (x53_3_0) n (f53_0_c l0 x119 x120)) = f53_0 c lf l0 n := by funext x119 x120; exact ih x119 x120
  show f53_0_s c lf l0 (fun x119 x120 => lpK c env lf 6 fi53 1 3 [] [0, 3, 4] (x53_3_0) n (f53_0_c l0 x119 x120)) x119 x120 = _
  rw [e]; rfl
def f53_t (c : Orc) (lf : Nat) (lp0 : List T → Int → List T → Option (List T)) (l0 : List T) : Option (List T) :=
 bif iLe 0 (l0.length : Int) && iLe (l0.length : Int) (LIM : Int) && ((l0.length : Int) == (l0.length : Int)) then
 (lp0 l0 0 (List.replicate (l0.length : Int).toNat (T.st [T.i .i64 0, T.s (⟨#[]⟩ : ByteArray), T.b false, T.i .i64 0, T.sl [], T.i .i64 0]))).bind fun r122 =>
 some [T.sl (asL (nth r122 1))]
 else none
def f53 (c : Orc) (lf : Nat) (l0 : List T) : Option (List T) := f53_t c lf (fun (l0 : List T) (x119 : Int) (x120 : List T) => f53_0 c lf l0 lf x119 x120) l0
theorem f53_raw (c : Orc) (lf : Nat) (l0 : List T) : funK c env lf 6 fi53 [.sl l0] = f53_t c lf (fun (l0 : List T) (x119 : Int) (x120 : List T) => lpK c env lf 6 fi53 1 3 [] [0, 3, 4] (x53_3_0) lf (f53_0_c l0 x119 x120)) l0 := by kernel_rfl
theorem f53_eq (c : Orc) (lf : Nat) (l0 : List T) : funK c env lf 6 fi53 [.sl l0] = f53 c lf l0 := by
 refine (f53_raw c lf l0).trans ?_
 have e0 : (fun (l0 : List T) (x119 : Int) (x120 : List T) => lpK c env lf 6 fi53 1 3 [] [0, 3, 4] (x53_3_0) lf (f53_0_c l0 x119 x120)) = (fun (l0 : List T) (x119 : Int) (x120 : List T) => f53_0 c lf l0 lf x119 x120) := by funext l0 x119 x120; exact f53_0_eq c lf l0 lf x119 x120
 rw [e0]; rfl
def f26_t (c : Orc) (lf : Nat) (l0_0 : List T) (n0_1 : Int) : Option (List T) :=
 (c 53 [T.sl l0_0]).bind fun r123 =>
 some [T.st [T.sl (asL (nth r123 0)), T.i .i64 n0_1]]
def f26 (c : Orc) (lf : Nat) (l0_0 : List T) (n0_1 : Int) : Option (List T) := f26_t c lf l0_0 n0_1
theorem f26_eq (c : Orc) (lf : Nat) (l0_0 : List T) (n0_1 : Int) : funK c env lf 6 fi26 [.st [.sl l0_0, .i .i64 n0_1]] = f26 c lf l0_0 n0_1 := by kernel_rfl
def f79_t (c : Orc) (lf : Nat) (n0_0 : Int) (s0_1 : ByteArray) (b0_2 : Bool) (n0_3 n0_4 : Int) : Option (List T) :=
 some [T.st [T.i .i64 n0_0, T.s s0_1, T.b b0_2, T.i .i64 n0_3, T.i .i64 n0_4]]
def f79 (c : Orc) (lf : Nat) (n0_0 : Int) (s0_1 : ByteArray) (b0_2 : Bool) (n0_3 n0_4 : Int) : Option (List T) := f79_t c lf n0_0 s0_1 b0_2 n0_3 n0_4
theorem f79_eq (c : Orc) (lf : Nat) (n0_0 : Int) (s0_1 : ByteArray) (b0_2 : Bool) (n0_3 n0_4 : Int) : funK c env lf 6 fi79 [.st [.i .i64 n0_0, .s s0_1, .b b0_2, .i .i64 n0_3, .i .i64 n0_4]] = f79 c lf n0_0 s0_1 b0_2 n0_3 n0_4 := by kernel_rfl
def f54_0_s (c : Orc) (lf : Nat) (l0 : List T) (L : Int → List T → Option (List T)) (x130 : Int) (x131 : List T) : Option (List T) :=
 bif iLt x130 (l0.length : Int) then
  bif inR x130 l0.length then
  (c 79 [T.st [T.i .i64 (asI (T.cell (l0.getD x130.toNat T.u) 0)), T.s (asS (T.cell (l0.getD x130.toNat T.u) 1)), T.b (asB (T.cell (l0.getD x130.toNat T.u) 2)), T.i .i64 (asI (T.cell (l0.getD x130.toNat T.u) 3)), T.i .i64 (asI (T.cell (l0.getD x130.toNat T.u) 4))]]).bind fun r132 =>
  bif inR x130 x131.length then
  L (IntKind.wrap .i64 (x130 + 1)) (x131.set x130.toNat (T.st [T.i .i64 (asI (T.cell (nth r132 0) 0)), T.s (asS (T.cell (nth r132 0) 1)), T.b (asB (T.cell (nth r132 0) 2)), T.i .i64 (asI (T.cell (nth r132 0) 3)), T.i .i64 (asI (T.cell (nth r132 0) 4))]))
  else none
  else none
 else
  some [T.i .i64 0, T.sl x131]
def f54_0_c (l0 : List T) (x130 : Int) (x131 : List T) : CSt := ⟨[.ro 0 true [.i .i64, .s, .b, .i .i64, .i .i64] l0, .rf 1 [] 0 none, .i .i64 x130], [.dead, .row true [.i .i64, .s, .b, .i .i64, .i .i64] x131 0 false]⟩
theorem f54_0_round (c : Orc) (lf : Nat) (l0 : List T) (L : CSt → Option (List T)) (x130 : Int) (x131 : List T) :
 roundK c env lf 6 fi54 1 3 [] [0, 3, 4] (x54_3_0) L (f54_0_c l0 x130 x131) = f54_0_s c lf l0 (fun x130 x131 => L (f54_0_c l0 x130 x131)) x130 x131 := by kernel_rfl
def f54_0 (c : Orc) (lf : Nat) (l0 : List T) : Nat → Int → List T → Option (List T)
 | 0 => fun _ _ => none
 | n + 1 => fun x130 x131 => f54_0_s c lf l0 (f54_0 c lf l0 n) x130 x131
theorem f54_0_eq (c : Orc) (lf : Nat) (l0 : List T) (n : Nat) (x130 : Int) (x131 : List T) :
 lpK c env lf 6 fi54 1 3 [] [0, 3, 4] (x54_3_0) n (f54_0_c l0 x130 x131) = f54_0 c lf l0 n x130 x131 := by
 induction n generalizing x130 x131 with
 | zero => rfl
 | succ n ih =>
  refine (f54_0_round c lf l0 _ x130 x131).trans ?_
  have e : (fun x130 x131 => lpK c env lf 6 fi54 1 3 [] [0, 3, 4] (x54_3_0) n (f54_0_c l0 x130 x131)) = f54_0 c lf l0 n := by funext x130 x131; exact ih x130 x131
  show f54_0_s c lf l0 (fun x130 x131 => lpK c env lf 6 fi54 1 3 [] [0, 3, 4] (x54_3_0) n (f54_0_c l0 x130 x131)) x130 x131 = _
  rw [e]; rfl
def f54_t (c : Orc) (lf : Nat) (lp0 : List T → Int → List T → Option (List T)) (l0 : List T) : Option (List T) :=
 bif iLe 0 (l0.length : Int) && iLe (l0.length : Int) (LIM : Int) && ((l0.length : Int) == (l0.length : Int)) then
 (lp0 l0 0 (List.replicate (l0.length : Int).toNat (T.st [T.i .i64 0, T.s (⟨#[]⟩ : ByteArray), T.b false, T.i .i64 0, T.i .i64 0]))).bind fun r133 =>
 some [T.sl (asL (nth r133 1))]
 else none
def f54 (c : Orc) (lf : Nat) (l0 : List T) : Option (List T) := f54_t c lf (fun (l0 : List T) (x130 : Int) (x131 : List T) => f54_0 c lf l0 lf x130 x131) l0
theorem f54_raw (c : Orc) (lf : Nat) (l0 : List T) : funK c env lf 6 fi54 [.sl l0] = f54_t c lf (fun (l0 : List T) (x130 : Int) (x131 : List T) => lpK c env lf 6 fi54 1 3 [] [0, 3, 4] (x54_3_0) lf (f54_0_c l0 x130 x131)) l0 := by kernel_rfl
theorem f54_eq (c : Orc) (lf : Nat) (l0 : List T) : funK c env lf 6 fi54 [.sl l0] = f54 c lf l0 := by
 refine (f54_raw c lf l0).trans ?_
 have e0 : (fun (l0 : List T) (x130 : Int) (x131 : List T) => lpK c env lf 6 fi54 1 3 [] [0, 3, 4] (x54_3_0) lf (f54_0_c l0 x130 x131)) = (fun (l0 : List T) (x130 : Int) (x131 : List T) => f54_0 c lf l0 lf x130 x131) := by funext l0 x130 x131; exact f54_0_eq c lf l0 lf x130 x131
 rw [e0]; rfl
def f27_t (c : Orc) (lf : Nat) (n0_0 : Int) (l0_1 : List T) : Option (List T) :=
 (c 54 [T.sl l0_1]).bind fun r134 =>
 some [T.st [T.i .i64 n0_0, T.sl (asL (nth r134 0))]]
def f27 (c : Orc) (lf : Nat) (n0_0 : Int) (l0_1 : List T) : Option (List T) := f27_t c lf n0_0 l0_1
theorem f27_eq (c : Orc) (lf : Nat) (n0_0 : Int) (l0_1 : List T) : funK c env lf 6 fi27 [.st [.i .i64 n0_0, .sl l0_1]] = f27 c lf n0_0 l0_1 := by kernel_rfl
def f104_t (c : Orc) (lf : Nat) (n0_0 n0_1 : Int) : Option (List T) :=
 some [T.st [T.i .i64 n0_0, T.i .i64 n0_1]]
def f104 (c : Orc) (lf : Nat) (n0_0 n0_1 : Int) : Option (List T) := f104_t c lf n0_0 n0_1
theorem f104_eq (c : Orc) (lf : Nat) (n0_0 n0_1 : Int) : funK c env lf 6 fi104 [.st [.i .i64 n0_0, .i .i64 n0_1]] = f104 c lf n0_0 n0_1 := by kernel_rfl
def f80_0_s (c : Orc) (lf : Nat) (l0 : List T) (L : Int → List T → Option (List T)) (x141 : Int) (x142 : List T) : Option (List T) :=
 bif iLt x141 (l0.length : Int) then
  bif inR x141 l0.length then
  (c 104 [T.st [T.i .i64 (asI (T.cell (l0.getD x141.toNat T.u) 0)), T.i .i64 (asI (T.cell (l0.getD x141.toNat T.u) 1))]]).bind fun r143 =>
  bif inR x141 x142.length then
  L (IntKind.wrap .i64 (x141 + 1)) (x142.set x141.toNat (T.st [T.i .i64 (asI (T.cell (nth r143 0) 0)), T.i .i64 (asI (T.cell (nth r143 0) 1))]))
  else none
  else none
 else
  some [T.i .i64 0, T.sl x142]
def f80_0_c (l0 : List T) (x141 : Int) (x142 : List T) : CSt := ⟨[.ro 0 true [.i .i64, .i .i64] l0, .rf 1 [] 0 none, .i .i64 x141], [.dead, .row true [.i .i64, .i .i64] x142 0 false]⟩
theorem f80_0_round (c : Orc) (lf : Nat) (l0 : List T) (L : CSt → Option (List T)) (x141 : Int) (x142 : List T) :
 roundK c env lf 6 fi80 1 3 [] [0, 3, 4] (x80_3_0) L (f80_0_c l0 x141 x142) = f80_0_s c lf l0 (fun x141 x142 => L (f80_0_c l0 x141 x142)) x141 x142 := by kernel_rfl
def f80_0 (c : Orc) (lf : Nat) (l0 : List T) : Nat → Int → List T → Option (List T)
 | 0 => fun _ _ => none
 | n + 1 => fun x141 x142 => f80_0_s c lf l0 (f80_0 c lf l0 n) x141 x142
theorem f80_0_eq (c : Orc) (lf : Nat) (l0 : List T) (n : Nat) (x141 : Int) (x142 : List T) :
 lpK c env lf 6 fi80 1 3 [] [0, 3, 4] (x80_3_0) n (f80_0_c l0 x141 x142) = f80_0 c lf l0 n x141 x142 := by
 induction n generalizing x141 x142 with
 | zero => rfl
 | succ n ih =>
  refine (f80_0_round c lf l0 _ x141 x142).trans ?_
  have e : (fun x141 x142 => lpK c env lf 6 fi80 1 3 [] [0, 3, 4] (x80_3_0) n (f80_0_c l0 x141 x142)) = f80_0 c lf l0 n := by funext x141 x142; exact ih x141 x142
  show f80_0_s c lf l0 (fun x141 x142 => lpK c env lf 6 fi80 1 3 [] [0, 3, 4] (x80_3_0) n (f80_0_c l0 x141 x142)) x141 x142 = _
  rw [e]; rfl
def f80_t (c : Orc) (lf : Nat) (lp0 : List T → Int → List T → Option (List T)) (l0 : List T) : Option (List T) :=
 bif iLe 0 (l0.length : Int) && iLe (l0.length : Int) (LIM : Int) && ((l0.length : Int) == (l0.length : Int)) then
 (lp0 l0 0 (List.replicate (l0.length : Int).toNat (T.st [T.i .i64 0, T.i .i64 0]))).bind fun r144 =>
 some [T.sl (asL (nth r144 1))]
 else none
def f80 (c : Orc) (lf : Nat) (l0 : List T) : Option (List T) := f80_t c lf (fun (l0 : List T) (x141 : Int) (x142 : List T) => f80_0 c lf l0 lf x141 x142) l0
theorem f80_raw (c : Orc) (lf : Nat) (l0 : List T) : funK c env lf 6 fi80 [.sl l0] = f80_t c lf (fun (l0 : List T) (x141 : Int) (x142 : List T) => lpK c env lf 6 fi80 1 3 [] [0, 3, 4] (x80_3_0) lf (f80_0_c l0 x141 x142)) l0 := by kernel_rfl
theorem f80_eq (c : Orc) (lf : Nat) (l0 : List T) : funK c env lf 6 fi80 [.sl l0] = f80 c lf l0 := by
 refine (f80_raw c lf l0).trans ?_
 have e0 : (fun (l0 : List T) (x141 : Int) (x142 : List T) => lpK c env lf 6 fi80 1 3 [] [0, 3, 4] (x80_3_0) lf (f80_0_c l0 x141 x142)) = (fun (l0 : List T) (x141 : Int) (x142 : List T) => f80_0 c lf l0 lf x141 x142) := by funext l0 x141 x142; exact f80_0_eq c lf l0 lf x141 x142
 rw [e0]; rfl
def f55_t (c : Orc) (lf : Nat) (n0_0 : Int) (l0_1 : List T) : Option (List T) :=
 (c 80 [T.sl l0_1]).bind fun r145 =>
 some [T.st [T.i .i64 n0_0, T.sl (asL (nth r145 0))]]
def f55 (c : Orc) (lf : Nat) (n0_0 : Int) (l0_1 : List T) : Option (List T) := f55_t c lf n0_0 l0_1
theorem f55_eq (c : Orc) (lf : Nat) (n0_0 : Int) (l0_1 : List T) : funK c env lf 6 fi55 [.st [.i .i64 n0_0, .sl l0_1]] = f55 c lf n0_0 l0_1 := by kernel_rfl
def f28_0_s (c : Orc) (lf : Nat) (l0 : List T) (L : Int → List T → Option (List T)) (x152 : Int) (x153 : List T) : Option (List T) :=
 bif iLt x152 (l0.length : Int) then
  bif inR x152 l0.length then
  (c 55 [T.st [T.i .i64 (asI (T.cell (l0.getD x152.toNat T.u) 0)), T.sl (asL (T.cell (l0.getD x152.toNat T.u) 1))]]).bind fun r154 =>
  bif inR x152 x153.length then
  L (IntKind.wrap .i64 (x152 + 1)) (x153.set x152.toNat (T.st [T.i .i64 (asI (T.cell (nth r154 0) 0)), T.sl (asL (T.cell (nth r154 0) 1))]))
  else none
  else none
 else
  some [T.i .i64 0, T.sl x153]
def f28_0_c (l0 : List T) (x152 : Int) (x153 : List T) : CSt := ⟨[.ro 0 true [.i .i64, .sl true [.i .i64, .i .i64]] l0, .rf 1 [] 0 none, .i .i64 x152], [.dead, .row true [.i .i64, .sl true [.i .i64, .i .i64]] x153 0 false]⟩
theorem f28_0_round (c : Orc) (lf : Nat) (l0 : List T) (L : CSt → Option (List T)) (x152 : Int) (x153 : List T) :
 roundK c env lf 6 fi28 1 3 [] [0, 3, 4] (x28_3_0) L (f28_0_c l0 x152 x153) = f28_0_s c lf l0 (fun x152 x153 => L (f28_0_c l0 x152 x153)) x152 x153 := by kernel_rfl
def f28_0 (c : Orc) (lf : Nat) (l0 : List T) : Nat → Int → List T → Option (List T)
 | 0 => fun _ _ => none
 | n + 1 => fun x152 x153 => f28_0_s c lf l0 (f28_0 c lf l0 n) x152 x153
theorem f28_0_eq (c : Orc) (lf : Nat) (l0 : List T) (n : Nat) (x152 : Int) (x153 : List T) :
 lpK c env lf 6 fi28 1 3 [] [0, 3, 4] (x28_3_0) n (f28_0_c l0 x152 x153) = f28_0 c lf l0 n x152 x153 := by
 induction n generalizing x152 x153 with
 | zero => rfl
 | succ n ih =>
  refine (f28_0_round c lf l0 _ x152 x153).trans ?_
  have e : (fun x152 x153 => lpK c env lf 6 fi28 1 3 [] [0, 3, 4] (x28_3_0) n (f28_0_c l0 x152 x153)) = f28_0 c lf l0 n := by funext x152 x153; exact ih x152 x153
  show f28_0_s c lf l0 (fun x152 x153 => lpK c env lf 6 fi28 1 3 [] [0, 3, 4] (x28_3_0) n (f28_0_c l0 x152 x153)) x152 x153 = _
  rw [e]; rfl
def f28_t (c : Orc) (lf : Nat) (lp0 : List T → Int → List T → Option (List T)) (l0 : List T) : Option (List T) :=
 bif iLe 0 (l0.length : Int) && iLe (l0.length : Int) (LIM : Int) && ((l0.length : Int) == (l0.length : Int)) then
 (lp0 l0 0 (List.replicate (l0.length : Int).toNat (T.st [T.i .i64 0, T.sl []]))).bind fun r155 =>
 some [T.sl (asL (nth r155 1))]
 else none
def f28 (c : Orc) (lf : Nat) (l0 : List T) : Option (List T) := f28_t c lf (fun (l0 : List T) (x152 : Int) (x153 : List T) => f28_0 c lf l0 lf x152 x153) l0
theorem f28_raw (c : Orc) (lf : Nat) (l0 : List T) : funK c env lf 6 fi28 [.sl l0] = f28_t c lf (fun (l0 : List T) (x152 : Int) (x153 : List T) => lpK c env lf 6 fi28 1 3 [] [0, 3, 4] (x28_3_0) lf (f28_0_c l0 x152 x153)) l0 := by kernel_rfl
theorem f28_eq (c : Orc) (lf : Nat) (l0 : List T) : funK c env lf 6 fi28 [.sl l0] = f28 c lf l0 := by
 refine (f28_raw c lf l0).trans ?_
 have e0 : (fun (l0 : List T) (x152 : Int) (x153 : List T) => lpK c env lf 6 fi28 1 3 [] [0, 3, 4] (x28_3_0) lf (f28_0_c l0 x152 x153)) = (fun (l0 : List T) (x152 : Int) (x153 : List T) => f28_0 c lf l0 lf x152 x153) := by funext l0 x152 x153; exact f28_0_eq c lf l0 lf x152 x153
 rw [e0]; rfl
def f8_t (c : Orc) (lf : Nat) (l0_0 : List T) (n0_1 n0_2 : Int) (l0_3 l0_4 : List T) (n0_5 n0_6 : Int) : Option (List T) :=
 (c 26 [T.st [T.sl l0_0, T.i .i64 n0_1]]).bind fun r156 =>
 (c 27 [T.st [T.i .i64 n0_2, T.sl l0_3]]).bind fun r157 =>
 (c 28 [T.sl l0_4]).bind fun r158 =>
 some [T.st [T.sl (asL (T.cell (nth r156 0) 0)), T.i .i64 (asI (T.cell (nth r156 0) 1)), T.i .i64 (asI (T.cell (nth r157 0) 0)), T.sl (asL (T.cell (nth r157 0) 1)), T.sl (asL (nth r158 0)), T.i .i64 n0_5, T.i .i64 n0_6]]
def f8 (c : Orc) (lf : Nat) (l0_0 : List T) (n0_1 n0_2 : Int) (l0_3 l0_4 : List T) (n0_5 n0_6 : Int) : Option (List T) := f8_t c lf l0_0 n0_1 n0_2 l0_3 l0_4 n0_5 n0_6
theorem f8_eq (c : Orc) (lf : Nat) (l0_0 : List T) (n0_1 n0_2 : Int) (l0_3 l0_4 : List T) (n0_5 n0_6 : Int) : funK c env lf 6 fi8 [.st [.sl l0_0, .i .i64 n0_1, .i .i64 n0_2, .sl l0_3, .sl l0_4, .i .i64 n0_5, .i .i64 n0_6]] = f8 c lf l0_0 n0_1 n0_2 l0_3 l0_4 n0_5 n0_6 := by kernel_rfl
def f42_0_s (c : Orc) (lf : Nat) (l0 : List T) (n1 : Int) (L : Int → Option (List T)) (x161 : Int) : Option (List T) :=
 bif iLt x161 (l0.length : Int) then
  bif inR x161 l0.length then
  bif (asI (l0.getD x161.toNat T.u)) == n1 then
   some [T.i .i64 0, T.b true]
  else
   L (IntKind.wrap .i64 (x161 + 1))
  else none
 else
  some [T.i .i64 1]
def f42_0_c (l0 : List T) (n1 x161 : Int) : CSt := ⟨[.ro 0 false [.i .i64] l0, .i .i64 n1, .i .i64 x161], [.dead, .dead]⟩
theorem f42_0_round (c : Orc) (lf : Nat) (l0 : List T) (n1 : Int) (L : CSt → Option (List T)) (x161 : Int) :
 roundK c env lf 6 fi42 2 2 [] [0, 1, 5] (x42_2_0) L (f42_0_c l0 n1 x161) = f42_0_s c lf l0 n1 (fun x161 => L (f42_0_c l0 n1 x161)) x161 := by kernel_rfl
def f42_0 (c : Orc) (lf : Nat) (l0 : List T) (n1 : Int) : Nat → Int → Option (List T)
 | 0 => fun _ => none
 | n + 1 => fun x161 => f42_0_s c lf l0 n1 (f42_0 c lf l0 n1 n) x161
theorem f42_0_u (c : Orc) (lf : Nat) (l0 : List T) (n1 : Int) (n : Nat) (x161 : Int) : f42_0 c lf l0 n1 (n + 1) x161 = f42_0_s c lf l0 n1 (f42_0 c lf l0 n1 n) x161 := rfl
theorem f42_0_eq (c : Orc) (lf : Nat) (l0 : List T) (n1 : Int) (n : Nat) (x161 : Int) :
 lpK c env lf 6 fi42 2 2 [] [0, 1, 5] (x42_2_0) n (f42_0_c l0 n1 x161) = f42_0 c lf l0 n1 n x161 := by
 induction n generalizing x161 with
 | zero => rfl
 | succ n ih =>
  refine (f42_0_round c lf l0 n1 _ x161).trans ?_
  have e : (fun x161 => lpK c env lf 6 fi42 2 2 [] [0, 1, 5] (x42_2_0) n (f42_0_c l0 n1 x161)) = f42_0 c lf l0 n1 n := by funext x161; exact ih x161
  show f42_0_s c lf l0 n1 (fun x161 => lpK c env lf 6 fi42 2 2 [] [0, 1, 5] (x42_2_0) n (f42_0_c l0 n1 x161)) x161 = _
  rw [e]; rfl
def f42_t (c : Orc) (lf : Nat) (lp0 : List T → Int → Int → Option (List T)) (l0 : List T) (n1 : Int) : Option (List T) :=
 (lp0 l0 n1 0).bind fun r162 =>
 bif asI (nth r162 0) == 0 then
  some [T.b (asB (nth r162 1))]
 else
  some [T.b false]
def f42 (c : Orc) (lf : Nat) (l0 : List T) (n1 : Int) : Option (List T) := f42_t c lf (fun (l0 : List T) (n1 x161 : Int) => f42_0 c lf l0 n1 lf x161) l0 n1
theorem f42_raw (c : Orc) (lf : Nat) (l0 : List T) (n1 : Int) : funK c env lf 6 fi42 [.sl l0, .i .i64 n1] = f42_t c lf (fun (l0 : List T) (n1 x161 : Int) => lpK c env lf 6 fi42 2 2 [] [0, 1, 5] (x42_2_0) lf (f42_0_c l0 n1 x161)) l0 n1 := by kernel_rfl
theorem f42_eq (c : Orc) (lf : Nat) (l0 : List T) (n1 : Int) : funK c env lf 6 fi42 [.sl l0, .i .i64 n1] = f42 c lf l0 n1 := by
 refine (f42_raw c lf l0 n1).trans ?_
 have e0 : (fun (l0 : List T) (n1 x161 : Int) => lpK c env lf 6 fi42 2 2 [] [0, 1, 5] (x42_2_0) lf (f42_0_c l0 n1 x161)) = (fun (l0 : List T) (n1 x161 : Int) => f42_0 c lf l0 n1 lf x161) := by funext l0 n1 x161; exact f42_0_eq c lf l0 n1 lf x161
 rw [e0]; rfl
def f52_0_s (c : Orc) (lf : Nat) (n1 : Int) (L : Int → List T → Option (List T)) (x172 : Int) (x173 : List T) : Option (List T) :=
 bif iLt 0 x172 then
  bif inR (IntKind.wrap .i64 (x172 - 1)) x173.length then
  bif iLt n1 (asI (x173.getD ((IntKind.wrap .i64 (x172 - 1)).toNat) T.u)) then
   bif inR (IntKind.wrap .i64 (x172 - 1)) x173.length then
   bif inR x172 x173.length then
   L (IntKind.wrap .i64 (x172 - 1)) (x173.set x172.toNat (T.i .i64 (asI (x173.getD ((IntKind.wrap .i64 (x172 - 1)).toNat) T.u))))
   else none
   else none
  else
   some [T.i .i64 0, T.i .i64 n1, T.i .i64 x172, T.sl x173]
  else none
 else
  some [T.i .i64 0, T.i .i64 n1, T.i .i64 x172, T.sl x173]
def f52_0_c (n1 x172 : Int) (x173 : List T) : CSt := ⟨[.i .i64 n1, .rf 2 [] 0 none, .i .i64 x172], [.dead, .dead, .row false [.i .i64] x173 0 false]⟩
theorem f52_0_round (c : Orc) (lf : Nat) (n1 : Int) (L : CSt → Option (List T)) (x172 : Int) (x173 : List T) :
 roundK c env lf 6 fi52 2 5 [] [1, 5, 6] (x52_5_0) L (f52_0_c n1 x172 x173) = f52_0_s c lf n1 (fun x172 x173 => L (f52_0_c n1 x172 x173)) x172 x173 := by kernel_rfl
def f52_0 (c : Orc) (lf : Nat) (n1 : Int) : Nat → Int → List T → Option (List T)
 | 0 => fun _ _ => none
 | n + 1 => fun x172 x173 => f52_0_s c lf n1 (f52_0 c lf n1 n) x172 x173
theorem f52_0_u (c : Orc) (lf : Nat) (n1 : Int) (n : Nat) (x172 : Int) (x173 : List T) : f52_0 c lf n1 (n + 1) x172 x173 = f52_0_s c lf n1 (f52_0 c lf n1 n) x172 x173 := rfl
theorem f52_0_eq (c : Orc) (lf : Nat) (n1 : Int) (n : Nat) (x172 : Int) (x173 : List T) :
 lpK c env lf 6 fi52 2 5 [] [1, 5, 6] (x52_5_0) n (f52_0_c n1 x172 x173) = f52_0 c lf n1 n x172 x173 := by
 induction n generalizing x172 x173 with
 | zero => rfl
 | succ n ih =>
  refine (f52_0_round c lf n1 _ x172 x173).trans ?_
  have e : (fun x172 x173 => lpK c env lf 6 fi52 2 5 [] [1, 5, 6] (x52_5_0) n (f52_0_c n1 x172 x173)) = f52_0 c lf n1 n := by funext x172 x173; exact ih x172 x173
  show f52_0_s c lf n1 (fun x172 x173 => lpK c env lf 6 fi52 2 5 [] [1, 5, 6] (x52_5_0) n (f52_0_c n1 x172 x173)) x172 x173 = _
  rw [e]; rfl
def f52_t (c : Orc) (lf : Nat) (lp0 : Int → Int → List T → Option (List T)) (l0 : List T) (n1 : Int) : Option (List T) :=
 (c 42 [T.sl l0, T.i .i64 n1]).bind fun r171 =>
 bif asB (nth r171 0) then
  some [T.sl l0]
 else
  bif nLe (([] : List T).length + l0.length) LIM then
  bif nLe ((([] : List T) ++ l0).length + ([T.i .i64 n1] : List T).length) LIM then
  (lp0 n1 (IntKind.wrap .i64 ((((([] : List T) ++ l0) ++ ([T.i .i64 n1] : List T)).length : Int) - 1)) ((([] : List T) ++ l0) ++ ([T.i .i64 n1] : List T))).bind fun r174 =>
  bif inR (asI (nth r174 2)) ((asL (nth r174 3)).length) then
  some [T.sl ((asL (nth r174 3)).set ((asI (nth r174 2)).toNat) (T.i .i64 (asI (nth r174 1))))]
  else none
  else none
  else none
def f52 (c : Orc) (lf : Nat) (l0 : List T) (n1 : Int) : Option (List T) := f52_t c lf (fun (n1 x172 : Int) (x173 : List T) => f52_0 c lf n1 lf x172 x173) l0 n1
theorem f52_raw (c : Orc) (lf : Nat) (l0 : List T) (n1 : Int) : funK c env lf 6 fi52 [.sl l0, .i .i64 n1] = f52_t c lf (fun (n1 x172 : Int) (x173 : List T) => lpK c env lf 6 fi52 2 5 [] [1, 5, 6] (x52_5_0) lf (f52_0_c n1 x172 x173)) l0 n1 := by kernel_rfl
theorem f52_eq (c : Orc) (lf : Nat) (l0 : List T) (n1 : Int) : funK c env lf 6 fi52 [.sl l0, .i .i64 n1] = f52 c lf l0 n1 := by
 refine (f52_raw c lf l0 n1).trans ?_
 have e0 : (fun (n1 x172 : Int) (x173 : List T) => lpK c env lf 6 fi52 2 5 [] [1, 5, 6] (x52_5_0) lf (f52_0_c n1 x172 x173)) = (fun (n1 x172 : Int) (x173 : List T) => f52_0 c lf n1 lf x172 x173) := by funext n1 x172 x173; exact f52_0_eq c lf n1 lf x172 x173
 rw [e0]; rfl
def f25_t (c : Orc) (lf : Nat) (l0 : List T) (n1 : Int) : Option (List T) :=
 bif iLt n1 0 then
  some [T.sl l0]
 else
  (c 52 [T.sl l0, T.i .i64 n1]).bind fun r176 =>
  some [T.sl (asL (nth r176 0))]
def f25 (c : Orc) (lf : Nat) (l0 : List T) (n1 : Int) : Option (List T) := f25_t c lf l0 n1
theorem f25_eq (c : Orc) (lf : Nat) (l0 : List T) (n1 : Int) : funK c env lf 6 fi25 [.sl l0, .i .i64 n1] = f25 c lf l0 n1 := by kernel_rfl
def f7_0_s (c : Orc) (lf : Nat) (l0_0 l0_3 l0_4 : List T) (n0_1 n0_2 : Int) (n0_5 n0_6 : Int) (L : List T → Int → Option (List T)) (x234 : List T) (x235 : Int) : Option (List T) :=
 bif iLt x235 (l0_3.length : Int) then
  bif inR x235 l0_3.length then
  (c 25 [T.sl x234, T.i .i64 (asI (T.cell (l0_3.getD x235.toNat T.u) 4))]).bind fun r236 =>
  L (asL (nth r236 0)) (IntKind.wrap .i64 (x235 + 1))
  else none
 else
  some [T.i .i64 0, T.sl x234, T.sl l0_0, T.i .i64 n0_1, T.i .i64 n0_2, T.sl l0_3, T.sl l0_4, T.i .i64 n0_5, T.i .i64 n0_6]
def f7_0_c (l0_0 l0_3 l0_4 : List T) (n0_1 n0_2 : Int) (n0_5 n0_6 : Int) (x234 : List T) (x235 : Int) : CSt := ⟨[.bp 7 0, .ro 0 false [.i .i64] x234, .i .i64 x235], [.dead, .dead, .dead, .dead, .dead, .dead, .dead, .box [.ro 0 true [.i .i64, .s, .b, .i .i64, .sl true [.i .i64, .i .i64, .i .i64, .sl false [.i .u8], .sl true [.s, .i .i64], .sl true [.s, .s]], .i .i64] l0_0, .i .i64 n0_1, .i .i64 n0_2, .ro 0 true [.i .i64, .s, .b, .i .i64, .i .i64] l0_3, .ro 0 true [.i .i64, .sl true [.i .i64, .i .i64]] l0_4, .i .i64 n0_5, .i .i64 n0_6]]⟩
theorem f7_0_round (c : Orc) (lf : Nat) (l0_0 l0_3 l0_4 : List T) (n0_1 n0_2 : Int) (n0_5 n0_6 : Int) (L : CSt → Option (List T)) (x234 : List T) (x235 : Int) :
 roundK c env lf 6 fi7 7 3 [] [1, 3, 4] (x7_3_0) L (f7_0_c l0_0 l0_3 l0_4 n0_1 n0_2 n0_5 n0_6 x234 x235) = f7_0_s c lf l0_0 l0_3 l0_4 n0_1 n0_2 n0_5 n0_6 (fun x234 x235 => L (f7_0_c l0_0 l0_3 l0_4 n0_1 n0_2 n0_5 n0_6 x234 x235)) x234 x235 := by kernel_rfl
def f7_0 (c : Orc) (lf : Nat) (l0_0 l0_3 l0_4 : List T) (n0_1 n0_2 : Int) (n0_5 n0_6 : Int) : Nat → List T → Int → Option (List T)
 | 0 => fun _ _ => none
 | n + 1 => fun x234 x235 => f7_0_s c lf l0_0 l0_3 l0_4 n0_1 n0_2 n0_5 n0_6 (f7_0 c lf l0_0 l0_3 l0_4 n0_1 n0_2 n0_5 n0_6 n) x234 x235
theorem f7_0_u (c : Orc) (lf : Nat) (l0_0 l0_3 l0_4 : List T) (n0_1 n0_2 : Int) (n0_5 n0_6 : Int) (n : Nat) (x234 : List T) (x235 : Int) : f7_0 c lf l0_0 l0_3 l0_4 n0_1 n0_2 n0_5 n0_6 (n + 1) x234 x235 = f7_0_s c lf l0_0 l0_3 l0_4 n0_1 n0_2 n0_5 n0_6 (f7_0 c lf l0_0 l0_3 l0_4 n0_1 n0_2 n0_5 n0_6 n) x234 x235 := rfl
theorem f7_0_eq (c : Orc) (lf : Nat) (l0_0 l0_3 l0_4 : List T) (n0_1 n0_2 : Int) (n0_5 n0_6 : Int) (n : Nat) (x234 : List T) (x235 : Int) :
 lpK c env lf 6 fi7 7 3 [] [1, 3, 4] (x7_3_0) n (f7_0_c l0_0 l0_3 l0_4 n0_1 n0_2 n0_5 n0_6 x234 x235) = f7_0 c lf l0_0 l0_3 l0_4 n0_1 n0_2 n0_5 n0_6 n x234 x235 := by
 induction n generalizing x234 x235 with
 | zero => rfl
 | succ n ih =>
  refine (f7_0_round c lf l0_0 l0_3 l0_4 n0_1 n0_2 n0_5 n0_6 _ x234 x235).trans ?_
  have e : (fun x234 x235 => lpK c env lf 6 fi7 7 3 [] [1, 3, 4] (x7_3_0) n (f7_0_c l0_0 l0_3 l0_4 n0_1 n0_2 n0_5 n0_6 x234 x235)) = f7_0 c lf l0_0 l0_3 l0_4 n0_1 n0_2 n0_5 n0_6 n := by funext x234 x235; exact ih x234 x235
  show f7_0_s c lf l0_0 l0_3 l0_4 n0_1 n0_2 n0_5 n0_6 (fun x234 x235 => lpK c env lf 6 fi7 7 3 [] [1, 3, 4] (x7_3_0) n (f7_0_c l0_0 l0_3 l0_4 n0_1 n0_2 n0_5 n0_6 x234 x235)) x234 x235 = _
  rw [e]; rfl
def f7_2_s (c : Orc) (lf : Nat) (x244 : Int) (x245 : List T) (x246 x247 : Int) (x248 x249 : List T) (x250 x251 : Int) (L : List T → Int → Option (List T)) (x253 : List T) (x254 : Int) : Option (List T) :=
 bif inR x244 x249.length then
 bif iLt x254 ((asL (T.cell (x249.getD x244.toNat T.u) 1)).length : Int) then
  bif inR x244 x249.length then
  bif inR x254 ((asL (T.cell (x249.getD x244.toNat T.u) 1)).length) then
  (c 25 [T.sl x253, T.i .i64 (asI (T.cell ((asL (T.cell (x249.getD x244.toNat T.u) 1)).getD x254.toNat T.u) 1))]).bind fun r255 =>
  L (asL (nth r255 0)) (IntKind.wrap .i64 (x254 + 1))
  else none
  else none
 else
  some [T.i .i64 0, T.sl x253, T.i .i64 x244, T.sl x245, T.i .i64 x246, T.i .i64 x247, T.sl x248, T.sl x249, T.i .i64 x250, T.i .i64 x251]
 else none
def f7_2_c (x244 : Int) (x245 : List T) (x246 x247 : Int) (x248 x249 : List T) (x250 x251 : Int) (x253 : List T) (x254 : Int) : CSt := ⟨[.bp 7 0, .ro 0 false [.i .i64] x253, .i .i64 x244, .i .i64 x254], [.dead, .dead, .dead, .dead, .dead, .dead, .dead, .box [.ro 0 true [.i .i64, .s, .b, .i .i64, .sl true [.i .i64, .i .i64, .i .i64, .sl false [.i .u8], .sl true [.s, .i .i64], .sl true [.s, .s]], .i .i64] x245, .i .i64 x246, .i .i64 x247, .ro 0 true [.i .i64, .s, .b, .i .i64, .i .i64] x248, .ro 0 true [.i .i64, .sl true [.i .i64, .i .i64]] x249, .i .i64 x250, .i .i64 x251]]⟩
theorem f7_2_round (c : Orc) (lf : Nat) (x244 : Int) (x245 : List T) (x246 x247 : Int) (x248 x249 : List T) (x250 x251 : Int) (L : CSt → Option (List T)) (x253 : List T) (x254 : Int) :
 roundK c env lf 6 fi7 7 10 [] [1, 3, 5, 6] (x7_10_0) L (f7_2_c x244 x245 x246 x247 x248 x249 x250 x251 x253 x254) = f7_2_s c lf x244 x245 x246 x247 x248 x249 x250 x251 (fun x253 x254 => L (f7_2_c x244 x245 x246 x247 x248 x249 x250 x251 x253 x254)) x253 x254 := by kernel_rfl
def f7_2 (c : Orc) (lf : Nat) (x244 : Int) (x245 : List T) (x246 x247 : Int) (x248 x249 : List T) (x250 x251 : Int) : Nat → List T → Int → Option (List T)
 | 0 => fun _ _ => none
 | n + 1 => fun x253 x254 => f7_2_s c lf x244 x245 x246 x247 x248 x249 x250 x251 (f7_2 c lf x244 x245 x246 x247 x248 x249 x250 x251 n) x253 x254
theorem f7_2_u (c : Orc) (lf : Nat) (x244 : Int) (x245 : List T) (x246 x247 : Int) (x248 x249 : List T) (x250 x251 : Int) (n : Nat) (x253 : List T) (x254 : Int) : f7_2 c lf x244 x245 x246 x247 x248 x249 x250 x251 (n + 1) x253 x254 = f7_2_s c lf x244 x245 x246 x247 x248 x249 x250 x251 (f7_2 c lf x244 x245 x246 x247 x248 x249 x250 x251 n) x253 x254 := rfl
theorem f7_2_eq (c : Orc) (lf : Nat) (x244 : Int) (x245 : List T) (x246 x247 : Int) (x248 x249 : List T) (x250 x251 : Int) (n : Nat) (x253 : List T) (x254 : Int) :
 lpK c env lf 6 fi7 7 10 [] [1, 3, 5, 6] (x7_10_0) n (f7_2_c x244 x245 x246 x247 x248 x249 x250 x251 x253 x254) = f7_2 c lf x244 x245 x246 x247 x248 x249 x250 x251 n x253 x254 := by
 induction n generalizing x253 x254 with
 | zero => rfl
 | succ n ih =>
  refine (f7_2_round c lf x244 x245 x246 x247 x248 x249 x250 x251 _ x253 x254).trans ?_
  have e : (fun x253 x254 => lpK c env lf 6 fi7 7 10 [] [1, 3, 5, 6] (x7_10_0) n (f7_2_c x244 x245 x246 x247 x248 x249 x250 x251 x253 x254)) = f7_2 c lf x244 x245 x246 x247 x248 x249 x250 x251 n := by funext x253 x254; exact ih x253 x254
  show f7_2_s c lf x244 x245 x246 x247 x248 x249 x250 x251 (fun x253 x254 => lpK c env lf 6 fi7 7 10 [] [1, 3, 5, 6] (x7_10_0) n (f7_2_c x244 x245 x246 x247 x248 x249 x250 x251 x253 x254)) x253 x254 = _
  rw [e]; rfl
def f7_1_s (c : Orc) (lf : Nat) (L : List T → Int → List T → Int → Int → List T → List T → Int → Int → Option (List T)) (lp0 : Int → List T → Int → Int → List T → List T → Int → Int → List T → Int → Option (List T)) (x243 : List T) (x244 : Int) (x245 : List T) (x246 x247 : Int) (x248 x249 : List T) (x250 x251 : Int) : Option (List T) :=
 bif iLt x244 (x249.length : Int) then
  (lp0 x244 x245 x246 x247 x248 x249 x250 x251 x243 0).bind fun r256 =>
  L (asL (nth r256 1)) (IntKind.wrap .i64 ((asI (nth r256 2)) + 1)) (asL (nth r256 3)) (asI (nth r256 4)) (asI (nth r256 5)) (asL (nth r256 6)) (asL (nth r256 7)) (asI (nth r256 8)) (asI (nth r256 9))
 else
  some [T.i .i64 0, T.sl x243]
def f7_1_c (x243 : List T) (x244 : Int) (x245 : List T) (x246 x247 : Int) (x248 x249 : List T) (x250 x251 : Int) : CSt := ⟨[.bp 7 0, .ro 0 false [.i .i64] x243, .i .i64 x244], [.dead, .dead, .dead, .dead, .dead, .dead, .dead, .box [.ro 0 true [.i .i64, .s, .b, .i .i64, .sl true [.i .i64, .i .i64, .i .i64, .sl false [.i .u8], .sl true [.s, .i .i64], .sl true [.s, .s]], .i .i64] x245, .i .i64 x246, .i .i64 x247, .ro 0 true [.i .i64, .s, .b, .i .i64, .i .i64] x248, .ro 0 true [.i .i64, .sl true [.i .i64, .i .i64]] x249, .i .i64 x250, .i .i64 x251]]⟩
theorem f7_1_round (c : Orc) (lf : Nat) (L : CSt → Option (List T)) (x243 : List T) (x244 : Int) (x245 : List T) (x246 x247 : Int) (x248 x249 : List T) (x250 x251 : Int) :
 roundK c env lf 6 fi7 7 7 [] [1, 3, 5] (x7_7_0) L (f7_1_c x243 x244 x245 x246 x247 x248 x249 x250 x251) = f7_1_s c lf (fun x243 x244 x245 x246 x247 x248 x249 x250 x251 => L (f7_1_c x243 x244 x245 x246 x247 x248 x249 x250 x251)) (fun (x244 : Int) (x245 : List T) (x246 x247 : Int) (x248 x249 : List T) (x250 x251 : Int) (x253 : List T) (x254 : Int) => lpK c env lf 6 fi7 7 10 [] [1, 3, 5, 6] (x7_10_0) lf (f7_2_c x244 x245 x246 x247 x248 x249 x250 x251 x253 x254)) x243 x244 x245 x246 x247 x248 x249 x250 x251 := by kernel_rfl
def f7_1 (c : Orc) (lf : Nat) : Nat → List T → Int → List T → Int → Int → List T → List T → Int → Int → Option (List T)
 | 0 => fun _ _ _ _ _ _ _ _ _ => none
 | n + 1 => fun x243 x244 x245 x246 x247 x248 x249 x250 x251 => f7_1_s c lf (f7_1 c lf n) (fun (x244 : Int) (x245 : List T) (x246 x247 : Int) (x248 x249 : List T) (x250 x251 : Int) (x253 : List T) (x254 : Int) => f7_2 c lf x244 x245 x246 x247 x248 x249 x250 x251 lf x253 x254) x243 x244 x245 x246 x247 x248 x249 x250 x251
theorem f7_1_u (c : Orc) (lf n : Nat) (x243 : List T) (x244 : Int) (x245 : List T) (x246 x247 : Int) (x248 x249 : List T) (x250 x251 : Int) : f7_1 c lf (n + 1) x243 x244 x245 x246 x247 x248 x249 x250 x251 = f7_1_s c lf (f7_1 c lf n) (fun (x244 : Int) (x245 : List T) (x246 x247 : Int) (x248 x249 : List T) (x250 x251 : Int) (x253 : List T) (x254 : Int) => f7_2 c lf x244 x245 x246 x247 x248 x249 x250 x251 lf x253 x254) x243 x244 x245 x246 x247 x248 x249 x250 x251 := rfl
theorem f7_1_eq (c : Orc) (lf n : Nat) (x243 : List T) (x244 : Int) (x245 : List T) (x246 x247 : Int) (x248 x249 : List T) (x250 x251 : Int) :
 lpK c env lf 6 fi7 7 7 [] [1, 3, 5] (x7_7_0) n (f7_1_c x243 x244 x245 x246 x247 x248 x249 x250 x251) = f7_1 c lf n x243 x244 x245 x246 x247 x248 x249 x250 x251 := by
 induction n generalizing x243 x244 x245 x246 x247 x248 x249 x250 x251 with
 | zero => rfl
 | succ n ih =>
  refine (f7_1_round c lf _ x243 x244 x245 x246 x247 x248 x249 x250 x251).trans ?_
  have e : (fun x243 x244 x245 x246 x247 x248 x249 x250 x251 => lpK c env lf 6 fi7 7 7 [] [1, 3, 5] (x7_7_0) n (f7_1_c x243 x244 x245 x246 x247 x248 x249 x250 x251)) = f7_1 c lf n := by funext x243 x244 x245 x246 x247 x248 x249 x250 x251; exact ih x243 x244 x245 x246 x247 x248 x249 x250 x251
  have e0 : (fun (x244 : Int) (x245 : List T) (x246 x247 : Int) (x248 x249 : List T) (x250 x251 : Int) (x253 : List T) (x254 : Int) => lpK c env lf 6 fi7 7 10 [] [1, 3, 5, 6] (x7_10_0) lf (f7_2_c x244 x245 x246 x247 x248 x249 x250 x251 x253 x254)) = (fun (x244 : Int) (x245 : List T) (x246 x247 : Int) (x248 x249 : List T) (x250 x251 : Int) (x253 : List T) (x254 : Int) => f7_2 c lf x244 x245 x246 x247 x248 x249 x250 x251 lf x253 x254) := by funext x244 x245 x246 x247 x248 x249 x250 x251 x253 x254; exact f7_2_eq c lf x244 x245 x246 x247 x248 x249 x250 x251 lf x253 x254
  show f7_1_s c lf (fun x243 x244 x245 x246 x247 x248 x249 x250 x251 => lpK c env lf 6 fi7 7 7 [] [1, 3, 5] (x7_7_0) n (f7_1_c x243 x244 x245 x246 x247 x248 x249 x250 x251)) (fun (x244 : Int) (x245 : List T) (x246 x247 : Int) (x248 x249 : List T) (x250 x251 : Int) (x253 : List T) (x254 : Int) => lpK c env lf 6 fi7 7 10 [] [1, 3, 5, 6] (x7_10_0) lf (f7_2_c x244 x245 x246 x247 x248 x249 x250 x251 x253 x254)) x243 x244 x245 x246 x247 x248 x249 x250 x251 = _
  rw [e, e0]; rfl
def f7_t (c : Orc) (lf : Nat) (lp0 : List T → List T → List T → Int → Int → Int → Int → List T → Int → Option (List T)) (lp1 : List T → Int → List T → Int → Int → List T → List T → Int → Int → Option (List T)) (l0_0 : List T) (n0_1 n0_2 : Int) (l0_3 l0_4 : List T) (n0_5 n0_6 : Int) : Option (List T) :=
 (c 25 [T.sl ([] : List T), T.i .i64 n0_6]).bind fun r231 =>
 (c 25 [T.sl (asL (nth r231 0)), T.i .i64 n0_5]).bind fun r232 =>
 (lp0 l0_0 l0_3 l0_4 n0_1 n0_2 n0_5 n0_6 (asL (nth r232 0)) 0).bind fun r237 =>
 (lp1 (asL (nth r237 1)) 0 (asL (nth r237 2)) (asI (nth r237 3)) (asI (nth r237 4)) (asL (nth r237 5)) (asL (nth r237 6)) (asI (nth r237 7)) (asI (nth r237 8))).bind fun r257 =>
 some [T.sl (asL (nth r257 1))]
def f7 (c : Orc) (lf : Nat) (l0_0 : List T) (n0_1 n0_2 : Int) (l0_3 l0_4 : List T) (n0_5 n0_6 : Int) : Option (List T) := f7_t c lf (fun (l0_0 l0_3 l0_4 : List T) (n0_1 n0_2 : Int) (n0_5 n0_6 : Int) (x234 : List T) (x235 : Int) => f7_0 c lf l0_0 l0_3 l0_4 n0_1 n0_2 n0_5 n0_6 lf x234 x235) (fun (x243 : List T) (x244 : Int) (x245 : List T) (x246 x247 : Int) (x248 x249 : List T) (x250 x251 : Int) => f7_1 c lf lf x243 x244 x245 x246 x247 x248 x249 x250 x251) l0_0 n0_1 n0_2 l0_3 l0_4 n0_5 n0_6
theorem f7_raw (c : Orc) (lf : Nat) (l0_0 : List T) (n0_1 n0_2 : Int) (l0_3 l0_4 : List T) (n0_5 n0_6 : Int) : funK c env lf 6 fi7 [.st [.sl l0_0, .i .i64 n0_1, .i .i64 n0_2, .sl l0_3, .sl l0_4, .i .i64 n0_5, .i .i64 n0_6]] = f7_t c lf (fun (l0_0 l0_3 l0_4 : List T) (n0_1 n0_2 : Int) (n0_5 n0_6 : Int) (x234 : List T) (x235 : Int) => lpK c env lf 6 fi7 7 3 [] [1, 3, 4] (x7_3_0) lf (f7_0_c l0_0 l0_3 l0_4 n0_1 n0_2 n0_5 n0_6 x234 x235)) (fun (x243 : List T) (x244 : Int) (x245 : List T) (x246 x247 : Int) (x248 x249 : List T) (x250 x251 : Int) => lpK c env lf 6 fi7 7 7 [] [1, 3, 5] (x7_7_0) lf (f7_1_c x243 x244 x245 x246 x247 x248 x249 x250 x251)) l0_0 n0_1 n0_2 l0_3 l0_4 n0_5 n0_6 := by kernel_rfl
theorem f7_eq (c : Orc) (lf : Nat) (l0_0 : List T) (n0_1 n0_2 : Int) (l0_3 l0_4 : List T) (n0_5 n0_6 : Int) : funK c env lf 6 fi7 [.st [.sl l0_0, .i .i64 n0_1, .i .i64 n0_2, .sl l0_3, .sl l0_4, .i .i64 n0_5, .i .i64 n0_6]] = f7 c lf l0_0 n0_1 n0_2 l0_3 l0_4 n0_5 n0_6 := by
 refine (f7_raw c lf l0_0 n0_1 n0_2 l0_3 l0_4 n0_5 n0_6).trans ?_
 have e0 : (fun (l0_0 l0_3 l0_4 : List T) (n0_1 n0_2 : Int) (n0_5 n0_6 : Int) (x234 : List T) (x235 : Int) => lpK c env lf 6 fi7 7 3 [] [1, 3, 4] (x7_3_0) lf (f7_0_c l0_0 l0_3 l0_4 n0_1 n0_2 n0_5 n0_6 x234 x235)) = (fun (l0_0 l0_3 l0_4 : List T) (n0_1 n0_2 : Int) (n0_5 n0_6 : Int) (x234 : List T) (x235 : Int) => f7_0 c lf l0_0 l0_3 l0_4 n0_1 n0_2 n0_5 n0_6 lf x234 x235) := by funext l0_0 l0_3 l0_4 n0_1 n0_2 n0_5 n0_6 x234 x235; exact f7_0_eq c lf l0_0 l0_3 l0_4 n0_1 n0_2 n0_5 n0_6 lf x234 x235
 have e1 : (fun (x243 : List T) (x244 : Int) (x245 : List T) (x246 x247 : Int) (x248 x249 : List T) (x250 x251 : Int) => lpK c env lf 6 fi7 7 7 [] [1, 3, 5] (x7_7_0) lf (f7_1_c x243 x244 x245 x246 x247 x248 x249 x250 x251)) = (fun (x243 : List T) (x244 : Int) (x245 : List T) (x246 x247 : Int) (x248 x249 : List T) (x250 x251 : Int) => f7_1 c lf lf x243 x244 x245 x246 x247 x248 x249 x250 x251) := by funext x243 x244 x245 x246 x247 x248 x249 x250 x251; exact f7_1_eq c lf lf x243 x244 x245 x246 x247 x248 x249 x250 x251
 rw [e0, e1]; rfl
def f30_0_s (c : Orc) (lf : Nat) (l0_0 l0_3 l0_4 : List T) (n0_1 n0_2 : Int) (n0_5 n0_6 : Int) (L : Int → List T → Option (List T)) (x272 : Int) (x273 : List T) : Option (List T) :=
 bif iLt x272 (l0_3.length : Int) then
  bif inR x272 l0_3.length then
  bif inR x272 x273.length then
  bif okC (.sl false [.i .i64]) (x273.getD x272.toNat T.u) && true then
  bif nLe ((asL (x273.getD x272.toNat T.u)).length + ([T.i .i64 (asI (T.cell (l0_3.getD x272.toNat T.u) 4))] : List T).length) LIM then
  bif inR x272 ((x273.set x272.toNat T.u).length) then
  L (IntKind.wrap .i64 (x272 + 1)) ((x273.set x272.toNat T.u).set x272.toNat (T.sl ((asL (x273.getD x272.toNat T.u)) ++ ([T.i .i64 (asI (T.cell (l0_3.getD x272.toNat T.u) 4))] : List T))))
  else none
  else none
  else none
  else none
  else none
 else
  some [T.i .i64 0, T.sl l0_0, T.i .i64 n0_1, T.i .i64 n0_2, T.sl l0_3, T.sl l0_4, T.i .i64 n0_5, T.i .i64 n0_6, T.sl x273]
def f30_0_c (l0_0 l0_3 l0_4 : List T) (n0_1 n0_2 : Int) (n0_5 n0_6 x272 : Int) (x273 : List T) : CSt := ⟨[.bp 7 0, .rf 8 [] 0 none, .ro 0 true [.i .i64, .s, .b, .i .i64, .i .i64] l0_3, .i .i64 (l0_3.length : Int), .i .i64 x272], [.dead, .dead, .dead, .dead, .dead, .dead, .dead, .box [.ro 0 true [.i .i64, .s, .b, .i .i64, .sl true [.i .i64, .i .i64, .i .i64, .sl false [.i .u8], .sl true [.s, .i .i64], .sl true [.s, .s]], .i .i64] l0_0, .i .i64 n0_1, .i .i64 n0_2, .ro 0 true [.i .i64, .s, .b, .i .i64, .i .i64] l0_3, .ro 0 true [.i .i64, .sl true [.i .i64, .i .i64]] l0_4, .i .i64 n0_5, .i .i64 n0_6], .row false [.sl false [.i .i64]] x273 0 true]⟩
theorem f30_0_round (c : Orc) (lf : Nat) (l0_0 l0_3 l0_4 : List T) (n0_1 n0_2 : Int) (n0_5 n0_6 : Int) (L : CSt → Option (List T)) (x272 : Int) (x273 : List T) :
 roundK c env lf 6 fi30 7 3 [(3, 1)] [1, 3, 21, 22, 23] (x30_3_0) L (f30_0_c l0_0 l0_3 l0_4 n0_1 n0_2 n0_5 n0_6 x272 x273) = f30_0_s c lf l0_0 l0_3 l0_4 n0_1 n0_2 n0_5 n0_6 (fun x272 x273 => L (f30_0_c l0_0 l0_3 l0_4 n0_1 n0_2 n0_5 n0_6 x272 x273)) x272 x273 := by kernel_rfl
def f30_0 (c : Orc) (lf : Nat) (l0_0 l0_3 l0_4 : List T) (n0_1 n0_2 : Int) (n0_5 n0_6 : Int) : Nat → Int → List T → Option (List T)
 | 0 => fun _ _ => none
 | n + 1 => fun x272 x273 => f30_0_s c lf l0_0 l0_3 l0_4 n0_1 n0_2 n0_5 n0_6 (f30_0 c lf l0_0 l0_3 l0_4 n0_1 n0_2 n0_5 n0_6 n) x272 x273
theorem f30_0_u (c : Orc) (lf : Nat) (l0_0 l0_3 l0_4 : List T) (n0_1 n0_2 : Int) (n0_5 n0_6 : Int) (n : Nat) (x272 : Int) (x273 : List T) : f30_0 c lf l0_0 l0_3 l0_4 n0_1 n0_2 n0_5 n0_6 (n + 1) x272 x273 = f30_0_s c lf l0_0 l0_3 l0_4 n0_1 n0_2 n0_5 n0_6 (f30_0 c lf l0_0 l0_3 l0_4 n0_1 n0_2 n0_5 n0_6 n) x272 x273 := rfl
theorem f30_0_eq (c : Orc) (lf : Nat) (l0_0 l0_3 l0_4 : List T) (n0_1 n0_2 : Int) (n0_5 n0_6 : Int) (n : Nat) (x272 : Int) (x273 : List T) :
 lpK c env lf 6 fi30 7 3 [(3, 1)] [1, 3, 21, 22, 23] (x30_3_0) n (f30_0_c l0_0 l0_3 l0_4 n0_1 n0_2 n0_5 n0_6 x272 x273) = f30_0 c lf l0_0 l0_3 l0_4 n0_1 n0_2 n0_5 n0_6 n x272 x273 := by
 induction n generalizing x272 x273 with
 | zero => rfl
 | succ n ih =>
  refine (f30_0_round c lf l0_0 l0_3 l0_4 n0_1 n0_2 n0_5 n0_6 _ x272 x273).trans ?_
  have e : (fun x272 x273 => lpK c env lf 6 fi30 7 3 [(3, 1)] [1, 3, 21, 22, 23] (x30_3_0) n (f30_0_c l0_0 l0_3 l0_4 n0_1 n0_2 n0_5 n0_6 x272 x273)) = f30_0 c lf l0_0 l0_3 l0_4 n0_1 n0_2 n0_5 n0_6 n := by funext x272 x273; exact ih x272 x273
  show f30_0_s c lf l0_0 l0_3 l0_4 n0_1 n0_2 n0_5 n0_6 (fun x272 x273 => lpK c env lf 6 fi30 7 3 [(3, 1)] [1, 3, 21, 22, 23] (x30_3_0) n (f30_0_c l0_0 l0_3 l0_4 n0_1 n0_2 n0_5 n0_6 x272 x273)) x272 x273 = _
  rw [e]; rfl
def f30_2_s (c : Orc) (lf : Nat) (x278 : List T) (x279 x280 : Int) (L : Int → List T → Option (List T)) (x282 : Int) (x283 : List T) : Option (List T) :=
 bif iLt x282 ((asL (T.cell (x278.getD x280.toNat T.u) 1)).length : Int) then
  bif inR x282 ((asL (T.cell (x278.getD x280.toNat T.u) 1)).length) then
  bif inR x280 x283.length then
  bif okC (.sl false [.i .i64]) (x283.getD x280.toNat T.u) && true then
  bif nLe ((asL (x283.getD x280.toNat T.u)).length + ([T.i .i64 (asI (T.cell ((asL (T.cell (x278.getD x280.toNat T.u) 1)).getD x282.toNat T.u) 1))] : List T).length) LIM then
  bif inR x280 ((x283.set x280.toNat T.u).length) then
  L (IntKind.wrap .i64 (x282 + 1)) ((x283.set x280.toNat T.u).set x280.toNat (T.sl ((asL (x283.getD x280.toNat T.u)) ++ ([T.i .i64 (asI (T.cell ((asL (T.cell (x278.getD x280.toNat T.u) 1)).getD x282.toNat T.u) 1))] : List T))))
  else none
  else none
  else none
  else none
  else none
 else
  some [T.i .i64 0, T.sl x278, T.i .i64 x279, T.i .i64 x280, T.sl x283]
def f30_2_c (x278 : List T) (x279 x280 x282 : Int) (x283 : List T) : CSt := ⟨[.rf 7 [] 0 none, .i .i64 x280, .ro 0 true [.i .i64, .sl true [.i .i64, .i .i64]] x278, .i .i64 x279, .i .i64 x280, .ro 0 true [.i .i64, .i .i64] (asL (T.cell (x278.getD x280.toNat T.u) 1)), .i .i64 ((asL (T.cell (x278.getD x280.toNat T.u) 1)).length : Int), .i .i64 x282], [.dead, .dead, .dead, .dead, .dead, .dead, .dead, .row false [.sl false [.i .i64]] x283 0 true]⟩
theorem f30_2_round (c : Orc) (lf : Nat) (x278 : List T) (x279 x280 : Int) (L : CSt → Option (List T)) (x282 : Int) (x283 : List T) :
 roundK c env lf 6 fi30 7 11 [(3, 1)] [3, 6, 41, 42, 43, 49, 50, 51] (x30_11_0) L (f30_2_c x278 x279 x280 x282 x283) = f30_2_s c lf x278 x279 x280 (fun x282 x283 => L (f30_2_c x278 x279 x280 x282 x283)) x282 x283 := by kernel_rfl
def f30_2 (c : Orc) (lf : Nat) (x278 : List T) (x279 x280 : Int) : Nat → Int → List T → Option (List T)
 | 0 => fun _ _ => none
 | n + 1 => fun x282 x283 => f30_2_s c lf x278 x279 x280 (f30_2 c lf x278 x279 x280 n) x282 x283
theorem f30_2_u (c : Orc) (lf : Nat) (x278 : List T) (x279 x280 : Int) (n : Nat) (x282 : Int) (x283 : List T) : f30_2 c lf x278 x279 x280 (n + 1) x282 x283 = f30_2_s c lf x278 x279 x280 (f30_2 c lf x278 x279 x280 n) x282 x283 := rfl
theorem f30_2_eq (c : Orc) (lf : Nat) (x278 : List T) (x279 x280 : Int) (n : Nat) (x282 : Int) (x283 : List T) :
 lpK c env lf 6 fi30 7 11 [(3, 1)] [3, 6, 41, 42, 43, 49, 50, 51] (x30_11_0) n (f30_2_c x278 x279 x280 x282 x283) = f30_2 c lf x278 x279 x280 n x282 x283 := by
 induction n generalizing x282 x283 with
 | zero => rfl
 | succ n ih =>
  refine (f30_2_round c lf x278 x279 x280 _ x282 x283).trans ?_
  have e : (fun x282 x283 => lpK c env lf 6 fi30 7 11 [(3, 1)] [3, 6, 41, 42, 43, 49, 50, 51] (x30_11_0) n (f30_2_c x278 x279 x280 x282 x283)) = f30_2 c lf x278 x279 x280 n := by funext x282 x283; exact ih x282 x283
  show f30_2_s c lf x278 x279 x280 (fun x282 x283 => lpK c env lf 6 fi30 7 11 [(3, 1)] [3, 6, 41, 42, 43, 49, 50, 51] (x30_11_0) n (f30_2_c x278 x279 x280 x282 x283)) x282 x283 = _
  rw [e]; rfl
def f30_1_s (c : Orc) (lf : Nat) (L : List T → Int → Int → List T → Option (List T)) (lp0 : List T → Int → Int → Int → List T → Option (List T)) (x278 : List T) (x279 x280 : Int) (x281 : List T) : Option (List T) :=
 bif iLt x280 x279 then
  bif inR x280 x278.length then
  (lp0 x278 x279 x280 0 x281).bind fun r284 =>
  L (asL (nth r284 1)) (asI (nth r284 2)) (IntKind.wrap .i64 ((asI (nth r284 3)) + 1)) (asL (nth r284 4))
  else none
 else
  some [T.i .i64 0, T.sl x281]
def f30_1_c (x278 : List T) (x279 x280 : Int) (x281 : List T) : CSt := ⟨[.rf 7 [] 0 none, .ro 0 true [.i .i64, .sl true [.i .i64, .i .i64]] x278, .i .i64 x279, .i .i64 x280], [.dead, .dead, .dead, .dead, .dead, .dead, .dead, .row false [.sl false [.i .i64]] x281 0 true]⟩
theorem f30_1_round (c : Orc) (lf : Nat) (L : CSt → Option (List T)) (x278 : List T) (x279 x280 : Int) (x281 : List T) :
 roundK c env lf 6 fi30 7 8 [(3, 1)] [3, 41, 42, 43] (x30_8_0) L (f30_1_c x278 x279 x280 x281) = f30_1_s c lf (fun x278 x279 x280 x281 => L (f30_1_c x278 x279 x280 x281)) (fun (x278 : List T) (x279 x280 x282 : Int) (x283 : List T) => lpK c env lf 6 fi30 7 11 [(3, 1)] [3, 6, 41, 42, 43, 49, 50, 51] (x30_11_0) lf (f30_2_c x278 x279 x280 x282 x283)) x278 x279 x280 x281 := by kernel_rfl
def f30_1 (c : Orc) (lf : Nat) : Nat → List T → Int → Int → List T → Option (List T)
 | 0 => fun _ _ _ _ => none
 | n + 1 => fun x278 x279 x280 x281 => f30_1_s c lf (f30_1 c lf n) (fun (x278 : List T) (x279 x280 x282 : Int) (x283 : List T) => f30_2 c lf x278 x279 x280 lf x282 x283) x278 x279 x280 x281
theorem f30_1_u (c : Orc) (lf n : Nat) (x278 : List T) (x279 x280 : Int) (x281 : List T) : f30_1 c lf (n + 1) x278 x279 x280 x281 = f30_1_s c lf (f30_1 c lf n) (fun (x278 : List T) (x279 x280 x282 : Int) (x283 : List T) => f30_2 c lf x278 x279 x280 lf x282 x283) x278 x279 x280 x281 := rfl
theorem f30_1_eq (c : Orc) (lf n : Nat) (x278 : List T) (x279 x280 : Int) (x281 : List T) :
 lpK c env lf 6 fi30 7 8 [(3, 1)] [3, 41, 42, 43] (x30_8_0) n (f30_1_c x278 x279 x280 x281) = f30_1 c lf n x278 x279 x280 x281 := by
 induction n generalizing x278 x279 x280 x281 with
 | zero => rfl
 | succ n ih =>
  refine (f30_1_round c lf _ x278 x279 x280 x281).trans ?_
  have e : (fun x278 x279 x280 x281 => lpK c env lf 6 fi30 7 8 [(3, 1)] [3, 41, 42, 43] (x30_8_0) n (f30_1_c x278 x279 x280 x281)) = f30_1 c lf n := by funext x278 x279 x280 x281; exact ih x278 x279 x280 x281
  have e0 : (fun (x278 : List T) (x279 x280 x282 : Int) (x283 : List T) => lpK c env lf 6 fi30 7 11 [(3, 1)] [3, 6, 41, 42, 43, 49, 50, 51] (x30_11_0) lf (f30_2_c x278 x279 x280 x282 x283)) = (fun (x278 : List T) (x279 x280 x282 : Int) (x283 : List T) => f30_2 c lf x278 x279 x280 lf x282 x283) := by funext x278 x279 x280 x282 x283; exact f30_2_eq c lf x278 x279 x280 lf x282 x283
  show f30_1_s c lf (fun x278 x279 x280 x281 => lpK c env lf 6 fi30 7 8 [(3, 1)] [3, 41, 42, 43] (x30_8_0) n (f30_1_c x278 x279 x280 x281)) (fun (x278 : List T) (x279 x280 x282 : Int) (x283 : List T) => lpK c env lf 6 fi30 7 11 [(3, 1)] [3, 6, 41, 42, 43, 49, 50, 51] (x30_11_0) lf (f30_2_c x278 x279 x280 x282 x283)) x278 x279 x280 x281 = _
  rw [e, e0]; rfl
def f30_t (c : Orc) (lf : Nat) (lp0 : List T → List T → List T → Int → Int → Int → Int → Int → List T → Option (List T)) (lp1 : List T → Int → Int → List T → Option (List T)) (l0_0 : List T) (n0_1 n0_2 : Int) (l0_3 l0_4 : List T) (n0_5 n0_6 : Int) : Option (List T) :=
 bif iLe 0 (imax (l0_3.length : Int) (l0_4.length : Int)) && iLe (imax (l0_3.length : Int) (l0_4.length : Int)) (LIM : Int) && ((imax (l0_3.length : Int) (l0_4.length : Int)) == (imax (l0_3.length : Int) (l0_4.length : Int))) then
 (lp0 l0_0 l0_3 l0_4 n0_1 n0_2 n0_5 n0_6 0 (List.replicate (imax (l0_3.length : Int) (l0_4.length : Int)).toNat (T.sl []))).bind fun r274 =>
 (lp1 (asL (nth r274 5)) ((asL (nth r274 5)).length : Int) 0 (asL (nth r274 8))).bind fun r285 =>
 bif ((okL false [.sl false [.i .i64]] (asL (nth r285 1))) && true) && true then
 some [T.sl (asL (nth r285 1))]
 else none
 else none
def f30 (c : Orc) (lf : Nat) (l0_0 : List T) (n0_1 n0_2 : Int) (l0_3 l0_4 : List T) (n0_5 n0_6 : Int) : Option (List T) := f30_t c lf (fun (l0_0 l0_3 l0_4 : List T) (n0_1 n0_2 : Int) (n0_5 n0_6 x272 : Int) (x273 : List T) => f30_0 c lf l0_0 l0_3 l0_4 n0_1 n0_2 n0_5 n0_6 lf x272 x273) (fun (x278 : List T) (x279 x280 : Int) (x281 : List T) => f30_1 c lf lf x278 x279 x280 x281) l0_0 n0_1 n0_2 l0_3 l0_4 n0_5 n0_6
theorem f30_raw (c : Orc) (lf : Nat) (l0_0 : List T) (n0_1 n0_2 : Int) (l0_3 l0_4 : List T) (n0_5 n0_6 : Int) : funK c env lf 6 fi30 [.st [.sl l0_0, .i .i64 n0_1, .i .i64 n0_2, .sl l0_3, .sl l0_4, .i .i64 n0_5, .i .i64 n0_6]] = f30_t c lf (fun (l0_0 l0_3 l0_4 : List T) (n0_1 n0_2 : Int) (n0_5 n0_6 x272 : Int) (x273 : List T) => lpK c env lf 6 fi30 7 3 [(3, 1)] [1, 3, 21, 22, 23] (x30_3_0) lf (f30_0_c l0_0 l0_3 l0_4 n0_1 n0_2 n0_5 n0_6 x272 x273)) (fun (x278 : List T) (x279 x280 : Int) (x281 : List T) => lpK c env lf 6 fi30 7 8 [(3, 1)] [3, 41, 42, 43] (x30_8_0) lf (f30_1_c x278 x279 x280 x281)) l0_0 n0_1 n0_2 l0_3 l0_4 n0_5 n0_6 := by kernel_rfl
theorem f30_eq (c : Orc) (lf : Nat) (l0_0 : List T) (n0_1 n0_2 : Int) (l0_3 l0_4 : List T) (n0_5 n0_6 : Int) : funK c env lf 6 fi30 [.st [.sl l0_0, .i .i64 n0_1, .i .i64 n0_2, .sl l0_3, .sl l0_4, .i .i64 n0_5, .i .i64 n0_6]] = f30 c lf l0_0 n0_1 n0_2 l0_3 l0_4 n0_5 n0_6 := by
 refine (f30_raw c lf l0_0 n0_1 n0_2 l0_3 l0_4 n0_5 n0_6).trans ?_
 have e0 : (fun (l0_0 l0_3 l0_4 : List T) (n0_1 n0_2 : Int) (n0_5 n0_6 x272 : Int) (x273 : List T) => lpK c env lf 6 fi30 7 3 [(3, 1)] [1, 3, 21, 22, 23] (x30_3_0) lf (f30_0_c l0_0 l0_3 l0_4 n0_1 n0_2 n0_5 n0_6 x272 x273)) = (fun (l0_0 l0_3 l0_4 : List T) (n0_1 n0_2 : Int) (n0_5 n0_6 x272 : Int) (x273 : List T) => f30_0 c lf l0_0 l0_3 l0_4 n0_1 n0_2 n0_5 n0_6 lf x272 x273) := by funext l0_0 l0_3 l0_4 n0_1 n0_2 n0_5 n0_6 x272 x273; exact f30_0_eq c lf l0_0 l0_3 l0_4 n0_1 n0_2 n0_5 n0_6 lf x272 x273
 have e1 : (fun (x278 : List T) (x279 x280 : Int) (x281 : List T) => lpK c env lf 6 fi30 7 8 [(3, 1)] [3, 41, 42, 43] (x30_8_0) lf (f30_1_c x278 x279 x280 x281)) = (fun (x278 : List T) (x279 x280 : Int) (x281 : List T) => f30_1 c lf lf x278 x279 x280 x281) := by funext x278 x279 x280 x281; exact f30_1_eq c lf lf x278 x279 x280 x281
 rw [e0, e1]; rfl
def f29_0_s (c : Orc) (lf : Nat) (l0 : List T) (L : Int → Int → Option (List T)) (x293 x294 : Int) : Option (List T) :=
 bif iLt x294 (l0.length : Int) then
  bif inR x294 l0.length then
  bif iLt (IntKind.wrap .i64 (x293 + ((asL (l0.getD x294.toNat T.u)).length : Int))) 0 then
   none
  else
   L (IntKind.wrap .i64 (x293 + ((asL (l0.getD x294.toNat T.u)).length : Int))) (IntKind.wrap .i64 (x294 + 1))
  else none
 else
  some [T.i .i64 0, T.sl l0, T.i .i64 x293]
def f29_0_c (l0 : List T) (x293 x294 : Int) : CSt := ⟨[.ro 0 false [.sl false [.i .i64]] l0, .i .i64 x293, .ro 0 false [.sl false [.i .i64]] l0, .i .i64 (l0.length : Int), .i .i64 x294], [.dead]⟩
theorem f29_0_round (c : Orc) (lf : Nat) (l0 : List T) (L : CSt → Option (List T)) (x293 x294 : Int) :
 roundK c env lf 6 fi29 1 3 [] [0, 3, 9, 10, 11] (x29_3_0) L (f29_0_c l0 x293 x294) = f29_0_s c lf l0 (fun x293 x294 => L (f29_0_c l0 x293 x294)) x293 x294 := by kernel_rfl
def f29_0 (c : Orc) (lf : Nat) (l0 : List T) : Nat → Int → Int → Option (List T)
 | 0 => fun _ _ => none
 | n + 1 => fun x293 x294 => f29_0_s c lf l0 (f29_0 c lf l0 n) x293 x294
theorem f29_0_u (c : Orc) (lf : Nat) (l0 : List T) (n : Nat) (x293 x294 : Int) : f29_0 c lf l0 (n + 1) x293 x294 = f29_0_s c lf l0 (f29_0 c lf l0 n) x293 x294 := rfl
theorem f29_0_eq (c : Orc) (lf : Nat) (l0 : List T) (n : Nat) (x293 x294 : Int) :
 lpK c env lf 6 fi29 1 3 [] [0, 3, 9, 10, 11] (x29_3_0) n (f29_0_c l0 x293 x294) = f29_0 c lf l0 n x293 x294 := by
 induction n generalizing x293 x294 with
 | zero => rfl
 | succ n ih =>
  refine (f29_0_round c lf l0 _ x293 x294).trans ?_
  have e : (fun x293 x294 => lpK c env lf 6 fi29 1 3 [] [0, 3, 9, 10, 11] (x29_3_0) n (f29_0_c l0 x293 x294)) = f29_0 c lf l0 n := by funext x293 x294; exact ih x293 x294
  show f29_0_s c lf l0 (fun x293 x294 => lpK c env lf 6 fi29 1 3 [] [0, 3, 9, 10, 11] (x29_3_0) n (f29_0_c l0 x293 x294)) x293 x294 = _
  rw [e]; rfl
def f29_1_s (c : Orc) (lf : Nat) (r295 : List T) (L : Nat → Int → List T → Option (List T)) (x296 : Nat) (x297 : Int) (x298 : List T) : Option (List T) :=
 bif iLt x297 ((asL (nth r295 1)).length : Int) then
  bif inR x297 ((asL (nth r295 1)).length) then
  bif nLe (((x298.drop 0).take x296).length + (asL ((asL (nth r295 1)).getD x297.toNat T.u)).length) LIM then
  L ((((x298.drop 0).take x296) ++ (asL ((asL (nth r295 1)).getD x297.toNat T.u))).length) (IntKind.wrap .i64 (x297 + 1)) (((x298.drop 0).take x296) ++ (asL ((asL (nth r295 1)).getD x297.toNat T.u)))
  else none
  else none
 else
  some [T.i .i64 0, T.i .i64 (0 : Int), T.i .i64 (x296 : Int), T.sl x298]
def f29_1_c (r295 : List T) (x296 : Nat) (x297 : Int) (x298 : List T) : CSt := ⟨[.rf 1 [] 0 (some (0, x296)), .ro 0 false [.sl false [.i .i64]] (asL (nth r295 1)), .i .i64 ((asL (nth r295 1)).length : Int), .i .i64 x297], [.dead, .row false [.i .i64] x298 0 false]⟩
theorem f29_1_round (c : Orc) (lf : Nat) (r295 : List T) (L : CSt → Option (List T)) (x296 : Nat) (x297 : Int) (x298 : List T) :
 roundK c env lf 6 fi29 1 11 [(6, 2)] [6, 25, 26, 27] (x29_11_0) L (f29_1_c r295 x296 x297 x298) = f29_1_s c lf r295 (fun x296 x297 x298 => L (f29_1_c r295 x296 x297 x298)) x296 x297 x298 := by kernel_rfl
def f29_1 (c : Orc) (lf : Nat) (r295 : List T) : Nat → Nat → Int → List T → Option (List T)
 | 0 => fun _ _ _ => none
 | n + 1 => fun x296 x297 x298 => f29_1_s c lf r295 (f29_1 c lf r295 n) x296 x297 x298
theorem f29_1_u (c : Orc) (lf : Nat) (r295 : List T) (n x296 : Nat) (x297 : Int) (x298 : List T) : f29_1 c lf r295 (n + 1) x296 x297 x298 = f29_1_s c lf r295 (f29_1 c lf r295 n) x296 x297 x298 := rfl
theorem f29_1_eq (c : Orc) (lf : Nat) (r295 : List T) (n x296 : Nat) (x297 : Int) (x298 : List T) :
 lpK c env lf 6 fi29 1 11 [(6, 2)] [6, 25, 26, 27] (x29_11_0) n (f29_1_c r295 x296 x297 x298) = f29_1 c lf r295 n x296 x297 x298 := by
 induction n generalizing x296 x297 x298 with
 | zero => rfl
 | succ n ih =>
  refine (f29_1_round c lf r295 _ x296 x297 x298).trans ?_
  have e : (fun x296 x297 x298 => lpK c env lf 6 fi29 1 11 [(6, 2)] [6, 25, 26, 27] (x29_11_0) n (f29_1_c r295 x296 x297 x298)) = f29_1 c lf r295 n := by funext x296 x297 x298; exact ih x296 x297 x298
  show f29_1_s c lf r295 (fun x296 x297 x298 => lpK c env lf 6 fi29 1 11 [(6, 2)] [6, 25, 26, 27] (x29_11_0) n (f29_1_c r295 x296 x297 x298)) x296 x297 x298 = _
  rw [e]; rfl
def f29_t (c : Orc) (lf : Nat) (lp0 : List T → Int → Int → Option (List T)) (lp1 : List T → Nat → Int → List T → Option (List T)) (l0 : List T) : Option (List T) :=
 (lp0 l0 0 0).bind fun r295 =>
 bif iLt (asI (nth r295 2)) 0 then
  none
 else
  bif iLt 0 (IntKind.wrap .i64 ((asI (nth r295 2)) - 0)) then
  bif iLe 1 (IntKind.wrap .i64 ((asI (nth r295 2)) - 0)) && iLe (IntKind.wrap .i64 ((asI (nth r295 2)) - 0)) (LIM : Int) then
  bif iLe 0 0 && iLe 0 0 && iLe 0 (((List.replicate (IntKind.wrap .i64 ((asI (nth r295 2)) - 0)).toNat (T.i .i64 0)).length : Nat) : Int) then
  (lp1 r295 (0 - 0) 0 (List.replicate (IntKind.wrap .i64 ((asI (nth r295 2)) - 0)).toNat (T.i .i64 0))).bind fun r299 =>
  some [T.sl (((asL (nth r299 3)).drop ((asI (nth r299 1)).toNat)).take ((asI (nth r299 2)).toNat))]
  else none
  else none
  else none
def f29 (c : Orc) (lf : Nat) (l0 : List T) : Option (List T) := f29_t c lf (fun (l0 : List T) (x293 x294 : Int) => f29_0 c lf l0 lf x293 x294) (fun (r295 : List T) (x296 : Nat) (x297 : Int) (x298 : List T) => f29_1 c lf r295 lf x296 x297 x298) l0
theorem f29_raw (c : Orc) (lf : Nat) (l0 : List T) : funK c env lf 6 fi29 [.sl l0] = f29_t c lf (fun (l0 : List T) (x293 x294 : Int) => lpK c env lf 6 fi29 1 3 [] [0, 3, 9, 10, 11] (x29_3_0) lf (f29_0_c l0 x293 x294)) (fun (r295 : List T) (x296 : Nat) (x297 : Int) (x298 : List T) => lpK c env lf 6 fi29 1 11 [(6, 2)] [6, 25, 26, 27] (x29_11_0) lf (f29_1_c r295 x296 x297 x298)) l0 := by kernel_rfl
theorem f29_eq (c : Orc) (lf : Nat) (l0 : List T) : funK c env lf 6 fi29 [.sl l0] = f29 c lf l0 := by
 refine (f29_raw c lf l0).trans ?_
 have e0 : (fun (l0 : List T) (x293 x294 : Int) => lpK c env lf 6 fi29 1 3 [] [0, 3, 9, 10, 11] (x29_3_0) lf (f29_0_c l0 x293 x294)) = (fun (l0 : List T) (x293 x294 : Int) => f29_0 c lf l0 lf x293 x294) := by funext l0 x293 x294; exact f29_0_eq c lf l0 lf x293 x294
 have e1 : (fun (r295 : List T) (x296 : Nat) (x297 : Int) (x298 : List T) => lpK c env lf 6 fi29 1 11 [(6, 2)] [6, 25, 26, 27] (x29_11_0) lf (f29_1_c r295 x296 x297 x298)) = (fun (r295 : List T) (x296 : Nat) (x297 : Int) (x298 : List T) => f29_1 c lf r295 lf x296 x297 x298) := by funext r295 x296 x297 x298; exact f29_1_eq c lf r295 lf x296 x297 x298
 rw [e0, e1]; rfl
def f33_1_s (c : Orc) (lf : Nat) (l0 : List T) (x314 : Int) (L : Int → Int → List T → Option (List T)) (x315 x316 : Int) (x317 : List T) : Option (List T) :=
 bif iLt x316 ((((l0.length : Int).toNat) - x314.toNat : Nat) : Int) then
  bif inR x316 (((l0.length : Int).toNat) - x314.toNat) then
  bif inR (IntKind.wrap .i64 (x316 - 1)) (((l0.length : Int).toNat) - x314.toNat) then
  bif (asI (x317.getD (x314.toNat + x316.toNat) T.u)) != (asI (x317.getD (x314.toNat + ((IntKind.wrap .i64 (x316 - 1)).toNat)) T.u)) then
   bif inR x316 (((l0.length : Int).toNat) - x314.toNat) then
   bif inR x315 x317.length then
   L (IntKind.wrap .i64 (x315 + 1)) (IntKind.wrap .i64 (x316 + 1)) (x317.set x315.toNat (T.i .i64 (asI (x317.getD (x314.toNat + x316.toNat) T.u))))
   else none
   else none
  else
   L x315 (IntKind.wrap .i64 (x316 + 1)) x317
  else none
  else none
 else
  some [T.i .i64 0, T.i .i64 x315, T.sl x317]
def f33_1_c (l0 : List T) (x314 x315 x316 : Int) (x317 : List T) : CSt := ⟨[.rf 1 [] 0 none, .i .i64 x315, .rf 1 [] 0 (some (x314.toNat, ((l0.length : Int).toNat) - x314.toNat)), .i .i64 x316], [.dead, .row false [.i .i64] x317 0 false]⟩
theorem f33_1_round (c : Orc) (lf : Nat) (l0 : List T) (x314 : Int) (L : CSt → Option (List T)) (x315 x316 : Int) (x317 : List T) :
 roundK c env lf 6 fi33 1 9 [] [0, 3, 4, 5] (x33_9_0) L (f33_1_c l0 x314 x315 x316 x317) = f33_1_s c lf l0 x314 (fun x315 x316 x317 => L (f33_1_c l0 x314 x315 x316 x317)) x315 x316 x317 := by kernel_rfl
def f33_1 (c : Orc) (lf : Nat) (l0 : List T) (x314 : Int) : Nat → Int → Int → List T → Option (List T)
 | 0 => fun _ _ _ => none
 | n + 1 => fun x315 x316 x317 => f33_1_s c lf l0 x314 (f33_1 c lf l0 x314 n) x315 x316 x317
theorem f33_1_u (c : Orc) (lf : Nat) (l0 : List T) (x314 : Int) (n : Nat) (x315 x316 : Int) (x317 : List T) : f33_1 c lf l0 x314 (n + 1) x315 x316 x317 = f33_1_s c lf l0 x314 (f33_1 c lf l0 x314 n) x315 x316 x317 := rfl
theorem f33_1_eq (c : Orc) (lf : Nat) (l0 : List T) (x314 : Int) (n : Nat) (x315 x316 : Int) (x317 : List T) :
 lpK c env lf 6 fi33 1 9 [] [0, 3, 4, 5] (x33_9_0) n (f33_1_c l0 x314 x315 x316 x317) = f33_1 c lf l0 x314 n x315 x316 x317 := by
 induction n generalizing x315 x316 x317 with
 | zero => rfl
 | succ n ih =>
  refine (f33_1_round c lf l0 x314 _ x315 x316 x317).trans ?_
  have e : (fun x315 x316 x317 => lpK c env lf 6 fi33 1 9 [] [0, 3, 4, 5] (x33_9_0) n (f33_1_c l0 x314 x315 x316 x317)) = f33_1 c lf l0 x314 n := by funext x315 x316 x317; exact ih x315 x316 x317
  show f33_1_s c lf l0 x314 (fun x315 x316 x317 => lpK c env lf 6 fi33 1 9 [] [0, 3, 4, 5] (x33_9_0) n (f33_1_c l0 x314 x315 x316 x317)) x315 x316 x317 = _
  rw [e]; rfl
def f33_0_s (c : Orc) (lf : Nat) (l0 : List T) (L : Int → Option (List T)) (lp0 : List T → Int → Int → Int → List T → Option (List T)) (x314 : Int) : Option (List T) :=
 bif iLt x314 (l0.length : Int) then
  bif inR x314 l0.length then
  bif inR (IntKind.wrap .i64 (x314 - 1)) l0.length then
  bif (asI (l0.getD x314.toNat T.u)) == (asI (l0.getD ((IntKind.wrap .i64 (x314 - 1)).toNat) T.u)) then
   bif iLe 0 x314 && iLe x314 (l0.length : Int) && iLe (l0.length : Int) (l0.length : Int) then
   (lp0 l0 x314 x314 1 l0).bind fun r318 =>
   bif iLe 0 (asI (nth r318 1)) && iLe (asI (nth r318 1)) ((asL (nth r318 2)).length : Int) && iLe ((asL (nth r318 2)).length : Int) ((asL (nth r318 2)).length : Int) then
   bif iLe 0 0 && iLe 0 (asI (nth r318 1)) && iLe (asI (nth r318 1)) (((splice (asL (nth r318 2)) ((asI (nth r318 1)).toNat) (List.replicate (((asL (nth r318 2)).drop ((asI (nth r318 1)).toNat)).take ((((asL (nth r318 2)).length : Int).toNat) - ((asI (nth r318 1)).toNat))).length (T.i .i64 0))).length : Nat) : Int) then
   some [T.i .i64 0, T.i .i64 (0 : Int), T.i .i64 (((((asI (nth r318 1)).toNat) - 0) : Nat) : Int), T.sl (splice (asL (nth r318 2)) ((asI (nth r318 1)).toNat) (List.replicate (((asL (nth r318 2)).drop ((asI (nth r318 1)).toNat)).take ((((asL (nth r318 2)).length : Int).toNat) - ((asI (nth r318 1)).toNat))).length (T.i .i64 0)))]
   else none
   else none
   else none
  else
   L (IntKind.wrap .i64 (x314 + 1))
  else none
  else none
 else
  some [T.i .i64 1, T.sl l0]
def f33_0_c (l0 : List T) (x314 : Int) : CSt := ⟨[.rf 1 [] 0 none, .i .i64 x314], [.dead, .row false [.i .i64] l0 0 false]⟩
theorem f33_0_round (c : Orc) (lf : Nat) (l0 : List T) (L : CSt → Option (List T)) (x314 : Int) :
 roundK c env lf 6 fi33 1 4 [] [0, 3] (x33_4_0) L (f33_0_c l0 x314) = f33_0_s c lf l0 (fun x314 => L (f33_0_c l0 x314)) (fun (l0 : List T) (x314 x315 x316 : Int) (x317 : List T) => lpK c env lf 6 fi33 1 9 [] [0, 3, 4, 5] (x33_9_0) lf (f33_1_c l0 x314 x315 x316 x317)) x314 := by kernel_rfl
def f33_0 (c : Orc) (lf : Nat) (l0 : List T) : Nat → Int → Option (List T)
 | 0 => fun _ => none
 | n + 1 => fun x314 => f33_0_s c lf l0 (f33_0 c lf l0 n) (fun (l0 : List T) (x314 x315 x316 : Int) (x317 : List T) => f33_1 c lf l0 x314 lf x315 x316 x317) x314
theorem f33_0_u (c : Orc) (lf : Nat) (l0 : List T) (n : Nat) (x314 : Int) : f33_0 c lf l0 (n + 1) x314 = f33_0_s c lf l0 (f33_0 c lf l0 n) (fun (l0 : List T) (x314 x315 x316 : Int) (x317 : List T) => f33_1 c lf l0 x314 lf x315 x316 x317) x314 := rfl
theorem f33_0_eq (c : Orc) (lf : Nat) (l0 : List T) (n : Nat) (x314 : Int) :
 lpK c env lf 6 fi33 1 4 [] [0, 3] (x33_4_0) n (f33_0_c l0 x314) = f33_0 c lf l0 n x314 := by
 induction n generalizing x314 with
 | zero => rfl
 | succ n ih =>
  refine (f33_0_round c lf l0 _ x314).trans ?_
  have e : (fun x314 => lpK c env lf 6 fi33 1 4 [] [0, 3] (x33_4_0) n (f33_0_c l0 x314)) = f33_0 c lf l0 n := by funext x314; exact ih x314
  have e0 : (fun (l0 : List T) (x314 x315 x316 : Int) (x317 : List T) => lpK c env lf 6 fi33 1 9 [] [0, 3, 4, 5] (x33_9_0) lf (f33_1_c l0 x314 x315 x316 x317)) = (fun (l0 : List T) (x314 x315 x316 : Int) (x317 : List T) => f33_1 c lf l0 x314 lf x315 x316 x317) := by funext l0 x314 x315 x316 x317; exact f33_1_eq c lf l0 x314 lf x315 x316 x317
  show f33_0_s c lf l0 (fun x314 => lpK c env lf 6 fi33 1 4 [] [0, 3] (x33_4_0) n (f33_0_c l0 x314)) (fun (l0 : List T) (x314 x315 x316 : Int) (x317 : List T) => lpK c env lf 6 fi33 1 9 [] [0, 3, 4, 5] (x33_9_0) lf (f33_1_c l0 x314 x315 x316 x317)) x314 = _
  rw [e, e0]; rfl
def f33_t (c : Orc) (lf : Nat) (lp0 : List T → Int → Option (List T)) (l0 : List T) : Option (List T) :=
 bif iLt (l0.length : Int) 2 then
  some [T.sl l0]
 else
  (lp0 l0 1).bind fun r319 =>
  bif asI (nth r319 0) == 0 then
   some [T.sl (((asL (nth r319 3)).drop ((asI (nth r319 1)).toNat)).take ((asI (nth r319 2)).toNat))]
  else
   some [T.sl (asL (nth r319 1))]
def f33 (c : Orc) (lf : Nat) (l0 : List T) : Option (List T) := f33_t c lf (fun (l0 : List T) (x314 : Int) => f33_0 c lf l0 lf x314) l0
theorem f33_raw (c : Orc) (lf : Nat) (l0 : List T) : funK c env lf 6 fi33 [.sl l0] = f33_t c lf (fun (l0 : List T) (x314 : Int) => lpK c env lf 6 fi33 1 4 [] [0, 3] (x33_4_0) lf (f33_0_c l0 x314)) l0 := by kernel_rfl
theorem f33_eq (c : Orc) (lf : Nat) (l0 : List T) : funK c env lf 6 fi33 [.sl l0] = f33 c lf l0 := by
 refine (f33_raw c lf l0).trans ?_
 have e0 : (fun (l0 : List T) (x314 : Int) => lpK c env lf 6 fi33 1 4 [] [0, 3] (x33_4_0) lf (f33_0_c l0 x314)) = (fun (l0 : List T) (x314 : Int) => f33_0 c lf l0 lf x314) := by funext l0 x314; exact f33_0_eq c lf l0 lf x314
 rw [e0]; rfl
def f34_t (c : Orc) (lf : Nat) (n0 : Int) : Option (List T) :=
 some [T.b (iLt n0 0)]
def f34 (c : Orc) (lf : Nat) (n0 : Int) : Option (List T) := f34_t c lf n0
theorem f34_eq (c : Orc) (lf : Nat) (n0 : Int) : funK c env lf 6 fi34 [.i .i64 n0] = f34 c lf n0 := by kernel_rfl
def f9_0_s (c : Orc) (lf : Nat) (r337 : List T) (L : Int → Option (List T)) (x339 : Int) : Option (List T) :=
 bif iLt x339 ((asL (nth r337 0)).length : Int) then
  bif inR x339 ((asL (nth r337 0)).length) then
  (c 34 [T.i .i64 (asI ((asL (nth r337 0)).getD x339.toNat T.u))]).bind fun r340 =>
  bif asB (nth r340 0) then
   some [T.i .i64 0, T.i .i64 x339, T.sl (asL (nth r337 0))]
  else
   L (IntKind.wrap .i64 (x339 + 1))
  else none
 else
  some [T.i .i64 1, T.sl (asL (nth r337 0))]
def f9_0_c (r337 : List T) (x339 : Int) : CSt := ⟨[.rf 0 [] 0 none, .fn 34 [], .i .i64 ((asL (nth r337 0)).length : Int), .i .i64 x339], [.row false [.i .i64] (asL (nth r337 0)) 0 false]⟩
theorem f9_0_round (c : Orc) (lf : Nat) (r337 : List T) (L : CSt → Option (List T)) (x339 : Int) :
 roundK c env lf 4 fi59 1 2 [] [0, 1, 7, 8] (x59_2_0) L (f9_0_c r337 x339) = f9_0_s c lf r337 (fun x339 => L (f9_0_c r337 x339)) x339 := by kernel_rfl
def f9_0 (c : Orc) (lf : Nat) (r337 : List T) : Nat → Int → Option (List T)
 | 0 => fun _ => none
 | n + 1 => fun x339 => f9_0_s c lf r337 (f9_0 c lf r337 n) x339
theorem f9_0_u (c : Orc) (lf : Nat) (r337 : List T) (n : Nat) (x339 : Int) : f9_0 c lf r337 (n + 1) x339 = f9_0_s c lf r337 (f9_0 c lf r337 n) x339 := rfl
theorem f9_0_eq (c : Orc) (lf : Nat) (r337 : List T) (n : Nat) (x339 : Int) :
 lpK c env lf 4 fi59 1 2 [] [0, 1, 7, 8] (x59_2_0) n (f9_0_c r337 x339) = f9_0 c lf r337 n x339 := by
 induction n generalizing x339 with
 | zero => rfl
 | succ n ih =>
  refine (f9_0_round c lf r337 _ x339).trans ?_
  have e : (fun x339 => lpK c env lf 4 fi59 1 2 [] [0, 1, 7, 8] (x59_2_0) n (f9_0_c r337 x339)) = f9_0 c lf r337 n := by funext x339; exact ih x339
  show f9_0_s c lf r337 (fun x339 => lpK c env lf 4 fi59 1 2 [] [0, 1, 7, 8] (x59_2_0) n (f9_0_c r337 x339)) x339 = _
  rw [e]; rfl
def f9_1_s (c : Orc) (lf : Nat) (L : Int → Int → List T → Option (List T)) (x343 x344 : Int) (x345 : List T) : Option (List T) :=
 bif iLt x344 (x345.length : Int) then
  bif inR x344 x345.length then
  (c 34 [T.i .i64 (asI (x345.getD x344.toNat T.u))]).bind fun r346 =>
  bif !(asB (nth r346 0)) then
   bif inR x343 x345.length then
   L (IntKind.wrap .i64 (x343 + 1)) (IntKind.wrap .i64 (x344 + 1)) (x345.set x343.toNat (T.i .i64 (asI (x345.getD x344.toNat T.u))))
   else none
  else
   L x343 (IntKind.wrap .i64 (x344 + 1)) x345
  else none
 else
  some [T.i .i64 0, T.i .i64 x343, T.sl x345]
def f9_1_c (x343 x344 : Int) (x345 : List T) : CSt := ⟨[.rf 0 [] 0 none, .fn 34 [], .i .i64 x343, .i .i64 x344], [.row false [.i .i64] x345 0 false]⟩
theorem f9_1_round (c : Orc) (lf : Nat) (L : CSt → Option (List T)) (x343 x344 : Int) (x345 : List T) :
 roundK c env lf 5 fi32 1 5 [] [0, 1, 5, 6] (x32_5_0) L (f9_1_c x343 x344 x345) = f9_1_s c lf (fun x343 x344 x345 => L (f9_1_c x343 x344 x345)) x343 x344 x345 := by kernel_rfl
def f9_1 (c : Orc) (lf : Nat) : Nat → Int → Int → List T → Option (List T)
 | 0 => fun _ _ _ => none
 | n + 1 => fun x343 x344 x345 => f9_1_s c lf (f9_1 c lf n) x343 x344 x345
theorem f9_1_u (c : Orc) (lf n : Nat) (x343 x344 : Int) (x345 : List T) : f9_1 c lf (n + 1) x343 x344 x345 = f9_1_s c lf (f9_1 c lf n) x343 x344 x345 := rfl
theorem f9_1_eq (c : Orc) (lf n : Nat) (x343 x344 : Int) (x345 : List T) :
 lpK c env lf 5 fi32 1 5 [] [0, 1, 5, 6] (x32_5_0) n (f9_1_c x343 x344 x345) = f9_1 c lf n x343 x344 x345 := by
 induction n generalizing x343 x344 x345 with
 | zero => rfl
 | succ n ih =>
  refine (f9_1_round c lf _ x343 x344 x345).trans ?_
  have e : (fun x343 x344 x345 => lpK c env lf 5 fi32 1 5 [] [0, 1, 5, 6] (x32_5_0) n (f9_1_c x343 x344 x345)) = f9_1 c lf n := by funext x343 x344 x345; exact ih x343 x344 x345
  show f9_1_s c lf (fun x343 x344 x345 => lpK c env lf 5 fi32 1 5 [] [0, 1, 5, 6] (x32_5_0) n (f9_1_c x343 x344 x345)) x343 x344 x345 = _
  rw [e]; rfl
def f9_t (c : Orc) (lf : Nat) (lp0 : List T → Int → Option (List T)) (lp1 : Int → Int → List T → Option (List T)) (l0_0 : List T) (n0_1 n0_2 : Int) (l0_3 l0_4 : List T) (n0_5 n0_6 : Int) : Option (List T) :=
 (c 30 [T.st [T.sl l0_0, T.i .i64 n0_1, T.i .i64 n0_2, T.sl l0_3, T.sl l0_4, T.i .i64 n0_5, T.i .i64 n0_6]]).bind fun r334 =>
 bif nLe ((asL (nth r334 0)).length + ([T.sl ([T.i .i64 n0_6, T.i .i64 n0_5] : List T)] : List T).length) LIM then
 (c 29 [T.sl ((asL (nth r334 0)) ++ ([T.sl ([T.i .i64 n0_6, T.i .i64 n0_5] : List T)] : List T))]).bind fun r335 =>
 (c 31 [T.sl (asL (nth r335 0))]).bind fun r336 =>
 (c 33 [T.sl (asL (nth r336 0))]).bind fun r337 =>
 (lp0 r337 0).bind fun r341 =>
 bif asI (nth r341 0) == 0 then
  bif (asI (nth r341 1)) == (-1) then
   some [T.sl (asL (nth r341 2))]
  else
   (lp1 (asI (nth r341 1)) (IntKind.wrap .i64 ((asI (nth r341 1)) + 1)) (asL (nth r341 2))).bind fun r347 =>
   bif iLe 0 (asI (nth r347 1)) && iLe (asI (nth r347 1)) ((asL (nth r347 2)).length : Int) && iLe ((asL (nth r347 2)).length : Int) ((asL (nth r347 2)).length : Int) then
   bif iLe 0 0 && iLe 0 (asI (nth r347 1)) && iLe (asI (nth r347 1)) (((splice (asL (nth r347 2)) ((asI (nth r347 1)).toNat) (List.replicate (((asL (nth r347 2)).drop ((asI (nth r347 1)).toNat)).take ((((asL (nth r347 2)).length : Int).toNat) - ((asI (nth r347 1)).toNat))).length (T.i .i64 0))).length : Nat) : Int) then
   some [T.sl (((splice (asL (nth r347 2)) ((asI (nth r347 1)).toNat) (List.replicate (((asL (nth r347 2)).drop ((asI (nth r347 1)).toNat)).take ((((asL (nth r347 2)).length : Int).toNat) - ((asI (nth r347 1)).toNat))).length (T.i .i64 0))).drop 0).take (((asI (nth r347 1)).toNat) - 0))]
   else none
   else none
 else
  some [T.sl (asL (nth r341 1))]
 else none
def f9 (c : Orc) (lf : Nat) (l0_0 : List T) (n0_1 n0_2 : Int) (l0_3 l0_4 : List T) (n0_5 n0_6 : Int) : Option (List T) := f9_t c lf (fun (r337 : List T) (x339 : Int) => f9_0 c lf r337 lf x339) (fun (x343 x344 : Int) (x345 : List T) => f9_1 c lf lf x343 x344 x345) l0_0 n0_1 n0_2 l0_3 l0_4 n0_5 n0_6
theorem f9_raw (c : Orc) (lf : Nat) (l0_0 : List T) (n0_1 n0_2 : Int) (l0_3 l0_4 : List T) (n0_5 n0_6 : Int) : funK c env lf 6 fi9 [.st [.sl l0_0, .i .i64 n0_1, .i .i64 n0_2, .sl l0_3, .sl l0_4, .i .i64 n0_5, .i .i64 n0_6]] = f9_t c lf (fun (r337 : List T) (x339 : Int) => lpK c env lf 4 fi59 1 2 [] [0, 1, 7, 8] (x59_2_0) lf (f9_0_c r337 x339)) (fun (x343 x344 : Int) (x345 : List T) => lpK c env lf 5 fi32 1 5 [] [0, 1, 5, 6] (x32_5_0) lf (f9_1_c x343 x344 x345)) l0_0 n0_1 n0_2 l0_3 l0_4 n0_5 n0_6 := by kernel_rfl
theorem f9_eq (c : Orc) (lf : Nat) (l0_0 : List T) (n0_1 n0_2 : Int) (l0_3 l0_4 : List T) (n0_5 n0_6 : Int) : funK c env lf 6 fi9 [.st [.sl l0_0, .i .i64 n0_1, .i .i64 n0_2, .sl l0_3, .sl l0_4, .i .i64 n0_5, .i .i64 n0_6]] = f9 c lf l0_0 n0_1 n0_2 l0_3 l0_4 n0_5 n0_6 := by
 refine (f9_raw c lf l0_0 n0_1 n0_2 l0_3 l0_4 n0_5 n0_6).trans ?_
 have e0 : (fun (r337 : List T) (x339 : Int) => lpK c env lf 4 fi59 1 2 [] [0, 1, 7, 8] (x59_2_0) lf (f9_0_c r337 x339)) = (fun (r337 : List T) (x339 : Int) => f9_0 c lf r337 lf x339) := by funext r337 x339; exact f9_0_eq c lf r337 lf x339
 have e1 : (fun (x343 x344 : Int) (x345 : List T) => lpK c env lf 5 fi32 1 5 [] [0, 1, 5, 6] (x32_5_0) lf (f9_1_c x343 x344 x345)) = (fun (x343 x344 : Int) (x345 : List T) => f9_1 c lf lf x343 x344 x345) := by funext x343 x344 x345; exact f9_1_eq c lf lf x343 x344 x345
 rw [e0, e1]; rfl
def f10_0_s (c : Orc) (lf : Nat) (l0 l1 : List T) (L : Int → Option (List T)) (x350 : Int) : Option (List T) :=
 bif iLt x350 (l0.length : Int) then
  bif inR x350 l0.length then
  bif inR x350 l1.length then
  bif (asI (l0.getD x350.toNat T.u)) != (asI (l1.getD x350.toNat T.u)) then
   some [T.i .i64 0, T.b false]
  else
   L (IntKind.wrap .i64 (x350 + 1))
  else none
  else none
 else
  some [T.i .i64 1]
def f10_0_c (l0 l1 : List T) (x350 : Int) : CSt := ⟨[.ro 0 false [.i .i64] l0, .ro 0 false [.i .i64] l1, .i .i64 x350], [.dead, .dead]⟩
theorem f10_0_round (c : Orc) (lf : Nat) (l0 l1 : List T) (L : CSt → Option (List T)) (x350 : Int) :
 roundK c env lf 6 fi10 2 4 [] [0, 1, 5] (x10_4_0) L (f10_0_c l0 l1 x350) = f10_0_s c lf l0 l1 (fun x350 => L (f10_0_c l0 l1 x350)) x350 := by kernel_rfl
def f10_0 (c : Orc) (lf : Nat) (l0 l1 : List T) : Nat → Int → Option (List T)
 | 0 => fun _ => none
 | n + 1 => fun x350 => f10_0_s c lf l0 l1 (f10_0 c lf l0 l1 n) x350
theorem f10_0_eq (c : Orc) (lf : Nat) (l0 l1 : List T) (n : Nat) (x350 : Int) :
 lpK c env lf 6 fi10 2 4 [] [0, 1, 5] (x10_4_0) n (f10_0_c l0 l1 x350) = f10_0 c lf l0 l1 n x350 := by
 induction n generalizing x350 with
 | zero => rfl
 | succ n ih =>
  refine (f10_0_round c lf l0 l1 _ x350).trans ?_
  have e : (fun x350 => lpK c env lf 6 fi10 2 4 [] [0, 1, 5] (x10_4_0) n (f10_0_c l0 l1 x350)) = f10_0 c lf l0 l1 n := by funext x350; exact ih x350
  show f10_0_s c lf l0 l1 (fun x350 => lpK c env lf 6 fi10 2 4 [] [0, 1, 5] (x10_4_0) n (f10_0_c l0 l1 x350)) x350 = _
  rw [e]; rfl
def f10_t (c : Orc) (lf : Nat) (lp0 : List T → List T → Int → Option (List T)) (l0 l1 : List T) : Option (List T) :=
 bif (l0.length : Int) != (l1.length : Int) then
  some [T.b false]
 else
  (lp0 l0 l1 0).bind fun r351 =>
  bif asI (nth r351 0) == 0 then
   some [T.b (asB (nth r351 1))]
  else
   some [T.b true]
def f10 (c : Orc) (lf : Nat) (l0 l1 : List T) : Option (List T) := f10_t c lf (fun (l0 l1 : List T) (x350 : Int) => f10_0 c lf l0 l1 lf x350) l0 l1
theorem f10_raw (c : Orc) (lf : Nat) (l0 l1 : List T) : funK c env lf 6 fi10 [.sl l0, .sl l1] = f10_t c lf (fun (l0 l1 : List T) (x350 : Int) => lpK c env lf 6 fi10 2 4 [] [0, 1, 5] (x10_4_0) lf (f10_0_c l0 l1 x350)) l0 l1 := by kernel_rfl
theorem f10_eq (c : Orc) (lf : Nat) (l0 l1 : List T) : funK c env lf 6 fi10 [.sl l0, .sl l1] = f10 c lf l0 l1 := by
 refine (f10_raw c lf l0 l1).trans ?_
 have e0 : (fun (l0 l1 : List T) (x350 : Int) => lpK c env lf 6 fi10 2 4 [] [0, 1, 5] (x10_4_0) lf (f10_0_c l0 l1 x350)) = (fun (l0 l1 : List T) (x350 : Int) => f10_0 c lf l0 l1 lf x350) := by funext l0 l1 x350; exact f10_0_eq c lf l0 l1 lf x350
 rw [e0]; rfl
def f138_0_s (c : Orc) (lf : Nat) (l0 l1 : List T) (L : Int → Option (List T)) (x354 : Int) : Option (List T) :=
 bif iLt x354 (l0.length : Int) then
  bif inR x354 l0.length then
  bif inR x354 l1.length then
  bif (asI (l0.getD x354.toNat T.u)) != (asI (l1.getD x354.toNat T.u)) then
   some [T.i .i64 0, T.b false]
  else
   L (IntKind.wrap .i64 (x354 + 1))
  else none
  else none
 else
  some [T.i .i64 1]
def f138_0_c (l0 l1 : List T) (x354 : Int) : CSt := ⟨[.ro 0 false [.i .u8] l0, .ro 0 false [.i .u8] l1, .i .i64 x354], [.dead, .dead]⟩
theorem f138_0_round (c : Orc) (lf : Nat) (l0 l1 : List T) (L : CSt → Option (List T)) (x354 : Int) :
 roundK c env lf 6 fi138 2 4 [] [0, 1, 5] (x138_4_0) L (f138_0_c l0 l1 x354) = f138_0_s c lf l0 l1 (fun x354 => L (f138_0_c l0 l1 x354)) x354 := by kernel_rfl
def f138_0 (c : Orc) (lf : Nat) (l0 l1 : List T) : Nat → Int → Option (List T)
 | 0 => fun _ => none
 | n + 1 => fun x354 => f138_0_s c lf l0 l1 (f138_0 c lf l0 l1 n) x354
theorem f138_0_eq (c : Orc) (lf : Nat) (l0 l1 : List T) (n : Nat) (x354 : Int) :
 lpK c env lf 6 fi138 2 4 [] [0, 1, 5] (x138_4_0) n (f138_0_c l0 l1 x354) = f138_0 c lf l0 l1 n x354 := by
 induction n generalizing x354 with
 | zero => rfl
 | succ n ih =>
  refine (f138_0_round c lf l0 l1 _ x354).trans ?_
  have e : (fun x354 => lpK c env lf 6 fi138 2 4 [] [0, 1, 5] (x138_4_0) n (f138_0_c l0 l1 x354)) = f138_0 c lf l0 l1 n := by funext x354; exact ih x354
  show f138_0_s c lf l0 l1 (fun x354 => lpK c env lf 6 fi138 2 4 [] [0, 1, 5] (x138_4_0) n (f138_0_c l0 l1 x354)) x354 = _
  rw [e]; rfl
def f138_t (c : Orc) (lf : Nat) (lp0 : List T → List T → Int → Option (List T)) (l0 l1 : List T) : Option (List T) :=
 bif (l0.length : Int) != (l1.length : Int) then
  some [T.b false]
 else
  (lp0 l0 l1 0).bind fun r355 =>
  bif asI (nth r355 0) == 0 then
   some [T.b (asB (nth r355 1))]
  else
   some [T.b true]
def f138 (c : Orc) (lf : Nat) (l0 l1 : List T) : Option (List T) := f138_t c lf (fun (l0 l1 : List T) (x354 : Int) => f138_0 c lf l0 l1 lf x354) l0 l1
theorem f138_raw (c : Orc) (lf : Nat) (l0 l1 : List T) : funK c env lf 6 fi138 [.sl l0, .sl l1] = f138_t c lf (fun (l0 l1 : List T) (x354 : Int) => lpK c env lf 6 fi138 2 4 [] [0, 1, 5] (x138_4_0) lf (f138_0_c l0 l1 x354)) l0 l1 := by kernel_rfl
theorem f138_eq (c : Orc) (lf : Nat) (l0 l1 : List T) : funK c env lf 6 fi138 [.sl l0, .sl l1] = f138 c lf l0 l1 := by
 refine (f138_raw c lf l0 l1).trans ?_
 have e0 : (fun (l0 l1 : List T) (x354 : Int) => lpK c env lf 6 fi138 2 4 [] [0, 1, 5] (x138_4_0) lf (f138_0_c l0 l1 x354)) = (fun (l0 l1 : List T) (x354 : Int) => f138_0 c lf l0 l1 lf x354) := by funext l0 l1 x354; exact f138_0_eq c lf l0 l1 lf x354
 rw [e0]; rfl
def f145_t (c : Orc) (lf : Nat) (s0_0 : ByteArray) (n0_1 : Int) (s1_0 : ByteArray) (n1_1 : Int) : Option (List T) :=
 bif !(s0_0.toList == s1_0.toList) then
  some [T.b false]
 else
  bif n0_1 != n1_1 then
   some [T.b false]
  else
   some [T.b true]
def f145 (c : Orc) (lf : Nat) (s0_0 : ByteArray) (n0_1 : Int) (s1_0 : ByteArray) (n1_1 : Int) : Option (List T) := f145_t c lf s0_0 n0_1 s1_0 n1_1
theorem f145_eq (c : Orc) (lf : Nat) (s0_0 : ByteArray) (n0_1 : Int) (s1_0 : ByteArray) (n1_1 : Int) : funK c env lf 6 fi145 [.st [.s s0_0, .i .i64 n0_1], .st [.s s1_0, .i .i64 n1_1]] = f145 c lf s0_0 n0_1 s1_0 n1_1 := by kernel_rfl
def f139_0_s (c : Orc) (lf : Nat) (l0 l1 : List T) (L : Int → Option (List T)) (x361 : Int) : Option (List T) :=
 bif iLt x361 (l0.length : Int) then
  bif inR x361 l0.length then
  bif inR x361 l1.length then
  (c 145 [T.st [T.s (asS (T.cell (l0.getD x361.toNat T.u) 0)), T.i .i64 (asI (T.cell (l0.getD x361.toNat T.u) 1))], T.st [T.s (asS (T.cell (l1.getD x361.toNat T.u) 0)), T.i .i64 (asI (T.cell (l1.getD x361.toNat T.u) 1))]]).bind fun r362 =>
  bif !(asB (nth r362 0)) then
   some [T.i .i64 0, T.b false]
  else
   L (IntKind.wrap .i64 (x361 + 1))
  else none
  else none
 else
  some [T.i .i64 1]
def f139_0_c (l0 l1 : List T) (x361 : Int) : CSt := ⟨[.ro 0 true [.s, .i .i64] l0, .ro 0 true [.s, .i .i64] l1, .i .i64 x361], [.dead, .dead]⟩
theorem f139_0_round (c : Orc) (lf : Nat) (l0 l1 : List T) (L : CSt → Option (List T)) (x361 : Int) :
 roundK c env lf 6 fi139 2 4 [] [0, 1, 5] (x139_4_0) L (f139_0_c l0 l1 x361) = f139_0_s c lf l0 l1 (fun x361 => L (f139_0_c l0 l1 x361)) x361 := by kernel_rfl
def f139_0 (c : Orc) (lf : Nat) (l0 l1 : List T) : Nat → Int → Option (List T)
 | 0 => fun _ => none
 | n + 1 => fun x361 => f139_0_s c lf l0 l1 (f139_0 c lf l0 l1 n) x361
theorem f139_0_eq (c : Orc) (lf : Nat) (l0 l1 : List T) (n : Nat) (x361 : Int) :
 lpK c env lf 6 fi139 2 4 [] [0, 1, 5] (x139_4_0) n (f139_0_c l0 l1 x361) = f139_0 c lf l0 l1 n x361 := by
 induction n generalizing x361 with
 | zero => rfl
 | succ n ih =>
  refine (f139_0_round c lf l0 l1 _ x361).trans ?_
  have e : (fun x361 => lpK c env lf 6 fi139 2 4 [] [0, 1, 5] (x139_4_0) n (f139_0_c l0 l1 x361)) = f139_0 c lf l0 l1 n := by funext x361; exact ih x361
  show f139_0_s c lf l0 l1 (fun x361 => lpK c env lf 6 fi139 2 4 [] [0, 1, 5] (x139_4_0) n (f139_0_c l0 l1 x361)) x361 = _
  rw [e]; rfl
def f139_t (c : Orc) (lf : Nat) (lp0 : List T → List T → Int → Option (List T)) (l0 l1 : List T) : Option (List T) :=
 bif (l0.length : Int) != (l1.length : Int) then
  some [T.b false]
 else
  (lp0 l0 l1 0).bind fun r363 =>
  bif asI (nth r363 0) == 0 then
   some [T.b (asB (nth r363 1))]
  else
   some [T.b true]
def f139 (c : Orc) (lf : Nat) (l0 l1 : List T) : Option (List T) := f139_t c lf (fun (l0 l1 : List T) (x361 : Int) => f139_0 c lf l0 l1 lf x361) l0 l1
theorem f139_raw (c : Orc) (lf : Nat) (l0 l1 : List T) : funK c env lf 6 fi139 [.sl l0, .sl l1] = f139_t c lf (fun (l0 l1 : List T) (x361 : Int) => lpK c env lf 6 fi139 2 4 [] [0, 1, 5] (x139_4_0) lf (f139_0_c l0 l1 x361)) l0 l1 := by kernel_rfl
theorem f139_eq (c : Orc) (lf : Nat) (l0 l1 : List T) : funK c env lf 6 fi139 [.sl l0, .sl l1] = f139 c lf l0 l1 := by
 refine (f139_raw c lf l0 l1).trans ?_
 have e0 : (fun (l0 l1 : List T) (x361 : Int) => lpK c env lf 6 fi139 2 4 [] [0, 1, 5] (x139_4_0) lf (f139_0_c l0 l1 x361)) = (fun (l0 l1 : List T) (x361 : Int) => f139_0 c lf l0 l1 lf x361) := by funext l0 l1 x361; exact f139_0_eq c lf l0 l1 lf x361
 rw [e0]; rfl
def f146_t (c : Orc) (lf : Nat) (s0_0 s0_1 : ByteArray) (s1_0 s1_1 : ByteArray) : Option (List T) :=
 bif !(s0_0.toList == s1_0.toList) then
  some [T.b false]
 else
  bif !(s0_1.toList == s1_1.toList) then
   some [T.b false]
  else
   some [T.b true]
def f146 (c : Orc) (lf : Nat) (s0_0 s0_1 : ByteArray) (s1_0 s1_1 : ByteArray) : Option (List T) := f146_t c lf s0_0 s0_1 s1_0 s1_1
theorem f146_eq (c : Orc) (lf : Nat) (s0_0 s0_1 : ByteArray) (s1_0 s1_1 : ByteArray) : funK c env lf 6 fi146 [.st [.s s0_0, .s s0_1], .st [.s s1_0, .s s1_1]] = f146 c lf s0_0 s0_1 s1_0 s1_1 := by kernel_rfl
def f140_0_s (c : Orc) (lf : Nat) (l0 l1 : List T) (L : Int → Option (List T)) (x369 : Int) : Option (List T) :=
 bif iLt x369 (l0.length : Int) then
  bif inR x369 l0.length then
  bif inR x369 l1.length then
  (c 146 [T.st [T.s (asS (T.cell (l0.getD x369.toNat T.u) 0)), T.s (asS (T.cell (l0.getD x369.toNat T.u) 1))], T.st [T.s (asS (T.cell (l1.getD x369.toNat T.u) 0)), T.s (asS (T.cell (l1.getD x369.toNat T.u) 1))]]).bind fun r370 =>
  bif !(asB (nth r370 0)) then
   some [T.i .i64 0, T.b false]
  else
   L (IntKind.wrap .i64 (x369 + 1))
  else none
  else none
 else
  some [T.i .i64 1]
def f140_0_c (l0 l1 : List T) (x369 : Int) : CSt := ⟨[.ro 0 true [.s, .s] l0, .ro 0 true [.s, .s] l1, .i .i64 x369], [.dead, .dead]⟩
theorem f140_0_round (c : Orc) (lf : Nat) (l0 l1 : List T) (L : CSt → Option (List T)) (x369 : Int) :
 roundK c env lf 6 fi140 2 4 [] [0, 1, 5] (x140_4_0) L (f140_0_c l0 l1 x369) = f140_0_s c lf l0 l1 (fun x369 => L (f140_0_c l0 l1 x369)) x369 := by kernel_rfl
def f140_0 (c : Orc) (lf : Nat) (l0 l1 : List T) : Nat → Int → Option (List T)
 | 0 => fun _ => none
 | n + 1 => fun x369 => f140_0_s c lf l0 l1 (f140_0 c lf l0 l1 n) x369
theorem f140_0_eq (c : Orc) (lf : Nat) (l0 l1 : List T) (n : Nat) (x369 : Int) :
 lpK c env lf 6 fi140 2 4 [] [0, 1, 5] (x140_4_0) n (f140_0_c l0 l1 x369) = f140_0 c lf l0 l1 n x369 := by
 induction n generalizing x369 with
 | zero => rfl
 | succ n ih =>
  refine (f140_0_round c lf l0 l1 _ x369).trans ?_
  have e : (fun x369 => lpK c env lf 6 fi140 2 4 [] [0, 1, 5] (x140_4_0) n (f140_0_c l0 l1 x369)) = f140_0 c lf l0 l1 n := by funext x369; exact ih x369
  show f140_0_s c lf l0 l1 (fun x369 => lpK c env lf 6 fi140 2 4 [] [0, 1, 5] (x140_4_0) n (f140_0_c l0 l1 x369)) x369 = _
  rw [e]; rfl
def f140_t (c : Orc) (lf : Nat) (lp0 : List T → List T → Int → Option (List T)) (l0 l1 : List T) : Option (List T) :=
 bif (l0.length : Int) != (l1.length : Int) then
  some [T.b false]
 else
  (lp0 l0 l1 0).bind fun r371 =>
  bif asI (nth r371 0) == 0 then
   some [T.b (asB (nth r371 1))]
  else
   some [T.b true]
def f140 (c : Orc) (lf : Nat) (l0 l1 : List T) : Option (List T) := f140_t c lf (fun (l0 l1 : List T) (x369 : Int) => f140_0 c lf l0 l1 lf x369) l0 l1
theorem f140_raw (c : Orc) (lf : Nat) (l0 l1 : List T) : funK c env lf 6 fi140 [.sl l0, .sl l1] = f140_t c lf (fun (l0 l1 : List T) (x369 : Int) => lpK c env lf 6 fi140 2 4 [] [0, 1, 5] (x140_4_0) lf (f140_0_c l0 l1 x369)) l0 l1 := by kernel_rfl
theorem f140_eq (c : Orc) (lf : Nat) (l0 l1 : List T) : funK c env lf 6 fi140 [.sl l0, .sl l1] = f140 c lf l0 l1 := by
 refine (f140_raw c lf l0 l1).trans ?_
 have e0 : (fun (l0 l1 : List T) (x369 : Int) => lpK c env lf 6 fi140 2 4 [] [0, 1, 5] (x140_4_0) lf (f140_0_c l0 l1 x369)) = (fun (l0 l1 : List T) (x369 : Int) => f140_0 c lf l0 l1 lf x369) := by funext l0 l1 x369; exact f140_0_eq c lf l0 l1 lf x369
 rw [e0]; rfl
def f128_t (c : Orc) (lf : Nat) (n0_0 n0_1 n0_2 : Int) (l0_3 l0_4 l0_5 : List T) (n1_0 n1_1 n1_2 : Int) (l1_3 l1_4 l1_5 : List T) : Option (List T) :=
 bif n0_0 != n1_0 then
  some [T.b false]
 else
  bif n0_1 != n1_1 then
   some [T.b false]
  else
   bif n0_2 != n1_2 then
    some [T.b false]
   else
    (c 138 [T.sl l0_3, T.sl l1_3]).bind fun r372 =>
    bif !(asB (nth r372 0)) then
     some [T.b false]
    else
     (c 139 [T.sl l0_4, T.sl l1_4]).bind fun r373 =>
     bif !(asB (nth r373 0)) then
      some [T.b false]
     else
      (c 140 [T.sl l0_5, T.sl l1_5]).bind fun r374 =>
      bif !(asB (nth r374 0)) then
       some [T.b false]
      else
       some [T.b true]
def f128 (c : Orc) (lf : Nat) (n0_0 n0_1 n0_2 : Int) (l0_3 l0_4 l0_5 : List T) (n1_0 n1_1 n1_2 : Int) (l1_3 l1_4 l1_5 : List T) : Option (List T) := f128_t c lf n0_0 n0_1 n0_2 l0_3 l0_4 l0_5 n1_0 n1_1 n1_2 l1_3 l1_4 l1_5
theorem f128_eq (c : Orc) (lf : Nat) (n0_0 n0_1 n0_2 : Int) (l0_3 l0_4 l0_5 : List T) (n1_0 n1_1 n1_2 : Int) (l1_3 l1_4 l1_5 : List T) : funK c env lf 6 fi128 [.st [.i .i64 n0_0, .i .i64 n0_1, .i .i64 n0_2, .sl l0_3, .sl l0_4, .sl l0_5], .st [.i .i64 n1_0, .i .i64 n1_1, .i .i64 n1_2, .sl l1_3, .sl l1_4, .sl l1_5]] = f128 c lf n0_0 n0_1 n0_2 l0_3 l0_4 l0_5 n1_0 n1_1 n1_2 l1_3 l1_4 l1_5 := by kernel_rfl
def f122_0_s (c : Orc) (lf : Nat) (l0 l1 : List T) (L : Int → Option (List T)) (x380 : Int) : Option (List T) :=
 bif iLt x380 (l0.length : Int) then
  bif inR x380 l0.length then
  bif inR x380 l1.length then
  (c 128 [T.st [T.i .i64 (asI (T.cell (l0.getD x380.toNat T.u) 0)), T.i .i64 (asI (T.cell (l0.getD x380.toNat T.u) 1)), T.i .i64 (asI (T.cell (l0.getD x380.toNat T.u) 2)), T.sl (asL (T.cell (l0.getD x380.toNat T.u) 3)), T.sl (asL (T.cell (l0.getD x380.toNat T.u) 4)), T.sl (asL (T.cell (l0.getD x380.toNat T.u) 5))], T.st [T.i .i64 (asI (T.cell (l1.getD x380.toNat T.u) 0)), T.i .i64 (asI (T.cell (l1.getD x380.toNat T.u) 1)), T.i .i64 (asI (T.cell (l1.getD x380.toNat T.u) 2)), T.sl (asL (T.cell (l1.getD x380.toNat T.u) 3)), T.sl (asL (T.cell (l1.getD x380.toNat T.u) 4)), T.sl (asL (T.cell (l1.getD x380.toNat T.u) 5))]]).bind fun r381 =>
  bif !(asB (nth r381 0)) then
   some [T.i .i64 0, T.b false]
  else
   L (IntKind.wrap .i64 (x380 + 1))
  else none
  else none
 else
  some [T.i .i64 1]
def f122_0_c (l0 l1 : List T) (x380 : Int) : CSt := ⟨[.ro 0 true [.i .i64, .i .i64, .i .i64, .sl false [.i .u8], .sl true [.s, .i .i64], .sl true [.s, .s]] l0, .ro 0 true [.i .i64, .i .i64, .i .i64, .sl false [.i .u8], .sl true [.s, .i .i64], .sl true [.s, .s]] l1, .i .i64 x380], [.dead, .dead]⟩
theorem f122_0_round (c : Orc) (lf : Nat) (l0 l1 : List T) (L : CSt → Option (List T)) (x380 : Int) :
 roundK c env lf 6 fi122 2 4 [] [0, 1, 5] (x122_4_0) L (f122_0_c l0 l1 x380) = f122_0_s c lf l0 l1 (fun x380 => L (f122_0_c l0 l1 x380)) x380 := by kernel_rfl
def f122_0 (c : Orc) (lf : Nat) (l0 l1 : List T) : Nat → Int → Option (List T)
 | 0 => fun _ => none
 | n + 1 => fun x380 => f122_0_s c lf l0 l1 (f122_0 c lf l0 l1 n) x380
theorem f122_0_eq (c : Orc) (lf : Nat) (l0 l1 : List T) (n : Nat) (x380 : Int) :
 lpK c env lf 6 fi122 2 4 [] [0, 1, 5] (x122_4_0) n (f122_0_c l0 l1 x380) = f122_0 c lf l0 l1 n x380 := by
 induction n generalizing x380 with
 | zero => rfl
 | succ n ih =>
  refine (f122_0_round c lf l0 l1 _ x380).trans ?_
  have e : (fun x380 => lpK c env lf 6 fi122 2 4 [] [0, 1, 5] (x122_4_0) n (f122_0_c l0 l1 x380)) = f122_0 c lf l0 l1 n := by funext x380; exact ih x380
  show f122_0_s c lf l0 l1 (fun x380 => lpK c env lf 6 fi122 2 4 [] [0, 1, 5] (x122_4_0) n (f122_0_c l0 l1 x380)) x380 = _
  rw [e]; rfl
def f122_t (c : Orc) (lf : Nat) (lp0 : List T → List T → Int → Option (List T)) (l0 l1 : List T) : Option (List T) :=
 bif (l0.length : Int) != (l1.length : Int) then
  some [T.b false]
 else
  (lp0 l0 l1 0).bind fun r382 =>
  bif asI (nth r382 0) == 0 then
   some [T.b (asB (nth r382 1))]
  else
   some [T.b true]
def f122 (c : Orc) (lf : Nat) (l0 l1 : List T) : Option (List T) := f122_t c lf (fun (l0 l1 : List T) (x380 : Int) => f122_0 c lf l0 l1 lf x380) l0 l1
theorem f122_raw (c : Orc) (lf : Nat) (l0 l1 : List T) : funK c env lf 6 fi122 [.sl l0, .sl l1] = f122_t c lf (fun (l0 l1 : List T) (x380 : Int) => lpK c env lf 6 fi122 2 4 [] [0, 1, 5] (x122_4_0) lf (f122_0_c l0 l1 x380)) l0 l1 := by kernel_rfl
theorem f122_eq (c : Orc) (lf : Nat) (l0 l1 : List T) : funK c env lf 6 fi122 [.sl l0, .sl l1] = f122 c lf l0 l1 := by
 refine (f122_raw c lf l0 l1).trans ?_
 have e0 : (fun (l0 l1 : List T) (x380 : Int) => lpK c env lf 6 fi122 2 4 [] [0, 1, 5] (x122_4_0) lf (f122_0_c l0 l1 x380)) = (fun (l0 l1 : List T) (x380 : Int) => f122_0 c lf l0 l1 lf x380) := by funext l0 l1 x380; exact f122_0_eq c lf l0 l1 lf x380
 rw [e0]; rfl
def f111_t (c : Orc) (lf : Nat) (l0_0 : List T) (n0_1 : Int) (l1_0 : List T) (n1_1 : Int) : Option (List T) :=
 (c 122 [T.sl l0_0, T.sl l1_0]).bind fun r383 =>
 bif !(asB (nth r383 0)) then
  some [T.b false]
 else
  bif n0_1 != n1_1 then
   some [T.b false]
  else
   some [T.b true]
def f111 (c : Orc) (lf : Nat) (l0_0 : List T) (n0_1 : Int) (l1_0 : List T) (n1_1 : Int) : Option (List T) := f111_t c lf l0_0 n0_1 l1_0 n1_1
theorem f111_eq (c : Orc) (lf : Nat) (l0_0 : List T) (n0_1 : Int) (l1_0 : List T) (n1_1 : Int) : funK c env lf 6 fi111 [.st [.sl l0_0, .i .i64 n0_1], .st [.sl l1_0, .i .i64 n1_1]] = f111 c lf l0_0 n0_1 l1_0 n1_1 := by kernel_rfl
def f92_t (c : Orc) (lf : Nat) (n0_0 : Int) (s0_1 : ByteArray) (b0_2 : Bool) (n0_3 : Int) (l0_4 : List T) (n0_5 n1_0 : Int) (s1_1 : ByteArray) (b1_2 : Bool) (n1_3 : Int) (l1_4 : List T) (n1_5 : Int) : Option (List T) :=
 bif n0_0 != n1_0 then
  some [T.b false]
 else
  bif !(s0_1.toList == s1_1.toList) then
   some [T.b false]
  else
   bif !(b0_2 == b1_2) then
    some [T.b false]
   else
    bif n0_3 != n1_3 then
     some [T.b false]
    else
     (c 111 [T.st [T.sl l0_4, T.i .i64 n0_5], T.st [T.sl l1_4, T.i .i64 n1_5]]).bind fun r384 =>
     bif !(asB (nth r384 0)) then
      some [T.b false]
     else
      some [T.b true]
def f92 (c : Orc) (lf : Nat) (n0_0 : Int) (s0_1 : ByteArray) (b0_2 : Bool) (n0_3 : Int) (l0_4 : List T) (n0_5 n1_0 : Int) (s1_1 : ByteArray) (b1_2 : Bool) (n1_3 : Int) (l1_4 : List T) (n1_5 : Int) : Option (List T) := f92_t c lf n0_0 s0_1 b0_2 n0_3 l0_4 n0_5 n1_0 s1_1 b1_2 n1_3 l1_4 n1_5
theorem f92_eq (c : Orc) (lf : Nat) (n0_0 : Int) (s0_1 : ByteArray) (b0_2 : Bool) (n0_3 : Int) (l0_4 : List T) (n0_5 n1_0 : Int) (s1_1 : ByteArray) (b1_2 : Bool) (n1_3 : Int) (l1_4 : List T) (n1_5 : Int) : funK c env lf 6 fi92 [.st [.i .i64 n0_0, .s s0_1, .b b0_2, .i .i64 n0_3, .sl l0_4, .i .i64 n0_5], .st [.i .i64 n1_0, .s s1_1, .b b1_2, .i .i64 n1_3, .sl l1_4, .i .i64 n1_5]] = f92 c lf n0_0 s0_1 b0_2 n0_3 l0_4 n0_5 n1_0 s1_1 b1_2 n1_3 l1_4 n1_5 := by kernel_rfl
def f60_0_s (c : Orc) (lf : Nat) (l0 l1 : List T) (L : Int → Option (List T)) (x390 : Int) : Option (List T) :=
 bif iLt x390 (l0.length : Int) then
  bif inR x390 l0.length then
  bif inR x390 l1.length then
  (c 92 [T.st [T.i .i64 (asI (T.cell (l0.getD x390.toNat T.u) 0)), T.s (asS (T.cell (l0.getD x390.toNat T.u) 1)), T.b (asB (T.cell (l0.getD x390.toNat T.u) 2)), T.i .i64 (asI (T.cell (l0.getD x390.toNat T.u) 3)), T.sl (asL (T.cell (l0.getD x390.toNat T.u) 4)), T.i .i64 (asI (T.cell (l0.getD x390.toNat T.u) 5))], T.st [T.i .i64 (asI (T.cell (l1.getD x390.toNat T.u) 0)), T.s (asS (T.cell (l1.getD x390.toNat T.u) 1)), T.b (asB (T.cell (l1.getD x390.toNat T.u) 2)), T.i .i64 (asI (T.cell (l1.getD x390.toNat T.u) 3)), T.sl (asL (T.cell (l1.getD x390.toNat T.u) 4)), T.i .i64 (asI (T.cell (l1.getD x390.toNat T.u) 5))]]).bind fun r391 =>
  bif !(asB (nth r391 0)) then
   some [T.i .i64 0, T.b false]
  else
   L (IntKind.wrap .i64 (x390 + 1))
  else none
  else none
 else
  some [T.i .i64 1]
def f60_0_c (l0 l1 : List T) (x390 : Int) : CSt := ⟨[.ro 0 true [.i .i64, .s, .b, .i .i64, .sl true [.i .i64, .i .i64, .i .i64, .sl false [.i .u8], .sl true [.s, .i .i64], .sl true [.s, .s]], .i .i64] l0, .ro 0 true [.i .i64, .s, .b, .i .i64, .sl true [.i .i64, .i .i64, .i .i64, .sl false [.i .u8], .sl true [.s, .i .i64], .sl true [.s, .s]], .i .i64] l1, .i .i64 x390], [.dead, .dead]⟩
theorem f60_0_round (c : Orc) (lf : Nat) (l0 l1 : List T) (L : CSt → Option (List T)) (x390 : Int) :
 roundK c env lf 6 fi60 2 4 [] [0, 1, 5] (x60_4_0) L (f60_0_c l0 l1 x390) = f60_0_s c lf l0 l1 (fun x390 => L (f60_0_c l0 l1 x390)) x390 := by kernel_rfl
def f60_0 (c : Orc) (lf : Nat) (l0 l1 : List T) : Nat → Int → Option (List T)
 | 0 => fun _ => none
 | n + 1 => fun x390 => f60_0_s c lf l0 l1 (f60_0 c lf l0 l1 n) x390
theorem f60_0_eq (c : Orc) (lf : Nat) (l0 l1 : List T) (n : Nat) (x390 : Int) :
 lpK c env lf 6 fi60 2 4 [] [0, 1, 5] (x60_4_0) n (f60_0_c l0 l1 x390) = f60_0 c lf l0 l1 n x390 := by
 induction n generalizing x390 with
 | zero => rfl
 | succ n ih =>
  refine (f60_0_round c lf l0 l1 _ x390).trans ?_
  have e : (fun x390 => lpK c env lf 6 fi60 2 4 [] [0, 1, 5] (x60_4_0) n (f60_0_c l0 l1 x390)) = f60_0 c lf l0 l1 n := by funext x390; exact ih x390
  show f60_0_s c lf l0 l1 (fun x390 => lpK c env lf 6 fi60 2 4 [] [0, 1, 5] (x60_4_0) n (f60_0_c l0 l1 x390)) x390 = _
  rw [e]; rfl
def f60_t (c : Orc) (lf : Nat) (lp0 : List T → List T → Int → Option (List T)) (l0 l1 : List T) : Option (List T) :=
 bif (l0.length : Int) != (l1.length : Int) then
  some [T.b false]
 else
  (lp0 l0 l1 0).bind fun r392 =>
  bif asI (nth r392 0) == 0 then
   some [T.b (asB (nth r392 1))]
  else
   some [T.b true]
def f60 (c : Orc) (lf : Nat) (l0 l1 : List T) : Option (List T) := f60_t c lf (fun (l0 l1 : List T) (x390 : Int) => f60_0 c lf l0 l1 lf x390) l0 l1
theorem f60_raw (c : Orc) (lf : Nat) (l0 l1 : List T) : funK c env lf 6 fi60 [.sl l0, .sl l1] = f60_t c lf (fun (l0 l1 : List T) (x390 : Int) => lpK c env lf 6 fi60 2 4 [] [0, 1, 5] (x60_4_0) lf (f60_0_c l0 l1 x390)) l0 l1 := by kernel_rfl
theorem f60_eq (c : Orc) (lf : Nat) (l0 l1 : List T) : funK c env lf 6 fi60 [.sl l0, .sl l1] = f60 c lf l0 l1 := by
 refine (f60_raw c lf l0 l1).trans ?_
 have e0 : (fun (l0 l1 : List T) (x390 : Int) => lpK c env lf 6 fi60 2 4 [] [0, 1, 5] (x60_4_0) lf (f60_0_c l0 l1 x390)) = (fun (l0 l1 : List T) (x390 : Int) => f60_0 c lf l0 l1 lf x390) := by funext l0 l1 x390; exact f60_0_eq c lf l0 l1 lf x390
 rw [e0]; rfl
def f35_t (c : Orc) (lf : Nat) (l0_0 : List T) (n0_1 : Int) (l1_0 : List T) (n1_1 : Int) : Option (List T) :=
 (c 60 [T.sl l0_0, T.sl l1_0]).bind fun r393 =>
 bif !(asB (nth r393 0)) then
  some [T.b false]
 else
  bif n0_1 != n1_1 then
   some [T.b false]
  else
   some [T.b true]
def f35 (c : Orc) (lf : Nat) (l0_0 : List T) (n0_1 : Int) (l1_0 : List T) (n1_1 : Int) : Option (List T) := f35_t c lf l0_0 n0_1 l1_0 n1_1
theorem f35_eq (c : Orc) (lf : Nat) (l0_0 : List T) (n0_1 : Int) (l1_0 : List T) (n1_1 : Int) : funK c env lf 6 fi35 [.st [.sl l0_0, .i .i64 n0_1], .st [.sl l1_0, .i .i64 n1_1]] = f35 c lf l0_0 n0_1 l1_0 n1_1 := by kernel_rfl
def f93_t (c : Orc) (lf : Nat) (n0_0 : Int) (s0_1 : ByteArray) (b0_2 : Bool) (n0_3 n0_4 n1_0 : Int) (s1_1 : ByteArray) (b1_2 : Bool) (n1_3 n1_4 : Int) : Option (List T) :=
 bif n0_0 != n1_0 then
  some [T.b false]
 else
  bif !(s0_1.toList == s1_1.toList) then
   some [T.b false]
  else
   bif !(b0_2 == b1_2) then
    some [T.b false]
   else
    bif n0_3 != n1_3 then
     some [T.b false]
    else
     bif n0_4 != n1_4 then
      some [T.b false]
     else
      some [T.b true]
def f93 (c : Orc) (lf : Nat) (n0_0 : Int) (s0_1 : ByteArray) (b0_2 : Bool) (n0_3 n0_4 n1_0 : Int) (s1_1 : ByteArray) (b1_2 : Bool) (n1_3 n1_4 : Int) : Option (List T) := f93_t c lf n0_0 s0_1 b0_2 n0_3 n0_4 n1_0 s1_1 b1_2 n1_3 n1_4
theorem f93_eq (c : Orc) (lf : Nat) (n0_0 : Int) (s0_1 : ByteArray) (b0_2 : Bool) (n0_3 n0_4 n1_0 : Int) (s1_1 : ByteArray) (b1_2 : Bool) (n1_3 n1_4 : Int) : funK c env lf 6 fi93 [.st [.i .i64 n0_0, .s s0_1, .b b0_2, .i .i64 n0_3, .i .i64 n0_4], .st [.i .i64 n1_0, .s s1_1, .b b1_2, .i .i64 n1_3, .i .i64 n1_4]] = f93 c lf n0_0 s0_1 b0_2 n0_3 n0_4 n1_0 s1_1 b1_2 n1_3 n1_4 := by kernel_rfl
def f61_0_s (c : Orc) (lf : Nat) (l0 l1 : List T) (L : Int → Option (List T)) (x399 : Int) : Option (List T) :=
 bif iLt x399 (l0.length : Int) then
  bif inR x399 l0.length then
  bif inR x399 l1.length then
  (c 93 [T.st [T.i .i64 (asI (T.cell (l0.getD x399.toNat T.u) 0)), T.s (asS (T.cell (l0.getD x399.toNat T.u) 1)), T.b (asB (T.cell (l0.getD x399.toNat T.u) 2)), T.i .i64 (asI (T.cell (l0.getD x399.toNat T.u) 3)), T.i .i64 (asI (T.cell (l0.getD x399.toNat T.u) 4))], T.st [T.i .i64 (asI (T.cell (l1.getD x399.toNat T.u) 0)), T.s (asS (T.cell (l1.getD x399.toNat T.u) 1)), T.b (asB (T.cell (l1.getD x399.toNat T.u) 2)), T.i .i64 (asI (T.cell (l1.getD x399.toNat T.u) 3)), T.i .i64 (asI (T.cell (l1.getD x399.toNat T.u) 4))]]).bind fun r400 =>
  bif !(asB (nth r400 0)) then
   some [T.i .i64 0, T.b false]
  else
   L (IntKind.wrap .i64 (x399 + 1))
  else none
  else none
 else
  some [T.i .i64 1]
def f61_0_c (l0 l1 : List T) (x399 : Int) : CSt := ⟨[.ro 0 true [.i .i64, .s, .b, .i .i64, .i .i64] l0, .ro 0 true [.i .i64, .s, .b, .i .i64, .i .i64] l1, .i .i64 x399], [.dead, .dead]⟩
theorem f61_0_round (c : Orc) (lf : Nat) (l0 l1 : List T) (L : CSt → Option (List T)) (x399 : Int) :
 roundK c env lf 6 fi61 2 4 [] [0, 1, 5] (x61_4_0) L (f61_0_c l0 l1 x399) = f61_0_s c lf l0 l1 (fun x399 => L (f61_0_c l0 l1 x399)) x399 := by kernel_rfl
def f61_0 (c : Orc) (lf : Nat) (l0 l1 : List T) : Nat → Int → Option (List T)
 | 0 => fun _ => none
 | n + 1 => fun x399 => f61_0_s c lf l0 l1 (f61_0 c lf l0 l1 n) x399
theorem f61_0_eq (c : Orc) (lf : Nat) (l0 l1 : List T) (n : Nat) (x399 : Int) :
 lpK c env lf 6 fi61 2 4 [] [0, 1, 5] (x61_4_0) n (f61_0_c l0 l1 x399) = f61_0 c lf l0 l1 n x399 := by
 induction n generalizing x399 with
 | zero => rfl
 | succ n ih =>
  refine (f61_0_round c lf l0 l1 _ x399).trans ?_
  have e : (fun x399 => lpK c env lf 6 fi61 2 4 [] [0, 1, 5] (x61_4_0) n (f61_0_c l0 l1 x399)) = f61_0 c lf l0 l1 n := by funext x399; exact ih x399
  show f61_0_s c lf l0 l1 (fun x399 => lpK c env lf 6 fi61 2 4 [] [0, 1, 5] (x61_4_0) n (f61_0_c l0 l1 x399)) x399 = _
  rw [e]; rfl
def f61_t (c : Orc) (lf : Nat) (lp0 : List T → List T → Int → Option (List T)) (l0 l1 : List T) : Option (List T) :=
 bif (l0.length : Int) != (l1.length : Int) then
  some [T.b false]
 else
  (lp0 l0 l1 0).bind fun r401 =>
  bif asI (nth r401 0) == 0 then
   some [T.b (asB (nth r401 1))]
  else
   some [T.b true]
def f61 (c : Orc) (lf : Nat) (l0 l1 : List T) : Option (List T) := f61_t c lf (fun (l0 l1 : List T) (x399 : Int) => f61_0 c lf l0 l1 lf x399) l0 l1
theorem f61_raw (c : Orc) (lf : Nat) (l0 l1 : List T) : funK c env lf 6 fi61 [.sl l0, .sl l1] = f61_t c lf (fun (l0 l1 : List T) (x399 : Int) => lpK c env lf 6 fi61 2 4 [] [0, 1, 5] (x61_4_0) lf (f61_0_c l0 l1 x399)) l0 l1 := by kernel_rfl
theorem f61_eq (c : Orc) (lf : Nat) (l0 l1 : List T) : funK c env lf 6 fi61 [.sl l0, .sl l1] = f61 c lf l0 l1 := by
 refine (f61_raw c lf l0 l1).trans ?_
 have e0 : (fun (l0 l1 : List T) (x399 : Int) => lpK c env lf 6 fi61 2 4 [] [0, 1, 5] (x61_4_0) lf (f61_0_c l0 l1 x399)) = (fun (l0 l1 : List T) (x399 : Int) => f61_0 c lf l0 l1 lf x399) := by funext l0 l1 x399; exact f61_0_eq c lf l0 l1 lf x399
 rw [e0]; rfl
def f36_t (c : Orc) (lf : Nat) (n0_0 : Int) (l0_1 : List T) (n1_0 : Int) (l1_1 : List T) : Option (List T) :=
 bif n0_0 != n1_0 then
  some [T.b false]
 else
  (c 61 [T.sl l0_1, T.sl l1_1]).bind fun r402 =>
  bif !(asB (nth r402 0)) then
   some [T.b false]
  else
   some [T.b true]
def f36 (c : Orc) (lf : Nat) (n0_0 : Int) (l0_1 : List T) (n1_0 : Int) (l1_1 : List T) : Option (List T) := f36_t c lf n0_0 l0_1 n1_0 l1_1
theorem f36_eq (c : Orc) (lf : Nat) (n0_0 : Int) (l0_1 : List T) (n1_0 : Int) (l1_1 : List T) : funK c env lf 6 fi36 [.st [.i .i64 n0_0, .sl l0_1], .st [.i .i64 n1_0, .sl l1_1]] = f36 c lf n0_0 l0_1 n1_0 l1_1 := by kernel_rfl
def f112_t (c : Orc) (lf : Nat) (n0_0 n0_1 : Int) (n1_0 n1_1 : Int) : Option (List T) :=
 bif n0_0 != n1_0 then
  some [T.b false]
 else
  bif n0_1 != n1_1 then
   some [T.b false]
  else
   some [T.b true]
def f112 (c : Orc) (lf : Nat) (n0_0 n0_1 : Int) (n1_0 n1_1 : Int) : Option (List T) := f112_t c lf n0_0 n0_1 n1_0 n1_1
theorem f112_eq (c : Orc) (lf : Nat) (n0_0 n0_1 : Int) (n1_0 n1_1 : Int) : funK c env lf 6 fi112 [.st [.i .i64 n0_0, .i .i64 n0_1], .st [.i .i64 n1_0, .i .i64 n1_1]] = f112 c lf n0_0 n0_1 n1_0 n1_1 := by kernel_rfl
def f94_0_s (c : Orc) (lf : Nat) (l0 l1 : List T) (L : Int → Option (List T)) (x408 : Int) : Option (List T) :=
 bif iLt x408 (l0.length : Int) then
  bif inR x408 l0.length then
  bif inR x408 l1.length then
  (c 112 [T.st [T.i .i64 (asI (T.cell (l0.getD x408.toNat T.u) 0)), T.i .i64 (asI (T.cell (l0.getD x408.toNat T.u) 1))], T.st [T.i .i64 (asI (T.cell (l1.getD x408.toNat T.u) 0)), T.i .i64 (asI (T.cell (l1.getD x408.toNat T.u) 1))]]).bind fun r409 =>
  bif !(asB (nth r409 0)) then
   some [T.i .i64 0, T.b false]
  else
   L (IntKind.wrap .i64 (x408 + 1))
  else none
  else none
 else
  some [T.i .i64 1]
def f94_0_c (l0 l1 : List T) (x408 : Int) : CSt := ⟨[.ro 0 true [.i .i64, .i .i64] l0, .ro 0 true [.i .i64, .i .i64] l1, .i .i64 x408], [.dead, .dead]⟩
theorem f94_0_round (c : Orc) (lf : Nat) (l0 l1 : List T) (L : CSt → Option (List T)) (x408 : Int) :
 roundK c env lf 6 fi94 2 4 [] [0, 1, 5] (x94_4_0) L (f94_0_c l0 l1 x408) = f94_0_s c lf l0 l1 (fun x408 => L (f94_0_c l0 l1 x408)) x408 := by kernel_rfl
def f94_0 (c : Orc) (lf : Nat) (l0 l1 : List T) : Nat → Int → Option (List T)
 | 0 => fun _ => none
 | n + 1 => fun x408 => f94_0_s c lf l0 l1 (f94_0 c lf l0 l1 n) x408
theorem f94_0_eq (c : Orc) (lf : Nat) (l0 l1 : List T) (n : Nat) (x408 : Int) :
 lpK c env lf 6 fi94 2 4 [] [0, 1, 5] (x94_4_0) n (f94_0_c l0 l1 x408) = f94_0 c lf l0 l1 n x408 := by
 induction n generalizing x408 with
 | zero => rfl
 | succ n ih =>
  refine (f94_0_round c lf l0 l1 _ x408).trans ?_
  have e : (fun x408 => lpK c env lf 6 fi94 2 4 [] [0, 1, 5] (x94_4_0) n (f94_0_c l0 l1 x408)) = f94_0 c lf l0 l1 n := by funext x408; exact ih x408
  show f94_0_s c lf l0 l1 (fun x408 => lpK c env lf 6 fi94 2 4 [] [0, 1, 5] (x94_4_0) n (f94_0_c l0 l1 x408)) x408 = _
  rw [e]; rfl
def f94_t (c : Orc) (lf : Nat) (lp0 : List T → List T → Int → Option (List T)) (l0 l1 : List T) : Option (List T) :=
 bif (l0.length : Int) != (l1.length : Int) then
  some [T.b false]
 else
  (lp0 l0 l1 0).bind fun r410 =>
  bif asI (nth r410 0) == 0 then
   some [T.b (asB (nth r410 1))]
  else
   some [T.b true]
def f94 (c : Orc) (lf : Nat) (l0 l1 : List T) : Option (List T) := f94_t c lf (fun (l0 l1 : List T) (x408 : Int) => f94_0 c lf l0 l1 lf x408) l0 l1
theorem f94_raw (c : Orc) (lf : Nat) (l0 l1 : List T) : funK c env lf 6 fi94 [.sl l0, .sl l1] = f94_t c lf (fun (l0 l1 : List T) (x408 : Int) => lpK c env lf 6 fi94 2 4 [] [0, 1, 5] (x94_4_0) lf (f94_0_c l0 l1 x408)) l0 l1 := by kernel_rfl
theorem f94_eq (c : Orc) (lf : Nat) (l0 l1 : List T) : funK c env lf 6 fi94 [.sl l0, .sl l1] = f94 c lf l0 l1 := by
 refine (f94_raw c lf l0 l1).trans ?_
 have e0 : (fun (l0 l1 : List T) (x408 : Int) => lpK c env lf 6 fi94 2 4 [] [0, 1, 5] (x94_4_0) lf (f94_0_c l0 l1 x408)) = (fun (l0 l1 : List T) (x408 : Int) => f94_0 c lf l0 l1 lf x408) := by funext l0 l1 x408; exact f94_0_eq c lf l0 l1 lf x408
 rw [e0]; rfl
def f62_t (c : Orc) (lf : Nat) (n0_0 : Int) (l0_1 : List T) (n1_0 : Int) (l1_1 : List T) : Option (List T) :=
 bif n0_0 != n1_0 then
  some [T.b false]
 else
  (c 94 [T.sl l0_1, T.sl l1_1]).bind fun r411 =>
  bif !(asB (nth r411 0)) then
   some [T.b false]
  else
   some [T.b true]
def f62 (c : Orc) (lf : Nat) (n0_0 : Int) (l0_1 : List T) (n1_0 : Int) (l1_1 : List T) : Option (List T) := f62_t c lf n0_0 l0_1 n1_0 l1_1
theorem f62_eq (c : Orc) (lf : Nat) (n0_0 : Int) (l0_1 : List T) (n1_0 : Int) (l1_1 : List T) : funK c env lf 6 fi62 [.st [.i .i64 n0_0, .sl l0_1], .st [.i .i64 n1_0, .sl l1_1]] = f62 c lf n0_0 l0_1 n1_0 l1_1 := by kernel_rfl
def f37_0_s (c : Orc) (lf : Nat) (l0 l1 : List T) (L : Int → Option (List T)) (x417 : Int) : Option (List T) :=
 bif iLt x417 (l0.length : Int) then
  bif inR x417 l0.length then
  bif inR x417 l1.length then
  (c 62 [T.st [T.i .i64 (asI (T.cell (l0.getD x417.toNat T.u) 0)), T.sl (asL (T.cell (l0.getD x417.toNat T.u) 1))], T.st [T.i .i64 (asI (T.cell (l1.getD x417.toNat T.u) 0)), T.sl (asL (T.cell (l1.getD x417.toNat T.u) 1))]]).bind fun r418 =>
  bif !(asB (nth r418 0)) then
   some [T.i .i64 0, T.b false]
  else
   L (IntKind.wrap .i64 (x417 + 1))
  else none
  else none
 else
  some [T.i .i64 1]
def f37_0_c (l0 l1 : List T) (x417 : Int) : CSt := ⟨[.ro 0 true [.i .i64, .sl true [.i .i64, .i .i64]] l0, .ro 0 true [.i .i64, .sl true [.i .i64, .i .i64]] l1, .i .i64 x417], [.dead, .dead]⟩
theorem f37_0_round (c : Orc) (lf : Nat) (l0 l1 : List T) (L : CSt → Option (List T)) (x417 : Int) :
 roundK c env lf 6 fi37 2 4 [] [0, 1, 5] (x37_4_0) L (f37_0_c l0 l1 x417) = f37_0_s c lf l0 l1 (fun x417 => L (f37_0_c l0 l1 x417)) x417 := by kernel_rfl
def f37_0 (c : Orc) (lf : Nat) (l0 l1 : List T) : Nat → Int → Option (List T)
 | 0 => fun _ => none
 | n + 1 => fun x417 => f37_0_s c lf l0 l1 (f37_0 c lf l0 l1 n) x417
theorem f37_0_eq (c : Orc) (lf : Nat) (l0 l1 : List T) (n : Nat) (x417 : Int) :
 lpK c env lf 6 fi37 2 4 [] [0, 1, 5] (x37_4_0) n (f37_0_c l0 l1 x417) = f37_0 c lf l0 l1 n x417 := by
 induction n generalizing x417 with
 | zero => rfl
 | succ n ih =>
  refine (f37_0_round c lf l0 l1 _ x417).trans ?_
  have e : (fun x417 => lpK c env lf 6 fi37 2 4 [] [0, 1, 5] (x37_4_0) n (f37_0_c l0 l1 x417)) = f37_0 c lf l0 l1 n := by funext x417; exact ih x417
  show f37_0_s c lf l0 l1 (fun x417 => lpK c env lf 6 fi37 2 4 [] [0, 1, 5] (x37_4_0) n (f37_0_c l0 l1 x417)) x417 = _
  rw [e]; rfl
def f37_t (c : Orc) (lf : Nat) (lp0 : List T → List T → Int → Option (List T)) (l0 l1 : List T) : Option (List T) :=
 bif (l0.length : Int) != (l1.length : Int) then
  some [T.b false]
 else
  (lp0 l0 l1 0).bind fun r419 =>
  bif asI (nth r419 0) == 0 then
   some [T.b (asB (nth r419 1))]
  else
   some [T.b true]
def f37 (c : Orc) (lf : Nat) (l0 l1 : List T) : Option (List T) := f37_t c lf (fun (l0 l1 : List T) (x417 : Int) => f37_0 c lf l0 l1 lf x417) l0 l1
theorem f37_raw (c : Orc) (lf : Nat) (l0 l1 : List T) : funK c env lf 6 fi37 [.sl l0, .sl l1] = f37_t c lf (fun (l0 l1 : List T) (x417 : Int) => lpK c env lf 6 fi37 2 4 [] [0, 1, 5] (x37_4_0) lf (f37_0_c l0 l1 x417)) l0 l1 := by kernel_rfl
theorem f37_eq (c : Orc) (lf : Nat) (l0 l1 : List T) : funK c env lf 6 fi37 [.sl l0, .sl l1] = f37 c lf l0 l1 := by
 refine (f37_raw c lf l0 l1).trans ?_
 have e0 : (fun (l0 l1 : List T) (x417 : Int) => lpK c env lf 6 fi37 2 4 [] [0, 1, 5] (x37_4_0) lf (f37_0_c l0 l1 x417)) = (fun (l0 l1 : List T) (x417 : Int) => f37_0 c lf l0 l1 lf x417) := by funext l0 l1 x417; exact f37_0_eq c lf l0 l1 lf x417
 rw [e0]; rfl
def f11_t (c : Orc) (lf : Nat) (l0_0 : List T) (n0_1 n0_2 : Int) (l0_3 l0_4 : List T) (n0_5 n0_6 : Int) (l1_0 : List T) (n1_1 n1_2 : Int) (l1_3 l1_4 : List T) (n1_5 n1_6 : Int) : Option (List T) :=
 (c 35 [T.st [T.sl l0_0, T.i .i64 n0_1], T.st [T.sl l1_0, T.i .i64 n1_1]]).bind fun r420 =>
 bif !(asB (nth r420 0)) then
  some [T.b false]
 else
  (c 36 [T.st [T.i .i64 n0_2, T.sl l0_3], T.st [T.i .i64 n1_2, T.sl l1_3]]).bind fun r421 =>
  bif !(asB (nth r421 0)) then
   some [T.b false]
  else
   (c 37 [T.sl l0_4, T.sl l1_4]).bind fun r422 =>
   bif !(asB (nth r422 0)) then
    some [T.b false]
   else
    bif n0_5 != n1_5 then
     some [T.b false]
    else
     bif n0_6 != n1_6 then
      some [T.b false]
     else
      some [T.b true]
def f11 (c : Orc) (lf : Nat) (l0_0 : List T) (n0_1 n0_2 : Int) (l0_3 l0_4 : List T) (n0_5 n0_6 : Int) (l1_0 : List T) (n1_1 n1_2 : Int) (l1_3 l1_4 : List T) (n1_5 n1_6 : Int) : Option (List T) := f11_t c lf l0_0 n0_1 n0_2 l0_3 l0_4 n0_5 n0_6 l1_0 n1_1 n1_2 l1_3 l1_4 n1_5 n1_6
theorem f11_eq (c : Orc) (lf : Nat) (l0_0 : List T) (n0_1 n0_2 : Int) (l0_3 l0_4 : List T) (n0_5 n0_6 : Int) (l1_0 : List T) (n1_1 n1_2 : Int) (l1_3 l1_4 : List T) (n1_5 n1_6 : Int) : funK c env lf 6 fi11 [.st [.sl l0_0, .i .i64 n0_1, .i .i64 n0_2, .sl l0_3, .sl l0_4, .i .i64 n0_5, .i .i64 n0_6], .st [.sl l1_0, .i .i64 n1_1, .i .i64 n1_2, .sl l1_3, .sl l1_4, .i .i64 n1_5, .i .i64 n1_6]] = f11 c lf l0_0 n0_1 n0_2 l0_3 l0_4 n0_5 n0_6 l1_0 n1_1 n1_2 l1_3 l1_4 n1_5 n1_6 := by kernel_rfl
def f95_0_s (c : Orc) (lf : Nat) (L : Int → ByteArray → Option (List T)) (x426 : Int) (x427 : ByteArray) : Option (List T) :=
 bif iLt 0 x426 then
  bif nLe ((bytesOf ([T.i .u8 (IntKind.wrap .u8 (IntKind.wrap .i64 (48 + (x426.tmod 10))))] : List T)).size + x427.size) LIM then
  L (IntKind.wrap .i64 (x426.tdiv 10)) ((bytesOf ([T.i .u8 (IntKind.wrap .u8 (IntKind.wrap .i64 (48 + (x426.tmod 10))))] : List T)) ++ x427)
  else none
 else
  some [T.i .i64 0, T.s x427]
def f95_0_c (x426 : Int) (x427 : ByteArray) : CSt := ⟨[.i .i64 x426, .s x427], [.dead]⟩
theorem f95_0_round (c : Orc) (lf : Nat) (L : CSt → Option (List T)) (x426 : Int) (x427 : ByteArray) :
 roundK c env lf 6 fi95 1 4 [] [0, 3] (x95_4_0) L (f95_0_c x426 x427) = f95_0_s c lf (fun x426 x427 => L (f95_0_c x426 x427)) x426 x427 := by kernel_rfl
def f95_0 (c : Orc) (lf : Nat) : Nat → Int → ByteArray → Option (List T)
 | 0 => fun _ _ => none
 | n + 1 => fun x426 x427 => f95_0_s c lf (f95_0 c lf n) x426 x427
theorem f95_0_eq (c : Orc) (lf n : Nat) (x426 : Int) (x427 : ByteArray) :
 lpK c env lf 6 fi95 1 4 [] [0, 3] (x95_4_0) n (f95_0_c x426 x427) = f95_0 c lf n x426 x427 := by
 induction n generalizing x426 x427 with
 | zero => rfl
 | succ n ih =>
  refine (f95_0_round c lf _ x426 x427).trans ?_
  have e : (fun x426 x427 => lpK c env lf 6 fi95 1 4 [] [0, 3] (x95_4_0) n (f95_0_c x426 x427)) = f95_0 c lf n := by funext x426 x427; exact ih x426 x427
  show f95_0_s c lf (fun x426 x427 => lpK c env lf 6 fi95 1 4 [] [0, 3] (x95_4_0) n (f95_0_c x426 x427)) x426 x427 = _
  rw [e]; rfl
def f95_t (c : Orc) (lf : Nat) (lp0 : Int → ByteArray → Option (List T)) (n0 : Int) : Option (List T) :=
 bif iLe n0 0 then
  some [T.s (⟨#[109, 48]⟩ : ByteArray)]
 else
  (lp0 n0 (⟨#[]⟩ : ByteArray)).bind fun r428 =>
  bif nLe ((⟨#[109]⟩ : ByteArray).size + (asS (nth r428 1)).size) LIM then
  some [T.s ((⟨#[109]⟩ : ByteArray) ++ (asS (nth r428 1)))]
  else none
def f95 (c : Orc) (lf : Nat) (n0 : Int) : Option (List T) := f95_t c lf (fun (x426 : Int) (x427 : ByteArray) => f95_0 c lf lf x426 x427) n0
theorem f95_raw (c : Orc) (lf : Nat) (n0 : Int) : funK c env lf 6 fi95 [.i .i64 n0] = f95_t c lf (fun (x426 : Int) (x427 : ByteArray) => lpK c env lf 6 fi95 1 4 [] [0, 3] (x95_4_0) lf (f95_0_c x426 x427)) n0 := by kernel_rfl
theorem f95_eq (c : Orc) (lf : Nat) (n0 : Int) : funK c env lf 6 fi95 [.i .i64 n0] = f95 c lf n0 := by
 refine (f95_raw c lf n0).trans ?_
 have e0 : (fun (x426 : Int) (x427 : ByteArray) => lpK c env lf 6 fi95 1 4 [] [0, 3] (x95_4_0) lf (f95_0_c x426 x427)) = (fun (x426 : Int) (x427 : ByteArray) => f95_0 c lf lf x426 x427) := by funext x426 x427; exact f95_0_eq c lf lf x426 x427
 rw [e0]; rfl
def f113_0_s (c : Orc) (lf : Nat) (L : Int → Int → List T → Option (List T)) (x433 x434 : Int) (x435 : List T) : Option (List T) :=
 bif iLt x434 (x435.length : Int) then
  bif inR x434 x435.length then
  L (IntKind.wrap .i64 (x433 + 1)) (IntKind.wrap .i64 (x434 + 1)) (x435.set x434.toNat (T.i .u8 (IntKind.wrap .u8 x433)))
  else none
 else
  some [T.i .i64 0, T.i .i64 x433, T.sl x435]
def f113_0_c (x433 x434 : Int) (x435 : List T) : CSt := ⟨[.rf 0 [] 0 none, .i .i64 x433, .i .i64 x434], [.row false [.i .u8] x435 0 false, .dead]⟩
theorem f113_0_round (c : Orc) (lf : Nat) (L : CSt → Option (List T)) (x433 x434 : Int) (x435 : List T) :
 roundK c env lf 6 fi113 2 2 [] [0, 1, 5] (x113_2_0) L (f113_0_c x433 x434 x435) = f113_0_s c lf (fun x433 x434 x435 => L (f113_0_c x433 x434 x435)) x433 x434 x435 := by kernel_rfl
def f113_0 (c : Orc) (lf : Nat) : Nat → Int → Int → List T → Option (List T)
 | 0 => fun _ _ _ => none
 | n + 1 => fun x433 x434 x435 => f113_0_s c lf (f113_0 c lf n) x433 x434 x435
theorem f113_0_u (c : Orc) (lf n : Nat) (x433 x434 : Int) (x435 : List T) : f113_0 c lf (n + 1) x433 x434 x435 = f113_0_s c lf (f113_0 c lf n) x433 x434 x435 := rfl
theorem f113_0_eq (c : Orc) (lf n : Nat) (x433 x434 : Int) (x435 : List T) :
 lpK c env lf 6 fi113 2 2 [] [0, 1, 5] (x113_2_0) n (f113_0_c x433 x434 x435) = f113_0 c lf n x433 x434 x435 := by
 induction n generalizing x433 x434 x435 with
 | zero => rfl
 | succ n ih =>
  refine (f113_0_round c lf _ x433 x434 x435).trans ?_
  have e : (fun x433 x434 x435 => lpK c env lf 6 fi113 2 2 [] [0, 1, 5] (x113_2_0) n (f113_0_c x433 x434 x435)) = f113_0 c lf n := by funext x433 x434 x435; exact ih x433 x434 x435
  show f113_0_s c lf (fun x433 x434 x435 => lpK c env lf 6 fi113 2 2 [] [0, 1, 5] (x113_2_0) n (f113_0_c x433 x434 x435)) x433 x434 x435 = _
  rw [e]; rfl
def f113_t (c : Orc) (lf : Nat) (lp0 : Int → Int → List T → Option (List T)) (l0 : List T) (n1 : Int) : Option (List T) :=
 (lp0 n1 0 l0).bind fun r436 =>
 some [T.i .i64 (asI (nth r436 1)), T.sl (asL (nth r436 2))]
def f113 (c : Orc) (lf : Nat) (l0 : List T) (n1 : Int) : Option (List T) := f113_t c lf (fun (x433 x434 : Int) (x435 : List T) => f113_0 c lf lf x433 x434 x435) l0 n1
theorem f113_raw (c : Orc) (lf : Nat) (l0 : List T) (n1 : Int) : funK c env lf 6 fi113 [.sl l0, .i .i64 n1] = f113_t c lf (fun (x433 x434 : Int) (x435 : List T) => lpK c env lf 6 fi113 2 2 [] [0, 1, 5] (x113_2_0) lf (f113_0_c x433 x434 x435)) l0 n1 := by kernel_rfl
theorem f113_eq (c : Orc) (lf : Nat) (l0 : List T) (n1 : Int) : funK c env lf 6 fi113 [.sl l0, .i .i64 n1] = f113 c lf l0 n1 := by
 refine (f113_raw c lf l0 n1).trans ?_
 have e0 : (fun (x433 x434 : Int) (x435 : List T) => lpK c env lf 6 fi113 2 2 [] [0, 1, 5] (x113_2_0) lf (f113_0_c x433 x434 x435)) = (fun (x433 x434 : Int) (x435 : List T) => f113_0 c lf lf x433 x434 x435) := by funext x433 x434 x435; exact f113_0_eq c lf lf x433 x434 x435
 rw [e0]; rfl
def f114_0_s (c : Orc) (lf : Nat) (L : Int → Int → List T → Option (List T)) (x444 x445 : Int) (x446 : List T) : Option (List T) :=
 bif iLt x445 (x446.length : Int) then
  (c 95 [T.i .i64 x444]).bind fun r447 =>
  bif inR x445 x446.length then
  bif inR x445 ((x446.set x445.toNat (T.setc (x446.getD x445.toNat T.u) 0 (T.s (asS (nth r447 0))))).length) then
  L (IntKind.wrap .i64 ((IntKind.wrap .i64 (x444 + 1)) + 1)) (IntKind.wrap .i64 (x445 + 1)) ((x446.set x445.toNat (T.setc (x446.getD x445.toNat T.u) 0 (T.s (asS (nth r447 0))))).set x445.toNat (T.setc ((x446.set x445.toNat (T.setc (x446.getD x445.toNat T.u) 0 (T.s (asS (nth r447 0))))).getD x445.toNat T.u) 1 (T.i .i64 (IntKind.wrap .i64 (x444 + 1)))))
  else none
  else none
 else
  some [T.i .i64 0, T.i .i64 x444, T.sl x446]
def f114_0_c (x444 x445 : Int) (x446 : List T) : CSt := ⟨[.rf 0 [] 0 none, .i .i64 x444, .i .i64 x445], [.row true [.s, .i .i64] x446 0 false, .dead]⟩
theorem f114_0_round (c : Orc) (lf : Nat) (L : CSt → Option (List T)) (x444 x445 : Int) (x446 : List T) :
 roundK c env lf 6 fi114 2 2 [] [0, 1, 5] (x114_2_0) L (f114_0_c x444 x445 x446) = f114_0_s c lf (fun x444 x445 x446 => L (f114_0_c x444 x445 x446)) x444 x445 x446 := by kernel_rfl
def f114_0 (c : Orc) (lf : Nat) : Nat → Int → Int → List T → Option (List T)
 | 0 => fun _ _ _ => none
 | n + 1 => fun x444 x445 x446 => f114_0_s c lf (f114_0 c lf n) x444 x445 x446
theorem f114_0_u (c : Orc) (lf n : Nat) (x444 x445 : Int) (x446 : List T) : f114_0 c lf (n + 1) x444 x445 x446 = f114_0_s c lf (f114_0 c lf n) x444 x445 x446 := rfl
theorem f114_0_eq (c : Orc) (lf n : Nat) (x444 x445 : Int) (x446 : List T) :
 lpK c env lf 6 fi114 2 2 [] [0, 1, 5] (x114_2_0) n (f114_0_c x444 x445 x446) = f114_0 c lf n x444 x445 x446 := by
 induction n generalizing x444 x445 x446 with
 | zero => rfl
 | succ n ih =>
  refine (f114_0_round c lf _ x444 x445 x446).trans ?_
  have e : (fun x444 x445 x446 => lpK c env lf 6 fi114 2 2 [] [0, 1, 5] (x114_2_0) n (f114_0_c x444 x445 x446)) = f114_0 c lf n := by funext x444 x445 x446; exact ih x444 x445 x446
  show f114_0_s c lf (fun x444 x445 x446 => lpK c env lf 6 fi114 2 2 [] [0, 1, 5] (x114_2_0) n (f114_0_c x444 x445 x446)) x444 x445 x446 = _
  rw [e]; rfl
def f114_t (c : Orc) (lf : Nat) (lp0 : Int → Int → List T → Option (List T)) (l0 : List T) (n1 : Int) : Option (List T) :=
 (lp0 n1 0 l0).bind fun r448 =>
 some [T.i .i64 (asI (nth r448 1)), T.sl (asL (nth r448 2))]
def f114 (c : Orc) (lf : Nat) (l0 : List T) (n1 : Int) : Option (List T) := f114_t c lf (fun (x444 x445 : Int) (x446 : List T) => f114_0 c lf lf x444 x445 x446) l0 n1
theorem f114_raw (c : Orc) (lf : Nat) (l0 : List T) (n1 : Int) : funK c env lf 6 fi114 [.sl l0, .i .i64 n1] = f114_t c lf (fun (x444 x445 : Int) (x446 : List T) => lpK c env lf 6 fi114 2 2 [] [0, 1, 5] (x114_2_0) lf (f114_0_c x444 x445 x446)) l0 n1 := by kernel_rfl
theorem f114_eq (c : Orc) (lf : Nat) (l0 : List T) (n1 : Int) : funK c env lf 6 fi114 [.sl l0, .i .i64 n1] = f114 c lf l0 n1 := by
 refine (f114_raw c lf l0 n1).trans ?_
 have e0 : (fun (x444 x445 : Int) (x446 : List T) => lpK c env lf 6 fi114 2 2 [] [0, 1, 5] (x114_2_0) lf (f114_0_c x444 x445 x446)) = (fun (x444 x445 : Int) (x446 : List T) => f114_0 c lf lf x444 x445 x446) := by funext x444 x445 x446; exact f114_0_eq c lf lf x444 x445 x446
 rw [e0]; rfl
def f115_0_s (c : Orc) (lf : Nat) (L : Int → Int → List T → Option (List T)) (x459 x460 : Int) (x461 : List T) : Option (List T) :=
 bif iLt x460 (x461.length : Int) then
  (c 95 [T.i .i64 x459]).bind fun r462 =>
  bif inR x460 x461.length then
  (c 95 [T.i .i64 (IntKind.wrap .i64 (x459 + 1))]).bind fun r463 =>
  bif inR x460 ((x461.set x460.toNat (T.setc (x461.getD x460.toNat T.u) 0 (T.s (asS (nth r462 0))))).length) then
  L (IntKind.wrap .i64 ((IntKind.wrap .i64 (x459 + 1)) + 1)) (IntKind.wrap .i64 (x460 + 1)) ((x461.set x460.toNat (T.setc (x461.getD x460.toNat T.u) 0 (T.s (asS (nth r462 0))))).set x460.toNat (T.setc ((x461.set x460.toNat (T.setc (x461.getD x460.toNat T.u) 0 (T.s (asS (nth r462 0))))).getD x460.toNat T.u) 1 (T.s (asS (nth r463 0)))))
  else none
  else none
 else
  some [T.i .i64 0, T.i .i64 x459, T.sl x461]
def f115_0_c (x459 x460 : Int) (x461 : List T) : CSt := ⟨[.rf 0 [] 0 none, .i .i64 x459, .i .i64 x460], [.row true [.s, .s] x461 0 false, .dead]⟩
theorem f115_0_round (c : Orc) (lf : Nat) (L : CSt → Option (List T)) (x459 x460 : Int) (x461 : List T) :
 roundK c env lf 6 fi115 2 2 [] [0, 1, 5] (x115_2_0) L (f115_0_c x459 x460 x461) = f115_0_s c lf (fun x459 x460 x461 => L (f115_0_c x459 x460 x461)) x459 x460 x461 := by kernel_rfl
def f115_0 (c : Orc) (lf : Nat) : Nat → Int → Int → List T → Option (List T)
 | 0 => fun _ _ _ => none
 | n + 1 => fun x459 x460 x461 => f115_0_s c lf (f115_0 c lf n) x459 x460 x461
theorem f115_0_u (c : Orc) (lf n : Nat) (x459 x460 : Int) (x461 : List T) : f115_0 c lf (n + 1) x459 x460 x461 = f115_0_s c lf (f115_0 c lf n) x459 x460 x461 := rfl
theorem f115_0_eq (c : Orc) (lf n : Nat) (x459 x460 : Int) (x461 : List T) :
 lpK c env lf 6 fi115 2 2 [] [0, 1, 5] (x115_2_0) n (f115_0_c x459 x460 x461) = f115_0 c lf n x459 x460 x461 := by
 induction n generalizing x459 x460 x461 with
 | zero => rfl
 | succ n ih =>
  refine (f115_0_round c lf _ x459 x460 x461).trans ?_
  have e : (fun x459 x460 x461 => lpK c env lf 6 fi115 2 2 [] [0, 1, 5] (x115_2_0) n (f115_0_c x459 x460 x461)) = f115_0 c lf n := by funext x459 x460 x461; exact ih x459 x460 x461
  show f115_0_s c lf (fun x459 x460 x461 => lpK c env lf 6 fi115 2 2 [] [0, 1, 5] (x115_2_0) n (f115_0_c x459 x460 x461)) x459 x460 x461 = _
  rw [e]; rfl
def f115_t (c : Orc) (lf : Nat) (lp0 : Int → Int → List T → Option (List T)) (l0 : List T) (n1 : Int) : Option (List T) :=
 (lp0 n1 0 l0).bind fun r464 =>
 some [T.i .i64 (asI (nth r464 1)), T.sl (asL (nth r464 2))]
def f115 (c : Orc) (lf : Nat) (l0 : List T) (n1 : Int) : Option (List T) := f115_t c lf (fun (x459 x460 : Int) (x461 : List T) => f115_0 c lf lf x459 x460 x461) l0 n1
theorem f115_raw (c : Orc) (lf : Nat) (l0 : List T) (n1 : Int) : funK c env lf 6 fi115 [.sl l0, .i .i64 n1] = f115_t c lf (fun (x459 x460 : Int) (x461 : List T) => lpK c env lf 6 fi115 2 2 [] [0, 1, 5] (x115_2_0) lf (f115_0_c x459 x460 x461)) l0 n1 := by kernel_rfl
theorem f115_eq (c : Orc) (lf : Nat) (l0 : List T) (n1 : Int) : funK c env lf 6 fi115 [.sl l0, .i .i64 n1] = f115 c lf l0 n1 := by
 refine (f115_raw c lf l0 n1).trans ?_
 have e0 : (fun (x459 x460 : Int) (x461 : List T) => lpK c env lf 6 fi115 2 2 [] [0, 1, 5] (x115_2_0) lf (f115_0_c x459 x460 x461)) = (fun (x459 x460 : Int) (x461 : List T) => f115_0 c lf lf x459 x460 x461) := by funext x459 x460 x461; exact f115_0_eq c lf lf x459 x460 x461
 rw [e0]; rfl
def f96_0_s (c : Orc) (lf : Nat) (L : Int → Int → List T → Option (List T)) (x478 x479 : Int) (x480 : List T) : Option (List T) :=
 bif iLt x479 (x480.length : Int) then
  bif inR x479 x480.length then
  bif inR x479 ((x480.set x479.toNat (T.setc (x480.getD x479.toNat T.u) 0 (T.i .i64 x478))).length) then
  bif inR x479 (((x480.set x479.toNat (T.setc (x480.getD x479.toNat T.u) 0 (T.i .i64 x478))).set x479.toNat (T.setc ((x480.set x479.toNat (T.setc (x480.getD x479.toNat T.u) 0 (T.i .i64 x478))).getD x479.toNat T.u) 1 (T.i .i64 (IntKind.wrap .i64 (x478 + 1))))).length) then
  bif inR x479 ((((x480.set x479.toNat (T.setc (x480.getD x479.toNat T.u) 0 (T.i .i64 x478))).set x479.toNat (T.setc ((x480.set x479.toNat (T.setc (x480.getD x479.toNat T.u) 0 (T.i .i64 x478))).getD x479.toNat T.u) 1 (T.i .i64 (IntKind.wrap .i64 (x478 + 1))))).set x479.toNat (T.setc (((x480.set x479.toNat (T.setc (x480.getD x479.toNat T.u) 0 (T.i .i64 x478))).set x479.toNat (T.setc ((x480.set x479.toNat (T.setc (x480.getD x479.toNat T.u) 0 (T.i .i64 x478))).getD x479.toNat T.u) 1 (T.i .i64 (IntKind.wrap .i64 (x478 + 1))))).getD x479.toNat T.u) 2 (T.i .i64 (IntKind.wrap .i64 ((IntKind.wrap .i64 (x478 + 1)) + 1))))).length) then
  (c 113 [T.sl (asL (T.cell ((((x480.set x479.toNat (T.setc (x480.getD x479.toNat T.u) 0 (T.i .i64 x478))).set x479.toNat (T.setc ((x480.set x479.toNat (T.setc (x480.getD x479.toNat T.u) 0 (T.i .i64 x478))).getD x479.toNat T.u) 1 (T.i .i64 (IntKind.wrap .i64 (x478 + 1))))).set x479.toNat (T.setc (((x480.set x479.toNat (T.setc (x480.getD x479.toNat T.u) 0 (T.i .i64 x478))).set x479.toNat (T.setc ((x480.set x479.toNat (T.setc (x480.getD x479.toNat T.u) 0 (T.i .i64 x478))).getD x479.toNat T.u) 1 (T.i .i64 (IntKind.wrap .i64 (x478 + 1))))).getD x479.toNat T.u) 2 (T.i .i64 (IntKind.wrap .i64 ((IntKind.wrap .i64 (x478 + 1)) + 1))))).getD x479.toNat T.u) 3)), T.i .i64 (IntKind.wrap .i64 ((IntKind.wrap .i64 ((IntKind.wrap .i64 (x478 + 1)) + 1)) + 1))]).bind fun r481 =>
  bif inR x479 (((((x480.set x479.toNat (T.setc (x480.getD x479.toNat T.u) 0 (T.i .i64 x478))).set x479.toNat (T.setc ((x480.set x479.toNat (T.setc (x480.getD x479.toNat T.u) 0 (T.i .i64 x478))).getD x479.toNat T.u) 1 (T.i .i64 (IntKind.wrap .i64 (x478 + 1))))).set x479.toNat (T.setc (((x480.set x479.toNat (T.setc (x480.getD x479.toNat T.u) 0 (T.i .i64 x478))).set x479.toNat (T.setc ((x480.set x479.toNat (T.setc (x480.getD x479.toNat T.u) 0 (T.i .i64 x478))).getD x479.toNat T.u) 1 (T.i .i64 (IntKind.wrap .i64 (x478 + 1))))).getD x479.toNat T.u) 2 (T.i .i64 (IntKind.wrap .i64 ((IntKind.wrap .i64 (x478 + 1)) + 1))))).set x479.toNat (T.setc ((((x480.set x479.toNat (T.setc (x480.getD x479.toNat T.u) 0 (T.i .i64 x478))).set x479.toNat (T.setc ((x480.set x479.toNat (T.setc (x480.getD x479.toNat T.u) 0 (T.i .i64 x478))).getD x479.toNat T.u) 1 (T.i .i64 (IntKind.wrap .i64 (x478 + 1))))).set x479.toNat (T.setc (((x480.set x479.toNat (T.setc (x480.getD x479.toNat T.u) 0 (T.i .i64 x478))).set x479.toNat (T.setc ((x480.set x479.toNat (T.setc (x480.getD x479.toNat T.u) 0 (T.i .i64 x478))).getD x479.toNat T.u) 1 (T.i .i64 (IntKind.wrap .i64 (x478 + 1))))).getD x479.toNat T.u) 2 (T.i .i64 (IntKind.wrap .i64 ((IntKind.wrap .i64 (x478 + 1)) + 1))))).getD x479.toNat T.u) 3 (T.sl (asL (nth r481 1))))).length) then
  (c 114 [T.sl (asL (T.cell (((((x480.set x479.toNat (T.setc (x480.getD x479.toNat T.u) 0 (T.i .i64 x478))).set x479.toNat (T.setc ((x480.set x479.toNat (T.setc (x480.getD x479.toNat T.u) 0 (T.i .i64 x478))).getD x479.toNat T.u) 1 (T.i .i64 (IntKind.wrap .i64 (x478 + 1))))).set x479.toNat (T.setc (((x480.set x479.toNat (T.setc (x480.getD x479.toNat T.u) 0 (T.i .i64 x478))).set x479.toNat (T.setc ((x480.set x479.toNat (T.setc (x480.getD x479.toNat T.u) 0 (T.i .i64 x478))).getD x479.toNat T.u) 1 (T.i .i64 (IntKind.wrap .i64 (x478 + 1))))).getD x479.toNat T.u) 2 (T.i .i64 (IntKind.wrap .i64 ((IntKind.wrap .i64 (x478 + 1)) + 1))))).set x479.toNat (T.setc ((((x480.set x479.toNat (T.setc (x480.getD x479.toNat T.u) 0 (T.i .i64 x478))).set x479.toNat (T.setc ((x480.set x479.toNat (T.setc (x480.getD x479.toNat T.u) 0 (T.i .i64 x478))).getD x479.toNat T.u) 1 (T.i .i64 (IntKind.wrap .i64 (x478 + 1))))).set x479.toNat (T.setc (((x480.set x479.toNat (T.setc (x480.getD x479.toNat T.u) 0 (T.i .i64 x478))).set x479.toNat (T.setc ((x480.set x479.toNat (T.setc (x480.getD x479.toNat T.u) 0 (T.i .i64 x478))).getD x479.toNat T.u) 1 (T.i .i64 (IntKind.wrap .i64 (x478 + 1))))).getD x479.toNat T.u) 2 (T.i .i64 (IntKind.wrap .i64 ((IntKind.wrap .i64 (x478 + 1)) + 1))))).getD x479.toNat T.u) 3 (T.sl (asL (nth r481 1))))).getD x479.toNat T.u) 4)), T.i .i64 (asI (nth r481 0))]).bind fun r482 =>
  bif inR x479 ((((((x480.set x479.toNat (T.setc (x480.getD x479.toNat T.u) 0 (T.i .i64 x478))).set x479.toNat (T.setc ((x480.set x479.toNat (T.setc (x480.getD x479.toNat T.u) 0 (T.i .i64 x478))).getD x479.toNat T.u) 1 (T.i .i64 (IntKind.wrap .i64 (x478 + 1))))).set x479.toNat (T.setc (((x480.set x479.toNat (T.setc (x480.getD x479.toNat T.u) 0 (T.i .i64 x478))).set x479.toNat (T.setc ((x480.set x479.toNat (T.setc (x480.getD x479.toNat T.u) 0 (T.i .i64 x478))).getD x479.toNat T.u) 1 (T.i .i64 (IntKind.wrap .i64 (x478 + 1))))).getD x479.toNat T.u) 2 (T.i .i64 (IntKind.wrap .i64 ((IntKind.wrap .i64 (x478 + 1)) + 1))))).set x479.toNat (T.setc ((((x480.set x479.toNat (T.setc (x480.getD x479.toNat T.u) 0 (T.i .i64 x478))).set x479.toNat (T.setc ((x480.set x479.toNat (T.setc (x480.getD x479.toNat T.u) 0 (T.i .i64 x478))).getD x479.toNat T.u) 1 (T.i .i64 (IntKind.wrap .i64 (x478 + 1))))).set x479.toNat (T.setc (((x480.set x479.toNat (T.setc (x480.getD x479.toNat T.u) 0 (T.i .i64 x478))).set x479.toNat (T.setc ((x480.set x479.toNat (T.setc (x480.getD x479.toNat T.u) 0 (T.i .i64 x478))).getD x479.toNat T.u) 1 (T.i .i64 (IntKind.wrap .i64 (x478 + 1))))).getD x479.toNat T.u) 2 (T.i .i64 (IntKind.wrap .i64 ((IntKind.wrap .i64 (x478 + 1)) + 1))))).getD x479.toNat T.u) 3 (T.sl (asL (nth r481 1))))).set x479.toNat (T.setc (((((x480.set x479.toNat (T.setc (x480.getD x479.toNat T.u) 0 (T.i .i64 x478))).set x479.toNat (T.setc ((x480.set x479.toNat (T.setc (x480.getD x479.toNat T.u) 0 (T.i .i64 x478))).getD x479.toNat T.u) 1 (T.i .i64 (IntKind.wrap .i64 (x478 + 1))))).set x479.toNat (T.setc (((x480.set x479.toNat (T.setc (x480.getD x479.toNat T.u) 0 (T.i .i64 x478))).set x479.toNat (T.setc ((x480.set x479.toNat (T.setc (x480.getD x479.toNat T.u) 0 (T.i .i64 x478))).getD x479.toNat T.u) 1 (T.i .i64 (IntKind.wrap .i64 (x478 + 1))))).getD x479.toNat T.u) 2 (T.i .i64 (IntKind.wrap .i64 ((IntKind.wrap .i64 (x478 + 1)) + 1))))).set x479.toNat (T.setc ((((x480.set x479.toNat (T.setc (x480.getD x479.toNat T.u) 0 (T.i .i64 x478))).set x479.toNat (T.setc ((x480.set x479.toNat (T.setc (x480.getD x479.toNat T.u) 0 (T.i .i64 x478))).getD x479.toNat T.u) 1 (T.i .i64 (IntKind.wrap .i64 (x478 + 1))))).set x479.toNat (T.setc (((x480.set x479.toNat (T.setc (x480.getD x479.toNat T.u) 0 (T.i .i64 x478))).set x479.toNat (T.setc ((x480.set x479.toNat (T.setc (x480.getD x479.toNat T.u) 0 (T.i .i64 x478))).getD x479.toNat T.u) 1 (T.i .i64 (IntKind.wrap .i64 (x478 + 1))))).getD x479.toNat T.u) 2 (T.i .i64 (IntKind.wrap .i64 ((IntKind.wrap .i64 (x478 + 1)) + 1))))).getD x479.toNat T.u) 3 (T.sl (asL (nth r481 1))))).getD x479.toNat T.u) 4 (T.sl (asL (nth r482 1))))).length) then
  (c 115 [T.sl (asL (T.cell ((((((x480.set x479.toNat (T.setc (x480.getD x479.toNat T.u) 0 (T.i .i64 x478))).set x479.toNat (T.setc ((x480.set x479.toNat (T.setc (x480.getD x479.toNat T.u) 0 (T.i .i64 x478))).getD x479.toNat T.u) 1 (T.i .i64 (IntKind.wrap .i64 (x478 + 1))))).set x479.toNat (T.setc (((x480.set x479.toNat (T.setc (x480.getD x479.toNat T.u) 0 (T.i .i64 x478))).set x479.toNat (T.setc ((x480.set x479.toNat (T.setc (x480.getD x479.toNat T.u) 0 (T.i .i64 x478))).getD x479.toNat T.u) 1 (T.i .i64 (IntKind.wrap .i64 (x478 + 1))))).getD x479.toNat T.u) 2 (T.i .i64 (IntKind.wrap .i64 ((IntKind.wrap .i64 (x478 + 1)) + 1))))).set x479.toNat (T.setc ((((x480.set x479.toNat (T.setc (x480.getD x479.toNat T.u) 0 (T.i .i64 x478))).set x479.toNat (T.setc ((x480.set x479.toNat (T.setc (x480.getD x479.toNat T.u) 0 (T.i .i64 x478))).getD x479.toNat T.u) 1 (T.i .i64 (IntKind.wrap .i64 (x478 + 1))))).set x479.toNat (T.setc (((x480.set x479.toNat (T.setc (x480.getD x479.toNat T.u) 0 (T.i .i64 x478))).set x479.toNat (T.setc ((x480.set x479.toNat (T.setc (x480.getD x479.toNat T.u) 0 (T.i .i64 x478))).getD x479.toNat T.u) 1 (T.i .i64 (IntKind.wrap .i64 (x478 + 1))))).getD x479.toNat T.u) 2 (T.i .i64 (IntKind.wrap .i64 ((IntKind.wrap .i64 (x478 + 1)) + 1))))).getD x479.toNat T.u) 3 (T.sl (asL (nth r481 1))))).set x479.toNat (T.setc (((((x480.set x479.toNat (T.setc (x480.getD x479.toNat T.u) 0 (T.i .i64 x478))).set x479.toNat (T.setc ((x480.set x479.toNat (T.setc (x480.getD x479.toNat T.u) 0 (T.i .i64 x478))).getD x479.toNat T.u) 1 (T.i .i64 (IntKind.wrap .i64 (x478 + 1))))).set x479.toNat (T.setc (((x480.set x479.toNat (T.setc (x480.getD x479.toNat T.u) 0 (T.i .i64 x478))).set x479.toNat (T.setc ((x480.set x479.toNat (T.setc (x480.getD x479.toNat T.u) 0 (T.i .i64 x478))).getD x479.toNat T.u) 1 (T.i .i64 (IntKind.wrap .i64 (x478 + 1))))).getD x479.toNat T.u) 2 (T.i .i64 (IntKind.wrap .i64 ((IntKind.wrap .i64 (x478 + 1)) + 1))))).set x479.toNat (T.setc ((((x480.set x479.toNat (T.setc (x480.getD x479.toNat T.u) 0 (T.i .i64 x478))).set x479.toNat (T.setc ((x480.set x479.toNat (T.setc (x480.getD x479.toNat T.u) 0 (T.i .i64 x478))).getD x479.toNat T.u) 1 (T.i .i64 (IntKind.wrap .i64 (x478 + 1))))).set x479.toNat (T.setc (((x480.set x479.toNat (T.setc (x480.getD x479.toNat T.u) 0 (T.i .i64 x478))).set x479.toNat (T.setc ((x480.set x479.toNat (T.setc (x480.getD x479.toNat T.u) 0 (T.i .i64 x478))).getD x479.toNat T.u) 1 (T.i .i64 (IntKind.wrap .i64 (x478 + 1))))).getD x479.toNat T.u) 2 (T.i .i64 (IntKind.wrap .i64 ((IntKind.wrap .i64 (x478 + 1)) + 1))))).getD x479.toNat T.u) 3 (T.sl (asL (nth r481 1))))).getD x479.toNat T.u) 4 (T.sl (asL (nth r482 1))))).getD x479.toNat T.u) 5)), T.i .i64 (asI (nth r482 0))]).bind fun r483 =>
  L (asI (nth r483 0)) (IntKind.wrap .i64 (x479 + 1)) ((((((x480.set x479.toNat (T.setc (x480.getD x479.toNat T.u) 0 (T.i .i64 x478))).set x479.toNat (T.setc ((x480.set x479.toNat (T.setc (x480.getD x479.toNat T.u) 0 (T.i .i64 x478))).getD x479.toNat T.u) 1 (T.i .i64 (IntKind.wrap .i64 (x478 + 1))))).set x479.toNat (T.setc (((x480.set x479.toNat (T.setc (x480.getD x479.toNat T.u) 0 (T.i .i64 x478))).set x479.toNat (T.setc ((x480.set x479.toNat (T.setc (x480.getD x479.toNat T.u) 0 (T.i .i64 x478))).getD x479.toNat T.u) 1 (T.i .i64 (IntKind.wrap .i64 (x478 + 1))))).getD x479.toNat T.u) 2 (T.i .i64 (IntKind.wrap .i64 ((IntKind.wrap .i64 (x478 + 1)) + 1))))).set x479.toNat (T.setc ((((x480.set x479.toNat (T.setc (x480.getD x479.toNat T.u) 0 (T.i .i64 x478))).set x479.toNat (T.setc ((x480.set x479.toNat (T.setc (x480.getD x479.toNat T.u) 0 (T.i .i64 x478))).getD x479.toNat T.u) 1 (T.i .i64 (IntKind.wrap .i64 (x478 + 1))))).set x479.toNat (T.setc (((x480.set x479.toNat (T.setc (x480.getD x479.toNat T.u) 0 (T.i .i64 x478))).set x479.toNat (T.setc ((x480.set x479.toNat (T.setc (x480.getD x479.toNat T.u) 0 (T.i .i64 x478))).getD x479.toNat T.u) 1 (T.i .i64 (IntKind.wrap .i64 (x478 + 1))))).getD x479.toNat T.u) 2 (T.i .i64 (IntKind.wrap .i64 ((IntKind.wrap .i64 (x478 + 1)) + 1))))).getD x479.toNat T.u) 3 (T.sl (asL (nth r481 1))))).set x479.toNat (T.setc (((((x480.set x479.toNat (T.setc (x480.getD x479.toNat T.u) 0 (T.i .i64 x478))).set x479.toNat (T.setc ((x480.set x479.toNat (T.setc (x480.getD x479.toNat T.u) 0 (T.i .i64 x478))).getD x479.toNat T.u) 1 (T.i .i64 (IntKind.wrap .i64 (x478 + 1))))).set x479.toNat (T.setc (((x480.set x479.toNat (T.setc (x480.getD x479.toNat T.u) 0 (T.i .i64 x478))).set x479.toNat (T.setc ((x480.set x479.toNat (T.setc (x480.getD x479.toNat T.u) 0 (T.i .i64 x478))).getD x479.toNat T.u) 1 (T.i .i64 (IntKind.wrap .i64 (x478 + 1))))).getD x479.toNat T.u) 2 (T.i .i64 (IntKind.wrap .i64 ((IntKind.wrap .i64 (x478 + 1)) + 1))))).set x479.toNat (T.setc ((((x480.set x479.toNat (T.setc (x480.getD x479.toNat T.u) 0 (T.i .i64 x478))).set x479.toNat (T.setc ((x480.set x479.toNat (T.setc (x480.getD x479.toNat T.u) 0 (T.i .i64 x478))).getD x479.toNat T.u) 1 (T.i .i64 (IntKind.wrap .i64 (x478 + 1))))).set x479.toNat (T.setc (((x480.set x479.toNat (T.setc (x480.getD x479.toNat T.u) 0 (T.i .i64 x478))).set x479.toNat (T.setc ((x480.set x479.toNat (T.setc (x480.getD x479.toNat T.u) 0 (T.i .i64 x478))).getD x479.toNat T.u) 1 (T.i .i64 (IntKind.wrap .i64 (x478 + 1))))).getD x479.toNat T.u) 2 (T.i .i64 (IntKind.wrap .i64 ((IntKind.wrap .i64 (x478 + 1)) + 1))))).getD x479.toNat T.u) 3 (T.sl (asL (nth r481 1))))).getD x479.toNat T.u) 4 (T.sl (asL (nth r482 1))))).set x479.toNat (T.setc ((((((x480.set x479.toNat (T.setc (x480.getD x479.toNat T.u) 0 (T.i .i64 x478))).set x479.toNat (T.setc ((x480.set x479.toNat (T.setc (x480.getD x479.toNat T.u) 0 (T.i .i64 x478))).getD x479.toNat T.u) 1 (T.i .i64 (IntKind.wrap .i64 (x478 + 1))))).set x479.toNat (T.setc (((x480.set x479.toNat (T.setc (x480.getD x479.toNat T.u) 0 (T.i .i64 x478))).set x479.toNat (T.setc ((x480.set x479.toNat (T.setc (x480.getD x479.toNat T.u) 0 (T.i .i64 x478))).getD x479.toNat T.u) 1 (T.i .i64 (IntKind.wrap .i64 (x478 + 1))))).getD x479.toNat T.u) 2 (T.i .i64 (IntKind.wrap .i64 ((IntKind.wrap .i64 (x478 + 1)) + 1))))).set x479.toNat (T.setc ((((x480.set x479.toNat (T.setc (x480.getD x479.toNat T.u) 0 (T.i .i64 x478))).set x479.toNat (T.setc ((x480.set x479.toNat (T.setc (x480.getD x479.toNat T.u) 0 (T.i .i64 x478))).getD x479.toNat T.u) 1 (T.i .i64 (IntKind.wrap .i64 (x478 + 1))))).set x479.toNat (T.setc (((x480.set x479.toNat (T.setc (x480.getD x479.toNat T.u) 0 (T.i .i64 x478))).set x479.toNat (T.setc ((x480.set x479.toNat (T.setc (x480.getD x479.toNat T.u) 0 (T.i .i64 x478))).getD x479.toNat T.u) 1 (T.i .i64 (IntKind.wrap .i64 (x478 + 1))))).getD x479.toNat T.u) 2 (T.i .i64 (IntKind.wrap .i64 ((IntKind.wrap .i64 (x478 + 1)) + 1))))).getD x479.toNat T.u) 3 (T.sl (asL (nth r481 1))))).set x479.toNat (T.setc (((((x480.set x479.toNat (T.setc (x480.getD x479.toNat T.u) 0 (T.i .i64 x478))).set x479.toNat (T.setc ((x480.set x479.toNat (T.setc (x480.getD x479.toNat T.u) 0 (T.i .i64 x478))).getD x479.toNat T.u) 1 (T.i .i64 (IntKind.wrap .i64 (x478 + 1))))).set x479.toNat (T.setc (((x480.set x479.toNat (T.setc (x480.getD x479.toNat T.u) 0 (T.i .i64 x478))).set x479.toNat (T.setc ((x480.set x479.toNat (T.setc (x480.getD x479.toNat T.u) 0 (T.i .i64 x478))).getD x479.toNat T.u) 1 (T.i .i64 (IntKind.wrap .i64 (x478 + 1))))).getD x479.toNat T.u) 2 (T.i .i64 (IntKind.wrap .i64 ((IntKind.wrap .i64 (x478 + 1)) + 1))))).set x479.toNat (T.setc ((((x480.set x479.toNat (T.setc (x480.getD x479.toNat T.u) 0 (T.i .i64 x478))).set x479.toNat (T.setc ((x480.set x479.toNat (T.setc (x480.getD x479.toNat T.u) 0 (T.i .i64 x478))).getD x479.toNat T.u) 1 (T.i .i64 (IntKind.wrap .i64 (x478 + 1))))).set x479.toNat (T.setc (((x480.set x479.toNat (T.setc (x480.getD x479.toNat T.u) 0 (T.i .i64 x478))).set x479.toNat (T.setc ((x480.set x479.toNat (T.setc (x480.getD x479.toNat T.u) 0 (T.i .i64 x478))).getD x479.toNat T.u) 1 (T.i .i64 (IntKind.wrap .i64 (x478 + 1))))).getD x479.toNat T.u) 2 (T.i .i64 (IntKind.wrap .i64 ((IntKind.wrap .i64 (x478 + 1)) + 1))))).getD x479.toNat T.u) 3 (T.sl (asL (nth r481 1))))).getD x479.toNat T.u) 4 (T.sl (asL (nth r482 1))))).getD x479.toNat T.u) 5 (T.sl (asL (nth r483 1)))))
  else none
  else none
  else none
  else none
  else none
  else none
 else
  some [T.i .i64 0, T.i .i64 x478, T.sl x480]
def f96_0_c (x478 x479 : Int) (x480 : List T) : CSt := ⟨[.rf 0 [] 0 none, .i .i64 x478, .i .i64 x479], [.row true [.i .i64, .i .i64, .i .i64, .sl false [.i .u8], .sl true [.s, .i .i64], .sl true [.s, .s]] x480 0 false, .dead]⟩
theorem f96_0_round (c : Orc) (lf : Nat) (L : CSt → Option (List T)) (x478 x479 : Int) (x480 : List T) :
 roundK c env lf 6 fi96 2 2 [] [0, 1, 5] (x96_2_0) L (f96_0_c x478 x479 x480) = f96_0_s c lf (fun x478 x479 x480 => L (f96_0_c x478 x479 x480)) x478 x479 x480 := by kernel_rfl
def f96_0 (c : Orc) (lf : Nat) : Nat → Int → Int → List T → Option (List T)
 | 0 => fun _ _ _ => none
 | n + 1 => fun x478 x479 x480 => f96_0_s c lf (f96_0 c lf n) x478 x479 x480
theorem f96_0_u (c : Orc) (lf n : Nat) (x478 x479 : Int) (x480 : List T) : f96_0 c lf (n + 1) x478 x479 x480 = f96_0_s c lf (f96_0 c lf n) x478 x479 x480 := rfl
theorem f96_0_eq (c : Orc) (lf n : Nat) (x478 x479 : Int) (x480 : List T) :
 lpK c env lf 6 fi96 2 2 [] [0, 1, 5] (x96_2_0) n (f96_0_c x478 x479 x480) = f96_0 c lf n x478 x479 x480 := by
 induction n generalizing x478 x479 x480 with
 | zero => rfl
 | succ n ih =>
  refine (f96_0_round c lf _ x478 x479 x480).trans ?_
  have e : (fun x478 x479 x480 => lpK c env lf 6 fi96 2 2 [] [0, 1, 5] (x96_2_0) n (f96_0_c x478 x479 x480)) = f96_0 c lf n := by funext x478 x479 x480; exact ih x478 x479 x480
  show f96_0_s c lf (fun x478 x479 x480 => lpK c env lf 6 fi96 2 2 [] [0, 1, 5] (x96_2_0) n (f96_0_c x478 x479 x480)) x478 x479 x480 = _
  rw [e]; rfl
def f96_t (c : Orc) (lf : Nat) (lp0 : Int → Int → List T → Option (List T)) (l0 : List T) (n1 : Int) : Option (List T) :=
 (lp0 n1 0 l0).bind fun r484 =>
 some [T.i .i64 (asI (nth r484 1)), T.sl (asL (nth r484 2))]
def f96 (c : Orc) (lf : Nat) (l0 : List T) (n1 : Int) : Option (List T) := f96_t c lf (fun (x478 x479 : Int) (x480 : List T) => f96_0 c lf lf x478 x479 x480) l0 n1
theorem f96_raw (c : Orc) (lf : Nat) (l0 : List T) (n1 : Int) : funK c env lf 6 fi96 [.sl l0, .i .i64 n1] = f96_t c lf (fun (x478 x479 : Int) (x480 : List T) => lpK c env lf 6 fi96 2 2 [] [0, 1, 5] (x96_2_0) lf (f96_0_c x478 x479 x480)) l0 n1 := by kernel_rfl
theorem f96_eq (c : Orc) (lf : Nat) (l0 : List T) (n1 : Int) : funK c env lf 6 fi96 [.sl l0, .i .i64 n1] = f96 c lf l0 n1 := by
 refine (f96_raw c lf l0 n1).trans ?_
 have e0 : (fun (x478 x479 : Int) (x480 : List T) => lpK c env lf 6 fi96 2 2 [] [0, 1, 5] (x96_2_0) lf (f96_0_c x478 x479 x480)) = (fun (x478 x479 : Int) (x480 : List T) => f96_0 c lf lf x478 x479 x480) := by funext x478 x479 x480; exact f96_0_eq c lf lf x478 x479 x480
 rw [e0]; rfl
def f63_0_s (c : Orc) (lf : Nat) (L : Int → Int → List T → Option (List T)) (x495 x496 : Int) (x497 : List T) : Option (List T) :=
 bif iLt x496 (x497.length : Int) then
  bif inR x496 x497.length then
  (c 95 [T.i .i64 (IntKind.wrap .i64 (x495 + 1))]).bind fun r498 =>
  bif inR x496 ((x497.set x496.toNat (T.setc (x497.getD x496.toNat T.u) 0 (T.i .i64 x495))).length) then
  bif inR x496 (((x497.set x496.toNat (T.setc (x497.getD x496.toNat T.u) 0 (T.i .i64 x495))).set x496.toNat (T.setc ((x497.set x496.toNat (T.setc (x497.getD x496.toNat T.u) 0 (T.i .i64 x495))).getD x496.toNat T.u) 1 (T.s (asS (nth r498 0))))).length) then
  bif inR x496 ((((x497.set x496.toNat (T.setc (x497.getD x496.toNat T.u) 0 (T.i .i64 x495))).set x496.toNat (T.setc ((x497.set x496.toNat (T.setc (x497.getD x496.toNat T.u) 0 (T.i .i64 x495))).getD x496.toNat T.u) 1 (T.s (asS (nth r498 0))))).set x496.toNat (T.setc (((x497.set x496.toNat (T.setc (x497.getD x496.toNat T.u) 0 (T.i .i64 x495))).set x496.toNat (T.setc ((x497.set x496.toNat (T.setc (x497.getD x496.toNat T.u) 0 (T.i .i64 x495))).getD x496.toNat T.u) 1 (T.s (asS (nth r498 0))))).getD x496.toNat T.u) 2 (T.b (((IntKind.wrap .i64 ((IntKind.wrap .i64 (x495 + 1)) + 1)).tmod 3) == 0)))).length) then
  bif inR x496 (((((x497.set x496.toNat (T.setc (x497.getD x496.toNat T.u) 0 (T.i .i64 x495))).set x496.toNat (T.setc ((x497.set x496.toNat (T.setc (x497.getD x496.toNat T.u) 0 (T.i .i64 x495))).getD x496.toNat T.u) 1 (T.s (asS (nth r498 0))))).set x496.toNat (T.setc (((x497.set x496.toNat (T.setc (x497.getD x496.toNat T.u) 0 (T.i .i64 x495))).set x496.toNat (T.setc ((x497.set x496.toNat (T.setc (x497.getD x496.toNat T.u) 0 (T.i .i64 x495))).getD x496.toNat T.u) 1 (T.s (asS (nth r498 0))))).getD x496.toNat T.u) 2 (T.b (((IntKind.wrap .i64 ((IntKind.wrap .i64 (x495 + 1)) + 1)).tmod 3) == 0)))).set x496.toNat (T.setc ((((x497.set x496.toNat (T.setc (x497.getD x496.toNat T.u) 0 (T.i .i64 x495))).set x496.toNat (T.setc ((x497.set x496.toNat (T.setc (x497.getD x496.toNat T.u) 0 (T.i .i64 x495))).getD x496.toNat T.u) 1 (T.s (asS (nth r498 0))))).set x496.toNat (T.setc (((x497.set x496.toNat (T.setc (x497.getD x496.toNat T.u) 0 (T.i .i64 x495))).set x496.toNat (T.setc ((x497.set x496.toNat (T.setc (x497.getD x496.toNat T.u) 0 (T.i .i64 x495))).getD x496.toNat T.u) 1 (T.s (asS (nth r498 0))))).getD x496.toNat T.u) 2 (T.b (((IntKind.wrap .i64 ((IntKind.wrap .i64 (x495 + 1)) + 1)).tmod 3) == 0)))).getD x496.toNat T.u) 3 (T.i .i64 (IntKind.wrap .i64 ((IntKind.wrap .i64 ((IntKind.wrap .i64 (x495 + 1)) + 1)) + 1))))).length) then
  (c 96 [T.sl (asL (T.cell (((((x497.set x496.toNat (T.setc (x497.getD x496.toNat T.u) 0 (T.i .i64 x495))).set x496.toNat (T.setc ((x497.set x496.toNat (T.setc (x497.getD x496.toNat T.u) 0 (T.i .i64 x495))).getD x496.toNat T.u) 1 (T.s (asS (nth r498 0))))).set x496.toNat (T.setc (((x497.set x496.toNat (T.setc (x497.getD x496.toNat T.u) 0 (T.i .i64 x495))).set x496.toNat (T.setc ((x497.set x496.toNat (T.setc (x497.getD x496.toNat T.u) 0 (T.i .i64 x495))).getD x496.toNat T.u) 1 (T.s (asS (nth r498 0))))).getD x496.toNat T.u) 2 (T.b (((IntKind.wrap .i64 ((IntKind.wrap .i64 (x495 + 1)) + 1)).tmod 3) == 0)))).set x496.toNat (T.setc ((((x497.set x496.toNat (T.setc (x497.getD x496.toNat T.u) 0 (T.i .i64 x495))).set x496.toNat (T.setc ((x497.set x496.toNat (T.setc (x497.getD x496.toNat T.u) 0 (T.i .i64 x495))).getD x496.toNat T.u) 1 (T.s (asS (nth r498 0))))).set x496.toNat (T.setc (((x497.set x496.toNat (T.setc (x497.getD x496.toNat T.u) 0 (T.i .i64 x495))).set x496.toNat (T.setc ((x497.set x496.toNat (T.setc (x497.getD x496.toNat T.u) 0 (T.i .i64 x495))).getD x496.toNat T.u) 1 (T.s (asS (nth r498 0))))).getD x496.toNat T.u) 2 (T.b (((IntKind.wrap .i64 ((IntKind.wrap .i64 (x495 + 1)) + 1)).tmod 3) == 0)))).getD x496.toNat T.u) 3 (T.i .i64 (IntKind.wrap .i64 ((IntKind.wrap .i64 ((IntKind.wrap .i64 (x495 + 1)) + 1)) + 1))))).getD x496.toNat T.u) 4)), T.i .i64 (IntKind.wrap .i64 ((IntKind.wrap .i64 ((IntKind.wrap .i64 ((IntKind.wrap .i64 (x495 + 1)) + 1)) + 1)) + 1))]).bind fun r499 =>
  bif inR x496 ((((((x497.set x496.toNat (T.setc (x497.getD x496.toNat T.u) 0 (T.i .i64 x495))).set x496.toNat (T.setc ((x497.set x496.toNat (T.setc (x497.getD x496.toNat T.u) 0 (T.i .i64 x495))).getD x496.toNat T.u) 1 (T.s (asS (nth r498 0))))).set x496.toNat (T.setc (((x497.set x496.toNat (T.setc (x497.getD x496.toNat T.u) 0 (T.i .i64 x495))).set x496.toNat (T.setc ((x497.set x496.toNat (T.setc (x497.getD x496.toNat T.u) 0 (T.i .i64 x495))).getD x496.toNat T.u) 1 (T.s (asS (nth r498 0))))).getD x496.toNat T.u) 2 (T.b (((IntKind.wrap .i64 ((IntKind.wrap .i64 (x495 + 1)) + 1)).tmod 3) == 0)))).set x496.toNat (T.setc ((((x497.set x496.toNat (T.setc (x497.getD x496.toNat T.u) 0 (T.i .i64 x495))).set x496.toNat (T.setc ((x497.set x496.toNat (T.setc (x497.getD x496.toNat T.u) 0 (T.i .i64 x495))).getD x496.toNat T.u) 1 (T.s (asS (nth r498 0))))).set x496.toNat (T.setc (((x497.set x496.toNat (T.setc (x497.getD x496.toNat T.u) 0 (T.i .i64 x495))).set x496.toNat (T.setc ((x497.set x496.toNat (T.setc (x497.getD x496.toNat T.u) 0 (T.i .i64 x495))).getD x496.toNat T.u) 1 (T.s (asS (nth r498 0))))).getD x496.toNat T.u) 2 (T.b (((IntKind.wrap .i64 ((IntKind.wrap .i64 (x495 + 1)) + 1)).tmod 3) == 0)))).getD x496.toNat T.u) 3 (T.i .i64 (IntKind.wrap .i64 ((IntKind.wrap .i64 ((IntKind.wrap .i64 (x495 + 1)) + 1)) + 1))))).set x496.toNat (T.setc (((((x497.set x496.toNat (T.setc (x497.getD x496.toNat T.u) 0 (T.i .i64 x495))).set x496.toNat (T.setc ((x497.set x496.toNat (T.setc (x497.getD x496.toNat T.u) 0 (T.i .i64 x495))).getD x496.toNat T.u) 1 (T.s (asS (nth r498 0))))).set x496.toNat (T.setc (((x497.set x496.toNat (T.setc (x497.getD x496.toNat T.u) 0 (T.i .i64 x495))).set x496.toNat (T.setc ((x497.set x496.toNat (T.setc (x497.getD x496.toNat T.u) 0 (T.i .i64 x495))).getD x496.toNat T.u) 1 (T.s (asS (nth r498 0))))).getD x496.toNat T.u) 2 (T.b (((IntKind.wrap .i64 ((IntKind.wrap .i64 (x495 + 1)) + 1)).tmod 3) == 0)))).set x496.toNat (T.setc ((((x497.set x496.toNat (T.setc (x497.getD x496.toNat T.u) 0 (T.i .i64 x495))).set x496.toNat (T.setc ((x497.set x496.toNat (T.setc (x497.getD x496.toNat T.u) 0 (T.i .i64 x495))).getD x496.toNat T.u) 1 (T.s (asS (nth r498 0))))).set x496.toNat (T.setc (((x497.set x496.toNat (T.setc (x497.getD x496.toNat T.u) 0 (T.i .i64 x495))).set x496.toNat (T.setc ((x497.set x496.toNat (T.setc (x497.getD x496.toNat T.u) 0 (T.i .i64 x495))).getD x496.toNat T.u) 1 (T.s (asS (nth r498 0))))).getD x496.toNat T.u) 2 (T.b (((IntKind.wrap .i64 ((IntKind.wrap .i64 (x495 + 1)) + 1)).tmod 3) == 0)))).getD x496.toNat T.u) 3 (T.i .i64 (IntKind.wrap .i64 ((IntKind.wrap .i64 ((IntKind.wrap .i64 (x495 + 1)) + 1)) + 1))))).getD x496.toNat T.u) 4 (T.sl (asL (nth r499 1))))).length) then
  L (IntKind.wrap .i64 ((asI (nth r499 0)) + 1)) (IntKind.wrap .i64 (x496 + 1)) ((((((x497.set x496.toNat (T.setc (x497.getD x496.toNat T.u) 0 (T.i .i64 x495))).set x496.toNat (T.setc ((x497.set x496.toNat (T.setc (x497.getD x496.toNat T.u) 0 (T.i .i64 x495))).getD x496.toNat T.u) 1 (T.s (asS (nth r498 0))))).set x496.toNat (T.setc (((x497.set x496.toNat (T.setc (x497.getD x496.toNat T.u) 0 (T.i .i64 x495))).set x496.toNat (T.setc ((x497.set x496.toNat (T.setc (x497.getD x496.toNat T.u) 0 (T.i .i64 x495))).getD x496.toNat T.u) 1 (T.s (asS (nth r498 0))))).getD x496.toNat T.u) 2 (T.b (((IntKind.wrap .i64 ((IntKind.wrap .i64 (x495 + 1)) + 1)).tmod 3) == 0)))).set x496.toNat (T.setc ((((x497.set x496.toNat (T.setc (x497.getD x496.toNat T.u) 0 (T.i .i64 x495))).set x496.toNat (T.setc ((x497.set x496.toNat (T.setc (x497.getD x496.toNat T.u) 0 (T.i .i64 x495))).getD x496.toNat T.u) 1 (T.s (asS (nth r498 0))))).set x496.toNat (T.setc (((x497.set x496.toNat (T.setc (x497.getD x496.toNat T.u) 0 (T.i .i64 x495))).set x496.toNat (T.setc ((x497.set x496.toNat (T.setc (x497.getD x496.toNat T.u) 0 (T.i .i64 x495))).getD x496.toNat T.u) 1 (T.s (asS (nth r498 0))))).getD x496.toNat T.u) 2 (T.b (((IntKind.wrap .i64 ((IntKind.wrap .i64 (x495 + 1)) + 1)).tmod 3) == 0)))).getD x496.toNat T.u) 3 (T.i .i64 (IntKind.wrap .i64 ((IntKind.wrap .i64 ((IntKind.wrap .i64 (x495 + 1)) + 1)) + 1))))).set x496.toNat (T.setc (((((x497.set x496.toNat (T.setc (x497.getD x496.toNat T.u) 0 (T.i .i64 x495))).set x496.toNat (T.setc ((x497.set x496.toNat (T.setc (x497.getD x496.toNat T.u) 0 (T.i .i64 x495))).getD x496.toNat T.u) 1 (T.s (asS (nth r498 0))))).set x496.toNat (T.setc (((x497.set x496.toNat (T.setc (x497.getD x496.toNat T.u) 0 (T.i .i64 x495))).set x496.toNat (T.setc ((x497.set x496.toNat (T.setc (x497.getD x496.toNat T.u) 0 (T.i .i64 x495))).getD x496.toNat T.u) 1 (T.s (asS (nth r498 0))))).getD x496.toNat T.u) 2 (T.b (((IntKind.wrap .i64 ((IntKind.wrap .i64 (x495 + 1)) + 1)).tmod 3) == 0)))).set x496.toNat (T.setc ((((x497.set x496.toNat (T.setc (x497.getD x496.toNat T.u) 0 (T.i .i64 x495))).set x496.toNat (T.setc ((x497.set x496.toNat (T.setc (x497.getD x496.toNat T.u) 0 (T.i .i64 x495))).getD x496.toNat T.u) 1 (T.s (asS (nth r498 0))))).set x496.toNat (T.setc (((x497.set x496.toNat (T.setc (x497.getD x496.toNat T.u) 0 (T.i .i64 x495))).set x496.toNat (T.setc ((x497.set x496.toNat (T.setc (x497.getD x496.toNat T.u) 0 (T.i .i64 x495))).getD x496.toNat T.u) 1 (T.s (asS (nth r498 0))))).getD x496.toNat T.u) 2 (T.b (((IntKind.wrap .i64 ((IntKind.wrap .i64 (x495 + 1)) + 1)).tmod 3) == 0)))).getD x496.toNat T.u) 3 (T.i .i64 (IntKind.wrap .i64 ((IntKind.wrap .i64 ((IntKind.wrap .i64 (x495 + 1)) + 1)) + 1))))).getD x496.toNat T.u) 4 (T.sl (asL (nth r499 1))))).set x496.toNat (T.setc ((((((x497.set x496.toNat (T.setc (x497.getD x496.toNat T.u) 0 (T.i .i64 x495))).set x496.toNat (T.setc ((x497.set x496.toNat (T.setc (x497.getD x496.toNat T.u) 0 (T.i .i64 x495))).getD x496.toNat T.u) 1 (T.s (asS (nth r498 0))))).set x496.toNat (T.setc (((x497.set x496.toNat (T.setc (x497.getD x496.toNat T.u) 0 (T.i .i64 x495))).set x496.toNat (T.setc ((x497.set x496.toNat (T.setc (x497.getD x496.toNat T.u) 0 (T.i .i64 x495))).getD x496.toNat T.u) 1 (T.s (asS (nth r498 0))))).getD x496.toNat T.u) 2 (T.b (((IntKind.wrap .i64 ((IntKind.wrap .i64 (x495 + 1)) + 1)).tmod 3) == 0)))).set x496.toNat (T.setc ((((x497.set x496.toNat (T.setc (x497.getD x496.toNat T.u) 0 (T.i .i64 x495))).set x496.toNat (T.setc ((x497.set x496.toNat (T.setc (x497.getD x496.toNat T.u) 0 (T.i .i64 x495))).getD x496.toNat T.u) 1 (T.s (asS (nth r498 0))))).set x496.toNat (T.setc (((x497.set x496.toNat (T.setc (x497.getD x496.toNat T.u) 0 (T.i .i64 x495))).set x496.toNat (T.setc ((x497.set x496.toNat (T.setc (x497.getD x496.toNat T.u) 0 (T.i .i64 x495))).getD x496.toNat T.u) 1 (T.s (asS (nth r498 0))))).getD x496.toNat T.u) 2 (T.b (((IntKind.wrap .i64 ((IntKind.wrap .i64 (x495 + 1)) + 1)).tmod 3) == 0)))).getD x496.toNat T.u) 3 (T.i .i64 (IntKind.wrap .i64 ((IntKind.wrap .i64 ((IntKind.wrap .i64 (x495 + 1)) + 1)) + 1))))).set x496.toNat (T.setc (((((x497.set x496.toNat (T.setc (x497.getD x496.toNat T.u) 0 (T.i .i64 x495))).set x496.toNat (T.setc ((x497.set x496.toNat (T.setc (x497.getD x496.toNat T.u) 0 (T.i .i64 x495))).getD x496.toNat T.u) 1 (T.s (asS (nth r498 0))))).set x496.toNat (T.setc (((x497.set x496.toNat (T.setc (x497.getD x496.toNat T.u) 0 (T.i .i64 x495))).set x496.toNat (T.setc ((x497.set x496.toNat (T.setc (x497.getD x496.toNat T.u) 0 (T.i .i64 x495))).getD x496.toNat T.u) 1 (T.s (asS (nth r498 0))))).getD x496.toNat T.u) 2 (T.b (((IntKind.wrap .i64 ((IntKind.wrap .i64 (x495 + 1)) + 1)).tmod 3) == 0)))).set x496.toNat (T.setc ((((x497.set x496.toNat (T.setc (x497.getD x496.toNat T.u) 0 (T.i .i64 x495))).set x496.toNat (T.setc ((x497.set x496.toNat (T.setc (x497.getD x496.toNat T.u) 0 (T.i .i64 x495))).getD x496.toNat T.u) 1 (T.s (asS (nth r498 0))))).set x496.toNat (T.setc (((x497.set x496.toNat (T.setc (x497.getD x496.toNat T.u) 0 (T.i .i64 x495))).set x496.toNat (T.setc ((x497.set x496.toNat (T.setc (x497.getD x496.toNat T.u) 0 (T.i .i64 x495))).getD x496.toNat T.u) 1 (T.s (asS (nth r498 0))))).getD x496.toNat T.u) 2 (T.b (((IntKind.wrap .i64 ((IntKind.wrap .i64 (x495 + 1)) + 1)).tmod 3) == 0)))).getD x496.toNat T.u) 3 (T.i .i64 (IntKind.wrap .i64 ((IntKind.wrap .i64 ((IntKind.wrap .i64 (x495 + 1)) + 1)) + 1))))).getD x496.toNat T.u) 4 (T.sl (asL (nth r499 1))))).getD x496.toNat T.u) 5 (T.i .i64 (asI (nth r499 0)))))
  else none
  else none
  else none
  else none
  else none
  else none
 else
  some [T.i .i64 0, T.i .i64 x495, T.sl x497]
def f63_0_c (x495 x496 : Int) (x497 : List T) : CSt := ⟨[.rf 0 [] 0 none, .i .i64 x495, .i .i64 x496], [.row true [.i .i64, .s, .b, .i .i64, .sl true [.i .i64, .i .i64, .i .i64, .sl false [.i .u8], .sl true [.s, .i .i64], .sl true [.s, .s]], .i .i64] x497 0 false, .dead]⟩
theorem f63_0_round (c : Orc) (lf : Nat) (L : CSt → Option (List T)) (x495 x496 : Int) (x497 : List T) :
 roundK c env lf 6 fi63 2 2 [] [0, 1, 5] (x63_2_0) L (f63_0_c x495 x496 x497) = f63_0_s c lf (fun x495 x496 x497 => L (f63_0_c x495 x496 x497)) x495 x496 x497 := by kernel_rfl
def f63_0 (c : Orc) (lf : Nat) : Nat → Int → Int → List T → Option (List T)
 | 0 => fun _ _ _ => none
 | n + 1 => fun x495 x496 x497 => f63_0_s c lf (f63_0 c lf n) x495 x496 x497
theorem f63_0_u (c : Orc) (lf n : Nat) (x495 x496 : Int) (x497 : List T) : f63_0 c lf (n + 1) x495 x496 x497 = f63_0_s c lf (f63_0 c lf n) x495 x496 x497 := rfl
theorem f63_0_eq (c : Orc) (lf n : Nat) (x495 x496 : Int) (x497 : List T) :
 lpK c env lf 6 fi63 2 2 [] [0, 1, 5] (x63_2_0) n (f63_0_c x495 x496 x497) = f63_0 c lf n x495 x496 x497 := by
 induction n generalizing x495 x496 x497 with
 | zero => rfl
 | succ n ih =>
  refine (f63_0_round c lf _ x495 x496 x497).trans ?_
  have e : (fun x495 x496 x497 => lpK c env lf 6 fi63 2 2 [] [0, 1, 5] (x63_2_0) n (f63_0_c x495 x496 x497)) = f63_0 c lf n := by funext x495 x496 x497; exact ih x495 x496 x497
  show f63_0_s c lf (fun x495 x496 x497 => lpK c env lf 6 fi63 2 2 [] [0, 1, 5] (x63_2_0) n (f63_0_c x495 x496 x497)) x495 x496 x497 = _
  rw [e]; rfl
def f63_t (c : Orc) (lf : Nat) (lp0 : Int → Int → List T → Option (List T)) (l0 : List T) (n1 : Int) : Option (List T) :=
 (lp0 n1 0 l0).bind fun r500 =>
 some [T.i .i64 (asI (nth r500 1)), T.sl (asL (nth r500 2))]
def f63 (c : Orc) (lf : Nat) (l0 : List T) (n1 : Int) : Option (List T) := f63_t c lf (fun (x495 x496 : Int) (x497 : List T) => f63_0 c lf lf x495 x496 x497) l0 n1
theorem f63_raw (c : Orc) (lf : Nat) (l0 : List T) (n1 : Int) : funK c env lf 6 fi63 [.sl l0, .i .i64 n1] = f63_t c lf (fun (x495 x496 : Int) (x497 : List T) => lpK c env lf 6 fi63 2 2 [] [0, 1, 5] (x63_2_0) lf (f63_0_c x495 x496 x497)) l0 n1 := by kernel_rfl
theorem f63_eq (c : Orc) (lf : Nat) (l0 : List T) (n1 : Int) : funK c env lf 6 fi63 [.sl l0, .i .i64 n1] = f63 c lf l0 n1 := by
 refine (f63_raw c lf l0 n1).trans ?_
 have e0 : (fun (x495 x496 : Int) (x497 : List T) => lpK c env lf 6 fi63 2 2 [] [0, 1, 5] (x63_2_0) lf (f63_0_c x495 x496 x497)) = (fun (x495 x496 : Int) (x497 : List T) => f63_0 c lf lf x495 x496 x497) := by funext x495 x496 x497; exact f63_0_eq c lf lf x495 x496 x497
 rw [e0]; rfl
def f38_t (c : Orc) (lf : Nat) (l0_0 : List T) (n0_1 n1 : Int) : Option (List T) :=
 (c 63 [T.sl l0_0, T.i .i64 n1]).bind fun r501 =>
 some [T.i .i64 (asI (nth r501 0)), T.sl (asL (nth r501 1))]
def f38 (c : Orc) (lf : Nat) (l0_0 : List T) (n0_1 n1 : Int) : Option (List T) := f38_t c lf l0_0 n0_1 n1
theorem f38_eq (c : Orc) (lf : Nat) (l0_0 : List T) (n0_1 n1 : Int) : funK c env lf 6 fi38 [.st [.sl l0_0, .i .i64 n0_1], .i .i64 n1] = f38 c lf l0_0 n0_1 n1 := by kernel_rfl
def f64_0_s (c : Orc) (lf : Nat) (L : Int → Int → List T → Option (List T)) (x509 x510 : Int) (x511 : List T) : Option (List T) :=
 bif iLt x510 (x511.length : Int) then
  bif inR x510 x511.length then
  (c 95 [T.i .i64 (IntKind.wrap .i64 (x509 + 1))]).bind fun r512 =>
  bif inR x510 ((x511.set x510.toNat (T.setc (x511.getD x510.toNat T.u) 0 (T.i .i64 x509))).length) then
  bif inR x510 (((x511.set x510.toNat (T.setc (x511.getD x510.toNat T.u) 0 (T.i .i64 x509))).set x510.toNat (T.setc ((x511.set x510.toNat (T.setc (x511.getD x510.toNat T.u) 0 (T.i .i64 x509))).getD x510.toNat T.u) 1 (T.s (asS (nth r512 0))))).length) then
  bif inR x510 ((((x511.set x510.toNat (T.setc (x511.getD x510.toNat T.u) 0 (T.i .i64 x509))).set x510.toNat (T.setc ((x511.set x510.toNat (T.setc (x511.getD x510.toNat T.u) 0 (T.i .i64 x509))).getD x510.toNat T.u) 1 (T.s (asS (nth r512 0))))).set x510.toNat (T.setc (((x511.set x510.toNat (T.setc (x511.getD x510.toNat T.u) 0 (T.i .i64 x509))).set x510.toNat (T.setc ((x511.set x510.toNat (T.setc (x511.getD x510.toNat T.u) 0 (T.i .i64 x509))).getD x510.toNat T.u) 1 (T.s (asS (nth r512 0))))).getD x510.toNat T.u) 2 (T.b (((IntKind.wrap .i64 ((IntKind.wrap .i64 (x509 + 1)) + 1)).tmod 3) == 0)))).length) then
  bif inR x510 (((((x511.set x510.toNat (T.setc (x511.getD x510.toNat T.u) 0 (T.i .i64 x509))).set x510.toNat (T.setc ((x511.set x510.toNat (T.setc (x511.getD x510.toNat T.u) 0 (T.i .i64 x509))).getD x510.toNat T.u) 1 (T.s (asS (nth r512 0))))).set x510.toNat (T.setc (((x511.set x510.toNat (T.setc (x511.getD x510.toNat T.u) 0 (T.i .i64 x509))).set x510.toNat (T.setc ((x511.set x510.toNat (T.setc (x511.getD x510.toNat T.u) 0 (T.i .i64 x509))).getD x510.toNat T.u) 1 (T.s (asS (nth r512 0))))).getD x510.toNat T.u) 2 (T.b (((IntKind.wrap .i64 ((IntKind.wrap .i64 (x509 + 1)) + 1)).tmod 3) == 0)))).set x510.toNat (T.setc ((((x511.set x510.toNat (T.setc (x511.getD x510.toNat T.u) 0 (T.i .i64 x509))).set x510.toNat (T.setc ((x511.set x510.toNat (T.setc (x511.getD x510.toNat T.u) 0 (T.i .i64 x509))).getD x510.toNat T.u) 1 (T.s (asS (nth r512 0))))).set x510.toNat (T.setc (((x511.set x510.toNat (T.setc (x511.getD x510.toNat T.u) 0 (T.i .i64 x509))).set x510.toNat (T.setc ((x511.set x510.toNat (T.setc (x511.getD x510.toNat T.u) 0 (T.i .i64 x509))).getD x510.toNat T.u) 1 (T.s (asS (nth r512 0))))).getD x510.toNat T.u) 2 (T.b (((IntKind.wrap .i64 ((IntKind.wrap .i64 (x509 + 1)) + 1)).tmod 3) == 0)))).getD x510.toNat T.u) 3 (T.i .i64 (IntKind.wrap .i64 ((IntKind.wrap .i64 ((IntKind.wrap .i64 (x509 + 1)) + 1)) + 1))))).length) then
  L (IntKind.wrap .i64 ((IntKind.wrap .i64 ((IntKind.wrap .i64 ((IntKind.wrap .i64 ((IntKind.wrap .i64 (x509 + 1)) + 1)) + 1)) + 1)) + 1)) (IntKind.wrap .i64 (x510 + 1)) (((((x511.set x510.toNat (T.setc (x511.getD x510.toNat T.u) 0 (T.i .i64 x509))).set x510.toNat (T.setc ((x511.set x510.toNat (T.setc (x511.getD x510.toNat T.u) 0 (T.i .i64 x509))).getD x510.toNat T.u) 1 (T.s (asS (nth r512 0))))).set x510.toNat (T.setc (((x511.set x510.toNat (T.setc (x511.getD x510.toNat T.u) 0 (T.i .i64 x509))).set x510.toNat (T.setc ((x511.set x510.toNat (T.setc (x511.getD x510.toNat T.u) 0 (T.i .i64 x509))).getD x510.toNat T.u) 1 (T.s (asS (nth r512 0))))).getD x510.toNat T.u) 2 (T.b (((IntKind.wrap .i64 ((IntKind.wrap .i64 (x509 + 1)) + 1)).tmod 3) == 0)))).set x510.toNat (T.setc ((((x511.set x510.toNat (T.setc (x511.getD x510.toNat T.u) 0 (T.i .i64 x509))).set x510.toNat (T.setc ((x511.set x510.toNat (T.setc (x511.getD x510.toNat T.u) 0 (T.i .i64 x509))).getD x510.toNat T.u) 1 (T.s (asS (nth r512 0))))).set x510.toNat (T.setc (((x511.set x510.toNat (T.setc (x511.getD x510.toNat T.u) 0 (T.i .i64 x509))).set x510.toNat (T.setc ((x511.set x510.toNat (T.setc (x511.getD x510.toNat T.u) 0 (T.i .i64 x509))).getD x510.toNat T.u) 1 (T.s (asS (nth r512 0))))).getD x510.toNat T.u) 2 (T.b (((IntKind.wrap .i64 ((IntKind.wrap .i64 (x509 + 1)) + 1)).tmod 3) == 0)))).getD x510.toNat T.u) 3 (T.i .i64 (IntKind.wrap .i64 ((IntKind.wrap .i64 ((IntKind.wrap .i64 (x509 + 1)) + 1)) + 1))))).set x510.toNat (T.setc (((((x511.set x510.toNat (T.setc (x511.getD x510.toNat T.u) 0 (T.i .i64 x509))).set x510.toNat (T.setc ((x511.set x510.toNat (T.setc (x511.getD x510.toNat T.u) 0 (T.i .i64 x509))).getD x510.toNat T.u) 1 (T.s (asS (nth r512 0))))).set x510.toNat (T.setc (((x511.set x510.toNat (T.setc (x511.getD x510.toNat T.u) 0 (T.i .i64 x509))).set x510.toNat (T.setc ((x511.set x510.toNat (T.setc (x511.getD x510.toNat T.u) 0 (T.i .i64 x509))).getD x510.toNat T.u) 1 (T.s (asS (nth r512 0))))).getD x510.toNat T.u) 2 (T.b (((IntKind.wrap .i64 ((IntKind.wrap .i64 (x509 + 1)) + 1)).tmod 3) == 0)))).set x510.toNat (T.setc ((((x511.set x510.toNat (T.setc (x511.getD x510.toNat T.u) 0 (T.i .i64 x509))).set x510.toNat (T.setc ((x511.set x510.toNat (T.setc (x511.getD x510.toNat T.u) 0 (T.i .i64 x509))).getD x510.toNat T.u) 1 (T.s (asS (nth r512 0))))).set x510.toNat (T.setc (((x511.set x510.toNat (T.setc (x511.getD x510.toNat T.u) 0 (T.i .i64 x509))).set x510.toNat (T.setc ((x511.set x510.toNat (T.setc (x511.getD x510.toNat T.u) 0 (T.i .i64 x509))).getD x510.toNat T.u) 1 (T.s (asS (nth r512 0))))).getD x510.toNat T.u) 2 (T.b (((IntKind.wrap .i64 ((IntKind.wrap .i64 (x509 + 1)) + 1)).tmod 3) == 0)))).getD x510.toNat T.u) 3 (T.i .i64 (IntKind.wrap .i64 ((IntKind.wrap .i64 ((IntKind.wrap .i64 (x509 + 1)) + 1)) + 1))))).getD x510.toNat T.u) 4 (T.i .i64 (IntKind.wrap .i64 ((IntKind.wrap .i64 ((IntKind.wrap .i64 ((IntKind.wrap .i64 (x509 + 1)) + 1)) + 1)) + 1)))))
  else none
  else none
  else none
  else none
  else none
 else
  some [T.i .i64 0, T.i .i64 x509, T.sl x511]
def f64_0_c (x509 x510 : Int) (x511 : List T) : CSt := ⟨[.rf 0 [] 0 none, .i .i64 x509, .i .i64 x510], [.row true [.i .i64, .s, .b, .i .i64, .i .i64] x511 0 false, .dead]⟩
theorem f64_0_round (c : Orc) (lf : Nat) (L : CSt → Option (List T)) (x509 x510 : Int) (x511 : List T) :
 roundK c env lf 6 fi64 2 2 [] [0, 1, 5] (x64_2_0) L (f64_0_c x509 x510 x511) = f64_0_s c lf (fun x509 x510 x511 => L (f64_0_c x509 x510 x511)) x509 x510 x511 := by kernel_rfl
def f64_0 (c : Orc) (lf : Nat) : Nat → Int → Int → List T → Option (List T)
 | 0 => fun _ _ _ => none
 | n + 1 => fun x509 x510 x511 => f64_0_s c lf (f64_0 c lf n) x509 x510 x511
theorem f64_0_u (c : Orc) (lf n : Nat) (x509 x510 : Int) (x511 : List T) : f64_0 c lf (n + 1) x509 x510 x511 = f64_0_s c lf (f64_0 c lf n) x509 x510 x511 := rfl
theorem f64_0_eq (c : Orc) (lf n : Nat) (x509 x510 : Int) (x511 : List T) :
 lpK c env lf 6 fi64 2 2 [] [0, 1, 5] (x64_2_0) n (f64_0_c x509 x510 x511) = f64_0 c lf n x509 x510 x511 := by
 induction n generalizing x509 x510 x511 with
 | zero => rfl
 | succ n ih =>
  refine (f64_0_round c lf _ x509 x510 x511).trans ?_
  have e : (fun x509 x510 x511 => lpK c env lf 6 fi64 2 2 [] [0, 1, 5] (x64_2_0) n (f64_0_c x509 x510 x511)) = f64_0 c lf n := by funext x509 x510 x511; exact ih x509 x510 x511
  show f64_0_s c lf (fun x509 x510 x511 => lpK c env lf 6 fi64 2 2 [] [0, 1, 5] (x64_2_0) n (f64_0_c x509 x510 x511)) x509 x510 x511 = _
  rw [e]; rfl
def f64_t (c : Orc) (lf : Nat) (lp0 : Int → Int → List T → Option (List T)) (l0 : List T) (n1 : Int) : Option (List T) :=
 (lp0 n1 0 l0).bind fun r513 =>
 some [T.i .i64 (asI (nth r513 1)), T.sl (asL (nth r513 2))]
def f64 (c : Orc) (lf : Nat) (l0 : List T) (n1 : Int) : Option (List T) := f64_t c lf (fun (x509 x510 : Int) (x511 : List T) => f64_0 c lf lf x509 x510 x511) l0 n1
theorem f64_raw (c : Orc) (lf : Nat) (l0 : List T) (n1 : Int) : funK c env lf 6 fi64 [.sl l0, .i .i64 n1] = f64_t c lf (fun (x509 x510 : Int) (x511 : List T) => lpK c env lf 6 fi64 2 2 [] [0, 1, 5] (x64_2_0) lf (f64_0_c x509 x510 x511)) l0 n1 := by kernel_rfl
theorem f64_eq (c : Orc) (lf : Nat) (l0 : List T) (n1 : Int) : funK c env lf 6 fi64 [.sl l0, .i .i64 n1] = f64 c lf l0 n1 := by
 refine (f64_raw c lf l0 n1).trans ?_
 have e0 : (fun (x509 x510 : Int) (x511 : List T) => lpK c env lf 6 fi64 2 2 [] [0, 1, 5] (x64_2_0) lf (f64_0_c x509 x510 x511)) = (fun (x509 x510 : Int) (x511 : List T) => f64_0 c lf lf x509 x510 x511) := by funext x509 x510 x511; exact f64_0_eq c lf lf x509 x510 x511
 rw [e0]; rfl
def f39_t (c : Orc) (lf : Nat) (n0_0 : Int) (l0_1 : List T) (n1 : Int) : Option (List T) :=
 (c 64 [T.sl l0_1, T.i .i64 n1]).bind fun r514 =>
 some [T.i .i64 (asI (nth r514 0)), T.sl (asL (nth r514 1))]
def f39 (c : Orc) (lf : Nat) (n0_0 : Int) (l0_1 : List T) (n1 : Int) : Option (List T) := f39_t c lf n0_0 l0_1 n1
theorem f39_eq (c : Orc) (lf : Nat) (n0_0 : Int) (l0_1 : List T) (n1 : Int) : funK c env lf 6 fi39 [.st [.i .i64 n0_0, .sl l0_1], .i .i64 n1] = f39 c lf n0_0 l0_1 n1 := by kernel_rfl
def f65_0_s (c : Orc) (lf : Nat) (L : Int → Int → List T → Option (List T)) (x519 x520 : Int) (x521 : List T) : Option (List T) :=
 bif iLt x520 (x521.length : Int) then
  bif inR x520 x521.length then
  bif inR x520 ((x521.set x520.toNat (T.setc (x521.getD x520.toNat T.u) 0 (T.i .i64 x519))).length) then
  L (IntKind.wrap .i64 ((IntKind.wrap .i64 (x519 + 1)) + 1)) (IntKind.wrap .i64 (x520 + 1)) ((x521.set x520.toNat (T.setc (x521.getD x520.toNat T.u) 0 (T.i .i64 x519))).set x520.toNat (T.setc ((x521.set x520.toNat (T.setc (x521.getD x520.toNat T.u) 0 (T.i .i64 x519))).getD x520.toNat T.u) 1 (T.i .i64 (IntKind.wrap .i64 (x519 + 1)))))
  else none
  else none
 else
  some [T.i .i64 0, T.i .i64 x519, T.sl x521]
def f65_0_c (x519 x520 : Int) (x521 : List T) : CSt := ⟨[.rf 0 [] 0 none, .i .i64 x519, .i .i64 x520], [.row true [.i .i64, .i .i64] x521 0 false, .dead]⟩
theorem f65_0_round (c : Orc) (lf : Nat) (L : CSt → Option (List T)) (x519 x520 : Int) (x521 : List T) :
 roundK c env lf 6 fi65 2 2 [] [0, 1, 5] (x65_2_0) L (f65_0_c x519 x520 x521) = f65_0_s c lf (fun x519 x520 x521 => L (f65_0_c x519 x520 x521)) x519 x520 x521 := by kernel_rfl
def f65_0 (c : Orc) (lf : Nat) : Nat → Int → Int → List T → Option (List T)
 | 0 => fun _ _ _ => none
 | n + 1 => fun x519 x520 x521 => f65_0_s c lf (f65_0 c lf n) x519 x520 x521
theorem f65_0_u (c : Orc) (lf n : Nat) (x519 x520 : Int) (x521 : List T) : f65_0 c lf (n + 1) x519 x520 x521 = f65_0_s c lf (f65_0 c lf n) x519 x520 x521 := rfl
theorem f65_0_eq (c : Orc) (lf n : Nat) (x519 x520 : Int) (x521 : List T) :
 lpK c env lf 6 fi65 2 2 [] [0, 1, 5] (x65_2_0) n (f65_0_c x519 x520 x521) = f65_0 c lf n x519 x520 x521 := by
 induction n generalizing x519 x520 x521 with
 | zero => rfl
 | succ n ih =>
  refine (f65_0_round c lf _ x519 x520 x521).trans ?_
  have e : (fun x519 x520 x521 => lpK c env lf 6 fi65 2 2 [] [0, 1, 5] (x65_2_0) n (f65_0_c x519 x520 x521)) = f65_0 c lf n := by funext x519 x520 x521; exact ih x519 x520 x521
  show f65_0_s c lf (fun x519 x520 x521 => lpK c env lf 6 fi65 2 2 [] [0, 1, 5] (x65_2_0) n (f65_0_c x519 x520 x521)) x519 x520 x521 = _
  rw [e]; rfl
def f65_t (c : Orc) (lf : Nat) (lp0 : Int → Int → List T → Option (List T)) (l0 : List T) (n1 : Int) : Option (List T) :=
 (lp0 n1 0 l0).bind fun r522 =>
 some [T.i .i64 (asI (nth r522 1)), T.sl (asL (nth r522 2))]
def f65 (c : Orc) (lf : Nat) (l0 : List T) (n1 : Int) : Option (List T) := f65_t c lf (fun (x519 x520 : Int) (x521 : List T) => f65_0 c lf lf x519 x520 x521) l0 n1
theorem f65_raw (c : Orc) (lf : Nat) (l0 : List T) (n1 : Int) : funK c env lf 6 fi65 [.sl l0, .i .i64 n1] = f65_t c lf (fun (x519 x520 : Int) (x521 : List T) => lpK c env lf 6 fi65 2 2 [] [0, 1, 5] (x65_2_0) lf (f65_0_c x519 x520 x521)) l0 n1 := by kernel_rfl
theorem f65_eq (c : Orc) (lf : Nat) (l0 : List T) (n1 : Int) : funK c env lf 6 fi65 [.sl l0, .i .i64 n1] = f65 c lf l0 n1 := by
 refine (f65_raw c lf l0 n1).trans ?_
 have e0 : (fun (x519 x520 : Int) (x521 : List T) => lpK c env lf 6 fi65 2 2 [] [0, 1, 5] (x65_2_0) lf (f65_0_c x519 x520 x521)) = (fun (x519 x520 : Int) (x521 : List T) => f65_0 c lf lf x519 x520 x521) := by funext x519 x520 x521; exact f65_0_eq c lf lf x519 x520 x521
 rw [e0]; rfl
def f40_0_s (c : Orc) (lf : Nat) (L : Int → Int → List T → Option (List T)) (x530 x531 : Int) (x532 : List T) : Option (List T) :=
 bif iLt x531 (x532.length : Int) then
  bif inR x531 x532.length then
  bif inR x531 ((x532.set x531.toNat (T.setc (x532.getD x531.toNat T.u) 0 (T.i .i64 x530))).length) then
  (c 65 [T.sl (asL (T.cell ((x532.set x531.toNat (T.setc (x532.getD x531.toNat T.u) 0 (T.i .i64 x530))).getD x531.toNat T.u) 1)), T.i .i64 (IntKind.wrap .i64 (x530 + 1))]).bind fun r533 =>
  L (asI (nth r533 0)) (IntKind.wrap .i64 (x531 + 1)) ((x532.set x531.toNat (T.setc (x532.getD x531.toNat T.u) 0 (T.i .i64 x530))).set x531.toNat (T.setc ((x532.set x531.toNat (T.setc (x532.getD x531.toNat T.u) 0 (T.i .i64 x530))).getD x531.toNat T.u) 1 (T.sl (asL (nth r533 1)))))
  else none
  else none
 else
  some [T.i .i64 0, T.i .i64 x530, T.sl x532]
def f40_0_c (x530 x531 : Int) (x532 : List T) : CSt := ⟨[.rf 0 [] 0 none, .i .i64 x530, .i .i64 x531], [.row true [.i .i64, .sl true [.i .i64, .i .i64]] x532 0 false, .dead]⟩
theorem f40_0_round (c : Orc) (lf : Nat) (L : CSt → Option (List T)) (x530 x531 : Int) (x532 : List T) :
 roundK c env lf 6 fi40 2 2 [] [0, 1, 5] (x40_2_0) L (f40_0_c x530 x531 x532) = f40_0_s c lf (fun x530 x531 x532 => L (f40_0_c x530 x531 x532)) x530 x531 x532 := by kernel_rfl
def f40_0 (c : Orc) (lf : Nat) : Nat → Int → Int → List T → Option (List T)
 | 0 => fun _ _ _ => none
 | n + 1 => fun x530 x531 x532 => f40_0_s c lf (f40_0 c lf n) x530 x531 x532
theorem f40_0_u (c : Orc) (lf n : Nat) (x530 x531 : Int) (x532 : List T) : f40_0 c lf (n + 1) x530 x531 x532 = f40_0_s c lf (f40_0 c lf n) x530 x531 x532 := rfl
theorem f40_0_eq (c : Orc) (lf n : Nat) (x530 x531 : Int) (x532 : List T) :
 lpK c env lf 6 fi40 2 2 [] [0, 1, 5] (x40_2_0) n (f40_0_c x530 x531 x532) = f40_0 c lf n x530 x531 x532 := by
 induction n generalizing x530 x531 x532 with
 | zero => rfl
 | succ n ih =>
  refine (f40_0_round c lf _ x530 x531 x532).trans ?_
  have e : (fun x530 x531 x532 => lpK c env lf 6 fi40 2 2 [] [0, 1, 5] (x40_2_0) n (f40_0_c x530 x531 x532)) = f40_0 c lf n := by funext x530 x531 x532; exact ih x530 x531 x532
  show f40_0_s c lf (fun x530 x531 x532 => lpK c env lf 6 fi40 2 2 [] [0, 1, 5] (x40_2_0) n (f40_0_c x530 x531 x532)) x530 x531 x532 = _
  rw [e]; rfl
def f40_t (c : Orc) (lf : Nat) (lp0 : Int → Int → List T → Option (List T)) (l0 : List T) (n1 : Int) : Option (List T) :=
 (lp0 n1 0 l0).bind fun r534 =>
 some [T.i .i64 (asI (nth r534 1)), T.sl (asL (nth r534 2))]
def f40 (c : Orc) (lf : Nat) (l0 : List T) (n1 : Int) : Option (List T) := f40_t c lf (fun (x530 x531 : Int) (x532 : List T) => f40_0 c lf lf x530 x531 x532) l0 n1
theorem f40_raw (c : Orc) (lf : Nat) (l0 : List T) (n1 : Int) : funK c env lf 6 fi40 [.sl l0, .i .i64 n1] = f40_t c lf (fun (x530 x531 : Int) (x532 : List T) => lpK c env lf 6 fi40 2 2 [] [0, 1, 5] (x40_2_0) lf (f40_0_c x530 x531 x532)) l0 n1 := by kernel_rfl
theorem f40_eq (c : Orc) (lf : Nat) (l0 : List T) (n1 : Int) : funK c env lf 6 fi40 [.sl l0, .i .i64 n1] = f40 c lf l0 n1 := by
 refine (f40_raw c lf l0 n1).trans ?_
 have e0 : (fun (x530 x531 : Int) (x532 : List T) => lpK c env lf 6 fi40 2 2 [] [0, 1, 5] (x40_2_0) lf (f40_0_c x530 x531 x532)) = (fun (x530 x531 : Int) (x532 : List T) => f40_0 c lf lf x530 x531 x532) := by funext x530 x531 x532; exact f40_0_eq c lf lf x530 x531 x532
 rw [e0]; rfl
def f12_t (c : Orc) (lf : Nat) (l0_0 : List T) (n0_1 n0_2 : Int) (l0_3 l0_4 : List T) (n0_5 n0_6 n1 : Int) : Option (List T) :=
 (c 38 [T.st [T.sl l0_0, T.i .i64 n0_1], T.i .i64 n1]).bind fun r535 =>
 (c 39 [T.st [T.i .i64 n0_2, T.sl l0_3], T.i .i64 (asI (nth r535 0))]).bind fun r536 =>
 (c 40 [T.sl l0_4, T.i .i64 (asI (nth r536 0))]).bind fun r537 =>
 some [T.i .i64 (asI (nth r537 0)), T.sl (asL (nth r535 1)), T.sl (asL (nth r536 1)), T.sl (asL (nth r537 1))]
def f12 (c : Orc) (lf : Nat) (l0_0 : List T) (n0_1 n0_2 : Int) (l0_3 l0_4 : List T) (n0_5 n0_6 n1 : Int) : Option (List T) := f12_t c lf l0_0 n0_1 n0_2 l0_3 l0_4 n0_5 n0_6 n1
theorem f12_eq (c : Orc) (lf : Nat) (l0_0 : List T) (n0_1 n0_2 : Int) (l0_3 l0_4 : List T) (n0_5 n0_6 n1 : Int) : funK c env lf 6 fi12 [.st [.sl l0_0, .i .i64 n0_1, .i .i64 n0_2, .sl l0_3, .sl l0_4, .i .i64 n0_5, .i .i64 n0_6], .i .i64 n1] = f12 c lf l0_0 n0_1 n0_2 l0_3 l0_4 n0_5 n0_6 n1 := by kernel_rfl
def f13_0_s (c : Orc) (lf : Nat) (L : Int → Int → List T → Option (List T)) (x542 x543 : Int) (x544 : List T) : Option (List T) :=
 bif iLt x543 (x544.length : Int) then
  bif inR x543 x544.length then
  L (IntKind.wrap .i64 (x542 + 1)) (IntKind.wrap .i64 (x543 + 1)) (x544.set x543.toNat (T.i .i64 x542))
  else none
 else
  some [T.i .i64 0, T.i .i64 x542, T.sl x544]
def f13_0_c (x542 x543 : Int) (x544 : List T) : CSt := ⟨[.rf 0 [] 0 none, .i .i64 x542, .i .i64 x543], [.row false [.i .i64] x544 0 false, .dead]⟩
theorem f13_0_round (c : Orc) (lf : Nat) (L : CSt → Option (List T)) (x542 x543 : Int) (x544 : List T) :
 roundK c env lf 6 fi13 2 2 [] [0, 1, 5] (x13_2_0) L (f13_0_c x542 x543 x544) = f13_0_s c lf (fun x542 x543 x544 => L (f13_0_c x542 x543 x544)) x542 x543 x544 := by kernel_rfl
def f13_0 (c : Orc) (lf : Nat) : Nat → Int → Int → List T → Option (List T)
 | 0 => fun _ _ _ => none
 | n + 1 => fun x542 x543 x544 => f13_0_s c lf (f13_0 c lf n) x542 x543 x544
theorem f13_0_eq (c : Orc) (lf n : Nat) (x542 x543 : Int) (x544 : List T) :
 lpK c env lf 6 fi13 2 2 [] [0, 1, 5] (x13_2_0) n (f13_0_c x542 x543 x544) = f13_0 c lf n x542 x543 x544 := by
 induction n generalizing x542 x543 x544 with
 | zero => rfl
 | succ n ih =>
  refine (f13_0_round c lf _ x542 x543 x544).trans ?_
  have e : (fun x542 x543 x544 => lpK c env lf 6 fi13 2 2 [] [0, 1, 5] (x13_2_0) n (f13_0_c x542 x543 x544)) = f13_0 c lf n := by funext x542 x543 x544; exact ih x542 x543 x544
  show f13_0_s c lf (fun x542 x543 x544 => lpK c env lf 6 fi13 2 2 [] [0, 1, 5] (x13_2_0) n (f13_0_c x542 x543 x544)) x542 x543 x544 = _
  rw [e]; rfl
def f13_t (c : Orc) (lf : Nat) (lp0 : Int → Int → List T → Option (List T)) (l0 : List T) (n1 : Int) : Option (List T) :=
 (lp0 n1 0 l0).bind fun r545 =>
 some [T.i .i64 (asI (nth r545 1)), T.sl (asL (nth r545 2))]
def f13 (c : Orc) (lf : Nat) (l0 : List T) (n1 : Int) : Option (List T) := f13_t c lf (fun (x542 x543 : Int) (x544 : List T) => f13_0 c lf lf x542 x543 x544) l0 n1
theorem f13_raw (c : Orc) (lf : Nat) (l0 : List T) (n1 : Int) : funK c env lf 6 fi13 [.sl l0, .i .i64 n1] = f13_t c lf (fun (x542 x543 : Int) (x544 : List T) => lpK c env lf 6 fi13 2 2 [] [0, 1, 5] (x13_2_0) lf (f13_0_c x542 x543 x544)) l0 n1 := by kernel_rfl
theorem f13_eq (c : Orc) (lf : Nat) (l0 : List T) (n1 : Int) : funK c env lf 6 fi13 [.sl l0, .i .i64 n1] = f13 c lf l0 n1 := by
 refine (f13_raw c lf l0 n1).trans ?_
 have e0 : (fun (x542 x543 : Int) (x544 : List T) => lpK c env lf 6 fi13 2 2 [] [0, 1, 5] (x13_2_0) lf (f13_0_c x542 x543 x544)) = (fun (x542 x543 : Int) (x544 : List T) => f13_0 c lf lf x542 x543 x544) := by funext x542 x543 x544; exact f13_0_eq c lf lf x542 x543 x544
 rw [e0]; rfl
def f14_0_s (c : Orc) (lf : Nat) (l0 : List T) (L : Int → Int → Option (List T)) (x549 x550 : Int) : Option (List T) :=
 bif iLt x550 (l0.length : Int) then
  bif inR x550 l0.length then
  bif (asI (l0.getD x550.toNat T.u)) != x549 then
   some [T.i .i64 0, T.i .i64 (-1)]
  else
   L (IntKind.wrap .i64 (x549 + 1)) (IntKind.wrap .i64 (x550 + 1))
  else none
 else
  some [T.i .i64 1, T.i .i64 x549]
def f14_0_c (l0 : List T) (x549 x550 : Int) : CSt := ⟨[.ro 0 false [.i .i64] l0, .i .i64 x549, .i .i64 x550], [.dead, .dead]⟩
theorem f14_0_round (c : Orc) (lf : Nat) (l0 : List T) (L : CSt → Option (List T)) (x549 x550 : Int) :
 roundK c env lf 6 fi14 2 2 [] [0, 1, 5] (x14_2_0) L (f14_0_c l0 x549 x550) = f14_0_s c lf l0 (fun x549 x550 => L (f14_0_c l0 x549 x550)) x549 x550 := by kernel_rfl
def f14_0 (c : Orc) (lf : Nat) (l0 : List T) : Nat → Int → Int → Option (List T)
 | 0 => fun _ _ => none
 | n + 1 => fun x549 x550 => f14_0_s c lf l0 (f14_0 c lf l0 n) x549 x550
theorem f14_0_eq (c : Orc) (lf : Nat) (l0 : List T) (n : Nat) (x549 x550 : Int) :
 lpK c env lf 6 fi14 2 2 [] [0, 1, 5] (x14_2_0) n (f14_0_c l0 x549 x550) = f14_0 c lf l0 n x549 x550 := by
 induction n generalizing x549 x550 with
 | zero => rfl
 | succ n ih =>
  refine (f14_0_round c lf l0 _ x549 x550).trans ?_
  have e : (fun x549 x550 => lpK c env lf 6 fi14 2 2 [] [0, 1, 5] (x14_2_0) n (f14_0_c l0 x549 x550)) = f14_0 c lf l0 n := by funext x549 x550; exact ih x549 x550
  show f14_0_s c lf l0 (fun x549 x550 => lpK c env lf 6 fi14 2 2 [] [0, 1, 5] (x14_2_0) n (f14_0_c l0 x549 x550)) x549 x550 = _
  rw [e]; rfl
def f14_t (c : Orc) (lf : Nat) (lp0 : List T → Int → Int → Option (List T)) (l0 : List T) (n1 : Int) : Option (List T) :=
 (lp0 l0 n1 0).bind fun r551 =>
 bif asI (nth r551 0) == 0 then
  some [T.i .i64 (asI (nth r551 1))]
 else
  some [T.i .i64 (asI (nth r551 1))]
def f14 (c : Orc) (lf : Nat) (l0 : List T) (n1 : Int) : Option (List T) := f14_t c lf (fun (l0 : List T) (x549 x550 : Int) => f14_0 c lf l0 lf x549 x550) l0 n1
theorem f14_raw (c : Orc) (lf : Nat) (l0 : List T) (n1 : Int) : funK c env lf 6 fi14 [.sl l0, .i .i64 n1] = f14_t c lf (fun (l0 : List T) (x549 x550 : Int) => lpK c env lf 6 fi14 2 2 [] [0, 1, 5] (x14_2_0) lf (f14_0_c l0 x549 x550)) l0 n1 := by kernel_rfl
theorem f14_eq (c : Orc) (lf : Nat) (l0 : List T) (n1 : Int) : funK c env lf 6 fi14 [.sl l0, .i .i64 n1] = f14 c lf l0 n1 := by
 refine (f14_raw c lf l0 n1).trans ?_
 have e0 : (fun (l0 : List T) (x549 x550 : Int) => lpK c env lf 6 fi14 2 2 [] [0, 1, 5] (x14_2_0) lf (f14_0_c l0 x549 x550)) = (fun (l0 : List T) (x549 x550 : Int) => f14_0 c lf l0 lf x549 x550) := by funext l0 x549 x550; exact f14_0_eq c lf l0 lf x549 x550
 rw [e0]; rfl
def f3_t (c : Orc) (lf : Nat) (l0_0 : List T) (n0_1 n0_2 : Int) (l0_3 l0_4 : List T) (n0_5 n0_6 : Int) : Option (List T) :=
 (c 6 [T.st [T.sl l0_0, T.i .i64 n0_1, T.i .i64 n0_2, T.sl l0_3, T.sl l0_4, T.i .i64 n0_5, T.i .i64 n0_6], T.i .i64 1048576]).bind fun r552 =>
 bif iLt (asI (nth r552 0)) 0 then
  some [T.b true]
 else
  (c 8 [T.st [T.sl l0_0, T.i .i64 n0_1, T.i .i64 n0_2, T.sl l0_3, T.sl l0_4, T.i .i64 n0_5, T.i .i64 n0_6]]).bind fun r553 =>
  (c 7 [T.st [T.sl (asL (T.cell (nth r553 0) 0)), T.i .i64 (asI (T.cell (nth r553 0) 1)), T.i .i64 (asI (T.cell (nth r553 0) 2)), T.sl (asL (T.cell (nth r553 0) 3)), T.sl (asL (T.cell (nth r553 0) 4)), T.i .i64 (asI (T.cell (nth r553 0) 5)), T.i .i64 (asI (T.cell (nth r553 0) 6))]]).bind fun r554 =>
  (c 8 [T.st [T.sl l0_0, T.i .i64 n0_1, T.i .i64 n0_2, T.sl l0_3, T.sl l0_4, T.i .i64 n0_5, T.i .i64 n0_6]]).bind fun r555 =>
  (c 9 [T.st [T.sl (asL (T.cell (nth r555 0) 0)), T.i .i64 (asI (T.cell (nth r555 0) 1)), T.i .i64 (asI (T.cell (nth r555 0) 2)), T.sl (asL (T.cell (nth r555 0) 3)), T.sl (asL (T.cell (nth r555 0) 4)), T.i .i64 (asI (T.cell (nth r555 0) 5)), T.i .i64 (asI (T.cell (nth r555 0) 6))]]).bind fun r556 =>
  (c 10 [T.sl (asL (nth r556 0)), T.sl (asL (nth r554 0))]).bind fun r557 =>
  bif !(asB (nth r557 0)) then
   some [T.b false]
  else
   (c 8 [T.st [T.sl l0_0, T.i .i64 n0_1, T.i .i64 n0_2, T.sl l0_3, T.sl l0_4, T.i .i64 n0_5, T.i .i64 n0_6]]).bind fun r558 =>
   (c 11 [T.st [T.sl (asL (T.cell (nth r555 0) 0)), T.i .i64 (asI (T.cell (nth r555 0) 1)), T.i .i64 (asI (T.cell (nth r555 0) 2)), T.sl (asL (T.cell (nth r555 0) 3)), T.sl (asL (T.cell (nth r555 0) 4)), T.i .i64 (asI (T.cell (nth r555 0) 5)), T.i .i64 (asI (T.cell (nth r555 0) 6))], T.st [T.sl (asL (T.cell (nth r558 0) 0)), T.i .i64 (asI (T.cell (nth r558 0) 1)), T.i .i64 (asI (T.cell (nth r558 0) 2)), T.sl (asL (T.cell (nth r558 0) 3)), T.sl (asL (T.cell (nth r558 0) 4)), T.i .i64 (asI (T.cell (nth r558 0) 5)), T.i .i64 (asI (T.cell (nth r558 0) 6))]]).bind fun r559 =>
   bif !(asB (nth r559 0)) then
    some [T.b false]
   else
    (c 12 [T.st [T.sl (asL (T.cell (nth r555 0) 0)), T.i .i64 (asI (T.cell (nth r555 0) 1)), T.i .i64 (asI (T.cell (nth r555 0) 2)), T.sl (asL (T.cell (nth r555 0) 3)), T.sl (asL (T.cell (nth r555 0) 4)), T.i .i64 (asI (T.cell (nth r555 0) 5)), T.i .i64 (asI (T.cell (nth r555 0) 6))], T.i .i64 1]).bind fun r560 =>
    bif iLt (asI (nth r560 0)) 0 then
     some [T.b false]
    else
     (c 10 [T.sl (asL (nth r556 0)), T.sl (asL (nth r554 0))]).bind fun r561 =>
     bif !(asB (nth r561 0)) then
      some [T.b false]
     else
      (c 13 [T.sl (asL (nth r556 0)), T.i .i64 1]).bind fun r562 =>
      (c 14 [T.sl (asL (nth r562 1)), T.i .i64 1]).bind fun r563 =>
      bif iLt (asI (nth r563 0)) 0 then
       some [T.b false]
      else
       bif (asI (nth r563 0)) != (asI (nth r562 0)) then
        some [T.b false]
       else
        (c 8 [T.st [T.sl l0_0, T.i .i64 n0_1, T.i .i64 n0_2, T.sl l0_3, T.sl l0_4, T.i .i64 n0_5, T.i .i64 n0_6]]).bind fun r564 =>
        (c 9 [T.st [T.sl (asL (T.cell (nth r564 0) 0)), T.i .i64 (asI (T.cell (nth r564 0) 1)), T.i .i64 (asI (T.cell (nth r564 0) 2)), T.sl (asL (T.cell (nth r564 0) 3)), T.sl (asL (T.cell (nth r564 0) 4)), T.i .i64 (asI (T.cell (nth r564 0) 5)), T.i .i64 (asI (T.cell (nth r564 0) 6))]]).bind fun r565 =>
        (c 10 [T.sl (asL (nth r565 0)), T.sl (asL (nth r554 0))]).bind fun r566 =>
        bif !(asB (nth r566 0)) then
         some [T.b false]
        else
         (c 14 [T.sl (asL (nth r562 1)), T.i .i64 1]).bind fun r567 =>
         bif iLt (asI (nth r567 0)) 0 then
          some [T.b false]
         else
          bif (asI (nth r567 0)) != (asI (nth r562 0)) then
           some [T.b false]
          else
           some [T.b true]
def f3 (c : Orc) (lf : Nat) (l0_0 : List T) (n0_1 n0_2 : Int) (l0_3 l0_4 : List T) (n0_5 n0_6 : Int) : Option (List T) := f3_t c lf l0_0 n0_1 n0_2 l0_3 l0_4 n0_5 n0_6
theorem f3_eq (c : Orc) (lf : Nat) (l0_0 : List T) (n0_1 n0_2 : Int) (l0_3 l0_4 : List T) (n0_5 n0_6 : Int) : funK c env lf 6 fi3 [.st [.sl l0_0, .i .i64 n0_1, .i .i64 n0_2, .sl l0_3, .sl l0_4, .i .i64 n0_5, .i .i64 n0_6]] = f3 c lf l0_0 n0_1 n0_2 l0_3 l0_4 n0_5 n0_6 := by kernel_rfl
end Go.Proofs.YtnakbpjofkdabaaGreat.T
