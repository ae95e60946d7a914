/- What functions of the law FnExactClear come to, in trees; no condition. -/
import Derived.Test.YtdclnhlpifahpaaRows
import Derived.Test.YtdclnhlpifahpaaV4
import Derived.KernelRfl
set_option linter.unusedVariables false
set_option linter.constructorNameAsVariable false
set_option linter.unusedSimpArgs false
set_option linter.unnecessarySimpa false
namespace Go.Proofs.Ytdclnhlpifahpaa.T
open Go Go.Proofs.YtdclnhlpifahpaaV
def tyTab : List (Nat × Ti) := [
  (3, ⟨false, [.i .i64], .o⟩),
  (4, ⟨false, [.b], .o⟩),
  (5, ⟨false, [.i .u8], .o⟩),
  (9, ⟨false, [.s], .o⟩),
  (22, ⟨false, [.sl true [.i .i64, .s, .b, .i .i64, .sl true [.i .i64, .i .i64, .i .i64, .sl false [.i .u8], .sl true [.s, .i .i64], .sl true [.s, .s]], .i .i64]], .sl 202⟩),
  (24, ⟨true, [.sl true [.i .i64, .s, .b, .i .i64, .sl true [.i .i64, .i .i64, .i .i64, .sl false [.i .u8], .sl true [.s, .i .i64], .sl true [.s, .s]], .i .i64], .i .i64], .st [(0, 22), (1, 3)]⟩),
  (25, ⟨false, [.sl true [.i .i64, .s, .b, .i .i64, .i .i64]], .sl 211⟩),
  (27, ⟨true, [.i .i64, .sl true [.i .i64, .s, .b, .i .i64, .i .i64]], .st [(0, 3), (1, 25)]⟩),
  (28, ⟨false, [.sl true [.i .i64, .sl true [.i .i64, .i .i64]]], .sl 161⟩),
  (30, ⟨true, [.sl true [.i .i64, .s, .b, .i .i64, .sl true [.i .i64, .i .i64, .i .i64, .sl false [.i .u8], .sl true [.s, .i .i64], .sl true [.s, .s]], .i .i64], .i .i64, .i .i64, .sl true [.i .i64, .s, .b, .i .i64, .i .i64], .sl true [.i .i64, .sl true [.i .i64, .i .i64]], .i .i64, .i .i64], .st [(0, 24), (2, 27), (4, 28), (5, 3), (6, 3)]⟩),
  (35, ⟨false, [.sl true [.sl true [.b, .sl false [.i .u8]], .i .i64, .b]], .sl 269⟩),
  (37, ⟨true, [.sl true [.sl true [.b, .sl false [.i .u8]], .i .i64, .b]], .st [(0, 35)]⟩),
  (38, ⟨false, [.sl true [.i .i64, .i .i64, .i .i64]], .sl 221⟩),
  (40, ⟨true, [.sl true [.sl true [.b, .sl false [.i .u8]], .i .i64, .b], .i .i64, .sl true [.i .i64, .i .i64, .i .i64], .b], .st [(0, 37), (1, 3), (2, 38), (3, 4)]⟩),
  (42, ⟨true, [.sl true [.sl true [.b, .sl false [.i .u8]], .i .i64, .b], .i .i64, .sl true [.i .i64, .i .i64, .i .i64], .b, .i .i64], .st [(0, 40), (4, 3)]⟩),
  (45, ⟨false, [.sl true [.sl true [.b, .sl false [.i .u8]], .i .i64, .b]], .sl 137⟩),
  (47, ⟨true, [.sl true [.sl true [.b, .sl false [.i .u8]], .i .i64, .b]], .st [(0, 45)]⟩),
  (48, ⟨false, [.sl true [.i .i64, .i .i64, .i .i64]], .sl 76⟩),
  (50, ⟨true, [.sl true [.sl true [.b, .sl false [.i .u8]], .i .i64, .b], .i .i64, .sl true [.i .i64, .i .i64, .i .i64], .b], .st [(0, 47), (1, 3), (2, 48), (3, 4)]⟩),
  (52, ⟨true, [.sl true [.sl true [.b, .sl false [.i .u8]], .i .i64, .b], .i .i64, .sl true [.i .i64, .i .i64, .i .i64], .b, .i .i64], .st [(0, 50), (4, 3)]⟩),
  (56, ⟨false, [.sl false [.i .u8]], .sl 5⟩),
  (76, ⟨true, [.i .i64, .i .i64, .i .i64], .st [(0, 3), (1, 3), (2, 3)]⟩),
  (89, ⟨false, [.sl true [.i .i64, .s, .b, .i .i64, .sl true [.i .i64, .i .i64, .i .i64, .sl false [.i .u8], .sl true [.s, .i .i64], .sl true [.s, .s]], .i .i64]], .sl 248⟩),
  (91, ⟨true, [.sl true [.i .i64, .s, .b, .i .i64, .sl true [.i .i64, .i .i64, .i .i64, .sl false [.i .u8], .sl true [.s, .i .i64], .sl true [.s, .s]], .i .i64], .i .i64], .st [(0, 89), (1, 3)]⟩),
  (92, ⟨false, [.sl true [.i .i64, .s, .b, .i .i64, .i .i64]], .sl 278⟩),
  (94, ⟨true, [.i .i64, .sl true [.i .i64, .s, .b, .i .i64, .i .i64]], .st [(0, 3), (1, 92)]⟩),
  (95, ⟨false, [.sl true [.i .i64, .sl true [.i .i64, .i .i64]]], .sl 253⟩),
  (97, ⟨true, [.sl true [.i .i64, .s, .b, .i .i64, .sl true [.i .i64, .i .i64, .i .i64, .sl false [.i .u8], .sl true [.s, .i .i64], .sl true [.s, .s]], .i .i64], .i .i64, .i .i64, .sl true [.i .i64, .s, .b, .i .i64, .i .i64], .sl true [.i .i64, .sl true [.i .i64, .i .i64]], .i .i64, .i .i64], .st [(0, 91), (2, 94), (4, 95), (5, 3), (6, 3)]⟩),
  (99, ⟨true, [.sl true [.i .i64, .s, .b, .i .i64, .sl true [.i .i64, .i .i64, .i .i64, .sl false [.i .u8], .sl true [.s, .i .i64], .sl true [.s, .s]], .i .i64], .i .i64, .sl true [.i .i64, .s, .b, .i .i64, .sl true [.i .i64, .i .i64, .i .i64, .sl false [.i .u8], .sl true [.s, .i .i64], .sl true [.s, .s]], .i .i64], .i .i64, .i .i64, .sl true [.i .i64, .s, .b, .i .i64, .i .i64], .sl true [.i .i64, .sl true [.i .i64, .i .i64]], .i .i64, .i .i64, .sl true [.sl true [.b, .sl false [.i .u8]], .i .i64, .b], .i .i64, .sl true [.i .i64, .i .i64, .i .i64], .b, .i .i64], .st [(0, 91), (2, 97), (9, 42)]⟩),
  (103, ⟨true, [.sl true [.i .i64, .s, .b, .i .i64, .sl true [.i .i64, .i .i64, .i .i64, .sl false [.i .u8], .sl true [.s, .i .i64], .sl true [.s, .s]], .i .i64], .i .i64, .sl true [.i .i64, .s, .b, .i .i64, .sl true [.i .i64, .i .i64, .i .i64, .sl false [.i .u8], .sl true [.s, .i .i64], .sl true [.s, .s]], .i .i64], .i .i64, .i .i64, .sl true [.i .i64, .s, .b, .i .i64, .i .i64], .sl true [.i .i64, .sl true [.i .i64, .i .i64]], .i .i64, .i .i64, .sl true [.sl true [.b, .sl false [.i .u8]], .i .i64, .b], .i .i64, .sl true [.i .i64, .i .i64, .i .i64], .b, .i .i64], .st [(0, 24), (2, 30), (9, 52)]⟩),
  (135, ⟨false, [.sl true [.b, .sl false [.i .u8]]], .sl 142⟩),
  (137, ⟨true, [.sl true [.b, .sl false [.i .u8]], .i .i64, .b], .st [(0, 135), (1, 3), (2, 4)]⟩),
  (142, ⟨true, [.b, .sl false [.i .u8]], .st [(0, 4), (1, 56)]⟩),
  (159, ⟨false, [.sl true [.i .i64, .i .i64]], .sl 216⟩),
  (161, ⟨true, [.i .i64, .sl true [.i .i64, .i .i64]], .st [(0, 3), (1, 159)]⟩),
  (198, ⟨false, [.sl true [.i .i64, .i .i64, .i .i64, .sl false [.i .u8], .sl true [.s, .i .i64], .sl true [.s, .s]]], .sl 258⟩),
  (200, ⟨true, [.sl true [.i .i64, .i .i64, .i .i64, .sl false [.i .u8], .sl true [.s, .i .i64], .sl true [.s, .s]], .i .i64], .st [(0, 198), (1, 3)]⟩),
  (202, ⟨true, [.i .i64, .s, .b, .i .i64, .sl true [.i .i64, .i .i64, .i .i64, .sl false [.i .u8], .sl true [.s, .i .i64], .sl true [.s, .s]], .i .i64], .st [(0, 3), (1, 9), (2, 4), (3, 3), (4, 200)]⟩),
  (208, ⟨false, [.o], .o⟩),
  (211, ⟨true, [.i .i64, .s, .b, .i .i64, .i .i64], .st [(0, 3), (1, 9), (2, 4), (3, 3), (4, 3)]⟩),
  (216, ⟨true, [.i .i64, .i .i64], .st [(0, 3), (1, 3)]⟩),
  (221, ⟨true, [.i .i64, .i .i64, .i .i64], .st [(0, 3), (1, 3), (2, 3)]⟩),
  (244, ⟨false, [.sl true [.i .i64, .i .i64, .i .i64, .sl false [.i .u8], .sl true [.s, .i .i64], .sl true [.s, .s]]], .sl 306⟩),
  (246, ⟨true, [.sl true [.i .i64, .i .i64, .i .i64, .sl false [.i .u8], .sl true [.s, .i .i64], .sl true [.s, .s]], .i .i64], .st [(0, 244), (1, 3)]⟩),
  (248, ⟨true, [.i .i64, .s, .b, .i .i64, .sl true [.i .i64, .i .i64, .i .i64, .sl false [.i .u8], .sl true [.s, .i .i64], .sl true [.s, .s]], .i .i64], .st [(0, 3), (1, 9), (2, 4), (3, 3), (4, 246)]⟩),
  (251, ⟨false, [.sl true [.i .i64, .i .i64]], .sl 297⟩),
  (253, ⟨true, [.i .i64, .sl true [.i .i64, .i .i64]], .st [(0, 3), (1, 251)]⟩),
  (254, ⟨false, [.o], .o⟩),
  (255, ⟨false, [.sl true [.s, .i .i64]], .sl 281⟩),
  (256, ⟨false, [.sl true [.s, .s]], .sl 283⟩),
  (258, ⟨true, [.i .i64, .i .i64, .i .i64, .sl false [.i .u8], .sl true [.s, .i .i64], .sl true [.s, .s]], .st [(0, 3), (1, 3), (2, 3), (3, 56), (4, 255), (5, 256)]⟩),
  (267, ⟨false, [.sl true [.b, .sl false [.i .u8]]], .sl 299⟩),
  (269, ⟨true, [.sl true [.b, .sl false [.i .u8]], .i .i64, .b], .st [(0, 267), (1, 3), (2, 4)]⟩),
  (278, ⟨true, [.i .i64, .s, .b, .i .i64, .i .i64], .st [(0, 3), (1, 9), (2, 4), (3, 3), (4, 3)]⟩),
  (281, ⟨true, [.s, .i .i64], .st [(0, 9), (1, 3)]⟩),
  (283, ⟨true, [.s, .s], .st [(0, 9), (1, 9)]⟩),
  (297, ⟨true, [.i .i64, .i .i64], .st [(0, 3), (1, 3)]⟩),
  (299, ⟨true, [.b, .sl false [.i .u8]], .st [(0, 4), (1, 56)]⟩),
  (303, ⟨false, [.sl true [.s, .i .i64]], .sl 315⟩),
  (304, ⟨false, [.sl true [.s, .s]], .sl 317⟩),
  (306, ⟨true, [.i .i64, .i .i64, .i .i64, .sl false [.i .u8], .sl true [.s, .i .i64], .sl true [.s, .s]], .st [(0, 3), (1, 3), (2, 3), (3, 56), (4, 303), (5, 304)]⟩),
  (315, ⟨true, [.s, .i .i64], .st [(0, 9), (1, 3)]⟩),
  (317, ⟨true, [.s, .s], .st [(0, 9), (1, 9)]⟩)]
noncomputable def fi259 : Fi := ⟨Try.f259, [], false, [.ro (.sl false [.i .u8]), .v (.i .i64)], [.v (.i .i64)]⟩
noncomputable def fi266 : Fi := ⟨Try.f266, [], false, [.ag [.v (.s), .v (.i .i64)], .v (.i .i64)], [.v (.i .i64)]⟩
def x260_5_0 : List (Ex × List Nat × CSt) := [(.ret, [4], ⟨[.i .i64 0], [.dead, .dead]⟩), ((.ex 0), [1], ⟨[.i .i64 0], [.dead, .dead]⟩)]
noncomputable def fi260 : Fi := ⟨Try.f260, [⟨5, [0, 1, 5], [], [(⟨[.ro 0 true [.s, .i .i64] [], .i .i64 0, .i .i64 0], [.dead, .dead]⟩, x260_5_0)]⟩], false, [.ro (.sl true [.s, .i .i64]), .v (.i .i64)], [.v (.i .i64)]⟩
noncomputable def fi267 : Fi := ⟨Try.f267, [], false, [.ag [.v (.s), .v (.s)], .v (.i .i64)], [.v (.i .i64)]⟩
def x261_5_0 : List (Ex × List Nat × CSt) := [(.ret, [4], ⟨[.i .i64 0], [.dead, .dead]⟩), ((.ex 0), [1], ⟨[.i .i64 0], [.dead, .dead]⟩)]
noncomputable def fi261 : Fi := ⟨Try.f261, [⟨5, [0, 1, 5], [], [(⟨[.ro 0 true [.s, .s] [], .i .i64 0, .i .i64 0], [.dead, .dead]⟩, x261_5_0)]⟩], false, [.ro (.sl true [.s, .s]), .v (.i .i64)], [.v (.i .i64)]⟩
noncomputable def fi255 : Fi := ⟨Try.f255, [], false, [.ag [.v (.i .i64), .v (.i .i64), .v (.i .i64), .ro (.sl false [.i .u8]), .ro (.sl true [.s, .i .i64]), .ro (.sl true [.s, .s])], .v (.i .i64)], [.v (.i .i64)]⟩
def x248_5_0 : List (Ex × List Nat × CSt) := [(.ret, [4], ⟨[.i .i64 0], [.dead, .dead]⟩), ((.ex 0), [1], ⟨[.i .i64 0], [.dead, .dead]⟩)]
noncomputable def fi248 : Fi := ⟨Try.f248, [⟨5, [0, 1, 5], [], [(⟨[.ro 0 true [.i .i64, .i .i64, .i .i64, .sl false [.i .u8], .sl true [.s, .i .i64], .sl true [.s, .s]] [], .i .i64 0, .i .i64 0], [.dead, .dead]⟩, x248_5_0)]⟩], false, [.ro (.sl true [.i .i64, .i .i64, .i .i64, .sl false [.i .u8], .sl true [.s, .i .i64], .sl true [.s, .s]]), .v (.i .i64)], [.v (.i .i64)]⟩
noncomputable def fi231 : Fi := ⟨Try.f231, [], false, [.ag [.ro (.sl true [.i .i64, .i .i64, .i .i64, .sl false [.i .u8], .sl true [.s, .i .i64], .sl true [.s, .s]]), .v (.i .i64)], .v (.i .i64)], [.v (.i .i64)]⟩
noncomputable def fi204 : Fi := ⟨Try.f204, [], false, [.ag [.v (.i .i64), .v (.s), .v (.b), .v (.i .i64), .ro (.sl true [.i .i64, .i .i64, .i .i64, .sl false [.i .u8], .sl true [.s, .i .i64], .sl true [.s, .s]]), .v (.i .i64)], .v (.i .i64)], [.v (.i .i64)]⟩
def x159_5_0 : List (Ex × List Nat × CSt) := [(.ret, [4], ⟨[.i .i64 0], [.dead, .dead]⟩), ((.ex 0), [1], ⟨[.i .i64 0], [.dead, .dead]⟩)]
noncomputable def fi159 : Fi := ⟨Try.f159, [⟨5, [0, 1, 5], [], [(⟨[.ro 0 true [.i .i64, .s, .b, .i .i64, .sl true [.i .i64, .i .i64, .i .i64, .sl false [.i .u8], .sl true [.s, .i .i64], .sl true [.s, .s]], .i .i64] [], .i .i64 0, .i .i64 0], [.dead, .dead]⟩, x159_5_0)]⟩], false, [.ro (.sl true [.i .i64, .s, .b, .i .i64, .sl true [.i .i64, .i .i64, .i .i64, .sl false [.i .u8], .sl true [.s, .i .i64], .sl true [.s, .s]], .i .i64]), .v (.i .i64)], [.v (.i .i64)]⟩
noncomputable def fi107 : Fi := ⟨Try.f107, [], false, [.ag [.ro (.sl true [.i .i64, .s, .b, .i .i64, .sl true [.i .i64, .i .i64, .i .i64, .sl false [.i .u8], .sl true [.s, .i .i64], .sl true [.s, .s]], .i .i64]), .v (.i .i64)], .v (.i .i64)], [.v (.i .i64)]⟩
noncomputable def fi232 : Fi := ⟨Try.f232, [], false, [.ag [.v (.i .i64), .v (.s), .v (.b), .v (.i .i64), .v (.i .i64)], .v (.i .i64)], [.v (.i .i64)]⟩
def x205_5_0 : List (Ex × List Nat × CSt) := [(.ret, [4], ⟨[.i .i64 0], [.dead, .dead]⟩), ((.ex 0), [1], ⟨[.i .i64 0], [.dead, .dead]⟩)]
noncomputable def fi205 : Fi := ⟨Try.f205, [⟨5, [0, 1, 5], [], [(⟨[.ro 0 true [.i .i64, .s, .b, .i .i64, .i .i64] [], .i .i64 0, .i .i64 0], [.dead, .dead]⟩, x205_5_0)]⟩], false, [.ro (.sl true [.i .i64, .s, .b, .i .i64, .i .i64]), .v (.i .i64)], [.v (.i .i64)]⟩
noncomputable def fi160 : Fi := ⟨Try.f160, [], false, [.ag [.v (.i .i64), .ro (.sl true [.i .i64, .s, .b, .i .i64, .i .i64])], .v (.i .i64)], [.v (.i .i64)]⟩
noncomputable def fi233 : Fi := ⟨Try.f233, [], false, [.ro (.sl true [.i .i64, .i .i64]), .v (.i .i64)], [.v (.i .i64)]⟩
noncomputable def fi206 : Fi := ⟨Try.f206, [], false, [.ag [.v (.i .i64), .ro (.sl true [.i .i64, .i .i64])], .v (.i .i64)], [.v (.i .i64)]⟩
def x161_5_0 : List (Ex × List Nat × CSt) := [(.ret, [4], ⟨[.i .i64 0], [.dead, .dead]⟩), ((.ex 0), [1], ⟨[.i .i64 0], [.dead, .dead]⟩)]
noncomputable def fi161 : Fi := ⟨Try.f161, [⟨5, [0, 1, 5], [], [(⟨[.ro 0 true [.i .i64, .sl true [.i .i64, .i .i64]] [], .i .i64 0, .i .i64 0], [.dead, .dead]⟩, x161_5_0)]⟩], false, [.ro (.sl true [.i .i64, .sl true [.i .i64, .i .i64]]), .v (.i .i64)], [.v (.i .i64)]⟩
noncomputable def fi108 : Fi := ⟨Try.f108, [], false, [.ag [.ro (.sl true [.i .i64, .s, .b, .i .i64, .sl true [.i .i64, .i .i64, .i .i64, .sl false [.i .u8], .sl true [.s, .i .i64], .sl true [.s, .s]], .i .i64]), .v (.i .i64), .v (.i .i64), .ro (.sl true [.i .i64, .s, .b, .i .i64, .i .i64]), .ro (.sl true [.i .i64, .sl true [.i .i64, .i .i64]]), .v (.i .i64), .v (.i .i64)], .v (.i .i64)], [.v (.i .i64)]⟩
noncomputable def fi252 : Fi := ⟨Try.f252, [], false, [.ag [.v (.b), .ro (.sl false [.i .u8])], .v (.i .i64)], [.v (.i .i64)]⟩
def x242_5_0 : List (Ex × List Nat × CSt) := [(.ret, [4], ⟨[.i .i64 0], [.dead, .dead]⟩), ((.ex 0), [1], ⟨[.i .i64 0], [.dead, .dead]⟩)]
noncomputable def fi242 : Fi := ⟨Try.f242, [⟨5, [0, 1, 5], [], [(⟨[.ro 0 true [.b, .sl false [.i .u8]] [], .i .i64 0, .i .i64 0], [.dead, .dead]⟩, x242_5_0)]⟩], false, [.ro (.sl true [.b, .sl false [.i .u8]]), .v (.i .i64)], [.v (.i .i64)]⟩
noncomputable def fi219 : Fi := ⟨Try.f219, [], false, [.ag [.ro (.sl true [.b, .sl false [.i .u8]]), .v (.i .i64), .v (.b)], .v (.i .i64)], [.v (.i .i64)]⟩
def x175_5_0 : List (Ex × List Nat × CSt) := [(.ret, [4], ⟨[.i .i64 0], [.dead, .dead]⟩), ((.ex 0), [1], ⟨[.i .i64 0], [.dead, .dead]⟩)]
noncomputable def fi175 : Fi := ⟨Try.f175, [⟨5, [0, 1, 5], [], [(⟨[.ro 0 true [.sl true [.b, .sl false [.i .u8]], .i .i64, .b] [], .i .i64 0, .i .i64 0], [.dead, .dead]⟩, x175_5_0)]⟩], false, [.ro (.sl true [.sl true [.b, .sl false [.i .u8]], .i .i64, .b]), .v (.i .i64)], [.v (.i .i64)]⟩
noncomputable def fi122 : Fi := ⟨Try.f122, [], false, [.ag [.ro (.sl true [.sl true [.b, .sl false [.i .u8]], .i .i64, .b])], .v (.i .i64)], [.v (.i .i64)]⟩
noncomputable def fi123 : Fi := ⟨Try.f123, [], false, [.ro (.sl true [.i .i64, .i .i64, .i .i64]), .v (.i .i64)], [.v (.i .i64)]⟩
noncomputable def fi69 : Fi := ⟨Try.f69, [], false, [.ag [.ro (.sl true [.sl true [.b, .sl false [.i .u8]], .i .i64, .b]), .v (.i .i64), .ro (.sl true [.i .i64, .i .i64, .i .i64]), .v (.b)], .v (.i .i64)], [.v (.i .i64)]⟩
noncomputable def fi18 : Fi := ⟨Try.f18, [], false, [.ag [.ro (.sl true [.sl true [.b, .sl false [.i .u8]], .i .i64, .b]), .v (.i .i64), .ro (.sl true [.i .i64, .i .i64, .i .i64]), .v (.b), .v (.i .i64)], .v (.i .i64)], [.v (.i .i64)]⟩
noncomputable def fi53 : Fi := ⟨Try.f53, [], false, [.ag [.ro (.sl true [.i .i64, .s, .b, .i .i64, .sl true [.i .i64, .i .i64, .i .i64, .sl false [.i .u8], .sl true [.s, .i .i64], .sl true [.s, .s]], .i .i64]), .v (.i .i64), .ro (.sl true [.i .i64, .s, .b, .i .i64, .sl true [.i .i64, .i .i64, .i .i64, .sl false [.i .u8], .sl true [.s, .i .i64], .sl true [.s, .s]], .i .i64]), .v (.i .i64), .v (.i .i64), .ro (.sl true [.i .i64, .s, .b, .i .i64, .i .i64]), .ro (.sl true [.i .i64, .sl true [.i .i64, .i .i64]]), .v (.i .i64), .v (.i .i64), .ro (.sl true [.sl true [.b, .sl false [.i .u8]], .i .i64, .b]), .v (.i .i64), .ro (.sl true [.i .i64, .i .i64, .i .i64]), .v (.b), .v (.i .i64)], .v (.i .i64)], [.v (.i .i64)]⟩
def x47_3_0 : List (Ex × List Nat × CSt) := [((.ex 0), [3], ⟨[.rf 1 [] 0 none], [.dead, .row false [.i .u8] [] 0 false]⟩)]
noncomputable def fi47 : Fi := ⟨Try.f47, [⟨3, [0, 3, 4], [], [(⟨[.ro 0 false [.i .u8] [], .rf 1 [] 0 none, .i .i64 0], [.dead, .row false [.i .u8] [] 0 false]⟩, x47_3_0)]⟩], false, [.ro (.sl false [.i .u8])], [.ow (.sl false [.i .u8])]⟩
noncomputable def fi268 : Fi := ⟨Try.f268, [], false, [.ag [.v (.s), .v (.i .i64)]], [.ag [.v (.s), .v (.i .i64)]]⟩
def x262_3_0 : List (Ex × List Nat × CSt) := [((.ex 0), [3], ⟨[.rf 1 [] 0 none], [.dead, .row true [.s, .i .i64] [] 0 false]⟩)]
noncomputable def fi262 : Fi := ⟨Try.f262, [⟨3, [0, 3, 4], [], [(⟨[.ro 0 true [.s, .i .i64] [], .rf 1 [] 0 none, .i .i64 0], [.dead, .row true [.s, .i .i64] [] 0 false]⟩, x262_3_0)]⟩], false, [.ro (.sl true [.s, .i .i64])], [.ow (.sl true [.s, .i .i64])]⟩
noncomputable def fi269 : Fi := ⟨Try.f269, [], false, [.ag [.v (.s), .v (.s)]], [.ag [.v (.s), .v (.s)]]⟩
def x263_3_0 : List (Ex × List Nat × CSt) := [((.ex 0), [3], ⟨[.rf 1 [] 0 none], [.dead, .row true [.s, .s] [] 0 false]⟩)]
noncomputable def fi263 : Fi := ⟨Try.f263, [⟨3, [0, 3, 4], [], [(⟨[.ro 0 true [.s, .s] [], .rf 1 [] 0 none, .i .i64 0], [.dead, .row true [.s, .s] [] 0 false]⟩, x263_3_0)]⟩], false, [.ro (.sl true [.s, .s])], [.ow (.sl true [.s, .s])]⟩
noncomputable def fi256 : Fi := ⟨Try.f256, [], false, [.ag [.v (.i .i64), .v (.i .i64), .v (.i .i64), .ro (.sl false [.i .u8]), .ro (.sl true [.s, .i .i64]), .ro (.sl true [.s, .s])]], [.ag [.v (.i .i64), .v (.i .i64), .v (.i .i64), .ow (.sl false [.i .u8]), .ow (.sl true [.s, .i .i64]), .ow (.sl true [.s, .s])]]⟩
def x249_3_0 : List (Ex × List Nat × CSt) := [((.ex 0), [3], ⟨[.rf 1 [] 0 none], [.dead, .row true [.i .i64, .i .i64, .i .i64, .sl false [.i .u8], .sl true [.s, .i .i64], .sl true [.s, .s]] [] 0 false]⟩)]
noncomputable def fi249 : Fi := ⟨Try.f249, [⟨3, [0, 3, 4], [], [(⟨[.ro 0 true [.i .i64, .i .i64, .i .i64, .sl false [.i .u8], .sl true [.s, .i .i64], .sl true [.s, .s]] [], .rf 1 [] 0 none, .i .i64 0], [.dead, .row true [.i .i64, .i .i64, .i .i64, .sl false [.i .u8], .sl true [.s, .i .i64], .sl true [.s, .s]] [] 0 false]⟩, x249_3_0)]⟩], false, [.ro (.sl true [.i .i64, .i .i64, .i .i64, .sl false [.i .u8], .sl true [.s, .i .i64], .sl true [.s, .s]])], [.ow (.sl true [.i .i64, .i .i64, .i .i64, .sl false [.i .u8], .sl true [.s, .i .i64], .sl true [.s, .s]])]⟩
noncomputable def fi235 : Fi := ⟨Try.f235, [], false, [.ag [.ro (.sl true [.i .i64, .i .i64, .i .i64, .sl false [.i .u8], .sl true [.s, .i .i64], .sl true [.s, .s]]), .v (.i .i64)]], [.ag [.ow (.sl true [.i .i64, .i .i64, .i .i64, .sl false [.i .u8], .sl true [.s, .i .i64], .sl true [.s, .s]]), .v (.i .i64)]]⟩
noncomputable def fi208 : Fi := ⟨Try.f208, [], false, [.ag [.v (.i .i64), .v (.s), .v (.b), .v (.i .i64), .ro (.sl true [.i .i64, .i .i64, .i .i64, .sl false [.i .u8], .sl true [.s, .i .i64], .sl true [.s, .s]]), .v (.i .i64)]], [.ag [.v (.i .i64), .v (.s), .v (.b), .v (.i .i64), .ow (.sl true [.i .i64, .i .i64, .i .i64, .sl false [.i .u8], .sl true [.s, .i .i64], .sl true [.s, .s]]), .v (.i .i64)]]⟩
def x163_3_0 : List (Ex × List Nat × CSt) := [((.ex 0), [3], ⟨[.rf 1 [] 0 none], [.dead, .row true [.i .i64, .s, .b, .i .i64, .sl true [.i .i64, .i .i64, .i .i64, .sl false [.i .u8], .sl true [.s, .i .i64], .sl true [.s, .s]], .i .i64] [] 0 false]⟩)]
noncomputable def fi163 : Fi := ⟨Try.f163, [⟨3, [0, 3, 4], [], [(⟨[.ro 0 true [.i .i64, .s, .b, .i .i64, .sl true [.i .i64, .i .i64, .i .i64, .sl false [.i .u8], .sl true [.s, .i .i64], .sl true [.s, .s]], .i .i64] [], .rf 1 [] 0 none, .i .i64 0], [.dead, .row true [.i .i64, .s, .b, .i .i64, .sl true [.i .i64, .i .i64, .i .i64, .sl false [.i .u8], .sl true [.s, .i .i64], .sl true [.s, .s]], .i .i64] [] 0 false]⟩, x163_3_0)]⟩], false, [.ro (.sl true [.i .i64, .s, .b, .i .i64, .sl true [.i .i64, .i .i64, .i .i64, .sl false [.i .u8], .sl true [.s, .i .i64], .sl true [.s, .s]], .i .i64])], [.ow (.sl true [.i .i64, .s, .b, .i .i64, .sl true [.i .i64, .i .i64, .i .i64, .sl false [.i .u8], .sl true [.s, .i .i64], .sl true [.s, .s]], .i .i64])]⟩
noncomputable def fi110 : Fi := ⟨Try.f110, [], false, [.ag [.ro (.sl true [.i .i64, .s, .b, .i .i64, .sl true [.i .i64, .i .i64, .i .i64, .sl false [.i .u8], .sl true [.s, .i .i64], .sl true [.s, .s]], .i .i64]), .v (.i .i64)]], [.ag [.ow (.sl true [.i .i64, .s, .b, .i .i64, .sl true [.i .i64, .i .i64, .i .i64, .sl false [.i .u8], .sl true [.s, .i .i64], .sl true [.s, .s]], .i .i64]), .v (.i .i64)]]⟩
noncomputable def fi236 : Fi := ⟨Try.f236, [], false, [.ag [.v (.i .i64), .v (.s), .v (.b), .v (.i .i64), .v (.i .i64)]], [.ag [.v (.i .i64), .v (.s), .v (.b), .v (.i .i64), .v (.i .i64)]]⟩
def x209_3_0 : List (Ex × List Nat × CSt) := [((.ex 0), [3], ⟨[.rf 1 [] 0 none], [.dead, .row true [.i .i64, .s, .b, .i .i64, .i .i64] [] 0 false]⟩)]
noncomputable def fi209 : Fi := ⟨Try.f209, [⟨3, [0, 3, 4], [], [(⟨[.ro 0 true [.i .i64, .s, .b, .i .i64, .i .i64] [], .rf 1 [] 0 none, .i .i64 0], [.dead, .row true [.i .i64, .s, .b, .i .i64, .i .i64] [] 0 false]⟩, x209_3_0)]⟩], false, [.ro (.sl true [.i .i64, .s, .b, .i .i64, .i .i64])], [.ow (.sl true [.i .i64, .s, .b, .i .i64, .i .i64])]⟩
noncomputable def fi164 : Fi := ⟨Try.f164, [], false, [.ag [.v (.i .i64), .ro (.sl true [.i .i64, .s, .b, .i .i64, .i .i64])]], [.ag [.v (.i .i64), .ow (.sl true [.i .i64, .s, .b, .i .i64, .i .i64])]]⟩
noncomputable def fi250 : Fi := ⟨Try.f250, [], false, [.ag [.v (.i .i64), .v (.i .i64)]], [.ag [.v (.i .i64), .v (.i .i64)]]⟩
def x237_3_0 : List (Ex × List Nat × CSt) := [((.ex 0), [3], ⟨[.rf 1 [] 0 none], [.dead, .row true [.i .i64, .i .i64] [] 0 false]⟩)]
noncomputable def fi237 : Fi := ⟨Try.f237, [⟨3, [0, 3, 4], [], [(⟨[.ro 0 true [.i .i64, .i .i64] [], .rf 1 [] 0 none, .i .i64 0], [.dead, .row true [.i .i64, .i .i64] [] 0 false]⟩, x237_3_0)]⟩], false, [.ro (.sl true [.i .i64, .i .i64])], [.ow (.sl true [.i .i64, .i .i64])]⟩
noncomputable def fi210 : Fi := ⟨Try.f210, [], false, [.ag [.v (.i .i64), .ro (.sl true [.i .i64, .i .i64])]], [.ag [.v (.i .i64), .ow (.sl true [.i .i64, .i .i64])]]⟩
def x165_3_0 : List (Ex × List Nat × CSt) := [((.ex 0), [3], ⟨[.rf 1 [] 0 none], [.dead, .row true [.i .i64, .sl true [.i .i64, .i .i64]] [] 0 false]⟩)]
noncomputable def fi165 : Fi := ⟨Try.f165, [⟨3, [0, 3, 4], [], [(⟨[.ro 0 true [.i .i64, .sl true [.i .i64, .i .i64]] [], .rf 1 [] 0 none, .i .i64 0], [.dead, .row true [.i .i64, .sl true [.i .i64, .i .i64]] [] 0 false]⟩, x165_3_0)]⟩], false, [.ro (.sl true [.i .i64, .sl true [.i .i64, .i .i64]])], [.ow (.sl true [.i .i64, .sl true [.i .i64, .i .i64]])]⟩
noncomputable def fi111 : Fi := ⟨Try.f111, [], false, [.ag [.ro (.sl true [.i .i64, .s, .b, .i .i64, .sl true [.i .i64, .i .i64, .i .i64, .sl false [.i .u8], .sl true [.s, .i .i64], .sl true [.s, .s]], .i .i64]), .v (.i .i64), .v (.i .i64), .ro (.sl true [.i .i64, .s, .b, .i .i64, .i .i64]), .ro (.sl true [.i .i64, .sl true [.i .i64, .i .i64]]), .v (.i .i64), .v (.i .i64)]], [.ag [.ow (.sl true [.i .i64, .s, .b, .i .i64, .sl true [.i .i64, .i .i64, .i .i64, .sl false [.i .u8], .sl true [.s, .i .i64], .sl true [.s, .s]], .i .i64]), .v (.i .i64), .v (.i .i64), .ow (.sl true [.i .i64, .s, .b, .i .i64, .i .i64]), .ow (.sl true [.i .i64, .sl true [.i .i64, .i .i64]]), .v (.i .i64), .v (.i .i64)]]⟩
noncomputable def fi253 : Fi := ⟨Try.f253, [], false, [.ag [.v (.b), .ro (.sl false [.i .u8])]], [.ag [.v (.b), .ow (.sl false [.i .u8])]]⟩
def x243_3_0 : List (Ex × List Nat × CSt) := [((.ex 0), [3], ⟨[.rf 1 [] 0 none], [.dead, .row true [.b, .sl false [.i .u8]] [] 0 false]⟩)]
noncomputable def fi243 : Fi := ⟨Try.f243, [⟨3, [0, 3, 4], [], [(⟨[.ro 0 true [.b, .sl false [.i .u8]] [], .rf 1 [] 0 none, .i .i64 0], [.dead, .row true [.b, .sl false [.i .u8]] [] 0 false]⟩, x243_3_0)]⟩], false, [.ro (.sl true [.b, .sl false [.i .u8]])], [.ow (.sl true [.b, .sl false [.i .u8]])]⟩
noncomputable def fi220 : Fi := ⟨Try.f220, [], false, [.ag [.ro (.sl true [.b, .sl false [.i .u8]]), .v (.i .i64), .v (.b)]], [.ag [.ow (.sl true [.b, .sl false [.i .u8]]), .v (.i .i64), .v (.b)]]⟩
def x177_3_0 : List (Ex × List Nat × CSt) := [((.ex 0), [3], ⟨[.rf 1 [] 0 none], [.dead, .row true [.sl true [.b, .sl false [.i .u8]], .i .i64, .b] [] 0 false]⟩)]
noncomputable def fi177 : Fi := ⟨Try.f177, [⟨3, [0, 3, 4], [], [(⟨[.ro 0 true [.sl true [.b, .sl false [.i .u8]], .i .i64, .b] [], .rf 1 [] 0 none, .i .i64 0], [.dead, .row true [.sl true [.b, .sl false [.i .u8]], .i .i64, .b] [] 0 false]⟩, x177_3_0)]⟩], false, [.ro (.sl true [.sl true [.b, .sl false [.i .u8]], .i .i64, .b])], [.ow (.sl true [.sl true [.b, .sl false [.i .u8]], .i .i64, .b])]⟩
noncomputable def fi126 : Fi := ⟨Try.f126, [], false, [.ag [.ro (.sl true [.sl true [.b, .sl false [.i .u8]], .i .i64, .b])]], [.ag [.ow (.sl true [.sl true [.b, .sl false [.i .u8]], .i .i64, .b])]]⟩
noncomputable def fi178 : Fi := ⟨Try.f178, [], false, [.ag [.v (.i .i64), .v (.i .i64), .v (.i .i64)]], [.ag [.v (.i .i64), .v (.i .i64), .v (.i .i64)]]⟩
def x127_3_0 : List (Ex × List Nat × CSt) := [((.ex 0), [3], ⟨[.rf 1 [] 0 none], [.dead, .row true [.i .i64, .i .i64, .i .i64] [] 0 false]⟩)]
noncomputable def fi127 : Fi := ⟨Try.f127, [⟨3, [0, 3, 4], [], [(⟨[.ro 0 true [.i .i64, .i .i64, .i .i64] [], .rf 1 [] 0 none, .i .i64 0], [.dead, .row true [.i .i64, .i .i64, .i .i64] [] 0 false]⟩, x127_3_0)]⟩], false, [.ro (.sl true [.i .i64, .i .i64, .i .i64])], [.ow (.sl true [.i .i64, .i .i64, .i .i64])]⟩
noncomputable def fi73 : Fi := ⟨Try.f73, [], false, [.ag [.ro (.sl true [.sl true [.b, .sl false [.i .u8]], .i .i64, .b]), .v (.i .i64), .ro (.sl true [.i .i64, .i .i64, .i .i64]), .v (.b)]], [.ag [.ow (.sl true [.sl true [.b, .sl false [.i .u8]], .i .i64, .b]), .v (.i .i64), .ow (.sl true [.i .i64, .i .i64, .i .i64]), .v (.b)]]⟩
noncomputable def fi20 : Fi := ⟨Try.f20, [], false, [.ag [.ro (.sl true [.sl true [.b, .sl false [.i .u8]], .i .i64, .b]), .v (.i .i64), .ro (.sl true [.i .i64, .i .i64, .i .i64]), .v (.b), .v (.i .i64)]], [.ag [.ow (.sl true [.sl true [.b, .sl false [.i .u8]], .i .i64, .b]), .v (.i .i64), .ow (.sl true [.i .i64, .i .i64, .i .i64]), .v (.b), .v (.i .i64)]]⟩
noncomputable def fi55 : Fi := ⟨Try.f55, [], false, [.ag [.ro (.sl true [.i .i64, .s, .b, .i .i64, .sl true [.i .i64, .i .i64, .i .i64, .sl false [.i .u8], .sl true [.s, .i .i64], .sl true [.s, .s]], .i .i64]), .v (.i .i64), .ro (.sl true [.i .i64, .s, .b, .i .i64, .sl true [.i .i64, .i .i64, .i .i64, .sl false [.i .u8], .sl true [.s, .i .i64], .sl true [.s, .s]], .i .i64]), .v (.i .i64), .v (.i .i64), .ro (.sl true [.i .i64, .s, .b, .i .i64, .i .i64]), .ro (.sl true [.i .i64, .sl true [.i .i64, .i .i64]]), .v (.i .i64), .v (.i .i64), .ro (.sl true [.sl true [.b, .sl false [.i .u8]], .i .i64, .b]), .v (.i .i64), .ro (.sl true [.i .i64, .i .i64, .i .i64]), .v (.b), .v (.i .i64)]], [.ag [.ow (.sl true [.i .i64, .s, .b, .i .i64, .sl true [.i .i64, .i .i64, .i .i64, .sl false [.i .u8], .sl true [.s, .i .i64], .sl true [.s, .s]], .i .i64]), .v (.i .i64), .ow (.sl true [.i .i64, .s, .b, .i .i64, .sl true [.i .i64, .i .i64, .i .i64, .sl false [.i .u8], .sl true [.s, .i .i64], .sl true [.s, .s]], .i .i64]), .v (.i .i64), .v (.i .i64), .ow (.sl true [.i .i64, .s, .b, .i .i64, .i .i64]), .ow (.sl true [.i .i64, .sl true [.i .i64, .i .i64]]), .v (.i .i64), .v (.i .i64), .ow (.sl true [.sl true [.b, .sl false [.i .u8]], .i .i64, .b]), .v (.i .i64), .ow (.sl true [.i .i64, .i .i64, .i .i64]), .v (.b), .v (.i .i64)]]⟩
def x234_4_0 : List (Ex × List Nat × CSt) := [(.ret, [4], ⟨[.b false], [.dead, .dead]⟩), ((.ex 0), [], ⟨[], [.dead, .dead]⟩)]
noncomputable def fi234 : Fi := ⟨Try.f234, [⟨4, [0, 1, 5], [], [(⟨[.ro 0 false [.i .u8] [], .ro 0 false [.i .u8] [], .i .i64 0], [.dead, .dead]⟩, x234_4_0)]⟩], false, [.ro (.sl false [.i .u8]), .ro (.sl false [.i .u8])], [.v (.b)]⟩
def x207_4_0 : List (Ex × List Nat × CSt) := [(.ret, [4], ⟨[.b false], [.dead, .dead, .dead, .dead, .dead, .dead, .dead, .dead, .dead, .dead, .dead, .dead]⟩), ((.ex 0), [2, 3], ⟨[.bp 12 0, .bp 13 0], [.dead, .dead, .dead, .dead, .dead, .dead, .dead, .dead, .dead, .dead, .dead, .dead, .box [.i .i64 0, .i .i64 0, .i .i64 0, .ro 0 false [.i .u8] [], .ro 0 true [.s, .i .i64] [], .ro 0 true [.s, .s] []], .box [.i .i64 0, .i .i64 0, .i .i64 0, .ro 0 false [.i .u8] [], .ro 0 true [.s, .i .i64] [], .ro 0 true [.s, .s] []]]⟩)]
def x207_9_0 : List (Ex × List Nat × CSt) := [(.ret, [4], ⟨[.b false], [.dead, .dead, .dead, .dead, .dead, .dead, .dead, .dead, .dead, .dead, .dead, .dead]⟩), ((.ex 2), [], ⟨[], [.dead, .dead, .dead, .dead, .dead, .dead, .dead, .dead, .dead, .dead, .dead, .dead]⟩)]
noncomputable def fi207 : Fi := ⟨Try.f207, [⟨4, [2, 3, 5], [], [(⟨[.bp 12 0, .bp 13 0, .i .i64 0], [.dead, .dead, .dead, .dead, .dead, .dead, .dead, .dead, .dead, .dead, .dead, .dead, .box [.i .i64 0, .i .i64 0, .i .i64 0, .ro 0 false [.i .u8] [], .ro 0 true [.s, .i .i64] [], .ro 0 true [.s, .s] []], .box [.i .i64 0, .i .i64 0, .i .i64 0, .ro 0 false [.i .u8] [], .ro 0 true [.s, .i .i64] [], .ro 0 true [.s, .s] []]]⟩, x207_4_0)]⟩, ⟨9, [2, 3, 6], [], [(⟨[.bp 12 0, .bp 13 0, .i .i64 0], [.dead, .dead, .dead, .dead, .dead, .dead, .dead, .dead, .dead, .dead, .dead, .dead, .box [.i .i64 0, .i .i64 0, .i .i64 0, .ro 0 false [.i .u8] [], .ro 0 true [.s, .i .i64] [], .ro 0 true [.s, .s] []], .box [.i .i64 0, .i .i64 0, .i .i64 0, .ro 0 false [.i .u8] [], .ro 0 true [.s, .i .i64] [], .ro 0 true [.s, .s] []]]⟩, x207_9_0)]⟩], false, [.ag [.v (.i .i64), .v (.i .i64), .v (.i .i64), .ro (.sl false [.i .u8]), .ro (.sl true [.s, .i .i64]), .ro (.sl true [.s, .s])], .ag [.v (.i .i64), .v (.i .i64), .v (.i .i64), .ro (.sl false [.i .u8]), .ro (.sl true [.s, .i .i64]), .ro (.sl true [.s, .s])]], [.v (.b)]⟩
def x162_4_0 : List (Ex × List Nat × CSt) := [(.ret, [4], ⟨[.b false], [.dead, .dead, .dead, .dead]⟩), ((.ex 0), [], ⟨[], [.dead, .dead, .dead, .dead]⟩)]
noncomputable def fi162 : Fi := ⟨Try.f162, [⟨4, [2, 3, 5], [], [(⟨[.bp 4 0, .bp 5 0, .i .i64 0], [.dead, .dead, .dead, .dead, .box [.ro 0 true [.i .i64, .i .i64, .i .i64, .sl false [.i .u8], .sl true [.s, .i .i64], .sl true [.s, .s]] [], .i .i64 0], .box [.ro 0 true [.i .i64, .i .i64, .i .i64, .sl false [.i .u8], .sl true [.s, .i .i64], .sl true [.s, .s]] [], .i .i64 0]]⟩, x162_4_0)]⟩], false, [.ag [.ro (.sl true [.i .i64, .i .i64, .i .i64, .sl false [.i .u8], .sl true [.s, .i .i64], .sl true [.s, .s]]), .v (.i .i64)], .ag [.ro (.sl true [.i .i64, .i .i64, .i .i64, .sl false [.i .u8], .sl true [.s, .i .i64], .sl true [.s, .s]]), .v (.i .i64)]], [.v (.b)]⟩
def x109_4_0 : List (Ex × List Nat × CSt) := [(.ret, [4], ⟨[.b false], [.dead, .dead, .dead, .dead]⟩), ((.ex 0), [], ⟨[], [.dead, .dead, .dead, .dead]⟩)]
noncomputable def fi109 : Fi := ⟨Try.f109, [⟨4, [2, 3, 5], [], [(⟨[.bp 4 0, .bp 5 0, .i .i64 0], [.dead, .dead, .dead, .dead, .box [.ro 0 true [.i .i64, .s, .b, .i .i64, .sl true [.i .i64, .i .i64, .i .i64, .sl false [.i .u8], .sl true [.s, .i .i64], .sl true [.s, .s]], .i .i64] [], .i .i64 0], .box [.ro 0 true [.i .i64, .s, .b, .i .i64, .sl true [.i .i64, .i .i64, .i .i64, .sl false [.i .u8], .sl true [.s, .i .i64], .sl true [.s, .s]], .i .i64] [], .i .i64 0]]⟩, x109_4_0)]⟩], false, [.ag [.ro (.sl true [.i .i64, .s, .b, .i .i64, .sl true [.i .i64, .i .i64, .i .i64, .sl false [.i .u8], .sl true [.s, .i .i64], .sl true [.s, .s]], .i .i64]), .v (.i .i64)], .ag [.ro (.sl true [.i .i64, .s, .b, .i .i64, .sl true [.i .i64, .i .i64, .i .i64, .sl false [.i .u8], .sl true [.s, .i .i64], .sl true [.s, .s]], .i .i64]), .v (.i .i64)]], [.v (.b)]⟩
noncomputable def fi54 : Fi := ⟨Try.f54, [], false, [.ag [.ro (.sl true [.i .i64, .s, .b, .i .i64, .sl true [.i .i64, .i .i64, .i .i64, .sl false [.i .u8], .sl true [.s, .i .i64], .sl true [.s, .s]], .i .i64]), .v (.i .i64), .ro (.sl true [.i .i64, .s, .b, .i .i64, .sl true [.i .i64, .i .i64, .i .i64, .sl false [.i .u8], .sl true [.s, .i .i64], .sl true [.s, .s]], .i .i64]), .v (.i .i64), .v (.i .i64), .ro (.sl true [.i .i64, .s, .b, .i .i64, .i .i64]), .ro (.sl true [.i .i64, .sl true [.i .i64, .i .i64]]), .v (.i .i64), .v (.i .i64), .ro (.sl true [.sl true [.b, .sl false [.i .u8]], .i .i64, .b]), .v (.i .i64), .ro (.sl true [.i .i64, .i .i64, .i .i64]), .v (.b), .v (.i .i64)]], [.v (.b)]⟩
def x166_4_0 : List (Ex × List Nat × CSt) := [(.ret, [6], ⟨[.b false], []⟩), ((.ex 0), [], ⟨[], []⟩)]
noncomputable def fi166 : Fi := ⟨Try.f166, [⟨4, [1, 2, 15, 16, 17], [], [(⟨[.ro 0 true [.i .i64, .s, .b, .i .i64, .sl true [.i .i64, .i .i64, .i .i64, .sl false [.i .u8], .sl true [.s, .i .i64], .sl true [.s, .s]], .i .i64] [], .fn 167 [], .ro 0 true [.i .i64, .s, .b, .i .i64, .sl true [.i .i64, .i .i64, .i .i64, .sl false [.i .u8], .sl true [.s, .i .i64], .sl true [.s, .s]], .i .i64] [], .i .i64 0, .i .i64 0], []⟩, x166_4_0)]⟩], true, [], []⟩
def x211_4_0 : List (Ex × List Nat × CSt) := [(.ret, [6], ⟨[.b false], []⟩), ((.ex 0), [], ⟨[], []⟩)]
noncomputable def fi211 : Fi := ⟨Try.f211, [⟨4, [1, 2, 15, 16, 17], [], [(⟨[.ro 0 true [.i .i64, .i .i64, .i .i64, .sl false [.i .u8], .sl true [.s, .i .i64], .sl true [.s, .s]] [], .fn 212 [], .ro 0 true [.i .i64, .i .i64, .i .i64, .sl false [.i .u8], .sl true [.s, .i .i64], .sl true [.s, .s]] [], .i .i64 0, .i .i64 0], []⟩, x211_4_0)]⟩], true, [], []⟩
def x238_4_0 : List (Ex × List Nat × CSt) := [(.ret, [4], ⟨[.b false], [.dead, .dead]⟩), ((.ex 0), [], ⟨[], [.dead, .dead]⟩)]
noncomputable def fi238 : Fi := ⟨Try.f238, [⟨4, [0, 1, 12, 13], [], [(⟨[.ro 0 false [.i .u8] [], .ro 0 false [.i .u8] [], .i .i64 0, .i .i64 0], [.dead, .dead]⟩, x238_4_0)]⟩], false, [.ro (.sl false [.i .u8]), .ro (.sl false [.i .u8])], [.v (.b)]⟩
def x239_4_0 : List (Ex × List Nat × CSt) := [(.ret, [4], ⟨[.b false], [.dead, .dead]⟩), ((.ex 0), [], ⟨[], [.dead, .dead]⟩)]
noncomputable def fi239 : Fi := ⟨Try.f239, [⟨4, [0, 1, 12, 13], [], [(⟨[.ro 0 true [.s, .i .i64] [], .ro 0 true [.s, .i .i64] [], .i .i64 0, .i .i64 0], [.dead, .dead]⟩, x239_4_0)]⟩], false, [.ro (.sl true [.s, .i .i64]), .ro (.sl true [.s, .i .i64])], [.v (.b)]⟩
def x240_4_0 : List (Ex × List Nat × CSt) := [(.ret, [4], ⟨[.b false], [.dead, .dead]⟩), ((.ex 0), [], ⟨[], [.dead, .dead]⟩)]
noncomputable def fi240 : Fi := ⟨Try.f240, [⟨4, [0, 1, 12, 13], [], [(⟨[.ro 0 true [.s, .s] [], .ro 0 true [.s, .s] [], .i .i64 0, .i .i64 0], [.dead, .dead]⟩, x240_4_0)]⟩], false, [.ro (.sl true [.s, .s]), .ro (.sl true [.s, .s])], [.v (.b)]⟩
noncomputable def fi212 : Fi := ⟨Try.f212, [], false, [.ag [.v (.i .i64), .v (.i .i64), .v (.i .i64), .ro (.sl false [.i .u8]), .ro (.sl true [.s, .i .i64]), .ro (.sl true [.s, .s])], .ag [.v (.i .i64), .v (.i .i64), .v (.i .i64), .ro (.sl false [.i .u8]), .ro (.sl true [.s, .i .i64]), .ro (.sl true [.s, .s])]], [.v (.b)]⟩
noncomputable def fi168 : Fi := ⟨Try.f168, [], false, [.ag [.ro (.sl true [.i .i64, .i .i64, .i .i64, .sl false [.i .u8], .sl true [.s, .i .i64], .sl true [.s, .s]]), .v (.i .i64)], .ag [.ro (.sl true [.i .i64, .i .i64, .i .i64, .sl false [.i .u8], .sl true [.s, .i .i64], .sl true [.s, .s]]), .v (.i .i64)]], [.v (.b)]⟩
noncomputable def fi167 : Fi := ⟨Try.f167, [], false, [.ag [.v (.i .i64), .v (.s), .v (.b), .v (.i .i64), .ro (.sl true [.i .i64, .i .i64, .i .i64, .sl false [.i .u8], .sl true [.s, .i .i64], .sl true [.s, .s]]), .v (.i .i64)], .ag [.v (.i .i64), .v (.s), .v (.b), .v (.i .i64), .ro (.sl true [.i .i64, .i .i64, .i .i64, .sl false [.i .u8], .sl true [.s, .i .i64], .sl true [.s, .s]]), .v (.i .i64)]], [.v (.b)]⟩
noncomputable def fi112 : Fi := ⟨Try.f112, [], false, [.ag [.ro (.sl true [.i .i64, .s, .b, .i .i64, .sl true [.i .i64, .i .i64, .i .i64, .sl false [.i .u8], .sl true [.s, .i .i64], .sl true [.s, .s]], .i .i64]), .v (.i .i64)], .ag [.ro (.sl true [.i .i64, .s, .b, .i .i64, .sl true [.i .i64, .i .i64, .i .i64, .sl false [.i .u8], .sl true [.s, .i .i64], .sl true [.s, .s]], .i .i64]), .v (.i .i64)]], [.v (.b)]⟩
noncomputable def fi56 : Fi := ⟨Try.f56, [], false, [.ag [.ro (.sl true [.i .i64, .s, .b, .i .i64, .sl true [.i .i64, .i .i64, .i .i64, .sl false [.i .u8], .sl true [.s, .i .i64], .sl true [.s, .s]], .i .i64]), .v (.i .i64), .ro (.sl true [.i .i64, .s, .b, .i .i64, .sl true [.i .i64, .i .i64, .i .i64, .sl false [.i .u8], .sl true [.s, .i .i64], .sl true [.s, .s]], .i .i64]), .v (.i .i64), .v (.i .i64), .ro (.sl true [.i .i64, .s, .b, .i .i64, .i .i64]), .ro (.sl true [.i .i64, .sl true [.i .i64, .i .i64]]), .v (.i .i64), .v (.i .i64), .ro (.sl true [.sl true [.b, .sl false [.i .u8]], .i .i64, .b]), .v (.i .i64), .ro (.sl true [.i .i64, .i .i64, .i .i64]), .v (.b), .v (.i .i64)]], [.v (.b)]⟩
def x48_4_0 : List (Ex × List Nat × CSt) := [(.ret, [4], ⟨[.b false], [.dead, .dead]⟩), ((.ex 0), [], ⟨[], [.dead, .dead]⟩)]
noncomputable def fi48 : Fi := ⟨Try.f48, [⟨4, [0, 1, 5], [], [(⟨[.ro 0 false [.i .u8] [], .ro 0 false [.i .u8] [], .i .i64 0], [.dead, .dead]⟩, x48_4_0)]⟩], false, [.ro (.sl false [.i .u8]), .ro (.sl false [.i .u8])], [.v (.b)]⟩
noncomputable def fi264 : Fi := ⟨Try.f264, [], false, [.ag [.v (.s), .v (.i .i64)], .ag [.v (.s), .v (.i .i64)]], [.v (.b)]⟩
def x257_4_0 : List (Ex × List Nat × CSt) := [(.ret, [4], ⟨[.b false], [.dead, .dead]⟩), ((.ex 0), [], ⟨[], [.dead, .dead]⟩)]
noncomputable def fi257 : Fi := ⟨Try.f257, [⟨4, [0, 1, 5], [], [(⟨[.ro 0 true [.s, .i .i64] [], .ro 0 true [.s, .i .i64] [], .i .i64 0], [.dead, .dead]⟩, x257_4_0)]⟩], false, [.ro (.sl true [.s, .i .i64]), .ro (.sl true [.s, .i .i64])], [.v (.b)]⟩
noncomputable def fi265 : Fi := ⟨Try.f265, [], false, [.ag [.v (.s), .v (.s)], .ag [.v (.s), .v (.s)]], [.v (.b)]⟩
def x258_4_0 : List (Ex × List Nat × CSt) := [(.ret, [4], ⟨[.b false], [.dead, .dead]⟩), ((.ex 0), [], ⟨[], [.dead, .dead]⟩)]
noncomputable def fi258 : Fi := ⟨Try.f258, [⟨4, [0, 1, 5], [], [(⟨[.ro 0 true [.s, .s] [], .ro 0 true [.s, .s] [], .i .i64 0], [.dead, .dead]⟩, x258_4_0)]⟩], false, [.ro (.sl true [.s, .s]), .ro (.sl true [.s, .s])], [.v (.b)]⟩
noncomputable def fi251 : Fi := ⟨Try.f251, [], false, [.ag [.v (.i .i64), .v (.i .i64), .v (.i .i64), .ro (.sl false [.i .u8]), .ro (.sl true [.s, .i .i64]), .ro (.sl true [.s, .s])], .ag [.v (.i .i64), .v (.i .i64), .v (.i .i64), .ro (.sl false [.i .u8]), .ro (.sl true [.s, .i .i64]), .ro (.sl true [.s, .s])]], [.v (.b)]⟩
def x241_4_0 : List (Ex × List Nat × CSt) := [(.ret, [4], ⟨[.b false], [.dead, .dead]⟩), ((.ex 0), [], ⟨[], [.dead, .dead]⟩)]
noncomputable def fi241 : Fi := ⟨Try.f241, [⟨4, [0, 1, 5], [], [(⟨[.ro 0 true [.i .i64, .i .i64, .i .i64, .sl false [.i .u8], .sl true [.s, .i .i64], .sl true [.s, .s]] [], .ro 0 true [.i .i64, .i .i64, .i .i64, .sl false [.i .u8], .sl true [.s, .i .i64], .sl true [.s, .s]] [], .i .i64 0], [.dead, .dead]⟩, x241_4_0)]⟩], false, [.ro (.sl true [.i .i64, .i .i64, .i .i64, .sl false [.i .u8], .sl true [.s, .i .i64], .sl true [.s, .s]]), .ro (.sl true [.i .i64, .i .i64, .i .i64, .sl false [.i .u8], .sl true [.s, .i .i64], .sl true [.s, .s]])], [.v (.b)]⟩
noncomputable def fi213 : Fi := ⟨Try.f213, [], false, [.ag [.ro (.sl true [.i .i64, .i .i64, .i .i64, .sl false [.i .u8], .sl true [.s, .i .i64], .sl true [.s, .s]]), .v (.i .i64)], .ag [.ro (.sl true [.i .i64, .i .i64, .i .i64, .sl false [.i .u8], .sl true [.s, .i .i64], .sl true [.s, .s]]), .v (.i .i64)]], [.v (.b)]⟩
noncomputable def fi169 : Fi := ⟨Try.f169, [], false, [.ag [.v (.i .i64), .v (.s), .v (.b), .v (.i .i64), .ro (.sl true [.i .i64, .i .i64, .i .i64, .sl false [.i .u8], .sl true [.s, .i .i64], .sl true [.s, .s]]), .v (.i .i64)], .ag [.v (.i .i64), .v (.s), .v (.b), .v (.i .i64), .ro (.sl true [.i .i64, .i .i64, .i .i64, .sl false [.i .u8], .sl true [.s, .i .i64], .sl true [.s, .s]]), .v (.i .i64)]], [.v (.b)]⟩
def x113_4_0 : List (Ex × List Nat × CSt) := [(.ret, [4], ⟨[.b false], [.dead, .dead]⟩), ((.ex 0), [], ⟨[], [.dead, .dead]⟩)]
noncomputable def fi113 : Fi := ⟨Try.f113, [⟨4, [0, 1, 5], [], [(⟨[.ro 0 true [.i .i64, .s, .b, .i .i64, .sl true [.i .i64, .i .i64, .i .i64, .sl false [.i .u8], .sl true [.s, .i .i64], .sl true [.s, .s]], .i .i64] [], .ro 0 true [.i .i64, .s, .b, .i .i64, .sl true [.i .i64, .i .i64, .i .i64, .sl false [.i .u8], .sl true [.s, .i .i64], .sl true [.s, .s]], .i .i64] [], .i .i64 0], [.dead, .dead]⟩, x113_4_0)]⟩], false, [.ro (.sl true [.i .i64, .s, .b, .i .i64, .sl true [.i .i64, .i .i64, .i .i64, .sl false [.i .u8], .sl true [.s, .i .i64], .sl true [.s, .s]], .i .i64]), .ro (.sl true [.i .i64, .s, .b, .i .i64, .sl true [.i .i64, .i .i64, .i .i64, .sl false [.i .u8], .sl true [.s, .i .i64], .sl true [.s, .s]], .i .i64])], [.v (.b)]⟩
noncomputable def fi60 : Fi := ⟨Try.f60, [], false, [.ag [.ro (.sl true [.i .i64, .s, .b, .i .i64, .sl true [.i .i64, .i .i64, .i .i64, .sl false [.i .u8], .sl true [.s, .i .i64], .sl true [.s, .s]], .i .i64]), .v (.i .i64)], .ag [.ro (.sl true [.i .i64, .s, .b, .i .i64, .sl true [.i .i64, .i .i64, .i .i64, .sl false [.i .u8], .sl true [.s, .i .i64], .sl true [.s, .s]], .i .i64]), .v (.i .i64)]], [.v (.b)]⟩
noncomputable def fi170 : Fi := ⟨Try.f170, [], false, [.ag [.v (.i .i64), .v (.s), .v (.b), .v (.i .i64), .v (.i .i64)], .ag [.v (.i .i64), .v (.s), .v (.b), .v (.i .i64), .v (.i .i64)]], [.v (.b)]⟩
def x114_4_0 : List (Ex × List Nat × CSt) := [(.ret, [4], ⟨[.b false], [.dead, .dead]⟩), ((.ex 0), [], ⟨[], [.dead, .dead]⟩)]
noncomputable def fi114 : Fi := ⟨Try.f114, [⟨4, [0, 1, 5], [], [(⟨[.ro 0 true [.i .i64, .s, .b, .i .i64, .i .i64] [], .ro 0 true [.i .i64, .s, .b, .i .i64, .i .i64] [], .i .i64 0], [.dead, .dead]⟩, x114_4_0)]⟩], false, [.ro (.sl true [.i .i64, .s, .b, .i .i64, .i .i64]), .ro (.sl true [.i .i64, .s, .b, .i .i64, .i .i64])], [.v (.b)]⟩
noncomputable def fi61 : Fi := ⟨Try.f61, [], false, [.ag [.v (.i .i64), .ro (.sl true [.i .i64, .s, .b, .i .i64, .i .i64])], .ag [.v (.i .i64), .ro (.sl true [.i .i64, .s, .b, .i .i64, .i .i64])]], [.v (.b)]⟩
noncomputable def fi214 : Fi := ⟨Try.f214, [], false, [.ag [.v (.i .i64), .v (.i .i64)], .ag [.v (.i .i64), .v (.i .i64)]], [.v (.b)]⟩
def x171_4_0 : List (Ex × List Nat × CSt) := [(.ret, [4], ⟨[.b false], [.dead, .dead]⟩), ((.ex 0), [], ⟨[], [.dead, .dead]⟩)]
noncomputable def fi171 : Fi := ⟨Try.f171, [⟨4, [0, 1, 5], [], [(⟨[.ro 0 true [.i .i64, .i .i64] [], .ro 0 true [.i .i64, .i .i64] [], .i .i64 0], [.dead, .dead]⟩, x171_4_0)]⟩], false, [.ro (.sl true [.i .i64, .i .i64]), .ro (.sl true [.i .i64, .i .i64])], [.v (.b)]⟩
noncomputable def fi115 : Fi := ⟨Try.f115, [], false, [.ag [.v (.i .i64), .ro (.sl true [.i .i64, .i .i64])], .ag [.v (.i .i64), .ro (.sl true [.i .i64, .i .i64])]], [.v (.b)]⟩
def x62_4_0 : List (Ex × List Nat × CSt) := [(.ret, [4], ⟨[.b false], [.dead, .dead]⟩), ((.ex 0), [], ⟨[], [.dead, .dead]⟩)]
noncomputable def fi62 : Fi := ⟨Try.f62, [⟨4, [0, 1, 5], [], [(⟨[.ro 0 true [.i .i64, .sl true [.i .i64, .i .i64]] [], .ro 0 true [.i .i64, .sl true [.i .i64, .i .i64]] [], .i .i64 0], [.dead, .dead]⟩, x62_4_0)]⟩], false, [.ro (.sl true [.i .i64, .sl true [.i .i64, .i .i64]]), .ro (.sl true [.i .i64, .sl true [.i .i64, .i .i64]])], [.v (.b)]⟩
noncomputable def fi15 : Fi := ⟨Try.f15, [], false, [.ag [.ro (.sl true [.i .i64, .s, .b, .i .i64, .sl true [.i .i64, .i .i64, .i .i64, .sl false [.i .u8], .sl true [.s, .i .i64], .sl true [.s, .s]], .i .i64]), .v (.i .i64), .v (.i .i64), .ro (.sl true [.i .i64, .s, .b, .i .i64, .i .i64]), .ro (.sl true [.i .i64, .sl true [.i .i64, .i .i64]]), .v (.i .i64), .v (.i .i64)], .ag [.ro (.sl true [.i .i64, .s, .b, .i .i64, .sl true [.i .i64, .i .i64, .i .i64, .sl false [.i .u8], .sl true [.s, .i .i64], .sl true [.s, .s]], .i .i64]), .v (.i .i64), .v (.i .i64), .ro (.sl true [.i .i64, .s, .b, .i .i64, .i .i64]), .ro (.sl true [.i .i64, .sl true [.i .i64, .i .i64]]), .v (.i .i64), .v (.i .i64)]], [.v (.b)]⟩
noncomputable def fi254 : Fi := ⟨Try.f254, [], false, [.ag [.v (.b), .ro (.sl false [.i .u8])], .ag [.v (.b), .ro (.sl false [.i .u8])]], [.v (.b)]⟩
def x244_4_0 : List (Ex × List Nat × CSt) := [(.ret, [4], ⟨[.b false], [.dead, .dead]⟩), ((.ex 0), [], ⟨[], [.dead, .dead]⟩)]
noncomputable def fi244 : Fi := ⟨Try.f244, [⟨4, [0, 1, 5], [], [(⟨[.ro 0 true [.b, .sl false [.i .u8]] [], .ro 0 true [.b, .sl false [.i .u8]] [], .i .i64 0], [.dead, .dead]⟩, x244_4_0)]⟩], false, [.ro (.sl true [.b, .sl false [.i .u8]]), .ro (.sl true [.b, .sl false [.i .u8]])], [.v (.b)]⟩
noncomputable def fi221 : Fi := ⟨Try.f221, [], false, [.ag [.ro (.sl true [.b, .sl false [.i .u8]]), .v (.i .i64), .v (.b)], .ag [.ro (.sl true [.b, .sl false [.i .u8]]), .v (.i .i64), .v (.b)]], [.v (.b)]⟩
def x179_4_0 : List (Ex × List Nat × CSt) := [(.ret, [4], ⟨[.b false], [.dead, .dead]⟩), ((.ex 0), [], ⟨[], [.dead, .dead]⟩)]
noncomputable def fi179 : Fi := ⟨Try.f179, [⟨4, [0, 1, 5], [], [(⟨[.ro 0 true [.sl true [.b, .sl false [.i .u8]], .i .i64, .b] [], .ro 0 true [.sl true [.b, .sl false [.i .u8]], .i .i64, .b] [], .i .i64 0], [.dead, .dead]⟩, x179_4_0)]⟩], false, [.ro (.sl true [.sl true [.b, .sl false [.i .u8]], .i .i64, .b]), .ro (.sl true [.sl true [.b, .sl false [.i .u8]], .i .i64, .b])], [.v (.b)]⟩
noncomputable def fi129 : Fi := ⟨Try.f129, [], false, [.ag [.ro (.sl true [.sl true [.b, .sl false [.i .u8]], .i .i64, .b])], .ag [.ro (.sl true [.sl true [.b, .sl false [.i .u8]], .i .i64, .b])]], [.v (.b)]⟩
noncomputable def fi180 : Fi := ⟨Try.f180, [], false, [.ag [.v (.i .i64), .v (.i .i64), .v (.i .i64)], .ag [.v (.i .i64), .v (.i .i64), .v (.i .i64)]], [.v (.b)]⟩
def x130_4_0 : List (Ex × List Nat × CSt) := [(.ret, [4], ⟨[.b false], [.dead, .dead]⟩), ((.ex 0), [], ⟨[], [.dead, .dead]⟩)]
noncomputable def fi130 : Fi := ⟨Try.f130, [⟨4, [0, 1, 5], [], [(⟨[.ro 0 true [.i .i64, .i .i64, .i .i64] [], .ro 0 true [.i .i64, .i .i64, .i .i64] [], .i .i64 0], [.dead, .dead]⟩, x130_4_0)]⟩], false, [.ro (.sl true [.i .i64, .i .i64, .i .i64]), .ro (.sl true [.i .i64, .i .i64, .i .i64])], [.v (.b)]⟩
noncomputable def fi78 : Fi := ⟨Try.f78, [], false, [.ag [.ro (.sl true [.sl true [.b, .sl false [.i .u8]], .i .i64, .b]), .v (.i .i64), .ro (.sl true [.i .i64, .i .i64, .i .i64]), .v (.b)], .ag [.ro (.sl true [.sl true [.b, .sl false [.i .u8]], .i .i64, .b]), .v (.i .i64), .ro (.sl true [.i .i64, .i .i64, .i .i64]), .v (.b)]], [.v (.b)]⟩
noncomputable def fi22 : Fi := ⟨Try.f22, [], false, [.ag [.ro (.sl true [.sl true [.b, .sl false [.i .u8]], .i .i64, .b]), .v (.i .i64), .ro (.sl true [.i .i64, .i .i64, .i .i64]), .v (.b), .v (.i .i64)], .ag [.ro (.sl true [.sl true [.b, .sl false [.i .u8]], .i .i64, .b]), .v (.i .i64), .ro (.sl true [.i .i64, .i .i64, .i .i64]), .v (.b), .v (.i .i64)]], [.v (.b)]⟩
noncomputable def fi57 : Fi := ⟨Try.f57, [], false, [.ag [.ro (.sl true [.i .i64, .s, .b, .i .i64, .sl true [.i .i64, .i .i64, .i .i64, .sl false [.i .u8], .sl true [.s, .i .i64], .sl true [.s, .s]], .i .i64]), .v (.i .i64), .ro (.sl true [.i .i64, .s, .b, .i .i64, .sl true [.i .i64, .i .i64, .i .i64, .sl false [.i .u8], .sl true [.s, .i .i64], .sl true [.s, .s]], .i .i64]), .v (.i .i64), .v (.i .i64), .ro (.sl true [.i .i64, .s, .b, .i .i64, .i .i64]), .ro (.sl true [.i .i64, .sl true [.i .i64, .i .i64]]), .v (.i .i64), .v (.i .i64), .ro (.sl true [.sl true [.b, .sl false [.i .u8]], .i .i64, .b]), .v (.i .i64), .ro (.sl true [.i .i64, .i .i64, .i .i64]), .v (.b), .v (.i .i64)], .ag [.ro (.sl true [.i .i64, .s, .b, .i .i64, .sl true [.i .i64, .i .i64, .i .i64, .sl false [.i .u8], .sl true [.s, .i .i64], .sl true [.s, .s]], .i .i64]), .v (.i .i64), .ro (.sl true [.i .i64, .s, .b, .i .i64, .sl true [.i .i64, .i .i64, .i .i64, .sl false [.i .u8], .sl true [.s, .i .i64], .sl true [.s, .s]], .i .i64]), .v (.i .i64), .v (.i .i64), .ro (.sl true [.i .i64, .s, .b, .i .i64, .i .i64]), .ro (.sl true [.i .i64, .sl true [.i .i64, .i .i64]]), .v (.i .i64), .v (.i .i64), .ro (.sl true [.sl true [.b, .sl false [.i .u8]], .i .i64, .b]), .v (.i .i64), .ro (.sl true [.i .i64, .i .i64, .i .i64]), .v (.b), .v (.i .i64)]], [.v (.b)]⟩
noncomputable def fi12 : Fi := ⟨Try.f12, [], false, [.ag [.ro (.sl true [.i .i64, .s, .b, .i .i64, .sl true [.i .i64, .i .i64, .i .i64, .sl false [.i .u8], .sl true [.s, .i .i64], .sl true [.s, .s]], .i .i64]), .v (.i .i64), .ro (.sl true [.i .i64, .s, .b, .i .i64, .sl true [.i .i64, .i .i64, .i .i64, .sl false [.i .u8], .sl true [.s, .i .i64], .sl true [.s, .s]], .i .i64]), .v (.i .i64), .v (.i .i64), .ro (.sl true [.i .i64, .s, .b, .i .i64, .i .i64]), .ro (.sl true [.i .i64, .sl true [.i .i64, .i .i64]]), .v (.i .i64), .v (.i .i64), .ro (.sl true [.sl true [.b, .sl false [.i .u8]], .i .i64, .b]), .v (.i .i64), .ro (.sl true [.i .i64, .i .i64, .i .i64]), .v (.b), .v (.i .i64)]], [.v (.b)]⟩
noncomputable def fiTab : List (Nat × Fi) := [(259, fi259), (266, fi266), (260, fi260), (267, fi267), (261, fi261), (255, fi255), (248, fi248), (231, fi231), (204, fi204), (159, fi159), (107, fi107), (232, fi232), (205, fi205), (160, fi160), (233, fi233), (206, fi206), (161, fi161), (108, fi108), (252, fi252), (242, fi242), (219, fi219), (175, fi175), (122, fi122), (123, fi123), (69, fi69), (18, fi18), (53, fi53), (47, fi47), (268, fi268), (262, fi262), (269, fi269), (263, fi263), (256, fi256), (249, fi249), (235, fi235), (208, fi208), (163, fi163), (110, fi110), (236, fi236), (209, fi209), (164, fi164), (250, fi250), (237, fi237), (210, fi210), (165, fi165), (111, fi111), (253, fi253), (243, fi243), (220, fi220), (177, fi177), (126, fi126), (178, fi178), (127, fi127), (73, fi73), (20, fi20), (55, fi55), (234, fi234), (207, fi207), (162, fi162), (109, fi109), (54, fi54), (166, fi166), (211, fi211), (238, fi238), (239, fi239), (240, fi240), (212, fi212), (168, fi168), (167, fi167), (112, fi112), (56, fi56), (48, fi48), (264, fi264), (257, fi257), (265, fi265), (258, fi258), (251, fi251), (241, fi241), (213, fi213), (169, fi169), (113, fi113), (60, fi60), (170, fi170), (114, fi114), (61, fi61), (214, fi214), (171, fi171), (115, fi115), (62, fi62), (15, fi15), (254, fi254), (244, fi244), (221, fi221), (179, fi179), (129, fi129), (180, fi180), (130, fi130), (78, fi78), (22, fi22), (57, fi57), (12, fi12)]
def X : Nat → Option (List T → Option (List T)) := lookN []
noncomputable def env : Env := ⟨lookN fiTab, lookN tyTab⟩
-- FUNCTIONS
/-- loop.example/g00285/laws.szByteS -/
def f259_t (c : Orc) (lf : Nat) (l0 : List T) (n1 : Int) : Option (List T) :=
  bif iLt (IntKind.wrap .i64 (n1 - (l0.length : Int))) 0 then
    some [T.i .i64 (-1)]
  else
    some [T.i .i64 (IntKind.wrap .i64 (n1 - (l0.length : Int)))]
def f259 (c : Orc) (lf : Nat) (l0 : List T) (n1 : Int) : Option (List T) := f259_t c lf l0 n1
theorem f259_raw (c : Orc) (lf : Nat) (l0 : List T) (n1 : Int) : funK c env lf 6 fi259 [.sl l0, .i .i64 n1] = f259_t c lf l0 n1 := by kernel_rfl
theorem f259_eq (c : Orc) (lf : Nat) (l0 : List T) (n1 : Int) : funK c env lf 6 fi259 [.sl l0, .i .i64 n1] = f259 c lf l0 n1 := by
  refine (f259_raw c lf l0 n1).trans ?_
  rfl
/-- loop.example/g00285/laws.szEnt -/
def f266_t (c : Orc) (lf : Nat) (s0_0 : ByteArray) (n0_1 : Int) (n1 : Int) : Option (List T) :=
  bif iLt (IntKind.wrap .i64 (n1 - (s0_0.size : Int))) 0 then
    some [T.i .i64 (-1)]
  else
    some [T.i .i64 (IntKind.wrap .i64 (n1 - (s0_0.size : Int)))]
def f266 (c : Orc) (lf : Nat) (s0_0 : ByteArray) (n0_1 : Int) (n1 : Int) : Option (List T) := f266_t c lf s0_0 n0_1 n1
theorem f266_raw (c : Orc) (lf : Nat) (s0_0 : ByteArray) (n0_1 : Int) (n1 : Int) : funK c env lf 6 fi266 [.st [.s s0_0, .i .i64 n0_1], .i .i64 n1] = f266_t c lf s0_0 n0_1 n1 := by kernel_rfl
theorem f266_eq (c : Orc) (lf : Nat) (s0_0 : ByteArray) (n0_1 : Int) (n1 : Int) : funK c env lf 6 fi266 [.st [.s s0_0, .i .i64 n0_1], .i .i64 n1] = f266 c lf s0_0 n0_1 n1 := by
  refine (f266_raw c lf s0_0 n0_1 n1).trans ?_
  rfl
/-- loop.example/g00285/laws.szEntS, the loop at region 5. -/
def f260_0_s (c : Orc) (lf : Nat) (l0 : List T) (L : Int → Int → Option (List T)) (x7 : Int) (x8 : Int) : Option (List T) :=
  bif iLt x8 (l0.length : Int) then
    bif inR x8 l0.length then
    (c 266 [T.st [T.s (asS (T.cell (l0.getD x8.toNat T.u) 0)), T.i .i64 (asI (T.cell (l0.getD x8.toNat T.u) 1))], T.i .i64 x7]).bind fun r9 =>
    bif iLt (asI (nth r9 0)) 0 then
      some [T.i .i64 0, T.i .i64 (-1)]
    else
      L (asI (nth r9 0)) (IntKind.wrap .i64 (x8 + 1))
    else none
  else
    some [T.i .i64 1, T.i .i64 x7]
def f260_0_c (l0 : List T) (x7 : Int) (x8 : Int) : CSt := ⟨[.ro 0 true [.s, .i .i64] l0, .i .i64 x7, .i .i64 x8], [.dead, .dead]⟩
theorem f260_0_round (c : Orc) (lf : Nat) (l0 : List T) (L : CSt → Option (List T)) (x7 : Int) (x8 : Int) :
    roundK c env lf 6 fi260 2 5 [] [0, 1, 5] (x260_5_0) L (f260_0_c l0 x7 x8) = f260_0_s c lf l0 (fun x7 x8 => L (f260_0_c l0 x7 x8)) x7 x8 := by kernel_rfl
def f260_0 (c : Orc) (lf : Nat) (l0 : List T) : Nat → Int → Int → Option (List T)
  | 0 => fun _ _ => none
  | n + 1 => fun x7 x8 => f260_0_s c lf l0 (f260_0 c lf l0 n) x7 x8
theorem f260_0_u (c : Orc) (lf : Nat) (l0 : List T) (n : Nat) (x7 : Int) (x8 : Int) : f260_0 c lf l0 (n + 1) x7 x8 = f260_0_s c lf l0 (f260_0 c lf l0 n) x7 x8 := rfl
theorem f260_0_eq (c : Orc) (lf : Nat) (l0 : List T) (n : Nat) (x7 : Int) (x8 : Int) :
    lpK c env lf 6 fi260 2 5 [] [0, 1, 5] (x260_5_0) n (f260_0_c l0 x7 x8) = f260_0 c lf l0 n x7 x8 := by
  induction n generalizing x7 x8 with
  | zero => rfl
  | succ n ih =>
    refine (f260_0_round c lf l0 _ x7 x8).trans ?_
    have e : (fun x7 x8 => lpK c env lf 6 fi260 2 5 [] [0, 1, 5] (x260_5_0) n (f260_0_c l0 x7 x8)) = f260_0 c lf l0 n := by funext x7 x8; exact ih x7 x8
    show f260_0_s c lf l0 (fun x7 x8 => lpK c env lf 6 fi260 2 5 [] [0, 1, 5] (x260_5_0) n (f260_0_c l0 x7 x8)) x7 x8 = _
    rw [e]; rfl
/-- loop.example/g00285/laws.szEntS -/
def f260_t (c : Orc) (lf : Nat) (lp0 : List T → Int → Int → Option (List T)) (l0 : List T) (n1 : Int) : Option (List T) :=
  bif iLt (IntKind.wrap .i64 (n1 - (l0.length : Int))) 0 then
    some [T.i .i64 (-1)]
  else
    (lp0 l0 (IntKind.wrap .i64 (n1 - (l0.length : Int))) 0).bind fun r10 =>
    bif asI (nth r10 0) == 0 then
      some [T.i .i64 (asI (nth r10 1))]
    else
      some [T.i .i64 (asI (nth r10 1))]
def f260 (c : Orc) (lf : Nat) (l0 : List T) (n1 : Int) : Option (List T) := f260_t c lf (fun (l0 : List T) (x7 : Int) (x8 : Int) => f260_0 c lf l0 lf x7 x8) l0 n1
theorem f260_raw (c : Orc) (lf : Nat) (l0 : List T) (n1 : Int) : funK c env lf 6 fi260 [.sl l0, .i .i64 n1] = f260_t c lf (fun (l0 : List T) (x7 : Int) (x8 : Int) => lpK c env lf 6 fi260 2 5 [] [0, 1, 5] (x260_5_0) lf (f260_0_c l0 x7 x8)) l0 n1 := by kernel_rfl
theorem f260_eq (c : Orc) (lf : Nat) (l0 : List T) (n1 : Int) : funK c env lf 6 fi260 [.sl l0, .i .i64 n1] = f260 c lf l0 n1 := by
  refine (f260_raw c lf l0 n1).trans ?_
  have e0 : (fun (l0 : List T) (x7 : Int) (x8 : Int) => lpK c env lf 6 fi260 2 5 [] [0, 1, 5] (x260_5_0) lf (f260_0_c l0 x7 x8)) = (fun (l0 : List T) (x7 : Int) (x8 : Int) => f260_0 c lf l0 lf x7 x8) := by funext l0 x7 x8; exact f260_0_eq c lf l0 lf x7 x8
  rw [e0]; rfl
/-- loop.example/g00285/laws.szAttr -/
def f267_t (c : Orc) (lf : Nat) (s0_0 : ByteArray) (s0_1 : ByteArray) (n1 : Int) : Option (List T) :=
  bif iLt (IntKind.wrap .i64 (n1 - (s0_0.size : Int))) 0 then
    some [T.i .i64 (-1)]
  else
    bif iLt (IntKind.wrap .i64 ((IntKind.wrap .i64 (n1 - (s0_0.size : Int))) - (s0_1.size : Int))) 0 then
      some [T.i .i64 (-1)]
    else
      some [T.i .i64 (IntKind.wrap .i64 ((IntKind.wrap .i64 (n1 - (s0_0.size : Int))) - (s0_1.size : Int)))]
def f267 (c : Orc) (lf : Nat) (s0_0 : ByteArray) (s0_1 : ByteArray) (n1 : Int) : Option (List T) := f267_t c lf s0_0 s0_1 n1
theorem f267_raw (c : Orc) (lf : Nat) (s0_0 : ByteArray) (s0_1 : ByteArray) (n1 : Int) : funK c env lf 6 fi267 [.st [.s s0_0, .s s0_1], .i .i64 n1] = f267_t c lf s0_0 s0_1 n1 := by kernel_rfl
theorem f267_eq (c : Orc) (lf : Nat) (s0_0 : ByteArray) (s0_1 : ByteArray) (n1 : Int) : funK c env lf 6 fi267 [.st [.s s0_0, .s s0_1], .i .i64 n1] = f267 c lf s0_0 s0_1 n1 := by
  refine (f267_raw c lf s0_0 s0_1 n1).trans ?_
  rfl
/-- loop.example/g00285/laws.szAttrS, the loop at region 5. -/
def f261_0_s (c : Orc) (lf : Nat) (l0 : List T) (L : Int → Int → Option (List T)) (x17 : Int) (x18 : Int) : Option (List T) :=
  bif iLt x18 (l0.length : Int) then
    bif inR x18 l0.length then
    (c 267 [T.st [T.s (asS (T.cell (l0.getD x18.toNat T.u) 0)), T.s (asS (T.cell (l0.getD x18.toNat T.u) 1))], T.i .i64 x17]).bind fun r19 =>
    bif iLt (asI (nth r19 0)) 0 then
      some [T.i .i64 0, T.i .i64 (-1)]
    else
      L (asI (nth r19 0)) (IntKind.wrap .i64 (x18 + 1))
    else none
  else
    some [T.i .i64 1, T.i .i64 x17]
def f261_0_c (l0 : List T) (x17 : Int) (x18 : Int) : CSt := ⟨[.ro 0 true [.s, .s] l0, .i .i64 x17, .i .i64 x18], [.dead, .dead]⟩
theorem f261_0_round (c : Orc) (lf : Nat) (l0 : List T) (L : CSt → Option (List T)) (x17 : Int) (x18 : Int) :
    roundK c env lf 6 fi261 2 5 [] [0, 1, 5] (x261_5_0) L (f261_0_c l0 x17 x18) = f261_0_s c lf l0 (fun x17 x18 => L (f261_0_c l0 x17 x18)) x17 x18 := by kernel_rfl
def f261_0 (c : Orc) (lf : Nat) (l0 : List T) : Nat → Int → Int → Option (List T)
  | 0 => fun _ _ => none
  | n + 1 => fun x17 x18 => f261_0_s c lf l0 (f261_0 c lf l0 n) x17 x18
theorem f261_0_u (c : Orc) (lf : Nat) (l0 : List T) (n : Nat) (x17 : Int) (x18 : Int) : f261_0 c lf l0 (n + 1) x17 x18 = f261_0_s c lf l0 (f261_0 c lf l0 n) x17 x18 := rfl
theorem f261_0_eq (c : Orc) (lf : Nat) (l0 : List T) (n : Nat) (x17 : Int) (x18 : Int) :
    lpK c env lf 6 fi261 2 5 [] [0, 1, 5] (x261_5_0) n (f261_0_c l0 x17 x18) = f261_0 c lf l0 n x17 x18 := by
  induction n generalizing x17 x18 with
  | zero => rfl
  | succ n ih =>
    refine (f261_0_round c lf l0 _ x17 x18).trans ?_
    have e : (fun x17 x18 => lpK c env lf 6 fi261 2 5 [] [0, 1, 5] (x261_5_0) n (f261_0_c l0 x17 x18)) = f261_0 c lf l0 n := by funext x17 x18; exact ih x17 x18
    show f261_0_s c lf l0 (fun x17 x18 => lpK c env lf 6 fi261 2 5 [] [0, 1, 5] (x261_5_0) n (f261_0_c l0 x17 x18)) x17 x18 = _
    rw [e]; rfl
/-- loop.example/g00285/laws.szAttrS -/
def f261_t (c : Orc) (lf : Nat) (lp0 : List T → Int → Int → Option (List T)) (l0 : List T) (n1 : Int) : Option (List T) :=
  bif iLt (IntKind.wrap .i64 (n1 - (l0.length : Int))) 0 then
    some [T.i .i64 (-1)]
  else
    (lp0 l0 (IntKind.wrap .i64 (n1 - (l0.length : Int))) 0).bind fun r20 =>
    bif asI (nth r20 0) == 0 then
      some [T.i .i64 (asI (nth r20 1))]
    else
      some [T.i .i64 (asI (nth r20 1))]
def f261 (c : Orc) (lf : Nat) (l0 : List T) (n1 : Int) : Option (List T) := f261_t c lf (fun (l0 : List T) (x17 : Int) (x18 : Int) => f261_0 c lf l0 lf x17 x18) l0 n1
theorem f261_raw (c : Orc) (lf : Nat) (l0 : List T) (n1 : Int) : funK c env lf 6 fi261 [.sl l0, .i .i64 n1] = f261_t c lf (fun (l0 : List T) (x17 : Int) (x18 : Int) => lpK c env lf 6 fi261 2 5 [] [0, 1, 5] (x261_5_0) lf (f261_0_c l0 x17 x18)) l0 n1 := by kernel_rfl
theorem f261_eq (c : Orc) (lf : Nat) (l0 : List T) (n1 : Int) : funK c env lf 6 fi261 [.sl l0, .i .i64 n1] = f261 c lf l0 n1 := by
  refine (f261_raw c lf l0 n1).trans ?_
  have e0 : (fun (l0 : List T) (x17 : Int) (x18 : Int) => lpK c env lf 6 fi261 2 5 [] [0, 1, 5] (x261_5_0) lf (f261_0_c l0 x17 x18)) = (fun (l0 : List T) (x17 : Int) (x18 : Int) => f261_0 c lf l0 lf x17 x18) := by funext l0 x17 x18; exact f261_0_eq c lf l0 lf x17 x18
  rw [e0]; rfl
/-- loop.example/g00285/laws.szInode -/
def f255_t (c : Orc) (lf : Nat) (n0_0 : Int) (n0_1 : Int) (n0_2 : Int) (l0_3 : List T) (l0_4 : List T) (l0_5 : List T) (n1 : Int) : Option (List T) :=
  (c 259 [T.sl l0_3, T.i .i64 n1]).bind fun r21 =>
  bif iLt (asI (nth r21 0)) 0 then
    some [T.i .i64 (-1)]
  else
    (c 260 [T.sl l0_4, T.i .i64 (asI (nth r21 0))]).bind fun r22 =>
    bif iLt (asI (nth r22 0)) 0 then
      some [T.i .i64 (-1)]
    else
      (c 261 [T.sl l0_5, T.i .i64 (asI (nth r22 0))]).bind fun r23 =>
      bif iLt (asI (nth r23 0)) 0 then
        some [T.i .i64 (-1)]
      else
        some [T.i .i64 (asI (nth r23 0))]
def f255 (c : Orc) (lf : Nat) (n0_0 : Int) (n0_1 : Int) (n0_2 : Int) (l0_3 : List T) (l0_4 : List T) (l0_5 : List T) (n1 : Int) : Option (List T) := f255_t c lf n0_0 n0_1 n0_2 l0_3 l0_4 l0_5 n1
theorem f255_raw (c : Orc) (lf : Nat) (n0_0 : Int) (n0_1 : Int) (n0_2 : Int) (l0_3 : List T) (l0_4 : List T) (l0_5 : List T) (n1 : Int) : funK c env lf 6 fi255 [.st [.i .i64 n0_0, .i .i64 n0_1, .i .i64 n0_2, .sl l0_3, .sl l0_4, .sl l0_5], .i .i64 n1] = f255_t c lf n0_0 n0_1 n0_2 l0_3 l0_4 l0_5 n1 := by kernel_rfl
theorem f255_eq (c : Orc) (lf : Nat) (n0_0 : Int) (n0_1 : Int) (n0_2 : Int) (l0_3 : List T) (l0_4 : List T) (l0_5 : List T) (n1 : Int) : funK c env lf 6 fi255 [.st [.i .i64 n0_0, .i .i64 n0_1, .i .i64 n0_2, .sl l0_3, .sl l0_4, .sl l0_5], .i .i64 n1] = f255 c lf n0_0 n0_1 n0_2 l0_3 l0_4 l0_5 n1 := by
  refine (f255_raw c lf n0_0 n0_1 n0_2 l0_3 l0_4 l0_5 n1).trans ?_
  rfl
/-- loop.example/g00285/laws.szInodeS, the loop at region 5. -/
def f248_0_s (c : Orc) (lf : Nat) (l0 : List T) (L : Int → Int → Option (List T)) (x30 : Int) (x31 : Int) : Option (List T) :=
  bif iLt x31 (l0.length : Int) then
    bif inR x31 l0.length then
    (c 255 [T.st [T.i .i64 (asI (T.cell (l0.getD x31.toNat T.u) 0)), T.i .i64 (asI (T.cell (l0.getD x31.toNat T.u) 1)), T.i .i64 (asI (T.cell (l0.getD x31.toNat T.u) 2)), T.sl (asL (T.cell (l0.getD x31.toNat T.u) 3)), T.sl (asL (T.cell (l0.getD x31.toNat T.u) 4)), T.sl (asL (T.cell (l0.getD x31.toNat T.u) 5))], T.i .i64 x30]).bind fun r32 =>
    bif iLt (asI (nth r32 0)) 0 then
      some [T.i .i64 0, T.i .i64 (-1)]
    else
      L (asI (nth r32 0)) (IntKind.wrap .i64 (x31 + 1))
    else none
  else
    some [T.i .i64 1, T.i .i64 x30]
def f248_0_c (l0 : List T) (x30 : Int) (x31 : Int) : CSt := ⟨[.ro 0 true [.i .i64, .i .i64, .i .i64, .sl false [.i .u8], .sl true [.s, .i .i64], .sl true [.s, .s]] l0, .i .i64 x30, .i .i64 x31], [.dead, .dead]⟩
theorem f248_0_round (c : Orc) (lf : Nat) (l0 : List T) (L : CSt → Option (List T)) (x30 : Int) (x31 : Int) :
    roundK c env lf 6 fi248 2 5 [] [0, 1, 5] (x248_5_0) L (f248_0_c l0 x30 x31) = f248_0_s c lf l0 (fun x30 x31 => L (f248_0_c l0 x30 x31)) x30 x31 := by kernel_rfl
def f248_0 (c : Orc) (lf : Nat) (l0 : List T) : Nat → Int → Int → Option (List T)
  | 0 => fun _ _ => none
  | n + 1 => fun x30 x31 => f248_0_s c lf l0 (f248_0 c lf l0 n) x30 x31
theorem f248_0_u (c : Orc) (lf : Nat) (l0 : List T) (n : Nat) (x30 : Int) (x31 : Int) : f248_0 c lf l0 (n + 1) x30 x31 = f248_0_s c lf l0 (f248_0 c lf l0 n) x30 x31 := rfl
theorem f248_0_eq (c : Orc) (lf : Nat) (l0 : List T) (n : Nat) (x30 : Int) (x31 : Int) :
    lpK c env lf 6 fi248 2 5 [] [0, 1, 5] (x248_5_0) n (f248_0_c l0 x30 x31) = f248_0 c lf l0 n x30 x31 := by
  induction n generalizing x30 x31 with
  | zero => rfl
  | succ n ih =>
    refine (f248_0_round c lf l0 _ x30 x31).trans ?_
    have e : (fun x30 x31 => lpK c env lf 6 fi248 2 5 [] [0, 1, 5] (x248_5_0) n (f248_0_c l0 x30 x31)) = f248_0 c lf l0 n := by funext x30 x31; exact ih x30 x31
    show f248_0_s c lf l0 (fun x30 x31 => lpK c env lf 6 fi248 2 5 [] [0, 1, 5] (x248_5_0) n (f248_0_c l0 x30 x31)) x30 x31 = _
    rw [e]; rfl
/-- loop.example/g00285/laws.szInodeS -/
def f248_t (c : Orc) (lf : Nat) (lp0 : List T → Int → Int → Option (List T)) (l0 : List T) (n1 : Int) : Option (List T) :=
  bif iLt (IntKind.wrap .i64 (n1 - (l0.length : Int))) 0 then
    some [T.i .i64 (-1)]
  else
    (lp0 l0 (IntKind.wrap .i64 (n1 - (l0.length : Int))) 0).bind fun r33 =>
    bif asI (nth r33 0) == 0 then
      some [T.i .i64 (asI (nth r33 1))]
    else
      some [T.i .i64 (asI (nth r33 1))]
def f248 (c : Orc) (lf : Nat) (l0 : List T) (n1 : Int) : Option (List T) := f248_t c lf (fun (l0 : List T) (x30 : Int) (x31 : Int) => f248_0 c lf l0 lf x30 x31) l0 n1
theorem f248_raw (c : Orc) (lf : Nat) (l0 : List T) (n1 : Int) : funK c env lf 6 fi248 [.sl l0, .i .i64 n1] = f248_t c lf (fun (l0 : List T) (x30 : Int) (x31 : Int) => lpK c env lf 6 fi248 2 5 [] [0, 1, 5] (x248_5_0) lf (f248_0_c l0 x30 x31)) l0 n1 := by kernel_rfl
theorem f248_eq (c : Orc) (lf : Nat) (l0 : List T) (n1 : Int) : funK c env lf 6 fi248 [.sl l0, .i .i64 n1] = f248 c lf l0 n1 := by
  refine (f248_raw c lf l0 n1).trans ?_
  have e0 : (fun (l0 : List T) (x30 : Int) (x31 : Int) => lpK c env lf 6 fi248 2 5 [] [0, 1, 5] (x248_5_0) lf (f248_0_c l0 x30 x31)) = (fun (l0 : List T) (x30 : Int) (x31 : Int) => f248_0 c lf l0 lf x30 x31) := by funext l0 x30 x31; exact f248_0_eq c lf l0 lf x30 x31
  rw [e0]; rfl
/-- loop.example/g00285/laws.szTab -/
def f231_t (c : Orc) (lf : Nat) (l0_0 : List T) (n0_1 : Int) (n1 : Int) : Option (List T) :=
  (c 248 [T.sl l0_0, T.i .i64 n1]).bind fun r34 =>
  bif iLt (asI (nth r34 0)) 0 then
    some [T.i .i64 (-1)]
  else
    some [T.i .i64 (asI (nth r34 0))]
def f231 (c : Orc) (lf : Nat) (l0_0 : List T) (n0_1 : Int) (n1 : Int) : Option (List T) := f231_t c lf l0_0 n0_1 n1
theorem f231_raw (c : Orc) (lf : Nat) (l0_0 : List T) (n0_1 : Int) (n1 : Int) : funK c env lf 6 fi231 [.st [.sl l0_0, .i .i64 n0_1], .i .i64 n1] = f231_t c lf l0_0 n0_1 n1 := by kernel_rfl
theorem f231_eq (c : Orc) (lf : Nat) (l0_0 : List T) (n0_1 : Int) (n1 : Int) : funK c env lf 6 fi231 [.st [.sl l0_0, .i .i64 n0_1], .i .i64 n1] = f231 c lf l0_0 n0_1 n1 := by
  refine (f231_raw c lf l0_0 n0_1 n1).trans ?_
  rfl
/-- loop.example/g00285/laws.szVol -/
def f204_t (c : Orc) (lf : Nat) (n0_0 : Int) (s0_1 : ByteArray) (b0_2 : Bool) (n0_3 : Int) (l0_4 : List T) (n0_5 : Int) (n1 : Int) : Option (List T) :=
  bif iLt (IntKind.wrap .i64 (n1 - (s0_1.size : Int))) 0 then
    some [T.i .i64 (-1)]
  else
    (c 231 [T.st [T.sl l0_4, T.i .i64 n0_5], T.i .i64 (IntKind.wrap .i64 (n1 - (s0_1.size : Int)))]).bind fun r35 =>
    bif iLt (asI (nth r35 0)) 0 then
      some [T.i .i64 (-1)]
    else
      some [T.i .i64 (asI (nth r35 0))]
def f204 (c : Orc) (lf : Nat) (n0_0 : Int) (s0_1 : ByteArray) (b0_2 : Bool) (n0_3 : Int) (l0_4 : List T) (n0_5 : Int) (n1 : Int) : Option (List T) := f204_t c lf n0_0 s0_1 b0_2 n0_3 l0_4 n0_5 n1
theorem f204_raw (c : Orc) (lf : Nat) (n0_0 : Int) (s0_1 : ByteArray) (b0_2 : Bool) (n0_3 : Int) (l0_4 : List T) (n0_5 : Int) (n1 : Int) : funK c env lf 6 fi204 [.st [.i .i64 n0_0, .s s0_1, .b b0_2, .i .i64 n0_3, .sl l0_4, .i .i64 n0_5], .i .i64 n1] = f204_t c lf n0_0 s0_1 b0_2 n0_3 l0_4 n0_5 n1 := by kernel_rfl
theorem f204_eq (c : Orc) (lf : Nat) (n0_0 : Int) (s0_1 : ByteArray) (b0_2 : Bool) (n0_3 : Int) (l0_4 : List T) (n0_5 : Int) (n1 : Int) : funK c env lf 6 fi204 [.st [.i .i64 n0_0, .s s0_1, .b b0_2, .i .i64 n0_3, .sl l0_4, .i .i64 n0_5], .i .i64 n1] = f204 c lf n0_0 s0_1 b0_2 n0_3 l0_4 n0_5 n1 := by
  refine (f204_raw c lf n0_0 s0_1 b0_2 n0_3 l0_4 n0_5 n1).trans ?_
  rfl
/-- loop.example/g00285/laws.szVolS, the loop at region 5. -/
def f159_0_s (c : Orc) (lf : Nat) (l0 : List T) (L : Int → Int → Option (List T)) (x42 : Int) (x43 : Int) : Option (List T) :=
  bif iLt x43 (l0.length : Int) then
    bif inR x43 l0.length then
    (c 204 [T.st [T.i .i64 (asI (T.cell (l0.getD x43.toNat T.u) 0)), T.s (asS (T.cell (l0.getD x43.toNat T.u) 1)), T.b (asB (T.cell (l0.getD x43.toNat T.u) 2)), T.i .i64 (asI (T.cell (l0.getD x43.toNat T.u) 3)), T.sl (asL (T.cell (l0.getD x43.toNat T.u) 4)), T.i .i64 (asI (T.cell (l0.getD x43.toNat T.u) 5))], T.i .i64 x42]).bind fun r44 =>
    bif iLt (asI (nth r44 0)) 0 then
      some [T.i .i64 0, T.i .i64 (-1)]
    else
      L (asI (nth r44 0)) (IntKind.wrap .i64 (x43 + 1))
    else none
  else
    some [T.i .i64 1, T.i .i64 x42]
def f159_0_c (l0 : List T) (x42 : Int) (x43 : Int) : CSt := ⟨[.ro 0 true [.i .i64, .s, .b, .i .i64, .sl true [.i .i64, .i .i64, .i .i64, .sl false [.i .u8], .sl true [.s, .i .i64], .sl true [.s, .s]], .i .i64] l0, .i .i64 x42, .i .i64 x43], [.dead, .dead]⟩
theorem f159_0_round (c : Orc) (lf : Nat) (l0 : List T) (L : CSt → Option (List T)) (x42 : Int) (x43 : Int) :
    roundK c env lf 6 fi159 2 5 [] [0, 1, 5] (x159_5_0) L (f159_0_c l0 x42 x43) = f159_0_s c lf l0 (fun x42 x43 => L (f159_0_c l0 x42 x43)) x42 x43 := by kernel_rfl
def f159_0 (c : Orc) (lf : Nat) (l0 : List T) : Nat → Int → Int → Option (List T)
  | 0 => fun _ _ => none
  | n + 1 => fun x42 x43 => f159_0_s c lf l0 (f159_0 c lf l0 n) x42 x43
theorem f159_0_u (c : Orc) (lf : Nat) (l0 : List T) (n : Nat) (x42 : Int) (x43 : Int) : f159_0 c lf l0 (n + 1) x42 x43 = f159_0_s c lf l0 (f159_0 c lf l0 n) x42 x43 := rfl
theorem f159_0_eq (c : Orc) (lf : Nat) (l0 : List T) (n : Nat) (x42 : Int) (x43 : Int) :
    lpK c env lf 6 fi159 2 5 [] [0, 1, 5] (x159_5_0) n (f159_0_c l0 x42 x43) = f159_0 c lf l0 n x42 x43 := by
  induction n generalizing x42 x43 with
  | zero => rfl
  | succ n ih =>
    refine (f159_0_round c lf l0 _ x42 x43).trans ?_
    have e : (fun x42 x43 => lpK c env lf 6 fi159 2 5 [] [0, 1, 5] (x159_5_0) n (f159_0_c l0 x42 x43)) = f159_0 c lf l0 n := by funext x42 x43; exact ih x42 x43
    show f159_0_s c lf l0 (fun x42 x43 => lpK c env lf 6 fi159 2 5 [] [0, 1, 5] (x159_5_0) n (f159_0_c l0 x42 x43)) x42 x43 = _
    rw [e]; rfl
/-- loop.example/g00285/laws.szVolS -/
def f159_t (c : Orc) (lf : Nat) (lp0 : List T → Int → Int → Option (List T)) (l0 : List T) (n1 : Int) : Option (List T) :=
  bif iLt (IntKind.wrap .i64 (n1 - (l0.length : Int))) 0 then
    some [T.i .i64 (-1)]
  else
    (lp0 l0 (IntKind.wrap .i64 (n1 - (l0.length : Int))) 0).bind fun r45 =>
    bif asI (nth r45 0) == 0 then
      some [T.i .i64 (asI (nth r45 1))]
    else
      some [T.i .i64 (asI (nth r45 1))]
def f159 (c : Orc) (lf : Nat) (l0 : List T) (n1 : Int) : Option (List T) := f159_t c lf (fun (l0 : List T) (x42 : Int) (x43 : Int) => f159_0 c lf l0 lf x42 x43) l0 n1
theorem f159_raw (c : Orc) (lf : Nat) (l0 : List T) (n1 : Int) : funK c env lf 6 fi159 [.sl l0, .i .i64 n1] = f159_t c lf (fun (l0 : List T) (x42 : Int) (x43 : Int) => lpK c env lf 6 fi159 2 5 [] [0, 1, 5] (x159_5_0) lf (f159_0_c l0 x42 x43)) l0 n1 := by kernel_rfl
theorem f159_eq (c : Orc) (lf : Nat) (l0 : List T) (n1 : Int) : funK c env lf 6 fi159 [.sl l0, .i .i64 n1] = f159 c lf l0 n1 := by
  refine (f159_raw c lf l0 n1).trans ?_
  have e0 : (fun (l0 : List T) (x42 : Int) (x43 : Int) => lpK c env lf 6 fi159 2 5 [] [0, 1, 5] (x159_5_0) lf (f159_0_c l0 x42 x43)) = (fun (l0 : List T) (x42 : Int) (x43 : Int) => f159_0 c lf l0 lf x42 x43) := by funext l0 x42 x43; exact f159_0_eq c lf l0 lf x42 x43
  rw [e0]; rfl
/-- loop.example/g00285/laws.szFs -/
def f107_t (c : Orc) (lf : Nat) (l0_0 : List T) (n0_1 : Int) (n1 : Int) : Option (List T) :=
  (c 159 [T.sl l0_0, T.i .i64 n1]).bind fun r46 =>
  bif iLt (asI (nth r46 0)) 0 then
    some [T.i .i64 (-1)]
  else
    some [T.i .i64 (asI (nth r46 0))]
def f107 (c : Orc) (lf : Nat) (l0_0 : List T) (n0_1 : Int) (n1 : Int) : Option (List T) := f107_t c lf l0_0 n0_1 n1
theorem f107_raw (c : Orc) (lf : Nat) (l0_0 : List T) (n0_1 : Int) (n1 : Int) : funK c env lf 6 fi107 [.st [.sl l0_0, .i .i64 n0_1], .i .i64 n1] = f107_t c lf l0_0 n0_1 n1 := by kernel_rfl
theorem f107_eq (c : Orc) (lf : Nat) (l0_0 : List T) (n0_1 : Int) (n1 : Int) : funK c env lf 6 fi107 [.st [.sl l0_0, .i .i64 n0_1], .i .i64 n1] = f107 c lf l0_0 n0_1 n1 := by
  refine (f107_raw c lf l0_0 n0_1 n1).trans ?_
  rfl
/-- loop.example/g00285/laws.szRow -/
def f232_t (c : Orc) (lf : Nat) (n0_0 : Int) (s0_1 : ByteArray) (b0_2 : Bool) (n0_3 : Int) (n0_4 : Int) (n1 : Int) : Option (List T) :=
  bif iLt (IntKind.wrap .i64 (n1 - (s0_1.size : Int))) 0 then
    some [T.i .i64 (-1)]
  else
    some [T.i .i64 (IntKind.wrap .i64 (n1 - (s0_1.size : Int)))]
def f232 (c : Orc) (lf : Nat) (n0_0 : Int) (s0_1 : ByteArray) (b0_2 : Bool) (n0_3 : Int) (n0_4 : Int) (n1 : Int) : Option (List T) := f232_t c lf n0_0 s0_1 b0_2 n0_3 n0_4 n1
theorem f232_raw (c : Orc) (lf : Nat) (n0_0 : Int) (s0_1 : ByteArray) (b0_2 : Bool) (n0_3 : Int) (n0_4 : Int) (n1 : Int) : funK c env lf 6 fi232 [.st [.i .i64 n0_0, .s s0_1, .b b0_2, .i .i64 n0_3, .i .i64 n0_4], .i .i64 n1] = f232_t c lf n0_0 s0_1 b0_2 n0_3 n0_4 n1 := by kernel_rfl
theorem f232_eq (c : Orc) (lf : Nat) (n0_0 : Int) (s0_1 : ByteArray) (b0_2 : Bool) (n0_3 : Int) (n0_4 : Int) (n1 : Int) : funK c env lf 6 fi232 [.st [.i .i64 n0_0, .s s0_1, .b b0_2, .i .i64 n0_3, .i .i64 n0_4], .i .i64 n1] = f232 c lf n0_0 s0_1 b0_2 n0_3 n0_4 n1 := by
  refine (f232_raw c lf n0_0 s0_1 b0_2 n0_3 n0_4 n1).trans ?_
  rfl
/-- loop.example/g00285/laws.szRowS, the loop at region 5. -/
def f205_0_s (c : Orc) (lf : Nat) (l0 : List T) (L : Int → Int → Option (List T)) (x53 : Int) (x54 : Int) : Option (List T) :=
  bif iLt x54 (l0.length : Int) then
    bif inR x54 l0.length then
    (c 232 [T.st [T.i .i64 (asI (T.cell (l0.getD x54.toNat T.u) 0)), T.s (asS (T.cell (l0.getD x54.toNat T.u) 1)), T.b (asB (T.cell (l0.getD x54.toNat T.u) 2)), T.i .i64 (asI (T.cell (l0.getD x54.toNat T.u) 3)), T.i .i64 (asI (T.cell (l0.getD x54.toNat T.u) 4))], T.i .i64 x53]).bind fun r55 =>
    bif iLt (asI (nth r55 0)) 0 then
      some [T.i .i64 0, T.i .i64 (-1)]
    else
      L (asI (nth r55 0)) (IntKind.wrap .i64 (x54 + 1))
    else none
  else
    some [T.i .i64 1, T.i .i64 x53]
def f205_0_c (l0 : List T) (x53 : Int) (x54 : Int) : CSt := ⟨[.ro 0 true [.i .i64, .s, .b, .i .i64, .i .i64] l0, .i .i64 x53, .i .i64 x54], [.dead, .dead]⟩
theorem f205_0_round (c : Orc) (lf : Nat) (l0 : List T) (L : CSt → Option (List T)) (x53 : Int) (x54 : Int) :
    roundK c env lf 6 fi205 2 5 [] [0, 1, 5] (x205_5_0) L (f205_0_c l0 x53 x54) = f205_0_s c lf l0 (fun x53 x54 => L (f205_0_c l0 x53 x54)) x53 x54 := by kernel_rfl
def f205_0 (c : Orc) (lf : Nat) (l0 : List T) : Nat → Int → Int → Option (List T)
  | 0 => fun _ _ => none
  | n + 1 => fun x53 x54 => f205_0_s c lf l0 (f205_0 c lf l0 n) x53 x54
theorem f205_0_u (c : Orc) (lf : Nat) (l0 : List T) (n : Nat) (x53 : Int) (x54 : Int) : f205_0 c lf l0 (n + 1) x53 x54 = f205_0_s c lf l0 (f205_0 c lf l0 n) x53 x54 := rfl
theorem f205_0_eq (c : Orc) (lf : Nat) (l0 : List T) (n : Nat) (x53 : Int) (x54 : Int) :
    lpK c env lf 6 fi205 2 5 [] [0, 1, 5] (x205_5_0) n (f205_0_c l0 x53 x54) = f205_0 c lf l0 n x53 x54 := by
  induction n generalizing x53 x54 with
  | zero => rfl
  | succ n ih =>
    refine (f205_0_round c lf l0 _ x53 x54).trans ?_
    have e : (fun x53 x54 => lpK c env lf 6 fi205 2 5 [] [0, 1, 5] (x205_5_0) n (f205_0_c l0 x53 x54)) = f205_0 c lf l0 n := by funext x53 x54; exact ih x53 x54
    show f205_0_s c lf l0 (fun x53 x54 => lpK c env lf 6 fi205 2 5 [] [0, 1, 5] (x205_5_0) n (f205_0_c l0 x53 x54)) x53 x54 = _
    rw [e]; rfl
/-- loop.example/g00285/laws.szRowS -/
def f205_t (c : Orc) (lf : Nat) (lp0 : List T → Int → Int → Option (List T)) (l0 : List T) (n1 : Int) : Option (List T) :=
  bif iLt (IntKind.wrap .i64 (n1 - (l0.length : Int))) 0 then
    some [T.i .i64 (-1)]
  else
    (lp0 l0 (IntKind.wrap .i64 (n1 - (l0.length : Int))) 0).bind fun r56 =>
    bif asI (nth r56 0) == 0 then
      some [T.i .i64 (asI (nth r56 1))]
    else
      some [T.i .i64 (asI (nth r56 1))]
def f205 (c : Orc) (lf : Nat) (l0 : List T) (n1 : Int) : Option (List T) := f205_t c lf (fun (l0 : List T) (x53 : Int) (x54 : Int) => f205_0 c lf l0 lf x53 x54) l0 n1
theorem f205_raw (c : Orc) (lf : Nat) (l0 : List T) (n1 : Int) : funK c env lf 6 fi205 [.sl l0, .i .i64 n1] = f205_t c lf (fun (l0 : List T) (x53 : Int) (x54 : Int) => lpK c env lf 6 fi205 2 5 [] [0, 1, 5] (x205_5_0) lf (f205_0_c l0 x53 x54)) l0 n1 := by kernel_rfl
theorem f205_eq (c : Orc) (lf : Nat) (l0 : List T) (n1 : Int) : funK c env lf 6 fi205 [.sl l0, .i .i64 n1] = f205 c lf l0 n1 := by
  refine (f205_raw c lf l0 n1).trans ?_
  have e0 : (fun (l0 : List T) (x53 : Int) (x54 : Int) => lpK c env lf 6 fi205 2 5 [] [0, 1, 5] (x205_5_0) lf (f205_0_c l0 x53 x54)) = (fun (l0 : List T) (x53 : Int) (x54 : Int) => f205_0 c lf l0 lf x53 x54) := by funext l0 x53 x54; exact f205_0_eq c lf l0 lf x53 x54
  rw [e0]; rfl
/-- loop.example/g00285/laws.szTable -/
def f160_t (c : Orc) (lf : Nat) (n0_0 : Int) (l0_1 : List T) (n1 : Int) : Option (List T) :=
  (c 205 [T.sl l0_1, T.i .i64 n1]).bind fun r57 =>
  bif iLt (asI (nth r57 0)) 0 then
    some [T.i .i64 (-1)]
  else
    some [T.i .i64 (asI (nth r57 0))]
def f160 (c : Orc) (lf : Nat) (n0_0 : Int) (l0_1 : List T) (n1 : Int) : Option (List T) := f160_t c lf n0_0 l0_1 n1
theorem f160_raw (c : Orc) (lf : Nat) (n0_0 : Int) (l0_1 : List T) (n1 : Int) : funK c env lf 6 fi160 [.st [.i .i64 n0_0, .sl l0_1], .i .i64 n1] = f160_t c lf n0_0 l0_1 n1 := by kernel_rfl
theorem f160_eq (c : Orc) (lf : Nat) (n0_0 : Int) (l0_1 : List T) (n1 : Int) : funK c env lf 6 fi160 [.st [.i .i64 n0_0, .sl l0_1], .i .i64 n1] = f160 c lf n0_0 l0_1 n1 := by
  refine (f160_raw c lf n0_0 l0_1 n1).trans ?_
  rfl
/-- loop.example/g00285/laws.szPlaceS -/
def f233_t (c : Orc) (lf : Nat) (l0 : List T) (n1 : Int) : Option (List T) :=
  bif iLt (IntKind.wrap .i64 (n1 - (l0.length : Int))) 0 then
    some [T.i .i64 (-1)]
  else
    some [T.i .i64 (IntKind.wrap .i64 (n1 - (l0.length : Int)))]
def f233 (c : Orc) (lf : Nat) (l0 : List T) (n1 : Int) : Option (List T) := f233_t c lf l0 n1
theorem f233_raw (c : Orc) (lf : Nat) (l0 : List T) (n1 : Int) : funK c env lf 6 fi233 [.sl l0, .i .i64 n1] = f233_t c lf l0 n1 := by kernel_rfl
theorem f233_eq (c : Orc) (lf : Nat) (l0 : List T) (n1 : Int) : funK c env lf 6 fi233 [.sl l0, .i .i64 n1] = f233 c lf l0 n1 := by
  refine (f233_raw c lf l0 n1).trans ?_
  rfl
/-- loop.example/g00285/laws.szMap -/
def f206_t (c : Orc) (lf : Nat) (n0_0 : Int) (l0_1 : List T) (n1 : Int) : Option (List T) :=
  (c 233 [T.sl l0_1, T.i .i64 n1]).bind fun r58 =>
  bif iLt (asI (nth r58 0)) 0 then
    some [T.i .i64 (-1)]
  else
    some [T.i .i64 (asI (nth r58 0))]
def f206 (c : Orc) (lf : Nat) (n0_0 : Int) (l0_1 : List T) (n1 : Int) : Option (List T) := f206_t c lf n0_0 l0_1 n1
theorem f206_raw (c : Orc) (lf : Nat) (n0_0 : Int) (l0_1 : List T) (n1 : Int) : funK c env lf 6 fi206 [.st [.i .i64 n0_0, .sl l0_1], .i .i64 n1] = f206_t c lf n0_0 l0_1 n1 := by kernel_rfl
theorem f206_eq (c : Orc) (lf : Nat) (n0_0 : Int) (l0_1 : List T) (n1 : Int) : funK c env lf 6 fi206 [.st [.i .i64 n0_0, .sl l0_1], .i .i64 n1] = f206 c lf n0_0 l0_1 n1 := by
  refine (f206_raw c lf n0_0 l0_1 n1).trans ?_
  rfl
/-- loop.example/g00285/laws.szMapS, the loop at region 5. -/
def f161_0_s (c : Orc) (lf : Nat) (l0 : List T) (L : Int → Int → Option (List T)) (x65 : Int) (x66 : Int) : Option (List T) :=
  bif iLt x66 (l0.length : Int) then
    bif inR x66 l0.length then
    (c 206 [T.st [T.i .i64 (asI (T.cell (l0.getD x66.toNat T.u) 0)), T.sl (asL (T.cell (l0.getD x66.toNat T.u) 1))], T.i .i64 x65]).bind fun r67 =>
    bif iLt (asI (nth r67 0)) 0 then
      some [T.i .i64 0, T.i .i64 (-1)]
    else
      L (asI (nth r67 0)) (IntKind.wrap .i64 (x66 + 1))
    else none
  else
    some [T.i .i64 1, T.i .i64 x65]
def f161_0_c (l0 : List T) (x65 : Int) (x66 : Int) : CSt := ⟨[.ro 0 true [.i .i64, .sl true [.i .i64, .i .i64]] l0, .i .i64 x65, .i .i64 x66], [.dead, .dead]⟩
theorem f161_0_round (c : Orc) (lf : Nat) (l0 : List T) (L : CSt → Option (List T)) (x65 : Int) (x66 : Int) :
    roundK c env lf 6 fi161 2 5 [] [0, 1, 5] (x161_5_0) L (f161_0_c l0 x65 x66) = f161_0_s c lf l0 (fun x65 x66 => L (f161_0_c l0 x65 x66)) x65 x66 := by kernel_rfl
def f161_0 (c : Orc) (lf : Nat) (l0 : List T) : Nat → Int → Int → Option (List T)
  | 0 => fun _ _ => none
  | n + 1 => fun x65 x66 => f161_0_s c lf l0 (f161_0 c lf l0 n) x65 x66
theorem f161_0_u (c : Orc) (lf : Nat) (l0 : List T) (n : Nat) (x65 : Int) (x66 : Int) : f161_0 c lf l0 (n + 1) x65 x66 = f161_0_s c lf l0 (f161_0 c lf l0 n) x65 x66 := rfl
theorem f161_0_eq (c : Orc) (lf : Nat) (l0 : List T) (n : Nat) (x65 : Int) (x66 : Int) :
    lpK c env lf 6 fi161 2 5 [] [0, 1, 5] (x161_5_0) n (f161_0_c l0 x65 x66) = f161_0 c lf l0 n x65 x66 := by
  induction n generalizing x65 x66 with
  | zero => rfl
  | succ n ih =>
    refine (f161_0_round c lf l0 _ x65 x66).trans ?_
    have e : (fun x65 x66 => lpK c env lf 6 fi161 2 5 [] [0, 1, 5] (x161_5_0) n (f161_0_c l0 x65 x66)) = f161_0 c lf l0 n := by funext x65 x66; exact ih x65 x66
    show f161_0_s c lf l0 (fun x65 x66 => lpK c env lf 6 fi161 2 5 [] [0, 1, 5] (x161_5_0) n (f161_0_c l0 x65 x66)) x65 x66 = _
    rw [e]; rfl
/-- loop.example/g00285/laws.szMapS -/
def f161_t (c : Orc) (lf : Nat) (lp0 : List T → Int → Int → Option (List T)) (l0 : List T) (n1 : Int) : Option (List T) :=
  bif iLt (IntKind.wrap .i64 (n1 - (l0.length : Int))) 0 then
    some [T.i .i64 (-1)]
  else
    (lp0 l0 (IntKind.wrap .i64 (n1 - (l0.length : Int))) 0).bind fun r68 =>
    bif asI (nth r68 0) == 0 then
      some [T.i .i64 (asI (nth r68 1))]
    else
      some [T.i .i64 (asI (nth r68 1))]
def f161 (c : Orc) (lf : Nat) (l0 : List T) (n1 : Int) : Option (List T) := f161_t c lf (fun (l0 : List T) (x65 : Int) (x66 : Int) => f161_0 c lf l0 lf x65 x66) l0 n1
theorem f161_raw (c : Orc) (lf : Nat) (l0 : List T) (n1 : Int) : funK c env lf 6 fi161 [.sl l0, .i .i64 n1] = f161_t c lf (fun (l0 : List T) (x65 : Int) (x66 : Int) => lpK c env lf 6 fi161 2 5 [] [0, 1, 5] (x161_5_0) lf (f161_0_c l0 x65 x66)) l0 n1 := by kernel_rfl
theorem f161_eq (c : Orc) (lf : Nat) (l0 : List T) (n1 : Int) : funK c env lf 6 fi161 [.sl l0, .i .i64 n1] = f161 c lf l0 n1 := by
  refine (f161_raw c lf l0 n1).trans ?_
  have e0 : (fun (l0 : List T) (x65 : Int) (x66 : Int) => lpK c env lf 6 fi161 2 5 [] [0, 1, 5] (x161_5_0) lf (f161_0_c l0 x65 x66)) = (fun (l0 : List T) (x65 : Int) (x66 : Int) => f161_0 c lf l0 lf x65 x66) := by funext l0 x65 x66; exact f161_0_eq c lf l0 lf x65 x66
  rw [e0]; rfl
/-- loop.example/g00285/laws.szImage -/
def f108_t (c : Orc) (lf : Nat) (l0_0 : List T) (n0_1 : Int) (n0_2 : Int) (l0_3 : List T) (l0_4 : List T) (n0_5 : Int) (n0_6 : Int) (n1 : Int) : Option (List T) :=
  (c 107 [T.st [T.sl l0_0, T.i .i64 n0_1], T.i .i64 n1]).bind fun r69 =>
  bif iLt (asI (nth r69 0)) 0 then
    some [T.i .i64 (-1)]
  else
    (c 160 [T.st [T.i .i64 n0_2, T.sl l0_3], T.i .i64 (asI (nth r69 0))]).bind fun r70 =>
    bif iLt (asI (nth r70 0)) 0 then
      some [T.i .i64 (-1)]
    else
      (c 161 [T.sl l0_4, T.i .i64 (asI (nth r70 0))]).bind fun r71 =>
      bif iLt (asI (nth r71 0)) 0 then
        some [T.i .i64 (-1)]
      else
        some [T.i .i64 (asI (nth r71 0))]
def f108 (c : Orc) (lf : Nat) (l0_0 : List T) (n0_1 : Int) (n0_2 : Int) (l0_3 : List T) (l0_4 : List T) (n0_5 : Int) (n0_6 : Int) (n1 : Int) : Option (List T) := f108_t c lf l0_0 n0_1 n0_2 l0_3 l0_4 n0_5 n0_6 n1
theorem f108_raw (c : Orc) (lf : Nat) (l0_0 : List T) (n0_1 : Int) (n0_2 : Int) (l0_3 : List T) (l0_4 : List T) (n0_5 : Int) (n0_6 : Int) (n1 : Int) : funK c env lf 6 fi108 [.st [.sl l0_0, .i .i64 n0_1, .i .i64 n0_2, .sl l0_3, .sl l0_4, .i .i64 n0_5, .i .i64 n0_6], .i .i64 n1] = f108_t c lf l0_0 n0_1 n0_2 l0_3 l0_4 n0_5 n0_6 n1 := by kernel_rfl
theorem f108_eq (c : Orc) (lf : Nat) (l0_0 : List T) (n0_1 : Int) (n0_2 : Int) (l0_3 : List T) (l0_4 : List T) (n0_5 : Int) (n0_6 : Int) (n1 : Int) : funK c env lf 6 fi108 [.st [.sl l0_0, .i .i64 n0_1, .i .i64 n0_2, .sl l0_3, .sl l0_4, .i .i64 n0_5, .i .i64 n0_6], .i .i64 n1] = f108 c lf l0_0 n0_1 n0_2 l0_3 l0_4 n0_5 n0_6 n1 := by
  refine (f108_raw c lf l0_0 n0_1 n0_2 l0_3 l0_4 n0_5 n0_6 n1).trans ?_
  rfl
/-- loop.example/g00285/laws.szPage -/
def f252_t (c : Orc) (lf : Nat) (b0_0 : Bool) (l0_1 : List T) (n1 : Int) : Option (List T) :=
  (c 259 [T.sl l0_1, T.i .i64 n1]).bind fun r72 =>
  bif iLt (asI (nth r72 0)) 0 then
    some [T.i .i64 (-1)]
  else
    some [T.i .i64 (asI (nth r72 0))]
def f252 (c : Orc) (lf : Nat) (b0_0 : Bool) (l0_1 : List T) (n1 : Int) : Option (List T) := f252_t c lf b0_0 l0_1 n1
theorem f252_raw (c : Orc) (lf : Nat) (b0_0 : Bool) (l0_1 : List T) (n1 : Int) : funK c env lf 6 fi252 [.st [.b b0_0, .sl l0_1], .i .i64 n1] = f252_t c lf b0_0 l0_1 n1 := by kernel_rfl
theorem f252_eq (c : Orc) (lf : Nat) (b0_0 : Bool) (l0_1 : List T) (n1 : Int) : funK c env lf 6 fi252 [.st [.b b0_0, .sl l0_1], .i .i64 n1] = f252 c lf b0_0 l0_1 n1 := by
  refine (f252_raw c lf b0_0 l0_1 n1).trans ?_
  rfl
/-- loop.example/g00285/laws.szPageS, the loop at region 5. -/
def f242_0_s (c : Orc) (lf : Nat) (l0 : List T) (L : Int → Int → Option (List T)) (x79 : Int) (x80 : Int) : Option (List T) :=
  bif iLt x80 (l0.length : Int) then
    bif inR x80 l0.length then
    (c 252 [T.st [T.b (asB (T.cell (l0.getD x80.toNat T.u) 0)), T.sl (asL (T.cell (l0.getD x80.toNat T.u) 1))], T.i .i64 x79]).bind fun r81 =>
    bif iLt (asI (nth r81 0)) 0 then
      some [T.i .i64 0, T.i .i64 (-1)]
    else
      L (asI (nth r81 0)) (IntKind.wrap .i64 (x80 + 1))
    else none
  else
    some [T.i .i64 1, T.i .i64 x79]
def f242_0_c (l0 : List T) (x79 : Int) (x80 : Int) : CSt := ⟨[.ro 0 true [.b, .sl false [.i .u8]] l0, .i .i64 x79, .i .i64 x80], [.dead, .dead]⟩
theorem f242_0_round (c : Orc) (lf : Nat) (l0 : List T) (L : CSt → Option (List T)) (x79 : Int) (x80 : Int) :
    roundK c env lf 6 fi242 2 5 [] [0, 1, 5] (x242_5_0) L (f242_0_c l0 x79 x80) = f242_0_s c lf l0 (fun x79 x80 => L (f242_0_c l0 x79 x80)) x79 x80 := by kernel_rfl
def f242_0 (c : Orc) (lf : Nat) (l0 : List T) : Nat → Int → Int → Option (List T)
  | 0 => fun _ _ => none
  | n + 1 => fun x79 x80 => f242_0_s c lf l0 (f242_0 c lf l0 n) x79 x80
theorem f242_0_u (c : Orc) (lf : Nat) (l0 : List T) (n : Nat) (x79 : Int) (x80 : Int) : f242_0 c lf l0 (n + 1) x79 x80 = f242_0_s c lf l0 (f242_0 c lf l0 n) x79 x80 := rfl
theorem f242_0_eq (c : Orc) (lf : Nat) (l0 : List T) (n : Nat) (x79 : Int) (x80 : Int) :
    lpK c env lf 6 fi242 2 5 [] [0, 1, 5] (x242_5_0) n (f242_0_c l0 x79 x80) = f242_0 c lf l0 n x79 x80 := by
  induction n generalizing x79 x80 with
  | zero => rfl
  | succ n ih =>
    refine (f242_0_round c lf l0 _ x79 x80).trans ?_
    have e : (fun x79 x80 => lpK c env lf 6 fi242 2 5 [] [0, 1, 5] (x242_5_0) n (f242_0_c l0 x79 x80)) = f242_0 c lf l0 n := by funext x79 x80; exact ih x79 x80
    show f242_0_s c lf l0 (fun x79 x80 => lpK c env lf 6 fi242 2 5 [] [0, 1, 5] (x242_5_0) n (f242_0_c l0 x79 x80)) x79 x80 = _
    rw [e]; rfl
/-- loop.example/g00285/laws.szPageS -/
def f242_t (c : Orc) (lf : Nat) (lp0 : List T → Int → Int → Option (List T)) (l0 : List T) (n1 : Int) : Option (List T) :=
  bif iLt (IntKind.wrap .i64 (n1 - (l0.length : Int))) 0 then
    some [T.i .i64 (-1)]
  else
    (lp0 l0 (IntKind.wrap .i64 (n1 - (l0.length : Int))) 0).bind fun r82 =>
    bif asI (nth r82 0) == 0 then
      some [T.i .i64 (asI (nth r82 1))]
    else
      some [T.i .i64 (asI (nth r82 1))]
def f242 (c : Orc) (lf : Nat) (l0 : List T) (n1 : Int) : Option (List T) := f242_t c lf (fun (l0 : List T) (x79 : Int) (x80 : Int) => f242_0 c lf l0 lf x79 x80) l0 n1
theorem f242_raw (c : Orc) (lf : Nat) (l0 : List T) (n1 : Int) : funK c env lf 6 fi242 [.sl l0, .i .i64 n1] = f242_t c lf (fun (l0 : List T) (x79 : Int) (x80 : Int) => lpK c env lf 6 fi242 2 5 [] [0, 1, 5] (x242_5_0) lf (f242_0_c l0 x79 x80)) l0 n1 := by kernel_rfl
theorem f242_eq (c : Orc) (lf : Nat) (l0 : List T) (n1 : Int) : funK c env lf 6 fi242 [.sl l0, .i .i64 n1] = f242 c lf l0 n1 := by
  refine (f242_raw c lf l0 n1).trans ?_
  have e0 : (fun (l0 : List T) (x79 : Int) (x80 : Int) => lpK c env lf 6 fi242 2 5 [] [0, 1, 5] (x242_5_0) lf (f242_0_c l0 x79 x80)) = (fun (l0 : List T) (x79 : Int) (x80 : Int) => f242_0 c lf l0 lf x79 x80) := by funext l0 x79 x80; exact f242_0_eq c lf l0 lf x79 x80
  rw [e0]; rfl
/-- loop.example/g00285/laws.szBlock -/
def f219_t (c : Orc) (lf : Nat) (l0_0 : List T) (n0_1 : Int) (b0_2 : Bool) (n1 : Int) : Option (List T) :=
  (c 242 [T.sl l0_0, T.i .i64 n1]).bind fun r83 =>
  bif iLt (asI (nth r83 0)) 0 then
    some [T.i .i64 (-1)]
  else
    some [T.i .i64 (asI (nth r83 0))]
def f219 (c : Orc) (lf : Nat) (l0_0 : List T) (n0_1 : Int) (b0_2 : Bool) (n1 : Int) : Option (List T) := f219_t c lf l0_0 n0_1 b0_2 n1
theorem f219_raw (c : Orc) (lf : Nat) (l0_0 : List T) (n0_1 : Int) (b0_2 : Bool) (n1 : Int) : funK c env lf 6 fi219 [.st [.sl l0_0, .i .i64 n0_1, .b b0_2], .i .i64 n1] = f219_t c lf l0_0 n0_1 b0_2 n1 := by kernel_rfl
theorem f219_eq (c : Orc) (lf : Nat) (l0_0 : List T) (n0_1 : Int) (b0_2 : Bool) (n1 : Int) : funK c env lf 6 fi219 [.st [.sl l0_0, .i .i64 n0_1, .b b0_2], .i .i64 n1] = f219 c lf l0_0 n0_1 b0_2 n1 := by
  refine (f219_raw c lf l0_0 n0_1 b0_2 n1).trans ?_
  rfl
/-- loop.example/g00285/laws.szBlockS, the loop at region 5. -/
def f175_0_s (c : Orc) (lf : Nat) (l0 : List T) (L : Int → Int → Option (List T)) (x90 : Int) (x91 : Int) : Option (List T) :=
  bif iLt x91 (l0.length : Int) then
    bif inR x91 l0.length then
    (c 219 [T.st [T.sl (asL (T.cell (l0.getD x91.toNat T.u) 0)), T.i .i64 (asI (T.cell (l0.getD x91.toNat T.u) 1)), T.b (asB (T.cell (l0.getD x91.toNat T.u) 2))], T.i .i64 x90]).bind fun r92 =>
    bif iLt (asI (nth r92 0)) 0 then
      some [T.i .i64 0, T.i .i64 (-1)]
    else
      L (asI (nth r92 0)) (IntKind.wrap .i64 (x91 + 1))
    else none
  else
    some [T.i .i64 1, T.i .i64 x90]
def f175_0_c (l0 : List T) (x90 : Int) (x91 : Int) : CSt := ⟨[.ro 0 true [.sl true [.b, .sl false [.i .u8]], .i .i64, .b] l0, .i .i64 x90, .i .i64 x91], [.dead, .dead]⟩
theorem f175_0_round (c : Orc) (lf : Nat) (l0 : List T) (L : CSt → Option (List T)) (x90 : Int) (x91 : Int) :
    roundK c env lf 6 fi175 2 5 [] [0, 1, 5] (x175_5_0) L (f175_0_c l0 x90 x91) = f175_0_s c lf l0 (fun x90 x91 => L (f175_0_c l0 x90 x91)) x90 x91 := by kernel_rfl
def f175_0 (c : Orc) (lf : Nat) (l0 : List T) : Nat → Int → Int → Option (List T)
  | 0 => fun _ _ => none
  | n + 1 => fun x90 x91 => f175_0_s c lf l0 (f175_0 c lf l0 n) x90 x91
theorem f175_0_u (c : Orc) (lf : Nat) (l0 : List T) (n : Nat) (x90 : Int) (x91 : Int) : f175_0 c lf l0 (n + 1) x90 x91 = f175_0_s c lf l0 (f175_0 c lf l0 n) x90 x91 := rfl
theorem f175_0_eq (c : Orc) (lf : Nat) (l0 : List T) (n : Nat) (x90 : Int) (x91 : Int) :
    lpK c env lf 6 fi175 2 5 [] [0, 1, 5] (x175_5_0) n (f175_0_c l0 x90 x91) = f175_0 c lf l0 n x90 x91 := by
  induction n generalizing x90 x91 with
  | zero => rfl
  | succ n ih =>
    refine (f175_0_round c lf l0 _ x90 x91).trans ?_
    have e : (fun x90 x91 => lpK c env lf 6 fi175 2 5 [] [0, 1, 5] (x175_5_0) n (f175_0_c l0 x90 x91)) = f175_0 c lf l0 n := by funext x90 x91; exact ih x90 x91
    show f175_0_s c lf l0 (fun x90 x91 => lpK c env lf 6 fi175 2 5 [] [0, 1, 5] (x175_5_0) n (f175_0_c l0 x90 x91)) x90 x91 = _
    rw [e]; rfl
/-- loop.example/g00285/laws.szBlockS -/
def f175_t (c : Orc) (lf : Nat) (lp0 : List T → Int → Int → Option (List T)) (l0 : List T) (n1 : Int) : Option (List T) :=
  bif iLt (IntKind.wrap .i64 (n1 - (l0.length : Int))) 0 then
    some [T.i .i64 (-1)]
  else
    (lp0 l0 (IntKind.wrap .i64 (n1 - (l0.length : Int))) 0).bind fun r93 =>
    bif asI (nth r93 0) == 0 then
      some [T.i .i64 (asI (nth r93 1))]
    else
      some [T.i .i64 (asI (nth r93 1))]
def f175 (c : Orc) (lf : Nat) (l0 : List T) (n1 : Int) : Option (List T) := f175_t c lf (fun (l0 : List T) (x90 : Int) (x91 : Int) => f175_0 c lf l0 lf x90 x91) l0 n1
theorem f175_raw (c : Orc) (lf : Nat) (l0 : List T) (n1 : Int) : funK c env lf 6 fi175 [.sl l0, .i .i64 n1] = f175_t c lf (fun (l0 : List T) (x90 : Int) (x91 : Int) => lpK c env lf 6 fi175 2 5 [] [0, 1, 5] (x175_5_0) lf (f175_0_c l0 x90 x91)) l0 n1 := by kernel_rfl
theorem f175_eq (c : Orc) (lf : Nat) (l0 : List T) (n1 : Int) : funK c env lf 6 fi175 [.sl l0, .i .i64 n1] = f175 c lf l0 n1 := by
  refine (f175_raw c lf l0 n1).trans ?_
  have e0 : (fun (l0 : List T) (x90 : Int) (x91 : Int) => lpK c env lf 6 fi175 2 5 [] [0, 1, 5] (x175_5_0) lf (f175_0_c l0 x90 x91)) = (fun (l0 : List T) (x90 : Int) (x91 : Int) => f175_0 c lf l0 lf x90 x91) := by funext l0 x90 x91; exact f175_0_eq c lf l0 lf x90 x91
  rw [e0]; rfl
/-- loop.example/g00285/laws.szChip -/
def f122_t (c : Orc) (lf : Nat) (l0_0 : List T) (n1 : Int) : Option (List T) :=
  (c 175 [T.sl l0_0, T.i .i64 n1]).bind fun r94 =>
  bif iLt (asI (nth r94 0)) 0 then
    some [T.i .i64 (-1)]
  else
    some [T.i .i64 (asI (nth r94 0))]
def f122 (c : Orc) (lf : Nat) (l0_0 : List T) (n1 : Int) : Option (List T) := f122_t c lf l0_0 n1
theorem f122_raw (c : Orc) (lf : Nat) (l0_0 : List T) (n1 : Int) : funK c env lf 6 fi122 [.st [.sl l0_0], .i .i64 n1] = f122_t c lf l0_0 n1 := by kernel_rfl
theorem f122_eq (c : Orc) (lf : Nat) (l0_0 : List T) (n1 : Int) : funK c env lf 6 fi122 [.st [.sl l0_0], .i .i64 n1] = f122 c lf l0_0 n1 := by
  refine (f122_raw c lf l0_0 n1).trans ?_
  rfl
/-- loop.example/g00285/laws.szFaultS -/
def f123_t (c : Orc) (lf : Nat) (l0 : List T) (n1 : Int) : Option (List T) :=
  bif iLt (IntKind.wrap .i64 (n1 - (l0.length : Int))) 0 then
    some [T.i .i64 (-1)]
  else
    some [T.i .i64 (IntKind.wrap .i64 (n1 - (l0.length : Int)))]
def f123 (c : Orc) (lf : Nat) (l0 : List T) (n1 : Int) : Option (List T) := f123_t c lf l0 n1
theorem f123_raw (c : Orc) (lf : Nat) (l0 : List T) (n1 : Int) : funK c env lf 6 fi123 [.sl l0, .i .i64 n1] = f123_t c lf l0 n1 := by kernel_rfl
theorem f123_eq (c : Orc) (lf : Nat) (l0 : List T) (n1 : Int) : funK c env lf 6 fi123 [.sl l0, .i .i64 n1] = f123 c lf l0 n1 := by
  refine (f123_raw c lf l0 n1).trans ?_
  rfl
/-- loop.example/g00285/laws.szDev -/
def f69_t (c : Orc) (lf : Nat) (l0_0 : List T) (n0_1 : Int) (l0_2 : List T) (b0_3 : Bool) (n1 : Int) : Option (List T) :=
  (c 122 [T.st [T.sl l0_0], T.i .i64 n1]).bind fun r95 =>
  bif iLt (asI (nth r95 0)) 0 then
    some [T.i .i64 (-1)]
  else
    (c 123 [T.sl l0_2, T.i .i64 (asI (nth r95 0))]).bind fun r96 =>
    bif iLt (asI (nth r96 0)) 0 then
      some [T.i .i64 (-1)]
    else
      some [T.i .i64 (asI (nth r96 0))]
def f69 (c : Orc) (lf : Nat) (l0_0 : List T) (n0_1 : Int) (l0_2 : List T) (b0_3 : Bool) (n1 : Int) : Option (List T) := f69_t c lf l0_0 n0_1 l0_2 b0_3 n1
theorem f69_raw (c : Orc) (lf : Nat) (l0_0 : List T) (n0_1 : Int) (l0_2 : List T) (b0_3 : Bool) (n1 : Int) : funK c env lf 6 fi69 [.st [.sl l0_0, .i .i64 n0_1, .sl l0_2, .b b0_3], .i .i64 n1] = f69_t c lf l0_0 n0_1 l0_2 b0_3 n1 := by kernel_rfl
theorem f69_eq (c : Orc) (lf : Nat) (l0_0 : List T) (n0_1 : Int) (l0_2 : List T) (b0_3 : Bool) (n1 : Int) : funK c env lf 6 fi69 [.st [.sl l0_0, .i .i64 n0_1, .sl l0_2, .b b0_3], .i .i64 n1] = f69 c lf l0_0 n0_1 l0_2 b0_3 n1 := by
  refine (f69_raw c lf l0_0 n0_1 l0_2 b0_3 n1).trans ?_
  rfl
/-- loop.example/g00285/laws.szLog -/
def f18_t (c : Orc) (lf : Nat) (l0_0 : List T) (n0_1 : Int) (l0_2 : List T) (b0_3 : Bool) (n0_4 : Int) (n1 : Int) : Option (List T) :=
  (c 69 [T.st [T.sl l0_0, T.i .i64 n0_1, T.sl l0_2, T.b b0_3], T.i .i64 n1]).bind fun r97 =>
  bif iLt (asI (nth r97 0)) 0 then
    some [T.i .i64 (-1)]
  else
    some [T.i .i64 (asI (nth r97 0))]
def f18 (c : Orc) (lf : Nat) (l0_0 : List T) (n0_1 : Int) (l0_2 : List T) (b0_3 : Bool) (n0_4 : Int) (n1 : Int) : Option (List T) := f18_t c lf l0_0 n0_1 l0_2 b0_3 n0_4 n1
theorem f18_raw (c : Orc) (lf : Nat) (l0_0 : List T) (n0_1 : Int) (l0_2 : List T) (b0_3 : Bool) (n0_4 : Int) (n1 : Int) : funK c env lf 6 fi18 [.st [.sl l0_0, .i .i64 n0_1, .sl l0_2, .b b0_3, .i .i64 n0_4], .i .i64 n1] = f18_t c lf l0_0 n0_1 l0_2 b0_3 n0_4 n1 := by kernel_rfl
theorem f18_eq (c : Orc) (lf : Nat) (l0_0 : List T) (n0_1 : Int) (l0_2 : List T) (b0_3 : Bool) (n0_4 : Int) (n1 : Int) : funK c env lf 6 fi18 [.st [.sl l0_0, .i .i64 n0_1, .sl l0_2, .b b0_3, .i .i64 n0_4], .i .i64 n1] = f18 c lf l0_0 n0_1 l0_2 b0_3 n0_4 n1 := by
  refine (f18_raw c lf l0_0 n0_1 l0_2 b0_3 n0_4 n1).trans ?_
  rfl
/-- loop.example/g00285/laws.szEng -/
def f53_t (c : Orc) (lf : Nat) (l0_0 : List T) (n0_1 : Int) (l0_2 : List T) (n0_3 : Int) (n0_4 : Int) (l0_5 : List T) (l0_6 : List T) (n0_7 : Int) (n0_8 : Int) (l0_9 : List T) (n0_10 : Int) (l0_11 : List T) (b0_12 : Bool) (n0_13 : Int) (n1 : Int) : Option (List T) :=
  (c 107 [T.st [T.sl l0_0, T.i .i64 n0_1], T.i .i64 n1]).bind fun r98 =>
  bif iLt (asI (nth r98 0)) 0 then
    some [T.i .i64 (-1)]
  else
    (c 108 [T.st [T.sl l0_2, T.i .i64 n0_3, T.i .i64 n0_4, T.sl l0_5, T.sl l0_6, T.i .i64 n0_7, T.i .i64 n0_8], T.i .i64 (asI (nth r98 0))]).bind fun r99 =>
    bif iLt (asI (nth r99 0)) 0 then
      some [T.i .i64 (-1)]
    else
      (c 18 [T.st [T.sl l0_9, T.i .i64 n0_10, T.sl l0_11, T.b b0_12, T.i .i64 n0_13], T.i .i64 (asI (nth r99 0))]).bind fun r100 =>
      bif iLt (asI (nth r100 0)) 0 then
        some [T.i .i64 (-1)]
      else
        some [T.i .i64 (asI (nth r100 0))]
def f53 (c : Orc) (lf : Nat) (l0_0 : List T) (n0_1 : Int) (l0_2 : List T) (n0_3 : Int) (n0_4 : Int) (l0_5 : List T) (l0_6 : List T) (n0_7 : Int) (n0_8 : Int) (l0_9 : List T) (n0_10 : Int) (l0_11 : List T) (b0_12 : Bool) (n0_13 : Int) (n1 : Int) : Option (List T) := f53_t c lf l0_0 n0_1 l0_2 n0_3 n0_4 l0_5 l0_6 n0_7 n0_8 l0_9 n0_10 l0_11 b0_12 n0_13 n1
theorem f53_raw (c : Orc) (lf : Nat) (l0_0 : List T) (n0_1 : Int) (l0_2 : List T) (n0_3 : Int) (n0_4 : Int) (l0_5 : List T) (l0_6 : List T) (n0_7 : Int) (n0_8 : Int) (l0_9 : List T) (n0_10 : Int) (l0_11 : List T) (b0_12 : Bool) (n0_13 : Int) (n1 : Int) : funK c env lf 6 fi53 [.st [.sl l0_0, .i .i64 n0_1, .sl l0_2, .i .i64 n0_3, .i .i64 n0_4, .sl l0_5, .sl l0_6, .i .i64 n0_7, .i .i64 n0_8, .sl l0_9, .i .i64 n0_10, .sl l0_11, .b b0_12, .i .i64 n0_13], .i .i64 n1] = f53_t c lf l0_0 n0_1 l0_2 n0_3 n0_4 l0_5 l0_6 n0_7 n0_8 l0_9 n0_10 l0_11 b0_12 n0_13 n1 := by kernel_rfl
theorem f53_eq (c : Orc) (lf : Nat) (l0_0 : List T) (n0_1 : Int) (l0_2 : List T) (n0_3 : Int) (n0_4 : Int) (l0_5 : List T) (l0_6 : List T) (n0_7 : Int) (n0_8 : Int) (l0_9 : List T) (n0_10 : Int) (l0_11 : List T) (b0_12 : Bool) (n0_13 : Int) (n1 : Int) : funK c env lf 6 fi53 [.st [.sl l0_0, .i .i64 n0_1, .sl l0_2, .i .i64 n0_3, .i .i64 n0_4, .sl l0_5, .sl l0_6, .i .i64 n0_7, .i .i64 n0_8, .sl l0_9, .i .i64 n0_10, .sl l0_11, .b b0_12, .i .i64 n0_13], .i .i64 n1] = f53 c lf l0_0 n0_1 l0_2 n0_3 n0_4 l0_5 l0_6 n0_7 n0_8 l0_9 n0_10 l0_11 b0_12 n0_13 n1 := by
  refine (f53_raw c lf l0_0 n0_1 l0_2 n0_3 n0_4 l0_5 l0_6 n0_7 n0_8 l0_9 n0_10 l0_11 b0_12 n0_13 n1).trans ?_
  rfl
/-- loop.example/g00285/laws.toByteS, the loop at region 3. -/
def f47_0_s (c : Orc) (lf : Nat) (l0 : List T) (L : Int → List T → Option (List T)) (x104 : Int) (x105 : List T) : Option (List T) :=
  bif iLt x104 (l0.length : Int) then
    bif inR x104 l0.length then
    bif inR x104 x105.length then
    L (IntKind.wrap .i64 (x104 + 1)) (x105.set x104.toNat (T.i .u8 (asI (l0.getD x104.toNat T.u))))
    else none
    else none
  else
    some [T.i .i64 0, T.sl x105]
def f47_0_c (l0 : List T) (x104 : Int) (x105 : List T) : CSt := ⟨[.ro 0 false [.i .u8] l0, .rf 1 [] 0 none, .i .i64 x104], [.dead, .row false [.i .u8] x105 0 false]⟩
theorem f47_0_round (c : Orc) (lf : Nat) (l0 : List T) (L : CSt → Option (List T)) (x104 : Int) (x105 : List T) :
    roundK c env lf 6 fi47 1 3 [] [0, 3, 4] (x47_3_0) L (f47_0_c l0 x104 x105) = f47_0_s c lf l0 (fun x104 x105 => L (f47_0_c l0 x104 x105)) x104 x105 := by kernel_rfl
def f47_0 (c : Orc) (lf : Nat) (l0 : List T) : Nat → Int → List T → Option (List T)
  | 0 => fun _ _ => none
  | n + 1 => fun x104 x105 => f47_0_s c lf l0 (f47_0 c lf l0 n) x104 x105
theorem f47_0_u (c : Orc) (lf : Nat) (l0 : List T) (n : Nat) (x104 : Int) (x105 : List T) : f47_0 c lf l0 (n + 1) x104 x105 = f47_0_s c lf l0 (f47_0 c lf l0 n) x104 x105 := rfl
theorem f47_0_eq (c : Orc) (lf : Nat) (l0 : List T) (n : Nat) (x104 : Int) (x105 : List T) :
    lpK c env lf 6 fi47 1 3 [] [0, 3, 4] (x47_3_0) n (f47_0_c l0 x104 x105) = f47_0 c lf l0 n x104 x105 := by
  induction n generalizing x104 x105 with
  | zero => rfl
  | succ n ih =>
    refine (f47_0_round c lf l0 _ x104 x105).trans ?_
    have e : (fun x104 x105 => lpK c env lf 6 fi47 1 3 [] [0, 3, 4] (x47_3_0) n (f47_0_c l0 x104 x105)) = f47_0 c lf l0 n := by funext x104 x105; exact ih x104 x105
    show f47_0_s c lf l0 (fun x104 x105 => lpK c env lf 6 fi47 1 3 [] [0, 3, 4] (x47_3_0) n (f47_0_c l0 x104 x105)) x104 x105 = _
    rw [e]; rfl
/-- loop.example/g00285/laws.toByteS -/
def f47_t (c : Orc) (lf : Nat) (lp0 : List T → Int → List T → Option (List T)) (l0 : List T) : Option (List T) :=
  bif iLe 0 (l0.length : Int) && iLe (l0.length : Int) (LIM : Int) && ((l0.length : Int) == (l0.length : Int)) then
  (lp0 l0 0 (List.replicate (l0.length : Int).toNat (T.i .u8 0))).bind fun r106 =>
  some [T.sl (asL (nth r106 1))]
  else none
def f47 (c : Orc) (lf : Nat) (l0 : List T) : Option (List T) := f47_t c lf (fun (l0 : List T) (x104 : Int) (x105 : List T) => f47_0 c lf l0 lf x104 x105) l0
theorem f47_raw (c : Orc) (lf : Nat) (l0 : List T) : funK c env lf 6 fi47 [.sl l0] = f47_t c lf (fun (l0 : List T) (x104 : Int) (x105 : List T) => lpK c env lf 6 fi47 1 3 [] [0, 3, 4] (x47_3_0) lf (f47_0_c l0 x104 x105)) l0 := by kernel_rfl
theorem f47_eq (c : Orc) (lf : Nat) (l0 : List T) : funK c env lf 6 fi47 [.sl l0] = f47 c lf l0 := by
  refine (f47_raw c lf l0).trans ?_
  have e0 : (fun (l0 : List T) (x104 : Int) (x105 : List T) => lpK c env lf 6 fi47 1 3 [] [0, 3, 4] (x47_3_0) lf (f47_0_c l0 x104 x105)) = (fun (l0 : List T) (x104 : Int) (x105 : List T) => f47_0 c lf l0 lf x104 x105) := by funext l0 x104 x105; exact f47_0_eq c lf l0 lf x104 x105
  rw [e0]; rfl
/-- loop.example/g00285/laws.toEnt -/
def f268_t (c : Orc) (lf : Nat) (s0_0 : ByteArray) (n0_1 : Int) : Option (List T) :=
  some [T.st [T.s s0_0, T.i .i64 n0_1]]
def f268 (c : Orc) (lf : Nat) (s0_0 : ByteArray) (n0_1 : Int) : Option (List T) := f268_t c lf s0_0 n0_1
theorem f268_raw (c : Orc) (lf : Nat) (s0_0 : ByteArray) (n0_1 : Int) : funK c env lf 6 fi268 [.st [.s s0_0, .i .i64 n0_1]] = f268_t c lf s0_0 n0_1 := by kernel_rfl
theorem f268_eq (c : Orc) (lf : Nat) (s0_0 : ByteArray) (n0_1 : Int) : funK c env lf 6 fi268 [.st [.s s0_0, .i .i64 n0_1]] = f268 c lf s0_0 n0_1 := by
  refine (f268_raw c lf s0_0 n0_1).trans ?_
  rfl
/-- loop.example/g00285/laws.toEntS, the loop at region 3. -/
def f262_0_s (c : Orc) (lf : Nat) (l0 : List T) (L : Int → List T → Option (List T)) (x113 : Int) (x114 : List T) : Option (List T) :=
  bif iLt x113 (l0.length : Int) then
    bif inR x113 l0.length then
    (c 268 [T.st [T.s (asS (T.cell (l0.getD x113.toNat T.u) 0)), T.i .i64 (asI (T.cell (l0.getD x113.toNat T.u) 1))]]).bind fun r115 =>
    bif inR x113 x114.length then
    L (IntKind.wrap .i64 (x113 + 1)) (x114.set x113.toNat (T.st [T.s (asS (T.cell (nth r115 0) 0)), T.i .i64 (asI (T.cell (nth r115 0) 1))]))
    else none
    else none
  else
    some [T.i .i64 0, T.sl x114]
def f262_0_c (l0 : List T) (x113 : Int) (x114 : List T) : CSt := ⟨[.ro 0 true [.s, .i .i64] l0, .rf 1 [] 0 none, .i .i64 x113], [.dead, .row true [.s, .i .i64] x114 0 false]⟩
theorem f262_0_round (c : Orc) (lf : Nat) (l0 : List T) (L : CSt → Option (List T)) (x113 : Int) (x114 : List T) :
    roundK c env lf 6 fi262 1 3 [] [0, 3, 4] (x262_3_0) L (f262_0_c l0 x113 x114) = f262_0_s c lf l0 (fun x113 x114 => L (f262_0_c l0 x113 x114)) x113 x114 := by kernel_rfl
def f262_0 (c : Orc) (lf : Nat) (l0 : List T) : Nat → Int → List T → Option (List T)
  | 0 => fun _ _ => none
  | n + 1 => fun x113 x114 => f262_0_s c lf l0 (f262_0 c lf l0 n) x113 x114
theorem f262_0_u (c : Orc) (lf : Nat) (l0 : List T) (n : Nat) (x113 : Int) (x114 : List T) : f262_0 c lf l0 (n + 1) x113 x114 = f262_0_s c lf l0 (f262_0 c lf l0 n) x113 x114 := rfl
theorem f262_0_eq (c : Orc) (lf : Nat) (l0 : List T) (n : Nat) (x113 : Int) (x114 : List T) :
    lpK c env lf 6 fi262 1 3 [] [0, 3, 4] (x262_3_0) n (f262_0_c l0 x113 x114) = f262_0 c lf l0 n x113 x114 := by
  induction n generalizing x113 x114 with
  | zero => rfl
  | succ n ih =>
    refine (f262_0_round c lf l0 _ x113 x114).trans ?_
    have e : (fun x113 x114 => lpK c env lf 6 fi262 1 3 [] [0, 3, 4] (x262_3_0) n (f262_0_c l0 x113 x114)) = f262_0 c lf l0 n := by funext x113 x114; exact ih x113 x114
    show f262_0_s c lf l0 (fun x113 x114 => lpK c env lf 6 fi262 1 3 [] [0, 3, 4] (x262_3_0) n (f262_0_c l0 x113 x114)) x113 x114 = _
    rw [e]; rfl
/-- loop.example/g00285/laws.toEntS -/
def f262_t (c : Orc) (lf : Nat) (lp0 : List T → Int → List T → Option (List T)) (l0 : List T) : Option (List T) :=
  bif iLe 0 (l0.length : Int) && iLe (l0.length : Int) (LIM : Int) && ((l0.length : Int) == (l0.length : Int)) then
  (lp0 l0 0 (List.replicate (l0.length : Int).toNat (T.st [T.s (⟨#[]⟩ : ByteArray), T.i .i64 0]))).bind fun r116 =>
  some [T.sl (asL (nth r116 1))]
  else none
def f262 (c : Orc) (lf : Nat) (l0 : List T) : Option (List T) := f262_t c lf (fun (l0 : List T) (x113 : Int) (x114 : List T) => f262_0 c lf l0 lf x113 x114) l0
theorem f262_raw (c : Orc) (lf : Nat) (l0 : List T) : funK c env lf 6 fi262 [.sl l0] = f262_t c lf (fun (l0 : List T) (x113 : Int) (x114 : List T) => lpK c env lf 6 fi262 1 3 [] [0, 3, 4] (x262_3_0) lf (f262_0_c l0 x113 x114)) l0 := by kernel_rfl
theorem f262_eq (c : Orc) (lf : Nat) (l0 : List T) : funK c env lf 6 fi262 [.sl l0] = f262 c lf l0 := by
  refine (f262_raw c lf l0).trans ?_
  have e0 : (fun (l0 : List T) (x113 : Int) (x114 : List T) => lpK c env lf 6 fi262 1 3 [] [0, 3, 4] (x262_3_0) lf (f262_0_c l0 x113 x114)) = (fun (l0 : List T) (x113 : Int) (x114 : List T) => f262_0 c lf l0 lf x113 x114) := by funext l0 x113 x114; exact f262_0_eq c lf l0 lf x113 x114
  rw [e0]; rfl
/-- loop.example/g00285/laws.toAttr -/
def f269_t (c : Orc) (lf : Nat) (s0_0 : ByteArray) (s0_1 : ByteArray) : Option (List T) :=
  some [T.st [T.s s0_0, T.s s0_1]]
def f269 (c : Orc) (lf : Nat) (s0_0 : ByteArray) (s0_1 : ByteArray) : Option (List T) := f269_t c lf s0_0 s0_1
theorem f269_raw (c : Orc) (lf : Nat) (s0_0 : ByteArray) (s0_1 : ByteArray) : funK c env lf 6 fi269 [.st [.s s0_0, .s s0_1]] = f269_t c lf s0_0 s0_1 := by kernel_rfl
theorem f269_eq (c : Orc) (lf : Nat) (s0_0 : ByteArray) (s0_1 : ByteArray) : funK c env lf 6 fi269 [.st [.s s0_0, .s s0_1]] = f269 c lf s0_0 s0_1 := by
  refine (f269_raw c lf s0_0 s0_1).trans ?_
  rfl
/-- loop.example/g00285/laws.toAttrS, the loop at region 3. -/
def f263_0_s (c : Orc) (lf : Nat) (l0 : List T) (L : Int → List T → Option (List T)) (x123 : Int) (x124 : List T) : Option (List T) :=
  bif iLt x123 (l0.length : Int) then
    bif inR x123 l0.length then
    (c 269 [T.st [T.s (asS (T.cell (l0.getD x123.toNat T.u) 0)), T.s (asS (T.cell (l0.getD x123.toNat T.u) 1))]]).bind fun r125 =>
    bif inR x123 x124.length then
    L (IntKind.wrap .i64 (x123 + 1)) (x124.set x123.toNat (T.st [T.s (asS (T.cell (nth r125 0) 0)), T.s (asS (T.cell (nth r125 0) 1))]))
    else none
    else none
  else
    some [T.i .i64 0, T.sl x124]
def f263_0_c (l0 : List T) (x123 : Int) (x124 : List T) : CSt := ⟨[.ro 0 true [.s, .s] l0, .rf 1 [] 0 none, .i .i64 x123], [.dead, .row true [.s, .s] x124 0 false]⟩
theorem f263_0_round (c : Orc) (lf : Nat) (l0 : List T) (L : CSt → Option (List T)) (x123 : Int) (x124 : List T) :
    roundK c env lf 6 fi263 1 3 [] [0, 3, 4] (x263_3_0) L (f263_0_c l0 x123 x124) = f263_0_s c lf l0 (fun x123 x124 => L (f263_0_c l0 x123 x124)) x123 x124 := by kernel_rfl
def f263_0 (c : Orc) (lf : Nat) (l0 : List T) : Nat → Int → List T → Option (List T)
  | 0 => fun _ _ => none
  | n + 1 => fun x123 x124 => f263_0_s c lf l0 (f263_0 c lf l0 n) x123 x124
theorem f263_0_u (c : Orc) (lf : Nat) (l0 : List T) (n : Nat) (x123 : Int) (x124 : List T) : f263_0 c lf l0 (n + 1) x123 x124 = f263_0_s c lf l0 (f263_0 c lf l0 n) x123 x124 := rfl
theorem f263_0_eq (c : Orc) (lf : Nat) (l0 : List T) (n : Nat) (x123 : Int) (x124 : List T) :
    lpK c env lf 6 fi263 1 3 [] [0, 3, 4] (x263_3_0) n (f263_0_c l0 x123 x124) = f263_0 c lf l0 n x123 x124 := by
  induction n generalizing x123 x124 with
  | zero => rfl
  | succ n ih =>
    refine (f263_0_round c lf l0 _ x123 x124).trans ?_
    have e : (fun x123 x124 => lpK c env lf 6 fi263 1 3 [] [0, 3, 4] (x263_3_0) n (f263_0_c l0 x123 x124)) = f263_0 c lf l0 n := by funext x123 x124; exact ih x123 x124
    show f263_0_s c lf l0 (fun x123 x124 => lpK c env lf 6 fi263 1 3 [] [0, 3, 4] (x263_3_0) n (f263_0_c l0 x123 x124)) x123 x124 = _
    rw [e]; rfl
/-- loop.example/g00285/laws.toAttrS -/
def f263_t (c : Orc) (lf : Nat) (lp0 : List T → Int → List T → Option (List T)) (l0 : List T) : Option (List T) :=
  bif iLe 0 (l0.length : Int) && iLe (l0.length : Int) (LIM : Int) && ((l0.length : Int) == (l0.length : Int)) then
  (lp0 l0 0 (List.replicate (l0.length : Int).toNat (T.st [T.s (⟨#[]⟩ : ByteArray), T.s (⟨#[]⟩ : ByteArray)]))).bind fun r126 =>
  some [T.sl (asL (nth r126 1))]
  else none
def f263 (c : Orc) (lf : Nat) (l0 : List T) : Option (List T) := f263_t c lf (fun (l0 : List T) (x123 : Int) (x124 : List T) => f263_0 c lf l0 lf x123 x124) l0
theorem f263_raw (c : Orc) (lf : Nat) (l0 : List T) : funK c env lf 6 fi263 [.sl l0] = f263_t c lf (fun (l0 : List T) (x123 : Int) (x124 : List T) => lpK c env lf 6 fi263 1 3 [] [0, 3, 4] (x263_3_0) lf (f263_0_c l0 x123 x124)) l0 := by kernel_rfl
theorem f263_eq (c : Orc) (lf : Nat) (l0 : List T) : funK c env lf 6 fi263 [.sl l0] = f263 c lf l0 := by
  refine (f263_raw c lf l0).trans ?_
  have e0 : (fun (l0 : List T) (x123 : Int) (x124 : List T) => lpK c env lf 6 fi263 1 3 [] [0, 3, 4] (x263_3_0) lf (f263_0_c l0 x123 x124)) = (fun (l0 : List T) (x123 : Int) (x124 : List T) => f263_0 c lf l0 lf x123 x124) := by funext l0 x123 x124; exact f263_0_eq c lf l0 lf x123 x124
  rw [e0]; rfl
/-- loop.example/g00285/laws.toInode -/
def f256_t (c : Orc) (lf : Nat) (n0_0 : Int) (n0_1 : Int) (n0_2 : Int) (l0_3 : List T) (l0_4 : List T) (l0_5 : List T) : Option (List T) :=
  (c 47 [T.sl l0_3]).bind fun r127 =>
  (c 262 [T.sl l0_4]).bind fun r128 =>
  (c 263 [T.sl l0_5]).bind fun r129 =>
  some [T.st [T.i .i64 n0_0, T.i .i64 n0_1, T.i .i64 n0_2, T.sl (asL (nth r127 0)), T.sl (asL (nth r128 0)), T.sl (asL (nth r129 0))]]
def f256 (c : Orc) (lf : Nat) (n0_0 : Int) (n0_1 : Int) (n0_2 : Int) (l0_3 : List T) (l0_4 : List T) (l0_5 : List T) : Option (List T) := f256_t c lf n0_0 n0_1 n0_2 l0_3 l0_4 l0_5
theorem f256_raw (c : Orc) (lf : Nat) (n0_0 : Int) (n0_1 : Int) (n0_2 : Int) (l0_3 : List T) (l0_4 : List T) (l0_5 : List T) : funK c env lf 6 fi256 [.st [.i .i64 n0_0, .i .i64 n0_1, .i .i64 n0_2, .sl l0_3, .sl l0_4, .sl l0_5]] = f256_t c lf n0_0 n0_1 n0_2 l0_3 l0_4 l0_5 := by kernel_rfl
theorem f256_eq (c : Orc) (lf : Nat) (n0_0 : Int) (n0_1 : Int) (n0_2 : Int) (l0_3 : List T) (l0_4 : List T) (l0_5 : List T) : funK c env lf 6 fi256 [.st [.i .i64 n0_0, .i .i64 n0_1, .i .i64 n0_2, .sl l0_3, .sl l0_4, .sl l0_5]] = f256 c lf n0_0 n0_1 n0_2 l0_3 l0_4 l0_5 := by
  refine (f256_raw c lf n0_0 n0_1 n0_2 l0_3 l0_4 l0_5).trans ?_
  rfl
/-- loop.example/g00285/laws.toInodeS, the loop at region 3. -/
def f249_0_s (c : Orc) (lf : Nat) (l0 : List T) (L : Int → List T → Option (List T)) (x136 : Int) (x137 : List T) : Option (List T) :=
  bif iLt x136 (l0.length : Int) then
    bif inR x136 l0.length then
    (c 256 [T.st [T.i .i64 (asI (T.cell (l0.getD x136.toNat T.u) 0)), T.i .i64 (asI (T.cell (l0.getD x136.toNat T.u) 1)), T.i .i64 (asI (T.cell (l0.getD x136.toNat T.u) 2)), T.sl (asL (T.cell (l0.getD x136.toNat T.u) 3)), T.sl (asL (T.cell (l0.getD x136.toNat T.u) 4)), T.sl (asL (T.cell (l0.getD x136.toNat T.u) 5))]]).bind fun r138 =>
    bif inR x136 x137.length then
    L (IntKind.wrap .i64 (x136 + 1)) (x137.set x136.toNat (T.st [T.i .i64 (asI (T.cell (nth r138 0) 0)), T.i .i64 (asI (T.cell (nth r138 0) 1)), T.i .i64 (asI (T.cell (nth r138 0) 2)), T.sl (asL (T.cell (nth r138 0) 3)), T.sl (asL (T.cell (nth r138 0) 4)), T.sl (asL (T.cell (nth r138 0) 5))]))
    else none
    else none
  else
    some [T.i .i64 0, T.sl x137]
def f249_0_c (l0 : List T) (x136 : Int) (x137 : List T) : CSt := ⟨[.ro 0 true [.i .i64, .i .i64, .i .i64, .sl false [.i .u8], .sl true [.s, .i .i64], .sl true [.s, .s]] l0, .rf 1 [] 0 none, .i .i64 x136], [.dead, .row true [.i .i64, .i .i64, .i .i64, .sl false [.i .u8], .sl true [.s, .i .i64], .sl true [.s, .s]] x137 0 false]⟩
theorem f249_0_round (c : Orc) (lf : Nat) (l0 : List T) (L : CSt → Option (List T)) (x136 : Int) (x137 : List T) :
    roundK c env lf 6 fi249 1 3 [] [0, 3, 4] (x249_3_0) L (f249_0_c l0 x136 x137) = f249_0_s c lf l0 (fun x136 x137 => L (f249_0_c l0 x136 x137)) x136 x137 := by kernel_rfl
def f249_0 (c : Orc) (lf : Nat) (l0 : List T) : Nat → Int → List T → Option (List T)
  | 0 => fun _ _ => none
  | n + 1 => fun x136 x137 => f249_0_s c lf l0 (f249_0 c lf l0 n) x136 x137
theorem f249_0_u (c : Orc) (lf : Nat) (l0 : List T) (n : Nat) (x136 : Int) (x137 : List T) : f249_0 c lf l0 (n + 1) x136 x137 = f249_0_s c lf l0 (f249_0 c lf l0 n) x136 x137 := rfl
theorem f249_0_eq (c : Orc) (lf : Nat) (l0 : List T) (n : Nat) (x136 : Int) (x137 : List T) :
    lpK c env lf 6 fi249 1 3 [] [0, 3, 4] (x249_3_0) n (f249_0_c l0 x136 x137) = f249_0 c lf l0 n x136 x137 := by
  induction n generalizing x136 x137 with
  | zero => rfl
  | succ n ih =>
    refine (f249_0_round c lf l0 _ x136 x137).trans ?_
    have e : (fun x136 x137 => lpK c env lf 6 fi249 1 3 [] [0, 3, 4] (x249_3_0) n (f249_0_c l0 x136 x137)) = f249_0 c lf l0 n := by funext x136 x137; exact ih x136 x137
    show f249_0_s c lf l0 (fun x136 x137 => lpK c env lf 6 fi249 1 3 [] [0, 3, 4] (x249_3_0) n (f249_0_c l0 x136 x137)) x136 x137 = _
    rw [e]; rfl
/-- loop.example/g00285/laws.toInodeS -/
def f249_t (c : Orc) (lf : Nat) (lp0 : List T → Int → List T → Option (List T)) (l0 : List T) : Option (List T) :=
  bif iLe 0 (l0.length : Int) && iLe (l0.length : Int) (LIM : Int) && ((l0.length : Int) == (l0.length : Int)) then
  (lp0 l0 0 (List.replicate (l0.length : Int).toNat (T.st [T.i .i64 0, T.i .i64 0, T.i .i64 0, T.sl [], T.sl [], T.sl []]))).bind fun r139 =>
  some [T.sl (asL (nth r139 1))]
  else none
def f249 (c : Orc) (lf : Nat) (l0 : List T) : Option (List T) := f249_t c lf (fun (l0 : List T) (x136 : Int) (x137 : List T) => f249_0 c lf l0 lf x136 x137) l0
theorem f249_raw (c : Orc) (lf : Nat) (l0 : List T) : funK c env lf 6 fi249 [.sl l0] = f249_t c lf (fun (l0 : List T) (x136 : Int) (x137 : List T) => lpK c env lf 6 fi249 1 3 [] [0, 3, 4] (x249_3_0) lf (f249_0_c l0 x136 x137)) l0 := by kernel_rfl
theorem f249_eq (c : Orc) (lf : Nat) (l0 : List T) : funK c env lf 6 fi249 [.sl l0] = f249 c lf l0 := by
  refine (f249_raw c lf l0).trans ?_
  have e0 : (fun (l0 : List T) (x136 : Int) (x137 : List T) => lpK c env lf 6 fi249 1 3 [] [0, 3, 4] (x249_3_0) lf (f249_0_c l0 x136 x137)) = (fun (l0 : List T) (x136 : Int) (x137 : List T) => f249_0 c lf l0 lf x136 x137) := by funext l0 x136 x137; exact f249_0_eq c lf l0 lf x136 x137
  rw [e0]; rfl
/-- loop.example/g00285/laws.toTab -/
def f235_t (c : Orc) (lf : Nat) (l0_0 : List T) (n0_1 : Int) : Option (List T) :=
  (c 249 [T.sl l0_0]).bind fun r140 =>
  some [T.st [T.sl (asL (nth r140 0)), T.i .i64 n0_1]]
def f235 (c : Orc) (lf : Nat) (l0_0 : List T) (n0_1 : Int) : Option (List T) := f235_t c lf l0_0 n0_1
theorem f235_raw (c : Orc) (lf : Nat) (l0_0 : List T) (n0_1 : Int) : funK c env lf 6 fi235 [.st [.sl l0_0, .i .i64 n0_1]] = f235_t c lf l0_0 n0_1 := by kernel_rfl
theorem f235_eq (c : Orc) (lf : Nat) (l0_0 : List T) (n0_1 : Int) : funK c env lf 6 fi235 [.st [.sl l0_0, .i .i64 n0_1]] = f235 c lf l0_0 n0_1 := by
  refine (f235_raw c lf l0_0 n0_1).trans ?_
  rfl
/-- loop.example/g00285/laws.toVol -/
def f208_t (c : Orc) (lf : Nat) (n0_0 : Int) (s0_1 : ByteArray) (b0_2 : Bool) (n0_3 : Int) (l0_4 : List T) (n0_5 : Int) : Option (List T) :=
  (c 235 [T.st [T.sl l0_4, T.i .i64 n0_5]]).bind fun r141 =>
  some [T.st [T.i .i64 n0_0, T.s s0_1, T.b b0_2, T.i .i64 n0_3, T.sl (asL (T.cell (nth r141 0) 0)), T.i .i64 (asI (T.cell (nth r141 0) 1))]]
def f208 (c : Orc) (lf : Nat) (n0_0 : Int) (s0_1 : ByteArray) (b0_2 : Bool) (n0_3 : Int) (l0_4 : List T) (n0_5 : Int) : Option (List T) := f208_t c lf n0_0 s0_1 b0_2 n0_3 l0_4 n0_5
theorem f208_raw (c : Orc) (lf : Nat) (n0_0 : Int) (s0_1 : ByteArray) (b0_2 : Bool) (n0_3 : Int) (l0_4 : List T) (n0_5 : Int) : funK c env lf 6 fi208 [.st [.i .i64 n0_0, .s s0_1, .b b0_2, .i .i64 n0_3, .sl l0_4, .i .i64 n0_5]] = f208_t c lf n0_0 s0_1 b0_2 n0_3 l0_4 n0_5 := by kernel_rfl
theorem f208_eq (c : Orc) (lf : Nat) (n0_0 : Int) (s0_1 : ByteArray) (b0_2 : Bool) (n0_3 : Int) (l0_4 : List T) (n0_5 : Int) : funK c env lf 6 fi208 [.st [.i .i64 n0_0, .s s0_1, .b b0_2, .i .i64 n0_3, .sl l0_4, .i .i64 n0_5]] = f208 c lf n0_0 s0_1 b0_2 n0_3 l0_4 n0_5 := by
  refine (f208_raw c lf n0_0 s0_1 b0_2 n0_3 l0_4 n0_5).trans ?_
  rfl
/-- loop.example/g00285/laws.toVolS, the loop at region 3. -/
def f163_0_s (c : Orc) (lf : Nat) (l0 : List T) (L : Int → List T → Option (List T)) (x148 : Int) (x149 : List T) : Option (List T) :=
  bif iLt x148 (l0.length : Int) then
    bif inR x148 l0.length then
    (c 208 [T.st [T.i .i64 (asI (T.cell (l0.getD x148.toNat T.u) 0)), T.s (asS (T.cell (l0.getD x148.toNat T.u) 1)), T.b (asB (T.cell (l0.getD x148.toNat T.u) 2)), T.i .i64 (asI (T.cell (l0.getD x148.toNat T.u) 3)), T.sl (asL (T.cell (l0.getD x148.toNat T.u) 4)), T.i .i64 (asI (T.cell (l0.getD x148.toNat T.u) 5))]]).bind fun r150 =>
    bif inR x148 x149.length then
    L (IntKind.wrap .i64 (x148 + 1)) (x149.set x148.toNat (T.st [T.i .i64 (asI (T.cell (nth r150 0) 0)), T.s (asS (T.cell (nth r150 0) 1)), T.b (asB (T.cell (nth r150 0) 2)), T.i .i64 (asI (T.cell (nth r150 0) 3)), T.sl (asL (T.cell (nth r150 0) 4)), T.i .i64 (asI (T.cell (nth r150 0) 5))]))
    else none
    else none
  else
    some [T.i .i64 0, T.sl x149]
def f163_0_c (l0 : List T) (x148 : Int) (x149 : List T) : CSt := ⟨[.ro 0 true [.i .i64, .s, .b, .i .i64, .sl true [.i .i64, .i .i64, .i .i64, .sl false [.i .u8], .sl true [.s, .i .i64], .sl true [.s, .s]], .i .i64] l0, .rf 1 [] 0 none, .i .i64 x148], [.dead, .row true [.i .i64, .s, .b, .i .i64, .sl true [.i .i64, .i .i64, .i .i64, .sl false [.i .u8], .sl true [.s, .i .i64], .sl true [.s, .s]], .i .i64] x149 0 false]⟩
theorem f163_0_round (c : Orc) (lf : Nat) (l0 : List T) (L : CSt → Option (List T)) (x148 : Int) (x149 : List T) :
    roundK c env lf 6 fi163 1 3 [] [0, 3, 4] (x163_3_0) L (f163_0_c l0 x148 x149) = f163_0_s c lf l0 (fun x148 x149 => L (f163_0_c l0 x148 x149)) x148 x149 := by kernel_rfl
def f163_0 (c : Orc) (lf : Nat) (l0 : List T) : Nat → Int → List T → Option (List T)
  | 0 => fun _ _ => none
  | n + 1 => fun x148 x149 => f163_0_s c lf l0 (f163_0 c lf l0 n) x148 x149
theorem f163_0_u (c : Orc) (lf : Nat) (l0 : List T) (n : Nat) (x148 : Int) (x149 : List T) : f163_0 c lf l0 (n + 1) x148 x149 = f163_0_s c lf l0 (f163_0 c lf l0 n) x148 x149 := rfl
theorem f163_0_eq (c : Orc) (lf : Nat) (l0 : List T) (n : Nat) (x148 : Int) (x149 : List T) :
    lpK c env lf 6 fi163 1 3 [] [0, 3, 4] (x163_3_0) n (f163_0_c l0 x148 x149) = f163_0 c lf l0 n x148 x149 := by
  induction n generalizing x148 x149 with
  | zero => rfl
  | succ n ih =>
    refine (f163_0_round c lf l0 _ x148 x149).trans ?_
    have e : (fun x148 x149 => lpK c env lf 6 fi163 1 3 [] [0, 3, 4] (x163_3_0) n (f163_0_c l0 x148 x149)) = f163_0 c lf l0 n := by funext x148 x149; exact ih x148 x149
    show f163_0_s c lf l0 (fun x148 x149 => lpK c env lf 6 fi163 1 3 [] [0, 3, 4] (x163_3_0) n (f163_0_c l0 x148 x149)) x148 x149 = _
    rw [e]; rfl
/-- loop.example/g00285/laws.toVolS -/
def f163_t (c : Orc) (lf : Nat) (lp0 : List T → Int → List T → Option (List T)) (l0 : List T) : Option (List T) :=
  bif iLe 0 (l0.length : Int) && iLe (l0.length : Int) (LIM : Int) && ((l0.length : Int) == (l0.length : Int)) then
  (lp0 l0 0 (List.replicate (l0.length : Int).toNat (T.st [T.i .i64 0, T.s (⟨#[]⟩ : ByteArray), T.b false, T.i .i64 0, T.sl [], T.i .i64 0]))).bind fun r151 =>
  some [T.sl (asL (nth r151 1))]
  else none
def f163 (c : Orc) (lf : Nat) (l0 : List T) : Option (List T) := f163_t c lf (fun (l0 : List T) (x148 : Int) (x149 : List T) => f163_0 c lf l0 lf x148 x149) l0
theorem f163_raw (c : Orc) (lf : Nat) (l0 : List T) : funK c env lf 6 fi163 [.sl l0] = f163_t c lf (fun (l0 : List T) (x148 : Int) (x149 : List T) => lpK c env lf 6 fi163 1 3 [] [0, 3, 4] (x163_3_0) lf (f163_0_c l0 x148 x149)) l0 := by kernel_rfl
theorem f163_eq (c : Orc) (lf : Nat) (l0 : List T) : funK c env lf 6 fi163 [.sl l0] = f163 c lf l0 := by
  refine (f163_raw c lf l0).trans ?_
  have e0 : (fun (l0 : List T) (x148 : Int) (x149 : List T) => lpK c env lf 6 fi163 1 3 [] [0, 3, 4] (x163_3_0) lf (f163_0_c l0 x148 x149)) = (fun (l0 : List T) (x148 : Int) (x149 : List T) => f163_0 c lf l0 lf x148 x149) := by funext l0 x148 x149; exact f163_0_eq c lf l0 lf x148 x149
  rw [e0]; rfl
/-- loop.example/g00285/laws.toFs -/
def f110_t (c : Orc) (lf : Nat) (l0_0 : List T) (n0_1 : Int) : Option (List T) :=
  (c 163 [T.sl l0_0]).bind fun r152 =>
  some [T.st [T.sl (asL (nth r152 0)), T.i .i64 n0_1]]
def f110 (c : Orc) (lf : Nat) (l0_0 : List T) (n0_1 : Int) : Option (List T) := f110_t c lf l0_0 n0_1
theorem f110_raw (c : Orc) (lf : Nat) (l0_0 : List T) (n0_1 : Int) : funK c env lf 6 fi110 [.st [.sl l0_0, .i .i64 n0_1]] = f110_t c lf l0_0 n0_1 := by kernel_rfl
theorem f110_eq (c : Orc) (lf : Nat) (l0_0 : List T) (n0_1 : Int) : funK c env lf 6 fi110 [.st [.sl l0_0, .i .i64 n0_1]] = f110 c lf l0_0 n0_1 := by
  refine (f110_raw c lf l0_0 n0_1).trans ?_
  rfl
/-- loop.example/g00285/laws.toRow -/
def f236_t (c : Orc) (lf : Nat) (n0_0 : Int) (s0_1 : ByteArray) (b0_2 : Bool) (n0_3 : Int) (n0_4 : Int) : Option (List T) :=
  some [T.st [T.i .i64 n0_0, T.s s0_1, T.b b0_2, T.i .i64 n0_3, T.i .i64 n0_4]]
def f236 (c : Orc) (lf : Nat) (n0_0 : Int) (s0_1 : ByteArray) (b0_2 : Bool) (n0_3 : Int) (n0_4 : Int) : Option (List T) := f236_t c lf n0_0 s0_1 b0_2 n0_3 n0_4
theorem f236_raw (c : Orc) (lf : Nat) (n0_0 : Int) (s0_1 : ByteArray) (b0_2 : Bool) (n0_3 : Int) (n0_4 : Int) : funK c env lf 6 fi236 [.st [.i .i64 n0_0, .s s0_1, .b b0_2, .i .i64 n0_3, .i .i64 n0_4]] = f236_t c lf n0_0 s0_1 b0_2 n0_3 n0_4 := by kernel_rfl
theorem f236_eq (c : Orc) (lf : Nat) (n0_0 : Int) (s0_1 : ByteArray) (b0_2 : Bool) (n0_3 : Int) (n0_4 : Int) : funK c env lf 6 fi236 [.st [.i .i64 n0_0, .s s0_1, .b b0_2, .i .i64 n0_3, .i .i64 n0_4]] = f236 c lf n0_0 s0_1 b0_2 n0_3 n0_4 := by
  refine (f236_raw c lf n0_0 s0_1 b0_2 n0_3 n0_4).trans ?_
  rfl
/-- loop.example/g00285/laws.toRowS, the loop at region 3. -/
def f209_0_s (c : Orc) (lf : Nat) (l0 : List T) (L : Int → List T → Option (List T)) (x159 : Int) (x160 : List T) : Option (List T) :=
  bif iLt x159 (l0.length : Int) then
    bif inR x159 l0.length then
    (c 236 [T.st [T.i .i64 (asI (T.cell (l0.getD x159.toNat T.u) 0)), T.s (asS (T.cell (l0.getD x159.toNat T.u) 1)), T.b (asB (T.cell (l0.getD x159.toNat T.u) 2)), T.i .i64 (asI (T.cell (l0.getD x159.toNat T.u) 3)), T.i .i64 (asI (T.cell (l0.getD x159.toNat T.u) 4))]]).bind fun r161 =>
    bif inR x159 x160.length then
    L (IntKind.wrap .i64 (x159 + 1)) (x160.set x159.toNat (T.st [T.i .i64 (asI (T.cell (nth r161 0) 0)), T.s (asS (T.cell (nth r161 0) 1)), T.b (asB (T.cell (nth r161 0) 2)), T.i .i64 (asI (T.cell (nth r161 0) 3)), T.i .i64 (asI (T.cell (nth r161 0) 4))]))
    else none
    else none
  else
    some [T.i .i64 0, T.sl x160]
def f209_0_c (l0 : List T) (x159 : Int) (x160 : List T) : CSt := ⟨[.ro 0 true [.i .i64, .s, .b, .i .i64, .i .i64] l0, .rf 1 [] 0 none, .i .i64 x159], [.dead, .row true [.i .i64, .s, .b, .i .i64, .i .i64] x160 0 false]⟩
theorem f209_0_round (c : Orc) (lf : Nat) (l0 : List T) (L : CSt → Option (List T)) (x159 : Int) (x160 : List T) :
    roundK c env lf 6 fi209 1 3 [] [0, 3, 4] (x209_3_0) L (f209_0_c l0 x159 x160) = f209_0_s c lf l0 (fun x159 x160 => L (f209_0_c l0 x159 x160)) x159 x160 := by kernel_rfl
def f209_0 (c : Orc) (lf : Nat) (l0 : List T) : Nat → Int → List T → Option (List T)
  | 0 => fun _ _ => none
  | n + 1 => fun x159 x160 => f209_0_s c lf l0 (f209_0 c lf l0 n) x159 x160
theorem f209_0_u (c : Orc) (lf : Nat) (l0 : List T) (n : Nat) (x159 : Int) (x160 : List T) : f209_0 c lf l0 (n + 1) x159 x160 = f209_0_s c lf l0 (f209_0 c lf l0 n) x159 x160 := rfl
theorem f209_0_eq (c : Orc) (lf : Nat) (l0 : List T) (n : Nat) (x159 : Int) (x160 : List T) :
    lpK c env lf 6 fi209 1 3 [] [0, 3, 4] (x209_3_0) n (f209_0_c l0 x159 x160) = f209_0 c lf l0 n x159 x160 := by
  induction n generalizing x159 x160 with
  | zero => rfl
  | succ n ih =>
    refine (f209_0_round c lf l0 _ x159 x160).trans ?_
    have e : (fun x159 x160 => lpK c env lf 6 fi209 1 3 [] [0, 3, 4] (x209_3_0) n (f209_0_c l0 x159 x160)) = f209_0 c lf l0 n := by funext x159 x160; exact ih x159 x160
    show f209_0_s c lf l0 (fun x159 x160 => lpK c env lf 6 fi209 1 3 [] [0, 3, 4] (x209_3_0) n (f209_0_c l0 x159 x160)) x159 x160 = _
    rw [e]; rfl
/-- loop.example/g00285/laws.toRowS -/
def f209_t (c : Orc) (lf : Nat) (lp0 : List T → Int → List T → Option (List T)) (l0 : List T) : Option (List T) :=
  bif iLe 0 (l0.length : Int) && iLe (l0.length : Int) (LIM : Int) && ((l0.length : Int) == (l0.length : Int)) then
  (lp0 l0 0 (List.replicate (l0.length : Int).toNat (T.st [T.i .i64 0, T.s (⟨#[]⟩ : ByteArray), T.b false, T.i .i64 0, T.i .i64 0]))).bind fun r162 =>
  some [T.sl (asL (nth r162 1))]
  else none
def f209 (c : Orc) (lf : Nat) (l0 : List T) : Option (List T) := f209_t c lf (fun (l0 : List T) (x159 : Int) (x160 : List T) => f209_0 c lf l0 lf x159 x160) l0
theorem f209_raw (c : Orc) (lf : Nat) (l0 : List T) : funK c env lf 6 fi209 [.sl l0] = f209_t c lf (fun (l0 : List T) (x159 : Int) (x160 : List T) => lpK c env lf 6 fi209 1 3 [] [0, 3, 4] (x209_3_0) lf (f209_0_c l0 x159 x160)) l0 := by kernel_rfl
theorem f209_eq (c : Orc) (lf : Nat) (l0 : List T) : funK c env lf 6 fi209 [.sl l0] = f209 c lf l0 := by
  refine (f209_raw c lf l0).trans ?_
  have e0 : (fun (l0 : List T) (x159 : Int) (x160 : List T) => lpK c env lf 6 fi209 1 3 [] [0, 3, 4] (x209_3_0) lf (f209_0_c l0 x159 x160)) = (fun (l0 : List T) (x159 : Int) (x160 : List T) => f209_0 c lf l0 lf x159 x160) := by funext l0 x159 x160; exact f209_0_eq c lf l0 lf x159 x160
  rw [e0]; rfl
/-- loop.example/g00285/laws.toTable -/
def f164_t (c : Orc) (lf : Nat) (n0_0 : Int) (l0_1 : List T) : Option (List T) :=
  (c 209 [T.sl l0_1]).bind fun r163 =>
  some [T.st [T.i .i64 n0_0, T.sl (asL (nth r163 0))]]
def f164 (c : Orc) (lf : Nat) (n0_0 : Int) (l0_1 : List T) : Option (List T) := f164_t c lf n0_0 l0_1
theorem f164_raw (c : Orc) (lf : Nat) (n0_0 : Int) (l0_1 : List T) : funK c env lf 6 fi164 [.st [.i .i64 n0_0, .sl l0_1]] = f164_t c lf n0_0 l0_1 := by kernel_rfl
theorem f164_eq (c : Orc) (lf : Nat) (n0_0 : Int) (l0_1 : List T) : funK c env lf 6 fi164 [.st [.i .i64 n0_0, .sl l0_1]] = f164 c lf n0_0 l0_1 := by
  refine (f164_raw c lf n0_0 l0_1).trans ?_
  rfl
/-- loop.example/g00285/laws.toPlace -/
def f250_t (c : Orc) (lf : Nat) (n0_0 : Int) (n0_1 : Int) : Option (List T) :=
  some [T.st [T.i .i64 n0_0, T.i .i64 n0_1]]
def f250 (c : Orc) (lf : Nat) (n0_0 : Int) (n0_1 : Int) : Option (List T) := f250_t c lf n0_0 n0_1
theorem f250_raw (c : Orc) (lf : Nat) (n0_0 : Int) (n0_1 : Int) : funK c env lf 6 fi250 [.st [.i .i64 n0_0, .i .i64 n0_1]] = f250_t c lf n0_0 n0_1 := by kernel_rfl
theorem f250_eq (c : Orc) (lf : Nat) (n0_0 : Int) (n0_1 : Int) : funK c env lf 6 fi250 [.st [.i .i64 n0_0, .i .i64 n0_1]] = f250 c lf n0_0 n0_1 := by
  refine (f250_raw c lf n0_0 n0_1).trans ?_
  rfl
/-- loop.example/g00285/laws.toPlaceS, the loop at region 3. -/
def f237_0_s (c : Orc) (lf : Nat) (l0 : List T) (L : Int → List T → Option (List T)) (x170 : Int) (x171 : List T) : Option (List T) :=
  bif iLt x170 (l0.length : Int) then
    bif inR x170 l0.length then
    (c 250 [T.st [T.i .i64 (asI (T.cell (l0.getD x170.toNat T.u) 0)), T.i .i64 (asI (T.cell (l0.getD x170.toNat T.u) 1))]]).bind fun r172 =>
    bif inR x170 x171.length then
    L (IntKind.wrap .i64 (x170 + 1)) (x171.set x170.toNat (T.st [T.i .i64 (asI (T.cell (nth r172 0) 0)), T.i .i64 (asI (T.cell (nth r172 0) 1))]))
    else none
    else none
  else
    some [T.i .i64 0, T.sl x171]
def f237_0_c (l0 : List T) (x170 : Int) (x171 : List T) : CSt := ⟨[.ro 0 true [.i .i64, .i .i64] l0, .rf 1 [] 0 none, .i .i64 x170], [.dead, .row true [.i .i64, .i .i64] x171 0 false]⟩
theorem f237_0_round (c : Orc) (lf : Nat) (l0 : List T) (L : CSt → Option (List T)) (x170 : Int) (x171 : List T) :
    roundK c env lf 6 fi237 1 3 [] [0, 3, 4] (x237_3_0) L (f237_0_c l0 x170 x171) = f237_0_s c lf l0 (fun x170 x171 => L (f237_0_c l0 x170 x171)) x170 x171 := by kernel_rfl
def f237_0 (c : Orc) (lf : Nat) (l0 : List T) : Nat → Int → List T → Option (List T)
  | 0 => fun _ _ => none
  | n + 1 => fun x170 x171 => f237_0_s c lf l0 (f237_0 c lf l0 n) x170 x171
theorem f237_0_u (c : Orc) (lf : Nat) (l0 : List T) (n : Nat) (x170 : Int) (x171 : List T) : f237_0 c lf l0 (n + 1) x170 x171 = f237_0_s c lf l0 (f237_0 c lf l0 n) x170 x171 := rfl
theorem f237_0_eq (c : Orc) (lf : Nat) (l0 : List T) (n : Nat) (x170 : Int) (x171 : List T) :
    lpK c env lf 6 fi237 1 3 [] [0, 3, 4] (x237_3_0) n (f237_0_c l0 x170 x171) = f237_0 c lf l0 n x170 x171 := by
  induction n generalizing x170 x171 with
  | zero => rfl
  | succ n ih =>
    refine (f237_0_round c lf l0 _ x170 x171).trans ?_
    have e : (fun x170 x171 => lpK c env lf 6 fi237 1 3 [] [0, 3, 4] (x237_3_0) n (f237_0_c l0 x170 x171)) = f237_0 c lf l0 n := by funext x170 x171; exact ih x170 x171
    show f237_0_s c lf l0 (fun x170 x171 => lpK c env lf 6 fi237 1 3 [] [0, 3, 4] (x237_3_0) n (f237_0_c l0 x170 x171)) x170 x171 = _
    rw [e]; rfl
/-- loop.example/g00285/laws.toPlaceS -/
def f237_t (c : Orc) (lf : Nat) (lp0 : List T → Int → List T → Option (List T)) (l0 : List T) : Option (List T) :=
  bif iLe 0 (l0.length : Int) && iLe (l0.length : Int) (LIM : Int) && ((l0.length : Int) == (l0.length : Int)) then
  (lp0 l0 0 (List.replicate (l0.length : Int).toNat (T.st [T.i .i64 0, T.i .i64 0]))).bind fun r173 =>
  some [T.sl (asL (nth r173 1))]
  else none
def f237 (c : Orc) (lf : Nat) (l0 : List T) : Option (List T) := f237_t c lf (fun (l0 : List T) (x170 : Int) (x171 : List T) => f237_0 c lf l0 lf x170 x171) l0
theorem f237_raw (c : Orc) (lf : Nat) (l0 : List T) : funK c env lf 6 fi237 [.sl l0] = f237_t c lf (fun (l0 : List T) (x170 : Int) (x171 : List T) => lpK c env lf 6 fi237 1 3 [] [0, 3, 4] (x237_3_0) lf (f237_0_c l0 x170 x171)) l0 := by kernel_rfl
theorem f237_eq (c : Orc) (lf : Nat) (l0 : List T) : funK c env lf 6 fi237 [.sl l0] = f237 c lf l0 := by
  refine (f237_raw c lf l0).trans ?_
  have e0 : (fun (l0 : List T) (x170 : Int) (x171 : List T) => lpK c env lf 6 fi237 1 3 [] [0, 3, 4] (x237_3_0) lf (f237_0_c l0 x170 x171)) = (fun (l0 : List T) (x170 : Int) (x171 : List T) => f237_0 c lf l0 lf x170 x171) := by funext l0 x170 x171; exact f237_0_eq c lf l0 lf x170 x171
  rw [e0]; rfl
/-- loop.example/g00285/laws.toMap -/
def f210_t (c : Orc) (lf : Nat) (n0_0 : Int) (l0_1 : List T) : Option (List T) :=
  (c 237 [T.sl l0_1]).bind fun r174 =>
  some [T.st [T.i .i64 n0_0, T.sl (asL (nth r174 0))]]
def f210 (c : Orc) (lf : Nat) (n0_0 : Int) (l0_1 : List T) : Option (List T) := f210_t c lf n0_0 l0_1
theorem f210_raw (c : Orc) (lf : Nat) (n0_0 : Int) (l0_1 : List T) : funK c env lf 6 fi210 [.st [.i .i64 n0_0, .sl l0_1]] = f210_t c lf n0_0 l0_1 := by kernel_rfl
theorem f210_eq (c : Orc) (lf : Nat) (n0_0 : Int) (l0_1 : List T) : funK c env lf 6 fi210 [.st [.i .i64 n0_0, .sl l0_1]] = f210 c lf n0_0 l0_1 := by
  refine (f210_raw c lf n0_0 l0_1).trans ?_
  rfl
/-- loop.example/g00285/laws.toMapS, the loop at region 3. -/
def f165_0_s (c : Orc) (lf : Nat) (l0 : List T) (L : Int → List T → Option (List T)) (x181 : Int) (x182 : List T) : Option (List T) :=
  bif iLt x181 (l0.length : Int) then
    bif inR x181 l0.length then
    (c 210 [T.st [T.i .i64 (asI (T.cell (l0.getD x181.toNat T.u) 0)), T.sl (asL (T.cell (l0.getD x181.toNat T.u) 1))]]).bind fun r183 =>
    bif inR x181 x182.length then
    L (IntKind.wrap .i64 (x181 + 1)) (x182.set x181.toNat (T.st [T.i .i64 (asI (T.cell (nth r183 0) 0)), T.sl (asL (T.cell (nth r183 0) 1))]))
    else none
    else none
  else
    some [T.i .i64 0, T.sl x182]
def f165_0_c (l0 : List T) (x181 : Int) (x182 : List T) : CSt := ⟨[.ro 0 true [.i .i64, .sl true [.i .i64, .i .i64]] l0, .rf 1 [] 0 none, .i .i64 x181], [.dead, .row true [.i .i64, .sl true [.i .i64, .i .i64]] x182 0 false]⟩
theorem f165_0_round (c : Orc) (lf : Nat) (l0 : List T) (L : CSt → Option (List T)) (x181 : Int) (x182 : List T) :
    roundK c env lf 6 fi165 1 3 [] [0, 3, 4] (x165_3_0) L (f165_0_c l0 x181 x182) = f165_0_s c lf l0 (fun x181 x182 => L (f165_0_c l0 x181 x182)) x181 x182 := by kernel_rfl
def f165_0 (c : Orc) (lf : Nat) (l0 : List T) : Nat → Int → List T → Option (List T)
  | 0 => fun _ _ => none
  | n + 1 => fun x181 x182 => f165_0_s c lf l0 (f165_0 c lf l0 n) x181 x182
theorem f165_0_u (c : Orc) (lf : Nat) (l0 : List T) (n : Nat) (x181 : Int) (x182 : List T) : f165_0 c lf l0 (n + 1) x181 x182 = f165_0_s c lf l0 (f165_0 c lf l0 n) x181 x182 := rfl
theorem f165_0_eq (c : Orc) (lf : Nat) (l0 : List T) (n : Nat) (x181 : Int) (x182 : List T) :
    lpK c env lf 6 fi165 1 3 [] [0, 3, 4] (x165_3_0) n (f165_0_c l0 x181 x182) = f165_0 c lf l0 n x181 x182 := by
  induction n generalizing x181 x182 with
  | zero => rfl
  | succ n ih =>
    refine (f165_0_round c lf l0 _ x181 x182).trans ?_
    have e : (fun x181 x182 => lpK c env lf 6 fi165 1 3 [] [0, 3, 4] (x165_3_0) n (f165_0_c l0 x181 x182)) = f165_0 c lf l0 n := by funext x181 x182; exact ih x181 x182
    show f165_0_s c lf l0 (fun x181 x182 => lpK c env lf 6 fi165 1 3 [] [0, 3, 4] (x165_3_0) n (f165_0_c l0 x181 x182)) x181 x182 = _
    rw [e]; rfl
/-- loop.example/g00285/laws.toMapS -/
def f165_t (c : Orc) (lf : Nat) (lp0 : List T → Int → List T → Option (List T)) (l0 : List T) : Option (List T) :=
  bif iLe 0 (l0.length : Int) && iLe (l0.length : Int) (LIM : Int) && ((l0.length : Int) == (l0.length : Int)) then
  (lp0 l0 0 (List.replicate (l0.length : Int).toNat (T.st [T.i .i64 0, T.sl []]))).bind fun r184 =>
  some [T.sl (asL (nth r184 1))]
  else none
def f165 (c : Orc) (lf : Nat) (l0 : List T) : Option (List T) := f165_t c lf (fun (l0 : List T) (x181 : Int) (x182 : List T) => f165_0 c lf l0 lf x181 x182) l0
theorem f165_raw (c : Orc) (lf : Nat) (l0 : List T) : funK c env lf 6 fi165 [.sl l0] = f165_t c lf (fun (l0 : List T) (x181 : Int) (x182 : List T) => lpK c env lf 6 fi165 1 3 [] [0, 3, 4] (x165_3_0) lf (f165_0_c l0 x181 x182)) l0 := by kernel_rfl
theorem f165_eq (c : Orc) (lf : Nat) (l0 : List T) : funK c env lf 6 fi165 [.sl l0] = f165 c lf l0 := by
  refine (f165_raw c lf l0).trans ?_
  have e0 : (fun (l0 : List T) (x181 : Int) (x182 : List T) => lpK c env lf 6 fi165 1 3 [] [0, 3, 4] (x165_3_0) lf (f165_0_c l0 x181 x182)) = (fun (l0 : List T) (x181 : Int) (x182 : List T) => f165_0 c lf l0 lf x181 x182) := by funext l0 x181 x182; exact f165_0_eq c lf l0 lf x181 x182
  rw [e0]; rfl
/-- loop.example/g00285/laws.toImage -/
def f111_t (c : Orc) (lf : Nat) (l0_0 : List T) (n0_1 : Int) (n0_2 : Int) (l0_3 : List T) (l0_4 : List T) (n0_5 : Int) (n0_6 : Int) : Option (List T) :=
  (c 110 [T.st [T.sl l0_0, T.i .i64 n0_1]]).bind fun r185 =>
  (c 164 [T.st [T.i .i64 n0_2, T.sl l0_3]]).bind fun r186 =>
  (c 165 [T.sl l0_4]).bind fun r187 =>
  some [T.st [T.sl (asL (T.cell (nth r185 0) 0)), T.i .i64 (asI (T.cell (nth r185 0) 1)), T.i .i64 (asI (T.cell (nth r186 0) 0)), T.sl (asL (T.cell (nth r186 0) 1)), T.sl (asL (nth r187 0)), T.i .i64 n0_5, T.i .i64 n0_6]]
def f111 (c : Orc) (lf : Nat) (l0_0 : List T) (n0_1 : Int) (n0_2 : Int) (l0_3 : List T) (l0_4 : List T) (n0_5 : Int) (n0_6 : Int) : Option (List T) := f111_t c lf l0_0 n0_1 n0_2 l0_3 l0_4 n0_5 n0_6
theorem f111_raw (c : Orc) (lf : Nat) (l0_0 : List T) (n0_1 : Int) (n0_2 : Int) (l0_3 : List T) (l0_4 : List T) (n0_5 : Int) (n0_6 : Int) : funK c env lf 6 fi111 [.st [.sl l0_0, .i .i64 n0_1, .i .i64 n0_2, .sl l0_3, .sl l0_4, .i .i64 n0_5, .i .i64 n0_6]] = f111_t c lf l0_0 n0_1 n0_2 l0_3 l0_4 n0_5 n0_6 := by kernel_rfl
theorem f111_eq (c : Orc) (lf : Nat) (l0_0 : List T) (n0_1 : Int) (n0_2 : Int) (l0_3 : List T) (l0_4 : List T) (n0_5 : Int) (n0_6 : Int) : funK c env lf 6 fi111 [.st [.sl l0_0, .i .i64 n0_1, .i .i64 n0_2, .sl l0_3, .sl l0_4, .i .i64 n0_5, .i .i64 n0_6]] = f111 c lf l0_0 n0_1 n0_2 l0_3 l0_4 n0_5 n0_6 := by
  refine (f111_raw c lf l0_0 n0_1 n0_2 l0_3 l0_4 n0_5 n0_6).trans ?_
  rfl
/-- loop.example/g00285/laws.toPage -/
def f253_t (c : Orc) (lf : Nat) (b0_0 : Bool) (l0_1 : List T) : Option (List T) :=
  (c 47 [T.sl l0_1]).bind fun r188 =>
  some [T.st [T.b b0_0, T.sl (asL (nth r188 0))]]
def f253 (c : Orc) (lf : Nat) (b0_0 : Bool) (l0_1 : List T) : Option (List T) := f253_t c lf b0_0 l0_1
theorem f253_raw (c : Orc) (lf : Nat) (b0_0 : Bool) (l0_1 : List T) : funK c env lf 6 fi253 [.st [.b b0_0, .sl l0_1]] = f253_t c lf b0_0 l0_1 := by kernel_rfl
theorem f253_eq (c : Orc) (lf : Nat) (b0_0 : Bool) (l0_1 : List T) : funK c env lf 6 fi253 [.st [.b b0_0, .sl l0_1]] = f253 c lf b0_0 l0_1 := by
  refine (f253_raw c lf b0_0 l0_1).trans ?_
  rfl
/-- loop.example/g00285/laws.toPageS, the loop at region 3. -/
def f243_0_s (c : Orc) (lf : Nat) (l0 : List T) (L : Int → List T → Option (List T)) (x195 : Int) (x196 : List T) : Option (List T) :=
  bif iLt x195 (l0.length : Int) then
    bif inR x195 l0.length then
    (c 253 [T.st [T.b (asB (T.cell (l0.getD x195.toNat T.u) 0)), T.sl (asL (T.cell (l0.getD x195.toNat T.u) 1))]]).bind fun r197 =>
    bif inR x195 x196.length then
    L (IntKind.wrap .i64 (x195 + 1)) (x196.set x195.toNat (T.st [T.b (asB (T.cell (nth r197 0) 0)), T.sl (asL (T.cell (nth r197 0) 1))]))
    else none
    else none
  else
    some [T.i .i64 0, T.sl x196]
def f243_0_c (l0 : List T) (x195 : Int) (x196 : List T) : CSt := ⟨[.ro 0 true [.b, .sl false [.i .u8]] l0, .rf 1 [] 0 none, .i .i64 x195], [.dead, .row true [.b, .sl false [.i .u8]] x196 0 false]⟩
theorem f243_0_round (c : Orc) (lf : Nat) (l0 : List T) (L : CSt → Option (List T)) (x195 : Int) (x196 : List T) :
    roundK c env lf 6 fi243 1 3 [] [0, 3, 4] (x243_3_0) L (f243_0_c l0 x195 x196) = f243_0_s c lf l0 (fun x195 x196 => L (f243_0_c l0 x195 x196)) x195 x196 := by kernel_rfl
def f243_0 (c : Orc) (lf : Nat) (l0 : List T) : Nat → Int → List T → Option (List T)
  | 0 => fun _ _ => none
  | n + 1 => fun x195 x196 => f243_0_s c lf l0 (f243_0 c lf l0 n) x195 x196
theorem f243_0_u (c : Orc) (lf : Nat) (l0 : List T) (n : Nat) (x195 : Int) (x196 : List T) : f243_0 c lf l0 (n + 1) x195 x196 = f243_0_s c lf l0 (f243_0 c lf l0 n) x195 x196 := rfl
theorem f243_0_eq (c : Orc) (lf : Nat) (l0 : List T) (n : Nat) (x195 : Int) (x196 : List T) :
    lpK c env lf 6 fi243 1 3 [] [0, 3, 4] (x243_3_0) n (f243_0_c l0 x195 x196) = f243_0 c lf l0 n x195 x196 := by
  induction n generalizing x195 x196 with
  | zero => rfl
  | succ n ih =>
    refine (f243_0_round c lf l0 _ x195 x196).trans ?_
    have e : (fun x195 x196 => lpK c env lf 6 fi243 1 3 [] [0, 3, 4] (x243_3_0) n (f243_0_c l0 x195 x196)) = f243_0 c lf l0 n := by funext x195 x196; exact ih x195 x196
    show f243_0_s c lf l0 (fun x195 x196 => lpK c env lf 6 fi243 1 3 [] [0, 3, 4] (x243_3_0) n (f243_0_c l0 x195 x196)) x195 x196 = _
    rw [e]; rfl
/-- loop.example/g00285/laws.toPageS -/
def f243_t (c : Orc) (lf : Nat) (lp0 : List T → Int → List T → Option (List T)) (l0 : List T) : Option (List T) :=
  bif iLe 0 (l0.length : Int) && iLe (l0.length : Int) (LIM : Int) && ((l0.length : Int) == (l0.length : Int)) then
  (lp0 l0 0 (List.replicate (l0.length : Int).toNat (T.st [T.b false, T.sl []]))).bind fun r198 =>
  some [T.sl (asL (nth r198 1))]
  else none
def f243 (c : Orc) (lf : Nat) (l0 : List T) : Option (List T) := f243_t c lf (fun (l0 : List T) (x195 : Int) (x196 : List T) => f243_0 c lf l0 lf x195 x196) l0
theorem f243_raw (c : Orc) (lf : Nat) (l0 : List T) : funK c env lf 6 fi243 [.sl l0] = f243_t c lf (fun (l0 : List T) (x195 : Int) (x196 : List T) => lpK c env lf 6 fi243 1 3 [] [0, 3, 4] (x243_3_0) lf (f243_0_c l0 x195 x196)) l0 := by kernel_rfl
theorem f243_eq (c : Orc) (lf : Nat) (l0 : List T) : funK c env lf 6 fi243 [.sl l0] = f243 c lf l0 := by
  refine (f243_raw c lf l0).trans ?_
  have e0 : (fun (l0 : List T) (x195 : Int) (x196 : List T) => lpK c env lf 6 fi243 1 3 [] [0, 3, 4] (x243_3_0) lf (f243_0_c l0 x195 x196)) = (fun (l0 : List T) (x195 : Int) (x196 : List T) => f243_0 c lf l0 lf x195 x196) := by funext l0 x195 x196; exact f243_0_eq c lf l0 lf x195 x196
  rw [e0]; rfl
/-- loop.example/g00285/laws.toBlock -/
def f220_t (c : Orc) (lf : Nat) (l0_0 : List T) (n0_1 : Int) (b0_2 : Bool) : Option (List T) :=
  (c 243 [T.sl l0_0]).bind fun r199 =>
  some [T.st [T.sl (asL (nth r199 0)), T.i .i64 n0_1, T.b b0_2]]
def f220 (c : Orc) (lf : Nat) (l0_0 : List T) (n0_1 : Int) (b0_2 : Bool) : Option (List T) := f220_t c lf l0_0 n0_1 b0_2
theorem f220_raw (c : Orc) (lf : Nat) (l0_0 : List T) (n0_1 : Int) (b0_2 : Bool) : funK c env lf 6 fi220 [.st [.sl l0_0, .i .i64 n0_1, .b b0_2]] = f220_t c lf l0_0 n0_1 b0_2 := by kernel_rfl
theorem f220_eq (c : Orc) (lf : Nat) (l0_0 : List T) (n0_1 : Int) (b0_2 : Bool) : funK c env lf 6 fi220 [.st [.sl l0_0, .i .i64 n0_1, .b b0_2]] = f220 c lf l0_0 n0_1 b0_2 := by
  refine (f220_raw c lf l0_0 n0_1 b0_2).trans ?_
  rfl
/-- loop.example/g00285/laws.toBlockS, the loop at region 3. -/
def f177_0_s (c : Orc) (lf : Nat) (l0 : List T) (L : Int → List T → Option (List T)) (x206 : Int) (x207 : List T) : Option (List T) :=
  bif iLt x206 (l0.length : Int) then
    bif inR x206 l0.length then
    (c 220 [T.st [T.sl (asL (T.cell (l0.getD x206.toNat T.u) 0)), T.i .i64 (asI (T.cell (l0.getD x206.toNat T.u) 1)), T.b (asB (T.cell (l0.getD x206.toNat T.u) 2))]]).bind fun r208 =>
    bif inR x206 x207.length then
    L (IntKind.wrap .i64 (x206 + 1)) (x207.set x206.toNat (T.st [T.sl (asL (T.cell (nth r208 0) 0)), T.i .i64 (asI (T.cell (nth r208 0) 1)), T.b (asB (T.cell (nth r208 0) 2))]))
    else none
    else none
  else
    some [T.i .i64 0, T.sl x207]
def f177_0_c (l0 : List T) (x206 : Int) (x207 : List T) : CSt := ⟨[.ro 0 true [.sl true [.b, .sl false [.i .u8]], .i .i64, .b] l0, .rf 1 [] 0 none, .i .i64 x206], [.dead, .row true [.sl true [.b, .sl false [.i .u8]], .i .i64, .b] x207 0 false]⟩
theorem f177_0_round (c : Orc) (lf : Nat) (l0 : List T) (L : CSt → Option (List T)) (x206 : Int) (x207 : List T) :
    roundK c env lf 6 fi177 1 3 [] [0, 3, 4] (x177_3_0) L (f177_0_c l0 x206 x207) = f177_0_s c lf l0 (fun x206 x207 => L (f177_0_c l0 x206 x207)) x206 x207 := by kernel_rfl
def f177_0 (c : Orc) (lf : Nat) (l0 : List T) : Nat → Int → List T → Option (List T)
  | 0 => fun _ _ => none
  | n + 1 => fun x206 x207 => f177_0_s c lf l0 (f177_0 c lf l0 n) x206 x207
theorem f177_0_u (c : Orc) (lf : Nat) (l0 : List T) (n : Nat) (x206 : Int) (x207 : List T) : f177_0 c lf l0 (n + 1) x206 x207 = f177_0_s c lf l0 (f177_0 c lf l0 n) x206 x207 := rfl
theorem f177_0_eq (c : Orc) (lf : Nat) (l0 : List T) (n : Nat) (x206 : Int) (x207 : List T) :
    lpK c env lf 6 fi177 1 3 [] [0, 3, 4] (x177_3_0) n (f177_0_c l0 x206 x207) = f177_0 c lf l0 n x206 x207 := by
  induction n generalizing x206 x207 with
  | zero => rfl
  | succ n ih =>
    refine (f177_0_round c lf l0 _ x206 x207).trans ?_
    have e : (fun x206 x207 => lpK c env lf 6 fi177 1 3 [] [0, 3, 4] (x177_3_0) n (f177_0_c l0 x206 x207)) = f177_0 c lf l0 n := by funext x206 x207; exact ih x206 x207
    show f177_0_s c lf l0 (fun x206 x207 => lpK c env lf 6 fi177 1 3 [] [0, 3, 4] (x177_3_0) n (f177_0_c l0 x206 x207)) x206 x207 = _
    rw [e]; rfl
/-- loop.example/g00285/laws.toBlockS -/
def f177_t (c : Orc) (lf : Nat) (lp0 : List T → Int → List T → Option (List T)) (l0 : List T) : Option (List T) :=
  bif iLe 0 (l0.length : Int) && iLe (l0.length : Int) (LIM : Int) && ((l0.length : Int) == (l0.length : Int)) then
  (lp0 l0 0 (List.replicate (l0.length : Int).toNat (T.st [T.sl [], T.i .i64 0, T.b false]))).bind fun r209 =>
  some [T.sl (asL (nth r209 1))]
  else none
def f177 (c : Orc) (lf : Nat) (l0 : List T) : Option (List T) := f177_t c lf (fun (l0 : List T) (x206 : Int) (x207 : List T) => f177_0 c lf l0 lf x206 x207) l0
theorem f177_raw (c : Orc) (lf : Nat) (l0 : List T) : funK c env lf 6 fi177 [.sl l0] = f177_t c lf (fun (l0 : List T) (x206 : Int) (x207 : List T) => lpK c env lf 6 fi177 1 3 [] [0, 3, 4] (x177_3_0) lf (f177_0_c l0 x206 x207)) l0 := by kernel_rfl
theorem f177_eq (c : Orc) (lf : Nat) (l0 : List T) : funK c env lf 6 fi177 [.sl l0] = f177 c lf l0 := by
  refine (f177_raw c lf l0).trans ?_
  have e0 : (fun (l0 : List T) (x206 : Int) (x207 : List T) => lpK c env lf 6 fi177 1 3 [] [0, 3, 4] (x177_3_0) lf (f177_0_c l0 x206 x207)) = (fun (l0 : List T) (x206 : Int) (x207 : List T) => f177_0 c lf l0 lf x206 x207) := by funext l0 x206 x207; exact f177_0_eq c lf l0 lf x206 x207
  rw [e0]; rfl
/-- loop.example/g00285/laws.toChip -/
def f126_t (c : Orc) (lf : Nat) (l0_0 : List T) : Option (List T) :=
  (c 177 [T.sl l0_0]).bind fun r210 =>
  some [T.st [T.sl (asL (nth r210 0))]]
def f126 (c : Orc) (lf : Nat) (l0_0 : List T) : Option (List T) := f126_t c lf l0_0
theorem f126_raw (c : Orc) (lf : Nat) (l0_0 : List T) : funK c env lf 6 fi126 [.st [.sl l0_0]] = f126_t c lf l0_0 := by kernel_rfl
theorem f126_eq (c : Orc) (lf : Nat) (l0_0 : List T) : funK c env lf 6 fi126 [.st [.sl l0_0]] = f126 c lf l0_0 := by
  refine (f126_raw c lf l0_0).trans ?_
  rfl
/-- loop.example/g00285/laws.toFault -/
def f178_t (c : Orc) (lf : Nat) (n0_0 : Int) (n0_1 : Int) (n0_2 : Int) : Option (List T) :=
  some [T.st [T.i .i64 n0_0, T.i .i64 n0_1, T.i .i64 n0_2]]
def f178 (c : Orc) (lf : Nat) (n0_0 : Int) (n0_1 : Int) (n0_2 : Int) : Option (List T) := f178_t c lf n0_0 n0_1 n0_2
theorem f178_raw (c : Orc) (lf : Nat) (n0_0 : Int) (n0_1 : Int) (n0_2 : Int) : funK c env lf 6 fi178 [.st [.i .i64 n0_0, .i .i64 n0_1, .i .i64 n0_2]] = f178_t c lf n0_0 n0_1 n0_2 := by kernel_rfl
theorem f178_eq (c : Orc) (lf : Nat) (n0_0 : Int) (n0_1 : Int) (n0_2 : Int) : funK c env lf 6 fi178 [.st [.i .i64 n0_0, .i .i64 n0_1, .i .i64 n0_2]] = f178 c lf n0_0 n0_1 n0_2 := by
  refine (f178_raw c lf n0_0 n0_1 n0_2).trans ?_
  rfl
/-- loop.example/g00285/laws.toFaultS, the loop at region 3. -/
def f127_0_s (c : Orc) (lf : Nat) (l0 : List T) (L : Int → List T → Option (List T)) (x217 : Int) (x218 : List T) : Option (List T) :=
  bif iLt x217 (l0.length : Int) then
    bif inR x217 l0.length then
    (c 178 [T.st [T.i .i64 (asI (T.cell (l0.getD x217.toNat T.u) 0)), T.i .i64 (asI (T.cell (l0.getD x217.toNat T.u) 1)), T.i .i64 (asI (T.cell (l0.getD x217.toNat T.u) 2))]]).bind fun r219 =>
    bif inR x217 x218.length then
    L (IntKind.wrap .i64 (x217 + 1)) (x218.set x217.toNat (T.st [T.i .i64 (asI (T.cell (nth r219 0) 0)), T.i .i64 (asI (T.cell (nth r219 0) 1)), T.i .i64 (asI (T.cell (nth r219 0) 2))]))
    else none
    else none
  else
    some [T.i .i64 0, T.sl x218]
def f127_0_c (l0 : List T) (x217 : Int) (x218 : List T) : CSt := ⟨[.ro 0 true [.i .i64, .i .i64, .i .i64] l0, .rf 1 [] 0 none, .i .i64 x217], [.dead, .row true [.i .i64, .i .i64, .i .i64] x218 0 false]⟩
theorem f127_0_round (c : Orc) (lf : Nat) (l0 : List T) (L : CSt → Option (List T)) (x217 : Int) (x218 : List T) :
    roundK c env lf 6 fi127 1 3 [] [0, 3, 4] (x127_3_0) L (f127_0_c l0 x217 x218) = f127_0_s c lf l0 (fun x217 x218 => L (f127_0_c l0 x217 x218)) x217 x218 := by kernel_rfl
def f127_0 (c : Orc) (lf : Nat) (l0 : List T) : Nat → Int → List T → Option (List T)
  | 0 => fun _ _ => none
  | n + 1 => fun x217 x218 => f127_0_s c lf l0 (f127_0 c lf l0 n) x217 x218
theorem f127_0_u (c : Orc) (lf : Nat) (l0 : List T) (n : Nat) (x217 : Int) (x218 : List T) : f127_0 c lf l0 (n + 1) x217 x218 = f127_0_s c lf l0 (f127_0 c lf l0 n) x217 x218 := rfl
theorem f127_0_eq (c : Orc) (lf : Nat) (l0 : List T) (n : Nat) (x217 : Int) (x218 : List T) :
    lpK c env lf 6 fi127 1 3 [] [0, 3, 4] (x127_3_0) n (f127_0_c l0 x217 x218) = f127_0 c lf l0 n x217 x218 := by
  induction n generalizing x217 x218 with
  | zero => rfl
  | succ n ih =>
    refine (f127_0_round c lf l0 _ x217 x218).trans ?_
    have e : (fun x217 x218 => lpK c env lf 6 fi127 1 3 [] [0, 3, 4] (x127_3_0) n (f127_0_c l0 x217 x218)) = f127_0 c lf l0 n := by funext x217 x218; exact ih x217 x218
    show f127_0_s c lf l0 (fun x217 x218 => lpK c env lf 6 fi127 1 3 [] [0, 3, 4] (x127_3_0) n (f127_0_c l0 x217 x218)) x217 x218 = _
    rw [e]; rfl
/-- loop.example/g00285/laws.toFaultS -/
def f127_t (c : Orc) (lf : Nat) (lp0 : List T → Int → List T → Option (List T)) (l0 : List T) : Option (List T) :=
  bif iLe 0 (l0.length : Int) && iLe (l0.length : Int) (LIM : Int) && ((l0.length : Int) == (l0.length : Int)) then
  (lp0 l0 0 (List.replicate (l0.length : Int).toNat (T.st [T.i .i64 0, T.i .i64 0, T.i .i64 0]))).bind fun r220 =>
  some [T.sl (asL (nth r220 1))]
  else none
def f127 (c : Orc) (lf : Nat) (l0 : List T) : Option (List T) := f127_t c lf (fun (l0 : List T) (x217 : Int) (x218 : List T) => f127_0 c lf l0 lf x217 x218) l0
theorem f127_raw (c : Orc) (lf : Nat) (l0 : List T) : funK c env lf 6 fi127 [.sl l0] = f127_t c lf (fun (l0 : List T) (x217 : Int) (x218 : List T) => lpK c env lf 6 fi127 1 3 [] [0, 3, 4] (x127_3_0) lf (f127_0_c l0 x217 x218)) l0 := by kernel_rfl
theorem f127_eq (c : Orc) (lf : Nat) (l0 : List T) : funK c env lf 6 fi127 [.sl l0] = f127 c lf l0 := by
  refine (f127_raw c lf l0).trans ?_
  have e0 : (fun (l0 : List T) (x217 : Int) (x218 : List T) => lpK c env lf 6 fi127 1 3 [] [0, 3, 4] (x127_3_0) lf (f127_0_c l0 x217 x218)) = (fun (l0 : List T) (x217 : Int) (x218 : List T) => f127_0 c lf l0 lf x217 x218) := by funext l0 x217 x218; exact f127_0_eq c lf l0 lf x217 x218
  rw [e0]; rfl
/-- loop.example/g00285/laws.toDev -/
def f73_t (c : Orc) (lf : Nat) (l0_0 : List T) (n0_1 : Int) (l0_2 : List T) (b0_3 : Bool) : Option (List T) :=
  (c 126 [T.st [T.sl l0_0]]).bind fun r221 =>
  (c 127 [T.sl l0_2]).bind fun r222 =>
  some [T.st [T.sl (asL (T.cell (nth r221 0) 0)), T.i .i64 n0_1, T.sl (asL (nth r222 0)), T.b b0_3]]
def f73 (c : Orc) (lf : Nat) (l0_0 : List T) (n0_1 : Int) (l0_2 : List T) (b0_3 : Bool) : Option (List T) := f73_t c lf l0_0 n0_1 l0_2 b0_3
theorem f73_raw (c : Orc) (lf : Nat) (l0_0 : List T) (n0_1 : Int) (l0_2 : List T) (b0_3 : Bool) : funK c env lf 6 fi73 [.st [.sl l0_0, .i .i64 n0_1, .sl l0_2, .b b0_3]] = f73_t c lf l0_0 n0_1 l0_2 b0_3 := by kernel_rfl
theorem f73_eq (c : Orc) (lf : Nat) (l0_0 : List T) (n0_1 : Int) (l0_2 : List T) (b0_3 : Bool) : funK c env lf 6 fi73 [.st [.sl l0_0, .i .i64 n0_1, .sl l0_2, .b b0_3]] = f73 c lf l0_0 n0_1 l0_2 b0_3 := by
  refine (f73_raw c lf l0_0 n0_1 l0_2 b0_3).trans ?_
  rfl
/-- loop.example/g00285/laws.toLog -/
def f20_t (c : Orc) (lf : Nat) (l0_0 : List T) (n0_1 : Int) (l0_2 : List T) (b0_3 : Bool) (n0_4 : Int) : Option (List T) :=
  (c 73 [T.st [T.sl l0_0, T.i .i64 n0_1, T.sl l0_2, T.b b0_3]]).bind fun r223 =>
  some [T.st [T.sl (asL (T.cell (nth r223 0) 0)), T.i .i64 (asI (T.cell (nth r223 0) 1)), T.sl (asL (T.cell (nth r223 0) 2)), T.b (asB (T.cell (nth r223 0) 3)), T.i .i64 n0_4]]
def f20 (c : Orc) (lf : Nat) (l0_0 : List T) (n0_1 : Int) (l0_2 : List T) (b0_3 : Bool) (n0_4 : Int) : Option (List T) := f20_t c lf l0_0 n0_1 l0_2 b0_3 n0_4
theorem f20_raw (c : Orc) (lf : Nat) (l0_0 : List T) (n0_1 : Int) (l0_2 : List T) (b0_3 : Bool) (n0_4 : Int) : funK c env lf 6 fi20 [.st [.sl l0_0, .i .i64 n0_1, .sl l0_2, .b b0_3, .i .i64 n0_4]] = f20_t c lf l0_0 n0_1 l0_2 b0_3 n0_4 := by kernel_rfl
theorem f20_eq (c : Orc) (lf : Nat) (l0_0 : List T) (n0_1 : Int) (l0_2 : List T) (b0_3 : Bool) (n0_4 : Int) : funK c env lf 6 fi20 [.st [.sl l0_0, .i .i64 n0_1, .sl l0_2, .b b0_3, .i .i64 n0_4]] = f20 c lf l0_0 n0_1 l0_2 b0_3 n0_4 := by
  refine (f20_raw c lf l0_0 n0_1 l0_2 b0_3 n0_4).trans ?_
  rfl
/-- loop.example/g00285/laws.toEng -/
def f55_t (c : Orc) (lf : Nat) (l0_0 : List T) (n0_1 : Int) (l0_2 : List T) (n0_3 : Int) (n0_4 : Int) (l0_5 : List T) (l0_6 : List T) (n0_7 : Int) (n0_8 : Int) (l0_9 : List T) (n0_10 : Int) (l0_11 : List T) (b0_12 : Bool) (n0_13 : Int) : Option (List T) :=
  (c 110 [T.st [T.sl l0_0, T.i .i64 n0_1]]).bind fun r224 =>
  (c 111 [T.st [T.sl l0_2, T.i .i64 n0_3, T.i .i64 n0_4, T.sl l0_5, T.sl l0_6, T.i .i64 n0_7, T.i .i64 n0_8]]).bind fun r225 =>
  (c 20 [T.st [T.sl l0_9, T.i .i64 n0_10, T.sl l0_11, T.b b0_12, T.i .i64 n0_13]]).bind fun r226 =>
  some [T.st [T.sl (asL (T.cell (nth r224 0) 0)), T.i .i64 (asI (T.cell (nth r224 0) 1)), T.sl (asL (T.cell (nth r225 0) 0)), T.i .i64 (asI (T.cell (nth r225 0) 1)), T.i .i64 (asI (T.cell (nth r225 0) 2)), T.sl (asL (T.cell (nth r225 0) 3)), T.sl (asL (T.cell (nth r225 0) 4)), T.i .i64 (asI (T.cell (nth r225 0) 5)), T.i .i64 (asI (T.cell (nth r225 0) 6)), T.sl (asL (T.cell (nth r226 0) 0)), T.i .i64 (asI (T.cell (nth r226 0) 1)), T.sl (asL (T.cell (nth r226 0) 2)), T.b (asB (T.cell (nth r226 0) 3)), T.i .i64 (asI (T.cell (nth r226 0) 4))]]
def f55 (c : Orc) (lf : Nat) (l0_0 : List T) (n0_1 : Int) (l0_2 : List T) (n0_3 : Int) (n0_4 : Int) (l0_5 : List T) (l0_6 : List T) (n0_7 : Int) (n0_8 : Int) (l0_9 : List T) (n0_10 : Int) (l0_11 : List T) (b0_12 : Bool) (n0_13 : Int) : Option (List T) := f55_t c lf l0_0 n0_1 l0_2 n0_3 n0_4 l0_5 l0_6 n0_7 n0_8 l0_9 n0_10 l0_11 b0_12 n0_13
theorem f55_raw (c : Orc) (lf : Nat) (l0_0 : List T) (n0_1 : Int) (l0_2 : List T) (n0_3 : Int) (n0_4 : Int) (l0_5 : List T) (l0_6 : List T) (n0_7 : Int) (n0_8 : Int) (l0_9 : List T) (n0_10 : Int) (l0_11 : List T) (b0_12 : Bool) (n0_13 : Int) : funK c env lf 6 fi55 [.st [.sl l0_0, .i .i64 n0_1, .sl l0_2, .i .i64 n0_3, .i .i64 n0_4, .sl l0_5, .sl l0_6, .i .i64 n0_7, .i .i64 n0_8, .sl l0_9, .i .i64 n0_10, .sl l0_11, .b b0_12, .i .i64 n0_13]] = f55_t c lf l0_0 n0_1 l0_2 n0_3 n0_4 l0_5 l0_6 n0_7 n0_8 l0_9 n0_10 l0_11 b0_12 n0_13 := by kernel_rfl
theorem f55_eq (c : Orc) (lf : Nat) (l0_0 : List T) (n0_1 : Int) (l0_2 : List T) (n0_3 : Int) (n0_4 : Int) (l0_5 : List T) (l0_6 : List T) (n0_7 : Int) (n0_8 : Int) (l0_9 : List T) (n0_10 : Int) (l0_11 : List T) (b0_12 : Bool) (n0_13 : Int) : funK c env lf 6 fi55 [.st [.sl l0_0, .i .i64 n0_1, .sl l0_2, .i .i64 n0_3, .i .i64 n0_4, .sl l0_5, .sl l0_6, .i .i64 n0_7, .i .i64 n0_8, .sl l0_9, .i .i64 n0_10, .sl l0_11, .b b0_12, .i .i64 n0_13]] = f55 c lf l0_0 n0_1 l0_2 n0_3 n0_4 l0_5 l0_6 n0_7 n0_8 l0_9 n0_10 l0_11 b0_12 n0_13 := by
  refine (f55_raw c lf l0_0 n0_1 l0_2 n0_3 n0_4 l0_5 l0_6 n0_7 n0_8 l0_9 n0_10 l0_11 b0_12 n0_13).trans ?_
  rfl
/-- loop.example/g00285/spec.l3SameBytes, the loop at region 4. -/
def f234_0_s (c : Orc) (lf : Nat) (l0 : List T) (l1 : List T) (L : Int → Option (List T)) (x229 : Int) : Option (List T) :=
  bif iLt x229 (l0.length : Int) then
    bif inR x229 l0.length then
    bif inR x229 l1.length then
    bif (asI (l0.getD x229.toNat T.u)) != (asI (l1.getD x229.toNat T.u)) then
      some [T.i .i64 0, T.b false]
    else
      L (IntKind.wrap .i64 (x229 + 1))
    else none
    else none
  else
    some [T.i .i64 1]
def f234_0_c (l0 : List T) (l1 : List T) (x229 : Int) : CSt := ⟨[.ro 0 false [.i .u8] l0, .ro 0 false [.i .u8] l1, .i .i64 x229], [.dead, .dead]⟩
theorem f234_0_round (c : Orc) (lf : Nat) (l0 : List T) (l1 : List T) (L : CSt → Option (List T)) (x229 : Int) :
    roundK c env lf 6 fi234 2 4 [] [0, 1, 5] (x234_4_0) L (f234_0_c l0 l1 x229) = f234_0_s c lf l0 l1 (fun x229 => L (f234_0_c l0 l1 x229)) x229 := by kernel_rfl
def f234_0 (c : Orc) (lf : Nat) (l0 : List T) (l1 : List T) : Nat → Int → Option (List T)
  | 0 => fun _ => none
  | n + 1 => fun x229 => f234_0_s c lf l0 l1 (f234_0 c lf l0 l1 n) x229
theorem f234_0_u (c : Orc) (lf : Nat) (l0 : List T) (l1 : List T) (n : Nat) (x229 : Int) : f234_0 c lf l0 l1 (n + 1) x229 = f234_0_s c lf l0 l1 (f234_0 c lf l0 l1 n) x229 := rfl
theorem f234_0_eq (c : Orc) (lf : Nat) (l0 : List T) (l1 : List T) (n : Nat) (x229 : Int) :
    lpK c env lf 6 fi234 2 4 [] [0, 1, 5] (x234_4_0) n (f234_0_c l0 l1 x229) = f234_0 c lf l0 l1 n x229 := by
  induction n generalizing x229 with
  | zero => rfl
  | succ n ih =>
    refine (f234_0_round c lf l0 l1 _ x229).trans ?_
    have e : (fun x229 => lpK c env lf 6 fi234 2 4 [] [0, 1, 5] (x234_4_0) n (f234_0_c l0 l1 x229)) = f234_0 c lf l0 l1 n := by funext x229; exact ih x229
    show f234_0_s c lf l0 l1 (fun x229 => lpK c env lf 6 fi234 2 4 [] [0, 1, 5] (x234_4_0) n (f234_0_c l0 l1 x229)) x229 = _
    rw [e]; rfl
/-- loop.example/g00285/spec.l3SameBytes -/
def f234_t (c : Orc) (lf : Nat) (lp0 : List T → List T → Int → Option (List T)) (l0 : List T) (l1 : List T) : Option (List T) :=
  bif (l0.length : Int) != (l1.length : Int) then
    some [T.b false]
  else
    (lp0 l0 l1 0).bind fun r230 =>
    bif asI (nth r230 0) == 0 then
      some [T.b (asB (nth r230 1))]
    else
      some [T.b true]
def f234 (c : Orc) (lf : Nat) (l0 : List T) (l1 : List T) : Option (List T) := f234_t c lf (fun (l0 : List T) (l1 : List T) (x229 : Int) => f234_0 c lf l0 l1 lf x229) l0 l1
theorem f234_raw (c : Orc) (lf : Nat) (l0 : List T) (l1 : List T) : funK c env lf 6 fi234 [.sl l0, .sl l1] = f234_t c lf (fun (l0 : List T) (l1 : List T) (x229 : Int) => lpK c env lf 6 fi234 2 4 [] [0, 1, 5] (x234_4_0) lf (f234_0_c l0 l1 x229)) l0 l1 := by kernel_rfl
theorem f234_eq (c : Orc) (lf : Nat) (l0 : List T) (l1 : List T) : funK c env lf 6 fi234 [.sl l0, .sl l1] = f234 c lf l0 l1 := by
  refine (f234_raw c lf l0 l1).trans ?_
  have e0 : (fun (l0 : List T) (l1 : List T) (x229 : Int) => lpK c env lf 6 fi234 2 4 [] [0, 1, 5] (x234_4_0) lf (f234_0_c l0 l1 x229)) = (fun (l0 : List T) (l1 : List T) (x229 : Int) => f234_0 c lf l0 l1 lf x229) := by funext l0 l1 x229; exact f234_0_eq c lf l0 l1 lf x229
  rw [e0]; rfl
/-- loop.example/g00285/spec.SameInode, the loop at region 4. -/
def f207_0_s (c : Orc) (lf : Nat) (l0_3 : List T) (l0_4 : List T) (l0_5 : List T) (l1_3 : List T) (l1_4 : List T) (l1_5 : List T) (n0_0 : Int) (n0_1 : Int) (n0_2 : Int) (n1_0 : Int) (n1_1 : Int) (n1_2 : Int) (L : Int → Option (List T)) (x237 : Int) : Option (List T) :=
  bif iLt x237 (l0_4.length : Int) then
    bif inR x237 l0_4.length then
    bif inR x237 l1_4.length then
    bif !(((asS (T.cell (l0_4.getD x237.toNat T.u) 0)) == (asS (T.cell (l1_4.getD x237.toNat T.u) 0))) && (((asI (T.cell (l0_4.getD x237.toNat T.u) 1)) == (asI (T.cell (l1_4.getD x237.toNat T.u) 1))) && (true))) then
      some [T.i .i64 0, T.b false]
    else
      L (IntKind.wrap .i64 (x237 + 1))
    else none
    else none
  else
    some [T.i .i64 1, T.i .i64 n0_0, T.i .i64 n0_1, T.i .i64 n0_2, T.sl l0_3, T.sl l0_4, T.sl l0_5, T.i .i64 n1_0, T.i .i64 n1_1, T.i .i64 n1_2, T.sl l1_3, T.sl l1_4, T.sl l1_5]
def f207_0_c (l0_3 : List T) (l0_4 : List T) (l0_5 : List T) (l1_3 : List T) (l1_4 : List T) (l1_5 : List T) (n0_0 : Int) (n0_1 : Int) (n0_2 : Int) (n1_0 : Int) (n1_1 : Int) (n1_2 : Int) (x237 : Int) : CSt := ⟨[.bp 12 0, .bp 13 0, .i .i64 x237], [.dead, .dead, .dead, .dead, .dead, .dead, .dead, .dead, .dead, .dead, .dead, .dead, .box [.i .i64 n0_0, .i .i64 n0_1, .i .i64 n0_2, .ro 0 false [.i .u8] l0_3, .ro 0 true [.s, .i .i64] l0_4, .ro 0 true [.s, .s] l0_5], .box [.i .i64 n1_0, .i .i64 n1_1, .i .i64 n1_2, .ro 0 false [.i .u8] l1_3, .ro 0 true [.s, .i .i64] l1_4, .ro 0 true [.s, .s] l1_5]]⟩
theorem f207_0_round (c : Orc) (lf : Nat) (l0_3 : List T) (l0_4 : List T) (l0_5 : List T) (l1_3 : List T) (l1_4 : List T) (l1_5 : List T) (n0_0 : Int) (n0_1 : Int) (n0_2 : Int) (n1_0 : Int) (n1_1 : Int) (n1_2 : Int) (L : CSt → Option (List T)) (x237 : Int) :
    roundK c env lf 6 fi207 12 4 [] [2, 3, 5] (x207_4_0) L (f207_0_c l0_3 l0_4 l0_5 l1_3 l1_4 l1_5 n0_0 n0_1 n0_2 n1_0 n1_1 n1_2 x237) = f207_0_s c lf l0_3 l0_4 l0_5 l1_3 l1_4 l1_5 n0_0 n0_1 n0_2 n1_0 n1_1 n1_2 (fun x237 => L (f207_0_c l0_3 l0_4 l0_5 l1_3 l1_4 l1_5 n0_0 n0_1 n0_2 n1_0 n1_1 n1_2 x237)) x237 := by kernel_rfl
def f207_0 (c : Orc) (lf : Nat) (l0_3 : List T) (l0_4 : List T) (l0_5 : List T) (l1_3 : List T) (l1_4 : List T) (l1_5 : List T) (n0_0 : Int) (n0_1 : Int) (n0_2 : Int) (n1_0 : Int) (n1_1 : Int) (n1_2 : Int) : Nat → Int → Option (List T)
  | 0 => fun _ => none
  | n + 1 => fun x237 => f207_0_s c lf l0_3 l0_4 l0_5 l1_3 l1_4 l1_5 n0_0 n0_1 n0_2 n1_0 n1_1 n1_2 (f207_0 c lf l0_3 l0_4 l0_5 l1_3 l1_4 l1_5 n0_0 n0_1 n0_2 n1_0 n1_1 n1_2 n) x237
theorem f207_0_u (c : Orc) (lf : Nat) (l0_3 : List T) (l0_4 : List T) (l0_5 : List T) (l1_3 : List T) (l1_4 : List T) (l1_5 : List T) (n0_0 : Int) (n0_1 : Int) (n0_2 : Int) (n1_0 : Int) (n1_1 : Int) (n1_2 : Int) (n : Nat) (x237 : Int) : f207_0 c lf l0_3 l0_4 l0_5 l1_3 l1_4 l1_5 n0_0 n0_1 n0_2 n1_0 n1_1 n1_2 (n + 1) x237 = f207_0_s c lf l0_3 l0_4 l0_5 l1_3 l1_4 l1_5 n0_0 n0_1 n0_2 n1_0 n1_1 n1_2 (f207_0 c lf l0_3 l0_4 l0_5 l1_3 l1_4 l1_5 n0_0 n0_1 n0_2 n1_0 n1_1 n1_2 n) x237 := rfl
theorem f207_0_eq (c : Orc) (lf : Nat) (l0_3 : List T) (l0_4 : List T) (l0_5 : List T) (l1_3 : List T) (l1_4 : List T) (l1_5 : List T) (n0_0 : Int) (n0_1 : Int) (n0_2 : Int) (n1_0 : Int) (n1_1 : Int) (n1_2 : Int) (n : Nat) (x237 : Int) :
    lpK c env lf 6 fi207 12 4 [] [2, 3, 5] (x207_4_0) n (f207_0_c l0_3 l0_4 l0_5 l1_3 l1_4 l1_5 n0_0 n0_1 n0_2 n1_0 n1_1 n1_2 x237) = f207_0 c lf l0_3 l0_4 l0_5 l1_3 l1_4 l1_5 n0_0 n0_1 n0_2 n1_0 n1_1 n1_2 n x237 := by
  induction n generalizing x237 with
  | zero => rfl
  | succ n ih =>
    refine (f207_0_round c lf l0_3 l0_4 l0_5 l1_3 l1_4 l1_5 n0_0 n0_1 n0_2 n1_0 n1_1 n1_2 _ x237).trans ?_
    have e : (fun x237 => lpK c env lf 6 fi207 12 4 [] [2, 3, 5] (x207_4_0) n (f207_0_c l0_3 l0_4 l0_5 l1_3 l1_4 l1_5 n0_0 n0_1 n0_2 n1_0 n1_1 n1_2 x237)) = f207_0 c lf l0_3 l0_4 l0_5 l1_3 l1_4 l1_5 n0_0 n0_1 n0_2 n1_0 n1_1 n1_2 n := by funext x237; exact ih x237
    show f207_0_s c lf l0_3 l0_4 l0_5 l1_3 l1_4 l1_5 n0_0 n0_1 n0_2 n1_0 n1_1 n1_2 (fun x237 => lpK c env lf 6 fi207 12 4 [] [2, 3, 5] (x207_4_0) n (f207_0_c l0_3 l0_4 l0_5 l1_3 l1_4 l1_5 n0_0 n0_1 n0_2 n1_0 n1_1 n1_2 x237)) x237 = _
    rw [e]; rfl
/-- loop.example/g00285/spec.SameInode, the loop at region 9. -/
def f207_1_s (c : Orc) (lf : Nat) (r238 : List T) (L : Int → Option (List T)) (x239 : Int) : Option (List T) :=
  bif iLt x239 ((asL (nth r238 6)).length : Int) then
    bif inR x239 ((asL (nth r238 6)).length) then
    bif inR x239 ((asL (nth r238 12)).length) then
    bif !(((asS (T.cell ((asL (nth r238 6)).getD x239.toNat T.u) 0)) == (asS (T.cell ((asL (nth r238 12)).getD x239.toNat T.u) 0))) && (((asS (T.cell ((asL (nth r238 6)).getD x239.toNat T.u) 1)) == (asS (T.cell ((asL (nth r238 12)).getD x239.toNat T.u) 1))) && (true))) then
      some [T.i .i64 0, T.b false]
    else
      L (IntKind.wrap .i64 (x239 + 1))
    else none
    else none
  else
    some [T.i .i64 1]
def f207_1_c (r238 : List T) (x239 : Int) : CSt := ⟨[.bp 12 0, .bp 13 0, .i .i64 x239], [.dead, .dead, .dead, .dead, .dead, .dead, .dead, .dead, .dead, .dead, .dead, .dead, .box [.i .i64 (asI (nth r238 1)), .i .i64 (asI (nth r238 2)), .i .i64 (asI (nth r238 3)), .ro 0 false [.i .u8] (asL (nth r238 4)), .ro 0 true [.s, .i .i64] (asL (nth r238 5)), .ro 0 true [.s, .s] (asL (nth r238 6))], .box [.i .i64 (asI (nth r238 7)), .i .i64 (asI (nth r238 8)), .i .i64 (asI (nth r238 9)), .ro 0 false [.i .u8] (asL (nth r238 10)), .ro 0 true [.s, .i .i64] (asL (nth r238 11)), .ro 0 true [.s, .s] (asL (nth r238 12))]]⟩
theorem f207_1_round (c : Orc) (lf : Nat) (r238 : List T) (L : CSt → Option (List T)) (x239 : Int) :
    roundK c env lf 6 fi207 12 9 [] [2, 3, 6] (x207_9_0) L (f207_1_c r238 x239) = f207_1_s c lf r238 (fun x239 => L (f207_1_c r238 x239)) x239 := by kernel_rfl
def f207_1 (c : Orc) (lf : Nat) (r238 : List T) : Nat → Int → Option (List T)
  | 0 => fun _ => none
  | n + 1 => fun x239 => f207_1_s c lf r238 (f207_1 c lf r238 n) x239
theorem f207_1_u (c : Orc) (lf : Nat) (r238 : List T) (n : Nat) (x239 : Int) : f207_1 c lf r238 (n + 1) x239 = f207_1_s c lf r238 (f207_1 c lf r238 n) x239 := rfl
theorem f207_1_eq (c : Orc) (lf : Nat) (r238 : List T) (n : Nat) (x239 : Int) :
    lpK c env lf 6 fi207 12 9 [] [2, 3, 6] (x207_9_0) n (f207_1_c r238 x239) = f207_1 c lf r238 n x239 := by
  induction n generalizing x239 with
  | zero => rfl
  | succ n ih =>
    refine (f207_1_round c lf r238 _ x239).trans ?_
    have e : (fun x239 => lpK c env lf 6 fi207 12 9 [] [2, 3, 6] (x207_9_0) n (f207_1_c r238 x239)) = f207_1 c lf r238 n := by funext x239; exact ih x239
    show f207_1_s c lf r238 (fun x239 => lpK c env lf 6 fi207 12 9 [] [2, 3, 6] (x207_9_0) n (f207_1_c r238 x239)) x239 = _
    rw [e]; rfl
/-- loop.example/g00285/spec.SameInode -/
def f207_t (c : Orc) (lf : Nat) (lp0 : List T → List T → List T → List T → List T → List T → Int → Int → Int → Int → Int → Int → Int → Option (List T)) (lp1 : List T → Int → Option (List T)) (n0_0 : Int) (n0_1 : Int) (n0_2 : Int) (l0_3 : List T) (l0_4 : List T) (l0_5 : List T) (n1_0 : Int) (n1_1 : Int) (n1_2 : Int) (l1_3 : List T) (l1_4 : List T) (l1_5 : List T) : Option (List T) :=
  bif n0_0 != n1_0 then
    some [T.b false]
  else
    bif n0_1 != n1_1 then
      some [T.b false]
    else
      bif n0_2 != n1_2 then
        some [T.b false]
      else
        (c 234 [T.sl l0_3, T.sl l1_3]).bind fun r236 =>
        bif !(asB (nth r236 0)) then
          some [T.b false]
        else
          bif (l0_4.length : Int) != (l1_4.length : Int) then
            some [T.b false]
          else
            bif (l0_5.length : Int) != (l1_5.length : Int) then
              some [T.b false]
            else
              (lp0 l0_3 l0_4 l0_5 l1_3 l1_4 l1_5 n0_0 n0_1 n0_2 n1_0 n1_1 n1_2 0).bind fun r238 =>
              bif asI (nth r238 0) == 0 then
                some [T.b (asB (nth r238 1))]
              else
                (lp1 r238 0).bind fun r240 =>
                bif asI (nth r240 0) == 0 then
                  some [T.b (asB (nth r240 1))]
                else
                  some [T.b true]
def f207 (c : Orc) (lf : Nat) (n0_0 : Int) (n0_1 : Int) (n0_2 : Int) (l0_3 : List T) (l0_4 : List T) (l0_5 : List T) (n1_0 : Int) (n1_1 : Int) (n1_2 : Int) (l1_3 : List T) (l1_4 : List T) (l1_5 : List T) : Option (List T) := f207_t c lf (fun (l0_3 : List T) (l0_4 : List T) (l0_5 : List T) (l1_3 : List T) (l1_4 : List T) (l1_5 : List T) (n0_0 : Int) (n0_1 : Int) (n0_2 : Int) (n1_0 : Int) (n1_1 : Int) (n1_2 : Int) (x237 : Int) => f207_0 c lf l0_3 l0_4 l0_5 l1_3 l1_4 l1_5 n0_0 n0_1 n0_2 n1_0 n1_1 n1_2 lf x237) (fun (r238 : List T) (x239 : Int) => f207_1 c lf r238 lf x239) n0_0 n0_1 n0_2 l0_3 l0_4 l0_5 n1_0 n1_1 n1_2 l1_3 l1_4 l1_5
theorem f207_raw (c : Orc) (lf : Nat) (n0_0 : Int) (n0_1 : Int) (n0_2 : Int) (l0_3 : List T) (l0_4 : List T) (l0_5 : List T) (n1_0 : Int) (n1_1 : Int) (n1_2 : Int) (l1_3 : List T) (l1_4 : List T) (l1_5 : List T) : funK c env lf 6 fi207 [.st [.i .i64 n0_0, .i .i64 n0_1, .i .i64 n0_2, .sl l0_3, .sl l0_4, .sl l0_5], .st [.i .i64 n1_0, .i .i64 n1_1, .i .i64 n1_2, .sl l1_3, .sl l1_4, .sl l1_5]] = f207_t c lf (fun (l0_3 : List T) (l0_4 : List T) (l0_5 : List T) (l1_3 : List T) (l1_4 : List T) (l1_5 : List T) (n0_0 : Int) (n0_1 : Int) (n0_2 : Int) (n1_0 : Int) (n1_1 : Int) (n1_2 : Int) (x237 : Int) => lpK c env lf 6 fi207 12 4 [] [2, 3, 5] (x207_4_0) lf (f207_0_c l0_3 l0_4 l0_5 l1_3 l1_4 l1_5 n0_0 n0_1 n0_2 n1_0 n1_1 n1_2 x237)) (fun (r238 : List T) (x239 : Int) => lpK c env lf 6 fi207 12 9 [] [2, 3, 6] (x207_9_0) lf (f207_1_c r238 x239)) n0_0 n0_1 n0_2 l0_3 l0_4 l0_5 n1_0 n1_1 n1_2 l1_3 l1_4 l1_5 := by kernel_rfl
theorem f207_eq (c : Orc) (lf : Nat) (n0_0 : Int) (n0_1 : Int) (n0_2 : Int) (l0_3 : List T) (l0_4 : List T) (l0_5 : List T) (n1_0 : Int) (n1_1 : Int) (n1_2 : Int) (l1_3 : List T) (l1_4 : List T) (l1_5 : List T) : funK c env lf 6 fi207 [.st [.i .i64 n0_0, .i .i64 n0_1, .i .i64 n0_2, .sl l0_3, .sl l0_4, .sl l0_5], .st [.i .i64 n1_0, .i .i64 n1_1, .i .i64 n1_2, .sl l1_3, .sl l1_4, .sl l1_5]] = f207 c lf n0_0 n0_1 n0_2 l0_3 l0_4 l0_5 n1_0 n1_1 n1_2 l1_3 l1_4 l1_5 := by
  refine (f207_raw c lf n0_0 n0_1 n0_2 l0_3 l0_4 l0_5 n1_0 n1_1 n1_2 l1_3 l1_4 l1_5).trans ?_
  have e0 : (fun (l0_3 : List T) (l0_4 : List T) (l0_5 : List T) (l1_3 : List T) (l1_4 : List T) (l1_5 : List T) (n0_0 : Int) (n0_1 : Int) (n0_2 : Int) (n1_0 : Int) (n1_1 : Int) (n1_2 : Int) (x237 : Int) => lpK c env lf 6 fi207 12 4 [] [2, 3, 5] (x207_4_0) lf (f207_0_c l0_3 l0_4 l0_5 l1_3 l1_4 l1_5 n0_0 n0_1 n0_2 n1_0 n1_1 n1_2 x237)) = (fun (l0_3 : List T) (l0_4 : List T) (l0_5 : List T) (l1_3 : List T) (l1_4 : List T) (l1_5 : List T) (n0_0 : Int) (n0_1 : Int) (n0_2 : Int) (n1_0 : Int) (n1_1 : Int) (n1_2 : Int) (x237 : Int) => f207_0 c lf l0_3 l0_4 l0_5 l1_3 l1_4 l1_5 n0_0 n0_1 n0_2 n1_0 n1_1 n1_2 lf x237) := by funext l0_3 l0_4 l0_5 l1_3 l1_4 l1_5 n0_0 n0_1 n0_2 n1_0 n1_1 n1_2 x237; exact f207_0_eq c lf l0_3 l0_4 l0_5 l1_3 l1_4 l1_5 n0_0 n0_1 n0_2 n1_0 n1_1 n1_2 lf x237
  have e1 : (fun (r238 : List T) (x239 : Int) => lpK c env lf 6 fi207 12 9 [] [2, 3, 6] (x207_9_0) lf (f207_1_c r238 x239)) = (fun (r238 : List T) (x239 : Int) => f207_1 c lf r238 lf x239) := by funext r238 x239; exact f207_1_eq c lf r238 lf x239
  rw [e0, e1]; rfl
/-- loop.example/g00285/spec.SameTab, the loop at region 4. -/
def f162_0_s (c : Orc) (lf : Nat) (l0_0 : List T) (l1_0 : List T) (n0_1 : Int) (n1_1 : Int) (L : Int → Option (List T)) (x246 : Int) : Option (List T) :=
  bif iLt x246 (l0_0.length : Int) then
    bif inR x246 l0_0.length then
    bif inR x246 l1_0.length then
    (c 207 [T.st [T.i .i64 (asI (T.cell (l0_0.getD x246.toNat T.u) 0)), T.i .i64 (asI (T.cell (l0_0.getD x246.toNat T.u) 1)), T.i .i64 (asI (T.cell (l0_0.getD x246.toNat T.u) 2)), T.sl (asL (T.cell (l0_0.getD x246.toNat T.u) 3)), T.sl (asL (T.cell (l0_0.getD x246.toNat T.u) 4)), T.sl (asL (T.cell (l0_0.getD x246.toNat T.u) 5))], T.st [T.i .i64 (asI (T.cell (l1_0.getD x246.toNat T.u) 0)), T.i .i64 (asI (T.cell (l1_0.getD x246.toNat T.u) 1)), T.i .i64 (asI (T.cell (l1_0.getD x246.toNat T.u) 2)), T.sl (asL (T.cell (l1_0.getD x246.toNat T.u) 3)), T.sl (asL (T.cell (l1_0.getD x246.toNat T.u) 4)), T.sl (asL (T.cell (l1_0.getD x246.toNat T.u) 5))]]).bind fun r247 =>
    bif !(asB (nth r247 0)) then
      some [T.i .i64 0, T.b false]
    else
      L (IntKind.wrap .i64 (x246 + 1))
    else none
    else none
  else
    some [T.i .i64 1]
def f162_0_c (l0_0 : List T) (l1_0 : List T) (n0_1 : Int) (n1_1 : Int) (x246 : Int) : CSt := ⟨[.bp 4 0, .bp 5 0, .i .i64 x246], [.dead, .dead, .dead, .dead, .box [.ro 0 true [.i .i64, .i .i64, .i .i64, .sl false [.i .u8], .sl true [.s, .i .i64], .sl true [.s, .s]] l0_0, .i .i64 n0_1], .box [.ro 0 true [.i .i64, .i .i64, .i .i64, .sl false [.i .u8], .sl true [.s, .i .i64], .sl true [.s, .s]] l1_0, .i .i64 n1_1]]⟩
theorem f162_0_round (c : Orc) (lf : Nat) (l0_0 : List T) (l1_0 : List T) (n0_1 : Int) (n1_1 : Int) (L : CSt → Option (List T)) (x246 : Int) :
    roundK c env lf 6 fi162 4 4 [] [2, 3, 5] (x162_4_0) L (f162_0_c l0_0 l1_0 n0_1 n1_1 x246) = f162_0_s c lf l0_0 l1_0 n0_1 n1_1 (fun x246 => L (f162_0_c l0_0 l1_0 n0_1 n1_1 x246)) x246 := by kernel_rfl
def f162_0 (c : Orc) (lf : Nat) (l0_0 : List T) (l1_0 : List T) (n0_1 : Int) (n1_1 : Int) : Nat → Int → Option (List T)
  | 0 => fun _ => none
  | n + 1 => fun x246 => f162_0_s c lf l0_0 l1_0 n0_1 n1_1 (f162_0 c lf l0_0 l1_0 n0_1 n1_1 n) x246
theorem f162_0_u (c : Orc) (lf : Nat) (l0_0 : List T) (l1_0 : List T) (n0_1 : Int) (n1_1 : Int) (n : Nat) (x246 : Int) : f162_0 c lf l0_0 l1_0 n0_1 n1_1 (n + 1) x246 = f162_0_s c lf l0_0 l1_0 n0_1 n1_1 (f162_0 c lf l0_0 l1_0 n0_1 n1_1 n) x246 := rfl
theorem f162_0_eq (c : Orc) (lf : Nat) (l0_0 : List T) (l1_0 : List T) (n0_1 : Int) (n1_1 : Int) (n : Nat) (x246 : Int) :
    lpK c env lf 6 fi162 4 4 [] [2, 3, 5] (x162_4_0) n (f162_0_c l0_0 l1_0 n0_1 n1_1 x246) = f162_0 c lf l0_0 l1_0 n0_1 n1_1 n x246 := by
  induction n generalizing x246 with
  | zero => rfl
  | succ n ih =>
    refine (f162_0_round c lf l0_0 l1_0 n0_1 n1_1 _ x246).trans ?_
    have e : (fun x246 => lpK c env lf 6 fi162 4 4 [] [2, 3, 5] (x162_4_0) n (f162_0_c l0_0 l1_0 n0_1 n1_1 x246)) = f162_0 c lf l0_0 l1_0 n0_1 n1_1 n := by funext x246; exact ih x246
    show f162_0_s c lf l0_0 l1_0 n0_1 n1_1 (fun x246 => lpK c env lf 6 fi162 4 4 [] [2, 3, 5] (x162_4_0) n (f162_0_c l0_0 l1_0 n0_1 n1_1 x246)) x246 = _
    rw [e]; rfl
/-- loop.example/g00285/spec.SameTab -/
def f162_t (c : Orc) (lf : Nat) (lp0 : List T → List T → Int → Int → Int → Option (List T)) (l0_0 : List T) (n0_1 : Int) (l1_0 : List T) (n1_1 : Int) : Option (List T) :=
  bif n0_1 != n1_1 then
    some [T.b false]
  else
    bif (l0_0.length : Int) != (l1_0.length : Int) then
      some [T.b false]
    else
      (lp0 l0_0 l1_0 n0_1 n1_1 0).bind fun r248 =>
      bif asI (nth r248 0) == 0 then
        some [T.b (asB (nth r248 1))]
      else
        some [T.b true]
def f162 (c : Orc) (lf : Nat) (l0_0 : List T) (n0_1 : Int) (l1_0 : List T) (n1_1 : Int) : Option (List T) := f162_t c lf (fun (l0_0 : List T) (l1_0 : List T) (n0_1 : Int) (n1_1 : Int) (x246 : Int) => f162_0 c lf l0_0 l1_0 n0_1 n1_1 lf x246) l0_0 n0_1 l1_0 n1_1
theorem f162_raw (c : Orc) (lf : Nat) (l0_0 : List T) (n0_1 : Int) (l1_0 : List T) (n1_1 : Int) : funK c env lf 6 fi162 [.st [.sl l0_0, .i .i64 n0_1], .st [.sl l1_0, .i .i64 n1_1]] = f162_t c lf (fun (l0_0 : List T) (l1_0 : List T) (n0_1 : Int) (n1_1 : Int) (x246 : Int) => lpK c env lf 6 fi162 4 4 [] [2, 3, 5] (x162_4_0) lf (f162_0_c l0_0 l1_0 n0_1 n1_1 x246)) l0_0 n0_1 l1_0 n1_1 := by kernel_rfl
theorem f162_eq (c : Orc) (lf : Nat) (l0_0 : List T) (n0_1 : Int) (l1_0 : List T) (n1_1 : Int) : funK c env lf 6 fi162 [.st [.sl l0_0, .i .i64 n0_1], .st [.sl l1_0, .i .i64 n1_1]] = f162 c lf l0_0 n0_1 l1_0 n1_1 := by
  refine (f162_raw c lf l0_0 n0_1 l1_0 n1_1).trans ?_
  have e0 : (fun (l0_0 : List T) (l1_0 : List T) (n0_1 : Int) (n1_1 : Int) (x246 : Int) => lpK c env lf 6 fi162 4 4 [] [2, 3, 5] (x162_4_0) lf (f162_0_c l0_0 l1_0 n0_1 n1_1 x246)) = (fun (l0_0 : List T) (l1_0 : List T) (n0_1 : Int) (n1_1 : Int) (x246 : Int) => f162_0 c lf l0_0 l1_0 n0_1 n1_1 lf x246) := by funext l0_0 l1_0 n0_1 n1_1 x246; exact f162_0_eq c lf l0_0 l1_0 n0_1 n1_1 lf x246
  rw [e0]; rfl
/-- loop.example/g00285/spec.SameFs, the loop at region 4. -/
def f109_0_s (c : Orc) (lf : Nat) (l0_0 : List T) (l1_0 : List T) (n0_1 : Int) (n1_1 : Int) (L : Int → Option (List T)) (x254 : Int) : Option (List T) :=
  bif iLt x254 (l0_0.length : Int) then
    bif inR x254 l0_0.length then
    bif inR x254 l1_0.length then
    bif (asI (T.cell (l0_0.getD x254.toNat T.u) 0)) != (asI (T.cell (l1_0.getD x254.toNat T.u) 0)) then
      some [T.i .i64 0, T.b false]
    else
      bif !((asS (T.cell (l0_0.getD x254.toNat T.u) 1)).toList == (asS (T.cell (l1_0.getD x254.toNat T.u) 1)).toList) then
        some [T.i .i64 0, T.b false]
      else
        bif !((asB (T.cell (l0_0.getD x254.toNat T.u) 2)) == (asB (T.cell (l1_0.getD x254.toNat T.u) 2))) then
          some [T.i .i64 0, T.b false]
        else
          bif (asI (T.cell (l0_0.getD x254.toNat T.u) 3)) != (asI (T.cell (l1_0.getD x254.toNat T.u) 3)) then
            some [T.i .i64 0, T.b false]
          else
            (c 162 [T.st [T.sl (asL (T.cell (l0_0.getD x254.toNat T.u) 4)), T.i .i64 (asI (T.cell (l0_0.getD x254.toNat T.u) 5))], T.st [T.sl (asL (T.cell (l1_0.getD x254.toNat T.u) 4)), T.i .i64 (asI (T.cell (l1_0.getD x254.toNat T.u) 5))]]).bind fun r255 =>
            bif !(asB (nth r255 0)) then
              some [T.i .i64 0, T.b false]
            else
              L (IntKind.wrap .i64 (x254 + 1))
    else none
    else none
  else
    some [T.i .i64 1]
def f109_0_c (l0_0 : List T) (l1_0 : List T) (n0_1 : Int) (n1_1 : Int) (x254 : Int) : CSt := ⟨[.bp 4 0, .bp 5 0, .i .i64 x254], [.dead, .dead, .dead, .dead, .box [.ro 0 true [.i .i64, .s, .b, .i .i64, .sl true [.i .i64, .i .i64, .i .i64, .sl false [.i .u8], .sl true [.s, .i .i64], .sl true [.s, .s]], .i .i64] l0_0, .i .i64 n0_1], .box [.ro 0 true [.i .i64, .s, .b, .i .i64, .sl true [.i .i64, .i .i64, .i .i64, .sl false [.i .u8], .sl true [.s, .i .i64], .sl true [.s, .s]], .i .i64] l1_0, .i .i64 n1_1]]⟩
theorem f109_0_round (c : Orc) (lf : Nat) (l0_0 : List T) (l1_0 : List T) (n0_1 : Int) (n1_1 : Int) (L : CSt → Option (List T)) (x254 : Int) :
    roundK c env lf 6 fi109 4 4 [] [2, 3, 5] (x109_4_0) L (f109_0_c l0_0 l1_0 n0_1 n1_1 x254) = f109_0_s c lf l0_0 l1_0 n0_1 n1_1 (fun x254 => L (f109_0_c l0_0 l1_0 n0_1 n1_1 x254)) x254 := by kernel_rfl
def f109_0 (c : Orc) (lf : Nat) (l0_0 : List T) (l1_0 : List T) (n0_1 : Int) (n1_1 : Int) : Nat → Int → Option (List T)
  | 0 => fun _ => none
  | n + 1 => fun x254 => f109_0_s c lf l0_0 l1_0 n0_1 n1_1 (f109_0 c lf l0_0 l1_0 n0_1 n1_1 n) x254
theorem f109_0_u (c : Orc) (lf : Nat) (l0_0 : List T) (l1_0 : List T) (n0_1 : Int) (n1_1 : Int) (n : Nat) (x254 : Int) : f109_0 c lf l0_0 l1_0 n0_1 n1_1 (n + 1) x254 = f109_0_s c lf l0_0 l1_0 n0_1 n1_1 (f109_0 c lf l0_0 l1_0 n0_1 n1_1 n) x254 := rfl
theorem f109_0_eq (c : Orc) (lf : Nat) (l0_0 : List T) (l1_0 : List T) (n0_1 : Int) (n1_1 : Int) (n : Nat) (x254 : Int) :
    lpK c env lf 6 fi109 4 4 [] [2, 3, 5] (x109_4_0) n (f109_0_c l0_0 l1_0 n0_1 n1_1 x254) = f109_0 c lf l0_0 l1_0 n0_1 n1_1 n x254 := by
  induction n generalizing x254 with
  | zero => rfl
  | succ n ih =>
    refine (f109_0_round c lf l0_0 l1_0 n0_1 n1_1 _ x254).trans ?_
    have e : (fun x254 => lpK c env lf 6 fi109 4 4 [] [2, 3, 5] (x109_4_0) n (f109_0_c l0_0 l1_0 n0_1 n1_1 x254)) = f109_0 c lf l0_0 l1_0 n0_1 n1_1 n := by funext x254; exact ih x254
    show f109_0_s c lf l0_0 l1_0 n0_1 n1_1 (fun x254 => lpK c env lf 6 fi109 4 4 [] [2, 3, 5] (x109_4_0) n (f109_0_c l0_0 l1_0 n0_1 n1_1 x254)) x254 = _
    rw [e]; rfl
/-- loop.example/g00285/spec.SameFs -/
def f109_t (c : Orc) (lf : Nat) (lp0 : List T → List T → Int → Int → Int → Option (List T)) (l0_0 : List T) (n0_1 : Int) (l1_0 : List T) (n1_1 : Int) : Option (List T) :=
  bif n0_1 != n1_1 then
    some [T.b false]
  else
    bif (l0_0.length : Int) != (l1_0.length : Int) then
      some [T.b false]
    else
      (lp0 l0_0 l1_0 n0_1 n1_1 0).bind fun r256 =>
      bif asI (nth r256 0) == 0 then
        some [T.b (asB (nth r256 1))]
      else
        some [T.b true]
def f109 (c : Orc) (lf : Nat) (l0_0 : List T) (n0_1 : Int) (l1_0 : List T) (n1_1 : Int) : Option (List T) := f109_t c lf (fun (l0_0 : List T) (l1_0 : List T) (n0_1 : Int) (n1_1 : Int) (x254 : Int) => f109_0 c lf l0_0 l1_0 n0_1 n1_1 lf x254) l0_0 n0_1 l1_0 n1_1
theorem f109_raw (c : Orc) (lf : Nat) (l0_0 : List T) (n0_1 : Int) (l1_0 : List T) (n1_1 : Int) : funK c env lf 6 fi109 [.st [.sl l0_0, .i .i64 n0_1], .st [.sl l1_0, .i .i64 n1_1]] = f109_t c lf (fun (l0_0 : List T) (l1_0 : List T) (n0_1 : Int) (n1_1 : Int) (x254 : Int) => lpK c env lf 6 fi109 4 4 [] [2, 3, 5] (x109_4_0) lf (f109_0_c l0_0 l1_0 n0_1 n1_1 x254)) l0_0 n0_1 l1_0 n1_1 := by kernel_rfl
theorem f109_eq (c : Orc) (lf : Nat) (l0_0 : List T) (n0_1 : Int) (l1_0 : List T) (n1_1 : Int) : funK c env lf 6 fi109 [.st [.sl l0_0, .i .i64 n0_1], .st [.sl l1_0, .i .i64 n1_1]] = f109 c lf l0_0 n0_1 l1_0 n1_1 := by
  refine (f109_raw c lf l0_0 n0_1 l1_0 n1_1).trans ?_
  have e0 : (fun (l0_0 : List T) (l1_0 : List T) (n0_1 : Int) (n1_1 : Int) (x254 : Int) => lpK c env lf 6 fi109 4 4 [] [2, 3, 5] (x109_4_0) lf (f109_0_c l0_0 l1_0 n0_1 n1_1 x254)) = (fun (l0_0 : List T) (l1_0 : List T) (n0_1 : Int) (n1_1 : Int) (x254 : Int) => f109_0 c lf l0_0 l1_0 n0_1 n1_1 lf x254) := by funext l0_0 l1_0 n0_1 n1_1 x254; exact f109_0_eq c lf l0_0 l1_0 n0_1 n1_1 lf x254
  rw [e0]; rfl
/-- loop.example/g00285/spec.Clear -/
def f54_t (c : Orc) (lf : Nat) (l0_0 : List T) (n0_1 : Int) (l0_2 : List T) (n0_3 : Int) (n0_4 : Int) (l0_5 : List T) (l0_6 : List T) (n0_7 : Int) (n0_8 : Int) (l0_9 : List T) (n0_10 : Int) (l0_11 : List T) (b0_12 : Bool) (n0_13 : Int) : Option (List T) :=
  (c 109 [T.st [T.sl l0_0, T.i .i64 n0_1], T.st [T.sl l0_2, T.i .i64 n0_3]]).bind fun r257 =>
  some [T.b (asB (nth r257 0))]
def f54 (c : Orc) (lf : Nat) (l0_0 : List T) (n0_1 : Int) (l0_2 : List T) (n0_3 : Int) (n0_4 : Int) (l0_5 : List T) (l0_6 : List T) (n0_7 : Int) (n0_8 : Int) (l0_9 : List T) (n0_10 : Int) (l0_11 : List T) (b0_12 : Bool) (n0_13 : Int) : Option (List T) := f54_t c lf l0_0 n0_1 l0_2 n0_3 n0_4 l0_5 l0_6 n0_7 n0_8 l0_9 n0_10 l0_11 b0_12 n0_13
theorem f54_raw (c : Orc) (lf : Nat) (l0_0 : List T) (n0_1 : Int) (l0_2 : List T) (n0_3 : Int) (n0_4 : Int) (l0_5 : List T) (l0_6 : List T) (n0_7 : Int) (n0_8 : Int) (l0_9 : List T) (n0_10 : Int) (l0_11 : List T) (b0_12 : Bool) (n0_13 : Int) : funK c env lf 6 fi54 [.st [.sl l0_0, .i .i64 n0_1, .sl l0_2, .i .i64 n0_3, .i .i64 n0_4, .sl l0_5, .sl l0_6, .i .i64 n0_7, .i .i64 n0_8, .sl l0_9, .i .i64 n0_10, .sl l0_11, .b b0_12, .i .i64 n0_13]] = f54_t c lf l0_0 n0_1 l0_2 n0_3 n0_4 l0_5 l0_6 n0_7 n0_8 l0_9 n0_10 l0_11 b0_12 n0_13 := by kernel_rfl
theorem f54_eq (c : Orc) (lf : Nat) (l0_0 : List T) (n0_1 : Int) (l0_2 : List T) (n0_3 : Int) (n0_4 : Int) (l0_5 : List T) (l0_6 : List T) (n0_7 : Int) (n0_8 : Int) (l0_9 : List T) (n0_10 : Int) (l0_11 : List T) (b0_12 : Bool) (n0_13 : Int) : funK c env lf 6 fi54 [.st [.sl l0_0, .i .i64 n0_1, .sl l0_2, .i .i64 n0_3, .i .i64 n0_4, .sl l0_5, .sl l0_6, .i .i64 n0_7, .i .i64 n0_8, .sl l0_9, .i .i64 n0_10, .sl l0_11, .b b0_12, .i .i64 n0_13]] = f54 c lf l0_0 n0_1 l0_2 n0_3 n0_4 l0_5 l0_6 n0_7 n0_8 l0_9 n0_10 l0_11 b0_12 n0_13 := by
  refine (f54_raw c lf l0_0 n0_1 l0_2 n0_3 n0_4 l0_5 l0_6 n0_7 n0_8 l0_9 n0_10 l0_11 b0_12 n0_13).trans ?_
  rfl
/-- slices.Equal[[]byte,byte], the loop at region 4. -/
def f238_0_s (c : Orc) (lf : Nat) (l0 : List T) (l1 : List T) (L : Int → Option (List T)) (x260 : Int) : Option (List T) :=
  bif iLt x260 (l0.length : Int) then
    bif inR x260 l0.length then
    bif inR x260 l1.length then
    bif (asI (l0.getD x260.toNat T.u)) != (asI (l1.getD x260.toNat T.u)) then
      some [T.i .i64 0, T.b false]
    else
      L (IntKind.wrap .i64 (x260 + 1))
    else none
    else none
  else
    some [T.i .i64 1]
def f238_0_c (l0 : List T) (l1 : List T) (x260 : Int) : CSt := ⟨[.ro 0 false [.i .u8] l0, .ro 0 false [.i .u8] l1, .i .i64 (l0.length : Int), .i .i64 x260], [.dead, .dead]⟩
theorem f238_0_round (c : Orc) (lf : Nat) (l0 : List T) (l1 : List T) (L : CSt → Option (List T)) (x260 : Int) :
    roundK c env lf 6 fi238 2 4 [] [0, 1, 12, 13] (x238_4_0) L (f238_0_c l0 l1 x260) = f238_0_s c lf l0 l1 (fun x260 => L (f238_0_c l0 l1 x260)) x260 := by kernel_rfl
def f238_0 (c : Orc) (lf : Nat) (l0 : List T) (l1 : List T) : Nat → Int → Option (List T)
  | 0 => fun _ => none
  | n + 1 => fun x260 => f238_0_s c lf l0 l1 (f238_0 c lf l0 l1 n) x260
theorem f238_0_u (c : Orc) (lf : Nat) (l0 : List T) (l1 : List T) (n : Nat) (x260 : Int) : f238_0 c lf l0 l1 (n + 1) x260 = f238_0_s c lf l0 l1 (f238_0 c lf l0 l1 n) x260 := rfl
theorem f238_0_eq (c : Orc) (lf : Nat) (l0 : List T) (l1 : List T) (n : Nat) (x260 : Int) :
    lpK c env lf 6 fi238 2 4 [] [0, 1, 12, 13] (x238_4_0) n (f238_0_c l0 l1 x260) = f238_0 c lf l0 l1 n x260 := by
  induction n generalizing x260 with
  | zero => rfl
  | succ n ih =>
    refine (f238_0_round c lf l0 l1 _ x260).trans ?_
    have e : (fun x260 => lpK c env lf 6 fi238 2 4 [] [0, 1, 12, 13] (x238_4_0) n (f238_0_c l0 l1 x260)) = f238_0 c lf l0 l1 n := by funext x260; exact ih x260
    show f238_0_s c lf l0 l1 (fun x260 => lpK c env lf 6 fi238 2 4 [] [0, 1, 12, 13] (x238_4_0) n (f238_0_c l0 l1 x260)) x260 = _
    rw [e]; rfl
/-- slices.Equal[[]byte,byte] -/
def f238_t (c : Orc) (lf : Nat) (lp0 : List T → List T → Int → Option (List T)) (l0 : List T) (l1 : List T) : Option (List T) :=
  bif (l0.length : Int) != (l1.length : Int) then
    some [T.b false]
  else
    (lp0 l0 l1 0).bind fun r261 =>
    bif asI (nth r261 0) == 0 then
      some [T.b (asB (nth r261 1))]
    else
      some [T.b true]
def f238 (c : Orc) (lf : Nat) (l0 : List T) (l1 : List T) : Option (List T) := f238_t c lf (fun (l0 : List T) (l1 : List T) (x260 : Int) => f238_0 c lf l0 l1 lf x260) l0 l1
theorem f238_raw (c : Orc) (lf : Nat) (l0 : List T) (l1 : List T) : funK c env lf 6 fi238 [.sl l0, .sl l1] = f238_t c lf (fun (l0 : List T) (l1 : List T) (x260 : Int) => lpK c env lf 6 fi238 2 4 [] [0, 1, 12, 13] (x238_4_0) lf (f238_0_c l0 l1 x260)) l0 l1 := by kernel_rfl
theorem f238_eq (c : Orc) (lf : Nat) (l0 : List T) (l1 : List T) : funK c env lf 6 fi238 [.sl l0, .sl l1] = f238 c lf l0 l1 := by
  refine (f238_raw c lf l0 l1).trans ?_
  have e0 : (fun (l0 : List T) (l1 : List T) (x260 : Int) => lpK c env lf 6 fi238 2 4 [] [0, 1, 12, 13] (x238_4_0) lf (f238_0_c l0 l1 x260)) = (fun (l0 : List T) (l1 : List T) (x260 : Int) => f238_0 c lf l0 l1 lf x260) := by funext l0 l1 x260; exact f238_0_eq c lf l0 l1 lf x260
  rw [e0]; rfl
/-- slices.Equal[[]loop.example/g00285/impl.Ent,loop.example/g00285/impl.Ent], the loop at region 4. -/
def f239_0_s (c : Orc) (lf : Nat) (l0 : List T) (l1 : List T) (L : Int → Option (List T)) (x264 : Int) : Option (List T) :=
  bif iLt x264 (l0.length : Int) then
    bif inR x264 l0.length then
    bif inR x264 l1.length then
    bif !(((asS (T.cell (l0.getD x264.toNat T.u) 0)) == (asS (T.cell (l1.getD x264.toNat T.u) 0))) && (((asI (T.cell (l0.getD x264.toNat T.u) 1)) == (asI (T.cell (l1.getD x264.toNat T.u) 1))) && (true))) then
      some [T.i .i64 0, T.b false]
    else
      L (IntKind.wrap .i64 (x264 + 1))
    else none
    else none
  else
    some [T.i .i64 1]
def f239_0_c (l0 : List T) (l1 : List T) (x264 : Int) : CSt := ⟨[.ro 0 true [.s, .i .i64] l0, .ro 0 true [.s, .i .i64] l1, .i .i64 (l0.length : Int), .i .i64 x264], [.dead, .dead]⟩
theorem f239_0_round (c : Orc) (lf : Nat) (l0 : List T) (l1 : List T) (L : CSt → Option (List T)) (x264 : Int) :
    roundK c env lf 6 fi239 2 4 [] [0, 1, 12, 13] (x239_4_0) L (f239_0_c l0 l1 x264) = f239_0_s c lf l0 l1 (fun x264 => L (f239_0_c l0 l1 x264)) x264 := by kernel_rfl
def f239_0 (c : Orc) (lf : Nat) (l0 : List T) (l1 : List T) : Nat → Int → Option (List T)
  | 0 => fun _ => none
  | n + 1 => fun x264 => f239_0_s c lf l0 l1 (f239_0 c lf l0 l1 n) x264
theorem f239_0_u (c : Orc) (lf : Nat) (l0 : List T) (l1 : List T) (n : Nat) (x264 : Int) : f239_0 c lf l0 l1 (n + 1) x264 = f239_0_s c lf l0 l1 (f239_0 c lf l0 l1 n) x264 := rfl
theorem f239_0_eq (c : Orc) (lf : Nat) (l0 : List T) (l1 : List T) (n : Nat) (x264 : Int) :
    lpK c env lf 6 fi239 2 4 [] [0, 1, 12, 13] (x239_4_0) n (f239_0_c l0 l1 x264) = f239_0 c lf l0 l1 n x264 := by
  induction n generalizing x264 with
  | zero => rfl
  | succ n ih =>
    refine (f239_0_round c lf l0 l1 _ x264).trans ?_
    have e : (fun x264 => lpK c env lf 6 fi239 2 4 [] [0, 1, 12, 13] (x239_4_0) n (f239_0_c l0 l1 x264)) = f239_0 c lf l0 l1 n := by funext x264; exact ih x264
    show f239_0_s c lf l0 l1 (fun x264 => lpK c env lf 6 fi239 2 4 [] [0, 1, 12, 13] (x239_4_0) n (f239_0_c l0 l1 x264)) x264 = _
    rw [e]; rfl
/-- slices.Equal[[]loop.example/g00285/impl.Ent,loop.example/g00285/impl.Ent] -/
def f239_t (c : Orc) (lf : Nat) (lp0 : List T → List T → Int → Option (List T)) (l0 : List T) (l1 : List T) : Option (List T) :=
  bif (l0.length : Int) != (l1.length : Int) then
    some [T.b false]
  else
    (lp0 l0 l1 0).bind fun r265 =>
    bif asI (nth r265 0) == 0 then
      some [T.b (asB (nth r265 1))]
    else
      some [T.b true]
def f239 (c : Orc) (lf : Nat) (l0 : List T) (l1 : List T) : Option (List T) := f239_t c lf (fun (l0 : List T) (l1 : List T) (x264 : Int) => f239_0 c lf l0 l1 lf x264) l0 l1
theorem f239_raw (c : Orc) (lf : Nat) (l0 : List T) (l1 : List T) : funK c env lf 6 fi239 [.sl l0, .sl l1] = f239_t c lf (fun (l0 : List T) (l1 : List T) (x264 : Int) => lpK c env lf 6 fi239 2 4 [] [0, 1, 12, 13] (x239_4_0) lf (f239_0_c l0 l1 x264)) l0 l1 := by kernel_rfl
theorem f239_eq (c : Orc) (lf : Nat) (l0 : List T) (l1 : List T) : funK c env lf 6 fi239 [.sl l0, .sl l1] = f239 c lf l0 l1 := by
  refine (f239_raw c lf l0 l1).trans ?_
  have e0 : (fun (l0 : List T) (l1 : List T) (x264 : Int) => lpK c env lf 6 fi239 2 4 [] [0, 1, 12, 13] (x239_4_0) lf (f239_0_c l0 l1 x264)) = (fun (l0 : List T) (l1 : List T) (x264 : Int) => f239_0 c lf l0 l1 lf x264) := by funext l0 l1 x264; exact f239_0_eq c lf l0 l1 lf x264
  rw [e0]; rfl
/-- slices.Equal[[]loop.example/g00285/impl.Attr,loop.example/g00285/impl.Attr], the loop at region 4. -/
def f240_0_s (c : Orc) (lf : Nat) (l0 : List T) (l1 : List T) (L : Int → Option (List T)) (x268 : Int) : Option (List T) :=
  bif iLt x268 (l0.length : Int) then
    bif inR x268 l0.length then
    bif inR x268 l1.length then
    bif !(((asS (T.cell (l0.getD x268.toNat T.u) 0)) == (asS (T.cell (l1.getD x268.toNat T.u) 0))) && (((asS (T.cell (l0.getD x268.toNat T.u) 1)) == (asS (T.cell (l1.getD x268.toNat T.u) 1))) && (true))) then
      some [T.i .i64 0, T.b false]
    else
      L (IntKind.wrap .i64 (x268 + 1))
    else none
    else none
  else
    some [T.i .i64 1]
def f240_0_c (l0 : List T) (l1 : List T) (x268 : Int) : CSt := ⟨[.ro 0 true [.s, .s] l0, .ro 0 true [.s, .s] l1, .i .i64 (l0.length : Int), .i .i64 x268], [.dead, .dead]⟩
theorem f240_0_round (c : Orc) (lf : Nat) (l0 : List T) (l1 : List T) (L : CSt → Option (List T)) (x268 : Int) :
    roundK c env lf 6 fi240 2 4 [] [0, 1, 12, 13] (x240_4_0) L (f240_0_c l0 l1 x268) = f240_0_s c lf l0 l1 (fun x268 => L (f240_0_c l0 l1 x268)) x268 := by kernel_rfl
def f240_0 (c : Orc) (lf : Nat) (l0 : List T) (l1 : List T) : Nat → Int → Option (List T)
  | 0 => fun _ => none
  | n + 1 => fun x268 => f240_0_s c lf l0 l1 (f240_0 c lf l0 l1 n) x268
theorem f240_0_u (c : Orc) (lf : Nat) (l0 : List T) (l1 : List T) (n : Nat) (x268 : Int) : f240_0 c lf l0 l1 (n + 1) x268 = f240_0_s c lf l0 l1 (f240_0 c lf l0 l1 n) x268 := rfl
theorem f240_0_eq (c : Orc) (lf : Nat) (l0 : List T) (l1 : List T) (n : Nat) (x268 : Int) :
    lpK c env lf 6 fi240 2 4 [] [0, 1, 12, 13] (x240_4_0) n (f240_0_c l0 l1 x268) = f240_0 c lf l0 l1 n x268 := by
  induction n generalizing x268 with
  | zero => rfl
  | succ n ih =>
    refine (f240_0_round c lf l0 l1 _ x268).trans ?_
    have e : (fun x268 => lpK c env lf 6 fi240 2 4 [] [0, 1, 12, 13] (x240_4_0) n (f240_0_c l0 l1 x268)) = f240_0 c lf l0 l1 n := by funext x268; exact ih x268
    show f240_0_s c lf l0 l1 (fun x268 => lpK c env lf 6 fi240 2 4 [] [0, 1, 12, 13] (x240_4_0) n (f240_0_c l0 l1 x268)) x268 = _
    rw [e]; rfl
/-- slices.Equal[[]loop.example/g00285/impl.Attr,loop.example/g00285/impl.Attr] -/
def f240_t (c : Orc) (lf : Nat) (lp0 : List T → List T → Int → Option (List T)) (l0 : List T) (l1 : List T) : Option (List T) :=
  bif (l0.length : Int) != (l1.length : Int) then
    some [T.b false]
  else
    (lp0 l0 l1 0).bind fun r269 =>
    bif asI (nth r269 0) == 0 then
      some [T.b (asB (nth r269 1))]
    else
      some [T.b true]
def f240 (c : Orc) (lf : Nat) (l0 : List T) (l1 : List T) : Option (List T) := f240_t c lf (fun (l0 : List T) (l1 : List T) (x268 : Int) => f240_0 c lf l0 l1 lf x268) l0 l1
theorem f240_raw (c : Orc) (lf : Nat) (l0 : List T) (l1 : List T) : funK c env lf 6 fi240 [.sl l0, .sl l1] = f240_t c lf (fun (l0 : List T) (l1 : List T) (x268 : Int) => lpK c env lf 6 fi240 2 4 [] [0, 1, 12, 13] (x240_4_0) lf (f240_0_c l0 l1 x268)) l0 l1 := by kernel_rfl
theorem f240_eq (c : Orc) (lf : Nat) (l0 : List T) (l1 : List T) : funK c env lf 6 fi240 [.sl l0, .sl l1] = f240 c lf l0 l1 := by
  refine (f240_raw c lf l0 l1).trans ?_
  have e0 : (fun (l0 : List T) (l1 : List T) (x268 : Int) => lpK c env lf 6 fi240 2 4 [] [0, 1, 12, 13] (x240_4_0) lf (f240_0_c l0 l1 x268)) = (fun (l0 : List T) (l1 : List T) (x268 : Int) => f240_0 c lf l0 l1 lf x268) := by funext l0 l1 x268; exact f240_0_eq c lf l0 l1 lf x268
  rw [e0]; rfl
/-- loop.example/g00285/impl.SameInode -/
def f212_t (c : Orc) (lf : Nat) (n0_0 : Int) (n0_1 : Int) (n0_2 : Int) (l0_3 : List T) (l0_4 : List T) (l0_5 : List T) (n1_0 : Int) (n1_1 : Int) (n1_2 : Int) (l1_3 : List T) (l1_4 : List T) (l1_5 : List T) : Option (List T) :=
  bif n0_0 == n1_0 then
    bif n0_1 == n1_1 then
      bif n0_2 == n1_2 then
        (c 238 [T.sl l0_3, T.sl l1_3]).bind fun r270 =>
        bif asB (nth r270 0) then
          (c 239 [T.sl l0_4, T.sl l1_4]).bind fun r271 =>
          bif asB (nth r271 0) then
            (c 240 [T.sl l0_5, T.sl l1_5]).bind fun r272 =>
            some [T.b (asB (nth r272 0))]
          else
            some [T.b false]
        else
          some [T.b false]
      else
        some [T.b false]
    else
      some [T.b false]
  else
    some [T.b false]
def f212 (c : Orc) (lf : Nat) (n0_0 : Int) (n0_1 : Int) (n0_2 : Int) (l0_3 : List T) (l0_4 : List T) (l0_5 : List T) (n1_0 : Int) (n1_1 : Int) (n1_2 : Int) (l1_3 : List T) (l1_4 : List T) (l1_5 : List T) : Option (List T) := f212_t c lf n0_0 n0_1 n0_2 l0_3 l0_4 l0_5 n1_0 n1_1 n1_2 l1_3 l1_4 l1_5
theorem f212_raw (c : Orc) (lf : Nat) (n0_0 : Int) (n0_1 : Int) (n0_2 : Int) (l0_3 : List T) (l0_4 : List T) (l0_5 : List T) (n1_0 : Int) (n1_1 : Int) (n1_2 : Int) (l1_3 : List T) (l1_4 : List T) (l1_5 : List T) : funK c env lf 6 fi212 [.st [.i .i64 n0_0, .i .i64 n0_1, .i .i64 n0_2, .sl l0_3, .sl l0_4, .sl l0_5], .st [.i .i64 n1_0, .i .i64 n1_1, .i .i64 n1_2, .sl l1_3, .sl l1_4, .sl l1_5]] = f212_t c lf n0_0 n0_1 n0_2 l0_3 l0_4 l0_5 n1_0 n1_1 n1_2 l1_3 l1_4 l1_5 := by kernel_rfl
theorem f212_eq (c : Orc) (lf : Nat) (n0_0 : Int) (n0_1 : Int) (n0_2 : Int) (l0_3 : List T) (l0_4 : List T) (l0_5 : List T) (n1_0 : Int) (n1_1 : Int) (n1_2 : Int) (l1_3 : List T) (l1_4 : List T) (l1_5 : List T) : funK c env lf 6 fi212 [.st [.i .i64 n0_0, .i .i64 n0_1, .i .i64 n0_2, .sl l0_3, .sl l0_4, .sl l0_5], .st [.i .i64 n1_0, .i .i64 n1_1, .i .i64 n1_2, .sl l1_3, .sl l1_4, .sl l1_5]] = f212 c lf n0_0 n0_1 n0_2 l0_3 l0_4 l0_5 n1_0 n1_1 n1_2 l1_3 l1_4 l1_5 := by
  refine (f212_raw c lf n0_0 n0_1 n0_2 l0_3 l0_4 l0_5 n1_0 n1_1 n1_2 l1_3 l1_4 l1_5).trans ?_
  rfl
/-- slices.EqualFunc[[]loop.example/g00285/impl.Inode,[]loop.example/g00285/impl.Inode,loop.example/g00285/impl.Inode,loop.example/g00285/impl.Inode], the loop at region 4. -/
def f168_0_s (c : Orc) (lf : Nat) (l0_0 : List T) (l1_0 : List T) (L : Int → Option (List T)) (x278 : Int) : Option (List T) :=
  bif iLt x278 (l0_0.length : Int) then
    bif inR x278 l0_0.length then
    bif inR x278 l1_0.length then
    (c 212 [T.st [T.i .i64 (asI (T.cell (l0_0.getD x278.toNat T.u) 0)), T.i .i64 (asI (T.cell (l0_0.getD x278.toNat T.u) 1)), T.i .i64 (asI (T.cell (l0_0.getD x278.toNat T.u) 2)), T.sl (asL (T.cell (l0_0.getD x278.toNat T.u) 3)), T.sl (asL (T.cell (l0_0.getD x278.toNat T.u) 4)), T.sl (asL (T.cell (l0_0.getD x278.toNat T.u) 5))], T.st [T.i .i64 (asI (T.cell (l1_0.getD x278.toNat T.u) 0)), T.i .i64 (asI (T.cell (l1_0.getD x278.toNat T.u) 1)), T.i .i64 (asI (T.cell (l1_0.getD x278.toNat T.u) 2)), T.sl (asL (T.cell (l1_0.getD x278.toNat T.u) 3)), T.sl (asL (T.cell (l1_0.getD x278.toNat T.u) 4)), T.sl (asL (T.cell (l1_0.getD x278.toNat T.u) 5))]]).bind fun r279 =>
    bif !(asB (nth r279 0)) then
      some [T.i .i64 0, T.b false]
    else
      L (IntKind.wrap .i64 (x278 + 1))
    else none
    else none
  else
    some [T.i .i64 1]
def f168_0_c (l0_0 : List T) (l1_0 : List T) (x278 : Int) : CSt := ⟨[.ro 0 true [.i .i64, .i .i64, .i .i64, .sl false [.i .u8], .sl true [.s, .i .i64], .sl true [.s, .s]] l1_0, .fn 212 [], .ro 0 true [.i .i64, .i .i64, .i .i64, .sl false [.i .u8], .sl true [.s, .i .i64], .sl true [.s, .s]] l0_0, .i .i64 (l0_0.length : Int), .i .i64 x278], []⟩
theorem f168_0_round (c : Orc) (lf : Nat) (l0_0 : List T) (l1_0 : List T) (L : CSt → Option (List T)) (x278 : Int) :
    roundK c env lf 5 fi211 0 4 [] [1, 2, 15, 16, 17] (x211_4_0) L (f168_0_c l0_0 l1_0 x278) = f168_0_s c lf l0_0 l1_0 (fun x278 => L (f168_0_c l0_0 l1_0 x278)) x278 := by kernel_rfl
def f168_0 (c : Orc) (lf : Nat) (l0_0 : List T) (l1_0 : List T) : Nat → Int → Option (List T)
  | 0 => fun _ => none
  | n + 1 => fun x278 => f168_0_s c lf l0_0 l1_0 (f168_0 c lf l0_0 l1_0 n) x278
theorem f168_0_u (c : Orc) (lf : Nat) (l0_0 : List T) (l1_0 : List T) (n : Nat) (x278 : Int) : f168_0 c lf l0_0 l1_0 (n + 1) x278 = f168_0_s c lf l0_0 l1_0 (f168_0 c lf l0_0 l1_0 n) x278 := rfl
theorem f168_0_eq (c : Orc) (lf : Nat) (l0_0 : List T) (l1_0 : List T) (n : Nat) (x278 : Int) :
    lpK c env lf 5 fi211 0 4 [] [1, 2, 15, 16, 17] (x211_4_0) n (f168_0_c l0_0 l1_0 x278) = f168_0 c lf l0_0 l1_0 n x278 := by
  induction n generalizing x278 with
  | zero => rfl
  | succ n ih =>
    refine (f168_0_round c lf l0_0 l1_0 _ x278).trans ?_
    have e : (fun x278 => lpK c env lf 5 fi211 0 4 [] [1, 2, 15, 16, 17] (x211_4_0) n (f168_0_c l0_0 l1_0 x278)) = f168_0 c lf l0_0 l1_0 n := by funext x278; exact ih x278
    show f168_0_s c lf l0_0 l1_0 (fun x278 => lpK c env lf 5 fi211 0 4 [] [1, 2, 15, 16, 17] (x211_4_0) n (f168_0_c l0_0 l1_0 x278)) x278 = _
    rw [e]; rfl
/-- loop.example/g00285/impl.SameTab -/
def f168_t (c : Orc) (lf : Nat) (lp0 : List T → List T → Int → Option (List T)) (l0_0 : List T) (n0_1 : Int) (l1_0 : List T) (n1_1 : Int) : Option (List T) :=
  bif n0_1 == n1_1 then
    bif (l0_0.length : Int) != (l1_0.length : Int) then
      some [T.b false]
    else
      (lp0 l0_0 l1_0 0).bind fun r280 =>
      bif asI (nth r280 0) == 0 then
        some [T.b (asB (nth r280 1))]
      else
        some [T.b true]
  else
    some [T.b false]
def f168 (c : Orc) (lf : Nat) (l0_0 : List T) (n0_1 : Int) (l1_0 : List T) (n1_1 : Int) : Option (List T) := f168_t c lf (fun (l0_0 : List T) (l1_0 : List T) (x278 : Int) => f168_0 c lf l0_0 l1_0 lf x278) l0_0 n0_1 l1_0 n1_1
theorem f168_raw (c : Orc) (lf : Nat) (l0_0 : List T) (n0_1 : Int) (l1_0 : List T) (n1_1 : Int) : funK c env lf 6 fi168 [.st [.sl l0_0, .i .i64 n0_1], .st [.sl l1_0, .i .i64 n1_1]] = f168_t c lf (fun (l0_0 : List T) (l1_0 : List T) (x278 : Int) => lpK c env lf 5 fi211 0 4 [] [1, 2, 15, 16, 17] (x211_4_0) lf (f168_0_c l0_0 l1_0 x278)) l0_0 n0_1 l1_0 n1_1 := by kernel_rfl
theorem f168_eq (c : Orc) (lf : Nat) (l0_0 : List T) (n0_1 : Int) (l1_0 : List T) (n1_1 : Int) : funK c env lf 6 fi168 [.st [.sl l0_0, .i .i64 n0_1], .st [.sl l1_0, .i .i64 n1_1]] = f168 c lf l0_0 n0_1 l1_0 n1_1 := by
  refine (f168_raw c lf l0_0 n0_1 l1_0 n1_1).trans ?_
  have e0 : (fun (l0_0 : List T) (l1_0 : List T) (x278 : Int) => lpK c env lf 5 fi211 0 4 [] [1, 2, 15, 16, 17] (x211_4_0) lf (f168_0_c l0_0 l1_0 x278)) = (fun (l0_0 : List T) (l1_0 : List T) (x278 : Int) => f168_0 c lf l0_0 l1_0 lf x278) := by funext l0_0 l1_0 x278; exact f168_0_eq c lf l0_0 l1_0 lf x278
  rw [e0]; rfl
/-- loop.example/g00285/impl.SameFs$1 -/
def f167_t (c : Orc) (lf : Nat) (n0_0 : Int) (s0_1 : ByteArray) (b0_2 : Bool) (n0_3 : Int) (l0_4 : List T) (n0_5 : Int) (n1_0 : Int) (s1_1 : ByteArray) (b1_2 : Bool) (n1_3 : Int) (l1_4 : List T) (n1_5 : Int) : Option (List T) :=
  bif n0_0 == n1_0 then
    bif s0_1.toList == s1_1.toList then
      bif (b0_2 == b1_2) then
        bif n0_3 == n1_3 then
          (c 168 [T.st [T.sl l0_4, T.i .i64 n0_5], T.st [T.sl l1_4, T.i .i64 n1_5]]).bind fun r281 =>
          some [T.b (asB (nth r281 0))]
        else
          some [T.b false]
      else
        some [T.b false]
    else
      some [T.b false]
  else
    some [T.b false]
def f167 (c : Orc) (lf : Nat) (n0_0 : Int) (s0_1 : ByteArray) (b0_2 : Bool) (n0_3 : Int) (l0_4 : List T) (n0_5 : Int) (n1_0 : Int) (s1_1 : ByteArray) (b1_2 : Bool) (n1_3 : Int) (l1_4 : List T) (n1_5 : Int) : Option (List T) := f167_t c lf n0_0 s0_1 b0_2 n0_3 l0_4 n0_5 n1_0 s1_1 b1_2 n1_3 l1_4 n1_5
theorem f167_raw (c : Orc) (lf : Nat) (n0_0 : Int) (s0_1 : ByteArray) (b0_2 : Bool) (n0_3 : Int) (l0_4 : List T) (n0_5 : Int) (n1_0 : Int) (s1_1 : ByteArray) (b1_2 : Bool) (n1_3 : Int) (l1_4 : List T) (n1_5 : Int) : funK c env lf 6 fi167 [.st [.i .i64 n0_0, .s s0_1, .b b0_2, .i .i64 n0_3, .sl l0_4, .i .i64 n0_5], .st [.i .i64 n1_0, .s s1_1, .b b1_2, .i .i64 n1_3, .sl l1_4, .i .i64 n1_5]] = f167_t c lf n0_0 s0_1 b0_2 n0_3 l0_4 n0_5 n1_0 s1_1 b1_2 n1_3 l1_4 n1_5 := by kernel_rfl
theorem f167_eq (c : Orc) (lf : Nat) (n0_0 : Int) (s0_1 : ByteArray) (b0_2 : Bool) (n0_3 : Int) (l0_4 : List T) (n0_5 : Int) (n1_0 : Int) (s1_1 : ByteArray) (b1_2 : Bool) (n1_3 : Int) (l1_4 : List T) (n1_5 : Int) : funK c env lf 6 fi167 [.st [.i .i64 n0_0, .s s0_1, .b b0_2, .i .i64 n0_3, .sl l0_4, .i .i64 n0_5], .st [.i .i64 n1_0, .s s1_1, .b b1_2, .i .i64 n1_3, .sl l1_4, .i .i64 n1_5]] = f167 c lf n0_0 s0_1 b0_2 n0_3 l0_4 n0_5 n1_0 s1_1 b1_2 n1_3 l1_4 n1_5 := by
  refine (f167_raw c lf n0_0 s0_1 b0_2 n0_3 l0_4 n0_5 n1_0 s1_1 b1_2 n1_3 l1_4 n1_5).trans ?_
  rfl
/-- slices.EqualFunc[[]loop.example/g00285/impl.Vol,[]loop.example/g00285/impl.Vol,loop.example/g00285/impl.Vol,loop.example/g00285/impl.Vol], the loop at region 4. -/
def f112_0_s (c : Orc) (lf : Nat) (l0_0 : List T) (l1_0 : List T) (L : Int → Option (List T)) (x287 : Int) : Option (List T) :=
  bif iLt x287 (l0_0.length : Int) then
    bif inR x287 l0_0.length then
    bif inR x287 l1_0.length then
    (c 167 [T.st [T.i .i64 (asI (T.cell (l0_0.getD x287.toNat T.u) 0)), T.s (asS (T.cell (l0_0.getD x287.toNat T.u) 1)), T.b (asB (T.cell (l0_0.getD x287.toNat T.u) 2)), T.i .i64 (asI (T.cell (l0_0.getD x287.toNat T.u) 3)), T.sl (asL (T.cell (l0_0.getD x287.toNat T.u) 4)), T.i .i64 (asI (T.cell (l0_0.getD x287.toNat T.u) 5))], T.st [T.i .i64 (asI (T.cell (l1_0.getD x287.toNat T.u) 0)), T.s (asS (T.cell (l1_0.getD x287.toNat T.u) 1)), T.b (asB (T.cell (l1_0.getD x287.toNat T.u) 2)), T.i .i64 (asI (T.cell (l1_0.getD x287.toNat T.u) 3)), T.sl (asL (T.cell (l1_0.getD x287.toNat T.u) 4)), T.i .i64 (asI (T.cell (l1_0.getD x287.toNat T.u) 5))]]).bind fun r288 =>
    bif !(asB (nth r288 0)) then
      some [T.i .i64 0, T.b false]
    else
      L (IntKind.wrap .i64 (x287 + 1))
    else none
    else none
  else
    some [T.i .i64 1]
def f112_0_c (l0_0 : List T) (l1_0 : List T) (x287 : Int) : CSt := ⟨[.ro 0 true [.i .i64, .s, .b, .i .i64, .sl true [.i .i64, .i .i64, .i .i64, .sl false [.i .u8], .sl true [.s, .i .i64], .sl true [.s, .s]], .i .i64] l1_0, .fn 167 [], .ro 0 true [.i .i64, .s, .b, .i .i64, .sl true [.i .i64, .i .i64, .i .i64, .sl false [.i .u8], .sl true [.s, .i .i64], .sl true [.s, .s]], .i .i64] l0_0, .i .i64 (l0_0.length : Int), .i .i64 x287], []⟩
theorem f112_0_round (c : Orc) (lf : Nat) (l0_0 : List T) (l1_0 : List T) (L : CSt → Option (List T)) (x287 : Int) :
    roundK c env lf 5 fi166 0 4 [] [1, 2, 15, 16, 17] (x166_4_0) L (f112_0_c l0_0 l1_0 x287) = f112_0_s c lf l0_0 l1_0 (fun x287 => L (f112_0_c l0_0 l1_0 x287)) x287 := by kernel_rfl
def f112_0 (c : Orc) (lf : Nat) (l0_0 : List T) (l1_0 : List T) : Nat → Int → Option (List T)
  | 0 => fun _ => none
  | n + 1 => fun x287 => f112_0_s c lf l0_0 l1_0 (f112_0 c lf l0_0 l1_0 n) x287
theorem f112_0_u (c : Orc) (lf : Nat) (l0_0 : List T) (l1_0 : List T) (n : Nat) (x287 : Int) : f112_0 c lf l0_0 l1_0 (n + 1) x287 = f112_0_s c lf l0_0 l1_0 (f112_0 c lf l0_0 l1_0 n) x287 := rfl
theorem f112_0_eq (c : Orc) (lf : Nat) (l0_0 : List T) (l1_0 : List T) (n : Nat) (x287 : Int) :
    lpK c env lf 5 fi166 0 4 [] [1, 2, 15, 16, 17] (x166_4_0) n (f112_0_c l0_0 l1_0 x287) = f112_0 c lf l0_0 l1_0 n x287 := by
  induction n generalizing x287 with
  | zero => rfl
  | succ n ih =>
    refine (f112_0_round c lf l0_0 l1_0 _ x287).trans ?_
    have e : (fun x287 => lpK c env lf 5 fi166 0 4 [] [1, 2, 15, 16, 17] (x166_4_0) n (f112_0_c l0_0 l1_0 x287)) = f112_0 c lf l0_0 l1_0 n := by funext x287; exact ih x287
    show f112_0_s c lf l0_0 l1_0 (fun x287 => lpK c env lf 5 fi166 0 4 [] [1, 2, 15, 16, 17] (x166_4_0) n (f112_0_c l0_0 l1_0 x287)) x287 = _
    rw [e]; rfl
/-- loop.example/g00285/impl.SameFs -/
def f112_t (c : Orc) (lf : Nat) (lp0 : List T → List T → Int → Option (List T)) (l0_0 : List T) (n0_1 : Int) (l1_0 : List T) (n1_1 : Int) : Option (List T) :=
  bif n0_1 == n1_1 then
    bif (l0_0.length : Int) != (l1_0.length : Int) then
      some [T.b false]
    else
      (lp0 l0_0 l1_0 0).bind fun r289 =>
      bif asI (nth r289 0) == 0 then
        some [T.b (asB (nth r289 1))]
      else
        some [T.b true]
  else
    some [T.b false]
def f112 (c : Orc) (lf : Nat) (l0_0 : List T) (n0_1 : Int) (l1_0 : List T) (n1_1 : Int) : Option (List T) := f112_t c lf (fun (l0_0 : List T) (l1_0 : List T) (x287 : Int) => f112_0 c lf l0_0 l1_0 lf x287) l0_0 n0_1 l1_0 n1_1
theorem f112_raw (c : Orc) (lf : Nat) (l0_0 : List T) (n0_1 : Int) (l1_0 : List T) (n1_1 : Int) : funK c env lf 6 fi112 [.st [.sl l0_0, .i .i64 n0_1], .st [.sl l1_0, .i .i64 n1_1]] = f112_t c lf (fun (l0_0 : List T) (l1_0 : List T) (x287 : Int) => lpK c env lf 5 fi166 0 4 [] [1, 2, 15, 16, 17] (x166_4_0) lf (f112_0_c l0_0 l1_0 x287)) l0_0 n0_1 l1_0 n1_1 := by kernel_rfl
theorem f112_eq (c : Orc) (lf : Nat) (l0_0 : List T) (n0_1 : Int) (l1_0 : List T) (n1_1 : Int) : funK c env lf 6 fi112 [.st [.sl l0_0, .i .i64 n0_1], .st [.sl l1_0, .i .i64 n1_1]] = f112 c lf l0_0 n0_1 l1_0 n1_1 := by
  refine (f112_raw c lf l0_0 n0_1 l1_0 n1_1).trans ?_
  have e0 : (fun (l0_0 : List T) (l1_0 : List T) (x287 : Int) => lpK c env lf 5 fi166 0 4 [] [1, 2, 15, 16, 17] (x166_4_0) lf (f112_0_c l0_0 l1_0 x287)) = (fun (l0_0 : List T) (l1_0 : List T) (x287 : Int) => f112_0 c lf l0_0 l1_0 lf x287) := by funext l0_0 l1_0 x287; exact f112_0_eq c lf l0_0 l1_0 lf x287
  rw [e0]; rfl
/-- loop.example/g00285/impl.Clear -/
def f56_t (c : Orc) (lf : Nat) (l0_0 : List T) (n0_1 : Int) (l0_2 : List T) (n0_3 : Int) (n0_4 : Int) (l0_5 : List T) (l0_6 : List T) (n0_7 : Int) (n0_8 : Int) (l0_9 : List T) (n0_10 : Int) (l0_11 : List T) (b0_12 : Bool) (n0_13 : Int) : Option (List T) :=
  (c 112 [T.st [T.sl l0_0, T.i .i64 n0_1], T.st [T.sl l0_2, T.i .i64 n0_3]]).bind fun r290 =>
  some [T.b (asB (nth r290 0))]
def f56 (c : Orc) (lf : Nat) (l0_0 : List T) (n0_1 : Int) (l0_2 : List T) (n0_3 : Int) (n0_4 : Int) (l0_5 : List T) (l0_6 : List T) (n0_7 : Int) (n0_8 : Int) (l0_9 : List T) (n0_10 : Int) (l0_11 : List T) (b0_12 : Bool) (n0_13 : Int) : Option (List T) := f56_t c lf l0_0 n0_1 l0_2 n0_3 n0_4 l0_5 l0_6 n0_7 n0_8 l0_9 n0_10 l0_11 b0_12 n0_13
theorem f56_raw (c : Orc) (lf : Nat) (l0_0 : List T) (n0_1 : Int) (l0_2 : List T) (n0_3 : Int) (n0_4 : Int) (l0_5 : List T) (l0_6 : List T) (n0_7 : Int) (n0_8 : Int) (l0_9 : List T) (n0_10 : Int) (l0_11 : List T) (b0_12 : Bool) (n0_13 : Int) : funK c env lf 6 fi56 [.st [.sl l0_0, .i .i64 n0_1, .sl l0_2, .i .i64 n0_3, .i .i64 n0_4, .sl l0_5, .sl l0_6, .i .i64 n0_7, .i .i64 n0_8, .sl l0_9, .i .i64 n0_10, .sl l0_11, .b b0_12, .i .i64 n0_13]] = f56_t c lf l0_0 n0_1 l0_2 n0_3 n0_4 l0_5 l0_6 n0_7 n0_8 l0_9 n0_10 l0_11 b0_12 n0_13 := by kernel_rfl
theorem f56_eq (c : Orc) (lf : Nat) (l0_0 : List T) (n0_1 : Int) (l0_2 : List T) (n0_3 : Int) (n0_4 : Int) (l0_5 : List T) (l0_6 : List T) (n0_7 : Int) (n0_8 : Int) (l0_9 : List T) (n0_10 : Int) (l0_11 : List T) (b0_12 : Bool) (n0_13 : Int) : funK c env lf 6 fi56 [.st [.sl l0_0, .i .i64 n0_1, .sl l0_2, .i .i64 n0_3, .i .i64 n0_4, .sl l0_5, .sl l0_6, .i .i64 n0_7, .i .i64 n0_8, .sl l0_9, .i .i64 n0_10, .sl l0_11, .b b0_12, .i .i64 n0_13]] = f56 c lf l0_0 n0_1 l0_2 n0_3 n0_4 l0_5 l0_6 n0_7 n0_8 l0_9 n0_10 l0_11 b0_12 n0_13 := by
  refine (f56_raw c lf l0_0 n0_1 l0_2 n0_3 n0_4 l0_5 l0_6 n0_7 n0_8 l0_9 n0_10 l0_11 b0_12 n0_13).trans ?_
  rfl
/-- loop.example/g00285/laws.eqByteS, the loop at region 4. -/
def f48_0_s (c : Orc) (lf : Nat) (l0 : List T) (l1 : List T) (L : Int → Option (List T)) (x293 : Int) : Option (List T) :=
  bif iLt x293 (l0.length : Int) then
    bif inR x293 l0.length then
    bif inR x293 l1.length then
    bif (asI (l0.getD x293.toNat T.u)) != (asI (l1.getD x293.toNat T.u)) then
      some [T.i .i64 0, T.b false]
    else
      L (IntKind.wrap .i64 (x293 + 1))
    else none
    else none
  else
    some [T.i .i64 1]
def f48_0_c (l0 : List T) (l1 : List T) (x293 : Int) : CSt := ⟨[.ro 0 false [.i .u8] l0, .ro 0 false [.i .u8] l1, .i .i64 x293], [.dead, .dead]⟩
theorem f48_0_round (c : Orc) (lf : Nat) (l0 : List T) (l1 : List T) (L : CSt → Option (List T)) (x293 : Int) :
    roundK c env lf 6 fi48 2 4 [] [0, 1, 5] (x48_4_0) L (f48_0_c l0 l1 x293) = f48_0_s c lf l0 l1 (fun x293 => L (f48_0_c l0 l1 x293)) x293 := by kernel_rfl
def f48_0 (c : Orc) (lf : Nat) (l0 : List T) (l1 : List T) : Nat → Int → Option (List T)
  | 0 => fun _ => none
  | n + 1 => fun x293 => f48_0_s c lf l0 l1 (f48_0 c lf l0 l1 n) x293
theorem f48_0_u (c : Orc) (lf : Nat) (l0 : List T) (l1 : List T) (n : Nat) (x293 : Int) : f48_0 c lf l0 l1 (n + 1) x293 = f48_0_s c lf l0 l1 (f48_0 c lf l0 l1 n) x293 := rfl
theorem f48_0_eq (c : Orc) (lf : Nat) (l0 : List T) (l1 : List T) (n : Nat) (x293 : Int) :
    lpK c env lf 6 fi48 2 4 [] [0, 1, 5] (x48_4_0) n (f48_0_c l0 l1 x293) = f48_0 c lf l0 l1 n x293 := by
  induction n generalizing x293 with
  | zero => rfl
  | succ n ih =>
    refine (f48_0_round c lf l0 l1 _ x293).trans ?_
    have e : (fun x293 => lpK c env lf 6 fi48 2 4 [] [0, 1, 5] (x48_4_0) n (f48_0_c l0 l1 x293)) = f48_0 c lf l0 l1 n := by funext x293; exact ih x293
    show f48_0_s c lf l0 l1 (fun x293 => lpK c env lf 6 fi48 2 4 [] [0, 1, 5] (x48_4_0) n (f48_0_c l0 l1 x293)) x293 = _
    rw [e]; rfl
/-- loop.example/g00285/laws.eqByteS -/
def f48_t (c : Orc) (lf : Nat) (lp0 : List T → List T → Int → Option (List T)) (l0 : List T) (l1 : List T) : Option (List T) :=
  bif (l0.length : Int) != (l1.length : Int) then
    some [T.b false]
  else
    (lp0 l0 l1 0).bind fun r294 =>
    bif asI (nth r294 0) == 0 then
      some [T.b (asB (nth r294 1))]
    else
      some [T.b true]
def f48 (c : Orc) (lf : Nat) (l0 : List T) (l1 : List T) : Option (List T) := f48_t c lf (fun (l0 : List T) (l1 : List T) (x293 : Int) => f48_0 c lf l0 l1 lf x293) l0 l1
theorem f48_raw (c : Orc) (lf : Nat) (l0 : List T) (l1 : List T) : funK c env lf 6 fi48 [.sl l0, .sl l1] = f48_t c lf (fun (l0 : List T) (l1 : List T) (x293 : Int) => lpK c env lf 6 fi48 2 4 [] [0, 1, 5] (x48_4_0) lf (f48_0_c l0 l1 x293)) l0 l1 := by kernel_rfl
theorem f48_eq (c : Orc) (lf : Nat) (l0 : List T) (l1 : List T) : funK c env lf 6 fi48 [.sl l0, .sl l1] = f48 c lf l0 l1 := by
  refine (f48_raw c lf l0 l1).trans ?_
  have e0 : (fun (l0 : List T) (l1 : List T) (x293 : Int) => lpK c env lf 6 fi48 2 4 [] [0, 1, 5] (x48_4_0) lf (f48_0_c l0 l1 x293)) = (fun (l0 : List T) (l1 : List T) (x293 : Int) => f48_0 c lf l0 l1 lf x293) := by funext l0 l1 x293; exact f48_0_eq c lf l0 l1 lf x293
  rw [e0]; rfl
/-- loop.example/g00285/laws.eqEnt -/
def f264_t (c : Orc) (lf : Nat) (s0_0 : ByteArray) (n0_1 : Int) (s1_0 : ByteArray) (n1_1 : Int) : Option (List T) :=
  bif !(s0_0.toList == s1_0.toList) then
    some [T.b false]
  else
    bif n0_1 != n1_1 then
      some [T.b false]
    else
      some [T.b true]
def f264 (c : Orc) (lf : Nat) (s0_0 : ByteArray) (n0_1 : Int) (s1_0 : ByteArray) (n1_1 : Int) : Option (List T) := f264_t c lf s0_0 n0_1 s1_0 n1_1
theorem f264_raw (c : Orc) (lf : Nat) (s0_0 : ByteArray) (n0_1 : Int) (s1_0 : ByteArray) (n1_1 : Int) : funK c env lf 6 fi264 [.st [.s s0_0, .i .i64 n0_1], .st [.s s1_0, .i .i64 n1_1]] = f264_t c lf s0_0 n0_1 s1_0 n1_1 := by kernel_rfl
theorem f264_eq (c : Orc) (lf : Nat) (s0_0 : ByteArray) (n0_1 : Int) (s1_0 : ByteArray) (n1_1 : Int) : funK c env lf 6 fi264 [.st [.s s0_0, .i .i64 n0_1], .st [.s s1_0, .i .i64 n1_1]] = f264 c lf s0_0 n0_1 s1_0 n1_1 := by
  refine (f264_raw c lf s0_0 n0_1 s1_0 n1_1).trans ?_
  rfl
/-- loop.example/g00285/laws.eqEntS, the loop at region 4. -/
def f257_0_s (c : Orc) (lf : Nat) (l0 : List T) (l1 : List T) (L : Int → Option (List T)) (x300 : Int) : Option (List T) :=
  bif iLt x300 (l0.length : Int) then
    bif inR x300 l0.length then
    bif inR x300 l1.length then
    (c 264 [T.st [T.s (asS (T.cell (l0.getD x300.toNat T.u) 0)), T.i .i64 (asI (T.cell (l0.getD x300.toNat T.u) 1))], T.st [T.s (asS (T.cell (l1.getD x300.toNat T.u) 0)), T.i .i64 (asI (T.cell (l1.getD x300.toNat T.u) 1))]]).bind fun r301 =>
    bif !(asB (nth r301 0)) then
      some [T.i .i64 0, T.b false]
    else
      L (IntKind.wrap .i64 (x300 + 1))
    else none
    else none
  else
    some [T.i .i64 1]
def f257_0_c (l0 : List T) (l1 : List T) (x300 : Int) : CSt := ⟨[.ro 0 true [.s, .i .i64] l0, .ro 0 true [.s, .i .i64] l1, .i .i64 x300], [.dead, .dead]⟩
theorem f257_0_round (c : Orc) (lf : Nat) (l0 : List T) (l1 : List T) (L : CSt → Option (List T)) (x300 : Int) :
    roundK c env lf 6 fi257 2 4 [] [0, 1, 5] (x257_4_0) L (f257_0_c l0 l1 x300) = f257_0_s c lf l0 l1 (fun x300 => L (f257_0_c l0 l1 x300)) x300 := by kernel_rfl
def f257_0 (c : Orc) (lf : Nat) (l0 : List T) (l1 : List T) : Nat → Int → Option (List T)
  | 0 => fun _ => none
  | n + 1 => fun x300 => f257_0_s c lf l0 l1 (f257_0 c lf l0 l1 n) x300
theorem f257_0_u (c : Orc) (lf : Nat) (l0 : List T) (l1 : List T) (n : Nat) (x300 : Int) : f257_0 c lf l0 l1 (n + 1) x300 = f257_0_s c lf l0 l1 (f257_0 c lf l0 l1 n) x300 := rfl
theorem f257_0_eq (c : Orc) (lf : Nat) (l0 : List T) (l1 : List T) (n : Nat) (x300 : Int) :
    lpK c env lf 6 fi257 2 4 [] [0, 1, 5] (x257_4_0) n (f257_0_c l0 l1 x300) = f257_0 c lf l0 l1 n x300 := by
  induction n generalizing x300 with
  | zero => rfl
  | succ n ih =>
    refine (f257_0_round c lf l0 l1 _ x300).trans ?_
    have e : (fun x300 => lpK c env lf 6 fi257 2 4 [] [0, 1, 5] (x257_4_0) n (f257_0_c l0 l1 x300)) = f257_0 c lf l0 l1 n := by funext x300; exact ih x300
    show f257_0_s c lf l0 l1 (fun x300 => lpK c env lf 6 fi257 2 4 [] [0, 1, 5] (x257_4_0) n (f257_0_c l0 l1 x300)) x300 = _
    rw [e]; rfl
/-- loop.example/g00285/laws.eqEntS -/
def f257_t (c : Orc) (lf : Nat) (lp0 : List T → List T → Int → Option (List T)) (l0 : List T) (l1 : List T) : Option (List T) :=
  bif (l0.length : Int) != (l1.length : Int) then
    some [T.b false]
  else
    (lp0 l0 l1 0).bind fun r302 =>
    bif asI (nth r302 0) == 0 then
      some [T.b (asB (nth r302 1))]
    else
      some [T.b true]
def f257 (c : Orc) (lf : Nat) (l0 : List T) (l1 : List T) : Option (List T) := f257_t c lf (fun (l0 : List T) (l1 : List T) (x300 : Int) => f257_0 c lf l0 l1 lf x300) l0 l1
theorem f257_raw (c : Orc) (lf : Nat) (l0 : List T) (l1 : List T) : funK c env lf 6 fi257 [.sl l0, .sl l1] = f257_t c lf (fun (l0 : List T) (l1 : List T) (x300 : Int) => lpK c env lf 6 fi257 2 4 [] [0, 1, 5] (x257_4_0) lf (f257_0_c l0 l1 x300)) l0 l1 := by kernel_rfl
theorem f257_eq (c : Orc) (lf : Nat) (l0 : List T) (l1 : List T) : funK c env lf 6 fi257 [.sl l0, .sl l1] = f257 c lf l0 l1 := by
  refine (f257_raw c lf l0 l1).trans ?_
  have e0 : (fun (l0 : List T) (l1 : List T) (x300 : Int) => lpK c env lf 6 fi257 2 4 [] [0, 1, 5] (x257_4_0) lf (f257_0_c l0 l1 x300)) = (fun (l0 : List T) (l1 : List T) (x300 : Int) => f257_0 c lf l0 l1 lf x300) := by funext l0 l1 x300; exact f257_0_eq c lf l0 l1 lf x300
  rw [e0]; rfl
/-- loop.example/g00285/laws.eqAttr -/
def f265_t (c : Orc) (lf : Nat) (s0_0 : ByteArray) (s0_1 : ByteArray) (s1_0 : ByteArray) (s1_1 : ByteArray) : Option (List T) :=
  bif !(s0_0.toList == s1_0.toList) then
    some [T.b false]
  else
    bif !(s0_1.toList == s1_1.toList) then
      some [T.b false]
    else
      some [T.b true]
def f265 (c : Orc) (lf : Nat) (s0_0 : ByteArray) (s0_1 : ByteArray) (s1_0 : ByteArray) (s1_1 : ByteArray) : Option (List T) := f265_t c lf s0_0 s0_1 s1_0 s1_1
theorem f265_raw (c : Orc) (lf : Nat) (s0_0 : ByteArray) (s0_1 : ByteArray) (s1_0 : ByteArray) (s1_1 : ByteArray) : funK c env lf 6 fi265 [.st [.s s0_0, .s s0_1], .st [.s s1_0, .s s1_1]] = f265_t c lf s0_0 s0_1 s1_0 s1_1 := by kernel_rfl
theorem f265_eq (c : Orc) (lf : Nat) (s0_0 : ByteArray) (s0_1 : ByteArray) (s1_0 : ByteArray) (s1_1 : ByteArray) : funK c env lf 6 fi265 [.st [.s s0_0, .s s0_1], .st [.s s1_0, .s s1_1]] = f265 c lf s0_0 s0_1 s1_0 s1_1 := by
  refine (f265_raw c lf s0_0 s0_1 s1_0 s1_1).trans ?_
  rfl
/-- loop.example/g00285/laws.eqAttrS, the loop at region 4. -/
def f258_0_s (c : Orc) (lf : Nat) (l0 : List T) (l1 : List T) (L : Int → Option (List T)) (x308 : Int) : Option (List T) :=
  bif iLt x308 (l0.length : Int) then
    bif inR x308 l0.length then
    bif inR x308 l1.length then
    (c 265 [T.st [T.s (asS (T.cell (l0.getD x308.toNat T.u) 0)), T.s (asS (T.cell (l0.getD x308.toNat T.u) 1))], T.st [T.s (asS (T.cell (l1.getD x308.toNat T.u) 0)), T.s (asS (T.cell (l1.getD x308.toNat T.u) 1))]]).bind fun r309 =>
    bif !(asB (nth r309 0)) then
      some [T.i .i64 0, T.b false]
    else
      L (IntKind.wrap .i64 (x308 + 1))
    else none
    else none
  else
    some [T.i .i64 1]
def f258_0_c (l0 : List T) (l1 : List T) (x308 : Int) : CSt := ⟨[.ro 0 true [.s, .s] l0, .ro 0 true [.s, .s] l1, .i .i64 x308], [.dead, .dead]⟩
theorem f258_0_round (c : Orc) (lf : Nat) (l0 : List T) (l1 : List T) (L : CSt → Option (List T)) (x308 : Int) :
    roundK c env lf 6 fi258 2 4 [] [0, 1, 5] (x258_4_0) L (f258_0_c l0 l1 x308) = f258_0_s c lf l0 l1 (fun x308 => L (f258_0_c l0 l1 x308)) x308 := by kernel_rfl
def f258_0 (c : Orc) (lf : Nat) (l0 : List T) (l1 : List T) : Nat → Int → Option (List T)
  | 0 => fun _ => none
  | n + 1 => fun x308 => f258_0_s c lf l0 l1 (f258_0 c lf l0 l1 n) x308
theorem f258_0_u (c : Orc) (lf : Nat) (l0 : List T) (l1 : List T) (n : Nat) (x308 : Int) : f258_0 c lf l0 l1 (n + 1) x308 = f258_0_s c lf l0 l1 (f258_0 c lf l0 l1 n) x308 := rfl
theorem f258_0_eq (c : Orc) (lf : Nat) (l0 : List T) (l1 : List T) (n : Nat) (x308 : Int) :
    lpK c env lf 6 fi258 2 4 [] [0, 1, 5] (x258_4_0) n (f258_0_c l0 l1 x308) = f258_0 c lf l0 l1 n x308 := by
  induction n generalizing x308 with
  | zero => rfl
  | succ n ih =>
    refine (f258_0_round c lf l0 l1 _ x308).trans ?_
    have e : (fun x308 => lpK c env lf 6 fi258 2 4 [] [0, 1, 5] (x258_4_0) n (f258_0_c l0 l1 x308)) = f258_0 c lf l0 l1 n := by funext x308; exact ih x308
    show f258_0_s c lf l0 l1 (fun x308 => lpK c env lf 6 fi258 2 4 [] [0, 1, 5] (x258_4_0) n (f258_0_c l0 l1 x308)) x308 = _
    rw [e]; rfl
/-- loop.example/g00285/laws.eqAttrS -/
def f258_t (c : Orc) (lf : Nat) (lp0 : List T → List T → Int → Option (List T)) (l0 : List T) (l1 : List T) : Option (List T) :=
  bif (l0.length : Int) != (l1.length : Int) then
    some [T.b false]
  else
    (lp0 l0 l1 0).bind fun r310 =>
    bif asI (nth r310 0) == 0 then
      some [T.b (asB (nth r310 1))]
    else
      some [T.b true]
def f258 (c : Orc) (lf : Nat) (l0 : List T) (l1 : List T) : Option (List T) := f258_t c lf (fun (l0 : List T) (l1 : List T) (x308 : Int) => f258_0 c lf l0 l1 lf x308) l0 l1
theorem f258_raw (c : Orc) (lf : Nat) (l0 : List T) (l1 : List T) : funK c env lf 6 fi258 [.sl l0, .sl l1] = f258_t c lf (fun (l0 : List T) (l1 : List T) (x308 : Int) => lpK c env lf 6 fi258 2 4 [] [0, 1, 5] (x258_4_0) lf (f258_0_c l0 l1 x308)) l0 l1 := by kernel_rfl
theorem f258_eq (c : Orc) (lf : Nat) (l0 : List T) (l1 : List T) : funK c env lf 6 fi258 [.sl l0, .sl l1] = f258 c lf l0 l1 := by
  refine (f258_raw c lf l0 l1).trans ?_
  have e0 : (fun (l0 : List T) (l1 : List T) (x308 : Int) => lpK c env lf 6 fi258 2 4 [] [0, 1, 5] (x258_4_0) lf (f258_0_c l0 l1 x308)) = (fun (l0 : List T) (l1 : List T) (x308 : Int) => f258_0 c lf l0 l1 lf x308) := by funext l0 l1 x308; exact f258_0_eq c lf l0 l1 lf x308
  rw [e0]; rfl
/-- loop.example/g00285/laws.eqInode -/
def f251_t (c : Orc) (lf : Nat) (n0_0 : Int) (n0_1 : Int) (n0_2 : Int) (l0_3 : List T) (l0_4 : List T) (l0_5 : List T) (n1_0 : Int) (n1_1 : Int) (n1_2 : Int) (l1_3 : List T) (l1_4 : List T) (l1_5 : List T) : Option (List T) :=
  bif n0_0 != n1_0 then
    some [T.b false]
  else
    bif n0_1 != n1_1 then
      some [T.b false]
    else
      bif n0_2 != n1_2 then
        some [T.b false]
      else
        (c 48 [T.sl l0_3, T.sl l1_3]).bind fun r311 =>
        bif !(asB (nth r311 0)) then
          some [T.b false]
        else
          (c 257 [T.sl l0_4, T.sl l1_4]).bind fun r312 =>
          bif !(asB (nth r312 0)) then
            some [T.b false]
          else
            (c 258 [T.sl l0_5, T.sl l1_5]).bind fun r313 =>
            bif !(asB (nth r313 0)) then
              some [T.b false]
            else
              some [T.b true]
def f251 (c : Orc) (lf : Nat) (n0_0 : Int) (n0_1 : Int) (n0_2 : Int) (l0_3 : List T) (l0_4 : List T) (l0_5 : List T) (n1_0 : Int) (n1_1 : Int) (n1_2 : Int) (l1_3 : List T) (l1_4 : List T) (l1_5 : List T) : Option (List T) := f251_t c lf n0_0 n0_1 n0_2 l0_3 l0_4 l0_5 n1_0 n1_1 n1_2 l1_3 l1_4 l1_5
theorem f251_raw (c : Orc) (lf : Nat) (n0_0 : Int) (n0_1 : Int) (n0_2 : Int) (l0_3 : List T) (l0_4 : List T) (l0_5 : List T) (n1_0 : Int) (n1_1 : Int) (n1_2 : Int) (l1_3 : List T) (l1_4 : List T) (l1_5 : List T) : funK c env lf 6 fi251 [.st [.i .i64 n0_0, .i .i64 n0_1, .i .i64 n0_2, .sl l0_3, .sl l0_4, .sl l0_5], .st [.i .i64 n1_0, .i .i64 n1_1, .i .i64 n1_2, .sl l1_3, .sl l1_4, .sl l1_5]] = f251_t c lf n0_0 n0_1 n0_2 l0_3 l0_4 l0_5 n1_0 n1_1 n1_2 l1_3 l1_4 l1_5 := by kernel_rfl
theorem f251_eq (c : Orc) (lf : Nat) (n0_0 : Int) (n0_1 : Int) (n0_2 : Int) (l0_3 : List T) (l0_4 : List T) (l0_5 : List T) (n1_0 : Int) (n1_1 : Int) (n1_2 : Int) (l1_3 : List T) (l1_4 : List T) (l1_5 : List T) : funK c env lf 6 fi251 [.st [.i .i64 n0_0, .i .i64 n0_1, .i .i64 n0_2, .sl l0_3, .sl l0_4, .sl l0_5], .st [.i .i64 n1_0, .i .i64 n1_1, .i .i64 n1_2, .sl l1_3, .sl l1_4, .sl l1_5]] = f251 c lf n0_0 n0_1 n0_2 l0_3 l0_4 l0_5 n1_0 n1_1 n1_2 l1_3 l1_4 l1_5 := by
  refine (f251_raw c lf n0_0 n0_1 n0_2 l0_3 l0_4 l0_5 n1_0 n1_1 n1_2 l1_3 l1_4 l1_5).trans ?_
  rfl
/-- loop.example/g00285/laws.eqInodeS, the loop at region 4. -/
def f241_0_s (c : Orc) (lf : Nat) (l0 : List T) (l1 : List T) (L : Int → Option (List T)) (x319 : Int) : Option (List T) :=
  bif iLt x319 (l0.length : Int) then
    bif inR x319 l0.length then
    bif inR x319 l1.length then
    (c 251 [T.st [T.i .i64 (asI (T.cell (l0.getD x319.toNat T.u) 0)), T.i .i64 (asI (T.cell (l0.getD x319.toNat T.u) 1)), T.i .i64 (asI (T.cell (l0.getD x319.toNat T.u) 2)), T.sl (asL (T.cell (l0.getD x319.toNat T.u) 3)), T.sl (asL (T.cell (l0.getD x319.toNat T.u) 4)), T.sl (asL (T.cell (l0.getD x319.toNat T.u) 5))], T.st [T.i .i64 (asI (T.cell (l1.getD x319.toNat T.u) 0)), T.i .i64 (asI (T.cell (l1.getD x319.toNat T.u) 1)), T.i .i64 (asI (T.cell (l1.getD x319.toNat T.u) 2)), T.sl (asL (T.cell (l1.getD x319.toNat T.u) 3)), T.sl (asL (T.cell (l1.getD x319.toNat T.u) 4)), T.sl (asL (T.cell (l1.getD x319.toNat T.u) 5))]]).bind fun r320 =>
    bif !(asB (nth r320 0)) then
      some [T.i .i64 0, T.b false]
    else
      L (IntKind.wrap .i64 (x319 + 1))
    else none
    else none
  else
    some [T.i .i64 1]
def f241_0_c (l0 : List T) (l1 : List T) (x319 : Int) : CSt := ⟨[.ro 0 true [.i .i64, .i .i64, .i .i64, .sl false [.i .u8], .sl true [.s, .i .i64], .sl true [.s, .s]] l0, .ro 0 true [.i .i64, .i .i64, .i .i64, .sl false [.i .u8], .sl true [.s, .i .i64], .sl true [.s, .s]] l1, .i .i64 x319], [.dead, .dead]⟩
theorem f241_0_round (c : Orc) (lf : Nat) (l0 : List T) (l1 : List T) (L : CSt → Option (List T)) (x319 : Int) :
    roundK c env lf 6 fi241 2 4 [] [0, 1, 5] (x241_4_0) L (f241_0_c l0 l1 x319) = f241_0_s c lf l0 l1 (fun x319 => L (f241_0_c l0 l1 x319)) x319 := by kernel_rfl
def f241_0 (c : Orc) (lf : Nat) (l0 : List T) (l1 : List T) : Nat → Int → Option (List T)
  | 0 => fun _ => none
  | n + 1 => fun x319 => f241_0_s c lf l0 l1 (f241_0 c lf l0 l1 n) x319
theorem f241_0_u (c : Orc) (lf : Nat) (l0 : List T) (l1 : List T) (n : Nat) (x319 : Int) : f241_0 c lf l0 l1 (n + 1) x319 = f241_0_s c lf l0 l1 (f241_0 c lf l0 l1 n) x319 := rfl
theorem f241_0_eq (c : Orc) (lf : Nat) (l0 : List T) (l1 : List T) (n : Nat) (x319 : Int) :
    lpK c env lf 6 fi241 2 4 [] [0, 1, 5] (x241_4_0) n (f241_0_c l0 l1 x319) = f241_0 c lf l0 l1 n x319 := by
  induction n generalizing x319 with
  | zero => rfl
  | succ n ih =>
    refine (f241_0_round c lf l0 l1 _ x319).trans ?_
    have e : (fun x319 => lpK c env lf 6 fi241 2 4 [] [0, 1, 5] (x241_4_0) n (f241_0_c l0 l1 x319)) = f241_0 c lf l0 l1 n := by funext x319; exact ih x319
    show f241_0_s c lf l0 l1 (fun x319 => lpK c env lf 6 fi241 2 4 [] [0, 1, 5] (x241_4_0) n (f241_0_c l0 l1 x319)) x319 = _
    rw [e]; rfl
/-- loop.example/g00285/laws.eqInodeS -/
def f241_t (c : Orc) (lf : Nat) (lp0 : List T → List T → Int → Option (List T)) (l0 : List T) (l1 : List T) : Option (List T) :=
  bif (l0.length : Int) != (l1.length : Int) then
    some [T.b false]
  else
    (lp0 l0 l1 0).bind fun r321 =>
    bif asI (nth r321 0) == 0 then
      some [T.b (asB (nth r321 1))]
    else
      some [T.b true]
def f241 (c : Orc) (lf : Nat) (l0 : List T) (l1 : List T) : Option (List T) := f241_t c lf (fun (l0 : List T) (l1 : List T) (x319 : Int) => f241_0 c lf l0 l1 lf x319) l0 l1
theorem f241_raw (c : Orc) (lf : Nat) (l0 : List T) (l1 : List T) : funK c env lf 6 fi241 [.sl l0, .sl l1] = f241_t c lf (fun (l0 : List T) (l1 : List T) (x319 : Int) => lpK c env lf 6 fi241 2 4 [] [0, 1, 5] (x241_4_0) lf (f241_0_c l0 l1 x319)) l0 l1 := by kernel_rfl
theorem f241_eq (c : Orc) (lf : Nat) (l0 : List T) (l1 : List T) : funK c env lf 6 fi241 [.sl l0, .sl l1] = f241 c lf l0 l1 := by
  refine (f241_raw c lf l0 l1).trans ?_
  have e0 : (fun (l0 : List T) (l1 : List T) (x319 : Int) => lpK c env lf 6 fi241 2 4 [] [0, 1, 5] (x241_4_0) lf (f241_0_c l0 l1 x319)) = (fun (l0 : List T) (l1 : List T) (x319 : Int) => f241_0 c lf l0 l1 lf x319) := by funext l0 l1 x319; exact f241_0_eq c lf l0 l1 lf x319
  rw [e0]; rfl
/-- loop.example/g00285/laws.eqTab -/
def f213_t (c : Orc) (lf : Nat) (l0_0 : List T) (n0_1 : Int) (l1_0 : List T) (n1_1 : Int) : Option (List T) :=
  (c 241 [T.sl l0_0, T.sl l1_0]).bind fun r322 =>
  bif !(asB (nth r322 0)) then
    some [T.b false]
  else
    bif n0_1 != n1_1 then
      some [T.b false]
    else
      some [T.b true]
def f213 (c : Orc) (lf : Nat) (l0_0 : List T) (n0_1 : Int) (l1_0 : List T) (n1_1 : Int) : Option (List T) := f213_t c lf l0_0 n0_1 l1_0 n1_1
theorem f213_raw (c : Orc) (lf : Nat) (l0_0 : List T) (n0_1 : Int) (l1_0 : List T) (n1_1 : Int) : funK c env lf 6 fi213 [.st [.sl l0_0, .i .i64 n0_1], .st [.sl l1_0, .i .i64 n1_1]] = f213_t c lf l0_0 n0_1 l1_0 n1_1 := by kernel_rfl
theorem f213_eq (c : Orc) (lf : Nat) (l0_0 : List T) (n0_1 : Int) (l1_0 : List T) (n1_1 : Int) : funK c env lf 6 fi213 [.st [.sl l0_0, .i .i64 n0_1], .st [.sl l1_0, .i .i64 n1_1]] = f213 c lf l0_0 n0_1 l1_0 n1_1 := by
  refine (f213_raw c lf l0_0 n0_1 l1_0 n1_1).trans ?_
  rfl
/-- loop.example/g00285/laws.eqVol -/
def f169_t (c : Orc) (lf : Nat) (n0_0 : Int) (s0_1 : ByteArray) (b0_2 : Bool) (n0_3 : Int) (l0_4 : List T) (n0_5 : Int) (n1_0 : Int) (s1_1 : ByteArray) (b1_2 : Bool) (n1_3 : Int) (l1_4 : List T) (n1_5 : Int) : Option (List T) :=
  bif n0_0 != n1_0 then
    some [T.b false]
  else
    bif !(s0_1.toList == s1_1.toList) then
      some [T.b false]
    else
      bif !(b0_2 == b1_2) then
        some [T.b false]
      else
        bif n0_3 != n1_3 then
          some [T.b false]
        else
          (c 213 [T.st [T.sl l0_4, T.i .i64 n0_5], T.st [T.sl l1_4, T.i .i64 n1_5]]).bind fun r323 =>
          bif !(asB (nth r323 0)) then
            some [T.b false]
          else
            some [T.b true]
def f169 (c : Orc) (lf : Nat) (n0_0 : Int) (s0_1 : ByteArray) (b0_2 : Bool) (n0_3 : Int) (l0_4 : List T) (n0_5 : Int) (n1_0 : Int) (s1_1 : ByteArray) (b1_2 : Bool) (n1_3 : Int) (l1_4 : List T) (n1_5 : Int) : Option (List T) := f169_t c lf n0_0 s0_1 b0_2 n0_3 l0_4 n0_5 n1_0 s1_1 b1_2 n1_3 l1_4 n1_5
theorem f169_raw (c : Orc) (lf : Nat) (n0_0 : Int) (s0_1 : ByteArray) (b0_2 : Bool) (n0_3 : Int) (l0_4 : List T) (n0_5 : Int) (n1_0 : Int) (s1_1 : ByteArray) (b1_2 : Bool) (n1_3 : Int) (l1_4 : List T) (n1_5 : Int) : funK c env lf 6 fi169 [.st [.i .i64 n0_0, .s s0_1, .b b0_2, .i .i64 n0_3, .sl l0_4, .i .i64 n0_5], .st [.i .i64 n1_0, .s s1_1, .b b1_2, .i .i64 n1_3, .sl l1_4, .i .i64 n1_5]] = f169_t c lf n0_0 s0_1 b0_2 n0_3 l0_4 n0_5 n1_0 s1_1 b1_2 n1_3 l1_4 n1_5 := by kernel_rfl
theorem f169_eq (c : Orc) (lf : Nat) (n0_0 : Int) (s0_1 : ByteArray) (b0_2 : Bool) (n0_3 : Int) (l0_4 : List T) (n0_5 : Int) (n1_0 : Int) (s1_1 : ByteArray) (b1_2 : Bool) (n1_3 : Int) (l1_4 : List T) (n1_5 : Int) : funK c env lf 6 fi169 [.st [.i .i64 n0_0, .s s0_1, .b b0_2, .i .i64 n0_3, .sl l0_4, .i .i64 n0_5], .st [.i .i64 n1_0, .s s1_1, .b b1_2, .i .i64 n1_3, .sl l1_4, .i .i64 n1_5]] = f169 c lf n0_0 s0_1 b0_2 n0_3 l0_4 n0_5 n1_0 s1_1 b1_2 n1_3 l1_4 n1_5 := by
  refine (f169_raw c lf n0_0 s0_1 b0_2 n0_3 l0_4 n0_5 n1_0 s1_1 b1_2 n1_3 l1_4 n1_5).trans ?_
  rfl
/-- loop.example/g00285/laws.eqVolS, the loop at region 4. -/
def f113_0_s (c : Orc) (lf : Nat) (l0 : List T) (l1 : List T) (L : Int → Option (List T)) (x329 : Int) : Option (List T) :=
  bif iLt x329 (l0.length : Int) then
    bif inR x329 l0.length then
    bif inR x329 l1.length then
    (c 169 [T.st [T.i .i64 (asI (T.cell (l0.getD x329.toNat T.u) 0)), T.s (asS (T.cell (l0.getD x329.toNat T.u) 1)), T.b (asB (T.cell (l0.getD x329.toNat T.u) 2)), T.i .i64 (asI (T.cell (l0.getD x329.toNat T.u) 3)), T.sl (asL (T.cell (l0.getD x329.toNat T.u) 4)), T.i .i64 (asI (T.cell (l0.getD x329.toNat T.u) 5))], T.st [T.i .i64 (asI (T.cell (l1.getD x329.toNat T.u) 0)), T.s (asS (T.cell (l1.getD x329.toNat T.u) 1)), T.b (asB (T.cell (l1.getD x329.toNat T.u) 2)), T.i .i64 (asI (T.cell (l1.getD x329.toNat T.u) 3)), T.sl (asL (T.cell (l1.getD x329.toNat T.u) 4)), T.i .i64 (asI (T.cell (l1.getD x329.toNat T.u) 5))]]).bind fun r330 =>
    bif !(asB (nth r330 0)) then
      some [T.i .i64 0, T.b false]
    else
      L (IntKind.wrap .i64 (x329 + 1))
    else none
    else none
  else
    some [T.i .i64 1]
def f113_0_c (l0 : List T) (l1 : List T) (x329 : Int) : CSt := ⟨[.ro 0 true [.i .i64, .s, .b, .i .i64, .sl true [.i .i64, .i .i64, .i .i64, .sl false [.i .u8], .sl true [.s, .i .i64], .sl true [.s, .s]], .i .i64] l0, .ro 0 true [.i .i64, .s, .b, .i .i64, .sl true [.i .i64, .i .i64, .i .i64, .sl false [.i .u8], .sl true [.s, .i .i64], .sl true [.s, .s]], .i .i64] l1, .i .i64 x329], [.dead, .dead]⟩
theorem f113_0_round (c : Orc) (lf : Nat) (l0 : List T) (l1 : List T) (L : CSt → Option (List T)) (x329 : Int) :
    roundK c env lf 6 fi113 2 4 [] [0, 1, 5] (x113_4_0) L (f113_0_c l0 l1 x329) = f113_0_s c lf l0 l1 (fun x329 => L (f113_0_c l0 l1 x329)) x329 := by kernel_rfl
def f113_0 (c : Orc) (lf : Nat) (l0 : List T) (l1 : List T) : Nat → Int → Option (List T)
  | 0 => fun _ => none
  | n + 1 => fun x329 => f113_0_s c lf l0 l1 (f113_0 c lf l0 l1 n) x329
theorem f113_0_u (c : Orc) (lf : Nat) (l0 : List T) (l1 : List T) (n : Nat) (x329 : Int) : f113_0 c lf l0 l1 (n + 1) x329 = f113_0_s c lf l0 l1 (f113_0 c lf l0 l1 n) x329 := rfl
theorem f113_0_eq (c : Orc) (lf : Nat) (l0 : List T) (l1 : List T) (n : Nat) (x329 : Int) :
    lpK c env lf 6 fi113 2 4 [] [0, 1, 5] (x113_4_0) n (f113_0_c l0 l1 x329) = f113_0 c lf l0 l1 n x329 := by
  induction n generalizing x329 with
  | zero => rfl
  | succ n ih =>
    refine (f113_0_round c lf l0 l1 _ x329).trans ?_
    have e : (fun x329 => lpK c env lf 6 fi113 2 4 [] [0, 1, 5] (x113_4_0) n (f113_0_c l0 l1 x329)) = f113_0 c lf l0 l1 n := by funext x329; exact ih x329
    show f113_0_s c lf l0 l1 (fun x329 => lpK c env lf 6 fi113 2 4 [] [0, 1, 5] (x113_4_0) n (f113_0_c l0 l1 x329)) x329 = _
    rw [e]; rfl
/-- loop.example/g00285/laws.eqVolS -/
def f113_t (c : Orc) (lf : Nat) (lp0 : List T → List T → Int → Option (List T)) (l0 : List T) (l1 : List T) : Option (List T) :=
  bif (l0.length : Int) != (l1.length : Int) then
    some [T.b false]
  else
    (lp0 l0 l1 0).bind fun r331 =>
    bif asI (nth r331 0) == 0 then
      some [T.b (asB (nth r331 1))]
    else
      some [T.b true]
def f113 (c : Orc) (lf : Nat) (l0 : List T) (l1 : List T) : Option (List T) := f113_t c lf (fun (l0 : List T) (l1 : List T) (x329 : Int) => f113_0 c lf l0 l1 lf x329) l0 l1
theorem f113_raw (c : Orc) (lf : Nat) (l0 : List T) (l1 : List T) : funK c env lf 6 fi113 [.sl l0, .sl l1] = f113_t c lf (fun (l0 : List T) (l1 : List T) (x329 : Int) => lpK c env lf 6 fi113 2 4 [] [0, 1, 5] (x113_4_0) lf (f113_0_c l0 l1 x329)) l0 l1 := by kernel_rfl
theorem f113_eq (c : Orc) (lf : Nat) (l0 : List T) (l1 : List T) : funK c env lf 6 fi113 [.sl l0, .sl l1] = f113 c lf l0 l1 := by
  refine (f113_raw c lf l0 l1).trans ?_
  have e0 : (fun (l0 : List T) (l1 : List T) (x329 : Int) => lpK c env lf 6 fi113 2 4 [] [0, 1, 5] (x113_4_0) lf (f113_0_c l0 l1 x329)) = (fun (l0 : List T) (l1 : List T) (x329 : Int) => f113_0 c lf l0 l1 lf x329) := by funext l0 l1 x329; exact f113_0_eq c lf l0 l1 lf x329
  rw [e0]; rfl
/-- loop.example/g00285/laws.eqFs -/
def f60_t (c : Orc) (lf : Nat) (l0_0 : List T) (n0_1 : Int) (l1_0 : List T) (n1_1 : Int) : Option (List T) :=
  (c 113 [T.sl l0_0, T.sl l1_0]).bind fun r332 =>
  bif !(asB (nth r332 0)) then
    some [T.b false]
  else
    bif n0_1 != n1_1 then
      some [T.b false]
    else
      some [T.b true]
def f60 (c : Orc) (lf : Nat) (l0_0 : List T) (n0_1 : Int) (l1_0 : List T) (n1_1 : Int) : Option (List T) := f60_t c lf l0_0 n0_1 l1_0 n1_1
theorem f60_raw (c : Orc) (lf : Nat) (l0_0 : List T) (n0_1 : Int) (l1_0 : List T) (n1_1 : Int) : funK c env lf 6 fi60 [.st [.sl l0_0, .i .i64 n0_1], .st [.sl l1_0, .i .i64 n1_1]] = f60_t c lf l0_0 n0_1 l1_0 n1_1 := by kernel_rfl
theorem f60_eq (c : Orc) (lf : Nat) (l0_0 : List T) (n0_1 : Int) (l1_0 : List T) (n1_1 : Int) : funK c env lf 6 fi60 [.st [.sl l0_0, .i .i64 n0_1], .st [.sl l1_0, .i .i64 n1_1]] = f60 c lf l0_0 n0_1 l1_0 n1_1 := by
  refine (f60_raw c lf l0_0 n0_1 l1_0 n1_1).trans ?_
  rfl
/-- loop.example/g00285/laws.eqRow -/
def f170_t (c : Orc) (lf : Nat) (n0_0 : Int) (s0_1 : ByteArray) (b0_2 : Bool) (n0_3 : Int) (n0_4 : Int) (n1_0 : Int) (s1_1 : ByteArray) (b1_2 : Bool) (n1_3 : Int) (n1_4 : Int) : Option (List T) :=
  bif n0_0 != n1_0 then
    some [T.b false]
  else
    bif !(s0_1.toList == s1_1.toList) then
      some [T.b false]
    else
      bif !(b0_2 == b1_2) then
        some [T.b false]
      else
        bif n0_3 != n1_3 then
          some [T.b false]
        else
          bif n0_4 != n1_4 then
            some [T.b false]
          else
            some [T.b true]
def f170 (c : Orc) (lf : Nat) (n0_0 : Int) (s0_1 : ByteArray) (b0_2 : Bool) (n0_3 : Int) (n0_4 : Int) (n1_0 : Int) (s1_1 : ByteArray) (b1_2 : Bool) (n1_3 : Int) (n1_4 : Int) : Option (List T) := f170_t c lf n0_0 s0_1 b0_2 n0_3 n0_4 n1_0 s1_1 b1_2 n1_3 n1_4
theorem f170_raw (c : Orc) (lf : Nat) (n0_0 : Int) (s0_1 : ByteArray) (b0_2 : Bool) (n0_3 : Int) (n0_4 : Int) (n1_0 : Int) (s1_1 : ByteArray) (b1_2 : Bool) (n1_3 : Int) (n1_4 : Int) : funK c env lf 6 fi170 [.st [.i .i64 n0_0, .s s0_1, .b b0_2, .i .i64 n0_3, .i .i64 n0_4], .st [.i .i64 n1_0, .s s1_1, .b b1_2, .i .i64 n1_3, .i .i64 n1_4]] = f170_t c lf n0_0 s0_1 b0_2 n0_3 n0_4 n1_0 s1_1 b1_2 n1_3 n1_4 := by kernel_rfl
theorem f170_eq (c : Orc) (lf : Nat) (n0_0 : Int) (s0_1 : ByteArray) (b0_2 : Bool) (n0_3 : Int) (n0_4 : Int) (n1_0 : Int) (s1_1 : ByteArray) (b1_2 : Bool) (n1_3 : Int) (n1_4 : Int) : funK c env lf 6 fi170 [.st [.i .i64 n0_0, .s s0_1, .b b0_2, .i .i64 n0_3, .i .i64 n0_4], .st [.i .i64 n1_0, .s s1_1, .b b1_2, .i .i64 n1_3, .i .i64 n1_4]] = f170 c lf n0_0 s0_1 b0_2 n0_3 n0_4 n1_0 s1_1 b1_2 n1_3 n1_4 := by
  refine (f170_raw c lf n0_0 s0_1 b0_2 n0_3 n0_4 n1_0 s1_1 b1_2 n1_3 n1_4).trans ?_
  rfl
/-- loop.example/g00285/laws.eqRowS, the loop at region 4. -/
def f114_0_s (c : Orc) (lf : Nat) (l0 : List T) (l1 : List T) (L : Int → Option (List T)) (x338 : Int) : Option (List T) :=
  bif iLt x338 (l0.length : Int) then
    bif inR x338 l0.length then
    bif inR x338 l1.length then
    (c 170 [T.st [T.i .i64 (asI (T.cell (l0.getD x338.toNat T.u) 0)), T.s (asS (T.cell (l0.getD x338.toNat T.u) 1)), T.b (asB (T.cell (l0.getD x338.toNat T.u) 2)), T.i .i64 (asI (T.cell (l0.getD x338.toNat T.u) 3)), T.i .i64 (asI (T.cell (l0.getD x338.toNat T.u) 4))], T.st [T.i .i64 (asI (T.cell (l1.getD x338.toNat T.u) 0)), T.s (asS (T.cell (l1.getD x338.toNat T.u) 1)), T.b (asB (T.cell (l1.getD x338.toNat T.u) 2)), T.i .i64 (asI (T.cell (l1.getD x338.toNat T.u) 3)), T.i .i64 (asI (T.cell (l1.getD x338.toNat T.u) 4))]]).bind fun r339 =>
    bif !(asB (nth r339 0)) then
      some [T.i .i64 0, T.b false]
    else
      L (IntKind.wrap .i64 (x338 + 1))
    else none
    else none
  else
    some [T.i .i64 1]
def f114_0_c (l0 : List T) (l1 : List T) (x338 : Int) : CSt := ⟨[.ro 0 true [.i .i64, .s, .b, .i .i64, .i .i64] l0, .ro 0 true [.i .i64, .s, .b, .i .i64, .i .i64] l1, .i .i64 x338], [.dead, .dead]⟩
theorem f114_0_round (c : Orc) (lf : Nat) (l0 : List T) (l1 : List T) (L : CSt → Option (List T)) (x338 : Int) :
    roundK c env lf 6 fi114 2 4 [] [0, 1, 5] (x114_4_0) L (f114_0_c l0 l1 x338) = f114_0_s c lf l0 l1 (fun x338 => L (f114_0_c l0 l1 x338)) x338 := by kernel_rfl
def f114_0 (c : Orc) (lf : Nat) (l0 : List T) (l1 : List T) : Nat → Int → Option (List T)
  | 0 => fun _ => none
  | n + 1 => fun x338 => f114_0_s c lf l0 l1 (f114_0 c lf l0 l1 n) x338
theorem f114_0_u (c : Orc) (lf : Nat) (l0 : List T) (l1 : List T) (n : Nat) (x338 : Int) : f114_0 c lf l0 l1 (n + 1) x338 = f114_0_s c lf l0 l1 (f114_0 c lf l0 l1 n) x338 := rfl
theorem f114_0_eq (c : Orc) (lf : Nat) (l0 : List T) (l1 : List T) (n : Nat) (x338 : Int) :
    lpK c env lf 6 fi114 2 4 [] [0, 1, 5] (x114_4_0) n (f114_0_c l0 l1 x338) = f114_0 c lf l0 l1 n x338 := by
  induction n generalizing x338 with
  | zero => rfl
  | succ n ih =>
    refine (f114_0_round c lf l0 l1 _ x338).trans ?_
    have e : (fun x338 => lpK c env lf 6 fi114 2 4 [] [0, 1, 5] (x114_4_0) n (f114_0_c l0 l1 x338)) = f114_0 c lf l0 l1 n := by funext x338; exact ih x338
    show f114_0_s c lf l0 l1 (fun x338 => lpK c env lf 6 fi114 2 4 [] [0, 1, 5] (x114_4_0) n (f114_0_c l0 l1 x338)) x338 = _
    rw [e]; rfl
/-- loop.example/g00285/laws.eqRowS -/
def f114_t (c : Orc) (lf : Nat) (lp0 : List T → List T → Int → Option (List T)) (l0 : List T) (l1 : List T) : Option (List T) :=
  bif (l0.length : Int) != (l1.length : Int) then
    some [T.b false]
  else
    (lp0 l0 l1 0).bind fun r340 =>
    bif asI (nth r340 0) == 0 then
      some [T.b (asB (nth r340 1))]
    else
      some [T.b true]
def f114 (c : Orc) (lf : Nat) (l0 : List T) (l1 : List T) : Option (List T) := f114_t c lf (fun (l0 : List T) (l1 : List T) (x338 : Int) => f114_0 c lf l0 l1 lf x338) l0 l1
theorem f114_raw (c : Orc) (lf : Nat) (l0 : List T) (l1 : List T) : funK c env lf 6 fi114 [.sl l0, .sl l1] = f114_t c lf (fun (l0 : List T) (l1 : List T) (x338 : Int) => lpK c env lf 6 fi114 2 4 [] [0, 1, 5] (x114_4_0) lf (f114_0_c l0 l1 x338)) l0 l1 := by kernel_rfl
theorem f114_eq (c : Orc) (lf : Nat) (l0 : List T) (l1 : List T) : funK c env lf 6 fi114 [.sl l0, .sl l1] = f114 c lf l0 l1 := by
  refine (f114_raw c lf l0 l1).trans ?_
  have e0 : (fun (l0 : List T) (l1 : List T) (x338 : Int) => lpK c env lf 6 fi114 2 4 [] [0, 1, 5] (x114_4_0) lf (f114_0_c l0 l1 x338)) = (fun (l0 : List T) (l1 : List T) (x338 : Int) => f114_0 c lf l0 l1 lf x338) := by funext l0 l1 x338; exact f114_0_eq c lf l0 l1 lf x338
  rw [e0]; rfl
/-- loop.example/g00285/laws.eqTable -/
def f61_t (c : Orc) (lf : Nat) (n0_0 : Int) (l0_1 : List T) (n1_0 : Int) (l1_1 : List T) : Option (List T) :=
  bif n0_0 != n1_0 then
    some [T.b false]
  else
    (c 114 [T.sl l0_1, T.sl l1_1]).bind fun r341 =>
    bif !(asB (nth r341 0)) then
      some [T.b false]
    else
      some [T.b true]
def f61 (c : Orc) (lf : Nat) (n0_0 : Int) (l0_1 : List T) (n1_0 : Int) (l1_1 : List T) : Option (List T) := f61_t c lf n0_0 l0_1 n1_0 l1_1
theorem f61_raw (c : Orc) (lf : Nat) (n0_0 : Int) (l0_1 : List T) (n1_0 : Int) (l1_1 : List T) : funK c env lf 6 fi61 [.st [.i .i64 n0_0, .sl l0_1], .st [.i .i64 n1_0, .sl l1_1]] = f61_t c lf n0_0 l0_1 n1_0 l1_1 := by kernel_rfl
theorem f61_eq (c : Orc) (lf : Nat) (n0_0 : Int) (l0_1 : List T) (n1_0 : Int) (l1_1 : List T) : funK c env lf 6 fi61 [.st [.i .i64 n0_0, .sl l0_1], .st [.i .i64 n1_0, .sl l1_1]] = f61 c lf n0_0 l0_1 n1_0 l1_1 := by
  refine (f61_raw c lf n0_0 l0_1 n1_0 l1_1).trans ?_
  rfl
/-- loop.example/g00285/laws.eqPlace -/
def f214_t (c : Orc) (lf : Nat) (n0_0 : Int) (n0_1 : Int) (n1_0 : Int) (n1_1 : Int) : Option (List T) :=
  bif n0_0 != n1_0 then
    some [T.b false]
  else
    bif n0_1 != n1_1 then
      some [T.b false]
    else
      some [T.b true]
def f214 (c : Orc) (lf : Nat) (n0_0 : Int) (n0_1 : Int) (n1_0 : Int) (n1_1 : Int) : Option (List T) := f214_t c lf n0_0 n0_1 n1_0 n1_1
theorem f214_raw (c : Orc) (lf : Nat) (n0_0 : Int) (n0_1 : Int) (n1_0 : Int) (n1_1 : Int) : funK c env lf 6 fi214 [.st [.i .i64 n0_0, .i .i64 n0_1], .st [.i .i64 n1_0, .i .i64 n1_1]] = f214_t c lf n0_0 n0_1 n1_0 n1_1 := by kernel_rfl
theorem f214_eq (c : Orc) (lf : Nat) (n0_0 : Int) (n0_1 : Int) (n1_0 : Int) (n1_1 : Int) : funK c env lf 6 fi214 [.st [.i .i64 n0_0, .i .i64 n0_1], .st [.i .i64 n1_0, .i .i64 n1_1]] = f214 c lf n0_0 n0_1 n1_0 n1_1 := by
  refine (f214_raw c lf n0_0 n0_1 n1_0 n1_1).trans ?_
  rfl
/-- loop.example/g00285/laws.eqPlaceS, the loop at region 4. -/
def f171_0_s (c : Orc) (lf : Nat) (l0 : List T) (l1 : List T) (L : Int → Option (List T)) (x347 : Int) : Option (List T) :=
  bif iLt x347 (l0.length : Int) then
    bif inR x347 l0.length then
    bif inR x347 l1.length then
    (c 214 [T.st [T.i .i64 (asI (T.cell (l0.getD x347.toNat T.u) 0)), T.i .i64 (asI (T.cell (l0.getD x347.toNat T.u) 1))], T.st [T.i .i64 (asI (T.cell (l1.getD x347.toNat T.u) 0)), T.i .i64 (asI (T.cell (l1.getD x347.toNat T.u) 1))]]).bind fun r348 =>
    bif !(asB (nth r348 0)) then
      some [T.i .i64 0, T.b false]
    else
      L (IntKind.wrap .i64 (x347 + 1))
    else none
    else none
  else
    some [T.i .i64 1]
def f171_0_c (l0 : List T) (l1 : List T) (x347 : Int) : CSt := ⟨[.ro 0 true [.i .i64, .i .i64] l0, .ro 0 true [.i .i64, .i .i64] l1, .i .i64 x347], [.dead, .dead]⟩
theorem f171_0_round (c : Orc) (lf : Nat) (l0 : List T) (l1 : List T) (L : CSt → Option (List T)) (x347 : Int) :
    roundK c env lf 6 fi171 2 4 [] [0, 1, 5] (x171_4_0) L (f171_0_c l0 l1 x347) = f171_0_s c lf l0 l1 (fun x347 => L (f171_0_c l0 l1 x347)) x347 := by kernel_rfl
def f171_0 (c : Orc) (lf : Nat) (l0 : List T) (l1 : List T) : Nat → Int → Option (List T)
  | 0 => fun _ => none
  | n + 1 => fun x347 => f171_0_s c lf l0 l1 (f171_0 c lf l0 l1 n) x347
theorem f171_0_u (c : Orc) (lf : Nat) (l0 : List T) (l1 : List T) (n : Nat) (x347 : Int) : f171_0 c lf l0 l1 (n + 1) x347 = f171_0_s c lf l0 l1 (f171_0 c lf l0 l1 n) x347 := rfl
theorem f171_0_eq (c : Orc) (lf : Nat) (l0 : List T) (l1 : List T) (n : Nat) (x347 : Int) :
    lpK c env lf 6 fi171 2 4 [] [0, 1, 5] (x171_4_0) n (f171_0_c l0 l1 x347) = f171_0 c lf l0 l1 n x347 := by
  induction n generalizing x347 with
  | zero => rfl
  | succ n ih =>
    refine (f171_0_round c lf l0 l1 _ x347).trans ?_
    have e : (fun x347 => lpK c env lf 6 fi171 2 4 [] [0, 1, 5] (x171_4_0) n (f171_0_c l0 l1 x347)) = f171_0 c lf l0 l1 n := by funext x347; exact ih x347
    show f171_0_s c lf l0 l1 (fun x347 => lpK c env lf 6 fi171 2 4 [] [0, 1, 5] (x171_4_0) n (f171_0_c l0 l1 x347)) x347 = _
    rw [e]; rfl
/-- loop.example/g00285/laws.eqPlaceS -/
def f171_t (c : Orc) (lf : Nat) (lp0 : List T → List T → Int → Option (List T)) (l0 : List T) (l1 : List T) : Option (List T) :=
  bif (l0.length : Int) != (l1.length : Int) then
    some [T.b false]
  else
    (lp0 l0 l1 0).bind fun r349 =>
    bif asI (nth r349 0) == 0 then
      some [T.b (asB (nth r349 1))]
    else
      some [T.b true]
def f171 (c : Orc) (lf : Nat) (l0 : List T) (l1 : List T) : Option (List T) := f171_t c lf (fun (l0 : List T) (l1 : List T) (x347 : Int) => f171_0 c lf l0 l1 lf x347) l0 l1
theorem f171_raw (c : Orc) (lf : Nat) (l0 : List T) (l1 : List T) : funK c env lf 6 fi171 [.sl l0, .sl l1] = f171_t c lf (fun (l0 : List T) (l1 : List T) (x347 : Int) => lpK c env lf 6 fi171 2 4 [] [0, 1, 5] (x171_4_0) lf (f171_0_c l0 l1 x347)) l0 l1 := by kernel_rfl
theorem f171_eq (c : Orc) (lf : Nat) (l0 : List T) (l1 : List T) : funK c env lf 6 fi171 [.sl l0, .sl l1] = f171 c lf l0 l1 := by
  refine (f171_raw c lf l0 l1).trans ?_
  have e0 : (fun (l0 : List T) (l1 : List T) (x347 : Int) => lpK c env lf 6 fi171 2 4 [] [0, 1, 5] (x171_4_0) lf (f171_0_c l0 l1 x347)) = (fun (l0 : List T) (l1 : List T) (x347 : Int) => f171_0 c lf l0 l1 lf x347) := by funext l0 l1 x347; exact f171_0_eq c lf l0 l1 lf x347
  rw [e0]; rfl
/-- loop.example/g00285/laws.eqMap -/
def f115_t (c : Orc) (lf : Nat) (n0_0 : Int) (l0_1 : List T) (n1_0 : Int) (l1_1 : List T) : Option (List T) :=
  bif n0_0 != n1_0 then
    some [T.b false]
  else
    (c 171 [T.sl l0_1, T.sl l1_1]).bind fun r350 =>
    bif !(asB (nth r350 0)) then
      some [T.b false]
    else
      some [T.b true]
def f115 (c : Orc) (lf : Nat) (n0_0 : Int) (l0_1 : List T) (n1_0 : Int) (l1_1 : List T) : Option (List T) := f115_t c lf n0_0 l0_1 n1_0 l1_1
theorem f115_raw (c : Orc) (lf : Nat) (n0_0 : Int) (l0_1 : List T) (n1_0 : Int) (l1_1 : List T) : funK c env lf 6 fi115 [.st [.i .i64 n0_0, .sl l0_1], .st [.i .i64 n1_0, .sl l1_1]] = f115_t c lf n0_0 l0_1 n1_0 l1_1 := by kernel_rfl
theorem f115_eq (c : Orc) (lf : Nat) (n0_0 : Int) (l0_1 : List T) (n1_0 : Int) (l1_1 : List T) : funK c env lf 6 fi115 [.st [.i .i64 n0_0, .sl l0_1], .st [.i .i64 n1_0, .sl l1_1]] = f115 c lf n0_0 l0_1 n1_0 l1_1 := by
  refine (f115_raw c lf n0_0 l0_1 n1_0 l1_1).trans ?_
  rfl
/-- loop.example/g00285/laws.eqMapS, the loop at region 4. -/
def f62_0_s (c : Orc) (lf : Nat) (l0 : List T) (l1 : List T) (L : Int → Option (List T)) (x356 : Int) : Option (List T) :=
  bif iLt x356 (l0.length : Int) then
    bif inR x356 l0.length then
    bif inR x356 l1.length then
    (c 115 [T.st [T.i .i64 (asI (T.cell (l0.getD x356.toNat T.u) 0)), T.sl (asL (T.cell (l0.getD x356.toNat T.u) 1))], T.st [T.i .i64 (asI (T.cell (l1.getD x356.toNat T.u) 0)), T.sl (asL (T.cell (l1.getD x356.toNat T.u) 1))]]).bind fun r357 =>
    bif !(asB (nth r357 0)) then
      some [T.i .i64 0, T.b false]
    else
      L (IntKind.wrap .i64 (x356 + 1))
    else none
    else none
  else
    some [T.i .i64 1]
def f62_0_c (l0 : List T) (l1 : List T) (x356 : Int) : CSt := ⟨[.ro 0 true [.i .i64, .sl true [.i .i64, .i .i64]] l0, .ro 0 true [.i .i64, .sl true [.i .i64, .i .i64]] l1, .i .i64 x356], [.dead, .dead]⟩
theorem f62_0_round (c : Orc) (lf : Nat) (l0 : List T) (l1 : List T) (L : CSt → Option (List T)) (x356 : Int) :
    roundK c env lf 6 fi62 2 4 [] [0, 1, 5] (x62_4_0) L (f62_0_c l0 l1 x356) = f62_0_s c lf l0 l1 (fun x356 => L (f62_0_c l0 l1 x356)) x356 := by kernel_rfl
def f62_0 (c : Orc) (lf : Nat) (l0 : List T) (l1 : List T) : Nat → Int → Option (List T)
  | 0 => fun _ => none
  | n + 1 => fun x356 => f62_0_s c lf l0 l1 (f62_0 c lf l0 l1 n) x356
theorem f62_0_u (c : Orc) (lf : Nat) (l0 : List T) (l1 : List T) (n : Nat) (x356 : Int) : f62_0 c lf l0 l1 (n + 1) x356 = f62_0_s c lf l0 l1 (f62_0 c lf l0 l1 n) x356 := rfl
theorem f62_0_eq (c : Orc) (lf : Nat) (l0 : List T) (l1 : List T) (n : Nat) (x356 : Int) :
    lpK c env lf 6 fi62 2 4 [] [0, 1, 5] (x62_4_0) n (f62_0_c l0 l1 x356) = f62_0 c lf l0 l1 n x356 := by
  induction n generalizing x356 with
  | zero => rfl
  | succ n ih =>
    refine (f62_0_round c lf l0 l1 _ x356).trans ?_
    have e : (fun x356 => lpK c env lf 6 fi62 2 4 [] [0, 1, 5] (x62_4_0) n (f62_0_c l0 l1 x356)) = f62_0 c lf l0 l1 n := by funext x356; exact ih x356
    show f62_0_s c lf l0 l1 (fun x356 => lpK c env lf 6 fi62 2 4 [] [0, 1, 5] (x62_4_0) n (f62_0_c l0 l1 x356)) x356 = _
    rw [e]; rfl
/-- loop.example/g00285/laws.eqMapS -/
def f62_t (c : Orc) (lf : Nat) (lp0 : List T → List T → Int → Option (List T)) (l0 : List T) (l1 : List T) : Option (List T) :=
  bif (l0.length : Int) != (l1.length : Int) then
    some [T.b false]
  else
    (lp0 l0 l1 0).bind fun r358 =>
    bif asI (nth r358 0) == 0 then
      some [T.b (asB (nth r358 1))]
    else
      some [T.b true]
def f62 (c : Orc) (lf : Nat) (l0 : List T) (l1 : List T) : Option (List T) := f62_t c lf (fun (l0 : List T) (l1 : List T) (x356 : Int) => f62_0 c lf l0 l1 lf x356) l0 l1
theorem f62_raw (c : Orc) (lf : Nat) (l0 : List T) (l1 : List T) : funK c env lf 6 fi62 [.sl l0, .sl l1] = f62_t c lf (fun (l0 : List T) (l1 : List T) (x356 : Int) => lpK c env lf 6 fi62 2 4 [] [0, 1, 5] (x62_4_0) lf (f62_0_c l0 l1 x356)) l0 l1 := by kernel_rfl
theorem f62_eq (c : Orc) (lf : Nat) (l0 : List T) (l1 : List T) : funK c env lf 6 fi62 [.sl l0, .sl l1] = f62 c lf l0 l1 := by
  refine (f62_raw c lf l0 l1).trans ?_
  have e0 : (fun (l0 : List T) (l1 : List T) (x356 : Int) => lpK c env lf 6 fi62 2 4 [] [0, 1, 5] (x62_4_0) lf (f62_0_c l0 l1 x356)) = (fun (l0 : List T) (l1 : List T) (x356 : Int) => f62_0 c lf l0 l1 lf x356) := by funext l0 l1 x356; exact f62_0_eq c lf l0 l1 lf x356
  rw [e0]; rfl
/-- loop.example/g00285/laws.eqImage -/
def f15_t (c : Orc) (lf : Nat) (l0_0 : List T) (n0_1 : Int) (n0_2 : Int) (l0_3 : List T) (l0_4 : List T) (n0_5 : Int) (n0_6 : Int) (l1_0 : List T) (n1_1 : Int) (n1_2 : Int) (l1_3 : List T) (l1_4 : List T) (n1_5 : Int) (n1_6 : Int) : Option (List T) :=
  (c 60 [T.st [T.sl l0_0, T.i .i64 n0_1], T.st [T.sl l1_0, T.i .i64 n1_1]]).bind fun r359 =>
  bif !(asB (nth r359 0)) then
    some [T.b false]
  else
    (c 61 [T.st [T.i .i64 n0_2, T.sl l0_3], T.st [T.i .i64 n1_2, T.sl l1_3]]).bind fun r360 =>
    bif !(asB (nth r360 0)) then
      some [T.b false]
    else
      (c 62 [T.sl l0_4, T.sl l1_4]).bind fun r361 =>
      bif !(asB (nth r361 0)) then
        some [T.b false]
      else
        bif n0_5 != n1_5 then
          some [T.b false]
        else
          bif n0_6 != n1_6 then
            some [T.b false]
          else
            some [T.b true]
def f15 (c : Orc) (lf : Nat) (l0_0 : List T) (n0_1 : Int) (n0_2 : Int) (l0_3 : List T) (l0_4 : List T) (n0_5 : Int) (n0_6 : Int) (l1_0 : List T) (n1_1 : Int) (n1_2 : Int) (l1_3 : List T) (l1_4 : List T) (n1_5 : Int) (n1_6 : Int) : Option (List T) := f15_t c lf l0_0 n0_1 n0_2 l0_3 l0_4 n0_5 n0_6 l1_0 n1_1 n1_2 l1_3 l1_4 n1_5 n1_6
theorem f15_raw (c : Orc) (lf : Nat) (l0_0 : List T) (n0_1 : Int) (n0_2 : Int) (l0_3 : List T) (l0_4 : List T) (n0_5 : Int) (n0_6 : Int) (l1_0 : List T) (n1_1 : Int) (n1_2 : Int) (l1_3 : List T) (l1_4 : List T) (n1_5 : Int) (n1_6 : Int) : funK c env lf 6 fi15 [.st [.sl l0_0, .i .i64 n0_1, .i .i64 n0_2, .sl l0_3, .sl l0_4, .i .i64 n0_5, .i .i64 n0_6], .st [.sl l1_0, .i .i64 n1_1, .i .i64 n1_2, .sl l1_3, .sl l1_4, .i .i64 n1_5, .i .i64 n1_6]] = f15_t c lf l0_0 n0_1 n0_2 l0_3 l0_4 n0_5 n0_6 l1_0 n1_1 n1_2 l1_3 l1_4 n1_5 n1_6 := by kernel_rfl
theorem f15_eq (c : Orc) (lf : Nat) (l0_0 : List T) (n0_1 : Int) (n0_2 : Int) (l0_3 : List T) (l0_4 : List T) (n0_5 : Int) (n0_6 : Int) (l1_0 : List T) (n1_1 : Int) (n1_2 : Int) (l1_3 : List T) (l1_4 : List T) (n1_5 : Int) (n1_6 : Int) : funK c env lf 6 fi15 [.st [.sl l0_0, .i .i64 n0_1, .i .i64 n0_2, .sl l0_3, .sl l0_4, .i .i64 n0_5, .i .i64 n0_6], .st [.sl l1_0, .i .i64 n1_1, .i .i64 n1_2, .sl l1_3, .sl l1_4, .i .i64 n1_5, .i .i64 n1_6]] = f15 c lf l0_0 n0_1 n0_2 l0_3 l0_4 n0_5 n0_6 l1_0 n1_1 n1_2 l1_3 l1_4 n1_5 n1_6 := by
  refine (f15_raw c lf l0_0 n0_1 n0_2 l0_3 l0_4 n0_5 n0_6 l1_0 n1_1 n1_2 l1_3 l1_4 n1_5 n1_6).trans ?_
  rfl
/-- loop.example/g00285/laws.eqPage -/
def f254_t (c : Orc) (lf : Nat) (b0_0 : Bool) (l0_1 : List T) (b1_0 : Bool) (l1_1 : List T) : Option (List T) :=
  bif !(b0_0 == b1_0) then
    some [T.b false]
  else
    (c 48 [T.sl l0_1, T.sl l1_1]).bind fun r362 =>
    bif !(asB (nth r362 0)) then
      some [T.b false]
    else
      some [T.b true]
def f254 (c : Orc) (lf : Nat) (b0_0 : Bool) (l0_1 : List T) (b1_0 : Bool) (l1_1 : List T) : Option (List T) := f254_t c lf b0_0 l0_1 b1_0 l1_1
theorem f254_raw (c : Orc) (lf : Nat) (b0_0 : Bool) (l0_1 : List T) (b1_0 : Bool) (l1_1 : List T) : funK c env lf 6 fi254 [.st [.b b0_0, .sl l0_1], .st [.b b1_0, .sl l1_1]] = f254_t c lf b0_0 l0_1 b1_0 l1_1 := by kernel_rfl
theorem f254_eq (c : Orc) (lf : Nat) (b0_0 : Bool) (l0_1 : List T) (b1_0 : Bool) (l1_1 : List T) : funK c env lf 6 fi254 [.st [.b b0_0, .sl l0_1], .st [.b b1_0, .sl l1_1]] = f254 c lf b0_0 l0_1 b1_0 l1_1 := by
  refine (f254_raw c lf b0_0 l0_1 b1_0 l1_1).trans ?_
  rfl
/-- loop.example/g00285/laws.eqPageS, the loop at region 4. -/
def f244_0_s (c : Orc) (lf : Nat) (l0 : List T) (l1 : List T) (L : Int → Option (List T)) (x368 : Int) : Option (List T) :=
  bif iLt x368 (l0.length : Int) then
    bif inR x368 l0.length then
    bif inR x368 l1.length then
    (c 254 [T.st [T.b (asB (T.cell (l0.getD x368.toNat T.u) 0)), T.sl (asL (T.cell (l0.getD x368.toNat T.u) 1))], T.st [T.b (asB (T.cell (l1.getD x368.toNat T.u) 0)), T.sl (asL (T.cell (l1.getD x368.toNat T.u) 1))]]).bind fun r369 =>
    bif !(asB (nth r369 0)) then
      some [T.i .i64 0, T.b false]
    else
      L (IntKind.wrap .i64 (x368 + 1))
    else none
    else none
  else
    some [T.i .i64 1]
def f244_0_c (l0 : List T) (l1 : List T) (x368 : Int) : CSt := ⟨[.ro 0 true [.b, .sl false [.i .u8]] l0, .ro 0 true [.b, .sl false [.i .u8]] l1, .i .i64 x368], [.dead, .dead]⟩
theorem f244_0_round (c : Orc) (lf : Nat) (l0 : List T) (l1 : List T) (L : CSt → Option (List T)) (x368 : Int) :
    roundK c env lf 6 fi244 2 4 [] [0, 1, 5] (x244_4_0) L (f244_0_c l0 l1 x368) = f244_0_s c lf l0 l1 (fun x368 => L (f244_0_c l0 l1 x368)) x368 := by kernel_rfl
def f244_0 (c : Orc) (lf : Nat) (l0 : List T) (l1 : List T) : Nat → Int → Option (List T)
  | 0 => fun _ => none
  | n + 1 => fun x368 => f244_0_s c lf l0 l1 (f244_0 c lf l0 l1 n) x368
theorem f244_0_u (c : Orc) (lf : Nat) (l0 : List T) (l1 : List T) (n : Nat) (x368 : Int) : f244_0 c lf l0 l1 (n + 1) x368 = f244_0_s c lf l0 l1 (f244_0 c lf l0 l1 n) x368 := rfl
theorem f244_0_eq (c : Orc) (lf : Nat) (l0 : List T) (l1 : List T) (n : Nat) (x368 : Int) :
    lpK c env lf 6 fi244 2 4 [] [0, 1, 5] (x244_4_0) n (f244_0_c l0 l1 x368) = f244_0 c lf l0 l1 n x368 := by
  induction n generalizing x368 with
  | zero => rfl
  | succ n ih =>
    refine (f244_0_round c lf l0 l1 _ x368).trans ?_
    have e : (fun x368 => lpK c env lf 6 fi244 2 4 [] [0, 1, 5] (x244_4_0) n (f244_0_c l0 l1 x368)) = f244_0 c lf l0 l1 n := by funext x368; exact ih x368
    show f244_0_s c lf l0 l1 (fun x368 => lpK c env lf 6 fi244 2 4 [] [0, 1, 5] (x244_4_0) n (f244_0_c l0 l1 x368)) x368 = _
    rw [e]; rfl
/-- loop.example/g00285/laws.eqPageS -/
def f244_t (c : Orc) (lf : Nat) (lp0 : List T → List T → Int → Option (List T)) (l0 : List T) (l1 : List T) : Option (List T) :=
  bif (l0.length : Int) != (l1.length : Int) then
    some [T.b false]
  else
    (lp0 l0 l1 0).bind fun r370 =>
    bif asI (nth r370 0) == 0 then
      some [T.b (asB (nth r370 1))]
    else
      some [T.b true]
def f244 (c : Orc) (lf : Nat) (l0 : List T) (l1 : List T) : Option (List T) := f244_t c lf (fun (l0 : List T) (l1 : List T) (x368 : Int) => f244_0 c lf l0 l1 lf x368) l0 l1
theorem f244_raw (c : Orc) (lf : Nat) (l0 : List T) (l1 : List T) : funK c env lf 6 fi244 [.sl l0, .sl l1] = f244_t c lf (fun (l0 : List T) (l1 : List T) (x368 : Int) => lpK c env lf 6 fi244 2 4 [] [0, 1, 5] (x244_4_0) lf (f244_0_c l0 l1 x368)) l0 l1 := by kernel_rfl
theorem f244_eq (c : Orc) (lf : Nat) (l0 : List T) (l1 : List T) : funK c env lf 6 fi244 [.sl l0, .sl l1] = f244 c lf l0 l1 := by
  refine (f244_raw c lf l0 l1).trans ?_
  have e0 : (fun (l0 : List T) (l1 : List T) (x368 : Int) => lpK c env lf 6 fi244 2 4 [] [0, 1, 5] (x244_4_0) lf (f244_0_c l0 l1 x368)) = (fun (l0 : List T) (l1 : List T) (x368 : Int) => f244_0 c lf l0 l1 lf x368) := by funext l0 l1 x368; exact f244_0_eq c lf l0 l1 lf x368
  rw [e0]; rfl
/-- loop.example/g00285/laws.eqBlock -/
def f221_t (c : Orc) (lf : Nat) (l0_0 : List T) (n0_1 : Int) (b0_2 : Bool) (l1_0 : List T) (n1_1 : Int) (b1_2 : Bool) : Option (List T) :=
  (c 244 [T.sl l0_0, T.sl l1_0]).bind fun r371 =>
  bif !(asB (nth r371 0)) then
    some [T.b false]
  else
    bif n0_1 != n1_1 then
      some [T.b false]
    else
      bif !(b0_2 == b1_2) then
        some [T.b false]
      else
        some [T.b true]
def f221 (c : Orc) (lf : Nat) (l0_0 : List T) (n0_1 : Int) (b0_2 : Bool) (l1_0 : List T) (n1_1 : Int) (b1_2 : Bool) : Option (List T) := f221_t c lf l0_0 n0_1 b0_2 l1_0 n1_1 b1_2
theorem f221_raw (c : Orc) (lf : Nat) (l0_0 : List T) (n0_1 : Int) (b0_2 : Bool) (l1_0 : List T) (n1_1 : Int) (b1_2 : Bool) : funK c env lf 6 fi221 [.st [.sl l0_0, .i .i64 n0_1, .b b0_2], .st [.sl l1_0, .i .i64 n1_1, .b b1_2]] = f221_t c lf l0_0 n0_1 b0_2 l1_0 n1_1 b1_2 := by kernel_rfl
theorem f221_eq (c : Orc) (lf : Nat) (l0_0 : List T) (n0_1 : Int) (b0_2 : Bool) (l1_0 : List T) (n1_1 : Int) (b1_2 : Bool) : funK c env lf 6 fi221 [.st [.sl l0_0, .i .i64 n0_1, .b b0_2], .st [.sl l1_0, .i .i64 n1_1, .b b1_2]] = f221 c lf l0_0 n0_1 b0_2 l1_0 n1_1 b1_2 := by
  refine (f221_raw c lf l0_0 n0_1 b0_2 l1_0 n1_1 b1_2).trans ?_
  rfl
/-- loop.example/g00285/laws.eqBlockS, the loop at region 4. -/
def f179_0_s (c : Orc) (lf : Nat) (l0 : List T) (l1 : List T) (L : Int → Option (List T)) (x377 : Int) : Option (List T) :=
  bif iLt x377 (l0.length : Int) then
    bif inR x377 l0.length then
    bif inR x377 l1.length then
    (c 221 [T.st [T.sl (asL (T.cell (l0.getD x377.toNat T.u) 0)), T.i .i64 (asI (T.cell (l0.getD x377.toNat T.u) 1)), T.b (asB (T.cell (l0.getD x377.toNat T.u) 2))], T.st [T.sl (asL (T.cell (l1.getD x377.toNat T.u) 0)), T.i .i64 (asI (T.cell (l1.getD x377.toNat T.u) 1)), T.b (asB (T.cell (l1.getD x377.toNat T.u) 2))]]).bind fun r378 =>
    bif !(asB (nth r378 0)) then
      some [T.i .i64 0, T.b false]
    else
      L (IntKind.wrap .i64 (x377 + 1))
    else none
    else none
  else
    some [T.i .i64 1]
def f179_0_c (l0 : List T) (l1 : List T) (x377 : Int) : CSt := ⟨[.ro 0 true [.sl true [.b, .sl false [.i .u8]], .i .i64, .b] l0, .ro 0 true [.sl true [.b, .sl false [.i .u8]], .i .i64, .b] l1, .i .i64 x377], [.dead, .dead]⟩
theorem f179_0_round (c : Orc) (lf : Nat) (l0 : List T) (l1 : List T) (L : CSt → Option (List T)) (x377 : Int) :
    roundK c env lf 6 fi179 2 4 [] [0, 1, 5] (x179_4_0) L (f179_0_c l0 l1 x377) = f179_0_s c lf l0 l1 (fun x377 => L (f179_0_c l0 l1 x377)) x377 := by kernel_rfl
def f179_0 (c : Orc) (lf : Nat) (l0 : List T) (l1 : List T) : Nat → Int → Option (List T)
  | 0 => fun _ => none
  | n + 1 => fun x377 => f179_0_s c lf l0 l1 (f179_0 c lf l0 l1 n) x377
theorem f179_0_u (c : Orc) (lf : Nat) (l0 : List T) (l1 : List T) (n : Nat) (x377 : Int) : f179_0 c lf l0 l1 (n + 1) x377 = f179_0_s c lf l0 l1 (f179_0 c lf l0 l1 n) x377 := rfl
theorem f179_0_eq (c : Orc) (lf : Nat) (l0 : List T) (l1 : List T) (n : Nat) (x377 : Int) :
    lpK c env lf 6 fi179 2 4 [] [0, 1, 5] (x179_4_0) n (f179_0_c l0 l1 x377) = f179_0 c lf l0 l1 n x377 := by
  induction n generalizing x377 with
  | zero => rfl
  | succ n ih =>
    refine (f179_0_round c lf l0 l1 _ x377).trans ?_
    have e : (fun x377 => lpK c env lf 6 fi179 2 4 [] [0, 1, 5] (x179_4_0) n (f179_0_c l0 l1 x377)) = f179_0 c lf l0 l1 n := by funext x377; exact ih x377
    show f179_0_s c lf l0 l1 (fun x377 => lpK c env lf 6 fi179 2 4 [] [0, 1, 5] (x179_4_0) n (f179_0_c l0 l1 x377)) x377 = _
    rw [e]; rfl
/-- loop.example/g00285/laws.eqBlockS -/
def f179_t (c : Orc) (lf : Nat) (lp0 : List T → List T → Int → Option (List T)) (l0 : List T) (l1 : List T) : Option (List T) :=
  bif (l0.length : Int) != (l1.length : Int) then
    some [T.b false]
  else
    (lp0 l0 l1 0).bind fun r379 =>
    bif asI (nth r379 0) == 0 then
      some [T.b (asB (nth r379 1))]
    else
      some [T.b true]
def f179 (c : Orc) (lf : Nat) (l0 : List T) (l1 : List T) : Option (List T) := f179_t c lf (fun (l0 : List T) (l1 : List T) (x377 : Int) => f179_0 c lf l0 l1 lf x377) l0 l1
theorem f179_raw (c : Orc) (lf : Nat) (l0 : List T) (l1 : List T) : funK c env lf 6 fi179 [.sl l0, .sl l1] = f179_t c lf (fun (l0 : List T) (l1 : List T) (x377 : Int) => lpK c env lf 6 fi179 2 4 [] [0, 1, 5] (x179_4_0) lf (f179_0_c l0 l1 x377)) l0 l1 := by kernel_rfl
theorem f179_eq (c : Orc) (lf : Nat) (l0 : List T) (l1 : List T) : funK c env lf 6 fi179 [.sl l0, .sl l1] = f179 c lf l0 l1 := by
  refine (f179_raw c lf l0 l1).trans ?_
  have e0 : (fun (l0 : List T) (l1 : List T) (x377 : Int) => lpK c env lf 6 fi179 2 4 [] [0, 1, 5] (x179_4_0) lf (f179_0_c l0 l1 x377)) = (fun (l0 : List T) (l1 : List T) (x377 : Int) => f179_0 c lf l0 l1 lf x377) := by funext l0 l1 x377; exact f179_0_eq c lf l0 l1 lf x377
  rw [e0]; rfl
/-- loop.example/g00285/laws.eqChip -/
def f129_t (c : Orc) (lf : Nat) (l0_0 : List T) (l1_0 : List T) : Option (List T) :=
  (c 179 [T.sl l0_0, T.sl l1_0]).bind fun r380 =>
  bif !(asB (nth r380 0)) then
    some [T.b false]
  else
    some [T.b true]
def f129 (c : Orc) (lf : Nat) (l0_0 : List T) (l1_0 : List T) : Option (List T) := f129_t c lf l0_0 l1_0
theorem f129_raw (c : Orc) (lf : Nat) (l0_0 : List T) (l1_0 : List T) : funK c env lf 6 fi129 [.st [.sl l0_0], .st [.sl l1_0]] = f129_t c lf l0_0 l1_0 := by kernel_rfl
theorem f129_eq (c : Orc) (lf : Nat) (l0_0 : List T) (l1_0 : List T) : funK c env lf 6 fi129 [.st [.sl l0_0], .st [.sl l1_0]] = f129 c lf l0_0 l1_0 := by
  refine (f129_raw c lf l0_0 l1_0).trans ?_
  rfl
/-- loop.example/g00285/laws.eqFault -/
def f180_t (c : Orc) (lf : Nat) (n0_0 : Int) (n0_1 : Int) (n0_2 : Int) (n1_0 : Int) (n1_1 : Int) (n1_2 : Int) : Option (List T) :=
  bif n0_0 != n1_0 then
    some [T.b false]
  else
    bif n0_1 != n1_1 then
      some [T.b false]
    else
      bif n0_2 != n1_2 then
        some [T.b false]
      else
        some [T.b true]
def f180 (c : Orc) (lf : Nat) (n0_0 : Int) (n0_1 : Int) (n0_2 : Int) (n1_0 : Int) (n1_1 : Int) (n1_2 : Int) : Option (List T) := f180_t c lf n0_0 n0_1 n0_2 n1_0 n1_1 n1_2
theorem f180_raw (c : Orc) (lf : Nat) (n0_0 : Int) (n0_1 : Int) (n0_2 : Int) (n1_0 : Int) (n1_1 : Int) (n1_2 : Int) : funK c env lf 6 fi180 [.st [.i .i64 n0_0, .i .i64 n0_1, .i .i64 n0_2], .st [.i .i64 n1_0, .i .i64 n1_1, .i .i64 n1_2]] = f180_t c lf n0_0 n0_1 n0_2 n1_0 n1_1 n1_2 := by kernel_rfl
theorem f180_eq (c : Orc) (lf : Nat) (n0_0 : Int) (n0_1 : Int) (n0_2 : Int) (n1_0 : Int) (n1_1 : Int) (n1_2 : Int) : funK c env lf 6 fi180 [.st [.i .i64 n0_0, .i .i64 n0_1, .i .i64 n0_2], .st [.i .i64 n1_0, .i .i64 n1_1, .i .i64 n1_2]] = f180 c lf n0_0 n0_1 n0_2 n1_0 n1_1 n1_2 := by
  refine (f180_raw c lf n0_0 n0_1 n0_2 n1_0 n1_1 n1_2).trans ?_
  rfl
/-- loop.example/g00285/laws.eqFaultS, the loop at region 4. -/
def f130_0_s (c : Orc) (lf : Nat) (l0 : List T) (l1 : List T) (L : Int → Option (List T)) (x386 : Int) : Option (List T) :=
  bif iLt x386 (l0.length : Int) then
    bif inR x386 l0.length then
    bif inR x386 l1.length then
    (c 180 [T.st [T.i .i64 (asI (T.cell (l0.getD x386.toNat T.u) 0)), T.i .i64 (asI (T.cell (l0.getD x386.toNat T.u) 1)), T.i .i64 (asI (T.cell (l0.getD x386.toNat T.u) 2))], T.st [T.i .i64 (asI (T.cell (l1.getD x386.toNat T.u) 0)), T.i .i64 (asI (T.cell (l1.getD x386.toNat T.u) 1)), T.i .i64 (asI (T.cell (l1.getD x386.toNat T.u) 2))]]).bind fun r387 =>
    bif !(asB (nth r387 0)) then
      some [T.i .i64 0, T.b false]
    else
      L (IntKind.wrap .i64 (x386 + 1))
    else none
    else none
  else
    some [T.i .i64 1]
def f130_0_c (l0 : List T) (l1 : List T) (x386 : Int) : CSt := ⟨[.ro 0 true [.i .i64, .i .i64, .i .i64] l0, .ro 0 true [.i .i64, .i .i64, .i .i64] l1, .i .i64 x386], [.dead, .dead]⟩
theorem f130_0_round (c : Orc) (lf : Nat) (l0 : List T) (l1 : List T) (L : CSt → Option (List T)) (x386 : Int) :
    roundK c env lf 6 fi130 2 4 [] [0, 1, 5] (x130_4_0) L (f130_0_c l0 l1 x386) = f130_0_s c lf l0 l1 (fun x386 => L (f130_0_c l0 l1 x386)) x386 := by kernel_rfl
def f130_0 (c : Orc) (lf : Nat) (l0 : List T) (l1 : List T) : Nat → Int → Option (List T)
  | 0 => fun _ => none
  | n + 1 => fun x386 => f130_0_s c lf l0 l1 (f130_0 c lf l0 l1 n) x386
theorem f130_0_u (c : Orc) (lf : Nat) (l0 : List T) (l1 : List T) (n : Nat) (x386 : Int) : f130_0 c lf l0 l1 (n + 1) x386 = f130_0_s c lf l0 l1 (f130_0 c lf l0 l1 n) x386 := rfl
theorem f130_0_eq (c : Orc) (lf : Nat) (l0 : List T) (l1 : List T) (n : Nat) (x386 : Int) :
    lpK c env lf 6 fi130 2 4 [] [0, 1, 5] (x130_4_0) n (f130_0_c l0 l1 x386) = f130_0 c lf l0 l1 n x386 := by
  induction n generalizing x386 with
  | zero => rfl
  | succ n ih =>
    refine (f130_0_round c lf l0 l1 _ x386).trans ?_
    have e : (fun x386 => lpK c env lf 6 fi130 2 4 [] [0, 1, 5] (x130_4_0) n (f130_0_c l0 l1 x386)) = f130_0 c lf l0 l1 n := by funext x386; exact ih x386
    show f130_0_s c lf l0 l1 (fun x386 => lpK c env lf 6 fi130 2 4 [] [0, 1, 5] (x130_4_0) n (f130_0_c l0 l1 x386)) x386 = _
    rw [e]; rfl
/-- loop.example/g00285/laws.eqFaultS -/
def f130_t (c : Orc) (lf : Nat) (lp0 : List T → List T → Int → Option (List T)) (l0 : List T) (l1 : List T) : Option (List T) :=
  bif (l0.length : Int) != (l1.length : Int) then
    some [T.b false]
  else
    (lp0 l0 l1 0).bind fun r388 =>
    bif asI (nth r388 0) == 0 then
      some [T.b (asB (nth r388 1))]
    else
      some [T.b true]
def f130 (c : Orc) (lf : Nat) (l0 : List T) (l1 : List T) : Option (List T) := f130_t c lf (fun (l0 : List T) (l1 : List T) (x386 : Int) => f130_0 c lf l0 l1 lf x386) l0 l1
theorem f130_raw (c : Orc) (lf : Nat) (l0 : List T) (l1 : List T) : funK c env lf 6 fi130 [.sl l0, .sl l1] = f130_t c lf (fun (l0 : List T) (l1 : List T) (x386 : Int) => lpK c env lf 6 fi130 2 4 [] [0, 1, 5] (x130_4_0) lf (f130_0_c l0 l1 x386)) l0 l1 := by kernel_rfl
theorem f130_eq (c : Orc) (lf : Nat) (l0 : List T) (l1 : List T) : funK c env lf 6 fi130 [.sl l0, .sl l1] = f130 c lf l0 l1 := by
  refine (f130_raw c lf l0 l1).trans ?_
  have e0 : (fun (l0 : List T) (l1 : List T) (x386 : Int) => lpK c env lf 6 fi130 2 4 [] [0, 1, 5] (x130_4_0) lf (f130_0_c l0 l1 x386)) = (fun (l0 : List T) (l1 : List T) (x386 : Int) => f130_0 c lf l0 l1 lf x386) := by funext l0 l1 x386; exact f130_0_eq c lf l0 l1 lf x386
  rw [e0]; rfl
/-- loop.example/g00285/laws.eqDev -/
def f78_t (c : Orc) (lf : Nat) (l0_0 : List T) (n0_1 : Int) (l0_2 : List T) (b0_3 : Bool) (l1_0 : List T) (n1_1 : Int) (l1_2 : List T) (b1_3 : Bool) : Option (List T) :=
  (c 129 [T.st [T.sl l0_0], T.st [T.sl l1_0]]).bind fun r389 =>
  bif !(asB (nth r389 0)) then
    some [T.b false]
  else
    bif n0_1 != n1_1 then
      some [T.b false]
    else
      (c 130 [T.sl l0_2, T.sl l1_2]).bind fun r390 =>
      bif !(asB (nth r390 0)) then
        some [T.b false]
      else
        bif !(b0_3 == b1_3) then
          some [T.b false]
        else
          some [T.b true]
def f78 (c : Orc) (lf : Nat) (l0_0 : List T) (n0_1 : Int) (l0_2 : List T) (b0_3 : Bool) (l1_0 : List T) (n1_1 : Int) (l1_2 : List T) (b1_3 : Bool) : Option (List T) := f78_t c lf l0_0 n0_1 l0_2 b0_3 l1_0 n1_1 l1_2 b1_3
theorem f78_raw (c : Orc) (lf : Nat) (l0_0 : List T) (n0_1 : Int) (l0_2 : List T) (b0_3 : Bool) (l1_0 : List T) (n1_1 : Int) (l1_2 : List T) (b1_3 : Bool) : funK c env lf 6 fi78 [.st [.sl l0_0, .i .i64 n0_1, .sl l0_2, .b b0_3], .st [.sl l1_0, .i .i64 n1_1, .sl l1_2, .b b1_3]] = f78_t c lf l0_0 n0_1 l0_2 b0_3 l1_0 n1_1 l1_2 b1_3 := by kernel_rfl
theorem f78_eq (c : Orc) (lf : Nat) (l0_0 : List T) (n0_1 : Int) (l0_2 : List T) (b0_3 : Bool) (l1_0 : List T) (n1_1 : Int) (l1_2 : List T) (b1_3 : Bool) : funK c env lf 6 fi78 [.st [.sl l0_0, .i .i64 n0_1, .sl l0_2, .b b0_3], .st [.sl l1_0, .i .i64 n1_1, .sl l1_2, .b b1_3]] = f78 c lf l0_0 n0_1 l0_2 b0_3 l1_0 n1_1 l1_2 b1_3 := by
  refine (f78_raw c lf l0_0 n0_1 l0_2 b0_3 l1_0 n1_1 l1_2 b1_3).trans ?_
  rfl
/-- loop.example/g00285/laws.eqLog -/
def f22_t (c : Orc) (lf : Nat) (l0_0 : List T) (n0_1 : Int) (l0_2 : List T) (b0_3 : Bool) (n0_4 : Int) (l1_0 : List T) (n1_1 : Int) (l1_2 : List T) (b1_3 : Bool) (n1_4 : Int) : Option (List T) :=
  (c 78 [T.st [T.sl l0_0, T.i .i64 n0_1, T.sl l0_2, T.b b0_3], T.st [T.sl l1_0, T.i .i64 n1_1, T.sl l1_2, T.b b1_3]]).bind fun r391 =>
  bif !(asB (nth r391 0)) then
    some [T.b false]
  else
    bif n0_4 != n1_4 then
      some [T.b false]
    else
      some [T.b true]
def f22 (c : Orc) (lf : Nat) (l0_0 : List T) (n0_1 : Int) (l0_2 : List T) (b0_3 : Bool) (n0_4 : Int) (l1_0 : List T) (n1_1 : Int) (l1_2 : List T) (b1_3 : Bool) (n1_4 : Int) : Option (List T) := f22_t c lf l0_0 n0_1 l0_2 b0_3 n0_4 l1_0 n1_1 l1_2 b1_3 n1_4
theorem f22_raw (c : Orc) (lf : Nat) (l0_0 : List T) (n0_1 : Int) (l0_2 : List T) (b0_3 : Bool) (n0_4 : Int) (l1_0 : List T) (n1_1 : Int) (l1_2 : List T) (b1_3 : Bool) (n1_4 : Int) : funK c env lf 6 fi22 [.st [.sl l0_0, .i .i64 n0_1, .sl l0_2, .b b0_3, .i .i64 n0_4], .st [.sl l1_0, .i .i64 n1_1, .sl l1_2, .b b1_3, .i .i64 n1_4]] = f22_t c lf l0_0 n0_1 l0_2 b0_3 n0_4 l1_0 n1_1 l1_2 b1_3 n1_4 := by kernel_rfl
theorem f22_eq (c : Orc) (lf : Nat) (l0_0 : List T) (n0_1 : Int) (l0_2 : List T) (b0_3 : Bool) (n0_4 : Int) (l1_0 : List T) (n1_1 : Int) (l1_2 : List T) (b1_3 : Bool) (n1_4 : Int) : funK c env lf 6 fi22 [.st [.sl l0_0, .i .i64 n0_1, .sl l0_2, .b b0_3, .i .i64 n0_4], .st [.sl l1_0, .i .i64 n1_1, .sl l1_2, .b b1_3, .i .i64 n1_4]] = f22 c lf l0_0 n0_1 l0_2 b0_3 n0_4 l1_0 n1_1 l1_2 b1_3 n1_4 := by
  refine (f22_raw c lf l0_0 n0_1 l0_2 b0_3 n0_4 l1_0 n1_1 l1_2 b1_3 n1_4).trans ?_
  rfl
/-- loop.example/g00285/laws.eqEng -/
def f57_t (c : Orc) (lf : Nat) (l0_0 : List T) (n0_1 : Int) (l0_2 : List T) (n0_3 : Int) (n0_4 : Int) (l0_5 : List T) (l0_6 : List T) (n0_7 : Int) (n0_8 : Int) (l0_9 : List T) (n0_10 : Int) (l0_11 : List T) (b0_12 : Bool) (n0_13 : Int) (l1_0 : List T) (n1_1 : Int) (l1_2 : List T) (n1_3 : Int) (n1_4 : Int) (l1_5 : List T) (l1_6 : List T) (n1_7 : Int) (n1_8 : Int) (l1_9 : List T) (n1_10 : Int) (l1_11 : List T) (b1_12 : Bool) (n1_13 : Int) : Option (List T) :=
  (c 60 [T.st [T.sl l0_0, T.i .i64 n0_1], T.st [T.sl l1_0, T.i .i64 n1_1]]).bind fun r392 =>
  bif !(asB (nth r392 0)) then
    some [T.b false]
  else
    (c 15 [T.st [T.sl l0_2, T.i .i64 n0_3, T.i .i64 n0_4, T.sl l0_5, T.sl l0_6, T.i .i64 n0_7, T.i .i64 n0_8], T.st [T.sl l1_2, T.i .i64 n1_3, T.i .i64 n1_4, T.sl l1_5, T.sl l1_6, T.i .i64 n1_7, T.i .i64 n1_8]]).bind fun r393 =>
    bif !(asB (nth r393 0)) then
      some [T.b false]
    else
      (c 22 [T.st [T.sl l0_9, T.i .i64 n0_10, T.sl l0_11, T.b b0_12, T.i .i64 n0_13], T.st [T.sl l1_9, T.i .i64 n1_10, T.sl l1_11, T.b b1_12, T.i .i64 n1_13]]).bind fun r394 =>
      bif !(asB (nth r394 0)) then
        some [T.b false]
      else
        some [T.b true]
def f57 (c : Orc) (lf : Nat) (l0_0 : List T) (n0_1 : Int) (l0_2 : List T) (n0_3 : Int) (n0_4 : Int) (l0_5 : List T) (l0_6 : List T) (n0_7 : Int) (n0_8 : Int) (l0_9 : List T) (n0_10 : Int) (l0_11 : List T) (b0_12 : Bool) (n0_13 : Int) (l1_0 : List T) (n1_1 : Int) (l1_2 : List T) (n1_3 : Int) (n1_4 : Int) (l1_5 : List T) (l1_6 : List T) (n1_7 : Int) (n1_8 : Int) (l1_9 : List T) (n1_10 : Int) (l1_11 : List T) (b1_12 : Bool) (n1_13 : Int) : Option (List T) := f57_t c lf l0_0 n0_1 l0_2 n0_3 n0_4 l0_5 l0_6 n0_7 n0_8 l0_9 n0_10 l0_11 b0_12 n0_13 l1_0 n1_1 l1_2 n1_3 n1_4 l1_5 l1_6 n1_7 n1_8 l1_9 n1_10 l1_11 b1_12 n1_13
theorem f57_raw (c : Orc) (lf : Nat) (l0_0 : List T) (n0_1 : Int) (l0_2 : List T) (n0_3 : Int) (n0_4 : Int) (l0_5 : List T) (l0_6 : List T) (n0_7 : Int) (n0_8 : Int) (l0_9 : List T) (n0_10 : Int) (l0_11 : List T) (b0_12 : Bool) (n0_13 : Int) (l1_0 : List T) (n1_1 : Int) (l1_2 : List T) (n1_3 : Int) (n1_4 : Int) (l1_5 : List T) (l1_6 : List T) (n1_7 : Int) (n1_8 : Int) (l1_9 : List T) (n1_10 : Int) (l1_11 : List T) (b1_12 : Bool) (n1_13 : Int) : funK c env lf 6 fi57 [.st [.sl l0_0, .i .i64 n0_1, .sl l0_2, .i .i64 n0_3, .i .i64 n0_4, .sl l0_5, .sl l0_6, .i .i64 n0_7, .i .i64 n0_8, .sl l0_9, .i .i64 n0_10, .sl l0_11, .b b0_12, .i .i64 n0_13], .st [.sl l1_0, .i .i64 n1_1, .sl l1_2, .i .i64 n1_3, .i .i64 n1_4, .sl l1_5, .sl l1_6, .i .i64 n1_7, .i .i64 n1_8, .sl l1_9, .i .i64 n1_10, .sl l1_11, .b b1_12, .i .i64 n1_13]] = f57_t c lf l0_0 n0_1 l0_2 n0_3 n0_4 l0_5 l0_6 n0_7 n0_8 l0_9 n0_10 l0_11 b0_12 n0_13 l1_0 n1_1 l1_2 n1_3 n1_4 l1_5 l1_6 n1_7 n1_8 l1_9 n1_10 l1_11 b1_12 n1_13 := by kernel_rfl
theorem f57_eq (c : Orc) (lf : Nat) (l0_0 : List T) (n0_1 : Int) (l0_2 : List T) (n0_3 : Int) (n0_4 : Int) (l0_5 : List T) (l0_6 : List T) (n0_7 : Int) (n0_8 : Int) (l0_9 : List T) (n0_10 : Int) (l0_11 : List T) (b0_12 : Bool) (n0_13 : Int) (l1_0 : List T) (n1_1 : Int) (l1_2 : List T) (n1_3 : Int) (n1_4 : Int) (l1_5 : List T) (l1_6 : List T) (n1_7 : Int) (n1_8 : Int) (l1_9 : List T) (n1_10 : Int) (l1_11 : List T) (b1_12 : Bool) (n1_13 : Int) : funK c env lf 6 fi57 [.st [.sl l0_0, .i .i64 n0_1, .sl l0_2, .i .i64 n0_3, .i .i64 n0_4, .sl l0_5, .sl l0_6, .i .i64 n0_7, .i .i64 n0_8, .sl l0_9, .i .i64 n0_10, .sl l0_11, .b b0_12, .i .i64 n0_13], .st [.sl l1_0, .i .i64 n1_1, .sl l1_2, .i .i64 n1_3, .i .i64 n1_4, .sl l1_5, .sl l1_6, .i .i64 n1_7, .i .i64 n1_8, .sl l1_9, .i .i64 n1_10, .sl l1_11, .b b1_12, .i .i64 n1_13]] = f57 c lf l0_0 n0_1 l0_2 n0_3 n0_4 l0_5 l0_6 n0_7 n0_8 l0_9 n0_10 l0_11 b0_12 n0_13 l1_0 n1_1 l1_2 n1_3 n1_4 l1_5 l1_6 n1_7 n1_8 l1_9 n1_10 l1_11 b1_12 n1_13 := by
  refine (f57_raw c lf l0_0 n0_1 l0_2 n0_3 n0_4 l0_5 l0_6 n0_7 n0_8 l0_9 n0_10 l0_11 b0_12 n0_13 l1_0 n1_1 l1_2 n1_3 n1_4 l1_5 l1_6 n1_7 n1_8 l1_9 n1_10 l1_11 b1_12 n1_13).trans ?_
  rfl
/-- loop.example/g00285/laws.FnExactClear -/
def f12_t (c : Orc) (lf : Nat) (l0_0 : List T) (n0_1 : Int) (l0_2 : List T) (n0_3 : Int) (n0_4 : Int) (l0_5 : List T) (l0_6 : List T) (n0_7 : Int) (n0_8 : Int) (l0_9 : List T) (n0_10 : Int) (l0_11 : List T) (b0_12 : Bool) (n0_13 : Int) : Option (List T) :=
  (c 53 [T.st [T.sl l0_0, T.i .i64 n0_1, T.sl l0_2, T.i .i64 n0_3, T.i .i64 n0_4, T.sl l0_5, T.sl l0_6, T.i .i64 n0_7, T.i .i64 n0_8, T.sl l0_9, T.i .i64 n0_10, T.sl l0_11, T.b b0_12, T.i .i64 n0_13], T.i .i64 1048576]).bind fun r395 =>
  bif iLt (asI (nth r395 0)) 0 then
    some [T.b true]
  else
    (c 55 [T.st [T.sl l0_0, T.i .i64 n0_1, T.sl l0_2, T.i .i64 n0_3, T.i .i64 n0_4, T.sl l0_5, T.sl l0_6, T.i .i64 n0_7, T.i .i64 n0_8, T.sl l0_9, T.i .i64 n0_10, T.sl l0_11, T.b b0_12, T.i .i64 n0_13]]).bind fun r396 =>
    (c 54 [T.st [T.sl (asL (T.cell (nth r396 0) 0)), T.i .i64 (asI (T.cell (nth r396 0) 1)), T.sl (asL (T.cell (nth r396 0) 2)), T.i .i64 (asI (T.cell (nth r396 0) 3)), T.i .i64 (asI (T.cell (nth r396 0) 4)), T.sl (asL (T.cell (nth r396 0) 5)), T.sl (asL (T.cell (nth r396 0) 6)), T.i .i64 (asI (T.cell (nth r396 0) 7)), T.i .i64 (asI (T.cell (nth r396 0) 8)), T.sl (asL (T.cell (nth r396 0) 9)), T.i .i64 (asI (T.cell (nth r396 0) 10)), T.sl (asL (T.cell (nth r396 0) 11)), T.b (asB (T.cell (nth r396 0) 12)), T.i .i64 (asI (T.cell (nth r396 0) 13))]]).bind fun r397 =>
    (c 55 [T.st [T.sl l0_0, T.i .i64 n0_1, T.sl l0_2, T.i .i64 n0_3, T.i .i64 n0_4, T.sl l0_5, T.sl l0_6, T.i .i64 n0_7, T.i .i64 n0_8, T.sl l0_9, T.i .i64 n0_10, T.sl l0_11, T.b b0_12, T.i .i64 n0_13]]).bind fun r398 =>
    (c 56 [T.st [T.sl (asL (T.cell (nth r398 0) 0)), T.i .i64 (asI (T.cell (nth r398 0) 1)), T.sl (asL (T.cell (nth r398 0) 2)), T.i .i64 (asI (T.cell (nth r398 0) 3)), T.i .i64 (asI (T.cell (nth r398 0) 4)), T.sl (asL (T.cell (nth r398 0) 5)), T.sl (asL (T.cell (nth r398 0) 6)), T.i .i64 (asI (T.cell (nth r398 0) 7)), T.i .i64 (asI (T.cell (nth r398 0) 8)), T.sl (asL (T.cell (nth r398 0) 9)), T.i .i64 (asI (T.cell (nth r398 0) 10)), T.sl (asL (T.cell (nth r398 0) 11)), T.b (asB (T.cell (nth r398 0) 12)), T.i .i64 (asI (T.cell (nth r398 0) 13))]]).bind fun r399 =>
    bif !((asB (nth r399 0)) == (asB (nth r397 0))) then
      some [T.b false]
    else
      (c 55 [T.st [T.sl l0_0, T.i .i64 n0_1, T.sl l0_2, T.i .i64 n0_3, T.i .i64 n0_4, T.sl l0_5, T.sl l0_6, T.i .i64 n0_7, T.i .i64 n0_8, T.sl l0_9, T.i .i64 n0_10, T.sl l0_11, T.b b0_12, T.i .i64 n0_13]]).bind fun r400 =>
      (c 57 [T.st [T.sl (asL (T.cell (nth r398 0) 0)), T.i .i64 (asI (T.cell (nth r398 0) 1)), T.sl (asL (T.cell (nth r398 0) 2)), T.i .i64 (asI (T.cell (nth r398 0) 3)), T.i .i64 (asI (T.cell (nth r398 0) 4)), T.sl (asL (T.cell (nth r398 0) 5)), T.sl (asL (T.cell (nth r398 0) 6)), T.i .i64 (asI (T.cell (nth r398 0) 7)), T.i .i64 (asI (T.cell (nth r398 0) 8)), T.sl (asL (T.cell (nth r398 0) 9)), T.i .i64 (asI (T.cell (nth r398 0) 10)), T.sl (asL (T.cell (nth r398 0) 11)), T.b (asB (T.cell (nth r398 0) 12)), T.i .i64 (asI (T.cell (nth r398 0) 13))], T.st [T.sl (asL (T.cell (nth r400 0) 0)), T.i .i64 (asI (T.cell (nth r400 0) 1)), T.sl (asL (T.cell (nth r400 0) 2)), T.i .i64 (asI (T.cell (nth r400 0) 3)), T.i .i64 (asI (T.cell (nth r400 0) 4)), T.sl (asL (T.cell (nth r400 0) 5)), T.sl (asL (T.cell (nth r400 0) 6)), T.i .i64 (asI (T.cell (nth r400 0) 7)), T.i .i64 (asI (T.cell (nth r400 0) 8)), T.sl (asL (T.cell (nth r400 0) 9)), T.i .i64 (asI (T.cell (nth r400 0) 10)), T.sl (asL (T.cell (nth r400 0) 11)), T.b (asB (T.cell (nth r400 0) 12)), T.i .i64 (asI (T.cell (nth r400 0) 13))]]).bind fun r401 =>
      bif !(asB (nth r401 0)) then
        some [T.b false]
      else
        some [T.b true]
def f12 (c : Orc) (lf : Nat) (l0_0 : List T) (n0_1 : Int) (l0_2 : List T) (n0_3 : Int) (n0_4 : Int) (l0_5 : List T) (l0_6 : List T) (n0_7 : Int) (n0_8 : Int) (l0_9 : List T) (n0_10 : Int) (l0_11 : List T) (b0_12 : Bool) (n0_13 : Int) : Option (List T) := f12_t c lf l0_0 n0_1 l0_2 n0_3 n0_4 l0_5 l0_6 n0_7 n0_8 l0_9 n0_10 l0_11 b0_12 n0_13
theorem f12_raw (c : Orc) (lf : Nat) (l0_0 : List T) (n0_1 : Int) (l0_2 : List T) (n0_3 : Int) (n0_4 : Int) (l0_5 : List T) (l0_6 : List T) (n0_7 : Int) (n0_8 : Int) (l0_9 : List T) (n0_10 : Int) (l0_11 : List T) (b0_12 : Bool) (n0_13 : Int) : funK c env lf 6 fi12 [.st [.sl l0_0, .i .i64 n0_1, .sl l0_2, .i .i64 n0_3, .i .i64 n0_4, .sl l0_5, .sl l0_6, .i .i64 n0_7, .i .i64 n0_8, .sl l0_9, .i .i64 n0_10, .sl l0_11, .b b0_12, .i .i64 n0_13]] = f12_t c lf l0_0 n0_1 l0_2 n0_3 n0_4 l0_5 l0_6 n0_7 n0_8 l0_9 n0_10 l0_11 b0_12 n0_13 := by kernel_rfl
theorem f12_eq (c : Orc) (lf : Nat) (l0_0 : List T) (n0_1 : Int) (l0_2 : List T) (n0_3 : Int) (n0_4 : Int) (l0_5 : List T) (l0_6 : List T) (n0_7 : Int) (n0_8 : Int) (l0_9 : List T) (n0_10 : Int) (l0_11 : List T) (b0_12 : Bool) (n0_13 : Int) : funK c env lf 6 fi12 [.st [.sl l0_0, .i .i64 n0_1, .sl l0_2, .i .i64 n0_3, .i .i64 n0_4, .sl l0_5, .sl l0_6, .i .i64 n0_7, .i .i64 n0_8, .sl l0_9, .i .i64 n0_10, .sl l0_11, .b b0_12, .i .i64 n0_13]] = f12 c lf l0_0 n0_1 l0_2 n0_3 n0_4 l0_5 l0_6 n0_7 n0_8 l0_9 n0_10 l0_11 b0_12 n0_13 := by
  refine (f12_raw c lf l0_0 n0_1 l0_2 n0_3 n0_4 l0_5 l0_6 n0_7 n0_8 l0_9 n0_10 l0_11 b0_12 n0_13).trans ?_
  rfl
end Go.Proofs.Ytdclnhlpifahpaa.T
