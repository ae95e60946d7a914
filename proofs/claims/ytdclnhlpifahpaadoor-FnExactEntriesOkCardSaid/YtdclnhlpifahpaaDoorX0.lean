/- What functions of the law FnExactEntriesOk come to, in trees; no condition. -/
import Derived.Test.YtdclnhlpifahpaaDoorRows
import Derived.Test.YtdclnhlpifahpaaDoorV3
import Derived.KernelRfl
set_option linter.unusedVariables false
set_option linter.constructorNameAsVariable false
set_option linter.unusedSimpArgs false
set_option linter.unnecessarySimpa false
namespace Go.Proofs.YtdclnhlpifahpaaDoor.T
open Go Go.Proofs.YtdclnhlpifahpaaDoorV
def tyTab : List (Nat × Ti) := [
 (3, ⟨false, [.i .i64], .o⟩),
 (4, ⟨false, [.b], .o⟩),
 (5, ⟨false, [.i .u8], .o⟩),
 (9, ⟨false, [.s], .o⟩),
 (22, ⟨false, [.sl true [.s, .i .i64, .sl false [.i .u8], .sl true [.s, .s], .s]], .sl 33⟩),
 (25, ⟨false, [.sl true [.s, .i .i64, .sl false [.i .u8], .sl true [.s, .s], .s]], .sl 36⟩),
 (30, ⟨false, [.sl false [.i .u8]], .sl 5⟩),
 (31, ⟨false, [.sl true [.s, .s]], .sl 57⟩),
 (33, ⟨true, [.s, .i .i64, .sl false [.i .u8], .sl true [.s, .s], .s], .st [(0, 9), (1, 3), (2, 30), (3, 31), (4, 9)]⟩),
 (34, ⟨false, [.sl true [.s, .s]], .sl 44⟩),
 (36, ⟨true, [.s, .i .i64, .sl false [.i .u8], .sl true [.s, .s], .s], .st [(0, 9), (1, 3), (2, 30), (3, 34), (4, 9)]⟩),
 (37, ⟨false, [.o], .o⟩),
 (44, ⟨true, [.s, .s], .st [(0, 9), (1, 9)]⟩),
 (54, ⟨false, [.o], .o⟩),
 (57, ⟨true, [.s, .s], .st [(0, 9), (1, 9)]⟩),
 (58, ⟨false, [.sl false [.s]], .sl 9⟩)]
noncomputable def fi22 : Fi := ⟨Tryd.f22, [], false, [.ro (.sl false [.i .u8]), .v (.i .i64)], [.v (.i .i64)]⟩
noncomputable def fi35 : Fi := ⟨Tryd.f35, [], false, [.ag [.v (.s), .v (.s)], .v (.i .i64)], [.v (.i .i64)]⟩
def x23_5_0 : List (Ex × List Nat × CSt) := [(.ret, [4], ⟨[.i .i64 0], [.dead, .dead]⟩), ((.ex 0), [1], ⟨[.i .i64 0], [.dead, .dead]⟩)]
noncomputable def fi23 : Fi := ⟨Tryd.f23, [⟨5, [0, 1, 5], [], [(⟨[.ro 0 true [.s, .s] [], .i .i64 0, .i .i64 0], [.dead, .dead]⟩, x23_5_0)]⟩], false, [.ro (.sl true [.s, .s]), .v (.i .i64)], [.v (.i .i64)]⟩
noncomputable def fi9 : Fi := ⟨Tryd.f9, [], false, [.ag [.v (.s), .v (.i .i64), .ro (.sl false [.i .u8]), .ro (.sl true [.s, .s]), .v (.s)], .v (.i .i64)], [.v (.i .i64)]⟩
def x4_5_0 : List (Ex × List Nat × CSt) := [(.ret, [4], ⟨[.i .i64 0], [.dead, .dead]⟩), ((.ex 0), [1], ⟨[.i .i64 0], [.dead, .dead]⟩)]
noncomputable def fi4 : Fi := ⟨Tryd.f4, [⟨5, [0, 1, 5], [], [(⟨[.ro 0 true [.s, .i .i64, .sl false [.i .u8], .sl true [.s, .s], .s] [], .i .i64 0, .i .i64 0], [.dead, .dead]⟩, x4_5_0)]⟩], false, [.ro (.sl true [.s, .i .i64, .sl false [.i .u8], .sl true [.s, .s], .s]), .v (.i .i64)], [.v (.i .i64)]⟩
def x27_3_0 : List (Ex × List Nat × CSt) := [((.ex 0), [3], ⟨[.rf 1 [] 0 none], [.dead, .row false [.i .u8] [] 0 false]⟩)]
noncomputable def fi27 : Fi := ⟨Tryd.f27, [⟨3, [0, 3, 4], [], [(⟨[.ro 0 false [.i .u8] [], .rf 1 [] 0 none, .i .i64 0], [.dead, .row false [.i .u8] [] 0 false]⟩, x27_3_0)]⟩], false, [.ro (.sl false [.i .u8])], [.ow (.sl false [.i .u8])]⟩
noncomputable def fi39 : Fi := ⟨Tryd.f39, [], false, [.ag [.v (.s), .v (.s)]], [.ag [.v (.s), .v (.s)]]⟩
def x28_3_0 : List (Ex × List Nat × CSt) := [((.ex 0), [3], ⟨[.rf 1 [] 0 none], [.dead, .row true [.s, .s] [] 0 false]⟩)]
noncomputable def fi28 : Fi := ⟨Tryd.f28, [⟨3, [0, 3, 4], [], [(⟨[.ro 0 true [.s, .s] [], .rf 1 [] 0 none, .i .i64 0], [.dead, .row true [.s, .s] [] 0 false]⟩, x28_3_0)]⟩], false, [.ro (.sl true [.s, .s])], [.ow (.sl true [.s, .s])]⟩
noncomputable def fi14 : Fi := ⟨Tryd.f14, [], false, [.ag [.v (.s), .v (.i .i64), .ro (.sl false [.i .u8]), .ro (.sl true [.s, .s]), .v (.s)]], [.ag [.v (.s), .v (.i .i64), .ow (.sl false [.i .u8]), .ow (.sl true [.s, .s]), .v (.s)]]⟩
def x6_3_0 : List (Ex × List Nat × CSt) := [((.ex 0), [3], ⟨[.rf 1 [] 0 none], [.dead, .row true [.s, .i .i64, .sl false [.i .u8], .sl true [.s, .s], .s] [] 0 false]⟩)]
noncomputable def fi6 : Fi := ⟨Tryd.f6, [⟨3, [0, 3, 4], [], [(⟨[.ro 0 true [.s, .i .i64, .sl false [.i .u8], .sl true [.s, .s], .s] [], .rf 1 [] 0 none, .i .i64 0], [.dead, .row true [.s, .i .i64, .sl false [.i .u8], .sl true [.s, .s], .s] [] 0 false]⟩, x6_3_0)]⟩], false, [.ro (.sl true [.s, .i .i64, .sl false [.i .u8], .sl true [.s, .s], .s])], [.ow (.sl true [.s, .i .i64, .sl false [.i .u8], .sl true [.s, .s], .s])]⟩
noncomputable def fi25 : Fi := ⟨Tryd.f25, [], false, [.v (.i .i64), .v (.i .i64), .v (.i .i64)], [.v (.b)]⟩
def x38_2_0 : List (Ex × List Nat × CSt) := [(.ret, [2], ⟨[.b false], [.dead]⟩), ((.ex 0), [0], ⟨[.s (⟨#[]⟩ : ByteArray)], [.dead]⟩)]
noncomputable def fi38 : Fi := ⟨Tryd.f38, [⟨2, [0, 3], [], [(⟨[.s (⟨#[]⟩ : ByteArray), .i .i64 0], [.dead]⟩, x38_2_0)]⟩], false, [.v (.s)], [.v (.b)]⟩
def x36_6_0 : List (Ex × List Nat × CSt) := [((.ex 0), [0, 4], ⟨[.s (⟨#[]⟩ : ByteArray), .rf 1 [] 0 none], [.dead, .row false [.s] [] 0 false]⟩), (.ret, [2, 3], ⟨[.rf 1 [] 0 none, .b false], [.dead, .row false [.s] [] 0 false]⟩)]
noncomputable def fi36 : Fi := ⟨Tryd.f36, [⟨6, [0, 4, 5, 6], [], [(⟨[.s (⟨#[]⟩ : ByteArray), .rf 1 [] 0 none, .i .i64 0, .i .i64 0], [.dead, .row false [.s] [] 0 false]⟩, x36_6_0)]⟩], false, [.v (.s)], [.ow (.sl false [.s]), .v (.b)]⟩
def x37_5_0 : List (Ex × List Nat × CSt) := [(.ret, [2], ⟨[.s (⟨#[]⟩ : ByteArray)], [.dead]⟩), ((.ex 0), [3], ⟨[.s (⟨#[]⟩ : ByteArray)], [.dead]⟩)]
noncomputable def fi37 : Fi := ⟨Tryd.f37, [⟨5, [0, 3, 4], [], [(⟨[.ro 0 false [.s] [], .s (⟨#[]⟩ : ByteArray), .i .i64 0], [.dead]⟩, x37_5_0)]⟩], false, [.ro (.sl false [.s])], [.v (.s)]⟩
noncomputable def fi24 : Fi := ⟨Tryd.f24, [], false, [.v (.s)], [.v (.s), .v (.s), .v (.b)]⟩
def x26_2_0 : List (Ex × List Nat × CSt) := [(.ret, [2], ⟨[.b false], [.dead]⟩), ((.ex 0), [0], ⟨[.ro 0 true [.s, .s] []], [.dead]⟩)]
noncomputable def fi26 : Fi := ⟨Tryd.f26, [⟨2, [0, 3], [], [(⟨[.ro 0 true [.s, .s] [], .i .i64 0], [.dead]⟩, x26_2_0)]⟩], false, [.ro (.sl true [.s, .s])], [.v (.b)]⟩
noncomputable def fi10 : Fi := ⟨Tryd.f10, [], false, [.ag [.v (.s), .v (.i .i64), .ro (.sl false [.i .u8]), .ro (.sl true [.s, .s]), .v (.s)]], [.v (.b)]⟩
def x11_2_0 : List (Ex × List Nat × CSt) := [(.ret, [4], ⟨[.i .i64 0], [.dead, .dead]⟩), ((.ex 0), [], ⟨[], [.dead, .dead]⟩)]
noncomputable def fi11 : Fi := ⟨Tryd.f11, [⟨2, [0, 1, 5], [], [(⟨[.ro 0 true [.s, .i .i64, .sl false [.i .u8], .sl true [.s, .s], .s] [], .s (⟨#[]⟩ : ByteArray), .i .i64 0], [.dead, .dead]⟩, x11_2_0)]⟩], false, [.ro (.sl true [.s, .i .i64, .sl false [.i .u8], .sl true [.s, .s], .s]), .v (.s)], [.v (.i .i64)]⟩
def x12_4_0 : List (Ex × List Nat × CSt) := [(.ret, [4], ⟨[.b false], [.dead, .dead]⟩), ((.ex 0), [], ⟨[], [.dead, .dead]⟩)]
noncomputable def fi12 : Fi := ⟨Tryd.f12, [⟨4, [0, 1, 5], [], [(⟨[.ro 0 false [.i .u8] [], .ro 0 false [.i .u8] [], .i .i64 0], [.dead, .dead]⟩, x12_4_0)]⟩], false, [.ro (.sl false [.i .u8]), .ro (.sl false [.i .u8])], [.v (.b)]⟩
def x13_4_0 : List (Ex × List Nat × CSt) := [(.ret, [4], ⟨[.b false], [.dead, .dead]⟩), ((.ex 0), [], ⟨[], [.dead, .dead]⟩)]
noncomputable def fi13 : Fi := ⟨Tryd.f13, [⟨4, [0, 1, 5], [], [(⟨[.ro 0 true [.s, .s] [], .ro 0 true [.s, .s] [], .i .i64 0], [.dead, .dead]⟩, x13_4_0)]⟩], false, [.ro (.sl true [.s, .s]), .ro (.sl true [.s, .s])], [.v (.b)]⟩
def x5_2_0 : List (Ex × List Nat × CSt) := [(.ret, [2], ⟨[.b false], [.dead]⟩), ((.ex 0), [0], ⟨[.ro 0 true [.s, .i .i64, .sl false [.i .u8], .sl true [.s, .s], .s] []], [.dead]⟩)]
noncomputable def fi5 : Fi := ⟨Tryd.f5, [⟨2, [0, 3], [], [(⟨[.ro 0 true [.s, .i .i64, .sl false [.i .u8], .sl true [.s, .s], .s] [], .i .i64 0], [.dead]⟩, x5_2_0)]⟩], false, [.ro (.sl true [.s, .i .i64, .sl false [.i .u8], .sl true [.s, .s], .s])], [.v (.b)]⟩
noncomputable def fi48 : Fi := ⟨Tryd.f48, [], false, [.v (.s), .v (.i .i64)], [.ow (.sl false [.s])]⟩
noncomputable def fi49 : Fi := ⟨Tryd.f49, [], false, [.v (.s), .v (.s)], [.v (.i .i64)]⟩
noncomputable def fi50 : Fi := ⟨Tryd.f50, [], false, [.v (.s), .v (.s)], [.v (.i .i64)]⟩
def x45_11_0 : List (Ex × List Nat × CSt) := [((.ex 0), [0, 9, 10], ⟨[.s (⟨#[]⟩ : ByteArray), .rf 4 [] 0 none, .i .i64 0], [.dead, .dead, .dead, .dead, .row false [.s] [] 0 false]⟩)]
noncomputable def fi45 : Fi := ⟨Tryd.f45, [⟨11, [0, 1, 2, 3, 9, 10], [], [(⟨[.s (⟨#[]⟩ : ByteArray), .s (⟨#[]⟩ : ByteArray), .i .i64 0, .i .i64 0, .rf 4 [] 0 none, .i .i64 0], [.dead, .dead, .dead, .dead, .row false [.s] [] 0 false]⟩, x45_11_0)]⟩], false, [.v (.s), .v (.s), .v (.i .i64), .v (.i .i64)], [.ow (.sl false [.s])]⟩
noncomputable def fi43 : Fi := ⟨Tryd.f43, [], false, [.v (.s), .v (.s)], [.ow (.sl false [.s])]⟩
def x51_2_0 : List (Ex × List Nat × CSt) := [(.ret, [4], ⟨[.i .i64 0], []⟩), ((.ex 0), [], ⟨[], []⟩)]
noncomputable def fi51 : Fi := ⟨Tryd.f51, [⟨2, [0, 1, 7, 8], [], [(⟨[.ro 0 false [.s] [], .fn 47 [], .i .i64 0, .i .i64 0], []⟩, x51_2_0)]⟩], true, [], []⟩
noncomputable def fi46 : Fi := ⟨Tryd.f46, [], true, [], []⟩
def x41_2_0 : List (Ex × List Nat × CSt) := [(.ret, [2], ⟨[.b false], [.dead]⟩), ((.ex 0), [0], ⟨[.s (⟨#[]⟩ : ByteArray)], [.dead]⟩)]
noncomputable def fi41 : Fi := ⟨Tryd.f41, [⟨2, [0, 6, 7], [], [(⟨[.s (⟨#[]⟩ : ByteArray), .i .i64 0, .i .i64 0], [.dead]⟩, x41_2_0)]⟩], false, [.v (.s)], [.v (.b)]⟩
noncomputable def fi47 : Fi := ⟨Tryd.f47, [], false, [.v (.s)], [.v (.b)]⟩
noncomputable def fi44 : Fi := ⟨Tryd.f44, [], false, [.ro (.sl false [.s])], [.v (.b)]⟩
noncomputable def fi40 : Fi := ⟨Tryd.f40, [], false, [.v (.s)], [.ow (.sl false [.s]), .v (.b)]⟩
noncomputable def fi29 : Fi := ⟨Tryd.f29, [], false, [.v (.s)], [.v (.b)]⟩
noncomputable def fi30 : Fi := ⟨Tryd.f30, [], false, [.v (.i .i64), .v (.i .i64), .v (.i .i64)], [.v (.b)]⟩
def x31_2_0 : List (Ex × List Nat × CSt) := [(.ret, [2], ⟨[.b false], [.dead]⟩), ((.ex 0), [0], ⟨[.ro 0 true [.s, .s] []], [.dead]⟩)]
noncomputable def fi31 : Fi := ⟨Tryd.f31, [⟨2, [0, 5, 6, 7], [], [(⟨[.ro 0 true [.s, .s] [], .ro 0 true [.s, .s] [], .i .i64 0, .i .i64 0], [.dead]⟩, x31_2_0)]⟩], false, [.ro (.sl true [.s, .s])], [.v (.b)]⟩
noncomputable def fi15 : Fi := ⟨Tryd.f15, [], false, [.ag [.v (.s), .v (.i .i64), .ro (.sl false [.i .u8]), .ro (.sl true [.s, .s]), .v (.s)]], [.v (.b)]⟩
def x18_4_0 : List (Ex × List Nat × CSt) := [(.ret, [4], ⟨[.b false], [.dead, .dead]⟩), ((.ex 0), [], ⟨[], [.dead, .dead]⟩)]
noncomputable def fi18 : Fi := ⟨Tryd.f18, [⟨4, [0, 1, 12, 13], [], [(⟨[.ro 0 false [.i .u8] [], .ro 0 false [.i .u8] [], .i .i64 0, .i .i64 0], [.dead, .dead]⟩, x18_4_0)]⟩], false, [.ro (.sl false [.i .u8]), .ro (.sl false [.i .u8])], [.v (.b)]⟩
def x19_4_0 : List (Ex × List Nat × CSt) := [(.ret, [4], ⟨[.b false], [.dead, .dead]⟩), ((.ex 0), [], ⟨[], [.dead, .dead]⟩)]
noncomputable def fi19 : Fi := ⟨Tryd.f19, [⟨4, [0, 1, 12, 13], [], [(⟨[.ro 0 true [.s, .s] [], .ro 0 true [.s, .s] [], .i .i64 0, .i .i64 0], [.dead, .dead]⟩, x19_4_0)]⟩], false, [.ro (.sl true [.s, .s]), .ro (.sl true [.s, .s])], [.v (.b)]⟩
noncomputable def fi17 : Fi := ⟨Tryd.f17, [], true, [], []⟩
def x32_2_0 : List (Ex × List Nat × CSt) := [(.ret, [4], ⟨[.i .i64 0], [.box [.s (⟨#[]⟩ : ByteArray), .i .i64 0, .ro 0 false [.i .u8] [], .ro 0 true [.s, .s] [], .s (⟨#[]⟩ : ByteArray)]]⟩), ((.ex 0), [], ⟨[], [.box [.s (⟨#[]⟩ : ByteArray), .i .i64 0, .ro 0 false [.i .u8] [], .ro 0 true [.s, .s] [], .s (⟨#[]⟩ : ByteArray)]]⟩)]
noncomputable def fi32 : Fi := ⟨Tryd.f32, [⟨2, [0, 1, 7, 8], [], [(⟨[.ro 0 true [.s, .i .i64, .sl false [.i .u8], .sl true [.s, .s], .s] [], .fn 17 [.bp 0 0], .i .i64 0, .i .i64 0], [.box [.s (⟨#[]⟩ : ByteArray), .i .i64 0, .ro 0 false [.i .u8] [], .ro 0 true [.s, .s] [], .s (⟨#[]⟩ : ByteArray)]]⟩, x32_2_0)]⟩], true, [], []⟩
noncomputable def fi16 : Fi := ⟨Tryd.f16, [], true, [], []⟩
def x20_2_0 : List (Ex × List Nat × CSt) := [(.ret, [2], ⟨[.b false], [.dead]⟩), ((.ex 0), [0], ⟨[.ro 0 true [.s, .i .i64, .sl false [.i .u8], .sl true [.s, .s], .s] []], [.dead]⟩)]
noncomputable def fi20 : Fi := ⟨Tryd.f20, [⟨2, [0, 3], [], [(⟨[.ro 0 true [.s, .i .i64, .sl false [.i .u8], .sl true [.s, .s], .s] [], .i .i64 0], [.dead]⟩, x20_2_0)]⟩], false, [.ro (.sl true [.s, .i .i64, .sl false [.i .u8], .sl true [.s, .s], .s])], [.v (.b)]⟩
def x7_2_0 : List (Ex × List Nat × CSt) := [(.ret, [2], ⟨[.b false], [.dead]⟩), ((.ex 0), [0], ⟨[.ro 0 true [.s, .i .i64, .sl false [.i .u8], .sl true [.s, .s], .s] []], [.dead]⟩)]
noncomputable def fi7 : Fi := ⟨Tryd.f7, [⟨2, [0, 5, 6, 7], [], [(⟨[.ro 0 true [.s, .i .i64, .sl false [.i .u8], .sl true [.s, .s], .s] [], .ro 0 true [.s, .i .i64, .sl false [.i .u8], .sl true [.s, .s], .s] [], .i .i64 0, .i .i64 0], [.dead]⟩, x7_2_0)]⟩], false, [.ro (.sl true [.s, .i .i64, .sl false [.i .u8], .sl true [.s, .s], .s])], [.v (.b)]⟩
def x33_4_0 : List (Ex × List Nat × CSt) := [(.ret, [4], ⟨[.b false], [.dead, .dead]⟩), ((.ex 0), [], ⟨[], [.dead, .dead]⟩)]
noncomputable def fi33 : Fi := ⟨Tryd.f33, [⟨4, [0, 1, 5], [], [(⟨[.ro 0 false [.i .u8] [], .ro 0 false [.i .u8] [], .i .i64 0], [.dead, .dead]⟩, x33_4_0)]⟩], false, [.ro (.sl false [.i .u8]), .ro (.sl false [.i .u8])], [.v (.b)]⟩
noncomputable def fi42 : Fi := ⟨Tryd.f42, [], false, [.ag [.v (.s), .v (.s)], .ag [.v (.s), .v (.s)]], [.v (.b)]⟩
def x34_4_0 : List (Ex × List Nat × CSt) := [(.ret, [4], ⟨[.b false], [.dead, .dead]⟩), ((.ex 0), [], ⟨[], [.dead, .dead]⟩)]
noncomputable def fi34 : Fi := ⟨Tryd.f34, [⟨4, [0, 1, 5], [], [(⟨[.ro 0 true [.s, .s] [], .ro 0 true [.s, .s] [], .i .i64 0], [.dead, .dead]⟩, x34_4_0)]⟩], false, [.ro (.sl true [.s, .s]), .ro (.sl true [.s, .s])], [.v (.b)]⟩
noncomputable def fi21 : Fi := ⟨Tryd.f21, [], false, [.ag [.v (.s), .v (.i .i64), .ro (.sl false [.i .u8]), .ro (.sl true [.s, .s]), .v (.s)], .ag [.v (.s), .v (.i .i64), .ro (.sl false [.i .u8]), .ro (.sl true [.s, .s]), .v (.s)]], [.v (.b)]⟩
def x8_4_0 : List (Ex × List Nat × CSt) := [(.ret, [4], ⟨[.b false], [.dead, .dead]⟩), ((.ex 0), [], ⟨[], [.dead, .dead]⟩)]
noncomputable def fi8 : Fi := ⟨Tryd.f8, [⟨4, [0, 1, 5], [], [(⟨[.ro 0 true [.s, .i .i64, .sl false [.i .u8], .sl true [.s, .s], .s] [], .ro 0 true [.s, .i .i64, .sl false [.i .u8], .sl true [.s, .s], .s] [], .i .i64 0], [.dead, .dead]⟩, x8_4_0)]⟩], false, [.ro (.sl true [.s, .i .i64, .sl false [.i .u8], .sl true [.s, .s], .s]), .ro (.sl true [.s, .i .i64, .sl false [.i .u8], .sl true [.s, .s], .s])], [.v (.b)]⟩
noncomputable def fi3 : Fi := ⟨Tryd.f3, [], false, [.ro (.sl true [.s, .i .i64, .sl false [.i .u8], .sl true [.s, .s], .s])], [.v (.b)]⟩
noncomputable def fiTab : List (Nat × Fi) := [(22, fi22), (35, fi35), (23, fi23), (9, fi9), (4, fi4), (27, fi27), (39, fi39), (28, fi28), (14, fi14), (6, fi6), (25, fi25), (38, fi38), (36, fi36), (37, fi37), (24, fi24), (26, fi26), (10, fi10), (11, fi11), (12, fi12), (13, fi13), (5, fi5), (48, fi48), (49, fi49), (50, fi50), (45, fi45), (43, fi43), (51, fi51), (46, fi46), (41, fi41), (47, fi47), (44, fi44), (40, fi40), (29, fi29), (30, fi30), (31, fi31), (15, fi15), (18, fi18), (19, fi19), (17, fi17), (32, fi32), (16, fi16), (20, fi20), (7, fi7), (33, fi33), (42, fi42), (34, fi34), (21, fi21), (8, fi8), (3, fi3)]
def X : Nat → Option (List T → Option (List T)) := lookN [(49, countF), (50, indexF)]
noncomputable def env : Env := ⟨lookN fiTab, lookN tyTab⟩
def f22_t (c : Orc) (lf : Nat) (l0 : List T) (n1 : Int) : Option (List T) :=
 bif iLt (IntKind.wrap .i64 (n1 - (l0.length : Int))) 0 then
  some [T.i .i64 (-1)]
 else
  some [T.i .i64 (IntKind.wrap .i64 (n1 - (l0.length : Int)))]
def f22 (c : Orc) (lf : Nat) (l0 : List T) (n1 : Int) : Option (List T) := f22_t c lf l0 n1
theorem f22_eq (c : Orc) (lf : Nat) (l0 : List T) (n1 : Int) : funK c env lf 6 fi22 [.sl l0, .i .i64 n1] = f22 c lf l0 n1 := by kernel_rfl
def f35_t (c : Orc) (lf : Nat) (s0_0 s0_1 : ByteArray) (n1 : Int) : Option (List T) :=
 bif iLt (IntKind.wrap .i64 (n1 - (s0_0.size : Int))) 0 then
  some [T.i .i64 (-1)]
 else
  bif iLt (IntKind.wrap .i64 ((IntKind.wrap .i64 (n1 - (s0_0.size : Int))) - (s0_1.size : Int))) 0 then
   some [T.i .i64 (-1)]
  else
   some [T.i .i64 (IntKind.wrap .i64 ((IntKind.wrap .i64 (n1 - (s0_0.size : Int))) - (s0_1.size : Int)))]
def f35 (c : Orc) (lf : Nat) (s0_0 s0_1 : ByteArray) (n1 : Int) : Option (List T) := f35_t c lf s0_0 s0_1 n1
theorem f35_eq (c : Orc) (lf : Nat) (s0_0 s0_1 : ByteArray) (n1 : Int) : funK c env lf 6 fi35 [.st [.s s0_0, .s s0_1], .i .i64 n1] = f35 c lf s0_0 s0_1 n1 := by kernel_rfl
def f23_0_s (c : Orc) (lf : Nat) (l0 : List T) (L : Int → Int → Option (List T)) (x7 x8 : Int) : Option (List T) :=
 bif iLt x8 (l0.length : Int) then
  bif inR x8 l0.length then
  (c 35 [T.st [T.s (asS (T.cell (l0.getD x8.toNat T.u) 0)), T.s (asS (T.cell (l0.getD x8.toNat T.u) 1))], T.i .i64 x7]).bind fun r9 =>
  bif iLt (asI (nth r9 0)) 0 then
   some [T.i .i64 0, T.i .i64 (-1)]
  else
   L (asI (nth r9 0)) (IntKind.wrap .i64 (x8 + 1))
  else none
 else
  some [T.i .i64 1, T.i .i64 x7]
def f23_0_c (l0 : List T) (x7 x8 : Int) : CSt := ⟨[.ro 0 true [.s, .s] l0, .i .i64 x7, .i .i64 x8], [.dead, .dead]⟩
theorem f23_0_round (c : Orc) (lf : Nat) (l0 : List T) (L : CSt → Option (List T)) (x7 x8 : Int) :
 roundK c env lf 6 fi23 2 5 [] [0, 1, 5] (x23_5_0) L (f23_0_c l0 x7 x8) = f23_0_s c lf l0 (fun x7 x8 => L (f23_0_c l0 x7 x8)) x7 x8 := by kernel_rfl
def f23_0 (c : Orc) (lf : Nat) (l0 : List T) : Nat → Int → Int → Option (List T)
 | 0 => fun _ _ => none
 | n + 1 => fun x7 x8 => f23_0_s c lf l0 (f23_0 c lf l0 n) x7 x8
theorem f23_0_eq (c : Orc) (lf : Nat) (l0 : List T) (n : Nat) (x7 x8 : Int) :
 lpK c env lf 6 fi23 2 5 [] [0, 1, 5] (x23_5_0) n (f23_0_c l0 x7 x8) = f23_0 c lf l0 n x7 x8 := by
 induction n generalizing x7 x8 with
 | zero => rfl
 | succ n ih =>
  refine (f23_0_round c lf l0 _ x7 x8).trans ?_
  have e : (fun x7 x8 => lpK c env lf 6 fi23 2 5 [] [0, 1, 5] (x23_5_0) n (f23_0_c l0 x7 x8)) = f23_0 c lf l0 n := by funext x7 x8; exact ih x7 x8
  show f23_0_s c lf l0 (fun x7 x8 => lpK c env lf 6 fi23 2 5 [] [0, 1, 5] (x23_5_0) n (f23_0_c l0 x7 x8)) x7 x8 = _
  rw [e]; rfl
def f23_t (c : Orc) (lf : Nat) (lp0 : List T → Int → Int → Option (List T)) (l0 : List T) (n1 : Int) : Option (List T) :=
 bif iLt (IntKind.wrap .i64 (n1 - (l0.length : Int))) 0 then
  some [T.i .i64 (-1)]
 else
  (lp0 l0 (IntKind.wrap .i64 (n1 - (l0.length : Int))) 0).bind fun r10 =>
  bif asI (nth r10 0) == 0 then
   some [T.i .i64 (asI (nth r10 1))]
  else
   some [T.i .i64 (asI (nth r10 1))]
def f23 (c : Orc) (lf : Nat) (l0 : List T) (n1 : Int) : Option (List T) := f23_t c lf (fun (l0 : List T) (x7 x8 : Int) => f23_0 c lf l0 lf x7 x8) l0 n1
theorem f23_raw (c : Orc) (lf : Nat) (l0 : List T) (n1 : Int) : funK c env lf 6 fi23 [.sl l0, .i .i64 n1] = f23_t c lf (fun (l0 : List T) (x7 x8 : Int) => lpK c env lf 6 fi23 2 5 [] [0, 1, 5] (x23_5_0) lf (f23_0_c l0 x7 x8)) l0 n1 := by kernel_rfl
theorem f23_eq (c : Orc) (lf : Nat) (l0 : List T) (n1 : Int) : funK c env lf 6 fi23 [.sl l0, .i .i64 n1] = f23 c lf l0 n1 := by
 refine (f23_raw c lf l0 n1).trans ?_
 have e0 : (fun (l0 : List T) (x7 x8 : Int) => lpK c env lf 6 fi23 2 5 [] [0, 1, 5] (x23_5_0) lf (f23_0_c l0 x7 x8)) = (fun (l0 : List T) (x7 x8 : Int) => f23_0 c lf l0 lf x7 x8) := by funext l0 x7 x8; exact f23_0_eq c lf l0 lf x7 x8
 rw [e0]; rfl
def f9_t (c : Orc) (lf : Nat) (s0_0 : ByteArray) (n0_1 : Int) (l0_2 l0_3 : List T) (s0_4 : ByteArray) (n1 : Int) : Option (List T) :=
 bif iLt (IntKind.wrap .i64 (n1 - (s0_0.size : Int))) 0 then
  some [T.i .i64 (-1)]
 else
  (c 22 [T.sl l0_2, T.i .i64 (IntKind.wrap .i64 (n1 - (s0_0.size : Int)))]).bind fun r11 =>
  bif iLt (asI (nth r11 0)) 0 then
   some [T.i .i64 (-1)]
  else
   (c 23 [T.sl l0_3, T.i .i64 (asI (nth r11 0))]).bind fun r12 =>
   bif iLt (asI (nth r12 0)) 0 then
    some [T.i .i64 (-1)]
   else
    bif iLt (IntKind.wrap .i64 ((asI (nth r12 0)) - (s0_4.size : Int))) 0 then
     some [T.i .i64 (-1)]
    else
     some [T.i .i64 (IntKind.wrap .i64 ((asI (nth r12 0)) - (s0_4.size : Int)))]
def f9 (c : Orc) (lf : Nat) (s0_0 : ByteArray) (n0_1 : Int) (l0_2 l0_3 : List T) (s0_4 : ByteArray) (n1 : Int) : Option (List T) := f9_t c lf s0_0 n0_1 l0_2 l0_3 s0_4 n1
theorem f9_eq (c : Orc) (lf : Nat) (s0_0 : ByteArray) (n0_1 : Int) (l0_2 l0_3 : List T) (s0_4 : ByteArray) (n1 : Int) : funK c env lf 6 fi9 [.st [.s s0_0, .i .i64 n0_1, .sl l0_2, .sl l0_3, .s s0_4], .i .i64 n1] = f9 c lf s0_0 n0_1 l0_2 l0_3 s0_4 n1 := by kernel_rfl
def f4_0_s (c : Orc) (lf : Nat) (l0 : List T) (L : Int → Int → Option (List T)) (x19 x20 : Int) : Option (List T) :=
 bif iLt x20 (l0.length : Int) then
  bif inR x20 l0.length then
  (c 9 [T.st [T.s (asS (T.cell (l0.getD x20.toNat T.u) 0)), T.i .i64 (asI (T.cell (l0.getD x20.toNat T.u) 1)), T.sl (asL (T.cell (l0.getD x20.toNat T.u) 2)), T.sl (asL (T.cell (l0.getD x20.toNat T.u) 3)), T.s (asS (T.cell (l0.getD x20.toNat T.u) 4))], T.i .i64 x19]).bind fun r21 =>
  bif iLt (asI (nth r21 0)) 0 then
   some [T.i .i64 0, T.i .i64 (-1)]
  else
   L (asI (nth r21 0)) (IntKind.wrap .i64 (x20 + 1))
  else none
 else
  some [T.i .i64 1, T.i .i64 x19]
def f4_0_c (l0 : List T) (x19 x20 : Int) : CSt := ⟨[.ro 0 true [.s, .i .i64, .sl false [.i .u8], .sl true [.s, .s], .s] l0, .i .i64 x19, .i .i64 x20], [.dead, .dead]⟩
theorem f4_0_round (c : Orc) (lf : Nat) (l0 : List T) (L : CSt → Option (List T)) (x19 x20 : Int) :
 roundK c env lf 6 fi4 2 5 [] [0, 1, 5] (x4_5_0) L (f4_0_c l0 x19 x20) = f4_0_s c lf l0 (fun x19 x20 => L (f4_0_c l0 x19 x20)) x19 x20 := by kernel_rfl
def f4_0 (c : Orc) (lf : Nat) (l0 : List T) : Nat → Int → Int → Option (List T)
 | 0 => fun _ _ => none
 | n + 1 => fun x19 x20 => f4_0_s c lf l0 (f4_0 c lf l0 n) x19 x20
theorem f4_0_eq (c : Orc) (lf : Nat) (l0 : List T) (n : Nat) (x19 x20 : Int) :
 lpK c env lf 6 fi4 2 5 [] [0, 1, 5] (x4_5_0) n (f4_0_c l0 x19 x20) = f4_0 c lf l0 n x19 x20 := by
 induction n generalizing x19 x20 with
 | zero => rfl
 | succ n ih =>
  refine (f4_0_round c lf l0 _ x19 x20).trans ?_
  have e : (fun x19 x20 => lpK c env lf 6 fi4 2 5 [] [0, 1, 5] (x4_5_0) n (f4_0_c l0 x19 x20)) = f4_0 c lf l0 n := by funext x19 x20; exact ih x19 x20
  show f4_0_s c lf l0 (fun x19 x20 => lpK c env lf 6 fi4 2 5 [] [0, 1, 5] (x4_5_0) n (f4_0_c l0 x19 x20)) x19 x20 = _
  rw [e]; rfl
def f4_t (c : Orc) (lf : Nat) (lp0 : List T → Int → Int → Option (List T)) (l0 : List T) (n1 : Int) : Option (List T) :=
 bif iLt (IntKind.wrap .i64 (n1 - (l0.length : Int))) 0 then
  some [T.i .i64 (-1)]
 else
  (lp0 l0 (IntKind.wrap .i64 (n1 - (l0.length : Int))) 0).bind fun r22 =>
  bif asI (nth r22 0) == 0 then
   some [T.i .i64 (asI (nth r22 1))]
  else
   some [T.i .i64 (asI (nth r22 1))]
def f4 (c : Orc) (lf : Nat) (l0 : List T) (n1 : Int) : Option (List T) := f4_t c lf (fun (l0 : List T) (x19 x20 : Int) => f4_0 c lf l0 lf x19 x20) l0 n1
theorem f4_raw (c : Orc) (lf : Nat) (l0 : List T) (n1 : Int) : funK c env lf 6 fi4 [.sl l0, .i .i64 n1] = f4_t c lf (fun (l0 : List T) (x19 x20 : Int) => lpK c env lf 6 fi4 2 5 [] [0, 1, 5] (x4_5_0) lf (f4_0_c l0 x19 x20)) l0 n1 := by kernel_rfl
theorem f4_eq (c : Orc) (lf : Nat) (l0 : List T) (n1 : Int) : funK c env lf 6 fi4 [.sl l0, .i .i64 n1] = f4 c lf l0 n1 := by
 refine (f4_raw c lf l0 n1).trans ?_
 have e0 : (fun (l0 : List T) (x19 x20 : Int) => lpK c env lf 6 fi4 2 5 [] [0, 1, 5] (x4_5_0) lf (f4_0_c l0 x19 x20)) = (fun (l0 : List T) (x19 x20 : Int) => f4_0 c lf l0 lf x19 x20) := by funext l0 x19 x20; exact f4_0_eq c lf l0 lf x19 x20
 rw [e0]; rfl
def f27_0_s (c : Orc) (lf : Nat) (l0 : List T) (L : Int → List T → Option (List T)) (x26 : Int) (x27 : List T) : Option (List T) :=
 bif iLt x26 (l0.length : Int) then
  bif inR x26 l0.length then
  bif inR x26 x27.length then
  L (IntKind.wrap .i64 (x26 + 1)) (x27.set x26.toNat (T.i .u8 (asI (l0.getD x26.toNat T.u))))
  else none
  else none
 else
  some [T.i .i64 0, T.sl x27]
def f27_0_c (l0 : List T) (x26 : Int) (x27 : List T) : CSt := ⟨[.ro 0 false [.i .u8] l0, .rf 1 [] 0 none, .i .i64 x26], [.dead, .row false [.i .u8] x27 0 false]⟩
theorem f27_0_round (c : Orc) (lf : Nat) (l0 : List T) (L : CSt → Option (List T)) (x26 : Int) (x27 : List T) :
 roundK c env lf 6 fi27 1 3 [] [0, 3, 4] (x27_3_0) L (f27_0_c l0 x26 x27) = f27_0_s c lf l0 (fun x26 x27 => L (f27_0_c l0 x26 x27)) x26 x27 := by kernel_rfl
def f27_0 (c : Orc) (lf : Nat) (l0 : List T) : Nat → Int → List T → Option (List T)
 | 0 => fun _ _ => none
 | n + 1 => fun x26 x27 => f27_0_s c lf l0 (f27_0 c lf l0 n) x26 x27
theorem f27_0_eq (c : Orc) (lf : Nat) (l0 : List T) (n : Nat) (x26 : Int) (x27 : List T) :
 lpK c env lf 6 fi27 1 3 [] [0, 3, 4] (x27_3_0) n (f27_0_c l0 x26 x27) = f27_0 c lf l0 n x26 x27 := by
 induction n generalizing x26 x27 with
 | zero => rfl
 | succ n ih =>
  refine (f27_0_round c lf l0 _ x26 x27).trans ?_
  have e : (fun x26 x27 => lpK c env lf 6 fi27 1 3 [] [0, 3, 4] (x27_3_0) n (f27_0_c l0 x26 x27)) = f27_0 c lf l0 n := by funext x26 x27; exact ih x26 x27
  show f27_0_s c lf l0 (fun x26 x27 => lpK c env lf 6 fi27 1 3 [] [0, 3, 4] (x27_3_0) n (f27_0_c l0 x26 x27)) x26 x27 = _
  rw [e]; rfl
def f27_t (c : Orc) (lf : Nat) (lp0 : List T → Int → List T → Option (List T)) (l0 : List T) : Option (List T) :=
 bif iLe 0 (l0.length : Int) && iLe (l0.length : Int) (LIM : Int) && ((l0.length : Int) == (l0.length : Int)) then
 (lp0 l0 0 (List.replicate (l0.length : Int).toNat (T.i .u8 0))).bind fun r28 =>
 some [T.sl (asL (nth r28 1))]
 else none
def f27 (c : Orc) (lf : Nat) (l0 : List T) : Option (List T) := f27_t c lf (fun (l0 : List T) (x26 : Int) (x27 : List T) => f27_0 c lf l0 lf x26 x27) l0
theorem f27_raw (c : Orc) (lf : Nat) (l0 : List T) : funK c env lf 6 fi27 [.sl l0] = f27_t c lf (fun (l0 : List T) (x26 : Int) (x27 : List T) => lpK c env lf 6 fi27 1 3 [] [0, 3, 4] (x27_3_0) lf (f27_0_c l0 x26 x27)) l0 := by kernel_rfl
theorem f27_eq (c : Orc) (lf : Nat) (l0 : List T) : funK c env lf 6 fi27 [.sl l0] = f27 c lf l0 := by
 refine (f27_raw c lf l0).trans ?_
 have e0 : (fun (l0 : List T) (x26 : Int) (x27 : List T) => lpK c env lf 6 fi27 1 3 [] [0, 3, 4] (x27_3_0) lf (f27_0_c l0 x26 x27)) = (fun (l0 : List T) (x26 : Int) (x27 : List T) => f27_0 c lf l0 lf x26 x27) := by funext l0 x26 x27; exact f27_0_eq c lf l0 lf x26 x27
 rw [e0]; rfl
def f39_t (c : Orc) (lf : Nat) (s0_0 s0_1 : ByteArray) : Option (List T) :=
 some [T.st [T.s s0_0, T.s s0_1]]
def f39 (c : Orc) (lf : Nat) (s0_0 s0_1 : ByteArray) : Option (List T) := f39_t c lf s0_0 s0_1
theorem f39_eq (c : Orc) (lf : Nat) (s0_0 s0_1 : ByteArray) : funK c env lf 6 fi39 [.st [.s s0_0, .s s0_1]] = f39 c lf s0_0 s0_1 := by kernel_rfl
def f28_0_s (c : Orc) (lf : Nat) (l0 : List T) (L : Int → List T → Option (List T)) (x35 : Int) (x36 : List T) : Option (List T) :=
 bif iLt x35 (l0.length : Int) then
  bif inR x35 l0.length then
  (c 39 [T.st [T.s (asS (T.cell (l0.getD x35.toNat T.u) 0)), T.s (asS (T.cell (l0.getD x35.toNat T.u) 1))]]).bind fun r37 =>
  bif inR x35 x36.length then
  L (IntKind.wrap .i64 (x35 + 1)) (x36.set x35.toNat (T.st [T.s (asS (T.cell (nth r37 0) 0)), T.s (asS (T.cell (nth r37 0) 1))]))
  else none
  else none
 else
  some [T.i .i64 0, T.sl x36]
def f28_0_c (l0 : List T) (x35 : Int) (x36 : List T) : CSt := ⟨[.ro 0 true [.s, .s] l0, .rf 1 [] 0 none, .i .i64 x35], [.dead, .row true [.s, .s] x36 0 false]⟩
theorem f28_0_round (c : Orc) (lf : Nat) (l0 : List T) (L : CSt → Option (List T)) (x35 : Int) (x36 : List T) :
 roundK c env lf 6 fi28 1 3 [] [0, 3, 4] (x28_3_0) L (f28_0_c l0 x35 x36) = f28_0_s c lf l0 (fun x35 x36 => L (f28_0_c l0 x35 x36)) x35 x36 := by kernel_rfl
def f28_0 (c : Orc) (lf : Nat) (l0 : List T) : Nat → Int → List T → Option (List T)
 | 0 => fun _ _ => none
 | n + 1 => fun x35 x36 => f28_0_s c lf l0 (f28_0 c lf l0 n) x35 x36
theorem f28_0_eq (c : Orc) (lf : Nat) (l0 : List T) (n : Nat) (x35 : Int) (x36 : List T) :
 lpK c env lf 6 fi28 1 3 [] [0, 3, 4] (x28_3_0) n (f28_0_c l0 x35 x36) = f28_0 c lf l0 n x35 x36 := by
 induction n generalizing x35 x36 with
 | zero => rfl
 | succ n ih =>
  refine (f28_0_round c lf l0 _ x35 x36).trans ?_
  have e : (fun x35 x36 => lpK c env lf 6 fi28 1 3 [] [0, 3, 4] (x28_3_0) n (f28_0_c l0 x35 x36)) = f28_0 c lf l0 n := by funext x35 x36; exact ih x35 x36
  show f28_0_s c lf l0 (fun x35 x36 => lpK c env lf 6 fi28 1 3 [] [0, 3, 4] (x28_3_0) n (f28_0_c l0 x35 x36)) x35 x36 = _
  rw [e]; rfl
def f28_t (c : Orc) (lf : Nat) (lp0 : List T → Int → List T → Option (List T)) (l0 : List T) : Option (List T) :=
 bif iLe 0 (l0.length : Int) && iLe (l0.length : Int) (LIM : Int) && ((l0.length : Int) == (l0.length : Int)) then
 (lp0 l0 0 (List.replicate (l0.length : Int).toNat (T.st [T.s (⟨#[]⟩ : ByteArray), T.s (⟨#[]⟩ : ByteArray)]))).bind fun r38 =>
 some [T.sl (asL (nth r38 1))]
 else none
def f28 (c : Orc) (lf : Nat) (l0 : List T) : Option (List T) := f28_t c lf (fun (l0 : List T) (x35 : Int) (x36 : List T) => f28_0 c lf l0 lf x35 x36) l0
theorem f28_raw (c : Orc) (lf : Nat) (l0 : List T) : funK c env lf 6 fi28 [.sl l0] = f28_t c lf (fun (l0 : List T) (x35 : Int) (x36 : List T) => lpK c env lf 6 fi28 1 3 [] [0, 3, 4] (x28_3_0) lf (f28_0_c l0 x35 x36)) l0 := by kernel_rfl
theorem f28_eq (c : Orc) (lf : Nat) (l0 : List T) : funK c env lf 6 fi28 [.sl l0] = f28 c lf l0 := by
 refine (f28_raw c lf l0).trans ?_
 have e0 : (fun (l0 : List T) (x35 : Int) (x36 : List T) => lpK c env lf 6 fi28 1 3 [] [0, 3, 4] (x28_3_0) lf (f28_0_c l0 x35 x36)) = (fun (l0 : List T) (x35 : Int) (x36 : List T) => f28_0 c lf l0 lf x35 x36) := by funext l0 x35 x36; exact f28_0_eq c lf l0 lf x35 x36
 rw [e0]; rfl
def f14_t (c : Orc) (lf : Nat) (s0_0 : ByteArray) (n0_1 : Int) (l0_2 l0_3 : List T) (s0_4 : ByteArray) : Option (List T) :=
 (c 27 [T.sl l0_2]).bind fun r39 =>
 (c 28 [T.sl l0_3]).bind fun r40 =>
 some [T.st [T.s s0_0, T.i .i64 n0_1, T.sl (asL (nth r39 0)), T.sl (asL (nth r40 0)), T.s s0_4]]
def f14 (c : Orc) (lf : Nat) (s0_0 : ByteArray) (n0_1 : Int) (l0_2 l0_3 : List T) (s0_4 : ByteArray) : Option (List T) := f14_t c lf s0_0 n0_1 l0_2 l0_3 s0_4
theorem f14_eq (c : Orc) (lf : Nat) (s0_0 : ByteArray) (n0_1 : Int) (l0_2 l0_3 : List T) (s0_4 : ByteArray) : funK c env lf 6 fi14 [.st [.s s0_0, .i .i64 n0_1, .sl l0_2, .sl l0_3, .s s0_4]] = f14 c lf s0_0 n0_1 l0_2 l0_3 s0_4 := by kernel_rfl
def f6_0_s (c : Orc) (lf : Nat) (l0 : List T) (L : Int → List T → Option (List T)) (x47 : Int) (x48 : List T) : Option (List T) :=
 bif iLt x47 (l0.length : Int) then
  bif inR x47 l0.length then
  (c 14 [T.st [T.s (asS (T.cell (l0.getD x47.toNat T.u) 0)), T.i .i64 (asI (T.cell (l0.getD x47.toNat T.u) 1)), T.sl (asL (T.cell (l0.getD x47.toNat T.u) 2)), T.sl (asL (T.cell (l0.getD x47.toNat T.u) 3)), T.s (asS (T.cell (l0.getD x47.toNat T.u) 4))]]).bind fun r49 =>
  bif inR x47 x48.length then
  L (IntKind.wrap .i64 (x47 + 1)) (x48.set x47.toNat (T.st [T.s (asS (T.cell (nth r49 0) 0)), T.i .i64 (asI (T.cell (nth r49 0) 1)), T.sl (asL (T.cell (nth r49 0) 2)), T.sl (asL (T.cell (nth r49 0) 3)), T.s (asS (T.cell (nth r49 0) 4))]))
  else none
  else none
 else
  some [T.i .i64 0, T.sl x48]
def f6_0_c (l0 : List T) (x47 : Int) (x48 : List T) : CSt := ⟨[.ro 0 true [.s, .i .i64, .sl false [.i .u8], .sl true [.s, .s], .s] l0, .rf 1 [] 0 none, .i .i64 x47], [.dead, .row true [.s, .i .i64, .sl false [.i .u8], .sl true [.s, .s], .s] x48 0 false]⟩
theorem f6_0_round (c : Orc) (lf : Nat) (l0 : List T) (L : CSt → Option (List T)) (x47 : Int) (x48 : List T) :
 roundK c env lf 6 fi6 1 3 [] [0, 3, 4] (x6_3_0) L (f6_0_c l0 x47 x48) = f6_0_s c lf l0 (fun x47 x48 => L (f6_0_c l0 x47 x48)) x47 x48 := by kernel_rfl
def f6_0 (c : Orc) (lf : Nat) (l0 : List T) : Nat → Int → List T → Option (List T)
 | 0 => fun _ _ => none
 | n + 1 => fun x47 x48 => f6_0_s c lf l0 (f6_0 c lf l0 n) x47 x48
theorem f6_0_eq (c : Orc) (lf : Nat) (l0 : List T) (n : Nat) (x47 : Int) (x48 : List T) :
 lpK c env lf 6 fi6 1 3 [] [0, 3, 4] (x6_3_0) n (f6_0_c l0 x47 x48) = f6_0 c lf l0 n x47 x48 := by
 induction n generalizing x47 x48 with
 | zero => rfl
 | succ n ih =>
  refine (f6_0_round c lf l0 _ x47 x48).trans ?_
  have e : (fun x47 x48 => lpK c env lf 6 fi6 1 3 [] [0, 3, 4] (x6_3_0) n (f6_0_c l0 x47 x48)) = f6_0 c lf l0 n := by funext x47 x48; exact ih x47 x48
  show f6_0_s c lf l0 (fun x47 x48 => lpK c env lf 6 fi6 1 3 [] [0, 3, 4] (x6_3_0) n (f6_0_c l0 x47 x48)) x47 x48 = _
  rw [e]; rfl
def f6_t (c : Orc) (lf : Nat) (lp0 : List T → Int → List T → Option (List T)) (l0 : List T) : Option (List T) :=
 bif iLe 0 (l0.length : Int) && iLe (l0.length : Int) (LIM : Int) && ((l0.length : Int) == (l0.length : Int)) then
 (lp0 l0 0 (List.replicate (l0.length : Int).toNat (T.st [T.s (⟨#[]⟩ : ByteArray), T.i .i64 0, T.sl [], T.sl [], T.s (⟨#[]⟩ : ByteArray)]))).bind fun r50 =>
 some [T.sl (asL (nth r50 1))]
 else none
def f6 (c : Orc) (lf : Nat) (l0 : List T) : Option (List T) := f6_t c lf (fun (l0 : List T) (x47 : Int) (x48 : List T) => f6_0 c lf l0 lf x47 x48) l0
theorem f6_raw (c : Orc) (lf : Nat) (l0 : List T) : funK c env lf 6 fi6 [.sl l0] = f6_t c lf (fun (l0 : List T) (x47 : Int) (x48 : List T) => lpK c env lf 6 fi6 1 3 [] [0, 3, 4] (x6_3_0) lf (f6_0_c l0 x47 x48)) l0 := by kernel_rfl
theorem f6_eq (c : Orc) (lf : Nat) (l0 : List T) : funK c env lf 6 fi6 [.sl l0] = f6 c lf l0 := by
 refine (f6_raw c lf l0).trans ?_
 have e0 : (fun (l0 : List T) (x47 : Int) (x48 : List T) => lpK c env lf 6 fi6 1 3 [] [0, 3, 4] (x6_3_0) lf (f6_0_c l0 x47 x48)) = (fun (l0 : List T) (x47 : Int) (x48 : List T) => f6_0 c lf l0 lf x47 x48) := by funext l0 x47 x48; exact f6_0_eq c lf l0 lf x47 x48
 rw [e0]; rfl
def f25_t (c : Orc) (lf : Nat) (n0 n1 n2 : Int) : Option (List T) :=
 bif iLe n1 n0 then
  some [T.b (iLe n0 n2)]
 else
  some [T.b false]
def f25 (c : Orc) (lf : Nat) (n0 n1 n2 : Int) : Option (List T) := f25_t c lf n0 n1 n2
theorem f25_eq (c : Orc) (lf : Nat) (n0 n1 n2 : Int) : funK c env lf 6 fi25 [.i .i64 n0, .i .i64 n1, .i .i64 n2] = f25 c lf n0 n1 n2 := by kernel_rfl
def f38_0_s (c : Orc) (lf : Nat) (s0 : ByteArray) (L : Int → Option (List T)) (x60 : Int) : Option (List T) :=
 bif iLt x60 (s0.size : Int) then
  bif inR x60 s0.size then
  (c 25 [T.i .i64 (IntKind.wrap .i64 (byteAt s0 x60)), T.i .i64 97, T.i .i64 122]).bind fun r61 =>
  bif !(asB (nth r61 0)) then
   (c 25 [T.i .i64 (IntKind.wrap .i64 (byteAt s0 x60)), T.i .i64 48, T.i .i64 57]).bind fun r62 =>
   bif !(asB (nth r62 0)) then
    bif (IntKind.wrap .i64 (byteAt s0 x60)) != 95 then
     bif (IntKind.wrap .i64 (byteAt s0 x60)) != 45 then
      bif (IntKind.wrap .i64 (byteAt s0 x60)) != 46 then
       some [T.i .i64 0, T.b false]
      else
       L (IntKind.wrap .i64 (x60 + 1))
     else
      L (IntKind.wrap .i64 (x60 + 1))
    else
     L (IntKind.wrap .i64 (x60 + 1))
   else
    L (IntKind.wrap .i64 (x60 + 1))
  else
   L (IntKind.wrap .i64 (x60 + 1))
  else none
 else
  some [T.i .i64 1, T.s s0]
def f38_0_c (s0 : ByteArray) (x60 : Int) : CSt := ⟨[.s s0, .i .i64 x60], [.dead]⟩
theorem f38_0_round (c : Orc) (lf : Nat) (s0 : ByteArray) (L : CSt → Option (List T)) (x60 : Int) :
 roundK c env lf 6 fi38 1 2 [] [0, 3] (x38_2_0) L (f38_0_c s0 x60) = f38_0_s c lf s0 (fun x60 => L (f38_0_c s0 x60)) x60 := by kernel_rfl
def f38_0 (c : Orc) (lf : Nat) (s0 : ByteArray) : Nat → Int → Option (List T)
 | 0 => fun _ => none
 | n + 1 => fun x60 => f38_0_s c lf s0 (f38_0 c lf s0 n) x60
theorem f38_0_eq (c : Orc) (lf : Nat) (s0 : ByteArray) (n : Nat) (x60 : Int) :
 lpK c env lf 6 fi38 1 2 [] [0, 3] (x38_2_0) n (f38_0_c s0 x60) = f38_0 c lf s0 n x60 := by
 induction n generalizing x60 with
 | zero => rfl
 | succ n ih =>
  refine (f38_0_round c lf s0 _ x60).trans ?_
  have e : (fun x60 => lpK c env lf 6 fi38 1 2 [] [0, 3] (x38_2_0) n (f38_0_c s0 x60)) = f38_0 c lf s0 n := by funext x60; exact ih x60
  show f38_0_s c lf s0 (fun x60 => lpK c env lf 6 fi38 1 2 [] [0, 3] (x38_2_0) n (f38_0_c s0 x60)) x60 = _
  rw [e]; rfl
def f38_t (c : Orc) (lf : Nat) (lp0 : ByteArray → Int → Option (List T)) (s0 : ByteArray) : Option (List T) :=
 (lp0 s0 0).bind fun r63 =>
 bif asI (nth r63 0) == 0 then
  some [T.b (asB (nth r63 1))]
 else
  (c 25 [T.i .i64 ((asS (nth r63 1)).size : Int), T.i .i64 1, T.i .i64 14]).bind fun r64 =>
  bif asB (nth r64 0) then
   bif !((asS (nth r63 1)).toList == (⟨#[46]⟩ : ByteArray).toList) then
    some [T.b (!((asS (nth r63 1)).toList == (⟨#[46, 46]⟩ : ByteArray).toList))]
   else
    some [T.b false]
  else
   some [T.b false]
def f38 (c : Orc) (lf : Nat) (s0 : ByteArray) : Option (List T) := f38_t c lf (fun (s0 : ByteArray) (x60 : Int) => f38_0 c lf s0 lf x60) s0
theorem f38_raw (c : Orc) (lf : Nat) (s0 : ByteArray) : funK c env lf 6 fi38 [.s s0] = f38_t c lf (fun (s0 : ByteArray) (x60 : Int) => lpK c env lf 6 fi38 1 2 [] [0, 3] (x38_2_0) lf (f38_0_c s0 x60)) s0 := by kernel_rfl
theorem f38_eq (c : Orc) (lf : Nat) (s0 : ByteArray) : funK c env lf 6 fi38 [.s s0] = f38 c lf s0 := by
 refine (f38_raw c lf s0).trans ?_
 have e0 : (fun (s0 : ByteArray) (x60 : Int) => lpK c env lf 6 fi38 1 2 [] [0, 3] (x38_2_0) lf (f38_0_c s0 x60)) = (fun (s0 : ByteArray) (x60 : Int) => f38_0 c lf s0 lf x60) := by funext s0 x60; exact f38_0_eq c lf s0 lf x60
 rw [e0]; rfl
def f36_0_s (c : Orc) (lf : Nat) (s0 : ByteArray) (L : Int → Int → List T → Option (List T)) (x74 x73 : Int) (x77 : List T) : Option (List T) :=
 bif iLe x73 (s0.size : Int) then
  bif iLt x73 (s0.size : Int) then
   bif inR x73 s0.size then
   bif (byteAt s0 x73) != 47 then
    L x74 (IntKind.wrap .i64 (x73 + 1)) x77
   else
    bif iLt 0 x73 then
     bif iLe 0 x74 && iLe x74 x73 && iLe x73 (s0.size : Int) then
     (c 38 [T.s (s0.extract x74.toNat x73.toNat)]).bind fun r78 =>
     bif !(asB (nth r78 0)) then
      some [T.i .i64 1, T.b false, T.sl ([] : List T)]
     else
      bif (x77.length : Int) == 30 then
       some [T.i .i64 1, T.b false, T.sl ([] : List T)]
      else
       bif nLe (x77.length + ([T.s (s0.extract x74.toNat x73.toNat)] : List T).length) LIM then
       L (IntKind.wrap .i64 (x73 + 1)) (IntKind.wrap .i64 (x73 + 1)) (x77 ++ ([T.s (s0.extract x74.toNat x73.toNat)] : List T))
       else none
     else none
    else
     L (IntKind.wrap .i64 (x73 + 1)) (IntKind.wrap .i64 (x73 + 1)) x77
   else none
  else
   bif iLt 0 x73 then
    bif iLe 0 x74 && iLe x74 x73 && iLe x73 (s0.size : Int) then
    (c 38 [T.s (s0.extract x74.toNat x73.toNat)]).bind fun r79 =>
    bif !(asB (nth r79 0)) then
     some [T.i .i64 1, T.b false, T.sl ([] : List T)]
    else
     bif (x77.length : Int) == 30 then
      some [T.i .i64 1, T.b false, T.sl ([] : List T)]
     else
      bif nLe (x77.length + ([T.s (s0.extract x74.toNat x73.toNat)] : List T).length) LIM then
      L (IntKind.wrap .i64 (x73 + 1)) (IntKind.wrap .i64 (x73 + 1)) (x77 ++ ([T.s (s0.extract x74.toNat x73.toNat)] : List T))
      else none
    else none
   else
    L (IntKind.wrap .i64 (x73 + 1)) (IntKind.wrap .i64 (x73 + 1)) x77
 else
  some [T.i .i64 0, T.s s0, T.sl x77]
def f36_0_c (s0 : ByteArray) (x74 x73 : Int) (x77 : List T) : CSt := ⟨[.s s0, .rf 1 [] 0 none, .i .i64 x74, .i .i64 x73], [.dead, .row false [.s] x77 0 false]⟩
theorem f36_0_round (c : Orc) (lf : Nat) (s0 : ByteArray) (L : CSt → Option (List T)) (x74 x73 : Int) (x77 : List T) :
 roundK c env lf 6 fi36 1 6 [] [0, 4, 5, 6] (x36_6_0) L (f36_0_c s0 x74 x73 x77) = f36_0_s c lf s0 (fun x74 x73 x77 => L (f36_0_c s0 x74 x73 x77)) x74 x73 x77 := by kernel_rfl
def f36_0 (c : Orc) (lf : Nat) (s0 : ByteArray) : Nat → Int → Int → List T → Option (List T)
 | 0 => fun _ _ _ => none
 | n + 1 => fun x74 x73 x77 => f36_0_s c lf s0 (f36_0 c lf s0 n) x74 x73 x77
theorem f36_0_u (c : Orc) (lf : Nat) (s0 : ByteArray) (n : Nat) (x74 x73 : Int) (x77 : List T) : f36_0 c lf s0 (n + 1) x74 x73 x77 = f36_0_s c lf s0 (f36_0 c lf s0 n) x74 x73 x77 := rfl
theorem f36_0_eq (c : Orc) (lf : Nat) (s0 : ByteArray) (n : Nat) (x74 x73 : Int) (x77 : List T) :
 lpK c env lf 6 fi36 1 6 [] [0, 4, 5, 6] (x36_6_0) n (f36_0_c s0 x74 x73 x77) = f36_0 c lf s0 n x74 x73 x77 := by
 induction n generalizing x74 x73 x77 with
 | zero => rfl
 | succ n ih =>
  refine (f36_0_round c lf s0 _ x74 x73 x77).trans ?_
  have e : (fun x74 x73 x77 => lpK c env lf 6 fi36 1 6 [] [0, 4, 5, 6] (x36_6_0) n (f36_0_c s0 x74 x73 x77)) = f36_0 c lf s0 n := by funext x74 x73 x77; exact ih x74 x73 x77
  show f36_0_s c lf s0 (fun x74 x73 x77 => lpK c env lf 6 fi36 1 6 [] [0, 4, 5, 6] (x36_6_0) n (f36_0_c s0 x74 x73 x77)) x74 x73 x77 = _
  rw [e]; rfl
def f36_t (c : Orc) (lf : Nat) (lp0 : ByteArray → Int → Int → List T → Option (List T)) (s0 : ByteArray) : Option (List T) :=
 bif s0.toList == (⟨#[47]⟩ : ByteArray).toList then
  some [T.sl ([] : List T), T.b true]
 else
  (lp0 s0 0 0 ([] : List T)).bind fun r80 =>
  bif asI (nth r80 0) == 0 then
   bif ((asS (nth r80 1)).size : Int) == 0 then
    some [T.sl ([] : List T), T.b false]
   else
    bif inR 0 (asS (nth r80 1)).size then
    bif (byteAt (asS (nth r80 1)) 0) != 47 then
     some [T.sl ([] : List T), T.b false]
    else
     some [T.sl (asL (nth r80 2)), T.b true]
    else none
  else
   some [T.sl (asL (nth r80 2)), T.b (asB (nth r80 1))]
def f36 (c : Orc) (lf : Nat) (s0 : ByteArray) : Option (List T) := f36_t c lf (fun (s0 : ByteArray) (x74 x73 : Int) (x77 : List T) => f36_0 c lf s0 lf x74 x73 x77) s0
theorem f36_raw (c : Orc) (lf : Nat) (s0 : ByteArray) : funK c env lf 6 fi36 [.s s0] = f36_t c lf (fun (s0 : ByteArray) (x74 x73 : Int) (x77 : List T) => lpK c env lf 6 fi36 1 6 [] [0, 4, 5, 6] (x36_6_0) lf (f36_0_c s0 x74 x73 x77)) s0 := by kernel_rfl
theorem f36_eq (c : Orc) (lf : Nat) (s0 : ByteArray) : funK c env lf 6 fi36 [.s s0] = f36 c lf s0 := by
 refine (f36_raw c lf s0).trans ?_
 have e0 : (fun (s0 : ByteArray) (x74 x73 : Int) (x77 : List T) => lpK c env lf 6 fi36 1 6 [] [0, 4, 5, 6] (x36_6_0) lf (f36_0_c s0 x74 x73 x77)) = (fun (s0 : ByteArray) (x74 x73 : Int) (x77 : List T) => f36_0 c lf s0 lf x74 x73 x77) := by funext s0 x74 x73 x77; exact f36_0_eq c lf s0 lf x74 x73 x77
 rw [e0]; rfl
def f37_0_s (c : Orc) (lf : Nat) (l0 : List T) (L : ByteArray → Int → Option (List T)) (x87 : ByteArray) (x88 : Int) : Option (List T) :=
 bif iLt x88 (l0.length : Int) then
  bif inR x88 l0.length then
  (c 38 [T.s (asS (l0.getD x88.toNat T.u))]).bind fun r89 =>
  bif !(asB (nth r89 0)) then
   some [T.i .i64 0, T.s (⟨#[]⟩ : ByteArray)]
  else
   bif iLt 30 (l0.length : Int) then
    some [T.i .i64 0, T.s (⟨#[]⟩ : ByteArray)]
   else
    bif nLe (x87.size + (⟨#[47]⟩ : ByteArray).size) LIM then
    bif inR x88 l0.length then
    bif nLe ((x87 ++ (⟨#[47]⟩ : ByteArray)).size + (asS (l0.getD x88.toNat T.u)).size) LIM then
    L ((x87 ++ (⟨#[47]⟩ : ByteArray)) ++ (asS (l0.getD x88.toNat T.u))) (IntKind.wrap .i64 (x88 + 1))
    else none
    else none
    else none
  else none
 else
  some [T.i .i64 1, T.s x87]
def f37_0_c (l0 : List T) (x87 : ByteArray) (x88 : Int) : CSt := ⟨[.ro 0 false [.s] l0, .s x87, .i .i64 x88], [.dead]⟩
theorem f37_0_round (c : Orc) (lf : Nat) (l0 : List T) (L : CSt → Option (List T)) (x87 : ByteArray) (x88 : Int) :
 roundK c env lf 6 fi37 1 5 [] [0, 3, 4] (x37_5_0) L (f37_0_c l0 x87 x88) = f37_0_s c lf l0 (fun x87 x88 => L (f37_0_c l0 x87 x88)) x87 x88 := by kernel_rfl
def f37_0 (c : Orc) (lf : Nat) (l0 : List T) : Nat → ByteArray → Int → Option (List T)
 | 0 => fun _ _ => none
 | n + 1 => fun x87 x88 => f37_0_s c lf l0 (f37_0 c lf l0 n) x87 x88
theorem f37_0_u (c : Orc) (lf : Nat) (l0 : List T) (n : Nat) (x87 : ByteArray) (x88 : Int) : f37_0 c lf l0 (n + 1) x87 x88 = f37_0_s c lf l0 (f37_0 c lf l0 n) x87 x88 := rfl
theorem f37_0_eq (c : Orc) (lf : Nat) (l0 : List T) (n : Nat) (x87 : ByteArray) (x88 : Int) :
 lpK c env lf 6 fi37 1 5 [] [0, 3, 4] (x37_5_0) n (f37_0_c l0 x87 x88) = f37_0 c lf l0 n x87 x88 := by
 induction n generalizing x87 x88 with
 | zero => rfl
 | succ n ih =>
  refine (f37_0_round c lf l0 _ x87 x88).trans ?_
  have e : (fun x87 x88 => lpK c env lf 6 fi37 1 5 [] [0, 3, 4] (x37_5_0) n (f37_0_c l0 x87 x88)) = f37_0 c lf l0 n := by funext x87 x88; exact ih x87 x88
  show f37_0_s c lf l0 (fun x87 x88 => lpK c env lf 6 fi37 1 5 [] [0, 3, 4] (x37_5_0) n (f37_0_c l0 x87 x88)) x87 x88 = _
  rw [e]; rfl
def f37_t (c : Orc) (lf : Nat) (lp0 : List T → ByteArray → Int → Option (List T)) (l0 : List T) : Option (List T) :=
 bif (l0.length : Int) == 0 then
  some [T.s (⟨#[47]⟩ : ByteArray)]
 else
  (lp0 l0 (⟨#[]⟩ : ByteArray) 0).bind fun r90 =>
  bif asI (nth r90 0) == 0 then
   some [T.s (asS (nth r90 1))]
  else
   some [T.s (asS (nth r90 1))]
def f37 (c : Orc) (lf : Nat) (l0 : List T) : Option (List T) := f37_t c lf (fun (l0 : List T) (x87 : ByteArray) (x88 : Int) => f37_0 c lf l0 lf x87 x88) l0
theorem f37_raw (c : Orc) (lf : Nat) (l0 : List T) : funK c env lf 6 fi37 [.sl l0] = f37_t c lf (fun (l0 : List T) (x87 : ByteArray) (x88 : Int) => lpK c env lf 6 fi37 1 5 [] [0, 3, 4] (x37_5_0) lf (f37_0_c l0 x87 x88)) l0 := by kernel_rfl
theorem f37_eq (c : Orc) (lf : Nat) (l0 : List T) : funK c env lf 6 fi37 [.sl l0] = f37 c lf l0 := by
 refine (f37_raw c lf l0).trans ?_
 have e0 : (fun (l0 : List T) (x87 : ByteArray) (x88 : Int) => lpK c env lf 6 fi37 1 5 [] [0, 3, 4] (x37_5_0) lf (f37_0_c l0 x87 x88)) = (fun (l0 : List T) (x87 : ByteArray) (x88 : Int) => f37_0 c lf l0 lf x87 x88) := by funext l0 x87 x88; exact f37_0_eq c lf l0 lf x87 x88
 rw [e0]; rfl
def f24_t (c : Orc) (lf : Nat) (s0 : ByteArray) : Option (List T) :=
 (c 36 [T.s s0]).bind fun r91 =>
 bif !(asB (nth r91 1)) then
  some [T.s (⟨#[]⟩ : ByteArray), T.s (⟨#[]⟩ : ByteArray), T.b false]
 else
  bif ((asL (nth r91 0)).length : Int) == 0 then
   some [T.s (⟨#[]⟩ : ByteArray), T.s (⟨#[]⟩ : ByteArray), T.b false]
  else
   bif iLe 0 0 && iLe 0 (IntKind.wrap .i64 (((asL (nth r91 0)).length : Int) - 1)) && iLe (IntKind.wrap .i64 (((asL (nth r91 0)).length : Int) - 1)) ((asL (nth r91 0)).length : Int) then
   (c 37 [T.sl (((asL (nth r91 0)).drop 0).take (((IntKind.wrap .i64 (((asL (nth r91 0)).length : Int) - 1)).toNat) - 0))]).bind fun r92 =>
   bif inR (IntKind.wrap .i64 (((asL (nth r91 0)).length : Int) - 1)) ((asL (nth r91 0)).length) then
   some [T.s (asS (nth r92 0)), T.s (asS ((asL (nth r91 0)).getD ((IntKind.wrap .i64 (((asL (nth r91 0)).length : Int) - 1)).toNat) T.u)), T.b true]
   else none
   else none
def f24 (c : Orc) (lf : Nat) (s0 : ByteArray) : Option (List T) := f24_t c lf s0
theorem f24_eq (c : Orc) (lf : Nat) (s0 : ByteArray) : funK c env lf 6 fi24 [.s s0] = f24 c lf s0 := by kernel_rfl
def f26_0_s (c : Orc) (lf : Nat) (l0 : List T) (L : Int → Option (List T)) (x101 : Int) : Option (List T) :=
 bif iLt x101 (l0.length : Int) then
  bif inR x101 l0.length then
  (c 38 [T.s (asS (T.cell (l0.getD x101.toNat T.u) 0))]).bind fun r102 =>
  bif !(asB (nth r102 0)) then
   some [T.i .i64 0, T.b false]
  else
   bif inR x101 l0.length then
   (c 25 [T.i .i64 ((asS (T.cell (l0.getD x101.toNat T.u) 1)).size : Int), T.i .i64 1, T.i .i64 16]).bind fun r103 =>
   bif !(asB (nth r103 0)) then
    some [T.i .i64 0, T.b false]
   else
    bif iLt 0 x101 then
     bif inR (IntKind.wrap .i64 (x101 - 1)) l0.length then
     bif inR x101 l0.length then
     bif !(Op.bytesLess (asS (T.cell (l0.getD ((IntKind.wrap .i64 (x101 - 1)).toNat) T.u) 0)).toList (asS (T.cell (l0.getD x101.toNat T.u) 0)).toList) then
      some [T.i .i64 0, T.b false]
     else
      L (IntKind.wrap .i64 (x101 + 1))
     else none
     else none
    else
     L (IntKind.wrap .i64 (x101 + 1))
   else none
  else none
 else
  some [T.i .i64 1, T.sl l0]
def f26_0_c (l0 : List T) (x101 : Int) : CSt := ⟨[.ro 0 true [.s, .s] l0, .i .i64 x101], [.dead]⟩
theorem f26_0_round (c : Orc) (lf : Nat) (l0 : List T) (L : CSt → Option (List T)) (x101 : Int) :
 roundK c env lf 6 fi26 1 2 [] [0, 3] (x26_2_0) L (f26_0_c l0 x101) = f26_0_s c lf l0 (fun x101 => L (f26_0_c l0 x101)) x101 := by kernel_rfl
def f26_0 (c : Orc) (lf : Nat) (l0 : List T) : Nat → Int → Option (List T)
 | 0 => fun _ => none
 | n + 1 => fun x101 => f26_0_s c lf l0 (f26_0 c lf l0 n) x101
theorem f26_0_u (c : Orc) (lf : Nat) (l0 : List T) (n : Nat) (x101 : Int) : f26_0 c lf l0 (n + 1) x101 = f26_0_s c lf l0 (f26_0 c lf l0 n) x101 := rfl
theorem f26_0_eq (c : Orc) (lf : Nat) (l0 : List T) (n : Nat) (x101 : Int) :
 lpK c env lf 6 fi26 1 2 [] [0, 3] (x26_2_0) n (f26_0_c l0 x101) = f26_0 c lf l0 n x101 := by
 induction n generalizing x101 with
 | zero => rfl
 | succ n ih =>
  refine (f26_0_round c lf l0 _ x101).trans ?_
  have e : (fun x101 => lpK c env lf 6 fi26 1 2 [] [0, 3] (x26_2_0) n (f26_0_c l0 x101)) = f26_0 c lf l0 n := by funext x101; exact ih x101
  show f26_0_s c lf l0 (fun x101 => lpK c env lf 6 fi26 1 2 [] [0, 3] (x26_2_0) n (f26_0_c l0 x101)) x101 = _
  rw [e]; rfl
def f26_t (c : Orc) (lf : Nat) (lp0 : List T → Int → Option (List T)) (l0 : List T) : Option (List T) :=
 (lp0 l0 0).bind fun r104 =>
 bif asI (nth r104 0) == 0 then
  some [T.b (asB (nth r104 1))]
 else
  some [T.b (iLe ((asL (nth r104 1)).length : Int) 4)]
def f26 (c : Orc) (lf : Nat) (l0 : List T) : Option (List T) := f26_t c lf (fun (l0 : List T) (x101 : Int) => f26_0 c lf l0 lf x101) l0
theorem f26_raw (c : Orc) (lf : Nat) (l0 : List T) : funK c env lf 6 fi26 [.sl l0] = f26_t c lf (fun (l0 : List T) (x101 : Int) => lpK c env lf 6 fi26 1 2 [] [0, 3] (x26_2_0) lf (f26_0_c l0 x101)) l0 := by kernel_rfl
theorem f26_eq (c : Orc) (lf : Nat) (l0 : List T) : funK c env lf 6 fi26 [.sl l0] = f26 c lf l0 := by
 refine (f26_raw c lf l0).trans ?_
 have e0 : (fun (l0 : List T) (x101 : Int) => lpK c env lf 6 fi26 1 2 [] [0, 3] (x26_2_0) lf (f26_0_c l0 x101)) = (fun (l0 : List T) (x101 : Int) => f26_0 c lf l0 lf x101) := by funext l0 x101; exact f26_0_eq c lf l0 lf x101
 rw [e0]; rfl
def f10_t (c : Orc) (lf : Nat) (s0_0 : ByteArray) (n0_1 : Int) (l0_2 l0_3 : List T) (s0_4 : ByteArray) : Option (List T) :=
 (c 24 [T.s s0_0]).bind fun r105 =>
 bif !(asB (nth r105 2)) then
  some [T.b false]
 else
  (c 25 [T.i .i64 n0_1, T.i .i64 1, T.i .i64 2]).bind fun r106 =>
  bif !(asB (nth r106 0)) then
   some [T.b false]
  else
   bif iLt 100 (l0_2.length : Int) then
    some [T.b false]
   else
    (c 26 [T.sl l0_3]).bind fun r107 =>
    bif !(asB (nth r107 0)) then
     some [T.b false]
    else
     bif !(Op.bytesLess s0_4.toList s0_0.toList || s0_4.toList == s0_0.toList) then
      some [T.b false]
     else
      bif n0_1 == 1 then
       some [T.b true]
      else
       bif (l0_2.length : Int) == 0 then
        some [T.b (s0_4.toList == s0_0.toList)]
       else
        some [T.b false]
def f10 (c : Orc) (lf : Nat) (s0_0 : ByteArray) (n0_1 : Int) (l0_2 l0_3 : List T) (s0_4 : ByteArray) : Option (List T) := f10_t c lf s0_0 n0_1 l0_2 l0_3 s0_4
theorem f10_eq (c : Orc) (lf : Nat) (s0_0 : ByteArray) (n0_1 : Int) (l0_2 l0_3 : List T) (s0_4 : ByteArray) : funK c env lf 6 fi10 [.st [.s s0_0, .i .i64 n0_1, .sl l0_2, .sl l0_3, .s s0_4]] = f10 c lf s0_0 n0_1 l0_2 l0_3 s0_4 := by kernel_rfl
def f11_0_s (c : Orc) (lf : Nat) (l0 : List T) (s1 : ByteArray) (L : Int → Option (List T)) (x110 : Int) : Option (List T) :=
 bif iLt x110 (l0.length : Int) then
  bif inR x110 l0.length then
  bif (asS (T.cell (l0.getD x110.toNat T.u) 0)).toList == s1.toList then
   some [T.i .i64 0, T.i .i64 x110]
  else
   L (IntKind.wrap .i64 (x110 + 1))
  else none
 else
  some [T.i .i64 1]
def f11_0_c (l0 : List T) (s1 : ByteArray) (x110 : Int) : CSt := ⟨[.ro 0 true [.s, .i .i64, .sl false [.i .u8], .sl true [.s, .s], .s] l0, .s s1, .i .i64 x110], [.dead, .dead]⟩
theorem f11_0_round (c : Orc) (lf : Nat) (l0 : List T) (s1 : ByteArray) (L : CSt → Option (List T)) (x110 : Int) :
 roundK c env lf 6 fi11 2 2 [] [0, 1, 5] (x11_2_0) L (f11_0_c l0 s1 x110) = f11_0_s c lf l0 s1 (fun x110 => L (f11_0_c l0 s1 x110)) x110 := by kernel_rfl
def f11_0 (c : Orc) (lf : Nat) (l0 : List T) (s1 : ByteArray) : Nat → Int → Option (List T)
 | 0 => fun _ => none
 | n + 1 => fun x110 => f11_0_s c lf l0 s1 (f11_0 c lf l0 s1 n) x110
theorem f11_0_u (c : Orc) (lf : Nat) (l0 : List T) (s1 : ByteArray) (n : Nat) (x110 : Int) : f11_0 c lf l0 s1 (n + 1) x110 = f11_0_s c lf l0 s1 (f11_0 c lf l0 s1 n) x110 := rfl
theorem f11_0_eq (c : Orc) (lf : Nat) (l0 : List T) (s1 : ByteArray) (n : Nat) (x110 : Int) :
 lpK c env lf 6 fi11 2 2 [] [0, 1, 5] (x11_2_0) n (f11_0_c l0 s1 x110) = f11_0 c lf l0 s1 n x110 := by
 induction n generalizing x110 with
 | zero => rfl
 | succ n ih =>
  refine (f11_0_round c lf l0 s1 _ x110).trans ?_
  have e : (fun x110 => lpK c env lf 6 fi11 2 2 [] [0, 1, 5] (x11_2_0) n (f11_0_c l0 s1 x110)) = f11_0 c lf l0 s1 n := by funext x110; exact ih x110
  show f11_0_s c lf l0 s1 (fun x110 => lpK c env lf 6 fi11 2 2 [] [0, 1, 5] (x11_2_0) n (f11_0_c l0 s1 x110)) x110 = _
  rw [e]; rfl
def f11_t (c : Orc) (lf : Nat) (lp0 : List T → ByteArray → Int → Option (List T)) (l0 : List T) (s1 : ByteArray) : Option (List T) :=
 (lp0 l0 s1 0).bind fun r111 =>
 bif asI (nth r111 0) == 0 then
  some [T.i .i64 (asI (nth r111 1))]
 else
  some [T.i .i64 (-1)]
def f11 (c : Orc) (lf : Nat) (l0 : List T) (s1 : ByteArray) : Option (List T) := f11_t c lf (fun (l0 : List T) (s1 : ByteArray) (x110 : Int) => f11_0 c lf l0 s1 lf x110) l0 s1
theorem f11_raw (c : Orc) (lf : Nat) (l0 : List T) (s1 : ByteArray) : funK c env lf 6 fi11 [.sl l0, .s s1] = f11_t c lf (fun (l0 : List T) (s1 : ByteArray) (x110 : Int) => lpK c env lf 6 fi11 2 2 [] [0, 1, 5] (x11_2_0) lf (f11_0_c l0 s1 x110)) l0 s1 := by kernel_rfl
theorem f11_eq (c : Orc) (lf : Nat) (l0 : List T) (s1 : ByteArray) : funK c env lf 6 fi11 [.sl l0, .s s1] = f11 c lf l0 s1 := by
 refine (f11_raw c lf l0 s1).trans ?_
 have e0 : (fun (l0 : List T) (s1 : ByteArray) (x110 : Int) => lpK c env lf 6 fi11 2 2 [] [0, 1, 5] (x11_2_0) lf (f11_0_c l0 s1 x110)) = (fun (l0 : List T) (s1 : ByteArray) (x110 : Int) => f11_0 c lf l0 s1 lf x110) := by funext l0 s1 x110; exact f11_0_eq c lf l0 s1 lf x110
 rw [e0]; rfl
def f12_0_s (c : Orc) (lf : Nat) (l0 l1 : List T) (L : Int → Option (List T)) (x114 : Int) : Option (List T) :=
 bif iLt x114 (l0.length : Int) then
  bif inR x114 l0.length then
  bif inR x114 l1.length then
  bif (asI (l0.getD x114.toNat T.u)) != (asI (l1.getD x114.toNat T.u)) then
   some [T.i .i64 0, T.b false]
  else
   L (IntKind.wrap .i64 (x114 + 1))
  else none
  else none
 else
  some [T.i .i64 1]
def f12_0_c (l0 l1 : List T) (x114 : Int) : CSt := ⟨[.ro 0 false [.i .u8] l0, .ro 0 false [.i .u8] l1, .i .i64 x114], [.dead, .dead]⟩
theorem f12_0_round (c : Orc) (lf : Nat) (l0 l1 : List T) (L : CSt → Option (List T)) (x114 : Int) :
 roundK c env lf 6 fi12 2 4 [] [0, 1, 5] (x12_4_0) L (f12_0_c l0 l1 x114) = f12_0_s c lf l0 l1 (fun x114 => L (f12_0_c l0 l1 x114)) x114 := by kernel_rfl
def f12_0 (c : Orc) (lf : Nat) (l0 l1 : List T) : Nat → Int → Option (List T)
 | 0 => fun _ => none
 | n + 1 => fun x114 => f12_0_s c lf l0 l1 (f12_0 c lf l0 l1 n) x114
theorem f12_0_u (c : Orc) (lf : Nat) (l0 l1 : List T) (n : Nat) (x114 : Int) : f12_0 c lf l0 l1 (n + 1) x114 = f12_0_s c lf l0 l1 (f12_0 c lf l0 l1 n) x114 := rfl
theorem f12_0_eq (c : Orc) (lf : Nat) (l0 l1 : List T) (n : Nat) (x114 : Int) :
 lpK c env lf 6 fi12 2 4 [] [0, 1, 5] (x12_4_0) n (f12_0_c l0 l1 x114) = f12_0 c lf l0 l1 n x114 := by
 induction n generalizing x114 with
 | zero => rfl
 | succ n ih =>
  refine (f12_0_round c lf l0 l1 _ x114).trans ?_
  have e : (fun x114 => lpK c env lf 6 fi12 2 4 [] [0, 1, 5] (x12_4_0) n (f12_0_c l0 l1 x114)) = f12_0 c lf l0 l1 n := by funext x114; exact ih x114
  show f12_0_s c lf l0 l1 (fun x114 => lpK c env lf 6 fi12 2 4 [] [0, 1, 5] (x12_4_0) n (f12_0_c l0 l1 x114)) x114 = _
  rw [e]; rfl
def f12_t (c : Orc) (lf : Nat) (lp0 : List T → List T → Int → Option (List T)) (l0 l1 : List T) : Option (List T) :=
 bif (l0.length : Int) != (l1.length : Int) then
  some [T.b false]
 else
  (lp0 l0 l1 0).bind fun r115 =>
  bif asI (nth r115 0) == 0 then
   some [T.b (asB (nth r115 1))]
  else
   some [T.b true]
def f12 (c : Orc) (lf : Nat) (l0 l1 : List T) : Option (List T) := f12_t c lf (fun (l0 l1 : List T) (x114 : Int) => f12_0 c lf l0 l1 lf x114) l0 l1
theorem f12_raw (c : Orc) (lf : Nat) (l0 l1 : List T) : funK c env lf 6 fi12 [.sl l0, .sl l1] = f12_t c lf (fun (l0 l1 : List T) (x114 : Int) => lpK c env lf 6 fi12 2 4 [] [0, 1, 5] (x12_4_0) lf (f12_0_c l0 l1 x114)) l0 l1 := by kernel_rfl
theorem f12_eq (c : Orc) (lf : Nat) (l0 l1 : List T) : funK c env lf 6 fi12 [.sl l0, .sl l1] = f12 c lf l0 l1 := by
 refine (f12_raw c lf l0 l1).trans ?_
 have e0 : (fun (l0 l1 : List T) (x114 : Int) => lpK c env lf 6 fi12 2 4 [] [0, 1, 5] (x12_4_0) lf (f12_0_c l0 l1 x114)) = (fun (l0 l1 : List T) (x114 : Int) => f12_0 c lf l0 l1 lf x114) := by funext l0 l1 x114; exact f12_0_eq c lf l0 l1 lf x114
 rw [e0]; rfl
def f13_0_s (c : Orc) (lf : Nat) (l0 l1 : List T) (L : Int → Option (List T)) (x118 : Int) : Option (List T) :=
 bif iLt x118 (l0.length : Int) then
  bif inR x118 l0.length then
  bif inR x118 l1.length then
  bif !(((asS (T.cell (l0.getD x118.toNat T.u) 0)) == (asS (T.cell (l1.getD x118.toNat T.u) 0))) && (((asS (T.cell (l0.getD x118.toNat T.u) 1)) == (asS (T.cell (l1.getD x118.toNat T.u) 1))) && (true))) then
   some [T.i .i64 0, T.b false]
  else
   L (IntKind.wrap .i64 (x118 + 1))
  else none
  else none
 else
  some [T.i .i64 1]
def f13_0_c (l0 l1 : List T) (x118 : Int) : CSt := ⟨[.ro 0 true [.s, .s] l0, .ro 0 true [.s, .s] l1, .i .i64 x118], [.dead, .dead]⟩
theorem f13_0_round (c : Orc) (lf : Nat) (l0 l1 : List T) (L : CSt → Option (List T)) (x118 : Int) :
 roundK c env lf 6 fi13 2 4 [] [0, 1, 5] (x13_4_0) L (f13_0_c l0 l1 x118) = f13_0_s c lf l0 l1 (fun x118 => L (f13_0_c l0 l1 x118)) x118 := by kernel_rfl
def f13_0 (c : Orc) (lf : Nat) (l0 l1 : List T) : Nat → Int → Option (List T)
 | 0 => fun _ => none
 | n + 1 => fun x118 => f13_0_s c lf l0 l1 (f13_0 c lf l0 l1 n) x118
theorem f13_0_u (c : Orc) (lf : Nat) (l0 l1 : List T) (n : Nat) (x118 : Int) : f13_0 c lf l0 l1 (n + 1) x118 = f13_0_s c lf l0 l1 (f13_0 c lf l0 l1 n) x118 := rfl
theorem f13_0_eq (c : Orc) (lf : Nat) (l0 l1 : List T) (n : Nat) (x118 : Int) :
 lpK c env lf 6 fi13 2 4 [] [0, 1, 5] (x13_4_0) n (f13_0_c l0 l1 x118) = f13_0 c lf l0 l1 n x118 := by
 induction n generalizing x118 with
 | zero => rfl
 | succ n ih =>
  refine (f13_0_round c lf l0 l1 _ x118).trans ?_
  have e : (fun x118 => lpK c env lf 6 fi13 2 4 [] [0, 1, 5] (x13_4_0) n (f13_0_c l0 l1 x118)) = f13_0 c lf l0 l1 n := by funext x118; exact ih x118
  show f13_0_s c lf l0 l1 (fun x118 => lpK c env lf 6 fi13 2 4 [] [0, 1, 5] (x13_4_0) n (f13_0_c l0 l1 x118)) x118 = _
  rw [e]; rfl
def f13_t (c : Orc) (lf : Nat) (lp0 : List T → List T → Int → Option (List T)) (l0 l1 : List T) : Option (List T) :=
 bif (l0.length : Int) != (l1.length : Int) then
  some [T.b false]
 else
  (lp0 l0 l1 0).bind fun r119 =>
  bif asI (nth r119 0) == 0 then
   some [T.b (asB (nth r119 1))]
  else
   some [T.b true]
def f13 (c : Orc) (lf : Nat) (l0 l1 : List T) : Option (List T) := f13_t c lf (fun (l0 l1 : List T) (x118 : Int) => f13_0 c lf l0 l1 lf x118) l0 l1
theorem f13_raw (c : Orc) (lf : Nat) (l0 l1 : List T) : funK c env lf 6 fi13 [.sl l0, .sl l1] = f13_t c lf (fun (l0 l1 : List T) (x118 : Int) => lpK c env lf 6 fi13 2 4 [] [0, 1, 5] (x13_4_0) lf (f13_0_c l0 l1 x118)) l0 l1 := by kernel_rfl
theorem f13_eq (c : Orc) (lf : Nat) (l0 l1 : List T) : funK c env lf 6 fi13 [.sl l0, .sl l1] = f13 c lf l0 l1 := by
 refine (f13_raw c lf l0 l1).trans ?_
 have e0 : (fun (l0 l1 : List T) (x118 : Int) => lpK c env lf 6 fi13 2 4 [] [0, 1, 5] (x13_4_0) lf (f13_0_c l0 l1 x118)) = (fun (l0 l1 : List T) (x118 : Int) => f13_0 c lf l0 l1 lf x118) := by funext l0 l1 x118; exact f13_0_eq c lf l0 l1 lf x118
 rw [e0]; rfl
def f5_0_s (c : Orc) (lf : Nat) (l0 : List T) (L : Int → Option (List T)) (x137 : Int) : Option (List T) :=
 bif iLt x137 (l0.length : Int) then
  bif inR x137 l0.length then
  (c 10 [T.st [T.s (asS (T.cell (l0.getD x137.toNat T.u) 0)), T.i .i64 (asI (T.cell (l0.getD x137.toNat T.u) 1)), T.sl (asL (T.cell (l0.getD x137.toNat T.u) 2)), T.sl (asL (T.cell (l0.getD x137.toNat T.u) 3)), T.s (asS (T.cell (l0.getD x137.toNat T.u) 4))]]).bind fun r138 =>
  bif !(asB (nth r138 0)) then
   some [T.i .i64 0, T.b false]
  else
   bif iLt 0 x137 then
    bif inR (IntKind.wrap .i64 (x137 - 1)) l0.length then
    bif !(Op.bytesLess (asS (T.cell (l0.getD ((IntKind.wrap .i64 (x137 - 1)).toNat) T.u) 0)).toList (asS (T.cell (l0.getD x137.toNat T.u) 0)).toList) then
     some [T.i .i64 0, T.b false]
    else
     bif (asS (T.cell (l0.getD x137.toNat T.u) 4)).toList == (asS (T.cell (l0.getD x137.toNat T.u) 0)).toList then
      L (IntKind.wrap .i64 (x137 + 1))
     else
      bif iLe 0 x137 && iLe x137 (l0.length : Int) then
      (c 11 [T.sl (l0.take x137.toNat), T.s (asS (T.cell (l0.getD x137.toNat T.u) 4))]).bind fun r139 =>
      bif iLt (asI (nth r139 0)) 0 then
       some [T.i .i64 0, T.b false]
      else
       bif inR (asI (nth r139 0)) l0.length then
       bif (asI (T.cell (l0.getD ((asI (nth r139 0)).toNat) T.u) 1)) != 1 then
        some [T.i .i64 0, T.b false]
       else
        bif inR (asI (nth r139 0)) l0.length then
        bif !((asS (T.cell (l0.getD ((asI (nth r139 0)).toNat) T.u) 4)).toList == (asS (T.cell (l0.getD x137.toNat T.u) 4)).toList) then
         some [T.i .i64 0, T.b false]
        else
         bif inR (asI (nth r139 0)) l0.length then
         (c 12 [T.sl (asL (T.cell (l0.getD ((asI (nth r139 0)).toNat) T.u) 2)), T.sl (asL (T.cell (l0.getD x137.toNat T.u) 2))]).bind fun r140 =>
         bif !(asB (nth r140 0)) then
          some [T.i .i64 0, T.b false]
         else
          bif inR (asI (nth r139 0)) l0.length then
          (c 13 [T.sl (asL (T.cell (l0.getD ((asI (nth r139 0)).toNat) T.u) 3)), T.sl (asL (T.cell (l0.getD x137.toNat T.u) 3))]).bind fun r141 =>
          bif !(asB (nth r141 0)) then
           some [T.i .i64 0, T.b false]
          else
           L (IntKind.wrap .i64 (x137 + 1))
          else none
         else none
        else none
       else none
      else none
    else none
   else
    bif (asS (T.cell (l0.getD x137.toNat T.u) 4)).toList == (asS (T.cell (l0.getD x137.toNat T.u) 0)).toList then
     L (IntKind.wrap .i64 (x137 + 1))
    else
     bif iLe 0 x137 && iLe x137 (l0.length : Int) then
     (c 11 [T.sl (l0.take x137.toNat), T.s (asS (T.cell (l0.getD x137.toNat T.u) 4))]).bind fun r142 =>
     bif iLt (asI (nth r142 0)) 0 then
      some [T.i .i64 0, T.b false]
     else
      bif inR (asI (nth r142 0)) l0.length then
      bif (asI (T.cell (l0.getD ((asI (nth r142 0)).toNat) T.u) 1)) != 1 then
       some [T.i .i64 0, T.b false]
      else
       bif inR (asI (nth r142 0)) l0.length then
       bif !((asS (T.cell (l0.getD ((asI (nth r142 0)).toNat) T.u) 4)).toList == (asS (T.cell (l0.getD x137.toNat T.u) 4)).toList) then
        some [T.i .i64 0, T.b false]
       else
        bif inR (asI (nth r142 0)) l0.length then
        (c 12 [T.sl (asL (T.cell (l0.getD ((asI (nth r142 0)).toNat) T.u) 2)), T.sl (asL (T.cell (l0.getD x137.toNat T.u) 2))]).bind fun r143 =>
        bif !(asB (nth r143 0)) then
         some [T.i .i64 0, T.b false]
        else
         bif inR (asI (nth r142 0)) l0.length then
         (c 13 [T.sl (asL (T.cell (l0.getD ((asI (nth r142 0)).toNat) T.u) 3)), T.sl (asL (T.cell (l0.getD x137.toNat T.u) 3))]).bind fun r144 =>
         bif !(asB (nth r144 0)) then
          some [T.i .i64 0, T.b false]
         else
          L (IntKind.wrap .i64 (x137 + 1))
         else none
        else none
       else none
      else none
     else none
  else none
 else
  some [T.i .i64 1, T.sl l0]
def f5_0_c (l0 : List T) (x137 : Int) : CSt := ⟨[.ro 0 true [.s, .i .i64, .sl false [.i .u8], .sl true [.s, .s], .s] l0, .i .i64 x137], [.dead]⟩
theorem f5_0_round (c : Orc) (lf : Nat) (l0 : List T) (L : CSt → Option (List T)) (x137 : Int) :
 roundK c env lf 6 fi5 1 2 [] [0, 3] (x5_2_0) L (f5_0_c l0 x137) = f5_0_s c lf l0 (fun x137 => L (f5_0_c l0 x137)) x137 := by kernel_rfl
def f5_0 (c : Orc) (lf : Nat) (l0 : List T) : Nat → Int → Option (List T)
 | 0 => fun _ => none
 | n + 1 => fun x137 => f5_0_s c lf l0 (f5_0 c lf l0 n) x137
theorem f5_0_u (c : Orc) (lf : Nat) (l0 : List T) (n : Nat) (x137 : Int) : f5_0 c lf l0 (n + 1) x137 = f5_0_s c lf l0 (f5_0 c lf l0 n) x137 := rfl
theorem f5_0_eq (c : Orc) (lf : Nat) (l0 : List T) (n : Nat) (x137 : Int) :
 lpK c env lf 6 fi5 1 2 [] [0, 3] (x5_2_0) n (f5_0_c l0 x137) = f5_0 c lf l0 n x137 := by
 induction n generalizing x137 with
 | zero => rfl
 | succ n ih =>
  refine (f5_0_round c lf l0 _ x137).trans ?_
  have e : (fun x137 => lpK c env lf 6 fi5 1 2 [] [0, 3] (x5_2_0) n (f5_0_c l0 x137)) = f5_0 c lf l0 n := by funext x137; exact ih x137
  show f5_0_s c lf l0 (fun x137 => lpK c env lf 6 fi5 1 2 [] [0, 3] (x5_2_0) n (f5_0_c l0 x137)) x137 = _
  rw [e]; rfl
def f5_t (c : Orc) (lf : Nat) (lp0 : List T → Int → Option (List T)) (l0 : List T) : Option (List T) :=
 (lp0 l0 0).bind fun r145 =>
 bif asI (nth r145 0) == 0 then
  some [T.b (asB (nth r145 1))]
 else
  some [T.b (iLe ((asL (nth r145 1)).length : Int) 200)]
def f5 (c : Orc) (lf : Nat) (l0 : List T) : Option (List T) := f5_t c lf (fun (l0 : List T) (x137 : Int) => f5_0 c lf l0 lf x137) l0
theorem f5_raw (c : Orc) (lf : Nat) (l0 : List T) : funK c env lf 6 fi5 [.sl l0] = f5_t c lf (fun (l0 : List T) (x137 : Int) => lpK c env lf 6 fi5 1 2 [] [0, 3] (x5_2_0) lf (f5_0_c l0 x137)) l0 := by kernel_rfl
theorem f5_eq (c : Orc) (lf : Nat) (l0 : List T) : funK c env lf 6 fi5 [.sl l0] = f5 c lf l0 := by
 refine (f5_raw c lf l0).trans ?_
 have e0 : (fun (l0 : List T) (x137 : Int) => lpK c env lf 6 fi5 1 2 [] [0, 3] (x5_2_0) lf (f5_0_c l0 x137)) = (fun (l0 : List T) (x137 : Int) => f5_0 c lf l0 lf x137) := by funext l0 x137; exact f5_0_eq c lf l0 lf x137
 rw [e0]; rfl
def f45_0_s (c : Orc) (lf : Nat) (n2 : Int) (r161 : List T) (s0 s1 : ByteArray) (L : ByteArray → Int → List T → Option (List T)) (x163 : ByteArray) (x164 : Int) (x165 : List T) : Option (List T) :=
 bif iLt x164 (IntKind.wrap .i64 ((imin (IntKind.wrap .i64 ((asI (nth r161 0)) + 1)) (IntKind.wrap .i64 ((s0.size : Int) + 1))) - 1)) then
  (c 50 [T.s x163, T.s s1]).bind fun r166 =>
  bif iLt (asI (nth r166 0)) 0 then
   some [T.i .i64 0, T.s x163, T.i .i64 x164, T.sl x165]
  else
   bif iLe 0 0 && iLe 0 (IntKind.wrap .i64 ((asI (nth r166 0)) + n2)) && iLe (IntKind.wrap .i64 ((asI (nth r166 0)) + n2)) (x163.size : Int) then
   bif inR x164 x165.length then
   bif iLe 0 (IntKind.wrap .i64 ((asI (nth r166 0)) + (s1.size : Int))) && iLe (IntKind.wrap .i64 ((asI (nth r166 0)) + (s1.size : Int))) (x163.size : Int) && iLe (x163.size : Int) (x163.size : Int) then
   L (x163.extract (IntKind.wrap .i64 ((asI (nth r166 0)) + (s1.size : Int))).toNat (x163.size : Int).toNat) (IntKind.wrap .i64 (x164 + 1)) (x165.set x164.toNat (T.s (x163.extract 0 (IntKind.wrap .i64 ((asI (nth r166 0)) + n2)).toNat)))
   else none
   else none
   else none
 else
  some [T.i .i64 0, T.s x163, T.i .i64 x164, T.sl x165]
def f45_0_c (n2 : Int) (r161 : List T) (s0 s1 x163 : ByteArray) (x164 : Int) (x165 : List T) : CSt := ⟨[.s x163, .s s1, .i .i64 n2, .i .i64 (IntKind.wrap .i64 ((imin (IntKind.wrap .i64 ((asI (nth r161 0)) + 1)) (IntKind.wrap .i64 ((s0.size : Int) + 1))) - 1)), .rf 4 [] 0 none, .i .i64 x164], [.dead, .dead, .dead, .dead, .row false [.s] x165 0 false]⟩
theorem f45_0_round (c : Orc) (lf : Nat) (n2 : Int) (r161 : List T) (s0 s1 : ByteArray) (L : CSt → Option (List T)) (x163 : ByteArray) (x164 : Int) (x165 : List T) :
 roundK c env lf 6 fi45 4 11 [] [0, 1, 2, 3, 9, 10] (x45_11_0) L (f45_0_c n2 r161 s0 s1 x163 x164 x165) = f45_0_s c lf n2 r161 s0 s1 (fun x163 x164 x165 => L (f45_0_c n2 r161 s0 s1 x163 x164 x165)) x163 x164 x165 := by kernel_rfl
def f45_0 (c : Orc) (lf : Nat) (n2 : Int) (r161 : List T) (s0 s1 : ByteArray) : Nat → ByteArray → Int → List T → Option (List T)
 | 0 => fun _ _ _ => none
 | n + 1 => fun x163 x164 x165 => f45_0_s c lf n2 r161 s0 s1 (f45_0 c lf n2 r161 s0 s1 n) x163 x164 x165
theorem f45_0_u (c : Orc) (lf : Nat) (n2 : Int) (r161 : List T) (s0 s1 : ByteArray) (n : Nat) (x163 : ByteArray) (x164 : Int) (x165 : List T) : f45_0 c lf n2 r161 s0 s1 (n + 1) x163 x164 x165 = f45_0_s c lf n2 r161 s0 s1 (f45_0 c lf n2 r161 s0 s1 n) x163 x164 x165 := rfl
theorem f45_0_eq (c : Orc) (lf : Nat) (n2 : Int) (r161 : List T) (s0 s1 : ByteArray) (n : Nat) (x163 : ByteArray) (x164 : Int) (x165 : List T) :
 lpK c env lf 6 fi45 4 11 [] [0, 1, 2, 3, 9, 10] (x45_11_0) n (f45_0_c n2 r161 s0 s1 x163 x164 x165) = f45_0 c lf n2 r161 s0 s1 n x163 x164 x165 := by
 induction n generalizing x163 x164 x165 with
 | zero => rfl
 | succ n ih =>
  refine (f45_0_round c lf n2 r161 s0 s1 _ x163 x164 x165).trans ?_
  have e : (fun x163 x164 x165 => lpK c env lf 6 fi45 4 11 [] [0, 1, 2, 3, 9, 10] (x45_11_0) n (f45_0_c n2 r161 s0 s1 x163 x164 x165)) = f45_0 c lf n2 r161 s0 s1 n := by funext x163 x164 x165; exact ih x163 x164 x165
  show f45_0_s c lf n2 r161 s0 s1 (fun x163 x164 x165 => lpK c env lf 6 fi45 4 11 [] [0, 1, 2, 3, 9, 10] (x45_11_0) n (f45_0_c n2 r161 s0 s1 x163 x164 x165)) x163 x164 x165 = _
  rw [e]; rfl
def f45_1_s (c : Orc) (lf : Nat) (n2 n3 : Int) (s0 s1 : ByteArray) (L : ByteArray → Int → List T → Option (List T)) (x169 : ByteArray) (x170 : Int) (x171 : List T) : Option (List T) :=
 bif iLt x170 (IntKind.wrap .i64 ((imin n3 (IntKind.wrap .i64 ((s0.size : Int) + 1))) - 1)) then
  (c 50 [T.s x169, T.s s1]).bind fun r172 =>
  bif iLt (asI (nth r172 0)) 0 then
   some [T.i .i64 0, T.s x169, T.i .i64 x170, T.sl x171]
  else
   bif iLe 0 0 && iLe 0 (IntKind.wrap .i64 ((asI (nth r172 0)) + n2)) && iLe (IntKind.wrap .i64 ((asI (nth r172 0)) + n2)) (x169.size : Int) then
   bif inR x170 x171.length then
   bif iLe 0 (IntKind.wrap .i64 ((asI (nth r172 0)) + (s1.size : Int))) && iLe (IntKind.wrap .i64 ((asI (nth r172 0)) + (s1.size : Int))) (x169.size : Int) && iLe (x169.size : Int) (x169.size : Int) then
   L (x169.extract (IntKind.wrap .i64 ((asI (nth r172 0)) + (s1.size : Int))).toNat (x169.size : Int).toNat) (IntKind.wrap .i64 (x170 + 1)) (x171.set x170.toNat (T.s (x169.extract 0 (IntKind.wrap .i64 ((asI (nth r172 0)) + n2)).toNat)))
   else none
   else none
   else none
 else
  some [T.i .i64 0, T.s x169, T.i .i64 x170, T.sl x171]
def f45_1_c (n2 n3 : Int) (s0 s1 x169 : ByteArray) (x170 : Int) (x171 : List T) : CSt := ⟨[.s x169, .s s1, .i .i64 n2, .i .i64 (IntKind.wrap .i64 ((imin n3 (IntKind.wrap .i64 ((s0.size : Int) + 1))) - 1)), .rf 4 [] 0 none, .i .i64 x170], [.dead, .dead, .dead, .dead, .row false [.s] x171 0 false]⟩
theorem f45_1_round (c : Orc) (lf : Nat) (n2 n3 : Int) (s0 s1 : ByteArray) (L : CSt → Option (List T)) (x169 : ByteArray) (x170 : Int) (x171 : List T) :
 roundK c env lf 6 fi45 4 11 [] [0, 1, 2, 3, 9, 10] (x45_11_0) L (f45_1_c n2 n3 s0 s1 x169 x170 x171) = f45_1_s c lf n2 n3 s0 s1 (fun x169 x170 x171 => L (f45_1_c n2 n3 s0 s1 x169 x170 x171)) x169 x170 x171 := by kernel_rfl
def f45_1 (c : Orc) (lf : Nat) (n2 n3 : Int) (s0 s1 : ByteArray) : Nat → ByteArray → Int → List T → Option (List T)
 | 0 => fun _ _ _ => none
 | n + 1 => fun x169 x170 x171 => f45_1_s c lf n2 n3 s0 s1 (f45_1 c lf n2 n3 s0 s1 n) x169 x170 x171
theorem f45_1_eq (c : Orc) (lf : Nat) (n2 n3 : Int) (s0 s1 : ByteArray) (n : Nat) (x169 : ByteArray) (x170 : Int) (x171 : List T) :
 lpK c env lf 6 fi45 4 11 [] [0, 1, 2, 3, 9, 10] (x45_11_0) n (f45_1_c n2 n3 s0 s1 x169 x170 x171) = f45_1 c lf n2 n3 s0 s1 n x169 x170 x171 := by
 induction n generalizing x169 x170 x171 with
 | zero => rfl
 | succ n ih =>
  refine (f45_1_round c lf n2 n3 s0 s1 _ x169 x170 x171).trans ?_
  have e : (fun x169 x170 x171 => lpK c env lf 6 fi45 4 11 [] [0, 1, 2, 3, 9, 10] (x45_11_0) n (f45_1_c n2 n3 s0 s1 x169 x170 x171)) = f45_1 c lf n2 n3 s0 s1 n := by funext x169 x170 x171; exact ih x169 x170 x171
  show f45_1_s c lf n2 n3 s0 s1 (fun x169 x170 x171 => lpK c env lf 6 fi45 4 11 [] [0, 1, 2, 3, 9, 10] (x45_11_0) n (f45_1_c n2 n3 s0 s1 x169 x170 x171)) x169 x170 x171 = _
  rw [e]; rfl
def f45_t (c : Orc) (lf : Nat) (lp0 : Int → List T → ByteArray → ByteArray → ByteArray → Int → List T → Option (List T)) (lp1 : Int → Int → ByteArray → ByteArray → ByteArray → Int → List T → Option (List T)) (s0 s1 : ByteArray) (n2 n3 : Int) : Option (List T) :=
 bif n3 == 0 then
  some [T.sl []]
 else
  bif s1.toList == (⟨#[]⟩ : ByteArray).toList then
   (c 48 [T.s s0, T.i .i64 n3]).bind fun r160 =>
   some [T.sl (asL (nth r160 0))]
  else
   bif iLt n3 0 then
    (c 49 [T.s s0, T.s s1]).bind fun r161 =>
    bif iLe 0 (imin (IntKind.wrap .i64 ((asI (nth r161 0)) + 1)) (IntKind.wrap .i64 ((s0.size : Int) + 1))) && iLe (imin (IntKind.wrap .i64 ((asI (nth r161 0)) + 1)) (IntKind.wrap .i64 ((s0.size : Int) + 1))) (LIM : Int) && ((imin (IntKind.wrap .i64 ((asI (nth r161 0)) + 1)) (IntKind.wrap .i64 ((s0.size : Int) + 1))) == (imin (IntKind.wrap .i64 ((asI (nth r161 0)) + 1)) (IntKind.wrap .i64 ((s0.size : Int) + 1)))) then
    (lp0 n2 r161 s0 s1 s0 0 (List.replicate (imin (IntKind.wrap .i64 ((asI (nth r161 0)) + 1)) (IntKind.wrap .i64 ((s0.size : Int) + 1))).toNat (T.s (⟨#[]⟩ : ByteArray)))).bind fun r167 =>
    bif inR (asI (nth r167 2)) ((asL (nth r167 3)).length) then
    bif iLe 0 0 && iLe 0 (IntKind.wrap .i64 ((asI (nth r167 2)) + 1)) && iLe (IntKind.wrap .i64 ((asI (nth r167 2)) + 1)) (((asL (nth r167 3)).set ((asI (nth r167 2)).toNat) (T.s (asS (nth r167 1)))).length : Int) then
    some [T.sl ((((asL (nth r167 3)).set ((asI (nth r167 2)).toNat) (T.s (asS (nth r167 1)))).drop 0).take (((IntKind.wrap .i64 ((asI (nth r167 2)) + 1)).toNat) - 0))]
    else none
    else none
    else none
   else
    bif iLe 0 (imin n3 (IntKind.wrap .i64 ((s0.size : Int) + 1))) && iLe (imin n3 (IntKind.wrap .i64 ((s0.size : Int) + 1))) (LIM : Int) && ((imin n3 (IntKind.wrap .i64 ((s0.size : Int) + 1))) == (imin n3 (IntKind.wrap .i64 ((s0.size : Int) + 1)))) then
    (lp1 n2 n3 s0 s1 s0 0 (List.replicate (imin n3 (IntKind.wrap .i64 ((s0.size : Int) + 1))).toNat (T.s (⟨#[]⟩ : ByteArray)))).bind fun r173 =>
    bif inR (asI (nth r173 2)) ((asL (nth r173 3)).length) then
    bif iLe 0 0 && iLe 0 (IntKind.wrap .i64 ((asI (nth r173 2)) + 1)) && iLe (IntKind.wrap .i64 ((asI (nth r173 2)) + 1)) (((asL (nth r173 3)).set ((asI (nth r173 2)).toNat) (T.s (asS (nth r173 1)))).length : Int) then
    some [T.sl ((((asL (nth r173 3)).set ((asI (nth r173 2)).toNat) (T.s (asS (nth r173 1)))).drop 0).take (((IntKind.wrap .i64 ((asI (nth r173 2)) + 1)).toNat) - 0))]
    else none
    else none
    else none
def f45 (c : Orc) (lf : Nat) (s0 s1 : ByteArray) (n2 n3 : Int) : Option (List T) := f45_t c lf (fun (n2 : Int) (r161 : List T) (s0 s1 x163 : ByteArray) (x164 : Int) (x165 : List T) => f45_0 c lf n2 r161 s0 s1 lf x163 x164 x165) (fun (n2 n3 : Int) (s0 s1 x169 : ByteArray) (x170 : Int) (x171 : List T) => f45_1 c lf n2 n3 s0 s1 lf x169 x170 x171) s0 s1 n2 n3
theorem f45_raw (c : Orc) (lf : Nat) (s0 s1 : ByteArray) (n2 n3 : Int) : funK c env lf 6 fi45 [.s s0, .s s1, .i .i64 n2, .i .i64 n3] = f45_t c lf (fun (n2 : Int) (r161 : List T) (s0 s1 x163 : ByteArray) (x164 : Int) (x165 : List T) => lpK c env lf 6 fi45 4 11 [] [0, 1, 2, 3, 9, 10] (x45_11_0) lf (f45_0_c n2 r161 s0 s1 x163 x164 x165)) (fun (n2 n3 : Int) (s0 s1 x169 : ByteArray) (x170 : Int) (x171 : List T) => lpK c env lf 6 fi45 4 11 [] [0, 1, 2, 3, 9, 10] (x45_11_0) lf (f45_1_c n2 n3 s0 s1 x169 x170 x171)) s0 s1 n2 n3 := by kernel_rfl
theorem f45_eq (c : Orc) (lf : Nat) (s0 s1 : ByteArray) (n2 n3 : Int) : funK c env lf 6 fi45 [.s s0, .s s1, .i .i64 n2, .i .i64 n3] = f45 c lf s0 s1 n2 n3 := by
 refine (f45_raw c lf s0 s1 n2 n3).trans ?_
 have e0 : (fun (n2 : Int) (r161 : List T) (s0 s1 x163 : ByteArray) (x164 : Int) (x165 : List T) => lpK c env lf 6 fi45 4 11 [] [0, 1, 2, 3, 9, 10] (x45_11_0) lf (f45_0_c n2 r161 s0 s1 x163 x164 x165)) = (fun (n2 : Int) (r161 : List T) (s0 s1 x163 : ByteArray) (x164 : Int) (x165 : List T) => f45_0 c lf n2 r161 s0 s1 lf x163 x164 x165) := by funext n2 r161 s0 s1 x163 x164 x165; exact f45_0_eq c lf n2 r161 s0 s1 lf x163 x164 x165
 have e1 : (fun (n2 n3 : Int) (s0 s1 x169 : ByteArray) (x170 : Int) (x171 : List T) => lpK c env lf 6 fi45 4 11 [] [0, 1, 2, 3, 9, 10] (x45_11_0) lf (f45_1_c n2 n3 s0 s1 x169 x170 x171)) = (fun (n2 n3 : Int) (s0 s1 x169 : ByteArray) (x170 : Int) (x171 : List T) => f45_1 c lf n2 n3 s0 s1 lf x169 x170 x171) := by funext n2 n3 s0 s1 x169 x170 x171; exact f45_1_eq c lf n2 n3 s0 s1 lf x169 x170 x171
 rw [e0, e1]; rfl
def f43_t (c : Orc) (lf : Nat) (s0 s1 : ByteArray) : Option (List T) :=
 (c 45 [T.s s0, T.s s1, T.i .i64 0, T.i .i64 (-1)]).bind fun r174 =>
 some [T.sl (asL (nth r174 0))]
def f43 (c : Orc) (lf : Nat) (s0 s1 : ByteArray) : Option (List T) := f43_t c lf s0 s1
theorem f43_eq (c : Orc) (lf : Nat) (s0 s1 : ByteArray) : funK c env lf 6 fi43 [.s s0, .s s1] = f43 c lf s0 s1 := by kernel_rfl
def f41_0_s (c : Orc) (lf : Nat) (s0 : ByteArray) (L : Int → Option (List T)) (x177 : Int) : Option (List T) :=
 bif iLt x177 (s0.size : Int) then
  bif inR x177 s0.size then
  bif iLt (byteAt s0 x177) 97 then
   bif iLt (byteAt s0 x177) 48 then
    bif (byteAt s0 x177) != 95 then
     bif (byteAt s0 x177) != 45 then
      bif (byteAt s0 x177) != 46 then
       some [T.i .i64 0, T.b false]
      else
       L (IntKind.wrap .i64 (x177 + 1))
     else
      L (IntKind.wrap .i64 (x177 + 1))
    else
     L (IntKind.wrap .i64 (x177 + 1))
   else
    bif iLt 57 (byteAt s0 x177) then
     bif (byteAt s0 x177) != 95 then
      bif (byteAt s0 x177) != 45 then
       bif (byteAt s0 x177) != 46 then
        some [T.i .i64 0, T.b false]
       else
        L (IntKind.wrap .i64 (x177 + 1))
      else
       L (IntKind.wrap .i64 (x177 + 1))
     else
      L (IntKind.wrap .i64 (x177 + 1))
    else
     L (IntKind.wrap .i64 (x177 + 1))
  else
   bif iLt 122 (byteAt s0 x177) then
    bif iLt (byteAt s0 x177) 48 then
     bif (byteAt s0 x177) != 95 then
      bif (byteAt s0 x177) != 45 then
       bif (byteAt s0 x177) != 46 then
        some [T.i .i64 0, T.b false]
       else
        L (IntKind.wrap .i64 (x177 + 1))
      else
       L (IntKind.wrap .i64 (x177 + 1))
     else
      L (IntKind.wrap .i64 (x177 + 1))
    else
     bif iLt 57 (byteAt s0 x177) then
      bif (byteAt s0 x177) != 95 then
       bif (byteAt s0 x177) != 45 then
        bif (byteAt s0 x177) != 46 then
         some [T.i .i64 0, T.b false]
        else
         L (IntKind.wrap .i64 (x177 + 1))
       else
        L (IntKind.wrap .i64 (x177 + 1))
      else
       L (IntKind.wrap .i64 (x177 + 1))
     else
      L (IntKind.wrap .i64 (x177 + 1))
   else
    L (IntKind.wrap .i64 (x177 + 1))
  else none
 else
  some [T.i .i64 1, T.s s0]
def f41_0_c (s0 : ByteArray) (x177 : Int) : CSt := ⟨[.s s0, .i .i64 (s0.size : Int), .i .i64 x177], [.dead]⟩
theorem f41_0_round (c : Orc) (lf : Nat) (s0 : ByteArray) (L : CSt → Option (List T)) (x177 : Int) :
 roundK c env lf 6 fi41 1 2 [] [0, 6, 7] (x41_2_0) L (f41_0_c s0 x177) = f41_0_s c lf s0 (fun x177 => L (f41_0_c s0 x177)) x177 := by kernel_rfl
def f41_0 (c : Orc) (lf : Nat) (s0 : ByteArray) : Nat → Int → Option (List T)
 | 0 => fun _ => none
 | n + 1 => fun x177 => f41_0_s c lf s0 (f41_0 c lf s0 n) x177
theorem f41_0_eq (c : Orc) (lf : Nat) (s0 : ByteArray) (n : Nat) (x177 : Int) :
 lpK c env lf 6 fi41 1 2 [] [0, 6, 7] (x41_2_0) n (f41_0_c s0 x177) = f41_0 c lf s0 n x177 := by
 induction n generalizing x177 with
 | zero => rfl
 | succ n ih =>
  refine (f41_0_round c lf s0 _ x177).trans ?_
  have e : (fun x177 => lpK c env lf 6 fi41 1 2 [] [0, 6, 7] (x41_2_0) n (f41_0_c s0 x177)) = f41_0 c lf s0 n := by funext x177; exact ih x177
  show f41_0_s c lf s0 (fun x177 => lpK c env lf 6 fi41 1 2 [] [0, 6, 7] (x41_2_0) n (f41_0_c s0 x177)) x177 = _
  rw [e]; rfl
def f41_t (c : Orc) (lf : Nat) (lp0 : ByteArray → Int → Option (List T)) (s0 : ByteArray) : Option (List T) :=
 (lp0 s0 0).bind fun r178 =>
 bif asI (nth r178 0) == 0 then
  some [T.b (asB (nth r178 1))]
 else
  bif iLe 1 ((asS (nth r178 1)).size : Int) then
   bif iLe ((asS (nth r178 1)).size : Int) 14 then
    bif !((asS (nth r178 1)).toList == (⟨#[46]⟩ : ByteArray).toList) then
     some [T.b (!((asS (nth r178 1)).toList == (⟨#[46, 46]⟩ : ByteArray).toList))]
    else
     some [T.b false]
   else
    some [T.b false]
  else
   some [T.b false]
def f41 (c : Orc) (lf : Nat) (s0 : ByteArray) : Option (List T) := f41_t c lf (fun (s0 : ByteArray) (x177 : Int) => f41_0 c lf s0 lf x177) s0
theorem f41_raw (c : Orc) (lf : Nat) (s0 : ByteArray) : funK c env lf 6 fi41 [.s s0] = f41_t c lf (fun (s0 : ByteArray) (x177 : Int) => lpK c env lf 6 fi41 1 2 [] [0, 6, 7] (x41_2_0) lf (f41_0_c s0 x177)) s0 := by kernel_rfl
theorem f41_eq (c : Orc) (lf : Nat) (s0 : ByteArray) : funK c env lf 6 fi41 [.s s0] = f41 c lf s0 := by
 refine (f41_raw c lf s0).trans ?_
 have e0 : (fun (s0 : ByteArray) (x177 : Int) => lpK c env lf 6 fi41 1 2 [] [0, 6, 7] (x41_2_0) lf (f41_0_c s0 x177)) = (fun (s0 : ByteArray) (x177 : Int) => f41_0 c lf s0 lf x177) := by funext s0 x177; exact f41_0_eq c lf s0 lf x177
 rw [e0]; rfl
def f47_t (c : Orc) (lf : Nat) (s0 : ByteArray) : Option (List T) :=
 (c 41 [T.s s0]).bind fun r179 =>
 some [T.b (!(asB (nth r179 0)))]
def f47 (c : Orc) (lf : Nat) (s0 : ByteArray) : Option (List T) := f47_t c lf s0
theorem f47_eq (c : Orc) (lf : Nat) (s0 : ByteArray) : funK c env lf 6 fi47 [.s s0] = f47 c lf s0 := by kernel_rfl
def f44_0_s (c : Orc) (lf : Nat) (l0 : List T) (L : Int → Option (List T)) (x185 : Int) : Option (List T) :=
 bif iLt x185 (l0.length : Int) then
  bif inR x185 l0.length then
  (c 47 [T.s (asS (l0.getD x185.toNat T.u))]).bind fun r186 =>
  bif asB (nth r186 0) then
   some [T.i .i64 0, T.i .i64 x185]
  else
   L (IntKind.wrap .i64 (x185 + 1))
  else none
 else
  some [T.i .i64 1]
def f44_0_c (l0 : List T) (x185 : Int) : CSt := ⟨[.ro 0 false [.s] l0, .fn 47 [], .i .i64 (l0.length : Int), .i .i64 x185], []⟩
theorem f44_0_round (c : Orc) (lf : Nat) (l0 : List T) (L : CSt → Option (List T)) (x185 : Int) :
 roundK c env lf 4 fi51 0 2 [] [0, 1, 7, 8] (x51_2_0) L (f44_0_c l0 x185) = f44_0_s c lf l0 (fun x185 => L (f44_0_c l0 x185)) x185 := by kernel_rfl
def f44_0 (c : Orc) (lf : Nat) (l0 : List T) : Nat → Int → Option (List T)
 | 0 => fun _ => none
 | n + 1 => fun x185 => f44_0_s c lf l0 (f44_0 c lf l0 n) x185
theorem f44_0_u (c : Orc) (lf : Nat) (l0 : List T) (n : Nat) (x185 : Int) : f44_0 c lf l0 (n + 1) x185 = f44_0_s c lf l0 (f44_0 c lf l0 n) x185 := rfl
theorem f44_0_eq (c : Orc) (lf : Nat) (l0 : List T) (n : Nat) (x185 : Int) :
 lpK c env lf 4 fi51 0 2 [] [0, 1, 7, 8] (x51_2_0) n (f44_0_c l0 x185) = f44_0 c lf l0 n x185 := by
 induction n generalizing x185 with
 | zero => rfl
 | succ n ih =>
  refine (f44_0_round c lf l0 _ x185).trans ?_
  have e : (fun x185 => lpK c env lf 4 fi51 0 2 [] [0, 1, 7, 8] (x51_2_0) n (f44_0_c l0 x185)) = f44_0 c lf l0 n := by funext x185; exact ih x185
  show f44_0_s c lf l0 (fun x185 => lpK c env lf 4 fi51 0 2 [] [0, 1, 7, 8] (x51_2_0) n (f44_0_c l0 x185)) x185 = _
  rw [e]; rfl
def f44_t (c : Orc) (lf : Nat) (lp0 : List T → Int → Option (List T)) (l0 : List T) : Option (List T) :=
 bif iLe (l0.length : Int) 30 then
  (lp0 l0 0).bind fun r187 =>
  bif asI (nth r187 0) == 0 then
   some [T.b (!(iLe 0 (asI (nth r187 1))))]
  else
   some [T.b true]
 else
  some [T.b false]
def f44 (c : Orc) (lf : Nat) (l0 : List T) : Option (List T) := f44_t c lf (fun (l0 : List T) (x185 : Int) => f44_0 c lf l0 lf x185) l0
theorem f44_raw (c : Orc) (lf : Nat) (l0 : List T) : funK c env lf 6 fi44 [.sl l0] = f44_t c lf (fun (l0 : List T) (x185 : Int) => lpK c env lf 4 fi51 0 2 [] [0, 1, 7, 8] (x51_2_0) lf (f44_0_c l0 x185)) l0 := by kernel_rfl
theorem f44_eq (c : Orc) (lf : Nat) (l0 : List T) : funK c env lf 6 fi44 [.sl l0] = f44 c lf l0 := by
 refine (f44_raw c lf l0).trans ?_
 have e0 : (fun (l0 : List T) (x185 : Int) => lpK c env lf 4 fi51 0 2 [] [0, 1, 7, 8] (x51_2_0) lf (f44_0_c l0 x185)) = (fun (l0 : List T) (x185 : Int) => f44_0 c lf l0 lf x185) := by funext l0 x185; exact f44_0_eq c lf l0 lf x185
 rw [e0]; rfl
def f40_t (c : Orc) (lf : Nat) (s0 : ByteArray) : Option (List T) :=
 bif s0.toList == (⟨#[47]⟩ : ByteArray).toList then
  some [T.sl [], T.b true]
 else
  (c 43 [T.s s0, T.s (⟨#[47]⟩ : ByteArray)]).bind fun r188 =>
  bif inR 0 ((asL (nth r188 0)).length) then
  bif !((asS ((asL (nth r188 0)).getD 0 T.u)).toList == (⟨#[]⟩ : ByteArray).toList) then
   some [T.sl [], T.b false]
  else
   bif iLt ((asL (nth r188 0)).length : Int) 2 then
    some [T.sl [], T.b false]
   else
    bif iLe 0 1 && iLe 1 ((asL (nth r188 0)).length : Int) && iLe ((asL (nth r188 0)).length : Int) ((asL (nth r188 0)).length : Int) then
    (c 44 [T.sl (((asL (nth r188 0)).drop 1).take ((((asL (nth r188 0)).length : Int).toNat) - 1))]).bind fun r189 =>
    bif !(asB (nth r189 0)) then
     some [T.sl [], T.b false]
    else
     bif iLe 0 1 && iLe 1 ((asL (nth r188 0)).length : Int) && iLe ((asL (nth r188 0)).length : Int) ((asL (nth r188 0)).length : Int) then
     some [T.sl (((asL (nth r188 0)).drop 1).take ((((asL (nth r188 0)).length : Int).toNat) - 1)), T.b true]
     else none
    else none
  else none
def f40 (c : Orc) (lf : Nat) (s0 : ByteArray) : Option (List T) := f40_t c lf s0
theorem f40_eq (c : Orc) (lf : Nat) (s0 : ByteArray) : funK c env lf 6 fi40 [.s s0] = f40 c lf s0 := by kernel_rfl
def f29_t (c : Orc) (lf : Nat) (s0 : ByteArray) : Option (List T) :=
 (c 40 [T.s s0]).bind fun r190 =>
 bif asB (nth r190 1) then
  some [T.b (iLt 0 ((asL (nth r190 0)).length : Int))]
 else
  some [T.b false]
def f29 (c : Orc) (lf : Nat) (s0 : ByteArray) : Option (List T) := f29_t c lf s0
theorem f29_eq (c : Orc) (lf : Nat) (s0 : ByteArray) : funK c env lf 6 fi29 [.s s0] = f29 c lf s0 := by kernel_rfl
def f30_t (c : Orc) (lf : Nat) (n0 n1 n2 : Int) : Option (List T) :=
 bif iLe n1 n0 then
  some [T.b (iLe n0 n2)]
 else
  some [T.b false]
def f30 (c : Orc) (lf : Nat) (n0 n1 n2 : Int) : Option (List T) := f30_t c lf n0 n1 n2
theorem f30_eq (c : Orc) (lf : Nat) (n0 n1 n2 : Int) : funK c env lf 6 fi30 [.i .i64 n0, .i .i64 n1, .i .i64 n2] = f30 c lf n0 n1 n2 := by kernel_rfl
def f31_0_s (c : Orc) (lf : Nat) (l0 : List T) (L : Int → Option (List T)) (x199 : Int) : Option (List T) :=
 bif iLt x199 (l0.length : Int) then
  bif inR x199 l0.length then
  (c 41 [T.s (asS (T.cell (l0.getD x199.toNat T.u) 0))]).bind fun r200 =>
  bif !(asB (nth r200 0)) then
   some [T.i .i64 0, T.b false]
  else
   (c 30 [T.i .i64 ((asS (T.cell (l0.getD x199.toNat T.u) 1)).size : Int), T.i .i64 1, T.i .i64 16]).bind fun r201 =>
   bif !(asB (nth r201 0)) then
    some [T.i .i64 0, T.b false]
   else
    bif iLt 0 x199 then
     bif inR (IntKind.wrap .i64 (x199 - 1)) l0.length then
     bif !(Op.bytesLess (asS (T.cell (l0.getD ((IntKind.wrap .i64 (x199 - 1)).toNat) T.u) 0)).toList (asS (T.cell (l0.getD x199.toNat T.u) 0)).toList) then
      some [T.i .i64 0, T.b false]
     else
      L (IntKind.wrap .i64 (x199 + 1))
     else none
    else
     L (IntKind.wrap .i64 (x199 + 1))
  else none
 else
  some [T.i .i64 1, T.sl l0]
def f31_0_c (l0 : List T) (x199 : Int) : CSt := ⟨[.ro 0 true [.s, .s] l0, .ro 0 true [.s, .s] l0, .i .i64 (l0.length : Int), .i .i64 x199], [.dead]⟩
theorem f31_0_round (c : Orc) (lf : Nat) (l0 : List T) (L : CSt → Option (List T)) (x199 : Int) :
 roundK c env lf 6 fi31 1 2 [] [0, 5, 6, 7] (x31_2_0) L (f31_0_c l0 x199) = f31_0_s c lf l0 (fun x199 => L (f31_0_c l0 x199)) x199 := by kernel_rfl
def f31_0 (c : Orc) (lf : Nat) (l0 : List T) : Nat → Int → Option (List T)
 | 0 => fun _ => none
 | n + 1 => fun x199 => f31_0_s c lf l0 (f31_0 c lf l0 n) x199
theorem f31_0_u (c : Orc) (lf : Nat) (l0 : List T) (n : Nat) (x199 : Int) : f31_0 c lf l0 (n + 1) x199 = f31_0_s c lf l0 (f31_0 c lf l0 n) x199 := rfl
theorem f31_0_eq (c : Orc) (lf : Nat) (l0 : List T) (n : Nat) (x199 : Int) :
 lpK c env lf 6 fi31 1 2 [] [0, 5, 6, 7] (x31_2_0) n (f31_0_c l0 x199) = f31_0 c lf l0 n x199 := by
 induction n generalizing x199 with
 | zero => rfl
 | succ n ih =>
  refine (f31_0_round c lf l0 _ x199).trans ?_
  have e : (fun x199 => lpK c env lf 6 fi31 1 2 [] [0, 5, 6, 7] (x31_2_0) n (f31_0_c l0 x199)) = f31_0 c lf l0 n := by funext x199; exact ih x199
  show f31_0_s c lf l0 (fun x199 => lpK c env lf 6 fi31 1 2 [] [0, 5, 6, 7] (x31_2_0) n (f31_0_c l0 x199)) x199 = _
  rw [e]; rfl
def f31_t (c : Orc) (lf : Nat) (lp0 : List T → Int → Option (List T)) (l0 : List T) : Option (List T) :=
 (lp0 l0 0).bind fun r202 =>
 bif asI (nth r202 0) == 0 then
  some [T.b (asB (nth r202 1))]
 else
  some [T.b (iLe ((asL (nth r202 1)).length : Int) 4)]
def f31 (c : Orc) (lf : Nat) (l0 : List T) : Option (List T) := f31_t c lf (fun (l0 : List T) (x199 : Int) => f31_0 c lf l0 lf x199) l0
theorem f31_raw (c : Orc) (lf : Nat) (l0 : List T) : funK c env lf 6 fi31 [.sl l0] = f31_t c lf (fun (l0 : List T) (x199 : Int) => lpK c env lf 6 fi31 1 2 [] [0, 5, 6, 7] (x31_2_0) lf (f31_0_c l0 x199)) l0 := by kernel_rfl
theorem f31_eq (c : Orc) (lf : Nat) (l0 : List T) : funK c env lf 6 fi31 [.sl l0] = f31 c lf l0 := by
 refine (f31_raw c lf l0).trans ?_
 have e0 : (fun (l0 : List T) (x199 : Int) => lpK c env lf 6 fi31 1 2 [] [0, 5, 6, 7] (x31_2_0) lf (f31_0_c l0 x199)) = (fun (l0 : List T) (x199 : Int) => f31_0 c lf l0 lf x199) := by funext l0 x199; exact f31_0_eq c lf l0 lf x199
 rw [e0]; rfl
def f15_t (c : Orc) (lf : Nat) (s0_0 : ByteArray) (n0_1 : Int) (l0_2 l0_3 : List T) (s0_4 : ByteArray) : Option (List T) :=
 (c 29 [T.s s0_0]).bind fun r203 =>
 bif !(asB (nth r203 0)) then
  some [T.b false]
 else
  (c 30 [T.i .i64 n0_1, T.i .i64 1, T.i .i64 2]).bind fun r204 =>
  bif !(asB (nth r204 0)) then
   some [T.b false]
  else
   bif iLt 100 (l0_2.length : Int) then
    some [T.b false]
   else
    (c 31 [T.sl l0_3]).bind fun r205 =>
    bif !(asB (nth r205 0)) then
     some [T.b false]
    else
     bif !(Op.bytesLess s0_4.toList s0_0.toList || s0_4.toList == s0_0.toList) then
      some [T.b false]
     else
      bif n0_1 == 1 then
       some [T.b true]
      else
       bif (l0_2.length : Int) == 0 then
        some [T.b (s0_4.toList == s0_0.toList)]
       else
        some [T.b false]
def f15 (c : Orc) (lf : Nat) (s0_0 : ByteArray) (n0_1 : Int) (l0_2 l0_3 : List T) (s0_4 : ByteArray) : Option (List T) := f15_t c lf s0_0 n0_1 l0_2 l0_3 s0_4
theorem f15_eq (c : Orc) (lf : Nat) (s0_0 : ByteArray) (n0_1 : Int) (l0_2 l0_3 : List T) (s0_4 : ByteArray) : funK c env lf 6 fi15 [.st [.s s0_0, .i .i64 n0_1, .sl l0_2, .sl l0_3, .s s0_4]] = f15 c lf s0_0 n0_1 l0_2 l0_3 s0_4 := by kernel_rfl
def f18_0_s (c : Orc) (lf : Nat) (l0 l1 : List T) (L : Int → Option (List T)) (x208 : Int) : Option (List T) :=
 bif iLt x208 (l0.length : Int) then
  bif inR x208 l0.length then
  bif inR x208 l1.length then
  bif (asI (l0.getD x208.toNat T.u)) != (asI (l1.getD x208.toNat T.u)) then
   some [T.i .i64 0, T.b false]
  else
   L (IntKind.wrap .i64 (x208 + 1))
  else none
  else none
 else
  some [T.i .i64 1]
def f18_0_c (l0 l1 : List T) (x208 : Int) : CSt := ⟨[.ro 0 false [.i .u8] l0, .ro 0 false [.i .u8] l1, .i .i64 (l0.length : Int), .i .i64 x208], [.dead, .dead]⟩
theorem f18_0_round (c : Orc) (lf : Nat) (l0 l1 : List T) (L : CSt → Option (List T)) (x208 : Int) :
 roundK c env lf 6 fi18 2 4 [] [0, 1, 12, 13] (x18_4_0) L (f18_0_c l0 l1 x208) = f18_0_s c lf l0 l1 (fun x208 => L (f18_0_c l0 l1 x208)) x208 := by kernel_rfl
def f18_0 (c : Orc) (lf : Nat) (l0 l1 : List T) : Nat → Int → Option (List T)
 | 0 => fun _ => none
 | n + 1 => fun x208 => f18_0_s c lf l0 l1 (f18_0 c lf l0 l1 n) x208
theorem f18_0_u (c : Orc) (lf : Nat) (l0 l1 : List T) (n : Nat) (x208 : Int) : f18_0 c lf l0 l1 (n + 1) x208 = f18_0_s c lf l0 l1 (f18_0 c lf l0 l1 n) x208 := rfl
theorem f18_0_eq (c : Orc) (lf : Nat) (l0 l1 : List T) (n : Nat) (x208 : Int) :
 lpK c env lf 6 fi18 2 4 [] [0, 1, 12, 13] (x18_4_0) n (f18_0_c l0 l1 x208) = f18_0 c lf l0 l1 n x208 := by
 induction n generalizing x208 with
 | zero => rfl
 | succ n ih =>
  refine (f18_0_round c lf l0 l1 _ x208).trans ?_
  have e : (fun x208 => lpK c env lf 6 fi18 2 4 [] [0, 1, 12, 13] (x18_4_0) n (f18_0_c l0 l1 x208)) = f18_0 c lf l0 l1 n := by funext x208; exact ih x208
  show f18_0_s c lf l0 l1 (fun x208 => lpK c env lf 6 fi18 2 4 [] [0, 1, 12, 13] (x18_4_0) n (f18_0_c l0 l1 x208)) x208 = _
  rw [e]; rfl
def f18_t (c : Orc) (lf : Nat) (lp0 : List T → List T → Int → Option (List T)) (l0 l1 : List T) : Option (List T) :=
 bif (l0.length : Int) != (l1.length : Int) then
  some [T.b false]
 else
  (lp0 l0 l1 0).bind fun r209 =>
  bif asI (nth r209 0) == 0 then
   some [T.b (asB (nth r209 1))]
  else
   some [T.b true]
def f18 (c : Orc) (lf : Nat) (l0 l1 : List T) : Option (List T) := f18_t c lf (fun (l0 l1 : List T) (x208 : Int) => f18_0 c lf l0 l1 lf x208) l0 l1
theorem f18_raw (c : Orc) (lf : Nat) (l0 l1 : List T) : funK c env lf 6 fi18 [.sl l0, .sl l1] = f18_t c lf (fun (l0 l1 : List T) (x208 : Int) => lpK c env lf 6 fi18 2 4 [] [0, 1, 12, 13] (x18_4_0) lf (f18_0_c l0 l1 x208)) l0 l1 := by kernel_rfl
theorem f18_eq (c : Orc) (lf : Nat) (l0 l1 : List T) : funK c env lf 6 fi18 [.sl l0, .sl l1] = f18 c lf l0 l1 := by
 refine (f18_raw c lf l0 l1).trans ?_
 have e0 : (fun (l0 l1 : List T) (x208 : Int) => lpK c env lf 6 fi18 2 4 [] [0, 1, 12, 13] (x18_4_0) lf (f18_0_c l0 l1 x208)) = (fun (l0 l1 : List T) (x208 : Int) => f18_0 c lf l0 l1 lf x208) := by funext l0 l1 x208; exact f18_0_eq c lf l0 l1 lf x208
 rw [e0]; rfl
def f19_0_s (c : Orc) (lf : Nat) (l0 l1 : List T) (L : Int → Option (List T)) (x212 : Int) : Option (List T) :=
 bif iLt x212 (l0.length : Int) then
  bif inR x212 l0.length then
  bif inR x212 l1.length then
  bif !(((asS (T.cell (l0.getD x212.toNat T.u) 0)) == (asS (T.cell (l1.getD x212.toNat T.u) 0))) && (((asS (T.cell (l0.getD x212.toNat T.u) 1)) == (asS (T.cell (l1.getD x212.toNat T.u) 1))) && (true))) then
   some [T.i .i64 0, T.b false]
  else
   L (IntKind.wrap .i64 (x212 + 1))
  else none
  else none
 else
  some [T.i .i64 1]
def f19_0_c (l0 l1 : List T) (x212 : Int) : CSt := ⟨[.ro 0 true [.s, .s] l0, .ro 0 true [.s, .s] l1, .i .i64 (l0.length : Int), .i .i64 x212], [.dead, .dead]⟩
theorem f19_0_round (c : Orc) (lf : Nat) (l0 l1 : List T) (L : CSt → Option (List T)) (x212 : Int) :
 roundK c env lf 6 fi19 2 4 [] [0, 1, 12, 13] (x19_4_0) L (f19_0_c l0 l1 x212) = f19_0_s c lf l0 l1 (fun x212 => L (f19_0_c l0 l1 x212)) x212 := by kernel_rfl
def f19_0 (c : Orc) (lf : Nat) (l0 l1 : List T) : Nat → Int → Option (List T)
 | 0 => fun _ => none
 | n + 1 => fun x212 => f19_0_s c lf l0 l1 (f19_0 c lf l0 l1 n) x212
theorem f19_0_u (c : Orc) (lf : Nat) (l0 l1 : List T) (n : Nat) (x212 : Int) : f19_0 c lf l0 l1 (n + 1) x212 = f19_0_s c lf l0 l1 (f19_0 c lf l0 l1 n) x212 := rfl
theorem f19_0_eq (c : Orc) (lf : Nat) (l0 l1 : List T) (n : Nat) (x212 : Int) :
 lpK c env lf 6 fi19 2 4 [] [0, 1, 12, 13] (x19_4_0) n (f19_0_c l0 l1 x212) = f19_0 c lf l0 l1 n x212 := by
 induction n generalizing x212 with
 | zero => rfl
 | succ n ih =>
  refine (f19_0_round c lf l0 l1 _ x212).trans ?_
  have e : (fun x212 => lpK c env lf 6 fi19 2 4 [] [0, 1, 12, 13] (x19_4_0) n (f19_0_c l0 l1 x212)) = f19_0 c lf l0 l1 n := by funext x212; exact ih x212
  show f19_0_s c lf l0 l1 (fun x212 => lpK c env lf 6 fi19 2 4 [] [0, 1, 12, 13] (x19_4_0) n (f19_0_c l0 l1 x212)) x212 = _
  rw [e]; rfl
def f19_t (c : Orc) (lf : Nat) (lp0 : List T → List T → Int → Option (List T)) (l0 l1 : List T) : Option (List T) :=
 bif (l0.length : Int) != (l1.length : Int) then
  some [T.b false]
 else
  (lp0 l0 l1 0).bind fun r213 =>
  bif asI (nth r213 0) == 0 then
   some [T.b (asB (nth r213 1))]
  else
   some [T.b true]
def f19 (c : Orc) (lf : Nat) (l0 l1 : List T) : Option (List T) := f19_t c lf (fun (l0 l1 : List T) (x212 : Int) => f19_0 c lf l0 l1 lf x212) l0 l1
theorem f19_raw (c : Orc) (lf : Nat) (l0 l1 : List T) : funK c env lf 6 fi19 [.sl l0, .sl l1] = f19_t c lf (fun (l0 l1 : List T) (x212 : Int) => lpK c env lf 6 fi19 2 4 [] [0, 1, 12, 13] (x19_4_0) lf (f19_0_c l0 l1 x212)) l0 l1 := by kernel_rfl
theorem f19_eq (c : Orc) (lf : Nat) (l0 l1 : List T) : funK c env lf 6 fi19 [.sl l0, .sl l1] = f19 c lf l0 l1 := by
 refine (f19_raw c lf l0 l1).trans ?_
 have e0 : (fun (l0 l1 : List T) (x212 : Int) => lpK c env lf 6 fi19 2 4 [] [0, 1, 12, 13] (x19_4_0) lf (f19_0_c l0 l1 x212)) = (fun (l0 l1 : List T) (x212 : Int) => f19_0 c lf l0 l1 lf x212) := by funext l0 l1 x212; exact f19_0_eq c lf l0 l1 lf x212
 rw [e0]; rfl
def f20_0_s (c : Orc) (lf : Nat) (l0 : List T) (L : Int → Option (List T)) (x216 : Int) : Option (List T) :=
 bif iLt x216 (l0.length : Int) then
  bif inR (IntKind.wrap .i64 (x216 - 1)) l0.length then
  bif inR x216 l0.length then
  bif !(Op.bytesLess (asS (T.cell (l0.getD ((IntKind.wrap .i64 (x216 - 1)).toNat) T.u) 0)).toList (asS (T.cell (l0.getD x216.toNat T.u) 0)).toList) then
   some [T.i .i64 0, T.b false]
  else
   L (IntKind.wrap .i64 (x216 + 1))
  else none
  else none
 else
  some [T.i .i64 1, T.sl l0]
def f20_0_c (l0 : List T) (x216 : Int) : CSt := ⟨[.ro 0 true [.s, .i .i64, .sl false [.i .u8], .sl true [.s, .s], .s] l0, .i .i64 x216], [.dead]⟩
theorem f20_0_round (c : Orc) (lf : Nat) (l0 : List T) (L : CSt → Option (List T)) (x216 : Int) :
 roundK c env lf 6 fi20 1 2 [] [0, 3] (x20_2_0) L (f20_0_c l0 x216) = f20_0_s c lf l0 (fun x216 => L (f20_0_c l0 x216)) x216 := by kernel_rfl
def f20_0 (c : Orc) (lf : Nat) (l0 : List T) : Nat → Int → Option (List T)
 | 0 => fun _ => none
 | n + 1 => fun x216 => f20_0_s c lf l0 (f20_0 c lf l0 n) x216
theorem f20_0_u (c : Orc) (lf : Nat) (l0 : List T) (n : Nat) (x216 : Int) : f20_0 c lf l0 (n + 1) x216 = f20_0_s c lf l0 (f20_0 c lf l0 n) x216 := rfl
theorem f20_0_eq (c : Orc) (lf : Nat) (l0 : List T) (n : Nat) (x216 : Int) :
 lpK c env lf 6 fi20 1 2 [] [0, 3] (x20_2_0) n (f20_0_c l0 x216) = f20_0 c lf l0 n x216 := by
 induction n generalizing x216 with
 | zero => rfl
 | succ n ih =>
  refine (f20_0_round c lf l0 _ x216).trans ?_
  have e : (fun x216 => lpK c env lf 6 fi20 1 2 [] [0, 3] (x20_2_0) n (f20_0_c l0 x216)) = f20_0 c lf l0 n := by funext x216; exact ih x216
  show f20_0_s c lf l0 (fun x216 => lpK c env lf 6 fi20 1 2 [] [0, 3] (x20_2_0) n (f20_0_c l0 x216)) x216 = _
  rw [e]; rfl
def f20_t (c : Orc) (lf : Nat) (lp0 : List T → Int → Option (List T)) (l0 : List T) : Option (List T) :=
 (lp0 l0 1).bind fun r217 =>
 bif asI (nth r217 0) == 0 then
  some [T.b (asB (nth r217 1))]
 else
  some [T.b (iLe ((asL (nth r217 1)).length : Int) 200)]
def f20 (c : Orc) (lf : Nat) (l0 : List T) : Option (List T) := f20_t c lf (fun (l0 : List T) (x216 : Int) => f20_0 c lf l0 lf x216) l0
theorem f20_raw (c : Orc) (lf : Nat) (l0 : List T) : funK c env lf 6 fi20 [.sl l0] = f20_t c lf (fun (l0 : List T) (x216 : Int) => lpK c env lf 6 fi20 1 2 [] [0, 3] (x20_2_0) lf (f20_0_c l0 x216)) l0 := by kernel_rfl
theorem f20_eq (c : Orc) (lf : Nat) (l0 : List T) : funK c env lf 6 fi20 [.sl l0] = f20 c lf l0 := by
 refine (f20_raw c lf l0).trans ?_
 have e0 : (fun (l0 : List T) (x216 : Int) => lpK c env lf 6 fi20 1 2 [] [0, 3] (x20_2_0) lf (f20_0_c l0 x216)) = (fun (l0 : List T) (x216 : Int) => f20_0 c lf l0 lf x216) := by funext l0 x216; exact f20_0_eq c lf l0 lf x216
 rw [e0]; rfl
def f7_1_s (c : Orc) (lf : Nat) (l0 : List T) (x242 : Int) (L : Int → Option (List T)) (x246 : Int) : Option (List T) :=
 bif iLt x246 ((l0.take x242.toNat).length : Int) then
  bif inR x246 ((l0.take x242.toNat).length) then
  bif (asS (T.cell ((l0.take x242.toNat).getD x246.toNat T.u) 0)).toList == (asS (T.cell (l0.getD x242.toNat T.u) 4)).toList then
   bif (asS (T.cell ((l0.take x242.toNat).getD x246.toNat T.u) 4)).toList == (asS (T.cell ((l0.take x242.toNat).getD x246.toNat T.u) 0)).toList then
    bif (asI (T.cell ((l0.take x242.toNat).getD x246.toNat T.u) 1)) == 1 then
     (c 18 [T.sl (asL (T.cell ((l0.take x242.toNat).getD x246.toNat T.u) 2)), T.sl (asL (T.cell (l0.getD x242.toNat T.u) 2))]).bind fun r247 =>
     bif asB (nth r247 0) then
      (c 19 [T.sl (asL (T.cell ((l0.take x242.toNat).getD x246.toNat T.u) 3)), T.sl (asL (T.cell (l0.getD x242.toNat T.u) 3))]).bind fun r248 =>
      bif asB (nth r248 0) then
       some [T.i .i64 0, T.i .i64 x246, T.s (asS (T.cell (l0.getD x242.toNat T.u) 0)), T.i .i64 (asI (T.cell (l0.getD x242.toNat T.u) 1)), T.sl (asL (T.cell (l0.getD x242.toNat T.u) 2)), T.sl (asL (T.cell (l0.getD x242.toNat T.u) 3)), T.s (asS (T.cell (l0.getD x242.toNat T.u) 4))]
      else
       L (IntKind.wrap .i64 (x246 + 1))
     else
      L (IntKind.wrap .i64 (x246 + 1))
    else
     L (IntKind.wrap .i64 (x246 + 1))
   else
    L (IntKind.wrap .i64 (x246 + 1))
  else
   L (IntKind.wrap .i64 (x246 + 1))
  else none
 else
  some [T.i .i64 1, T.s (asS (T.cell (l0.getD x242.toNat T.u) 0)), T.i .i64 (asI (T.cell (l0.getD x242.toNat T.u) 1)), T.sl (asL (T.cell (l0.getD x242.toNat T.u) 2)), T.sl (asL (T.cell (l0.getD x242.toNat T.u) 3)), T.s (asS (T.cell (l0.getD x242.toNat T.u) 4))]
def f7_1_c (l0 : List T) (x242 x246 : Int) : CSt := ⟨[.ro 0 true [.s, .i .i64, .sl false [.i .u8], .sl true [.s, .s], .s] (l0.take x242.toNat), .fn 17 [.bp 0 0], .i .i64 ((l0.take x242.toNat).length : Int), .i .i64 x246], [.box [.s (asS (T.cell (l0.getD x242.toNat T.u) 0)), .i .i64 (asI (T.cell (l0.getD x242.toNat T.u) 1)), .ro 0 false [.i .u8] (asL (T.cell (l0.getD x242.toNat T.u) 2)), .ro 0 true [.s, .s] (asL (T.cell (l0.getD x242.toNat T.u) 3)), .s (asS (T.cell (l0.getD x242.toNat T.u) 4))]]⟩
theorem f7_1_round (c : Orc) (lf : Nat) (l0 : List T) (x242 : Int) (L : CSt → Option (List T)) (x246 : Int) :
 roundK c env lf 4 fi32 1 2 [] [0, 1, 7, 8] (x32_2_0) L (f7_1_c l0 x242 x246) = f7_1_s c lf l0 x242 (fun x246 => L (f7_1_c l0 x242 x246)) x246 := by kernel_rfl
def f7_1 (c : Orc) (lf : Nat) (l0 : List T) (x242 : Int) : Nat → Int → Option (List T)
 | 0 => fun _ => none
 | n + 1 => fun x246 => f7_1_s c lf l0 x242 (f7_1 c lf l0 x242 n) x246
theorem f7_1_u (c : Orc) (lf : Nat) (l0 : List T) (x242 : Int) (n : Nat) (x246 : Int) : f7_1 c lf l0 x242 (n + 1) x246 = f7_1_s c lf l0 x242 (f7_1 c lf l0 x242 n) x246 := rfl
theorem f7_1_eq (c : Orc) (lf : Nat) (l0 : List T) (x242 : Int) (n : Nat) (x246 : Int) :
 lpK c env lf 4 fi32 1 2 [] [0, 1, 7, 8] (x32_2_0) n (f7_1_c l0 x242 x246) = f7_1 c lf l0 x242 n x246 := by
 induction n generalizing x246 with
 | zero => rfl
 | succ n ih =>
  refine (f7_1_round c lf l0 x242 _ x246).trans ?_
  have e : (fun x246 => lpK c env lf 4 fi32 1 2 [] [0, 1, 7, 8] (x32_2_0) n (f7_1_c l0 x242 x246)) = f7_1 c lf l0 x242 n := by funext x246; exact ih x246
  show f7_1_s c lf l0 x242 (fun x246 => lpK c env lf 4 fi32 1 2 [] [0, 1, 7, 8] (x32_2_0) n (f7_1_c l0 x242 x246)) x246 = _
  rw [e]; rfl
def f7_0_s (c : Orc) (lf : Nat) (l0 : List T) (L : Int → Option (List T)) (lp0 : List T → Int → Int → Option (List T)) (x242 : Int) : Option (List T) :=
 bif iLt x242 (l0.length : Int) then
  bif inR x242 l0.length then
  (c 15 [T.st [T.s (asS (T.cell (l0.getD x242.toNat T.u) 0)), T.i .i64 (asI (T.cell (l0.getD x242.toNat T.u) 1)), T.sl (asL (T.cell (l0.getD x242.toNat T.u) 2)), T.sl (asL (T.cell (l0.getD x242.toNat T.u) 3)), T.s (asS (T.cell (l0.getD x242.toNat T.u) 4))]]).bind fun r243 =>
  bif !(asB (nth r243 0)) then
   some [T.i .i64 0, T.b false]
  else
   bif (asS (T.cell (l0.getD x242.toNat T.u) 4)).toList == (asS (T.cell (l0.getD x242.toNat T.u) 0)).toList then
    L (IntKind.wrap .i64 (x242 + 1))
   else
    bif iLe 0 x242 && iLe x242 (l0.length : Int) then
    (lp0 l0 x242 0).bind fun r249 =>
    bif asI (nth r249 0) == 0 then
     bif !(iLe 0 (asI (nth r249 1))) then
      some [T.i .i64 0, T.b false]
     else
      L (IntKind.wrap .i64 (x242 + 1))
    else
     some [T.i .i64 0, T.b false]
    else none
  else none
 else
  some [T.i .i64 1, T.sl l0]
def f7_0_c (l0 : List T) (x242 : Int) : CSt := ⟨[.ro 0 true [.s, .i .i64, .sl false [.i .u8], .sl true [.s, .s], .s] l0, .ro 0 true [.s, .i .i64, .sl false [.i .u8], .sl true [.s, .s], .s] l0, .i .i64 (l0.length : Int), .i .i64 x242], [.dead]⟩
theorem f7_0_round (c : Orc) (lf : Nat) (l0 : List T) (L : CSt → Option (List T)) (x242 : Int) :
 roundK c env lf 6 fi7 1 2 [] [0, 5, 6, 7] (x7_2_0) L (f7_0_c l0 x242) = f7_0_s c lf l0 (fun x242 => L (f7_0_c l0 x242)) (fun (l0 : List T) (x242 x246 : Int) => lpK c env lf 4 fi32 1 2 [] [0, 1, 7, 8] (x32_2_0) lf (f7_1_c l0 x242 x246)) x242 := by kernel_rfl
def f7_0 (c : Orc) (lf : Nat) (l0 : List T) : Nat → Int → Option (List T)
 | 0 => fun _ => none
 | n + 1 => fun x242 => f7_0_s c lf l0 (f7_0 c lf l0 n) (fun (l0 : List T) (x242 x246 : Int) => f7_1 c lf l0 x242 lf x246) x242
theorem f7_0_u (c : Orc) (lf : Nat) (l0 : List T) (n : Nat) (x242 : Int) : f7_0 c lf l0 (n + 1) x242 = f7_0_s c lf l0 (f7_0 c lf l0 n) (fun (l0 : List T) (x242 x246 : Int) => f7_1 c lf l0 x242 lf x246) x242 := rfl
theorem f7_0_eq (c : Orc) (lf : Nat) (l0 : List T) (n : Nat) (x242 : Int) :
 lpK c env lf 6 fi7 1 2 [] [0, 5, 6, 7] (x7_2_0) n (f7_0_c l0 x242) = f7_0 c lf l0 n x242 := by
 induction n generalizing x242 with
 | zero => rfl
 | succ n ih =>
  refine (f7_0_round c lf l0 _ x242).trans ?_
  have e : (fun x242 => lpK c env lf 6 fi7 1 2 [] [0, 5, 6, 7] (x7_2_0) n (f7_0_c l0 x242)) = f7_0 c lf l0 n := by funext x242; exact ih x242
  have e0 : (fun (l0 : List T) (x242 x246 : Int) => lpK c env lf 4 fi32 1 2 [] [0, 1, 7, 8] (x32_2_0) lf (f7_1_c l0 x242 x246)) = (fun (l0 : List T) (x242 x246 : Int) => f7_1 c lf l0 x242 lf x246) := by funext l0 x242 x246; exact f7_1_eq c lf l0 x242 lf x246
  show f7_0_s c lf l0 (fun x242 => lpK c env lf 6 fi7 1 2 [] [0, 5, 6, 7] (x7_2_0) n (f7_0_c l0 x242)) (fun (l0 : List T) (x242 x246 : Int) => lpK c env lf 4 fi32 1 2 [] [0, 1, 7, 8] (x32_2_0) lf (f7_1_c l0 x242 x246)) x242 = _
  rw [e, e0]; rfl
def f7_t (c : Orc) (lf : Nat) (lp0 : List T → Int → Option (List T)) (l0 : List T) : Option (List T) :=
 (lp0 l0 0).bind fun r250 =>
 bif asI (nth r250 0) == 0 then
  some [T.b (asB (nth r250 1))]
 else
  (c 20 [T.sl (asL (nth r250 1))]).bind fun r251 =>
  some [T.b (asB (nth r251 0))]
def f7 (c : Orc) (lf : Nat) (l0 : List T) : Option (List T) := f7_t c lf (fun (l0 : List T) (x242 : Int) => f7_0 c lf l0 lf x242) l0
theorem f7_raw (c : Orc) (lf : Nat) (l0 : List T) : funK c env lf 6 fi7 [.sl l0] = f7_t c lf (fun (l0 : List T) (x242 : Int) => lpK c env lf 6 fi7 1 2 [] [0, 5, 6, 7] (x7_2_0) lf (f7_0_c l0 x242)) l0 := by kernel_rfl
theorem f7_eq (c : Orc) (lf : Nat) (l0 : List T) : funK c env lf 6 fi7 [.sl l0] = f7 c lf l0 := by
 refine (f7_raw c lf l0).trans ?_
 have e0 : (fun (l0 : List T) (x242 : Int) => lpK c env lf 6 fi7 1 2 [] [0, 5, 6, 7] (x7_2_0) lf (f7_0_c l0 x242)) = (fun (l0 : List T) (x242 : Int) => f7_0 c lf l0 lf x242) := by funext l0 x242; exact f7_0_eq c lf l0 lf x242
 rw [e0]; rfl
def f33_0_s (c : Orc) (lf : Nat) (l0 l1 : List T) (L : Int → Option (List T)) (x254 : Int) : Option (List T) :=
 bif iLt x254 (l0.length : Int) then
  bif inR x254 l0.length then
  bif inR x254 l1.length then
  bif (asI (l0.getD x254.toNat T.u)) != (asI (l1.getD x254.toNat T.u)) then
   some [T.i .i64 0, T.b false]
  else
   L (IntKind.wrap .i64 (x254 + 1))
  else none
  else none
 else
  some [T.i .i64 1]
def f33_0_c (l0 l1 : List T) (x254 : Int) : CSt := ⟨[.ro 0 false [.i .u8] l0, .ro 0 false [.i .u8] l1, .i .i64 x254], [.dead, .dead]⟩
theorem f33_0_round (c : Orc) (lf : Nat) (l0 l1 : List T) (L : CSt → Option (List T)) (x254 : Int) :
 roundK c env lf 6 fi33 2 4 [] [0, 1, 5] (x33_4_0) L (f33_0_c l0 l1 x254) = f33_0_s c lf l0 l1 (fun x254 => L (f33_0_c l0 l1 x254)) x254 := by kernel_rfl
def f33_0 (c : Orc) (lf : Nat) (l0 l1 : List T) : Nat → Int → Option (List T)
 | 0 => fun _ => none
 | n + 1 => fun x254 => f33_0_s c lf l0 l1 (f33_0 c lf l0 l1 n) x254
theorem f33_0_eq (c : Orc) (lf : Nat) (l0 l1 : List T) (n : Nat) (x254 : Int) :
 lpK c env lf 6 fi33 2 4 [] [0, 1, 5] (x33_4_0) n (f33_0_c l0 l1 x254) = f33_0 c lf l0 l1 n x254 := by
 induction n generalizing x254 with
 | zero => rfl
 | succ n ih =>
  refine (f33_0_round c lf l0 l1 _ x254).trans ?_
  have e : (fun x254 => lpK c env lf 6 fi33 2 4 [] [0, 1, 5] (x33_4_0) n (f33_0_c l0 l1 x254)) = f33_0 c lf l0 l1 n := by funext x254; exact ih x254
  show f33_0_s c lf l0 l1 (fun x254 => lpK c env lf 6 fi33 2 4 [] [0, 1, 5] (x33_4_0) n (f33_0_c l0 l1 x254)) x254 = _
  rw [e]; rfl
def f33_t (c : Orc) (lf : Nat) (lp0 : List T → List T → Int → Option (List T)) (l0 l1 : List T) : Option (List T) :=
 bif (l0.length : Int) != (l1.length : Int) then
  some [T.b false]
 else
  (lp0 l0 l1 0).bind fun r255 =>
  bif asI (nth r255 0) == 0 then
   some [T.b (asB (nth r255 1))]
  else
   some [T.b true]
def f33 (c : Orc) (lf : Nat) (l0 l1 : List T) : Option (List T) := f33_t c lf (fun (l0 l1 : List T) (x254 : Int) => f33_0 c lf l0 l1 lf x254) l0 l1
theorem f33_raw (c : Orc) (lf : Nat) (l0 l1 : List T) : funK c env lf 6 fi33 [.sl l0, .sl l1] = f33_t c lf (fun (l0 l1 : List T) (x254 : Int) => lpK c env lf 6 fi33 2 4 [] [0, 1, 5] (x33_4_0) lf (f33_0_c l0 l1 x254)) l0 l1 := by kernel_rfl
theorem f33_eq (c : Orc) (lf : Nat) (l0 l1 : List T) : funK c env lf 6 fi33 [.sl l0, .sl l1] = f33 c lf l0 l1 := by
 refine (f33_raw c lf l0 l1).trans ?_
 have e0 : (fun (l0 l1 : List T) (x254 : Int) => lpK c env lf 6 fi33 2 4 [] [0, 1, 5] (x33_4_0) lf (f33_0_c l0 l1 x254)) = (fun (l0 l1 : List T) (x254 : Int) => f33_0 c lf l0 l1 lf x254) := by funext l0 l1 x254; exact f33_0_eq c lf l0 l1 lf x254
 rw [e0]; rfl
def f42_t (c : Orc) (lf : Nat) (s0_0 s0_1 : ByteArray) (s1_0 s1_1 : ByteArray) : Option (List T) :=
 bif !(s0_0.toList == s1_0.toList) then
  some [T.b false]
 else
  bif !(s0_1.toList == s1_1.toList) then
   some [T.b false]
  else
   some [T.b true]
def f42 (c : Orc) (lf : Nat) (s0_0 s0_1 : ByteArray) (s1_0 s1_1 : ByteArray) : Option (List T) := f42_t c lf s0_0 s0_1 s1_0 s1_1
theorem f42_eq (c : Orc) (lf : Nat) (s0_0 s0_1 : ByteArray) (s1_0 s1_1 : ByteArray) : funK c env lf 6 fi42 [.st [.s s0_0, .s s0_1], .st [.s s1_0, .s s1_1]] = f42 c lf s0_0 s0_1 s1_0 s1_1 := by kernel_rfl
def f34_0_s (c : Orc) (lf : Nat) (l0 l1 : List T) (L : Int → Option (List T)) (x261 : Int) : Option (List T) :=
 bif iLt x261 (l0.length : Int) then
  bif inR x261 l0.length then
  bif inR x261 l1.length then
  (c 42 [T.st [T.s (asS (T.cell (l0.getD x261.toNat T.u) 0)), T.s (asS (T.cell (l0.getD x261.toNat T.u) 1))], T.st [T.s (asS (T.cell (l1.getD x261.toNat T.u) 0)), T.s (asS (T.cell (l1.getD x261.toNat T.u) 1))]]).bind fun r262 =>
  bif !(asB (nth r262 0)) then
   some [T.i .i64 0, T.b false]
  else
   L (IntKind.wrap .i64 (x261 + 1))
  else none
  else none
 else
  some [T.i .i64 1]
def f34_0_c (l0 l1 : List T) (x261 : Int) : CSt := ⟨[.ro 0 true [.s, .s] l0, .ro 0 true [.s, .s] l1, .i .i64 x261], [.dead, .dead]⟩
theorem f34_0_round (c : Orc) (lf : Nat) (l0 l1 : List T) (L : CSt → Option (List T)) (x261 : Int) :
 roundK c env lf 6 fi34 2 4 [] [0, 1, 5] (x34_4_0) L (f34_0_c l0 l1 x261) = f34_0_s c lf l0 l1 (fun x261 => L (f34_0_c l0 l1 x261)) x261 := by kernel_rfl
def f34_0 (c : Orc) (lf : Nat) (l0 l1 : List T) : Nat → Int → Option (List T)
 | 0 => fun _ => none
 | n + 1 => fun x261 => f34_0_s c lf l0 l1 (f34_0 c lf l0 l1 n) x261
theorem f34_0_eq (c : Orc) (lf : Nat) (l0 l1 : List T) (n : Nat) (x261 : Int) :
 lpK c env lf 6 fi34 2 4 [] [0, 1, 5] (x34_4_0) n (f34_0_c l0 l1 x261) = f34_0 c lf l0 l1 n x261 := by
 induction n generalizing x261 with
 | zero => rfl
 | succ n ih =>
  refine (f34_0_round c lf l0 l1 _ x261).trans ?_
  have e : (fun x261 => lpK c env lf 6 fi34 2 4 [] [0, 1, 5] (x34_4_0) n (f34_0_c l0 l1 x261)) = f34_0 c lf l0 l1 n := by funext x261; exact ih x261
  show f34_0_s c lf l0 l1 (fun x261 => lpK c env lf 6 fi34 2 4 [] [0, 1, 5] (x34_4_0) n (f34_0_c l0 l1 x261)) x261 = _
  rw [e]; rfl
def f34_t (c : Orc) (lf : Nat) (lp0 : List T → List T → Int → Option (List T)) (l0 l1 : List T) : Option (List T) :=
 bif (l0.length : Int) != (l1.length : Int) then
  some [T.b false]
 else
  (lp0 l0 l1 0).bind fun r263 =>
  bif asI (nth r263 0) == 0 then
   some [T.b (asB (nth r263 1))]
  else
   some [T.b true]
def f34 (c : Orc) (lf : Nat) (l0 l1 : List T) : Option (List T) := f34_t c lf (fun (l0 l1 : List T) (x261 : Int) => f34_0 c lf l0 l1 lf x261) l0 l1
theorem f34_raw (c : Orc) (lf : Nat) (l0 l1 : List T) : funK c env lf 6 fi34 [.sl l0, .sl l1] = f34_t c lf (fun (l0 l1 : List T) (x261 : Int) => lpK c env lf 6 fi34 2 4 [] [0, 1, 5] (x34_4_0) lf (f34_0_c l0 l1 x261)) l0 l1 := by kernel_rfl
theorem f34_eq (c : Orc) (lf : Nat) (l0 l1 : List T) : funK c env lf 6 fi34 [.sl l0, .sl l1] = f34 c lf l0 l1 := by
 refine (f34_raw c lf l0 l1).trans ?_
 have e0 : (fun (l0 l1 : List T) (x261 : Int) => lpK c env lf 6 fi34 2 4 [] [0, 1, 5] (x34_4_0) lf (f34_0_c l0 l1 x261)) = (fun (l0 l1 : List T) (x261 : Int) => f34_0 c lf l0 l1 lf x261) := by funext l0 l1 x261; exact f34_0_eq c lf l0 l1 lf x261
 rw [e0]; rfl
def f21_t (c : Orc) (lf : Nat) (s0_0 : ByteArray) (n0_1 : Int) (l0_2 l0_3 : List T) (s0_4 s1_0 : ByteArray) (n1_1 : Int) (l1_2 l1_3 : List T) (s1_4 : ByteArray) : Option (List T) :=
 bif !(s0_0.toList == s1_0.toList) then
  some [T.b false]
 else
  bif n0_1 != n1_1 then
   some [T.b false]
  else
   (c 33 [T.sl l0_2, T.sl l1_2]).bind fun r264 =>
   bif !(asB (nth r264 0)) then
    some [T.b false]
   else
    (c 34 [T.sl l0_3, T.sl l1_3]).bind fun r265 =>
    bif !(asB (nth r265 0)) then
     some [T.b false]
    else
     bif !(s0_4.toList == s1_4.toList) then
      some [T.b false]
     else
      some [T.b true]
def f21 (c : Orc) (lf : Nat) (s0_0 : ByteArray) (n0_1 : Int) (l0_2 l0_3 : List T) (s0_4 s1_0 : ByteArray) (n1_1 : Int) (l1_2 l1_3 : List T) (s1_4 : ByteArray) : Option (List T) := f21_t c lf s0_0 n0_1 l0_2 l0_3 s0_4 s1_0 n1_1 l1_2 l1_3 s1_4
theorem f21_eq (c : Orc) (lf : Nat) (s0_0 : ByteArray) (n0_1 : Int) (l0_2 l0_3 : List T) (s0_4 s1_0 : ByteArray) (n1_1 : Int) (l1_2 l1_3 : List T) (s1_4 : ByteArray) : funK c env lf 6 fi21 [.st [.s s0_0, .i .i64 n0_1, .sl l0_2, .sl l0_3, .s s0_4], .st [.s s1_0, .i .i64 n1_1, .sl l1_2, .sl l1_3, .s s1_4]] = f21 c lf s0_0 n0_1 l0_2 l0_3 s0_4 s1_0 n1_1 l1_2 l1_3 s1_4 := by kernel_rfl
def f8_0_s (c : Orc) (lf : Nat) (l0 l1 : List T) (L : Int → Option (List T)) (x271 : Int) : Option (List T) :=
 bif iLt x271 (l0.length : Int) then
  bif inR x271 l0.length then
  bif inR x271 l1.length then
  (c 21 [T.st [T.s (asS (T.cell (l0.getD x271.toNat T.u) 0)), T.i .i64 (asI (T.cell (l0.getD x271.toNat T.u) 1)), T.sl (asL (T.cell (l0.getD x271.toNat T.u) 2)), T.sl (asL (T.cell (l0.getD x271.toNat T.u) 3)), T.s (asS (T.cell (l0.getD x271.toNat T.u) 4))], T.st [T.s (asS (T.cell (l1.getD x271.toNat T.u) 0)), T.i .i64 (asI (T.cell (l1.getD x271.toNat T.u) 1)), T.sl (asL (T.cell (l1.getD x271.toNat T.u) 2)), T.sl (asL (T.cell (l1.getD x271.toNat T.u) 3)), T.s (asS (T.cell (l1.getD x271.toNat T.u) 4))]]).bind fun r272 =>
  bif !(asB (nth r272 0)) then
   some [T.i .i64 0, T.b false]
  else
   L (IntKind.wrap .i64 (x271 + 1))
  else none
  else none
 else
  some [T.i .i64 1]
def f8_0_c (l0 l1 : List T) (x271 : Int) : CSt := ⟨[.ro 0 true [.s, .i .i64, .sl false [.i .u8], .sl true [.s, .s], .s] l0, .ro 0 true [.s, .i .i64, .sl false [.i .u8], .sl true [.s, .s], .s] l1, .i .i64 x271], [.dead, .dead]⟩
theorem f8_0_round (c : Orc) (lf : Nat) (l0 l1 : List T) (L : CSt → Option (List T)) (x271 : Int) :
 roundK c env lf 6 fi8 2 4 [] [0, 1, 5] (x8_4_0) L (f8_0_c l0 l1 x271) = f8_0_s c lf l0 l1 (fun x271 => L (f8_0_c l0 l1 x271)) x271 := by kernel_rfl
def f8_0 (c : Orc) (lf : Nat) (l0 l1 : List T) : Nat → Int → Option (List T)
 | 0 => fun _ => none
 | n + 1 => fun x271 => f8_0_s c lf l0 l1 (f8_0 c lf l0 l1 n) x271
theorem f8_0_eq (c : Orc) (lf : Nat) (l0 l1 : List T) (n : Nat) (x271 : Int) :
 lpK c env lf 6 fi8 2 4 [] [0, 1, 5] (x8_4_0) n (f8_0_c l0 l1 x271) = f8_0 c lf l0 l1 n x271 := by
 induction n generalizing x271 with
 | zero => rfl
 | succ n ih =>
  refine (f8_0_round c lf l0 l1 _ x271).trans ?_
  have e : (fun x271 => lpK c env lf 6 fi8 2 4 [] [0, 1, 5] (x8_4_0) n (f8_0_c l0 l1 x271)) = f8_0 c lf l0 l1 n := by funext x271; exact ih x271
  show f8_0_s c lf l0 l1 (fun x271 => lpK c env lf 6 fi8 2 4 [] [0, 1, 5] (x8_4_0) n (f8_0_c l0 l1 x271)) x271 = _
  rw [e]; rfl
def f8_t (c : Orc) (lf : Nat) (lp0 : List T → List T → Int → Option (List T)) (l0 l1 : List T) : Option (List T) :=
 bif (l0.length : Int) != (l1.length : Int) then
  some [T.b false]
 else
  (lp0 l0 l1 0).bind fun r273 =>
  bif asI (nth r273 0) == 0 then
   some [T.b (asB (nth r273 1))]
  else
   some [T.b true]
def f8 (c : Orc) (lf : Nat) (l0 l1 : List T) : Option (List T) := f8_t c lf (fun (l0 l1 : List T) (x271 : Int) => f8_0 c lf l0 l1 lf x271) l0 l1
theorem f8_raw (c : Orc) (lf : Nat) (l0 l1 : List T) : funK c env lf 6 fi8 [.sl l0, .sl l1] = f8_t c lf (fun (l0 l1 : List T) (x271 : Int) => lpK c env lf 6 fi8 2 4 [] [0, 1, 5] (x8_4_0) lf (f8_0_c l0 l1 x271)) l0 l1 := by kernel_rfl
theorem f8_eq (c : Orc) (lf : Nat) (l0 l1 : List T) : funK c env lf 6 fi8 [.sl l0, .sl l1] = f8 c lf l0 l1 := by
 refine (f8_raw c lf l0 l1).trans ?_
 have e0 : (fun (l0 l1 : List T) (x271 : Int) => lpK c env lf 6 fi8 2 4 [] [0, 1, 5] (x8_4_0) lf (f8_0_c l0 l1 x271)) = (fun (l0 l1 : List T) (x271 : Int) => f8_0 c lf l0 l1 lf x271) := by funext l0 l1 x271; exact f8_0_eq c lf l0 l1 lf x271
 rw [e0]; rfl
def f3_t (c : Orc) (lf : Nat) (l0 : List T) : Option (List T) :=
 (c 4 [T.sl l0, T.i .i64 1048576]).bind fun r274 =>
 bif iLt (asI (nth r274 0)) 0 then
  some [T.b true]
 else
  (c 6 [T.sl l0]).bind fun r275 =>
  (c 5 [T.sl (asL (nth r275 0))]).bind fun r276 =>
  (c 6 [T.sl l0]).bind fun r277 =>
  (c 7 [T.sl (asL (nth r277 0))]).bind fun r278 =>
  bif !((asB (nth r278 0)) == (asB (nth r276 0))) then
   some [T.b false]
  else
   (c 6 [T.sl l0]).bind fun r279 =>
   (c 8 [T.sl (asL (nth r277 0)), T.sl (asL (nth r279 0))]).bind fun r280 =>
   bif !(asB (nth r280 0)) then
    some [T.b false]
   else
    some [T.b true]
def f3 (c : Orc) (lf : Nat) (l0 : List T) : Option (List T) := f3_t c lf l0
theorem f3_eq (c : Orc) (lf : Nat) (l0 : List T) : funK c env lf 6 fi3 [.sl l0] = f3 c lf l0 := by kernel_rfl
end Go.Proofs.YtdclnhlpifahpaaDoor.T
