/- What functions of the law FnExactTableOk come to, in trees; no condition. -/
import Derived.Test.YtejeinhdlcgkgaaRows
import Derived.Test.YtejeinhdlcgkgaaV4
import Derived.KernelRfl
set_option linter.unusedVariables false
set_option linter.constructorNameAsVariable false
set_option linter.unusedSimpArgs false
set_option linter.unnecessarySimpa false
namespace Go.Proofs.Ytejeinhdlcgkgaa.T
open Go Go.Proofs.YtejeinhdlcgkgaaV
def tyTab : List (Nat × Ti) := [
  (3, ⟨false, [.i .i64], .o⟩),
  (4, ⟨false, [.b], .o⟩),
  (5, ⟨false, [.i .u8], .o⟩),
  (9, ⟨false, [.s], .o⟩),
  (35, ⟨false, [.sl true [.i .i64, .s, .b, .i .i64, .i .i64]], .sl 101⟩),
  (37, ⟨true, [.i .i64, .sl true [.i .i64, .s, .b, .i .i64, .i .i64]], .st [(0, 3), (1, 35)]⟩),
  (40, ⟨false, [.sl true [.i .i64, .s, .b, .i .i64, .i .i64]], .sl 73⟩),
  (42, ⟨true, [.i .i64, .sl true [.i .i64, .s, .b, .i .i64, .i .i64]], .st [(0, 3), (1, 40)]⟩),
  (73, ⟨true, [.i .i64, .s, .b, .i .i64, .i .i64], .st [(0, 3), (1, 9), (2, 4), (3, 3), (4, 3)]⟩),
  (78, ⟨false, [.o], .o⟩),
  (101, ⟨true, [.i .i64, .s, .b, .i .i64, .i .i64], .st [(0, 3), (1, 9), (2, 4), (3, 3), (4, 3)]⟩)]
noncomputable def fi65 : Fi := ⟨Try.f65, [], false, [.ag [.v (.i .i64), .v (.s), .v (.b), .v (.i .i64), .v (.i .i64)], .v (.i .i64)], [.v (.i .i64)]⟩
def x44_5_0 : List (Ex × List Nat × CSt) := [(.ret, [4], ⟨[.i .i64 0], [.dead, .dead]⟩), ((.ex 0), [1], ⟨[.i .i64 0], [.dead, .dead]⟩)]
noncomputable def fi44 : Fi := ⟨Try.f44, [⟨5, [0, 1, 5], [], [(⟨[.ro 0 true [.i .i64, .s, .b, .i .i64, .i .i64] [], .i .i64 0, .i .i64 0], [.dead, .dead]⟩, x44_5_0)]⟩], false, [.ro (.sl true [.i .i64, .s, .b, .i .i64, .i .i64]), .v (.i .i64)], [.v (.i .i64)]⟩
noncomputable def fi17 : Fi := ⟨Try.f17, [], false, [.ag [.v (.i .i64), .ro (.sl true [.i .i64, .s, .b, .i .i64, .i .i64])], .v (.i .i64)], [.v (.i .i64)]⟩
noncomputable def fi66 : Fi := ⟨Try.f66, [], false, [.ag [.v (.i .i64), .v (.s), .v (.b), .v (.i .i64), .v (.i .i64)]], [.ag [.v (.i .i64), .v (.s), .v (.b), .v (.i .i64), .v (.i .i64)]]⟩
def x46_3_0 : List (Ex × List Nat × CSt) := [((.ex 0), [3], ⟨[.rf 1 [] 0 none], [.dead, .row true [.i .i64, .s, .b, .i .i64, .i .i64] [] 0 false]⟩)]
noncomputable def fi46 : Fi := ⟨Try.f46, [⟨3, [0, 3, 4], [], [(⟨[.ro 0 true [.i .i64, .s, .b, .i .i64, .i .i64] [], .rf 1 [] 0 none, .i .i64 0], [.dead, .row true [.i .i64, .s, .b, .i .i64, .i .i64] [] 0 false]⟩, x46_3_0)]⟩], false, [.ro (.sl true [.i .i64, .s, .b, .i .i64, .i .i64])], [.ow (.sl true [.i .i64, .s, .b, .i .i64, .i .i64])]⟩
noncomputable def fi19 : Fi := ⟨Try.f19, [], false, [.ag [.v (.i .i64), .ro (.sl true [.i .i64, .s, .b, .i .i64, .i .i64])]], [.ag [.v (.i .i64), .ow (.sl true [.i .i64, .s, .b, .i .i64, .i .i64])]]⟩
noncomputable def fi42 : Fi := ⟨Try.f42, [], false, [.v (.i .i64), .v (.i .i64), .v (.i .i64)], [.v (.b)]⟩
def x45_2_0 : List (Ex × List Nat × CSt) := [(.ret, [2], ⟨[.b false], [.dead]⟩), ((.ex 0), [0], ⟨[.s (⟨#[]⟩ : ByteArray)], [.dead]⟩)]
noncomputable def fi45 : Fi := ⟨Try.f45, [⟨2, [0, 3], [], [(⟨[.s (⟨#[]⟩ : ByteArray), .i .i64 0], [.dead]⟩, x45_2_0)]⟩], false, [.v (.s)], [.v (.b)]⟩
def x18_2_0 : List (Ex × List Nat × CSt) := [(.ret, [2], ⟨[.b false], [.dead, .dead]⟩), ((.ex 0), [1], ⟨[.bp 2 0], [.dead, .dead, .box [.i .i64 0, .ro 0 true [.i .i64, .s, .b, .i .i64, .i .i64] []]]⟩)]
def x18_8_0 : List (Ex × List Nat × CSt) := [((.ex 2), [1, 3], ⟨[.bp 2 0, .i .i64 0], [.dead, .dead, .box [.i .i64 0, .ro 0 true [.i .i64, .s, .b, .i .i64, .i .i64] []]]⟩), (.ret, [2], ⟨[.b false], [.dead, .dead]⟩)]
noncomputable def fi18 : Fi := ⟨Try.f18, [⟨2, [1, 3], [], [(⟨[.bp 2 0, .i .i64 0], [.dead, .dead, .box [.i .i64 0, .ro 0 true [.i .i64, .s, .b, .i .i64, .i .i64] []]]⟩, x18_2_0)]⟩, ⟨8, [1, 3, 4, 5], [], [(⟨[.bp 2 0, .i .i64 0, .bp 3 0, .i .i64 0], [.dead, .dead, .box [.i .i64 0, .ro 0 true [.i .i64, .s, .b, .i .i64, .i .i64] []], .box [.i .i64 0, .s (⟨#[]⟩ : ByteArray), .b false, .i .i64 0, .i .i64 0]]⟩, x18_8_0)]⟩], false, [.ag [.v (.i .i64), .ro (.sl true [.i .i64, .s, .b, .i .i64, .i .i64])]], [.v (.b)]⟩
def x47_2_0 : List (Ex × List Nat × CSt) := [(.ret, [2], ⟨[.b false], [.dead]⟩), ((.ex 0), [0], ⟨[.s (⟨#[]⟩ : ByteArray)], [.dead]⟩)]
noncomputable def fi47 : Fi := ⟨Try.f47, [⟨2, [0, 6, 7], [], [(⟨[.s (⟨#[]⟩ : ByteArray), .i .i64 0, .i .i64 0], [.dead]⟩, x47_2_0)]⟩], false, [.v (.s)], [.v (.b)]⟩
noncomputable def fi43 : Fi := ⟨Try.f43, [], false, [.v (.i .i64), .v (.i .i64), .v (.i .i64)], [.v (.b)]⟩
noncomputable def fi48 : Fi := ⟨Try.f48, [], false, [.v (.i .i64)], [.v (.b)]⟩
noncomputable def fi50 : Fi := ⟨Try.f50, [], true, [], []⟩
def x67_2_0 : List (Ex × List Nat × CSt) := [(.ret, [4], ⟨[.i .i64 0], [.box [.i .i64 0, .s (⟨#[]⟩ : ByteArray), .b false, .i .i64 0, .i .i64 0]]⟩), ((.ex 0), [], ⟨[], [.box [.i .i64 0, .s (⟨#[]⟩ : ByteArray), .b false, .i .i64 0, .i .i64 0]]⟩)]
noncomputable def fi67 : Fi := ⟨Try.f67, [⟨2, [0, 1, 7, 8], [], [(⟨[.ro 0 true [.i .i64, .s, .b, .i .i64, .i .i64] [], .fn 50 [.bp 0 0], .i .i64 0, .i .i64 0], [.box [.i .i64 0, .s (⟨#[]⟩ : ByteArray), .b false, .i .i64 0, .i .i64 0]]⟩, x67_2_0)]⟩], true, [], []⟩
noncomputable def fi49 : Fi := ⟨Try.f49, [], true, [], []⟩
def x20_2_0 : List (Ex × List Nat × CSt) := [(.ret, [2], ⟨[.b false], [.dead, .dead]⟩), ((.ex 0), [1], ⟨[.bp 2 0], [.dead, .dead, .box [.i .i64 0, .ro 0 true [.i .i64, .s, .b, .i .i64, .i .i64] []]]⟩)]
noncomputable def fi20 : Fi := ⟨Try.f20, [⟨2, [1, 6, 7, 8], [], [(⟨[.bp 2 0, .ro 0 true [.i .i64, .s, .b, .i .i64, .i .i64] [], .i .i64 0, .i .i64 0], [.dead, .dead, .box [.i .i64 0, .ro 0 true [.i .i64, .s, .b, .i .i64, .i .i64] []]]⟩, x20_2_0)]⟩], false, [.ag [.v (.i .i64), .ro (.sl true [.i .i64, .s, .b, .i .i64, .i .i64])]], [.v (.b)]⟩
noncomputable def fi68 : Fi := ⟨Try.f68, [], false, [.ag [.v (.i .i64), .v (.s), .v (.b), .v (.i .i64), .v (.i .i64)], .ag [.v (.i .i64), .v (.s), .v (.b), .v (.i .i64), .v (.i .i64)]], [.v (.b)]⟩
def x51_4_0 : List (Ex × List Nat × CSt) := [(.ret, [4], ⟨[.b false], [.dead, .dead]⟩), ((.ex 0), [], ⟨[], [.dead, .dead]⟩)]
noncomputable def fi51 : Fi := ⟨Try.f51, [⟨4, [0, 1, 5], [], [(⟨[.ro 0 true [.i .i64, .s, .b, .i .i64, .i .i64] [], .ro 0 true [.i .i64, .s, .b, .i .i64, .i .i64] [], .i .i64 0], [.dead, .dead]⟩, x51_4_0)]⟩], false, [.ro (.sl true [.i .i64, .s, .b, .i .i64, .i .i64]), .ro (.sl true [.i .i64, .s, .b, .i .i64, .i .i64])], [.v (.b)]⟩
noncomputable def fi21 : Fi := ⟨Try.f21, [], false, [.ag [.v (.i .i64), .ro (.sl true [.i .i64, .s, .b, .i .i64, .i .i64])], .ag [.v (.i .i64), .ro (.sl true [.i .i64, .s, .b, .i .i64, .i .i64])]], [.v (.b)]⟩
noncomputable def fi5 : Fi := ⟨Try.f5, [], false, [.ag [.v (.i .i64), .ro (.sl true [.i .i64, .s, .b, .i .i64, .i .i64])]], [.v (.b)]⟩
noncomputable def fiTab : List (Nat × Fi) := [(65, fi65), (44, fi44), (17, fi17), (66, fi66), (46, fi46), (19, fi19), (42, fi42), (45, fi45), (18, fi18), (47, fi47), (43, fi43), (48, fi48), (50, fi50), (67, fi67), (49, fi49), (20, fi20), (68, fi68), (51, fi51), (21, fi21), (5, fi5)]
noncomputable def env : Env := ⟨lookN fiTab, lookN tyTab⟩
-- FUNCTIONS
/-- loop.example/g00285/laws.szRow -/
def f65_t (c : Orc) (lf : Nat) (n0_0 : Int) (s0_1 : ByteArray) (b0_2 : Bool) (n0_3 : Int) (n0_4 : Int) (n1 : Int) : Option (List T) :=
  bif iLt (IntKind.wrap .i64 (n1 - (s0_1.size : Int))) 0 then
    some [T.i .i64 (-1)]
  else
    some [T.i .i64 (IntKind.wrap .i64 (n1 - (s0_1.size : Int)))]
def f65 (c : Orc) (lf : Nat) (n0_0 : Int) (s0_1 : ByteArray) (b0_2 : Bool) (n0_3 : Int) (n0_4 : Int) (n1 : Int) : Option (List T) := f65_t c lf n0_0 s0_1 b0_2 n0_3 n0_4 n1
theorem f65_raw (c : Orc) (lf : Nat) (n0_0 : Int) (s0_1 : ByteArray) (b0_2 : Bool) (n0_3 : Int) (n0_4 : Int) (n1 : Int) : funK c env lf 6 fi65 [.st [.i .i64 n0_0, .s s0_1, .b b0_2, .i .i64 n0_3, .i .i64 n0_4], .i .i64 n1] = f65_t c lf n0_0 s0_1 b0_2 n0_3 n0_4 n1 := by kernel_rfl
theorem f65_eq (c : Orc) (lf : Nat) (n0_0 : Int) (s0_1 : ByteArray) (b0_2 : Bool) (n0_3 : Int) (n0_4 : Int) (n1 : Int) : funK c env lf 6 fi65 [.st [.i .i64 n0_0, .s s0_1, .b b0_2, .i .i64 n0_3, .i .i64 n0_4], .i .i64 n1] = f65 c lf n0_0 s0_1 b0_2 n0_3 n0_4 n1 := by
  refine (f65_raw c lf n0_0 s0_1 b0_2 n0_3 n0_4 n1).trans ?_
  rfl
/-- loop.example/g00285/laws.szRowS, the loop at region 5. -/
def f44_0_s (c : Orc) (lf : Nat) (l0 : List T) (L : Int → Int → Option (List T)) (x7 : Int) (x8 : Int) : Option (List T) :=
  bif iLt x8 (l0.length : Int) then
    bif inR x8 l0.length then
    (c 65 [T.st [T.i .i64 (asI (T.cell (l0.getD x8.toNat T.u) 0)), T.s (asS (T.cell (l0.getD x8.toNat T.u) 1)), T.b (asB (T.cell (l0.getD x8.toNat T.u) 2)), T.i .i64 (asI (T.cell (l0.getD x8.toNat T.u) 3)), T.i .i64 (asI (T.cell (l0.getD x8.toNat T.u) 4))], T.i .i64 x7]).bind fun r9 =>
    bif iLt (asI (nth r9 0)) 0 then
      some [T.i .i64 0, T.i .i64 (-1)]
    else
      L (asI (nth r9 0)) (IntKind.wrap .i64 (x8 + 1))
    else none
  else
    some [T.i .i64 1, T.i .i64 x7]
def f44_0_c (l0 : List T) (x7 : Int) (x8 : Int) : CSt := ⟨[.ro 0 true [.i .i64, .s, .b, .i .i64, .i .i64] l0, .i .i64 x7, .i .i64 x8], [.dead, .dead]⟩
theorem f44_0_round (c : Orc) (lf : Nat) (l0 : List T) (L : CSt → Option (List T)) (x7 : Int) (x8 : Int) :
    roundK c env lf 6 fi44 2 5 [] [0, 1, 5] (x44_5_0) L (f44_0_c l0 x7 x8) = f44_0_s c lf l0 (fun x7 x8 => L (f44_0_c l0 x7 x8)) x7 x8 := by kernel_rfl
def f44_0 (c : Orc) (lf : Nat) (l0 : List T) : Nat → Int → Int → Option (List T)
  | 0 => fun _ _ => none
  | n + 1 => fun x7 x8 => f44_0_s c lf l0 (f44_0 c lf l0 n) x7 x8
theorem f44_0_u (c : Orc) (lf : Nat) (l0 : List T) (n : Nat) (x7 : Int) (x8 : Int) : f44_0 c lf l0 (n + 1) x7 x8 = f44_0_s c lf l0 (f44_0 c lf l0 n) x7 x8 := rfl
theorem f44_0_eq (c : Orc) (lf : Nat) (l0 : List T) (n : Nat) (x7 : Int) (x8 : Int) :
    lpK c env lf 6 fi44 2 5 [] [0, 1, 5] (x44_5_0) n (f44_0_c l0 x7 x8) = f44_0 c lf l0 n x7 x8 := by
  induction n generalizing x7 x8 with
  | zero => rfl
  | succ n ih =>
    refine (f44_0_round c lf l0 _ x7 x8).trans ?_
    have e : (fun x7 x8 => lpK c env lf 6 fi44 2 5 [] [0, 1, 5] (x44_5_0) n (f44_0_c l0 x7 x8)) = f44_0 c lf l0 n := by funext x7 x8; exact ih x7 x8
    show f44_0_s c lf l0 (fun x7 x8 => lpK c env lf 6 fi44 2 5 [] [0, 1, 5] (x44_5_0) n (f44_0_c l0 x7 x8)) x7 x8 = _
    rw [e]; rfl
/-- loop.example/g00285/laws.szRowS -/
def f44_t (c : Orc) (lf : Nat) (lp0 : List T → Int → Int → Option (List T)) (l0 : List T) (n1 : Int) : Option (List T) :=
  bif iLt (IntKind.wrap .i64 (n1 - (l0.length : Int))) 0 then
    some [T.i .i64 (-1)]
  else
    (lp0 l0 (IntKind.wrap .i64 (n1 - (l0.length : Int))) 0).bind fun r10 =>
    bif asI (nth r10 0) == 0 then
      some [T.i .i64 (asI (nth r10 1))]
    else
      some [T.i .i64 (asI (nth r10 1))]
def f44 (c : Orc) (lf : Nat) (l0 : List T) (n1 : Int) : Option (List T) := f44_t c lf (fun (l0 : List T) (x7 : Int) (x8 : Int) => f44_0 c lf l0 lf x7 x8) l0 n1
theorem f44_raw (c : Orc) (lf : Nat) (l0 : List T) (n1 : Int) : funK c env lf 6 fi44 [.sl l0, .i .i64 n1] = f44_t c lf (fun (l0 : List T) (x7 : Int) (x8 : Int) => lpK c env lf 6 fi44 2 5 [] [0, 1, 5] (x44_5_0) lf (f44_0_c l0 x7 x8)) l0 n1 := by kernel_rfl
theorem f44_eq (c : Orc) (lf : Nat) (l0 : List T) (n1 : Int) : funK c env lf 6 fi44 [.sl l0, .i .i64 n1] = f44 c lf l0 n1 := by
  refine (f44_raw c lf l0 n1).trans ?_
  have e0 : (fun (l0 : List T) (x7 : Int) (x8 : Int) => lpK c env lf 6 fi44 2 5 [] [0, 1, 5] (x44_5_0) lf (f44_0_c l0 x7 x8)) = (fun (l0 : List T) (x7 : Int) (x8 : Int) => f44_0 c lf l0 lf x7 x8) := by funext l0 x7 x8; exact f44_0_eq c lf l0 lf x7 x8
  rw [e0]; rfl
/-- loop.example/g00285/laws.szTable -/
def f17_t (c : Orc) (lf : Nat) (n0_0 : Int) (l0_1 : List T) (n1 : Int) : Option (List T) :=
  (c 44 [T.sl l0_1, T.i .i64 n1]).bind fun r11 =>
  bif iLt (asI (nth r11 0)) 0 then
    some [T.i .i64 (-1)]
  else
    some [T.i .i64 (asI (nth r11 0))]
def f17 (c : Orc) (lf : Nat) (n0_0 : Int) (l0_1 : List T) (n1 : Int) : Option (List T) := f17_t c lf n0_0 l0_1 n1
theorem f17_raw (c : Orc) (lf : Nat) (n0_0 : Int) (l0_1 : List T) (n1 : Int) : funK c env lf 6 fi17 [.st [.i .i64 n0_0, .sl l0_1], .i .i64 n1] = f17_t c lf n0_0 l0_1 n1 := by kernel_rfl
theorem f17_eq (c : Orc) (lf : Nat) (n0_0 : Int) (l0_1 : List T) (n1 : Int) : funK c env lf 6 fi17 [.st [.i .i64 n0_0, .sl l0_1], .i .i64 n1] = f17 c lf n0_0 l0_1 n1 := by
  refine (f17_raw c lf n0_0 l0_1 n1).trans ?_
  rfl
/-- loop.example/g00285/laws.toRow -/
def f66_t (c : Orc) (lf : Nat) (n0_0 : Int) (s0_1 : ByteArray) (b0_2 : Bool) (n0_3 : Int) (n0_4 : Int) : Option (List T) :=
  some [T.st [T.i .i64 n0_0, T.s s0_1, T.b b0_2, T.i .i64 n0_3, T.i .i64 n0_4]]
def f66 (c : Orc) (lf : Nat) (n0_0 : Int) (s0_1 : ByteArray) (b0_2 : Bool) (n0_3 : Int) (n0_4 : Int) : Option (List T) := f66_t c lf n0_0 s0_1 b0_2 n0_3 n0_4
theorem f66_raw (c : Orc) (lf : Nat) (n0_0 : Int) (s0_1 : ByteArray) (b0_2 : Bool) (n0_3 : Int) (n0_4 : Int) : funK c env lf 6 fi66 [.st [.i .i64 n0_0, .s s0_1, .b b0_2, .i .i64 n0_3, .i .i64 n0_4]] = f66_t c lf n0_0 s0_1 b0_2 n0_3 n0_4 := by kernel_rfl
theorem f66_eq (c : Orc) (lf : Nat) (n0_0 : Int) (s0_1 : ByteArray) (b0_2 : Bool) (n0_3 : Int) (n0_4 : Int) : funK c env lf 6 fi66 [.st [.i .i64 n0_0, .s s0_1, .b b0_2, .i .i64 n0_3, .i .i64 n0_4]] = f66 c lf n0_0 s0_1 b0_2 n0_3 n0_4 := by
  refine (f66_raw c lf n0_0 s0_1 b0_2 n0_3 n0_4).trans ?_
  rfl
/-- loop.example/g00285/laws.toRowS, the loop at region 3. -/
def f46_0_s (c : Orc) (lf : Nat) (l0 : List T) (L : Int → List T → Option (List T)) (x18 : Int) (x19 : List T) : Option (List T) :=
  bif iLt x18 (l0.length : Int) then
    bif inR x18 l0.length then
    (c 66 [T.st [T.i .i64 (asI (T.cell (l0.getD x18.toNat T.u) 0)), T.s (asS (T.cell (l0.getD x18.toNat T.u) 1)), T.b (asB (T.cell (l0.getD x18.toNat T.u) 2)), T.i .i64 (asI (T.cell (l0.getD x18.toNat T.u) 3)), T.i .i64 (asI (T.cell (l0.getD x18.toNat T.u) 4))]]).bind fun r20 =>
    bif inR x18 x19.length then
    L (IntKind.wrap .i64 (x18 + 1)) (x19.set x18.toNat (T.st [T.i .i64 (asI (T.cell (nth r20 0) 0)), T.s (asS (T.cell (nth r20 0) 1)), T.b (asB (T.cell (nth r20 0) 2)), T.i .i64 (asI (T.cell (nth r20 0) 3)), T.i .i64 (asI (T.cell (nth r20 0) 4))]))
    else none
    else none
  else
    some [T.i .i64 0, T.sl x19]
def f46_0_c (l0 : List T) (x18 : Int) (x19 : List T) : CSt := ⟨[.ro 0 true [.i .i64, .s, .b, .i .i64, .i .i64] l0, .rf 1 [] 0 none, .i .i64 x18], [.dead, .row true [.i .i64, .s, .b, .i .i64, .i .i64] x19 0 false]⟩
theorem f46_0_round (c : Orc) (lf : Nat) (l0 : List T) (L : CSt → Option (List T)) (x18 : Int) (x19 : List T) :
    roundK c env lf 6 fi46 1 3 [] [0, 3, 4] (x46_3_0) L (f46_0_c l0 x18 x19) = f46_0_s c lf l0 (fun x18 x19 => L (f46_0_c l0 x18 x19)) x18 x19 := by kernel_rfl
def f46_0 (c : Orc) (lf : Nat) (l0 : List T) : Nat → Int → List T → Option (List T)
  | 0 => fun _ _ => none
  | n + 1 => fun x18 x19 => f46_0_s c lf l0 (f46_0 c lf l0 n) x18 x19
theorem f46_0_u (c : Orc) (lf : Nat) (l0 : List T) (n : Nat) (x18 : Int) (x19 : List T) : f46_0 c lf l0 (n + 1) x18 x19 = f46_0_s c lf l0 (f46_0 c lf l0 n) x18 x19 := rfl
theorem f46_0_eq (c : Orc) (lf : Nat) (l0 : List T) (n : Nat) (x18 : Int) (x19 : List T) :
    lpK c env lf 6 fi46 1 3 [] [0, 3, 4] (x46_3_0) n (f46_0_c l0 x18 x19) = f46_0 c lf l0 n x18 x19 := by
  induction n generalizing x18 x19 with
  | zero => rfl
  | succ n ih =>
    refine (f46_0_round c lf l0 _ x18 x19).trans ?_
    have e : (fun x18 x19 => lpK c env lf 6 fi46 1 3 [] [0, 3, 4] (x46_3_0) n (f46_0_c l0 x18 x19)) = f46_0 c lf l0 n := by funext x18 x19; exact ih x18 x19
    show f46_0_s c lf l0 (fun x18 x19 => lpK c env lf 6 fi46 1 3 [] [0, 3, 4] (x46_3_0) n (f46_0_c l0 x18 x19)) x18 x19 = _
    rw [e]; rfl
/-- loop.example/g00285/laws.toRowS -/
def f46_t (c : Orc) (lf : Nat) (lp0 : List T → Int → List T → Option (List T)) (l0 : List T) : Option (List T) :=
  bif iLe 0 (l0.length : Int) && iLe (l0.length : Int) (LIM : Int) && ((l0.length : Int) == (l0.length : Int)) then
  (lp0 l0 0 (List.replicate (l0.length : Int).toNat (T.st [T.i .i64 0, T.s (⟨#[]⟩ : ByteArray), T.b false, T.i .i64 0, T.i .i64 0]))).bind fun r21 =>
  some [T.sl (asL (nth r21 1))]
  else none
def f46 (c : Orc) (lf : Nat) (l0 : List T) : Option (List T) := f46_t c lf (fun (l0 : List T) (x18 : Int) (x19 : List T) => f46_0 c lf l0 lf x18 x19) l0
theorem f46_raw (c : Orc) (lf : Nat) (l0 : List T) : funK c env lf 6 fi46 [.sl l0] = f46_t c lf (fun (l0 : List T) (x18 : Int) (x19 : List T) => lpK c env lf 6 fi46 1 3 [] [0, 3, 4] (x46_3_0) lf (f46_0_c l0 x18 x19)) l0 := by kernel_rfl
theorem f46_eq (c : Orc) (lf : Nat) (l0 : List T) : funK c env lf 6 fi46 [.sl l0] = f46 c lf l0 := by
  refine (f46_raw c lf l0).trans ?_
  have e0 : (fun (l0 : List T) (x18 : Int) (x19 : List T) => lpK c env lf 6 fi46 1 3 [] [0, 3, 4] (x46_3_0) lf (f46_0_c l0 x18 x19)) = (fun (l0 : List T) (x18 : Int) (x19 : List T) => f46_0 c lf l0 lf x18 x19) := by funext l0 x18 x19; exact f46_0_eq c lf l0 lf x18 x19
  rw [e0]; rfl
/-- loop.example/g00285/laws.toTable -/
def f19_t (c : Orc) (lf : Nat) (n0_0 : Int) (l0_1 : List T) : Option (List T) :=
  (c 46 [T.sl l0_1]).bind fun r22 =>
  some [T.st [T.i .i64 n0_0, T.sl (asL (nth r22 0))]]
def f19 (c : Orc) (lf : Nat) (n0_0 : Int) (l0_1 : List T) : Option (List T) := f19_t c lf n0_0 l0_1
theorem f19_raw (c : Orc) (lf : Nat) (n0_0 : Int) (l0_1 : List T) : funK c env lf 6 fi19 [.st [.i .i64 n0_0, .sl l0_1]] = f19_t c lf n0_0 l0_1 := by kernel_rfl
theorem f19_eq (c : Orc) (lf : Nat) (n0_0 : Int) (l0_1 : List T) : funK c env lf 6 fi19 [.st [.i .i64 n0_0, .sl l0_1]] = f19 c lf n0_0 l0_1 := by
  refine (f19_raw c lf n0_0 l0_1).trans ?_
  rfl
/-- loop.example/g00285/spec.l1In -/
def f42_t (c : Orc) (lf : Nat) (n0 : Int) (n1 : Int) (n2 : Int) : Option (List T) :=
  bif iLe n1 n0 then
    some [T.b (iLe n0 n2)]
  else
    some [T.b false]
def f42 (c : Orc) (lf : Nat) (n0 : Int) (n1 : Int) (n2 : Int) : Option (List T) := f42_t c lf n0 n1 n2
theorem f42_raw (c : Orc) (lf : Nat) (n0 : Int) (n1 : Int) (n2 : Int) : funK c env lf 6 fi42 [.i .i64 n0, .i .i64 n1, .i .i64 n2] = f42_t c lf n0 n1 n2 := by kernel_rfl
theorem f42_eq (c : Orc) (lf : Nat) (n0 : Int) (n1 : Int) (n2 : Int) : funK c env lf 6 fi42 [.i .i64 n0, .i .i64 n1, .i .i64 n2] = f42 c lf n0 n1 n2 := by
  refine (f42_raw c lf n0 n1 n2).trans ?_
  rfl
/-- loop.example/g00285/spec.NameOk, the loop at region 2. -/
def f45_0_s (c : Orc) (lf : Nat) (s0 : ByteArray) (L : Int → Option (List T)) (x32 : Int) : Option (List T) :=
  bif iLt x32 (s0.size : Int) then
    bif inR x32 s0.size then
    (c 42 [T.i .i64 (IntKind.wrap .i64 (byteAt s0 x32)), T.i .i64 97, T.i .i64 122]).bind fun r33 =>
    bif !(asB (nth r33 0)) then
      (c 42 [T.i .i64 (IntKind.wrap .i64 (byteAt s0 x32)), T.i .i64 48, T.i .i64 57]).bind fun r34 =>
      bif !(asB (nth r34 0)) then
        bif (IntKind.wrap .i64 (byteAt s0 x32)) != 95 then
          bif (IntKind.wrap .i64 (byteAt s0 x32)) != 45 then
            bif (IntKind.wrap .i64 (byteAt s0 x32)) != 46 then
              some [T.i .i64 0, T.b false]
            else
              L (IntKind.wrap .i64 (x32 + 1))
          else
            L (IntKind.wrap .i64 (x32 + 1))
        else
          L (IntKind.wrap .i64 (x32 + 1))
      else
        L (IntKind.wrap .i64 (x32 + 1))
    else
      L (IntKind.wrap .i64 (x32 + 1))
    else none
  else
    some [T.i .i64 1, T.s s0]
def f45_0_c (s0 : ByteArray) (x32 : Int) : CSt := ⟨[.s s0, .i .i64 x32], [.dead]⟩
theorem f45_0_round (c : Orc) (lf : Nat) (s0 : ByteArray) (L : CSt → Option (List T)) (x32 : Int) :
    roundK c env lf 6 fi45 1 2 [] [0, 3] (x45_2_0) L (f45_0_c s0 x32) = f45_0_s c lf s0 (fun x32 => L (f45_0_c s0 x32)) x32 := by kernel_rfl
def f45_0 (c : Orc) (lf : Nat) (s0 : ByteArray) : Nat → Int → Option (List T)
  | 0 => fun _ => none
  | n + 1 => fun x32 => f45_0_s c lf s0 (f45_0 c lf s0 n) x32
theorem f45_0_u (c : Orc) (lf : Nat) (s0 : ByteArray) (n : Nat) (x32 : Int) : f45_0 c lf s0 (n + 1) x32 = f45_0_s c lf s0 (f45_0 c lf s0 n) x32 := rfl
theorem f45_0_eq (c : Orc) (lf : Nat) (s0 : ByteArray) (n : Nat) (x32 : Int) :
    lpK c env lf 6 fi45 1 2 [] [0, 3] (x45_2_0) n (f45_0_c s0 x32) = f45_0 c lf s0 n x32 := by
  induction n generalizing x32 with
  | zero => rfl
  | succ n ih =>
    refine (f45_0_round c lf s0 _ x32).trans ?_
    have e : (fun x32 => lpK c env lf 6 fi45 1 2 [] [0, 3] (x45_2_0) n (f45_0_c s0 x32)) = f45_0 c lf s0 n := by funext x32; exact ih x32
    show f45_0_s c lf s0 (fun x32 => lpK c env lf 6 fi45 1 2 [] [0, 3] (x45_2_0) n (f45_0_c s0 x32)) x32 = _
    rw [e]; rfl
/-- loop.example/g00285/spec.NameOk -/
def f45_t (c : Orc) (lf : Nat) (lp0 : ByteArray → Int → Option (List T)) (s0 : ByteArray) : Option (List T) :=
  (lp0 s0 0).bind fun r35 =>
  bif asI (nth r35 0) == 0 then
    some [T.b (asB (nth r35 1))]
  else
    (c 42 [T.i .i64 ((asS (nth r35 1)).size : Int), T.i .i64 1, T.i .i64 14]).bind fun r36 =>
    bif asB (nth r36 0) then
      bif !((asS (nth r35 1)).toList == (⟨#[46]⟩ : ByteArray).toList) then
        some [T.b (!((asS (nth r35 1)).toList == (⟨#[46, 46]⟩ : ByteArray).toList))]
      else
        some [T.b false]
    else
      some [T.b false]
def f45 (c : Orc) (lf : Nat) (s0 : ByteArray) : Option (List T) := f45_t c lf (fun (s0 : ByteArray) (x32 : Int) => f45_0 c lf s0 lf x32) s0
theorem f45_raw (c : Orc) (lf : Nat) (s0 : ByteArray) : funK c env lf 6 fi45 [.s s0] = f45_t c lf (fun (s0 : ByteArray) (x32 : Int) => lpK c env lf 6 fi45 1 2 [] [0, 3] (x45_2_0) lf (f45_0_c s0 x32)) s0 := by kernel_rfl
theorem f45_eq (c : Orc) (lf : Nat) (s0 : ByteArray) : funK c env lf 6 fi45 [.s s0] = f45 c lf s0 := by
  refine (f45_raw c lf s0).trans ?_
  have e0 : (fun (s0 : ByteArray) (x32 : Int) => lpK c env lf 6 fi45 1 2 [] [0, 3] (x45_2_0) lf (f45_0_c s0 x32)) = (fun (s0 : ByteArray) (x32 : Int) => f45_0 c lf s0 lf x32) := by funext s0 x32; exact f45_0_eq c lf s0 lf x32
  rw [e0]; rfl
/-- loop.example/g00285/spec.TableOk, the loop at region 8. -/
def f18_1_s (c : Orc) (lf : Nat) (x57 : Int) (x58 : Int) (x59 : List T) (L : Int → Option (List T)) (x63 : Int) : Option (List T) :=
  bif iLt x63 x57 then
    bif inR x63 x59.length then
    bif (asS (T.cell (x59.getD x63.toNat T.u) 1)).toList == (asS (T.cell (x59.getD x57.toNat T.u) 1)).toList then
      some [T.i .i64 1, T.b false]
    else
      L (IntKind.wrap .i64 (x63 + 1))
    else none
  else
    some [T.i .i64 0, T.i .i64 x57, T.i .i64 x58, T.sl x59]
def f18_1_c (x57 : Int) (x58 : Int) (x59 : List T) (x63 : Int) : CSt := ⟨[.bp 2 0, .i .i64 x57, .bp 3 0, .i .i64 x63], [.dead, .dead, .box [.i .i64 x58, .ro 0 true [.i .i64, .s, .b, .i .i64, .i .i64] x59], .box [.i .i64 (asI (T.cell (x59.getD x57.toNat T.u) 0)), .s (asS (T.cell (x59.getD x57.toNat T.u) 1)), .b (asB (T.cell (x59.getD x57.toNat T.u) 2)), .i .i64 (asI (T.cell (x59.getD x57.toNat T.u) 3)), .i .i64 (asI (T.cell (x59.getD x57.toNat T.u) 4))]]⟩
theorem f18_1_round (c : Orc) (lf : Nat) (x57 : Int) (x58 : Int) (x59 : List T) (L : CSt → Option (List T)) (x63 : Int) :
    roundK c env lf 6 fi18 2 8 [] [1, 3, 4, 5] (x18_8_0) L (f18_1_c x57 x58 x59 x63) = f18_1_s c lf x57 x58 x59 (fun x63 => L (f18_1_c x57 x58 x59 x63)) x63 := by kernel_rfl
def f18_1 (c : Orc) (lf : Nat) (x57 : Int) (x58 : Int) (x59 : List T) : Nat → Int → Option (List T)
  | 0 => fun _ => none
  | n + 1 => fun x63 => f18_1_s c lf x57 x58 x59 (f18_1 c lf x57 x58 x59 n) x63
theorem f18_1_u (c : Orc) (lf : Nat) (x57 : Int) (x58 : Int) (x59 : List T) (n : Nat) (x63 : Int) : f18_1 c lf x57 x58 x59 (n + 1) x63 = f18_1_s c lf x57 x58 x59 (f18_1 c lf x57 x58 x59 n) x63 := rfl
theorem f18_1_eq (c : Orc) (lf : Nat) (x57 : Int) (x58 : Int) (x59 : List T) (n : Nat) (x63 : Int) :
    lpK c env lf 6 fi18 2 8 [] [1, 3, 4, 5] (x18_8_0) n (f18_1_c x57 x58 x59 x63) = f18_1 c lf x57 x58 x59 n x63 := by
  induction n generalizing x63 with
  | zero => rfl
  | succ n ih =>
    refine (f18_1_round c lf x57 x58 x59 _ x63).trans ?_
    have e : (fun x63 => lpK c env lf 6 fi18 2 8 [] [1, 3, 4, 5] (x18_8_0) n (f18_1_c x57 x58 x59 x63)) = f18_1 c lf x57 x58 x59 n := by funext x63; exact ih x63
    show f18_1_s c lf x57 x58 x59 (fun x63 => lpK c env lf 6 fi18 2 8 [] [1, 3, 4, 5] (x18_8_0) n (f18_1_c x57 x58 x59 x63)) x63 = _
    rw [e]; rfl
/-- loop.example/g00285/spec.TableOk, the loop at region 8. -/
def f18_2_s (c : Orc) (lf : Nat) (x57 : Int) (x58 : Int) (x59 : List T) (L : Int → Option (List T)) (x65 : Int) : Option (List T) :=
  bif iLt x65 x57 then
    bif inR x65 x59.length then
    bif (asS (T.cell (x59.getD x65.toNat T.u) 1)).toList == (asS (T.cell (x59.getD x57.toNat T.u) 1)).toList then
      some [T.i .i64 1, T.b false]
    else
      L (IntKind.wrap .i64 (x65 + 1))
    else none
  else
    some [T.i .i64 0, T.i .i64 x57, T.i .i64 x58, T.sl x59]
def f18_2_c (x57 : Int) (x58 : Int) (x59 : List T) (x65 : Int) : CSt := ⟨[.bp 2 0, .i .i64 x57, .bp 3 0, .i .i64 x65], [.dead, .dead, .box [.i .i64 x58, .ro 0 true [.i .i64, .s, .b, .i .i64, .i .i64] x59], .box [.i .i64 (asI (T.cell (x59.getD x57.toNat T.u) 0)), .s (asS (T.cell (x59.getD x57.toNat T.u) 1)), .b (asB (T.cell (x59.getD x57.toNat T.u) 2)), .i .i64 (asI (T.cell (x59.getD x57.toNat T.u) 3)), .i .i64 (asI (T.cell (x59.getD x57.toNat T.u) 4))]]⟩
theorem f18_2_round (c : Orc) (lf : Nat) (x57 : Int) (x58 : Int) (x59 : List T) (L : CSt → Option (List T)) (x65 : Int) :
    roundK c env lf 6 fi18 2 8 [] [1, 3, 4, 5] (x18_8_0) L (f18_2_c x57 x58 x59 x65) = f18_2_s c lf x57 x58 x59 (fun x65 => L (f18_2_c x57 x58 x59 x65)) x65 := by kernel_rfl
def f18_2 (c : Orc) (lf : Nat) (x57 : Int) (x58 : Int) (x59 : List T) : Nat → Int → Option (List T)
  | 0 => fun _ => none
  | n + 1 => fun x65 => f18_2_s c lf x57 x58 x59 (f18_2 c lf x57 x58 x59 n) x65
theorem f18_2_u (c : Orc) (lf : Nat) (x57 : Int) (x58 : Int) (x59 : List T) (n : Nat) (x65 : Int) : f18_2 c lf x57 x58 x59 (n + 1) x65 = f18_2_s c lf x57 x58 x59 (f18_2 c lf x57 x58 x59 n) x65 := rfl
theorem f18_2_eq (c : Orc) (lf : Nat) (x57 : Int) (x58 : Int) (x59 : List T) (n : Nat) (x65 : Int) :
    lpK c env lf 6 fi18 2 8 [] [1, 3, 4, 5] (x18_8_0) n (f18_2_c x57 x58 x59 x65) = f18_2 c lf x57 x58 x59 n x65 := by
  induction n generalizing x65 with
  | zero => rfl
  | succ n ih =>
    refine (f18_2_round c lf x57 x58 x59 _ x65).trans ?_
    have e : (fun x65 => lpK c env lf 6 fi18 2 8 [] [1, 3, 4, 5] (x18_8_0) n (f18_2_c x57 x58 x59 x65)) = f18_2 c lf x57 x58 x59 n := by funext x65; exact ih x65
    show f18_2_s c lf x57 x58 x59 (fun x65 => lpK c env lf 6 fi18 2 8 [] [1, 3, 4, 5] (x18_8_0) n (f18_2_c x57 x58 x59 x65)) x65 = _
    rw [e]; rfl
/-- loop.example/g00285/spec.TableOk, the loop at region 2. -/
def f18_0_s (c : Orc) (lf : Nat) (L : Int → Int → List T → Option (List T)) (lp0 : Int → Int → List T → Int → Option (List T)) (lp1 : Int → Int → List T → Int → Option (List T)) (x57 : Int) (x58 : Int) (x59 : List T) : Option (List T) :=
  bif iLt x57 (x59.length : Int) then
    bif inR x57 x59.length then
    bif iLt (asI (T.cell (x59.getD x57.toNat T.u) 0)) 1 then
      some [T.i .i64 0, T.b false]
    else
      bif iLe x58 (asI (T.cell (x59.getD x57.toNat T.u) 0)) then
        some [T.i .i64 0, T.b false]
      else
        (c 45 [T.s (asS (T.cell (x59.getD x57.toNat T.u) 1))]).bind fun r60 =>
        bif !(asB (nth r60 0)) then
          some [T.i .i64 0, T.b false]
        else
          (c 42 [T.i .i64 (asI (T.cell (x59.getD x57.toNat T.u) 3)), T.i .i64 32, T.i .i64 4000]).bind fun r61 =>
          bif !(asB (nth r61 0)) then
            some [T.i .i64 0, T.b false]
          else
            (c 42 [T.i .i64 (asI (T.cell (x59.getD x57.toNat T.u) 4)), T.i .i64 0, T.i .i64 191]).bind fun r62 =>
            bif !(asB (nth r62 0)) then
              some [T.i .i64 0, T.b false]
            else
              bif iLt 0 x57 then
                bif inR (IntKind.wrap .i64 (x57 - 1)) x59.length then
                bif iLe (asI (T.cell (x59.getD x57.toNat T.u) 0)) (asI (T.cell (x59.getD ((IntKind.wrap .i64 (x57 - 1)).toNat) T.u) 0)) then
                  some [T.i .i64 0, T.b false]
                else
                  (lp0 x57 x58 x59 0).bind fun r64 =>
                  bif asI (nth r64 0) == 0 then
                    L (IntKind.wrap .i64 ((asI (nth r64 1)) + 1)) (asI (nth r64 2)) (asL (nth r64 3))
                  else
                    some [T.i .i64 0, T.b (asB (nth r64 1))]
                else none
              else
                (lp1 x57 x58 x59 0).bind fun r66 =>
                bif asI (nth r66 0) == 0 then
                  L (IntKind.wrap .i64 ((asI (nth r66 1)) + 1)) (asI (nth r66 2)) (asL (nth r66 3))
                else
                  some [T.i .i64 0, T.b (asB (nth r66 1))]
    else none
  else
    some [T.i .i64 1, T.i .i64 x58, T.sl x59]
def f18_0_c (x57 : Int) (x58 : Int) (x59 : List T) : CSt := ⟨[.bp 2 0, .i .i64 x57], [.dead, .dead, .box [.i .i64 x58, .ro 0 true [.i .i64, .s, .b, .i .i64, .i .i64] x59]]⟩
theorem f18_0_round (c : Orc) (lf : Nat) (L : CSt → Option (List T)) (x57 : Int) (x58 : Int) (x59 : List T) :
    roundK c env lf 6 fi18 2 2 [] [1, 3] (x18_2_0) L (f18_0_c x57 x58 x59) = f18_0_s c lf (fun x57 x58 x59 => L (f18_0_c x57 x58 x59)) (fun (x57 : Int) (x58 : Int) (x59 : List T) (x63 : Int) => lpK c env lf 6 fi18 2 8 [] [1, 3, 4, 5] (x18_8_0) lf (f18_1_c x57 x58 x59 x63)) (fun (x57 : Int) (x58 : Int) (x59 : List T) (x65 : Int) => lpK c env lf 6 fi18 2 8 [] [1, 3, 4, 5] (x18_8_0) lf (f18_2_c x57 x58 x59 x65)) x57 x58 x59 := by kernel_rfl
def f18_0 (c : Orc) (lf : Nat) : Nat → Int → Int → List T → Option (List T)
  | 0 => fun _ _ _ => none
  | n + 1 => fun x57 x58 x59 => f18_0_s c lf (f18_0 c lf n) (fun (x57 : Int) (x58 : Int) (x59 : List T) (x63 : Int) => f18_1 c lf x57 x58 x59 lf x63) (fun (x57 : Int) (x58 : Int) (x59 : List T) (x65 : Int) => f18_2 c lf x57 x58 x59 lf x65) x57 x58 x59
theorem f18_0_u (c : Orc) (lf : Nat) (n : Nat) (x57 : Int) (x58 : Int) (x59 : List T) : f18_0 c lf (n + 1) x57 x58 x59 = f18_0_s c lf (f18_0 c lf n) (fun (x57 : Int) (x58 : Int) (x59 : List T) (x63 : Int) => f18_1 c lf x57 x58 x59 lf x63) (fun (x57 : Int) (x58 : Int) (x59 : List T) (x65 : Int) => f18_2 c lf x57 x58 x59 lf x65) x57 x58 x59 := rfl
theorem f18_0_eq (c : Orc) (lf : Nat) (n : Nat) (x57 : Int) (x58 : Int) (x59 : List T) :
    lpK c env lf 6 fi18 2 2 [] [1, 3] (x18_2_0) n (f18_0_c x57 x58 x59) = f18_0 c lf n x57 x58 x59 := by
  induction n generalizing x57 x58 x59 with
  | zero => rfl
  | succ n ih =>
    refine (f18_0_round c lf _ x57 x58 x59).trans ?_
    have e : (fun x57 x58 x59 => lpK c env lf 6 fi18 2 2 [] [1, 3] (x18_2_0) n (f18_0_c x57 x58 x59)) = f18_0 c lf n := by funext x57 x58 x59; exact ih x57 x58 x59
    have e0 : (fun (x57 : Int) (x58 : Int) (x59 : List T) (x63 : Int) => lpK c env lf 6 fi18 2 8 [] [1, 3, 4, 5] (x18_8_0) lf (f18_1_c x57 x58 x59 x63)) = (fun (x57 : Int) (x58 : Int) (x59 : List T) (x63 : Int) => f18_1 c lf x57 x58 x59 lf x63) := by funext x57 x58 x59 x63; exact f18_1_eq c lf x57 x58 x59 lf x63
    have e1 : (fun (x57 : Int) (x58 : Int) (x59 : List T) (x65 : Int) => lpK c env lf 6 fi18 2 8 [] [1, 3, 4, 5] (x18_8_0) lf (f18_2_c x57 x58 x59 x65)) = (fun (x57 : Int) (x58 : Int) (x59 : List T) (x65 : Int) => f18_2 c lf x57 x58 x59 lf x65) := by funext x57 x58 x59 x65; exact f18_2_eq c lf x57 x58 x59 lf x65
    show f18_0_s c lf (fun x57 x58 x59 => lpK c env lf 6 fi18 2 2 [] [1, 3] (x18_2_0) n (f18_0_c x57 x58 x59)) (fun (x57 : Int) (x58 : Int) (x59 : List T) (x63 : Int) => lpK c env lf 6 fi18 2 8 [] [1, 3, 4, 5] (x18_8_0) lf (f18_1_c x57 x58 x59 x63)) (fun (x57 : Int) (x58 : Int) (x59 : List T) (x65 : Int) => lpK c env lf 6 fi18 2 8 [] [1, 3, 4, 5] (x18_8_0) lf (f18_2_c x57 x58 x59 x65)) x57 x58 x59 = _
    rw [e, e0, e1]; rfl
/-- loop.example/g00285/spec.TableOk -/
def f18_t (c : Orc) (lf : Nat) (lp0 : Int → Int → List T → Option (List T)) (n0_0 : Int) (l0_1 : List T) : Option (List T) :=
  (lp0 0 n0_0 l0_1).bind fun r67 =>
  bif asI (nth r67 0) == 0 then
    some [T.b (asB (nth r67 1))]
  else
    bif iLe ((asL (nth r67 2)).length : Int) 6 then
      (c 42 [T.i .i64 (asI (nth r67 1)), T.i .i64 1, T.i .i64 99]).bind fun r68 =>
      some [T.b (asB (nth r68 0))]
    else
      some [T.b false]
def f18 (c : Orc) (lf : Nat) (n0_0 : Int) (l0_1 : List T) : Option (List T) := f18_t c lf (fun (x57 : Int) (x58 : Int) (x59 : List T) => f18_0 c lf lf x57 x58 x59) n0_0 l0_1
theorem f18_raw (c : Orc) (lf : Nat) (n0_0 : Int) (l0_1 : List T) : funK c env lf 6 fi18 [.st [.i .i64 n0_0, .sl l0_1]] = f18_t c lf (fun (x57 : Int) (x58 : Int) (x59 : List T) => lpK c env lf 6 fi18 2 2 [] [1, 3] (x18_2_0) lf (f18_0_c x57 x58 x59)) n0_0 l0_1 := by kernel_rfl
theorem f18_eq (c : Orc) (lf : Nat) (n0_0 : Int) (l0_1 : List T) : funK c env lf 6 fi18 [.st [.i .i64 n0_0, .sl l0_1]] = f18 c lf n0_0 l0_1 := by
  refine (f18_raw c lf n0_0 l0_1).trans ?_
  have e0 : (fun (x57 : Int) (x58 : Int) (x59 : List T) => lpK c env lf 6 fi18 2 2 [] [1, 3] (x18_2_0) lf (f18_0_c x57 x58 x59)) = (fun (x57 : Int) (x58 : Int) (x59 : List T) => f18_0 c lf lf x57 x58 x59) := by funext x57 x58 x59; exact f18_0_eq c lf lf x57 x58 x59
  rw [e0]; rfl
/-- loop.example/g00285/impl.NameOk, the loop at region 2. -/
def f47_0_s (c : Orc) (lf : Nat) (s0 : ByteArray) (L : Int → Option (List T)) (x71 : Int) : Option (List T) :=
  bif iLt x71 (s0.size : Int) then
    bif inR x71 s0.size then
    bif iLt (byteAt s0 x71) 97 then
      bif iLt (byteAt s0 x71) 48 then
        bif (byteAt s0 x71) != 95 then
          bif (byteAt s0 x71) != 45 then
            bif (byteAt s0 x71) != 46 then
              some [T.i .i64 0, T.b false]
            else
              L (IntKind.wrap .i64 (x71 + 1))
          else
            L (IntKind.wrap .i64 (x71 + 1))
        else
          L (IntKind.wrap .i64 (x71 + 1))
      else
        bif iLt 57 (byteAt s0 x71) then
          bif (byteAt s0 x71) != 95 then
            bif (byteAt s0 x71) != 45 then
              bif (byteAt s0 x71) != 46 then
                some [T.i .i64 0, T.b false]
              else
                L (IntKind.wrap .i64 (x71 + 1))
            else
              L (IntKind.wrap .i64 (x71 + 1))
          else
            L (IntKind.wrap .i64 (x71 + 1))
        else
          L (IntKind.wrap .i64 (x71 + 1))
    else
      bif iLt 122 (byteAt s0 x71) then
        bif iLt (byteAt s0 x71) 48 then
          bif (byteAt s0 x71) != 95 then
            bif (byteAt s0 x71) != 45 then
              bif (byteAt s0 x71) != 46 then
                some [T.i .i64 0, T.b false]
              else
                L (IntKind.wrap .i64 (x71 + 1))
            else
              L (IntKind.wrap .i64 (x71 + 1))
          else
            L (IntKind.wrap .i64 (x71 + 1))
        else
          bif iLt 57 (byteAt s0 x71) then
            bif (byteAt s0 x71) != 95 then
              bif (byteAt s0 x71) != 45 then
                bif (byteAt s0 x71) != 46 then
                  some [T.i .i64 0, T.b false]
                else
                  L (IntKind.wrap .i64 (x71 + 1))
              else
                L (IntKind.wrap .i64 (x71 + 1))
            else
              L (IntKind.wrap .i64 (x71 + 1))
          else
            L (IntKind.wrap .i64 (x71 + 1))
      else
        L (IntKind.wrap .i64 (x71 + 1))
    else none
  else
    some [T.i .i64 1, T.s s0]
def f47_0_c (s0 : ByteArray) (x71 : Int) : CSt := ⟨[.s s0, .i .i64 (s0.size : Int), .i .i64 x71], [.dead]⟩
theorem f47_0_round (c : Orc) (lf : Nat) (s0 : ByteArray) (L : CSt → Option (List T)) (x71 : Int) :
    roundK c env lf 6 fi47 1 2 [] [0, 6, 7] (x47_2_0) L (f47_0_c s0 x71) = f47_0_s c lf s0 (fun x71 => L (f47_0_c s0 x71)) x71 := by kernel_rfl
def f47_0 (c : Orc) (lf : Nat) (s0 : ByteArray) : Nat → Int → Option (List T)
  | 0 => fun _ => none
  | n + 1 => fun x71 => f47_0_s c lf s0 (f47_0 c lf s0 n) x71
theorem f47_0_u (c : Orc) (lf : Nat) (s0 : ByteArray) (n : Nat) (x71 : Int) : f47_0 c lf s0 (n + 1) x71 = f47_0_s c lf s0 (f47_0 c lf s0 n) x71 := rfl
theorem f47_0_eq (c : Orc) (lf : Nat) (s0 : ByteArray) (n : Nat) (x71 : Int) :
    lpK c env lf 6 fi47 1 2 [] [0, 6, 7] (x47_2_0) n (f47_0_c s0 x71) = f47_0 c lf s0 n x71 := by
  induction n generalizing x71 with
  | zero => rfl
  | succ n ih =>
    refine (f47_0_round c lf s0 _ x71).trans ?_
    have e : (fun x71 => lpK c env lf 6 fi47 1 2 [] [0, 6, 7] (x47_2_0) n (f47_0_c s0 x71)) = f47_0 c lf s0 n := by funext x71; exact ih x71
    show f47_0_s c lf s0 (fun x71 => lpK c env lf 6 fi47 1 2 [] [0, 6, 7] (x47_2_0) n (f47_0_c s0 x71)) x71 = _
    rw [e]; rfl
/-- loop.example/g00285/impl.NameOk -/
def f47_t (c : Orc) (lf : Nat) (lp0 : ByteArray → Int → Option (List T)) (s0 : ByteArray) : Option (List T) :=
  (lp0 s0 0).bind fun r72 =>
  bif asI (nth r72 0) == 0 then
    some [T.b (asB (nth r72 1))]
  else
    bif iLe 1 ((asS (nth r72 1)).size : Int) then
      bif iLe ((asS (nth r72 1)).size : Int) 14 then
        bif !((asS (nth r72 1)).toList == (⟨#[46]⟩ : ByteArray).toList) then
          some [T.b (!((asS (nth r72 1)).toList == (⟨#[46, 46]⟩ : ByteArray).toList))]
        else
          some [T.b false]
      else
        some [T.b false]
    else
      some [T.b false]
def f47 (c : Orc) (lf : Nat) (s0 : ByteArray) : Option (List T) := f47_t c lf (fun (s0 : ByteArray) (x71 : Int) => f47_0 c lf s0 lf x71) s0
theorem f47_raw (c : Orc) (lf : Nat) (s0 : ByteArray) : funK c env lf 6 fi47 [.s s0] = f47_t c lf (fun (s0 : ByteArray) (x71 : Int) => lpK c env lf 6 fi47 1 2 [] [0, 6, 7] (x47_2_0) lf (f47_0_c s0 x71)) s0 := by kernel_rfl
theorem f47_eq (c : Orc) (lf : Nat) (s0 : ByteArray) : funK c env lf 6 fi47 [.s s0] = f47 c lf s0 := by
  refine (f47_raw c lf s0).trans ?_
  have e0 : (fun (s0 : ByteArray) (x71 : Int) => lpK c env lf 6 fi47 1 2 [] [0, 6, 7] (x47_2_0) lf (f47_0_c s0 x71)) = (fun (s0 : ByteArray) (x71 : Int) => f47_0 c lf s0 lf x71) := by funext s0 x71; exact f47_0_eq c lf s0 lf x71
  rw [e0]; rfl
/-- loop.example/g00285/impl.from -/
def f43_t (c : Orc) (lf : Nat) (n0 : Int) (n1 : Int) (n2 : Int) : Option (List T) :=
  bif iLe n1 n0 then
    some [T.b (iLe n0 n2)]
  else
    some [T.b false]
def f43 (c : Orc) (lf : Nat) (n0 : Int) (n1 : Int) (n2 : Int) : Option (List T) := f43_t c lf n0 n1 n2
theorem f43_raw (c : Orc) (lf : Nat) (n0 : Int) (n1 : Int) (n2 : Int) : funK c env lf 6 fi43 [.i .i64 n0, .i .i64 n1, .i .i64 n2] = f43_t c lf n0 n1 n2 := by kernel_rfl
theorem f43_eq (c : Orc) (lf : Nat) (n0 : Int) (n1 : Int) (n2 : Int) : funK c env lf 6 fi43 [.i .i64 n0, .i .i64 n1, .i .i64 n2] = f43 c lf n0 n1 n2 := by
  refine (f43_raw c lf n0 n1 n2).trans ?_
  rfl
/-- loop.example/g00285/impl.isLimit -/
def f48_t (c : Orc) (lf : Nat) (n0 : Int) : Option (List T) :=
  (c 43 [T.i .i64 n0, T.i .i64 32, T.i .i64 4000]).bind fun r73 =>
  some [T.b (asB (nth r73 0))]
def f48 (c : Orc) (lf : Nat) (n0 : Int) : Option (List T) := f48_t c lf n0
theorem f48_raw (c : Orc) (lf : Nat) (n0 : Int) : funK c env lf 6 fi48 [.i .i64 n0] = f48_t c lf n0 := by kernel_rfl
theorem f48_eq (c : Orc) (lf : Nat) (n0 : Int) : funK c env lf 6 fi48 [.i .i64 n0] = f48 c lf n0 := by
  refine (f48_raw c lf n0).trans ?_
  rfl
/-- slices.IndexFunc[[]loop.example/g00285/impl.Row,loop.example/g00285/impl.Row], the loop at region 2. -/
def f20_1_s (c : Orc) (lf : Nat) (l0_1 : List T) (x97 : Int) (L : Int → Option (List T)) (x101 : Int) : Option (List T) :=
  bif iLt x101 ((l0_1.take x97.toNat).length : Int) then
    bif inR x101 ((l0_1.take x97.toNat).length) then
    bif (asS (T.cell ((l0_1.take x97.toNat).getD x101.toNat T.u) 1)).toList == (asS (T.cell (l0_1.getD x97.toNat T.u) 1)).toList then
      some [T.i .i64 0, T.i .i64 x101, T.i .i64 (asI (T.cell (l0_1.getD x97.toNat T.u) 0)), T.s (asS (T.cell (l0_1.getD x97.toNat T.u) 1)), T.b (asB (T.cell (l0_1.getD x97.toNat T.u) 2)), T.i .i64 (asI (T.cell (l0_1.getD x97.toNat T.u) 3)), T.i .i64 (asI (T.cell (l0_1.getD x97.toNat T.u) 4))]
    else
      L (IntKind.wrap .i64 (x101 + 1))
    else none
  else
    some [T.i .i64 1, T.i .i64 (asI (T.cell (l0_1.getD x97.toNat T.u) 0)), T.s (asS (T.cell (l0_1.getD x97.toNat T.u) 1)), T.b (asB (T.cell (l0_1.getD x97.toNat T.u) 2)), T.i .i64 (asI (T.cell (l0_1.getD x97.toNat T.u) 3)), T.i .i64 (asI (T.cell (l0_1.getD x97.toNat T.u) 4))]
def f20_1_c (l0_1 : List T) (x97 : Int) (x101 : Int) : CSt := ⟨[.ro 0 true [.i .i64, .s, .b, .i .i64, .i .i64] (l0_1.take x97.toNat), .fn 50 [.bp 0 0], .i .i64 ((l0_1.take x97.toNat).length : Int), .i .i64 x101], [.box [.i .i64 (asI (T.cell (l0_1.getD x97.toNat T.u) 0)), .s (asS (T.cell (l0_1.getD x97.toNat T.u) 1)), .b (asB (T.cell (l0_1.getD x97.toNat T.u) 2)), .i .i64 (asI (T.cell (l0_1.getD x97.toNat T.u) 3)), .i .i64 (asI (T.cell (l0_1.getD x97.toNat T.u) 4))]]⟩
theorem f20_1_round (c : Orc) (lf : Nat) (l0_1 : List T) (x97 : Int) (L : CSt → Option (List T)) (x101 : Int) :
    roundK c env lf 4 fi67 1 2 [] [0, 1, 7, 8] (x67_2_0) L (f20_1_c l0_1 x97 x101) = f20_1_s c lf l0_1 x97 (fun x101 => L (f20_1_c l0_1 x97 x101)) x101 := by kernel_rfl
def f20_1 (c : Orc) (lf : Nat) (l0_1 : List T) (x97 : Int) : Nat → Int → Option (List T)
  | 0 => fun _ => none
  | n + 1 => fun x101 => f20_1_s c lf l0_1 x97 (f20_1 c lf l0_1 x97 n) x101
theorem f20_1_u (c : Orc) (lf : Nat) (l0_1 : List T) (x97 : Int) (n : Nat) (x101 : Int) : f20_1 c lf l0_1 x97 (n + 1) x101 = f20_1_s c lf l0_1 x97 (f20_1 c lf l0_1 x97 n) x101 := rfl
theorem f20_1_eq (c : Orc) (lf : Nat) (l0_1 : List T) (x97 : Int) (n : Nat) (x101 : Int) :
    lpK c env lf 4 fi67 1 2 [] [0, 1, 7, 8] (x67_2_0) n (f20_1_c l0_1 x97 x101) = f20_1 c lf l0_1 x97 n x101 := by
  induction n generalizing x101 with
  | zero => rfl
  | succ n ih =>
    refine (f20_1_round c lf l0_1 x97 _ x101).trans ?_
    have e : (fun x101 => lpK c env lf 4 fi67 1 2 [] [0, 1, 7, 8] (x67_2_0) n (f20_1_c l0_1 x97 x101)) = f20_1 c lf l0_1 x97 n := by funext x101; exact ih x101
    show f20_1_s c lf l0_1 x97 (fun x101 => lpK c env lf 4 fi67 1 2 [] [0, 1, 7, 8] (x67_2_0) n (f20_1_c l0_1 x97 x101)) x101 = _
    rw [e]; rfl
/-- slices.IndexFunc[[]loop.example/g00285/impl.Row,loop.example/g00285/impl.Row], the loop at region 2. -/
def f20_2_s (c : Orc) (lf : Nat) (l0_1 : List T) (x97 : Int) (L : Int → Option (List T)) (x106 : Int) : Option (List T) :=
  bif iLt x106 ((l0_1.take x97.toNat).length : Int) then
    bif inR x106 ((l0_1.take x97.toNat).length) then
    bif (asS (T.cell ((l0_1.take x97.toNat).getD x106.toNat T.u) 1)).toList == (asS (T.cell (l0_1.getD x97.toNat T.u) 1)).toList then
      some [T.i .i64 0, T.i .i64 x106, T.i .i64 (asI (T.cell (l0_1.getD x97.toNat T.u) 0)), T.s (asS (T.cell (l0_1.getD x97.toNat T.u) 1)), T.b (asB (T.cell (l0_1.getD x97.toNat T.u) 2)), T.i .i64 (asI (T.cell (l0_1.getD x97.toNat T.u) 3)), T.i .i64 (asI (T.cell (l0_1.getD x97.toNat T.u) 4))]
    else
      L (IntKind.wrap .i64 (x106 + 1))
    else none
  else
    some [T.i .i64 1, T.i .i64 (asI (T.cell (l0_1.getD x97.toNat T.u) 0)), T.s (asS (T.cell (l0_1.getD x97.toNat T.u) 1)), T.b (asB (T.cell (l0_1.getD x97.toNat T.u) 2)), T.i .i64 (asI (T.cell (l0_1.getD x97.toNat T.u) 3)), T.i .i64 (asI (T.cell (l0_1.getD x97.toNat T.u) 4))]
def f20_2_c (l0_1 : List T) (x97 : Int) (x106 : Int) : CSt := ⟨[.ro 0 true [.i .i64, .s, .b, .i .i64, .i .i64] (l0_1.take x97.toNat), .fn 50 [.bp 0 0], .i .i64 ((l0_1.take x97.toNat).length : Int), .i .i64 x106], [.box [.i .i64 (asI (T.cell (l0_1.getD x97.toNat T.u) 0)), .s (asS (T.cell (l0_1.getD x97.toNat T.u) 1)), .b (asB (T.cell (l0_1.getD x97.toNat T.u) 2)), .i .i64 (asI (T.cell (l0_1.getD x97.toNat T.u) 3)), .i .i64 (asI (T.cell (l0_1.getD x97.toNat T.u) 4))]]⟩
theorem f20_2_round (c : Orc) (lf : Nat) (l0_1 : List T) (x97 : Int) (L : CSt → Option (List T)) (x106 : Int) :
    roundK c env lf 4 fi67 1 2 [] [0, 1, 7, 8] (x67_2_0) L (f20_2_c l0_1 x97 x106) = f20_2_s c lf l0_1 x97 (fun x106 => L (f20_2_c l0_1 x97 x106)) x106 := by kernel_rfl
def f20_2 (c : Orc) (lf : Nat) (l0_1 : List T) (x97 : Int) : Nat → Int → Option (List T)
  | 0 => fun _ => none
  | n + 1 => fun x106 => f20_2_s c lf l0_1 x97 (f20_2 c lf l0_1 x97 n) x106
theorem f20_2_u (c : Orc) (lf : Nat) (l0_1 : List T) (x97 : Int) (n : Nat) (x106 : Int) : f20_2 c lf l0_1 x97 (n + 1) x106 = f20_2_s c lf l0_1 x97 (f20_2 c lf l0_1 x97 n) x106 := rfl
theorem f20_2_eq (c : Orc) (lf : Nat) (l0_1 : List T) (x97 : Int) (n : Nat) (x106 : Int) :
    lpK c env lf 4 fi67 1 2 [] [0, 1, 7, 8] (x67_2_0) n (f20_2_c l0_1 x97 x106) = f20_2 c lf l0_1 x97 n x106 := by
  induction n generalizing x106 with
  | zero => rfl
  | succ n ih =>
    refine (f20_2_round c lf l0_1 x97 _ x106).trans ?_
    have e : (fun x106 => lpK c env lf 4 fi67 1 2 [] [0, 1, 7, 8] (x67_2_0) n (f20_2_c l0_1 x97 x106)) = f20_2 c lf l0_1 x97 n := by funext x106; exact ih x106
    show f20_2_s c lf l0_1 x97 (fun x106 => lpK c env lf 4 fi67 1 2 [] [0, 1, 7, 8] (x67_2_0) n (f20_2_c l0_1 x97 x106)) x106 = _
    rw [e]; rfl
/-- loop.example/g00285/impl.TableOk, the loop at region 2. -/
def f20_0_s (c : Orc) (lf : Nat) (l0_1 : List T) (n0_0 : Int) (L : Int → Option (List T)) (lp0 : List T → Int → Int → Option (List T)) (lp1 : List T → Int → Int → Option (List T)) (x97 : Int) : Option (List T) :=
  bif iLt x97 (l0_1.length : Int) then
    bif inR x97 l0_1.length then
    bif iLt (asI (T.cell (l0_1.getD x97.toNat T.u) 0)) 1 then
      some [T.i .i64 0, T.b false]
    else
      bif iLe n0_0 (asI (T.cell (l0_1.getD x97.toNat T.u) 0)) then
        some [T.i .i64 0, T.b false]
      else
        bif iLt 0 x97 then
          bif inR (IntKind.wrap .i64 (x97 - 1)) l0_1.length then
          bif iLe (asI (T.cell (l0_1.getD x97.toNat T.u) 0)) (asI (T.cell (l0_1.getD ((IntKind.wrap .i64 (x97 - 1)).toNat) T.u) 0)) then
            some [T.i .i64 0, T.b false]
          else
            (c 47 [T.s (asS (T.cell (l0_1.getD x97.toNat T.u) 1))]).bind fun r98 =>
            bif !(asB (nth r98 0)) then
              some [T.i .i64 0, T.b false]
            else
              (c 48 [T.i .i64 (asI (T.cell (l0_1.getD x97.toNat T.u) 3))]).bind fun r99 =>
              bif !(asB (nth r99 0)) then
                some [T.i .i64 0, T.b false]
              else
                (c 43 [T.i .i64 (asI (T.cell (l0_1.getD x97.toNat T.u) 4)), T.i .i64 0, T.i .i64 191]).bind fun r100 =>
                bif !(asB (nth r100 0)) then
                  some [T.i .i64 0, T.b false]
                else
                  bif iLe 0 x97 && iLe x97 (l0_1.length : Int) then
                  (lp0 l0_1 x97 0).bind fun r102 =>
                  bif asI (nth r102 0) == 0 then
                    bif iLe 0 (asI (nth r102 1)) then
                      some [T.i .i64 0, T.b false]
                    else
                      L (IntKind.wrap .i64 (x97 + 1))
                  else
                    L (IntKind.wrap .i64 (x97 + 1))
                  else none
          else none
        else
          (c 47 [T.s (asS (T.cell (l0_1.getD x97.toNat T.u) 1))]).bind fun r103 =>
          bif !(asB (nth r103 0)) then
            some [T.i .i64 0, T.b false]
          else
            (c 48 [T.i .i64 (asI (T.cell (l0_1.getD x97.toNat T.u) 3))]).bind fun r104 =>
            bif !(asB (nth r104 0)) then
              some [T.i .i64 0, T.b false]
            else
              (c 43 [T.i .i64 (asI (T.cell (l0_1.getD x97.toNat T.u) 4)), T.i .i64 0, T.i .i64 191]).bind fun r105 =>
              bif !(asB (nth r105 0)) then
                some [T.i .i64 0, T.b false]
              else
                bif iLe 0 x97 && iLe x97 (l0_1.length : Int) then
                (lp1 l0_1 x97 0).bind fun r107 =>
                bif asI (nth r107 0) == 0 then
                  bif iLe 0 (asI (nth r107 1)) then
                    some [T.i .i64 0, T.b false]
                  else
                    L (IntKind.wrap .i64 (x97 + 1))
                else
                  L (IntKind.wrap .i64 (x97 + 1))
                else none
    else none
  else
    some [T.i .i64 1, T.i .i64 n0_0, T.sl l0_1]
def f20_0_c (l0_1 : List T) (n0_0 : Int) (x97 : Int) : CSt := ⟨[.bp 2 0, .ro 0 true [.i .i64, .s, .b, .i .i64, .i .i64] l0_1, .i .i64 (l0_1.length : Int), .i .i64 x97], [.dead, .dead, .box [.i .i64 n0_0, .ro 0 true [.i .i64, .s, .b, .i .i64, .i .i64] l0_1]]⟩
theorem f20_0_round (c : Orc) (lf : Nat) (l0_1 : List T) (n0_0 : Int) (L : CSt → Option (List T)) (x97 : Int) :
    roundK c env lf 6 fi20 2 2 [] [1, 6, 7, 8] (x20_2_0) L (f20_0_c l0_1 n0_0 x97) = f20_0_s c lf l0_1 n0_0 (fun x97 => L (f20_0_c l0_1 n0_0 x97)) (fun (l0_1 : List T) (x97 : Int) (x101 : Int) => lpK c env lf 4 fi67 1 2 [] [0, 1, 7, 8] (x67_2_0) lf (f20_1_c l0_1 x97 x101)) (fun (l0_1 : List T) (x97 : Int) (x106 : Int) => lpK c env lf 4 fi67 1 2 [] [0, 1, 7, 8] (x67_2_0) lf (f20_2_c l0_1 x97 x106)) x97 := by kernel_rfl
def f20_0 (c : Orc) (lf : Nat) (l0_1 : List T) (n0_0 : Int) : Nat → Int → Option (List T)
  | 0 => fun _ => none
  | n + 1 => fun x97 => f20_0_s c lf l0_1 n0_0 (f20_0 c lf l0_1 n0_0 n) (fun (l0_1 : List T) (x97 : Int) (x101 : Int) => f20_1 c lf l0_1 x97 lf x101) (fun (l0_1 : List T) (x97 : Int) (x106 : Int) => f20_2 c lf l0_1 x97 lf x106) x97
theorem f20_0_u (c : Orc) (lf : Nat) (l0_1 : List T) (n0_0 : Int) (n : Nat) (x97 : Int) : f20_0 c lf l0_1 n0_0 (n + 1) x97 = f20_0_s c lf l0_1 n0_0 (f20_0 c lf l0_1 n0_0 n) (fun (l0_1 : List T) (x97 : Int) (x101 : Int) => f20_1 c lf l0_1 x97 lf x101) (fun (l0_1 : List T) (x97 : Int) (x106 : Int) => f20_2 c lf l0_1 x97 lf x106) x97 := rfl
theorem f20_0_eq (c : Orc) (lf : Nat) (l0_1 : List T) (n0_0 : Int) (n : Nat) (x97 : Int) :
    lpK c env lf 6 fi20 2 2 [] [1, 6, 7, 8] (x20_2_0) n (f20_0_c l0_1 n0_0 x97) = f20_0 c lf l0_1 n0_0 n x97 := by
  induction n generalizing x97 with
  | zero => rfl
  | succ n ih =>
    refine (f20_0_round c lf l0_1 n0_0 _ x97).trans ?_
    have e : (fun x97 => lpK c env lf 6 fi20 2 2 [] [1, 6, 7, 8] (x20_2_0) n (f20_0_c l0_1 n0_0 x97)) = f20_0 c lf l0_1 n0_0 n := by funext x97; exact ih x97
    have e0 : (fun (l0_1 : List T) (x97 : Int) (x101 : Int) => lpK c env lf 4 fi67 1 2 [] [0, 1, 7, 8] (x67_2_0) lf (f20_1_c l0_1 x97 x101)) = (fun (l0_1 : List T) (x97 : Int) (x101 : Int) => f20_1 c lf l0_1 x97 lf x101) := by funext l0_1 x97 x101; exact f20_1_eq c lf l0_1 x97 lf x101
    have e1 : (fun (l0_1 : List T) (x97 : Int) (x106 : Int) => lpK c env lf 4 fi67 1 2 [] [0, 1, 7, 8] (x67_2_0) lf (f20_2_c l0_1 x97 x106)) = (fun (l0_1 : List T) (x97 : Int) (x106 : Int) => f20_2 c lf l0_1 x97 lf x106) := by funext l0_1 x97 x106; exact f20_2_eq c lf l0_1 x97 lf x106
    show f20_0_s c lf l0_1 n0_0 (fun x97 => lpK c env lf 6 fi20 2 2 [] [1, 6, 7, 8] (x20_2_0) n (f20_0_c l0_1 n0_0 x97)) (fun (l0_1 : List T) (x97 : Int) (x101 : Int) => lpK c env lf 4 fi67 1 2 [] [0, 1, 7, 8] (x67_2_0) lf (f20_1_c l0_1 x97 x101)) (fun (l0_1 : List T) (x97 : Int) (x106 : Int) => lpK c env lf 4 fi67 1 2 [] [0, 1, 7, 8] (x67_2_0) lf (f20_2_c l0_1 x97 x106)) x97 = _
    rw [e, e0, e1]; rfl
/-- loop.example/g00285/impl.TableOk -/
def f20_t (c : Orc) (lf : Nat) (lp0 : List T → Int → Int → Option (List T)) (n0_0 : Int) (l0_1 : List T) : Option (List T) :=
  (lp0 l0_1 n0_0 0).bind fun r108 =>
  bif asI (nth r108 0) == 0 then
    some [T.b (asB (nth r108 1))]
  else
    (c 43 [T.i .i64 (asI (nth r108 1)), T.i .i64 1, T.i .i64 99]).bind fun r109 =>
    bif asB (nth r109 0) then
      some [T.b (iLe ((asL (nth r108 2)).length : Int) 6)]
    else
      some [T.b false]
def f20 (c : Orc) (lf : Nat) (n0_0 : Int) (l0_1 : List T) : Option (List T) := f20_t c lf (fun (l0_1 : List T) (n0_0 : Int) (x97 : Int) => f20_0 c lf l0_1 n0_0 lf x97) n0_0 l0_1
theorem f20_raw (c : Orc) (lf : Nat) (n0_0 : Int) (l0_1 : List T) : funK c env lf 6 fi20 [.st [.i .i64 n0_0, .sl l0_1]] = f20_t c lf (fun (l0_1 : List T) (n0_0 : Int) (x97 : Int) => lpK c env lf 6 fi20 2 2 [] [1, 6, 7, 8] (x20_2_0) lf (f20_0_c l0_1 n0_0 x97)) n0_0 l0_1 := by kernel_rfl
theorem f20_eq (c : Orc) (lf : Nat) (n0_0 : Int) (l0_1 : List T) : funK c env lf 6 fi20 [.st [.i .i64 n0_0, .sl l0_1]] = f20 c lf n0_0 l0_1 := by
  refine (f20_raw c lf n0_0 l0_1).trans ?_
  have e0 : (fun (l0_1 : List T) (n0_0 : Int) (x97 : Int) => lpK c env lf 6 fi20 2 2 [] [1, 6, 7, 8] (x20_2_0) lf (f20_0_c l0_1 n0_0 x97)) = (fun (l0_1 : List T) (n0_0 : Int) (x97 : Int) => f20_0 c lf l0_1 n0_0 lf x97) := by funext l0_1 n0_0 x97; exact f20_0_eq c lf l0_1 n0_0 lf x97
  rw [e0]; rfl
/-- loop.example/g00285/laws.eqRow -/
def f68_t (c : Orc) (lf : Nat) (n0_0 : Int) (s0_1 : ByteArray) (b0_2 : Bool) (n0_3 : Int) (n0_4 : Int) (n1_0 : Int) (s1_1 : ByteArray) (b1_2 : Bool) (n1_3 : Int) (n1_4 : Int) : Option (List T) :=
  bif n0_0 != n1_0 then
    some [T.b false]
  else
    bif !(s0_1.toList == s1_1.toList) then
      some [T.b false]
    else
      bif !(b0_2 == b1_2) then
        some [T.b false]
      else
        bif n0_3 != n1_3 then
          some [T.b false]
        else
          bif n0_4 != n1_4 then
            some [T.b false]
          else
            some [T.b true]
def f68 (c : Orc) (lf : Nat) (n0_0 : Int) (s0_1 : ByteArray) (b0_2 : Bool) (n0_3 : Int) (n0_4 : Int) (n1_0 : Int) (s1_1 : ByteArray) (b1_2 : Bool) (n1_3 : Int) (n1_4 : Int) : Option (List T) := f68_t c lf n0_0 s0_1 b0_2 n0_3 n0_4 n1_0 s1_1 b1_2 n1_3 n1_4
theorem f68_raw (c : Orc) (lf : Nat) (n0_0 : Int) (s0_1 : ByteArray) (b0_2 : Bool) (n0_3 : Int) (n0_4 : Int) (n1_0 : Int) (s1_1 : ByteArray) (b1_2 : Bool) (n1_3 : Int) (n1_4 : Int) : funK c env lf 6 fi68 [.st [.i .i64 n0_0, .s s0_1, .b b0_2, .i .i64 n0_3, .i .i64 n0_4], .st [.i .i64 n1_0, .s s1_1, .b b1_2, .i .i64 n1_3, .i .i64 n1_4]] = f68_t c lf n0_0 s0_1 b0_2 n0_3 n0_4 n1_0 s1_1 b1_2 n1_3 n1_4 := by kernel_rfl
theorem f68_eq (c : Orc) (lf : Nat) (n0_0 : Int) (s0_1 : ByteArray) (b0_2 : Bool) (n0_3 : Int) (n0_4 : Int) (n1_0 : Int) (s1_1 : ByteArray) (b1_2 : Bool) (n1_3 : Int) (n1_4 : Int) : funK c env lf 6 fi68 [.st [.i .i64 n0_0, .s s0_1, .b b0_2, .i .i64 n0_3, .i .i64 n0_4], .st [.i .i64 n1_0, .s s1_1, .b b1_2, .i .i64 n1_3, .i .i64 n1_4]] = f68 c lf n0_0 s0_1 b0_2 n0_3 n0_4 n1_0 s1_1 b1_2 n1_3 n1_4 := by
  refine (f68_raw c lf n0_0 s0_1 b0_2 n0_3 n0_4 n1_0 s1_1 b1_2 n1_3 n1_4).trans ?_
  rfl
/-- loop.example/g00285/laws.eqRowS, the loop at region 4. -/
def f51_0_s (c : Orc) (lf : Nat) (l0 : List T) (l1 : List T) (L : Int → Option (List T)) (x115 : Int) : Option (List T) :=
  bif iLt x115 (l0.length : Int) then
    bif inR x115 l0.length then
    bif inR x115 l1.length then
    (c 68 [T.st [T.i .i64 (asI (T.cell (l0.getD x115.toNat T.u) 0)), T.s (asS (T.cell (l0.getD x115.toNat T.u) 1)), T.b (asB (T.cell (l0.getD x115.toNat T.u) 2)), T.i .i64 (asI (T.cell (l0.getD x115.toNat T.u) 3)), T.i .i64 (asI (T.cell (l0.getD x115.toNat T.u) 4))], T.st [T.i .i64 (asI (T.cell (l1.getD x115.toNat T.u) 0)), T.s (asS (T.cell (l1.getD x115.toNat T.u) 1)), T.b (asB (T.cell (l1.getD x115.toNat T.u) 2)), T.i .i64 (asI (T.cell (l1.getD x115.toNat T.u) 3)), T.i .i64 (asI (T.cell (l1.getD x115.toNat T.u) 4))]]).bind fun r116 =>
    bif !(asB (nth r116 0)) then
      some [T.i .i64 0, T.b false]
    else
      L (IntKind.wrap .i64 (x115 + 1))
    else none
    else none
  else
    some [T.i .i64 1]
def f51_0_c (l0 : List T) (l1 : List T) (x115 : Int) : CSt := ⟨[.ro 0 true [.i .i64, .s, .b, .i .i64, .i .i64] l0, .ro 0 true [.i .i64, .s, .b, .i .i64, .i .i64] l1, .i .i64 x115], [.dead, .dead]⟩
theorem f51_0_round (c : Orc) (lf : Nat) (l0 : List T) (l1 : List T) (L : CSt → Option (List T)) (x115 : Int) :
    roundK c env lf 6 fi51 2 4 [] [0, 1, 5] (x51_4_0) L (f51_0_c l0 l1 x115) = f51_0_s c lf l0 l1 (fun x115 => L (f51_0_c l0 l1 x115)) x115 := by kernel_rfl
def f51_0 (c : Orc) (lf : Nat) (l0 : List T) (l1 : List T) : Nat → Int → Option (List T)
  | 0 => fun _ => none
  | n + 1 => fun x115 => f51_0_s c lf l0 l1 (f51_0 c lf l0 l1 n) x115
theorem f51_0_u (c : Orc) (lf : Nat) (l0 : List T) (l1 : List T) (n : Nat) (x115 : Int) : f51_0 c lf l0 l1 (n + 1) x115 = f51_0_s c lf l0 l1 (f51_0 c lf l0 l1 n) x115 := rfl
theorem f51_0_eq (c : Orc) (lf : Nat) (l0 : List T) (l1 : List T) (n : Nat) (x115 : Int) :
    lpK c env lf 6 fi51 2 4 [] [0, 1, 5] (x51_4_0) n (f51_0_c l0 l1 x115) = f51_0 c lf l0 l1 n x115 := by
  induction n generalizing x115 with
  | zero => rfl
  | succ n ih =>
    refine (f51_0_round c lf l0 l1 _ x115).trans ?_
    have e : (fun x115 => lpK c env lf 6 fi51 2 4 [] [0, 1, 5] (x51_4_0) n (f51_0_c l0 l1 x115)) = f51_0 c lf l0 l1 n := by funext x115; exact ih x115
    show f51_0_s c lf l0 l1 (fun x115 => lpK c env lf 6 fi51 2 4 [] [0, 1, 5] (x51_4_0) n (f51_0_c l0 l1 x115)) x115 = _
    rw [e]; rfl
/-- loop.example/g00285/laws.eqRowS -/
def f51_t (c : Orc) (lf : Nat) (lp0 : List T → List T → Int → Option (List T)) (l0 : List T) (l1 : List T) : Option (List T) :=
  bif (l0.length : Int) != (l1.length : Int) then
    some [T.b false]
  else
    (lp0 l0 l1 0).bind fun r117 =>
    bif asI (nth r117 0) == 0 then
      some [T.b (asB (nth r117 1))]
    else
      some [T.b true]
def f51 (c : Orc) (lf : Nat) (l0 : List T) (l1 : List T) : Option (List T) := f51_t c lf (fun (l0 : List T) (l1 : List T) (x115 : Int) => f51_0 c lf l0 l1 lf x115) l0 l1
theorem f51_raw (c : Orc) (lf : Nat) (l0 : List T) (l1 : List T) : funK c env lf 6 fi51 [.sl l0, .sl l1] = f51_t c lf (fun (l0 : List T) (l1 : List T) (x115 : Int) => lpK c env lf 6 fi51 2 4 [] [0, 1, 5] (x51_4_0) lf (f51_0_c l0 l1 x115)) l0 l1 := by kernel_rfl
theorem f51_eq (c : Orc) (lf : Nat) (l0 : List T) (l1 : List T) : funK c env lf 6 fi51 [.sl l0, .sl l1] = f51 c lf l0 l1 := by
  refine (f51_raw c lf l0 l1).trans ?_
  have e0 : (fun (l0 : List T) (l1 : List T) (x115 : Int) => lpK c env lf 6 fi51 2 4 [] [0, 1, 5] (x51_4_0) lf (f51_0_c l0 l1 x115)) = (fun (l0 : List T) (l1 : List T) (x115 : Int) => f51_0 c lf l0 l1 lf x115) := by funext l0 l1 x115; exact f51_0_eq c lf l0 l1 lf x115
  rw [e0]; rfl
/-- loop.example/g00285/laws.eqTable -/
def f21_t (c : Orc) (lf : Nat) (n0_0 : Int) (l0_1 : List T) (n1_0 : Int) (l1_1 : List T) : Option (List T) :=
  bif n0_0 != n1_0 then
    some [T.b false]
  else
    (c 51 [T.sl l0_1, T.sl l1_1]).bind fun r118 =>
    bif !(asB (nth r118 0)) then
      some [T.b false]
    else
      some [T.b true]
def f21 (c : Orc) (lf : Nat) (n0_0 : Int) (l0_1 : List T) (n1_0 : Int) (l1_1 : List T) : Option (List T) := f21_t c lf n0_0 l0_1 n1_0 l1_1
theorem f21_raw (c : Orc) (lf : Nat) (n0_0 : Int) (l0_1 : List T) (n1_0 : Int) (l1_1 : List T) : funK c env lf 6 fi21 [.st [.i .i64 n0_0, .sl l0_1], .st [.i .i64 n1_0, .sl l1_1]] = f21_t c lf n0_0 l0_1 n1_0 l1_1 := by kernel_rfl
theorem f21_eq (c : Orc) (lf : Nat) (n0_0 : Int) (l0_1 : List T) (n1_0 : Int) (l1_1 : List T) : funK c env lf 6 fi21 [.st [.i .i64 n0_0, .sl l0_1], .st [.i .i64 n1_0, .sl l1_1]] = f21 c lf n0_0 l0_1 n1_0 l1_1 := by
  refine (f21_raw c lf n0_0 l0_1 n1_0 l1_1).trans ?_
  rfl
/-- loop.example/g00285/laws.FnExactTableOk -/
def f5_t (c : Orc) (lf : Nat) (n0_0 : Int) (l0_1 : List T) : Option (List T) :=
  (c 17 [T.st [T.i .i64 n0_0, T.sl l0_1], T.i .i64 1048576]).bind fun r119 =>
  bif iLt (asI (nth r119 0)) 0 then
    some [T.b true]
  else
    (c 19 [T.st [T.i .i64 n0_0, T.sl l0_1]]).bind fun r120 =>
    (c 18 [T.st [T.i .i64 (asI (T.cell (nth r120 0) 0)), T.sl (asL (T.cell (nth r120 0) 1))]]).bind fun r121 =>
    (c 19 [T.st [T.i .i64 n0_0, T.sl l0_1]]).bind fun r122 =>
    (c 20 [T.st [T.i .i64 (asI (T.cell (nth r122 0) 0)), T.sl (asL (T.cell (nth r122 0) 1))]]).bind fun r123 =>
    bif !((asB (nth r123 0)) == (asB (nth r121 0))) then
      some [T.b false]
    else
      (c 19 [T.st [T.i .i64 n0_0, T.sl l0_1]]).bind fun r124 =>
      (c 21 [T.st [T.i .i64 (asI (T.cell (nth r122 0) 0)), T.sl (asL (T.cell (nth r122 0) 1))], T.st [T.i .i64 (asI (T.cell (nth r124 0) 0)), T.sl (asL (T.cell (nth r124 0) 1))]]).bind fun r125 =>
      bif !(asB (nth r125 0)) then
        some [T.b false]
      else
        some [T.b true]
def f5 (c : Orc) (lf : Nat) (n0_0 : Int) (l0_1 : List T) : Option (List T) := f5_t c lf n0_0 l0_1
theorem f5_raw (c : Orc) (lf : Nat) (n0_0 : Int) (l0_1 : List T) : funK c env lf 6 fi5 [.st [.i .i64 n0_0, .sl l0_1]] = f5_t c lf n0_0 l0_1 := by kernel_rfl
theorem f5_eq (c : Orc) (lf : Nat) (n0_0 : Int) (l0_1 : List T) : funK c env lf 6 fi5 [.st [.i .i64 n0_0, .sl l0_1]] = f5 c lf n0_0 l0_1 := by
  refine (f5_raw c lf n0_0 l0_1).trans ?_
  rfl
end Go.Proofs.Ytejeinhdlcgkgaa.T
