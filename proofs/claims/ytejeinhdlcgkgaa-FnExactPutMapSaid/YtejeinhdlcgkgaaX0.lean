/- What functions of the law FnExactPutMap come to, in trees; no condition. -/
import Derived.Test.YtejeinhdlcgkgaaRows
import Derived.Test.YtejeinhdlcgkgaaV4
import Derived.KernelRfl
set_option linter.unusedVariables false
set_option linter.constructorNameAsVariable false
set_option linter.unusedSimpArgs false
set_option linter.unnecessarySimpa false
namespace Go.Proofs.Ytejeinhdlcgkgaa.T
open Go Go.Proofs.YtejeinhdlcgkgaaV
def tyTab : List (Nat × Ti) := [
  (3, ⟨false, [.i .i64], .o⟩),
  (4, ⟨false, [.b], .o⟩),
  (5, ⟨false, [.i .u8], .o⟩),
  (22, ⟨false, [.sl true [.i .i64, .i .i64]], .sl 98⟩),
  (24, ⟨true, [.i .i64, .sl true [.i .i64, .i .i64]], .st [(0, 3), (1, 22)]⟩),
  (27, ⟨false, [.sl true [.i .i64, .i .i64]], .sl 67⟩),
  (29, ⟨true, [.i .i64, .sl true [.i .i64, .i .i64]], .st [(0, 3), (1, 27)]⟩),
  (57, ⟨false, [.sl false [.i .u8]], .sl 5⟩),
  (67, ⟨true, [.i .i64, .i .i64], .st [(0, 3), (1, 3)]⟩),
  (98, ⟨true, [.i .i64, .i .i64], .st [(0, 3), (1, 3)]⟩),
  (111, ⟨false, [.i .u64], .o⟩)]
noncomputable def fi39 : Fi := ⟨Try.f39, [], false, [.ro (.sl true [.i .i64, .i .i64]), .v (.i .i64)], [.v (.i .i64)]⟩
noncomputable def fi10 : Fi := ⟨Try.f10, [], false, [.ag [.v (.i .i64), .ro (.sl true [.i .i64, .i .i64])], .v (.i .i64)], [.v (.i .i64)]⟩
noncomputable def fi63 : Fi := ⟨Try.f63, [], false, [.ag [.v (.i .i64), .v (.i .i64)]], [.ag [.v (.i .i64), .v (.i .i64)]]⟩
def x40_3_0 : List (Ex × List Nat × CSt) := [((.ex 0), [3], ⟨[.rf 1 [] 0 none], [.dead, .row true [.i .i64, .i .i64] [] 0 false]⟩)]
noncomputable def fi40 : Fi := ⟨Try.f40, [⟨3, [0, 3, 4], [], [(⟨[.ro 0 true [.i .i64, .i .i64] [], .rf 1 [] 0 none, .i .i64 0], [.dead, .row true [.i .i64, .i .i64] [] 0 false]⟩, x40_3_0)]⟩], false, [.ro (.sl true [.i .i64, .i .i64])], [.ow (.sl true [.i .i64, .i .i64])]⟩
noncomputable def fi12 : Fi := ⟨Try.f12, [], false, [.ag [.v (.i .i64), .ro (.sl true [.i .i64, .i .i64])]], [.ag [.v (.i .i64), .ow (.sl true [.i .i64, .i .i64])]]⟩
noncomputable def fi42 : Fi := ⟨Try.f42, [], false, [.v (.i .i64), .v (.i .i64), .v (.i .i64)], [.v (.b)]⟩
def x15_2_0 : List (Ex × List Nat × CSt) := [(.ret, [2], ⟨[.b false], [.dead, .dead]⟩), ((.ex 0), [1], ⟨[.bp 2 0], [.dead, .dead, .box [.i .i64 0, .ro 0 true [.i .i64, .i .i64] []]]⟩)]
noncomputable def fi15 : Fi := ⟨Try.f15, [⟨2, [1, 3], [], [(⟨[.bp 2 0, .i .i64 0], [.dead, .dead, .box [.i .i64 0, .ro 0 true [.i .i64, .i .i64] []]]⟩, x15_2_0)]⟩], false, [.ag [.v (.i .i64), .ro (.sl true [.i .i64, .i .i64])]], [.v (.b)]⟩
def x55_6_0 : List (Ex × List Nat × CSt) := [((.ex 0), [1, 5], ⟨[.i .i64 0, .rf 2 [] 0 none], [.dead, .dead, .row false [.i .u8] [] 0 false]⟩)]
noncomputable def fi55 : Fi := ⟨Try.f55, [⟨6, [1, 5], [], [(⟨[.i .i64 0, .rf 2 [] 0 none], [.dead, .dead, .row false [.i .u8] [] 0 false]⟩, x55_6_0)]⟩], false, [.ro (.sl false [.i .u8]), .v (.i .i64)], [.ow (.sl false [.i .u8])]⟩
def x27_5_0 : List (Ex × List Nat × CSt) := [((.ex 0), [3], ⟨[.rf 2 [] 0 none], [.dead, .dead, .row false [.i .u8] [] 0 false]⟩)]
noncomputable def fi27 : Fi := ⟨Try.f27, [⟨5, [1, 3, 4], [], [(⟨[.bp 2 0, .rf 3 [] 0 none, .i .i64 0], [.dead, .dead, .box [.i .i64 0, .ro 0 true [.i .i64, .i .i64] []], .row false [.i .u8] [] 0 false]⟩, x27_5_0)]⟩], false, [.ag [.v (.i .i64), .ro (.sl true [.i .i64, .i .i64])]], [.ow (.sl false [.i .u8])]⟩
noncomputable def fi43 : Fi := ⟨Try.f43, [], false, [.v (.i .i64), .v (.i .i64), .v (.i .i64)], [.v (.b)]⟩
def x16_2_0 : List (Ex × List Nat × CSt) := [(.ret, [2], ⟨[.b false], [.dead, .dead]⟩), ((.ex 0), [1], ⟨[.bp 2 0], [.dead, .dead, .box [.i .i64 0, .ro 0 true [.i .i64, .i .i64] []]]⟩)]
noncomputable def fi16 : Fi := ⟨Try.f16, [⟨2, [1, 6, 7, 8], [], [(⟨[.bp 2 0, .ro 0 true [.i .i64, .i .i64] [], .i .i64 0, .i .i64 0], [.dead, .dead, .box [.i .i64 0, .ro 0 true [.i .i64, .i .i64] []]]⟩, x16_2_0)]⟩], false, [.ag [.v (.i .i64), .ro (.sl true [.i .i64, .i .i64])]], [.v (.b)]⟩
noncomputable def fi72 : Fi := ⟨Try.f72, [], false, [.ro (.sl false [.i .u8])], [.ow (.sl false [.i .u8])]⟩
def x56_3_0 : List (Ex × List Nat × CSt) := [((.ex 0), [1, 5], ⟨[.i .i64 0, .rf 2 [] 0 none], [.dead, .dead, .row false [.i .u8] [] 0 false]⟩)]
noncomputable def fi56 : Fi := ⟨Try.f56, [⟨3, [1, 5], [], [(⟨[.i .i64 0, .rf 2 [] 0 none], [.dead, .dead, .row false [.i .u8] [] 0 false]⟩, x56_3_0)]⟩], false, [.ro (.sl false [.i .u8]), .v (.i .i64)], [.ow (.sl false [.i .u8])]⟩
def x28_5_0 : List (Ex × List Nat × CSt) := [((.ex 0), [3], ⟨[.rf 2 [] 0 none], [.dead, .dead, .row false [.i .u8] [] 0 false]⟩)]
noncomputable def fi28 : Fi := ⟨Try.f28, [⟨5, [3, 17, 18, 19], [], [(⟨[.rf 2 [] 0 none, .ro 0 true [.i .i64, .i .i64] [], .i .i64 0, .i .i64 0], [.dead, .dead, .row false [.i .u8] [] 0 false]⟩, x28_5_0)]⟩], false, [.ag [.v (.i .i64), .ro (.sl true [.i .i64, .i .i64])]], [.ow (.sl false [.i .u8])]⟩
def x29_4_0 : List (Ex × List Nat × CSt) := [(.ret, [4], ⟨[.b false], [.dead, .dead]⟩), ((.ex 0), [], ⟨[], [.dead, .dead]⟩)]
noncomputable def fi29 : Fi := ⟨Try.f29, [⟨4, [0, 1, 5], [], [(⟨[.ro 0 false [.i .u8] [], .ro 0 false [.i .u8] [], .i .i64 0], [.dead, .dead]⟩, x29_4_0)]⟩], false, [.ro (.sl false [.i .u8]), .ro (.sl false [.i .u8])], [.v (.b)]⟩
noncomputable def fi64 : Fi := ⟨Try.f64, [], false, [.ag [.v (.i .i64), .v (.i .i64)], .ag [.v (.i .i64), .v (.i .i64)]], [.v (.b)]⟩
def x41_4_0 : List (Ex × List Nat × CSt) := [(.ret, [4], ⟨[.b false], [.dead, .dead]⟩), ((.ex 0), [], ⟨[], [.dead, .dead]⟩)]
noncomputable def fi41 : Fi := ⟨Try.f41, [⟨4, [0, 1, 5], [], [(⟨[.ro 0 true [.i .i64, .i .i64] [], .ro 0 true [.i .i64, .i .i64] [], .i .i64 0], [.dead, .dead]⟩, x41_4_0)]⟩], false, [.ro (.sl true [.i .i64, .i .i64]), .ro (.sl true [.i .i64, .i .i64])], [.v (.b)]⟩
noncomputable def fi14 : Fi := ⟨Try.f14, [], false, [.ag [.v (.i .i64), .ro (.sl true [.i .i64, .i .i64])], .ag [.v (.i .i64), .ro (.sl true [.i .i64, .i .i64])]], [.v (.b)]⟩
def x57_2_0 : List (Ex × List Nat × CSt) := [((.ex 0), [1], ⟨[.i .i64 0], [.row true [.i .i64, .i .i64] [] 0 false, .dead]⟩)]
noncomputable def fi57 : Fi := ⟨Try.f57, [⟨2, [0, 1, 5], [], [(⟨[.rf 0 [] 0 none, .i .i64 0, .i .i64 0], [.row true [.i .i64, .i .i64] [] 0 false, .dead]⟩, x57_2_0)]⟩], false, [.ow (.sl true [.i .i64, .i .i64]), .v (.i .i64)], [.v (.i .i64)]⟩
noncomputable def fi30 : Fi := ⟨Try.f30, [], false, [.ag [.v (.i .i64), .ow (.sl true [.i .i64, .i .i64])], .v (.i .i64)], [.v (.i .i64)]⟩
def x31_2_0 : List (Ex × List Nat × CSt) := [((.ex 0), [1], ⟨[.i .i64 0], [.row false [.i .u8] [] 0 false, .dead]⟩)]
noncomputable def fi31 : Fi := ⟨Try.f31, [⟨2, [0, 1, 5], [], [(⟨[.rf 0 [] 0 none, .i .i64 0, .i .i64 0], [.row false [.i .u8] [] 0 false, .dead]⟩, x31_2_0)]⟩], false, [.ow (.sl false [.i .u8]), .v (.i .i64)], [.v (.i .i64)]⟩
def x32_2_0 : List (Ex × List Nat × CSt) := [(.ret, [4], ⟨[.i .i64 0], [.dead, .dead]⟩), ((.ex 0), [1], ⟨[.i .i64 0], [.dead, .dead]⟩)]
noncomputable def fi32 : Fi := ⟨Try.f32, [⟨2, [0, 1, 5], [], [(⟨[.ro 0 false [.i .u8] [], .i .i64 0, .i .i64 0], [.dead, .dead]⟩, x32_2_0)]⟩], false, [.ro (.sl false [.i .u8]), .v (.i .i64)], [.v (.i .i64)]⟩
noncomputable def fi7 : Fi := ⟨Try.f7, [], false, [.ag [.v (.i .i64), .ro (.sl true [.i .i64, .i .i64])]], [.v (.b)]⟩
noncomputable def fiTab : List (Nat × Fi) := [(39, fi39), (10, fi10), (63, fi63), (40, fi40), (12, fi12), (42, fi42), (15, fi15), (55, fi55), (27, fi27), (43, fi43), (16, fi16), (72, fi72), (56, fi56), (28, fi28), (29, fi29), (64, fi64), (41, fi41), (14, fi14), (57, fi57), (30, fi30), (31, fi31), (32, fi32), (7, fi7)]
-- EXT 72 clone 57 5
def X : Nat → Option (List T → Option (List T)) := lookN [(72, cloneF)]
noncomputable def env : Env := ⟨lookN fiTab, lookN tyTab⟩
-- FUNCTIONS
/-- loop.example/g00285/laws.szPlaceS -/
def f39_t (c : Orc) (lf : Nat) (l0 : List T) (n1 : Int) : Option (List T) :=
  bif iLt (IntKind.wrap .i64 (n1 - (l0.length : Int))) 0 then
    some [T.i .i64 (-1)]
  else
    some [T.i .i64 (IntKind.wrap .i64 (n1 - (l0.length : Int)))]
def f39 (c : Orc) (lf : Nat) (l0 : List T) (n1 : Int) : Option (List T) := f39_t c lf l0 n1
theorem f39_raw (c : Orc) (lf : Nat) (l0 : List T) (n1 : Int) : funK c env lf 6 fi39 [.sl l0, .i .i64 n1] = f39_t c lf l0 n1 := by kernel_rfl
theorem f39_eq (c : Orc) (lf : Nat) (l0 : List T) (n1 : Int) : funK c env lf 6 fi39 [.sl l0, .i .i64 n1] = f39 c lf l0 n1 := by
  refine (f39_raw c lf l0 n1).trans ?_
  rfl
/-- loop.example/g00285/laws.szMap -/
def f10_t (c : Orc) (lf : Nat) (n0_0 : Int) (l0_1 : List T) (n1 : Int) : Option (List T) :=
  (c 39 [T.sl l0_1, T.i .i64 n1]).bind fun r1 =>
  bif iLt (asI (nth r1 0)) 0 then
    some [T.i .i64 (-1)]
  else
    some [T.i .i64 (asI (nth r1 0))]
def f10 (c : Orc) (lf : Nat) (n0_0 : Int) (l0_1 : List T) (n1 : Int) : Option (List T) := f10_t c lf n0_0 l0_1 n1
theorem f10_raw (c : Orc) (lf : Nat) (n0_0 : Int) (l0_1 : List T) (n1 : Int) : funK c env lf 6 fi10 [.st [.i .i64 n0_0, .sl l0_1], .i .i64 n1] = f10_t c lf n0_0 l0_1 n1 := by kernel_rfl
theorem f10_eq (c : Orc) (lf : Nat) (n0_0 : Int) (l0_1 : List T) (n1 : Int) : funK c env lf 6 fi10 [.st [.i .i64 n0_0, .sl l0_1], .i .i64 n1] = f10 c lf n0_0 l0_1 n1 := by
  refine (f10_raw c lf n0_0 l0_1 n1).trans ?_
  rfl
/-- loop.example/g00285/laws.toPlace -/
def f63_t (c : Orc) (lf : Nat) (n0_0 : Int) (n0_1 : Int) : Option (List T) :=
  some [T.st [T.i .i64 n0_0, T.i .i64 n0_1]]
def f63 (c : Orc) (lf : Nat) (n0_0 : Int) (n0_1 : Int) : Option (List T) := f63_t c lf n0_0 n0_1
theorem f63_raw (c : Orc) (lf : Nat) (n0_0 : Int) (n0_1 : Int) : funK c env lf 6 fi63 [.st [.i .i64 n0_0, .i .i64 n0_1]] = f63_t c lf n0_0 n0_1 := by kernel_rfl
theorem f63_eq (c : Orc) (lf : Nat) (n0_0 : Int) (n0_1 : Int) : funK c env lf 6 fi63 [.st [.i .i64 n0_0, .i .i64 n0_1]] = f63 c lf n0_0 n0_1 := by
  refine (f63_raw c lf n0_0 n0_1).trans ?_
  rfl
/-- loop.example/g00285/laws.toPlaceS, the loop at region 3. -/
def f40_0_s (c : Orc) (lf : Nat) (l0 : List T) (L : Int → List T → Option (List T)) (x8 : Int) (x9 : List T) : Option (List T) :=
  bif iLt x8 (l0.length : Int) then
    bif inR x8 l0.length then
    (c 63 [T.st [T.i .i64 (asI (T.cell (l0.getD x8.toNat T.u) 0)), T.i .i64 (asI (T.cell (l0.getD x8.toNat T.u) 1))]]).bind fun r10 =>
    bif inR x8 x9.length then
    L (IntKind.wrap .i64 (x8 + 1)) (x9.set x8.toNat (T.st [T.i .i64 (asI (T.cell (nth r10 0) 0)), T.i .i64 (asI (T.cell (nth r10 0) 1))]))
    else none
    else none
  else
    some [T.i .i64 0, T.sl x9]
def f40_0_c (l0 : List T) (x8 : Int) (x9 : List T) : CSt := ⟨[.ro 0 true [.i .i64, .i .i64] l0, .rf 1 [] 0 none, .i .i64 x8], [.dead, .row true [.i .i64, .i .i64] x9 0 false]⟩
theorem f40_0_round (c : Orc) (lf : Nat) (l0 : List T) (L : CSt → Option (List T)) (x8 : Int) (x9 : List T) :
    roundK c env lf 6 fi40 1 3 [] [0, 3, 4] (x40_3_0) L (f40_0_c l0 x8 x9) = f40_0_s c lf l0 (fun x8 x9 => L (f40_0_c l0 x8 x9)) x8 x9 := by kernel_rfl
def f40_0 (c : Orc) (lf : Nat) (l0 : List T) : Nat → Int → List T → Option (List T)
  | 0 => fun _ _ => none
  | n + 1 => fun x8 x9 => f40_0_s c lf l0 (f40_0 c lf l0 n) x8 x9
theorem f40_0_u (c : Orc) (lf : Nat) (l0 : List T) (n : Nat) (x8 : Int) (x9 : List T) : f40_0 c lf l0 (n + 1) x8 x9 = f40_0_s c lf l0 (f40_0 c lf l0 n) x8 x9 := rfl
theorem f40_0_eq (c : Orc) (lf : Nat) (l0 : List T) (n : Nat) (x8 : Int) (x9 : List T) :
    lpK c env lf 6 fi40 1 3 [] [0, 3, 4] (x40_3_0) n (f40_0_c l0 x8 x9) = f40_0 c lf l0 n x8 x9 := by
  induction n generalizing x8 x9 with
  | zero => rfl
  | succ n ih =>
    refine (f40_0_round c lf l0 _ x8 x9).trans ?_
    have e : (fun x8 x9 => lpK c env lf 6 fi40 1 3 [] [0, 3, 4] (x40_3_0) n (f40_0_c l0 x8 x9)) = f40_0 c lf l0 n := by funext x8 x9; exact ih x8 x9
    show f40_0_s c lf l0 (fun x8 x9 => lpK c env lf 6 fi40 1 3 [] [0, 3, 4] (x40_3_0) n (f40_0_c l0 x8 x9)) x8 x9 = _
    rw [e]; rfl
/-- loop.example/g00285/laws.toPlaceS -/
def f40_t (c : Orc) (lf : Nat) (lp0 : List T → Int → List T → Option (List T)) (l0 : List T) : Option (List T) :=
  bif iLe 0 (l0.length : Int) && iLe (l0.length : Int) (LIM : Int) && ((l0.length : Int) == (l0.length : Int)) then
  (lp0 l0 0 (List.replicate (l0.length : Int).toNat (T.st [T.i .i64 0, T.i .i64 0]))).bind fun r11 =>
  some [T.sl (asL (nth r11 1))]
  else none
def f40 (c : Orc) (lf : Nat) (l0 : List T) : Option (List T) := f40_t c lf (fun (l0 : List T) (x8 : Int) (x9 : List T) => f40_0 c lf l0 lf x8 x9) l0
theorem f40_raw (c : Orc) (lf : Nat) (l0 : List T) : funK c env lf 6 fi40 [.sl l0] = f40_t c lf (fun (l0 : List T) (x8 : Int) (x9 : List T) => lpK c env lf 6 fi40 1 3 [] [0, 3, 4] (x40_3_0) lf (f40_0_c l0 x8 x9)) l0 := by kernel_rfl
theorem f40_eq (c : Orc) (lf : Nat) (l0 : List T) : funK c env lf 6 fi40 [.sl l0] = f40 c lf l0 := by
  refine (f40_raw c lf l0).trans ?_
  have e0 : (fun (l0 : List T) (x8 : Int) (x9 : List T) => lpK c env lf 6 fi40 1 3 [] [0, 3, 4] (x40_3_0) lf (f40_0_c l0 x8 x9)) = (fun (l0 : List T) (x8 : Int) (x9 : List T) => f40_0 c lf l0 lf x8 x9) := by funext l0 x8 x9; exact f40_0_eq c lf l0 lf x8 x9
  rw [e0]; rfl
/-- loop.example/g00285/laws.toMap -/
def f12_t (c : Orc) (lf : Nat) (n0_0 : Int) (l0_1 : List T) : Option (List T) :=
  (c 40 [T.sl l0_1]).bind fun r12 =>
  some [T.st [T.i .i64 n0_0, T.sl (asL (nth r12 0))]]
def f12 (c : Orc) (lf : Nat) (n0_0 : Int) (l0_1 : List T) : Option (List T) := f12_t c lf n0_0 l0_1
theorem f12_raw (c : Orc) (lf : Nat) (n0_0 : Int) (l0_1 : List T) : funK c env lf 6 fi12 [.st [.i .i64 n0_0, .sl l0_1]] = f12_t c lf n0_0 l0_1 := by kernel_rfl
theorem f12_eq (c : Orc) (lf : Nat) (n0_0 : Int) (l0_1 : List T) : funK c env lf 6 fi12 [.st [.i .i64 n0_0, .sl l0_1]] = f12 c lf n0_0 l0_1 := by
  refine (f12_raw c lf n0_0 l0_1).trans ?_
  rfl
/-- loop.example/g00285/spec.l1In -/
def f42_t (c : Orc) (lf : Nat) (n0 : Int) (n1 : Int) (n2 : Int) : Option (List T) :=
  bif iLe n1 n0 then
    some [T.b (iLe n0 n2)]
  else
    some [T.b false]
def f42 (c : Orc) (lf : Nat) (n0 : Int) (n1 : Int) (n2 : Int) : Option (List T) := f42_t c lf n0 n1 n2
theorem f42_raw (c : Orc) (lf : Nat) (n0 : Int) (n1 : Int) (n2 : Int) : funK c env lf 6 fi42 [.i .i64 n0, .i .i64 n1, .i .i64 n2] = f42_t c lf n0 n1 n2 := by kernel_rfl
theorem f42_eq (c : Orc) (lf : Nat) (n0 : Int) (n1 : Int) (n2 : Int) : funK c env lf 6 fi42 [.i .i64 n0, .i .i64 n1, .i .i64 n2] = f42 c lf n0 n1 n2 := by
  refine (f42_raw c lf n0 n1 n2).trans ?_
  rfl
/-- loop.example/g00285/spec.MapOk, the loop at region 2. -/
def f15_0_s (c : Orc) (lf : Nat) (l0_1 : List T) (n0_0 : Int) (L : Int → Option (List T)) (x19 : Int) : Option (List T) :=
  bif iLt x19 (l0_1.length : Int) then
    bif inR x19 l0_1.length then
    bif iLt (asI (T.cell (l0_1.getD x19.toNat T.u) 0)) 1 then
      some [T.i .i64 0, T.b false]
    else
      bif iLe n0_0 (asI (T.cell (l0_1.getD x19.toNat T.u) 0)) then
        some [T.i .i64 0, T.b false]
      else
        (c 42 [T.i .i64 (asI (T.cell (l0_1.getD x19.toNat T.u) 1)), T.i .i64 0, T.i .i64 191]).bind fun r20 =>
        bif !(asB (nth r20 0)) then
          some [T.i .i64 0, T.b false]
        else
          bif iLt 0 x19 then
            bif inR (IntKind.wrap .i64 (x19 - 1)) l0_1.length then
            bif iLe (asI (T.cell (l0_1.getD x19.toNat T.u) 0)) (asI (T.cell (l0_1.getD ((IntKind.wrap .i64 (x19 - 1)).toNat) T.u) 0)) then
              some [T.i .i64 0, T.b false]
            else
              L (IntKind.wrap .i64 (x19 + 1))
            else none
          else
            L (IntKind.wrap .i64 (x19 + 1))
    else none
  else
    some [T.i .i64 1, T.i .i64 n0_0, T.sl l0_1]
def f15_0_c (l0_1 : List T) (n0_0 : Int) (x19 : Int) : CSt := ⟨[.bp 2 0, .i .i64 x19], [.dead, .dead, .box [.i .i64 n0_0, .ro 0 true [.i .i64, .i .i64] l0_1]]⟩
theorem f15_0_round (c : Orc) (lf : Nat) (l0_1 : List T) (n0_0 : Int) (L : CSt → Option (List T)) (x19 : Int) :
    roundK c env lf 6 fi15 2 2 [] [1, 3] (x15_2_0) L (f15_0_c l0_1 n0_0 x19) = f15_0_s c lf l0_1 n0_0 (fun x19 => L (f15_0_c l0_1 n0_0 x19)) x19 := by kernel_rfl
def f15_0 (c : Orc) (lf : Nat) (l0_1 : List T) (n0_0 : Int) : Nat → Int → Option (List T)
  | 0 => fun _ => none
  | n + 1 => fun x19 => f15_0_s c lf l0_1 n0_0 (f15_0 c lf l0_1 n0_0 n) x19
theorem f15_0_u (c : Orc) (lf : Nat) (l0_1 : List T) (n0_0 : Int) (n : Nat) (x19 : Int) : f15_0 c lf l0_1 n0_0 (n + 1) x19 = f15_0_s c lf l0_1 n0_0 (f15_0 c lf l0_1 n0_0 n) x19 := rfl
theorem f15_0_eq (c : Orc) (lf : Nat) (l0_1 : List T) (n0_0 : Int) (n : Nat) (x19 : Int) :
    lpK c env lf 6 fi15 2 2 [] [1, 3] (x15_2_0) n (f15_0_c l0_1 n0_0 x19) = f15_0 c lf l0_1 n0_0 n x19 := by
  induction n generalizing x19 with
  | zero => rfl
  | succ n ih =>
    refine (f15_0_round c lf l0_1 n0_0 _ x19).trans ?_
    have e : (fun x19 => lpK c env lf 6 fi15 2 2 [] [1, 3] (x15_2_0) n (f15_0_c l0_1 n0_0 x19)) = f15_0 c lf l0_1 n0_0 n := by funext x19; exact ih x19
    show f15_0_s c lf l0_1 n0_0 (fun x19 => lpK c env lf 6 fi15 2 2 [] [1, 3] (x15_2_0) n (f15_0_c l0_1 n0_0 x19)) x19 = _
    rw [e]; rfl
/-- loop.example/g00285/spec.MapOk -/
def f15_t (c : Orc) (lf : Nat) (lp0 : List T → Int → Int → Option (List T)) (n0_0 : Int) (l0_1 : List T) : Option (List T) :=
  (lp0 l0_1 n0_0 0).bind fun r21 =>
  bif asI (nth r21 0) == 0 then
    some [T.b (asB (nth r21 1))]
  else
    bif iLe ((asL (nth r21 2)).length : Int) 30 then
      (c 42 [T.i .i64 (asI (nth r21 1)), T.i .i64 2, T.i .i64 1000]).bind fun r22 =>
      some [T.b (asB (nth r22 0))]
    else
      some [T.b false]
def f15 (c : Orc) (lf : Nat) (n0_0 : Int) (l0_1 : List T) : Option (List T) := f15_t c lf (fun (l0_1 : List T) (n0_0 : Int) (x19 : Int) => f15_0 c lf l0_1 n0_0 lf x19) n0_0 l0_1
theorem f15_raw (c : Orc) (lf : Nat) (n0_0 : Int) (l0_1 : List T) : funK c env lf 6 fi15 [.st [.i .i64 n0_0, .sl l0_1]] = f15_t c lf (fun (l0_1 : List T) (n0_0 : Int) (x19 : Int) => lpK c env lf 6 fi15 2 2 [] [1, 3] (x15_2_0) lf (f15_0_c l0_1 n0_0 x19)) n0_0 l0_1 := by kernel_rfl
theorem f15_eq (c : Orc) (lf : Nat) (n0_0 : Int) (l0_1 : List T) : funK c env lf 6 fi15 [.st [.i .i64 n0_0, .sl l0_1]] = f15 c lf n0_0 l0_1 := by
  refine (f15_raw c lf n0_0 l0_1).trans ?_
  have e0 : (fun (l0_1 : List T) (n0_0 : Int) (x19 : Int) => lpK c env lf 6 fi15 2 2 [] [1, 3] (x15_2_0) lf (f15_0_c l0_1 n0_0 x19)) = (fun (l0_1 : List T) (n0_0 : Int) (x19 : Int) => f15_0 c lf l0_1 n0_0 lf x19) := by funext l0_1 n0_0 x19; exact f15_0_eq c lf l0_1 n0_0 lf x19
  rw [e0]; rfl
/-- loop.example/g00285/spec.PutNum, the loop at region 6. -/
def f55_0_s (c : Orc) (lf : Nat) (L : Int → List T → Option (List T)) (x30 : Int) (x31 : List T) : Option (List T) :=
  bif iLt 127 x30 then
    bif nLe (x31.length + ([T.i .u8 (IntKind.wrap .u8 (intBits .or .i64 (intBits .and .i64 x30 127) 128))] : List T).length) LIM then
    L (shiftI .shr .i64 x30 7) (x31 ++ ([T.i .u8 (IntKind.wrap .u8 (intBits .or .i64 (intBits .and .i64 x30 127) 128))] : List T))
    else none
  else
    some [T.i .i64 0, T.i .i64 x30, T.sl x31]
def f55_0_c (x30 : Int) (x31 : List T) : CSt := ⟨[.i .i64 x30, .rf 2 [] 0 none], [.dead, .dead, .row false [.i .u8] x31 0 false]⟩
theorem f55_0_round (c : Orc) (lf : Nat) (L : CSt → Option (List T)) (x30 : Int) (x31 : List T) :
    roundK c env lf 6 fi55 2 6 [] [1, 5] (x55_6_0) L (f55_0_c x30 x31) = f55_0_s c lf (fun x30 x31 => L (f55_0_c x30 x31)) x30 x31 := by kernel_rfl
def f55_0 (c : Orc) (lf : Nat) : Nat → Int → List T → Option (List T)
  | 0 => fun _ _ => none
  | n + 1 => fun x30 x31 => f55_0_s c lf (f55_0 c lf n) x30 x31
theorem f55_0_u (c : Orc) (lf : Nat) (n : Nat) (x30 : Int) (x31 : List T) : f55_0 c lf (n + 1) x30 x31 = f55_0_s c lf (f55_0 c lf n) x30 x31 := rfl
theorem f55_0_eq (c : Orc) (lf : Nat) (n : Nat) (x30 : Int) (x31 : List T) :
    lpK c env lf 6 fi55 2 6 [] [1, 5] (x55_6_0) n (f55_0_c x30 x31) = f55_0 c lf n x30 x31 := by
  induction n generalizing x30 x31 with
  | zero => rfl
  | succ n ih =>
    refine (f55_0_round c lf _ x30 x31).trans ?_
    have e : (fun x30 x31 => lpK c env lf 6 fi55 2 6 [] [1, 5] (x55_6_0) n (f55_0_c x30 x31)) = f55_0 c lf n := by funext x30 x31; exact ih x30 x31
    show f55_0_s c lf (fun x30 x31 => lpK c env lf 6 fi55 2 6 [] [1, 5] (x55_6_0) n (f55_0_c x30 x31)) x30 x31 = _
    rw [e]; rfl
/-- loop.example/g00285/spec.PutNum, the loop at region 6. -/
def f55_1_s (c : Orc) (lf : Nat) (l0 : List T) (L : Unit → Option (List T)) : Option (List T) :=
  some [T.i .i64 0, T.i .i64 0, T.sl (([] : List T) ++ l0)]
def f55_1_c (l0 : List T) : CSt := ⟨[.i .i64 0, .rf 2 [] 0 none], [.dead, .dead, .row false [.i .u8] (([] : List T) ++ l0) 0 false]⟩
theorem f55_1_round (c : Orc) (lf : Nat) (l0 : List T) (L : CSt → Option (List T)) :
    roundK c env lf 6 fi55 2 6 [] [1, 5] (x55_6_0) L (f55_1_c l0) = f55_1_s c lf l0 (fun _ => L (f55_1_c l0)) := by kernel_rfl
def f55_1 (c : Orc) (lf : Nat) (l0 : List T) : Nat → Unit → Option (List T)
  | 0 => fun _ => none
  | n + 1 => fun _ => f55_1_s c lf l0 (f55_1 c lf l0 n)
theorem f55_1_u (c : Orc) (lf : Nat) (l0 : List T) (n : Nat) : f55_1 c lf l0 (n + 1) () = f55_1_s c lf l0 (f55_1 c lf l0 n) := rfl
theorem f55_1_eq (c : Orc) (lf : Nat) (l0 : List T) (n : Nat) :
    lpK c env lf 6 fi55 2 6 [] [1, 5] (x55_6_0) n (f55_1_c l0) = f55_1 c lf l0 n () := by
  induction n with
  | zero => rfl
  | succ n ih =>
    refine (f55_1_round c lf l0 _).trans ?_
    have e : (fun (_ : Unit) => lpK c env lf 6 fi55 2 6 [] [1, 5] (x55_6_0) n (f55_1_c l0)) = f55_1 c lf l0 n := by funext _; exact ih
    show f55_1_s c lf l0 (fun _ => lpK c env lf 6 fi55 2 6 [] [1, 5] (x55_6_0) n (f55_1_c l0)) = _
    rw [e]; rfl
/-- loop.example/g00285/spec.PutNum, the loop at region 6. -/
def f55_2_s (c : Orc) (lf : Nat) (L : Int → List T → Option (List T)) (x34 : Int) (x35 : List T) : Option (List T) :=
  bif iLt 127 x34 then
    bif nLe (x35.length + ([T.i .u8 (IntKind.wrap .u8 (intBits .or .i64 (intBits .and .i64 x34 127) 128))] : List T).length) LIM then
    L (shiftI .shr .i64 x34 7) (x35 ++ ([T.i .u8 (IntKind.wrap .u8 (intBits .or .i64 (intBits .and .i64 x34 127) 128))] : List T))
    else none
  else
    some [T.i .i64 0, T.i .i64 x34, T.sl x35]
def f55_2_c (x34 : Int) (x35 : List T) : CSt := ⟨[.i .i64 x34, .rf 2 [] 0 none], [.dead, .dead, .row false [.i .u8] x35 0 false]⟩
theorem f55_2_round (c : Orc) (lf : Nat) (L : CSt → Option (List T)) (x34 : Int) (x35 : List T) :
    roundK c env lf 6 fi55 2 6 [] [1, 5] (x55_6_0) L (f55_2_c x34 x35) = f55_2_s c lf (fun x34 x35 => L (f55_2_c x34 x35)) x34 x35 := by kernel_rfl
def f55_2 (c : Orc) (lf : Nat) : Nat → Int → List T → Option (List T)
  | 0 => fun _ _ => none
  | n + 1 => fun x34 x35 => f55_2_s c lf (f55_2 c lf n) x34 x35
theorem f55_2_u (c : Orc) (lf : Nat) (n : Nat) (x34 : Int) (x35 : List T) : f55_2 c lf (n + 1) x34 x35 = f55_2_s c lf (f55_2 c lf n) x34 x35 := rfl
theorem f55_2_eq (c : Orc) (lf : Nat) (n : Nat) (x34 : Int) (x35 : List T) :
    lpK c env lf 6 fi55 2 6 [] [1, 5] (x55_6_0) n (f55_2_c x34 x35) = f55_2 c lf n x34 x35 := by
  induction n generalizing x34 x35 with
  | zero => rfl
  | succ n ih =>
    refine (f55_2_round c lf _ x34 x35).trans ?_
    have e : (fun x34 x35 => lpK c env lf 6 fi55 2 6 [] [1, 5] (x55_6_0) n (f55_2_c x34 x35)) = f55_2 c lf n := by funext x34 x35; exact ih x34 x35
    show f55_2_s c lf (fun x34 x35 => lpK c env lf 6 fi55 2 6 [] [1, 5] (x55_6_0) n (f55_2_c x34 x35)) x34 x35 = _
    rw [e]; rfl
/-- loop.example/g00285/spec.PutNum -/
def f55_t (c : Orc) (lf : Nat) (lp0 : Int → List T → Option (List T)) (lp1 : List T → Option (List T)) (lp2 : Int → List T → Option (List T)) (l0 : List T) (n1 : Int) : Option (List T) :=
  bif nLe (([] : List T).length + l0.length) LIM then
  bif iLt 1000000 n1 then
    (lp0 1000000 (([] : List T) ++ l0)).bind fun r32 =>
    bif nLe ((asL (nth r32 2)).length + ([T.i .u8 (IntKind.wrap .u8 (asI (nth r32 1)))] : List T).length) LIM then
    some [T.sl ((asL (nth r32 2)) ++ ([T.i .u8 (IntKind.wrap .u8 (asI (nth r32 1)))] : List T))]
    else none
  else
    bif iLt n1 0 then
      (lp1 l0).bind fun r33 =>
      bif nLe ((asL (nth r33 2)).length + ([T.i .u8 (IntKind.wrap .u8 (asI (nth r33 1)))] : List T).length) LIM then
      some [T.sl ((asL (nth r33 2)) ++ ([T.i .u8 (IntKind.wrap .u8 (asI (nth r33 1)))] : List T))]
      else none
    else
      (lp2 n1 (([] : List T) ++ l0)).bind fun r36 =>
      bif nLe ((asL (nth r36 2)).length + ([T.i .u8 (IntKind.wrap .u8 (asI (nth r36 1)))] : List T).length) LIM then
      some [T.sl ((asL (nth r36 2)) ++ ([T.i .u8 (IntKind.wrap .u8 (asI (nth r36 1)))] : List T))]
      else none
  else none
def f55 (c : Orc) (lf : Nat) (l0 : List T) (n1 : Int) : Option (List T) := f55_t c lf (fun (x30 : Int) (x31 : List T) => f55_0 c lf lf x30 x31) (fun (l0 : List T) => f55_1 c lf l0 lf ()) (fun (x34 : Int) (x35 : List T) => f55_2 c lf lf x34 x35) l0 n1
theorem f55_raw (c : Orc) (lf : Nat) (l0 : List T) (n1 : Int) : funK c env lf 6 fi55 [.sl l0, .i .i64 n1] = f55_t c lf (fun (x30 : Int) (x31 : List T) => lpK c env lf 6 fi55 2 6 [] [1, 5] (x55_6_0) lf (f55_0_c x30 x31)) (fun (l0 : List T) => lpK c env lf 6 fi55 2 6 [] [1, 5] (x55_6_0) lf (f55_1_c l0)) (fun (x34 : Int) (x35 : List T) => lpK c env lf 6 fi55 2 6 [] [1, 5] (x55_6_0) lf (f55_2_c x34 x35)) l0 n1 := by kernel_rfl
theorem f55_eq (c : Orc) (lf : Nat) (l0 : List T) (n1 : Int) : funK c env lf 6 fi55 [.sl l0, .i .i64 n1] = f55 c lf l0 n1 := by
  refine (f55_raw c lf l0 n1).trans ?_
  have e0 : (fun (x30 : Int) (x31 : List T) => lpK c env lf 6 fi55 2 6 [] [1, 5] (x55_6_0) lf (f55_0_c x30 x31)) = (fun (x30 : Int) (x31 : List T) => f55_0 c lf lf x30 x31) := by funext x30 x31; exact f55_0_eq c lf lf x30 x31
  have e1 : (fun (l0 : List T) => lpK c env lf 6 fi55 2 6 [] [1, 5] (x55_6_0) lf (f55_1_c l0)) = (fun (l0 : List T) => f55_1 c lf l0 lf ()) := by funext l0; exact f55_1_eq c lf l0 lf
  have e2 : (fun (x34 : Int) (x35 : List T) => lpK c env lf 6 fi55 2 6 [] [1, 5] (x55_6_0) lf (f55_2_c x34 x35)) = (fun (x34 : Int) (x35 : List T) => f55_2 c lf lf x34 x35) := by funext x34 x35; exact f55_2_eq c lf lf x34 x35
  rw [e0, e1, e2]; rfl
/-- loop.example/g00285/spec.PutMap, the loop at region 5. -/
def f27_0_s (c : Orc) (lf : Nat) (l0_1 : List T) (n0_0 : Int) (L : Int → List T → Option (List T)) (x52 : Int) (x53 : List T) : Option (List T) :=
  bif iLt x52 (l0_1.length : Int) then
    bif inR x52 l0_1.length then
    (c 55 [T.sl x53, T.i .i64 (asI (T.cell (l0_1.getD x52.toNat T.u) 0))]).bind fun r54 =>
    bif inR x52 l0_1.length then
    (c 55 [T.sl (asL (nth r54 0)), T.i .i64 (asI (T.cell (l0_1.getD x52.toNat T.u) 1))]).bind fun r55 =>
    L (IntKind.wrap .i64 (x52 + 1)) (asL (nth r55 0))
    else none
    else none
  else
    some [T.i .i64 0, T.sl x53]
def f27_0_c (l0_1 : List T) (n0_0 : Int) (x52 : Int) (x53 : List T) : CSt := ⟨[.bp 2 0, .rf 3 [] 0 none, .i .i64 x52], [.dead, .dead, .box [.i .i64 n0_0, .ro 0 true [.i .i64, .i .i64] l0_1], .row false [.i .u8] x53 0 false]⟩
theorem f27_0_round (c : Orc) (lf : Nat) (l0_1 : List T) (n0_0 : Int) (L : CSt → Option (List T)) (x52 : Int) (x53 : List T) :
    roundK c env lf 6 fi27 2 5 [] [1, 3, 4] (x27_5_0) L (f27_0_c l0_1 n0_0 x52 x53) = f27_0_s c lf l0_1 n0_0 (fun x52 x53 => L (f27_0_c l0_1 n0_0 x52 x53)) x52 x53 := by kernel_rfl
def f27_0 (c : Orc) (lf : Nat) (l0_1 : List T) (n0_0 : Int) : Nat → Int → List T → Option (List T)
  | 0 => fun _ _ => none
  | n + 1 => fun x52 x53 => f27_0_s c lf l0_1 n0_0 (f27_0 c lf l0_1 n0_0 n) x52 x53
theorem f27_0_u (c : Orc) (lf : Nat) (l0_1 : List T) (n0_0 : Int) (n : Nat) (x52 : Int) (x53 : List T) : f27_0 c lf l0_1 n0_0 (n + 1) x52 x53 = f27_0_s c lf l0_1 n0_0 (f27_0 c lf l0_1 n0_0 n) x52 x53 := rfl
theorem f27_0_eq (c : Orc) (lf : Nat) (l0_1 : List T) (n0_0 : Int) (n : Nat) (x52 : Int) (x53 : List T) :
    lpK c env lf 6 fi27 2 5 [] [1, 3, 4] (x27_5_0) n (f27_0_c l0_1 n0_0 x52 x53) = f27_0 c lf l0_1 n0_0 n x52 x53 := by
  induction n generalizing x52 x53 with
  | zero => rfl
  | succ n ih =>
    refine (f27_0_round c lf l0_1 n0_0 _ x52 x53).trans ?_
    have e : (fun x52 x53 => lpK c env lf 6 fi27 2 5 [] [1, 3, 4] (x27_5_0) n (f27_0_c l0_1 n0_0 x52 x53)) = f27_0 c lf l0_1 n0_0 n := by funext x52 x53; exact ih x52 x53
    show f27_0_s c lf l0_1 n0_0 (fun x52 x53 => lpK c env lf 6 fi27 2 5 [] [1, 3, 4] (x27_5_0) n (f27_0_c l0_1 n0_0 x52 x53)) x52 x53 = _
    rw [e]; rfl
/-- loop.example/g00285/spec.PutMap -/
def f27_t (c : Orc) (lf : Nat) (lp0 : List T → Int → Int → List T → Option (List T)) (n0_0 : Int) (l0_1 : List T) : Option (List T) :=
  (c 15 [T.st [T.i .i64 n0_0, T.sl l0_1]]).bind fun r47 =>
  bif !(asB (nth r47 0)) then
    some [T.sl ([] : List T)]
  else
    (c 55 [T.sl ([] : List T), T.i .i64 n0_0]).bind fun r48 =>
    (c 55 [T.sl (asL (nth r48 0)), T.i .i64 (l0_1.length : Int)]).bind fun r49 =>
    (lp0 l0_1 n0_0 0 (asL (nth r49 0))).bind fun r56 =>
    some [T.sl (asL (nth r56 1))]
def f27 (c : Orc) (lf : Nat) (n0_0 : Int) (l0_1 : List T) : Option (List T) := f27_t c lf (fun (l0_1 : List T) (n0_0 : Int) (x52 : Int) (x53 : List T) => f27_0 c lf l0_1 n0_0 lf x52 x53) n0_0 l0_1
theorem f27_raw (c : Orc) (lf : Nat) (n0_0 : Int) (l0_1 : List T) : funK c env lf 6 fi27 [.st [.i .i64 n0_0, .sl l0_1]] = f27_t c lf (fun (l0_1 : List T) (n0_0 : Int) (x52 : Int) (x53 : List T) => lpK c env lf 6 fi27 2 5 [] [1, 3, 4] (x27_5_0) lf (f27_0_c l0_1 n0_0 x52 x53)) n0_0 l0_1 := by kernel_rfl
theorem f27_eq (c : Orc) (lf : Nat) (n0_0 : Int) (l0_1 : List T) : funK c env lf 6 fi27 [.st [.i .i64 n0_0, .sl l0_1]] = f27 c lf n0_0 l0_1 := by
  refine (f27_raw c lf n0_0 l0_1).trans ?_
  have e0 : (fun (l0_1 : List T) (n0_0 : Int) (x52 : Int) (x53 : List T) => lpK c env lf 6 fi27 2 5 [] [1, 3, 4] (x27_5_0) lf (f27_0_c l0_1 n0_0 x52 x53)) = (fun (l0_1 : List T) (n0_0 : Int) (x52 : Int) (x53 : List T) => f27_0 c lf l0_1 n0_0 lf x52 x53) := by funext l0_1 n0_0 x52 x53; exact f27_0_eq c lf l0_1 n0_0 lf x52 x53
  rw [e0]; rfl
/-- loop.example/g00285/impl.from -/
def f43_t (c : Orc) (lf : Nat) (n0 : Int) (n1 : Int) (n2 : Int) : Option (List T) :=
  bif iLe n1 n0 then
    some [T.b (iLe n0 n2)]
  else
    some [T.b false]
def f43 (c : Orc) (lf : Nat) (n0 : Int) (n1 : Int) (n2 : Int) : Option (List T) := f43_t c lf n0 n1 n2
theorem f43_raw (c : Orc) (lf : Nat) (n0 : Int) (n1 : Int) (n2 : Int) : funK c env lf 6 fi43 [.i .i64 n0, .i .i64 n1, .i .i64 n2] = f43_t c lf n0 n1 n2 := by kernel_rfl
theorem f43_eq (c : Orc) (lf : Nat) (n0 : Int) (n1 : Int) (n2 : Int) : funK c env lf 6 fi43 [.i .i64 n0, .i .i64 n1, .i .i64 n2] = f43 c lf n0 n1 n2 := by
  refine (f43_raw c lf n0 n1 n2).trans ?_
  rfl
/-- loop.example/g00285/impl.MapOk, the loop at region 2. -/
def f16_0_s (c : Orc) (lf : Nat) (l0_1 : List T) (n0_0 : Int) (L : Int → Option (List T)) (x63 : Int) : Option (List T) :=
  bif iLt x63 (l0_1.length : Int) then
    bif inR x63 l0_1.length then
    bif iLt (asI (T.cell (l0_1.getD x63.toNat T.u) 0)) 1 then
      some [T.i .i64 0, T.b false]
    else
      bif iLe n0_0 (asI (T.cell (l0_1.getD x63.toNat T.u) 0)) then
        some [T.i .i64 0, T.b false]
      else
        (c 43 [T.i .i64 (asI (T.cell (l0_1.getD x63.toNat T.u) 1)), T.i .i64 0, T.i .i64 191]).bind fun r64 =>
        bif !(asB (nth r64 0)) then
          some [T.i .i64 0, T.b false]
        else
          bif iLt 0 x63 then
            bif inR (IntKind.wrap .i64 (x63 - 1)) l0_1.length then
            bif iLe (asI (T.cell (l0_1.getD x63.toNat T.u) 0)) (asI (T.cell (l0_1.getD ((IntKind.wrap .i64 (x63 - 1)).toNat) T.u) 0)) then
              some [T.i .i64 0, T.b false]
            else
              L (IntKind.wrap .i64 (x63 + 1))
            else none
          else
            L (IntKind.wrap .i64 (x63 + 1))
    else none
  else
    some [T.i .i64 1, T.i .i64 n0_0, T.sl l0_1]
def f16_0_c (l0_1 : List T) (n0_0 : Int) (x63 : Int) : CSt := ⟨[.bp 2 0, .ro 0 true [.i .i64, .i .i64] l0_1, .i .i64 (l0_1.length : Int), .i .i64 x63], [.dead, .dead, .box [.i .i64 n0_0, .ro 0 true [.i .i64, .i .i64] l0_1]]⟩
theorem f16_0_round (c : Orc) (lf : Nat) (l0_1 : List T) (n0_0 : Int) (L : CSt → Option (List T)) (x63 : Int) :
    roundK c env lf 6 fi16 2 2 [] [1, 6, 7, 8] (x16_2_0) L (f16_0_c l0_1 n0_0 x63) = f16_0_s c lf l0_1 n0_0 (fun x63 => L (f16_0_c l0_1 n0_0 x63)) x63 := by kernel_rfl
def f16_0 (c : Orc) (lf : Nat) (l0_1 : List T) (n0_0 : Int) : Nat → Int → Option (List T)
  | 0 => fun _ => none
  | n + 1 => fun x63 => f16_0_s c lf l0_1 n0_0 (f16_0 c lf l0_1 n0_0 n) x63
theorem f16_0_u (c : Orc) (lf : Nat) (l0_1 : List T) (n0_0 : Int) (n : Nat) (x63 : Int) : f16_0 c lf l0_1 n0_0 (n + 1) x63 = f16_0_s c lf l0_1 n0_0 (f16_0 c lf l0_1 n0_0 n) x63 := rfl
theorem f16_0_eq (c : Orc) (lf : Nat) (l0_1 : List T) (n0_0 : Int) (n : Nat) (x63 : Int) :
    lpK c env lf 6 fi16 2 2 [] [1, 6, 7, 8] (x16_2_0) n (f16_0_c l0_1 n0_0 x63) = f16_0 c lf l0_1 n0_0 n x63 := by
  induction n generalizing x63 with
  | zero => rfl
  | succ n ih =>
    refine (f16_0_round c lf l0_1 n0_0 _ x63).trans ?_
    have e : (fun x63 => lpK c env lf 6 fi16 2 2 [] [1, 6, 7, 8] (x16_2_0) n (f16_0_c l0_1 n0_0 x63)) = f16_0 c lf l0_1 n0_0 n := by funext x63; exact ih x63
    show f16_0_s c lf l0_1 n0_0 (fun x63 => lpK c env lf 6 fi16 2 2 [] [1, 6, 7, 8] (x16_2_0) n (f16_0_c l0_1 n0_0 x63)) x63 = _
    rw [e]; rfl
/-- loop.example/g00285/impl.MapOk -/
def f16_t (c : Orc) (lf : Nat) (lp0 : List T → Int → Int → Option (List T)) (n0_0 : Int) (l0_1 : List T) : Option (List T) :=
  (lp0 l0_1 n0_0 0).bind fun r65 =>
  bif asI (nth r65 0) == 0 then
    some [T.b (asB (nth r65 1))]
  else
    (c 43 [T.i .i64 (asI (nth r65 1)), T.i .i64 2, T.i .i64 1000]).bind fun r66 =>
    bif asB (nth r66 0) then
      some [T.b (iLe ((asL (nth r65 2)).length : Int) 30)]
    else
      some [T.b false]
def f16 (c : Orc) (lf : Nat) (n0_0 : Int) (l0_1 : List T) : Option (List T) := f16_t c lf (fun (l0_1 : List T) (n0_0 : Int) (x63 : Int) => f16_0 c lf l0_1 n0_0 lf x63) n0_0 l0_1
theorem f16_raw (c : Orc) (lf : Nat) (n0_0 : Int) (l0_1 : List T) : funK c env lf 6 fi16 [.st [.i .i64 n0_0, .sl l0_1]] = f16_t c lf (fun (l0_1 : List T) (n0_0 : Int) (x63 : Int) => lpK c env lf 6 fi16 2 2 [] [1, 6, 7, 8] (x16_2_0) lf (f16_0_c l0_1 n0_0 x63)) n0_0 l0_1 := by kernel_rfl
theorem f16_eq (c : Orc) (lf : Nat) (n0_0 : Int) (l0_1 : List T) : funK c env lf 6 fi16 [.st [.i .i64 n0_0, .sl l0_1]] = f16 c lf n0_0 l0_1 := by
  refine (f16_raw c lf n0_0 l0_1).trans ?_
  have e0 : (fun (l0_1 : List T) (n0_0 : Int) (x63 : Int) => lpK c env lf 6 fi16 2 2 [] [1, 6, 7, 8] (x16_2_0) lf (f16_0_c l0_1 n0_0 x63)) = (fun (l0_1 : List T) (n0_0 : Int) (x63 : Int) => f16_0 c lf l0_1 n0_0 lf x63) := by funext l0_1 n0_0 x63; exact f16_0_eq c lf l0_1 n0_0 lf x63
  rw [e0]; rfl
/-- loop.example/g00285/impl.PutNum, the loop at region 3. -/
def f56_0_s (c : Orc) (lf : Nat) (L : Int → List T → Option (List T)) (x72 : Int) (x73 : List T) : Option (List T) :=
  bif iLe 128 x72 then
    bif nLe (x73.length + ([T.i .u8 (IntKind.wrap .u8 (IntKind.wrap .i64 ((x72.tmod 128) + 128)))] : List T).length) LIM then
    L (IntKind.wrap .i64 (x72.tdiv 128)) (x73 ++ ([T.i .u8 (IntKind.wrap .u8 (IntKind.wrap .i64 ((x72.tmod 128) + 128)))] : List T))
    else none
  else
    some [T.i .i64 0, T.i .i64 x72, T.sl x73]
def f56_0_c (x72 : Int) (x73 : List T) : CSt := ⟨[.i .i64 x72, .rf 2 [] 0 none], [.dead, .dead, .row false [.i .u8] x73 0 false]⟩
theorem f56_0_round (c : Orc) (lf : Nat) (L : CSt → Option (List T)) (x72 : Int) (x73 : List T) :
    roundK c env lf 6 fi56 2 3 [] [1, 5] (x56_3_0) L (f56_0_c x72 x73) = f56_0_s c lf (fun x72 x73 => L (f56_0_c x72 x73)) x72 x73 := by kernel_rfl
def f56_0 (c : Orc) (lf : Nat) : Nat → Int → List T → Option (List T)
  | 0 => fun _ _ => none
  | n + 1 => fun x72 x73 => f56_0_s c lf (f56_0 c lf n) x72 x73
theorem f56_0_u (c : Orc) (lf : Nat) (n : Nat) (x72 : Int) (x73 : List T) : f56_0 c lf (n + 1) x72 x73 = f56_0_s c lf (f56_0 c lf n) x72 x73 := rfl
theorem f56_0_eq (c : Orc) (lf : Nat) (n : Nat) (x72 : Int) (x73 : List T) :
    lpK c env lf 6 fi56 2 3 [] [1, 5] (x56_3_0) n (f56_0_c x72 x73) = f56_0 c lf n x72 x73 := by
  induction n generalizing x72 x73 with
  | zero => rfl
  | succ n ih =>
    refine (f56_0_round c lf _ x72 x73).trans ?_
    have e : (fun x72 x73 => lpK c env lf 6 fi56 2 3 [] [1, 5] (x56_3_0) n (f56_0_c x72 x73)) = f56_0 c lf n := by funext x72 x73; exact ih x72 x73
    show f56_0_s c lf (fun x72 x73 => lpK c env lf 6 fi56 2 3 [] [1, 5] (x56_3_0) n (f56_0_c x72 x73)) x72 x73 = _
    rw [e]; rfl
/-- loop.example/g00285/impl.PutNum -/
def f56_t (c : Orc) (lf : Nat) (lp0 : Int → List T → Option (List T)) (l0 : List T) (n1 : Int) : Option (List T) :=
  (c 72 [T.sl l0]).bind fun r71 =>
  (lp0 (imax 0 (imin n1 1000000)) (asL (nth r71 0))).bind fun r74 =>
  bif nLe ((asL (nth r74 2)).length + ([T.i .u8 (IntKind.wrap .u8 (asI (nth r74 1)))] : List T).length) LIM then
  some [T.sl ((asL (nth r74 2)) ++ ([T.i .u8 (IntKind.wrap .u8 (asI (nth r74 1)))] : List T))]
  else none
def f56 (c : Orc) (lf : Nat) (l0 : List T) (n1 : Int) : Option (List T) := f56_t c lf (fun (x72 : Int) (x73 : List T) => f56_0 c lf lf x72 x73) l0 n1
theorem f56_raw (c : Orc) (lf : Nat) (l0 : List T) (n1 : Int) : funK c env lf 6 fi56 [.sl l0, .i .i64 n1] = f56_t c lf (fun (x72 : Int) (x73 : List T) => lpK c env lf 6 fi56 2 3 [] [1, 5] (x56_3_0) lf (f56_0_c x72 x73)) l0 n1 := by kernel_rfl
theorem f56_eq (c : Orc) (lf : Nat) (l0 : List T) (n1 : Int) : funK c env lf 6 fi56 [.sl l0, .i .i64 n1] = f56 c lf l0 n1 := by
  refine (f56_raw c lf l0 n1).trans ?_
  have e0 : (fun (x72 : Int) (x73 : List T) => lpK c env lf 6 fi56 2 3 [] [1, 5] (x56_3_0) lf (f56_0_c x72 x73)) = (fun (x72 : Int) (x73 : List T) => f56_0 c lf lf x72 x73) := by funext x72 x73; exact f56_0_eq c lf lf x72 x73
  rw [e0]; rfl
/-- loop.example/g00285/impl.PutMap, the loop at region 5. -/
def f28_0_s (c : Orc) (lf : Nat) (l0_1 : List T) (L : Int → List T → Option (List T)) (x90 : Int) (x91 : List T) : Option (List T) :=
  bif iLt x90 (l0_1.length : Int) then
    bif inR x90 l0_1.length then
    (c 56 [T.sl x91, T.i .i64 (asI (T.cell (l0_1.getD x90.toNat T.u) 0))]).bind fun r92 =>
    (c 56 [T.sl (asL (nth r92 0)), T.i .i64 (asI (T.cell (l0_1.getD x90.toNat T.u) 1))]).bind fun r93 =>
    L (IntKind.wrap .i64 (x90 + 1)) (asL (nth r93 0))
    else none
  else
    some [T.i .i64 0, T.sl x91]
def f28_0_c (l0_1 : List T) (x90 : Int) (x91 : List T) : CSt := ⟨[.rf 2 [] 0 none, .ro 0 true [.i .i64, .i .i64] l0_1, .i .i64 (l0_1.length : Int), .i .i64 x90], [.dead, .dead, .row false [.i .u8] x91 0 false]⟩
theorem f28_0_round (c : Orc) (lf : Nat) (l0_1 : List T) (L : CSt → Option (List T)) (x90 : Int) (x91 : List T) :
    roundK c env lf 6 fi28 2 5 [] [3, 17, 18, 19] (x28_5_0) L (f28_0_c l0_1 x90 x91) = f28_0_s c lf l0_1 (fun x90 x91 => L (f28_0_c l0_1 x90 x91)) x90 x91 := by kernel_rfl
def f28_0 (c : Orc) (lf : Nat) (l0_1 : List T) : Nat → Int → List T → Option (List T)
  | 0 => fun _ _ => none
  | n + 1 => fun x90 x91 => f28_0_s c lf l0_1 (f28_0 c lf l0_1 n) x90 x91
theorem f28_0_u (c : Orc) (lf : Nat) (l0_1 : List T) (n : Nat) (x90 : Int) (x91 : List T) : f28_0 c lf l0_1 (n + 1) x90 x91 = f28_0_s c lf l0_1 (f28_0 c lf l0_1 n) x90 x91 := rfl
theorem f28_0_eq (c : Orc) (lf : Nat) (l0_1 : List T) (n : Nat) (x90 : Int) (x91 : List T) :
    lpK c env lf 6 fi28 2 5 [] [3, 17, 18, 19] (x28_5_0) n (f28_0_c l0_1 x90 x91) = f28_0 c lf l0_1 n x90 x91 := by
  induction n generalizing x90 x91 with
  | zero => rfl
  | succ n ih =>
    refine (f28_0_round c lf l0_1 _ x90 x91).trans ?_
    have e : (fun x90 x91 => lpK c env lf 6 fi28 2 5 [] [3, 17, 18, 19] (x28_5_0) n (f28_0_c l0_1 x90 x91)) = f28_0 c lf l0_1 n := by funext x90 x91; exact ih x90 x91
    show f28_0_s c lf l0_1 (fun x90 x91 => lpK c env lf 6 fi28 2 5 [] [3, 17, 18, 19] (x28_5_0) n (f28_0_c l0_1 x90 x91)) x90 x91 = _
    rw [e]; rfl
/-- loop.example/g00285/impl.PutMap -/
def f28_t (c : Orc) (lf : Nat) (lp0 : List T → Int → List T → Option (List T)) (n0_0 : Int) (l0_1 : List T) : Option (List T) :=
  (c 16 [T.st [T.i .i64 n0_0, T.sl l0_1]]).bind fun r85 =>
  bif !(asB (nth r85 0)) then
    some [T.sl []]
  else
    (c 56 [T.sl ([] : List T), T.i .i64 n0_0]).bind fun r86 =>
    (c 56 [T.sl (asL (nth r86 0)), T.i .i64 (l0_1.length : Int)]).bind fun r87 =>
    (lp0 l0_1 0 (asL (nth r87 0))).bind fun r94 =>
    some [T.sl (asL (nth r94 1))]
def f28 (c : Orc) (lf : Nat) (n0_0 : Int) (l0_1 : List T) : Option (List T) := f28_t c lf (fun (l0_1 : List T) (x90 : Int) (x91 : List T) => f28_0 c lf l0_1 lf x90 x91) n0_0 l0_1
theorem f28_raw (c : Orc) (lf : Nat) (n0_0 : Int) (l0_1 : List T) : funK c env lf 6 fi28 [.st [.i .i64 n0_0, .sl l0_1]] = f28_t c lf (fun (l0_1 : List T) (x90 : Int) (x91 : List T) => lpK c env lf 6 fi28 2 5 [] [3, 17, 18, 19] (x28_5_0) lf (f28_0_c l0_1 x90 x91)) n0_0 l0_1 := by kernel_rfl
theorem f28_eq (c : Orc) (lf : Nat) (n0_0 : Int) (l0_1 : List T) : funK c env lf 6 fi28 [.st [.i .i64 n0_0, .sl l0_1]] = f28 c lf n0_0 l0_1 := by
  refine (f28_raw c lf n0_0 l0_1).trans ?_
  have e0 : (fun (l0_1 : List T) (x90 : Int) (x91 : List T) => lpK c env lf 6 fi28 2 5 [] [3, 17, 18, 19] (x28_5_0) lf (f28_0_c l0_1 x90 x91)) = (fun (l0_1 : List T) (x90 : Int) (x91 : List T) => f28_0 c lf l0_1 lf x90 x91) := by funext l0_1 x90 x91; exact f28_0_eq c lf l0_1 lf x90 x91
  rw [e0]; rfl
/-- loop.example/g00285/laws.eqByteS, the loop at region 4. -/
def f29_0_s (c : Orc) (lf : Nat) (l0 : List T) (l1 : List T) (L : Int → Option (List T)) (x97 : Int) : Option (List T) :=
  bif iLt x97 (l0.length : Int) then
    bif inR x97 l0.length then
    bif inR x97 l1.length then
    bif (asI (l0.getD x97.toNat T.u)) != (asI (l1.getD x97.toNat T.u)) then
      some [T.i .i64 0, T.b false]
    else
      L (IntKind.wrap .i64 (x97 + 1))
    else none
    else none
  else
    some [T.i .i64 1]
def f29_0_c (l0 : List T) (l1 : List T) (x97 : Int) : CSt := ⟨[.ro 0 false [.i .u8] l0, .ro 0 false [.i .u8] l1, .i .i64 x97], [.dead, .dead]⟩
theorem f29_0_round (c : Orc) (lf : Nat) (l0 : List T) (l1 : List T) (L : CSt → Option (List T)) (x97 : Int) :
    roundK c env lf 6 fi29 2 4 [] [0, 1, 5] (x29_4_0) L (f29_0_c l0 l1 x97) = f29_0_s c lf l0 l1 (fun x97 => L (f29_0_c l0 l1 x97)) x97 := by kernel_rfl
def f29_0 (c : Orc) (lf : Nat) (l0 : List T) (l1 : List T) : Nat → Int → Option (List T)
  | 0 => fun _ => none
  | n + 1 => fun x97 => f29_0_s c lf l0 l1 (f29_0 c lf l0 l1 n) x97
theorem f29_0_u (c : Orc) (lf : Nat) (l0 : List T) (l1 : List T) (n : Nat) (x97 : Int) : f29_0 c lf l0 l1 (n + 1) x97 = f29_0_s c lf l0 l1 (f29_0 c lf l0 l1 n) x97 := rfl
theorem f29_0_eq (c : Orc) (lf : Nat) (l0 : List T) (l1 : List T) (n : Nat) (x97 : Int) :
    lpK c env lf 6 fi29 2 4 [] [0, 1, 5] (x29_4_0) n (f29_0_c l0 l1 x97) = f29_0 c lf l0 l1 n x97 := by
  induction n generalizing x97 with
  | zero => rfl
  | succ n ih =>
    refine (f29_0_round c lf l0 l1 _ x97).trans ?_
    have e : (fun x97 => lpK c env lf 6 fi29 2 4 [] [0, 1, 5] (x29_4_0) n (f29_0_c l0 l1 x97)) = f29_0 c lf l0 l1 n := by funext x97; exact ih x97
    show f29_0_s c lf l0 l1 (fun x97 => lpK c env lf 6 fi29 2 4 [] [0, 1, 5] (x29_4_0) n (f29_0_c l0 l1 x97)) x97 = _
    rw [e]; rfl
/-- loop.example/g00285/laws.eqByteS -/
def f29_t (c : Orc) (lf : Nat) (lp0 : List T → List T → Int → Option (List T)) (l0 : List T) (l1 : List T) : Option (List T) :=
  bif (l0.length : Int) != (l1.length : Int) then
    some [T.b false]
  else
    (lp0 l0 l1 0).bind fun r98 =>
    bif asI (nth r98 0) == 0 then
      some [T.b (asB (nth r98 1))]
    else
      some [T.b true]
def f29 (c : Orc) (lf : Nat) (l0 : List T) (l1 : List T) : Option (List T) := f29_t c lf (fun (l0 : List T) (l1 : List T) (x97 : Int) => f29_0 c lf l0 l1 lf x97) l0 l1
theorem f29_raw (c : Orc) (lf : Nat) (l0 : List T) (l1 : List T) : funK c env lf 6 fi29 [.sl l0, .sl l1] = f29_t c lf (fun (l0 : List T) (l1 : List T) (x97 : Int) => lpK c env lf 6 fi29 2 4 [] [0, 1, 5] (x29_4_0) lf (f29_0_c l0 l1 x97)) l0 l1 := by kernel_rfl
theorem f29_eq (c : Orc) (lf : Nat) (l0 : List T) (l1 : List T) : funK c env lf 6 fi29 [.sl l0, .sl l1] = f29 c lf l0 l1 := by
  refine (f29_raw c lf l0 l1).trans ?_
  have e0 : (fun (l0 : List T) (l1 : List T) (x97 : Int) => lpK c env lf 6 fi29 2 4 [] [0, 1, 5] (x29_4_0) lf (f29_0_c l0 l1 x97)) = (fun (l0 : List T) (l1 : List T) (x97 : Int) => f29_0 c lf l0 l1 lf x97) := by funext l0 l1 x97; exact f29_0_eq c lf l0 l1 lf x97
  rw [e0]; rfl
/-- loop.example/g00285/laws.eqPlace -/
def f64_t (c : Orc) (lf : Nat) (n0_0 : Int) (n0_1 : Int) (n1_0 : Int) (n1_1 : Int) : Option (List T) :=
  bif n0_0 != n1_0 then
    some [T.b false]
  else
    bif n0_1 != n1_1 then
      some [T.b false]
    else
      some [T.b true]
def f64 (c : Orc) (lf : Nat) (n0_0 : Int) (n0_1 : Int) (n1_0 : Int) (n1_1 : Int) : Option (List T) := f64_t c lf n0_0 n0_1 n1_0 n1_1
theorem f64_raw (c : Orc) (lf : Nat) (n0_0 : Int) (n0_1 : Int) (n1_0 : Int) (n1_1 : Int) : funK c env lf 6 fi64 [.st [.i .i64 n0_0, .i .i64 n0_1], .st [.i .i64 n1_0, .i .i64 n1_1]] = f64_t c lf n0_0 n0_1 n1_0 n1_1 := by kernel_rfl
theorem f64_eq (c : Orc) (lf : Nat) (n0_0 : Int) (n0_1 : Int) (n1_0 : Int) (n1_1 : Int) : funK c env lf 6 fi64 [.st [.i .i64 n0_0, .i .i64 n0_1], .st [.i .i64 n1_0, .i .i64 n1_1]] = f64 c lf n0_0 n0_1 n1_0 n1_1 := by
  refine (f64_raw c lf n0_0 n0_1 n1_0 n1_1).trans ?_
  rfl
/-- loop.example/g00285/laws.eqPlaceS, the loop at region 4. -/
def f41_0_s (c : Orc) (lf : Nat) (l0 : List T) (l1 : List T) (L : Int → Option (List T)) (x104 : Int) : Option (List T) :=
  bif iLt x104 (l0.length : Int) then
    bif inR x104 l0.length then
    bif inR x104 l1.length then
    (c 64 [T.st [T.i .i64 (asI (T.cell (l0.getD x104.toNat T.u) 0)), T.i .i64 (asI (T.cell (l0.getD x104.toNat T.u) 1))], T.st [T.i .i64 (asI (T.cell (l1.getD x104.toNat T.u) 0)), T.i .i64 (asI (T.cell (l1.getD x104.toNat T.u) 1))]]).bind fun r105 =>
    bif !(asB (nth r105 0)) then
      some [T.i .i64 0, T.b false]
    else
      L (IntKind.wrap .i64 (x104 + 1))
    else none
    else none
  else
    some [T.i .i64 1]
def f41_0_c (l0 : List T) (l1 : List T) (x104 : Int) : CSt := ⟨[.ro 0 true [.i .i64, .i .i64] l0, .ro 0 true [.i .i64, .i .i64] l1, .i .i64 x104], [.dead, .dead]⟩
theorem f41_0_round (c : Orc) (lf : Nat) (l0 : List T) (l1 : List T) (L : CSt → Option (List T)) (x104 : Int) :
    roundK c env lf 6 fi41 2 4 [] [0, 1, 5] (x41_4_0) L (f41_0_c l0 l1 x104) = f41_0_s c lf l0 l1 (fun x104 => L (f41_0_c l0 l1 x104)) x104 := by kernel_rfl
def f41_0 (c : Orc) (lf : Nat) (l0 : List T) (l1 : List T) : Nat → Int → Option (List T)
  | 0 => fun _ => none
  | n + 1 => fun x104 => f41_0_s c lf l0 l1 (f41_0 c lf l0 l1 n) x104
theorem f41_0_u (c : Orc) (lf : Nat) (l0 : List T) (l1 : List T) (n : Nat) (x104 : Int) : f41_0 c lf l0 l1 (n + 1) x104 = f41_0_s c lf l0 l1 (f41_0 c lf l0 l1 n) x104 := rfl
theorem f41_0_eq (c : Orc) (lf : Nat) (l0 : List T) (l1 : List T) (n : Nat) (x104 : Int) :
    lpK c env lf 6 fi41 2 4 [] [0, 1, 5] (x41_4_0) n (f41_0_c l0 l1 x104) = f41_0 c lf l0 l1 n x104 := by
  induction n generalizing x104 with
  | zero => rfl
  | succ n ih =>
    refine (f41_0_round c lf l0 l1 _ x104).trans ?_
    have e : (fun x104 => lpK c env lf 6 fi41 2 4 [] [0, 1, 5] (x41_4_0) n (f41_0_c l0 l1 x104)) = f41_0 c lf l0 l1 n := by funext x104; exact ih x104
    show f41_0_s c lf l0 l1 (fun x104 => lpK c env lf 6 fi41 2 4 [] [0, 1, 5] (x41_4_0) n (f41_0_c l0 l1 x104)) x104 = _
    rw [e]; rfl
/-- loop.example/g00285/laws.eqPlaceS -/
def f41_t (c : Orc) (lf : Nat) (lp0 : List T → List T → Int → Option (List T)) (l0 : List T) (l1 : List T) : Option (List T) :=
  bif (l0.length : Int) != (l1.length : Int) then
    some [T.b false]
  else
    (lp0 l0 l1 0).bind fun r106 =>
    bif asI (nth r106 0) == 0 then
      some [T.b (asB (nth r106 1))]
    else
      some [T.b true]
def f41 (c : Orc) (lf : Nat) (l0 : List T) (l1 : List T) : Option (List T) := f41_t c lf (fun (l0 : List T) (l1 : List T) (x104 : Int) => f41_0 c lf l0 l1 lf x104) l0 l1
theorem f41_raw (c : Orc) (lf : Nat) (l0 : List T) (l1 : List T) : funK c env lf 6 fi41 [.sl l0, .sl l1] = f41_t c lf (fun (l0 : List T) (l1 : List T) (x104 : Int) => lpK c env lf 6 fi41 2 4 [] [0, 1, 5] (x41_4_0) lf (f41_0_c l0 l1 x104)) l0 l1 := by kernel_rfl
theorem f41_eq (c : Orc) (lf : Nat) (l0 : List T) (l1 : List T) : funK c env lf 6 fi41 [.sl l0, .sl l1] = f41 c lf l0 l1 := by
  refine (f41_raw c lf l0 l1).trans ?_
  have e0 : (fun (l0 : List T) (l1 : List T) (x104 : Int) => lpK c env lf 6 fi41 2 4 [] [0, 1, 5] (x41_4_0) lf (f41_0_c l0 l1 x104)) = (fun (l0 : List T) (l1 : List T) (x104 : Int) => f41_0 c lf l0 l1 lf x104) := by funext l0 l1 x104; exact f41_0_eq c lf l0 l1 lf x104
  rw [e0]; rfl
/-- loop.example/g00285/laws.eqMap -/
def f14_t (c : Orc) (lf : Nat) (n0_0 : Int) (l0_1 : List T) (n1_0 : Int) (l1_1 : List T) : Option (List T) :=
  bif n0_0 != n1_0 then
    some [T.b false]
  else
    (c 41 [T.sl l0_1, T.sl l1_1]).bind fun r107 =>
    bif !(asB (nth r107 0)) then
      some [T.b false]
    else
      some [T.b true]
def f14 (c : Orc) (lf : Nat) (n0_0 : Int) (l0_1 : List T) (n1_0 : Int) (l1_1 : List T) : Option (List T) := f14_t c lf n0_0 l0_1 n1_0 l1_1
theorem f14_raw (c : Orc) (lf : Nat) (n0_0 : Int) (l0_1 : List T) (n1_0 : Int) (l1_1 : List T) : funK c env lf 6 fi14 [.st [.i .i64 n0_0, .sl l0_1], .st [.i .i64 n1_0, .sl l1_1]] = f14_t c lf n0_0 l0_1 n1_0 l1_1 := by kernel_rfl
theorem f14_eq (c : Orc) (lf : Nat) (n0_0 : Int) (l0_1 : List T) (n1_0 : Int) (l1_1 : List T) : funK c env lf 6 fi14 [.st [.i .i64 n0_0, .sl l0_1], .st [.i .i64 n1_0, .sl l1_1]] = f14 c lf n0_0 l0_1 n1_0 l1_1 := by
  refine (f14_raw c lf n0_0 l0_1 n1_0 l1_1).trans ?_
  rfl
/-- loop.example/g00285/laws.markPlaceS, the loop at region 2. -/
def f57_0_s (c : Orc) (lf : Nat) (L : Int → Int → List T → Option (List T)) (x112 : Int) (x113 : Int) (x114 : List T) : Option (List T) :=
  bif iLt x113 (x114.length : Int) then
    bif inR x113 x114.length then
    bif inR x113 ((x114.set x113.toNat (T.setc (x114.getD x113.toNat T.u) 0 (T.i .i64 x112))).length) then
    L (IntKind.wrap .i64 ((IntKind.wrap .i64 (x112 + 1)) + 1)) (IntKind.wrap .i64 (x113 + 1)) ((x114.set x113.toNat (T.setc (x114.getD x113.toNat T.u) 0 (T.i .i64 x112))).set x113.toNat (T.setc ((x114.set x113.toNat (T.setc (x114.getD x113.toNat T.u) 0 (T.i .i64 x112))).getD x113.toNat T.u) 1 (T.i .i64 (IntKind.wrap .i64 (x112 + 1)))))
    else none
    else none
  else
    some [T.i .i64 0, T.i .i64 x112, T.sl x114]
def f57_0_c (x112 : Int) (x113 : Int) (x114 : List T) : CSt := ⟨[.rf 0 [] 0 none, .i .i64 x112, .i .i64 x113], [.row true [.i .i64, .i .i64] x114 0 false, .dead]⟩
theorem f57_0_round (c : Orc) (lf : Nat) (L : CSt → Option (List T)) (x112 : Int) (x113 : Int) (x114 : List T) :
    roundK c env lf 6 fi57 2 2 [] [0, 1, 5] (x57_2_0) L (f57_0_c x112 x113 x114) = f57_0_s c lf (fun x112 x113 x114 => L (f57_0_c x112 x113 x114)) x112 x113 x114 := by kernel_rfl
def f57_0 (c : Orc) (lf : Nat) : Nat → Int → Int → List T → Option (List T)
  | 0 => fun _ _ _ => none
  | n + 1 => fun x112 x113 x114 => f57_0_s c lf (f57_0 c lf n) x112 x113 x114
theorem f57_0_u (c : Orc) (lf : Nat) (n : Nat) (x112 : Int) (x113 : Int) (x114 : List T) : f57_0 c lf (n + 1) x112 x113 x114 = f57_0_s c lf (f57_0 c lf n) x112 x113 x114 := rfl
theorem f57_0_eq (c : Orc) (lf : Nat) (n : Nat) (x112 : Int) (x113 : Int) (x114 : List T) :
    lpK c env lf 6 fi57 2 2 [] [0, 1, 5] (x57_2_0) n (f57_0_c x112 x113 x114) = f57_0 c lf n x112 x113 x114 := by
  induction n generalizing x112 x113 x114 with
  | zero => rfl
  | succ n ih =>
    refine (f57_0_round c lf _ x112 x113 x114).trans ?_
    have e : (fun x112 x113 x114 => lpK c env lf 6 fi57 2 2 [] [0, 1, 5] (x57_2_0) n (f57_0_c x112 x113 x114)) = f57_0 c lf n := by funext x112 x113 x114; exact ih x112 x113 x114
    show f57_0_s c lf (fun x112 x113 x114 => lpK c env lf 6 fi57 2 2 [] [0, 1, 5] (x57_2_0) n (f57_0_c x112 x113 x114)) x112 x113 x114 = _
    rw [e]; rfl
/-- loop.example/g00285/laws.markPlaceS -/
def f57_t (c : Orc) (lf : Nat) (lp0 : Int → Int → List T → Option (List T)) (l0 : List T) (n1 : Int) : Option (List T) :=
  (lp0 n1 0 l0).bind fun r115 =>
  some [T.i .i64 (asI (nth r115 1)), T.sl (asL (nth r115 2))]
def f57 (c : Orc) (lf : Nat) (l0 : List T) (n1 : Int) : Option (List T) := f57_t c lf (fun (x112 : Int) (x113 : Int) (x114 : List T) => f57_0 c lf lf x112 x113 x114) l0 n1
theorem f57_raw (c : Orc) (lf : Nat) (l0 : List T) (n1 : Int) : funK c env lf 6 fi57 [.sl l0, .i .i64 n1] = f57_t c lf (fun (x112 : Int) (x113 : Int) (x114 : List T) => lpK c env lf 6 fi57 2 2 [] [0, 1, 5] (x57_2_0) lf (f57_0_c x112 x113 x114)) l0 n1 := by kernel_rfl
theorem f57_eq (c : Orc) (lf : Nat) (l0 : List T) (n1 : Int) : funK c env lf 6 fi57 [.sl l0, .i .i64 n1] = f57 c lf l0 n1 := by
  refine (f57_raw c lf l0 n1).trans ?_
  have e0 : (fun (x112 : Int) (x113 : Int) (x114 : List T) => lpK c env lf 6 fi57 2 2 [] [0, 1, 5] (x57_2_0) lf (f57_0_c x112 x113 x114)) = (fun (x112 : Int) (x113 : Int) (x114 : List T) => f57_0 c lf lf x112 x113 x114) := by funext x112 x113 x114; exact f57_0_eq c lf lf x112 x113 x114
  rw [e0]; rfl
/-- loop.example/g00285/laws.markMap -/
def f30_t (c : Orc) (lf : Nat) (n0_0 : Int) (l0_1 : List T) (n1 : Int) : Option (List T) :=
  (c 57 [T.sl l0_1, T.i .i64 n1]).bind fun r116 =>
  some [T.i .i64 (asI (nth r116 0)), T.sl (asL (nth r116 1))]
def f30 (c : Orc) (lf : Nat) (n0_0 : Int) (l0_1 : List T) (n1 : Int) : Option (List T) := f30_t c lf n0_0 l0_1 n1
theorem f30_raw (c : Orc) (lf : Nat) (n0_0 : Int) (l0_1 : List T) (n1 : Int) : funK c env lf 6 fi30 [.st [.i .i64 n0_0, .sl l0_1], .i .i64 n1] = f30_t c lf n0_0 l0_1 n1 := by kernel_rfl
theorem f30_eq (c : Orc) (lf : Nat) (n0_0 : Int) (l0_1 : List T) (n1 : Int) : funK c env lf 6 fi30 [.st [.i .i64 n0_0, .sl l0_1], .i .i64 n1] = f30 c lf n0_0 l0_1 n1 := by
  refine (f30_raw c lf n0_0 l0_1 n1).trans ?_
  rfl
/-- loop.example/g00285/laws.markByteS, the loop at region 2. -/
def f31_0_s (c : Orc) (lf : Nat) (L : Int → Int → List T → Option (List T)) (x121 : Int) (x122 : Int) (x123 : List T) : Option (List T) :=
  bif iLt x122 (x123.length : Int) then
    bif inR x122 x123.length then
    L (IntKind.wrap .i64 (x121 + 1)) (IntKind.wrap .i64 (x122 + 1)) (x123.set x122.toNat (T.i .u8 (IntKind.wrap .u8 x121)))
    else none
  else
    some [T.i .i64 0, T.i .i64 x121, T.sl x123]
def f31_0_c (x121 : Int) (x122 : Int) (x123 : List T) : CSt := ⟨[.rf 0 [] 0 none, .i .i64 x121, .i .i64 x122], [.row false [.i .u8] x123 0 false, .dead]⟩
theorem f31_0_round (c : Orc) (lf : Nat) (L : CSt → Option (List T)) (x121 : Int) (x122 : Int) (x123 : List T) :
    roundK c env lf 6 fi31 2 2 [] [0, 1, 5] (x31_2_0) L (f31_0_c x121 x122 x123) = f31_0_s c lf (fun x121 x122 x123 => L (f31_0_c x121 x122 x123)) x121 x122 x123 := by kernel_rfl
def f31_0 (c : Orc) (lf : Nat) : Nat → Int → Int → List T → Option (List T)
  | 0 => fun _ _ _ => none
  | n + 1 => fun x121 x122 x123 => f31_0_s c lf (f31_0 c lf n) x121 x122 x123
theorem f31_0_u (c : Orc) (lf : Nat) (n : Nat) (x121 : Int) (x122 : Int) (x123 : List T) : f31_0 c lf (n + 1) x121 x122 x123 = f31_0_s c lf (f31_0 c lf n) x121 x122 x123 := rfl
theorem f31_0_eq (c : Orc) (lf : Nat) (n : Nat) (x121 : Int) (x122 : Int) (x123 : List T) :
    lpK c env lf 6 fi31 2 2 [] [0, 1, 5] (x31_2_0) n (f31_0_c x121 x122 x123) = f31_0 c lf n x121 x122 x123 := by
  induction n generalizing x121 x122 x123 with
  | zero => rfl
  | succ n ih =>
    refine (f31_0_round c lf _ x121 x122 x123).trans ?_
    have e : (fun x121 x122 x123 => lpK c env lf 6 fi31 2 2 [] [0, 1, 5] (x31_2_0) n (f31_0_c x121 x122 x123)) = f31_0 c lf n := by funext x121 x122 x123; exact ih x121 x122 x123
    show f31_0_s c lf (fun x121 x122 x123 => lpK c env lf 6 fi31 2 2 [] [0, 1, 5] (x31_2_0) n (f31_0_c x121 x122 x123)) x121 x122 x123 = _
    rw [e]; rfl
/-- loop.example/g00285/laws.markByteS -/
def f31_t (c : Orc) (lf : Nat) (lp0 : Int → Int → List T → Option (List T)) (l0 : List T) (n1 : Int) : Option (List T) :=
  (lp0 n1 0 l0).bind fun r124 =>
  some [T.i .i64 (asI (nth r124 1)), T.sl (asL (nth r124 2))]
def f31 (c : Orc) (lf : Nat) (l0 : List T) (n1 : Int) : Option (List T) := f31_t c lf (fun (x121 : Int) (x122 : Int) (x123 : List T) => f31_0 c lf lf x121 x122 x123) l0 n1
theorem f31_raw (c : Orc) (lf : Nat) (l0 : List T) (n1 : Int) : funK c env lf 6 fi31 [.sl l0, .i .i64 n1] = f31_t c lf (fun (x121 : Int) (x122 : Int) (x123 : List T) => lpK c env lf 6 fi31 2 2 [] [0, 1, 5] (x31_2_0) lf (f31_0_c x121 x122 x123)) l0 n1 := by kernel_rfl
theorem f31_eq (c : Orc) (lf : Nat) (l0 : List T) (n1 : Int) : funK c env lf 6 fi31 [.sl l0, .i .i64 n1] = f31 c lf l0 n1 := by
  refine (f31_raw c lf l0 n1).trans ?_
  have e0 : (fun (x121 : Int) (x122 : Int) (x123 : List T) => lpK c env lf 6 fi31 2 2 [] [0, 1, 5] (x31_2_0) lf (f31_0_c x121 x122 x123)) = (fun (x121 : Int) (x122 : Int) (x123 : List T) => f31_0 c lf lf x121 x122 x123) := by funext x121 x122 x123; exact f31_0_eq c lf lf x121 x122 x123
  rw [e0]; rfl
/-- loop.example/g00285/laws.heldByteS, the loop at region 2. -/
def f32_0_s (c : Orc) (lf : Nat) (l0 : List T) (L : Int → Int → Option (List T)) (x128 : Int) (x129 : Int) : Option (List T) :=
  bif iLt x129 (l0.length : Int) then
    bif inR x129 l0.length then
    bif (asI (l0.getD x129.toNat T.u)) != (IntKind.wrap .u8 x128) then
      some [T.i .i64 0, T.i .i64 (-1)]
    else
      L (IntKind.wrap .i64 (x128 + 1)) (IntKind.wrap .i64 (x129 + 1))
    else none
  else
    some [T.i .i64 1, T.i .i64 x128]
def f32_0_c (l0 : List T) (x128 : Int) (x129 : Int) : CSt := ⟨[.ro 0 false [.i .u8] l0, .i .i64 x128, .i .i64 x129], [.dead, .dead]⟩
theorem f32_0_round (c : Orc) (lf : Nat) (l0 : List T) (L : CSt → Option (List T)) (x128 : Int) (x129 : Int) :
    roundK c env lf 6 fi32 2 2 [] [0, 1, 5] (x32_2_0) L (f32_0_c l0 x128 x129) = f32_0_s c lf l0 (fun x128 x129 => L (f32_0_c l0 x128 x129)) x128 x129 := by kernel_rfl
def f32_0 (c : Orc) (lf : Nat) (l0 : List T) : Nat → Int → Int → Option (List T)
  | 0 => fun _ _ => none
  | n + 1 => fun x128 x129 => f32_0_s c lf l0 (f32_0 c lf l0 n) x128 x129
theorem f32_0_u (c : Orc) (lf : Nat) (l0 : List T) (n : Nat) (x128 : Int) (x129 : Int) : f32_0 c lf l0 (n + 1) x128 x129 = f32_0_s c lf l0 (f32_0 c lf l0 n) x128 x129 := rfl
theorem f32_0_eq (c : Orc) (lf : Nat) (l0 : List T) (n : Nat) (x128 : Int) (x129 : Int) :
    lpK c env lf 6 fi32 2 2 [] [0, 1, 5] (x32_2_0) n (f32_0_c l0 x128 x129) = f32_0 c lf l0 n x128 x129 := by
  induction n generalizing x128 x129 with
  | zero => rfl
  | succ n ih =>
    refine (f32_0_round c lf l0 _ x128 x129).trans ?_
    have e : (fun x128 x129 => lpK c env lf 6 fi32 2 2 [] [0, 1, 5] (x32_2_0) n (f32_0_c l0 x128 x129)) = f32_0 c lf l0 n := by funext x128 x129; exact ih x128 x129
    show f32_0_s c lf l0 (fun x128 x129 => lpK c env lf 6 fi32 2 2 [] [0, 1, 5] (x32_2_0) n (f32_0_c l0 x128 x129)) x128 x129 = _
    rw [e]; rfl
/-- loop.example/g00285/laws.heldByteS -/
def f32_t (c : Orc) (lf : Nat) (lp0 : List T → Int → Int → Option (List T)) (l0 : List T) (n1 : Int) : Option (List T) :=
  (lp0 l0 n1 0).bind fun r130 =>
  bif asI (nth r130 0) == 0 then
    some [T.i .i64 (asI (nth r130 1))]
  else
    some [T.i .i64 (asI (nth r130 1))]
def f32 (c : Orc) (lf : Nat) (l0 : List T) (n1 : Int) : Option (List T) := f32_t c lf (fun (l0 : List T) (x128 : Int) (x129 : Int) => f32_0 c lf l0 lf x128 x129) l0 n1
theorem f32_raw (c : Orc) (lf : Nat) (l0 : List T) (n1 : Int) : funK c env lf 6 fi32 [.sl l0, .i .i64 n1] = f32_t c lf (fun (l0 : List T) (x128 : Int) (x129 : Int) => lpK c env lf 6 fi32 2 2 [] [0, 1, 5] (x32_2_0) lf (f32_0_c l0 x128 x129)) l0 n1 := by kernel_rfl
theorem f32_eq (c : Orc) (lf : Nat) (l0 : List T) (n1 : Int) : funK c env lf 6 fi32 [.sl l0, .i .i64 n1] = f32 c lf l0 n1 := by
  refine (f32_raw c lf l0 n1).trans ?_
  have e0 : (fun (l0 : List T) (x128 : Int) (x129 : Int) => lpK c env lf 6 fi32 2 2 [] [0, 1, 5] (x32_2_0) lf (f32_0_c l0 x128 x129)) = (fun (l0 : List T) (x128 : Int) (x129 : Int) => f32_0 c lf l0 lf x128 x129) := by funext l0 x128 x129; exact f32_0_eq c lf l0 lf x128 x129
  rw [e0]; rfl
/-- loop.example/g00285/laws.FnExactPutMap -/
def f7_t (c : Orc) (lf : Nat) (n0_0 : Int) (l0_1 : List T) : Option (List T) :=
  (c 10 [T.st [T.i .i64 n0_0, T.sl l0_1], T.i .i64 1048576]).bind fun r131 =>
  bif iLt (asI (nth r131 0)) 0 then
    some [T.b true]
  else
    (c 12 [T.st [T.i .i64 n0_0, T.sl l0_1]]).bind fun r132 =>
    (c 27 [T.st [T.i .i64 (asI (T.cell (nth r132 0) 0)), T.sl (asL (T.cell (nth r132 0) 1))]]).bind fun r133 =>
    (c 12 [T.st [T.i .i64 n0_0, T.sl l0_1]]).bind fun r134 =>
    (c 28 [T.st [T.i .i64 (asI (T.cell (nth r134 0) 0)), T.sl (asL (T.cell (nth r134 0) 1))]]).bind fun r135 =>
    (c 29 [T.sl (asL (nth r135 0)), T.sl (asL (nth r133 0))]).bind fun r136 =>
    bif !(asB (nth r136 0)) then
      some [T.b false]
    else
      (c 12 [T.st [T.i .i64 n0_0, T.sl l0_1]]).bind fun r137 =>
      (c 14 [T.st [T.i .i64 (asI (T.cell (nth r134 0) 0)), T.sl (asL (T.cell (nth r134 0) 1))], T.st [T.i .i64 (asI (T.cell (nth r137 0) 0)), T.sl (asL (T.cell (nth r137 0) 1))]]).bind fun r138 =>
      bif !(asB (nth r138 0)) then
        some [T.b false]
      else
        (c 30 [T.st [T.i .i64 (asI (T.cell (nth r134 0) 0)), T.sl (asL (T.cell (nth r134 0) 1))], T.i .i64 1]).bind fun r139 =>
        bif iLt (asI (nth r139 0)) 0 then
          some [T.b false]
        else
          (c 29 [T.sl (asL (nth r135 0)), T.sl (asL (nth r133 0))]).bind fun r140 =>
          bif !(asB (nth r140 0)) then
            some [T.b false]
          else
            (c 31 [T.sl (asL (nth r135 0)), T.i .i64 1]).bind fun r141 =>
            (c 32 [T.sl (asL (nth r141 1)), T.i .i64 1]).bind fun r142 =>
            bif iLt (asI (nth r142 0)) 0 then
              some [T.b false]
            else
              bif (asI (nth r142 0)) != (asI (nth r141 0)) then
                some [T.b false]
              else
                (c 12 [T.st [T.i .i64 n0_0, T.sl l0_1]]).bind fun r143 =>
                (c 28 [T.st [T.i .i64 (asI (T.cell (nth r143 0) 0)), T.sl (asL (T.cell (nth r143 0) 1))]]).bind fun r144 =>
                (c 29 [T.sl (asL (nth r144 0)), T.sl (asL (nth r133 0))]).bind fun r145 =>
                bif !(asB (nth r145 0)) then
                  some [T.b false]
                else
                  (c 32 [T.sl (asL (nth r141 1)), T.i .i64 1]).bind fun r146 =>
                  bif iLt (asI (nth r146 0)) 0 then
                    some [T.b false]
                  else
                    bif (asI (nth r146 0)) != (asI (nth r141 0)) then
                      some [T.b false]
                    else
                      some [T.b true]
def f7 (c : Orc) (lf : Nat) (n0_0 : Int) (l0_1 : List T) : Option (List T) := f7_t c lf n0_0 l0_1
theorem f7_raw (c : Orc) (lf : Nat) (n0_0 : Int) (l0_1 : List T) : funK c env lf 6 fi7 [.st [.i .i64 n0_0, .sl l0_1]] = f7_t c lf n0_0 l0_1 := by kernel_rfl
theorem f7_eq (c : Orc) (lf : Nat) (n0_0 : Int) (l0_1 : List T) : funK c env lf 6 fi7 [.st [.i .i64 n0_0, .sl l0_1]] = f7 c lf n0_0 l0_1 := by
  refine (f7_raw c lf n0_0 l0_1).trans ?_
  rfl
end Go.Proofs.Ytejeinhdlcgkgaa.T
