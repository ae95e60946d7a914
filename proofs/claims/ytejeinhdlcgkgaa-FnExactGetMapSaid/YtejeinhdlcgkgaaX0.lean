/- What functions of the law FnExactGetMap come to, in trees; no condition. -/
import Derived.Test.YtejeinhdlcgkgaaRows
import Derived.Test.YtejeinhdlcgkgaaV4
import Derived.KernelRfl
set_option linter.unusedVariables false
set_option linter.constructorNameAsVariable false
set_option linter.unusedSimpArgs false
set_option linter.unnecessarySimpa false
namespace Go.Proofs.Ytejeinhdlcgkgaa.T
open Go Go.Proofs.YtejeinhdlcgkgaaV
def tyTab : List (Nat × Ti) := [
  (3, ⟨false, [.i .i64], .o⟩),
  (4, ⟨false, [.b], .o⟩),
  (5, ⟨false, [.i .u8], .o⟩),
  (27, ⟨false, [.sl true [.i .i64, .i .i64]], .sl 67⟩),
  (29, ⟨true, [.i .i64, .sl true [.i .i64, .i .i64]], .st [(0, 3), (1, 27)]⟩),
  (57, ⟨false, [.sl false [.i .u8]], .sl 5⟩),
  (67, ⟨true, [.i .i64, .i .i64], .st [(0, 3), (1, 3)]⟩),
  (88, ⟨false, [.o], .o⟩),
  (90, ⟨true, [.sl false [.i .u8], .i .i64, .b], .st [(0, 57), (1, 3), (2, 4)]⟩),
  (92, ⟨false, [.o], .o⟩),
  (94, ⟨true, [.sl false [.i .u8], .i .i64, .b], .st [(0, 57), (1, 3), (2, 4)]⟩),
  (111, ⟨false, [.i .u64], .o⟩)]
def x36_3_0 : List (Ex × List Nat × CSt) := [((.ex 0), [3], ⟨[.rf 1 [] 0 none], [.dead, .row false [.i .u8] [] 0 false]⟩)]
noncomputable def fi36 : Fi := ⟨Try.f36, [⟨3, [0, 3, 4], [], [(⟨[.ro 0 false [.i .u8] [], .rf 1 [] 0 none, .i .i64 0], [.dead, .row false [.i .u8] [] 0 false]⟩, x36_3_0)]⟩], false, [.ro (.sl false [.i .u8])], [.ow (.sl false [.i .u8])]⟩
def x73_3_0 : List (Ex × List Nat × CSt) := [(.ret, [4, 5, 6], ⟨[.i .i64 0, .i .i64 0, .b false], [.dead, .dead]⟩), ((.ex 0), [], ⟨[], [.dead, .dead]⟩)]
noncomputable def fi73 : Fi := ⟨Try.f73, [⟨3, [0, 1, 7, 8], [], [(⟨[.ro 0 false [.i .u8] [], .i .i64 0, .i .i64 0, .i .i64 0], [.dead, .dead]⟩, x73_3_0)]⟩], false, [.ro (.sl false [.i .u8]), .v (.i .i64)], [.v (.i .i64), .v (.i .i64), .v (.b)]⟩
noncomputable def fi58 : Fi := ⟨Try.f58, [], false, [.bx [.ro (.sl false [.i .u8]), .v (.i .i64), .v (.b)]], [.v (.i .i64)]⟩
noncomputable def fi42 : Fi := ⟨Try.f42, [], false, [.v (.i .i64), .v (.i .i64), .v (.i .i64)], [.v (.b)]⟩
def x15_2_0 : List (Ex × List Nat × CSt) := [(.ret, [2], ⟨[.b false], [.dead, .dead]⟩), ((.ex 0), [1], ⟨[.bp 2 0], [.dead, .dead, .box [.i .i64 0, .ro 0 true [.i .i64, .i .i64] []]]⟩)]
noncomputable def fi15 : Fi := ⟨Try.f15, [⟨2, [1, 3], [], [(⟨[.bp 2 0, .i .i64 0], [.dead, .dead, .box [.i .i64 0, .ro 0 true [.i .i64, .i .i64] []]]⟩, x15_2_0)]⟩], false, [.ag [.v (.i .i64), .ro (.sl true [.i .i64, .i .i64])]], [.v (.b)]⟩
def x35_5_0 : List (Ex × List Nat × CSt) := [((.ex 0), [0, 2, 4, 5, 6], ⟨[.ro 0 false [.i .u8] [], .bp 1 0, .bp 3 0, .bp 4 0, .i .i64 0], [.dead, .box [.i .i64 0, .rf 2 [] 0 none], .row true [.i .i64, .i .i64] [] 0 false, .box [.ro 0 false [.i .u8] [], .i .i64 0, .b false], .box [.i .i64 0, .rf 5 [] 0 none], .row true [.i .i64, .i .i64] [] 0 false]⟩)]
noncomputable def fi35 : Fi := ⟨Try.f35, [⟨5, [0, 2, 4, 5, 6, 7], [], [(⟨[.ro 0 false [.i .u8] [], .bp 1 0, .bp 3 0, .bp 4 0, .i .i64 0, .i .i64 0], [.dead, .box [.i .i64 0, .rf 2 [] 0 none], .row true [.i .i64, .i .i64] [] 0 false, .box [.ro 0 false [.i .u8] [], .i .i64 0, .b false], .box [.i .i64 0, .rf 5 [] 0 none], .row true [.i .i64, .i .i64] [] 0 false]⟩, x35_5_0)]⟩], false, [.ro (.sl false [.i .u8])], [.ag [.v (.i .i64), .ow (.sl true [.i .i64, .i .i64])], .v (.b)]⟩
def x74_6_0 : List (Ex × List Nat × CSt) := [((.ex 0), [], ⟨[], [.dead, .dead]⟩), (.ret, [4, 5, 6], ⟨[.i .i64 0, .i .i64 0, .b false], [.dead, .dead]⟩)]
noncomputable def fi74 : Fi := ⟨Try.f74, [⟨6, [0, 1, 7, 8, 9], [], [(⟨[.ro 0 false [.i .u8] [], .i .i64 0, .i .i64 0, .i .i64 0, .i .i64 0], [.dead, .dead]⟩, x74_6_0)]⟩], false, [.ro (.sl false [.i .u8]), .v (.i .i64)], [.v (.i .i64), .v (.i .i64), .v (.b)]⟩
noncomputable def fi59 : Fi := ⟨Try.f59, [], false, [.bx [.ro (.sl false [.i .u8]), .v (.i .i64), .v (.b)]], [.v (.i .i64)]⟩
noncomputable def fi60 : Fi := ⟨Try.f60, [], false, [.bx [.ro (.sl false [.i .u8]), .v (.i .i64), .v (.b)]], [.v (.i .i64)]⟩
noncomputable def fi61 : Fi := ⟨Try.f61, [], false, [.bx [.ro (.sl false [.i .u8]), .v (.i .i64), .v (.b)]], [.v (.b)]⟩
noncomputable def fi43 : Fi := ⟨Try.f43, [], false, [.v (.i .i64), .v (.i .i64), .v (.i .i64)], [.v (.b)]⟩
def x16_2_0 : List (Ex × List Nat × CSt) := [(.ret, [2], ⟨[.b false], [.dead, .dead]⟩), ((.ex 0), [1], ⟨[.bp 2 0], [.dead, .dead, .box [.i .i64 0, .ro 0 true [.i .i64, .i .i64] []]]⟩)]
noncomputable def fi16 : Fi := ⟨Try.f16, [⟨2, [1, 6, 7, 8], [], [(⟨[.bp 2 0, .ro 0 true [.i .i64, .i .i64] [], .i .i64 0, .i .i64 0], [.dead, .dead, .box [.i .i64 0, .ro 0 true [.i .i64, .i .i64] []]]⟩, x16_2_0)]⟩], false, [.ag [.v (.i .i64), .ro (.sl true [.i .i64, .i .i64])]], [.v (.b)]⟩
def x37_4_0 : List (Ex × List Nat × CSt) := [((.ex 0), [2, 4, 5], ⟨[.bp 1 0, .bp 3 0, .bp 4 0], [.dead, .box [.i .i64 0, .rf 2 [] 0 none], .row true [.i .i64, .i .i64] [] 0 false, .box [.ro 0 false [.i .u8] [], .i .i64 0, .b false], .box [.i .i64 0, .rf 5 [] 0 none], .row true [.i .i64, .i .i64] [] 0 false]⟩)]
noncomputable def fi37 : Fi := ⟨Try.f37, [⟨4, [2, 4, 5, 15, 16], [], [(⟨[.bp 1 0, .bp 3 0, .bp 4 0, .i .i64 0, .i .i64 0], [.dead, .box [.i .i64 0, .rf 2 [] 0 none], .row true [.i .i64, .i .i64] [] 0 false, .box [.ro 0 false [.i .u8] [], .i .i64 0, .b false], .box [.i .i64 0, .rf 5 [] 0 none], .row true [.i .i64, .i .i64] [] 0 false]⟩, x37_4_0)]⟩], false, [.ro (.sl false [.i .u8])], [.ag [.v (.i .i64), .ow (.sl true [.i .i64, .i .i64])], .v (.b)]⟩
noncomputable def fi64 : Fi := ⟨Try.f64, [], false, [.ag [.v (.i .i64), .v (.i .i64)], .ag [.v (.i .i64), .v (.i .i64)]], [.v (.b)]⟩
def x41_4_0 : List (Ex × List Nat × CSt) := [(.ret, [4], ⟨[.b false], [.dead, .dead]⟩), ((.ex 0), [], ⟨[], [.dead, .dead]⟩)]
noncomputable def fi41 : Fi := ⟨Try.f41, [⟨4, [0, 1, 5], [], [(⟨[.ro 0 true [.i .i64, .i .i64] [], .ro 0 true [.i .i64, .i .i64] [], .i .i64 0], [.dead, .dead]⟩, x41_4_0)]⟩], false, [.ro (.sl true [.i .i64, .i .i64]), .ro (.sl true [.i .i64, .i .i64])], [.v (.b)]⟩
noncomputable def fi14 : Fi := ⟨Try.f14, [], false, [.ag [.v (.i .i64), .ro (.sl true [.i .i64, .i .i64])], .ag [.v (.i .i64), .ro (.sl true [.i .i64, .i .i64])]], [.v (.b)]⟩
def x29_4_0 : List (Ex × List Nat × CSt) := [(.ret, [4], ⟨[.b false], [.dead, .dead]⟩), ((.ex 0), [], ⟨[], [.dead, .dead]⟩)]
noncomputable def fi29 : Fi := ⟨Try.f29, [⟨4, [0, 1, 5], [], [(⟨[.ro 0 false [.i .u8] [], .ro 0 false [.i .u8] [], .i .i64 0], [.dead, .dead]⟩, x29_4_0)]⟩], false, [.ro (.sl false [.i .u8]), .ro (.sl false [.i .u8])], [.v (.b)]⟩
def x31_2_0 : List (Ex × List Nat × CSt) := [((.ex 0), [1], ⟨[.i .i64 0], [.row false [.i .u8] [] 0 false, .dead]⟩)]
noncomputable def fi31 : Fi := ⟨Try.f31, [⟨2, [0, 1, 5], [], [(⟨[.rf 0 [] 0 none, .i .i64 0, .i .i64 0], [.row false [.i .u8] [] 0 false, .dead]⟩, x31_2_0)]⟩], false, [.ow (.sl false [.i .u8]), .v (.i .i64)], [.v (.i .i64)]⟩
def x57_2_0 : List (Ex × List Nat × CSt) := [((.ex 0), [1], ⟨[.i .i64 0], [.row true [.i .i64, .i .i64] [] 0 false, .dead]⟩)]
noncomputable def fi57 : Fi := ⟨Try.f57, [⟨2, [0, 1, 5], [], [(⟨[.rf 0 [] 0 none, .i .i64 0, .i .i64 0], [.row true [.i .i64, .i .i64] [] 0 false, .dead]⟩, x57_2_0)]⟩], false, [.ow (.sl true [.i .i64, .i .i64]), .v (.i .i64)], [.v (.i .i64)]⟩
noncomputable def fi30 : Fi := ⟨Try.f30, [], false, [.ag [.v (.i .i64), .ow (.sl true [.i .i64, .i .i64])], .v (.i .i64)], [.v (.i .i64)]⟩
def x62_2_0 : List (Ex × List Nat × CSt) := [(.ret, [4], ⟨[.i .i64 0], [.dead, .dead]⟩), ((.ex 0), [1], ⟨[.i .i64 0], [.dead, .dead]⟩)]
noncomputable def fi62 : Fi := ⟨Try.f62, [⟨2, [0, 1, 5], [], [(⟨[.ro 0 true [.i .i64, .i .i64] [], .i .i64 0, .i .i64 0], [.dead, .dead]⟩, x62_2_0)]⟩], false, [.ro (.sl true [.i .i64, .i .i64]), .v (.i .i64)], [.v (.i .i64)]⟩
noncomputable def fi38 : Fi := ⟨Try.f38, [], false, [.ag [.v (.i .i64), .ro (.sl true [.i .i64, .i .i64])], .v (.i .i64)], [.v (.i .i64)]⟩
noncomputable def fi9 : Fi := ⟨Try.f9, [], false, [.ro (.sl false [.i .u8])], [.v (.b)]⟩
noncomputable def fiTab : List (Nat × Fi) := [(36, fi36), (73, fi73), (58, fi58), (42, fi42), (15, fi15), (35, fi35), (74, fi74), (59, fi59), (60, fi60), (61, fi61), (43, fi43), (16, fi16), (37, fi37), (64, fi64), (41, fi41), (14, fi14), (29, fi29), (31, fi31), (57, fi57), (30, fi30), (62, fi62), (38, fi38), (9, fi9)]
def X : Nat → Option (List T → Option (List T)) := lookN []
noncomputable def env : Env := ⟨lookN fiTab, lookN tyTab⟩
-- FUNCTIONS
/-- loop.example/g00285/laws.toByteS, the loop at region 3. -/
def f36_0_s (c : Orc) (lf : Nat) (l0 : List T) (L : Int → List T → Option (List T)) (x4 : Int) (x5 : List T) : Option (List T) :=
  bif iLt x4 (l0.length : Int) then
    bif inR x4 l0.length then
    bif inR x4 x5.length then
    L (IntKind.wrap .i64 (x4 + 1)) (x5.set x4.toNat (T.i .u8 (asI (l0.getD x4.toNat T.u))))
    else none
    else none
  else
    some [T.i .i64 0, T.sl x5]
def f36_0_c (l0 : List T) (x4 : Int) (x5 : List T) : CSt := ⟨[.ro 0 false [.i .u8] l0, .rf 1 [] 0 none, .i .i64 x4], [.dead, .row false [.i .u8] x5 0 false]⟩
theorem f36_0_round (c : Orc) (lf : Nat) (l0 : List T) (L : CSt → Option (List T)) (x4 : Int) (x5 : List T) :
    roundK c env lf 6 fi36 1 3 [] [0, 3, 4] (x36_3_0) L (f36_0_c l0 x4 x5) = f36_0_s c lf l0 (fun x4 x5 => L (f36_0_c l0 x4 x5)) x4 x5 := by kernel_rfl
def f36_0 (c : Orc) (lf : Nat) (l0 : List T) : Nat → Int → List T → Option (List T)
  | 0 => fun _ _ => none
  | n + 1 => fun x4 x5 => f36_0_s c lf l0 (f36_0 c lf l0 n) x4 x5
theorem f36_0_u (c : Orc) (lf : Nat) (l0 : List T) (n : Nat) (x4 : Int) (x5 : List T) : f36_0 c lf l0 (n + 1) x4 x5 = f36_0_s c lf l0 (f36_0 c lf l0 n) x4 x5 := rfl
theorem f36_0_eq (c : Orc) (lf : Nat) (l0 : List T) (n : Nat) (x4 : Int) (x5 : List T) :
    lpK c env lf 6 fi36 1 3 [] [0, 3, 4] (x36_3_0) n (f36_0_c l0 x4 x5) = f36_0 c lf l0 n x4 x5 := by
  induction n generalizing x4 x5 with
  | zero => rfl
  | succ n ih =>
    refine (f36_0_round c lf l0 _ x4 x5).trans ?_
    have e : (fun x4 x5 => lpK c env lf 6 fi36 1 3 [] [0, 3, 4] (x36_3_0) n (f36_0_c l0 x4 x5)) = f36_0 c lf l0 n := by funext x4 x5; exact ih x4 x5
    show f36_0_s c lf l0 (fun x4 x5 => lpK c env lf 6 fi36 1 3 [] [0, 3, 4] (x36_3_0) n (f36_0_c l0 x4 x5)) x4 x5 = _
    rw [e]; rfl
/-- loop.example/g00285/laws.toByteS -/
def f36_t (c : Orc) (lf : Nat) (lp0 : List T → Int → List T → Option (List T)) (l0 : List T) : Option (List T) :=
  bif iLe 0 (l0.length : Int) && iLe (l0.length : Int) (LIM : Int) && ((l0.length : Int) == (l0.length : Int)) then
  (lp0 l0 0 (List.replicate (l0.length : Int).toNat (T.i .u8 0))).bind fun r6 =>
  some [T.sl (asL (nth r6 1))]
  else none
def f36 (c : Orc) (lf : Nat) (l0 : List T) : Option (List T) := f36_t c lf (fun (l0 : List T) (x4 : Int) (x5 : List T) => f36_0 c lf l0 lf x4 x5) l0
theorem f36_raw (c : Orc) (lf : Nat) (l0 : List T) : funK c env lf 6 fi36 [.sl l0] = f36_t c lf (fun (l0 : List T) (x4 : Int) (x5 : List T) => lpK c env lf 6 fi36 1 3 [] [0, 3, 4] (x36_3_0) lf (f36_0_c l0 x4 x5)) l0 := by kernel_rfl
theorem f36_eq (c : Orc) (lf : Nat) (l0 : List T) : funK c env lf 6 fi36 [.sl l0] = f36 c lf l0 := by
  refine (f36_raw c lf l0).trans ?_
  have e0 : (fun (l0 : List T) (x4 : Int) (x5 : List T) => lpK c env lf 6 fi36 1 3 [] [0, 3, 4] (x36_3_0) lf (f36_0_c l0 x4 x5)) = (fun (l0 : List T) (x4 : Int) (x5 : List T) => f36_0 c lf l0 lf x4 x5) := by funext l0 x4 x5; exact f36_0_eq c lf l0 lf x4 x5
  rw [e0]; rfl
/-- loop.example/g00285/spec.GetNum, the loop at region 3. -/
def f73_0_s (c : Orc) (lf : Nat) (l0 : List T) (n1 : Int) (L : Int → Int → Option (List T)) (x10 : Int) (x11 : Int) : Option (List T) :=
  bif iLt x11 3 then
    bif iLe 0 n1 then
      bif iLt n1 (l0.length : Int) then
        bif iLt (IntKind.wrap .i64 (n1 + x11)) (l0.length : Int) then
          bif inR (IntKind.wrap .i64 (n1 + x11)) l0.length then
          bif iLe 0 (IntKind.wrap .u64 (IntKind.wrap .i64 (7 * x11))) then
          bif iLt 127 (IntKind.wrap .i64 (asI (l0.getD ((IntKind.wrap .i64 (n1 + x11)).toNat) T.u))) then
            L (intBits .or .i64 x10 (shiftI .shl .i64 (intBits .and .i64 (IntKind.wrap .i64 (asI (l0.getD ((IntKind.wrap .i64 (n1 + x11)).toNat) T.u))) 127) (IntKind.wrap .u64 (IntKind.wrap .i64 (7 * x11))))) (IntKind.wrap .i64 (x11 + 1))
          else
            bif iLt 0 x11 then
              bif (IntKind.wrap .i64 (asI (l0.getD ((IntKind.wrap .i64 (n1 + x11)).toNat) T.u))) == 0 then
                some [T.i .i64 0, T.i .i64 0, T.i .i64 0, T.b false]
              else
                bif iLt 1000000 (intBits .or .i64 x10 (shiftI .shl .i64 (intBits .and .i64 (IntKind.wrap .i64 (asI (l0.getD ((IntKind.wrap .i64 (n1 + x11)).toNat) T.u))) 127) (IntKind.wrap .u64 (IntKind.wrap .i64 (7 * x11))))) then
                  some [T.i .i64 0, T.i .i64 0, T.i .i64 0, T.b false]
                else
                  some [T.i .i64 0, T.i .i64 (intBits .or .i64 x10 (shiftI .shl .i64 (intBits .and .i64 (IntKind.wrap .i64 (asI (l0.getD ((IntKind.wrap .i64 (n1 + x11)).toNat) T.u))) 127) (IntKind.wrap .u64 (IntKind.wrap .i64 (7 * x11))))), T.i .i64 (IntKind.wrap .i64 ((IntKind.wrap .i64 (n1 + x11)) + 1)), T.b true]
            else
              bif iLt 1000000 (intBits .or .i64 x10 (shiftI .shl .i64 (intBits .and .i64 (IntKind.wrap .i64 (asI (l0.getD ((IntKind.wrap .i64 (n1 + x11)).toNat) T.u))) 127) (IntKind.wrap .u64 (IntKind.wrap .i64 (7 * x11))))) then
                some [T.i .i64 0, T.i .i64 0, T.i .i64 0, T.b false]
              else
                some [T.i .i64 0, T.i .i64 (intBits .or .i64 x10 (shiftI .shl .i64 (intBits .and .i64 (IntKind.wrap .i64 (asI (l0.getD ((IntKind.wrap .i64 (n1 + x11)).toNat) T.u))) 127) (IntKind.wrap .u64 (IntKind.wrap .i64 (7 * x11))))), T.i .i64 (IntKind.wrap .i64 ((IntKind.wrap .i64 (n1 + x11)) + 1)), T.b true]
          else none
          else none
        else
          some [T.i .i64 1]
      else
        some [T.i .i64 1]
    else
      some [T.i .i64 1]
  else
    some [T.i .i64 1]
def f73_0_c (l0 : List T) (n1 : Int) (x10 : Int) (x11 : Int) : CSt := ⟨[.ro 0 false [.i .u8] l0, .i .i64 n1, .i .i64 x10, .i .i64 x11], [.dead, .dead]⟩
theorem f73_0_round (c : Orc) (lf : Nat) (l0 : List T) (n1 : Int) (L : CSt → Option (List T)) (x10 : Int) (x11 : Int) :
    roundK c env lf 6 fi73 2 3 [] [0, 1, 7, 8] (x73_3_0) L (f73_0_c l0 n1 x10 x11) = f73_0_s c lf l0 n1 (fun x10 x11 => L (f73_0_c l0 n1 x10 x11)) x10 x11 := by kernel_rfl
def f73_0 (c : Orc) (lf : Nat) (l0 : List T) (n1 : Int) : Nat → Int → Int → Option (List T)
  | 0 => fun _ _ => none
  | n + 1 => fun x10 x11 => f73_0_s c lf l0 n1 (f73_0 c lf l0 n1 n) x10 x11
theorem f73_0_u (c : Orc) (lf : Nat) (l0 : List T) (n1 : Int) (n : Nat) (x10 : Int) (x11 : Int) : f73_0 c lf l0 n1 (n + 1) x10 x11 = f73_0_s c lf l0 n1 (f73_0 c lf l0 n1 n) x10 x11 := rfl
theorem f73_0_eq (c : Orc) (lf : Nat) (l0 : List T) (n1 : Int) (n : Nat) (x10 : Int) (x11 : Int) :
    lpK c env lf 6 fi73 2 3 [] [0, 1, 7, 8] (x73_3_0) n (f73_0_c l0 n1 x10 x11) = f73_0 c lf l0 n1 n x10 x11 := by
  induction n generalizing x10 x11 with
  | zero => rfl
  | succ n ih =>
    refine (f73_0_round c lf l0 n1 _ x10 x11).trans ?_
    have e : (fun x10 x11 => lpK c env lf 6 fi73 2 3 [] [0, 1, 7, 8] (x73_3_0) n (f73_0_c l0 n1 x10 x11)) = f73_0 c lf l0 n1 n := by funext x10 x11; exact ih x10 x11
    show f73_0_s c lf l0 n1 (fun x10 x11 => lpK c env lf 6 fi73 2 3 [] [0, 1, 7, 8] (x73_3_0) n (f73_0_c l0 n1 x10 x11)) x10 x11 = _
    rw [e]; rfl
/-- loop.example/g00285/spec.GetNum -/
def f73_t (c : Orc) (lf : Nat) (lp0 : List T → Int → Int → Int → Option (List T)) (l0 : List T) (n1 : Int) : Option (List T) :=
  (lp0 l0 n1 0 0).bind fun r12 =>
  bif asI (nth r12 0) == 0 then
    some [T.i .i64 (asI (nth r12 1)), T.i .i64 (asI (nth r12 2)), T.b (asB (nth r12 3))]
  else
    some [T.i .i64 0, T.i .i64 0, T.b false]
def f73 (c : Orc) (lf : Nat) (l0 : List T) (n1 : Int) : Option (List T) := f73_t c lf (fun (l0 : List T) (n1 : Int) (x10 : Int) (x11 : Int) => f73_0 c lf l0 n1 lf x10 x11) l0 n1
theorem f73_raw (c : Orc) (lf : Nat) (l0 : List T) (n1 : Int) : funK c env lf 6 fi73 [.sl l0, .i .i64 n1] = f73_t c lf (fun (l0 : List T) (n1 : Int) (x10 : Int) (x11 : Int) => lpK c env lf 6 fi73 2 3 [] [0, 1, 7, 8] (x73_3_0) lf (f73_0_c l0 n1 x10 x11)) l0 n1 := by kernel_rfl
theorem f73_eq (c : Orc) (lf : Nat) (l0 : List T) (n1 : Int) : funK c env lf 6 fi73 [.sl l0, .i .i64 n1] = f73 c lf l0 n1 := by
  refine (f73_raw c lf l0 n1).trans ?_
  have e0 : (fun (l0 : List T) (n1 : Int) (x10 : Int) (x11 : Int) => lpK c env lf 6 fi73 2 3 [] [0, 1, 7, 8] (x73_3_0) lf (f73_0_c l0 n1 x10 x11)) = (fun (l0 : List T) (n1 : Int) (x10 : Int) (x11 : Int) => f73_0 c lf l0 n1 lf x10 x11) := by funext l0 n1 x10 x11; exact f73_0_eq c lf l0 n1 lf x10 x11
  rw [e0]; rfl
/-- loop.example/g00285/spec.l3Num -/
def f58_t (c : Orc) (lf : Nat) (l0_0 : List T) (n0_1 : Int) (b0_2 : Bool) : Option (List T) :=
  (c 73 [T.sl l0_0, T.i .i64 n0_1]).bind fun r13 =>
  bif b0_2 then
    some [T.i .i64 0, T.st [T.sl l0_0, T.i .i64 n0_1, T.b true]]
  else
    bif !(asB (nth r13 2)) then
      some [T.i .i64 0, T.st [T.sl l0_0, T.i .i64 n0_1, T.b true]]
    else
      some [T.i .i64 (asI (nth r13 0)), T.st [T.sl l0_0, T.i .i64 (asI (nth r13 1)), T.b b0_2]]
def f58 (c : Orc) (lf : Nat) (l0_0 : List T) (n0_1 : Int) (b0_2 : Bool) : Option (List T) := f58_t c lf l0_0 n0_1 b0_2
theorem f58_raw (c : Orc) (lf : Nat) (l0_0 : List T) (n0_1 : Int) (b0_2 : Bool) : funK c env lf 6 fi58 [.st [.sl l0_0, .i .i64 n0_1, .b b0_2]] = f58_t c lf l0_0 n0_1 b0_2 := by kernel_rfl
theorem f58_eq (c : Orc) (lf : Nat) (l0_0 : List T) (n0_1 : Int) (b0_2 : Bool) : funK c env lf 6 fi58 [.st [.sl l0_0, .i .i64 n0_1, .b b0_2]] = f58 c lf l0_0 n0_1 b0_2 := by
  refine (f58_raw c lf l0_0 n0_1 b0_2).trans ?_
  rfl
/-- loop.example/g00285/spec.l1In -/
def f42_t (c : Orc) (lf : Nat) (n0 : Int) (n1 : Int) (n2 : Int) : Option (List T) :=
  bif iLe n1 n0 then
    some [T.b (iLe n0 n2)]
  else
    some [T.b false]
def f42 (c : Orc) (lf : Nat) (n0 : Int) (n1 : Int) (n2 : Int) : Option (List T) := f42_t c lf n0 n1 n2
theorem f42_raw (c : Orc) (lf : Nat) (n0 : Int) (n1 : Int) (n2 : Int) : funK c env lf 6 fi42 [.i .i64 n0, .i .i64 n1, .i .i64 n2] = f42_t c lf n0 n1 n2 := by kernel_rfl
theorem f42_eq (c : Orc) (lf : Nat) (n0 : Int) (n1 : Int) (n2 : Int) : funK c env lf 6 fi42 [.i .i64 n0, .i .i64 n1, .i .i64 n2] = f42 c lf n0 n1 n2 := by
  refine (f42_raw c lf n0 n1 n2).trans ?_
  rfl
/-- loop.example/g00285/spec.MapOk, the loop at region 2. -/
def f15_0_s (c : Orc) (lf : Nat) (l0_1 : List T) (n0_0 : Int) (L : Int → Option (List T)) (x20 : Int) : Option (List T) :=
  bif iLt x20 (l0_1.length : Int) then
    bif inR x20 l0_1.length then
    bif iLt (asI (T.cell (l0_1.getD x20.toNat T.u) 0)) 1 then
      some [T.i .i64 0, T.b false]
    else
      bif iLe n0_0 (asI (T.cell (l0_1.getD x20.toNat T.u) 0)) then
        some [T.i .i64 0, T.b false]
      else
        (c 42 [T.i .i64 (asI (T.cell (l0_1.getD x20.toNat T.u) 1)), T.i .i64 0, T.i .i64 191]).bind fun r21 =>
        bif !(asB (nth r21 0)) then
          some [T.i .i64 0, T.b false]
        else
          bif iLt 0 x20 then
            bif inR (IntKind.wrap .i64 (x20 - 1)) l0_1.length then
            bif iLe (asI (T.cell (l0_1.getD x20.toNat T.u) 0)) (asI (T.cell (l0_1.getD ((IntKind.wrap .i64 (x20 - 1)).toNat) T.u) 0)) then
              some [T.i .i64 0, T.b false]
            else
              L (IntKind.wrap .i64 (x20 + 1))
            else none
          else
            L (IntKind.wrap .i64 (x20 + 1))
    else none
  else
    some [T.i .i64 1, T.i .i64 n0_0, T.sl l0_1]
def f15_0_c (l0_1 : List T) (n0_0 : Int) (x20 : Int) : CSt := ⟨[.bp 2 0, .i .i64 x20], [.dead, .dead, .box [.i .i64 n0_0, .ro 0 true [.i .i64, .i .i64] l0_1]]⟩
theorem f15_0_round (c : Orc) (lf : Nat) (l0_1 : List T) (n0_0 : Int) (L : CSt → Option (List T)) (x20 : Int) :
    roundK c env lf 6 fi15 2 2 [] [1, 3] (x15_2_0) L (f15_0_c l0_1 n0_0 x20) = f15_0_s c lf l0_1 n0_0 (fun x20 => L (f15_0_c l0_1 n0_0 x20)) x20 := by kernel_rfl
def f15_0 (c : Orc) (lf : Nat) (l0_1 : List T) (n0_0 : Int) : Nat → Int → Option (List T)
  | 0 => fun _ => none
  | n + 1 => fun x20 => f15_0_s c lf l0_1 n0_0 (f15_0 c lf l0_1 n0_0 n) x20
theorem f15_0_u (c : Orc) (lf : Nat) (l0_1 : List T) (n0_0 : Int) (n : Nat) (x20 : Int) : f15_0 c lf l0_1 n0_0 (n + 1) x20 = f15_0_s c lf l0_1 n0_0 (f15_0 c lf l0_1 n0_0 n) x20 := rfl
theorem f15_0_eq (c : Orc) (lf : Nat) (l0_1 : List T) (n0_0 : Int) (n : Nat) (x20 : Int) :
    lpK c env lf 6 fi15 2 2 [] [1, 3] (x15_2_0) n (f15_0_c l0_1 n0_0 x20) = f15_0 c lf l0_1 n0_0 n x20 := by
  induction n generalizing x20 with
  | zero => rfl
  | succ n ih =>
    refine (f15_0_round c lf l0_1 n0_0 _ x20).trans ?_
    have e : (fun x20 => lpK c env lf 6 fi15 2 2 [] [1, 3] (x15_2_0) n (f15_0_c l0_1 n0_0 x20)) = f15_0 c lf l0_1 n0_0 n := by funext x20; exact ih x20
    show f15_0_s c lf l0_1 n0_0 (fun x20 => lpK c env lf 6 fi15 2 2 [] [1, 3] (x15_2_0) n (f15_0_c l0_1 n0_0 x20)) x20 = _
    rw [e]; rfl
/-- loop.example/g00285/spec.MapOk -/
def f15_t (c : Orc) (lf : Nat) (lp0 : List T → Int → Int → Option (List T)) (n0_0 : Int) (l0_1 : List T) : Option (List T) :=
  (lp0 l0_1 n0_0 0).bind fun r22 =>
  bif asI (nth r22 0) == 0 then
    some [T.b (asB (nth r22 1))]
  else
    bif iLe ((asL (nth r22 2)).length : Int) 30 then
      (c 42 [T.i .i64 (asI (nth r22 1)), T.i .i64 2, T.i .i64 1000]).bind fun r23 =>
      some [T.b (asB (nth r23 0))]
    else
      some [T.b false]
def f15 (c : Orc) (lf : Nat) (n0_0 : Int) (l0_1 : List T) : Option (List T) := f15_t c lf (fun (l0_1 : List T) (n0_0 : Int) (x20 : Int) => f15_0 c lf l0_1 n0_0 lf x20) n0_0 l0_1
theorem f15_raw (c : Orc) (lf : Nat) (n0_0 : Int) (l0_1 : List T) : funK c env lf 6 fi15 [.st [.i .i64 n0_0, .sl l0_1]] = f15_t c lf (fun (l0_1 : List T) (n0_0 : Int) (x20 : Int) => lpK c env lf 6 fi15 2 2 [] [1, 3] (x15_2_0) lf (f15_0_c l0_1 n0_0 x20)) n0_0 l0_1 := by kernel_rfl
theorem f15_eq (c : Orc) (lf : Nat) (n0_0 : Int) (l0_1 : List T) : funK c env lf 6 fi15 [.st [.i .i64 n0_0, .sl l0_1]] = f15 c lf n0_0 l0_1 := by
  refine (f15_raw c lf n0_0 l0_1).trans ?_
  have e0 : (fun (l0_1 : List T) (n0_0 : Int) (x20 : Int) => lpK c env lf 6 fi15 2 2 [] [1, 3] (x15_2_0) lf (f15_0_c l0_1 n0_0 x20)) = (fun (l0_1 : List T) (n0_0 : Int) (x20 : Int) => f15_0 c lf l0_1 n0_0 lf x20) := by funext l0_1 n0_0 x20; exact f15_0_eq c lf l0_1 n0_0 lf x20
  rw [e0]; rfl
/-- loop.example/g00285/spec.GetMap, the loop at region 5. -/
def f35_0_s (c : Orc) (lf : Nat) (l0 : List T) (r36 : List T) (r37 : List T) (L : Int → Int → Bool → List T → Option (List T)) (x40 : Int) (x41 : Int) (x42 : Bool) (x43 : List T) : Option (List T) :=
  bif iLt x40 (asI (nth r37 0)) then
    bif iLe x40 30 then
      bif !x42 then
        (c 58 [T.st [T.sl l0, T.i .i64 x41, T.b x42]]).bind fun r44 =>
        (c 58 [T.st [T.sl l0, T.i .i64 (asI (T.cell (nth r44 1) 1)), T.b (asB (T.cell (nth r44 1) 2))]]).bind fun r45 =>
        bif nLe (x43.length + ([T.st [T.i .i64 (asI (nth r44 0)), T.i .i64 (asI (nth r45 0))]] : List T).length) LIM then
        L (IntKind.wrap .i64 (x40 + 1)) (asI (T.cell (nth r45 1) 1)) (asB (T.cell (nth r45 1) 2)) (x43 ++ ([T.st [T.i .i64 (asI (nth r44 0)), T.i .i64 (asI (nth r45 0))]] : List T))
        else none
      else
        some [T.i .i64 0, T.sl l0, T.i .i64 (asI (nth r37 0)), T.i .i64 0, T.sl ([] : List T), T.sl l0, T.i .i64 x41, T.b x42, T.i .i64 (asI (nth r36 0)), T.sl x43]
    else
      some [T.i .i64 0, T.sl l0, T.i .i64 (asI (nth r37 0)), T.i .i64 0, T.sl ([] : List T), T.sl l0, T.i .i64 x41, T.b x42, T.i .i64 (asI (nth r36 0)), T.sl x43]
  else
    some [T.i .i64 0, T.sl l0, T.i .i64 (asI (nth r37 0)), T.i .i64 0, T.sl ([] : List T), T.sl l0, T.i .i64 x41, T.b x42, T.i .i64 (asI (nth r36 0)), T.sl x43]
def f35_0_c (l0 : List T) (r36 : List T) (r37 : List T) (x40 : Int) (x41 : Int) (x42 : Bool) (x43 : List T) : CSt := ⟨[.ro 0 false [.i .u8] l0, .bp 1 0, .bp 3 0, .bp 4 0, .i .i64 (asI (nth r37 0)), .i .i64 x40], [.dead, .box [.i .i64 0, .rf 2 [] 0 none], .row true [.i .i64, .i .i64] ([] : List T) 0 false, .box [.ro 0 false [.i .u8] l0, .i .i64 x41, .b x42], .box [.i .i64 (asI (nth r36 0)), .rf 5 [] 0 none], .row true [.i .i64, .i .i64] x43 0 false]⟩
theorem f35_0_round (c : Orc) (lf : Nat) (l0 : List T) (r36 : List T) (r37 : List T) (L : CSt → Option (List T)) (x40 : Int) (x41 : Int) (x42 : Bool) (x43 : List T) :
    roundK c env lf 6 fi35 1 5 [] [0, 2, 4, 5, 6, 7] (x35_5_0) L (f35_0_c l0 r36 r37 x40 x41 x42 x43) = f35_0_s c lf l0 r36 r37 (fun x40 x41 x42 x43 => L (f35_0_c l0 r36 r37 x40 x41 x42 x43)) x40 x41 x42 x43 := by kernel_rfl
def f35_0 (c : Orc) (lf : Nat) (l0 : List T) (r36 : List T) (r37 : List T) : Nat → Int → Int → Bool → List T → Option (List T)
  | 0 => fun _ _ _ _ => none
  | n + 1 => fun x40 x41 x42 x43 => f35_0_s c lf l0 r36 r37 (f35_0 c lf l0 r36 r37 n) x40 x41 x42 x43
theorem f35_0_u (c : Orc) (lf : Nat) (l0 : List T) (r36 : List T) (r37 : List T) (n : Nat) (x40 : Int) (x41 : Int) (x42 : Bool) (x43 : List T) : f35_0 c lf l0 r36 r37 (n + 1) x40 x41 x42 x43 = f35_0_s c lf l0 r36 r37 (f35_0 c lf l0 r36 r37 n) x40 x41 x42 x43 := rfl
theorem f35_0_eq (c : Orc) (lf : Nat) (l0 : List T) (r36 : List T) (r37 : List T) (n : Nat) (x40 : Int) (x41 : Int) (x42 : Bool) (x43 : List T) :
    lpK c env lf 6 fi35 1 5 [] [0, 2, 4, 5, 6, 7] (x35_5_0) n (f35_0_c l0 r36 r37 x40 x41 x42 x43) = f35_0 c lf l0 r36 r37 n x40 x41 x42 x43 := by
  induction n generalizing x40 x41 x42 x43 with
  | zero => rfl
  | succ n ih =>
    refine (f35_0_round c lf l0 r36 r37 _ x40 x41 x42 x43).trans ?_
    have e : (fun x40 x41 x42 x43 => lpK c env lf 6 fi35 1 5 [] [0, 2, 4, 5, 6, 7] (x35_5_0) n (f35_0_c l0 r36 r37 x40 x41 x42 x43)) = f35_0 c lf l0 r36 r37 n := by funext x40 x41 x42 x43; exact ih x40 x41 x42 x43
    show f35_0_s c lf l0 r36 r37 (fun x40 x41 x42 x43 => lpK c env lf 6 fi35 1 5 [] [0, 2, 4, 5, 6, 7] (x35_5_0) n (f35_0_c l0 r36 r37 x40 x41 x42 x43)) x40 x41 x42 x43 = _
    rw [e]; rfl
/-- loop.example/g00285/spec.GetMap -/
def f35_t (c : Orc) (lf : Nat) (lp0 : List T → List T → List T → Int → Int → Bool → List T → Option (List T)) (l0 : List T) : Option (List T) :=
  (c 58 [T.st [T.sl l0, T.i .i64 0, T.b false]]).bind fun r36 =>
  (c 58 [T.st [T.sl l0, T.i .i64 (asI (T.cell (nth r36 1) 1)), T.b (asB (T.cell (nth r36 1) 2))]]).bind fun r37 =>
  (lp0 l0 r36 r37 0 (asI (T.cell (nth r37 1) 1)) (asB (T.cell (nth r37 1) 2)) ([] : List T)).bind fun r46 =>
  bif asB (nth r46 7) then
    some [T.st [T.i .i64 0, T.sl []], T.b false]
  else
    bif (asI (nth r46 6)) != ((asL (nth r46 1)).length : Int) then
      some [T.st [T.i .i64 0, T.sl []], T.b false]
    else
      bif (asI (nth r46 2)) != ((asL (nth r46 9)).length : Int) then
        some [T.st [T.i .i64 0, T.sl []], T.b false]
      else
        (c 15 [T.st [T.i .i64 (asI (nth r46 8)), T.sl (asL (nth r46 9))]]).bind fun r47 =>
        bif !(asB (nth r47 0)) then
          some [T.st [T.i .i64 0, T.sl []], T.b false]
        else
          some [T.st [T.i .i64 (asI (nth r46 8)), T.sl (asL (nth r46 9))], T.b true]
def f35 (c : Orc) (lf : Nat) (l0 : List T) : Option (List T) := f35_t c lf (fun (l0 : List T) (r36 : List T) (r37 : List T) (x40 : Int) (x41 : Int) (x42 : Bool) (x43 : List T) => f35_0 c lf l0 r36 r37 lf x40 x41 x42 x43) l0
theorem f35_raw (c : Orc) (lf : Nat) (l0 : List T) : funK c env lf 6 fi35 [.sl l0] = f35_t c lf (fun (l0 : List T) (r36 : List T) (r37 : List T) (x40 : Int) (x41 : Int) (x42 : Bool) (x43 : List T) => lpK c env lf 6 fi35 1 5 [] [0, 2, 4, 5, 6, 7] (x35_5_0) lf (f35_0_c l0 r36 r37 x40 x41 x42 x43)) l0 := by kernel_rfl
theorem f35_eq (c : Orc) (lf : Nat) (l0 : List T) : funK c env lf 6 fi35 [.sl l0] = f35 c lf l0 := by
  refine (f35_raw c lf l0).trans ?_
  have e0 : (fun (l0 : List T) (r36 : List T) (r37 : List T) (x40 : Int) (x41 : Int) (x42 : Bool) (x43 : List T) => lpK c env lf 6 fi35 1 5 [] [0, 2, 4, 5, 6, 7] (x35_5_0) lf (f35_0_c l0 r36 r37 x40 x41 x42 x43)) = (fun (l0 : List T) (r36 : List T) (r37 : List T) (x40 : Int) (x41 : Int) (x42 : Bool) (x43 : List T) => f35_0 c lf l0 r36 r37 lf x40 x41 x42 x43) := by funext l0 r36 r37 x40 x41 x42 x43; exact f35_0_eq c lf l0 r36 r37 lf x40 x41 x42 x43
  rw [e0]; rfl
/-- loop.example/g00285/impl.GetNum, the loop at region 6. -/
def f74_0_s (c : Orc) (lf : Nat) (l0 : List T) (n1 : Int) (L : Int → Int → Int → Option (List T)) (x52 : Int) (x53 : Int) (x54 : Int) : Option (List T) :=
  bif iLt x54 3 then
    bif iLt n1 (IntKind.wrap .i64 ((l0.length : Int) - x54)) then
      bif inR (IntKind.wrap .i64 (n1 + x54)) l0.length then
      bif iLe 128 (IntKind.wrap .i64 (asI (l0.getD ((IntKind.wrap .i64 (n1 + x54)).toNat) T.u))) then
        L (IntKind.wrap .i64 (x52 + (IntKind.wrap .i64 (((IntKind.wrap .i64 (asI (l0.getD ((IntKind.wrap .i64 (n1 + x54)).toNat) T.u))).tmod 128) * x53)))) (IntKind.wrap .i64 (x53 * 128)) (IntKind.wrap .i64 (x54 + 1))
      else
        bif iLt 1000000 (IntKind.wrap .i64 (x52 + (IntKind.wrap .i64 (((IntKind.wrap .i64 (asI (l0.getD ((IntKind.wrap .i64 (n1 + x54)).toNat) T.u))).tmod 128) * x53)))) then
          some [T.i .i64 0]
        else
          bif (IntKind.wrap .i64 (asI (l0.getD ((IntKind.wrap .i64 (n1 + x54)).toNat) T.u))) == 0 then
            bif iLt 0 x54 then
              some [T.i .i64 0]
            else
              some [T.i .i64 1, T.i .i64 (IntKind.wrap .i64 (x52 + (IntKind.wrap .i64 (((IntKind.wrap .i64 (asI (l0.getD ((IntKind.wrap .i64 (n1 + x54)).toNat) T.u))).tmod 128) * x53)))), T.i .i64 (IntKind.wrap .i64 ((IntKind.wrap .i64 (n1 + x54)) + 1)), T.b true]
          else
            some [T.i .i64 1, T.i .i64 (IntKind.wrap .i64 (x52 + (IntKind.wrap .i64 (((IntKind.wrap .i64 (asI (l0.getD ((IntKind.wrap .i64 (n1 + x54)).toNat) T.u))).tmod 128) * x53)))), T.i .i64 (IntKind.wrap .i64 ((IntKind.wrap .i64 (n1 + x54)) + 1)), T.b true]
      else none
    else
      some [T.i .i64 0]
  else
    some [T.i .i64 0]
def f74_0_c (l0 : List T) (n1 : Int) (x52 : Int) (x53 : Int) (x54 : Int) : CSt := ⟨[.ro 0 false [.i .u8] l0, .i .i64 n1, .i .i64 x52, .i .i64 x53, .i .i64 x54], [.dead, .dead]⟩
theorem f74_0_round (c : Orc) (lf : Nat) (l0 : List T) (n1 : Int) (L : CSt → Option (List T)) (x52 : Int) (x53 : Int) (x54 : Int) :
    roundK c env lf 6 fi74 2 6 [] [0, 1, 7, 8, 9] (x74_6_0) L (f74_0_c l0 n1 x52 x53 x54) = f74_0_s c lf l0 n1 (fun x52 x53 x54 => L (f74_0_c l0 n1 x52 x53 x54)) x52 x53 x54 := by kernel_rfl
def f74_0 (c : Orc) (lf : Nat) (l0 : List T) (n1 : Int) : Nat → Int → Int → Int → Option (List T)
  | 0 => fun _ _ _ => none
  | n + 1 => fun x52 x53 x54 => f74_0_s c lf l0 n1 (f74_0 c lf l0 n1 n) x52 x53 x54
theorem f74_0_u (c : Orc) (lf : Nat) (l0 : List T) (n1 : Int) (n : Nat) (x52 : Int) (x53 : Int) (x54 : Int) : f74_0 c lf l0 n1 (n + 1) x52 x53 x54 = f74_0_s c lf l0 n1 (f74_0 c lf l0 n1 n) x52 x53 x54 := rfl
theorem f74_0_eq (c : Orc) (lf : Nat) (l0 : List T) (n1 : Int) (n : Nat) (x52 : Int) (x53 : Int) (x54 : Int) :
    lpK c env lf 6 fi74 2 6 [] [0, 1, 7, 8, 9] (x74_6_0) n (f74_0_c l0 n1 x52 x53 x54) = f74_0 c lf l0 n1 n x52 x53 x54 := by
  induction n generalizing x52 x53 x54 with
  | zero => rfl
  | succ n ih =>
    refine (f74_0_round c lf l0 n1 _ x52 x53 x54).trans ?_
    have e : (fun x52 x53 x54 => lpK c env lf 6 fi74 2 6 [] [0, 1, 7, 8, 9] (x74_6_0) n (f74_0_c l0 n1 x52 x53 x54)) = f74_0 c lf l0 n1 n := by funext x52 x53 x54; exact ih x52 x53 x54
    show f74_0_s c lf l0 n1 (fun x52 x53 x54 => lpK c env lf 6 fi74 2 6 [] [0, 1, 7, 8, 9] (x74_6_0) n (f74_0_c l0 n1 x52 x53 x54)) x52 x53 x54 = _
    rw [e]; rfl
/-- loop.example/g00285/impl.GetNum -/
def f74_t (c : Orc) (lf : Nat) (lp0 : List T → Int → Int → Int → Int → Option (List T)) (l0 : List T) (n1 : Int) : Option (List T) :=
  bif iLt n1 0 then
    some [T.i .i64 0, T.i .i64 0, T.b false]
  else
    (lp0 l0 n1 0 1 0).bind fun r55 =>
    bif asI (nth r55 0) == 0 then
      some [T.i .i64 0, T.i .i64 0, T.b false]
    else
      some [T.i .i64 (asI (nth r55 1)), T.i .i64 (asI (nth r55 2)), T.b (asB (nth r55 3))]
def f74 (c : Orc) (lf : Nat) (l0 : List T) (n1 : Int) : Option (List T) := f74_t c lf (fun (l0 : List T) (n1 : Int) (x52 : Int) (x53 : Int) (x54 : Int) => f74_0 c lf l0 n1 lf x52 x53 x54) l0 n1
theorem f74_raw (c : Orc) (lf : Nat) (l0 : List T) (n1 : Int) : funK c env lf 6 fi74 [.sl l0, .i .i64 n1] = f74_t c lf (fun (l0 : List T) (n1 : Int) (x52 : Int) (x53 : Int) (x54 : Int) => lpK c env lf 6 fi74 2 6 [] [0, 1, 7, 8, 9] (x74_6_0) lf (f74_0_c l0 n1 x52 x53 x54)) l0 n1 := by kernel_rfl
theorem f74_eq (c : Orc) (lf : Nat) (l0 : List T) (n1 : Int) : funK c env lf 6 fi74 [.sl l0, .i .i64 n1] = f74 c lf l0 n1 := by
  refine (f74_raw c lf l0 n1).trans ?_
  have e0 : (fun (l0 : List T) (n1 : Int) (x52 : Int) (x53 : Int) (x54 : Int) => lpK c env lf 6 fi74 2 6 [] [0, 1, 7, 8, 9] (x74_6_0) lf (f74_0_c l0 n1 x52 x53 x54)) = (fun (l0 : List T) (n1 : Int) (x52 : Int) (x53 : Int) (x54 : Int) => f74_0 c lf l0 n1 lf x52 x53 x54) := by funext l0 n1 x52 x53 x54; exact f74_0_eq c lf l0 n1 lf x52 x53 x54
  rw [e0]; rfl
/-- (*loop.example/g00285/impl.reader).num -/
def f59_t (c : Orc) (lf : Nat) (l0_0 : List T) (n0_1 : Int) (b0_2 : Bool) : Option (List T) :=
  bif !b0_2 then
    some [T.i .i64 0, T.st [T.sl l0_0, T.i .i64 n0_1, T.b b0_2]]
  else
    (c 74 [T.sl l0_0, T.i .i64 n0_1]).bind fun r56 =>
    some [T.i .i64 (asI (nth r56 0)), T.st [T.sl l0_0, T.i .i64 (asI (nth r56 1)), T.b (asB (nth r56 2))]]
def f59 (c : Orc) (lf : Nat) (l0_0 : List T) (n0_1 : Int) (b0_2 : Bool) : Option (List T) := f59_t c lf l0_0 n0_1 b0_2
theorem f59_raw (c : Orc) (lf : Nat) (l0_0 : List T) (n0_1 : Int) (b0_2 : Bool) : funK c env lf 6 fi59 [.st [.sl l0_0, .i .i64 n0_1, .b b0_2]] = f59_t c lf l0_0 n0_1 b0_2 := by kernel_rfl
theorem f59_eq (c : Orc) (lf : Nat) (l0_0 : List T) (n0_1 : Int) (b0_2 : Bool) : funK c env lf 6 fi59 [.st [.sl l0_0, .i .i64 n0_1, .b b0_2]] = f59 c lf l0_0 n0_1 b0_2 := by
  refine (f59_raw c lf l0_0 n0_1 b0_2).trans ?_
  rfl
/-- (*loop.example/g00285/impl.reader).count -/
def f60_t (c : Orc) (lf : Nat) (l0_0 : List T) (n0_1 : Int) (b0_2 : Bool) : Option (List T) :=
  (c 59 [T.st [T.sl l0_0, T.i .i64 n0_1, T.b b0_2]]).bind fun r57 =>
  bif iLt (IntKind.wrap .i64 ((l0_0.length : Int) - (asI (T.cell (nth r57 1) 1)))) (asI (nth r57 0)) then
    some [T.i .i64 0, T.st [T.sl l0_0, T.i .i64 (asI (T.cell (nth r57 1) 1)), T.b false]]
  else
    some [T.i .i64 (asI (nth r57 0)), T.st [T.sl l0_0, T.i .i64 (asI (T.cell (nth r57 1) 1)), T.b (asB (T.cell (nth r57 1) 2))]]
def f60 (c : Orc) (lf : Nat) (l0_0 : List T) (n0_1 : Int) (b0_2 : Bool) : Option (List T) := f60_t c lf l0_0 n0_1 b0_2
theorem f60_raw (c : Orc) (lf : Nat) (l0_0 : List T) (n0_1 : Int) (b0_2 : Bool) : funK c env lf 6 fi60 [.st [.sl l0_0, .i .i64 n0_1, .b b0_2]] = f60_t c lf l0_0 n0_1 b0_2 := by kernel_rfl
theorem f60_eq (c : Orc) (lf : Nat) (l0_0 : List T) (n0_1 : Int) (b0_2 : Bool) : funK c env lf 6 fi60 [.st [.sl l0_0, .i .i64 n0_1, .b b0_2]] = f60 c lf l0_0 n0_1 b0_2 := by
  refine (f60_raw c lf l0_0 n0_1 b0_2).trans ?_
  rfl
/-- (*loop.example/g00285/impl.reader).done -/
def f61_t (c : Orc) (lf : Nat) (l0_0 : List T) (n0_1 : Int) (b0_2 : Bool) : Option (List T) :=
  bif b0_2 then
    some [T.b (n0_1 == (l0_0.length : Int)), T.st [T.sl l0_0, T.i .i64 n0_1, T.b b0_2]]
  else
    some [T.b false, T.st [T.sl l0_0, T.i .i64 n0_1, T.b b0_2]]
def f61 (c : Orc) (lf : Nat) (l0_0 : List T) (n0_1 : Int) (b0_2 : Bool) : Option (List T) := f61_t c lf l0_0 n0_1 b0_2
theorem f61_raw (c : Orc) (lf : Nat) (l0_0 : List T) (n0_1 : Int) (b0_2 : Bool) : funK c env lf 6 fi61 [.st [.sl l0_0, .i .i64 n0_1, .b b0_2]] = f61_t c lf l0_0 n0_1 b0_2 := by kernel_rfl
theorem f61_eq (c : Orc) (lf : Nat) (l0_0 : List T) (n0_1 : Int) (b0_2 : Bool) : funK c env lf 6 fi61 [.st [.sl l0_0, .i .i64 n0_1, .b b0_2]] = f61 c lf l0_0 n0_1 b0_2 := by
  refine (f61_raw c lf l0_0 n0_1 b0_2).trans ?_
  rfl
/-- loop.example/g00285/impl.from -/
def f43_t (c : Orc) (lf : Nat) (n0 : Int) (n1 : Int) (n2 : Int) : Option (List T) :=
  bif iLe n1 n0 then
    some [T.b (iLe n0 n2)]
  else
    some [T.b false]
def f43 (c : Orc) (lf : Nat) (n0 : Int) (n1 : Int) (n2 : Int) : Option (List T) := f43_t c lf n0 n1 n2
theorem f43_raw (c : Orc) (lf : Nat) (n0 : Int) (n1 : Int) (n2 : Int) : funK c env lf 6 fi43 [.i .i64 n0, .i .i64 n1, .i .i64 n2] = f43_t c lf n0 n1 n2 := by kernel_rfl
theorem f43_eq (c : Orc) (lf : Nat) (n0 : Int) (n1 : Int) (n2 : Int) : funK c env lf 6 fi43 [.i .i64 n0, .i .i64 n1, .i .i64 n2] = f43 c lf n0 n1 n2 := by
  refine (f43_raw c lf n0 n1 n2).trans ?_
  rfl
/-- loop.example/g00285/impl.MapOk, the loop at region 2. -/
def f16_0_s (c : Orc) (lf : Nat) (l0_1 : List T) (n0_0 : Int) (L : Int → Option (List T)) (x64 : Int) : Option (List T) :=
  bif iLt x64 (l0_1.length : Int) then
    bif inR x64 l0_1.length then
    bif iLt (asI (T.cell (l0_1.getD x64.toNat T.u) 0)) 1 then
      some [T.i .i64 0, T.b false]
    else
      bif iLe n0_0 (asI (T.cell (l0_1.getD x64.toNat T.u) 0)) then
        some [T.i .i64 0, T.b false]
      else
        (c 43 [T.i .i64 (asI (T.cell (l0_1.getD x64.toNat T.u) 1)), T.i .i64 0, T.i .i64 191]).bind fun r65 =>
        bif !(asB (nth r65 0)) then
          some [T.i .i64 0, T.b false]
        else
          bif iLt 0 x64 then
            bif inR (IntKind.wrap .i64 (x64 - 1)) l0_1.length then
            bif iLe (asI (T.cell (l0_1.getD x64.toNat T.u) 0)) (asI (T.cell (l0_1.getD ((IntKind.wrap .i64 (x64 - 1)).toNat) T.u) 0)) then
              some [T.i .i64 0, T.b false]
            else
              L (IntKind.wrap .i64 (x64 + 1))
            else none
          else
            L (IntKind.wrap .i64 (x64 + 1))
    else none
  else
    some [T.i .i64 1, T.i .i64 n0_0, T.sl l0_1]
def f16_0_c (l0_1 : List T) (n0_0 : Int) (x64 : Int) : CSt := ⟨[.bp 2 0, .ro 0 true [.i .i64, .i .i64] l0_1, .i .i64 (l0_1.length : Int), .i .i64 x64], [.dead, .dead, .box [.i .i64 n0_0, .ro 0 true [.i .i64, .i .i64] l0_1]]⟩
theorem f16_0_round (c : Orc) (lf : Nat) (l0_1 : List T) (n0_0 : Int) (L : CSt → Option (List T)) (x64 : Int) :
    roundK c env lf 6 fi16 2 2 [] [1, 6, 7, 8] (x16_2_0) L (f16_0_c l0_1 n0_0 x64) = f16_0_s c lf l0_1 n0_0 (fun x64 => L (f16_0_c l0_1 n0_0 x64)) x64 := by kernel_rfl
def f16_0 (c : Orc) (lf : Nat) (l0_1 : List T) (n0_0 : Int) : Nat → Int → Option (List T)
  | 0 => fun _ => none
  | n + 1 => fun x64 => f16_0_s c lf l0_1 n0_0 (f16_0 c lf l0_1 n0_0 n) x64
theorem f16_0_u (c : Orc) (lf : Nat) (l0_1 : List T) (n0_0 : Int) (n : Nat) (x64 : Int) : f16_0 c lf l0_1 n0_0 (n + 1) x64 = f16_0_s c lf l0_1 n0_0 (f16_0 c lf l0_1 n0_0 n) x64 := rfl
theorem f16_0_eq (c : Orc) (lf : Nat) (l0_1 : List T) (n0_0 : Int) (n : Nat) (x64 : Int) :
    lpK c env lf 6 fi16 2 2 [] [1, 6, 7, 8] (x16_2_0) n (f16_0_c l0_1 n0_0 x64) = f16_0 c lf l0_1 n0_0 n x64 := by
  induction n generalizing x64 with
  | zero => rfl
  | succ n ih =>
    refine (f16_0_round c lf l0_1 n0_0 _ x64).trans ?_
    have e : (fun x64 => lpK c env lf 6 fi16 2 2 [] [1, 6, 7, 8] (x16_2_0) n (f16_0_c l0_1 n0_0 x64)) = f16_0 c lf l0_1 n0_0 n := by funext x64; exact ih x64
    show f16_0_s c lf l0_1 n0_0 (fun x64 => lpK c env lf 6 fi16 2 2 [] [1, 6, 7, 8] (x16_2_0) n (f16_0_c l0_1 n0_0 x64)) x64 = _
    rw [e]; rfl
/-- loop.example/g00285/impl.MapOk -/
def f16_t (c : Orc) (lf : Nat) (lp0 : List T → Int → Int → Option (List T)) (n0_0 : Int) (l0_1 : List T) : Option (List T) :=
  (lp0 l0_1 n0_0 0).bind fun r66 =>
  bif asI (nth r66 0) == 0 then
    some [T.b (asB (nth r66 1))]
  else
    (c 43 [T.i .i64 (asI (nth r66 1)), T.i .i64 2, T.i .i64 1000]).bind fun r67 =>
    bif asB (nth r67 0) then
      some [T.b (iLe ((asL (nth r66 2)).length : Int) 30)]
    else
      some [T.b false]
def f16 (c : Orc) (lf : Nat) (n0_0 : Int) (l0_1 : List T) : Option (List T) := f16_t c lf (fun (l0_1 : List T) (n0_0 : Int) (x64 : Int) => f16_0 c lf l0_1 n0_0 lf x64) n0_0 l0_1
theorem f16_raw (c : Orc) (lf : Nat) (n0_0 : Int) (l0_1 : List T) : funK c env lf 6 fi16 [.st [.i .i64 n0_0, .sl l0_1]] = f16_t c lf (fun (l0_1 : List T) (n0_0 : Int) (x64 : Int) => lpK c env lf 6 fi16 2 2 [] [1, 6, 7, 8] (x16_2_0) lf (f16_0_c l0_1 n0_0 x64)) n0_0 l0_1 := by kernel_rfl
theorem f16_eq (c : Orc) (lf : Nat) (n0_0 : Int) (l0_1 : List T) : funK c env lf 6 fi16 [.st [.i .i64 n0_0, .sl l0_1]] = f16 c lf n0_0 l0_1 := by
  refine (f16_raw c lf n0_0 l0_1).trans ?_
  have e0 : (fun (l0_1 : List T) (n0_0 : Int) (x64 : Int) => lpK c env lf 6 fi16 2 2 [] [1, 6, 7, 8] (x16_2_0) lf (f16_0_c l0_1 n0_0 x64)) = (fun (l0_1 : List T) (n0_0 : Int) (x64 : Int) => f16_0 c lf l0_1 n0_0 lf x64) := by funext l0_1 n0_0 x64; exact f16_0_eq c lf l0_1 n0_0 lf x64
  rw [e0]; rfl
/-- loop.example/g00285/impl.GetMap, the loop at region 4. -/
def f37_0_s (c : Orc) (lf : Nat) (l0 : List T) (r81 : List T) (r82 : List T) (L : Int → Int → Bool → List T → Option (List T)) (x85 : Int) (x86 : Int) (x87 : Bool) (x88 : List T) : Option (List T) :=
  bif iLt x85 (asI (nth r82 0)) then
    (c 59 [T.st [T.sl l0, T.i .i64 x86, T.b x87]]).bind fun r89 =>
    (c 59 [T.st [T.sl l0, T.i .i64 (asI (T.cell (nth r89 1) 1)), T.b (asB (T.cell (nth r89 1) 2))]]).bind fun r90 =>
    bif nLe (x88.length + ([T.st [T.i .i64 (asI (nth r89 0)), T.i .i64 (asI (nth r90 0))]] : List T).length) LIM then
    L (IntKind.wrap .i64 (x85 + 1)) (asI (T.cell (nth r90 1) 1)) (asB (T.cell (nth r90 1) 2)) (x88 ++ ([T.st [T.i .i64 (asI (nth r89 0)), T.i .i64 (asI (nth r90 0))]] : List T))
    else none
  else
    some [T.i .i64 0, T.i .i64 0, T.sl ([] : List T), T.sl l0, T.i .i64 x86, T.b x87, T.i .i64 (asI (nth r81 0)), T.sl x88]
def f37_0_c (l0 : List T) (r81 : List T) (r82 : List T) (x85 : Int) (x86 : Int) (x87 : Bool) (x88 : List T) : CSt := ⟨[.bp 1 0, .bp 3 0, .bp 4 0, .i .i64 (asI (nth r82 0)), .i .i64 x85], [.dead, .box [.i .i64 0, .rf 2 [] 0 none], .row true [.i .i64, .i .i64] ([] : List T) 0 false, .box [.ro 0 false [.i .u8] l0, .i .i64 x86, .b x87], .box [.i .i64 (asI (nth r81 0)), .rf 5 [] 0 none], .row true [.i .i64, .i .i64] x88 0 false]⟩
theorem f37_0_round (c : Orc) (lf : Nat) (l0 : List T) (r81 : List T) (r82 : List T) (L : CSt → Option (List T)) (x85 : Int) (x86 : Int) (x87 : Bool) (x88 : List T) :
    roundK c env lf 6 fi37 1 4 [] [2, 4, 5, 15, 16] (x37_4_0) L (f37_0_c l0 r81 r82 x85 x86 x87 x88) = f37_0_s c lf l0 r81 r82 (fun x85 x86 x87 x88 => L (f37_0_c l0 r81 r82 x85 x86 x87 x88)) x85 x86 x87 x88 := by kernel_rfl
def f37_0 (c : Orc) (lf : Nat) (l0 : List T) (r81 : List T) (r82 : List T) : Nat → Int → Int → Bool → List T → Option (List T)
  | 0 => fun _ _ _ _ => none
  | n + 1 => fun x85 x86 x87 x88 => f37_0_s c lf l0 r81 r82 (f37_0 c lf l0 r81 r82 n) x85 x86 x87 x88
theorem f37_0_u (c : Orc) (lf : Nat) (l0 : List T) (r81 : List T) (r82 : List T) (n : Nat) (x85 : Int) (x86 : Int) (x87 : Bool) (x88 : List T) : f37_0 c lf l0 r81 r82 (n + 1) x85 x86 x87 x88 = f37_0_s c lf l0 r81 r82 (f37_0 c lf l0 r81 r82 n) x85 x86 x87 x88 := rfl
theorem f37_0_eq (c : Orc) (lf : Nat) (l0 : List T) (r81 : List T) (r82 : List T) (n : Nat) (x85 : Int) (x86 : Int) (x87 : Bool) (x88 : List T) :
    lpK c env lf 6 fi37 1 4 [] [2, 4, 5, 15, 16] (x37_4_0) n (f37_0_c l0 r81 r82 x85 x86 x87 x88) = f37_0 c lf l0 r81 r82 n x85 x86 x87 x88 := by
  induction n generalizing x85 x86 x87 x88 with
  | zero => rfl
  | succ n ih =>
    refine (f37_0_round c lf l0 r81 r82 _ x85 x86 x87 x88).trans ?_
    have e : (fun x85 x86 x87 x88 => lpK c env lf 6 fi37 1 4 [] [2, 4, 5, 15, 16] (x37_4_0) n (f37_0_c l0 r81 r82 x85 x86 x87 x88)) = f37_0 c lf l0 r81 r82 n := by funext x85 x86 x87 x88; exact ih x85 x86 x87 x88
    show f37_0_s c lf l0 r81 r82 (fun x85 x86 x87 x88 => lpK c env lf 6 fi37 1 4 [] [2, 4, 5, 15, 16] (x37_4_0) n (f37_0_c l0 r81 r82 x85 x86 x87 x88)) x85 x86 x87 x88 = _
    rw [e]; rfl
/-- loop.example/g00285/impl.GetMap -/
def f37_t (c : Orc) (lf : Nat) (lp0 : List T → List T → List T → Int → Int → Bool → List T → Option (List T)) (l0 : List T) : Option (List T) :=
  (c 59 [T.st [T.sl l0, T.i .i64 0, T.b true]]).bind fun r81 =>
  (c 60 [T.st [T.sl l0, T.i .i64 (asI (T.cell (nth r81 1) 1)), T.b (asB (T.cell (nth r81 1) 2))]]).bind fun r82 =>
  (lp0 l0 r81 r82 0 (asI (T.cell (nth r82 1) 1)) (asB (T.cell (nth r82 1) 2)) ([] : List T)).bind fun r91 =>
  (c 61 [T.st [T.sl (asL (nth r91 3)), T.i .i64 (asI (nth r91 4)), T.b (asB (nth r91 5))]]).bind fun r92 =>
  bif !(asB (nth r92 0)) then
    some [T.st [T.i .i64 0, T.sl []], T.b false]
  else
    (c 16 [T.st [T.i .i64 (asI (nth r91 6)), T.sl (asL (nth r91 7))]]).bind fun r93 =>
    bif !(asB (nth r93 0)) then
      some [T.st [T.i .i64 0, T.sl []], T.b false]
    else
      some [T.st [T.i .i64 (asI (nth r91 6)), T.sl (asL (nth r91 7))], T.b true]
def f37 (c : Orc) (lf : Nat) (l0 : List T) : Option (List T) := f37_t c lf (fun (l0 : List T) (r81 : List T) (r82 : List T) (x85 : Int) (x86 : Int) (x87 : Bool) (x88 : List T) => f37_0 c lf l0 r81 r82 lf x85 x86 x87 x88) l0
theorem f37_raw (c : Orc) (lf : Nat) (l0 : List T) : funK c env lf 6 fi37 [.sl l0] = f37_t c lf (fun (l0 : List T) (r81 : List T) (r82 : List T) (x85 : Int) (x86 : Int) (x87 : Bool) (x88 : List T) => lpK c env lf 6 fi37 1 4 [] [2, 4, 5, 15, 16] (x37_4_0) lf (f37_0_c l0 r81 r82 x85 x86 x87 x88)) l0 := by kernel_rfl
theorem f37_eq (c : Orc) (lf : Nat) (l0 : List T) : funK c env lf 6 fi37 [.sl l0] = f37 c lf l0 := by
  refine (f37_raw c lf l0).trans ?_
  have e0 : (fun (l0 : List T) (r81 : List T) (r82 : List T) (x85 : Int) (x86 : Int) (x87 : Bool) (x88 : List T) => lpK c env lf 6 fi37 1 4 [] [2, 4, 5, 15, 16] (x37_4_0) lf (f37_0_c l0 r81 r82 x85 x86 x87 x88)) = (fun (l0 : List T) (r81 : List T) (r82 : List T) (x85 : Int) (x86 : Int) (x87 : Bool) (x88 : List T) => f37_0 c lf l0 r81 r82 lf x85 x86 x87 x88) := by funext l0 r81 r82 x85 x86 x87 x88; exact f37_0_eq c lf l0 r81 r82 lf x85 x86 x87 x88
  rw [e0]; rfl
/-- loop.example/g00285/laws.eqPlace -/
def f64_t (c : Orc) (lf : Nat) (n0_0 : Int) (n0_1 : Int) (n1_0 : Int) (n1_1 : Int) : Option (List T) :=
  bif n0_0 != n1_0 then
    some [T.b false]
  else
    bif n0_1 != n1_1 then
      some [T.b false]
    else
      some [T.b true]
def f64 (c : Orc) (lf : Nat) (n0_0 : Int) (n0_1 : Int) (n1_0 : Int) (n1_1 : Int) : Option (List T) := f64_t c lf n0_0 n0_1 n1_0 n1_1
theorem f64_raw (c : Orc) (lf : Nat) (n0_0 : Int) (n0_1 : Int) (n1_0 : Int) (n1_1 : Int) : funK c env lf 6 fi64 [.st [.i .i64 n0_0, .i .i64 n0_1], .st [.i .i64 n1_0, .i .i64 n1_1]] = f64_t c lf n0_0 n0_1 n1_0 n1_1 := by kernel_rfl
theorem f64_eq (c : Orc) (lf : Nat) (n0_0 : Int) (n0_1 : Int) (n1_0 : Int) (n1_1 : Int) : funK c env lf 6 fi64 [.st [.i .i64 n0_0, .i .i64 n0_1], .st [.i .i64 n1_0, .i .i64 n1_1]] = f64 c lf n0_0 n0_1 n1_0 n1_1 := by
  refine (f64_raw c lf n0_0 n0_1 n1_0 n1_1).trans ?_
  rfl
/-- loop.example/g00285/laws.eqPlaceS, the loop at region 4. -/
def f41_0_s (c : Orc) (lf : Nat) (l0 : List T) (l1 : List T) (L : Int → Option (List T)) (x99 : Int) : Option (List T) :=
  bif iLt x99 (l0.length : Int) then
    bif inR x99 l0.length then
    bif inR x99 l1.length then
    (c 64 [T.st [T.i .i64 (asI (T.cell (l0.getD x99.toNat T.u) 0)), T.i .i64 (asI (T.cell (l0.getD x99.toNat T.u) 1))], T.st [T.i .i64 (asI (T.cell (l1.getD x99.toNat T.u) 0)), T.i .i64 (asI (T.cell (l1.getD x99.toNat T.u) 1))]]).bind fun r100 =>
    bif !(asB (nth r100 0)) then
      some [T.i .i64 0, T.b false]
    else
      L (IntKind.wrap .i64 (x99 + 1))
    else none
    else none
  else
    some [T.i .i64 1]
def f41_0_c (l0 : List T) (l1 : List T) (x99 : Int) : CSt := ⟨[.ro 0 true [.i .i64, .i .i64] l0, .ro 0 true [.i .i64, .i .i64] l1, .i .i64 x99], [.dead, .dead]⟩
theorem f41_0_round (c : Orc) (lf : Nat) (l0 : List T) (l1 : List T) (L : CSt → Option (List T)) (x99 : Int) :
    roundK c env lf 6 fi41 2 4 [] [0, 1, 5] (x41_4_0) L (f41_0_c l0 l1 x99) = f41_0_s c lf l0 l1 (fun x99 => L (f41_0_c l0 l1 x99)) x99 := by kernel_rfl
def f41_0 (c : Orc) (lf : Nat) (l0 : List T) (l1 : List T) : Nat → Int → Option (List T)
  | 0 => fun _ => none
  | n + 1 => fun x99 => f41_0_s c lf l0 l1 (f41_0 c lf l0 l1 n) x99
theorem f41_0_u (c : Orc) (lf : Nat) (l0 : List T) (l1 : List T) (n : Nat) (x99 : Int) : f41_0 c lf l0 l1 (n + 1) x99 = f41_0_s c lf l0 l1 (f41_0 c lf l0 l1 n) x99 := rfl
theorem f41_0_eq (c : Orc) (lf : Nat) (l0 : List T) (l1 : List T) (n : Nat) (x99 : Int) :
    lpK c env lf 6 fi41 2 4 [] [0, 1, 5] (x41_4_0) n (f41_0_c l0 l1 x99) = f41_0 c lf l0 l1 n x99 := by
  induction n generalizing x99 with
  | zero => rfl
  | succ n ih =>
    refine (f41_0_round c lf l0 l1 _ x99).trans ?_
    have e : (fun x99 => lpK c env lf 6 fi41 2 4 [] [0, 1, 5] (x41_4_0) n (f41_0_c l0 l1 x99)) = f41_0 c lf l0 l1 n := by funext x99; exact ih x99
    show f41_0_s c lf l0 l1 (fun x99 => lpK c env lf 6 fi41 2 4 [] [0, 1, 5] (x41_4_0) n (f41_0_c l0 l1 x99)) x99 = _
    rw [e]; rfl
/-- loop.example/g00285/laws.eqPlaceS -/
def f41_t (c : Orc) (lf : Nat) (lp0 : List T → List T → Int → Option (List T)) (l0 : List T) (l1 : List T) : Option (List T) :=
  bif (l0.length : Int) != (l1.length : Int) then
    some [T.b false]
  else
    (lp0 l0 l1 0).bind fun r101 =>
    bif asI (nth r101 0) == 0 then
      some [T.b (asB (nth r101 1))]
    else
      some [T.b true]
def f41 (c : Orc) (lf : Nat) (l0 : List T) (l1 : List T) : Option (List T) := f41_t c lf (fun (l0 : List T) (l1 : List T) (x99 : Int) => f41_0 c lf l0 l1 lf x99) l0 l1
theorem f41_raw (c : Orc) (lf : Nat) (l0 : List T) (l1 : List T) : funK c env lf 6 fi41 [.sl l0, .sl l1] = f41_t c lf (fun (l0 : List T) (l1 : List T) (x99 : Int) => lpK c env lf 6 fi41 2 4 [] [0, 1, 5] (x41_4_0) lf (f41_0_c l0 l1 x99)) l0 l1 := by kernel_rfl
theorem f41_eq (c : Orc) (lf : Nat) (l0 : List T) (l1 : List T) : funK c env lf 6 fi41 [.sl l0, .sl l1] = f41 c lf l0 l1 := by
  refine (f41_raw c lf l0 l1).trans ?_
  have e0 : (fun (l0 : List T) (l1 : List T) (x99 : Int) => lpK c env lf 6 fi41 2 4 [] [0, 1, 5] (x41_4_0) lf (f41_0_c l0 l1 x99)) = (fun (l0 : List T) (l1 : List T) (x99 : Int) => f41_0 c lf l0 l1 lf x99) := by funext l0 l1 x99; exact f41_0_eq c lf l0 l1 lf x99
  rw [e0]; rfl
/-- loop.example/g00285/laws.eqMap -/
def f14_t (c : Orc) (lf : Nat) (n0_0 : Int) (l0_1 : List T) (n1_0 : Int) (l1_1 : List T) : Option (List T) :=
  bif n0_0 != n1_0 then
    some [T.b false]
  else
    (c 41 [T.sl l0_1, T.sl l1_1]).bind fun r102 =>
    bif !(asB (nth r102 0)) then
      some [T.b false]
    else
      some [T.b true]
def f14 (c : Orc) (lf : Nat) (n0_0 : Int) (l0_1 : List T) (n1_0 : Int) (l1_1 : List T) : Option (List T) := f14_t c lf n0_0 l0_1 n1_0 l1_1
theorem f14_raw (c : Orc) (lf : Nat) (n0_0 : Int) (l0_1 : List T) (n1_0 : Int) (l1_1 : List T) : funK c env lf 6 fi14 [.st [.i .i64 n0_0, .sl l0_1], .st [.i .i64 n1_0, .sl l1_1]] = f14_t c lf n0_0 l0_1 n1_0 l1_1 := by kernel_rfl
theorem f14_eq (c : Orc) (lf : Nat) (n0_0 : Int) (l0_1 : List T) (n1_0 : Int) (l1_1 : List T) : funK c env lf 6 fi14 [.st [.i .i64 n0_0, .sl l0_1], .st [.i .i64 n1_0, .sl l1_1]] = f14 c lf n0_0 l0_1 n1_0 l1_1 := by
  refine (f14_raw c lf n0_0 l0_1 n1_0 l1_1).trans ?_
  rfl
/-- loop.example/g00285/laws.eqByteS, the loop at region 4. -/
def f29_0_s (c : Orc) (lf : Nat) (l0 : List T) (l1 : List T) (L : Int → Option (List T)) (x105 : Int) : Option (List T) :=
  bif iLt x105 (l0.length : Int) then
    bif inR x105 l0.length then
    bif inR x105 l1.length then
    bif (asI (l0.getD x105.toNat T.u)) != (asI (l1.getD x105.toNat T.u)) then
      some [T.i .i64 0, T.b false]
    else
      L (IntKind.wrap .i64 (x105 + 1))
    else none
    else none
  else
    some [T.i .i64 1]
def f29_0_c (l0 : List T) (l1 : List T) (x105 : Int) : CSt := ⟨[.ro 0 false [.i .u8] l0, .ro 0 false [.i .u8] l1, .i .i64 x105], [.dead, .dead]⟩
theorem f29_0_round (c : Orc) (lf : Nat) (l0 : List T) (l1 : List T) (L : CSt → Option (List T)) (x105 : Int) :
    roundK c env lf 6 fi29 2 4 [] [0, 1, 5] (x29_4_0) L (f29_0_c l0 l1 x105) = f29_0_s c lf l0 l1 (fun x105 => L (f29_0_c l0 l1 x105)) x105 := by kernel_rfl
def f29_0 (c : Orc) (lf : Nat) (l0 : List T) (l1 : List T) : Nat → Int → Option (List T)
  | 0 => fun _ => none
  | n + 1 => fun x105 => f29_0_s c lf l0 l1 (f29_0 c lf l0 l1 n) x105
theorem f29_0_u (c : Orc) (lf : Nat) (l0 : List T) (l1 : List T) (n : Nat) (x105 : Int) : f29_0 c lf l0 l1 (n + 1) x105 = f29_0_s c lf l0 l1 (f29_0 c lf l0 l1 n) x105 := rfl
theorem f29_0_eq (c : Orc) (lf : Nat) (l0 : List T) (l1 : List T) (n : Nat) (x105 : Int) :
    lpK c env lf 6 fi29 2 4 [] [0, 1, 5] (x29_4_0) n (f29_0_c l0 l1 x105) = f29_0 c lf l0 l1 n x105 := by
  induction n generalizing x105 with
  | zero => rfl
  | succ n ih =>
    refine (f29_0_round c lf l0 l1 _ x105).trans ?_
    have e : (fun x105 => lpK c env lf 6 fi29 2 4 [] [0, 1, 5] (x29_4_0) n (f29_0_c l0 l1 x105)) = f29_0 c lf l0 l1 n := by funext x105; exact ih x105
    show f29_0_s c lf l0 l1 (fun x105 => lpK c env lf 6 fi29 2 4 [] [0, 1, 5] (x29_4_0) n (f29_0_c l0 l1 x105)) x105 = _
    rw [e]; rfl
/-- loop.example/g00285/laws.eqByteS -/
def f29_t (c : Orc) (lf : Nat) (lp0 : List T → List T → Int → Option (List T)) (l0 : List T) (l1 : List T) : Option (List T) :=
  bif (l0.length : Int) != (l1.length : Int) then
    some [T.b false]
  else
    (lp0 l0 l1 0).bind fun r106 =>
    bif asI (nth r106 0) == 0 then
      some [T.b (asB (nth r106 1))]
    else
      some [T.b true]
def f29 (c : Orc) (lf : Nat) (l0 : List T) (l1 : List T) : Option (List T) := f29_t c lf (fun (l0 : List T) (l1 : List T) (x105 : Int) => f29_0 c lf l0 l1 lf x105) l0 l1
theorem f29_raw (c : Orc) (lf : Nat) (l0 : List T) (l1 : List T) : funK c env lf 6 fi29 [.sl l0, .sl l1] = f29_t c lf (fun (l0 : List T) (l1 : List T) (x105 : Int) => lpK c env lf 6 fi29 2 4 [] [0, 1, 5] (x29_4_0) lf (f29_0_c l0 l1 x105)) l0 l1 := by kernel_rfl
theorem f29_eq (c : Orc) (lf : Nat) (l0 : List T) (l1 : List T) : funK c env lf 6 fi29 [.sl l0, .sl l1] = f29 c lf l0 l1 := by
  refine (f29_raw c lf l0 l1).trans ?_
  have e0 : (fun (l0 : List T) (l1 : List T) (x105 : Int) => lpK c env lf 6 fi29 2 4 [] [0, 1, 5] (x29_4_0) lf (f29_0_c l0 l1 x105)) = (fun (l0 : List T) (l1 : List T) (x105 : Int) => f29_0 c lf l0 l1 lf x105) := by funext l0 l1 x105; exact f29_0_eq c lf l0 l1 lf x105
  rw [e0]; rfl
/-- loop.example/g00285/laws.markByteS, the loop at region 2. -/
def f31_0_s (c : Orc) (lf : Nat) (L : Int → Int → List T → Option (List T)) (x111 : Int) (x112 : Int) (x113 : List T) : Option (List T) :=
  bif iLt x112 (x113.length : Int) then
    bif inR x112 x113.length then
    L (IntKind.wrap .i64 (x111 + 1)) (IntKind.wrap .i64 (x112 + 1)) (x113.set x112.toNat (T.i .u8 (IntKind.wrap .u8 x111)))
    else none
  else
    some [T.i .i64 0, T.i .i64 x111, T.sl x113]
def f31_0_c (x111 : Int) (x112 : Int) (x113 : List T) : CSt := ⟨[.rf 0 [] 0 none, .i .i64 x111, .i .i64 x112], [.row false [.i .u8] x113 0 false, .dead]⟩
theorem f31_0_round (c : Orc) (lf : Nat) (L : CSt → Option (List T)) (x111 : Int) (x112 : Int) (x113 : List T) :
    roundK c env lf 6 fi31 2 2 [] [0, 1, 5] (x31_2_0) L (f31_0_c x111 x112 x113) = f31_0_s c lf (fun x111 x112 x113 => L (f31_0_c x111 x112 x113)) x111 x112 x113 := by kernel_rfl
def f31_0 (c : Orc) (lf : Nat) : Nat → Int → Int → List T → Option (List T)
  | 0 => fun _ _ _ => none
  | n + 1 => fun x111 x112 x113 => f31_0_s c lf (f31_0 c lf n) x111 x112 x113
theorem f31_0_u (c : Orc) (lf : Nat) (n : Nat) (x111 : Int) (x112 : Int) (x113 : List T) : f31_0 c lf (n + 1) x111 x112 x113 = f31_0_s c lf (f31_0 c lf n) x111 x112 x113 := rfl
theorem f31_0_eq (c : Orc) (lf : Nat) (n : Nat) (x111 : Int) (x112 : Int) (x113 : List T) :
    lpK c env lf 6 fi31 2 2 [] [0, 1, 5] (x31_2_0) n (f31_0_c x111 x112 x113) = f31_0 c lf n x111 x112 x113 := by
  induction n generalizing x111 x112 x113 with
  | zero => rfl
  | succ n ih =>
    refine (f31_0_round c lf _ x111 x112 x113).trans ?_
    have e : (fun x111 x112 x113 => lpK c env lf 6 fi31 2 2 [] [0, 1, 5] (x31_2_0) n (f31_0_c x111 x112 x113)) = f31_0 c lf n := by funext x111 x112 x113; exact ih x111 x112 x113
    show f31_0_s c lf (fun x111 x112 x113 => lpK c env lf 6 fi31 2 2 [] [0, 1, 5] (x31_2_0) n (f31_0_c x111 x112 x113)) x111 x112 x113 = _
    rw [e]; rfl
/-- loop.example/g00285/laws.markByteS -/
def f31_t (c : Orc) (lf : Nat) (lp0 : Int → Int → List T → Option (List T)) (l0 : List T) (n1 : Int) : Option (List T) :=
  (lp0 n1 0 l0).bind fun r114 =>
  some [T.i .i64 (asI (nth r114 1)), T.sl (asL (nth r114 2))]
def f31 (c : Orc) (lf : Nat) (l0 : List T) (n1 : Int) : Option (List T) := f31_t c lf (fun (x111 : Int) (x112 : Int) (x113 : List T) => f31_0 c lf lf x111 x112 x113) l0 n1
theorem f31_raw (c : Orc) (lf : Nat) (l0 : List T) (n1 : Int) : funK c env lf 6 fi31 [.sl l0, .i .i64 n1] = f31_t c lf (fun (x111 : Int) (x112 : Int) (x113 : List T) => lpK c env lf 6 fi31 2 2 [] [0, 1, 5] (x31_2_0) lf (f31_0_c x111 x112 x113)) l0 n1 := by kernel_rfl
theorem f31_eq (c : Orc) (lf : Nat) (l0 : List T) (n1 : Int) : funK c env lf 6 fi31 [.sl l0, .i .i64 n1] = f31 c lf l0 n1 := by
  refine (f31_raw c lf l0 n1).trans ?_
  have e0 : (fun (x111 : Int) (x112 : Int) (x113 : List T) => lpK c env lf 6 fi31 2 2 [] [0, 1, 5] (x31_2_0) lf (f31_0_c x111 x112 x113)) = (fun (x111 : Int) (x112 : Int) (x113 : List T) => f31_0 c lf lf x111 x112 x113) := by funext x111 x112 x113; exact f31_0_eq c lf lf x111 x112 x113
  rw [e0]; rfl
/-- loop.example/g00285/laws.markPlaceS, the loop at region 2. -/
def f57_0_s (c : Orc) (lf : Nat) (L : Int → Int → List T → Option (List T)) (x119 : Int) (x120 : Int) (x121 : List T) : Option (List T) :=
  bif iLt x120 (x121.length : Int) then
    bif inR x120 x121.length then
    bif inR x120 ((x121.set x120.toNat (T.setc (x121.getD x120.toNat T.u) 0 (T.i .i64 x119))).length) then
    L (IntKind.wrap .i64 ((IntKind.wrap .i64 (x119 + 1)) + 1)) (IntKind.wrap .i64 (x120 + 1)) ((x121.set x120.toNat (T.setc (x121.getD x120.toNat T.u) 0 (T.i .i64 x119))).set x120.toNat (T.setc ((x121.set x120.toNat (T.setc (x121.getD x120.toNat T.u) 0 (T.i .i64 x119))).getD x120.toNat T.u) 1 (T.i .i64 (IntKind.wrap .i64 (x119 + 1)))))
    else none
    else none
  else
    some [T.i .i64 0, T.i .i64 x119, T.sl x121]
def f57_0_c (x119 : Int) (x120 : Int) (x121 : List T) : CSt := ⟨[.rf 0 [] 0 none, .i .i64 x119, .i .i64 x120], [.row true [.i .i64, .i .i64] x121 0 false, .dead]⟩
theorem f57_0_round (c : Orc) (lf : Nat) (L : CSt → Option (List T)) (x119 : Int) (x120 : Int) (x121 : List T) :
    roundK c env lf 6 fi57 2 2 [] [0, 1, 5] (x57_2_0) L (f57_0_c x119 x120 x121) = f57_0_s c lf (fun x119 x120 x121 => L (f57_0_c x119 x120 x121)) x119 x120 x121 := by kernel_rfl
def f57_0 (c : Orc) (lf : Nat) : Nat → Int → Int → List T → Option (List T)
  | 0 => fun _ _ _ => none
  | n + 1 => fun x119 x120 x121 => f57_0_s c lf (f57_0 c lf n) x119 x120 x121
theorem f57_0_u (c : Orc) (lf : Nat) (n : Nat) (x119 : Int) (x120 : Int) (x121 : List T) : f57_0 c lf (n + 1) x119 x120 x121 = f57_0_s c lf (f57_0 c lf n) x119 x120 x121 := rfl
theorem f57_0_eq (c : Orc) (lf : Nat) (n : Nat) (x119 : Int) (x120 : Int) (x121 : List T) :
    lpK c env lf 6 fi57 2 2 [] [0, 1, 5] (x57_2_0) n (f57_0_c x119 x120 x121) = f57_0 c lf n x119 x120 x121 := by
  induction n generalizing x119 x120 x121 with
  | zero => rfl
  | succ n ih =>
    refine (f57_0_round c lf _ x119 x120 x121).trans ?_
    have e : (fun x119 x120 x121 => lpK c env lf 6 fi57 2 2 [] [0, 1, 5] (x57_2_0) n (f57_0_c x119 x120 x121)) = f57_0 c lf n := by funext x119 x120 x121; exact ih x119 x120 x121
    show f57_0_s c lf (fun x119 x120 x121 => lpK c env lf 6 fi57 2 2 [] [0, 1, 5] (x57_2_0) n (f57_0_c x119 x120 x121)) x119 x120 x121 = _
    rw [e]; rfl
/-- loop.example/g00285/laws.markPlaceS -/
def f57_t (c : Orc) (lf : Nat) (lp0 : Int → Int → List T → Option (List T)) (l0 : List T) (n1 : Int) : Option (List T) :=
  (lp0 n1 0 l0).bind fun r122 =>
  some [T.i .i64 (asI (nth r122 1)), T.sl (asL (nth r122 2))]
def f57 (c : Orc) (lf : Nat) (l0 : List T) (n1 : Int) : Option (List T) := f57_t c lf (fun (x119 : Int) (x120 : Int) (x121 : List T) => f57_0 c lf lf x119 x120 x121) l0 n1
theorem f57_raw (c : Orc) (lf : Nat) (l0 : List T) (n1 : Int) : funK c env lf 6 fi57 [.sl l0, .i .i64 n1] = f57_t c lf (fun (x119 : Int) (x120 : Int) (x121 : List T) => lpK c env lf 6 fi57 2 2 [] [0, 1, 5] (x57_2_0) lf (f57_0_c x119 x120 x121)) l0 n1 := by kernel_rfl
theorem f57_eq (c : Orc) (lf : Nat) (l0 : List T) (n1 : Int) : funK c env lf 6 fi57 [.sl l0, .i .i64 n1] = f57 c lf l0 n1 := by
  refine (f57_raw c lf l0 n1).trans ?_
  have e0 : (fun (x119 : Int) (x120 : Int) (x121 : List T) => lpK c env lf 6 fi57 2 2 [] [0, 1, 5] (x57_2_0) lf (f57_0_c x119 x120 x121)) = (fun (x119 : Int) (x120 : Int) (x121 : List T) => f57_0 c lf lf x119 x120 x121) := by funext x119 x120 x121; exact f57_0_eq c lf lf x119 x120 x121
  rw [e0]; rfl
/-- loop.example/g00285/laws.markMap -/
def f30_t (c : Orc) (lf : Nat) (n0_0 : Int) (l0_1 : List T) (n1 : Int) : Option (List T) :=
  (c 57 [T.sl l0_1, T.i .i64 n1]).bind fun r123 =>
  some [T.i .i64 (asI (nth r123 0)), T.sl (asL (nth r123 1))]
def f30 (c : Orc) (lf : Nat) (n0_0 : Int) (l0_1 : List T) (n1 : Int) : Option (List T) := f30_t c lf n0_0 l0_1 n1
theorem f30_raw (c : Orc) (lf : Nat) (n0_0 : Int) (l0_1 : List T) (n1 : Int) : funK c env lf 6 fi30 [.st [.i .i64 n0_0, .sl l0_1], .i .i64 n1] = f30_t c lf n0_0 l0_1 n1 := by kernel_rfl
theorem f30_eq (c : Orc) (lf : Nat) (n0_0 : Int) (l0_1 : List T) (n1 : Int) : funK c env lf 6 fi30 [.st [.i .i64 n0_0, .sl l0_1], .i .i64 n1] = f30 c lf n0_0 l0_1 n1 := by
  refine (f30_raw c lf n0_0 l0_1 n1).trans ?_
  rfl
/-- loop.example/g00285/laws.heldPlaceS, the loop at region 2. -/
def f62_0_s (c : Orc) (lf : Nat) (l0 : List T) (L : Int → Int → Option (List T)) (x127 : Int) (x128 : Int) : Option (List T) :=
  bif iLt x128 (l0.length : Int) then
    bif inR x128 l0.length then
    bif (asI (T.cell (l0.getD x128.toNat T.u) 0)) != x127 then
      some [T.i .i64 0, T.i .i64 (-1)]
    else
      bif inR x128 l0.length then
      bif (asI (T.cell (l0.getD x128.toNat T.u) 1)) != (IntKind.wrap .i64 (x127 + 1)) then
        some [T.i .i64 0, T.i .i64 (-1)]
      else
        L (IntKind.wrap .i64 ((IntKind.wrap .i64 (x127 + 1)) + 1)) (IntKind.wrap .i64 (x128 + 1))
      else none
    else none
  else
    some [T.i .i64 1, T.i .i64 x127]
def f62_0_c (l0 : List T) (x127 : Int) (x128 : Int) : CSt := ⟨[.ro 0 true [.i .i64, .i .i64] l0, .i .i64 x127, .i .i64 x128], [.dead, .dead]⟩
theorem f62_0_round (c : Orc) (lf : Nat) (l0 : List T) (L : CSt → Option (List T)) (x127 : Int) (x128 : Int) :
    roundK c env lf 6 fi62 2 2 [] [0, 1, 5] (x62_2_0) L (f62_0_c l0 x127 x128) = f62_0_s c lf l0 (fun x127 x128 => L (f62_0_c l0 x127 x128)) x127 x128 := by kernel_rfl
def f62_0 (c : Orc) (lf : Nat) (l0 : List T) : Nat → Int → Int → Option (List T)
  | 0 => fun _ _ => none
  | n + 1 => fun x127 x128 => f62_0_s c lf l0 (f62_0 c lf l0 n) x127 x128
theorem f62_0_u (c : Orc) (lf : Nat) (l0 : List T) (n : Nat) (x127 : Int) (x128 : Int) : f62_0 c lf l0 (n + 1) x127 x128 = f62_0_s c lf l0 (f62_0 c lf l0 n) x127 x128 := rfl
theorem f62_0_eq (c : Orc) (lf : Nat) (l0 : List T) (n : Nat) (x127 : Int) (x128 : Int) :
    lpK c env lf 6 fi62 2 2 [] [0, 1, 5] (x62_2_0) n (f62_0_c l0 x127 x128) = f62_0 c lf l0 n x127 x128 := by
  induction n generalizing x127 x128 with
  | zero => rfl
  | succ n ih =>
    refine (f62_0_round c lf l0 _ x127 x128).trans ?_
    have e : (fun x127 x128 => lpK c env lf 6 fi62 2 2 [] [0, 1, 5] (x62_2_0) n (f62_0_c l0 x127 x128)) = f62_0 c lf l0 n := by funext x127 x128; exact ih x127 x128
    show f62_0_s c lf l0 (fun x127 x128 => lpK c env lf 6 fi62 2 2 [] [0, 1, 5] (x62_2_0) n (f62_0_c l0 x127 x128)) x127 x128 = _
    rw [e]; rfl
/-- loop.example/g00285/laws.heldPlaceS -/
def f62_t (c : Orc) (lf : Nat) (lp0 : List T → Int → Int → Option (List T)) (l0 : List T) (n1 : Int) : Option (List T) :=
  (lp0 l0 n1 0).bind fun r129 =>
  bif asI (nth r129 0) == 0 then
    some [T.i .i64 (asI (nth r129 1))]
  else
    some [T.i .i64 (asI (nth r129 1))]
def f62 (c : Orc) (lf : Nat) (l0 : List T) (n1 : Int) : Option (List T) := f62_t c lf (fun (l0 : List T) (x127 : Int) (x128 : Int) => f62_0 c lf l0 lf x127 x128) l0 n1
theorem f62_raw (c : Orc) (lf : Nat) (l0 : List T) (n1 : Int) : funK c env lf 6 fi62 [.sl l0, .i .i64 n1] = f62_t c lf (fun (l0 : List T) (x127 : Int) (x128 : Int) => lpK c env lf 6 fi62 2 2 [] [0, 1, 5] (x62_2_0) lf (f62_0_c l0 x127 x128)) l0 n1 := by kernel_rfl
theorem f62_eq (c : Orc) (lf : Nat) (l0 : List T) (n1 : Int) : funK c env lf 6 fi62 [.sl l0, .i .i64 n1] = f62 c lf l0 n1 := by
  refine (f62_raw c lf l0 n1).trans ?_
  have e0 : (fun (l0 : List T) (x127 : Int) (x128 : Int) => lpK c env lf 6 fi62 2 2 [] [0, 1, 5] (x62_2_0) lf (f62_0_c l0 x127 x128)) = (fun (l0 : List T) (x127 : Int) (x128 : Int) => f62_0 c lf l0 lf x127 x128) := by funext l0 x127 x128; exact f62_0_eq c lf l0 lf x127 x128
  rw [e0]; rfl
/-- loop.example/g00285/laws.heldMap -/
def f38_t (c : Orc) (lf : Nat) (n0_0 : Int) (l0_1 : List T) (n1 : Int) : Option (List T) :=
  (c 62 [T.sl l0_1, T.i .i64 n1]).bind fun r130 =>
  bif iLt (asI (nth r130 0)) 0 then
    some [T.i .i64 (-1)]
  else
    some [T.i .i64 (asI (nth r130 0))]
def f38 (c : Orc) (lf : Nat) (n0_0 : Int) (l0_1 : List T) (n1 : Int) : Option (List T) := f38_t c lf n0_0 l0_1 n1
theorem f38_raw (c : Orc) (lf : Nat) (n0_0 : Int) (l0_1 : List T) (n1 : Int) : funK c env lf 6 fi38 [.st [.i .i64 n0_0, .sl l0_1], .i .i64 n1] = f38_t c lf n0_0 l0_1 n1 := by kernel_rfl
theorem f38_eq (c : Orc) (lf : Nat) (n0_0 : Int) (l0_1 : List T) (n1 : Int) : funK c env lf 6 fi38 [.st [.i .i64 n0_0, .sl l0_1], .i .i64 n1] = f38 c lf n0_0 l0_1 n1 := by
  refine (f38_raw c lf n0_0 l0_1 n1).trans ?_
  rfl
/-- loop.example/g00285/laws.FnExactGetMap -/
def f9_t (c : Orc) (lf : Nat) (l0 : List T) : Option (List T) :=
  bif iLt 1048576 (l0.length : Int) then
    some [T.b true]
  else
    (c 36 [T.sl l0]).bind fun r131 =>
    (c 35 [T.sl (asL (nth r131 0))]).bind fun r132 =>
    (c 36 [T.sl l0]).bind fun r133 =>
    (c 37 [T.sl (asL (nth r133 0))]).bind fun r134 =>
    (c 14 [T.st [T.i .i64 (asI (T.cell (nth r134 0) 0)), T.sl (asL (T.cell (nth r134 0) 1))], T.st [T.i .i64 (asI (T.cell (nth r132 0) 0)), T.sl (asL (T.cell (nth r132 0) 1))]]).bind fun r135 =>
    bif !(asB (nth r135 0)) then
      some [T.b false]
    else
      bif !((asB (nth r134 1)) == (asB (nth r132 1))) then
        some [T.b false]
      else
        (c 36 [T.sl l0]).bind fun r136 =>
        (c 29 [T.sl (asL (nth r133 0)), T.sl (asL (nth r136 0))]).bind fun r137 =>
        bif !(asB (nth r137 0)) then
          some [T.b false]
        else
          (c 31 [T.sl (asL (nth r133 0)), T.i .i64 1]).bind fun r138 =>
          bif iLt (asI (nth r138 0)) 0 then
            some [T.b false]
          else
            (c 14 [T.st [T.i .i64 (asI (T.cell (nth r134 0) 0)), T.sl (asL (T.cell (nth r134 0) 1))], T.st [T.i .i64 (asI (T.cell (nth r132 0) 0)), T.sl (asL (T.cell (nth r132 0) 1))]]).bind fun r139 =>
            bif !(asB (nth r139 0)) then
              some [T.b false]
            else
              bif !((asB (nth r134 1)) == (asB (nth r132 1))) then
                some [T.b false]
              else
                (c 30 [T.st [T.i .i64 (asI (T.cell (nth r134 0) 0)), T.sl (asL (T.cell (nth r134 0) 1))], T.i .i64 1]).bind fun r140 =>
                (c 38 [T.st [T.i .i64 (asI (T.cell (nth r134 0) 0)), T.sl (asL (nth r140 1))], T.i .i64 1]).bind fun r141 =>
                bif iLt (asI (nth r141 0)) 0 then
                  some [T.b false]
                else
                  bif (asI (nth r141 0)) != (asI (nth r140 0)) then
                    some [T.b false]
                  else
                    (c 36 [T.sl l0]).bind fun r142 =>
                    (c 37 [T.sl (asL (nth r142 0))]).bind fun r143 =>
                    (c 14 [T.st [T.i .i64 (asI (T.cell (nth r143 0) 0)), T.sl (asL (T.cell (nth r143 0) 1))], T.st [T.i .i64 (asI (T.cell (nth r132 0) 0)), T.sl (asL (T.cell (nth r132 0) 1))]]).bind fun r144 =>
                    bif !(asB (nth r144 0)) then
                      some [T.b false]
                    else
                      bif !((asB (nth r143 1)) == (asB (nth r132 1))) then
                        some [T.b false]
                      else
                        (c 38 [T.st [T.i .i64 (asI (T.cell (nth r134 0) 0)), T.sl (asL (nth r140 1))], T.i .i64 1]).bind fun r145 =>
                        bif iLt (asI (nth r145 0)) 0 then
                          some [T.b false]
                        else
                          bif (asI (nth r145 0)) != (asI (nth r140 0)) then
                            some [T.b false]
                          else
                            some [T.b true]
def f9 (c : Orc) (lf : Nat) (l0 : List T) : Option (List T) := f9_t c lf l0
theorem f9_raw (c : Orc) (lf : Nat) (l0 : List T) : funK c env lf 6 fi9 [.sl l0] = f9_t c lf l0 := by kernel_rfl
theorem f9_eq (c : Orc) (lf : Nat) (l0 : List T) : funK c env lf 6 fi9 [.sl l0] = f9 c lf l0 := by
  refine (f9_raw c lf l0).trans ?_
  rfl
end Go.Proofs.Ytejeinhdlcgkgaa.T
