/- What functions of the law FnExactRootsOf come to, in trees; no condition. -/
import Derived.Test.YtmjahclmjgllbaaRows
import Derived.Test.YtmjahclmjgllbaaX2
set_option linter.unusedVariables false
set_option linter.constructorNameAsVariable false
set_option linter.unusedSimpArgs false
set_option linter.unnecessarySimpa false
namespace Go.Proofs.Ytmjahclmjgllbaa.T
open Go Go.Proofs.YtmjahclmjgllbaaV
set_option maxRecDepth 100000
theorem c_l1In {lf d : Nat} (a lo hi : Int) : Cc lf (d + 1) 53 [.i .i64 a, .i .i64 lo, .i .i64 hi] = some [.b (iLe lo a && iLe a hi)] := by
 refine (f53_eq (Cc lf d) lf a lo hi).trans ?_
 unfold f53 f53_t
 exact cond_b _ _
theorem c_from {lf d : Nat} (a lo hi : Int) : Cc lf (d + 1) 56 [.i .i64 a, .i .i64 lo, .i .i64 hi] = some [.b (iLe lo a && iLe a hi)] := by
 refine (f56_eq (Cc lf d) lf a lo hi).trans ?_
 unfold f56 f56_t
 exact cond_b _ _
theorem c_clone {lf d : Nat} {l : List T} (h : l.length ≤ 1073741830) : Cc lf (d + 1) 57 [.sl l] = some [.sl l] := by
 show (bif nLe (0 + l.length) LIM then some [T.sl l] else none) = _
 rw [nLe_t (by unfold LIM; omega)]
 rfl
theorem c_sGetNum {lf d : Nat} (hlf : 33554432 ≤ lf) {b : List T} (hb : byt b) (hl : b.length ≤ 1073741824) (p : Nat) (hp : p ≤ 1073741824) : Cc lf (d + 1) 51 [.sl b, .i .i64 (p : Int)] = some (getR (getNum b p)) := by
 refine (f51_eq (Cc lf d) lf b p).trans ?_
 unfold f51 f51_t
 dsimp only
 have B : ∀ j, j < b.length → 0 ≤ asI (b.getD j .u) ∧ asI (b.getD j .u) < 256 := fun j hj => by
  obtain ⟨n, e, h⟩ := byt_at hb hj
  rw [e]; exact h
 have L := getNum_loop (b := b) (p := p) (F := fun n x k => f51_0 (Cc lf d) lf b p n x k) (X := some [T.i .i64 0, T.i .i64 0, T.i .i64 0, T.b false]) (Z := some [T.i .i64 1]) (Y := fun v q => some [T.i .i64 0, T.i .i64 v, T.i .i64 (q : Int), T.b true]) hb (fun n x k hk hpk h0 h1 => by
  have hc := B _ hpk
  have hw : IntKind.wrap .u64 (IntKind.wrap .i64 (7 * (k : Int))) = ((7 * k : Nat) : Int) := by
   rcases (by omega : k = 0 ∨ k = 1 ∨ k = 2) with rfl | rfl | rfl <;> rfl
  have hpw : ((2 ^ (7 * k) : Nat) : Int) = 128 ^ k := by
   rcases (by omega : k = 0 ∨ k = 1 ∨ k = 2) with rfl | rfl | rfl <;> rfl
  rw [f51_0_u]
  unfold f51_0_s
  rw [iLt_t (by omega), iLe_t (by omega), iLt_t (by omega), wrap_in (x := (p : Int) + (k : Int)) (by omega) (by omega), iLt_t (by omega), inR_t (by omega) (by omega), hw, iLe_t (by omega), show ((p : Int) + (k : Int)).toNat = p + k by omega, wrap_in (x := asI (b.getD (p + k) .u)) (by omega) (by omega), and_mod hc.1 (by omega),
   shl_mul (by omega) (by omega) (by omega), or_add (k := 7 * k) h0 (by rw [hpw]; exact h1) (by omega) (by omega) (by omega), hpw, wrap_in (x := (k : Int) + 1) (by omega) (by omega), wrap_in (x := (p : Int) + (k : Int) + 1) (by omega) (by omega)]
  simp only [cond_t]
  by_cases c0 : 128 ≤ asI (b.getD (p + k) .u)
  ·rw [iLt_t (by omega), if_pos c0]
   rfl
  ·rw [iLt_f (by omega), if_neg c0, Int.emod_eq_of_lt hc.1 (by omega)]
   simp only [cond_f]
   by_cases k0 : k = 0
   ·subst k0
    rw [iLt_f (by omega)]
    by_cases m : 1000000 < x + asI (b.getD (p + 0) .u) * 128 ^ 0
    ·rw [iLt_t m, if_pos (.inr m)]; rfl
    ·rw [iLt_f m, if_neg (by omega)]; rfl
   ·rw [iLt_t (by omega)]
    by_cases z : asI (b.getD (p + k) .u) = 0
    ·rw [if_pos (.inl ⟨k0, z⟩), z]; rfl
    ·rw [show (asI (b.getD (p + k) .u) == 0) = false from by simpa using z]
     by_cases m : 1000000 < x + asI (b.getD (p + k) .u) * 128 ^ k
     ·rw [iLt_t m, if_pos (.inr m)]; rfl
     ·rw [iLt_f m, if_neg (by rintro (h | h); exact z h.2; exact m h)]; rfl) (fun n x k hk3 hk => by
  rw [f51_0_u]
  unfold f51_0_s
  by_cases k3 : k < 3
  ·rw [iLt_t (by omega), iLe_t (by omega)]
   by_cases h : p < b.length
   ·rw [iLt_t (by omega), wrap_in (x := (p : Int) + (k : Int)) (by omega) (by omega), iLt_f (by omega)]; rfl
   ·rw [iLt_f (by omega)]; rfl
  ·rw [iLt_f (by omega)]; rfl) (n := lf) (by omega)
 rcases L with ⟨h1, h2 | h2⟩ | ⟨v, q, h1, h2⟩
 ·rw [show ((0 : Nat) : Int) = 0 from rfl] at h2; rw [h1, h2]; rfl
 ·rw [show ((0 : Nat) : Int) = 0 from rfl] at h2; rw [h1, h2]; rfl
 ·rw [show ((0 : Nat) : Int) = 0 from rfl] at h2; rw [h1, h2]; rfl
theorem c_iGetNum {lf d : Nat} (hlf : 33554432 ≤ lf) {b : List T} (hb : byt b) (hl : b.length ≤ 1073741824) (p : Nat) (hp : p ≤ 1073741824) : Cc lf (d + 1) 69 [.sl b, .i .i64 (p : Int)] = some (getR (getNum b p)) := by
 refine (f69_eq (Cc lf d) lf b p).trans ?_
 unfold f69 f69_t
 dsimp only
 have B : ∀ j, j < b.length → 0 ≤ asI (b.getD j .u) ∧ asI (b.getD j .u) < 256 := fun j hj => by
  obtain ⟨n, e, h⟩ := byt_at hb hj
  rw [e]; exact h
 have L := getNum_loop (b := b) (p := p) (F := fun n x k => f69_0 (Cc lf d) lf b p n x (128 ^ k) k) (X := some [T.i .i64 0]) (Z := some [T.i .i64 0]) (Y := fun v q => some [T.i .i64 1, T.i .i64 v, T.i .i64 (q : Int), T.b true]) hb (fun n x k hk hpk h0 h1 => by
  have hc := B _ hpk
  have hm := Int.emod_nonneg (asI (b.getD (p + k) .u)) (show (128 : Int) ≠ 0 by omega)
  have hm2 := Int.emod_lt_of_pos (asI (b.getD (p + k) .u)) (show (0 : Int) < 128 by omega)
  have hk3 : k = 0 ∨ k = 1 ∨ k = 2 := by omega
  have hpw : 1 ≤ (128 : Int) ^ k ∧ (128 : Int) ^ k ≤ 16384 ∧ (128 : Int) ^ k * 128 = 128 ^ (k + 1) ∧ 0 ≤ asI (b.getD (p + k) .u) % 128 * 128 ^ k ∧ asI (b.getD (p + k) .u) % 128 * 128 ^ k ≤ 2097152 := by
   rcases hk3 with rfl | rfl | rfl
   ·refine ⟨by decide, by decide, by decide, ?_, ?_⟩ <;> rw [Int.pow_zero] <;> omega
   ·refine ⟨by decide, by decide, by decide, ?_, ?_⟩ <;> rw [Int.pow_one] <;> omega
   ·have e : (128 : Int) ^ 2 = 16384 := rfl
    refine ⟨by decide, by decide, by decide, ?_, ?_⟩ <;> rw [e] <;> omega
  rw [f69_0_u]
  unfold f69_0_s
  rw [iLt_t (by omega), wrap_in (x := (b.length : Int) - (k : Int)) (by omega) (by omega), iLt_t (by omega), wrap_in (x := (p : Int) + (k : Int)) (by omega) (by omega), inR_t (by omega) (by omega), show ((p : Int) + (k : Int)).toNat = p + k by omega, wrap_in (x := asI (b.getD (p + k) .u)) (by omega) (by omega), Int.tmod_eq_emod_of_nonneg hc.1,
   wrap_in (x := asI (b.getD (p + k) .u) % 128 * 128 ^ k) (by omega) (by omega), wrap_in (x := x + asI (b.getD (p + k) .u) % 128 * 128 ^ k) (by omega) (by omega), wrap_in (x := (128 : Int) ^ k * 128) (by omega) (by omega), hpw.2.2.1, wrap_in (x := (k : Int) + 1) (by omega) (by omega), wrap_in (x := (p : Int) + (k : Int) + 1) (by omega) (by omega)]
  simp only [cond_t]
  by_cases c0 : 128 ≤ asI (b.getD (p + k) .u)
  ·rw [iLe_t c0, if_pos c0]
   rfl
  ·rw [iLe_f c0, if_neg c0, Int.emod_eq_of_lt hc.1 (by omega)]
   simp only [cond_f]
   by_cases m : 1000000 < x + asI (b.getD (p + k) .u) * 128 ^ k
   ·rw [iLt_t m, if_pos (.inr m)]; rfl
   ·rw [iLt_f m]
    by_cases z : asI (b.getD (p + k) .u) = 0
    ·by_cases k0 : k = 0
     ·subst k0
      rw [if_neg (by omega), iLt_f (by omega), show (asI (b.getD (p + 0) .u) == 0) = true by rw [z]; rfl]; rfl
     ·rw [if_pos (.inl ⟨k0, z⟩), iLt_t (by omega), show (asI (b.getD (p + k) .u) == 0) = true by rw [z]; rfl]; rfl
    ·rw [if_neg (by rintro (h | h); exact z h.2; exact m h), show (asI (b.getD (p + k) .u) == 0) = false from by simpa using z]; rfl) (fun n x k hk3 hk => by
  rw [f69_0_u]
  unfold f69_0_s
  by_cases k3 : k < 3
  ·rw [iLt_t (by omega), wrap_in (x := (b.length : Int) - (k : Int)) (by omega) (by omega), iLt_f (by omega)]; rfl
  ·rw [iLt_f (by omega)]; rfl) (n := lf) (by omega)
 rw [iLt_f (by omega), cond_f]
 rcases L with ⟨h1, h2 | h2⟩ | ⟨v, q, h1, h2⟩
 ·rw [Int.pow_zero, show ((0 : Nat) : Int) = 0 from rfl] at h2; rw [h1, h2]; rfl
 ·rw [Int.pow_zero, show ((0 : Nat) : Int) = 0 from rfl] at h2; rw [h1, h2]; rfl
 ·rw [Int.pow_zero, show ((0 : Nat) : Int) = 0 from rfl] at h2; rw [h1, h2]; rfl
theorem c_iNum {lf d : Nat} (hlf : 33554432 ≤ lf) {b : List T} (hb : byt b) (hl : b.length ≤ 1073741824) {s : Option Nat} {p : Int} {ok : Bool} (h : RI b s p ok) :
 ∃ p' ok', Cc lf (d + 2) 59 [.st [.sl b, .i .i64 p, .b ok]] = some [.i .i64 (rd b s).1, .st [.sl b, .i .i64 p', .b ok']] ∧ RI b (rd b s).2 p' ok' := by
 have E := f59_eq (Cc lf (d + 1)) lf b p ok
 unfold f59 f59_t at E
 obtain ⟨rfl, h2⟩ := h
 cases s with
 | none => exact ⟨p, false, E, rfl, fun q hq => by cases hq⟩
 | some q =>
  obtain ⟨rfl, hq⟩ := h2 q rfl
  rw [c_iGetNum hlf hb hl q (by omega)] at E
  simp only [rd]
  cases e : getNum b q with
  | none => rw [e] at E; exact ⟨0, false, E, rfl, fun q hq => by cases hq⟩
  | some x =>
   obtain ⟨n, q2⟩ := x
   rw [e] at E
   exact ⟨q2, true, E, rfl, fun q hq => by cases hq; exact ⟨rfl, (getNum_in hb e).2.2.2⟩⟩
theorem c_sNum {lf d : Nat} (hlf : 33554432 ≤ lf) {b : List T} (hb : byt b) (hl : b.length ≤ 1073741824) {s : Option Nat} {p : Int} {bad : Bool} (h : RS b s p bad) :
 ∃ p' bad', Cc lf (d + 2) 37 [.st [.sl b, .i .i64 p, .b bad]] = some [.i .i64 (rd b s).1, .st [.sl b, .i .i64 p', .b bad']] ∧ RS b (rd b s).2 p' bad' := by
 have E := f37_eq (Cc lf (d + 1)) lf b p bad
 unfold f37 f37_t at E
 obtain ⟨rfl, h2, q0, rfl, hq0⟩ := h
 rw [c_sGetNum hlf hb hl q0 (by omega)] at E
 cases s with
 | none => exact ⟨q0, true, E, rfl, (fun q hq => by cases hq), q0, rfl, hq0⟩
 | some q =>
  have e0 : q0 = q := by have := h2 q rfl; omega
  subst e0
  simp only [rd]
  cases e : getNum b q0 with
  | none => rw [e] at E; exact ⟨q0, true, E, rfl, (fun q hq => by cases hq), q0, rfl, hq0⟩
  | some x =>
   obtain ⟨n, q2⟩ := x
   rw [e] at E
   exact ⟨q2, false, E, rfl, (fun q hq => by cases hq; rfl), q2, rfl, (getNum_in hb e).2.2.2⟩
theorem c_iDone {lf d : Nat} {b : List T} {s : Option Nat} {p : Int} {ok : Bool} (h : RI b s p ok) :
 ∃ t, Cc lf (d + 1) 61 [.st [.sl b, .i .i64 p, .b ok]] = some [.b (s == some b.length), t] := by
 have E := f61_eq (Cc lf d) lf b p ok
 unfold f61 f61_t at E
 obtain ⟨rfl, h2⟩ := h
 cases s with
 | none => exact ⟨_, E⟩
 | some q =>
  obtain ⟨rfl, _⟩ := h2 q rfl
  have e : ((q : Int) == (b.length : Int)) = (some q == some b.length) := by
   rw [Bool.eq_iff_iff]
   simp
   omega
  exact ⟨_, by rw [← e]; exact E⟩
def getTR : ByteArray × Option Nat → List T
 | (s, some q) => [.s s, .i .i64 (q : Int), .b true]
 | (_, none) => [.s ⟨#[]⟩, .i .i64 0, .b false]
theorem getText_aux {b : List T} (hb : byt b) (hl : b.length ≤ 1073741824) (p : Nat) : ((some (getR (getNum b p)) : Option (List T)).bind fun r =>
 bif !(asB (nth r 2)) then
  some [T.s (⟨#[]⟩ : ByteArray), T.i .i64 0, T.b false]
 else
  bif iLt (IntKind.wrap .i64 ((b.length : Int) - (asI (nth r 1)))) (asI (nth r 0)) then
   some [T.s (⟨#[]⟩ : ByteArray), T.i .i64 0, T.b false]
  else
   bif iLe 0 (asI (nth r 1)) && iLe (asI (nth r 1)) (IntKind.wrap .i64 ((asI (nth r 1)) + (asI (nth r 0)))) && iLe (IntKind.wrap .i64 ((asI (nth r 1)) + (asI (nth r 0)))) (b.length : Int) then
   some [T.s (bytesOf ((b.drop ((asI (nth r 1)).toNat)).take (((IntKind.wrap .i64 ((asI (nth r 1)) + (asI (nth r 0)))).toNat) - ((asI (nth r 1)).toNat)))), T.i .i64 (IntKind.wrap .i64 ((asI (nth r 1)) + (asI (nth r 0)))), T.b true]
   else none) = some (getTR (rdS b (some p))) := by
 unfold rdS
 simp only [rd]
 cases e : getNum b p with
 | none => rfl
 | some x =>
  obtain ⟨n, q⟩ := x
  obtain ⟨h0, h1, h2, h3⟩ := getNum_in hb e
  simp only [getR, Option.bind_some, nth0, nthS, asI_i, asB_b, Bool.not_true, cond_f]
  rw [wrap_in (x := (b.length : Int) - q) (by omega) (by omega), wrap_in (x := (q : Int) + n) (by omega) (by omega)]
  by_cases c : n > (b.length : Int) - q
  ·rw [iLt_t c, if_pos c]; rfl
  ·rw [iLt_f c, if_neg c, cond_f, iLe_t (by omega), iLe_t (by omega), iLe_t (by omega)]
   rw [show ((q : Int)).toNat = q from rfl, show ((q : Int) + n).toNat - q = n.toNat by omega, show (q : Int) + n = ((q + n.toNat : Nat) : Int) by omega]
   rfl
theorem c_iGetText {lf d : Nat} (hlf : 33554432 ≤ lf) {b : List T} (hb : byt b) (hl : b.length ≤ 1073741824) (p : Nat) (hp : p ≤ 1073741824) : Cc lf (d + 2) 70 [.sl b, .i .i64 (p : Int)] = some (getTR (rdS b (some p))) := by
 refine (f70_eq (Cc lf (d + 1)) lf b p).trans ?_
 unfold f70 f70_t
 rw [c_iGetNum hlf hb hl p hp]
 exact getText_aux hb hl p
theorem c_sGetText {lf d : Nat} (hlf : 33554432 ≤ lf) {b : List T} (hb : byt b) (hl : b.length ≤ 1073741824) (p : Nat) (hp : p ≤ 1073741824) : Cc lf (d + 2) 52 [.sl b, .i .i64 (p : Int)] = some (getTR (rdS b (some p))) := by
 refine (f52_eq (Cc lf (d + 1)) lf b p).trans ?_
 unfold f52 f52_t
 rw [c_sGetNum hlf hb hl p hp]
 exact getText_aux hb hl p
theorem c_iText {lf d : Nat} (hlf : 33554432 ≤ lf) {b : List T} (hb : byt b) (hl : b.length ≤ 1073741824) {s : Option Nat} {p : Int} {ok : Bool} (h : RI b s p ok) :
 ∃ p' ok', Cc lf (d + 3) 60 [.st [.sl b, .i .i64 p, .b ok]] = some [.s (rdS b s).1, .st [.sl b, .i .i64 p', .b ok']] ∧ RI b (rdS b s).2 p' ok' := by
 have E := f60_eq (Cc lf (d + 2)) lf b p ok
 unfold f60 f60_t at E
 obtain ⟨rfl, h2⟩ := h
 cases s with
 | none => exact ⟨p, false, E, rfl, fun q hq => by cases hq⟩
 | some q =>
  obtain ⟨rfl, hq⟩ := h2 q rfl
  rw [c_iGetText hlf hb hl q (by omega)] at E
  have hn := @rdS_next b hb (some q)
  have hs : (rdS b (some q)).2 = none → (rdS b (some q)).1 = ⟨#[]⟩ := by
   intro h
   unfold rdS at h ⊢
   split
   ·rename_i n q' e
    rw [e] at h
    simp only at h
    split at h
    ·rename_i c; rw [if_pos c]
    ·cases h
   ·rfl
  generalize rdS b (some q) = r at *
  obtain ⟨s, q2⟩ := r
  cases q2 with
  | none =>
   have := hs rfl
   simp only at this
   subst this
   exact ⟨0, false, E, rfl, fun q hq => by cases hq⟩
  | some q2 => exact ⟨q2, true, E, rfl, fun q hq => by cases hq; obtain ⟨_, _, _, h⟩ := hn rfl; exact ⟨rfl, h⟩⟩
theorem c_sText {lf d : Nat} (hlf : 33554432 ≤ lf) {b : List T} (hb : byt b) (hl : b.length ≤ 1073741824) {s : Option Nat} {p : Int} {bad : Bool} (h : RS b s p bad) :
 ∃ p' bad', Cc lf (d + 3) 38 [.st [.sl b, .i .i64 p, .b bad]] = some [.s (rdS b s).1, .st [.sl b, .i .i64 p', .b bad']] ∧ RS b (rdS b s).2 p' bad' := by
 have E := f38_eq (Cc lf (d + 2)) lf b p bad
 unfold f38 f38_t at E
 obtain ⟨rfl, h2, q0, rfl, hq0⟩ := h
 rw [c_sGetText hlf hb hl q0 (by omega)] at E
 cases s with
 | none => exact ⟨q0, true, E, rfl, (fun q hq => by cases hq), q0, rfl, hq0⟩
 | some q =>
  have e0 : q0 = q := by have := h2 q rfl; omega
  subst e0
  have hn := @rdS_next b hb (some q0)
  have hs : (rdS b (some q0)).2 = none → (rdS b (some q0)).1 = ⟨#[]⟩ := by
   intro h
   unfold rdS at h ⊢
   split
   ·rename_i n q' e
    rw [e] at h
    simp only at h
    split at h
    ·rename_i c; rw [if_pos c]
    ·cases h
   ·rfl
  generalize rdS b (some q0) = r at *
  obtain ⟨s, q2⟩ := r
  cases q2 with
  | none =>
   have := hs rfl
   simp only at this
   subst this
   exact ⟨q0, true, E, rfl, (fun q hq => by cases hq), q0, rfl, hq0⟩
  | some q2 => exact ⟨q2, false, E, rfl, (fun q hq => by cases hq; rfl), q2, rfl, by obtain ⟨_, _, _, h⟩ := hn rfl; exact h⟩
theorem c_sCrc {lf d : Nat} (hlf : 33554432 ≤ lf) {b : List T} (hb : byt b) (hl : b.length ≤ 16777216) : Cc lf (d + 1) 39 [.sl b] = some [.i .i64 (crcN b : Nat)] := by
 refine (f39_eq (Cc lf d) lf b).trans ?_
 unfold f39 f39_t
 dsimp only
 have In : ∀ (x j : Nat), x < 4294967296 → f39_1 (Cc lf d) lf b j lf x 0 = some [T.i .i64 0, T.sl b, T.i .i64 (r8 x : Nat), T.i .i64 (j : Int)] := fun x j hx => by
  have := (fold_loop (S := Nat) (F := fun n s k => f39_1 (Cc lf d) lf b j n s k) (g := fun s _ => r1 s) (I := fun s _ => s < 4294967296) (Y := fun s => some [T.i .i64 0, T.sl b, T.i .i64 (s : Int), T.i .i64 (j : Int)]) (len := 8) (fun n s k hk hs => by
   rw [f39_1_u]
   unfold f39_1_s
   rw [iLt_t (by omega), and7 (by omega) (by omega), shr1_64, show (2197175160 : Int) = ((2197175160 : Nat) : Int) from rfl, xor64 (by omega) (by omega), wrap_in (x := (k : Int) + 1) (by omega) (by omega)]
   unfold r1
   by_cases c : s % 2 = 1
   ·rw [if_pos c, show ((s : Int) % 2 == 1) = true by simp only [beq_iff_eq]; omega]; rfl
   ·rw [if_neg c, show ((s : Int) % 2 == 1) = false by simp only [beq_eq_false_iff_ne, ne_eq]; omega]; rfl) (fun s k hk hs => r1_lt hs) (fun n s hs => by
   rw [f39_1_u]
   unfold f39_1_s
   rw [iLt_f (by omega)]
   rfl) (n := lf) (by omega) (s := x) hx).1
  exact this
 have L := (fold_loop (S := Nat) (F := fun n s j => f39_0 (Cc lf d) lf n b s j) (g := fun s j => r8 (s ^^^ (asI (b.getD j .u)).toNat)) (I := fun s _ => s < 4294967296) (Y := fun s => some [T.i .i64 0, T.i .i64 (s : Int)]) (len := b.length) (fun n s j hj hs => by
  have hB := byte_lt hb j
  rw [f39_0_u]
  unfold f39_0_s
  obtain ⟨v, hv⟩ := Int.eq_ofNat_of_zero_le hB.1
  rw [iLt_t (by omega), inR_nat hj, Int.toNat_natCast, hv, wrap_in (x := (v : Int)) (by omega) (by omega), xor64 hs (by omega)]
  dsimp only
  rw [In _ j (xor_lt hs (by omega))]
  simp only [cond_t, Option.bind_some, nth0, nthS, asI_i, asL_l]
  rw [wrap_in (x := (j : Int) + 1) (by omega) (by omega)]
  rfl) (fun s j hj hs => by
   have hB := byte_lt hb j
   exact r8_lt (xor_lt hs (by omega))) (fun n s hs => by
  rw [f39_0_u]
  unfold f39_0_s
  rw [iLt_f (by omega)]
  rfl) (n := lf) (by omega) (s := 4294967295) (by omega)).1
 rw [show ((4294967295 : Nat) : Int) = 4294967295 from rfl] at L
 rw [L]
 simp only [Option.bind_some, nth0, nthS, asI_i]
 have e : foldN (fun s j => r8 (s ^^^ (asI (b.getD j .u)).toNat)) 4294967295 b.length = crcS b b.length := rfl
 rw [e, show (4294967295 : Int) = ((4294967295 : Nat) : Int) from rfl, xor64 (crcS_lt hb b.length) (by omega)]
 rfl
theorem c_iCrc {lf d : Nat} (hlf : 33554432 ≤ lf) {b : List T} (hb : byt b) (hl : b.length ≤ 16777216) : Cc lf (d + 1) 76 [.sl b] = some [.i .i64 (crcN b : Nat)] := by
 refine (f76_eq (Cc lf d) lf b).trans ?_
 unfold f76 f76_t
 dsimp only
 have In : ∀ (x j : Nat), x < 4294967296 → f76_1 (Cc lf d) lf b (b.length : Int) j lf x 0 = some [T.i .i64 0, T.i .u32 (r8 x : Nat), T.sl b, T.i .i64 (b.length : Int), T.i .i64 (j : Int)] := fun x j hx => by
  have := (fold_loop (S := Nat) (F := fun n s k => f76_1 (Cc lf d) lf b (b.length : Int) j n s k) (g := fun s _ => r1 s) (I := fun s _ => s < 4294967296) (Y := fun s => some [T.i .i64 0, T.i .u32 (s : Int), T.sl b, T.i .i64 (b.length : Int), T.i .i64 (j : Int)]) (len := 8) (fun n s k hk hs => by
   rw [f76_1_u]
   unfold f76_1_s
   rw [iLt_t (by omega), and32 hs, shr1_32, show (2197175160 : Int) = ((2197175160 : Nat) : Int) from rfl, xor32 (by omega) (by omega), wrap_in (x := (k : Int) + 1) (by omega) (by omega)]
   unfold r1
   by_cases c : s % 2 = 1
   ·rw [if_pos c, show (((s % 2 : Nat) : Int) == 1) = true by simp only [beq_iff_eq]; omega]; rfl
   ·rw [if_neg c, show (((s % 2 : Nat) : Int) == 1) = false by simp only [beq_eq_false_iff_ne, ne_eq]; omega]; rfl) (fun s k hk hs => r1_lt hs) (fun n s hs => by
   rw [f76_1_u]
   unfold f76_1_s
   rw [iLt_f (by omega)]
   rfl) (n := lf) (by omega) (s := x) hx).1
  exact this
 have L := (fold_loop (S := Nat) (F := fun n s j => f76_0 (Cc lf d) lf n s b (b.length : Int) j) (g := fun s j => r8 (s ^^^ (asI (b.getD j .u)).toNat)) (I := fun s _ => s < 4294967296) (Y := fun s => some [T.i .i64 0, T.i .u32 (s : Int)]) (len := b.length) (fun n s j hj hs => by
  have hB := byte_lt hb j
  rw [f76_0_u]
  unfold f76_0_s
  obtain ⟨v, hv⟩ := Int.eq_ofNat_of_zero_le hB.1
  rw [iLt_t (by omega), inR_nat hj, Int.toNat_natCast, hv, wrap32 (x := (v : Int)) (by omega) (by omega), xor32 hs (by omega)]
  dsimp only
  rw [In _ j (xor_lt hs (by omega))]
  simp only [cond_t, Option.bind_some, nth0, nthS, asI_i, asL_l]
  rw [wrap_in (x := (j : Int) + 1) (by omega) (by omega)]
  rfl) (fun s j hj hs => by
   have hB := byte_lt hb j
   exact r8_lt (xor_lt hs (by omega))) (fun n s hs => by
  rw [f76_0_u]
  unfold f76_0_s
  rw [iLt_f (by omega)]
  rfl) (n := lf) (by omega) (s := 4294967295) (by omega)).1
 rw [show ((4294967295 : Nat) : Int) = 4294967295 from rfl] at L
 rw [L]
 simp only [Option.bind_some, nth0, nthS, asI_i]
 have hc := crcN_lt hb
 have e : foldN (fun s j => r8 (s ^^^ (asI (b.getD j .u)).toNat)) 4294967295 b.length = crcS b b.length := rfl
 rw [e, show (4294967295 : Int) = ((4294967295 : Nat) : Int) from rfl, xor32 (show 4294967295 < 4294967296 by omega) (crcS_lt hb b.length), Nat.xor_comm, show crcS b b.length ^^^ 4294967295 = crcN b from rfl, wrap_in (by omega) (by omega)]
def recB (k s : Int) (body : List T) : Bool := (iLe 1 k && iLe k 4) && ((iLe 0 s && iLe s 1000000) && iLe (body.length : Int) 380)
def recHead (x : List T) (s : Option Nat) : (Int × Int × ByteArray) × Option Nat := (((rd x s).1, (rd x (rd x s).2).1, (rdS x (rd x (rd x s).2).2).1), (rdS x (rd x (rd x s).2).2).2)
def getRecB (b : List T) : Option (Int × Int × List T) :=
 if b.length < 4 then none else
  bif sealB b && ((recHead (b.take (b.length - 4)) (some 0)).2 == some (b.length - 4) && recB (recHead (b.take (b.length - 4)) (some 0)).1.1 (recHead (b.take (b.length - 4)) (some 0)).1.2.1 (listOf (recHead (b.take (b.length - 4)) (some 0)).1.2.2)) then
   some ((recHead (b.take (b.length - 4)) (some 0)).1.1, (recHead (b.take (b.length - 4)) (some 0)).1.2.1, listOf (recHead (b.take (b.length - 4)) (some 0)).1.2.2) else none
def recT : Option (Int × Int × List T) → T
 | some (k, s, d) => .st [.i .i64 k, .i .i64 s, .sl d]
 | none => .st [.i .i64 0, .i .i64 0, .sl []]
def getRecR (r : Option (Int × Int × List T)) : List T := [recT r, .b r.isSome]
theorem c_iRecOk {lf d : Nat} (k s : Int) (body : List T) : Cc lf (d + 2) 62 [.st [.i .i64 k, .i .i64 s, .sl body]] = some [.b (recB k s body)] := by
 refine (f62_eq (Cc lf (d + 1)) lf k s body).trans ?_
 unfold f62 f62_t
 simp only [c_from, Option.bind_some, nth0, asB_b, cond_st]
 unfold recB
 cases (iLe 1 k && iLe k 4) <;> cases (iLe 0 s && iLe s 1000000) <;> rfl
theorem c_sRecOk {lf d : Nat} (k s : Int) (body : List T) : Cc lf (d + 2) 40 [.st [.i .i64 k, .i .i64 s, .sl body]] = some [.b (recB k s body)] := by
 refine (f40_eq (Cc lf (d + 1)) lf k s body).trans ?_
 unfold f40 f40_t
 simp only [c_l1In, Option.bind_some, nth0, asB_b, cond_st]
 unfold recB
 cases (iLe 1 k && iLe k 4) <;> cases (iLe 0 s && iLe s 1000000) <;> rfl
theorem c_sealed {lf d : Nat} (hlf : 33554432 ≤ lf) {b : List T} (hb : byt b) (hl : b.length ≤ 16777216) : Cc lf (d + 2) 68 [.sl b] = some [.sl (b ++ four (crcN b))] := by
 refine (f68_eq (Cc lf (d + 1)) lf b).trans ?_
 unfold f68 f68_t
 rw [c_iCrc hlf hb hl]
 simp only [Option.bind_some, nth0, asI_i]
 rw [c_clone (by omega), four_sh (crcN_lt hb)]
 simp only [Option.bind_some, nth0, asL_l]
 rw [nLe_t (by unfold LIM four; simp; omega)]
 rfl
theorem c_opened {lf d : Nat} (hlf : 33554432 ≤ lf) {b : List T} (hb : byt b) (hl : b.length ≤ 16777216) : Cc lf (d + 3) 58 [.sl b] = some (if b.length < 4 then [.sl [], .b false] else bif sealB b then [.sl (b.take (b.length - 4)), .b true] else [.sl [], .b false]) := by
 refine (f58_eq (Cc lf (d + 2)) lf b).trans ?_
 unfold f58 f58_t
 rw [wrap_in (by omega) (by omega)]
 by_cases h : b.length < 4
 ·rw [iLt_t (by omega), if_pos h]; rfl
 ·rw [iLt_f (by omega), if_neg h, cond_f, iLe_t (by omega), iLe_t (by omega), show ((b.length : Int) - 4).toNat = b.length - 4 by omega, c_sealed hlf (byt_take hb _) (by simp; omega)]
  simp only [Bool.and_self, cond_t, Option.bind_some, nth0, asL_l, seal_iff hb (show 4 ≤ b.length by omega)]
  cases sealB b <;> rfl
theorem c_iGetRec {lf d : Nat} (hlf : 33554432 ≤ lf) {b : List T} (hb : byt b) (hl : b.length ≤ 16777216) : Cc lf (d + 4) 44 [.sl b] = some (getRecR (getRecB b)) := by
 refine (f44_eq (Cc lf (d + 3)) lf b).trans ?_
 unfold f44 f44_t
 rw [c_opened hlf hb hl]
 have go : ∀ (x : List T) (s : Option Nat) (ok : Bool), byt x → x.length ≤ 16777216 → RI x s 0 ok →
  ((Cc lf (d + 3) 59 [.st [.sl x, .i .i64 0, .b ok]]).bind fun r2 =>
   (Cc lf (d + 3) 59 [.st [.sl x, .i .i64 (asI (T.cell (nth r2 1) 1)), .b (asB (T.cell (nth r2 1) 2))]]).bind fun r3 =>
   (Cc lf (d + 3) 60 [.st [.sl x, .i .i64 (asI (T.cell (nth r3 1) 1)), .b (asB (T.cell (nth r3 1) 2))]]).bind fun r4 =>
   bif nLe (asS (nth r4 0)).size LIM then
   (Cc lf (d + 3) 61 [.st [.sl x, .i .i64 (asI (T.cell (nth r4 1) 1)), .b (asB (T.cell (nth r4 1) 2))]]).bind fun r5 =>
   bif !(asB (nth r5 0)) then
    some [T.st [T.i .i64 0, T.i .i64 0, T.sl []], T.b false]
   else
    (Cc lf (d + 3) 62 [.st [.i .i64 (asI (nth r2 0)), .i .i64 (asI (nth r3 0)), .sl (listOf (asS (nth r4 0)))]]).bind fun r6 =>
    bif !(asB (nth r6 0)) then
     some [T.st [T.i .i64 0, T.i .i64 0, T.sl []], T.b false]
    else
     some [T.st [T.i .i64 (asI (nth r2 0)), T.i .i64 (asI (nth r3 0)), T.sl (listOf (asS (nth r4 0)))], T.b true]
   else none) = some (getRecR (bif (recHead x s).2 == some x.length && recB (recHead x s).1.1 (recHead x s).1.2.1 (listOf (recHead x s).1.2.2) then some ((recHead x s).1.1, (recHead x s).1.2.1, listOf (recHead x s).1.2.2) else none)) := by
  intro x s ok hx hxl R0
  obtain ⟨p1, ok1, e1, R1⟩ := c_iNum (d := d + 1) hlf hx (by omega) R0
  obtain ⟨p2, ok2, e2, R2⟩ := c_iNum (d := d + 1) hlf hx (by omega) R1
  obtain ⟨p3, ok3, e3, R3⟩ := c_iText (d := d) hlf hx (by omega) R2
  obtain ⟨t, e4⟩ := c_iDone (lf := lf) (d := d + 2) R3
  have hd := rdS_len hx (rd x (rd x s).2).2
  rw [e1]
  simp only [Option.bind_some, nth0, nthS, asI_i, asB_b, cell0, cellS]
  rw [e2]
  simp only [Option.bind_some, nth0, nthS, asI_i, asB_b, cell0, cellS]
  rw [e3]
  simp only [Option.bind_some, nth0, nthS, asI_i, asB_b, asS_s, cell0, cellS]
  rw [nLe_t (show (rdS x (rd x (rd x s).2).2).1.size ≤ LIM by unfold LIM; omega), cond_t, e4]
  simp only [Option.bind_some, nth0, asB_b]
  rw [c_iRecOk]
  simp only [Option.bind_some, nth0, asB_b]
  unfold recHead
  simp only
  cases (rdS x (rd x (rd x s).2).2).2 == some x.length with
  | false => rfl
  | true => cases recB (rd x s).1 (rd x (rd x s).2).1 (listOf (rdS x (rd x (rd x s).2).2).1) <;> rfl
 unfold getRecB
 by_cases h : b.length < 4
 ·rw [if_pos h, if_pos h]
  simp only [Option.bind_some, nth0, nthS, asL_l, asB_b]
  exact go [] none false byt_nil (Nat.zero_le _) ⟨rfl, fun q hq => by cases hq⟩
 ·rw [if_neg h, if_neg h]
  cases sealB b with
  | false =>
   simp only [cond_f, Option.bind_some, nth0, nthS, asL_l, asB_b]
   exact go [] none false byt_nil (Nat.zero_le _) ⟨rfl, fun q hq => by cases hq⟩
  | true =>
   simp only [cond_t, Option.bind_some, nth0, nthS, asL_l, asB_b]
   have hlen : (b.take (b.length - 4)).length = b.length - 4 := by rw [List.length_take]; omega
   have := go (b.take (b.length - 4)) (some 0) true (byt_take hb _) (by omega) ⟨rfl, fun q hq => by cases hq; exact ⟨rfl, Nat.zero_le _⟩⟩
   rw [hlen] at this
   exact this
theorem c_sGetRec {lf d : Nat} (hlf : 33554432 ≤ lf) {b : List T} (hb : byt b) (hl : b.length ≤ 16777216) : Cc lf (d + 4) 26 [.sl b] = some (getRecR (getRecB b)) := by
 refine (f26_eq (Cc lf (d + 3)) lf b).trans ?_
 unfold f26 f26_t
 dsimp only
 rw [wrap_in (by omega) (by omega)]
 unfold getRecB
 by_cases h : b.length < 4
 ·rw [iLt_t (by omega), if_pos h]; rfl
 ·rw [iLt_f (by omega), if_neg h, cond_f]
  obtain ⟨n, hn⟩ : ∃ n, n = b.length - 4 := ⟨_, rfl⟩
  have hlb : b.length = n + 4 := by omega
  have hB : ∀ j, 0 ≤ asI (b.getD j .u) ∧ asI (b.getD j .u) < 256 := byte_lt hb
  have S : ∀ (m k : Nat) (x : Int), k < b.length → 0 ≤ x → x < 16777216 → f26_0 (Cc lf (d + 3)) lf b (m + 1) x k = f26_0 (Cc lf (d + 3)) lf b m (x * 256 + asI (b.getD k .u)) ((k + 1 : Nat) : Int) := fun m k x hk h0 h1 => by
   have hv := hB k
   rw [f26_0_u]
   unfold f26_0_s
   rw [iLt_t (by omega), inR_nat hk, Int.toNat_natCast, wrap_in (x := asI (b.getD k .u)) (by omega) (by omega), show (8 : Int) = ((8 : Nat) : Int) from rfl, shl_mul (by omega) h0 (by omega)]
   have hor : intBits .or .i64 (x * ((2 ^ 8 : Nat) : Int)) (asI (b.getD k .u)) = x * 256 + asI (b.getD k .u) := by
    have := or_add (a := asI (b.getD k .u)) (b := x) (k := 8) (by omega) (by omega) h0 (by omega) (by omega)
    have hcomm : intBits .or .i64 (x * ((2 ^ 8 : Nat) : Int)) (asI (b.getD k .u)) = intBits .or .i64 (asI (b.getD k .u)) (x * ((2 ^ 8 : Nat) : Int)) := by
     show IntKind.wrap .i64 (((BitVec.ofInt 64 _ ||| BitVec.ofInt 64 _).toNat : Nat) : Int) = IntKind.wrap .i64 (((BitVec.ofInt 64 _ ||| BitVec.ofInt 64 _).toNat : Nat) : Int)
     rw [BitVec.or_comm]
    rw [hcomm, this]
    omega
   rw [hor, wrap_in (x := (k : Int) + 1) (by omega) (by omega)]
   rfl
  have L : f26_0 (Cc lf (d + 3)) lf b lf 0 (n : Int) = some [T.i .i64 0, T.sl b, T.i .i64 (n : Int), T.i .i64 (be4 b n), T.i .i64 0, T.i .i64 0, T.sl ([] : List T)] := by
   obtain ⟨m, rfl⟩ : ∃ m, lf = m + 5 := ⟨lf - 5, by omega⟩
   have v0 := hB n
   have v1 := hB (n + 1)
   have v2 := hB (n + 2)
   have v3 := hB (n + 3)
   have v2' := hB (n + 1 + 1)
   have v3' := hB (n + 1 + 1 + 1)
   rw [S _ n 0 (by omega) (by omega) (by omega), S _ (n + 1) _ (by omega) (by omega) (by omega), S _ (n + 1 + 1) _ (by omega) (by omega) (by omega), S _ (n + 1 + 1 + 1) _ (by omega) (by omega) (by omega), f26_0_u]
   unfold f26_0_s
   rw [iLt_f (by omega), wrap_in (x := (b.length : Int) - 4) (by omega) (by omega)]
   unfold be4
   rw [cond_f, show (b.length : Int) - 4 = (n : Int) by omega, Int.zero_mul, Int.zero_add]
  rw [show (b.length : Int) - 4 = (n : Int) by omega, L]
  simp only [Option.bind_some, nth0, nthS, asI_i, asL_l, Int.toNat_natCast]
  rw [iLe_t (by omega), iLe_t (by omega), Bool.and_self, cond_t]
  have hx := byt_take hb n
  have hlen : (b.take n).length = n := by rw [List.length_take]; omega
  have hbe : sealB b = (be4 b n == ((crcN (b.take n) : Nat) : Int)) := by unfold sealB; rw [← hn]
  obtain ⟨p1, ok1, e1, R1⟩ := c_sNum (d := d + 1) (s := some 0) (p := 0) (bad := false) hlf hx (by omega) ⟨rfl, (fun q hq => by cases hq; rfl), 0, rfl, Nat.zero_le _⟩
  obtain ⟨p2, ok2, e2, R2⟩ := c_sNum (d := d + 1) hlf hx (by omega) R1
  obtain ⟨p3, ok3, e3, R3⟩ := c_sText (d := d) hlf hx (by omega) R2
  have hd := rdS_len hx (rd (b.take n) (rd (b.take n) (some 0)).2).2
  rw [e1]
  simp only [Option.bind_some, nth0, nthS, asI_i, asB_b, cell0, cellS]
  rw [e2]
  simp only [Option.bind_some, nth0, nthS, asI_i, asB_b, cell0, cellS]
  rw [e3]
  simp only [Option.bind_some, nth0, nthS, asI_i, asB_b, asS_s, cell0, cellS]
  rw [nLe_t (show (rdS (b.take n) (rd (b.take n) (rd (b.take n) (some 0)).2).2).1.size ≤ LIM by unfold LIM; omega), cond_t]
  have fin := RS_fin R3 (α := Option (List T))
  rw [hlen] at fin
  rw [fin, c_sCrc hlf hx (by omega)]
  simp only [Option.bind_some, nth0, asI_i]
  rw [c_sRecOk]
  simp only [Option.bind_some, nth0, asB_b]
  rw [hbe, ← hn]
  unfold recHead
  simp only
  cases (rdS (b.take n) (rd (b.take n) (rd (b.take n) (some 0)).2).2).2 == some n with
  | false => rw [Bool.false_and, Bool.and_false]; rfl
  | true =>
   simp only [bne]
   cases be4 b n == ((crcN (b.take n) : Nat) : Int) with
   | false => rfl
   | true =>
    cases recB (rd (b.take n) (some 0)).1 (rd (b.take n) (rd (b.take n) (some 0)).2).1 (listOf (rdS (b.take n) (rd (b.take n) (rd (b.take n) (some 0)).2).2).1) <;> rfl
theorem cellL_le {l : List T} {j : Nat} (k : Nat) : (asL (T.cell (l.getD j T.u) k)).length + tls (asL (T.cell (l.getD j T.u) k)) ≤ tls l := by
 by_cases h : j < l.length
 ·have h1 := tl_mem (List.getElem_mem h)
  rw [List.getD_eq_getElem?_getD, List.getElem?_eq_getElem h]
  show (asL (T.cell l[j] k)).length + tls (asL (T.cell l[j] k)) ≤ _
  cases e : l[j] <;> try (simp only [T.cell, asL, tls]; exact Nat.zero_le _)
  rename_i xs
  rw [e] at h1
  simp only [T.cell, tl] at h1 ⊢
  cases e2 : xs[k]? with
  | none => rw [List.getD_eq_getElem?_getD, e2]; exact Nat.zero_le _
  | some x =>
   rw [List.getD_eq_getElem?_getD, e2]
   have h3 := tl_mem (List.mem_of_getElem? e2)
   show (asL x).length + tls (asL x) ≤ _
   cases x <;> try (exact Nat.zero_le _)
   simp only [tl, asL] at h3 ⊢
   omega
 ·rw [List.getD_eq_getElem?_getD, List.getElem?_eq_none (by omega)]
  exact Nat.zero_le _
theorem c_isBlock {lf d : Nat} (l : List T) (n : Int) (hs : l.length ≤ 16777216) : Cc lf (d + 2) 55 [.st [.sl l], .i .i64 n] = some [.b (iLe 0 n && iLt n (l.length : Int))] := by
 refine (f55_eq (Cc lf (d + 1)) lf l n).trans ?_
 unfold f55 f55_t
 rw [wrap_in (by omega) (by omega), c_from]
 have : iLe n ((l.length : Int) - 1) = iLt n (l.length : Int) := by
  by_cases h : n < (l.length : Int)
  ·rw [iLt_t h, iLe_t (by omega)]
  ·rw [iLt_f h, iLe_f (by omega)]
 rw [this]
 rfl
theorem wf64_in {n : Int} (h : (Lit.int .i64 n).wf = true) : -9223372036854775808 ≤ n ∧ n ≤ 9223372036854775807 := by
 have h1 : (decide (-9223372036854775808 ≤ n) && decide (n ≤ 9223372036854775807)) = true := h
 rw [Bool.and_eq_true] at h1
 exact ⟨of_decide_eq_true h1.1, of_decide_eq_true h1.2⟩
def pgs (l : List T) (n1 : Int) : List T := asL (T.cell (l.getD n1.toNat T.u) 0)
def pgb (l : List T) (n1 n2 : Int) : List T := asL (T.cell ((pgs l n1).getD n2.toNat T.u) 1)
def pgB (l : List T) (n1 n2 : Int) : Bool := (iLe 0 n1 && iLt n1 (l.length : Int)) && ((iLe 0 n2 && iLt n2 ((pgs l n1).length : Int)) && asB (T.cell ((pgs l n1).getD n2.toNat T.u) 0))
def pgR (l : List T) (n1 n2 : Int) : List T := bif pgB l n1 n2 then pgb l n1 n2 else []
theorem pgb_len (l : List T) (n1 n2 : Int) : (pgb l n1 n2).length ≤ tls l := by
 have h1 := cellL_le (l := l) (j := n1.toNat) 0
 have h2 := cellL_le (l := pgs l n1) (j := n2.toNat) 1
 unfold pgb
 have : (pgs l n1).length + tls (pgs l n1) ≤ tls l := h1
 omega
theorem inR_le {n : Int} {k : Nat} (h0 : 0 ≤ n) (h1 : n < k) : inR n k = true := by
 obtain ⟨m, rfl⟩ := Int.eq_ofNat_of_zero_le h0
 exact inR_nat (by omega)
theorem c_sReadPage {lf d : Nat} (l : List T) (n1 n2 : Int) (hs : l.length + tls l ≤ 16777216) : Cc lf (d + 1) 25 [.st [.sl l], .i .i64 n1, .i .i64 n2] = some [.sl (pgR l n1 n2), .b (pgB l n1 n2)] := by
 refine (f25_eq (Cc lf d) lf l n1 n2).trans ?_
 unfold f25 f25_t pgR pgB
 have hp := pgb_len l n1 n2
 unfold pgb at hp ⊢
 unfold pgs at hp ⊢
 by_cases h1 : n1 < 0
 ·rw [iLt_t h1, iLe_f (show ¬ 0 ≤ n1 by omega)]; rfl
 rw [iLt_f h1, iLe_t (show 0 ≤ n1 by omega)]
 by_cases h2 : (l.length : Int) ≤ n1
 ·rw [iLe_t h2, iLt_f (show ¬ n1 < (l.length : Int) by omega)]; rfl
 rw [iLe_f (show ¬ (l.length : Int) ≤ n1 by omega), iLt_t (show n1 < (l.length : Int) by omega)]
 by_cases h3 : n2 < 0
 ·rw [iLt_t h3, iLe_f (show ¬ 0 ≤ n2 by omega)]; rfl
 rw [iLt_f h3, iLe_t (show 0 ≤ n2 by omega), inR_le (by omega) (by omega)]
 simp only [cond_f, cond_t]
 by_cases h4 : ((asL (T.cell (l.getD n1.toNat T.u) 0)).length : Int) ≤ n2
 ·rw [iLe_t h4, iLt_f (by omega)]; rfl
 rw [iLe_f h4, iLt_t (by omega), inR_le (by omega) (by omega), nLe_t (by unfold LIM; simp only [List.length_nil]; omega)]
 cases asB (T.cell ((asL (T.cell (l.getD n1.toNat T.u) 0)).getD n2.toNat T.u) 0) <;> rfl
theorem c_iReadPage {lf d : Nat} (l : List T) (n1 n2 : Int) (hs : l.length + tls l ≤ 16777216) : Cc lf (d + 3) 43 [.st [.sl l], .i .i64 n1, .i .i64 n2] = some [.sl (pgR l n1 n2), .b (pgB l n1 n2)] := by
 refine (f43_eq (Cc lf (d + 2)) lf l n1 n2).trans ?_
 unfold f43 f43_t pgR pgB
 have hp := pgb_len l n1 n2
 have hq := cellL_le (l := l) (j := n1.toNat) 0
 unfold pgb at hp ⊢
 unfold pgs at hp ⊢
 rw [c_isBlock l n1 (by omega)]
 simp only [Option.bind_some, nth0, asB_b]
 by_cases h1 : n1 < 0
 ·rw [iLe_f (show ¬ 0 ≤ n1 by omega)]; rfl
 rw [iLe_t (show 0 ≤ n1 by omega)]
 by_cases h2 : (l.length : Int) ≤ n1
 ·rw [iLt_f (by omega)]; rfl
 rw [iLt_t (by omega), inR_le (by omega) (by omega), wrap_in (by omega) (by omega), c_from]
 simp only [cond_f, cond_t, Bool.and_self, Bool.not_true, Option.bind_some, nth0, asB_b]
 by_cases h3 : n2 < 0
 ·rw [iLe_f (show ¬ 0 ≤ n2 by omega)]; rfl
 rw [iLe_t (show 0 ≤ n2 by omega)]
 by_cases h4 : ((asL (T.cell (l.getD n1.toNat T.u) 0)).length : Int) ≤ n2
 ·rw [iLe_f (by omega), iLt_f (by omega)]; rfl
 rw [iLe_t (by omega), iLt_t (by omega), inR_le (by omega) (by omega)]
 cases asB (T.cell ((asL (T.cell (l.getD n1.toNat T.u) 0)).getD n2.toNat T.u) 0) with
 | false => rfl
 | true =>
  rw [c_clone (by omega)]
  rfl
def recA (l : List T) (a : Int) : Option (Int × Int × List T) := bif !iLt a 0 then getRecB (pgR l (a.tdiv 8) (a.tmod 8)) else none
def pgsByt (l : List T) : Prop := ∀ n1 n2, byt (pgb l n1 n2)
theorem pgR_byt {l : List T} (h : pgsByt l) (n1 n2 : Int) : byt (pgR l n1 n2) := by
 unfold pgR
 cases pgB l n1 n2
 ·exact byt_nil
 ·exact h n1 n2
theorem pgR_len (l : List T) (n1 n2 : Int) : (pgR l n1 n2).length ≤ tls l := by
 unfold pgR
 cases pgB l n1 n2
 ·exact Nat.zero_le _
 ·exact pgb_len l n1 n2
theorem pgR_no {l : List T} {n1 n2 : Int} (h : pgB l n1 n2 = false) : getRecB (pgR l n1 n2) = none := by
 unfold pgR
 rw [h]
 rfl
theorem wrap_div {a : Int} (h : (Lit.int .i64 a).wf = true) (h0 : 0 ≤ a) : IntKind.wrap .i64 (a.tdiv 8) = a.tdiv 8 := by
 have h2 : a ≤ 9223372036854775807 := (wf64_in h).2
 have : 0 ≤ a.tdiv 8 := Int.tdiv_nonneg h0 (by omega)
 have : a.tdiv 8 ≤ a := Int.tdiv_le_self _ h0
 exact wrap_in (by omega) (by omega)
theorem c_recAt {lf d : Nat} (hlf : 33554432 ≤ lf) (l : List T) (ops : Int) (fs : List T) (dn : Bool) (sq a : Int) (ha : (Lit.int .i64 a).wf = true) (hb : pgsByt l) (hs : l.length + tls l ≤ 16777216) : Cc lf (d + 5) 29 [.st [.sl l, .i .i64 ops, .sl fs, .b dn, .i .i64 sq], .i .i64 a] = some (getRecR (recA l a)) := by
 refine (f29_eq (Cc lf (d + 4)) lf l ops fs dn sq a).trans ?_
 unfold f29 f29_t recA
 by_cases h : a < 0
 ·rw [iLt_t h]; rfl
 rw [iLt_f h, wrap_div ha (by omega), c_iReadPage (d := d + 1) l _ _ hs]
 simp only [cond_f, cond_t, Bool.not_false, Option.bind_some, nth0, nthS, asL_l, asB_b]
 have hL := pgR_len l (a.tdiv 8) (a.tmod 8)
 cases h2 : pgB l (a.tdiv 8) (a.tmod 8) with
 | false => rw [pgR_no h2]; rfl
 | true =>
  rw [c_iGetRec hlf (pgR_byt hb _ _) (by omega)]
  cases getRecB (pgR l (a.tdiv 8) (a.tmod 8)) <;> rfl
def readAtR (l : List T) (a k : Int) : List T := match recA l a with
 | none => [recT none, .b false]
 | some r => bif r.1 == k then [recT (some r), .b true] else [recT none, .b false]
theorem c_sReadAt {lf d : Nat} (hlf : 33554432 ≤ lf) (l : List T) (ops : Int) (fs : List T) (dn : Bool) (sq a k : Int) (ha : (Lit.int .i64 a).wf = true) (hb : pgsByt l) (hs : l.length + tls l ≤ 16777216) : Cc lf (d + 5) 14 [.st [.sl l, .i .i64 ops, .sl fs, .b dn, .i .i64 sq], .i .i64 a, .i .i64 k] = some (readAtR l a k) := by
 refine (f14_eq (Cc lf (d + 4)) lf l ops fs dn sq a k).trans ?_
 unfold f14 f14_t readAtR recA
 by_cases h : a < 0
 ·rw [iLt_t h]; rfl
 have hL := pgR_len l (a.tdiv 8) (a.tmod 8)
 rw [iLt_f h, wrap_div ha (by omega), c_sReadPage (d := d + 3) l _ _ hs]
 simp only [cond_f, cond_t, Bool.not_false, Option.bind_some, nth0, nthS, asL_l, asB_b]
 rw [c_sGetRec hlf (pgR_byt hb _ _) (by omega)]
 cases h2 : pgB l (a.tdiv 8) (a.tmod 8) with
 | false => rw [pgR_no h2]; rfl
 | true =>
  cases getRecB (pgR l (a.tdiv 8) (a.tmod 8)) with
  | none => rfl
  | some r =>
   show (bif (r.1 != k) then _ else _) = some (bif r.1 == k then _ else _)
   unfold bne
   cases r.1 == k <;> rfl
theorem cell_fit {cs : List CT} {l : List T} {j k : Nat} {c : CT} (h : fitC (.sl true cs) (.sl l)) (hj : j < l.length) (hk : cs[k]? = some c) : fitC c (T.cell (l.getD j .u) k) := by
 have h1 := fitL_all.1 h.2 l[j] (List.getElem_mem hj)
 rw [List.getD_eq_getElem?_getD, List.getElem?_eq_getElem hj]
 obtain ⟨xs, hx, h2⟩ := fitE_st h1
 show fitC c (T.cell l[j] k)
 rw [hx]
 have h3 := fitCs_get.1 h2
 have hk2 : k < cs.length := by
  rcases Nat.lt_or_ge k cs.length with h | h
  ·exact h
  ·rw [List.getElem?_eq_none h] at hk; cases hk
 have hx2 : xs[k]? = some (xs[k]'(by omega)) := List.getElem?_eq_getElem _
 have := h3.2 k c _ hk hx2
 simp only [T.cell]
 rw [List.getD_eq_getElem?_getD, hx2]
 exact this
theorem pgsByt_of {cs : List CT} {l : List T} (h : fitC (.sl true (.sl true [.b, .sl false [.i .u8]] :: cs)) (.sl l)) : pgsByt l := by
 intro n1 n2
 unfold pgb pgs
 by_cases h1 : n1.toNat < l.length
 ·obtain ⟨ps, e, q⟩ := fitC_sl (cell_fit (k := 0) h h1 rfl)
  rw [e]
  by_cases h2 : n2.toNat < ps.length
  ·obtain ⟨bs, e2, q2⟩ := fitC_sl (cell_fit (k := 1) q h2 rfl)
   show byt (asL (T.cell (ps.getD n2.toNat T.u) 1))
   rw [e2]
   exact byt_of q2
  ·show byt (asL (T.cell (ps.getD n2.toNat T.u) 1))
   rw [List.getD_eq_getElem?_getD, List.getElem?_eq_none (show ps.length ≤ n2.toNat by omega)]
   exact byt_nil
 ·have e : l.getD n1.toNat T.u = T.u := by
   rw [List.getD_eq_getElem?_getD, List.getElem?_eq_none (show l.length ≤ n1.toNat by omega)]
   rfl
  rw [e]
  exact byt_nil
abbrev Pr := Int × Int
def rt (p : Pr) : T := .st [.i .i64 p.1, .i .i64 p.2]
theorem rt_eta (p : Pr) : T.st [.i .i64 (asI (T.cell (rt p) 0)), .i .i64 (asI (T.cell (rt p) 1))] = rt p := rfl
def rows (N : Nat) (g : Nat → Pr) : List T := (List.range N).map fun i => rt (g i)
theorem rows_len (N : Nat) (g : Nat → Pr) : (rows N g).length = N := by simp [rows]
theorem rows_get {N i : Nat} {g : Nat → Pr} (h : i < N) : (rows N g).getD i T.u = rt (g i) := by
 simp [rows, List.getD_eq_getElem?_getD, h]
theorem rows_set {N i : Nat} {g : Nat → Pr} {x : Pr} : (rows N g).set i (rt x) = rows N (fun k => if k = i then x else g k) := by
 apply List.ext_getElem?
 intro k
 rw [List.getElem?_set]
 by_cases e : i = k
 ·subst e
  by_cases hi : i < N
  ·simp [rows, hi]
  ·simp [rows, hi]
 ·rw [if_neg e]
  by_cases hi : k < N
  ·simp [rows, hi, Ne.symm e]
  ·simp [rows, hi]
def swp (i j : Nat) (f : Nat → Pr) : Nat → Pr := fun k => if k = i then f j else if k = j then f i else f k
theorem rows_swp {N i j : Nat} {g : Nat → Pr} (hij : i ≠ j) : ((rows N g).set i (rt (g j))).set j (rt (g i)) = rows N (swp i j g) := by
 rw [rows_set, rows_set]
 congr 1
 funext k
 unfold swp
 by_cases h1 : k = i
 ·subst h1; simp [hij]
 ·by_cases h2 : k = j
  ·subst h2; simp [h1]
  ·simp [h1, h2]
def ltP (x y : Pr) : Prop := y.2 < x.2 ∨ (x.2 = y.2 ∧ x.1 < y.1)
theorem ltP.trans {x y z : Pr} (h : ltP x y) (h' : ltP y z) : ltP x z := by unfold ltP at *; omega
theorem ltP.irr {x : Pr} (h : ltP x x) : False := by unfold ltP at h; omega
theorem lt_of_less {x y : Pr} (h : y.2 < x.2) : ltP x y := .inl h
theorem lt_of_not {x y : Pr} (ha : x.1 < y.1) (h : ¬ x.2 < y.2) : ltP x y := by unfold ltP; omega
def Srt (a b : Nat) (f : Nat → Pr) : Prop := ∀ i j, a ≤ i → i < j → j < b → ltP (f i) (f j)
def Inc (a b : Nat) (f : Nat → Pr) : Prop := ∀ i j, a ≤ i → i < j → j < b → (f i).1 < (f j).1
def Mem (a b : Nat) (f g : Nat → Pr) : Prop := (∀ k, a ≤ k → k < b → ∃ j, a ≤ j ∧ j < b ∧ g k = f j) ∧ ∀ k, a ≤ k → k < b → ∃ j, a ≤ j ∧ j < b ∧ f k = g j
def Outs (a b : Nat) (f g : Nat → Pr) : Prop := ∀ k, ¬ (a ≤ k ∧ k < b) → g k = f k
theorem Mem.refl (a b : Nat) (f : Nat → Pr) : Mem a b f f := ⟨fun k h1 h2 => ⟨k, h1, h2, rfl⟩, fun k h1 h2 => ⟨k, h1, h2, rfl⟩⟩
theorem Mem.trans {a b : Nat} {f g h : Nat → Pr} (H : Mem a b f g) (H' : Mem a b g h) : Mem a b f h :=
 ⟨fun k h1 h2 => by obtain ⟨j, g1, g2, e⟩ := H'.1 k h1 h2; obtain ⟨i, k1, k2, e'⟩ := H.1 j g1 g2; exact ⟨i, k1, k2, e.trans e'⟩,
  fun k h1 h2 => by obtain ⟨j, g1, g2, e⟩ := H.2 k h1 h2; obtain ⟨i, k1, k2, e'⟩ := H'.2 j g1 g2; exact ⟨i, k1, k2, e.trans e'⟩⟩
theorem Outs.refl (a b : Nat) (f : Nat → Pr) : Outs a b f f := fun _ _ => rfl
theorem Outs.trans {a b : Nat} {f g h : Nat → Pr} (H : Outs a b f g) (H' : Outs a b g h) : Outs a b f h := fun k hk => (H' k hk).trans (H k hk)
theorem Outs.mono {a b a' b' : Nat} {f g : Nat → Pr} (H : Outs a b f g) (h1 : a' ≤ a) (h2 : b ≤ b') : Outs a' b' f g := fun k hk => H k (by omega)
theorem Mem.mono {a b a' b' : Nat} {f g : Nat → Pr} (H : Mem a b f g) (O : Outs a b f g) (h1 : a' ≤ a) (h2 : b ≤ b') : Mem a' b' f g := by
 refine ⟨fun k hk hk' => ?_, fun k hk hk' => ?_⟩
 ·by_cases h : a ≤ k ∧ k < b
  ·obtain ⟨j, g1, g2, e⟩ := H.1 k h.1 h.2; exact ⟨j, by omega, by omega, e⟩
  ·exact ⟨k, hk, hk', O k h⟩
 ·by_cases h : a ≤ k ∧ k < b
  ·obtain ⟨j, g1, g2, e⟩ := H.2 k h.1 h.2; exact ⟨j, by omega, by omega, e⟩
  ·exact ⟨k, hk, hk', (O k h).symm⟩
theorem swp_mem {a b i j : Nat} {f : Nat → Pr} (hi : a ≤ i ∧ i < b) (hj : a ≤ j ∧ j < b) : Mem a b f (swp i j f) := by
 refine ⟨fun k h1 h2 => ?_, fun k h1 h2 => ?_⟩ <;> unfold swp
 ·by_cases e : k = i
  ·exact ⟨j, hj.1, hj.2, by rw [if_pos e]⟩
  ·by_cases e' : k = j
   ·exact ⟨i, hi.1, hi.2, by rw [if_neg e, if_pos e']⟩
   ·exact ⟨k, h1, h2, by rw [if_neg e, if_neg e']⟩
 ·by_cases e : k = i
  ·by_cases e' : j = i
   ·exact ⟨i, hi.1, hi.2, by rw [if_pos rfl, e', e]⟩
   ·exact ⟨j, hj.1, hj.2, by rw [if_neg e', if_pos rfl, e]⟩
  ·by_cases e' : k = j
   ·exact ⟨i, hi.1, hi.2, by rw [if_pos rfl, e']⟩
   ·exact ⟨k, h1, h2, by rw [if_neg e, if_neg e']⟩
theorem swp_outs {a b i j : Nat} {f : Nat → Pr} (hi : a ≤ i ∧ i < b) (hj : a ≤ j ∧ j < b) : Outs a b f (swp i j f) := fun k hk => by
 unfold swp
 rw [if_neg (by omega), if_neg (by omega)]
def swF (a b n : Nat) (f : Nat → Pr) : Nat → Pr := fun k => if a ≤ k ∧ k < a + n then f (k - a + b) else if b ≤ k ∧ k < b + n then f (k - b + a) else f k
theorem swF_zero (a b : Nat) (f : Nat → Pr) : swF a b 0 f = f := by
 funext k; unfold swF; rw [if_neg (by omega), if_neg (by omega)]
theorem swF_succ {a b n : Nat} {f : Nat → Pr} (h : a + n < b) : swp (a + n) (b + n) (swF a b n f) = swF a b (n + 1) f := by
 funext k
 unfold swp swF
 by_cases h1 : k = a + n
 ·subst h1
  rw [if_pos rfl, if_neg (by omega), if_neg (by omega), if_pos (by omega)]
  congr 1; omega
 ·rw [if_neg h1]
  by_cases h2 : k = b + n
  ·subst h2
   rw [if_pos rfl, if_neg (by omega), if_neg (by omega), if_neg (by omega), if_pos (by omega)]
   congr 1; omega
  ·rw [if_neg h2]
   by_cases h3 : a ≤ k ∧ k < a + n
   ·rw [if_pos h3, if_pos (by omega)]
   ·rw [if_neg h3]
    by_cases h4 : b ≤ k ∧ k < b + n
    ·rw [if_pos h4, if_neg (by omega), if_pos (by omega)]
    ·rw [if_neg h4, if_neg (by omega), if_neg (by omega)]
def rotF (a m b : Nat) (f : Nat → Pr) : Nat → Pr := fun k => if a ≤ k ∧ k < a + (b - m) then f (k + (m - a)) else if a + (b - m) ≤ k ∧ k < b then f (k - (b - m)) else f k
theorem rotF_left {m b : Nat} {f : Nat → Pr} : rotF m m b f = f := by
 funext k; unfold rotF
 by_cases h : m ≤ k ∧ k < m + (b - m)
 ·rw [if_pos h]; congr 1; omega
 ·rw [if_neg h, if_neg (by omega)]
theorem rotF_right {a m : Nat} {f : Nat → Pr} : rotF a m m f = f := by
 funext k; unfold rotF
 rw [if_neg (by omega)]
 by_cases h : a + (m - m) ≤ k ∧ k < m
 ·rw [if_pos h]; congr 1; omega
 ·rw [if_neg h]
theorem rotF_eq {m i : Nat} {f : Nat → Pr} (h : i ≤ m) : swF (m - i) m i f = rotF (m - i) m (m + i) f := by
 funext k; unfold swF rotF
 by_cases h1 : m - i ≤ k ∧ k < m - i + i
 ·rw [if_pos h1, if_pos (by omega)]; congr 1; omega
 ·rw [if_neg h1]
  by_cases h2 : m ≤ k ∧ k < m + i
  ·rw [if_pos h2, if_neg (by omega), if_pos (by omega)]; congr 1; omega
  ·rw [if_neg h2, if_neg (by omega), if_neg (by omega)]
theorem rotF_gt {m i j : Nat} {f : Nat → Pr} (h : i ≤ m) (hij : j < i) : rotF (m - (i - j)) m (m + j) (swF (m - i) m j f) = rotF (m - i) m (m + j) f := by
 funext k; unfold rotF
 by_cases h1 : m - (i - j) ≤ k ∧ k < m - (i - j) + (m + j - m)
 ·rw [if_pos h1, if_neg (by omega), if_pos (by omega)]
  unfold swF
  rw [if_neg (by omega), if_pos (by omega)]
  congr 1; omega
 ·rw [if_neg h1]
  by_cases h2 : m - (i - j) + (m + j - m) ≤ k ∧ k < m + j
  ·rw [if_pos h2, if_neg (by omega), if_pos (by omega)]
   unfold swF
   rw [if_neg (by omega), if_neg (by omega)]
  ·rw [if_neg h2]
   unfold swF
   by_cases h3 : m - i ≤ k ∧ k < m - i + j
   ·rw [if_pos h3, if_pos (by omega)]; congr 1; omega
   ·rw [if_neg h3, if_neg (by omega), if_neg (by omega), if_neg (by omega)]
theorem rotF_lt {m i j : Nat} {f : Nat → Pr} (h : i ≤ m) (hij : i < j) : rotF (m - i) m (m + (j - i)) (swF (m - i) (m + j - i) i f) = rotF (m - i) m (m + j) f := by
 funext k; unfold rotF
 by_cases h1 : m - i ≤ k ∧ k < m - i + (m + (j - i) - m)
 ·rw [if_pos h1, if_pos (by omega)]
  unfold swF
  rw [if_neg (by omega), if_neg (by omega)]
 ·rw [if_neg h1]
  by_cases h2 : m - i + (m + (j - i) - m) ≤ k ∧ k < m + (j - i)
  ·rw [if_pos h2, if_pos (by omega)]
   unfold swF
   rw [if_pos (by omega)]
   congr 1; omega
  ·rw [if_neg h2]
   unfold swF
   by_cases h3 : m + j - i ≤ k ∧ k < m + j - i + i
   ·rw [if_neg (by omega), if_pos h3, if_neg (by omega), if_pos (by omega)]; congr 1; omega
   ·rw [if_neg (by omega), if_neg h3, if_neg (by omega), if_neg (by omega)]
theorem rot_outs {a m b : Nat} {f : Nat → Pr} (h : a ≤ m ∧ m ≤ b) : Outs a b f (rotF a m b f) := fun k hk => by
 unfold rotF; rw [if_neg (by omega), if_neg (by omega)]
theorem rot_mem {a m b : Nat} {f : Nat → Pr} (h : a ≤ m ∧ m ≤ b) : Mem a b f (rotF a m b f) := by
 refine ⟨fun k h1 h2 => ?_, fun k h1 h2 => ?_⟩ <;> unfold rotF
 ·by_cases e : a ≤ k ∧ k < a + (b - m)
  ·exact ⟨k + (m - a), by omega, by omega, by rw [if_pos e]⟩
  ·exact ⟨k - (b - m), by omega, by omega, by rw [if_neg e, if_pos (by omega)]⟩
 ·by_cases e : k < m
  ·refine ⟨k + (b - m), by omega, by omega, ?_⟩
   rw [if_neg (by omega), if_pos (by omega)]; congr 1; omega
  ·refine ⟨k - (m - a), by omega, by omega, ?_⟩
   rw [if_pos (by omega)]; congr 1; omega
theorem rot_1 {a m b k : Nat} {f : Nat → Pr} (h : a ≤ k ∧ k < a + (b - m)) : rotF a m b f k = f (k + (m - a)) := by unfold rotF; rw [if_pos h]
theorem rot_2 {a m b k : Nat} {f : Nat → Pr} (h : a + (b - m) ≤ k ∧ k < b) : rotF a m b f k = f (k - (b - m)) := by unfold rotF; rw [if_neg (by omega), if_pos h]
theorem rot_3 {a m b k : Nat} {f : Nat → Pr} (h : k < a ∨ b ≤ k) (hm : a ≤ m ∧ m ≤ b) : rotF a m b f k = f k := rot_outs hm k (by omega)
theorem rot_split {a s m e b : Nat} {f : Nat → Pr} (h1 : a ≤ s) (h2 : s ≤ m) (h3 : m ≤ e) (h4 : e ≤ b) (L : Srt a m f) (R : Srt m b f)
 (X : ∀ c d, a ≤ c → c < s → e ≤ d → d < b → ltP (f c) (f d)) (Y : ∀ d c, m ≤ d → d < e → s ≤ c → c < m → ltP (f d) (f c)) :
 (∀ i j, a ≤ i → i < s + (e - m) → s + (e - m) ≤ j → j < b → ltP (rotF s m e f i) (rotF s m e f j)) ∧
 Srt a s (rotF s m e f) ∧ Srt s (s + (e - m)) (rotF s m e f) ∧ Srt (s + (e - m)) e (rotF s m e f) ∧ Srt e b (rotF s m e f) := by
 refine ⟨fun i j hi hi' hj hj' => ?_, fun i j hi hij hj => ?_, fun i j hi hij hj => ?_, fun i j hi hij hj => ?_, fun i j hi hij hj => ?_⟩
 ·by_cases c1 : i < s
  ·rw [rot_3 (.inl c1) ⟨h2, h3⟩]
   by_cases c2 : j < e
   ·rw [rot_2 ⟨hj, c2⟩]; exact L _ _ hi (by omega) (by omega)
   ·rw [rot_3 (.inr (by omega)) ⟨h2, h3⟩]; exact X _ _ hi c1 (by omega) hj'
  ·rw [rot_1 ⟨by omega, hi'⟩]
   by_cases c2 : j < e
   ·rw [rot_2 ⟨hj, c2⟩]; exact Y _ _ (by omega) (by omega) (by omega) (by omega)
   ·rw [rot_3 (.inr (by omega)) ⟨h2, h3⟩]; exact R _ _ (by omega) (by omega) hj'
 ·rw [rot_3 (.inl (by omega)) ⟨h2, h3⟩, rot_3 (.inl (by omega)) ⟨h2, h3⟩]; exact L _ _ hi hij (by omega)
 ·rw [rot_1 ⟨by omega, by omega⟩, rot_1 ⟨by omega, by omega⟩]; exact R _ _ (by omega) (by omega) (by omega)
 ·rw [rot_2 ⟨by omega, by omega⟩, rot_2 ⟨by omega, by omega⟩]; exact L _ _ (by omega) (by omega) (by omega)
 ·rw [rot_3 (.inr (by omega)) ⟨h2, h3⟩, rot_3 (.inr (by omega)) ⟨h2, h3⟩]; exact R _ _ (by omega) hij hj
theorem srt_join {a m b : Nat} {f : Nat → Pr} (L : Srt a m f) (R : Srt m b f) (X : ∀ i j, a ≤ i → i < m → m ≤ j → j < b → ltP (f i) (f j)) : Srt a b f := fun i j hi hij hj => by
 by_cases c1 : j < m
 ·exact L i j hi hij c1
 ·by_cases c2 : i < m
  ·exact X i j hi c2 (by omega) hj
  ·exact R i j (by omega) hij hj
theorem srt_keep {a b : Nat} {f g : Nat → Pr} (L : Srt a b f) (H : ∀ k, a ≤ k → k < b → g k = f k) : Srt a b g := fun i j hi hij hj => by
 rw [H i hi (by omega), H j (by omega) hj]; exact L i j hi hij hj
theorem lt_mem {a m b : Nat} {f g : Nat → Pr} (X : ∀ i j, a ≤ i → i < m → m ≤ j → j < b → ltP (f i) (f j)) (M1 : Mem a m f g) (M2 : Mem m b f g) : ∀ i j, a ≤ i → i < m → m ≤ j → j < b → ltP (g i) (g j) := fun i j h1 h2 h3 h4 => by
 obtain ⟨i', a1, a2, e1⟩ := M1.1 i h1 h2
 obtain ⟨j', b1, b2, e2⟩ := M2.1 j h3 h4
 rw [e1, e2]; exact X _ _ a1 a2 b1 b2
inductive Runs (s N : Nat) (f g : Nat → Pr) : Nat → Prop
 | done (p : Nat) (h : N ≤ p) : Runs s N f g p
 | last (p : Nat) (h : p < N) (h' : N ≤ p + s) (hs : Srt p N g) (hm : Mem p N f g) : Runs s N f g p
 | step (p : Nat) (h : p + s ≤ N) (hs : Srt p (p + s) g) (hm : Mem p (p + s) f g) (t : Runs s N f g (p + s)) : Runs s N f g p
theorem Runs.keep {s N : Nat} {f g g' : Nat → Pr} {p : Nat} (R : Runs s N f g p) (H : ∀ k, p ≤ k → k < N → g' k = g k) : Runs s N f g' p := by
 induction R with
 | done p h => exact .done p h
 | last p h h' hs hm => exact .last p h h' (srt_keep hs H) ⟨fun k h1 h2 => by rw [H k h1 h2]; exact hm.1 k h1 h2, fun k h1 h2 => by obtain ⟨j, a1, a2, e⟩ := hm.2 k h1 h2; exact ⟨j, a1, a2, by rw [H j a1 a2]; exact e⟩⟩
 | step p h hs hm t ih =>
  exact .step p h (srt_keep hs fun k h1 h2 => H k h1 (by omega)) ⟨fun k h1 h2 => by rw [H k h1 (by omega)]; exact hm.1 k h1 h2, fun k h1 h2 => by obtain ⟨j, a1, a2, e⟩ := hm.2 k h1 h2; exact ⟨j, a1, a2, by rw [H j a1 (by omega)]; exact e⟩⟩ (ih fun k h1 h2 => H k (by omega) h2)
theorem mem_join {a m b : Nat} {f g : Nat → Pr} (h1 : a ≤ m) (h2 : m ≤ b) (M1 : Mem a m f g) (M2 : Mem m b f g) : Mem a b f g := by
 refine ⟨fun k hk hk' => ?_, fun k hk hk' => ?_⟩
 ·by_cases c : k < m
  ·obtain ⟨j, a1, a2, e⟩ := M1.1 k hk c; exact ⟨j, a1, by omega, e⟩
  ·obtain ⟨j, a1, a2, e⟩ := M2.1 k (by omega) hk'; exact ⟨j, by omega, a2, e⟩
 ·by_cases c : k < m
  ·obtain ⟨j, a1, a2, e⟩ := M1.2 k hk c; exact ⟨j, a1, by omega, e⟩
  ·obtain ⟨j, a1, a2, e⟩ := M2.2 k (by omega) hk'; exact ⟨j, by omega, a2, e⟩
theorem ord_mem {a m b N : Nat} {f g : Nat → Pr} (I : Inc 0 N f) (hb : b ≤ N) (M1 : Mem a m f g) (M2 : Mem m b f g) : ∀ i j, a ≤ i → i < m → m ≤ j → j < b → (g i).1 < (g j).1 := fun i j h1 h2 h3 h4 => by
 obtain ⟨i', a1, a2, e1⟩ := M1.1 i h1 h2
 obtain ⟨j', b1, b2, e2⟩ := M2.1 j h3 h4
 rw [e1, e2]; exact I _ _ (Nat.zero_le _) (by omega) (by omega)
theorem wrapu_in {x : Int} (h0 : 0 ≤ x) (h1 : x ≤ 9223372036854775807) : IntKind.wrap .u64 x = x := by
 show x % (2 ^ 64 : Int) = x
 omega
theorem shr1_u64 (a : Nat) : shiftI .shr .u64 (a : Int) 1 = ((a / 2 : Nat) : Int) := by
 show (a : Int).fdiv (2 ^ (min (1 : Int).toNat 64)) = _
 rw [show (2 : Int) ^ (min (1 : Int).toNat 64) = 2 from rfl, Int.fdiv_eq_ediv_of_nonneg _ (by omega)]
 omega
theorem mid_eq {i j : Nat} (h : i + j ≤ 1073741824) : IntKind.wrap .i64 (shiftI .shr .u64 (IntKind.wrap .u64 (IntKind.wrap .i64 ((i : Int) + (j : Int)))) 1) = (((i + j) / 2 : Nat) : Int) := by
 rw [wrap_in (x := (i : Int) + (j : Int)) (by omega) (by omega), wrapu_in (by omega) (by omega), show (i : Int) + (j : Int) = ((i + j : Nat) : Int) by omega, shr1_u64, wrap_in (by omega) (by omega)]
theorem wrap_nn {i j : Nat} (h : i + j ≤ 1073741824) : IntKind.wrap .i64 ((i : Int) + (j : Int)) = ((i + j : Nat) : Int) := by
 rw [wrap_in (by omega) (by omega)]; omega
theorem wrap_sub {i j : Nat} (h : i ≤ 1073741824) (h' : j ≤ i) : IntKind.wrap .i64 ((i : Int) - (j : Int)) = ((i - j : Nat) : Int) := by
 rw [wrap_in (by omega) (by omega)]; omega
theorem wrap_s1 {i : Nat} (h : i ≤ 1073741824) : IntKind.wrap .i64 (((i + 1 : Nat) : Int) - 1) = (i : Int) := by
 rw [wrap_in (by omega) (by omega)]; omega
theorem wrap_p1 {i : Nat} (h : i ≤ 1073741824) : IntKind.wrap .i64 ((i : Int) + 1) = ((i + 1 : Nat) : Int) := by
 rw [wrap_in (by omega) (by omega)]; omega
theorem c_isNaN {lf d : Nat} (x : Int) : Cc lf (d + 1) 31 [.i .i64 x] = some [.b false] := by
 refine (f31_eq (Cc lf d) lf x).trans ?_
 unfold f31 f31_t
 rw [show (x != x) = false by simp]
theorem c_cmpI {lf d : Nat} (x y : Int) : ∃ v : Int, Cc lf (d + 2) 20 [.i .i64 x, .i .i64 y] = some [.i .i64 v] ∧ iLt v 0 = iLt x y := by
 have E := f20_eq (Cc lf (d + 1)) lf x y
 unfold f20 f20_t at E
 rw [c_isNaN, c_isNaN] at E
 simp only [Option.bind_some, nth0, asB_b, cond_f] at E
 by_cases h : x < y
 ·rw [iLt_t h, cond_t] at E
  exact ⟨_, E, by rw [iLt_t h]; rfl⟩
 ·rw [iLt_f h, cond_f] at E
  rw [iLt_f h]
  cases h2 : iLt y x with
  | true => rw [h2] at E; exact ⟨_, E, rfl⟩
  | false => rw [h2] at E; exact ⟨_, E, rfl⟩
theorem c_less {lf d : Nat} (p q : Pr) : ∃ v : Int, Cc lf (d + 3) 19 [rt p, rt q] = some [.i .i64 v] ∧ iLt v 0 = iLt q.2 p.2 := by
 obtain ⟨v, h1, h2⟩ := c_cmpI (lf := lf) (d := d) q.2 p.2
 refine ⟨v, (f19_eq (Cc lf (d + 2)) lf p.1 p.2 q.1 q.2).trans ?_, h2⟩
 unfold f19 f19_t
 rw [h1]
 rfl
theorem c_swapRange {lf d : Nat} (hlf : 33554432 ≤ lf) {N a b n : Nat} (hN : N ≤ 16777216) (hab : a + n ≤ b) (hb : b + n ≤ N) (g : Nat → Pr) :
 Cc lf (d + 1) 71 [.sl (rows N g), .i .i64 (a : Int), .i .i64 (b : Int), .i .i64 (n : Int), .u] = some [.sl (rows N (swF a b n g))] := by
 refine (f71_eq (Cc lf d) lf (rows N g) a b n).trans ?_
 unfold f71 f71_t
 dsimp only
 have L : ∀ (k i m : Nat), i + k = n → k < m → f71_0 (Cc lf d) lf (a : Int) (b : Int) (n : Int) m (i : Int) (rows N (swF a b i g)) = some [T.i .i64 0, T.sl (rows N (swF a b n g))] := by
  intro k
  induction k with
  | zero =>
   intro i m hi hm
   obtain ⟨m, rfl⟩ : ∃ z, m = z + 1 := ⟨m - 1, by omega⟩
   rw [f71_0_u]
   unfold f71_0_s
   rw [iLt_f (by omega)]
   rw [show i = n by omega]
   rfl
  | succ k ih =>
   intro i m hi hm
   obtain ⟨m, rfl⟩ : ∃ z, m = z + 1 := ⟨m - 1, by omega⟩
   rw [f71_0_u]
   unfold f71_0_s
   rw [iLt_t (by omega), wrap_nn (i := b) (j := i) (by omega), wrap_nn (i := a) (j := i) (by omega), wrap_p1 (i := i) (by omega)]
   simp only [Int.toNat_natCast, List.length_set, rows_len]
   rw [inR_nat (show b + i < N by omega), inR_nat (show a + i < N by omega), rows_get (show b + i < N by omega), rows_get (show a + i < N by omega)]
   simp only [rt_eta, cond_t]
   rw [rows_swp (show a + i ≠ b + i by omega), swF_succ (by omega)]
   exact ih (i + 1) m (by omega) (by omega)
 have h := L n 0 lf (by omega) (by omega)
 rw [swF_zero] at h
 rw [show ((0 : Nat) : Int) = 0 from rfl] at h
 rw [h]
 rfl
theorem c_rotate {lf d : Nat} (hlf : 33554432 ≤ lf) {N a m b : Nat} (hN : N ≤ 16777216) (ham : a < m) (hmb : m < b) (hb : b ≤ N) (g : Nat → Pr) :
 Cc lf (d + 2) 63 [.sl (rows N g), .i .i64 (a : Int), .i .i64 (m : Int), .i .i64 (b : Int), .u] = some [.sl (rows N (rotF a m b g))] := by
 refine (f63_eq (Cc lf (d + 1)) lf (rows N g) a m b).trans ?_
 unfold f63 f63_t
 dsimp only
 rw [wrap_sub (i := m) (j := a) (by omega) (by omega), wrap_sub (i := b) (j := m) (by omega) (by omega)]
 have L : ∀ (s i j n : Nat) (h : Nat → Pr), i + j ≤ s → s < n → 0 < i → 0 < j → i ≤ m → m + j ≤ N →
  ∃ (i' : Nat) (h' : Nat → Pr), f63_0 (Cc lf (d + 1)) lf (m : Int) n (i : Int) (j : Int) (rows N h) = some [T.i .i64 0, T.i .i64 (m : Int), T.i .i64 (i' : Int), T.sl (rows N h')] ∧ 0 < i' ∧ i' ≤ m ∧ m + i' ≤ N ∧
   swF (m - i') m i' h' = rotF (m - i) m (m + j) h := by
  intro s
  induction s with
  | zero => intro i j n h hs _ h1 h2; omega
  | succ s ih =>
   intro i j n h hs hn h1 h2 h3 h4
   obtain ⟨n, rfl⟩ : ∃ z, n = z + 1 := ⟨n - 1, by omega⟩
   rw [f63_0_u]
   unfold f63_0_s
   by_cases e : i = j
   ·subst e
    rw [show ((i : Int) != (i : Int)) = false by simp, cond_f]
    exact ⟨i, h, rfl, h1, h3, h4, rotF_eq h3⟩
   ·rw [show ((i : Int) != (j : Int)) = true by simp; omega, cond_t]
    by_cases e2 : j < i
    ·rw [iLt_t (by omega), cond_t, wrap_sub (i := m) (j := i) (by omega) h3, c_swapRange hlf hN (by omega) (by omega), wrap_sub (i := i) (j := j) (by omega) (by omega)]
     simp only [Option.bind_some, nth0, asL_l]
     obtain ⟨i', h', a1, a2, a3, a4, a5⟩ := ih (i - j) j n (swF (m - i) m j h) (by omega) (by omega) (by omega) h2 (by omega) h4
     exact ⟨i', h', a1, a2, a3, a4, a5.trans (rotF_gt h3 e2)⟩
    ·rw [iLt_f (by omega), cond_f, wrap_sub (i := m) (j := i) (by omega) h3, wrap_nn (i := m) (j := j) (by omega), wrap_sub (i := m + j) (j := i) (by omega) (by omega), c_swapRange hlf hN (by omega) (by omega), wrap_sub (i := j) (j := i) (by omega) (by omega)]
     simp only [Option.bind_some, nth0, asL_l]
     obtain ⟨i', h', a1, a2, a3, a4, a5⟩ := ih i (j - i) n (swF (m - i) (m + j - i) i h) (by omega) (by omega) h1 (by omega) h3 (by omega)
     exact ⟨i', h', a1, a2, a3, a4, a5.trans (rotF_lt h3 (by omega))⟩
 obtain ⟨i', h', a1, a2, a3, a4, a5⟩ := L (b - a) (m - a) (b - m) lf g (by omega) (by omega) (by omega) (by omega) (by omega) (by omega)
 rw [a1]
 simp only [Option.bind_some, nth0, nthS, asL_l, asI_i]
 rw [wrap_sub (i := m) (j := i') (by omega) a3, c_swapRange hlf hN (by omega) a4, a5, show m - (m - a) = a by omega, show m + (b - m) = b by omega]
 rfl
def InsQ (a i j : Nat) (h : Nat → Pr) : Prop := (∀ s t, a ≤ s → s < t → t ≤ i → t ≠ j → ltP (h s) (h t)) ∧ ∀ s, a ≤ s → s < j → (h s).1 < (h j).1
theorem insQ_step {a i j : Nat} {h : Nat → Pr} (Q : InsQ a i (j + 1) h) (haj : a ≤ j) (hji : j + 1 ≤ i) (hl : ltP (h (j + 1)) (h j)) : InsQ a i j (swp (j + 1) j h) := by
 refine ⟨fun s t h1 h2 h3 h4 => ?_, fun s h1 h2 => ?_⟩
 ·unfold swp
  by_cases c1 : t = j + 1
  ·rw [if_pos c1]
   by_cases c2 : s = j
   ·rw [if_neg (by omega), if_pos c2]; exact hl
   ·rw [if_neg (by omega), if_neg c2]; exact Q.1 s j h1 (by omega) (by omega) (by omega)
  ·rw [if_neg c1, if_neg h4]
   by_cases c2 : s = j + 1
   ·rw [if_pos c2]; exact Q.1 j t haj (by omega) h3 c1
   ·rw [if_neg c2]
    by_cases c3 : s = j
    ·rw [if_pos c3]; exact Q.1 (j + 1) t (by omega) (by omega) h3 c1
    ·rw [if_neg c3]; exact Q.1 s t h1 h2 h3 c1
 ·unfold swp
  rw [if_neg (by omega), if_neg (by omega), if_neg (by omega), if_pos rfl]
  exact Q.2 s h1 (by omega)
theorem insQ_end {a i j : Nat} {h : Nat → Pr} (Q : InsQ a i j h) (hji : j ≤ i) (hj : ∀ s, a ≤ s → s < j → ltP (h s) (h j)) : Srt a (i + 1) h := fun s t h1 h2 h3 => by
 by_cases c : t = j
 ·subst c; exact hj s h1 h2
 ·exact Q.1 s t h1 h2 (by omega) c
theorem c_insInner {lf d : Nat} {N a b i : Nat} (hN : N ≤ 16777216) (hi : i < N) : ∀ (j n : Nat) (h : Nat → Pr), InsQ a i j h → a ≤ j → j ≤ i → j < n →
 ∃ h', f45_1 (Cc lf (d + 3)) lf (a : Int) (b : Int) (i : Int) n (j : Int) (rows N h) = some [T.i .i64 0, T.i .i64 (a : Int), T.i .i64 (b : Int), T.i .i64 (i : Int), T.sl (rows N h')] ∧ Srt a (i + 1) h' ∧ Mem a (i + 1) h h' ∧ Outs a (i + 1) h h' := by
 intro j
 induction j with
 | zero =>
  intro n h Q ha _ hn
  obtain ⟨n, rfl⟩ : ∃ z, n = z + 1 := ⟨n - 1, by omega⟩
  rw [f45_1_u]
  unfold f45_1_s
  rw [iLt_f (by omega)]
  exact ⟨h, rfl, insQ_end Q (by omega) (fun s _ hs => by omega), Mem.refl _ _ _, Outs.refl _ _ _⟩
 | succ j ih =>
  intro n h Q ha hj hn
  obtain ⟨n, rfl⟩ : ∃ z, n = z + 1 := ⟨n - 1, by omega⟩
  rw [f45_1_u]
  unfold f45_1_s
  by_cases c : a < j + 1
  ·rw [iLt_t (by omega), wrap_s1 (i := j) (by omega)]
   simp only [Int.toNat_natCast, List.length_set, rows_len]
   rw [inR_nat (show j + 1 < N by omega), inR_nat (show j < N by omega), rows_get (show j + 1 < N by omega), rows_get (show j < N by omega)]
   simp only [rt_eta, cond_t]
   obtain ⟨v, e1, e2⟩ := c_less (lf := lf) (d := d) (h (j + 1)) (h j)
   rw [e1]
   simp only [Option.bind_some, nth0, asI_i]
   rw [e2]
   by_cases l : (h j).2 < (h (j + 1)).2
   ·rw [iLt_t l, cond_t, rows_swp (show j + 1 ≠ j by omega)]
    have Q' := insQ_step Q (by omega) hj (lt_of_less l)
    obtain ⟨h', g1, g2, g3, g4⟩ := ih n _ Q' (by omega) (by omega) (by omega)
    exact ⟨h', g1, g2, (swp_mem (by omega) (by omega)).trans g3, (swp_outs (by omega) (by omega)).trans g4⟩
   ·rw [iLt_f l, cond_f]
    have l1 : ltP (h j) (h (j + 1)) := lt_of_not (Q.2 j (by omega) (by omega)) (by omega)
    refine ⟨h, rfl, insQ_end Q hj (fun s h1 h2 => ?_), Mem.refl _ _ _, Outs.refl _ _ _⟩
    by_cases e : s = j
    ·subst e; exact l1
    ·exact (Q.1 s j h1 (by omega) (by omega) (by omega)).trans l1
  ·rw [iLt_f (by omega)]
   exact ⟨h, rfl, insQ_end Q hj (fun s _ hs => by omega), Mem.refl _ _ _, Outs.refl _ _ _⟩
theorem c_insSort {lf d : Nat} (hlf : 33554432 ≤ lf) {N a b : Nat} (hN : N ≤ 16777216) (hab : a ≤ b) (hb : b ≤ N) (g : Nat → Pr) (I : Inc a b g) :
 ∃ g', Cc lf (d + 4) 45 [.sl (rows N g), .i .i64 (a : Int), .i .i64 (b : Int), .u] = some [.sl (rows N g')] ∧ Srt a b g' ∧ Mem a b g g' ∧ Outs a b g g' := by
 have E := f45_eq (Cc lf (d + 3)) lf (rows N g) a b
 unfold f45 f45_t at E
 dsimp only at E
 rw [wrap_p1 (i := a) (by omega)] at E
 have L : ∀ (k i n : Nat) (h : Nat → Pr), i + k = b → k < n → a < i → Srt a i h → Mem a i g h → Outs a i g h →
  ∃ g', f45_0 (Cc lf (d + 3)) lf n (a : Int) (b : Int) (i : Int) (rows N h) = some [T.i .i64 0, T.sl (rows N g')] ∧ Srt a b g' ∧ Mem a b g g' ∧ Outs a b g g' := by
  intro k
  induction k with
  | zero =>
   intro i n h hi hn _ S M O
   obtain ⟨n, rfl⟩ : ∃ z, n = z + 1 := ⟨n - 1, by omega⟩
   obtain rfl : i = b := by omega
   rw [f45_0_u]
   unfold f45_0_s
   rw [iLt_f (by omega)]
   exact ⟨h, rfl, S, M, O⟩
  | succ k ih =>
   intro i n h hi hn ha S M O
   obtain ⟨n, rfl⟩ : ∃ z, n = z + 1 := ⟨n - 1, by omega⟩
   rw [f45_0_u]
   unfold f45_0_s
   rw [iLt_t (by omega)]
   dsimp only
   have Q : InsQ a i i h := ⟨fun s t h1 h2 h3 h4 => S s t h1 h2 (by omega), fun s h1 h2 => by
    obtain ⟨j, a1, a2, e⟩ := M.1 s h1 h2
    rw [e, O i (by omega)]
    exact I j i a1 a2 (by omega)⟩
   obtain ⟨h', e1, e2, e3, e4⟩ := c_insInner (lf := lf) (d := d) (b := b) hN (show i < N by omega) i lf h Q (by omega) (Nat.le_refl _) (by omega)
   rw [e1]
   simp only [Option.bind_some, nth0, nthS, asL_l, asI_i, cond_t]
   rw [wrap_p1 (i := i) (by omega)]
   exact ih (i + 1) n h' (by omega) (by omega) (by omega) e2 ((M.mono O (Nat.le_refl _) (by omega)).trans e3) ((O.mono (Nat.le_refl _) (by omega)).trans e4)
 by_cases c : a + 1 ≤ b
 ·obtain ⟨g', e1, e2⟩ := L (b - (a + 1)) (a + 1) lf g (by omega) (by omega) (by omega) (fun i j h1 h2 h3 => by omega) (Mem.refl _ _ _) (Outs.refl _ _ _)
  rw [e1] at E
  exact ⟨g', E, e2⟩
 ·obtain ⟨n, rfl⟩ : ∃ z, lf = z + 1 := ⟨lf - 1, by omega⟩
  rw [f45_0_u] at E
  unfold f45_0_s at E
  rw [iLt_f (by omega)] at E
  exact ⟨g, E, fun i j h1 h2 h3 => by omega, Mem.refl _ _ _, Outs.refl _ _ _⟩
theorem bs_loop {F : Nat → Int → Int → Option (List T)} {Y : Nat → Option (List T)} {P Q : Nat → Prop} {lo hi : Nat}
 (hF : ∀ (n i j : Nat), lo ≤ i → i < j → j ≤ hi → (P ((i + j) / 2) ∧ F (n + 1) (i : Int) (j : Int) = F n (((i + j) / 2 + 1 : Nat) : Int) (j : Int)) ∨ (Q ((i + j) / 2) ∧ F (n + 1) (i : Int) (j : Int) = F n (i : Int) (((i + j) / 2 : Nat) : Int)))
 (hE : ∀ (n i : Nat), lo ≤ i → i ≤ hi → F (n + 1) (i : Int) (i : Int) = Y i) (hP : ∀ c k, P c → lo ≤ k → k < c → c < hi → P k) (hQ : ∀ c k, Q c → lo ≤ c → c < k → k < hi → Q k) :
 ∀ (s n i j : Nat), j - i ≤ s → s < n → lo ≤ i → i ≤ j → j ≤ hi → (∀ k, lo ≤ k → k < i → P k) → (∀ k, j ≤ k → k < hi → Q k) →
  ∃ r, lo ≤ r ∧ r ≤ hi ∧ F n (i : Int) (j : Int) = Y r ∧ (∀ k, lo ≤ k → k < r → P k) ∧ ∀ k, r ≤ k → k < hi → Q k := by
 intro s
 induction s with
 | zero =>
  intro n i j h1 h2 h3 h4 h5 p q
  obtain ⟨n, rfl⟩ : ∃ z, n = z + 1 := ⟨n - 1, by omega⟩
  obtain rfl : i = j := by omega
  exact ⟨i, h3, h5, hE n i h3 h5, p, q⟩
 | succ s ih =>
  intro n i j h1 h2 h3 h4 h5 p q
  obtain ⟨n, rfl⟩ : ∃ z, n = z + 1 := ⟨n - 1, by omega⟩
  by_cases e : i = j
  ·subst e
   exact ⟨i, h3, h5, hE n i h3 h5, p, q⟩
  ·rcases hF n i j h3 (by omega) h5 with ⟨a1, a2⟩ | ⟨a1, a2⟩
   ·rw [a2]
    refine ih n _ j (by omega) (by omega) (by omega) (by omega) h5 (fun k k1 k2 => ?_) q
    by_cases e2 : k = (i + j) / 2
    ·rw [e2]; exact a1
    ·exact hP _ k a1 k1 (by omega) (by omega)
   ·rw [a2]
    refine ih n i _ (by omega) (by omega) h3 (by omega) (by omega) p (fun k k1 k2 => ?_)
    by_cases e2 : k = (i + j) / 2
    ·rw [e2]; exact a1
    ·exact hQ _ k a1 (by omega) (by omega) k2
theorem rot_stepR {a k : Nat} {g : Nat → Pr} (h : a ≤ k) : swp k (k + 1) (rotF a (a + 1) (k + 1) g) = rotF a (a + 1) (k + 2) g := by
 funext t
 unfold swp
 by_cases c1 : t = k
 ·subst c1
  rw [if_pos rfl, rot_3 (.inr (by omega)) (by omega), rot_1 (by omega)]
  congr 1; omega
 ·rw [if_neg c1]
  by_cases c2 : t = k + 1
  ·subst c2
   rw [if_pos rfl, rot_2 (by omega), rot_2 (by omega)]
   congr 1; omega
  ·rw [if_neg c2]
   by_cases c3 : a ≤ t ∧ t < k
   ·rw [rot_1 (by omega), rot_1 (by omega)]
   ·rw [rot_3 (by omega) (by omega), rot_3 (by omega) (by omega)]
theorem rot_stepL {m k : Nat} {g : Nat → Pr} (h : k + 1 ≤ m) : swp (k + 1) k (rotF (k + 1) m (m + 1) g) = rotF k m (m + 1) g := by
 funext t
 unfold swp
 by_cases c1 : t = k + 1
 ·subst c1
  rw [if_pos rfl, rot_3 (.inl (by omega)) (by omega), rot_2 (by omega)]
  congr 1; omega
 ·rw [if_neg c1]
  by_cases c2 : t = k
  ·subst c2
   rw [if_pos rfl, rot_1 (by omega), rot_1 (by omega)]
   congr 1; omega
  ·rw [if_neg c2]
   by_cases c3 : k + 1 < t ∧ t < m + 1
   ·rw [rot_2 (by omega), rot_2 (by omega)]
   ·rw [rot_3 (by omega) (by omega), rot_3 (by omega) (by omega)]
noncomputable def symRest2 (C : Orc) (mid e b : Int) (l : List T) : Option (List T) :=
 bif iLt mid e then
  bif iLt e b then
   (C 46 [T.sl l, T.i .i64 mid, T.i .i64 e, T.i .i64 b, T.u]).bind fun r => some [T.sl (asL (nth r 0))]
  else some [T.sl l]
 else some [T.sl l]
noncomputable def symRest (C : Orc) (a s mid e b : Int) (l : List T) : Option (List T) :=
 bif iLt a s then
  bif iLt s mid then
   (C 46 [T.sl l, T.i .i64 a, T.i .i64 s, T.i .i64 mid, T.u]).bind fun r => symRest2 C mid e b (asL (nth r 0))
  else symRest2 C mid e b l
 else symRest2 C mid e b l
noncomputable def symTail (C : Orc) (r : List T) : Option (List T) :=
 bif iLt (asI (nth r 6)) (asI (nth r 2)) then
  bif iLt (asI (nth r 2)) (IntKind.wrap .i64 ((asI (nth r 5)) - (asI (nth r 6)))) then
   (C 63 [T.sl (asL (nth r 7)), T.i .i64 (asI (nth r 6)), T.i .i64 (asI (nth r 2)), T.i .i64 (IntKind.wrap .i64 ((asI (nth r 5)) - (asI (nth r 6)))), T.u]).bind fun r' =>
    symRest C (asI (nth r 1)) (asI (nth r 6)) (asI (nth r 4)) (IntKind.wrap .i64 ((asI (nth r 5)) - (asI (nth r 6)))) (asI (nth r 3)) (asL (nth r' 0))
  else symRest C (asI (nth r 1)) (asI (nth r 6)) (asI (nth r 4)) (IntKind.wrap .i64 ((asI (nth r 5)) - (asI (nth r 6)))) (asI (nth r 3)) (asL (nth r 7))
 else symRest C (asI (nth r 1)) (asI (nth r 6)) (asI (nth r 4)) (IntKind.wrap .i64 ((asI (nth r 5)) - (asI (nth r 6)))) (asI (nth r 3)) (asL (nth r 7))
def Ord (a m b : Nat) (g : Nat → Pr) : Prop := ∀ i j, a ≤ i → i < m → m ≤ j → j < b → (g i).1 < (g j).1
def Mrg (C : Orc) (N a m b : Nat) (g : Nat → Pr) : Prop := ∃ g', C 46 [.sl (rows N g), .i .i64 (a : Int), .i .i64 (m : Int), .i .i64 (b : Int), .u] = some [.sl (rows N g')] ∧ Srt a b g' ∧ Mem a b g g' ∧ Outs a b g g'
theorem symRest2_eq (C : Orc) {N mid e b K : Nat} (hsym : ∀ (x y z : Nat) (g : Nat → Pr), x < y → y < z → z ≤ N → z - x ≤ K → Srt x y g → Srt y z g → Ord x y z g → Mrg C N x y z g)
 (h1 : mid ≤ e) (h2 : e ≤ b) (h3 : b ≤ N) (hK : b - mid ≤ K) (g : Nat → Pr) (L : Srt mid e g) (R : Srt e b g) (O : Ord mid e b g) :
 ∃ g', symRest2 C (mid : Int) (e : Int) (b : Int) (rows N g) = some [.sl (rows N g')] ∧ Srt mid b g' ∧ Mem mid b g g' ∧ Outs mid b g g' := by
 unfold symRest2
 by_cases c1 : mid < e
 ·rw [iLt_t (by omega), cond_t]
  by_cases c2 : e < b
  ·rw [iLt_t (by omega), cond_t]
   obtain ⟨g', a1, a2⟩ := hsym mid e b g c1 c2 h3 hK L R O
   rw [a1]
   exact ⟨g', rfl, a2⟩
  ·rw [iLt_f (by omega), cond_f]
   obtain rfl : e = b := by omega
   exact ⟨g, rfl, L, Mem.refl _ _ _, Outs.refl _ _ _⟩
 ·rw [iLt_f (by omega), cond_f]
  obtain rfl : mid = e := by omega
  exact ⟨g, rfl, R, Mem.refl _ _ _, Outs.refl _ _ _⟩
theorem symRest_eq (C : Orc) {N a s mid e b K : Nat} (hsym : ∀ (x y z : Nat) (g : Nat → Pr), x < y → y < z → z ≤ N → z - x ≤ K → Srt x y g → Srt y z g → Ord x y z g → Mrg C N x y z g)
 (h0 : a ≤ s) (h0' : s ≤ mid) (h1 : mid ≤ e) (h2 : e ≤ b) (h3 : b ≤ N) (hK : b - mid ≤ K) (hK' : mid - a ≤ K) (g : Nat → Pr) (A : Srt a s g) (B : Srt s mid g) (O1 : Ord a s mid g)
 (L : Srt mid e g) (R : Srt e b g) (O : Ord mid e b g) (X : ∀ i j, a ≤ i → i < mid → mid ≤ j → j < b → ltP (g i) (g j)) :
 ∃ g', symRest C (a : Int) (s : Int) (mid : Int) (e : Int) (b : Int) (rows N g) = some [.sl (rows N g')] ∧ Srt a b g' ∧ Mem a b g g' ∧ Outs a b g g' := by
 have fin : ∀ g1, Srt a mid g1 → Mem a mid g g1 → Outs a mid g g1 → ∃ g', symRest2 C (mid : Int) (e : Int) (b : Int) (rows N g1) = some [.sl (rows N g')] ∧ Srt a b g' ∧ Mem a b g g' ∧ Outs a b g g' := by
  intro g1 S1 M1 U1
  have kp : ∀ k, mid ≤ k → g1 k = g k := fun k hk => U1 k (by omega)
  obtain ⟨g', a1, a2, a3, a4⟩ := symRest2_eq C hsym h1 h2 h3 hK g1 (srt_keep L fun k k1 _ => kp k k1) (srt_keep R fun k k1 _ => kp k (by omega)) (fun i j i1 i2 j1 j2 => by rw [kp i i1, kp j (by omega)]; exact O i j i1 i2 j1 j2)
  have M1' : Mem a mid g g' := ⟨fun k k1 k2 => by rw [a4 k (by omega)]; exact M1.1 k k1 k2, fun k k1 k2 => by obtain ⟨j, j1, j2, ej⟩ := M1.2 k k1 k2; exact ⟨j, j1, j2, by rw [a4 j (by omega)]; exact ej⟩⟩
  have M2' : Mem mid b g g' := ⟨fun k k1 k2 => by obtain ⟨j, j1, j2, ej⟩ := a3.1 k k1 k2; exact ⟨j, j1, j2, ej.trans (kp j j1)⟩, fun k k1 k2 => by obtain ⟨j, j1, j2, ej⟩ := a3.2 k k1 k2; exact ⟨j, j1, j2, (kp k k1).symm.trans ej⟩⟩
  exact ⟨g', a1, srt_join (srt_keep S1 fun k _ k2 => a4 k (by omega)) a2 (lt_mem X M1' M2'), mem_join (by omega) (by omega) M1' M2', (U1.mono (Nat.le_refl _) (by omega)).trans (a4.mono (by omega) (Nat.le_refl _))⟩
 unfold symRest
 by_cases c1 : a < s
 ·rw [iLt_t (by omega), cond_t]
  by_cases c2 : s < mid
  ·rw [iLt_t (by omega), cond_t]
   obtain ⟨g1, e1, e2, e3, e4⟩ := hsym a s mid g c1 c2 (by omega) hK' A B O1
   rw [e1]
   exact fin g1 e2 e3 e4
  ·rw [iLt_f (by omega), cond_f]
   obtain rfl : s = mid := by omega
   exact fin g A (Mem.refl _ _ _) (Outs.refl _ _ _)
 ·rw [iLt_f (by omega), cond_f]
  obtain rfl : a = s := by omega
  exact fin g B (Mem.refl _ _ _) (Outs.refl _ _ _)
theorem symTail_eq (C : Orc) {N a s m e b mid n K : Nat} (hN : N ≤ 16777216) (hsym : ∀ (x y z : Nat) (g : Nat → Pr), x < y → y < z → z ≤ N → z - x ≤ K → Srt x y g → Srt y z g → Ord x y z g → Mrg C N x y z g)
 (hrot : ∀ (x y z : Nat) (g : Nat → Pr), x < y → y < z → z ≤ N → C 63 [.sl (rows N g), .i .i64 (x : Int), .i .i64 (y : Int), .i .i64 (z : Int), .u] = some [.sl (rows N (rotF x y z g))])
 (h1 : a ≤ s) (h2 : s ≤ m) (h3 : m ≤ e) (h4 : e ≤ b) (h5 : b ≤ N) (hn : n = s + e) (hm : n = mid + m) (hK : b - mid ≤ K) (hK' : mid - a ≤ K) (g : Nat → Pr) (L : Srt a m g) (R : Srt m b g) (O : Ord a m b g)
 (X : ∀ c d, a ≤ c → c < s → e ≤ d → d < b → ltP (g c) (g d)) (Y : ∀ d c, m ≤ d → d < e → s ≤ c → c < m → ltP (g d) (g c)) :
 ∃ g', symTail C [.i .i64 0, .i .i64 (a : Int), .i .i64 (m : Int), .i .i64 (b : Int), .i .i64 (mid : Int), .i .i64 (n : Int), .i .i64 (s : Int), .sl (rows N g)] = some [.sl (rows N g')] ∧ Srt a b g' ∧ Mem a b g g' ∧ Outs a b g g' := by
 obtain ⟨z1, z2, z3, z4, z5⟩ := rot_split h1 h2 h3 h4 L R X Y
 have hmid : s + (e - m) = mid := by omega
 rw [hmid] at z1 z3 z4
 have o1 : Ord a s mid (rotF s m e g) := fun i j i1 i2 j1 j2 => by
  rw [rot_3 (.inl i2) ⟨h2, h3⟩, rot_1 ⟨by omega, by omega⟩]; exact O _ _ i1 (by omega) (by omega) (by omega)
 have o2 : Ord mid e b (rotF s m e g) := fun i j i1 i2 j1 j2 => by
  rw [rot_2 ⟨by omega, by omega⟩, rot_3 (.inr (by omega)) ⟨h2, h3⟩]; exact O _ _ (by omega) (by omega) (by omega) j2
 obtain ⟨g', a1, a2, a3, a4⟩ := symRest_eq C hsym h1 (by omega) (by omega) h4 h5 hK hK' (rotF s m e g) z2 z3 o1 z4 z5 o2 z1
 refine ⟨g', ?_, a2, ((rot_mem ⟨h2, h3⟩).mono (rot_outs ⟨h2, h3⟩) h1 h4).trans a3, ((rot_outs ⟨h2, h3⟩).mono h1 h4).trans a4⟩
 unfold symTail
 simp only [nth0, nthS, asI_i, asL_l]
 rw [wrap_sub (i := n) (j := s) (by omega) (by omega), show n - s = e by omega]
 by_cases c1 : s < m
 ·rw [iLt_t (by omega), cond_t]
  by_cases c2 : m < e
  ·rw [iLt_t (by omega), cond_t, hrot s m e g c1 c2 (by omega)]
   exact a1
  ·rw [iLt_f (by omega), cond_f]
   obtain rfl : m = e := by omega
   rw [rotF_right] at a1
   exact a1
 ·rw [iLt_f (by omega), cond_f]
  obtain rfl : s = m := by omega
  rw [rotF_left] at a1
  exact a1
theorem sym_t (C : Orc) (lf : Nat) (l : List T) (a m b : Int) : f46 C lf l a m b =
 bif (IntKind.wrap .i64 (m - a)) == 1 then
  (f46_0 C lf l a lf m b).bind fun r => (f46_1 C lf r lf (asI (nth r 1)) (asL (nth r 3))).bind fun r' => some [T.sl (asL (nth r' 1))]
 else bif (IntKind.wrap .i64 (b - m)) == 1 then
  (f46_2 C lf l m lf a m).bind fun r => (f46_3 C lf r lf (asI (nth r 1)) (asL (nth r 3))).bind fun r' => some [T.sl (asL (nth r' 1))]
 else bif iLt (IntKind.wrap .i64 (shiftI .shr .u64 (IntKind.wrap .u64 (IntKind.wrap .i64 (a + b))) 1)) m then
  (f46_4 C lf l a m b lf (IntKind.wrap .i64 ((IntKind.wrap .i64 ((IntKind.wrap .i64 (shiftI .shr .u64 (IntKind.wrap .u64 (IntKind.wrap .i64 (a + b))) 1)) + m)) - b)) (IntKind.wrap .i64 (shiftI .shr .u64 (IntKind.wrap .u64 (IntKind.wrap .i64 (a + b))) 1))).bind fun r => symTail C r
 else (f46_5 C lf l a m b lf a m).bind fun r => symTail C r := by rfl
theorem sym_one {C : Orc} {lf N a b : Nat} (hlf : 33554432 ≤ lf) (hN : N ≤ 16777216) (hC : ∀ p q : Pr, ∃ v : Int, C 19 [rt p, rt q] = some [.i .i64 v] ∧ iLt v 0 = iLt q.2 p.2) (h1 : a + 1 ≤ b) (h2 : b ≤ N) (g : Nat → Pr)
 (R : Srt (a + 1) b g) (O : Ord a (a + 1) b g) :
 ∃ g', ((f46_0 C lf (rows N g) (a : Int) lf ((a + 1 : Nat) : Int) (b : Int)).bind fun r => (f46_1 C lf r lf (asI (nth r 1)) (asL (nth r 3))).bind fun r' => some [T.sl (asL (nth r' 1))]) = some [.sl (rows N g')] ∧ Srt a b g' ∧ Mem a b g g' ∧ Outs a b g g' := by
 obtain ⟨r, r1, r2, e, p, q⟩ := bs_loop (F := fun n i j => f46_0 C lf (rows N g) (a : Int) n i j) (Y := fun i => some [.i .i64 0, .i .i64 (a : Int), .i .i64 (i : Int), .sl (rows N g)])
  (P := fun k => ltP (g k) (g a)) (Q := fun k => ltP (g a) (g k)) (lo := a + 1) (hi := b) (fun n i j hi hij hj => by
   rw [f46_0_u]
   unfold f46_0_s
   rw [iLt_t (by omega), mid_eq (by omega)]
   simp only [Int.toNat_natCast, rows_len]
   rw [inR_nat (show (i + j) / 2 < N by omega), inR_nat (show a < N by omega), rows_get (show (i + j) / 2 < N by omega), rows_get (show a < N by omega)]
   simp only [rt_eta, cond_t]
   obtain ⟨v, e1, e2⟩ := hC (g ((i + j) / 2)) (g a)
   rw [e1]
   simp only [Option.bind_some, nth0, asI_i]
   rw [e2]
   by_cases l : (g a).2 < (g ((i + j) / 2)).2
   ·rw [iLt_t l, cond_t, wrap_p1 (by omega)]
    exact .inl ⟨lt_of_less l, rfl⟩
   ·rw [iLt_f l, cond_f]
    exact .inr ⟨lt_of_not (O a _ (Nat.le_refl _) (Nat.lt_succ_self _) (by omega) (by omega)) l, rfl⟩)
  (fun n i _ _ => by
   rw [f46_0_u]
   unfold f46_0_s
   rw [iLt_f (by omega)]
   rfl) (fun c k hc k1 k2 k3 => (R k c k1 k2 k3).trans hc) (fun c k hc k1 k2 k3 => ltP.trans hc (R c k k1 k2 k3)) (b - (a + 1)) lf (a + 1) b (Nat.le_refl _) (by omega) (Nat.le_refl _) h1 (Nat.le_refl _) (fun k k1 k2 => by omega) (fun k k1 k2 => by omega)
 rw [e]
 simp only [Option.bind_some, nth0, nthS, asI_i, asL_l]
 have L : ∀ (k i m : Nat), i + k + 1 = r → k < m → a ≤ i → f46_1 C lf [T.i .i64 0, T.i .i64 (a : Int), T.i .i64 (r : Int), T.sl (rows N g)] m (i : Int) (rows N (rotF a (a + 1) (i + 1) g)) = some [T.i .i64 0, T.sl (rows N (rotF a (a + 1) r g))] := by
  intro k
  induction k with
  | zero =>
   intro i m hi hm _
   obtain ⟨m, rfl⟩ : ∃ z, m = z + 1 := ⟨m - 1, by omega⟩
   obtain rfl : r = i + 1 := by omega
   rw [f46_1_u]
   unfold f46_1_s
   simp only [nth0, nthS, asI_i]
   rw [wrap_s1 (by omega), iLt_f (by omega)]
   rfl
  | succ k ih =>
   intro i m hi hm ha
   obtain ⟨m, rfl⟩ : ∃ z, m = z + 1 := ⟨m - 1, by omega⟩
   obtain rfl : r = i + k + 1 + 1 := by omega
   rw [f46_1_u]
   unfold f46_1_s
   simp only [nth0, nthS, asI_i]
   rw [wrap_s1 (by omega), iLt_t (by omega), wrap_p1 (i := i) (by omega)]
   simp only [Int.toNat_natCast, List.length_set, rows_len]
   rw [inR_nat (show i + 1 < N by omega), inR_nat (show i < N by omega), rows_get (show i + 1 < N by omega), rows_get (show i < N by omega)]
   simp only [rt_eta, cond_t]
   rw [rows_swp (show i ≠ i + 1 by omega), rot_stepR ha]
   exact ih (i + 1) m (by omega) (by omega) (by omega)
 have e2 := L (r - a - 1) a lf (by omega) (by omega) (Nat.le_refl _)
 rw [rotF_right] at e2
 rw [e2]
 have X := rot_split (a := a) (s := a) (m := a + 1) (e := r) (b := b) (f := g) (Nat.le_refl _) (by omega) r1 r2 (fun i j h1 h2 h3 => by omega) R (fun c d h1 h2 _ _ => by omega) (fun d c h1 h2 h3 h4 => by
  obtain rfl : c = a := by omega
  exact p d h1 h2)
 refine ⟨_, rfl, ?_, (rot_mem ⟨by omega, r1⟩).mono (rot_outs ⟨by omega, r1⟩) (Nat.le_refl _) r2, (rot_outs ⟨by omega, r1⟩).mono (Nat.le_refl _) r2⟩
 refine srt_join X.2.2.1 (srt_join (m := r) X.2.2.2.1 X.2.2.2.2 fun i j h1 h2 h3 h4 => ?_) X.1
 rw [rot_2 ⟨by omega, h2⟩, rot_3 (.inr h3) ⟨by omega, r1⟩, show i - (r - (a + 1)) = a by omega]
 exact q j h3 h4
theorem sym_one' {C : Orc} {lf N a m : Nat} (hlf : 33554432 ≤ lf) (hN : N ≤ 16777216) (hC : ∀ p q : Pr, ∃ v : Int, C 19 [rt p, rt q] = some [.i .i64 v] ∧ iLt v 0 = iLt q.2 p.2) (h1 : a ≤ m) (h2 : m + 1 ≤ N) (g : Nat → Pr)
 (L : Srt a m g) (O : Ord a m (m + 1) g) :
 ∃ g', ((f46_2 C lf (rows N g) (m : Int) lf (a : Int) (m : Int)).bind fun r => (f46_3 C lf r lf (asI (nth r 1)) (asL (nth r 3))).bind fun r' => some [T.sl (asL (nth r' 1))]) = some [.sl (rows N g')] ∧ Srt a (m + 1) g' ∧ Mem a (m + 1) g g' ∧ Outs a (m + 1) g g' := by
 obtain ⟨r, r1, r2, e, p, q⟩ := bs_loop (F := fun n i j => f46_2 C lf (rows N g) (m : Int) n i j) (Y := fun i => some [.i .i64 0, .i .i64 (m : Int), .i .i64 (i : Int), .sl (rows N g)])
  (P := fun k => ltP (g k) (g m)) (Q := fun k => ltP (g m) (g k)) (lo := a) (hi := m) (fun n i j hi hij hj => by
   rw [f46_2_u]
   unfold f46_2_s
   rw [iLt_t (by omega), mid_eq (by omega)]
   simp only [Int.toNat_natCast, rows_len]
   rw [inR_nat (show (i + j) / 2 < N by omega), inR_nat (show m < N by omega), rows_get (show (i + j) / 2 < N by omega), rows_get (show m < N by omega)]
   simp only [rt_eta, cond_t]
   obtain ⟨v, e1, e2⟩ := hC (g m) (g ((i + j) / 2))
   rw [e1]
   simp only [Option.bind_some, nth0, asI_i]
   rw [e2]
   by_cases l : (g ((i + j) / 2)).2 < (g m).2
   ·rw [iLt_t l]
    exact .inr ⟨lt_of_less l, rfl⟩
   ·rw [iLt_f l, wrap_p1 (by omega)]
    exact .inl ⟨lt_of_not (O _ m (by omega) (by omega) (Nat.le_refl _) (Nat.lt_succ_self _)) l, rfl⟩)
  (fun n i _ _ => by
   rw [f46_2_u]
   unfold f46_2_s
   rw [iLt_f (by omega)]
   rfl) (fun c k hc k1 k2 k3 => (L k c k1 k2 k3).trans hc) (fun c k hc k1 k2 k3 => ltP.trans hc (L c k k1 k2 k3)) (m - a) lf a m (Nat.le_refl _) (by omega) (Nat.le_refl _) h1 (Nat.le_refl _) (fun k k1 k2 => by omega) (fun k k1 k2 => by omega)
 rw [e]
 simp only [Option.bind_some, nth0, nthS, asI_i, asL_l]
 have W : ∀ (k i n : Nat), i = r + k → k < n → i ≤ m → f46_3 C lf [T.i .i64 0, T.i .i64 (m : Int), T.i .i64 (r : Int), T.sl (rows N g)] n (i : Int) (rows N (rotF i m (m + 1) g)) = some [T.i .i64 0, T.sl (rows N (rotF r m (m + 1) g))] := by
  intro k
  induction k with
  | zero =>
   intro i n hi hm _
   obtain ⟨n, rfl⟩ : ∃ z, n = z + 1 := ⟨n - 1, by omega⟩
   obtain rfl : i = r := by omega
   rw [f46_3_u]
   unfold f46_3_s
   simp only [nth0, nthS, asI_i]
   rw [iLt_f (by omega)]
   rfl
  | succ k ih =>
   intro i n hi hm ha
   obtain ⟨n, rfl⟩ : ∃ z, n = z + 1 := ⟨n - 1, by omega⟩
   obtain ⟨i, rfl⟩ : ∃ z, i = z + 1 := ⟨i - 1, by omega⟩
   rw [f46_3_u]
   unfold f46_3_s
   simp only [nth0, nthS, asI_i]
   rw [iLt_t (by omega), wrap_s1 (i := i) (by omega)]
   simp only [Int.toNat_natCast, List.length_set, rows_len]
   rw [inR_nat (show i + 1 < N by omega), inR_nat (show i < N by omega), rows_get (show i + 1 < N by omega), rows_get (show i < N by omega)]
   simp only [rt_eta, cond_t]
   rw [rows_swp (show i + 1 ≠ i by omega), rot_stepL (by omega)]
   exact ih i n (by omega) (by omega) (by omega)
 have e2 := W (m - r) m lf (by omega) (by omega) (Nat.le_refl _)
 rw [rotF_left] at e2
 rw [e2]
 have X := rot_split (a := a) (s := r) (m := m) (e := m + 1) (b := m + 1) (f := g) r1 r2 (by omega) (Nat.le_refl _) L (fun i j h1 h2 h3 => by omega) (fun c d h1 h2 _ _ => by omega) (fun d c h1 h2 h3 h4 => by
  obtain rfl : d = m := by omega
  exact q c h3 h4)
 refine ⟨_, rfl, ?_, (rot_mem ⟨r2, by omega⟩).mono (rot_outs ⟨r2, by omega⟩) r1 (Nat.le_refl _), (rot_outs ⟨r2, by omega⟩).mono r1 (Nat.le_refl _)⟩
 refine srt_join (m := r + (m + 1 - m)) (srt_join (m := r) X.2.1 X.2.2.1 fun i j h1 h2 h3 h4 => ?_) X.2.2.2.1 X.1
 rw [rot_3 (.inl h2) ⟨r2, by omega⟩, rot_1 ⟨h3, h4⟩, show j + (m - r) = m by omega]
 exact p i h1 h2
theorem c_search4 {C : Orc} {lf N a m b lo hi : Nat} (hlf : 33554432 ≤ lf) (hN : N ≤ 16777216) (hC : ∀ p q : Pr, ∃ v : Int, C 19 [rt p, rt q] = some [.i .i64 v] ∧ iLt v 0 = iLt q.2 p.2) (ham : a < m) (hmb : m < b) (hb : b ≤ N) (g : Nat → Pr)
 (L : Srt a m g) (R : Srt m b g) (O : Ord a m b g) (h1 : a ≤ lo) (h2 : lo ≤ hi) (h3 : hi ≤ m) (h4 : hi ≤ (a + b) / 2) (h5 : (a + b) / 2 + m ≤ lo + b) :
 ∃ r, lo ≤ r ∧ r ≤ hi ∧ f46_4 C lf (rows N g) (a : Int) (m : Int) (b : Int) lf (lo : Int) (hi : Int) = some [.i .i64 0, .i .i64 (a : Int), .i .i64 (m : Int), .i .i64 (b : Int), .i .i64 (((a + b) / 2 : Nat) : Int), .i .i64 (((a + b) / 2 + m : Nat) : Int), .i .i64 (r : Int), .sl (rows N g)] ∧
  (∀ k, lo ≤ k → k < r → ltP (g k) (g ((a + b) / 2 + m - 1 - k))) ∧ ∀ k, r ≤ k → k < hi → ltP (g ((a + b) / 2 + m - 1 - k)) (g k) := by
 refine bs_loop (F := fun n i j => f46_4 C lf (rows N g) (a : Int) (m : Int) (b : Int) n i j) (Y := fun i => some [.i .i64 0, .i .i64 (a : Int), .i .i64 (m : Int), .i .i64 (b : Int), .i .i64 (((a + b) / 2 : Nat) : Int), .i .i64 (((a + b) / 2 + m : Nat) : Int), .i .i64 (i : Int), .sl (rows N g)])
  (P := fun k => ltP (g k) (g ((a + b) / 2 + m - 1 - k))) (Q := fun k => ltP (g ((a + b) / 2 + m - 1 - k)) (g k)) (lo := lo) (hi := hi) (fun n i j hi' hij hj => ?_)
  (fun n i _ _ => ?_) (fun c k hc k1 k2 k3 => ((L k c (by omega) k2 (by omega)).trans hc).trans (R _ _ (by omega) (by omega) (by omega))) (fun c k hc k1 k2 k3 => ((R _ _ (by omega) (by omega) (by omega)).trans hc).trans (L c k (by omega) k2 (by omega))) (hi - lo) lf lo hi (Nat.le_refl _) (by omega) (Nat.le_refl _) h2 (Nat.le_refl _) (fun k k1 k2 => by omega) (fun k k1 k2 => by omega)
 ·have hs : ((((a + b) / 2 + m : Nat) : Int) - 1) - (((i + j) / 2 : Nat) : Int) = (((a + b) / 2 + m - 1 - (i + j) / 2 : Nat) : Int) := by omega
  rw [f46_4_u]
  unfold f46_4_s
  rw [iLt_t (by omega), mid_eq (i := i) (j := j) (by omega), mid_eq (i := a) (j := b) (by omega), wrap_nn (i := (a + b) / 2) (j := m) (by omega), wrap_in (x := (((a + b) / 2 + m : Nat) : Int) - 1) (by omega) (by omega), hs, wrap_in (x := (((a + b) / 2 + m - 1 - (i + j) / 2 : Nat) : Int)) (by omega) (by omega)]
  simp only [Int.toNat_natCast, rows_len]
  rw [inR_nat (show (i + j) / 2 < N by omega), inR_nat (show (a + b) / 2 + m - 1 - (i + j) / 2 < N by omega), rows_get (show (i + j) / 2 < N by omega), rows_get (show (a + b) / 2 + m - 1 - (i + j) / 2 < N by omega)]
  simp only [rt_eta, cond_t]
  obtain ⟨v, e1, e2⟩ := hC (g ((a + b) / 2 + m - 1 - (i + j) / 2)) (g ((i + j) / 2))
  rw [e1]
  simp only [Option.bind_some, nth0, asI_i]
  rw [e2]
  by_cases l : (g ((i + j) / 2)).2 < (g ((a + b) / 2 + m - 1 - (i + j) / 2)).2
  ·rw [iLt_t l]
   exact .inr ⟨lt_of_less l, rfl⟩
  ·rw [iLt_f l, wrap_p1 (by omega)]
   exact .inl ⟨lt_of_not (O _ _ (by omega) (by omega) (by omega) (by omega)) l, rfl⟩
 ·rw [f46_4_u]
  unfold f46_4_s
  rw [iLt_f (by omega), mid_eq (i := a) (j := b) (by omega), wrap_nn (i := (a + b) / 2) (j := m) (by omega)]
  rfl
theorem c_search5 {C : Orc} {lf N a m b lo hi : Nat} (hlf : 33554432 ≤ lf) (hN : N ≤ 16777216) (hC : ∀ p q : Pr, ∃ v : Int, C 19 [rt p, rt q] = some [.i .i64 v] ∧ iLt v 0 = iLt q.2 p.2) (ham : a < m) (hmb : m < b) (hb : b ≤ N) (g : Nat → Pr)
 (L : Srt a m g) (R : Srt m b g) (O : Ord a m b g) (h1 : a ≤ lo) (h2 : lo ≤ hi) (h3 : hi ≤ m) (h4 : hi ≤ (a + b) / 2) (h5 : (a + b) / 2 + m ≤ lo + b) :
 ∃ r, lo ≤ r ∧ r ≤ hi ∧ f46_5 C lf (rows N g) (a : Int) (m : Int) (b : Int) lf (lo : Int) (hi : Int) = some [.i .i64 0, .i .i64 (a : Int), .i .i64 (m : Int), .i .i64 (b : Int), .i .i64 (((a + b) / 2 : Nat) : Int), .i .i64 (((a + b) / 2 + m : Nat) : Int), .i .i64 (r : Int), .sl (rows N g)] ∧
  (∀ k, lo ≤ k → k < r → ltP (g k) (g ((a + b) / 2 + m - 1 - k))) ∧ ∀ k, r ≤ k → k < hi → ltP (g ((a + b) / 2 + m - 1 - k)) (g k) := by
 refine bs_loop (F := fun n i j => f46_5 C lf (rows N g) (a : Int) (m : Int) (b : Int) n i j) (Y := fun i => some [.i .i64 0, .i .i64 (a : Int), .i .i64 (m : Int), .i .i64 (b : Int), .i .i64 (((a + b) / 2 : Nat) : Int), .i .i64 (((a + b) / 2 + m : Nat) : Int), .i .i64 (i : Int), .sl (rows N g)])
  (P := fun k => ltP (g k) (g ((a + b) / 2 + m - 1 - k))) (Q := fun k => ltP (g ((a + b) / 2 + m - 1 - k)) (g k)) (lo := lo) (hi := hi) (fun n i j hi' hij hj => ?_)
  (fun n i _ _ => ?_) (fun c k hc k1 k2 k3 => ((L k c (by omega) k2 (by omega)).trans hc).trans (R _ _ (by omega) (by omega) (by omega))) (fun c k hc k1 k2 k3 => ((R _ _ (by omega) (by omega) (by omega)).trans hc).trans (L c k (by omega) k2 (by omega))) (hi - lo) lf lo hi (Nat.le_refl _) (by omega) (Nat.le_refl _) h2 (Nat.le_refl _) (fun k k1 k2 => by omega) (fun k k1 k2 => by omega)
 ·have hs : ((((a + b) / 2 + m : Nat) : Int) - 1) - (((i + j) / 2 : Nat) : Int) = (((a + b) / 2 + m - 1 - (i + j) / 2 : Nat) : Int) := by omega
  rw [f46_5_u]
  unfold f46_5_s
  rw [iLt_t (by omega), mid_eq (i := i) (j := j) (by omega), mid_eq (i := a) (j := b) (by omega), wrap_nn (i := (a + b) / 2) (j := m) (by omega), wrap_in (x := (((a + b) / 2 + m : Nat) : Int) - 1) (by omega) (by omega), hs, wrap_in (x := (((a + b) / 2 + m - 1 - (i + j) / 2 : Nat) : Int)) (by omega) (by omega)]
  simp only [Int.toNat_natCast, rows_len]
  rw [inR_nat (show (i + j) / 2 < N by omega), inR_nat (show (a + b) / 2 + m - 1 - (i + j) / 2 < N by omega), rows_get (show (i + j) / 2 < N by omega), rows_get (show (a + b) / 2 + m - 1 - (i + j) / 2 < N by omega)]
  simp only [rt_eta, cond_t]
  obtain ⟨v, e1, e2⟩ := hC (g ((a + b) / 2 + m - 1 - (i + j) / 2)) (g ((i + j) / 2))
  rw [e1]
  simp only [Option.bind_some, nth0, asI_i]
  rw [e2]
  by_cases l : (g ((i + j) / 2)).2 < (g ((a + b) / 2 + m - 1 - (i + j) / 2)).2
  ·rw [iLt_t l]
   exact .inr ⟨lt_of_less l, rfl⟩
  ·rw [iLt_f l, wrap_p1 (by omega)]
   exact .inl ⟨lt_of_not (O _ _ (by omega) (by omega) (by omega) (by omega)) l, rfl⟩
 ·rw [f46_5_u]
  unfold f46_5_s
  rw [iLt_f (by omega), mid_eq (i := a) (j := b) (by omega), wrap_nn (i := (a + b) / 2) (j := m) (by omega)]
  rfl
theorem half_pow {x e : Nat} (h : x ≤ 2 ^ (e + 2)) : (x + 1) / 2 ≤ 2 ^ (e + 1) := by
 rw [Nat.pow_succ] at h; omega
theorem c_sym {lf : Nat} (hlf : 33554432 ≤ lf) {N : Nat} (hN : N ≤ 16777216) : ∀ (e d a m b : Nat) (g : Nat → Pr), b - a ≤ 2 ^ (e + 1) → a < m → m < b → b ≤ N → Srt a m g → Srt m b g → Ord a m b g → Mrg (Cc lf (d + e + 4)) N a m b g := by
 intro e
 induction e with
 | zero =>
  intro d a m b g hp h1 h2 h3 L R O
  obtain rfl : m = a + 1 := by omega
  obtain ⟨g', a1, a2⟩ := sym_one (C := Cc lf (d + 3)) hlf hN c_less (by omega) h3 g R O
  refine ⟨g', (f46_eq (Cc lf (d + 3)) lf (rows N g) a ((a + 1 : Nat) : Int) b).trans ?_, a2⟩
  rw [sym_t, wrap_sub (i := a + 1) (j := a) (by omega) (by omega), show a + 1 - a = 1 by omega]
  exact a1
 | succ e ih =>
  intro d a m b g hp h1 h2 h3 L R O
  have E := f46_eq (Cc lf (d + (e + 1) + 3)) lf (rows N g) a m b
  rw [sym_t, wrap_sub (i := m) (j := a) (by omega) (by omega), wrap_sub (i := b) (j := m) (by omega) (by omega)] at E
  by_cases c1 : m = a + 1
  ·subst c1
   obtain ⟨g', a1, a2⟩ := sym_one (C := Cc lf (d + (e + 1) + 3)) hlf hN c_less (by omega) h3 g R O
   rw [show a + 1 - a = 1 by omega] at E
   exact ⟨g', E.trans a1, a2⟩
  ·rw [show (((m - a : Nat) : Int) == 1) = false by simp; omega, cond_f] at E
   by_cases c2 : b = m + 1
   ·subst c2
    obtain ⟨g', a1, a2⟩ := sym_one' (C := Cc lf (d + (e + 1) + 3)) hlf hN c_less (by omega) h3 g L O
    rw [show m + 1 - m = 1 by omega] at E
    exact ⟨g', E.trans a1, a2⟩
   ·rw [show (((b - m : Nat) : Int) == 1) = false by simp; omega, cond_f, mid_eq (i := a) (j := b) (by omega)] at E
    have hK : b - (a + b) / 2 ≤ 2 ^ (e + 1) := by
     have := half_pow hp
     omega
    have hsym : ∀ (x y z : Nat) (g : Nat → Pr), x < y → y < z → z ≤ N → z - x ≤ 2 ^ (e + 1) → Srt x y g → Srt y z g → Ord x y z g → Mrg (Cc lf (d + (e + 1) + 3)) N x y z g := fun x y z g k1 k2 k3 k4 k5 k6 k7 => ih d x y z g k4 k1 k2 k3 k5 k6 k7
    have hrot : ∀ (x y z : Nat) (g : Nat → Pr), x < y → y < z → z ≤ N → Cc lf (d + (e + 1) + 3) 63 [.sl (rows N g), .i .i64 (x : Int), .i .i64 (y : Int), .i .i64 (z : Int), .u] = some [.sl (rows N (rotF x y z g))] := fun x y z g k1 k2 k3 => c_rotate (d := d + (e + 1) + 1) hlf hN k1 k2 k3 g
    have fin : ∀ (lo hi r : Nat), lo ≤ r → r ≤ hi → a ≤ lo → hi ≤ m → hi ≤ (a + b) / 2 → (a + b) / 2 + m ≤ lo + b → (lo = a ∨ lo + b = (a + b) / 2 + m) → (hi = m ∨ hi = (a + b) / 2) →
     (∀ k, lo ≤ k → k < r → ltP (g k) (g ((a + b) / 2 + m - 1 - k))) → (∀ k, r ≤ k → k < hi → ltP (g ((a + b) / 2 + m - 1 - k)) (g k)) →
     ∃ g', symTail (Cc lf (d + (e + 1) + 3)) [.i .i64 0, .i .i64 (a : Int), .i .i64 (m : Int), .i .i64 (b : Int), .i .i64 (((a + b) / 2 : Nat) : Int), .i .i64 (((a + b) / 2 + m : Nat) : Int), .i .i64 (r : Int), .sl (rows N g)] = some [.sl (rows N g')] ∧ Srt a b g' ∧ Mem a b g g' ∧ Outs a b g g' := by
     intro lo hi r k1 k2 k3 k4 k5 k6 k7 k8 p q
     refine symTail_eq (Cc lf (d + (e + 1) + 3)) (e := (a + b) / 2 + m - r) hN hsym hrot (by omega) (by omega) (by omega) (by omega) h3 (by omega) rfl hK (by omega) g L R O (fun c t c1 c2 t1 t2 => ?_) (fun t c t1 t2 c1 c2 => ?_)
     ·have x := p (r - 1) (by omega) (by omega)
      rw [show (a + b) / 2 + m - 1 - (r - 1) = (a + b) / 2 + m - r by omega] at x
      have y : ltP (g c) (g ((a + b) / 2 + m - r)) := by
       by_cases e1 : c = r - 1
       ·rw [e1]; exact x
       ·exact (L c (r - 1) (by omega) (by omega) (by omega)).trans x
      by_cases e2 : t = (a + b) / 2 + m - r
      ·rw [e2]; exact y
      ·exact y.trans (R _ _ (by omega) (by omega) (by omega))
     ·have x := q r (Nat.le_refl _) (by omega)
      have y : ltP (g t) (g r) := by
       by_cases e1 : t = (a + b) / 2 + m - 1 - r
       ·rw [e1]; exact x
       ·exact (R t _ (by omega) (by omega) (by omega)).trans x
      by_cases e2 : c = r
      ·rw [e2]; exact y
      ·exact y.trans (L _ _ (by omega) (by omega) (by omega))
    by_cases c3 : (a + b) / 2 < m
    ·rw [iLt_t (by omega), cond_t, wrap_nn (i := (a + b) / 2) (j := m) (by omega), wrap_sub (i := (a + b) / 2 + m) (j := b) (by omega) (by omega)] at E
     obtain ⟨r, r1, r2, e1, p, q⟩ := c_search4 (C := Cc lf (d + (e + 1) + 3)) hlf hN c_less h1 h2 h3 g L R O (lo := (a + b) / 2 + m - b) (hi := (a + b) / 2) (by omega) (by omega) (by omega) (by omega) (by omega)
     rw [e1] at E
     obtain ⟨g', a1, a2⟩ := fin _ _ r r1 r2 (by omega) (by omega) (by omega) (by omega) (.inr (by omega)) (.inr rfl) p q
     exact ⟨g', E.trans a1, a2⟩
    ·rw [iLt_f (by omega), cond_f] at E
     obtain ⟨r, r1, r2, e1, p, q⟩ := c_search5 (C := Cc lf (d + (e + 1) + 3)) hlf hN c_less h1 h2 h3 g L R O (lo := a) (hi := m) (by omega) (by omega) (by omega) (by omega) (by omega)
     rw [e1] at E
     obtain ⟨g', a1, a2⟩ := fin _ _ r r1 r2 (by omega) (by omega) (by omega) (by omega) (.inl rfl) (.inl rfl) p q
     exact ⟨g', E.trans a1, a2⟩
theorem runs_one {s N p : Nat} {f g : Nat → Pr} (R : Runs s N f g p) (h : N ≤ p + s) (hp : p ≤ N) : Srt p N g ∧ Mem p N f g := by
 cases R with
 | done _ h1 => exact ⟨fun i j i1 i2 i3 => by omega, ⟨fun k k1 k2 => by omega, fun k k1 k2 => by omega⟩⟩
 | last _ h1 h2 hs hm => exact ⟨hs, hm⟩
 | step _ h1 hs hm t =>
  obtain rfl : N = p + s := by omega
  exact ⟨hs, hm⟩
theorem runs_of {s N p : Nat} {f g : Nat → Pr} (h : N ≤ p + s) (S : Srt p N g) (M : Mem p N f g) : Runs s N f g p := by
 by_cases c : p < N
 ·exact .last p c h S M
 ·exact .done p (by omega)
theorem mem_keep {a b : Nat} {f g g' : Nat → Pr} (M : Mem a b f g) (H : ∀ k, a ≤ k → k < b → g' k = g k) : Mem a b f g' :=
 ⟨fun k h1 h2 => by rw [H k h1 h2]; exact M.1 k h1 h2, fun k h1 h2 => by obtain ⟨j, a1, a2, e⟩ := M.2 k h1 h2; exact ⟨j, a1, a2, by rw [H j a1 a2]; exact e⟩⟩
theorem mem_from {a b : Nat} {f f' g : Nat → Pr} (M : Mem a b f g) (H : ∀ k, a ≤ k → k < b → f k = f' k) : Mem a b f' g :=
 ⟨fun k h1 h2 => by obtain ⟨j, a1, a2, e⟩ := M.1 k h1 h2; exact ⟨j, a1, a2, e.trans (H j a1 a2)⟩, fun k h1 h2 => by obtain ⟨j, a1, a2, e⟩ := M.2 k h1 h2; exact ⟨j, a1, a2, (H k h1 h2).symm.trans e⟩⟩
theorem c_symK {lf k0 : Nat} (hk0 : 24 ≤ k0) (hlf : 33554432 ≤ lf) {N : Nat} (hN : N ≤ 8388608) {a m b : Nat} {g : Nat → Pr} (h1 : a < m) (h2 : m < b) (h3 : b ≤ N) (L : Srt a m g) (R : Srt m b g) (O : Ord a m b g) : Mrg (Cc lf (k0 + 4)) N a m b g := by
 have := c_sym hlf (show N ≤ 16777216 by omega) 24 (k0 - 24) a m b g (Nat.le_trans (show b - a ≤ 33554432 by omega) (by decide)) h1 h2 h3 L R O
 rwa [show k0 - 24 + 24 + 4 = k0 + 4 by omega] at this
theorem c_blocks {lf d : Nat} (hlf : 33554432 ≤ lf) {N : Nat} (hN : N ≤ 8388608) (g : Nat → Pr) (I : Inc 0 N g) : ∀ (k p n : Nat) (h : Nat → Pr), N - p ≤ k → k < n → p ≤ N → (∀ j, p ≤ j → h j = g j) →
 ∃ (q : Nat) (h' : Nat → Pr), f30_0 (Cc lf (d + 4)) lf (N : Int) n (p : Int) ((p + 20 : Nat) : Int) (rows N h) = some [T.i .i64 0, T.i .i64 (N : Int), T.i .i64 20, T.i .i64 (q : Int), T.sl (rows N h')] ∧ p ≤ q ∧ q ≤ N ∧ (∀ j, q ≤ j → h' j = g j) ∧ (∀ j, j < p → h' j = h j) ∧
  ∀ h'', Outs q N h' h'' → Srt q N h'' → Mem q N g h'' → Runs 20 N g h'' p := by
 intro k
 induction k with
 | zero =>
  intro p n h hk hn hp H
  obtain ⟨n, rfl⟩ : ∃ z, n = z + 1 := ⟨n - 1, by omega⟩
  rw [f30_0_u]
  unfold f30_0_s
  rw [iLe_f (by omega)]
  exact ⟨p, h, rfl, Nat.le_refl _, hp, H, fun _ _ => rfl, fun h'' O S M => .done p (by omega)⟩
 | succ k ih =>
  intro p n h hk hn hp H
  obtain ⟨n, rfl⟩ : ∃ z, n = z + 1 := ⟨n - 1, by omega⟩
  rw [f30_0_u]
  unfold f30_0_s
  by_cases c : p + 20 ≤ N
  ·rw [iLe_t (by omega), cond_t]
   obtain ⟨h1, e, S1, M1, O1⟩ := c_insSort (lf := lf) (d := d) hlf (show N ≤ 16777216 by omega) (show p ≤ p + 20 by omega) c h (fun i j i1 i2 i3 => by rw [H i i1, H j (by omega)]; exact I i j (by omega) i2 (by omega))
   rw [e]
   simp only [Option.bind_some, nth0, asL_l]
   rw [show (((p + 20 : Nat) : Int) + 20) = ((p + 20 + 20 : Nat) : Int) by omega, wrap_in (x := ((p + 20 + 20 : Nat) : Int)) (by omega) (by omega)]
   obtain ⟨q, h', e1, q1, q2, q3, q4, q5⟩ := ih (p + 20) n h1 (by omega) (by omega) c (fun j hj => by rw [O1 j (by omega)]; exact H j (by omega))
   refine ⟨q, h', e1, by omega, q2, q3, fun j hj => (q4 j (by omega)).trans (O1 j (by omega)), fun h'' O S M => ?_⟩
   have kp : ∀ j, p ≤ j → j < p + 20 → h'' j = h1 j := fun j j1 j2 => (O j (by omega)).trans (q4 j j2)
   exact .step p c (srt_keep S1 kp) (mem_keep (mem_from M1 fun j j1 _ => H j j1) kp) (q5 h'' O S M)
  ·rw [iLe_f (by omega)]
   exact ⟨p, h, rfl, Nat.le_refl _, hp, H, fun _ _ => rfl, fun h'' O S M => runs_of (by omega) S M⟩
theorem c_merges {lf k0 : Nat} (hk0 : 24 ≤ k0) (hlf : 33554432 ≤ lf) {N s : Nat} (hN : N ≤ 8388608) (hs : 0 < s) (hs2 : s ≤ 16777216) (g : Nat → Pr) (I : Inc 0 N g) : ∀ (k p n : Nat) (h : Nat → Pr), N - p ≤ k → k < n → p ≤ N → Runs s N g h p →
 ∃ (q : Nat) (h' : Nat → Pr), f30_2 (Cc lf (k0 + 4)) lf (N : Int) (s : Int) n (p : Int) ((p + 2 * s : Nat) : Int) (rows N h) = some [T.i .i64 0, T.i .i64 (N : Int), T.i .i64 (s : Int), T.i .i64 (q : Int), T.sl (rows N h')] ∧ p ≤ q ∧ q ≤ N ∧ N < q + 2 * s ∧ Runs s N g h' q ∧ (∀ j, j < p → h' j = h j) ∧
  ∀ h'', Outs q N h' h'' → Runs (2 * s) N g h'' q → Runs (2 * s) N g h'' p := by
 intro k
 induction k with
 | zero =>
  intro p n h hk hn hp R
  obtain ⟨n, rfl⟩ : ∃ z, n = z + 1 := ⟨n - 1, by omega⟩
  rw [f30_2_u]
  unfold f30_2_s
  rw [iLe_f (by omega)]
  exact ⟨p, h, rfl, Nat.le_refl _, hp, by omega, R, fun _ _ => rfl, fun h'' _ R => R⟩
 | succ k ih =>
  intro p n h hk hn hp R
  obtain ⟨n, rfl⟩ : ∃ z, n = z + 1 := ⟨n - 1, by omega⟩
  rw [f30_2_u]
  unfold f30_2_s
  by_cases c : p + 2 * s ≤ N
  ·rw [iLe_t (by omega), cond_t, wrap_nn (i := p) (j := s) (by omega), show (2 : Int) * (s : Int) = ((2 * s : Nat) : Int) by omega, wrap_in (x := ((2 * s : Nat) : Int)) (by omega) (by omega), wrap_nn (i := p + 2 * s) (j := 2 * s) (by omega)]
   have R1 : Srt p (p + s) h ∧ Mem p (p + s) g h ∧ Runs s N g h (p + s) := by
    cases R with
    | done _ h1 => omega
    | last _ h1 h2 hs hm => omega
    | step _ h1 hs hm t => exact ⟨hs, hm, t⟩
   have R2 : Srt (p + s) (p + 2 * s) h ∧ Mem (p + s) (p + 2 * s) g h ∧ Runs s N g h (p + 2 * s) := by
    have e : p + s + s = p + 2 * s := by omega
    cases R1.2.2 with
    | done _ h1 => omega
    | last _ h1 h2 hs hm =>
     obtain rfl : N = p + 2 * s := by omega
     exact ⟨hs, hm, .done _ (Nat.le_refl _)⟩
    | step _ h1 hs hm t => rw [e] at hs hm t; exact ⟨hs, hm, t⟩
   obtain ⟨h1, e, S1, M1, O1⟩ := c_symK (lf := lf) hk0 hlf hN (a := p) (m := p + s) (b := p + 2 * s) (g := h) (by omega) (by omega) c R1.1 R2.1 (ord_mem I c R1.2.1 R2.2.1)
   rw [e]
   simp only [Option.bind_some, nth0, asL_l]
   obtain ⟨q, h', e1, q1, q2, q3, q4, q5, q6⟩ := ih (p + 2 * s) n h1 (by omega) (by omega) c (R2.2.2.keep fun j j1 _ => O1 j (by omega))
   refine ⟨q, h', e1, by omega, q2, q3, q4, fun j hj => (q5 j (by omega)).trans (O1 j (by omega)), fun h'' O R'' => ?_⟩
   have kp : ∀ j, p ≤ j → j < p + 2 * s → h'' j = h1 j := fun j j1 j2 => (O j (by omega)).trans (q5 j j2)
   exact .step p c (srt_keep S1 kp) (mem_keep ((mem_join (by omega) (by omega) R1.2.1 R2.2.1).trans M1) kp) (q6 h'' O R'')
  ·rw [iLe_f (by omega)]
   exact ⟨p, h, rfl, Nat.le_refl _, hp, by omega, R, fun _ _ => rfl, fun h'' _ R => R⟩
theorem c_passes {lf k0 : Nat} (hk0 : 24 ≤ k0) (hlf : 33554432 ≤ lf) {N : Nat} (hN : N ≤ 8388608) (g : Nat → Pr) (I : Inc 0 N g) : ∀ (k s n : Nat) (h : Nat → Pr), N - s ≤ k → k < n → 0 < s → s ≤ 16777216 → Runs s N g h 0 →
 ∃ h', f30_1 (Cc lf (k0 + 4)) lf n (N : Int) (s : Int) (rows N h) = some [T.i .i64 0, T.sl (rows N h')] ∧ Srt 0 N h' ∧ Mem 0 N g h' := by
 intro k
 induction k with
 | zero =>
  intro s n h hk hn hs hs2 R
  obtain ⟨n, rfl⟩ : ∃ z, n = z + 1 := ⟨n - 1, by omega⟩
  rw [f30_1_u]
  unfold f30_1_s
  rw [iLt_f (by omega)]
  exact ⟨h, rfl, runs_one R (by omega) (Nat.zero_le _)⟩
 | succ k ih =>
  intro s n h hk hn hs hs2 R
  obtain ⟨n, rfl⟩ : ∃ z, n = z + 1 := ⟨n - 1, by omega⟩
  rw [f30_1_u]
  unfold f30_1_s
  by_cases c : s < N
  ·rw [iLt_t (by omega), cond_t]
   have e0 : IntKind.wrap .i64 ((2 : Int) * (s : Int)) = ((0 + 2 * s : Nat) : Int) := by rw [wrap_in (by omega) (by omega)]; omega
   rw [e0]
   obtain ⟨q, h1, e1, q1, q2, q3, q4, q5, q6⟩ := c_merges (lf := lf) hk0 hlf hN hs hs2 g I N 0 lf h (by omega) (by omega) (Nat.zero_le _) R
   rw [show ((0 : Nat) : Int) = 0 from rfl] at e1
   dsimp only
   rw [e1]
   simp only [Option.bind_some, nth0, nthS, asI_i, asL_l]
   rw [wrap_nn (i := q) (j := s) (by omega), show (s : Int) * 2 = ((s * 2 : Nat) : Int) by omega, wrap_in (x := ((s * 2 : Nat) : Int)) (by omega) (by omega)]
   by_cases c2 : q + s < N
   ·rw [iLt_t (by omega), cond_t]
    have R1 : Srt q (q + s) h1 ∧ Mem q (q + s) g h1 ∧ Runs s N g h1 (q + s) := by
     cases q4 with
     | done _ h1 => omega
     | last _ h1 h2 hs hm => omega
     | step _ h1 hs hm t => exact ⟨hs, hm, t⟩
    have R2 := runs_one R1.2.2 (by omega) (by omega)
    obtain ⟨h2, e2, S2, M2, O2⟩ := c_symK (lf := lf) hk0 hlf hN (a := q) (m := q + s) (b := N) (g := h1) (by omega) c2 (Nat.le_refl _) R1.1 R2.1 (ord_mem I (Nat.le_refl _) R1.2.1 R2.2)
    rw [e2]
    simp only [Option.bind_some, nth0, asL_l]
    have F := q6 h2 O2 (runs_of (by omega) S2 ((mem_join (by omega) (by omega) R1.2.1 R2.2).trans M2))
    rw [show 2 * s = s * 2 by omega] at F
    exact ih (s * 2) n h2 (by omega) (by omega) (by omega) (by omega) F
   ·rw [iLt_f (by omega), cond_f]
    have R1 := runs_one q4 (by omega) q2
    have F := q6 h1 (Outs.refl _ _ _) (runs_of (by omega) R1.1 R1.2)
    rw [show 2 * s = s * 2 by omega] at F
    exact ih (s * 2) n h1 (by omega) (by omega) (by omega) (by omega) F
  ·rw [iLt_f (by omega)]
   exact ⟨h, rfl, runs_one R (by omega) (Nat.zero_le _)⟩
theorem stable_gen (C : Orc) {lf : Nat} {N q : Nat} (g h h1 h2 : Nat → Pr)
 (e : f30_0 C lf (N : Int) lf 0 20 (rows N g) = some [T.i .i64 0, T.i .i64 (N : Int), T.i .i64 20, T.i .i64 (q : Int), T.sl (rows N h)])
 (e1 : C 45 [.sl (rows N h), .i .i64 (q : Int), .i .i64 (N : Int), .u] = some [.sl (rows N h1)])
 (e2 : f30_1 C lf lf (N : Int) 20 (rows N h1) = some [T.i .i64 0, T.sl (rows N h2)]) : f30 C lf (rows N g) N = some [.sl (rows N h2)] := by
 unfold f30 f30_t
 dsimp only
 rw [e]
 simp only [Option.bind_some, nth0, nthS, asI_i, asL_l]
 rw [e1]
 simp only [Option.bind_some, nth0, nthS, asI_i, asL_l]
 rw [e2]
 rfl
theorem c_stable {lf k0 : Nat} (hk0 : 24 ≤ k0) (hlf : 33554432 ≤ lf) {N : Nat} (hN : N ≤ 8388608) (g : Nat → Pr) (I : Inc 0 N g) :
 ∃ g', Cc lf (k0 + 5) 30 [.sl (rows N g), .i .i64 (N : Int), .u] = some [.sl (rows N g')] ∧ Srt 0 N g' ∧ Mem 0 N g g' := by
 obtain ⟨q, h, e, q1, q2, q3, q4, q5⟩ := c_blocks (lf := lf) (d := k0) hlf hN g I N 0 lf g (by omega) (by omega) (Nat.zero_le _) (fun _ _ => rfl)
 obtain ⟨h1, e1, S1, M1, O1⟩ := c_insSort (lf := lf) (d := k0) hlf (show N ≤ 16777216 by omega) q2 (Nat.le_refl _) h (fun i j i1 i2 i3 => by rw [q3 i i1, q3 j (by omega)]; exact I i j (by omega) i2 i3)
 have R := q5 h1 O1 S1 (mem_from M1 fun j j1 _ => q3 j j1)
 obtain ⟨h2, e2, S2, M2⟩ := c_passes (lf := lf) hk0 hlf hN g I N 20 lf h1 (by omega) (by omega) (by omega) (by omega) R
 exact ⟨h2, (f30_eq (Cc lf (k0 + 4)) lf (rows N g) N).trans (stable_gen (Cc lf (k0 + 4)) g h h1 h2 e e1 e2), S2, M2⟩
theorem sortStable_gen (C : Orc) (lf : Nat) {N : Nat} (g g' : Nat → Pr) (e : C 30 [.sl (rows N g), .i .i64 (N : Int), .u] = some [.sl (rows N g')]) : funK C env lf 6 fi18 [.sl (rows N g), .u] = some [.sl (rows N g')] := by
 rw [f18_eq]
 unfold f18 f18_t
 rw [rows_len, e]
 rfl
theorem c_sortStable {lf k0 : Nat} (hk0 : 24 ≤ k0) (hlf : 33554432 ≤ lf) {N : Nat} (hN : N ≤ 8388608) (g : Nat → Pr) (I : Inc 0 N g) :
 ∃ g', Cc lf (k0 + 6) 18 [.sl (rows N g), .u] = some [.sl (rows N g')] ∧ Srt 0 N g' ∧ Mem 0 N g g' := by
 obtain ⟨g', e, S, M⟩ := c_stable (lf := lf) hk0 hlf hN g I
 refine ⟨g', ?_, S, M⟩
 show funK (Cc lf (k0 + 5)) env lf 6 fi18 [.sl (rows N g), .u] = _
 exact sortStable_gen (Cc lf (k0 + 5)) lf g g' e
def tabI (M : Nat) (o : Nat → Int) : List T := (List.range M).map fun i => T.i .i64 (o i)
theorem tabI_len (M : Nat) (o : Nat → Int) : (tabI M o).length = M := by simp [tabI]
theorem tabI_get {M i : Nat} {o : Nat → Int} (h : i < M) : (tabI M o).getD i T.u = T.i .i64 (o i) := by
 simp [tabI, List.getD_eq_getElem?_getD, h]
theorem tabI_set {M i : Nat} {o : Nat → Int} {x : Int} : (tabI M o).set i (T.i .i64 x) = tabI M (fun k => if k = i then x else o k) := by
 apply List.ext_getElem?
 intro k
 rw [List.getElem?_set]
 by_cases e : i = k
 ·subst e
  by_cases hi : i < M
  ·simp [tabI, hi]
  ·simp [tabI, hi]
 ·rw [if_neg e]
  by_cases hi : k < M
  ·simp [tabI, hi, Ne.symm e]
  ·simp [tabI, hi]
theorem tabI_congr {M : Nat} {o o' : Nat → Int} (h : ∀ k, k < M → o k = o' k) : tabI M o = tabI M o' :=
 List.map_congr_left fun k hk => by rw [h k (List.mem_range.1 hk)]
theorem tabI_app {M : Nat} {o : Nat → Int} {x : Int} : tabI M o ++ [T.i .i64 x] = tabI (M + 1) (fun k => if k = M then x else o k) := by
 unfold tabI
 rw [List.range_succ, List.map_append]
 congr 1
 ·exact List.map_congr_left fun k hk => by have := List.mem_range.1 hk; show T.i .i64 (o k) = T.i .i64 (if k = M then x else o k); rw [if_neg (by omega)]
 ·simp
theorem tabI_tls {M : Nat} {o : Nat → Int} : tls (tabI M o) = 0 := by
 unfold tabI
 generalize List.range M = l
 induction l with
 | nil => rfl
 | cons a l ih => simp only [List.map_cons, tls, tl, ih]
theorem tabI_zero (o : Nat → Int) : tabI 0 o = [] := rfl
def rootP (l : List T) (a : Nat) : Option Pr := match recA l (a : Int) with
 | some r => bif r.1 == 4 then some ((a : Int), r.2.1) else none
 | none => none
def recs (l : List T) (n : Nat) : List Pr := (List.range n).filterMap (rootP l)
theorem recs_succ (l : List T) (n : Nat) : recs l (n + 1) = recs l n ++ (rootP l n).toList := by
 unfold recs
 rw [List.range_succ, List.filterMap_append]
 congr 1
theorem rootP_at {l : List T} {a : Nat} {x : Pr} (h : rootP l a = some x) : x.1 = (a : Int) := by
 unfold rootP at h
 split at h
 ·rename_i r _
  cases e : r.1 == 4 with
  | true => rw [e] at h; cases h; rfl
  | false => rw [e] at h; cases h
 ·cases h
theorem recs_lt {l : List T} {n : Nat} {x : Pr} (h : x ∈ recs l n) : 0 ≤ x.1 ∧ x.1 < n := by
 unfold recs at h
 obtain ⟨a, h1, h2⟩ := List.mem_filterMap.1 h
 have := List.mem_range.1 h1
 have := rootP_at h2
 omega
theorem recs_len (l : List T) (n : Nat) : (recs l n).length ≤ n := by
 unfold recs
 exact Nat.le_trans (List.length_filterMap_le _ _) (by simp)
theorem recs_inc (l : List T) : ∀ n, (recs l n).Pairwise fun x y => x.1 < y.1
 | 0 => List.Pairwise.nil
 | n + 1 => by
  rw [recs_succ, List.pairwise_append]
  refine ⟨recs_inc l n, ?_, fun x hx y hy => ?_⟩
  ·cases rootP l n with
   | none => exact List.Pairwise.nil
   | some z => exact List.pairwise_singleton _ _
  ·have h1 := recs_lt hx
   have h2 := rootP_at (Option.mem_toList.1 hy)
   omega
def fn (A : List Pr) : Nat → Pr := fun i => A.getD i (0, 0)
theorem map_rows (A : List Pr) : A.map rt = rows A.length (fn A) := by
 apply List.ext_getElem
 ·simp [rows]
 ·intro i h1 h2
  simp at h1
  simp [rows, fn, List.getD_eq_getElem?_getD, h1]
theorem fn_mem {A : List Pr} {k : Nat} (h : k < A.length) : fn A k ∈ A := by
 unfold fn
 rw [List.getD_eq_getElem?_getD, List.getElem?_eq_getElem h]
 exact List.getElem_mem h
theorem mem_fn {A : List Pr} {x : Pr} (h : x ∈ A) : ∃ k, k < A.length ∧ fn A k = x := by
 obtain ⟨k, hk, e⟩ := List.getElem_of_mem h
 exact ⟨k, hk, by unfold fn; rw [List.getD_eq_getElem?_getD, List.getElem?_eq_getElem hk]; exact e⟩
theorem fn_inc {A : List Pr} (h : A.Pairwise fun x y => x.1 < y.1) : Inc 0 A.length (fn A) := fun i j _ h2 h3 => by
 have := List.pairwise_iff_getElem.1 h i j (by omega) h3 h2
 unfold fn
 rw [List.getD_eq_getElem?_getD, List.getD_eq_getElem?_getD, List.getElem?_eq_getElem (by omega), List.getElem?_eq_getElem h3]
 exact this
theorem srt_pw {N : Nat} {g : Nat → Pr} (S : Srt 0 N g) : ((List.range N).map g).Pairwise ltP := by
 rw [List.pairwise_map]
 refine List.pairwise_iff_getElem.2 fun i j h1 h2 h3 => ?_
 simp only [List.length_range] at h1 h2
 simp only [List.getElem_range]
 exact S i j (Nat.zero_le _) h3 h2
theorem uniq : ∀ {A B : List Pr}, A.Pairwise ltP → B.Pairwise ltP → (∀ x, x ∈ A ↔ x ∈ B) → A = B
 | [], [], _, _, _ => rfl
 | [], b :: B, _, _, h => by have := (h b).2 (by simp); cases this
 | a :: A, [], _, _, h => by have := (h a).1 (by simp); cases this
 | a :: A, b :: B, hA, hB, h => by
  have hA' := List.pairwise_cons.1 hA
  have hB' := List.pairwise_cons.1 hB
  have e : a = b := by
   rcases List.mem_cons.1 ((h a).1 (by simp)) with e | e
   ·exact e
   ·rcases List.mem_cons.1 ((h b).2 (by simp)) with e' | e'
    ·exact e'.symm
    ·exact ((hB'.1 a e).trans (hA'.1 b e')).irr.elim
  subst e
  rw [uniq hA'.2 hB'.2 fun x => ⟨fun hx => ?_, fun hx => ?_⟩]
  ·rcases List.mem_cons.1 ((h x).1 (by simp [hx])) with e | e
   ·subst e; exact (hA'.1 x hx).irr.elim
   ·exact e
  ·rcases List.mem_cons.1 ((h x).2 (by simp [hx])) with e | e
   ·subst e; exact (hB'.1 x hx).irr.elim
   ·exact e
def Sorted (l : List T) (n N : Nat) (g : Nat → Pr) : Prop := Srt 0 N g ∧ ∀ x, (∃ k, k < N ∧ g k = x) ↔ x ∈ recs l n
theorem sorted_uniq {l : List T} {n N N' : Nat} {g g' : Nat → Pr} (S : Sorted l n N g) (S' : Sorted l n N' g') : tabI N (fun t => (g t).1) = tabI N' (fun t => (g' t).1) := by
 have e : (List.range N).map g = (List.range N').map g' := uniq (srt_pw S.1) (srt_pw S'.1) fun x => by
  have h1 := S.2 x
  have h2 := S'.2 x
  simp only [List.mem_map, List.mem_range]
  exact h1.trans h2.symm
 have := congrArg (List.map fun p : Pr => T.i .i64 p.1) e
 rw [List.map_map, List.map_map] at this
 exact this
theorem sorted_in {l : List T} {n N : Nat} {g : Nat → Pr} (S : Sorted l n N g) {k : Nat} (h : k < N) : 0 ≤ (g k).1 ∧ (g k).1 < n := recs_lt ((S.2 _).1 ⟨k, h, rfl⟩)
theorem getR_some {r : Int × Int × List T} : getRecR (some r) = [recT (some r), .b true] := rfl
theorem c_iRootsOf {lf k0 : Nat} (hk0 : 24 ≤ k0) (hlf : 33554432 ≤ lf) (l : List T) (ops : Int) (fs : List T) (dn : Bool) (sq : Int) (hb : pgsByt l) (hs : l.length + tls l ≤ 1048576) :
 ∃ N g, Cc lf (k0 + 7) 7 [.st [.sl l, .i .i64 ops, .sl fs, .b dn, .i .i64 sq]] = some [.sl (tabI N fun t => (g t).1)] ∧ Sorted l (8 * l.length) N g ∧ N ≤ 8 * l.length := by
 have step : ∀ a : Nat, a < 8 * l.length → Cc lf (k0 + 6) 29 [.st [.sl l, .i .i64 ops, .sl fs, .b dn, .i .i64 sq], .i .i64 (a : Int)] = some (getRecR (recA l a)) := fun a ha => c_recAt (d := k0 + 1) hlf l ops fs dn sq a (wf64 (by omega) (by omega)) hb (by omega)
 have L : ∀ (C : Orc), (∀ a : Nat, a < 8 * l.length → C 29 [.st [.sl l, .i .i64 ops, .sl fs, .b dn, .i .i64 sq], .i .i64 (a : Int)] = some (getRecR (recA l a))) → ∀ (k a n : Nat), a + k = 8 * l.length → k < n → f7_0 C lf dn l fs ops sq n (a : Int) ((recs l a).map rt) = some [T.i .i64 0, T.sl ((recs l (8 * l.length)).map rt)] := by
  intro C hC k
  induction k with
  | zero =>
   intro a n ha hn
   obtain ⟨n, rfl⟩ : ∃ z, n = z + 1 := ⟨n - 1, by omega⟩
   rw [f7_0_u]
   unfold f7_0_s
   rw [wrap_in (x := (l.length : Int) * 8) (by omega) (by omega), iLt_f (by omega), show a = 8 * l.length by omega]
   rfl
  | succ k ih =>
   intro a n ha hn
   obtain ⟨n, rfl⟩ : ∃ z, n = z + 1 := ⟨n - 1, by omega⟩
   rw [f7_0_u]
   unfold f7_0_s
   rw [wrap_in (x := (l.length : Int) * 8) (by omega) (by omega), iLt_t (by omega), hC a (by omega), wrap_p1 (i := a) (by omega)]
   have I := ih (a + 1) n (by omega) (by omega)
   rw [recs_succ] at I
   have hl : ((recs l a).map rt).length ≤ 1073741830 := by rw [List.length_map]; have := recs_len l a; omega
   unfold rootP at I
   cases e : recA l (a : Int) with
   | none =>
    rw [e] at I
    simp only [Option.toList_none, List.append_nil] at I
    exact I
   | some r =>
    obtain ⟨r1, r2, r3⟩ := r
    rw [e] at I
    simp only [getR_some, recT, Option.bind_some, nth0, nthS, cell0, cellS, asB_b, asI_i, cond_t] at I ⊢
    cases e4 : r1 == 4 with
    | true =>
     rw [e4] at I
     simp only [cond_t, Option.toList_some, List.map_append, List.map_cons, List.map_nil] at I ⊢
     rw [nLe_app hl]
     exact I
    | false =>
     rw [e4] at I
     simp only [cond_f, Option.toList_none, List.append_nil] at I ⊢
     exact I
 have G : ∀ (C : Orc) {N : Nat} (g : Nat → Pr), N ≤ 8388608 → ∀ (k i n : Nat), i + k = N → k < n → f7_1 C lf [T.sl (rows N g)] n (i : Int) (tabI i fun t => (g t).1) = some [T.i .i64 0, T.sl (tabI N fun t => (g t).1)] := by
  intro C N g hN k
  induction k with
  | zero =>
   intro i n ha hn
   obtain ⟨n, rfl⟩ : ∃ z, n = z + 1 := ⟨n - 1, by omega⟩
   rw [f7_1_u]
   unfold f7_1_s
   simp only [nth0, asL_l, rows_len]
   rw [iLt_f (by omega), show i = N by omega]
   rfl
  | succ k ih =>
   intro i n ha hn
   obtain ⟨n, rfl⟩ : ∃ z, n = z + 1 := ⟨n - 1, by omega⟩
   rw [f7_1_u]
   unfold f7_1_s
   simp only [nth0, asL_l, rows_len, Int.toNat_natCast]
   rw [iLt_t (by omega), inR_nat (show i < N by omega), rows_get (show i < N by omega), nLe_app (by rw [tabI_len]; omega), wrap_p1 (i := i) (by omega)]
   have I := ih (i + 1) n (by omega) (by omega)
   rw [show tabI (i + 1) (fun t => (g t).1) = tabI i (fun t => (g t).1) ++ [T.i .i64 (g i).1] by
    rw [tabI_app]; exact tabI_congr fun t ht => by by_cases e : t = i <;> simp [e]] at I
   exact I
 have hN : (recs l (8 * l.length)).length ≤ 8388608 := by have := recs_len l (8 * l.length); omega
 obtain ⟨g', e, S, M⟩ := c_sortStable (lf := lf) hk0 hlf hN (fn (recs l (8 * l.length))) (fn_inc (recs_inc _ _))
 refine ⟨_, g', ?_, ⟨S, fun x => ⟨fun ⟨k, h1, h2⟩ => ?_, fun hx => ?_⟩⟩, recs_len _ _⟩
 ·show funK (Cc lf (k0 + 6)) env lf 6 fi7 [.st [.sl l, .i .i64 ops, .sl fs, .b dn, .i .i64 sq]] = _
  generalize Cc lf (k0 + 6) = C at step e
  rw [f7_eq]
  unfold f7 f7_t
  have L0 := L C step (8 * l.length) 0 lf (by omega) (by omega)
  rw [map_rows (recs l (8 * l.length))] at L0
  have G0 := G C g' hN _ 0 lf (Nat.zero_add _) (by omega)
  dsimp only
  rw [show ((0 : Nat) : Int) = 0 from rfl] at L0 G0
  rw [show (List.map rt (recs l 0)) = [] from rfl] at L0
  rw [tabI_zero] at G0
  rw [L0]
  simp only [Option.bind_some, nth0, nthS, asL_l]
  rw [e]
  simp only [Option.bind_some]
  rw [G0]
  rfl
 ·obtain ⟨j, _, hj, e'⟩ := M.1 k (Nat.zero_le _) h1
  rw [← h2, e']; exact fn_mem hj
 ·obtain ⟨k, hk, e'⟩ := mem_fn hx
  obtain ⟨j, _, hj, e2⟩ := M.2 k (Nat.zero_le _) hk
  exact ⟨j, hj, e2.symm.trans e'⟩
def insP (k : Nat) (p : Pr) (g : Nat → Pr) : Nat → Pr := fun t => if t < k then g t else if t = k then p else g (t - 1)
theorem insP_sorted {l : List T} {n N k : Nat} {g : Nat → Pr} {p : Pr} (S : Sorted l n N g) (hp : rootP l n = some p) (hk : k ≤ N) (h1 : k = 0 ∨ ¬ (g (k - 1)).2 < p.2) (h2 : ∀ t, k ≤ t → t < N → (g t).2 < p.2) : Sorted l (n + 1) (N + 1) (insP k p g) := by
 have hpn := rootP_at hp
 have lo : ∀ t, t < k → ltP (g t) p := fun t ht => by
  have b := sorted_in S (show k - 1 < N by omega)
  have x : ltP (g (k - 1)) p := lt_of_not (by omega) (h1.resolve_left (by omega))
  by_cases e : t = k - 1
  ·rw [e]; exact x
  ·exact (S.1 t (k - 1) (Nat.zero_le _) (by omega) (by omega)).trans x
 refine ⟨fun i j _ hij hj => ?_, fun x => ⟨fun ⟨t, ht, e⟩ => ?_, fun hx => ?_⟩⟩
 ·unfold insP
  by_cases c1 : j < k
  ·rw [if_pos c1, if_pos (by omega)]; exact S.1 i j (Nat.zero_le _) hij (by omega)
  ·rw [if_neg c1]
   by_cases c2 : j = k
   ·rw [if_pos c2, if_pos (by omega)]; exact lo i (by omega)
   ·rw [if_neg c2]
    by_cases c3 : i < k
    ·rw [if_pos c3]; exact (lo i c3).trans (lt_of_less (h2 (j - 1) (by omega) (by omega)))
    ·rw [if_neg c3]
     by_cases c4 : i = k
     ·rw [if_pos c4]; exact lt_of_less (h2 (j - 1) (by omega) (by omega))
     ·rw [if_neg c4]; exact S.1 (i - 1) (j - 1) (Nat.zero_le _) (by omega) (by omega)
 ·rw [recs_succ, hp, List.mem_append]
  unfold insP at e
  by_cases c1 : t < k
  ·rw [if_pos c1] at e; exact .inl ((S.2 x).1 ⟨t, by omega, e⟩)
  ·rw [if_neg c1] at e
   by_cases c2 : t = k
   ·rw [if_pos c2] at e; subst e; exact .inr (by simp)
   ·rw [if_neg c2] at e; exact .inl ((S.2 x).1 ⟨t - 1, by omega, e⟩)
 ·rw [recs_succ, hp, List.mem_append] at hx
  rcases hx with hx | hx
  ·obtain ⟨t, ht, e⟩ := (S.2 x).2 hx
   by_cases c1 : t < k
   ·exact ⟨t, by omega, by unfold insP; rw [if_pos c1]; exact e⟩
   ·exact ⟨t + 1, by omega, by unfold insP; rw [if_neg (by omega), if_neg (by omega)]; exact e⟩
  ·obtain rfl : x = p := by simpa using hx
   exact ⟨k, by omega, by unfold insP; rw [if_neg (by omega), if_pos rfl]⟩
theorem sorted_none {l : List T} {n N : Nat} {g : Nat → Pr} (S : Sorted l n N g) (hp : rootP l n = none) : Sorted l (n + 1) N g := ⟨S.1, fun x => by
 rw [recs_succ, hp, Option.toList_none, List.append_nil]; exact S.2 x⟩
theorem c_sInner (C : Orc) {lf : Nat} {N : Nat} (hN : N ≤ 8388608) (g : Nat → Pr) (rk rs : Int) (rb : List T) (x142 : Int) (x143 : List T) (x144 : Int) (x145 : List T) (x146 : Bool) (x147 : Int) : ∀ (k n : Nat) (o q : Nat → Int), k < n → k ≤ N →
 (∀ t, t < k → o t = (g t).1 ∧ q t = (g t).2) → (∀ t, k < t → t ≤ N → o t = (g (t - 1)).1 ∧ q t = (g (t - 1)).2) → (∀ t, k ≤ t → t < N → (g t).2 < rs) →
 ∃ (k' : Nat) (o' q' : Nat → Int), f5_1 C lf [recT (some (rk, rs, rb)), .b true] x142 x143 x144 x145 x146 x147 n (k : Int) (tabI (N + 1) o) (tabI (N + 1) q) =
  some [T.i .i64 0, T.i .i64 x142, T.i .i64 (k' : Int), T.sl x143, T.i .i64 x144, T.sl x145, T.b x146, T.i .i64 x147, T.sl (tabI (N + 1) o'), T.sl (tabI (N + 1) q'), T.i .i64 rk, T.i .i64 rs, T.sl rb] ∧ k' ≤ N ∧
  (∀ t, t < k' → o' t = (g t).1 ∧ q' t = (g t).2) ∧ (∀ t, k' < t → t ≤ N → o' t = (g (t - 1)).1 ∧ q' t = (g (t - 1)).2) ∧ (∀ t, k' ≤ t → t < N → (g t).2 < rs) ∧ (k' = 0 ∨ ¬ (g (k' - 1)).2 < rs) := by
 intro k
 induction k with
 | zero =>
  intro n o q hn hk h1 h2 h3
  obtain ⟨n, rfl⟩ : ∃ z, n = z + 1 := ⟨n - 1, by omega⟩
  rw [f5_1_u]
  unfold f5_1_s
  rw [iLt_f (by omega)]
  exact ⟨0, o, q, rfl, hk, h1, h2, h3, .inl rfl⟩
 | succ k ih =>
  intro n o q hn hk h1 h2 h3
  obtain ⟨n, rfl⟩ : ∃ z, n = z + 1 := ⟨n - 1, by omega⟩
  rw [f5_1_u]
  unfold f5_1_s
  rw [iLt_t (by omega), wrap_s1 (i := k) (by omega)]
  simp only [Int.toNat_natCast, tabI_len, List.length_set]
  rw [inR_nat (show k < N + 1 by omega), inR_nat (show k + 1 < N + 1 by omega), tabI_get (show k < N + 1 by omega), tabI_get (show k < N + 1 by omega)]
  simp only [recT, nth0, cell0, cellS, asI_i, asL_l, cond_t, (h1 k (Nat.lt_succ_self _)).1, (h1 k (Nat.lt_succ_self _)).2]
  by_cases c : (g k).2 < rs
  ·rw [iLt_t c, cond_t, tabI_set, tabI_set]
   refine ih n _ _ (by omega) (by omega) (fun t ht => ?_) (fun t ht ht' => ?_) (fun t ht ht' => ?_)
   ·simp only [if_neg (show ¬ t = k + 1 by omega)]; exact h1 t (by omega)
   ·by_cases e : t = k + 1
    ·subst e; simp
    ·simp only [if_neg e]; exact h2 t (by omega) ht'
   ·by_cases e : t = k
    ·rw [e]; exact c
    ·exact h3 t (by omega) ht'
  ·rw [iLt_f c, cond_f]
   exact ⟨k + 1, o, q, rfl, hk, h1, h2, h3, .inr c⟩
theorem readAtR_root (l : List T) (a : Nat) : (rootP l a = none ∧ readAtR l (a : Int) 4 = [recT none, .b false]) ∨ ∃ rk rs rb, rootP l a = some ((a : Int), rs) ∧ readAtR l (a : Int) 4 = [recT (some (rk, rs, rb)), .b true] := by
 unfold rootP readAtR
 cases recA l (a : Int) with
 | none => exact .inl ⟨rfl, rfl⟩
 | some r =>
  obtain ⟨rk, rs, rb⟩ := r
  simp only
  cases rk == 4 with
  | true => exact .inr ⟨rk, rs, rb, rfl, rfl⟩
  | false => exact .inl ⟨rfl, rfl⟩
theorem c_sRootsOf {lf k0 : Nat} (hlf : 33554432 ≤ lf) (l : List T) (ops : Int) (fs : List T) (dn : Bool) (sq : Int) (hb : pgsByt l) (hs : l.length + tls l ≤ 1048576) :
 ∃ N g, Cc lf (k0 + 7) 5 [.st [.sl l, .i .i64 ops, .sl fs, .b dn, .i .i64 sq]] = some [.sl (tabI N fun t => (g t).1)] ∧ Sorted l (8 * l.length) N g := by
 have step : ∀ a : Nat, a < 8 * l.length → Cc lf (k0 + 6) 14 [.st [.sl l, .i .i64 ops, .sl fs, .b dn, .i .i64 sq], .i .i64 (a : Int), .i .i64 4] = some (readAtR l (a : Int) 4) := fun a ha => c_sReadAt (d := k0 + 1) hlf l ops fs dn sq a 4 (wf64 (by omega) (by omega)) hb (by omega)
 have L : ∀ (C : Orc), (∀ a : Nat, a < 8 * l.length → C 14 [.st [.sl l, .i .i64 ops, .sl fs, .b dn, .i .i64 sq], .i .i64 (a : Int), .i .i64 4] = some (readAtR l (a : Int) 4)) → ∀ (k a n N : Nat) (g : Nat → Pr), a + k = 8 * l.length → k < n → N ≤ a → Sorted l a N g →
  ∃ (N' : Nat) (g' : Nat → Pr), f5_0 C lf n (a : Int) l ops fs dn sq (tabI N fun t => (g t).1) (tabI N fun t => (g t).2) = some [T.i .i64 0, T.sl (tabI N' fun t => (g' t).1)] ∧ Sorted l (8 * l.length) N' g' := by
  intro C hC k
  induction k with
  | zero =>
   intro a n N g ha hn _ S
   obtain ⟨n, rfl⟩ : ∃ z, n = z + 1 := ⟨n - 1, by omega⟩
   rw [f5_0_u]
   unfold f5_0_s
   rw [wrap_in (x := (l.length : Int) * 8) (by omega) (by omega), iLt_f (by omega)]
   rw [show a = 8 * l.length by omega] at S
   exact ⟨N, g, rfl, S⟩
  | succ k ih =>
   intro a n N g ha hn hNa S
   obtain ⟨n, rfl⟩ : ∃ z, n = z + 1 := ⟨n - 1, by omega⟩
   rw [f5_0_u]
   unfold f5_0_s
   rw [wrap_in (x := (l.length : Int) * 8) (by omega) (by omega), iLt_t (by omega), hC a (by omega)]
   rcases readAtR_root l a with ⟨h0, e⟩ | ⟨rk, rs, rb, h0, e⟩
   ·rw [e]
    simp only [Option.bind_some, nth0, nthS, asB_b, Bool.not_false, cond_t]
    rw [wrap_p1 (i := a) (by omega)]
    exact ih (a + 1) n N g (by omega) (by omega) (by omega) (sorted_none S h0)
   ·rw [e]
    simp only [Option.bind_some, nthS, asB_b, Bool.not_true, cond_f, cond_t]
    have hcell : asI (T.cell (nth [recT (some (rk, rs, rb)), T.b true] 0) 1) = rs := rfl
    rw [nLe_app (by rw [tabI_len]; omega), nLe_app (by rw [tabI_len]; omega), hcell, tabI_app, tabI_app]
    simp only [tabI_len, cond_t]
    obtain ⟨k', o', q', e1, b1, b2, b3, b4, b5⟩ := c_sInner C (lf := lf) (show N ≤ 8388608 by omega) g rk rs rb a l ops fs dn sq N lf (fun k => if k = N then (a : Int) else (g k).1) (fun k => if k = N then rs else (g k).2) (by omega) (Nat.le_refl _)
     (fun t ht => by simp [show ¬ t = N by omega]) (fun t ht ht' => by omega) (fun t ht ht' => by omega)
    rw [e1]
    simp only [Option.bind_some, nth0, nthS, asI_i, asL_l, asB_b, tabI_len, Int.toNat_natCast]
    rw [inR_nat (show k' < N + 1 by omega), wrap_p1 (i := a) (by omega), tabI_set, tabI_set]
    have S' := insP_sorted S h0 b1 b5 b4
    have I := ih (a + 1) n (N + 1) (insP k' ((a : Int), rs) g) (by omega) (by omega) (by omega) S'
    rw [tabI_congr (M := N + 1) (o := fun t => (insP k' ((a : Int), rs) g t).1) (o' := fun k => if k = k' then (a : Int) else o' k) fun t ht => by
     unfold insP
     by_cases c1 : t < k'
     ·simp only [if_pos c1, if_neg (show ¬ t = k' by omega)]; exact (b2 t c1).1.symm
     ·by_cases c2 : t = k'
      ·simp only [if_neg c1, if_pos c2]
      ·simp only [if_neg c1, if_neg c2]; exact (b3 t (by omega) (by omega)).1.symm,
     tabI_congr (M := N + 1) (o := fun t => (insP k' ((a : Int), rs) g t).2) (o' := fun k => if k = k' then rs else q' k) fun t ht => by
      unfold insP
      by_cases c1 : t < k'
      ·simp only [if_pos c1, if_neg (show ¬ t = k' by omega)]; exact (b2 t c1).2.symm
      ·by_cases c2 : t = k'
       ·simp only [if_neg c1, if_pos c2]
       ·simp only [if_neg c1, if_neg c2]; exact (b3 t (by omega) (by omega)).2.symm] at I
    exact I
 obtain ⟨N, g, e, S⟩ := L (Cc lf (k0 + 6)) step (8 * l.length) 0 lf 0 (fun _ => (0, 0)) (by omega) (by omega) (Nat.le_refl _) ⟨fun i j _ _ h => by omega, fun x => ⟨fun ⟨k, h, _⟩ => by omega, fun h => by cases h⟩⟩
 refine ⟨N, g, ?_, S⟩
 show funK (Cc lf (k0 + 6)) env lf 6 fi5 [.st [.sl l, .i .i64 ops, .sl fs, .b dn, .i .i64 sq]] = _
 clear step L
 generalize Cc lf (k0 + 6) = C at e
 rw [f5_eq]
 unfold f5 f5_t
 dsimp only
 rw [show ((0 : Nat) : Int) = 0 from rfl, tabI_zero] at e
 rw [e]
 rfl
theorem same {lf k0 : Nat} (hk0 : 24 ≤ k0) (hlf : 33554432 ≤ lf) (l : List T) (ops : Int) (fs : List T) (dn : Bool) (sq : Int) (hf : fitE true [.sl true [.sl true [.b, .sl false [.i .u8]], .i .i64, .b], .i .i64, .sl true [.i .i64, .i .i64, .i .i64], .b, .i .i64] (.st [.sl l, .i .i64 ops, .sl fs, .b dn, .i .i64 sq])) (z : tl (.st [.sl l, .i .i64 ops, .sl fs, .b dn, .i .i64 sq]) ≤ 1048576) :
 ∃ r, Cc lf (k0 + 7) 5 [.st [.sl l, .i .i64 ops, .sl fs, .b dn, .i .i64 sq]] = some [r] ∧ Cc lf (k0 + 7) 7 [.st [.sl l, .i .i64 ops, .sl fs, .b dn, .i .i64 sq]] = some [r] ∧ (fitC (.sl false [.i .i64]) r ∧ tl r ≤ 16777216) ∧ True := by
 simp only [tl, tls] at z
 have hb := pgsByt_of hf.1
 obtain ⟨N, g, e1, S1⟩ := c_sRootsOf (k0 := k0) hlf l ops fs dn sq hb (by omega)
 obtain ⟨N', g', e2, S2, hN⟩ := c_iRootsOf hk0 hlf l ops fs dn sq hb (by omega)
 rw [sorted_uniq S1 S2] at e1
 refine ⟨_, e1, e2, ⟨⟨by rw [tabI_len]; unfold maxLen; omega, fitL_all.2 fun x hx => ?_⟩, by simp only [tl, tabI_tls, tabI_len]; omega⟩, trivial⟩
 unfold tabI at hx
 obtain ⟨n, hn, rfl⟩ := List.mem_map.1 hx
 have := sorted_in S2 (List.mem_range.1 hn)
 have w : (Lit.int .i64 (g' n).1).wf = true := wf64 (by omega) (by omega)
 exact ⟨rfl, w⟩
theorem lawB {lf k0 : Nat} (hk0 : 24 ≤ k0) (hlf : 33554432 ≤ lf) {t0 : T} (ht0 : fitE true csfit_MMbScEibEiMiiiEbi t0) : Cc lf (k0 + 8) 3 [t0] = some [.b true] := by
 have hf0 := ht0
 obtain ⟨p0_0, p0_1, p0_2, p0_3, p0_4, rfl, w0_0, w0_1, w0_2, w0_4⟩ := fit_MMbScEibEiMiiiEbi ht0
 refine (f3_eq (Cc lf (k0 + 7)) lf p0_0 p0_1 p0_2 p0_3 p0_4).trans ?_
 unfold f3 f3_t
 rcases sz4 hlf (d := (k0 + 7)) (by omega) _ hf0 1048576 (by omega) (by omega) with e | ⟨y1, e1, g1, zz0⟩
 ·rw [e]; rfl
 rw [e1]
 simp only [Option.bind_some, nth0, asI_i]
 rw [iLt_f (show ¬ y1 < 0 by omega), cond_f]
 have z0 : tl (T.st [T.sl p0_0, T.i .i64 p0_1, T.sl p0_2, T.b p0_3, T.i .i64 p0_4]) ≤ 1048576 := by omega
 have eT0 := to6 hlf (d := (k0 + 7)) (by omega) _ hf0 (by omega)
 obtain ⟨r0, eS, eI, ⟨hr0, zr0⟩, _⟩ := same hk0 hlf p0_0 p0_1 p0_2 p0_3 p0_4 hf0 z0
 have hR0 := hr0
 obtain ⟨R0_0, rfl, W0_0⟩ := fitC_sl hr0
 have eQ0 := eq8 hlf (d := (k0 + 7)) (by omega) _ hR0 zr0
 have eX0 := eq9 hlf (d := (k0 + 7)) (by omega) _ hf0 (by omega)
 obtain ⟨K1, bK1_0, bK1_1, eK1, uK1, vK1⟩ := mo10 hlf (d := (k0 + 7)) (by omega) hf0 (by omega) 1 (by omega) (by omega)
 obtain ⟨M1, bM1_0, eM1, eH1, uM1, vM1⟩ := mh11 hlf (d := (k0 + 7)) (by omega) _ hR0 zr0 1 (by omega) (by omega)
 simp only [eT0, eQ0, eS, eI, eX0, eK1, eM1, eH1, Option.bind_some, nth0, nthS, asI_i, asL_l, asB_b, asS_s, cell0, cellS, beq_self_eq_true, bne_self_eq_false, Bool.not_true, Bool.and_true, cond_f, cond_t, iLt_f (show ¬ (K1 < 0) by omega), iLt_f (show ¬ (M1 < 0) by omega)]
end Go.Proofs.Ytmjahclmjgllbaa.T
