/- What functions of the law FnExactEngNew come to, in trees; no condition. -/
import Derived.Test.YtcippopaecnjhaaGreatRows
import Derived.Test.YtcippopaecnjhaaGreatX3
set_option linter.unusedVariables false
set_option linter.constructorNameAsVariable false
set_option linter.unusedSimpArgs false
set_option linter.unnecessarySimpa false
namespace Go.Proofs.YtcippopaecnjhaaGreat.T
open Go Go.Proofs.YtcippopaecnjhaaGreatV
set_option maxRecDepth 100000
theorem c_l1In {lf d : Nat} (a lo hi : Int) : Cc lf (d + 1) 109 [.i .i64 a, .i .i64 lo, .i .i64 hi] = some [.b (iLe lo a && iLe a hi)] := by
 refine (f109_eq (Cc lf d) lf a lo hi).trans ?_
 unfold f109 f109_t
 exact cond_b _ _
theorem c_from {lf d : Nat} (a lo hi : Int) : Cc lf (d + 1) 58 [.i .i64 a, .i .i64 lo, .i .i64 hi] = some [.b (iLe lo a && iLe a hi)] := by
 refine (f58_eq (Cc lf d) lf a lo hi).trans ?_
 unfold f58 f58_t
 exact cond_b _ _
theorem c_clone {lf d : Nat} {l : List T} (h : l.length ≤ 1073741830) : Cc lf (d + 1) 54 [.sl l] = some [.sl l] := by
 show (bif nLe (0 + l.length) LIM then some [T.sl l] else none) = _
 rw [nLe_t (by unfold LIM; omega)]
 rfl
theorem c_sGetNum {lf d : Nat} (hlf : 33554432 ≤ lf) {b : List T} (hb : byt b) (hl : b.length ≤ 1073741824) (p : Nat) (hp : p ≤ 1073741824) : Cc lf (d + 1) 239 [.sl b, .i .i64 (p : Int)] = some (getR (getNum b p)) := by
 refine (f239_eq (Cc lf d) lf b p).trans ?_
 unfold f239 f239_t
 dsimp only
 have B : ∀ j, j < b.length → 0 ≤ asI (b.getD j .u) ∧ asI (b.getD j .u) < 256 := fun j hj => by
  obtain ⟨n, e, h⟩ := byt_at hb hj
  rw [e]; exact h
 have L := getNum_loop (b := b) (p := p) (F := fun n x k => f239_0 (Cc lf d) lf b p n x k) (X := some [T.i .i64 0, T.i .i64 0, T.i .i64 0, T.b false]) (Z := some [T.i .i64 1]) (Y := fun v q => some [T.i .i64 0, T.i .i64 v, T.i .i64 (q : Int), T.b true]) hb (fun n x k hk hpk h0 h1 => by
  have hc := B _ hpk
  have hw : IntKind.wrap .u64 (IntKind.wrap .i64 (7 * (k : Int))) = ((7 * k : Nat) : Int) := by
   rcases (by omega : k = 0 ∨ k = 1 ∨ k = 2) with rfl | rfl | rfl <;> rfl
  have hpw : ((2 ^ (7 * k) : Nat) : Int) = 128 ^ k := by
   rcases (by omega : k = 0 ∨ k = 1 ∨ k = 2) with rfl | rfl | rfl <;> rfl
  rw [f239_0_u]
  unfold f239_0_s
  rw [iLt_t (by omega), iLe_t (by omega), iLt_t (by omega), wrap_in (x := (p : Int) + (k : Int)) (by omega) (by omega), iLt_t (by omega), inR_t (by omega) (by omega), hw, iLe_t (by omega), show ((p : Int) + (k : Int)).toNat = p + k by omega, wrap_in (x := asI (b.getD (p + k) .u)) (by omega) (by omega), and_mod hc.1 (by omega),
   shl_mul (by omega) (by omega) (by omega), or_add (k := 7 * k) h0 (by rw [hpw]; exact h1) (by omega) (by omega) (by omega), hpw, wrap_in (x := (k : Int) + 1) (by omega) (by omega), wrap_in (x := (p : Int) + (k : Int) + 1) (by omega) (by omega)]
  simp only [cond_t]
  by_cases c0 : 128 ≤ asI (b.getD (p + k) .u)
  ·rw [iLt_t (by omega), if_pos c0]
   rfl
  ·rw [iLt_f (by omega), if_neg c0, Int.emod_eq_of_lt hc.1 (by omega)]
   simp only [cond_f]
   by_cases k0 : k = 0
   ·subst k0
    rw [iLt_f (by omega)]
    by_cases m : 1000000 < x + asI (b.getD (p + 0) .u) * 128 ^ 0
    ·rw [iLt_t m, if_pos (.inr m)]; rfl
    ·rw [iLt_f m, if_neg (by omega)]; rfl
   ·rw [iLt_t (by omega)]
    by_cases z : asI (b.getD (p + k) .u) = 0
    ·rw [if_pos (.inl ⟨k0, z⟩), z]; rfl
    ·rw [show (asI (b.getD (p + k) .u) == 0) = false from by simpa using z]
     by_cases m : 1000000 < x + asI (b.getD (p + k) .u) * 128 ^ k
     ·rw [iLt_t m, if_pos (.inr m)]; rfl
     ·rw [iLt_f m, if_neg (by rintro (h | h); exact z h.2; exact m h)]; rfl) (fun n x k hk3 hk => by
  rw [f239_0_u]
  unfold f239_0_s
  by_cases k3 : k < 3
  ·rw [iLt_t (by omega), iLe_t (by omega)]
   by_cases h : p < b.length
   ·rw [iLt_t (by omega), wrap_in (x := (p : Int) + (k : Int)) (by omega) (by omega), iLt_f (by omega)]; rfl
   ·rw [iLt_f (by omega)]; rfl
  ·rw [iLt_f (by omega)]; rfl) (n := lf) (by omega)
 rcases L with ⟨h1, h2 | h2⟩ | ⟨v, q, h1, h2⟩
 ·rw [show ((0 : Nat) : Int) = 0 from rfl] at h2; rw [h1, h2]; rfl
 ·rw [show ((0 : Nat) : Int) = 0 from rfl] at h2; rw [h1, h2]; rfl
 ·rw [show ((0 : Nat) : Int) = 0 from rfl] at h2; rw [h1, h2]; rfl
theorem c_iGetNum {lf d : Nat} (hlf : 33554432 ≤ lf) {b : List T} (hb : byt b) (hl : b.length ≤ 1073741824) (p : Nat) (hp : p ≤ 1073741824) : Cc lf (d + 1) 91 [.sl b, .i .i64 (p : Int)] = some (getR (getNum b p)) := by
 refine (f91_eq (Cc lf d) lf b p).trans ?_
 unfold f91 f91_t
 dsimp only
 have B : ∀ j, j < b.length → 0 ≤ asI (b.getD j .u) ∧ asI (b.getD j .u) < 256 := fun j hj => by
  obtain ⟨n, e, h⟩ := byt_at hb hj
  rw [e]; exact h
 have L := getNum_loop (b := b) (p := p) (F := fun n x k => f91_0 (Cc lf d) lf b p n x (128 ^ k) k) (X := some [T.i .i64 0]) (Z := some [T.i .i64 0]) (Y := fun v q => some [T.i .i64 1, T.i .i64 v, T.i .i64 (q : Int), T.b true]) hb (fun n x k hk hpk h0 h1 => by
  have hc := B _ hpk
  have hm := Int.emod_nonneg (asI (b.getD (p + k) .u)) (show (128 : Int) ≠ 0 by omega)
  have hm2 := Int.emod_lt_of_pos (asI (b.getD (p + k) .u)) (show (0 : Int) < 128 by omega)
  have hk3 : k = 0 ∨ k = 1 ∨ k = 2 := by omega
  have hpw : 1 ≤ (128 : Int) ^ k ∧ (128 : Int) ^ k ≤ 16384 ∧ (128 : Int) ^ k * 128 = 128 ^ (k + 1) ∧ 0 ≤ asI (b.getD (p + k) .u) % 128 * 128 ^ k ∧ asI (b.getD (p + k) .u) % 128 * 128 ^ k ≤ 2097152 := by
   rcases hk3 with rfl | rfl | rfl
   ·refine ⟨by decide, by decide, by decide, ?_, ?_⟩ <;> rw [Int.pow_zero] <;> omega
   ·refine ⟨by decide, by decide, by decide, ?_, ?_⟩ <;> rw [Int.pow_one] <;> omega
   ·have e : (128 : Int) ^ 2 = 16384 := rfl
    refine ⟨by decide, by decide, by decide, ?_, ?_⟩ <;> rw [e] <;> omega
  rw [f91_0_u]
  unfold f91_0_s
  rw [iLt_t (by omega), wrap_in (x := (b.length : Int) - (k : Int)) (by omega) (by omega), iLt_t (by omega), wrap_in (x := (p : Int) + (k : Int)) (by omega) (by omega), inR_t (by omega) (by omega), show ((p : Int) + (k : Int)).toNat = p + k by omega, wrap_in (x := asI (b.getD (p + k) .u)) (by omega) (by omega), Int.tmod_eq_emod_of_nonneg hc.1,
   wrap_in (x := asI (b.getD (p + k) .u) % 128 * 128 ^ k) (by omega) (by omega), wrap_in (x := x + asI (b.getD (p + k) .u) % 128 * 128 ^ k) (by omega) (by omega), wrap_in (x := (128 : Int) ^ k * 128) (by omega) (by omega), hpw.2.2.1, wrap_in (x := (k : Int) + 1) (by omega) (by omega), wrap_in (x := (p : Int) + (k : Int) + 1) (by omega) (by omega)]
  simp only [cond_t]
  by_cases c0 : 128 ≤ asI (b.getD (p + k) .u)
  ·rw [iLe_t c0, if_pos c0]
   rfl
  ·rw [iLe_f c0, if_neg c0, Int.emod_eq_of_lt hc.1 (by omega)]
   simp only [cond_f]
   by_cases m : 1000000 < x + asI (b.getD (p + k) .u) * 128 ^ k
   ·rw [iLt_t m, if_pos (.inr m)]; rfl
   ·rw [iLt_f m]
    by_cases z : asI (b.getD (p + k) .u) = 0
    ·by_cases k0 : k = 0
     ·subst k0
      rw [if_neg (by omega), iLt_f (by omega), show (asI (b.getD (p + 0) .u) == 0) = true by rw [z]; rfl]; rfl
     ·rw [if_pos (.inl ⟨k0, z⟩), iLt_t (by omega), show (asI (b.getD (p + k) .u) == 0) = true by rw [z]; rfl]; rfl
    ·rw [if_neg (by rintro (h | h); exact z h.2; exact m h), show (asI (b.getD (p + k) .u) == 0) = false from by simpa using z]; rfl) (fun n x k hk3 hk => by
  rw [f91_0_u]
  unfold f91_0_s
  by_cases k3 : k < 3
  ·rw [iLt_t (by omega), wrap_in (x := (b.length : Int) - (k : Int)) (by omega) (by omega), iLt_f (by omega)]; rfl
  ·rw [iLt_f (by omega)]; rfl) (n := lf) (by omega)
 rw [iLt_f (by omega), cond_f]
 rcases L with ⟨h1, h2 | h2⟩ | ⟨v, q, h1, h2⟩
 ·rw [Int.pow_zero, show ((0 : Nat) : Int) = 0 from rfl] at h2; rw [h1, h2]; rfl
 ·rw [Int.pow_zero, show ((0 : Nat) : Int) = 0 from rfl] at h2; rw [h1, h2]; rfl
 ·rw [Int.pow_zero, show ((0 : Nat) : Int) = 0 from rfl] at h2; rw [h1, h2]; rfl
theorem c_iNum {lf d : Nat} (hlf : 33554432 ≤ lf) {b : List T} (hb : byt b) (hl : b.length ≤ 1073741824) {s : Option Nat} {p : Int} {ok : Bool} (h : RI b s p ok) :
 ∃ p' ok', Cc lf (d + 2) 148 [.st [.sl b, .i .i64 p, .b ok]] = some [.i .i64 (rd b s).1, .st [.sl b, .i .i64 p', .b ok']] ∧ RI b (rd b s).2 p' ok' := by
 have E := f148_eq (Cc lf (d + 1)) lf b p ok
 unfold f148 f148_t at E
 obtain ⟨rfl, h2⟩ := h
 cases s with
 | none => exact ⟨p, false, E, rfl, fun q hq => by cases hq⟩
 | some q =>
  obtain ⟨rfl, hq⟩ := h2 q rfl
  rw [c_iGetNum hlf hb hl q (by omega)] at E
  simp only [rd]
  cases e : getNum b q with
  | none => rw [e] at E; exact ⟨0, false, E, rfl, fun q hq => by cases hq⟩
  | some x =>
   obtain ⟨n, q2⟩ := x
   rw [e] at E
   exact ⟨q2, true, E, rfl, fun q hq => by cases hq; exact ⟨rfl, (getNum_in hb e).2.2.2⟩⟩
theorem c_sNum {lf d : Nat} (hlf : 33554432 ≤ lf) {b : List T} (hb : byt b) (hl : b.length ≤ 1073741824) {s : Option Nat} {p : Int} {bad : Bool} (h : RS b s p bad) :
 ∃ p' bad', Cc lf (d + 2) 209 [.st [.sl b, .i .i64 p, .b bad]] = some [.i .i64 (rd b s).1, .st [.sl b, .i .i64 p', .b bad']] ∧ RS b (rd b s).2 p' bad' := by
 have E := f209_eq (Cc lf (d + 1)) lf b p bad
 unfold f209 f209_t at E
 obtain ⟨rfl, h2, q0, rfl, hq0⟩ := h
 rw [c_sGetNum hlf hb hl q0 (by omega)] at E
 cases s with
 | none => exact ⟨q0, true, E, rfl, (fun q hq => by cases hq), q0, rfl, hq0⟩
 | some q =>
  have e0 : q0 = q := by have := h2 q rfl; omega
  subst e0
  simp only [rd]
  cases e : getNum b q0 with
  | none => rw [e] at E; exact ⟨q0, true, E, rfl, (fun q hq => by cases hq), q0, rfl, hq0⟩
  | some x =>
   obtain ⟨n, q2⟩ := x
   rw [e] at E
   exact ⟨q2, false, E, rfl, (fun q hq => by cases hq; rfl), q2, rfl, (getNum_in hb e).2.2.2⟩
theorem c_iDone {lf d : Nat} {b : List T} {s : Option Nat} {p : Int} {ok : Bool} (h : RI b s p ok) :
 ∃ t, Cc lf (d + 1) 152 [.st [.sl b, .i .i64 p, .b ok]] = some [.b (s == some b.length), t] := by
 have E := f152_eq (Cc lf d) lf b p ok
 unfold f152 f152_t at E
 obtain ⟨rfl, h2⟩ := h
 cases s with
 | none => exact ⟨_, E⟩
 | some q =>
  obtain ⟨rfl, _⟩ := h2 q rfl
  have e : ((q : Int) == (b.length : Int)) = (some q == some b.length) := by
   rw [Bool.eq_iff_iff]
   simp
   omega
  exact ⟨_, by rw [← e]; exact E⟩
def getTR : ByteArray × Option Nat → List T
 | (s, some q) => [.s s, .i .i64 (q : Int), .b true]
 | (_, none) => [.s ⟨#[]⟩, .i .i64 0, .b false]
theorem getText_aux {b : List T} (hb : byt b) (hl : b.length ≤ 1073741824) (p : Nat) : ((some (getR (getNum b p)) : Option (List T)).bind fun r =>
 bif !(asB (nth r 2)) then
  some [T.s (⟨#[]⟩ : ByteArray), T.i .i64 0, T.b false]
 else
  bif iLt (IntKind.wrap .i64 ((b.length : Int) - (asI (nth r 1)))) (asI (nth r 0)) then
   some [T.s (⟨#[]⟩ : ByteArray), T.i .i64 0, T.b false]
  else
   bif iLe 0 (asI (nth r 1)) && iLe (asI (nth r 1)) (IntKind.wrap .i64 ((asI (nth r 1)) + (asI (nth r 0)))) && iLe (IntKind.wrap .i64 ((asI (nth r 1)) + (asI (nth r 0)))) (b.length : Int) then
   some [T.s (bytesOf ((b.drop ((asI (nth r 1)).toNat)).take (((IntKind.wrap .i64 ((asI (nth r 1)) + (asI (nth r 0)))).toNat) - ((asI (nth r 1)).toNat)))), T.i .i64 (IntKind.wrap .i64 ((asI (nth r 1)) + (asI (nth r 0)))), T.b true]
   else none) = some (getTR (rdS b (some p))) := by
 unfold rdS
 simp only [rd]
 cases e : getNum b p with
 | none => rfl
 | some x =>
  obtain ⟨n, q⟩ := x
  obtain ⟨h0, h1, h2, h3⟩ := getNum_in hb e
  simp only [getR, Option.bind_some, nth0, nthS, asI_i, asB_b, Bool.not_true, cond_f]
  rw [wrap_in (x := (b.length : Int) - q) (by omega) (by omega), wrap_in (x := (q : Int) + n) (by omega) (by omega)]
  by_cases c : n > (b.length : Int) - q
  ·rw [iLt_t c, if_pos c]; rfl
  ·rw [iLt_f c, if_neg c, cond_f, iLe_t (by omega), iLe_t (by omega), iLe_t (by omega)]
   rw [show ((q : Int)).toNat = q from rfl, show ((q : Int) + n).toNat - q = n.toNat by omega, show (q : Int) + n = ((q + n.toNat : Nat) : Int) by omega]
   rfl
theorem c_iGetText {lf d : Nat} (hlf : 33554432 ≤ lf) {b : List T} (hb : byt b) (hl : b.length ≤ 1073741824) (p : Nat) (hp : p ≤ 1073741824) : Cc lf (d + 2) 198 [.sl b, .i .i64 (p : Int)] = some (getTR (rdS b (some p))) := by
 refine (f198_eq (Cc lf (d + 1)) lf b p).trans ?_
 unfold f198 f198_t
 rw [c_iGetNum hlf hb hl p hp]
 exact getText_aux hb hl p
theorem c_sGetText {lf d : Nat} (hlf : 33554432 ≤ lf) {b : List T} (hb : byt b) (hl : b.length ≤ 1073741824) (p : Nat) (hp : p ≤ 1073741824) : Cc lf (d + 2) 240 [.sl b, .i .i64 (p : Int)] = some (getTR (rdS b (some p))) := by
 refine (f240_eq (Cc lf (d + 1)) lf b p).trans ?_
 unfold f240 f240_t
 rw [c_sGetNum hlf hb hl p hp]
 exact getText_aux hb hl p
theorem c_iText {lf d : Nat} (hlf : 33554432 ≤ lf) {b : List T} (hb : byt b) (hl : b.length ≤ 1073741824) {s : Option Nat} {p : Int} {ok : Bool} (h : RI b s p ok) :
 ∃ p' ok', Cc lf (d + 3) 150 [.st [.sl b, .i .i64 p, .b ok]] = some [.s (rdS b s).1, .st [.sl b, .i .i64 p', .b ok']] ∧ RI b (rdS b s).2 p' ok' := by
 have E := f150_eq (Cc lf (d + 2)) lf b p ok
 unfold f150 f150_t at E
 obtain ⟨rfl, h2⟩ := h
 cases s with
 | none => exact ⟨p, false, E, rfl, fun q hq => by cases hq⟩
 | some q =>
  obtain ⟨rfl, hq⟩ := h2 q rfl
  rw [c_iGetText hlf hb hl q (by omega)] at E
  have hn := @rdS_next b hb (some q)
  have hs : (rdS b (some q)).2 = none → (rdS b (some q)).1 = ⟨#[]⟩ := by
   intro h
   unfold rdS at h ⊢
   split
   ·rename_i n q' e
    rw [e] at h
    simp only at h
    split at h
    ·rename_i c; rw [if_pos c]
    ·cases h
   ·rfl
  generalize rdS b (some q) = r at *
  obtain ⟨s, q2⟩ := r
  cases q2 with
  | none =>
   have := hs rfl
   simp only at this
   subst this
   exact ⟨0, false, E, rfl, fun q hq => by cases hq⟩
  | some q2 => exact ⟨q2, true, E, rfl, fun q hq => by cases hq; obtain ⟨_, _, _, h⟩ := hn rfl; exact ⟨rfl, h⟩⟩
theorem c_sText {lf d : Nat} (hlf : 33554432 ≤ lf) {b : List T} (hb : byt b) (hl : b.length ≤ 1073741824) {s : Option Nat} {p : Int} {bad : Bool} (h : RS b s p bad) :
 ∃ p' bad', Cc lf (d + 3) 210 [.st [.sl b, .i .i64 p, .b bad]] = some [.s (rdS b s).1, .st [.sl b, .i .i64 p', .b bad']] ∧ RS b (rdS b s).2 p' bad' := by
 have E := f210_eq (Cc lf (d + 2)) lf b p bad
 unfold f210 f210_t at E
 obtain ⟨rfl, h2, q0, rfl, hq0⟩ := h
 rw [c_sGetText hlf hb hl q0 (by omega)] at E
 cases s with
 | none => exact ⟨q0, true, E, rfl, (fun q hq => by cases hq), q0, rfl, hq0⟩
 | some q =>
  have e0 : q0 = q := by have := h2 q rfl; omega
  subst e0
  have hn := @rdS_next b hb (some q0)
  have hs : (rdS b (some q0)).2 = none → (rdS b (some q0)).1 = ⟨#[]⟩ := by
   intro h
   unfold rdS at h ⊢
   split
   ·rename_i n q' e
    rw [e] at h
    simp only at h
    split at h
    ·rename_i c; rw [if_pos c]
    ·cases h
   ·rfl
  generalize rdS b (some q0) = r at *
  obtain ⟨s, q2⟩ := r
  cases q2 with
  | none =>
   have := hs rfl
   simp only at this
   subst this
   exact ⟨q0, true, E, rfl, (fun q hq => by cases hq), q0, rfl, hq0⟩
  | some q2 => exact ⟨q2, false, E, rfl, (fun q hq => by cases hq; rfl), q2, rfl, by obtain ⟨_, _, _, h⟩ := hn rfl; exact h⟩
theorem c_sCrc {lf d : Nat} (hlf : 33554432 ≤ lf) {b : List T} (hb : byt b) (hl : b.length ≤ 16777216) : Cc lf (d + 1) 211 [.sl b] = some [.i .i64 (crcN b : Nat)] := by
 refine (f211_eq (Cc lf d) lf b).trans ?_
 unfold f211 f211_t
 dsimp only
 have In : ∀ (x j : Nat), x < 4294967296 → f211_1 (Cc lf d) lf b j lf x 0 = some [T.i .i64 0, T.sl b, T.i .i64 (r8 x : Nat), T.i .i64 (j : Int)] := fun x j hx => by
  have := (fold_loop (S := Nat) (F := fun n s k => f211_1 (Cc lf d) lf b j n s k) (g := fun s _ => r1 s) (I := fun s _ => s < 4294967296) (Y := fun s => some [T.i .i64 0, T.sl b, T.i .i64 (s : Int), T.i .i64 (j : Int)]) (len := 8) (fun n s k hk hs => by
   rw [f211_1_u]
   unfold f211_1_s
   rw [iLt_t (by omega), and7 (by omega) (by omega), shr1_64, show (2197175160 : Int) = ((2197175160 : Nat) : Int) from rfl, xor64 (by omega) (by omega), wrap_in (x := (k : Int) + 1) (by omega) (by omega)]
   unfold r1
   by_cases c : s % 2 = 1
   ·rw [if_pos c, show ((s : Int) % 2 == 1) = true by simp only [beq_iff_eq]; omega]; rfl
   ·rw [if_neg c, show ((s : Int) % 2 == 1) = false by simp only [beq_eq_false_iff_ne, ne_eq]; omega]; rfl) (fun s k hk hs => r1_lt hs) (fun n s hs => by
   rw [f211_1_u]
   unfold f211_1_s
   rw [iLt_f (by omega)]
   rfl) (n := lf) (by omega) (s := x) hx).1
  exact this
 have L := (fold_loop (S := Nat) (F := fun n s j => f211_0 (Cc lf d) lf n b s j) (g := fun s j => r8 (s ^^^ (asI (b.getD j .u)).toNat)) (I := fun s _ => s < 4294967296) (Y := fun s => some [T.i .i64 0, T.i .i64 (s : Int)]) (len := b.length) (fun n s j hj hs => by
  have hB := byte_lt hb j
  rw [f211_0_u]
  unfold f211_0_s
  obtain ⟨v, hv⟩ := Int.eq_ofNat_of_zero_le hB.1
  rw [iLt_t (by omega), inR_nat hj, Int.toNat_natCast, hv, wrap_in (x := (v : Int)) (by omega) (by omega), xor64 hs (by omega)]
  dsimp only
  rw [In _ j (xor_lt hs (by omega))]
  simp only [cond_t, Option.bind_some, nth0, nthS, asI_i, asL_l]
  rw [wrap_in (x := (j : Int) + 1) (by omega) (by omega)]
  rfl) (fun s j hj hs => by
   have hB := byte_lt hb j
   exact r8_lt (xor_lt hs (by omega))) (fun n s hs => by
  rw [f211_0_u]
  unfold f211_0_s
  rw [iLt_f (by omega)]
  rfl) (n := lf) (by omega) (s := 4294967295) (by omega)).1
 rw [show ((4294967295 : Nat) : Int) = 4294967295 from rfl] at L
 rw [L]
 simp only [Option.bind_some, nth0, nthS, asI_i]
 have e : foldN (fun s j => r8 (s ^^^ (asI (b.getD j .u)).toNat)) 4294967295 b.length = crcS b b.length := rfl
 rw [e, show (4294967295 : Int) = ((4294967295 : Nat) : Int) from rfl, xor64 (crcS_lt hb b.length) (by omega)]
 rfl
theorem c_iCrc {lf d : Nat} (hlf : 33554432 ≤ lf) {b : List T} (hb : byt b) (hl : b.length ≤ 16777216) : Cc lf (d + 1) 157 [.sl b] = some [.i .i64 (crcN b : Nat)] := by
 refine (f157_eq (Cc lf d) lf b).trans ?_
 unfold f157 f157_t
 dsimp only
 have In : ∀ (x j : Nat), x < 4294967296 → f157_1 (Cc lf d) lf b (b.length : Int) j lf x 0 = some [T.i .i64 0, T.i .u32 (r8 x : Nat), T.sl b, T.i .i64 (b.length : Int), T.i .i64 (j : Int)] := fun x j hx => by
  have := (fold_loop (S := Nat) (F := fun n s k => f157_1 (Cc lf d) lf b (b.length : Int) j n s k) (g := fun s _ => r1 s) (I := fun s _ => s < 4294967296) (Y := fun s => some [T.i .i64 0, T.i .u32 (s : Int), T.sl b, T.i .i64 (b.length : Int), T.i .i64 (j : Int)]) (len := 8) (fun n s k hk hs => by
   rw [f157_1_u]
   unfold f157_1_s
   rw [iLt_t (by omega), and32 hs, shr1_32, show (2197175160 : Int) = ((2197175160 : Nat) : Int) from rfl, xor32 (by omega) (by omega), wrap_in (x := (k : Int) + 1) (by omega) (by omega)]
   unfold r1
   by_cases c : s % 2 = 1
   ·rw [if_pos c, show (((s % 2 : Nat) : Int) == 1) = true by simp only [beq_iff_eq]; omega]; rfl
   ·rw [if_neg c, show (((s % 2 : Nat) : Int) == 1) = false by simp only [beq_eq_false_iff_ne, ne_eq]; omega]; rfl) (fun s k hk hs => r1_lt hs) (fun n s hs => by
   rw [f157_1_u]
   unfold f157_1_s
   rw [iLt_f (by omega)]
   rfl) (n := lf) (by omega) (s := x) hx).1
  exact this
 have L := (fold_loop (S := Nat) (F := fun n s j => f157_0 (Cc lf d) lf n s b (b.length : Int) j) (g := fun s j => r8 (s ^^^ (asI (b.getD j .u)).toNat)) (I := fun s _ => s < 4294967296) (Y := fun s => some [T.i .i64 0, T.i .u32 (s : Int)]) (len := b.length) (fun n s j hj hs => by
  have hB := byte_lt hb j
  rw [f157_0_u]
  unfold f157_0_s
  obtain ⟨v, hv⟩ := Int.eq_ofNat_of_zero_le hB.1
  rw [iLt_t (by omega), inR_nat hj, Int.toNat_natCast, hv, wrap32 (x := (v : Int)) (by omega) (by omega), xor32 hs (by omega)]
  dsimp only
  rw [In _ j (xor_lt hs (by omega))]
  simp only [cond_t, Option.bind_some, nth0, nthS, asI_i, asL_l]
  rw [wrap_in (x := (j : Int) + 1) (by omega) (by omega)]
  rfl) (fun s j hj hs => by
   have hB := byte_lt hb j
   exact r8_lt (xor_lt hs (by omega))) (fun n s hs => by
  rw [f157_0_u]
  unfold f157_0_s
  rw [iLt_f (by omega)]
  rfl) (n := lf) (by omega) (s := 4294967295) (by omega)).1
 rw [show ((4294967295 : Nat) : Int) = 4294967295 from rfl] at L
 rw [L]
 simp only [Option.bind_some, nth0, nthS, asI_i]
 have hc := crcN_lt hb
 have e : foldN (fun s j => r8 (s ^^^ (asI (b.getD j .u)).toNat)) 4294967295 b.length = crcS b b.length := rfl
 rw [e, show (4294967295 : Int) = ((4294967295 : Nat) : Int) from rfl, xor32 (show 4294967295 < 4294967296 by omega) (crcS_lt hb b.length), Nat.xor_comm, show crcS b b.length ^^^ 4294967295 = crcN b from rfl, wrap_in (by omega) (by omega)]
def recB (k s : Int) (body : List T) : Bool := (iLe 1 k && iLe k 4) && ((iLe 0 s && iLe s 1000000) && iLe (body.length : Int) 380)
def recHead (x : List T) (s : Option Nat) : (Int × Int × ByteArray) × Option Nat := (((rd x s).1, (rd x (rd x s).2).1, (rdS x (rd x (rd x s).2).2).1), (rdS x (rd x (rd x s).2).2).2)
def getRecB (b : List T) : Option (Int × Int × List T) :=
 if b.length < 4 then none else
  bif sealB b && ((recHead (b.take (b.length - 4)) (some 0)).2 == some (b.length - 4) && recB (recHead (b.take (b.length - 4)) (some 0)).1.1 (recHead (b.take (b.length - 4)) (some 0)).1.2.1 (listOf (recHead (b.take (b.length - 4)) (some 0)).1.2.2)) then
   some ((recHead (b.take (b.length - 4)) (some 0)).1.1, (recHead (b.take (b.length - 4)) (some 0)).1.2.1, listOf (recHead (b.take (b.length - 4)) (some 0)).1.2.2) else none
def recT : Option (Int × Int × List T) → T
 | some (k, s, d) => .st [.i .i64 k, .i .i64 s, .sl d]
 | none => .st [.i .i64 0, .i .i64 0, .sl []]
def getRecR (r : Option (Int × Int × List T)) : List T := [recT r, .b r.isSome]
theorem c_iRecOk {lf d : Nat} (k s : Int) (body : List T) : Cc lf (d + 2) 49 [.st [.i .i64 k, .i .i64 s, .sl body]] = some [.b (recB k s body)] := by
 refine (f49_eq (Cc lf (d + 1)) lf k s body).trans ?_
 unfold f49 f49_t
 simp only [c_from, Option.bind_some, nth0, asB_b, cond_st]
 unfold recB
 cases (iLe 1 k && iLe k 4) <;> cases (iLe 0 s && iLe s 1000000) <;> rfl
theorem c_sRecOk {lf d : Nat} (k s : Int) (body : List T) : Cc lf (d + 2) 212 [.st [.i .i64 k, .i .i64 s, .sl body]] = some [.b (recB k s body)] := by
 refine (f212_eq (Cc lf (d + 1)) lf k s body).trans ?_
 unfold f212 f212_t
 simp only [c_l1In, Option.bind_some, nth0, asB_b, cond_st]
 unfold recB
 cases (iLe 1 k && iLe k 4) <;> cases (iLe 0 s && iLe s 1000000) <;> rfl
theorem c_sealed {lf d : Nat} (hlf : 33554432 ≤ lf) {b : List T} (hb : byt b) (hl : b.length ≤ 16777216) : Cc lf (d + 2) 99 [.sl b] = some [.sl (b ++ four (crcN b))] := by
 refine (f99_eq (Cc lf (d + 1)) lf b).trans ?_
 unfold f99 f99_t
 rw [c_iCrc hlf hb hl]
 simp only [Option.bind_some, nth0, asI_i]
 rw [c_clone (by omega), four_sh (crcN_lt hb)]
 simp only [Option.bind_some, nth0, asL_l]
 rw [nLe_t (by unfold LIM four; simp; omega)]
 rfl
theorem c_opened {lf d : Nat} (hlf : 33554432 ≤ lf) {b : List T} (hb : byt b) (hl : b.length ≤ 16777216) : Cc lf (d + 3) 195 [.sl b] = some (if b.length < 4 then [.sl [], .b false] else bif sealB b then [.sl (b.take (b.length - 4)), .b true] else [.sl [], .b false]) := by
 refine (f195_eq (Cc lf (d + 2)) lf b).trans ?_
 unfold f195 f195_t
 rw [wrap_in (by omega) (by omega)]
 by_cases h : b.length < 4
 ·rw [iLt_t (by omega), if_pos h]; rfl
 ·rw [iLt_f (by omega), if_neg h, cond_f, iLe_t (by omega), iLe_t (by omega), show ((b.length : Int) - 4).toNat = b.length - 4 by omega, c_sealed hlf (byt_take hb _) (by simp; omega)]
  simp only [Bool.and_self, cond_t, Option.bind_some, nth0, asL_l, seal_iff hb (show 4 ≤ b.length by omega)]
  cases sealB b <;> rfl
theorem c_iGetRec {lf d : Nat} (hlf : 33554432 ≤ lf) {b : List T} (hb : byt b) (hl : b.length ≤ 16777216) : Cc lf (d + 4) 145 [.sl b] = some (getRecR (getRecB b)) := by
 refine (f145_eq (Cc lf (d + 3)) lf b).trans ?_
 unfold f145 f145_t
 rw [c_opened hlf hb hl]
 have go : ∀ (x : List T) (s : Option Nat) (ok : Bool), byt x → x.length ≤ 16777216 → RI x s 0 ok →
  ((Cc lf (d + 3) 148 [.st [.sl x, .i .i64 0, .b ok]]).bind fun r2 =>
   (Cc lf (d + 3) 148 [.st [.sl x, .i .i64 (asI (T.cell (nth r2 1) 1)), .b (asB (T.cell (nth r2 1) 2))]]).bind fun r3 =>
   (Cc lf (d + 3) 150 [.st [.sl x, .i .i64 (asI (T.cell (nth r3 1) 1)), .b (asB (T.cell (nth r3 1) 2))]]).bind fun r4 =>
   bif nLe (asS (nth r4 0)).size LIM then
   (Cc lf (d + 3) 152 [.st [.sl x, .i .i64 (asI (T.cell (nth r4 1) 1)), .b (asB (T.cell (nth r4 1) 2))]]).bind fun r5 =>
   bif !(asB (nth r5 0)) then
    some [T.st [T.i .i64 0, T.i .i64 0, T.sl []], T.b false]
   else
    (Cc lf (d + 3) 49 [.st [.i .i64 (asI (nth r2 0)), .i .i64 (asI (nth r3 0)), .sl (listOf (asS (nth r4 0)))]]).bind fun r6 =>
    bif !(asB (nth r6 0)) then
     some [T.st [T.i .i64 0, T.i .i64 0, T.sl []], T.b false]
    else
     some [T.st [T.i .i64 (asI (nth r2 0)), T.i .i64 (asI (nth r3 0)), T.sl (listOf (asS (nth r4 0)))], T.b true]
   else none) = some (getRecR (bif (recHead x s).2 == some x.length && recB (recHead x s).1.1 (recHead x s).1.2.1 (listOf (recHead x s).1.2.2) then some ((recHead x s).1.1, (recHead x s).1.2.1, listOf (recHead x s).1.2.2) else none)) := by
  intro x s ok hx hxl R0
  obtain ⟨p1, ok1, e1, R1⟩ := c_iNum (d := d + 1) hlf hx (by omega) R0
  obtain ⟨p2, ok2, e2, R2⟩ := c_iNum (d := d + 1) hlf hx (by omega) R1
  obtain ⟨p3, ok3, e3, R3⟩ := c_iText (d := d) hlf hx (by omega) R2
  obtain ⟨t, e4⟩ := c_iDone (lf := lf) (d := d + 2) R3
  have hd := rdS_len hx (rd x (rd x s).2).2
  rw [e1]
  simp only [Option.bind_some, nth0, nthS, asI_i, asB_b, cell0, cellS]
  rw [e2]
  simp only [Option.bind_some, nth0, nthS, asI_i, asB_b, cell0, cellS]
  rw [e3]
  simp only [Option.bind_some, nth0, nthS, asI_i, asB_b, asS_s, cell0, cellS]
  rw [nLe_t (show (rdS x (rd x (rd x s).2).2).1.size ≤ LIM by unfold LIM; omega), cond_t, e4]
  simp only [Option.bind_some, nth0, asB_b]
  rw [c_iRecOk]
  simp only [Option.bind_some, nth0, asB_b]
  unfold recHead
  simp only
  cases (rdS x (rd x (rd x s).2).2).2 == some x.length with
  | false => rfl
  | true => cases recB (rd x s).1 (rd x (rd x s).2).1 (listOf (rdS x (rd x (rd x s).2).2).1) <;> rfl
 unfold getRecB
 by_cases h : b.length < 4
 ·rw [if_pos h, if_pos h]
  simp only [Option.bind_some, nth0, nthS, asL_l, asB_b]
  exact go [] none false byt_nil (Nat.zero_le _) ⟨rfl, fun q hq => by cases hq⟩
 ·rw [if_neg h, if_neg h]
  cases sealB b with
  | false =>
   simp only [cond_f, Option.bind_some, nth0, nthS, asL_l, asB_b]
   exact go [] none false byt_nil (Nat.zero_le _) ⟨rfl, fun q hq => by cases hq⟩
  | true =>
   simp only [cond_t, Option.bind_some, nth0, nthS, asL_l, asB_b]
   have hlen : (b.take (b.length - 4)).length = b.length - 4 := by rw [List.length_take]; omega
   have := go (b.take (b.length - 4)) (some 0) true (byt_take hb _) (by omega) ⟨rfl, fun q hq => by cases hq; exact ⟨rfl, Nat.zero_le _⟩⟩
   rw [hlen] at this
   exact this
theorem c_sGetRec {lf d : Nat} (hlf : 33554432 ≤ lf) {b : List T} (hb : byt b) (hl : b.length ≤ 16777216) : Cc lf (d + 4) 172 [.sl b] = some (getRecR (getRecB b)) := by
 refine (f172_eq (Cc lf (d + 3)) lf b).trans ?_
 unfold f172 f172_t
 dsimp only
 rw [wrap_in (by omega) (by omega)]
 unfold getRecB
 by_cases h : b.length < 4
 ·rw [iLt_t (by omega), if_pos h]; rfl
 ·rw [iLt_f (by omega), if_neg h, cond_f]
  obtain ⟨n, hn⟩ : ∃ n, n = b.length - 4 := ⟨_, rfl⟩
  have hlb : b.length = n + 4 := by omega
  have hB : ∀ j, 0 ≤ asI (b.getD j .u) ∧ asI (b.getD j .u) < 256 := byte_lt hb
  have S : ∀ (m k : Nat) (x : Int), k < b.length → 0 ≤ x → x < 16777216 → f172_0 (Cc lf (d + 3)) lf b (m + 1) x k = f172_0 (Cc lf (d + 3)) lf b m (x * 256 + asI (b.getD k .u)) ((k + 1 : Nat) : Int) := fun m k x hk h0 h1 => by
   have hv := hB k
   rw [f172_0_u]
   unfold f172_0_s
   rw [iLt_t (by omega), inR_nat hk, Int.toNat_natCast, wrap_in (x := asI (b.getD k .u)) (by omega) (by omega), show (8 : Int) = ((8 : Nat) : Int) from rfl, shl_mul (by omega) h0 (by omega)]
   have hor : intBits .or .i64 (x * ((2 ^ 8 : Nat) : Int)) (asI (b.getD k .u)) = x * 256 + asI (b.getD k .u) := by
    have := or_add (a := asI (b.getD k .u)) (b := x) (k := 8) (by omega) (by omega) h0 (by omega) (by omega)
    have hcomm : intBits .or .i64 (x * ((2 ^ 8 : Nat) : Int)) (asI (b.getD k .u)) = intBits .or .i64 (asI (b.getD k .u)) (x * ((2 ^ 8 : Nat) : Int)) := by
     show IntKind.wrap .i64 (((BitVec.ofInt 64 _ ||| BitVec.ofInt 64 _).toNat : Nat) : Int) = IntKind.wrap .i64 (((BitVec.ofInt 64 _ ||| BitVec.ofInt 64 _).toNat : Nat) : Int)
     rw [BitVec.or_comm]
    rw [hcomm, this]
    omega
   rw [hor, wrap_in (x := (k : Int) + 1) (by omega) (by omega)]
   rfl
  have L : f172_0 (Cc lf (d + 3)) lf b lf 0 (n : Int) = some [T.i .i64 0, T.sl b, T.i .i64 (n : Int), T.i .i64 (be4 b n), T.i .i64 0, T.i .i64 0, T.sl ([] : List T)] := by
   obtain ⟨m, rfl⟩ : ∃ m, lf = m + 5 := ⟨lf - 5, by omega⟩
   have v0 := hB n
   have v1 := hB (n + 1)
   have v2 := hB (n + 2)
   have v3 := hB (n + 3)
   have v2' := hB (n + 1 + 1)
   have v3' := hB (n + 1 + 1 + 1)
   rw [S _ n 0 (by omega) (by omega) (by omega), S _ (n + 1) _ (by omega) (by omega) (by omega), S _ (n + 1 + 1) _ (by omega) (by omega) (by omega), S _ (n + 1 + 1 + 1) _ (by omega) (by omega) (by omega), f172_0_u]
   unfold f172_0_s
   rw [iLt_f (by omega), wrap_in (x := (b.length : Int) - 4) (by omega) (by omega)]
   unfold be4
   rw [cond_f, show (b.length : Int) - 4 = (n : Int) by omega, Int.zero_mul, Int.zero_add]
  rw [show (b.length : Int) - 4 = (n : Int) by omega, L]
  simp only [Option.bind_some, nth0, nthS, asI_i, asL_l, Int.toNat_natCast]
  rw [iLe_t (by omega), iLe_t (by omega), Bool.and_self, cond_t]
  have hx := byt_take hb n
  have hlen : (b.take n).length = n := by rw [List.length_take]; omega
  have hbe : sealB b = (be4 b n == ((crcN (b.take n) : Nat) : Int)) := by unfold sealB; rw [← hn]
  obtain ⟨p1, ok1, e1, R1⟩ := c_sNum (d := d + 1) (s := some 0) (p := 0) (bad := false) hlf hx (by omega) ⟨rfl, (fun q hq => by cases hq; rfl), 0, rfl, Nat.zero_le _⟩
  obtain ⟨p2, ok2, e2, R2⟩ := c_sNum (d := d + 1) hlf hx (by omega) R1
  obtain ⟨p3, ok3, e3, R3⟩ := c_sText (d := d) hlf hx (by omega) R2
  have hd := rdS_len hx (rd (b.take n) (rd (b.take n) (some 0)).2).2
  rw [e1]
  simp only [Option.bind_some, nth0, nthS, asI_i, asB_b, cell0, cellS]
  rw [e2]
  simp only [Option.bind_some, nth0, nthS, asI_i, asB_b, cell0, cellS]
  rw [e3]
  simp only [Option.bind_some, nth0, nthS, asI_i, asB_b, asS_s, cell0, cellS]
  rw [nLe_t (show (rdS (b.take n) (rd (b.take n) (rd (b.take n) (some 0)).2).2).1.size ≤ LIM by unfold LIM; omega), cond_t]
  have fin := RS_fin R3 (α := Option (List T))
  rw [hlen] at fin
  rw [fin, c_sCrc hlf hx (by omega)]
  simp only [Option.bind_some, nth0, asI_i]
  rw [c_sRecOk]
  simp only [Option.bind_some, nth0, asB_b]
  rw [hbe, ← hn]
  unfold recHead
  simp only
  cases (rdS (b.take n) (rd (b.take n) (rd (b.take n) (some 0)).2).2).2 == some n with
  | false => rw [Bool.false_and, Bool.and_false]; rfl
  | true =>
   simp only [bne]
   cases be4 b n == ((crcN (b.take n) : Nat) : Int) with
   | false => rfl
   | true =>
    cases recB (rd (b.take n) (some 0)).1 (rd (b.take n) (rd (b.take n) (some 0)).2).1 (listOf (rdS (b.take n) (rd (b.take n) (rd (b.take n) (some 0)).2).2).1) <;> rfl
def pageU (ps : List T) (j : Nat) : Bool := asB (T.cell (ps.getD j T.u) 0)
theorem cellL_le {l : List T} {j : Nat} (k : Nat) : (asL (T.cell (l.getD j T.u) k)).length + tls (asL (T.cell (l.getD j T.u) k)) ≤ tls l := by
 by_cases h : j < l.length
 ·have h1 := tl_mem (List.getElem_mem h)
  rw [List.getD_eq_getElem?_getD, List.getElem?_eq_getElem h]
  show (asL (T.cell l[j] k)).length + tls (asL (T.cell l[j] k)) ≤ _
  cases e : l[j] <;> try (simp only [T.cell, asL, tls]; exact Nat.zero_le _)
  rename_i xs
  rw [e] at h1
  simp only [T.cell, tl] at h1 ⊢
  cases e2 : xs[k]? with
  | none => rw [List.getD_eq_getElem?_getD, e2]; exact Nat.zero_le _
  | some x =>
   rw [List.getD_eq_getElem?_getD, e2]
   have h3 := tl_mem (List.mem_of_getElem? e2)
   show (asL x).length + tls (asL x) ≤ _
   cases x <;> try (exact Nat.zero_le _)
   simp only [tl, asL] at h3 ⊢
   omega
 ·rw [List.getD_eq_getElem?_getD, List.getElem?_eq_none (by omega)]
  exact Nat.zero_le _
theorem c_isBlock {lf d : Nat} (l : List T) (n : Int) (hs : l.length ≤ 16777216) : Cc lf (d + 2) 95 [.st [.sl l], .i .i64 n] = some [.b (iLe 0 n && iLt n (l.length : Int))] := by
 refine (f95_eq (Cc lf (d + 1)) lf l n).trans ?_
 unfold f95 f95_t
 rw [wrap_in (by omega) (by omega), c_from]
 have : iLe n ((l.length : Int) - 1) = iLt n (l.length : Int) := by
  by_cases h : n < (l.length : Int)
  ·rw [iLt_t h, iLe_t (by omega)]
  ·rw [iLt_f h, iLe_f (by omega)]
 rw [this]
 rfl
theorem wf64_in {n : Int} (h : (Lit.int .i64 n).wf = true) : -9223372036854775808 ≤ n ∧ n ≤ 9223372036854775807 := by
 have h1 : (decide (-9223372036854775808 ≤ n) && decide (n ≤ 9223372036854775807)) = true := h
 rw [Bool.and_eq_true] at h1
 exact ⟨of_decide_eq_true h1.1, of_decide_eq_true h1.2⟩
def pgs (l : List T) (n1 : Int) : List T := asL (T.cell (l.getD n1.toNat T.u) 0)
def pgb (l : List T) (n1 n2 : Int) : List T := asL (T.cell ((pgs l n1).getD n2.toNat T.u) 1)
def pgB (l : List T) (n1 n2 : Int) : Bool := (iLe 0 n1 && iLt n1 (l.length : Int)) && ((iLe 0 n2 && iLt n2 ((pgs l n1).length : Int)) && asB (T.cell ((pgs l n1).getD n2.toNat T.u) 0))
def pgR (l : List T) (n1 n2 : Int) : List T := bif pgB l n1 n2 then pgb l n1 n2 else []
theorem pgb_len (l : List T) (n1 n2 : Int) : (pgb l n1 n2).length ≤ tls l := by
 have h1 := cellL_le (l := l) (j := n1.toNat) 0
 have h2 := cellL_le (l := pgs l n1) (j := n2.toNat) 1
 unfold pgb
 have : (pgs l n1).length + tls (pgs l n1) ≤ tls l := h1
 omega
theorem inR_le {n : Int} {k : Nat} (h0 : 0 ≤ n) (h1 : n < k) : inR n k = true := by
 obtain ⟨m, rfl⟩ := Int.eq_ofNat_of_zero_le h0
 exact inR_nat (by omega)
theorem c_iReadPage {lf d : Nat} (l : List T) (n1 n2 : Int) (hs : l.length + tls l ≤ 16777216) : Cc lf (d + 3) 144 [.st [.sl l], .i .i64 n1, .i .i64 n2] = some [.sl (pgR l n1 n2), .b (pgB l n1 n2)] := by
 refine (f144_eq (Cc lf (d + 2)) lf l n1 n2).trans ?_
 unfold f144 f144_t pgR pgB
 have hp := pgb_len l n1 n2
 have hq := cellL_le (l := l) (j := n1.toNat) 0
 unfold pgb at hp ⊢
 unfold pgs at hp ⊢
 rw [c_isBlock l n1 (by omega)]
 simp only [Option.bind_some, nth0, asB_b]
 by_cases h1 : n1 < 0
 ·rw [iLe_f (show ¬ 0 ≤ n1 by omega)]; rfl
 rw [iLe_t (show 0 ≤ n1 by omega)]
 by_cases h2 : (l.length : Int) ≤ n1
 ·rw [iLt_f (by omega)]; rfl
 rw [iLt_t (by omega), inR_le (by omega) (by omega), wrap_in (by omega) (by omega), c_from]
 simp only [cond_f, cond_t, Bool.and_self, Bool.not_true, Option.bind_some, nth0, asB_b]
 by_cases h3 : n2 < 0
 ·rw [iLe_f (show ¬ 0 ≤ n2 by omega)]; rfl
 rw [iLe_t (show 0 ≤ n2 by omega)]
 by_cases h4 : ((asL (T.cell (l.getD n1.toNat T.u) 0)).length : Int) ≤ n2
 ·rw [iLe_f (by omega), iLt_f (by omega)]; rfl
 rw [iLe_t (by omega), iLt_t (by omega), inR_le (by omega) (by omega)]
 cases asB (T.cell ((asL (T.cell (l.getD n1.toNat T.u) 0)).getD n2.toNat T.u) 0) with
 | false => rfl
 | true =>
  rw [c_clone (by omega)]
  rfl
def recA (l : List T) (a : Int) : Option (Int × Int × List T) := bif !iLt a 0 then getRecB (pgR l (a.tdiv 8) (a.tmod 8)) else none
def pgsByt (l : List T) : Prop := ∀ n1 n2, byt (pgb l n1 n2)
theorem pgR_byt {l : List T} (h : pgsByt l) (n1 n2 : Int) : byt (pgR l n1 n2) := by
 unfold pgR
 cases pgB l n1 n2
 ·exact byt_nil
 ·exact h n1 n2
theorem pgR_len (l : List T) (n1 n2 : Int) : (pgR l n1 n2).length ≤ tls l := by
 unfold pgR
 cases pgB l n1 n2
 ·exact Nat.zero_le _
 ·exact pgb_len l n1 n2
theorem pgR_no {l : List T} {n1 n2 : Int} (h : pgB l n1 n2 = false) : getRecB (pgR l n1 n2) = none := by
 unfold pgR
 rw [h]
 rfl
theorem wrap_div {a : Int} (h : (Lit.int .i64 a).wf = true) (h0 : 0 ≤ a) : IntKind.wrap .i64 (a.tdiv 8) = a.tdiv 8 := by
 have h2 : a ≤ 9223372036854775807 := (wf64_in h).2
 have : 0 ≤ a.tdiv 8 := Int.tdiv_nonneg h0 (by omega)
 have : a.tdiv 8 ≤ a := Int.tdiv_le_self _ h0
 exact wrap_in (by omega) (by omega)
theorem c_recAt {lf d : Nat} (hlf : 33554432 ≤ lf) (l : List T) (ops : Int) (fs : List T) (dn : Bool) (sq a : Int) (ha : (Lit.int .i64 a).wf = true) (hb : pgsByt l) (hs : l.length + tls l ≤ 16777216) : Cc lf (d + 5) 85 [.st [.sl l, .i .i64 ops, .sl fs, .b dn, .i .i64 sq], .i .i64 a] = some (getRecR (recA l a)) := by
 refine (f85_eq (Cc lf (d + 4)) lf l ops fs dn sq a).trans ?_
 unfold f85 f85_t recA
 by_cases h : a < 0
 ·rw [iLt_t h]; rfl
 rw [iLt_f h, wrap_div ha (by omega), c_iReadPage (d := d + 1) l _ _ hs]
 simp only [cond_f, cond_t, Bool.not_false, Option.bind_some, nth0, nthS, asL_l, asB_b]
 have hL := pgR_len l (a.tdiv 8) (a.tmod 8)
 cases h2 : pgB l (a.tdiv 8) (a.tmod 8) with
 | false => rw [pgR_no h2]; rfl
 | true =>
  rw [c_iGetRec hlf (pgR_byt hb _ _) (by omega)]
  cases getRecB (pgR l (a.tdiv 8) (a.tmod 8)) <;> rfl
def pageB (ps : List T) (j : Nat) : Bool := !iLt 400 ((asL (T.cell (ps.getD j T.u) 1)).length : Int) && ((pageU ps j || !iLt 0 ((asL (T.cell (ps.getD j T.u) 1)).length : Int)) && (!iLt 0 (j : Int) || (!pageU ps j || pageU ps (j - 1))))
def blockB (ps : List T) (w : Int) : Bool := ((ps.length : Int) == 8 && (iLe 0 w && iLe w 100000)) && allB (pageB ps) ps.length
def blocksB (l : List T) (j : Nat) : Bool := blockB (asL (T.cell (l.getD j T.u) 0)) (asI (T.cell (l.getD j T.u) 1))
def chipB (l : List T) : Bool := allB (blocksB l) l.length && (iLe 3 (l.length : Int) && iLe (l.length : Int) 24)
theorem c_sBlockOk {lf d : Nat} (hlf : 33554432 ≤ lf) (ps : List T) (w : Int) (bad : Bool) (hs : ps.length ≤ 16777216) : Cc lf (d + 2) 167 [.st [.sl ps, .i .i64 w, .b bad]] = some [.b (blockB ps w)] := by
 refine (f167_eq (Cc lf (d + 1)) lf ps w bad).trans ?_
 unfold f167 f167_t blockB
 dsimp only
 have L := all_loop (F := fun n j => f167_0 (Cc lf (d + 1)) lf bad ps w n j) (P := pageB ps) (X := some [T.i .i64 0, T.b false]) (Y := some [T.i .i64 1]) (len := ps.length) (fun n j hj => by
  rw [f167_0_u]
  unfold f167_0_s pageB pageU
  rw [iLt_t (by omega), inR_nat hj, wrap_next hj (by omega)]
  simp only [cond_t, Int.toNat_natCast]
  cases h0 : iLt 0 (j : Int) with
  | true =>
   have hj0 : 0 < j := by have := iLt_iff.1 h0; omega
   rw [wrap_pred hj0 (by omega), inR_nat (by omega)]
   simp only [cond_t, Int.toNat_natCast]
   cases iLt 400 ((asL (T.cell (ps.getD j T.u) 1)).length : Int) <;> cases asB (T.cell (ps.getD j T.u) 0) <;> cases iLt 0 ((asL (T.cell (ps.getD j T.u) 1)).length : Int) <;> cases asB (T.cell (ps.getD (j - 1) T.u) 0) <;> rfl
  | false =>
   cases iLt 400 ((asL (T.cell (ps.getD j T.u) 1)).length : Int) <;> cases asB (T.cell (ps.getD j T.u) 0) <;> cases iLt 0 ((asL (T.cell (ps.getD j T.u) 1)).length : Int) <;> rfl) (fun n => by
  rw [f167_0_u]
  unfold f167_0_s
  rw [iLt_f (by omega)]
  rfl) (n := lf) (by omega)
 rw [c_l1In, L]
 simp only [Option.bind_some, nth0, asB_b, bne]
 cases ((ps.length : Int) == 8) with
 | false => rfl
 | true =>
  cases (iLe 0 w && iLe w 100000) with
  | false => rfl
  | true => cases allB (pageB ps) ps.length <;> rfl
theorem c_sChipOk {lf d : Nat} (hlf : 33554432 ≤ lf) (l : List T) (hs : l.length + tls l ≤ 16777216) : Cc lf (d + 3) 110 [.st [.sl l]] = some [.b (chipB l)] := by
 refine (f110_eq (Cc lf (d + 2)) lf l).trans ?_
 unfold f110 f110_t chipB
 dsimp only
 have L := all_loop (F := fun n j => f110_0 (Cc lf (d + 2)) lf l n j) (P := blocksB l) (X := some [T.i .i64 0, T.b false]) (Y := some [T.i .i64 1, T.sl l]) (len := l.length) (fun n j hj => by
  have hp := cellL_le (l := l) (j := j) 0
  rw [f110_0_u]
  unfold f110_0_s blocksB
  rw [iLt_t (by omega), inR_nat hj, wrap_next hj (by omega), Int.toNat_natCast, c_sBlockOk hlf _ _ _ (by omega)]
  simp only [cond_t, Option.bind_some, nth0, asB_b]
  cases blockB (asL (T.cell (l.getD j T.u) 0)) (asI (T.cell (l.getD j T.u) 1)) <;> rfl) (fun n => by
  rw [f110_0_u]
  unfold f110_0_s
  rw [iLt_f (by omega)]
  rfl) (n := lf) (by omega)
 rw [L]
 cases allB (blocksB l) l.length with
 | false => rfl
 | true =>
  simp only [cond_t, Option.bind_some, nth0, nthS, asL_l, asI_i, c_l1In, asB_b]
  rfl
theorem c_iChipOk {lf d : Nat} (hlf : 33554432 ≤ lf) (l : List T) (hs : l.length + tls l ≤ 16777216) : Cc lf (d + 2) 83 [.st [.sl l]] = some [.b (chipB l)] := by
 refine (f83_eq (Cc lf (d + 1)) lf l).trans ?_
 unfold f83 f83_t chipB
 dsimp only
 have In : ∀ (i : Nat), f83_1 (Cc lf (d + 1)) lf l (l.length : Int) (i : Int) l lf 0 = bif allB (pageB (asL (T.cell (l.getD i T.u) 0))) (asL (T.cell (l.getD i T.u) 0)).length then some [T.i .i64 1, T.sl l, T.i .i64 (l.length : Int), T.i .i64 (i : Int), T.sl l] else some [T.i .i64 0, T.b false] := fun i => by
  have hp := cellL_le (l := l) (j := i) 0
  obtain ⟨ps, hps⟩ : ∃ ps, ps = asL (T.cell (l.getD i T.u) 0) := ⟨_, rfl⟩
  rw [← hps] at hp ⊢
  exact all_loop (F := fun n j => f83_1 (Cc lf (d + 1)) lf l (l.length : Int) (i : Int) l n j) (P := pageB ps) (X := some [T.i .i64 0, T.b false]) (Y := some [T.i .i64 1, T.sl l, T.i .i64 (l.length : Int), T.i .i64 (i : Int), T.sl l]) (len := ps.length) (fun n j hj => by
   rw [f83_1_u]
   unfold f83_1_s pageB pageU
   rw [Int.toNat_natCast, ← hps, iLt_t (by omega), inR_nat hj, wrap_next hj (by omega)]
   simp only [cond_t, Int.toNat_natCast]
   cases h0 : iLt 0 (j : Int) with
   | true =>
    have hj0 : 0 < j := by have := iLt_iff.1 h0; omega
    rw [wrap_pred hj0 (by omega), inR_nat (by omega)]
    simp only [cond_t, Int.toNat_natCast]
    cases iLt 400 ((asL (T.cell (ps.getD j T.u) 1)).length : Int) <;> cases asB (T.cell (ps.getD j T.u) 0) <;> cases iLt 0 ((asL (T.cell (ps.getD j T.u) 1)).length : Int) <;> cases asB (T.cell (ps.getD (j - 1) T.u) 0) <;> rfl
   | false =>
    cases iLt 400 ((asL (T.cell (ps.getD j T.u) 1)).length : Int) <;> cases asB (T.cell (ps.getD j T.u) 0) <;> cases iLt 0 ((asL (T.cell (ps.getD j T.u) 1)).length : Int) <;> rfl) (fun n => by
   rw [f83_1_u]
   unfold f83_1_s
   rw [Int.toNat_natCast, ← hps, iLt_f (by omega)]
   rfl) (n := lf) (by omega)
 have L := all_loop (F := fun n j => f83_0 (Cc lf (d + 1)) lf n l (l.length : Int) j l) (P := blocksB l) (X := some [T.i .i64 0, T.b false]) (Y := some [T.i .i64 1, T.sl l]) (len := l.length) (fun n j hj => by
  rw [f83_0_u]
  unfold f83_0_s blocksB blockB
  rw [iLt_t (by omega), inR_nat hj, c_from]
  dsimp only
  rw [In]
  simp only [cond_t, Option.bind_some, nth0, asB_b, bne, Int.toNat_natCast]
  cases (((asL (T.cell (l.getD j T.u) 0)).length : Int) == 8) with
  | false => rfl
  | true =>
   cases (iLe 0 (asI (T.cell (l.getD j T.u) 1)) && iLe (asI (T.cell (l.getD j T.u) 1)) 100000) with
   | false => rfl
   | true =>
    cases allB (pageB (asL (T.cell (l.getD j T.u) 0))) (asL (T.cell (l.getD j T.u) 0)).length with
    | false => rfl
    | true =>
     simp only [cond_t, Option.bind_some, nth0, nthS, asL_l, asI_i]
     rw [wrap_next hj (by omega)]
     rfl) (fun n => by
  rw [f83_0_u]
  unfold f83_0_s
  rw [iLt_f (by omega)]
  rfl) (n := lf) (by omega)
 rw [L]
 cases allB (blocksB l) l.length with
 | false => rfl
 | true =>
  simp only [cond_t, Option.bind_some, nth0, nthS, asL_l, asI_i, c_from, asB_b]
  rfl
def faultB (l : List T) (j : Nat) : Bool :=
 (iLe 0 (asI (T.cell (l.getD j T.u) 0)) && iLe (asI (T.cell (l.getD j T.u) 0)) 100000) && ((iLe 1 (asI (T.cell (l.getD j T.u) 1)) && iLe (asI (T.cell (l.getD j T.u) 1)) 2) && ((iLe 0 (asI (T.cell (l.getD j T.u) 2)) && iLe (asI (T.cell (l.getD j T.u) 2)) 400) && (!iLt 0 (j : Int) || !iLe (asI (T.cell (l.getD j T.u) 0)) (asI (T.cell (l.getD (j - 1) T.u) 0)))))
def devB (l : List T) (ops : Int) (fs : List T) : Bool := allB (faultB fs) fs.length && (chipB l && ((iLe 0 ops && iLe ops 100000) && iLe (fs.length : Int) 20))
theorem c_sFaults {lf d : Nat} (hlf : 33554432 ≤ lf) (l : List T) (hs : l.length ≤ 16777216) : Cc lf (d + 2) 111 [.sl l] = some [.b (allB (faultB l) l.length && iLe (l.length : Int) 20)] := by
 refine (f111_eq (Cc lf (d + 1)) lf l).trans ?_
 unfold f111 f111_t
 dsimp only
 have L := all_loop (F := fun n j => f111_0 (Cc lf (d + 1)) lf l n j) (P := faultB l) (X := some [T.i .i64 0, T.b false]) (Y := some [T.i .i64 1, T.sl l]) (len := l.length) (fun n j hj => by
  rw [f111_0_u]
  unfold f111_0_s
  rw [iLt_t (by omega), inR_nat hj, wrap_next hj (by omega)]
  simp only [c_l1In, Option.bind_some, nth0, asB_b, faultB, cond_not, cond_and, cond_or, cond_t, Int.toNat_natCast]
  cases h0 : iLt 0 (j : Int) with
  | true =>
   have hj0 : 0 < j := by have := iLt_iff.1 h0; omega
   rw [wrap_pred hj0 (by omega), inR_nat (by omega)]
   simp only [cond_t, Int.toNat_natCast]
  | false => rfl) (fun n => by
  rw [f111_0_u]
  unfold f111_0_s
  rw [iLt_f (by omega)]
  rfl) (n := lf) (by omega)
 rw [L]
 cases allB (faultB l) l.length <;> rfl
theorem c_sDevOk {lf d : Nat} (hlf : 33554432 ≤ lf) (l : List T) (ops : Int) (fs : List T) (dn : Bool) (hs : l.length + tls l ≤ 16777216) (hs2 : fs.length ≤ 16777216) : Cc lf (d + 4) 65 [.st [.sl l, .i .i64 ops, .sl fs, .b dn]] = some [.b (devB l ops fs)] := by
 refine (f65_eq (Cc lf (d + 3)) lf l ops fs dn).trans ?_
 unfold f65 f65_t devB
 rw [c_sChipOk hlf l hs, c_l1In, c_sFaults (d := d + 1) hlf fs hs2]
 simp only [Option.bind_some, nth0, asB_b]
 generalize allB (faultB fs) fs.length = b1
 generalize iLe (fs.length : Int) 20 = b2
 cases chipB l <;> cases (iLe 0 ops && iLe ops 100000) <;> cases b1 <;> cases b2 <;> rfl
theorem c_iDevOk {lf d : Nat} (hlf : 33554432 ≤ lf) (l : List T) (ops : Int) (fs : List T) (dn : Bool) (hs : l.length + tls l ≤ 16777216) (hs2 : fs.length ≤ 16777216) : Cc lf (d + 3) 42 [.st [.sl l, .i .i64 ops, .sl fs, .b dn]] = some [.b (devB l ops fs)] := by
 refine (f42_eq (Cc lf (d + 2)) lf l ops fs dn).trans ?_
 unfold f42 f42_t devB
 dsimp only
 have L := all_loop (F := fun n j => f42_0 (Cc lf (d + 2)) lf dn l fs ops n j) (P := faultB fs) (X := some [T.i .i64 0, T.b false]) (Y := some [T.i .i64 1, T.sl l, T.i .i64 ops, T.sl fs, T.b dn]) (len := fs.length) (fun n j hj => by
  rw [f42_0_u]
  unfold f42_0_s
  rw [iLt_t (by omega), inR_nat hj, wrap_next hj (by omega)]
  simp only [c_from, Option.bind_some, nth0, asB_b, faultB, cond_not, cond_and, cond_or, cond_t, Int.toNat_natCast]
  cases h0 : iLt 0 (j : Int) with
  | true =>
   have hj0 : 0 < j := by have := iLt_iff.1 h0; omega
   rw [wrap_pred hj0 (by omega), inR_nat (by omega)]
   simp only [cond_t, Int.toNat_natCast]
  | false => rfl) (fun n => by
  rw [f42_0_u]
  unfold f42_0_s
  rw [iLt_f (by omega)]
  rfl) (n := lf) (by omega)
 rw [L]
 cases allB (faultB fs) fs.length with
 | false => rfl
 | true =>
  simp only [cond_t, Option.bind_some, nth0, nthS, asL_l, asI_i]
  rw [c_iChipOk hlf l hs, c_from]
  simp only [Option.bind_some, nth0, asB_b]
  generalize iLe (fs.length : Int) 20 = b2
  cases chipB l <;> cases (iLe 0 ops && iLe ops 100000) <;> cases b2 <;> rfl
theorem foldN_and {P : Nat → Bool} (b : Bool) : ∀ n, foldN (fun s j => s && P j) b n = (b && allB P n)
 | 0 => by cases b <;> rfl
 | n + 1 => by
  show (foldN (fun s j => s && P j) b n && P n) = (b && (allB P n && P n))
  rw [foldN_and b n, Bool.and_assoc]
theorem foldN_le {g : Int → Nat → Int} {P : Nat → Prop} {q : Int} (h : ∀ s k, g s k ≤ q ↔ s ≤ q ∧ P k) (s : Int) : ∀ n, foldN g s n ≤ q ↔ s ≤ q ∧ ∀ k, k < n → P k
 | 0 => ⟨fun h => ⟨h, fun _ h => absurd h (Nat.not_lt_zero _)⟩, fun h => h.1⟩
 | n + 1 => by
  show g (foldN g s n) n ≤ q ↔ _
  rw [h, foldN_le h s n]
  constructor
  ·rintro ⟨⟨h1, h2⟩, h3⟩
   refine ⟨h1, fun k hk => ?_⟩
   by_cases e : k = n
   ·rw [e]; exact h3
   ·exact h2 k (by omega)
  ·rintro ⟨h1, h2⟩
   exact ⟨⟨h1, fun k hk => h2 k (by omega)⟩, h2 n (by omega)⟩
theorem getRecB_seq {b : List T} {r : Int × Int × List T} (h : getRecB b = some r) : recB r.1 r.2.1 r.2.2 = true := by
 unfold getRecB at h
 split at h
 ·cases h
 ·generalize sealB b = b1 at h
  generalize recHead (b.take (b.length - 4)) (some 0) = x at h
  generalize (x.2 == some (b.length - 4)) = b2 at h
  cases b1 <;> cases b2 <;> simp only [Bool.false_and, Bool.true_and, Bool.and_false, cond_f] at h
  ·cases h
  ·cases h
  ·cases h
  ·cases e : recB x.1.1 x.1.2.1 (listOf x.1.2.2) with
   | false => rw [e] at h; cases h
   | true =>
    rw [e] at h
    cases h
    exact e
theorem recB_in {k s : Int} {b : List T} (h : recB k s b = true) : (1 ≤ k ∧ k ≤ 4) ∧ (0 ≤ s ∧ s ≤ 1000000) ∧ b.length ≤ 380 := by
 unfold recB at h
 simp only [Bool.and_eq_true, iLe_iff] at h
 exact ⟨h.1, h.2.1, by omega⟩
def seqG (ps : List T) (s : Int) (k : Nat) : Int := match getRecB (asL (T.cell (ps.getD k T.u) 1)) with | some r => (bif iLe s r.2.1 then r.2.1 + 1 else s) | none => s
theorem seqG_in {ps : List T} {s : Int} {k : Nat} (h : 0 ≤ s ∧ s ≤ 1000001) : 0 ≤ seqG ps s k ∧ seqG ps s k ≤ 1000001 := by
 unfold seqG
 cases e : getRecB (asL (T.cell (ps.getD k T.u) 1)) with
 | none => exact h
 | some r =>
  have := (recB_in (getRecB_seq e)).2.1
  simp only
  cases iLe s r.2.1 <;> simp only [cond_t, cond_f] <;> omega
theorem seqG_le {ps : List T} {q s : Int} {k : Nat} : seqG ps s k ≤ q ↔ s ≤ q ∧ ∀ r, getRecB (asL (T.cell (ps.getD k T.u) 1)) = some r → r.2.1 < q := by
 unfold seqG
 cases e : getRecB (asL (T.cell (ps.getD k T.u) 1)) with
 | none => exact ⟨fun h => ⟨h, fun r hr => by cases hr⟩, fun h => h.1⟩
 | some r =>
  simp only
  by_cases c : s ≤ r.2.1
  ·rw [iLe_t c]
   simp only [cond_t]
   exact ⟨fun h => ⟨by omega, fun r' hr => by cases hr; omega⟩, fun h => by have := h.2 r rfl; omega⟩
  ·rw [iLe_f c]
   simp only [cond_f]
   exact ⟨fun h => ⟨h, fun r' hr => by cases hr; omega⟩, fun h => h.1⟩
def mostB (ps : List T) (s : Int) : Int := foldN (seqG ps) s ps.length
theorem mostB_le {ps : List T} {q s : Int} : mostB ps s ≤ q ↔ s ≤ q ∧ ∀ k, k < ps.length → ∀ r, getRecB (asL (T.cell (ps.getD k T.u) 1)) = some r → r.2.1 < q := by
 unfold mostB
 exact foldN_le (g := seqG ps) (P := fun k => ∀ r, getRecB (asL (T.cell (ps.getD k T.u) 1)) = some r → r.2.1 < q) (fun s k => seqG_le) s _
def mostL (l : List T) : Int := foldN (fun s i => mostB (pgs l (i : Nat)) s) 0 l.length
theorem mostB_in {ps : List T} {s : Int} (h : 0 ≤ s ∧ s ≤ 1000001) : 0 ≤ mostB ps s ∧ mostB ps s ≤ 1000001 := by
 have : ∀ n, 0 ≤ foldN (seqG ps) s n ∧ foldN (seqG ps) s n ≤ 1000001 := fun n => by
  induction n with
  | zero => exact h
  | succ n ih => exact seqG_in ih
 exact this _
theorem c_sMost {lf d : Nat} (hlf : 33554432 ≤ lf) (l : List T) (hb : pgsByt l) (hs : l.length + tls l ≤ 16777216) : Cc lf (d + 5) 116 [.st [.sl l]] = some [.i .i64 (mostL l)] := by
 refine (f116_eq (Cc lf (d + 4)) lf l).trans ?_
 unfold f116 f116_t
 dsimp only
 have In : ∀ (i : Nat) (s : Int), i < l.length → 0 ≤ s ∧ s ≤ 1000001 → f116_1 (Cc lf (d + 4)) lf (i : Int) l lf s 0 = some [T.i .i64 0, T.i .i64 (mostB (pgs l i) s), T.i .i64 (i : Int), T.sl l] := fun i s hi hs0 => by
  have hp := cellL_le (l := l) (j := i) 0
  have hps : pgs l i = asL (T.cell (l.getD i T.u) 0) := rfl
  rw [← hps] at hp
  exact (fold_loop (S := Int) (F := fun n s k => f116_1 (Cc lf (d + 4)) lf (i : Int) l n s k) (g := seqG (pgs l i)) (I := fun s _ => 0 ≤ s ∧ s ≤ 1000001) (Y := fun s => some [T.i .i64 0, T.i .i64 s, T.i .i64 (i : Int), T.sl l]) (len := (pgs l i).length) (fun n s k hk hs1 => by
   have hq := cellL_le (l := pgs l i) (j := k) 1
   have hbb : byt (asL (T.cell ((pgs l i).getD k T.u) 1)) := hb i k
   rw [f116_1_u]
   unfold f116_1_s seqG
   rw [inR_nat hi, Int.toNat_natCast, ← hps, iLt_t (by omega), inR_nat hk, Int.toNat_natCast, wrap_next hk (by omega), c_sGetRec hlf hbb (by omega)]
   simp only [cond_t, Option.bind_some]
   cases e : getRecB (asL (T.cell ((pgs l i).getD k T.u) 1)) with
   | none => rfl
   | some r =>
    have hr := (recB_in (getRecB_seq e)).2.1
    show (bif true then (bif iLe s r.2.1 then f116_1 (Cc lf (d + 4)) lf (i : Int) l n (IntKind.wrap .i64 (r.2.1 + 1)) ((k + 1 : Nat) : Int) else f116_1 (Cc lf (d + 4)) lf (i : Int) l n s ((k + 1 : Nat) : Int)) else f116_1 (Cc lf (d + 4)) lf (i : Int) l n s ((k + 1 : Nat) : Int)) = f116_1 (Cc lf (d + 4)) lf (i : Int) l n (bif iLe s r.2.1 then r.2.1 + 1 else s) ((k + 1 : Nat) : Int)
    rw [wrap_in (by omega) (by omega)]
    cases iLe s r.2.1 <;> rfl) (fun s k hk h => seqG_in h) (fun n s hs1 => by
   rw [f116_1_u]
   unfold f116_1_s
   rw [inR_nat hi, Int.toNat_natCast, ← hps, iLt_f (by omega)]
   rfl) (n := lf) (by omega) (s := s) hs0).1
 have L := (fold_loop (S := Int) (F := fun n s i => f116_0 (Cc lf (d + 4)) lf n s i l) (g := fun s i => mostB (pgs l (i : Nat)) s) (I := fun s _ => 0 ≤ s ∧ s ≤ 1000001) (Y := fun s => some [T.i .i64 0, T.i .i64 s]) (len := l.length) (fun n s i hi hs1 => by
  rw [f116_0_u]
  unfold f116_0_s
  rw [iLt_t (by omega)]
  dsimp only
  rw [In i s hi hs1]
  simp only [cond_t, Option.bind_some, nth0, nthS, asI_i, asL_l]
  rw [wrap_next hi (by omega)]) (fun s i hi h => mostB_in h) (fun n s hs1 => by
  rw [f116_0_u]
  unfold f116_0_s
  rw [iLt_f (by omega)]
  rfl) (n := lf) (by omega) (s := 0) (by omega)).1
 rw [L]
 rfl
def logB (l : List T) (ops : Int) (fs : List T) (sq : Int) : Bool := devB l ops fs && ((iLe 0 sq && iLe sq 1000000) && iLe (mostL l) sq)
theorem c_sLogOk {lf d : Nat} (hlf : 33554432 ≤ lf) (l : List T) (ops : Int) (fs : List T) (dn : Bool) (sq : Int) (hb : pgsByt l) (hs : l.length + tls l ≤ 16777216) (hs2 : fs.length ≤ 16777216) : Cc lf (d + 6) 67 [.st [.sl l, .i .i64 ops, .sl fs, .b dn, .i .i64 sq]] = some [.b (logB l ops fs sq)] := by
 refine (f67_eq (Cc lf (d + 5)) lf l ops fs dn sq).trans ?_
 unfold f67 f67_t logB
 rw [c_sDevOk (d := d + 1) hlf l ops fs dn hs hs2, c_l1In, c_sMost hlf l hb hs]
 simp only [Option.bind_some, nth0, asB_b, asI_i]
 cases devB l ops fs <;> cases (iLe 0 sq && iLe sq 1000000) <;> rfl
def seqOk (l : List T) (sq : Int) (a : Nat) : Bool := match recA l a with | some r => iLt r.2.1 sq | none => true
theorem recA_pages {l : List T} (hc : chipB l = true) {i k : Nat} (hi : i < l.length) (hk : k < 8) : recA l ((8 * i + k : Nat) : Int) = getRecB (asL (T.cell ((pgs l i).getD k T.u) 1)) ∧ (pgs l i).length = 8 := by
 have h1 := allB_iff.1 (Bool.and_eq_true _ _ ▸ hc).1 i hi
 unfold blocksB blockB at h1
 rw [Bool.and_eq_true, Bool.and_eq_true] at h1
 have h8 : (pgs l i).length = 8 := by
  have : (((pgs l i).length : Int) == 8) = true := h1.1.1
  rw [beq_iff_eq] at this
  omega
 refine ⟨?_, h8⟩
 have hd : ((8 * i + k : Nat) : Int).tdiv 8 = (i : Int) := by
  rw [Int.tdiv_eq_ediv_of_nonneg (by omega)]; omega
 have hm : ((8 * i + k : Nat) : Int).tmod 8 = (k : Int) := by
  rw [Int.tmod_eq_emod_of_nonneg (by omega)]; omega
 unfold recA
 rw [iLt_f (by omega), hd, hm]
 simp only [Bool.not_false, cond_t]
 have hp : pageB (pgs l i) k = true := allB_iff.1 h1.2 k (by show k < (pgs l i).length; omega)
 unfold pgR pgB
 rw [iLe_t (by omega), iLt_t (by omega), iLe_t (by omega), iLt_t (by omega), Int.toNat_natCast]
 simp only [Bool.and_self, Bool.true_and]
 cases e : asB (T.cell ((pgs l i).getD k T.u) 0) with
 | true => rfl
 | false =>
  unfold pageB pageU at hp
  rw [e] at hp
  simp only [Bool.and_eq_true, Bool.false_or, Bool.not_eq_true'] at hp
  have : ¬ (0 : Int) < ((asL (T.cell ((pgs l i).getD k T.u) 1)).length : Int) := fun h => by rw [iLt_t h] at hp; exact absurd hp.2.1 (by simp)
  have : asL (T.cell ((pgs l i).getD k T.u) 1) = [] := List.eq_nil_of_length_eq_zero (by omega)
  rw [this]
  rfl
theorem seq_same {l : List T} (hc : chipB l = true) (sq : Int) (h0 : 0 ≤ sq) : allB (seqOk l sq) (8 * l.length) = iLe (mostL l) sq := by
 have A : mostL l ≤ sq ↔ ∀ i, i < l.length → ∀ k, k < (pgs l i).length → ∀ r, getRecB (asL (T.cell ((pgs l i).getD k T.u) 1)) = some r → r.2.1 < sq := by
  have := foldN_le (g := fun s i => mostB (pgs l (i : Nat)) s) (P := fun i => ∀ k, k < (pgs l i).length → ∀ r, getRecB (asL (T.cell ((pgs l i).getD k T.u) 1)) = some r → r.2.1 < sq) (q := sq) (fun s i => mostB_le) 0 l.length
  exact ⟨fun h => (this.1 h).2, fun h => this.2 ⟨h0, h⟩⟩
 have B : allB (seqOk l sq) (8 * l.length) = true ↔ ∀ i, i < l.length → ∀ k, k < (pgs l i).length → ∀ r, getRecB (asL (T.cell ((pgs l i).getD k T.u) 1)) = some r → r.2.1 < sq := by
  rw [allB_iff]
  constructor
  ·intro h i hi k hk r hr
   have h8 := (recA_pages hc hi (show 0 < 8 by omega)).2
   have h2 := (recA_pages hc hi (show k < 8 by omega)).1
   have := h (8 * i + k) (by omega)
   unfold seqOk at this
   rw [h2, hr] at this
   exact iLt_iff.1 this
  ·intro h a ha
   have h2 := recA_pages hc (i := a / 8) (k := a % 8) (by omega) (by omega)
   rw [show 8 * (a / 8) + a % 8 = a by omega] at h2
   unfold seqOk
   rw [h2.1]
   cases e : getRecB (asL (T.cell ((pgs l (a / 8 : Nat)).getD (a % 8) T.u) 1)) with
   | none => rfl
   | some r => exact iLt_t (h (a / 8) (by omega) (a % 8) (by omega) r e)
 cases e : allB (seqOk l sq) (8 * l.length) with
 | true => rw [iLe_t (A.2 (B.1 e))]
 | false =>
  rw [iLe_f]
  intro h
  have := B.2 (A.1 h)
  rw [e] at this
  cases this
theorem c_iLogOk {lf d : Nat} (hlf : 33554432 ≤ lf) (l : List T) (ops : Int) (fs : List T) (dn : Bool) (sq : Int) (hb : pgsByt l) (hs : l.length + tls l ≤ 1048576) (hs2 : fs.length ≤ 16777216) : Cc lf (d + 6) 69 [.st [.sl l, .i .i64 ops, .sl fs, .b dn, .i .i64 sq]] = some [.b (logB l ops fs sq)] := by
 refine (f69_eq (Cc lf (d + 5)) lf l ops fs dn sq).trans ?_
 unfold f69 f69_t logB
 dsimp only
 have step : ∀ a : Nat, a < 8 * l.length → Cc lf (d + 5) 85 [.st [.sl l, .i .i64 ops, .sl fs, .b dn, .i .i64 sq], .i .i64 (a : Int)] = some (getRecR (recA l a)) := fun a ha => c_recAt hlf l ops fs dn sq a (wf64 (by omega) (by omega)) hb (by omega)
 have L0 : ∀ b : Bool, f69_0 (Cc lf (d + 5)) lf dn l fs ops sq lf 0 b = some [T.i .i64 0, T.b (b && allB (seqOk l sq) (8 * l.length)), T.sl l, T.i .i64 ops, T.sl fs, T.b dn, T.i .i64 sq] := fun b => by
  rw [← foldN_and]
  exact (fold_loop (S := Bool) (F := fun n s a => f69_0 (Cc lf (d + 5)) lf dn l fs ops sq n a s) (g := fun s a => s && seqOk l sq a) (I := fun _ _ => True) (Y := fun s => some [T.i .i64 0, T.b s, T.sl l, T.i .i64 ops, T.sl fs, T.b dn, T.i .i64 sq]) (len := 8 * l.length) (fun n s a ha _ => by
   rw [f69_0_u]
   unfold f69_0_s seqOk
   rw [wrap_in (x := (l.length : Int) * 8) (by omega) (by omega), iLt_t (by omega), step a ha, wrap_next ha (by omega)]
   simp only [cond_t, Option.bind_some]
   cases recA l a with
   | none => cases s <;> rfl
   | some r => cases s <;> rfl) (fun _ _ _ _ => trivial) (fun n s _ => by
   rw [f69_0_u]
   unfold f69_0_s
   rw [wrap_in (x := (l.length : Int) * 8) (by omega) (by omega), iLt_f (by omega)]
   rfl) (n := lf) (by omega) (s := b) trivial).1
 have L1 : f69_1 (Cc lf (d + 5)) lf dn l fs ops sq lf 0 = some [T.i .i64 0, T.b false, T.sl l, T.i .i64 ops, T.sl fs, T.b dn, T.i .i64 sq] := by
  exact (fold_loop (S := Unit) (F := fun n _ a => f69_1 (Cc lf (d + 5)) lf dn l fs ops sq n a) (g := fun s _ => s) (I := fun _ _ => True) (Y := fun _ => some [T.i .i64 0, T.b false, T.sl l, T.i .i64 ops, T.sl fs, T.b dn, T.i .i64 sq]) (len := 8 * l.length) (fun n s a ha _ => by
   rw [f69_1_u]
   unfold f69_1_s
   rw [wrap_in (x := (l.length : Int) * 8) (by omega) (by omega), iLt_t (by omega), step a ha, wrap_next ha (by omega)]
   simp only [cond_t, Option.bind_some]
   cases asB (nth (getRecR (recA l a)) 1) <;> rfl) (fun _ _ _ _ => trivial) (fun n s _ => by
   rw [f69_1_u]
   unfold f69_1_s
   rw [wrap_in (x := (l.length : Int) * 8) (by omega) (by omega), iLt_f (by omega)]
   rfl) (n := lf) (by omega) (s := ()) trivial).1
 rw [c_iDevOk (d := d + 2) hlf l ops fs dn (by omega) hs2, c_from]
 simp only [Option.bind_some, nth0, asB_b]
 cases hd : devB l ops fs with
 | false =>
  rw [L1]
  rfl
 | true =>
  rw [L0]
  have hc : chipB l = true := by
   unfold devB at hd
   rw [Bool.and_eq_true, Bool.and_eq_true] at hd
   exact hd.2.1
  cases h : (iLe 0 sq && iLe sq 1000000) with
  | false => rfl
  | true =>
   rw [Bool.and_eq_true, iLe_iff, iLe_iff] at h
   rw [seq_same hc sq h.1]
   rfl
theorem cell_fit {cs : List CT} {l : List T} {j k : Nat} {c : CT} (h : fitC (.sl true cs) (.sl l)) (hj : j < l.length) (hk : cs[k]? = some c) : fitC c (T.cell (l.getD j .u) k) := by
 have h1 := fitL_all.1 h.2 l[j] (List.getElem_mem hj)
 rw [List.getD_eq_getElem?_getD, List.getElem?_eq_getElem hj]
 obtain ⟨xs, hx, h2⟩ := fitE_st h1
 show fitC c (T.cell l[j] k)
 rw [hx]
 have h3 := fitCs_get.1 h2
 have hk2 : k < cs.length := by
  rcases Nat.lt_or_ge k cs.length with h | h
  ·exact h
  ·rw [List.getElem?_eq_none h] at hk; cases hk
 have hx2 : xs[k]? = some (xs[k]'(by omega)) := List.getElem?_eq_getElem _
 have := h3.2 k c _ hk hx2
 simp only [T.cell]
 rw [List.getD_eq_getElem?_getD, hx2]
 exact this
theorem pgsByt_of {cs : List CT} {l : List T} (h : fitC (.sl true (.sl true [.b, .sl false [.i .u8]] :: cs)) (.sl l)) : pgsByt l := by
 intro n1 n2
 unfold pgb pgs
 by_cases h1 : n1.toNat < l.length
 ·obtain ⟨ps, e, q⟩ := fitC_sl (cell_fit (k := 0) h h1 rfl)
  rw [e]
  by_cases h2 : n2.toNat < ps.length
  ·obtain ⟨bs, e2, q2⟩ := fitC_sl (cell_fit (k := 1) q h2 rfl)
   show byt (asL (T.cell (ps.getD n2.toNat T.u) 1))
   rw [e2]
   exact byt_of q2
  ·show byt (asL (T.cell (ps.getD n2.toNat T.u) 1))
   rw [List.getD_eq_getElem?_getD, List.getElem?_eq_none (show ps.length ≤ n2.toNat by omega)]
   exact byt_nil
 ·have e : l.getD n1.toNat T.u = T.u := by
   rw [List.getD_eq_getElem?_getD, List.getElem?_eq_none (show l.length ≤ n1.toNat by omega)]
   rfl
  rw [e]
  exact byt_nil
def newT : T := T.st [T.sl [], T.i .i64 1, T.i .i64 1, T.sl [], T.sl [], T.i .i64 (-1), T.i .i64 (-1)]
theorem c_sFsNew {lf d : Nat} : Cc lf (d + 1) 23 [] = some [T.st [T.sl [], T.i .i64 1]] := by
 refine (f23_eq (Cc lf d) lf).trans ?_
 rfl
theorem c_iFsNew {lf d : Nat} : Cc lf (d + 1) 21 [] = some [T.st [T.sl [], T.i .i64 1]] := by
 refine (f21_eq (Cc lf d) lf).trans ?_
 rfl
theorem c_sImageNew {lf d : Nat} : Cc lf (d + 2) 24 [] = some [newT] := by
 refine (f24_eq (Cc lf (d + 1)) lf).trans ?_
 unfold f24 f24_t
 rw [c_sFsNew]
 rfl
theorem c_iImageNew {lf d : Nat} : Cc lf (d + 2) 28 [] = some [newT] := by
 refine (f28_eq (Cc lf (d + 1)) lf).trans ?_
 unfold f28 f28_t
 rw [c_iFsNew]
 rfl
abbrev chCT : List CT := [.sl true [.b, .sl false [.i .u8]], .i .i64, .b]
theorem chipB_of {l : List T} (hl : 3 ≤ l.length ∧ l.length ≤ 24) (h : ∀ i : Nat, i < l.length → blockB (pgs l i) (asI (T.cell (l.getD i T.u) 1)) = true) : chipB l = true := by
 unfold chipB
 simp only [Bool.and_eq_true, iLe_iff, allB_iff]
 exact ⟨fun i hi => h i hi, by omega⟩
def blk0 : T := .st [.sl [T.st [T.b false, T.sl []], T.st [T.b false, T.sl []], T.st [T.b false, T.sl []], T.st [T.b false, T.sl []], T.st [T.b false, T.sl []], T.st [T.b false, T.sl []], T.st [T.b false, T.sl []], T.st [T.b false, T.sl []]], .i .i64 0, .b false]
theorem rep_at {n i : Nat} (h : i < n) : (List.replicate n blk0).getD i T.u = blk0 := by
 rw [List.getD_eq_getElem?_getD, List.getElem?_replicate, if_pos h]
 rfl
theorem rep_chip {n : Nat} (h : 3 ≤ n ∧ n ≤ 24) : chipB (List.replicate n blk0) = true := by
 refine chipB_of (by rw [List.length_replicate]; exact h) fun i hi => ?_
 rw [List.length_replicate] at hi
 show blockB (asL (T.cell ((List.replicate n blk0).getD i T.u) 0)) (asI (T.cell ((List.replicate n blk0).getD i T.u) 1)) = true
 rw [rep_at hi]
 rfl
theorem rep_fit {n : Nat} (h : n ≤ 24) : fitC (.sl true chCT) (.sl (List.replicate n blk0)) := by
 refine ⟨by rw [List.length_replicate]; unfold maxLen; omega, fitL_all.2 fun x hx => ?_⟩
 rw [List.eq_of_mem_replicate hx]
 refine ⟨⟨by show (8 : Nat) ≤ maxLen; unfold maxLen; omega, fitL_all.2 fun p hp => ?_⟩, ⟨rfl, wf64 (by omega) (by omega)⟩, trivial, trivial⟩
 simp only [List.mem_cons, List.not_mem_nil, or_false, or_self] at hp
 rw [hp]
 exact ⟨trivial, ⟨Nat.zero_le _, trivial⟩, trivial⟩
def okN (n : Int) (fs : List T) : Bool := (iLe 3 n && iLe n 24) && (allB (faultB fs) fs.length && iLe (fs.length : Int) 20)
def chipOf (n : Int) : List T := bif iLe 3 n && iLe n 24 then List.replicate n.toNat blk0 else []
theorem chipOf_t {n : Nat} (h : 3 ≤ n ∧ n ≤ 24) : chipOf (n : Int) = List.replicate n blk0 := by
 unfold chipOf
 rw [iLe_t (by omega), iLe_t (by omega), Int.toNat_natCast]
 rfl
theorem in_f {n : Int} (h : ¬ (3 ≤ n ∧ n ≤ 24)) : (iLe 3 n && iLe n 24) = false := by
 by_cases h1 : 3 ≤ n
 ·rw [iLe_t h1, iLe_f (by omega)]; rfl
 ·rw [iLe_f h1]; rfl
theorem chipOf_f {n : Int} (h : ¬ (3 ≤ n ∧ n ≤ 24)) : chipOf n = [] := by
 unfold chipOf
 rw [in_f h]
 rfl
theorem c_sChipNew {lf d : Nat} (hlf : 33554432 ≤ lf) (n : Int) : Cc lf (d + 2) 64 [.i .i64 n] = some [.st [.sl (chipOf n)]] := by
 by_cases h : 3 ≤ n ∧ n ≤ 24
 ·obtain ⟨n, rfl⟩ := Int.eq_ofNat_of_zero_le (show 0 ≤ n by omega)
  rw [chipOf_t (by omega)]
  refine (f64_eq (Cc lf (d + 1)) lf n).trans ?_
  unfold f64 f64_t
  dsimp only
  have L : ∀ (k j m : Nat), j + k = n → k < m → f64_0 (Cc lf (d + 1)) lf n m j (List.replicate j blk0) = some [T.i .i64 0, T.sl ([] : List T), T.sl (List.replicate n blk0)] := by
   intro k
   induction k with
   | zero =>
    intro j m hj hm
    obtain ⟨m, rfl⟩ : ∃ z, m = z + 1 := ⟨m - 1, by omega⟩
    rw [f64_0_u]
    unfold f64_0_s
    rw [iLt_f (by omega), show j = n by omega]
    rfl
   | succ k ih =>
    intro j m hj hm
    obtain ⟨m, rfl⟩ : ∃ z, m = z + 1 := ⟨m - 1, by omega⟩
    rw [f64_0_u]
    unfold f64_0_s
    rw [iLt_t (by omega), c_l1In, iLe_t (by omega), iLe_t (by omega), wrap_in (x := (j : Int) + 1) (by omega) (by omega), nLe_t (by rw [List.length_replicate]; unfold LIM; simp only [List.length_cons, List.length_nil]; omega)]
    have e := ih (j + 1) m (by omega) (by omega)
    rw [List.replicate_succ'] at e
    exact e
  have := L n 0 lf (by omega) (by omega)
  rw [show ((0 : Nat) : Int) = 0 from rfl, show List.replicate 0 blk0 = [] from rfl] at this
  rw [this]
  rfl
 ·rw [chipOf_f h]
  refine (f64_eq (Cc lf (d + 1)) lf n).trans ?_
  unfold f64 f64_t
  dsimp only
  obtain ⟨m, rfl⟩ : ∃ z, lf = z + 1 := ⟨lf - 1, by omega⟩
  rw [f64_0_u]
  unfold f64_0_s
  by_cases h1 : 0 < n
  ·rw [iLt_t h1, c_l1In, in_f h]
   rfl
  ·rw [iLt_f h1]
   rfl
theorem c_iChipNew {lf d : Nat} (hlf : 33554432 ≤ lf) (n : Int) : Cc lf (d + 2) 40 [.i .i64 n] = some [.st [.sl (chipOf n)]] := by
 refine (f40_eq (Cc lf (d + 1)) lf n).trans ?_
 unfold f40 f40_t
 dsimp only
 rw [c_from]
 by_cases h : 3 ≤ n ∧ n ≤ 24
 ·obtain ⟨n, rfl⟩ := Int.eq_ofNat_of_zero_le (show 0 ≤ n by omega)
  rw [chipOf_t (by omega), iLe_t (by omega), iLe_t (by omega)]
  have L : ∀ (k j m : Nat), j + k = n → k < m → f40_0 (Cc lf (d + 1)) lf n m j (List.replicate j blk0) = some [T.i .i64 0, T.sl ([] : List T), T.sl (List.replicate n blk0)] := by
   intro k
   induction k with
   | zero =>
    intro j m hj hm
    obtain ⟨m, rfl⟩ : ∃ z, m = z + 1 := ⟨m - 1, by omega⟩
    rw [f40_0_u]
    unfold f40_0_s
    rw [iLt_f (by omega), show j = n by omega]
    rfl
   | succ k ih =>
    intro j m hj hm
    obtain ⟨m, rfl⟩ : ∃ z, m = z + 1 := ⟨m - 1, by omega⟩
    rw [f40_0_u]
    unfold f40_0_s
    rw [iLt_t (by omega), wrap_in (x := (j : Int) + 1) (by omega) (by omega), nLe_t (by rw [List.length_replicate]; unfold LIM; simp only [List.length_cons, List.length_nil]; omega)]
    have e := ih (j + 1) m (by omega) (by omega)
    rw [List.replicate_succ'] at e
    exact e
  have := L n 0 lf (by omega) (by omega)
  rw [show ((0 : Nat) : Int) = 0 from rfl, show List.replicate 0 blk0 = [] from rfl] at this
  rw [this]
  rfl
 ·rw [chipOf_f h, in_f h]
  rfl
theorem chipOf_small (n : Int) : (chipOf n).length + tls (chipOf n) ≤ 500 ∧ pgsByt (chipOf n) := by
 by_cases h : 3 ≤ n ∧ n ≤ 24
 ·obtain ⟨n, rfl⟩ := Int.eq_ofNat_of_zero_le (show 0 ≤ n by omega)
  rw [chipOf_t (by omega)]
  have key : ∀ m : Nat, tls (List.replicate m blk0) = 8 * m := by
   intro m
   induction m with
   | zero => rfl
   | succ m ih =>
    rw [List.replicate_succ]
    simp only [tls, ih]
    show 8 + 8 * m = _
    omega
  rw [key, List.length_replicate]
  exact ⟨by omega, pgsByt_of (rep_fit (by omega))⟩
 ·rw [chipOf_f h]
  exact ⟨by show 0 + 0 ≤ 500; omega, pgsByt_of (cs := [.i .i64, .b]) ⟨Nat.zero_le _, trivial⟩⟩
theorem devN (n : Int) (fs : List T) : devB (chipOf n) 0 fs = okN n fs := by
 unfold devB okN
 by_cases h : 3 ≤ n ∧ n ≤ 24
 ·obtain ⟨n, rfl⟩ := Int.eq_ofNat_of_zero_le (show 0 ≤ n by omega)
  rw [chipOf_t (by omega), rep_chip (by omega), iLe_t (show (3 : Int) ≤ (n : Int) by omega), iLe_t (show (n : Int) ≤ 24 by omega)]
  cases allB (faultB fs) fs.length <;> cases iLe (fs.length : Int) 20 <;> rfl
 ·rw [chipOf_f h, in_f h]
  cases allB (faultB fs) fs.length <;> rfl
def devNT (n : Int) (fs : List T) : List T := bif okN n fs then [.sl (chipOf n), .i .i64 0, .sl fs, .b false] else [.sl [], .i .i64 0, .sl [], .b false]
theorem c_sDevN {lf d : Nat} (hlf : 33554432 ≤ lf) (n : Int) (fs : List T) (hs : fs.length ≤ 16777216) : Cc lf (d + 5) 25 [.i .i64 n, .sl fs] = some [.st (devNT n fs)] := by
 refine (f25_eq (Cc lf (d + 4)) lf n fs).trans ?_
 unfold f25 f25_t
 rw [c_sChipNew (d := d + 2) hlf]
 simp only [Option.bind_some, nth0, asL_l, cell0, List.nil_append]
 have hc := (chipOf_small n).1
 rw [nLe_t (by unfold LIM; simp only [List.length_nil]; omega), cond_t, c_sDevOk (d := d) hlf _ 0 fs false (by omega) hs, devN]
 unfold devNT
 cases okN n fs <;> rfl
theorem c_iDevN {lf d : Nat} (hlf : 33554432 ≤ lf) (n : Int) (fs : List T) (hs : fs.length ≤ 16777216) : Cc lf (d + 4) 15 [.i .i64 n, .sl fs] = some [.st (devNT n fs)] := by
 refine (f15_eq (Cc lf (d + 3)) lf n fs).trans ?_
 unfold f15 f15_t
 have hc := (chipOf_small n).1
 have hcl : Cc lf (d + 3) 41 [T.sl fs] = some [.sl fs] := by
  show (bif nLe (0 + fs.length) LIM then some [T.sl fs] else none) = _
  rw [nLe_t (by unfold LIM; omega)]
  rfl
 rw [c_iChipNew (d := d + 1) hlf, hcl]
 simp only [Option.bind_some, nth0, asL_l, cell0]
 rw [c_iDevOk (d := d) hlf _ 0 fs false (by omega) hs, devN]
 unfold devNT
 cases okN n fs <;> rfl
theorem most_new (n : Nat) : mostL (List.replicate n blk0) = 0 := by
 unfold mostL
 have : ∀ m, m ≤ n → foldN (fun s i => mostB (pgs (List.replicate n blk0) ((i : Nat) : Int)) s) 0 m = 0 := by
  intro m
  induction m with
  | zero => intro _; rfl
  | succ m ih =>
   intro h
   show mostB (pgs (List.replicate n blk0) ((m : Nat) : Int)) (foldN (fun s i => mostB (pgs (List.replicate n blk0) ((i : Nat) : Int)) s) 0 m) = 0
   rw [ih (by omega)]
   have : pgs (List.replicate n blk0) ((m : Nat) : Int) = asL (T.cell blk0 0) := by
    unfold pgs
    rw [Int.toNat_natCast, rep_at (by omega)]
   rw [this]
   rfl
 exact this _ (by rw [List.length_replicate]; exact Nat.le_refl _)
def logN (n : Int) (fs : List T) : T := .st (devNT n fs ++ [.i .i64 0])
theorem logB_new {n : Int} {fs : List T} (h : okN n fs = true) : logB (chipOf n) 0 fs 0 = true := by
 have h2 := devN n fs
 rw [h] at h2
 unfold logB
 rw [h2]
 unfold okN at h
 simp only [Bool.and_eq_true, iLe_iff] at h
 obtain ⟨n, rfl⟩ := Int.eq_ofNat_of_zero_le (show 0 ≤ n by omega)
 rw [chipOf_t (by omega), most_new]
 rfl
theorem c_sLogN {lf d : Nat} (hlf : 33554432 ≤ lf) (n : Int) (fs : List T) (hs : fs.length ≤ 16777216) : Cc lf (d + 6) 67 [logN n fs] = some [.b (okN n fs)] := by
 unfold logN devNT
 cases h : okN n fs with
 | true =>
  obtain ⟨h1, h2⟩ := chipOf_small n
  have := c_sLogOk (d := d) hlf (chipOf n) 0 fs false 0 h2 (by omega) hs
  rw [logB_new h] at this
  exact this
 | false => exact c_sLogOk (d := d) hlf [] 0 [] false 0 (pgsByt_of (cs := [.i .i64, .b]) ⟨Nat.zero_le _, trivial⟩) (by show 0 + 0 ≤ _; omega) (by show 0 ≤ _; omega)
theorem c_iLogN {lf d : Nat} (hlf : 33554432 ≤ lf) (n : Int) (fs : List T) (hs : fs.length ≤ 16777216) : Cc lf (d + 6) 69 [logN n fs] = some [.b (okN n fs)] := by
 unfold logN devNT
 cases h : okN n fs with
 | true =>
  obtain ⟨h1, h2⟩ := chipOf_small n
  have := c_iLogOk (d := d) hlf (chipOf n) 0 fs false 0 h2 (by omega) hs
  rw [logB_new h] at this
  exact this
 | false => exact c_iLogOk (d := d) hlf [] 0 [] false 0 (pgsByt_of (cs := [.i .i64, .b]) ⟨Nat.zero_le _, trivial⟩) (by show 0 + 0 ≤ _; omega) (by show 0 ≤ _; omega)
theorem c_sFsNewOk {lf d : Nat} (hlf : 33554432 ≤ lf) : Cc lf (d + 2) 66 [.st [.sl [], .i .i64 1]] = some [.b true] := by
 refine (f66_eq (Cc lf (d + 1)) lf [] 1).trans ?_
 unfold f66 f66_t
 obtain ⟨m, rfl⟩ : ∃ z, lf = z + 1 := ⟨lf - 1, by omega⟩
 rw [c_l1In]
 rfl
theorem c_iFsNewOk {lf d : Nat} (hlf : 33554432 ≤ lf) : Cc lf (d + 2) 22 [.st [.sl [], .i .i64 1]] = some [.b true] := by
 refine (f22_eq (Cc lf (d + 1)) lf [] 1).trans ?_
 unfold f22 f22_t
 obtain ⟨m, rfl⟩ : ∃ z, lf = z + 1 := ⟨lf - 1, by omega⟩
 rw [c_from]
 rfl
theorem c_sSame0 {lf d : Nat} (hlf : 33554432 ≤ lf) : Cc lf (d + 1) 173 [.st [.sl [], .i .i64 1], .st [.sl [], .i .i64 1]] = some [.b true] := by
 refine (f173_eq (Cc lf d) lf [] 1 [] 1).trans ?_
 obtain ⟨m, rfl⟩ : ∃ z, lf = z + 1 := ⟨lf - 1, by omega⟩
 rfl
theorem c_iSame0 {lf d : Nat} (hlf : 33554432 ≤ lf) : Cc lf (d + 1) 20 [.st [.sl [], .i .i64 1], .st [.sl [], .i .i64 1]] = some [.b true] := by
 refine (f20_eq (Cc lf d) lf [] 1 [] 1).trans ?_
 obtain ⟨m, rfl⟩ : ∃ z, lf = z + 1 := ⟨lf - 1, by omega⟩
 rfl
theorem c_sImgNew {lf d : Nat} (hlf : 33554432 ≤ lf) (l : List T) (ops : Int) (fs : List T) (dn : Bool) (sq : Int) : Cc lf (d + 6) 68 [.st [.sl l, .i .i64 ops, .sl fs, .b dn, .i .i64 sq], newT] = some [.b true] := by
 have h : Cc lf (d + 5) 117 [newT] = some [.b true] := by
  refine (f117_eq (Cc lf (d + 4)) lf [] 1 1 [] [] (-1) (-1)).trans ?_
  unfold f117 f117_t
  rw [c_sFsNew (d := d + 3)]
  simp only [Option.bind_some, nth0, asL_l, cell0, cellS, asI_i]
  rw [c_sSame0 (d := d + 3) hlf]
  rfl
 refine (f68_eq (Cc lf (d + 5)) lf l ops fs dn sq [] 1 1 [] [] (-1) (-1)).trans ?_
 unfold f68 f68_t
 unfold newT at h
 rw [h]
 rfl
theorem c_iImgNew {lf d : Nat} (hlf : 33554432 ≤ lf) (l : List T) (ops : Int) (fs : List T) (dn : Bool) (sq : Int) : Cc lf (d + 7) 70 [.st [.sl l, .i .i64 ops, .sl fs, .b dn, .i .i64 sq], newT] = some [.b true] := by
 have h : Cc lf (d + 6) 124 [newT] = some [.b true] := by
  refine (f124_eq (Cc lf (d + 5)) lf [] 1 1 [] [] (-1) (-1)).trans ?_
  unfold f124 f124_t
  rw [c_iFsNew (d := d + 4)]
  simp only [Option.bind_some, nth0, asL_l, cell0, cellS, asI_i]
  rw [c_iSame0 (d := d + 4) hlf]
  rfl
 refine (f70_eq (Cc lf (d + 6)) lf l ops fs dn sq [] 1 1 [] [] (-1) (-1)).trans ?_
 unfold f70 f70_t
 unfold newT at h
 rw [h]
 rfl
def engT (n : Int) (fs : List T) : T := bif okN n fs then T.st [.sl [], .i .i64 1, .sl [], .i .i64 1, .i .i64 1, .sl [], .sl [], .i .i64 (-1), .i .i64 (-1), .sl (chipOf n), .i .i64 0, .sl fs, .b false, .i .i64 0]
 else T.st [.sl [], .i .i64 0, .sl [], .i .i64 0, .i .i64 0, .sl [], .sl [], .i .i64 0, .i .i64 0, .sl [], .i .i64 0, .sl [], .b false, .i .i64 0]
def engArg (n : Int) (fs : List T) : T := bif okN n fs then T.st [.sl [], .i .i64 1, .sl [], .i .i64 1, .i .i64 1, .sl [], .sl [], .i .i64 (-1), .i .i64 (-1), .sl (chipOf n), .i .i64 0, .sl fs, .b false, .i .i64 0]
 else T.st [.sl [], .i .i64 1, .sl [], .i .i64 1, .i .i64 1, .sl [], .sl [], .i .i64 (-1), .i .i64 (-1), .sl [], .i .i64 0, .sl [], .b false, .i .i64 0]
theorem c_sEngOkN {lf d : Nat} (hlf : 33554432 ≤ lf) (n : Int) (fs : List T) (hs : fs.length ≤ 16777216) : Cc lf (d + 7) 26 [engArg n fs] = some [.b (okN n fs)] := by
 have hL := c_sLogN (d := d) hlf n fs hs
 unfold engArg
 unfold logN devNT at hL
 cases h : okN n fs with
 | true =>
  rw [h] at hL
  refine (f26_eq (Cc lf (d + 6)) lf [] 1 [] 1 1 [] [] (-1) (-1) (chipOf n) 0 fs false 0).trans ?_
  unfold f26 f26_t
  have hI := c_sImgNew (d := d) hlf (chipOf n) 0 fs false 0
  unfold newT at hI
  rw [c_sFsNewOk (d := d + 4) hlf]
  simp only [Option.bind_some, nth0, asB_b, cond_t]
  rw [show Cc lf (d + 6) 67 [T.st [.sl (chipOf n), .i .i64 0, .sl fs, .b false, .i .i64 0]] = some [.b true] from hL, hI]
  rfl
 | false =>
  rw [h] at hL
  refine (f26_eq (Cc lf (d + 6)) lf [] 1 [] 1 1 [] [] (-1) (-1) [] 0 [] false 0).trans ?_
  unfold f26 f26_t
  rw [c_sFsNewOk (d := d + 4) hlf]
  simp only [Option.bind_some, nth0, asB_b, cond_t]
  rw [show Cc lf (d + 6) 67 [T.st [.sl [], .i .i64 0, .sl [], .b false, .i .i64 0]] = some [.b false] from hL]
  rfl
theorem c_iEngOkN {lf d : Nat} (hlf : 33554432 ≤ lf) (n : Int) (fs : List T) (hs : fs.length ≤ 16777216) : Cc lf (d + 8) 29 [engArg n fs] = some [.b (okN n fs)] := by
 have hL := c_iLogN (d := d + 1) hlf n fs hs
 unfold engArg
 unfold logN devNT at hL
 cases h : okN n fs with
 | true =>
  rw [h] at hL
  refine (f29_eq (Cc lf (d + 7)) lf [] 1 [] 1 1 [] [] (-1) (-1) (chipOf n) 0 fs false 0).trans ?_
  unfold f29 f29_t
  have hI := c_iImgNew (d := d) hlf (chipOf n) 0 fs false 0
  unfold newT at hI
  rw [c_iFsNewOk (d := d + 5) hlf]
  simp only [Option.bind_some, nth0, asB_b, cond_t]
  rw [show Cc lf (d + 7) 69 [T.st [.sl (chipOf n), .i .i64 0, .sl fs, .b false, .i .i64 0]] = some [.b true] from hL, hI]
  rfl
 | false =>
  rw [h] at hL
  refine (f29_eq (Cc lf (d + 7)) lf [] 1 [] 1 1 [] [] (-1) (-1) [] 0 [] false 0).trans ?_
  unfold f29 f29_t
  rw [c_iFsNewOk (d := d + 5) hlf]
  simp only [Option.bind_some, nth0, asB_b, cond_t]
  rw [show Cc lf (d + 7) 69 [T.st [.sl [], .i .i64 0, .sl [], .b false, .i .i64 0]] = some [.b false] from hL]
  rfl
theorem same {lf : Nat} (hlf : 33554432 ≤ lf) (n : Int) {c : CT} (hn : fitC c (.i .i64 n)) (zn : tl (.i .i64 n) ≤ 1048576) (fs : List T) (hf : fitC (.sl true [.i .i64, .i .i64, .i .i64]) (.sl fs)) (z : tl (.sl fs) ≤ 1048576) :
 ∃ r, Cc lf 13 6 [.i .i64 n, .sl fs] = some [r] ∧ Cc lf 13 8 [.i .i64 n, .sl fs] = some [r] ∧ (fitE true csfit_MisbiMiiiScMsiEMssEEiEiMisbiMiiiScMsiEMssEEiEiiMisbiiEMiMiiEEiiMMbScEibEiMiiiEbi r ∧ tl r ≤ 16777216) ∧ True := by
 simp only [tl] at z
 have hz := tls_flat hf rfl
 have hS := c_sEngOkN (d := 5) hlf n fs (by omega)
 have hI := c_iEngOkN (d := 4) hlf n fs (by omega)
 have hcs := (chipOf_small n).1
 refine ⟨engT n fs, ?_, ?_, ⟨?_, ?_⟩, trivial⟩
 ·refine (f6_eq (Cc lf 12) lf n fs).trans ?_
  unfold f6 f6_t
  rw [c_sFsNew (d := 11), c_sImageNew (d := 10), c_sDevN (d := 7) hlf n fs (by omega)]
  unfold newT devNT engT
  unfold engArg at hS
  cases h : okN n fs with
  | true =>
   rw [h] at hS
   simp only [cond_t, cond_f] at hS
   simp only [Option.bind_some, nth0, asL_l, asI_i, asB_b, cell0, cellS, cond_t]
   rw [hS]
   rfl
  | false =>
   rw [h] at hS
   simp only [cond_t, cond_f] at hS
   simp only [Option.bind_some, nth0, asL_l, asI_i, asB_b, cell0, cellS, cond_f]
   rw [hS]
   rfl
 ·refine (f8_eq (Cc lf 12) lf n fs).trans ?_
  unfold f8 f8_t
  rw [c_iFsNew (d := 11), c_iImageNew (d := 10), c_iDevN (d := 8) hlf n fs (by omega)]
  unfold newT devNT engT
  unfold engArg at hI
  cases h : okN n fs with
  | true =>
   rw [h] at hI
   simp only [cond_t, cond_f] at hI
   simp only [Option.bind_some, nth0, asL_l, asI_i, asB_b, cell0, cellS, cond_t]
   rw [hI]
   rfl
  | false =>
   rw [h] at hI
   simp only [cond_t, cond_f] at hI
   simp only [Option.bind_some, nth0, asL_l, asI_i, asB_b, cell0, cellS, cond_f]
   rw [hI]
   rfl
 ·have w0 : (Lit.int .i64 0).wf = true := wf64 (by omega) (by omega)
  have w1 : (Lit.int .i64 1).wf = true := wf64 (by omega) (by omega)
  have wn : (Lit.int .i64 (-1)).wf = true := wf64 (by omega) (by omega)
  unfold engT
  cases h : okN n fs with
  | true =>
   unfold okN at h
   simp only [Bool.and_eq_true, iLe_iff] at h
   obtain ⟨n, rfl⟩ := Int.eq_ofNat_of_zero_le (show 0 ≤ n by omega)
   rw [chipOf_t (by omega)]
   exact ⟨⟨Nat.zero_le _, trivial⟩, ⟨rfl, w1⟩, ⟨Nat.zero_le _, trivial⟩, ⟨rfl, w1⟩, ⟨rfl, w1⟩, ⟨Nat.zero_le _, trivial⟩, ⟨Nat.zero_le _, trivial⟩, ⟨rfl, wn⟩, ⟨rfl, wn⟩, rep_fit (by omega), ⟨rfl, w0⟩, hf, trivial, ⟨rfl, w0⟩, trivial⟩
  | false => exact ⟨⟨Nat.zero_le _, trivial⟩, ⟨rfl, w0⟩, ⟨Nat.zero_le _, trivial⟩, ⟨rfl, w0⟩, ⟨rfl, w0⟩, ⟨Nat.zero_le _, trivial⟩, ⟨Nat.zero_le _, trivial⟩, ⟨rfl, w0⟩, ⟨rfl, w0⟩, ⟨Nat.zero_le _, trivial⟩, ⟨rfl, w0⟩, ⟨Nat.zero_le _, trivial⟩, trivial, ⟨rfl, w0⟩, trivial⟩
 ·unfold engT
  cases okN n fs with
  | true => simp only [cond_t, tl, tls, List.length_nil]; omega
  | false => exact Nat.zero_le _
theorem lawB {lf : Nat} (hlf : 33554432 ≤ lf) {t0 : T} (ht0 : fitC (.i .i64) t0) {t1 : T} (ht1 : fitC (.sl true [.i .i64, .i .i64, .i .i64]) t1) : Cc lf 14 3 [t0, t1] = some [.b true] := by
 have hf0 := ht0
 obtain ⟨p0_0, rfl, w0_0⟩ := fitC_i ht0
 have hf1 := ht1
 obtain ⟨p1_0, rfl, w1_0⟩ := fitC_sl ht1
 refine (f3_eq (Cc lf 13) lf p0_0 p1_0).trans ?_
 unfold f3 f3_t
 have z0 : tl (T.i .i64 p0_0) ≤ 1048576 := Nat.zero_le _
 rcases sz5 hlf (d := 13) (by omega) _ hf1 1048576 (by omega) (by omega) with e | ⟨y2, e2, g2, zz1⟩
 ·rw [e]; rfl
 rw [e2]
 simp only [Option.bind_some, nth0, asI_i]
 rw [iLt_f (show ¬ y2 < 0 by omega), cond_f]
 have z1 : tl (T.sl p1_0) ≤ 1048576 := by omega
 have eT1 := to7 hlf (d := 13) (by omega) _ hf1 (by omega)
 obtain ⟨r0, eS, eI, ⟨hr0, zr0⟩, _⟩ := same hlf p0_0 hf0 z0 p1_0 hf1 z1
 have hR0 := hr0
 obtain ⟨R0_0, R0_1, R0_2, R0_3, R0_4, R0_5, R0_6, R0_7, R0_8, R0_9, R0_10, R0_11, R0_12, R0_13, rfl, W0_0, W0_1, W0_2, W0_3, W0_4, W0_5, W0_6, W0_7, W0_8, W0_9, W0_10, W0_11, W0_13⟩ := fit_MisbiMiiiScMsiEMssEEiEiMisbiMiiiScMsiEMssEEiEiiMisbiiEMiMiiEEiiMMbScEibEiMiiiEbi hr0
 have eQ0 := eq9 hlf (d := 13) (by omega) _ hR0 zr0
 have eX1 := eq10 hlf (d := 13) (by omega) _ hf1 (by omega)
 obtain ⟨K1, bK1_0, eK1, uK1, vK1⟩ := mk11 hlf (d := 13) (by omega) _ hf1 (by omega) 1 (by omega) (by omega)
 obtain ⟨M1, bM1_0, bM1_1, bM1_2, bM1_3, bM1_4, bM1_5, eM1, eH1, uM1, vM1⟩ := ms12 hlf (d := 13) (by omega) hR0 zr0 1 (by omega) (by omega)
 simp only [T.cell, List.getD_cons_zero, List.getD_cons_succ] at eH1
 simp only [eT1, eQ0, eS, eI, eX1, eK1, eM1, eH1, Option.bind_some, nth0, nthS, asI_i, asL_l, asB_b, asS_s, cell0, cellS, beq_self_eq_true, bne_self_eq_false, Bool.not_true, Bool.and_true, cond_f, cond_t, iLt_f (show ¬ (K1 < 0) by omega), iLt_f (show ¬ (M1 < 0) by omega)]
end Go.Proofs.YtcippopaecnjhaaGreat.T
