/- What functions of the law FnExactGetInode come to, in trees; no condition. -/
import Derived.Test.YtockabaoaneplaaRows
import Derived.Test.YtockabaoaneplaaX2
set_option linter.unusedVariables false
set_option linter.constructorNameAsVariable false
set_option linter.unusedSimpArgs false
set_option linter.unnecessarySimpa false
namespace Go.Proofs.Ytockabaoaneplaa.T
open Go Go.Proofs.YtockabaoaneplaaV
set_option maxRecDepth 100000
theorem c_l1In {lf d : Nat} (a lo hi : Int) : Cc lf (d + 1) 77 [.i .i64 a, .i .i64 lo, .i .i64 hi] = some [.b (iLe lo a && iLe a hi)] := by
  refine (f77_eq (Cc lf d) lf a lo hi).trans ?_
  unfold f77 f77_t
  exact cond_b _ _
theorem c_from {lf d : Nat} (a lo hi : Int) : Cc lf (d + 1) 76 [.i .i64 a, .i .i64 lo, .i .i64 hi] = some [.b (iLe lo a && iLe a hi)] := by
  refine (f76_eq (Cc lf d) lf a lo hi).trans ?_
  unfold f76 f76_t
  exact cond_b _ _
theorem c_sName {lf d : Nat} (hlf : 33554432 ≤ lf) (s : ByteArray) (hs : s.size ≤ 16777216) : Cc lf (d + 2) 109 [.s s] = some [.b (nameB s)] := by
  refine (f109_eq (Cc lf (d + 1)) lf s).trans ?_
  unfold f109 f109_t
  have L := all_loop (F := fun n j => f109_0 (Cc lf (d + 1)) lf s n j) (P := fun j => chB (byteAt s j)) (X := some [T.i .i64 0, T.b false]) (Y := some [T.i .i64 1, T.s s]) (len := s.size) (fun n j hj => by
    show f109_0_s (Cc lf (d + 1)) lf s _ _ = _
    unfold f109_0_s
    obtain ⟨b0, b1⟩ := byteAt_in s j
    rw [iLt_t (by omega), inR_nat hj, wrapK (x := byteAt s j) (by omega), wrap_next hj (by omega)]
    simp only [c_l1In, Option.bind_some, nth0, asB_b, chB, bne_not, cond_not, cond_and, cond_or, cond_t]) (fun n => by
    show f109_0_s (Cc lf (d + 1)) lf s _ _ = _
    unfold f109_0_s
    rw [iLt_f (by omega)]
    rfl) (n := lf) (by omega)
  simp only at L ⊢
  rw [L]
  unfold nameB
  cases allB (fun j => chB (byteAt s j)) s.size with
  | false => rfl
  | true =>
    simp only [cond_t, Option.bind_some, nth0, nthS, asI_i, asB_b, asS_s, c_l1In, cond_not]
    rw [show ((1 : Int) == 0) = false from rfl, cond_f]
    cases iLe 1 (s.size : Int) <;> cases iLe (s.size : Int) 14 <;> cases (s.toList == (⟨#[46]⟩ : ByteArray).toList) <;> cases (s.toList == (⟨#[46, 46]⟩ : ByteArray).toList) <;> rfl
theorem c_iName {lf d : Nat} (hlf : 33554432 ≤ lf) (s : ByteArray) (hs : s.size ≤ 16777216) : Cc lf (d + 2) 90 [.s s] = some [.b (nameB s)] := by
  refine (f90_eq (Cc lf (d + 1)) lf s).trans ?_
  unfold f90 f90_t
  have L := all_loop (F := fun n j => f90_0 (Cc lf (d + 1)) lf s n j) (P := fun j => chB (byteAt s j)) (X := some [T.i .i64 0, T.b false]) (Y := some [T.i .i64 1, T.s s]) (len := s.size) (fun n j hj => by
    show f90_0_s (Cc lf (d + 1)) lf s _ _ = _
    unfold f90_0_s
    rw [iLt_t (by omega), inR_nat hj, wrap_next hj (by omega)]
    simp only [iLt_le, chB, bne_not, cond_not, cond_and, cond_or, cond_t]) (fun n => by
    show f90_0_s (Cc lf (d + 1)) lf s _ _ = _
    unfold f90_0_s
    rw [iLt_f (by omega)]
    rfl) (n := lf) (by omega)
  simp only at L ⊢
  rw [L]
  unfold nameB
  cases allB (fun j => chB (byteAt s j)) s.size with
  | false => rfl
  | true =>
    simp only [cond_t, Option.bind_some, nth0, nthS, asI_i, asB_b, asS_s, cond_not]
    rw [show ((1 : Int) == 0) = false from rfl, cond_f]
    cases iLe 1 (s.size : Int) <;> cases iLe (s.size : Int) 14 <;> cases (s.toList == (⟨#[46]⟩ : ByteArray).toList) <;> cases (s.toList == (⟨#[46, 46]⟩ : ByteArray).toList) <;> rfl
theorem c_sGetNum {lf d : Nat} (hlf : 33554432 ≤ lf) {b : List T} (hb : byt b) (hl : b.length ≤ 1073741824) (p : Nat) (hp : p ≤ 1073741824) : Cc lf (d + 1) 126 [.sl b, .i .i64 (p : Int)] = some (getR (getNum b p)) := by
  refine (f126_eq (Cc lf d) lf b p).trans ?_
  unfold f126 f126_t
  dsimp only
  have B : ∀ j, j < b.length → 0 ≤ asI (b.getD j .u) ∧ asI (b.getD j .u) < 256 := fun j hj => by
    obtain ⟨n, e, h⟩ := byt_at hb hj
    rw [e]; exact h
  have L := getNum_loop (b := b) (p := p) (F := fun n x k => f126_0 (Cc lf d) lf b p n x k) (X := some [T.i .i64 0, T.i .i64 0, T.i .i64 0, T.b false]) (Z := some [T.i .i64 1]) (Y := fun v q => some [T.i .i64 0, T.i .i64 v, T.i .i64 (q : Int), T.b true]) hb (fun n x k hk hpk h0 h1 => by
    have hc := B _ hpk
    have hw : IntKind.wrap .u64 (IntKind.wrap .i64 (7 * (k : Int))) = ((7 * k : Nat) : Int) := by
      rcases (by omega : k = 0 ∨ k = 1 ∨ k = 2) with rfl | rfl | rfl <;> rfl
    have hpw : ((2 ^ (7 * k) : Nat) : Int) = 128 ^ k := by
      rcases (by omega : k = 0 ∨ k = 1 ∨ k = 2) with rfl | rfl | rfl <;> rfl
    rw [f126_0_u]
    unfold f126_0_s
    rw [iLt_t (by omega), iLe_t (by omega), iLt_t (by omega), wrap_in (x := (p : Int) + (k : Int)) (by omega) (by omega), iLt_t (by omega), inR_t (by omega) (by omega), hw, iLe_t (by omega), show ((p : Int) + (k : Int)).toNat = p + k by omega, wrap_in (x := asI (b.getD (p + k) .u)) (by omega) (by omega), and_mod hc.1 (by omega),
      shl_mul (by omega) (by omega) (by omega), or_add (k := 7 * k) h0 (by rw [hpw]; exact h1) (by omega) (by omega) (by omega), hpw, wrap_in (x := (k : Int) + 1) (by omega) (by omega), wrap_in (x := (p : Int) + (k : Int) + 1) (by omega) (by omega)]
    simp only [cond_t]
    by_cases c0 : 128 ≤ asI (b.getD (p + k) .u)
    · rw [iLt_t (by omega), if_pos c0]
      rfl
    · rw [iLt_f (by omega), if_neg c0, Int.emod_eq_of_lt hc.1 (by omega)]
      simp only [cond_f]
      by_cases k0 : k = 0
      · subst k0
        rw [iLt_f (by omega)]
        by_cases m : 1000000 < x + asI (b.getD (p + 0) .u) * 128 ^ 0
        · rw [iLt_t m, if_pos (.inr m)]; rfl
        · rw [iLt_f m, if_neg (by omega)]; rfl
      · rw [iLt_t (by omega)]
        by_cases z : asI (b.getD (p + k) .u) = 0
        · rw [if_pos (.inl ⟨k0, z⟩), z]; rfl
        · rw [show (asI (b.getD (p + k) .u) == 0) = false from by simpa using z]
          by_cases m : 1000000 < x + asI (b.getD (p + k) .u) * 128 ^ k
          · rw [iLt_t m, if_pos (.inr m)]; rfl
          · rw [iLt_f m, if_neg (by rintro (h | h); exact z h.2; exact m h)]; rfl) (fun n x k hk3 hk => by
    rw [f126_0_u]
    unfold f126_0_s
    by_cases k3 : k < 3
    · rw [iLt_t (by omega), iLe_t (by omega)]
      by_cases h : p < b.length
      · rw [iLt_t (by omega), wrap_in (x := (p : Int) + (k : Int)) (by omega) (by omega), iLt_f (by omega)]; rfl
      · rw [iLt_f (by omega)]; rfl
    · rw [iLt_f (by omega)]; rfl) (n := lf) (by omega)
  rcases L with ⟨h1, h2 | h2⟩ | ⟨v, q, h1, h2⟩
  · rw [show ((0 : Nat) : Int) = 0 from rfl] at h2; rw [h1, h2]; rfl
  · rw [show ((0 : Nat) : Int) = 0 from rfl] at h2; rw [h1, h2]; rfl
  · rw [show ((0 : Nat) : Int) = 0 from rfl] at h2; rw [h1, h2]; rfl
theorem c_iGetNum {lf d : Nat} (hlf : 33554432 ≤ lf) {b : List T} (hb : byt b) (hl : b.length ≤ 1073741824) (p : Nat) (hp : p ≤ 1073741824) : Cc lf (d + 1) 125 [.sl b, .i .i64 (p : Int)] = some (getR (getNum b p)) := by
  refine (f125_eq (Cc lf d) lf b p).trans ?_
  unfold f125 f125_t
  dsimp only
  have B : ∀ j, j < b.length → 0 ≤ asI (b.getD j .u) ∧ asI (b.getD j .u) < 256 := fun j hj => by
    obtain ⟨n, e, h⟩ := byt_at hb hj
    rw [e]; exact h
  have L := getNum_loop (b := b) (p := p) (F := fun n x k => f125_0 (Cc lf d) lf b p n x (128 ^ k) k) (X := some [T.i .i64 0]) (Z := some [T.i .i64 0]) (Y := fun v q => some [T.i .i64 1, T.i .i64 v, T.i .i64 (q : Int), T.b true]) hb (fun n x k hk hpk h0 h1 => by
    have hc := B _ hpk
    have hm := Int.emod_nonneg (asI (b.getD (p + k) .u)) (show (128 : Int) ≠ 0 by omega)
    have hm2 := Int.emod_lt_of_pos (asI (b.getD (p + k) .u)) (show (0 : Int) < 128 by omega)
    have hk3 : k = 0 ∨ k = 1 ∨ k = 2 := by omega
    have hpw : 1 ≤ (128 : Int) ^ k ∧ (128 : Int) ^ k ≤ 16384 ∧ (128 : Int) ^ k * 128 = 128 ^ (k + 1) ∧ 0 ≤ asI (b.getD (p + k) .u) % 128 * 128 ^ k ∧ asI (b.getD (p + k) .u) % 128 * 128 ^ k ≤ 2097152 := by
      rcases hk3 with rfl | rfl | rfl
      · refine ⟨by decide, by decide, by decide, ?_, ?_⟩ <;> rw [Int.pow_zero] <;> omega
      · refine ⟨by decide, by decide, by decide, ?_, ?_⟩ <;> rw [Int.pow_one] <;> omega
      · have e : (128 : Int) ^ 2 = 16384 := rfl
        refine ⟨by decide, by decide, by decide, ?_, ?_⟩ <;> rw [e] <;> omega
    rw [f125_0_u]
    unfold f125_0_s
    rw [iLt_t (by omega), wrap_in (x := (b.length : Int) - (k : Int)) (by omega) (by omega), iLt_t (by omega), wrap_in (x := (p : Int) + (k : Int)) (by omega) (by omega), inR_t (by omega) (by omega), show ((p : Int) + (k : Int)).toNat = p + k by omega, wrap_in (x := asI (b.getD (p + k) .u)) (by omega) (by omega), Int.tmod_eq_emod_of_nonneg hc.1,
      wrap_in (x := asI (b.getD (p + k) .u) % 128 * 128 ^ k) (by omega) (by omega), wrap_in (x := x + asI (b.getD (p + k) .u) % 128 * 128 ^ k) (by omega) (by omega), wrap_in (x := (128 : Int) ^ k * 128) (by omega) (by omega), hpw.2.2.1, wrap_in (x := (k : Int) + 1) (by omega) (by omega), wrap_in (x := (p : Int) + (k : Int) + 1) (by omega) (by omega)]
    simp only [cond_t]
    by_cases c0 : 128 ≤ asI (b.getD (p + k) .u)
    · rw [iLe_t c0, if_pos c0]
      rfl
    · rw [iLe_f c0, if_neg c0, Int.emod_eq_of_lt hc.1 (by omega)]
      simp only [cond_f]
      by_cases m : 1000000 < x + asI (b.getD (p + k) .u) * 128 ^ k
      · rw [iLt_t m, if_pos (.inr m)]; rfl
      · rw [iLt_f m]
        by_cases z : asI (b.getD (p + k) .u) = 0
        · by_cases k0 : k = 0
          · subst k0
            rw [if_neg (by omega), iLt_f (by omega), show (asI (b.getD (p + 0) .u) == 0) = true by rw [z]; rfl]; rfl
          · rw [if_pos (.inl ⟨k0, z⟩), iLt_t (by omega), show (asI (b.getD (p + k) .u) == 0) = true by rw [z]; rfl]; rfl
        · rw [if_neg (by rintro (h | h); exact z h.2; exact m h), show (asI (b.getD (p + k) .u) == 0) = false from by simpa using z]; rfl) (fun n x k hk3 hk => by
    rw [f125_0_u]
    unfold f125_0_s
    by_cases k3 : k < 3
    · rw [iLt_t (by omega), wrap_in (x := (b.length : Int) - (k : Int)) (by omega) (by omega), iLt_f (by omega)]; rfl
    · rw [iLt_f (by omega)]; rfl) (n := lf) (by omega)
  rw [iLt_f (by omega), cond_f]
  rcases L with ⟨h1, h2 | h2⟩ | ⟨v, q, h1, h2⟩
  · rw [Int.pow_zero, show ((0 : Nat) : Int) = 0 from rfl] at h2; rw [h1, h2]; rfl
  · rw [Int.pow_zero, show ((0 : Nat) : Int) = 0 from rfl] at h2; rw [h1, h2]; rfl
  · rw [Int.pow_zero, show ((0 : Nat) : Int) = 0 from rfl] at h2; rw [h1, h2]; rfl
theorem c_iNum {lf d : Nat} (hlf : 33554432 ≤ lf) {b : List T} (hb : byt b) (hl : b.length ≤ 1073741824) {s : Option Nat} {p : Int} {ok : Bool} (h : RI b s p ok) :
    ∃ p' ok', Cc lf (d + 2) 72 [.st [.sl b, .i .i64 p, .b ok]] = some [.i .i64 (rd b s).1, .st [.sl b, .i .i64 p', .b ok']] ∧ RI b (rd b s).2 p' ok' := by
  have E := f72_eq (Cc lf (d + 1)) lf b p ok
  unfold f72 f72_t at E
  obtain ⟨rfl, h2⟩ := h
  cases s with
  | none => exact ⟨p, false, E, rfl, fun q hq => by cases hq⟩
  | some q =>
    obtain ⟨rfl, hq⟩ := h2 q rfl
    rw [c_iGetNum hlf hb hl q (by omega)] at E
    simp only [rd]
    cases e : getNum b q with
    | none => rw [e] at E; exact ⟨0, false, E, rfl, fun q hq => by cases hq⟩
    | some x =>
      obtain ⟨n, q2⟩ := x
      rw [e] at E
      exact ⟨q2, true, E, rfl, fun q hq => by cases hq; exact ⟨rfl, (getNum_in hb e).2.2.2⟩⟩
theorem c_sNum {lf d : Nat} (hlf : 33554432 ≤ lf) {b : List T} (hb : byt b) (hl : b.length ≤ 1073741824) {s : Option Nat} {p : Int} {bad : Bool} (h : RS b s p bad) :
    ∃ p' bad', Cc lf (d + 2) 75 [.st [.sl b, .i .i64 p, .b bad]] = some [.i .i64 (rd b s).1, .st [.sl b, .i .i64 p', .b bad']] ∧ RS b (rd b s).2 p' bad' := by
  have E := f75_eq (Cc lf (d + 1)) lf b p bad
  unfold f75 f75_t at E
  obtain ⟨rfl, h2, q0, rfl, hq0⟩ := h
  rw [c_sGetNum hlf hb hl q0 (by omega)] at E
  cases s with
  | none => exact ⟨q0, true, E, rfl, (fun q hq => by cases hq), q0, rfl, hq0⟩
  | some q =>
    have e0 : q0 = q := by have := h2 q rfl; omega
    subst e0
    simp only [rd]
    cases e : getNum b q0 with
    | none => rw [e] at E; exact ⟨q0, true, E, rfl, (fun q hq => by cases hq), q0, rfl, hq0⟩
    | some x =>
      obtain ⟨n, q2⟩ := x
      rw [e] at E
      exact ⟨q2, false, E, rfl, (fun q hq => by cases hq; rfl), q2, rfl, (getNum_in hb e).2.2.2⟩
theorem c_iCount {lf d : Nat} (hlf : 33554432 ≤ lf) {b : List T} (hb : byt b) (hl : b.length ≤ 1073741824) {s : Option Nat} {p : Int} {ok : Bool} (h : RI b s p ok) :
    ∃ p' ok', Cc lf (d + 3) 73 [.st [.sl b, .i .i64 p, .b ok]] = some [.i .i64 (rdC b s).1, .st [.sl b, .i .i64 p', .b ok']] ∧ RI b (rdC b s).2 p' ok' := by
  have E := f73_eq (Cc lf (d + 2)) lf b p ok
  unfold f73 f73_t at E
  obtain ⟨p', ok', h1, h2⟩ := c_iNum (d := d) hlf hb hl h
  rw [h1] at E
  simp only [Option.bind_some, nth0, nthS, asI_i, asB_b, cell0, cellS] at E
  obtain ⟨rfl, h3⟩ := h2
  have hz := @rd_zero b s
  unfold rdC
  generalize hr : rd b s = r at *
  obtain ⟨n, s'⟩ := r
  cases s' with
  | none =>
    have : n = 0 := hz rfl
    subst this
    cases c : iLt (IntKind.wrap .i64 ((b.length : Int) - p')) 0 with
    | true => rw [c] at E; exact ⟨p', false, E, rfl, fun q hq => by cases hq⟩
    | false => rw [c] at E; exact ⟨p', false, E, rfl, fun q hq => by cases hq⟩
  | some q =>
    obtain ⟨rfl, hq⟩ := h3 q rfl
    rw [wrap_in (by omega) (by omega)] at E
    simp only
    by_cases c : n > (b.length : Int) - q
    · rw [iLt_t c] at E
      rw [if_pos c]
      exact ⟨q, false, E, rfl, fun q hq => by cases hq⟩
    · rw [iLt_f c] at E
      rw [if_neg c]
      exact ⟨q, true, E, rfl, fun q2 hq2 => by cases hq2; exact ⟨rfl, hq⟩⟩
theorem c_iDone {lf d : Nat} {b : List T} {s : Option Nat} {p : Int} {ok : Bool} (h : RI b s p ok) :
    ∃ t, Cc lf (d + 1) 74 [.st [.sl b, .i .i64 p, .b ok]] = some [.b (s == some b.length), t] := by
  have E := f74_eq (Cc lf d) lf b p ok
  unfold f74 f74_t at E
  obtain ⟨rfl, h2⟩ := h
  cases s with
  | none => exact ⟨_, E⟩
  | some q =>
    obtain ⟨rfl, _⟩ := h2 q rfl
    have e : ((q : Int) == (b.length : Int)) = (some q == some b.length) := by
      rw [Bool.eq_iff_iff]
      simp
      omega
    exact ⟨_, by rw [← e]; exact E⟩
/-- What reading a text answers. -/
def getTR : ByteArray × Option Nat → List T
  | (s, some q) => [.s s, .i .i64 (q : Int), .b true]
  | (_, none) => [.s ⟨#[]⟩, .i .i64 0, .b false]
theorem getText_aux {b : List T} (hb : byt b) (hl : b.length ≤ 1073741824) (p : Nat) : ((some (getR (getNum b p)) : Option (List T)).bind fun r =>
  bif !(asB (nth r 2)) then
    some [T.s (⟨#[]⟩ : ByteArray), T.i .i64 0, T.b false]
  else
    bif iLt (IntKind.wrap .i64 ((b.length : Int) - (asI (nth r 1)))) (asI (nth r 0)) then
      some [T.s (⟨#[]⟩ : ByteArray), T.i .i64 0, T.b false]
    else
      bif iLe 0 (asI (nth r 1)) && iLe (asI (nth r 1)) (IntKind.wrap .i64 ((asI (nth r 1)) + (asI (nth r 0)))) && iLe (IntKind.wrap .i64 ((asI (nth r 1)) + (asI (nth r 0)))) (b.length : Int) then
      some [T.s (bytesOf ((b.drop ((asI (nth r 1)).toNat)).take (((IntKind.wrap .i64 ((asI (nth r 1)) + (asI (nth r 0)))).toNat) - ((asI (nth r 1)).toNat)))), T.i .i64 (IntKind.wrap .i64 ((asI (nth r 1)) + (asI (nth r 0)))), T.b true]
      else none) = some (getTR (rdS b (some p))) := by
  unfold rdS
  simp only [rd]
  cases e : getNum b p with
  | none => rfl
  | some x =>
    obtain ⟨n, q⟩ := x
    obtain ⟨h0, h1, h2, h3⟩ := getNum_in hb e
    simp only [getR, Option.bind_some, nth0, nthS, asI_i, asB_b, Bool.not_true, cond_f]
    rw [wrap_in (x := (b.length : Int) - q) (by omega) (by omega), wrap_in (x := (q : Int) + n) (by omega) (by omega)]
    by_cases c : n > (b.length : Int) - q
    · rw [iLt_t c, if_pos c]; rfl
    · rw [iLt_f c, if_neg c, cond_f, iLe_t (by omega), iLe_t (by omega), iLe_t (by omega)]
      rw [show ((q : Int)).toNat = q from rfl, show ((q : Int) + n).toNat - q = n.toNat by omega, show (q : Int) + n = ((q + n.toNat : Nat) : Int) by omega]
      rfl
theorem c_iGetText {lf d : Nat} (hlf : 33554432 ≤ lf) {b : List T} (hb : byt b) (hl : b.length ≤ 1073741824) (p : Nat) (hp : p ≤ 1073741824) : Cc lf (d + 2) 132 [.sl b, .i .i64 (p : Int)] = some (getTR (rdS b (some p))) := by
  refine (f132_eq (Cc lf (d + 1)) lf b p).trans ?_
  unfold f132 f132_t
  rw [c_iGetNum hlf hb hl p hp]
  exact getText_aux hb hl p
theorem c_sGetText {lf d : Nat} (hlf : 33554432 ≤ lf) {b : List T} (hb : byt b) (hl : b.length ≤ 1073741824) (p : Nat) (hp : p ≤ 1073741824) : Cc lf (d + 2) 139 [.sl b, .i .i64 (p : Int)] = some (getTR (rdS b (some p))) := by
  refine (f139_eq (Cc lf (d + 1)) lf b p).trans ?_
  unfold f139 f139_t
  rw [c_sGetNum hlf hb hl p hp]
  exact getText_aux hb hl p
theorem c_iText {lf d : Nat} (hlf : 33554432 ≤ lf) {b : List T} (hb : byt b) (hl : b.length ≤ 1073741824) {s : Option Nat} {p : Int} {ok : Bool} (h : RI b s p ok) :
    ∃ p' ok', Cc lf (d + 3) 91 [.st [.sl b, .i .i64 p, .b ok]] = some [.s (rdS b s).1, .st [.sl b, .i .i64 p', .b ok']] ∧ RI b (rdS b s).2 p' ok' := by
  have E := f91_eq (Cc lf (d + 2)) lf b p ok
  unfold f91 f91_t at E
  obtain ⟨rfl, h2⟩ := h
  cases s with
  | none => exact ⟨p, false, E, rfl, fun q hq => by cases hq⟩
  | some q =>
    obtain ⟨rfl, hq⟩ := h2 q rfl
    rw [c_iGetText hlf hb hl q (by omega)] at E
    have hn := @rdS_next b hb (some q)
    have hs : (rdS b (some q)).2 = none → (rdS b (some q)).1 = ⟨#[]⟩ := by
      intro h
      unfold rdS at h ⊢
      split
      · rename_i n q' e
        rw [e] at h
        simp only at h
        split at h
        · rename_i c; rw [if_pos c]
        · cases h
      · rfl
    generalize rdS b (some q) = r at *
    obtain ⟨s, q2⟩ := r
    cases q2 with
    | none =>
      have := hs rfl
      simp only at this
      subst this
      exact ⟨0, false, E, rfl, fun q hq => by cases hq⟩
    | some q2 => exact ⟨q2, true, E, rfl, fun q hq => by cases hq; obtain ⟨_, _, _, h⟩ := hn rfl; exact ⟨rfl, h⟩⟩
theorem c_sText {lf d : Nat} (hlf : 33554432 ≤ lf) {b : List T} (hb : byt b) (hl : b.length ≤ 1073741824) {s : Option Nat} {p : Int} {bad : Bool} (h : RS b s p bad) :
    ∃ p' bad', Cc lf (d + 3) 101 [.st [.sl b, .i .i64 p, .b bad]] = some [.s (rdS b s).1, .st [.sl b, .i .i64 p', .b bad']] ∧ RS b (rdS b s).2 p' bad' := by
  have E := f101_eq (Cc lf (d + 2)) lf b p bad
  unfold f101 f101_t at E
  obtain ⟨rfl, h2, q0, rfl, hq0⟩ := h
  rw [c_sGetText hlf hb hl q0 (by omega)] at E
  cases s with
  | none => exact ⟨q0, true, E, rfl, (fun q hq => by cases hq), q0, rfl, hq0⟩
  | some q =>
    have e0 : q0 = q := by have := h2 q rfl; omega
    subst e0
    have hn := @rdS_next b hb (some q0)
    have hs : (rdS b (some q0)).2 = none → (rdS b (some q0)).1 = ⟨#[]⟩ := by
      intro h
      unfold rdS at h ⊢
      split
      · rename_i n q' e
        rw [e] at h
        simp only at h
        split at h
        · rename_i c; rw [if_pos c]
        · cases h
      · rfl
    generalize rdS b (some q0) = r at *
    obtain ⟨s, q2⟩ := r
    cases q2 with
    | none =>
      have := hs rfl
      simp only at this
      subst this
      exact ⟨q0, true, E, rfl, (fun q hq => by cases hq), q0, rfl, hq0⟩
    | some q2 => exact ⟨q2, false, E, rfl, (fun q hq => by cases hq; rfl), q2, rfl, by obtain ⟨_, _, _, h⟩ := hn rfl; exact h⟩
def lessB (l : List T) (j : Nat) : Bool := !iLt 0 (j : Int) || Op.bytesLess (asS (T.cell (l.getD (j - 1) T.u) 0)).toList (asS (T.cell (l.getD j T.u) 0)).toList
def entB (l : List T) (j : Nat) : Bool := nameB (asS (T.cell (l.getD j T.u) 0)) && ((iLe 2 (asI (T.cell (l.getD j T.u) 1)) && iLe (asI (T.cell (l.getD j T.u) 1)) 1000) && lessB l j)
def attrB (l : List T) (j : Nat) : Bool := nameB (asS (T.cell (l.getD j T.u) 0)) && ((iLe 1 ((asS (T.cell (l.getD j T.u) 1)).size : Int) && iLe ((asS (T.cell (l.getD j T.u) 1)).size : Int) 16) && lessB l j)
def entsB (l : List T) : Bool := allB (entB l) l.length && iLe (l.length : Int) 10
def attrsB (l : List T) : Bool := allB (attrB l) l.length && iLe (l.length : Int) 4
def inodeB (ino kind links : Int) (data ents attrs : List T) : Bool :=
  (iLe 1 ino && iLe ino 1000) && ((iLe 0 links && iLe links 1000) && (((links == 0) == (ino == 1)) && (!iLt 100 (data.length : Int) && (entsB ents && (attrsB attrs &&
    bif kind == 1 then ((ents.length : Int) == 0) else bif kind == 2 then ((data.length : Int) == 0) && iLe links 1 else false)))))
theorem c_sEnts {lf d : Nat} (hlf : 33554432 ≤ lf) (l : List T) (hs : l.length + tls l ≤ 16777216) : Cc lf (d + 3) 87 [.sl l] = some [.b (entsB l)] := by
  refine (f87_eq (Cc lf (d + 2)) lf l).trans ?_
  unfold f87 f87_t
  dsimp only
  have L := all_loop (F := fun n j => f87_0 (Cc lf (d + 2)) lf l n j) (P := entB l) (X := some [T.i .i64 0, T.b false]) (Y := some [T.i .i64 1, T.sl l]) (len := l.length) (fun n j hj => by
    have hn := cellS_le (l := l) (j := j) 0
    rw [f87_0_u]
    unfold f87_0_s
    rw [iLt_t (by omega), inR_nat hj, wrap_next hj (by omega)]
    simp only [Int.toNat_natCast, c_sName hlf _ (show (asS (T.cell (l.getD j T.u) 0)).size ≤ 16777216 by omega), c_l1In, Option.bind_some, nth0, asB_b, entB, lessB, cond_not, cond_and, cond_or, cond_t]
    cases h0 : iLt 0 (j : Int) with
    | true =>
      have hj0 : 0 < j := by have := iLt_iff.1 h0; omega
      rw [wrap_pred hj0 (by omega), inR_nat (by omega)]
      simp only [cond_t, Int.toNat_natCast]
    | false => rfl) (fun n => by
    rw [f87_0_u]
    unfold f87_0_s
    rw [iLt_f (by omega)]
    rfl) (n := lf) (by omega)
  rw [show ((0 : Int)) = 0 from rfl] at L
  rw [L]
  unfold entsB
  cases allB (entB l) l.length <;> rfl
theorem c_sAttrs {lf d : Nat} (hlf : 33554432 ≤ lf) (l : List T) (hs : l.length + tls l ≤ 16777216) : Cc lf (d + 3) 88 [.sl l] = some [.b (attrsB l)] := by
  refine (f88_eq (Cc lf (d + 2)) lf l).trans ?_
  unfold f88 f88_t
  dsimp only
  have L := all_loop (F := fun n j => f88_0 (Cc lf (d + 2)) lf l n j) (P := attrB l) (X := some [T.i .i64 0, T.b false]) (Y := some [T.i .i64 1, T.sl l]) (len := l.length) (fun n j hj => by
    have hn := cellS_le (l := l) (j := j) 0
    rw [f88_0_u]
    unfold f88_0_s
    rw [iLt_t (by omega), inR_nat hj, wrap_next hj (by omega)]
    simp only [Int.toNat_natCast, c_sName hlf _ (show (asS (T.cell (l.getD j T.u) 0)).size ≤ 16777216 by omega), c_l1In, Option.bind_some, nth0, asB_b, attrB, lessB, cond_not, cond_and, cond_or, cond_t]
    cases h0 : iLt 0 (j : Int) with
    | true =>
      have hj0 : 0 < j := by have := iLt_iff.1 h0; omega
      rw [wrap_pred hj0 (by omega), inR_nat (by omega)]
      simp only [cond_t, Int.toNat_natCast]
    | false => rfl) (fun n => by
    rw [f88_0_u]
    unfold f88_0_s
    rw [iLt_f (by omega)]
    rfl) (n := lf) (by omega)
  rw [L]
  unfold attrsB
  cases allB (attrB l) l.length <;> rfl
theorem c_iAttrs {lf d : Nat} (hlf : 33554432 ≤ lf) (l : List T) (hs : l.length + tls l ≤ 16777216) : Cc lf (d + 3) 89 [.sl l] = some [.b (attrsB l)] := by
  refine (f89_eq (Cc lf (d + 2)) lf l).trans ?_
  unfold f89 f89_t
  dsimp only
  have L := all_loop (F := fun n j => f89_0 (Cc lf (d + 2)) lf l n j) (P := attrB l) (X := some [T.i .i64 0, T.b false]) (Y := some [T.i .i64 1, T.sl l]) (len := l.length) (fun n j hj => by
    have hn := cellS_le (l := l) (j := j) 0
    rw [f89_0_u]
    unfold f89_0_s
    rw [iLt_t (by omega), inR_nat hj, wrap_next hj (by omega)]
    simp only [Int.toNat_natCast, c_iName hlf _ (show (asS (T.cell (l.getD j T.u) 0)).size ≤ 16777216 by omega), c_from, Option.bind_some, nth0, asB_b, attrB, lessB, cond_not, cond_and, cond_or, cond_t]
    cases h0 : iLt 0 (j : Int) with
    | true =>
      have hj0 : 0 < j := by have := iLt_iff.1 h0; omega
      rw [wrap_pred hj0 (by omega), inR_nat (by omega)]
      simp only [cond_t, Int.toNat_natCast]
    | false => rfl) (fun n => by
    rw [f89_0_u]
    unfold f89_0_s
    rw [iLt_f (by omega)]
    rfl) (n := lf) (by omega)
  rw [L]
  unfold attrsB
  cases allB (attrB l) l.length <;> rfl
theorem c_sInodeOk {lf d : Nat} (hlf : 33554432 ≤ lf) (ino kind links : Int) (data ents attrs : List T) (he : ents.length + tls ents ≤ 16777216) (ha : attrs.length + tls attrs ≤ 16777216) :
    Cc lf (d + 4) 34 [.st [.i .i64 ino, .i .i64 kind, .i .i64 links, .sl data, .sl ents, .sl attrs]] = some [.b (inodeB ino kind links data ents attrs)] := by
  refine (f34_eq (Cc lf (d + 3)) lf ino kind links data ents attrs).trans ?_
  unfold f34 f34_t
  simp only [c_l1In, c_sEnts hlf ents he, c_sAttrs hlf attrs ha, Option.bind_some, nth0, asB_b, cond_st]
  refine congrArg (fun b => some [T.b b]) ?_
  unfold inodeB
  generalize (iLe 1 ino && iLe ino 1000) = b1
  generalize (iLe 0 links && iLe links 1000) = b2
  generalize ((links == 0) == (ino == 1)) = b3
  generalize iLt 100 (data.length : Int) = b4
  generalize entsB ents = b5
  generalize attrsB attrs = b6
  generalize (kind == 1) = b7
  generalize (kind == 2) = b8
  generalize ((data.length : Int) == 0) = b9
  generalize ((ents.length : Int) == 0) = b10
  generalize iLe links 1 = b11
  cases b1 <;> cases b2 <;> cases b3 <;> cases b4 <;> cases b5 <;> cases b6 <;> first | rfl | (cases b7 <;> cases b8 <;> cases b9 <;> rfl)
theorem c_iInodeOk {lf d : Nat} (hlf : 33554432 ≤ lf) (ino kind links : Int) (data ents attrs : List T) (he : ents.length + tls ents ≤ 16777216) (ha : attrs.length + tls attrs ≤ 16777216) :
    Cc lf (d + 4) 35 [.st [.i .i64 ino, .i .i64 kind, .i .i64 links, .sl data, .sl ents, .sl attrs]] = some [.b (inodeB ino kind links data ents attrs)] := by
  refine (f35_eq (Cc lf (d + 3)) lf ino kind links data ents attrs).trans ?_
  unfold f35 f35_t
  dsimp only
  have L := all_loop (F := fun n j => f35_0 (Cc lf (d + 3)) lf data ents attrs ino kind links n j) (P := entB ents) (X := some [T.i .i64 0, T.b false]) (Y := some [T.i .i64 1, T.i .i64 ino, T.i .i64 kind, T.i .i64 links, T.sl data, T.sl ents, T.sl attrs]) (len := ents.length) (fun n j hj => by
    have hn := cellS_le (l := ents) (j := j) 0
    rw [f35_0_u]
    unfold f35_0_s
    rw [iLt_t (by omega), inR_nat hj, wrap_next hj (by omega)]
    simp only [Int.toNat_natCast, c_iName hlf _ (show (asS (T.cell (ents.getD j T.u) 0)).size ≤ 16777216 by omega), c_from, Option.bind_some, nth0, asB_b, entB, lessB, cond_not, cond_and, cond_or, cond_t]
    cases h0 : iLt 0 (j : Int) with
    | true =>
      have hj0 : 0 < j := by have := iLt_iff.1 h0; omega
      rw [wrap_pred hj0 (by omega), inR_nat (by omega)]
      simp only [cond_t, Int.toNat_natCast]
    | false => rfl) (fun n => by
    rw [f35_0_u]
    unfold f35_0_s
    rw [iLt_f (by omega)]
    rfl) (n := lf) (by omega)
  rw [L]
  have h10 : iLt 10 (ents.length : Int) = !iLe (ents.length : Int) 10 := iLt_le _ _
  unfold inodeB entsB
  cases allB (entB ents) ents.length with
  | false =>
    simp only [c_from, c_iAttrs hlf attrs ha, Option.bind_some, nth0, nthS, asB_b, asI_i, cond_f, cond_st, h10]
    rw [show ((0 : Int) == 0) = true from rfl]
    refine congrArg (fun b => some [T.b b]) ?_
    generalize (iLe 1 ino && iLe ino 1000) = b1
    generalize (iLe 0 links && iLe links 1000) = b2
    generalize ((links == 0) == (ino == 1)) = b3
    generalize iLt 100 (data.length : Int) = b4
    generalize iLe (ents.length : Int) 10 = b5
    generalize attrsB attrs = b6
    cases b1 <;> cases b2 <;> cases b3 <;> cases b4 <;> cases b5 <;> cases b6 <;> rfl
  | true =>
    simp only [c_from, c_iAttrs hlf attrs ha, Option.bind_some, nth0, nthS, asB_b, asI_i, asL_l, cond_t, cond_st, h10]
    rw [show ((1 : Int) == 0) = false from rfl]
    refine congrArg (fun b => some [T.b b]) ?_
    generalize (iLe 1 ino && iLe ino 1000) = b1
    generalize (iLe 0 links && iLe links 1000) = b2
    generalize ((links == 0) == (ino == 1)) = b3
    generalize iLt 100 (data.length : Int) = b4
    generalize iLe (ents.length : Int) 10 = b5
    generalize attrsB attrs = b6
    generalize (kind == 1) = b7
    generalize (kind == 2) = b8
    generalize ((data.length : Int) == 0) = b9
    generalize ((ents.length : Int) == 0) = b10
    generalize iLe links 1 = b11
    cases b1 <;> cases b2 <;> cases b3 <;> cases b4 <;> cases b5 <;> cases b6 <;> first | rfl | (cases b7 <;> cases b8 <;> cases b9 <;> rfl)
def gEnt (b : List T) (s : Option Nat) : T × Option Nat := (.st [.s (rdS b s).1, .i .i64 (rd b (rdS b s).2).1], (rd b (rdS b s).2).2)
def gAttr (b : List T) (s : Option Nat) : T × Option Nat := (.st [.s (rdS b s).1, .s (rdS b (rdS b s).2).1], (rdS b (rdS b s).2).2)
theorem gEnt_next {b : List T} (hb : byt b) (p q : Nat) (h : (gEnt b (some p)).2 = some q) : p < q ∧ q ≤ b.length := by
  unfold gEnt at h
  obtain ⟨p1, e1, h1, h2, _⟩ := rd_next hb h
  obtain ⟨p2, e2, h3, h4⟩ := rdS_next hb e1
  cases e2
  omega
theorem gAttr_next {b : List T} (hb : byt b) (p q : Nat) (h : (gAttr b (some p)).2 = some q) : p < q ∧ q ≤ b.length := by
  unfold gAttr at h
  obtain ⟨p1, e1, h1, h2⟩ := rdS_next hb h
  obtain ⟨p2, e2, h3, h4⟩ := rdS_next hb e1
  cases e2
  omega
theorem gEnt_size {b : List T} (hb : byt b) (p : Nat) (hp : p ≤ b.length) : p + tl (gEnt b (some p)).1 ≤ b.length ∧ ∀ q, (gEnt b (some p)).2 = some q → p + tl (gEnt b (some p)).1 ≤ q ∧ q ≤ b.length := by
  have e : tl (gEnt b (some p)).1 = (rdS b (some p)).1.size := by simp only [gEnt, tl, tls]; omega
  obtain ⟨a1, a2⟩ := rdS_size hb hp
  rw [e]
  refine ⟨a1, fun q h => ?_⟩
  have hq := gEnt_next hb p q h
  unfold gEnt at h
  obtain ⟨p1, e1, h1, h2, _⟩ := rd_next hb h
  have := a2 p1 e1
  omega
theorem gAttr_size {b : List T} (hb : byt b) (p : Nat) (hp : p ≤ b.length) : p + tl (gAttr b (some p)).1 ≤ b.length ∧ ∀ q, (gAttr b (some p)).2 = some q → p + tl (gAttr b (some p)).1 ≤ q ∧ q ≤ b.length := by
  have e : tl (gAttr b (some p)).1 = (rdS b (some p)).1.size + (rdS b (rdS b (some p)).2).1.size := by simp only [gAttr, tl, tls]; omega
  obtain ⟨a1, a2⟩ := rdS_size hb hp
  rw [e]
  cases e1 : (rdS b (some p)).2 with
  | none =>
    refine ⟨by rw [rdS_none]; show p + ((rdS b (some p)).1.size + 0) ≤ _; omega, fun q h => ?_⟩
    unfold gAttr at h
    rw [e1] at h
    cases h
  | some p1 =>
    have h1 := a2 p1 e1
    obtain ⟨_, _, _, h2⟩ := rdS_next hb e1
    obtain ⟨b1, b2⟩ := rdS_size hb h2
    refine ⟨by omega, fun q h => ?_⟩
    have hq := gAttr_next hb p q h
    unfold gAttr at h
    rw [e1] at h
    have := b2 q h
    omega
theorem gtls {g : Option Nat → T × Option Nat} {b : List T} (h0 : tl (g none).1 = 0 ∧ (g none).2 = none) (h1 : ∀ p, p ≤ b.length → p + tl (g (some p)).1 ≤ b.length ∧ ∀ q, (g (some p)).2 = some q → p + tl (g (some p)).1 ≤ q ∧ q ≤ b.length) (k : Nat) (s : Option Nat) (hs : ∀ p, s = some p → p ≤ b.length) : tls (itemsI g k s).1 ≤ b.length ∧ tls (itemsS g k s).1 ≤ b.length := by
  obtain ⟨r1, r2⟩ := items_tls h0 h1 k s
  obtain ⟨t1, t2⟩ := itemsS_tls h1 k s
  cases s with
  | none => rw [r1 rfl, t1 rfl]; exact ⟨Nat.zero_le _, Nat.zero_le _⟩
  | some p => have := r2 p rfl (hs p rfl); have := t2 p rfl (hs p rfl); omega
theorem rdC_le' {b : List T} {s : Option Nat} (hb : byt b) : ∀ p, (rdC b s).2 = some p → p ≤ b.length := by
  intro p h
  cases e : (rd b s).2 with
  | none => rw [rdC_none e] at h; cases h
  | some q =>
    obtain ⟨_, _, _, h2, _⟩ := rd_next hb e
    rw [rdC_some (N := (rd b s).1) (p := q) (by rw [← e])] at h
    split at h
    · cases h
    · cases h; exact h2
theorem itemsI_le {g : Option Nat → T × Option Nat} {b : List T} (h0 : (g none).2 = none) (h1 : ∀ p q, (g (some p)).2 = some q → p < q ∧ q ≤ b.length) : ∀ (k : Nat) (s : Option Nat), (∀ p, s = some p → p ≤ b.length) → ∀ p, (itemsI g k s).2 = some p → p ≤ b.length
  | 0, s, hs, p, h => hs p h
  | k + 1, s, hs, p, h => itemsI_le h0 h1 k (g s).2 (fun q hq => by
    cases s with
    | none => rw [h0] at hq; cases hq
    | some p0 => exact (h1 p0 q hq).2) p h
def inoHead (b : List T) : (Int × Int × Int × ByteArray) × Option Nat :=
  (((rd b (some 0)).1, (rd b (rd b (some 0)).2).1, (rd b (rd b (rd b (some 0)).2).2).1, (rdS b (rd b (rd b (rd b (some 0)).2).2).2).1), (rdS b (rd b (rd b (rd b (some 0)).2).2).2).2)
def inoE (b : List T) (s : Option Nat) : List T × Option Nat := itemsI (gEnt b) (rdC b s).1.toNat (rdC b s).2
def inoA (b : List T) (s : Option Nat) : List T × Option Nat := itemsI (gAttr b) (rdC b s).1.toNat (rdC b s).2
/-- The inode that bytes are. -/
def getInodeB (b : List T) : Option (Int × Int × Int × List T × List T × List T) :=
  bif (inoA b (inoE b (inoHead b).2).2).2 == some b.length && inodeB (inoHead b).1.1 (inoHead b).1.2.1 (inoHead b).1.2.2.1 (listOf (inoHead b).1.2.2.2) (inoE b (inoHead b).2).1 (inoA b (inoE b (inoHead b).2).2).1 then
    some ((inoHead b).1.1, (inoHead b).1.2.1, (inoHead b).1.2.2.1, listOf (inoHead b).1.2.2.2, (inoE b (inoHead b).2).1, (inoA b (inoE b (inoHead b).2).2).1) else none
theorem inoE_size {b : List T} (hb : byt b) (hl : b.length ≤ 1048576) (s : Option Nat) : (inoE b s).1.length + tls (inoE b s).1 ≤ 16777216 := by
  have h1 := itemsI_len (g := gEnt b) (rdC b s).1.toNat (rdC b s).2
  have h2 := (gtls (g := gEnt b) (b := b) ⟨rfl, rfl⟩ (gEnt_size hb) (rdC b s).1.toNat (rdC b s).2 (rdC_le' hb)).1
  have h3 := rdC_in hb s
  unfold inoE
  omega
theorem inoA_size {b : List T} (hb : byt b) (hl : b.length ≤ 1048576) (s : Option Nat) : (inoA b s).1.length + tls (inoA b s).1 ≤ 16777216 := by
  have h1 := itemsI_len (g := gAttr b) (rdC b s).1.toNat (rdC b s).2
  have h2 := (gtls (g := gAttr b) (b := b) ⟨rfl, rfl⟩ (gAttr_size hb) (rdC b s).1.toNat (rdC b s).2 (rdC_le' hb)).1
  have h3 := rdC_in hb s
  unfold inoA
  omega
def getInodeR : Option (Int × Int × Int × List T × List T × List T) → List T
  | some (i, k, n, d, es, ats) => [.st [.i .i64 i, .i .i64 k, .i .i64 n, .sl d, .sl es, .sl ats], .b true]
  | none => [.st [.i .i64 0, .i .i64 0, .i .i64 0, .sl [], .sl [], .sl []], .b false]
theorem inodeB_len {i k n : Int} {d es ats : List T} (h : inodeB i k n d es ats = true) : d.length ≤ 100 ∧ es.length ≤ 10 ∧ ats.length ≤ 4 := by
  unfold inodeB entsB attrsB at h
  simp only [Bool.and_eq_true, iLe_iff, Bool.not_eq_true'] at h
  have : ¬ (100 : Int) < d.length := fun hc => by rw [iLt_t hc] at h; simp at h
  omega
theorem c_iRAttrs {lf d : Nat} (hlf : 33554432 ≤ lf) {b : List T} (hb : byt b) (hl : b.length ≤ 1048576) {s : Option Nat} {p : Int} {ok : Bool} (h : RI b s p ok) :
    ∃ p' ok', Cc lf (d + 4) 92 [.st [.sl b, .i .i64 p, .b ok]] = some [.sl (inoA b s).1, .st [.sl b, .i .i64 p', .b ok']] ∧ RI b (inoA b s).2 p' ok' := by
  have E := f92_eq (Cc lf (d + 3)) lf b p ok
  unfold f92 f92_t at E
  dsimp only at E
  obtain ⟨p2, ok2, e2, R2⟩ := c_iCount (d := d) hlf hb (by omega) h
  rw [e2] at E
  simp only [Option.bind_some, nth0, nthS, asI_i, asB_b, cell0, cellS] at E
  have hc := rdC_in hb s
  obtain ⟨N, hN⟩ := Int.eq_ofNat_of_zero_le hc.1
  obtain ⟨p3, ok3, e3, R3⟩ := loopI (g := gAttr b) (b := b) (N := N) (F := fun n j p ok acc => f92_0 (Cc lf (d + 3)) lf b [T.i .i64 (rdC b s).1, T.st [T.sl b, T.i .i64 p2, T.b ok2]] n j p ok acc)
    (Y := fun p ok acc => some [T.i .i64 0, T.sl b, T.i .i64 p, T.b ok, T.sl acc]) (by omega) (fun n j p ok acc s' hj hR ha => by
      obtain ⟨pa, oa, q1, Q1⟩ := c_iText (d := d) hlf hb (by omega) hR
      obtain ⟨pb, ob, q2, Q2⟩ := c_iText (d := d) hlf hb (by omega) Q1
      refine ⟨pb, ob, ?_, Q2⟩
      rw [f92_0_u]
      unfold f92_0_s
      rw [nth0, asI_i, hN, iLt_t (by omega), q1]
      simp only [cond_t, Option.bind_some, nth0, nthS, asI_i, asB_b, asS_s, cell0, cellS]
      rw [q2]
      simp only [cond_t, Option.bind_some, nth0, nthS, asI_i, asB_b, asS_s, cell0, cellS]
      rw [nLe_app (by omega), cond_t, wrap_in (by omega) (by omega)]
      rfl) (fun n p ok acc => by
      rw [f92_0_u]
      unfold f92_0_s
      rw [nth0, asI_i, hN, iLt_f (by omega)]
      rfl) (n := lf) (by omega) R2
  rw [e3] at E
  simp only [Option.bind_some, nth0, nthS, asI_i, asB_b, asL_l, cell0, cellS] at E
  unfold inoA
  rw [hN]
  exact ⟨p3, ok3, E, R3⟩
theorem c_iGetInode {lf d : Nat} (hlf : 33554432 ≤ lf) {b : List T} (hb : byt b) (hl : b.length ≤ 1048576) : Cc lf (d + 5) 36 [.sl b] = some (getInodeR (getInodeB b)) := by
  refine (f36_eq (Cc lf (d + 4)) lf b).trans ?_
  unfold f36 f36_t
  dsimp only
  obtain ⟨p0, ok0, e0, R0⟩ := c_iNum (d := d + 2) (s := some 0) (p := 0) (ok := true) hlf hb (by omega) ⟨rfl, fun q hq => by cases hq; exact ⟨rfl, Nat.zero_le _⟩⟩
  obtain ⟨p1, ok1, e1, R1⟩ := c_iNum (d := d + 2) hlf hb (by omega) R0
  obtain ⟨p2, ok2, e2, R2⟩ := c_iNum (d := d + 2) hlf hb (by omega) R1
  obtain ⟨p3, ok3, e3, R3⟩ := c_iText (d := d + 1) hlf hb (by omega) R2
  obtain ⟨p4, ok4, e4, R4⟩ := c_iCount (d := d + 1) hlf hb (by omega) R3
  have hd := rdS_len hb (rd b (rd b (rd b (some 0)).2).2).2
  rw [e0]
  simp only [Option.bind_some, nth0, nthS, asI_i, asB_b, asS_s, cell0, cellS]
  rw [e1]
  simp only [Option.bind_some, nth0, nthS, asI_i, asB_b, asS_s, cell0, cellS]
  rw [e2]
  simp only [Option.bind_some, nth0, nthS, asI_i, asB_b, asS_s, cell0, cellS]
  rw [e3]
  simp only [Option.bind_some, nth0, nthS, asI_i, asB_b, asS_s, cell0, cellS]
  rw [e4, nLe_t (show (rdS b (rd b (rd b (rd b (some 0)).2).2).2).1.size ≤ LIM by unfold LIM; omega)]
  simp only [cond_t, Option.bind_some, nth0, nthS, asI_i, asB_b, asS_s, cell0, cellS]
  unfold getInodeB
  have hH : inoHead b = (((rd b (some 0)).1, (rd b (rd b (some 0)).2).1, (rd b (rd b (rd b (some 0)).2).2).1, (rdS b (rd b (rd b (rd b (some 0)).2).2).2).1), (rdS b (rd b (rd b (rd b (some 0)).2).2).2).2) := rfl
  simp only [hH]
  clear hH hd
  generalize rd b (some 0) = i0 at *
  generalize rd b i0.2 = i1 at *
  generalize rd b i1.2 = i2 at *
  generalize rdS b i2.2 = i3 at *
  have hc := rdC_in hb i3.2
  obtain ⟨N, hN⟩ := Int.eq_ofNat_of_zero_le hc.1
  obtain ⟨p5, ok5, e5, R5⟩ := loopI (g := gEnt b) (b := b) (N := N) (F := fun n j p ok acc => f36_0 (Cc lf (d + 4)) lf b [T.i .i64 i0.1, T.st [T.sl b, T.i .i64 p0, T.b ok0]] [T.i .i64 i1.1, T.st [T.sl b, T.i .i64 p1, T.b ok1]] [T.i .i64 i2.1, T.st [T.sl b, T.i .i64 p2, T.b ok2]] [T.s i3.1, T.st [T.sl b, T.i .i64 p3, T.b ok3]] [T.i .i64 (rdC b i3.2).1, T.st [T.sl b, T.i .i64 p4, T.b ok4]] n j p ok acc)
    (Y := fun p ok acc => some [T.i .i64 0, T.i .i64 0, T.i .i64 0, T.i .i64 0, T.sl ([] : List T), T.sl ([] : List T), T.sl ([] : List T), T.sl b, T.i .i64 p, T.b ok, T.i .i64 i0.1, T.i .i64 i1.1, T.i .i64 i2.1, T.sl (listOf i3.1), T.sl acc, T.sl ([] : List T)]) (by omega) (fun n j p ok acc s' hj hR ha => by
      obtain ⟨pa, oa, q1, Q1⟩ := c_iText (d := d + 1) hlf hb (by omega) hR
      obtain ⟨pb, ob, q2, Q2⟩ := c_iNum (d := d + 2) hlf hb (by omega) Q1
      refine ⟨pb, ob, ?_, Q2⟩
      rw [f36_0_u]
      unfold f36_0_s
      simp only [nth0, nthS, asI_i, asS_s, hN]
      rw [iLt_t (by omega), q1]
      simp only [cond_t, Option.bind_some, nth0, nthS, asI_i, asB_b, asS_s, cell0, cellS]
      rw [q2]
      simp only [cond_t, Option.bind_some, nth0, nthS, asI_i, asB_b, asS_s, cell0, cellS]
      rw [nLe_app (by omega), cond_t, wrap_in (by omega) (by omega)]
      rfl) (fun n p ok acc => by
      rw [f36_0_u]
      unfold f36_0_s
      simp only [nth0, nthS, asI_i, asS_s, hN]
      rw [iLt_f (by omega)]
      rfl) (n := lf) (by omega) R4
  rw [e5]
  simp only [Option.bind_some, nth0, nthS, asI_i, asB_b, asS_s, asL_l, cell0, cellS]
  have hE : itemsI (gEnt b) N (rdC b i3.2).2 = inoE b i3.2 := by unfold inoE; rw [hN]; rfl
  rw [hE] at R5 ⊢
  obtain ⟨p6, ok6, e6, R6⟩ := c_iRAttrs (d := d) hlf hb hl R5
  rw [e6]
  simp only [Option.bind_some, nth0, nthS, asI_i, asB_b, asS_s, asL_l, cell0, cellS]
  obtain ⟨t, e7⟩ := c_iDone (lf := lf) (d := d + 3) R6
  rw [e7]
  simp only [Option.bind_some, nth0, nthS, asI_i, asB_b, asL_l]
  rw [c_iInodeOk (d := d) hlf _ _ _ _ _ _ (inoE_size hb hl _) (inoA_size hb hl _)]
  simp only [Option.bind_some, nth0, asB_b]
  cases (inoA b (inoE b i3.2).2).2 == some b.length with
  | false => rfl
  | true =>
    cases inodeB i0.1 i1.1 i2.1 (listOf i3.1) (inoE b i3.2).1 (inoA b (inoE b i3.2).2).1 <;> rfl
theorem c_sGetInode {lf d : Nat} (hlf : 33554432 ≤ lf) {b : List T} (hb : byt b) (hl : b.length ≤ 1048576) : Cc lf (d + 5) 54 [.sl b] = some (getInodeR (getInodeB b)) := by
  refine (f54_eq (Cc lf (d + 4)) lf b).trans ?_
  unfold f54 f54_t
  dsimp only
  obtain ⟨p0, ok0, e0, R0⟩ := c_sNum (d := d + 2) (s := some 0) (p := 0) (bad := false) hlf hb (by omega) ⟨rfl, (fun q hq => by cases hq; rfl), 0, rfl, Nat.zero_le _⟩
  obtain ⟨p1, ok1, e1, R1⟩ := c_sNum (d := d + 2) hlf hb (by omega) R0
  obtain ⟨p2, ok2, e2, R2⟩ := c_sNum (d := d + 2) hlf hb (by omega) R1
  obtain ⟨p3, ok3, e3, R3⟩ := c_sText (d := d + 1) hlf hb (by omega) R2
  obtain ⟨p4, ok4, e4, R4⟩ := c_sNum (d := d + 2) hlf hb (by omega) R3
  have hd := rdS_len hb (rd b (rd b (rd b (some 0)).2).2).2
  rw [e0]
  simp only [Option.bind_some, nth0, nthS, asI_i, asB_b, asS_s, cell0, cellS]
  rw [e1]
  simp only [Option.bind_some, nth0, nthS, asI_i, asB_b, asS_s, cell0, cellS]
  rw [e2]
  simp only [Option.bind_some, nth0, nthS, asI_i, asB_b, asS_s, cell0, cellS]
  rw [e3]
  simp only [Option.bind_some, nth0, nthS, asI_i, asB_b, asS_s, cell0, cellS]
  rw [e4, nLe_t (show (rdS b (rd b (rd b (rd b (some 0)).2).2).2).1.size ≤ LIM by unfold LIM; omega)]
  simp only [cond_t, Option.bind_some, nth0, nthS, asI_i, asB_b, asS_s, cell0, cellS]
  unfold getInodeB
  have hH : inoHead b = (((rd b (some 0)).1, (rd b (rd b (some 0)).2).1, (rd b (rd b (rd b (some 0)).2).2).1, (rdS b (rd b (rd b (rd b (some 0)).2).2).2).1), (rdS b (rd b (rd b (rd b (some 0)).2).2).2).2) := rfl
  simp only [hH]
  clear hH hd
  generalize rd b (some 0) = i0 at *
  generalize rd b i0.2 = i1 at *
  generalize rd b i1.2 = i2 at *
  generalize rdS b i2.2 = i3 at *
  have hc := rd_in hb i3.2
  obtain ⟨N, hN⟩ := Int.eq_ofNat_of_zero_le hc.1
  obtain ⟨p5, ok5, e5, R5⟩ := loopS (g := gEnt b) (b := b) (K := min N (10 + 1)) (F := fun n j p ok acc => f54_0 (Cc lf (d + 4)) lf b [T.i .i64 i0.1, T.st [T.sl b, T.i .i64 p0, T.b ok0]] [T.i .i64 i1.1, T.st [T.sl b, T.i .i64 p1, T.b ok1]] [T.i .i64 i2.1, T.st [T.sl b, T.i .i64 p2, T.b ok2]] [T.s i3.1, T.st [T.sl b, T.i .i64 p3, T.b ok3]] [T.i .i64 (rd b i3.2).1, T.st [T.sl b, T.i .i64 p4, T.b ok4]] n j p ok acc)
    (Y := fun p bad acc => some [T.i .i64 0, T.sl b, T.i .i64 (N : Int), T.i .i64 0, T.i .i64 0, T.i .i64 0, T.sl ([] : List T), T.sl ([] : List T), T.sl ([] : List T), T.sl b, T.i .i64 p, T.b bad, T.i .i64 i0.1, T.i .i64 i1.1, T.i .i64 i2.1, T.sl (listOf i3.1), T.sl acc, T.sl ([] : List T)]) (by omega) (fun n j p bad acc s' hj hR ha => by
      obtain ⟨pa, oa, q1, Q1⟩ := c_sText (d := d + 1) hlf hb (by omega) hR
      obtain ⟨pb, ob, q2, Q2⟩ := c_sNum (d := d + 2) hlf hb (by omega) Q1
      refine ⟨pb, ob, ?_, Q2⟩
      have hbad : bad = false := hR.1
      subst hbad
      rw [f54_0_u]
      unfold f54_0_s
      simp only [nth0, nthS, asI_i, asS_s, hN]
      rw [iLt_t (by omega), iLe_t (by omega), q1]
      simp only [cond_t, cond_f, Bool.not_false, Option.bind_some, nth0, nthS, asI_i, asB_b, asS_s, cell0, cellS]
      rw [q2]
      simp only [cond_t, Option.bind_some, nth0, nthS, asI_i, asB_b, asS_s, cell0, cellS]
      rw [nLe_app (by omega), cond_t, wrap_in (by omega) (by omega)]
      rfl) (fun n j p bad acc s hj hR hx => by
      rw [f54_0_u]
      unfold f54_0_s
      simp only [nth0, nthS, asI_i, asS_s, hN]
      by_cases c1 : j < N
      · rw [iLt_t (by omega)]
        by_cases c2 : j ≤ 10
        · have hs : s = none := by rcases hx with h | h; omega; exact h
          have hbad : bad = true := by rw [hR.1, hs]; rfl
          subst hbad
          rw [iLe_t (by omega)]
          rfl
        · rw [iLe_f (by omega)]; rfl
      · rw [iLt_f (by omega)]; rfl) (n := lf) (by omega) R4
  rw [e5]
  simp only [Option.bind_some, nth0, nthS, asI_i, asB_b, asS_s, asL_l, cell0, cellS]
  obtain ⟨p6, ok6, e6, R6⟩ := c_sNum (d := d + 2) hlf hb (by omega) R5
  rw [e6]
  simp only [Option.bind_some, nth0, nthS, asI_i, asB_b, asS_s, asL_l, cell0, cellS]
  have hEl := itemsS_len (g := gEnt b) (min N (10 + 1)) (rd b i3.2).2
  have hEt := (gtls (g := gEnt b) (b := b) ⟨rfl, rfl⟩ (gEnt_size hb) (min N (10 + 1)) (rd b i3.2).2 (fun p h => by obtain ⟨_, _, _, h2, _⟩ := rd_next hb h; exact h2)).2
  have hc2 := rd_in hb (itemsS (gEnt b) (min N (10 + 1)) (rd b i3.2).2).2
  obtain ⟨M, hM⟩ := Int.eq_ofNat_of_zero_le hc2.1
  generalize hES : itemsS (gEnt b) (min N (10 + 1)) (rd b i3.2).2 = ES at *
  obtain ⟨p7, ok7, e7, R7⟩ := loopS (g := gAttr b) (b := b) (K := min M (4 + 1)) (F := fun n j p ok acc => f54_1 (Cc lf (d + 4)) lf [T.i .i64 0, T.sl b, T.i .i64 (N : Int), T.i .i64 0, T.i .i64 0, T.i .i64 0, T.sl ([] : List T), T.sl ([] : List T), T.sl ([] : List T), T.sl b, T.i .i64 p5, T.b ok5, T.i .i64 i0.1, T.i .i64 i1.1, T.i .i64 i2.1, T.sl (listOf i3.1), T.sl ES.1, T.sl ([] : List T)] [T.i .i64 (rd b ES.2).1, T.st [T.sl b, T.i .i64 p6, T.b ok6]] n j p ok acc)
    (Y := fun p bad acc => some [T.i .i64 0, T.sl b, T.i .i64 (N : Int), T.i .i64 (M : Int), T.i .i64 0, T.i .i64 0, T.i .i64 0, T.sl ([] : List T), T.sl ([] : List T), T.sl ([] : List T), T.sl b, T.i .i64 p, T.b bad, T.i .i64 i0.1, T.i .i64 i1.1, T.i .i64 i2.1, T.sl (listOf i3.1), T.sl ES.1, T.sl acc]) (by omega) (fun n j p bad acc s' hj hR ha => by
      obtain ⟨pa, oa, q1, Q1⟩ := c_sText (d := d + 1) hlf hb (by omega) hR
      obtain ⟨pb, ob, q2, Q2⟩ := c_sText (d := d + 1) hlf hb (by omega) Q1
      refine ⟨pb, ob, ?_, Q2⟩
      have hbad : bad = false := hR.1
      subst hbad
      rw [f54_1_u]
      unfold f54_1_s
      simp only [nth0, nthS, asI_i, asS_s, asL_l, hM]
      rw [iLt_t (by omega), iLe_t (by omega), q1]
      simp only [cond_t, cond_f, Bool.not_false, Option.bind_some, nth0, nthS, asI_i, asB_b, asS_s, cell0, cellS]
      rw [q2]
      simp only [cond_t, Option.bind_some, nth0, nthS, asI_i, asB_b, asS_s, cell0, cellS]
      rw [nLe_app (by omega), cond_t, wrap_in (by omega) (by omega)]
      rfl) (fun n j p bad acc s hj hR hx => by
      rw [f54_1_u]
      unfold f54_1_s
      simp only [nth0, nthS, asI_i, asS_s, asL_l, hM]
      by_cases c1 : j < M
      · rw [iLt_t (by omega)]
        by_cases c2 : j ≤ 4
        · have hs : s = none := by rcases hx with h | h; omega; exact h
          have hbad : bad = true := by rw [hR.1, hs]; rfl
          subst hbad
          rw [iLe_t (by omega)]
          rfl
        · rw [iLe_f (by omega)]; rfl
      · rw [iLt_f (by omega)]; rfl) (n := lf) (by omega) R6
  rw [e7]
  simp only [Option.bind_some, nth0, nthS, asI_i, asB_b, asS_s, asL_l, cell0, cellS]
  rw [RS_fin R7]
  have hAl := itemsS_len (g := gAttr b) (min M (4 + 1)) (rd b ES.2).2
  have hAt := (gtls (g := gAttr b) (b := b) ⟨rfl, rfl⟩ (gAttr_size hb) (min M (4 + 1)) (rd b ES.2).2 (fun p h => by obtain ⟨_, _, _, h2, _⟩ := rd_next hb h; exact h2)).2
  rw [c_sInodeOk (d := d) hlf _ _ _ _ _ _ (by omega) (by omega)]
  simp only [Option.bind_some, nth0, asB_b]
  -- the two readers
  have nE : (gEnt b none).2 = none := rfl
  have nA : (gAttr b none).2 = none := rfl
  have A0 : inoA b none = ([], none) := rfl
  have S0 : ∀ k, (itemsS (gAttr b) k none).2 = none := fun k => by cases k <;> rfl
  -- behind the entries, where they are read
  have tail : ∀ (es : List T) (q : Nat), q ≤ b.length → N = es.length → ES = (es, some q) → inoE b i3.2 = (es, some q) →
      (bif (itemsS (gAttr b) (min M (4 + 1)) (rd b ES.2).2).2 == some b.length then
        bif (N : Int) != (ES.1.length : Int) then some [T.st [T.i .i64 0, T.i .i64 0, T.i .i64 0, T.sl [], T.sl [], T.sl []], T.b false]
        else bif (M : Int) != ((itemsS (gAttr b) (min M (4 + 1)) (rd b ES.2).2).1.length : Int) then some [T.st [T.i .i64 0, T.i .i64 0, T.i .i64 0, T.sl [], T.sl [], T.sl []], T.b false]
        else bif !inodeB i0.1 i1.1 i2.1 (listOf i3.1) ES.1 (itemsS (gAttr b) (min M (4 + 1)) (rd b ES.2).2).1 then some [T.st [T.i .i64 0, T.i .i64 0, T.i .i64 0, T.sl [], T.sl [], T.sl []], T.b false]
        else some [T.st [T.i .i64 i0.1, T.i .i64 i1.1, T.i .i64 i2.1, T.sl (listOf i3.1), T.sl ES.1, T.sl (itemsS (gAttr b) (min M (4 + 1)) (rd b ES.2).2).1], T.b true]
      else some [T.st [T.i .i64 0, T.i .i64 0, T.i .i64 0, T.sl [], T.sl [], T.sl []], T.b false]) =
      some (getInodeR (bif (inoA b (inoE b i3.2).2).2 == some b.length && inodeB i0.1 i1.1 i2.1 (listOf i3.1) (inoE b i3.2).1 (inoA b (inoE b i3.2).2).1 then some (i0.1, i1.1, i2.1, listOf i3.1, (inoE b i3.2).1, (inoA b (inoE b i3.2).2).1) else none)) := by
    intro es q hq hNe hES' hE
    subst hES'
    simp only at hM ⊢
    rw [hE]
    simp only
    have hne : ((N : Int) != (es.length : Int)) = false := by rw [hNe]; simp
    rw [hne, cond_f]
    cases hs : (rd b (some q)).2 with
    | none =>
      have : inoA b (some q) = ([], none) := by unfold inoA; rw [rdC_none hs]; rfl
      rw [this, S0]
      rfl
    | some p =>
      obtain ⟨_, _, _, hpl, _⟩ := rd_next hb hs
      have hrd : rd b (some q) = ((M : Int), some p) := by rw [← hM, ← hs]
      rcases list_rel (g := gAttr b) (b := b) nA (gAttr_next hb) 4 M p hpl with ⟨ps, q2, h1, h2, h3, h4, h5⟩ | ⟨h1, h2⟩
      · have hA : inoA b (some q) = (ps, some q2) := by
          unfold inoA
          rw [rdC_some hrd, if_neg (by omega)]
          exact h2
        have hne2 : ((M : Int) != (ps.length : Int)) = false := by rw [h4]; simp
        rw [hA, h3]
        simp only [hne2, cond_f]
        cases (some q2 == some b.length) with
        | false => rfl
        | true => cases inodeB i0.1 i1.1 i2.1 (listOf i3.1) es ps <;> rfl
      · have hA : (inoA b (some q)).2 = none ∨ 4 < (inoA b (some q)).1.length := by
          unfold inoA
          rw [rdC_some hrd]
          by_cases hc : (M : Int) > (b.length : Int) - p
          · rw [if_pos hc]; exact .inl rfl
          · rw [if_neg hc]
            rcases h1 with h1 | h1 | h1
            · omega
            · exact .inl h1
            · exact .inr h1
        have hI : (bif (inoA b (some q)).2 == some b.length && inodeB i0.1 i1.1 i2.1 (listOf i3.1) es (inoA b (some q)).1 then some (i0.1, i1.1, i2.1, listOf i3.1, es, (inoA b (some q)).1) else none) = none := by
          rcases hA with h | h
          · rw [h]; rfl
          · cases hm : inodeB i0.1 i1.1 i2.1 (listOf i3.1) es (inoA b (some q)).1 with
            | true => have := inodeB_len hm; omega
            | false => rw [Bool.and_false]; rfl
        rw [hI]
        rcases h2 with h2 | h2
        · rw [h2]; rfl
        · have hne2 : ((M : Int) != ((itemsS (gAttr b) (min M (4 + 1)) (some p)).1.length : Int)) = true := by simp only [bne_iff_ne, ne_eq]; omega
          rw [hne2]
          cases (itemsS (gAttr b) (min M (4 + 1)) (some p)).2 == some b.length <;> rfl
  cases hs2 : (rd b i3.2).2 with
  | none =>
    have hE : inoE b i3.2 = ([], none) := by unfold inoE; rw [rdC_none hs2]; rfl
    have hE2 : ES.2 = none := by rw [← hES, hs2]; cases min N (10 + 1) <;> rfl
    have hm0 : (rd b ES.2).2 = none := by rw [hE2]; rfl
    rw [hm0, S0, hE]
    rfl
  | some p =>
    obtain ⟨_, _, _, hpl, _⟩ := rd_next hb hs2
    have hrd : rd b i3.2 = ((N : Int), some p) := by rw [← hN, ← hs2]
    rw [hs2] at hES
    rcases list_rel (g := gEnt b) (b := b) nE (gEnt_next hb) 10 N p hpl with ⟨ps, q, h1, h2, h3, h4, h5⟩ | ⟨h1, h2⟩
    · have hE : inoE b i3.2 = (ps, some q) := by
        unfold inoE
        rw [rdC_some hrd, if_neg (by omega)]
        exact h2
      exact tail ps q h5 h4 (by rw [← hES, h3]) hE
    · have hA : (inoA b (inoE b i3.2).2).2 = none ∨ 10 < (inoE b i3.2).1.length := by
        unfold inoE
        rw [rdC_some hrd]
        by_cases hc : (N : Int) > (b.length : Int) - p
        · rw [if_pos hc]; exact .inl rfl
        · rw [if_neg hc]
          rcases h1 with h1 | h1 | h1
          · omega
          · left
            show (inoA b (itemsI (gEnt b) ((N : Int)).toNat (some p)).2).2 = none
            rw [Int.toNat_natCast, h1]
            rfl
          · exact .inr h1
      have hI : (bif (inoA b (inoE b i3.2).2).2 == some b.length && inodeB i0.1 i1.1 i2.1 (listOf i3.1) (inoE b i3.2).1 (inoA b (inoE b i3.2).2).1 then some (i0.1, i1.1, i2.1, listOf i3.1, (inoE b i3.2).1, (inoA b (inoE b i3.2).2).1) else none) = none := by
        rcases hA with h | h
        · rw [h]; rfl
        · cases hm : inodeB i0.1 i1.1 i2.1 (listOf i3.1) (inoE b i3.2).1 (inoA b (inoE b i3.2).2).1 with
          | true => have := inodeB_len hm; omega
          | false => rw [Bool.and_false]; rfl
      rw [hI]
      rw [hES] at h2
      rcases h2 with h2 | h2
      · have hm0 : (rd b ES.2).2 = none := by rw [h2]; rfl
        rw [hm0, S0]
        rfl
      · have hne : ((N : Int) != (ES.1.length : Int)) = true := by simp only [bne_iff_ne, ne_eq]; omega
        rw [hne]
        cases (itemsS (gAttr b) (min M (4 + 1)) (rd b ES.2).2).2 == some b.length <;> rfl
theorem gEnt_fit {b : List T} (hb : byt b) (hl : b.length ≤ 1048576) (s : Option Nat) : fitE true [.s, .i .i64] (gEnt b s).1 := by
  have h1 := rd_in hb (rdS b s).2
  have h4 := rdS_len hb s
  exact ⟨(show (rdS b s).1.size ≤ maxLen by unfold maxLen; omega), ⟨rfl, wf64 (by omega) (by omega)⟩, trivial⟩
theorem gAttr_fit {b : List T} (hb : byt b) (hl : b.length ≤ 1048576) (s : Option Nat) : fitE true [.s, .s] (gAttr b s).1 := by
  have h4 := rdS_len hb s
  have h5 := rdS_len hb (rdS b s).2
  exact ⟨(show (rdS b s).1.size ≤ maxLen by unfold maxLen; omega), (show (rdS b (rdS b s).2).1.size ≤ maxLen by unfold maxLen; omega), trivial⟩
theorem items_fit {g : Option Nat → T × Option Nat} {Q : T → Prop} (h : ∀ s, Q (g s).1) : ∀ (k : Nat) (s : Option Nat), ∀ x ∈ (itemsI g k s).1, Q x
  | 0, s, x, hx => by cases hx
  | k + 1, s, x, hx => by
    rcases List.mem_cons.1 hx with rfl | hx
    · exact h s
    · exact items_fit h k _ x hx
theorem getInode_fit {b : List T} (hb : byt b) (hl : b.length ≤ 1048576) : ∃ r0 r1, getInodeR (getInodeB b) = [r0, r1] ∧ (fitE true csfit_iiiScMsiEMssE r0 ∧ tl r0 ≤ 16777216) ∧ (fitC .b r1 ∧ tl r1 ≤ 16777216) := by
  have h1 := rd_in hb (some 0)
  have h2 := rd_in hb (rd b (some 0)).2
  have h3 := rd_in hb (rd b (rd b (some 0)).2).2
  have h4 := rdS_len hb (rd b (rd b (rd b (some 0)).2).2).2
  have he := items_fit (gEnt_fit hb hl) (rdC b (inoHead b).2).1.toNat (rdC b (inoHead b).2).2
  have ha := items_fit (gAttr_fit hb hl) (rdC b (inoE b (inoHead b).2).2).1.toNat (rdC b (inoE b (inoHead b).2).2).2
  have te := inoE_size hb hl (inoHead b).2
  have ta := inoA_size hb hl (inoE b (inoHead b).2).2
  have te2 : tls (inoE b (inoHead b).2).1 ≤ b.length := (gtls (g := gEnt b) (b := b) ⟨rfl, rfl⟩ (gEnt_size hb) _ _ (rdC_le' hb)).1
  have ta2 : tls (inoA b (inoE b (inoHead b).2).2).1 ≤ b.length := (gtls (g := gAttr b) (b := b) ⟨rfl, rfl⟩ (gAttr_size hb) _ _ (rdC_le' hb)).1
  unfold getInodeB
  cases hm : inodeB (inoHead b).1.1 (inoHead b).1.2.1 (inoHead b).1.2.2.1 (listOf (inoHead b).1.2.2.2) (inoE b (inoHead b).2).1 (inoA b (inoE b (inoHead b).2).2).1 with
  | false =>
    rw [Bool.and_false]
    exact ⟨_, _, rfl, ⟨⟨⟨rfl, wf64 (by omega) (by omega)⟩, ⟨rfl, wf64 (by omega) (by omega)⟩, ⟨rfl, wf64 (by omega) (by omega)⟩, ⟨Nat.zero_le _, trivial⟩, ⟨Nat.zero_le _, trivial⟩, ⟨Nat.zero_le _, trivial⟩, trivial⟩, Nat.zero_le _⟩, ⟨trivial, Nat.zero_le _⟩⟩
  | true =>
    rw [Bool.and_true]
    cases (inoA b (inoE b (inoHead b).2).2).2 == some b.length with
    | false => exact ⟨_, _, rfl, ⟨⟨⟨rfl, wf64 (by omega) (by omega)⟩, ⟨rfl, wf64 (by omega) (by omega)⟩, ⟨rfl, wf64 (by omega) (by omega)⟩, ⟨Nat.zero_le _, trivial⟩, ⟨Nat.zero_le _, trivial⟩, ⟨Nat.zero_le _, trivial⟩, trivial⟩, Nat.zero_le _⟩, ⟨trivial, Nat.zero_le _⟩⟩
    | true =>
      obtain ⟨l1, l2, l3⟩ := inodeB_len hm
      have hd := byt_listOf (inoHead b).1.2.2.2
      refine ⟨_, _, rfl, ⟨⟨⟨rfl, wf64 (by show -9223372036854775808 ≤ (rd b (some 0)).1; omega) (by show (rd b (some 0)).1 ≤ _; omega)⟩, ⟨rfl, wf64 (by show -9223372036854775808 ≤ (rd b (rd b (some 0)).2).1; omega) (by show (rd b (rd b (some 0)).2).1 ≤ _; omega)⟩, ⟨rfl, wf64 (by show -9223372036854775808 ≤ (rd b (rd b (rd b (some 0)).2).2).1; omega) (by show (rd b (rd b (rd b (some 0)).2).2).1 ≤ _; omega)⟩, byt_fit hd (by unfold maxLen; omega), ⟨by unfold maxLen; omega, fitL_all.2 he⟩, ⟨by unfold maxLen; omega, fitL_all.2 ha⟩, trivial⟩, ?_⟩, ⟨trivial, Nat.zero_le _⟩⟩
      simp only [tl, tls, byt_tls hd]
      omega
theorem same {lf : Nat} (hlf : 33554432 ≤ lf) (l : List T) (hf : fitC (.sl false [.i .u8]) (.sl l)) (z : tl (.sl l) ≤ 1048576) :
    ∃ r0 r1, Cc lf 7 54 [.sl l] = some [r0, r1] ∧ Cc lf 7 36 [.sl l] = some [r0, r1] ∧ (fitE true csfit_iiiScMsiEMssE r0 ∧ tl r0 ≤ 16777216) ∧ (fitC .b r1 ∧ tl r1 ≤ 16777216) ∧ True := by
  simp only [tl] at z
  have hb := byt_of hf
  obtain ⟨r0, r1, h1, h2, h3⟩ := getInode_fit hb (by omega)
  exact ⟨r0, r1, by rw [← h1]; exact c_sGetInode (d := 2) hlf hb (by omega), by rw [← h1]; exact c_iGetInode (d := 2) hlf hb (by omega), h2, h3, trivial⟩
/-- The law answers true. -/
theorem lawB {lf : Nat} (hlf : 33554432 ≤ lf) {t0 : T} (ht0 : fitC (.sl false [.i .u8]) t0) : Cc lf 8 10 [t0] = some [.b true] := by
  have hf0 := ht0
  obtain ⟨p0_0, rfl, w0_0⟩ := fitC_sl ht0
  refine (f10_eq (Cc lf 7) lf p0_0).trans ?_
  unfold f10 f10_t
  by_cases l0 : (1048576 : Int) < (p0_0.length : Int)
  · rw [iLt_t l0]; rfl
  rw [iLt_f l0, cond_f]
  have z0 : tl (T.sl p0_0) ≤ 1048576 := by have := tls_flat hf0 rfl; simp only [tl]; omega
  have eT0 := to45 hlf (d := 7) (by omega) _ hf0 (by omega)
  obtain ⟨r0, r1, eS, eI, ⟨hr0, zr0⟩, ⟨hr1, zr1⟩, _⟩ := same hlf p0_0 hf0 z0
  have hR0 := hr0
  obtain ⟨R0_0, R0_1, R0_2, R0_3, R0_4, R0_5, rfl, W0_0, W0_1, W0_2, W0_3, W0_4, W0_5⟩ := fit_iiiScMsiEMssE hr0
  have eQ0 := eq55 hlf (d := 7) (by omega) _ hR0 zr0
  have hR1 := hr1
  obtain ⟨R1_0, rfl⟩ := fitC_b hr1
  have eX0 := eq27 hlf (d := 7) (by omega) _ hf0 (by omega)
  obtain ⟨K1, bK1_0, eK1, uK1, vK1⟩ := mk30 hlf (d := 7) (by omega) _ hf0 (by omega) 1 (by omega) (by omega)
  obtain ⟨M1, bM1_0, bM1_1, bM1_2, eM1, eH1, uM1, vM1⟩ := ms56 hlf (d := 7) (by omega) hR0 zr0 1 (by omega) (by omega)
  simp only [T.cell, List.getD_cons_zero, List.getD_cons_succ] at eH1
  simp only [eT0, eQ0, eS, eI, eX0, eK1, eM1, eH1, Option.bind_some, nth0, nthS, asI_i, asL_l, asB_b, asS_s, cell0, cellS, beq_self_eq_true, bne_self_eq_false, Bool.not_true, Bool.and_true, cond_f, cond_t, iLt_f (show ¬ (K1 < 0) by omega), iLt_f (show ¬ (M1 < 0) by omega)]
end Go.Proofs.Ytockabaoaneplaa.T
