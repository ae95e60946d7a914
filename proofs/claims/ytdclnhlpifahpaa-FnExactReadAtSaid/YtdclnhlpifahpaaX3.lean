/- What functions of the law FnExactReadAt come to, in trees; no condition. -/
import Derived.Test.YtdclnhlpifahpaaRows
import Derived.Test.YtdclnhlpifahpaaX2
set_option linter.unusedVariables false
set_option linter.constructorNameAsVariable false
set_option linter.unusedSimpArgs false
set_option linter.unnecessarySimpa false
namespace Go.Proofs.Ytdclnhlpifahpaa.T
open Go Go.Proofs.YtdclnhlpifahpaaV
set_option maxRecDepth 100000
theorem c_l1In {lf d : Nat} (a lo hi : Int) : Cc lf (d + 1) 71 [.i .i64 a, .i .i64 lo, .i .i64 hi] = some [.b (iLe lo a && iLe a hi)] := by
  refine (f71_eq (Cc lf d) lf a lo hi).trans ?_
  unfold f71 f71_t
  exact cond_b _ _
theorem c_from {lf d : Nat} (a lo hi : Int) : Cc lf (d + 1) 75 [.i .i64 a, .i .i64 lo, .i .i64 hi] = some [.b (iLe lo a && iLe a hi)] := by
  refine (f75_eq (Cc lf d) lf a lo hi).trans ?_
  unfold f75 f75_t
  exact cond_b _ _
theorem c_clone {lf d : Nat} {l : List T} (h : l.length ≤ 1073741830) : Cc lf (d + 1) 147 [.sl l] = some [.sl l] := by
  show (bif nLe (0 + l.length) LIM then some [T.sl l] else none) = _
  rw [nLe_t (by unfold LIM; omega)]
  rfl
theorem c_sGetNum {lf d : Nat} (hlf : 33554432 ≤ lf) {b : List T} (hb : byt b) (hl : b.length ≤ 1073741824) (p : Nat) (hp : p ≤ 1073741824) : Cc lf (d + 1) 181 [.sl b, .i .i64 (p : Int)] = some (getR (getNum b p)) := by
  refine (f181_eq (Cc lf d) lf b p).trans ?_
  unfold f181 f181_t
  dsimp only
  have B : ∀ j, j < b.length → 0 ≤ asI (b.getD j .u) ∧ asI (b.getD j .u) < 256 := fun j hj => by
    obtain ⟨n, e, h⟩ := byt_at hb hj
    rw [e]; exact h
  have L := getNum_loop (b := b) (p := p) (F := fun n x k => f181_0 (Cc lf d) lf b p n x k) (X := some [T.i .i64 0, T.i .i64 0, T.i .i64 0, T.b false]) (Z := some [T.i .i64 1]) (Y := fun v q => some [T.i .i64 0, T.i .i64 v, T.i .i64 (q : Int), T.b true]) hb (fun n x k hk hpk h0 h1 => by
    have hc := B _ hpk
    have hw : IntKind.wrap .u64 (IntKind.wrap .i64 (7 * (k : Int))) = ((7 * k : Nat) : Int) := by
      rcases (by omega : k = 0 ∨ k = 1 ∨ k = 2) with rfl | rfl | rfl <;> rfl
    have hpw : ((2 ^ (7 * k) : Nat) : Int) = 128 ^ k := by
      rcases (by omega : k = 0 ∨ k = 1 ∨ k = 2) with rfl | rfl | rfl <;> rfl
    rw [f181_0_u]
    unfold f181_0_s
    rw [iLt_t (by omega), iLe_t (by omega), iLt_t (by omega), wrap_in (x := (p : Int) + (k : Int)) (by omega) (by omega), iLt_t (by omega), inR_t (by omega) (by omega), hw, iLe_t (by omega), show ((p : Int) + (k : Int)).toNat = p + k by omega, wrap_in (x := asI (b.getD (p + k) .u)) (by omega) (by omega), and_mod hc.1 (by omega),
      shl_mul (by omega) (by omega) (by omega), or_add (k := 7 * k) h0 (by rw [hpw]; exact h1) (by omega) (by omega) (by omega), hpw, wrap_in (x := (k : Int) + 1) (by omega) (by omega), wrap_in (x := (p : Int) + (k : Int) + 1) (by omega) (by omega)]
    simp only [cond_t]
    by_cases c0 : 128 ≤ asI (b.getD (p + k) .u)
    · rw [iLt_t (by omega), if_pos c0]
      rfl
    · rw [iLt_f (by omega), if_neg c0, Int.emod_eq_of_lt hc.1 (by omega)]
      simp only [cond_f]
      by_cases k0 : k = 0
      · subst k0
        rw [iLt_f (by omega)]
        by_cases m : 1000000 < x + asI (b.getD (p + 0) .u) * 128 ^ 0
        · rw [iLt_t m, if_pos (.inr m)]; rfl
        · rw [iLt_f m, if_neg (by omega)]; rfl
      · rw [iLt_t (by omega)]
        by_cases z : asI (b.getD (p + k) .u) = 0
        · rw [if_pos (.inl ⟨k0, z⟩), z]; rfl
        · rw [show (asI (b.getD (p + k) .u) == 0) = false from by simpa using z]
          by_cases m : 1000000 < x + asI (b.getD (p + k) .u) * 128 ^ k
          · rw [iLt_t m, if_pos (.inr m)]; rfl
          · rw [iLt_f m, if_neg (by rintro (h | h); exact z h.2; exact m h)]; rfl) (fun n x k hk3 hk => by
    rw [f181_0_u]
    unfold f181_0_s
    by_cases k3 : k < 3
    · rw [iLt_t (by omega), iLe_t (by omega)]
      by_cases h : p < b.length
      · rw [iLt_t (by omega), wrap_in (x := (p : Int) + (k : Int)) (by omega) (by omega), iLt_f (by omega)]; rfl
      · rw [iLt_f (by omega)]; rfl
    · rw [iLt_f (by omega)]; rfl) (n := lf) (by omega)
  rcases L with ⟨h1, h2 | h2⟩ | ⟨v, q, h1, h2⟩
  · rw [show ((0 : Nat) : Int) = 0 from rfl] at h2; rw [h1, h2]; rfl
  · rw [show ((0 : Nat) : Int) = 0 from rfl] at h2; rw [h1, h2]; rfl
  · rw [show ((0 : Nat) : Int) = 0 from rfl] at h2; rw [h1, h2]; rfl
theorem c_iGetNum {lf d : Nat} (hlf : 33554432 ≤ lf) {b : List T} (hb : byt b) (hl : b.length ≤ 1073741824) (p : Nat) (hp : p ≤ 1073741824) : Cc lf (d + 1) 222 [.sl b, .i .i64 (p : Int)] = some (getR (getNum b p)) := by
  refine (f222_eq (Cc lf d) lf b p).trans ?_
  unfold f222 f222_t
  dsimp only
  have B : ∀ j, j < b.length → 0 ≤ asI (b.getD j .u) ∧ asI (b.getD j .u) < 256 := fun j hj => by
    obtain ⟨n, e, h⟩ := byt_at hb hj
    rw [e]; exact h
  have L := getNum_loop (b := b) (p := p) (F := fun n x k => f222_0 (Cc lf d) lf b p n x (128 ^ k) k) (X := some [T.i .i64 0]) (Z := some [T.i .i64 0]) (Y := fun v q => some [T.i .i64 1, T.i .i64 v, T.i .i64 (q : Int), T.b true]) hb (fun n x k hk hpk h0 h1 => by
    have hc := B _ hpk
    have hm := Int.emod_nonneg (asI (b.getD (p + k) .u)) (show (128 : Int) ≠ 0 by omega)
    have hm2 := Int.emod_lt_of_pos (asI (b.getD (p + k) .u)) (show (0 : Int) < 128 by omega)
    have hk3 : k = 0 ∨ k = 1 ∨ k = 2 := by omega
    have hpw : 1 ≤ (128 : Int) ^ k ∧ (128 : Int) ^ k ≤ 16384 ∧ (128 : Int) ^ k * 128 = 128 ^ (k + 1) ∧ 0 ≤ asI (b.getD (p + k) .u) % 128 * 128 ^ k ∧ asI (b.getD (p + k) .u) % 128 * 128 ^ k ≤ 2097152 := by
      rcases hk3 with rfl | rfl | rfl
      · refine ⟨by decide, by decide, by decide, ?_, ?_⟩ <;> rw [Int.pow_zero] <;> omega
      · refine ⟨by decide, by decide, by decide, ?_, ?_⟩ <;> rw [Int.pow_one] <;> omega
      · have e : (128 : Int) ^ 2 = 16384 := rfl
        refine ⟨by decide, by decide, by decide, ?_, ?_⟩ <;> rw [e] <;> omega
    rw [f222_0_u]
    unfold f222_0_s
    rw [iLt_t (by omega), wrap_in (x := (b.length : Int) - (k : Int)) (by omega) (by omega), iLt_t (by omega), wrap_in (x := (p : Int) + (k : Int)) (by omega) (by omega), inR_t (by omega) (by omega), show ((p : Int) + (k : Int)).toNat = p + k by omega, wrap_in (x := asI (b.getD (p + k) .u)) (by omega) (by omega), Int.tmod_eq_emod_of_nonneg hc.1,
      wrap_in (x := asI (b.getD (p + k) .u) % 128 * 128 ^ k) (by omega) (by omega), wrap_in (x := x + asI (b.getD (p + k) .u) % 128 * 128 ^ k) (by omega) (by omega), wrap_in (x := (128 : Int) ^ k * 128) (by omega) (by omega), hpw.2.2.1, wrap_in (x := (k : Int) + 1) (by omega) (by omega), wrap_in (x := (p : Int) + (k : Int) + 1) (by omega) (by omega)]
    simp only [cond_t]
    by_cases c0 : 128 ≤ asI (b.getD (p + k) .u)
    · rw [iLe_t c0, if_pos c0]
      rfl
    · rw [iLe_f c0, if_neg c0, Int.emod_eq_of_lt hc.1 (by omega)]
      simp only [cond_f]
      by_cases m : 1000000 < x + asI (b.getD (p + k) .u) * 128 ^ k
      · rw [iLt_t m, if_pos (.inr m)]; rfl
      · rw [iLt_f m]
        by_cases z : asI (b.getD (p + k) .u) = 0
        · by_cases k0 : k = 0
          · subst k0
            rw [if_neg (by omega), iLt_f (by omega), show (asI (b.getD (p + 0) .u) == 0) = true by rw [z]; rfl]; rfl
          · rw [if_pos (.inl ⟨k0, z⟩), iLt_t (by omega), show (asI (b.getD (p + k) .u) == 0) = true by rw [z]; rfl]; rfl
        · rw [if_neg (by rintro (h | h); exact z h.2; exact m h), show (asI (b.getD (p + k) .u) == 0) = false from by simpa using z]; rfl) (fun n x k hk3 hk => by
    rw [f222_0_u]
    unfold f222_0_s
    by_cases k3 : k < 3
    · rw [iLt_t (by omega), wrap_in (x := (b.length : Int) - (k : Int)) (by omega) (by omega), iLt_f (by omega)]; rfl
    · rw [iLt_f (by omega)]; rfl) (n := lf) (by omega)
  rw [iLt_f (by omega), cond_f]
  rcases L with ⟨h1, h2 | h2⟩ | ⟨v, q, h1, h2⟩
  · rw [Int.pow_zero, show ((0 : Nat) : Int) = 0 from rfl] at h2; rw [h1, h2]; rfl
  · rw [Int.pow_zero, show ((0 : Nat) : Int) = 0 from rfl] at h2; rw [h1, h2]; rfl
  · rw [Int.pow_zero, show ((0 : Nat) : Int) = 0 from rfl] at h2; rw [h1, h2]; rfl
theorem c_iNum {lf d : Nat} (hlf : 33554432 ≤ lf) {b : List T} (hb : byt b) (hl : b.length ≤ 1073741824) {s : Option Nat} {p : Int} {ok : Bool} (h : RI b s p ok) :
    ∃ p' ok', Cc lf (d + 2) 184 [.st [.sl b, .i .i64 p, .b ok]] = some [.i .i64 (rd b s).1, .st [.sl b, .i .i64 p', .b ok']] ∧ RI b (rd b s).2 p' ok' := by
  have E := f184_eq (Cc lf (d + 1)) lf b p ok
  unfold f184 f184_t at E
  obtain ⟨rfl, h2⟩ := h
  cases s with
  | none => exact ⟨p, false, E, rfl, fun q hq => by cases hq⟩
  | some q =>
    obtain ⟨rfl, hq⟩ := h2 q rfl
    rw [c_iGetNum hlf hb hl q (by omega)] at E
    simp only [rd]
    cases e : getNum b q with
    | none => rw [e] at E; exact ⟨0, false, E, rfl, fun q hq => by cases hq⟩
    | some x =>
      obtain ⟨n, q2⟩ := x
      rw [e] at E
      exact ⟨q2, true, E, rfl, fun q hq => by cases hq; exact ⟨rfl, (getNum_in hb e).2.2.2⟩⟩
theorem c_sNum {lf d : Nat} (hlf : 33554432 ≤ lf) {b : List T} (hb : byt b) (hl : b.length ≤ 1073741824) {s : Option Nat} {p : Int} {bad : Bool} (h : RS b s p bad) :
    ∃ p' bad', Cc lf (d + 2) 131 [.st [.sl b, .i .i64 p, .b bad]] = some [.i .i64 (rd b s).1, .st [.sl b, .i .i64 p', .b bad']] ∧ RS b (rd b s).2 p' bad' := by
  have E := f131_eq (Cc lf (d + 1)) lf b p bad
  unfold f131 f131_t at E
  obtain ⟨rfl, h2, q0, rfl, hq0⟩ := h
  rw [c_sGetNum hlf hb hl q0 (by omega)] at E
  cases s with
  | none => exact ⟨q0, true, E, rfl, (fun q hq => by cases hq), q0, rfl, hq0⟩
  | some q =>
    have e0 : q0 = q := by have := h2 q rfl; omega
    subst e0
    simp only [rd]
    cases e : getNum b q0 with
    | none => rw [e] at E; exact ⟨q0, true, E, rfl, (fun q hq => by cases hq), q0, rfl, hq0⟩
    | some x =>
      obtain ⟨n, q2⟩ := x
      rw [e] at E
      exact ⟨q2, false, E, rfl, (fun q hq => by cases hq; rfl), q2, rfl, (getNum_in hb e).2.2.2⟩
theorem c_iDone {lf d : Nat} {b : List T} {s : Option Nat} {p : Int} {ok : Bool} (h : RI b s p ok) :
    ∃ t, Cc lf (d + 1) 186 [.st [.sl b, .i .i64 p, .b ok]] = some [.b (s == some b.length), t] := by
  have E := f186_eq (Cc lf d) lf b p ok
  unfold f186 f186_t at E
  obtain ⟨rfl, h2⟩ := h
  cases s with
  | none => exact ⟨_, E⟩
  | some q =>
    obtain ⟨rfl, _⟩ := h2 q rfl
    have e : ((q : Int) == (b.length : Int)) = (some q == some b.length) := by
      rw [Bool.eq_iff_iff]
      simp
      omega
    exact ⟨_, by rw [← e]; exact E⟩
/-- What reading a text answers. -/
def getTR : ByteArray × Option Nat → List T
  | (s, some q) => [.s s, .i .i64 (q : Int), .b true]
  | (_, none) => [.s ⟨#[]⟩, .i .i64 0, .b false]
theorem getText_aux {b : List T} (hb : byt b) (hl : b.length ≤ 1073741824) (p : Nat) : ((some (getR (getNum b p)) : Option (List T)).bind fun r =>
  bif !(asB (nth r 2)) then
    some [T.s (⟨#[]⟩ : ByteArray), T.i .i64 0, T.b false]
  else
    bif iLt (IntKind.wrap .i64 ((b.length : Int) - (asI (nth r 1)))) (asI (nth r 0)) then
      some [T.s (⟨#[]⟩ : ByteArray), T.i .i64 0, T.b false]
    else
      bif iLe 0 (asI (nth r 1)) && iLe (asI (nth r 1)) (IntKind.wrap .i64 ((asI (nth r 1)) + (asI (nth r 0)))) && iLe (IntKind.wrap .i64 ((asI (nth r 1)) + (asI (nth r 0)))) (b.length : Int) then
      some [T.s (bytesOf ((b.drop ((asI (nth r 1)).toNat)).take (((IntKind.wrap .i64 ((asI (nth r 1)) + (asI (nth r 0)))).toNat) - ((asI (nth r 1)).toNat)))), T.i .i64 (IntKind.wrap .i64 ((asI (nth r 1)) + (asI (nth r 0)))), T.b true]
      else none) = some (getTR (rdS b (some p))) := by
  unfold rdS
  simp only [rd]
  cases e : getNum b p with
  | none => rfl
  | some x =>
    obtain ⟨n, q⟩ := x
    obtain ⟨h0, h1, h2, h3⟩ := getNum_in hb e
    simp only [getR, Option.bind_some, nth0, nthS, asI_i, asB_b, Bool.not_true, cond_f]
    rw [wrap_in (x := (b.length : Int) - q) (by omega) (by omega), wrap_in (x := (q : Int) + n) (by omega) (by omega)]
    by_cases c : n > (b.length : Int) - q
    · rw [iLt_t c, if_pos c]; rfl
    · rw [iLt_f c, if_neg c, cond_f, iLe_t (by omega), iLe_t (by omega), iLe_t (by omega)]
      rw [show ((q : Int)).toNat = q from rfl, show ((q : Int) + n).toNat - q = n.toNat by omega, show (q : Int) + n = ((q + n.toNat : Nat) : Int) by omega]
      rfl
theorem c_iGetText {lf d : Nat} (hlf : 33554432 ≤ lf) {b : List T} (hb : byt b) (hl : b.length ≤ 1073741824) (p : Nat) (hp : p ≤ 1073741824) : Cc lf (d + 2) 223 [.sl b, .i .i64 (p : Int)] = some (getTR (rdS b (some p))) := by
  refine (f223_eq (Cc lf (d + 1)) lf b p).trans ?_
  unfold f223 f223_t
  rw [c_iGetNum hlf hb hl p hp]
  exact getText_aux hb hl p
theorem c_sGetText {lf d : Nat} (hlf : 33554432 ≤ lf) {b : List T} (hb : byt b) (hl : b.length ≤ 1073741824) (p : Nat) (hp : p ≤ 1073741824) : Cc lf (d + 2) 182 [.sl b, .i .i64 (p : Int)] = some (getTR (rdS b (some p))) := by
  refine (f182_eq (Cc lf (d + 1)) lf b p).trans ?_
  unfold f182 f182_t
  rw [c_sGetNum hlf hb hl p hp]
  exact getText_aux hb hl p
theorem c_iText {lf d : Nat} (hlf : 33554432 ≤ lf) {b : List T} (hb : byt b) (hl : b.length ≤ 1073741824) {s : Option Nat} {p : Int} {ok : Bool} (h : RI b s p ok) :
    ∃ p' ok', Cc lf (d + 3) 185 [.st [.sl b, .i .i64 p, .b ok]] = some [.s (rdS b s).1, .st [.sl b, .i .i64 p', .b ok']] ∧ RI b (rdS b s).2 p' ok' := by
  have E := f185_eq (Cc lf (d + 2)) lf b p ok
  unfold f185 f185_t at E
  obtain ⟨rfl, h2⟩ := h
  cases s with
  | none => exact ⟨p, false, E, rfl, fun q hq => by cases hq⟩
  | some q =>
    obtain ⟨rfl, hq⟩ := h2 q rfl
    rw [c_iGetText hlf hb hl q (by omega)] at E
    have hn := @rdS_next b hb (some q)
    have hs : (rdS b (some q)).2 = none → (rdS b (some q)).1 = ⟨#[]⟩ := by
      intro h
      unfold rdS at h ⊢
      split
      · rename_i n q' e
        rw [e] at h
        simp only at h
        split at h
        · rename_i c; rw [if_pos c]
        · cases h
      · rfl
    generalize rdS b (some q) = r at *
    obtain ⟨s, q2⟩ := r
    cases q2 with
    | none =>
      have := hs rfl
      simp only at this
      subst this
      exact ⟨0, false, E, rfl, fun q hq => by cases hq⟩
    | some q2 => exact ⟨q2, true, E, rfl, fun q hq => by cases hq; obtain ⟨_, _, _, h⟩ := hn rfl; exact ⟨rfl, h⟩⟩
theorem c_sText {lf d : Nat} (hlf : 33554432 ≤ lf) {b : List T} (hb : byt b) (hl : b.length ≤ 1073741824) {s : Option Nat} {p : Int} {bad : Bool} (h : RS b s p bad) :
    ∃ p' bad', Cc lf (d + 3) 132 [.st [.sl b, .i .i64 p, .b bad]] = some [.s (rdS b s).1, .st [.sl b, .i .i64 p', .b bad']] ∧ RS b (rdS b s).2 p' bad' := by
  have E := f132_eq (Cc lf (d + 2)) lf b p bad
  unfold f132 f132_t at E
  obtain ⟨rfl, h2, q0, rfl, hq0⟩ := h
  rw [c_sGetText hlf hb hl q0 (by omega)] at E
  cases s with
  | none => exact ⟨q0, true, E, rfl, (fun q hq => by cases hq), q0, rfl, hq0⟩
  | some q =>
    have e0 : q0 = q := by have := h2 q rfl; omega
    subst e0
    have hn := @rdS_next b hb (some q0)
    have hs : (rdS b (some q0)).2 = none → (rdS b (some q0)).1 = ⟨#[]⟩ := by
      intro h
      unfold rdS at h ⊢
      split
      · rename_i n q' e
        rw [e] at h
        simp only at h
        split at h
        · rename_i c; rw [if_pos c]
        · cases h
      · rfl
    generalize rdS b (some q0) = r at *
    obtain ⟨s, q2⟩ := r
    cases q2 with
    | none =>
      have := hs rfl
      simp only at this
      subst this
      exact ⟨q0, true, E, rfl, (fun q hq => by cases hq), q0, rfl, hq0⟩
    | some q2 => exact ⟨q2, false, E, rfl, (fun q hq => by cases hq; rfl), q2, rfl, by obtain ⟨_, _, _, h⟩ := hn rfl; exact h⟩
theorem c_sCrc {lf d : Nat} (hlf : 33554432 ≤ lf) {b : List T} (hb : byt b) (hl : b.length ≤ 16777216) : Cc lf (d + 1) 133 [.sl b] = some [.i .i64 (crcN b : Nat)] := by
  refine (f133_eq (Cc lf d) lf b).trans ?_
  unfold f133 f133_t
  dsimp only
  have In : ∀ (x j : Nat), x < 4294967296 → f133_1 (Cc lf d) lf b j lf x 0 = some [T.i .i64 0, T.sl b, T.i .i64 (r8 x : Nat), T.i .i64 (j : Int)] := fun x j hx => by
    have := (fold_loop (S := Nat) (F := fun n s k => f133_1 (Cc lf d) lf b j n s k) (g := fun s _ => r1 s) (I := fun s _ => s < 4294967296) (Y := fun s => some [T.i .i64 0, T.sl b, T.i .i64 (s : Int), T.i .i64 (j : Int)]) (len := 8) (fun n s k hk hs => by
      rw [f133_1_u]
      unfold f133_1_s
      rw [iLt_t (by omega), and7 (by omega) (by omega), shr1_64, show (2197175160 : Int) = ((2197175160 : Nat) : Int) from rfl, xor64 (by omega) (by omega), wrap_in (x := (k : Int) + 1) (by omega) (by omega)]
      unfold r1
      by_cases c : s % 2 = 1
      · rw [if_pos c, show ((s : Int) % 2 == 1) = true by simp only [beq_iff_eq]; omega]; rfl
      · rw [if_neg c, show ((s : Int) % 2 == 1) = false by simp only [beq_eq_false_iff_ne, ne_eq]; omega]; rfl) (fun s k hk hs => r1_lt hs) (fun n s hs => by
      rw [f133_1_u]
      unfold f133_1_s
      rw [iLt_f (by omega)]
      rfl) (n := lf) (by omega) (s := x) hx).1
    exact this
  have L := (fold_loop (S := Nat) (F := fun n s j => f133_0 (Cc lf d) lf n b s j) (g := fun s j => r8 (s ^^^ (asI (b.getD j .u)).toNat)) (I := fun s _ => s < 4294967296) (Y := fun s => some [T.i .i64 0, T.i .i64 (s : Int)]) (len := b.length) (fun n s j hj hs => by
    have hB := byte_lt hb j
    rw [f133_0_u]
    unfold f133_0_s
    obtain ⟨v, hv⟩ := Int.eq_ofNat_of_zero_le hB.1
    rw [iLt_t (by omega), inR_nat hj, Int.toNat_natCast, hv, wrap_in (x := (v : Int)) (by omega) (by omega), xor64 hs (by omega)]
    dsimp only
    rw [In _ j (xor_lt hs (by omega))]
    simp only [cond_t, Option.bind_some, nth0, nthS, asI_i, asL_l]
    rw [wrap_in (x := (j : Int) + 1) (by omega) (by omega)]
    rfl) (fun s j hj hs => by
      have hB := byte_lt hb j
      exact r8_lt (xor_lt hs (by omega))) (fun n s hs => by
    rw [f133_0_u]
    unfold f133_0_s
    rw [iLt_f (by omega)]
    rfl) (n := lf) (by omega) (s := 4294967295) (by omega)).1
  rw [show ((4294967295 : Nat) : Int) = 4294967295 from rfl] at L
  rw [L]
  simp only [Option.bind_some, nth0, nthS, asI_i]
  have e : foldN (fun s j => r8 (s ^^^ (asI (b.getD j .u)).toNat)) 4294967295 b.length = crcS b b.length := rfl
  rw [e, show (4294967295 : Int) = ((4294967295 : Nat) : Int) from rfl, xor64 (crcS_lt hb b.length) (by omega)]
  rfl
theorem c_iCrc {lf d : Nat} (hlf : 33554432 ≤ lf) {b : List T} (hb : byt b) (hl : b.length ≤ 16777216) : Cc lf (d + 1) 146 [.sl b] = some [.i .i64 (crcN b : Nat)] := by
  refine (f146_eq (Cc lf d) lf b).trans ?_
  unfold f146 f146_t
  dsimp only
  have In : ∀ (x j : Nat), x < 4294967296 → f146_1 (Cc lf d) lf b (b.length : Int) j lf x 0 = some [T.i .i64 0, T.i .u32 (r8 x : Nat), T.sl b, T.i .i64 (b.length : Int), T.i .i64 (j : Int)] := fun x j hx => by
    have := (fold_loop (S := Nat) (F := fun n s k => f146_1 (Cc lf d) lf b (b.length : Int) j n s k) (g := fun s _ => r1 s) (I := fun s _ => s < 4294967296) (Y := fun s => some [T.i .i64 0, T.i .u32 (s : Int), T.sl b, T.i .i64 (b.length : Int), T.i .i64 (j : Int)]) (len := 8) (fun n s k hk hs => by
      rw [f146_1_u]
      unfold f146_1_s
      rw [iLt_t (by omega), and32 hs, shr1_32, show (2197175160 : Int) = ((2197175160 : Nat) : Int) from rfl, xor32 (by omega) (by omega), wrap_in (x := (k : Int) + 1) (by omega) (by omega)]
      unfold r1
      by_cases c : s % 2 = 1
      · rw [if_pos c, show (((s % 2 : Nat) : Int) == 1) = true by simp only [beq_iff_eq]; omega]; rfl
      · rw [if_neg c, show (((s % 2 : Nat) : Int) == 1) = false by simp only [beq_eq_false_iff_ne, ne_eq]; omega]; rfl) (fun s k hk hs => r1_lt hs) (fun n s hs => by
      rw [f146_1_u]
      unfold f146_1_s
      rw [iLt_f (by omega)]
      rfl) (n := lf) (by omega) (s := x) hx).1
    exact this
  have L := (fold_loop (S := Nat) (F := fun n s j => f146_0 (Cc lf d) lf n s b (b.length : Int) j) (g := fun s j => r8 (s ^^^ (asI (b.getD j .u)).toNat)) (I := fun s _ => s < 4294967296) (Y := fun s => some [T.i .i64 0, T.i .u32 (s : Int)]) (len := b.length) (fun n s j hj hs => by
    have hB := byte_lt hb j
    rw [f146_0_u]
    unfold f146_0_s
    obtain ⟨v, hv⟩ := Int.eq_ofNat_of_zero_le hB.1
    rw [iLt_t (by omega), inR_nat hj, Int.toNat_natCast, hv, wrap32 (x := (v : Int)) (by omega) (by omega), xor32 hs (by omega)]
    dsimp only
    rw [In _ j (xor_lt hs (by omega))]
    simp only [cond_t, Option.bind_some, nth0, nthS, asI_i, asL_l]
    rw [wrap_in (x := (j : Int) + 1) (by omega) (by omega)]
    rfl) (fun s j hj hs => by
      have hB := byte_lt hb j
      exact r8_lt (xor_lt hs (by omega))) (fun n s hs => by
    rw [f146_0_u]
    unfold f146_0_s
    rw [iLt_f (by omega)]
    rfl) (n := lf) (by omega) (s := 4294967295) (by omega)).1
  rw [show ((4294967295 : Nat) : Int) = 4294967295 from rfl] at L
  rw [L]
  simp only [Option.bind_some, nth0, nthS, asI_i]
  have hc := crcN_lt hb
  have e : foldN (fun s j => r8 (s ^^^ (asI (b.getD j .u)).toNat)) 4294967295 b.length = crcS b b.length := rfl
  rw [e, show (4294967295 : Int) = ((4294967295 : Nat) : Int) from rfl, xor32 (show 4294967295 < 4294967296 by omega) (crcS_lt hb b.length), Nat.xor_comm, show crcS b b.length ^^^ 4294967295 = crcN b from rfl, wrap_in (by omega) (by omega)]
def recB (k s : Int) (body : List T) : Bool := (iLe 1 k && iLe k 4) && ((iLe 0 s && iLe s 1000000) && iLe (body.length : Int) 380)
def recHead (x : List T) (s : Option Nat) : (Int × Int × ByteArray) × Option Nat := (((rd x s).1, (rd x (rd x s).2).1, (rdS x (rd x (rd x s).2).2).1), (rdS x (rd x (rd x s).2).2).2)
/-- The record that bytes are. -/
def getRecB (b : List T) : Option (Int × Int × List T) :=
  if b.length < 4 then none else
    bif sealB b && ((recHead (b.take (b.length - 4)) (some 0)).2 == some (b.length - 4) && recB (recHead (b.take (b.length - 4)) (some 0)).1.1 (recHead (b.take (b.length - 4)) (some 0)).1.2.1 (listOf (recHead (b.take (b.length - 4)) (some 0)).1.2.2)) then
      some ((recHead (b.take (b.length - 4)) (some 0)).1.1, (recHead (b.take (b.length - 4)) (some 0)).1.2.1, listOf (recHead (b.take (b.length - 4)) (some 0)).1.2.2) else none
def recT : Option (Int × Int × List T) → T
  | some (k, s, d) => .st [.i .i64 k, .i .i64 s, .sl d]
  | none => .st [.i .i64 0, .i .i64 0, .sl []]
def getRecR (r : Option (Int × Int × List T)) : List T := [recT r, .b r.isSome]
theorem c_iRecOk {lf d : Nat} (k s : Int) (body : List T) : Cc lf (d + 2) 89 [.st [.i .i64 k, .i .i64 s, .sl body]] = some [.b (recB k s body)] := by
  refine (f89_eq (Cc lf (d + 1)) lf k s body).trans ?_
  unfold f89 f89_t
  simp only [c_from, Option.bind_some, nth0, asB_b, cond_st]
  unfold recB
  cases (iLe 1 k && iLe k 4) <;> cases (iLe 0 s && iLe s 1000000) <;> rfl
theorem c_sRecOk {lf d : Nat} (k s : Int) (body : List T) : Cc lf (d + 2) 103 [.st [.i .i64 k, .i .i64 s, .sl body]] = some [.b (recB k s body)] := by
  refine (f103_eq (Cc lf (d + 1)) lf k s body).trans ?_
  unfold f103 f103_t
  simp only [c_l1In, Option.bind_some, nth0, asB_b, cond_st]
  unfold recB
  cases (iLe 1 k && iLe k 4) <;> cases (iLe 0 s && iLe s 1000000) <;> rfl
theorem c_sealed {lf d : Nat} (hlf : 33554432 ≤ lf) {b : List T} (hb : byt b) (hl : b.length ≤ 16777216) : Cc lf (d + 2) 91 [.sl b] = some [.sl (b ++ four (crcN b))] := by
  refine (f91_eq (Cc lf (d + 1)) lf b).trans ?_
  unfold f91 f91_t
  rw [c_iCrc hlf hb hl]
  simp only [Option.bind_some, nth0, asI_i]
  rw [c_clone (by omega), four_sh (crcN_lt hb)]
  simp only [Option.bind_some, nth0, asL_l]
  rw [nLe_t (by unfold LIM four; simp; omega)]
  rfl
theorem c_opened {lf d : Nat} (hlf : 33554432 ≤ lf) {b : List T} (hb : byt b) (hl : b.length ≤ 16777216) : Cc lf (d + 3) 183 [.sl b] = some (if b.length < 4 then [.sl [], .b false] else bif sealB b then [.sl (b.take (b.length - 4)), .b true] else [.sl [], .b false]) := by
  refine (f183_eq (Cc lf (d + 2)) lf b).trans ?_
  unfold f183 f183_t
  rw [wrap_in (by omega) (by omega)]
  by_cases h : b.length < 4
  · rw [iLt_t (by omega), if_pos h]; rfl
  · rw [iLt_f (by omega), if_neg h, cond_f, iLe_t (by omega), iLe_t (by omega), show ((b.length : Int) - 4).toNat = b.length - 4 by omega, c_sealed hlf (byt_take hb _) (by simp; omega)]
    simp only [Bool.and_self, cond_t, Option.bind_some, nth0, asL_l, seal_iff hb (show 4 ≤ b.length by omega)]
    cases sealB b <;> rfl
theorem c_iGetRec {lf d : Nat} (hlf : 33554432 ≤ lf) {b : List T} (hb : byt b) (hl : b.length ≤ 16777216) : Cc lf (d + 4) 135 [.sl b] = some (getRecR (getRecB b)) := by
  refine (f135_eq (Cc lf (d + 3)) lf b).trans ?_
  unfold f135 f135_t
  rw [c_opened hlf hb hl]
  -- what is opened: x; at the place s
  have go : ∀ (x : List T) (s : Option Nat) (ok : Bool), byt x → x.length ≤ 16777216 → RI x s 0 ok →
      ((Cc lf (d + 3) 184 [.st [.sl x, .i .i64 0, .b ok]]).bind fun r2 =>
        (Cc lf (d + 3) 184 [.st [.sl x, .i .i64 (asI (T.cell (nth r2 1) 1)), .b (asB (T.cell (nth r2 1) 2))]]).bind fun r3 =>
        (Cc lf (d + 3) 185 [.st [.sl x, .i .i64 (asI (T.cell (nth r3 1) 1)), .b (asB (T.cell (nth r3 1) 2))]]).bind fun r4 =>
        bif nLe (asS (nth r4 0)).size LIM then
        (Cc lf (d + 3) 186 [.st [.sl x, .i .i64 (asI (T.cell (nth r4 1) 1)), .b (asB (T.cell (nth r4 1) 2))]]).bind fun r5 =>
        bif !(asB (nth r5 0)) then
          some [T.st [T.i .i64 0, T.i .i64 0, T.sl []], T.b false]
        else
          (Cc lf (d + 3) 89 [.st [.i .i64 (asI (nth r2 0)), .i .i64 (asI (nth r3 0)), .sl (listOf (asS (nth r4 0)))]]).bind fun r6 =>
          bif !(asB (nth r6 0)) then
            some [T.st [T.i .i64 0, T.i .i64 0, T.sl []], T.b false]
          else
            some [T.st [T.i .i64 (asI (nth r2 0)), T.i .i64 (asI (nth r3 0)), T.sl (listOf (asS (nth r4 0)))], T.b true]
        else none) = some (getRecR (bif (recHead x s).2 == some x.length && recB (recHead x s).1.1 (recHead x s).1.2.1 (listOf (recHead x s).1.2.2) then some ((recHead x s).1.1, (recHead x s).1.2.1, listOf (recHead x s).1.2.2) else none)) := by
    intro x s ok hx hxl R0
    obtain ⟨p1, ok1, e1, R1⟩ := c_iNum (d := d + 1) hlf hx (by omega) R0
    obtain ⟨p2, ok2, e2, R2⟩ := c_iNum (d := d + 1) hlf hx (by omega) R1
    obtain ⟨p3, ok3, e3, R3⟩ := c_iText (d := d) hlf hx (by omega) R2
    obtain ⟨t, e4⟩ := c_iDone (lf := lf) (d := d + 2) R3
    have hd := rdS_len hx (rd x (rd x s).2).2
    rw [e1]
    simp only [Option.bind_some, nth0, nthS, asI_i, asB_b, cell0, cellS]
    rw [e2]
    simp only [Option.bind_some, nth0, nthS, asI_i, asB_b, cell0, cellS]
    rw [e3]
    simp only [Option.bind_some, nth0, nthS, asI_i, asB_b, asS_s, cell0, cellS]
    rw [nLe_t (show (rdS x (rd x (rd x s).2).2).1.size ≤ LIM by unfold LIM; omega), cond_t, e4]
    simp only [Option.bind_some, nth0, asB_b]
    rw [c_iRecOk]
    simp only [Option.bind_some, nth0, asB_b]
    unfold recHead
    simp only
    cases (rdS x (rd x (rd x s).2).2).2 == some x.length with
    | false => rfl
    | true => cases recB (rd x s).1 (rd x (rd x s).2).1 (listOf (rdS x (rd x (rd x s).2).2).1) <;> rfl
  unfold getRecB
  by_cases h : b.length < 4
  · rw [if_pos h, if_pos h]
    simp only [Option.bind_some, nth0, nthS, asL_l, asB_b]
    exact go [] none false byt_nil (Nat.zero_le _) ⟨rfl, fun q hq => by cases hq⟩
  · rw [if_neg h, if_neg h]
    cases sealB b with
    | false =>
      simp only [cond_f, Option.bind_some, nth0, nthS, asL_l, asB_b]
      exact go [] none false byt_nil (Nat.zero_le _) ⟨rfl, fun q hq => by cases hq⟩
    | true =>
      simp only [cond_t, Option.bind_some, nth0, nthS, asL_l, asB_b]
      have hlen : (b.take (b.length - 4)).length = b.length - 4 := by rw [List.length_take]; omega
      have := go (b.take (b.length - 4)) (some 0) true (byt_take hb _) (by omega) ⟨rfl, fun q hq => by cases hq; exact ⟨rfl, Nat.zero_le _⟩⟩
      rw [hlen] at this
      exact this
theorem c_sGetRec {lf d : Nat} (hlf : 33554432 ≤ lf) {b : List T} (hb : byt b) (hl : b.length ≤ 16777216) : Cc lf (d + 4) 80 [.sl b] = some (getRecR (getRecB b)) := by
  refine (f80_eq (Cc lf (d + 3)) lf b).trans ?_
  unfold f80 f80_t
  dsimp only
  rw [wrap_in (by omega) (by omega)]
  unfold getRecB
  by_cases h : b.length < 4
  · rw [iLt_t (by omega), if_pos h]; rfl
  · rw [iLt_f (by omega), if_neg h, cond_f]
    obtain ⟨n, hn⟩ : ∃ n, n = b.length - 4 := ⟨_, rfl⟩
    have hlb : b.length = n + 4 := by omega
    have hB : ∀ j, 0 ≤ asI (b.getD j .u) ∧ asI (b.getD j .u) < 256 := byte_lt hb
    have S : ∀ (m k : Nat) (x : Int), k < b.length → 0 ≤ x → x < 16777216 → f80_0 (Cc lf (d + 3)) lf b (m + 1) x k = f80_0 (Cc lf (d + 3)) lf b m (x * 256 + asI (b.getD k .u)) ((k + 1 : Nat) : Int) := fun m k x hk h0 h1 => by
      have hv := hB k
      rw [f80_0_u]
      unfold f80_0_s
      rw [iLt_t (by omega), inR_nat hk, Int.toNat_natCast, wrap_in (x := asI (b.getD k .u)) (by omega) (by omega), show (8 : Int) = ((8 : Nat) : Int) from rfl, shl_mul (by omega) h0 (by omega)]
      have hor : intBits .or .i64 (x * ((2 ^ 8 : Nat) : Int)) (asI (b.getD k .u)) = x * 256 + asI (b.getD k .u) := by
        have := or_add (a := asI (b.getD k .u)) (b := x) (k := 8) (by omega) (by omega) h0 (by omega) (by omega)
        have hcomm : intBits .or .i64 (x * ((2 ^ 8 : Nat) : Int)) (asI (b.getD k .u)) = intBits .or .i64 (asI (b.getD k .u)) (x * ((2 ^ 8 : Nat) : Int)) := by
          show IntKind.wrap .i64 (((BitVec.ofInt 64 _ ||| BitVec.ofInt 64 _).toNat : Nat) : Int) = IntKind.wrap .i64 (((BitVec.ofInt 64 _ ||| BitVec.ofInt 64 _).toNat : Nat) : Int)
          rw [BitVec.or_comm]
        rw [hcomm, this]
        omega
      rw [hor, wrap_in (x := (k : Int) + 1) (by omega) (by omega)]
      rfl
    have L : f80_0 (Cc lf (d + 3)) lf b lf 0 (n : Int) = some [T.i .i64 0, T.sl b, T.i .i64 (n : Int), T.i .i64 (be4 b n), T.i .i64 0, T.i .i64 0, T.sl ([] : List T)] := by
      obtain ⟨m, rfl⟩ : ∃ m, lf = m + 5 := ⟨lf - 5, by omega⟩
      have v0 := hB n
      have v1 := hB (n + 1)
      have v2 := hB (n + 2)
      have v3 := hB (n + 3)
      have v2' := hB (n + 1 + 1)
      have v3' := hB (n + 1 + 1 + 1)
      rw [S _ n 0 (by omega) (by omega) (by omega), S _ (n + 1) _ (by omega) (by omega) (by omega), S _ (n + 1 + 1) _ (by omega) (by omega) (by omega), S _ (n + 1 + 1 + 1) _ (by omega) (by omega) (by omega), f80_0_u]
      unfold f80_0_s
      rw [iLt_f (by omega), wrap_in (x := (b.length : Int) - 4) (by omega) (by omega)]
      unfold be4
      rw [cond_f, show (b.length : Int) - 4 = (n : Int) by omega, Int.zero_mul, Int.zero_add]
    rw [show (b.length : Int) - 4 = (n : Int) by omega, L]
    simp only [Option.bind_some, nth0, nthS, asI_i, asL_l, Int.toNat_natCast]
    rw [iLe_t (by omega), iLe_t (by omega), Bool.and_self, cond_t]
    have hx := byt_take hb n
    have hlen : (b.take n).length = n := by rw [List.length_take]; omega
    have hbe : sealB b = (be4 b n == ((crcN (b.take n) : Nat) : Int)) := by unfold sealB; rw [← hn]
    obtain ⟨p1, ok1, e1, R1⟩ := c_sNum (d := d + 1) (s := some 0) (p := 0) (bad := false) hlf hx (by omega) ⟨rfl, (fun q hq => by cases hq; rfl), 0, rfl, Nat.zero_le _⟩
    obtain ⟨p2, ok2, e2, R2⟩ := c_sNum (d := d + 1) hlf hx (by omega) R1
    obtain ⟨p3, ok3, e3, R3⟩ := c_sText (d := d) hlf hx (by omega) R2
    have hd := rdS_len hx (rd (b.take n) (rd (b.take n) (some 0)).2).2
    rw [e1]
    simp only [Option.bind_some, nth0, nthS, asI_i, asB_b, cell0, cellS]
    rw [e2]
    simp only [Option.bind_some, nth0, nthS, asI_i, asB_b, cell0, cellS]
    rw [e3]
    simp only [Option.bind_some, nth0, nthS, asI_i, asB_b, asS_s, cell0, cellS]
    rw [nLe_t (show (rdS (b.take n) (rd (b.take n) (rd (b.take n) (some 0)).2).2).1.size ≤ LIM by unfold LIM; omega), cond_t]
    have fin := RS_fin R3 (α := Option (List T))
    rw [hlen] at fin
    rw [fin, c_sCrc hlf hx (by omega)]
    simp only [Option.bind_some, nth0, asI_i]
    rw [c_sRecOk]
    simp only [Option.bind_some, nth0, asB_b]
    rw [hbe, ← hn]
    unfold recHead
    simp only
    cases (rdS (b.take n) (rd (b.take n) (rd (b.take n) (some 0)).2).2).2 == some n with
    | false => rw [Bool.false_and, Bool.and_false]; rfl
    | true =>
      simp only [bne]
      cases be4 b n == ((crcN (b.take n) : Nat) : Int) with
      | false => rfl
      | true =>
        cases recB (rd (b.take n) (some 0)).1 (rd (b.take n) (rd (b.take n) (some 0)).2).1 (listOf (rdS (b.take n) (rd (b.take n) (rd (b.take n) (some 0)).2).2).1) <;> rfl
def pageU (ps : List T) (j : Nat) : Bool := asB (T.cell (ps.getD j T.u) 0)
/-- How many pages of a block are written. -/
def usedN (ps : List T) : Nat := cntB (pageU ps) ps.length
theorem usedN_le (ps : List T) : usedN ps ≤ ps.length := cntB_le _ _
theorem cellL_le {l : List T} {j : Nat} (k : Nat) : (asL (T.cell (l.getD j T.u) k)).length + tls (asL (T.cell (l.getD j T.u) k)) ≤ tls l := by
  by_cases h : j < l.length
  · have h1 := tl_mem (List.getElem_mem h)
    rw [List.getD_eq_getElem?_getD, List.getElem?_eq_getElem h]
    show (asL (T.cell l[j] k)).length + tls (asL (T.cell l[j] k)) ≤ _
    cases e : l[j] <;> try (simp only [T.cell, asL, tls]; exact Nat.zero_le _)
    rename_i xs
    rw [e] at h1
    simp only [T.cell, tl] at h1 ⊢
    cases e2 : xs[k]? with
    | none => rw [List.getD_eq_getElem?_getD, e2]; exact Nat.zero_le _
    | some x =>
      rw [List.getD_eq_getElem?_getD, e2]
      have h3 := tl_mem (List.mem_of_getElem? e2)
      show (asL x).length + tls (asL x) ≤ _
      cases x <;> try (exact Nat.zero_le _)
      simp only [tl, asL] at h3 ⊢
      omega
  · rw [List.getD_eq_getElem?_getD, List.getElem?_eq_none (by omega)]
    exact Nat.zero_le _
theorem c_isBlock {lf d : Nat} (l : List T) (n : Int) (hs : l.length ≤ 16777216) : Cc lf (d + 2) 94 [.st [.sl l], .i .i64 n] = some [.b (iLe 0 n && iLt n (l.length : Int))] := by
  refine (f94_eq (Cc lf (d + 1)) lf l n).trans ?_
  unfold f94 f94_t
  rw [wrap_in (by omega) (by omega), c_from]
  have : iLe n ((l.length : Int) - 1) = iLt n (l.length : Int) := by
    by_cases h : n < (l.length : Int)
    · rw [iLt_t h, iLe_t (by omega)]
    · rw [iLt_f h, iLe_f (by omega)]
  rw [this]
  rfl
theorem wf64_in {n : Int} (h : (Lit.int .i64 n).wf = true) : -9223372036854775808 ≤ n ∧ n ≤ 9223372036854775807 := by
  have h1 : (decide (-9223372036854775808 ≤ n) && decide (n ≤ 9223372036854775807)) = true := h
  rw [Bool.and_eq_true] at h1
  exact ⟨of_decide_eq_true h1.1, of_decide_eq_true h1.2⟩
def pgs (l : List T) (n1 : Int) : List T := asL (T.cell (l.getD n1.toNat T.u) 0)
def pgb (l : List T) (n1 n2 : Int) : List T := asL (T.cell ((pgs l n1).getD n2.toNat T.u) 1)
/-- Is this page there, and written? -/
def pgB (l : List T) (n1 n2 : Int) : Bool := (iLe 0 n1 && iLt n1 (l.length : Int)) && ((iLe 0 n2 && iLt n2 ((pgs l n1).length : Int)) && asB (T.cell ((pgs l n1).getD n2.toNat T.u) 0))
def pgR (l : List T) (n1 n2 : Int) : List T := bif pgB l n1 n2 then pgb l n1 n2 else []
theorem pgb_len (l : List T) (n1 n2 : Int) : (pgb l n1 n2).length ≤ tls l := by
  have h1 := cellL_le (l := l) (j := n1.toNat) 0
  have h2 := cellL_le (l := pgs l n1) (j := n2.toNat) 1
  unfold pgb
  have : (pgs l n1).length + tls (pgs l n1) ≤ tls l := h1
  omega
theorem inR_le {n : Int} {k : Nat} (h0 : 0 ≤ n) (h1 : n < k) : inR n k = true := by
  obtain ⟨m, rfl⟩ := Int.eq_ofNat_of_zero_le h0
  exact inR_nat (by omega)
theorem c_sReadPage {lf d : Nat} (l : List T) (n1 n2 : Int) (hs : l.length + tls l ≤ 16777216) : Cc lf (d + 1) 79 [.st [.sl l], .i .i64 n1, .i .i64 n2] = some [.sl (pgR l n1 n2), .b (pgB l n1 n2)] := by
  refine (f79_eq (Cc lf d) lf l n1 n2).trans ?_
  unfold f79 f79_t pgR pgB
  have hp := pgb_len l n1 n2
  unfold pgb at hp ⊢
  unfold pgs at hp ⊢
  by_cases h1 : n1 < 0
  · rw [iLt_t h1, iLe_f (show ¬ 0 ≤ n1 by omega)]; rfl
  rw [iLt_f h1, iLe_t (show 0 ≤ n1 by omega)]
  by_cases h2 : (l.length : Int) ≤ n1
  · rw [iLe_t h2, iLt_f (show ¬ n1 < (l.length : Int) by omega)]; rfl
  rw [iLe_f (show ¬ (l.length : Int) ≤ n1 by omega), iLt_t (show n1 < (l.length : Int) by omega)]
  by_cases h3 : n2 < 0
  · rw [iLt_t h3, iLe_f (show ¬ 0 ≤ n2 by omega)]; rfl
  rw [iLt_f h3, iLe_t (show 0 ≤ n2 by omega), inR_le (by omega) (by omega)]
  simp only [cond_f, cond_t]
  by_cases h4 : ((asL (T.cell (l.getD n1.toNat T.u) 0)).length : Int) ≤ n2
  · rw [iLe_t h4, iLt_f (by omega)]; rfl
  rw [iLe_f h4, iLt_t (by omega), inR_le (by omega) (by omega), nLe_t (by unfold LIM; simp only [List.length_nil]; omega)]
  cases asB (T.cell ((asL (T.cell (l.getD n1.toNat T.u) 0)).getD n2.toNat T.u) 0) <;> rfl
theorem c_iReadPage {lf d : Nat} (l : List T) (n1 n2 : Int) (hs : l.length + tls l ≤ 16777216) : Cc lf (d + 3) 134 [.st [.sl l], .i .i64 n1, .i .i64 n2] = some [.sl (pgR l n1 n2), .b (pgB l n1 n2)] := by
  refine (f134_eq (Cc lf (d + 2)) lf l n1 n2).trans ?_
  unfold f134 f134_t pgR pgB
  have hp := pgb_len l n1 n2
  have hq := cellL_le (l := l) (j := n1.toNat) 0
  unfold pgb at hp ⊢
  unfold pgs at hp ⊢
  rw [c_isBlock l n1 (by omega)]
  simp only [Option.bind_some, nth0, asB_b]
  by_cases h1 : n1 < 0
  · rw [iLe_f (show ¬ 0 ≤ n1 by omega)]; rfl
  rw [iLe_t (show 0 ≤ n1 by omega)]
  by_cases h2 : (l.length : Int) ≤ n1
  · rw [iLt_f (by omega)]; rfl
  rw [iLt_t (by omega), inR_le (by omega) (by omega), wrap_in (by omega) (by omega), c_from]
  simp only [cond_f, cond_t, Bool.and_self, Bool.not_true, Option.bind_some, nth0, asB_b]
  by_cases h3 : n2 < 0
  · rw [iLe_f (show ¬ 0 ≤ n2 by omega)]; rfl
  rw [iLe_t (show 0 ≤ n2 by omega)]
  by_cases h4 : ((asL (T.cell (l.getD n1.toNat T.u) 0)).length : Int) ≤ n2
  · rw [iLe_f (by omega), iLt_f (by omega)]; rfl
  rw [iLe_t (by omega), iLt_t (by omega), inR_le (by omega) (by omega)]
  cases asB (T.cell ((asL (T.cell (l.getD n1.toNat T.u) 0)).getD n2.toNat T.u) 0) with
  | false => rfl
  | true =>
    rw [c_clone (by omega)]
    rfl
/-- The record at an address. -/
def recA (l : List T) (a : Int) : Option (Int × Int × List T) := bif !iLt a 0 then getRecB (pgR l (a.tdiv 8) (a.tmod 8)) else none
def pgsByt (l : List T) : Prop := ∀ n1 n2, byt (pgb l n1 n2)
theorem pgR_byt {l : List T} (h : pgsByt l) (n1 n2 : Int) : byt (pgR l n1 n2) := by
  unfold pgR
  cases pgB l n1 n2
  · exact byt_nil
  · exact h n1 n2
theorem pgR_len (l : List T) (n1 n2 : Int) : (pgR l n1 n2).length ≤ tls l := by
  unfold pgR
  cases pgB l n1 n2
  · exact Nat.zero_le _
  · exact pgb_len l n1 n2
theorem pgR_no {l : List T} {n1 n2 : Int} (h : pgB l n1 n2 = false) : getRecB (pgR l n1 n2) = none := by
  unfold pgR
  rw [h]
  rfl
theorem wrap_div {a : Int} (h : (Lit.int .i64 a).wf = true) (h0 : 0 ≤ a) : IntKind.wrap .i64 (a.tdiv 8) = a.tdiv 8 := by
  have h2 : a ≤ 9223372036854775807 := (wf64_in h).2
  have : 0 ≤ a.tdiv 8 := Int.tdiv_nonneg h0 (by omega)
  have : a.tdiv 8 ≤ a := Int.tdiv_le_self _ h0
  exact wrap_in (by omega) (by omega)
theorem c_recAt {lf d : Nat} (hlf : 33554432 ≤ lf) (l : List T) (ops : Int) (fs : List T) (dn : Bool) (sq a : Int) (ha : (Lit.int .i64 a).wf = true) (hb : pgsByt l) (hs : l.length + tls l ≤ 16777216) : Cc lf (d + 5) 81 [.st [.sl l, .i .i64 ops, .sl fs, .b dn, .i .i64 sq], .i .i64 a] = some (getRecR (recA l a)) := by
  refine (f81_eq (Cc lf (d + 4)) lf l ops fs dn sq a).trans ?_
  unfold f81 f81_t recA
  by_cases h : a < 0
  · rw [iLt_t h]; rfl
  rw [iLt_f h, wrap_div ha (by omega), c_iReadPage (d := d + 1) l _ _ hs]
  simp only [cond_f, cond_t, Bool.not_false, Option.bind_some, nth0, nthS, asL_l, asB_b]
  have hL := pgR_len l (a.tdiv 8) (a.tmod 8)
  cases h2 : pgB l (a.tdiv 8) (a.tmod 8) with
  | false => rw [pgR_no h2]; rfl
  | true =>
    rw [c_iGetRec hlf (pgR_byt hb _ _) (by omega)]
    cases getRecB (pgR l (a.tdiv 8) (a.tmod 8)) <;> rfl
def readAtR (l : List T) (a k : Int) : List T := match recA l a with
  | none => [recT none, .b false]
  | some r => bif r.1 == k then [recT (some r), .b true] else [recT none, .b false]
theorem c_iReadAt {lf d : Nat} (hlf : 33554432 ≤ lf) (l : List T) (ops : Int) (fs : List T) (dn : Bool) (sq a k : Int) (ha : (Lit.int .i64 a).wf = true) (hb : pgsByt l) (hs : l.length + tls l ≤ 16777216) : Cc lf (d + 6) 24 [.st [.sl l, .i .i64 ops, .sl fs, .b dn, .i .i64 sq], .i .i64 a, .i .i64 k] = some (readAtR l a k) := by
  refine (f24_eq (Cc lf (d + 5)) lf l ops fs dn sq a k).trans ?_
  unfold f24 f24_t readAtR
  rw [c_recAt hlf l ops fs dn sq a ha hb hs]
  cases recA l a with
  | none => rfl
  | some r =>
    show (bif (r.1 != k) then _ else _) = some (bif r.1 == k then _ else _)
    unfold bne
    cases r.1 == k <;> rfl
theorem c_sReadAt {lf d : Nat} (hlf : 33554432 ≤ lf) (l : List T) (ops : Int) (fs : List T) (dn : Bool) (sq a k : Int) (ha : (Lit.int .i64 a).wf = true) (hb : pgsByt l) (hs : l.length + tls l ≤ 16777216) : Cc lf (d + 5) 23 [.st [.sl l, .i .i64 ops, .sl fs, .b dn, .i .i64 sq], .i .i64 a, .i .i64 k] = some (readAtR l a k) := by
  refine (f23_eq (Cc lf (d + 4)) lf l ops fs dn sq a k).trans ?_
  unfold f23 f23_t readAtR recA
  by_cases h : a < 0
  · rw [iLt_t h]; rfl
  have hL := pgR_len l (a.tdiv 8) (a.tmod 8)
  rw [iLt_f h, wrap_div ha (by omega), c_sReadPage (d := d + 3) l _ _ hs]
  simp only [cond_f, cond_t, Bool.not_false, Option.bind_some, nth0, nthS, asL_l, asB_b]
  rw [c_sGetRec hlf (pgR_byt hb _ _) (by omega)]
  cases h2 : pgB l (a.tdiv 8) (a.tmod 8) with
  | false => rw [pgR_no h2]; rfl
  | true =>
    cases getRecB (pgR l (a.tdiv 8) (a.tmod 8)) with
    | none => rfl
    | some r =>
      show (bif (r.1 != k) then _ else _) = some (bif r.1 == k then _ else _)
      unfold bne
      cases r.1 == k <;> rfl
def pageB (ps : List T) (j : Nat) : Bool := !iLt 400 ((asL (T.cell (ps.getD j T.u) 1)).length : Int) && ((pageU ps j || !iLt 0 ((asL (T.cell (ps.getD j T.u) 1)).length : Int)) && (!iLt 0 (j : Int) || (!pageU ps j || pageU ps (j - 1))))
def blockB (ps : List T) (w : Int) : Bool := ((ps.length : Int) == 8 && (iLe 0 w && iLe w 100000)) && allB (pageB ps) ps.length
def blocksB (l : List T) (j : Nat) : Bool := blockB (asL (T.cell (l.getD j T.u) 0)) (asI (T.cell (l.getD j T.u) 1))
def chipB (l : List T) : Bool := allB (blocksB l) l.length && (iLe 3 (l.length : Int) && iLe (l.length : Int) 24)
def faultB (l : List T) (j : Nat) : Bool :=
  (iLe 0 (asI (T.cell (l.getD j T.u) 0)) && iLe (asI (T.cell (l.getD j T.u) 0)) 100000) && ((iLe 1 (asI (T.cell (l.getD j T.u) 1)) && iLe (asI (T.cell (l.getD j T.u) 1)) 2) && ((iLe 0 (asI (T.cell (l.getD j T.u) 2)) && iLe (asI (T.cell (l.getD j T.u) 2)) 400) && (!iLt 0 (j : Int) || !iLe (asI (T.cell (l.getD j T.u) 0)) (asI (T.cell (l.getD (j - 1) T.u) 0)))))
def devB (l : List T) (ops : Int) (fs : List T) : Bool := allB (faultB fs) fs.length && (chipB l && ((iLe 0 ops && iLe ops 100000) && iLe (fs.length : Int) 20))
theorem foldN_and {P : Nat → Bool} (b : Bool) : ∀ n, foldN (fun s j => s && P j) b n = (b && allB P n)
  | 0 => by cases b <;> rfl
  | n + 1 => by
    show (foldN (fun s j => s && P j) b n && P n) = (b && (allB P n && P n))
    rw [foldN_and b n, Bool.and_assoc]
theorem foldN_le {g : Int → Nat → Int} {P : Nat → Prop} {q : Int} (h : ∀ s k, g s k ≤ q ↔ s ≤ q ∧ P k) (s : Int) : ∀ n, foldN g s n ≤ q ↔ s ≤ q ∧ ∀ k, k < n → P k
  | 0 => ⟨fun h => ⟨h, fun _ h => absurd h (Nat.not_lt_zero _)⟩, fun h => h.1⟩
  | n + 1 => by
    show g (foldN g s n) n ≤ q ↔ _
    rw [h, foldN_le h s n]
    constructor
    · rintro ⟨⟨h1, h2⟩, h3⟩
      refine ⟨h1, fun k hk => ?_⟩
      by_cases e : k = n
      · rw [e]; exact h3
      · exact h2 k (by omega)
    · rintro ⟨h1, h2⟩
      exact ⟨⟨h1, fun k hk => h2 k (by omega)⟩, h2 n (by omega)⟩
theorem getRecB_seq {b : List T} {r : Int × Int × List T} (h : getRecB b = some r) : recB r.1 r.2.1 r.2.2 = true := by
  unfold getRecB at h
  split at h
  · cases h
  · generalize sealB b = b1 at h
    generalize recHead (b.take (b.length - 4)) (some 0) = x at h
    generalize (x.2 == some (b.length - 4)) = b2 at h
    cases b1 <;> cases b2 <;> simp only [Bool.false_and, Bool.true_and, Bool.and_false, cond_f] at h
    · cases h
    · cases h
    · cases h
    · cases e : recB x.1.1 x.1.2.1 (listOf x.1.2.2) with
      | false => rw [e] at h; cases h
      | true =>
        rw [e] at h
        cases h
        exact e
theorem recB_in {k s : Int} {b : List T} (h : recB k s b = true) : (1 ≤ k ∧ k ≤ 4) ∧ (0 ≤ s ∧ s ≤ 1000000) ∧ b.length ≤ 380 := by
  unfold recB at h
  simp only [Bool.and_eq_true, iLe_iff] at h
  exact ⟨h.1, h.2.1, by omega⟩
def seqG (ps : List T) (s : Int) (k : Nat) : Int := match getRecB (asL (T.cell (ps.getD k T.u) 1)) with | some r => (bif iLe s r.2.1 then r.2.1 + 1 else s) | none => s
theorem seqG_in {ps : List T} {s : Int} {k : Nat} (h : 0 ≤ s ∧ s ≤ 1000001) : 0 ≤ seqG ps s k ∧ seqG ps s k ≤ 1000001 := by
  unfold seqG
  cases e : getRecB (asL (T.cell (ps.getD k T.u) 1)) with
  | none => exact h
  | some r =>
    have := (recB_in (getRecB_seq e)).2.1
    simp only
    cases iLe s r.2.1 <;> simp only [cond_t, cond_f] <;> omega
theorem seqG_le {ps : List T} {q s : Int} {k : Nat} : seqG ps s k ≤ q ↔ s ≤ q ∧ ∀ r, getRecB (asL (T.cell (ps.getD k T.u) 1)) = some r → r.2.1 < q := by
  unfold seqG
  cases e : getRecB (asL (T.cell (ps.getD k T.u) 1)) with
  | none => exact ⟨fun h => ⟨h, fun r hr => by cases hr⟩, fun h => h.1⟩
  | some r =>
    simp only
    by_cases c : s ≤ r.2.1
    · rw [iLe_t c]
      simp only [cond_t]
      exact ⟨fun h => ⟨by omega, fun r' hr => by cases hr; omega⟩, fun h => by have := h.2 r rfl; omega⟩
    · rw [iLe_f c]
      simp only [cond_f]
      exact ⟨fun h => ⟨h, fun r' hr => by cases hr; omega⟩, fun h => h.1⟩
def mostB (ps : List T) (s : Int) : Int := foldN (seqG ps) s ps.length
theorem mostB_le {ps : List T} {q s : Int} : mostB ps s ≤ q ↔ s ≤ q ∧ ∀ k, k < ps.length → ∀ r, getRecB (asL (T.cell (ps.getD k T.u) 1)) = some r → r.2.1 < q := by
  unfold mostB
  exact foldN_le (g := seqG ps) (P := fun k => ∀ r, getRecB (asL (T.cell (ps.getD k T.u) 1)) = some r → r.2.1 < q) (fun s k => seqG_le) s _
def mostL (l : List T) : Int := foldN (fun s i => mostB (pgs l (i : Nat)) s) 0 l.length
theorem mostB_in {ps : List T} {s : Int} (h : 0 ≤ s ∧ s ≤ 1000001) : 0 ≤ mostB ps s ∧ mostB ps s ≤ 1000001 := by
  have : ∀ n, 0 ≤ foldN (seqG ps) s n ∧ foldN (seqG ps) s n ≤ 1000001 := fun n => by
    induction n with
    | zero => exact h
    | succ n ih => exact seqG_in ih
  exact this _
/-- Is a log right? -/
def logB (l : List T) (ops : Int) (fs : List T) (sq : Int) : Bool := devB l ops fs && ((iLe 0 sq && iLe sq 1000000) && iLe (mostL l) sq)
def seqOk (l : List T) (sq : Int) (a : Nat) : Bool := match recA l a with | some r => iLt r.2.1 sq | none => true
theorem recA_pages {l : List T} (hc : chipB l = true) {i k : Nat} (hi : i < l.length) (hk : k < 8) : recA l ((8 * i + k : Nat) : Int) = getRecB (asL (T.cell ((pgs l i).getD k T.u) 1)) ∧ (pgs l i).length = 8 := by
  have h1 := allB_iff.1 (Bool.and_eq_true _ _ ▸ hc).1 i hi
  unfold blocksB blockB at h1
  rw [Bool.and_eq_true, Bool.and_eq_true] at h1
  have h8 : (pgs l i).length = 8 := by
    have : (((pgs l i).length : Int) == 8) = true := h1.1.1
    rw [beq_iff_eq] at this
    omega
  refine ⟨?_, h8⟩
  have hd : ((8 * i + k : Nat) : Int).tdiv 8 = (i : Int) := by
    rw [Int.tdiv_eq_ediv_of_nonneg (by omega)]; omega
  have hm : ((8 * i + k : Nat) : Int).tmod 8 = (k : Int) := by
    rw [Int.tmod_eq_emod_of_nonneg (by omega)]; omega
  unfold recA
  rw [iLt_f (by omega), hd, hm]
  simp only [Bool.not_false, cond_t]
  have hp : pageB (pgs l i) k = true := allB_iff.1 h1.2 k (by show k < (pgs l i).length; omega)
  unfold pgR pgB
  rw [iLe_t (by omega), iLt_t (by omega), iLe_t (by omega), iLt_t (by omega), Int.toNat_natCast]
  simp only [Bool.and_self, Bool.true_and]
  cases e : asB (T.cell ((pgs l i).getD k T.u) 0) with
  | true => rfl
  | false =>
    unfold pageB pageU at hp
    rw [e] at hp
    simp only [Bool.and_eq_true, Bool.false_or, Bool.not_eq_true'] at hp
    have : ¬ (0 : Int) < ((asL (T.cell ((pgs l i).getD k T.u) 1)).length : Int) := fun h => by rw [iLt_t h] at hp; exact absurd hp.2.1 (by simp)
    have : asL (T.cell ((pgs l i).getD k T.u) 1) = [] := List.eq_nil_of_length_eq_zero (by omega)
    rw [this]
    rfl
theorem seq_same {l : List T} (hc : chipB l = true) (sq : Int) (h0 : 0 ≤ sq) : allB (seqOk l sq) (8 * l.length) = iLe (mostL l) sq := by
  have A : mostL l ≤ sq ↔ ∀ i, i < l.length → ∀ k, k < (pgs l i).length → ∀ r, getRecB (asL (T.cell ((pgs l i).getD k T.u) 1)) = some r → r.2.1 < sq := by
    have := foldN_le (g := fun s i => mostB (pgs l (i : Nat)) s) (P := fun i => ∀ k, k < (pgs l i).length → ∀ r, getRecB (asL (T.cell ((pgs l i).getD k T.u) 1)) = some r → r.2.1 < sq) (q := sq) (fun s i => mostB_le) 0 l.length
    exact ⟨fun h => (this.1 h).2, fun h => this.2 ⟨h0, h⟩⟩
  have B : allB (seqOk l sq) (8 * l.length) = true ↔ ∀ i, i < l.length → ∀ k, k < (pgs l i).length → ∀ r, getRecB (asL (T.cell ((pgs l i).getD k T.u) 1)) = some r → r.2.1 < sq := by
    rw [allB_iff]
    constructor
    · intro h i hi k hk r hr
      have h8 := (recA_pages hc hi (show 0 < 8 by omega)).2
      have h2 := (recA_pages hc hi (show k < 8 by omega)).1
      have := h (8 * i + k) (by omega)
      unfold seqOk at this
      rw [h2, hr] at this
      exact iLt_iff.1 this
    · intro h a ha
      have h2 := recA_pages hc (i := a / 8) (k := a % 8) (by omega) (by omega)
      rw [show 8 * (a / 8) + a % 8 = a by omega] at h2
      unfold seqOk
      rw [h2.1]
      cases e : getRecB (asL (T.cell ((pgs l (a / 8 : Nat)).getD (a % 8) T.u) 1)) with
      | none => rfl
      | some r => exact iLt_t (h (a / 8) (by omega) (a % 8) (by omega) r e)
  cases e : allB (seqOk l sq) (8 * l.length) with
  | true => rw [iLe_t (A.2 (B.1 e))]
  | false =>
    rw [iLe_f]
    intro h
    have := B.2 (A.1 h)
    rw [e] at this
    cases this
theorem cell_fit {cs : List CT} {l : List T} {j k : Nat} {c : CT} (h : fitC (.sl true cs) (.sl l)) (hj : j < l.length) (hk : cs[k]? = some c) : fitC c (T.cell (l.getD j .u) k) := by
  have h1 := fitL_all.1 h.2 l[j] (List.getElem_mem hj)
  rw [List.getD_eq_getElem?_getD, List.getElem?_eq_getElem hj]
  obtain ⟨xs, hx, h2⟩ := fitE_st h1
  show fitC c (T.cell l[j] k)
  rw [hx]
  have h3 := fitCs_get.1 h2
  have hk2 : k < cs.length := by
    rcases Nat.lt_or_ge k cs.length with h | h
    · exact h
    · rw [List.getElem?_eq_none h] at hk; cases hk
  have hx2 : xs[k]? = some (xs[k]'(by omega)) := List.getElem?_eq_getElem _
  have := h3.2 k c _ hk hx2
  simp only [T.cell]
  rw [List.getD_eq_getElem?_getD, hx2]
  exact this
theorem pgsByt_of {cs : List CT} {l : List T} (h : fitC (.sl true (.sl true [.b, .sl false [.i .u8]] :: cs)) (.sl l)) : pgsByt l := by
  intro n1 n2
  unfold pgb pgs
  by_cases h1 : n1.toNat < l.length
  · obtain ⟨ps, e, q⟩ := fitC_sl (cell_fit (k := 0) h h1 rfl)
    rw [e]
    by_cases h2 : n2.toNat < ps.length
    · obtain ⟨bs, e2, q2⟩ := fitC_sl (cell_fit (k := 1) q h2 rfl)
      show byt (asL (T.cell (ps.getD n2.toNat T.u) 1))
      rw [e2]
      exact byt_of q2
    · show byt (asL (T.cell (ps.getD n2.toNat T.u) 1))
      rw [List.getD_eq_getElem?_getD, List.getElem?_eq_none (show ps.length ≤ n2.toNat by omega)]
      exact byt_nil
  · have e : l.getD n1.toNat T.u = T.u := by
      rw [List.getD_eq_getElem?_getD, List.getElem?_eq_none (show l.length ≤ n1.toNat by omega)]
      rfl
    rw [e]
    exact byt_nil
theorem getRecB_byt {b : List T} {r : Int × Int × List T} (h : getRecB b = some r) : byt r.2.2 := by
  unfold getRecB at h
  split at h
  · cases h
  · generalize (sealB b && ((recHead (b.take (b.length - 4)) (some 0)).2 == some (b.length - 4) && recB (recHead (b.take (b.length - 4)) (some 0)).1.1 (recHead (b.take (b.length - 4)) (some 0)).1.2.1 (listOf (recHead (b.take (b.length - 4)) (some 0)).1.2.2))) = c at h
    cases c with
    | false => cases h
    | true =>
      cases h
      exact byt_listOf _
theorem readAt_fit (l : List T) (a k : Int) : ∃ r0 r1, readAtR l a k = [r0, r1] ∧ (fitE true [.i .i64, .i .i64, .sl false [.i .u8]] r0 ∧ tl r0 ≤ 16777216) ∧ (fitC .b r1 ∧ tl r1 ≤ 16777216) := by
  have no : fitE true [.i .i64, .i .i64, .sl false [.i .u8]] (recT none) := ⟨⟨rfl, wf64 (by omega) (by omega)⟩, ⟨rfl, wf64 (by omega) (by omega)⟩, ⟨Nat.zero_le _, trivial⟩, trivial⟩
  unfold readAtR
  cases e : recA l a with
  | none => exact ⟨_, _, rfl, ⟨no, Nat.zero_le _⟩, ⟨trivial, Nat.zero_le _⟩⟩
  | some r =>
    have h : recB r.1 r.2.1 r.2.2 = true ∧ byt r.2.2 := by
      unfold recA at e
      cases h : !iLt a 0 with
      | false => rw [h] at e; cases e
      | true =>
        rw [h] at e
        exact ⟨getRecB_seq e, getRecB_byt e⟩
    obtain ⟨h1, h2, h3⟩ := recB_in h.1
    simp only
    cases r.1 == k with
    | false => exact ⟨_, _, rfl, ⟨no, Nat.zero_le _⟩, ⟨trivial, Nat.zero_le _⟩⟩
    | true =>
      obtain ⟨k', s', b'⟩ := r
      have ht := byt_tls h.2
      simp only at h1 h2 h3 ht
      exact ⟨_, _, rfl, ⟨⟨⟨rfl, wf64 (by omega) (by omega)⟩, ⟨rfl, wf64 (by omega) (by omega)⟩, byt_fit h.2 (by unfold maxLen; show b'.length ≤ _; omega), trivial⟩, by simp only [recT, tl, tls]; omega⟩, ⟨trivial, Nat.zero_le _⟩⟩
theorem same {lf : Nat} (hlf : 33554432 ≤ lf) (l : List T) (ops : Int) (fs : List T) (dn : Bool) (sq : Int) (hf : fitE true [.sl true [.sl true [.b, .sl false [.i .u8]], .i .i64, .b], .i .i64, .sl true [.i .i64, .i .i64, .i .i64], .b, .i .i64] (.st [.sl l, .i .i64 ops, .sl fs, .b dn, .i .i64 sq])) (z : tl (.st [.sl l, .i .i64 ops, .sl fs, .b dn, .i .i64 sq]) ≤ 1048576) (a : Int) (hf1 : fitC (.i .i64) (.i .i64 a)) (z1 : tl (.i .i64 a) ≤ 1048576) (k : Int) (hf2 : fitC (.i .i64) (.i .i64 k)) (z2 : tl (.i .i64 k) ≤ 1048576) :
    ∃ r0 r1, Cc lf 11 23 [.st [.sl l, .i .i64 ops, .sl fs, .b dn, .i .i64 sq], .i .i64 a, .i .i64 k] = some [r0, r1] ∧ Cc lf 11 24 [.st [.sl l, .i .i64 ops, .sl fs, .b dn, .i .i64 sq], .i .i64 a, .i .i64 k] = some [r0, r1] ∧ (fitE true [.i .i64, .i .i64, .sl false [.i .u8]] r0 ∧ tl r0 ≤ 16777216) ∧ (fitC .b r1 ∧ tl r1 ≤ 16777216) ∧ True := by
  simp only [tl, tls] at z
  have hb := pgsByt_of hf.1
  obtain ⟨r0, r1, h1, h2, h3⟩ := readAt_fit l a k
  exact ⟨r0, r1, by rw [← h1]; exact c_sReadAt (d := 6) hlf l ops fs dn sq a k hf1.2 hb (by omega), by rw [← h1]; exact c_iReadAt (d := 5) hlf l ops fs dn sq a k hf1.2 hb (by omega), h2, h3, trivial⟩
/-- The law answers true. -/
theorem lawB {lf : Nat} (hlf : 33554432 ≤ lf) {t0 : T} (ht0 : fitE true csfit_MMbScEibEiMiiiEbi t0) {t1 : T} (ht1 : fitC (.i .i64) t1) {t2 : T} (ht2 : fitC (.i .i64) t2) : Cc lf 12 5 [t0, t1, t2] = some [.b true] := by
  have hf0 := ht0
  obtain ⟨p0_0, p0_1, p0_2, p0_3, p0_4, rfl, w0_0, w0_1, w0_2, w0_4⟩ := fit_MMbScEibEiMiiiEbi ht0
  have hf1 := ht1
  obtain ⟨p1_0, rfl, w1_0⟩ := fitC_i ht1
  have hf2 := ht2
  obtain ⟨p2_0, rfl, w2_0⟩ := fitC_i ht2
  refine (f5_eq (Cc lf 11) lf p0_0 p0_1 p0_2 p0_3 p0_4 p1_0 p2_0).trans ?_
  unfold f5 f5_t
  rcases sz18 hlf (d := 11) (by omega) _ hf0 1048576 (by omega) (by omega) with e | ⟨y1, e1, g1, zz0⟩
  · rw [e]; rfl
  rw [e1]
  simp only [Option.bind_some, nth0, asI_i]
  rw [iLt_f (show ¬ y1 < 0 by omega), cond_f]
  have z0 : tl (T.st [T.sl p0_0, T.i .i64 p0_1, T.sl p0_2, T.b p0_3, T.i .i64 p0_4]) ≤ 1048576 := by omega
  have z1 : tl (T.i .i64 p1_0) ≤ 1048576 := Nat.zero_le _
  have z2 : tl (T.i .i64 p2_0) ≤ 1048576 := Nat.zero_le _
  have eT0 := to20 hlf (d := 11) (by omega) _ hf0 (by omega)
  obtain ⟨r0, r1, eS, eI, ⟨hr0, zr0⟩, ⟨hr1, zr1⟩, _⟩ := same hlf p0_0 p0_1 p0_2 p0_3 p0_4 hf0 z0 p1_0 hf1 z1 p2_0 hf2 z2
  have hR0 := hr0
  obtain ⟨R0_0, R0_1, R0_2, rfl, W0_0, W0_1, W0_2⟩ := fit_iiSc hr0
  have eQ0 := eq25 hlf (d := 11) (by omega) _ hR0 zr0
  have hR1 := hr1
  obtain ⟨R1_0, rfl⟩ := fitC_b hr1
  have eX0 := eq22 hlf (d := 11) (by omega) _ hf0 (by omega)
  obtain ⟨K1, bK1_0, bK1_1, eK1, uK1, vK1⟩ := mo26 hlf (d := 11) (by omega) hf0 (by omega) 1 (by omega) (by omega)
  obtain ⟨M1, bM1_0, eM1, eH1, uM1, vM1⟩ := ms27 hlf (d := 11) (by omega) hR0 zr0 1 (by omega) (by omega)
  simp only [T.cell, List.getD_cons_zero, List.getD_cons_succ] at eH1
  simp only [eT0, eQ0, eS, eI, eX0, eK1, eM1, eH1, Option.bind_some, nth0, nthS, asI_i, asL_l, asB_b, asS_s, cell0, cellS, beq_self_eq_true, bne_self_eq_false, Bool.not_true, Bool.and_true, cond_f, cond_t, iLt_f (show ¬ (K1 < 0) by omega), iLt_f (show ¬ (M1 < 0) by omega)]
end Go.Proofs.Ytdclnhlpifahpaa.T
