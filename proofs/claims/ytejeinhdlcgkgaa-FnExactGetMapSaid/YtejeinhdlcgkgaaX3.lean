/- What functions of the law FnExactGetMap come to, in trees; no condition. -/
import Derived.Test.YtejeinhdlcgkgaaRows
import Derived.Test.YtejeinhdlcgkgaaX2
set_option linter.unusedVariables false
set_option linter.constructorNameAsVariable false
set_option linter.unusedSimpArgs false
set_option linter.unnecessarySimpa false
namespace Go.Proofs.Ytejeinhdlcgkgaa.T
open Go Go.Proofs.YtejeinhdlcgkgaaV
set_option maxRecDepth 100000
theorem c_l1In {lf d : Nat} (a lo hi : Int) : Cc lf (d + 1) 42 [.i .i64 a, .i .i64 lo, .i .i64 hi] = some [.b (iLe lo a && iLe a hi)] := by
  refine (f42_eq (Cc lf d) lf a lo hi).trans ?_
  unfold f42 f42_t
  exact cond_b _ _
theorem c_from {lf d : Nat} (a lo hi : Int) : Cc lf (d + 1) 43 [.i .i64 a, .i .i64 lo, .i .i64 hi] = some [.b (iLe lo a && iLe a hi)] := by
  refine (f43_eq (Cc lf d) lf a lo hi).trans ?_
  unfold f43 f43_t
  exact cond_b _ _

/-- Is place j right? -/
def placeB (nx : Int) (l : List T) (j : Nat) : Bool :=
  !iLt (asI (T.cell (l.getD j T.u) 0)) 1 && (!iLe nx (asI (T.cell (l.getD j T.u) 0)) && ((iLe 0 (asI (T.cell (l.getD j T.u) 1)) && iLe (asI (T.cell (l.getD j T.u) 1)) 191) && (!iLt 0 (j : Int) || !iLe (asI (T.cell (l.getD j T.u) 0)) (asI (T.cell (l.getD (j - 1) T.u) 0)))))
def mapB (nx : Int) (l : List T) : Bool := allB (placeB nx l) l.length && (iLe (l.length : Int) 30 && (iLe 2 nx && iLe nx 1000))
theorem c_sMapOk {lf d : Nat} (hlf : 33554432 ≤ lf) (nx : Int) (l : List T) (hs : l.length ≤ 16777216) : Cc lf (d + 2) 15 [.st [.i .i64 nx, .sl l]] = some [.b (mapB nx l)] := by
  refine (f15_eq (Cc lf (d + 1)) lf nx l).trans ?_
  unfold f15 f15_t
  dsimp only
  have L := all_loop (F := fun n j => f15_0 (Cc lf (d + 1)) lf l nx n j) (P := placeB nx l) (X := some [T.i .i64 0, T.b false]) (Y := some [T.i .i64 1, T.i .i64 nx, T.sl l]) (len := l.length) (fun n j hj => by
    rw [f15_0_u]
    unfold f15_0_s
    rw [iLt_t (by omega), inR_nat hj, wrap_next hj (by omega)]
    simp only [c_l1In, Option.bind_some, nth0, asB_b, placeB, cond_not, cond_and, cond_or, cond_t, Int.toNat_natCast]
    cases h0 : iLt 0 (j : Int) with
    | true =>
      have hj0 : 0 < j := by have := iLt_iff.1 h0; omega
      rw [wrap_pred hj0 (by omega), inR_nat (by omega)]
      simp only [cond_t, Int.toNat_natCast]
    | false => rfl) (fun n => by
    rw [f15_0_u]
    unfold f15_0_s
    rw [iLt_f (by omega)]
    rfl) (n := lf) (by omega)
  rw [L]
  unfold mapB
  cases allB (placeB nx l) l.length with
  | false => rfl
  | true =>
    simp only [cond_t, Option.bind_some, nth0, nthS, asI_i, asB_b, asL_l, c_l1In]
    rw [show ((1 : Int) == 0) = false from rfl, cond_f]
    cases iLe (l.length : Int) 30 <;> rfl
theorem c_iMapOk {lf d : Nat} (hlf : 33554432 ≤ lf) (nx : Int) (l : List T) (hs : l.length ≤ 16777216) : Cc lf (d + 2) 16 [.st [.i .i64 nx, .sl l]] = some [.b (mapB nx l)] := by
  refine (f16_eq (Cc lf (d + 1)) lf nx l).trans ?_
  unfold f16 f16_t
  dsimp only
  have L := all_loop (F := fun n j => f16_0 (Cc lf (d + 1)) lf l nx n j) (P := placeB nx l) (X := some [T.i .i64 0, T.b false]) (Y := some [T.i .i64 1, T.i .i64 nx, T.sl l]) (len := l.length) (fun n j hj => by
    rw [f16_0_u]
    unfold f16_0_s
    rw [iLt_t (by omega), inR_nat hj, wrap_next hj (by omega)]
    simp only [c_from, Option.bind_some, nth0, asB_b, placeB, cond_not, cond_and, cond_or, cond_t, Int.toNat_natCast]
    cases h0 : iLt 0 (j : Int) with
    | true =>
      have hj0 : 0 < j := by have := iLt_iff.1 h0; omega
      rw [wrap_pred hj0 (by omega), inR_nat (by omega)]
      simp only [cond_t, Int.toNat_natCast]
    | false => rfl) (fun n => by
    rw [f16_0_u]
    unfold f16_0_s
    rw [iLt_f (by omega)]
    rfl) (n := lf) (by omega)
  rw [L]
  unfold mapB
  cases allB (placeB nx l) l.length with
  | false => rfl
  | true =>
    simp only [cond_t, Option.bind_some, nth0, nthS, asI_i, asB_b, asL_l, c_from]
    rw [show ((1 : Int) == 0) = false from rfl, cond_f]
    cases iLe (l.length : Int) 30 <;> cases iLe 2 nx <;> cases iLe nx 1000 <;> rfl

theorem c_sGetNum {lf d : Nat} (hlf : 33554432 ≤ lf) {b : List T} (hb : byt b) (hl : b.length ≤ 1073741824) (p : Nat) (hp : p ≤ 1073741824) : Cc lf (d + 1) 73 [.sl b, .i .i64 (p : Int)] = some (getR (getNum b p)) := by
  refine (f73_eq (Cc lf d) lf b p).trans ?_
  unfold f73 f73_t
  dsimp only
  have B : ∀ j, j < b.length → 0 ≤ asI (b.getD j .u) ∧ asI (b.getD j .u) < 256 := fun j hj => by
    obtain ⟨n, e, h⟩ := byt_at hb hj
    rw [e]; exact h
  have L := getNum_loop (b := b) (p := p) (F := fun n x k => f73_0 (Cc lf d) lf b p n x k) (X := some [T.i .i64 0, T.i .i64 0, T.i .i64 0, T.b false]) (Z := some [T.i .i64 1]) (Y := fun v q => some [T.i .i64 0, T.i .i64 v, T.i .i64 (q : Int), T.b true]) hb (fun n x k hk hpk h0 h1 => by
    have hc := B _ hpk
    have hw : IntKind.wrap .u64 (IntKind.wrap .i64 (7 * (k : Int))) = ((7 * k : Nat) : Int) := by
      rcases (by omega : k = 0 ∨ k = 1 ∨ k = 2) with rfl | rfl | rfl <;> rfl
    have hpw : ((2 ^ (7 * k) : Nat) : Int) = 128 ^ k := by
      rcases (by omega : k = 0 ∨ k = 1 ∨ k = 2) with rfl | rfl | rfl <;> rfl
    rw [f73_0_u]
    unfold f73_0_s
    rw [iLt_t (by omega), iLe_t (by omega), iLt_t (by omega), wrap_in (x := (p : Int) + (k : Int)) (by omega) (by omega), iLt_t (by omega), inR_t (by omega) (by omega), hw, iLe_t (by omega), show ((p : Int) + (k : Int)).toNat = p + k by omega, wrap_in (x := asI (b.getD (p + k) .u)) (by omega) (by omega), and_mod hc.1 (by omega),
      shl_mul (by omega) (by omega) (by omega), or_add (k := 7 * k) h0 (by rw [hpw]; exact h1) (by omega) (by omega) (by omega), hpw, wrap_in (x := (k : Int) + 1) (by omega) (by omega), wrap_in (x := (p : Int) + (k : Int) + 1) (by omega) (by omega)]
    simp only [cond_t]
    by_cases c0 : 128 ≤ asI (b.getD (p + k) .u)
    · rw [iLt_t (by omega), if_pos c0]
      rfl
    · rw [iLt_f (by omega), if_neg c0, Int.emod_eq_of_lt hc.1 (by omega)]
      simp only [cond_f]
      by_cases k0 : k = 0
      · subst k0
        rw [iLt_f (by omega)]
        by_cases m : 1000000 < x + asI (b.getD (p + 0) .u) * 128 ^ 0
        · rw [iLt_t m, if_pos (.inr m)]; rfl
        · rw [iLt_f m, if_neg (by omega)]; rfl
      · rw [iLt_t (by omega)]
        by_cases z : asI (b.getD (p + k) .u) = 0
        · rw [if_pos (.inl ⟨k0, z⟩), z]; rfl
        · rw [show (asI (b.getD (p + k) .u) == 0) = false from by simpa using z]
          by_cases m : 1000000 < x + asI (b.getD (p + k) .u) * 128 ^ k
          · rw [iLt_t m, if_pos (.inr m)]; rfl
          · rw [iLt_f m, if_neg (by rintro (h | h); exact z h.2; exact m h)]; rfl) (fun n x k hk3 hk => by
    rw [f73_0_u]
    unfold f73_0_s
    by_cases k3 : k < 3
    · rw [iLt_t (by omega), iLe_t (by omega)]
      by_cases h : p < b.length
      · rw [iLt_t (by omega), wrap_in (x := (p : Int) + (k : Int)) (by omega) (by omega), iLt_f (by omega)]; rfl
      · rw [iLt_f (by omega)]; rfl
    · rw [iLt_f (by omega)]; rfl) (n := lf) (by omega)
  rcases L with ⟨h1, h2 | h2⟩ | ⟨v, q, h1, h2⟩
  · rw [show ((0 : Nat) : Int) = 0 from rfl] at h2; rw [h1, h2]; rfl
  · rw [show ((0 : Nat) : Int) = 0 from rfl] at h2; rw [h1, h2]; rfl
  · rw [show ((0 : Nat) : Int) = 0 from rfl] at h2; rw [h1, h2]; rfl
theorem c_iGetNum {lf d : Nat} (hlf : 33554432 ≤ lf) {b : List T} (hb : byt b) (hl : b.length ≤ 1073741824) (p : Nat) (hp : p ≤ 1073741824) : Cc lf (d + 1) 74 [.sl b, .i .i64 (p : Int)] = some (getR (getNum b p)) := by
  refine (f74_eq (Cc lf d) lf b p).trans ?_
  unfold f74 f74_t
  dsimp only
  have B : ∀ j, j < b.length → 0 ≤ asI (b.getD j .u) ∧ asI (b.getD j .u) < 256 := fun j hj => by
    obtain ⟨n, e, h⟩ := byt_at hb hj
    rw [e]; exact h
  have L := getNum_loop (b := b) (p := p) (F := fun n x k => f74_0 (Cc lf d) lf b p n x (128 ^ k) k) (X := some [T.i .i64 0]) (Z := some [T.i .i64 0]) (Y := fun v q => some [T.i .i64 1, T.i .i64 v, T.i .i64 (q : Int), T.b true]) hb (fun n x k hk hpk h0 h1 => by
    have hc := B _ hpk
    have hm := Int.emod_nonneg (asI (b.getD (p + k) .u)) (show (128 : Int) ≠ 0 by omega)
    have hm2 := Int.emod_lt_of_pos (asI (b.getD (p + k) .u)) (show (0 : Int) < 128 by omega)
    have hk3 : k = 0 ∨ k = 1 ∨ k = 2 := by omega
    have hpw : 1 ≤ (128 : Int) ^ k ∧ (128 : Int) ^ k ≤ 16384 ∧ (128 : Int) ^ k * 128 = 128 ^ (k + 1) ∧ 0 ≤ asI (b.getD (p + k) .u) % 128 * 128 ^ k ∧ asI (b.getD (p + k) .u) % 128 * 128 ^ k ≤ 2097152 := by
      rcases hk3 with rfl | rfl | rfl
      · refine ⟨by decide, by decide, by decide, ?_, ?_⟩ <;> rw [Int.pow_zero] <;> omega
      · refine ⟨by decide, by decide, by decide, ?_, ?_⟩ <;> rw [Int.pow_one] <;> omega
      · have e : (128 : Int) ^ 2 = 16384 := rfl
        refine ⟨by decide, by decide, by decide, ?_, ?_⟩ <;> rw [e] <;> omega
    rw [f74_0_u]
    unfold f74_0_s
    rw [iLt_t (by omega), wrap_in (x := (b.length : Int) - (k : Int)) (by omega) (by omega), iLt_t (by omega), wrap_in (x := (p : Int) + (k : Int)) (by omega) (by omega), inR_t (by omega) (by omega), show ((p : Int) + (k : Int)).toNat = p + k by omega, wrap_in (x := asI (b.getD (p + k) .u)) (by omega) (by omega), Int.tmod_eq_emod_of_nonneg hc.1,
      wrap_in (x := asI (b.getD (p + k) .u) % 128 * 128 ^ k) (by omega) (by omega), wrap_in (x := x + asI (b.getD (p + k) .u) % 128 * 128 ^ k) (by omega) (by omega), wrap_in (x := (128 : Int) ^ k * 128) (by omega) (by omega), hpw.2.2.1, wrap_in (x := (k : Int) + 1) (by omega) (by omega), wrap_in (x := (p : Int) + (k : Int) + 1) (by omega) (by omega)]
    simp only [cond_t]
    by_cases c0 : 128 ≤ asI (b.getD (p + k) .u)
    · rw [iLe_t c0, if_pos c0]
      rfl
    · rw [iLe_f c0, if_neg c0, Int.emod_eq_of_lt hc.1 (by omega)]
      simp only [cond_f]
      by_cases m : 1000000 < x + asI (b.getD (p + k) .u) * 128 ^ k
      · rw [iLt_t m, if_pos (.inr m)]; rfl
      · rw [iLt_f m]
        by_cases z : asI (b.getD (p + k) .u) = 0
        · by_cases k0 : k = 0
          · subst k0
            rw [if_neg (by omega), iLt_f (by omega), show (asI (b.getD (p + 0) .u) == 0) = true by rw [z]; rfl]; rfl
          · rw [if_pos (.inl ⟨k0, z⟩), iLt_t (by omega), show (asI (b.getD (p + k) .u) == 0) = true by rw [z]; rfl]; rfl
        · rw [if_neg (by rintro (h | h); exact z h.2; exact m h), show (asI (b.getD (p + k) .u) == 0) = false from by simpa using z]; rfl) (fun n x k hk3 hk => by
    rw [f74_0_u]
    unfold f74_0_s
    by_cases k3 : k < 3
    · rw [iLt_t (by omega), wrap_in (x := (b.length : Int) - (k : Int)) (by omega) (by omega), iLt_f (by omega)]; rfl
    · rw [iLt_f (by omega)]; rfl) (n := lf) (by omega)
  rw [iLt_f (by omega), cond_f]
  rcases L with ⟨h1, h2 | h2⟩ | ⟨v, q, h1, h2⟩
  · rw [Int.pow_zero, show ((0 : Nat) : Int) = 0 from rfl] at h2; rw [h1, h2]; rfl
  · rw [Int.pow_zero, show ((0 : Nat) : Int) = 0 from rfl] at h2; rw [h1, h2]; rfl
  · rw [Int.pow_zero, show ((0 : Nat) : Int) = 0 from rfl] at h2; rw [h1, h2]; rfl

theorem c_iNum {lf d : Nat} (hlf : 33554432 ≤ lf) {b : List T} (hb : byt b) (hl : b.length ≤ 1073741824) {s : Option Nat} {p : Int} {ok : Bool} (h : RI b s p ok) :
    ∃ p' ok', Cc lf (d + 2) 59 [.st [.sl b, .i .i64 p, .b ok]] = some [.i .i64 (rd b s).1, .st [.sl b, .i .i64 p', .b ok']] ∧ RI b (rd b s).2 p' ok' := by
  have E := f59_eq (Cc lf (d + 1)) lf b p ok
  unfold f59 f59_t at E
  obtain ⟨rfl, h2⟩ := h
  cases s with
  | none => exact ⟨p, false, E, rfl, fun q hq => by cases hq⟩
  | some q =>
    obtain ⟨rfl, hq⟩ := h2 q rfl
    rw [c_iGetNum hlf hb hl q (by omega)] at E
    simp only [rd]
    cases e : getNum b q with
    | none => rw [e] at E; exact ⟨0, false, E, rfl, fun q hq => by cases hq⟩
    | some x =>
      obtain ⟨n, q2⟩ := x
      rw [e] at E
      exact ⟨q2, true, E, rfl, fun q hq => by cases hq; exact ⟨rfl, (getNum_in hb e).2.2.2⟩⟩
theorem c_sNum {lf d : Nat} (hlf : 33554432 ≤ lf) {b : List T} (hb : byt b) (hl : b.length ≤ 1073741824) {s : Option Nat} {p : Int} {bad : Bool} (h : RS b s p bad) :
    ∃ p' bad', Cc lf (d + 2) 58 [.st [.sl b, .i .i64 p, .b bad]] = some [.i .i64 (rd b s).1, .st [.sl b, .i .i64 p', .b bad']] ∧ RS b (rd b s).2 p' bad' := by
  have E := f58_eq (Cc lf (d + 1)) lf b p bad
  unfold f58 f58_t at E
  obtain ⟨rfl, h2, q0, rfl, hq0⟩ := h
  rw [c_sGetNum hlf hb hl q0 (by omega)] at E
  cases s with
  | none => exact ⟨q0, true, E, rfl, (fun q hq => by cases hq), q0, rfl, hq0⟩
  | some q =>
    have e0 : q0 = q := by have := h2 q rfl; omega
    subst e0
    simp only [rd]
    cases e : getNum b q0 with
    | none => rw [e] at E; exact ⟨q0, true, E, rfl, (fun q hq => by cases hq), q0, rfl, hq0⟩
    | some x =>
      obtain ⟨n, q2⟩ := x
      rw [e] at E
      exact ⟨q2, false, E, rfl, (fun q hq => by cases hq; rfl), q2, rfl, (getNum_in hb e).2.2.2⟩
theorem c_iCount {lf d : Nat} (hlf : 33554432 ≤ lf) {b : List T} (hb : byt b) (hl : b.length ≤ 1073741824) {s : Option Nat} {p : Int} {ok : Bool} (h : RI b s p ok) :
    ∃ p' ok', Cc lf (d + 3) 60 [.st [.sl b, .i .i64 p, .b ok]] = some [.i .i64 (rdC b s).1, .st [.sl b, .i .i64 p', .b ok']] ∧ RI b (rdC b s).2 p' ok' := by
  have E := f60_eq (Cc lf (d + 2)) lf b p ok
  unfold f60 f60_t at E
  obtain ⟨p', ok', h1, h2⟩ := c_iNum (d := d) hlf hb hl h
  rw [h1] at E
  simp only [Option.bind_some, nth0, nthS, asI_i, asB_b, cell0, cellS] at E
  obtain ⟨rfl, h3⟩ := h2
  have hz := @rd_zero b s
  unfold rdC
  generalize hr : rd b s = r at *
  obtain ⟨n, s'⟩ := r
  cases s' with
  | none =>
    have : n = 0 := hz rfl
    subst this
    cases c : iLt (IntKind.wrap .i64 ((b.length : Int) - p')) 0 with
    | true => rw [c] at E; exact ⟨p', false, E, rfl, fun q hq => by cases hq⟩
    | false => rw [c] at E; exact ⟨p', false, E, rfl, fun q hq => by cases hq⟩
  | some q =>
    obtain ⟨rfl, hq⟩ := h3 q rfl
    rw [wrap_in (by omega) (by omega)] at E
    simp only
    by_cases c : n > (b.length : Int) - q
    · rw [iLt_t c] at E
      rw [if_pos c]
      exact ⟨q, false, E, rfl, fun q hq => by cases hq⟩
    · rw [iLt_f c] at E
      rw [if_neg c]
      exact ⟨q, true, E, rfl, fun q2 hq2 => by cases hq2; exact ⟨rfl, hq⟩⟩
theorem c_iDone {lf d : Nat} {b : List T} {s : Option Nat} {p : Int} {ok : Bool} (h : RI b s p ok) :
    ∃ t, Cc lf (d + 1) 61 [.st [.sl b, .i .i64 p, .b ok]] = some [.b (s == some b.length), t] := by
  have E := f61_eq (Cc lf d) lf b p ok
  unfold f61 f61_t at E
  obtain ⟨rfl, h2⟩ := h
  cases s with
  | none => exact ⟨_, E⟩
  | some q =>
    obtain ⟨rfl, _⟩ := h2 q rfl
    have e : ((q : Int) == (b.length : Int)) = (some q == some b.length) := by
      rw [Bool.eq_iff_iff]
      simp
      omega
    exact ⟨_, by rw [← e]; exact E⟩

def gPlace (b : List T) (s : Option Nat) : T × Option Nat := (.st [.i .i64 (rd b s).1, .i .i64 (rd b (rd b s).2).1], (rd b (rd b s).2).2)
theorem gPlace_next {b : List T} (hb : byt b) (p q : Nat) (h : (gPlace b (some p)).2 = some q) : p < q ∧ q ≤ b.length := by
  unfold gPlace at h
  obtain ⟨p1, e1, h1, h2, _⟩ := rd_next hb h
  obtain ⟨p2, e2, h3, h4, _⟩ := rd_next hb e1
  cases e2
  omega
/-- The map that bytes are. -/
def getMapB (b : List T) : Option (Int × List T) :=
  match (rdC b (rd b (some 0)).2) with
  | (n, s) => match itemsI (gPlace b) n.toNat s with
    | (ps, s3) => bif s3 == some b.length && mapB (rd b (some 0)).1 ps then some ((rd b (some 0)).1, ps) else none
def getMapR : Option (Int × List T) → List T
  | some (n, ps) => [.st [.i .i64 n, .sl ps], .b true]
  | none => [.st [.i .i64 0, .sl []], .b false]
theorem mapB_len {n : Int} {l : List T} (h : mapB n l = true) : l.length ≤ 30 := by
  unfold mapB at h
  simp only [Bool.and_eq_true, iLe_iff] at h
  omega
theorem rdC_in {b : List T} (hb : byt b) (s : Option Nat) : 0 ≤ (rdC b s).1 ∧ (rdC b s).1 ≤ 1000000 := by
  have := rd_in hb s
  unfold rdC
  generalize rd b s = r at *
  obtain ⟨n, s'⟩ := r
  cases s' with
  | none => exact ⟨Int.le_refl _, by show (0 : Int) ≤ 1000000; omega⟩
  | some q =>
    simp only
    split
    · exact ⟨Int.le_refl _, by show (0 : Int) ≤ 1000000; omega⟩
    · exact this
theorem c_iGetMap {lf d : Nat} (hlf : 33554432 ≤ lf) {b : List T} (hb : byt b) (hl : b.length ≤ 1073741824) : Cc lf (d + 4) 37 [.sl b] = some (getMapR (getMapB b)) := by
  refine (f37_eq (Cc lf (d + 3)) lf b).trans ?_
  unfold f37 f37_t
  dsimp only
  obtain ⟨p1, ok1, e1, R1⟩ := c_iNum (d := d + 1) (s := some 0) (p := 0) (ok := true) hlf hb hl ⟨rfl, fun q hq => by cases hq; exact ⟨rfl, Nat.zero_le _⟩⟩
  obtain ⟨p2, ok2, e2, R2⟩ := c_iCount (d := d) hlf hb hl R1
  rw [e1]
  simp only [Option.bind_some, nth0, nthS, asI_i, asB_b, cell0, cellS]
  rw [e2]
  simp only [Option.bind_some, nth0, nthS, asI_i, asB_b, cell0, cellS]
  have hc := rdC_in hb (rd b (some 0)).2
  obtain ⟨N, hN⟩ := Int.eq_ofNat_of_zero_le hc.1
  obtain ⟨p3, ok3, e3, R3⟩ := loopI (g := gPlace b) (b := b) (N := N) (F := fun n j p ok acc => f37_0 (Cc lf (d + 3)) lf b [T.i .i64 (rd b (some 0)).1, T.st [T.sl b, T.i .i64 p1, T.b ok1]] [T.i .i64 (rdC b (rd b (some 0)).2).1, T.st [T.sl b, T.i .i64 p2, T.b ok2]] n j p ok acc)
    (Y := fun p ok acc => some [T.i .i64 0, T.i .i64 0, T.sl ([] : List T), T.sl b, T.i .i64 p, T.b ok, T.i .i64 (rd b (some 0)).1, T.sl acc]) (by omega) (fun n j p ok acc s hj hR ha => by
      obtain ⟨p', ok', q1, Q1⟩ := c_iNum (d := d + 1) hlf hb hl hR
      obtain ⟨p'', ok'', q2, Q2⟩ := c_iNum (d := d + 1) hlf hb hl Q1
      refine ⟨p'', ok'', ?_, Q2⟩
      rw [f37_0_u]
      unfold f37_0_s
      rw [nth0, asI_i, hN, iLt_t (by omega), q1]
      simp only [cond_t, Option.bind_some, nth0, nthS, asI_i, asB_b, cell0, cellS]
      rw [q2]
      simp only [cond_t, Option.bind_some, nth0, nthS, asI_i, asB_b, cell0, cellS]
      rw [nLe_app (by omega), cond_t, wrap_in (by omega) (by omega)]
      rfl) (fun n p ok acc => by
      rw [f37_0_u]
      unfold f37_0_s
      rw [nth0, asI_i, hN, iLt_f (by omega)]
      rfl) (n := lf) (by omega) R2
  rw [e3]
  simp only [Option.bind_some, nth0, nthS, asI_i, asB_b, asL_l, cell0, cellS]
  obtain ⟨t, e4⟩ := c_iDone (lf := lf) (d := d + 2) R3
  rw [e4]
  simp only [Option.bind_some, nth0, nthS, asI_i, asB_b]
  have hlen := itemsI_len (g := gPlace b) N (rdC b (rd b (some 0)).2).2
  rw [c_iMapOk (d := d + 1) hlf _ _ (by omega)]
  simp only [Option.bind_some, nth0, asB_b]
  unfold getMapB
  simp only [hN, Int.toNat_natCast]
  cases (itemsI (gPlace b) N (rdC b (rd b (some 0)).2).2).2 == some b.length with
  | false => rfl
  | true =>
    cases mapB (rd b (some 0)).1 (itemsI (gPlace b) N (rdC b (rd b (some 0)).2).2).1 with
    | false => rfl
    | true => rfl
theorem c_sGetMap {lf d : Nat} (hlf : 33554432 ≤ lf) {b : List T} (hb : byt b) (hl : b.length ≤ 1073741824) : Cc lf (d + 4) 35 [.sl b] = some (getMapR (getMapB b)) := by
  refine (f35_eq (Cc lf (d + 3)) lf b).trans ?_
  unfold f35 f35_t
  dsimp only
  obtain ⟨p1, ok1, e1, R1⟩ := c_sNum (d := d + 1) (s := some 0) (p := 0) (bad := false) hlf hb hl ⟨rfl, (fun q hq => by cases hq; rfl), 0, rfl, Nat.zero_le _⟩
  obtain ⟨p2, ok2, e2, R2⟩ := c_sNum (d := d + 1) hlf hb hl R1
  rw [e1]
  simp only [Option.bind_some, nth0, nthS, asI_i, asB_b, cell0, cellS]
  rw [e2]
  simp only [Option.bind_some, nth0, nthS, asI_i, asB_b, cell0, cellS]
  have hc := rd_in hb (rd b (some 0)).2
  obtain ⟨N, hN⟩ := Int.eq_ofNat_of_zero_le hc.1
  obtain ⟨p3, ok3, e3, R3⟩ := loopS (g := gPlace b) (b := b) (K := min N (30 + 1)) (F := fun n j p bad acc => f35_0 (Cc lf (d + 3)) lf b [T.i .i64 (rd b (some 0)).1, T.st [T.sl b, T.i .i64 p1, T.b ok1]] [T.i .i64 (rd b (rd b (some 0)).2).1, T.st [T.sl b, T.i .i64 p2, T.b ok2]] n j p bad acc)
    (Y := fun p bad acc => some [T.i .i64 0, T.sl b, T.i .i64 (N : Int), T.i .i64 0, T.sl ([] : List T), T.sl b, T.i .i64 p, T.b bad, T.i .i64 (rd b (some 0)).1, T.sl acc]) (by omega) (fun n j p bad acc s hj hR ha => by
      obtain ⟨p', ok', q1, Q1⟩ := c_sNum (d := d + 1) hlf hb hl hR
      obtain ⟨p'', ok'', q2, Q2⟩ := c_sNum (d := d + 1) hlf hb hl Q1
      refine ⟨p'', ok'', ?_, Q2⟩
      have hbad : bad = false := hR.1
      subst hbad
      rw [f35_0_u]
      unfold f35_0_s
      rw [nth0, asI_i, hN, iLt_t (by omega), iLe_t (by omega), q1]
      simp only [cond_t, cond_f, Bool.not_false, Option.bind_some, nth0, nthS, asI_i, asB_b, cell0, cellS]
      rw [q2]
      simp only [cond_t, Option.bind_some, nth0, nthS, asI_i, asB_b, cell0, cellS]
      rw [nLe_app (by omega), cond_t, wrap_in (by omega) (by omega)]
      rfl) (fun n j p bad acc s hj hR hx => by
      rw [f35_0_u]
      unfold f35_0_s
      rw [nth0, asI_i, hN]
      by_cases c1 : j < N
      · rw [iLt_t (by omega)]
        by_cases c2 : j ≤ 30
        · have hs : s = none := by rcases hx with h | h; omega; exact h
          have hbad : bad = true := by rw [hR.1, hs]; rfl
          subst hbad
          rw [iLe_t (by omega)]
          rfl
        · rw [iLe_f (by omega)]; rfl
      · rw [iLt_f (by omega)]; rfl) (n := lf) (by omega) R2
  rw [e3]
  simp only [Option.bind_some, nth0, nthS, asI_i, asB_b, asL_l, cell0, cellS]
  have hlen := itemsS_len (g := gPlace b) (min N (30 + 1)) (rd b (rd b (some 0)).2).2
  rw [c_sMapOk (d := d + 1) hlf _ _ (by omega)]
  simp only [Option.bind_some, nth0, asB_b]
  -- the two readers
  have hno : (gPlace b none).2 = none := rfl
  obtain ⟨hbad, hat, q3, hq3, hq3l⟩ := R3
  unfold getMapB
  cases hs2 : (rd b (rd b (some 0)).2).2 with
  | none =>
    have hcnt : rdC b (rd b (some 0)).2 = (0, none) := by
      unfold rdC
      generalize hr : rd b (rd b (some 0)).2 = r at *
      obtain ⟨n, s'⟩ := r
      simp only at hs2
      subst hs2
      rfl
    have hS : (itemsS (gPlace b) (min N (30 + 1)) none).2 = none := by cases min N (30 + 1) <;> rfl
    rw [hs2] at hbad
    rw [hS] at hbad
    rw [hcnt, hbad]
    rfl
  | some p =>
    obtain ⟨p0, hp0, _, hpl, _⟩ := rd_next hb hs2
    rw [hs2] at hbad hat
    have hrd : rd b (rd b (some 0)).2 = ((N : Int), some p) := by rw [← hN, ← hs2]
    rcases list_rel (g := gPlace b) (b := b) hno (gPlace_next hb) 30 N p hpl with ⟨ps, q, h1, h2, h3, h4, h5⟩ | ⟨h1, h2⟩
    · have hcnt : rdC b (rd b (some 0)).2 = ((N : Int), some p) := by
        unfold rdC
        rw [hrd]
        simp only
        rw [if_neg (by omega)]
      rw [h3] at hbad hat
      have hat := hat q rfl
      subst hat
      rw [hbad, h3, hcnt]
      simp only [Int.toNat_natCast, h2, Option.isNone_some, cond_f]
      have hne : ((N : Int) != (ps.length : Int)) = false := by rw [h4]; simp
      rw [hne]
      have e5 : (some q == some b.length) = ((q : Int) == (b.length : Int)) := by
        rw [Bool.eq_iff_iff]
        simp
        omega
      rw [e5]
      cases e6 : ((q : Int) == (b.length : Int)) with
      | false => simp only [bne, e6]; rfl
      | true =>
        simp only [bne, e6]
        cases mapB (rd b (some 0)).1 ps <;> rfl
    · have hI : (match rdC b (rd b (some 0)).2 with | (n, s) => match itemsI (gPlace b) n.toNat s with | (ps, s3) => bif s3 == some b.length && mapB (rd b (some 0)).1 ps then some ((rd b (some 0)).1, ps) else none) = none := by
        by_cases hc : (N : Int) > (b.length : Int) - p
        · have hcnt : rdC b (rd b (some 0)).2 = (0, none) := by
            unfold rdC
            rw [hrd]
            simp only
            rw [if_pos hc]
          rw [hcnt]
          rfl
        · have hcnt : rdC b (rd b (some 0)).2 = ((N : Int), some p) := by
            unfold rdC
            rw [hrd]
            simp only
            rw [if_neg hc]
          rw [hcnt]
          simp only [Int.toNat_natCast]
          rcases h1 with h1 | h1 | h1
          · omega
          · rw [h1]; rfl
          · cases hm : mapB (rd b (some 0)).1 (itemsI (gPlace b) N (some p)).1 with
            | true => have := mapB_len hm; omega
            | false => rw [Bool.and_false]; rfl
      rw [hI, hbad]
      rcases h2 with h2 | h2
      · rw [h2]; rfl
      · have hne : ((N : Int) != ((itemsS (gPlace b) (min N (30 + 1)) (some p)).1.length : Int)) = true := by
          simp only [bne_iff_ne, ne_eq]
          omega
        rw [hne]
        cases (itemsS (gPlace b) (min N (30 + 1)) (some p)).2.isNone with
        | true => rfl
        | false => cases (p3 != (b.length : Int)) <;> rfl

theorem wf64 {n : Int} (h0 : -9223372036854775808 ≤ n) (h1 : n ≤ 9223372036854775807) : (Lit.int .i64 n).wf = true := by
  simp [Lit.wf, IntKind.min, IntKind.max, IntKind.signed, IntKind.bits]
  omega
theorem gPlace_fit {b : List T} (hb : byt b) (s : Option Nat) : fitE true [.i .i64, .i .i64] (gPlace b s).1 ∧ tl (gPlace b s).1 = 0 := by
  have h1 := rd_in hb s
  have h2 := rd_in hb (rd b s).2
  exact ⟨⟨⟨rfl, wf64 (by omega) (by omega)⟩, ⟨rfl, wf64 (by omega) (by omega)⟩, trivial⟩, rfl⟩
theorem items_fit {b : List T} (hb : byt b) : ∀ (k : Nat) (s : Option Nat), (∀ x ∈ (itemsI (gPlace b) k s).1, fitE true [.i .i64, .i .i64] x ∧ tl x = 0)
  | 0, s, x, h => by cases h
  | k + 1, s, x, h => by
    rcases List.mem_cons.1 h with rfl | h
    · exact gPlace_fit hb s
    · exact items_fit hb k _ x h
theorem getMap_fit {b : List T} (hb : byt b) : ∃ r0 r1, getMapR (getMapB b) = [r0, r1] ∧ (fitE true csfit_iMiiE r0 ∧ tl r0 ≤ 16777216) ∧ (fitC .b r1 ∧ tl r1 ≤ 16777216) := by
  have hn := rd_in hb (some 0)
  cases e : getMapB b with
  | none => exact ⟨_, _, rfl, ⟨⟨⟨rfl, wf64 (by omega) (by omega)⟩, ⟨Nat.zero_le _, trivial⟩, trivial⟩, Nat.zero_le _⟩, ⟨trivial, Nat.zero_le _⟩⟩
  | some x =>
    obtain ⟨n, ps⟩ := x
    unfold getMapB at e
    generalize rdC b (rd b (some 0)).2 = r at e
    obtain ⟨N, s⟩ := r
    simp only at e
    have hi := items_fit hb N.toNat s
    generalize itemsI (gPlace b) N.toNat s = it at *
    obtain ⟨l, s3⟩ := it
    simp only at e hi
    cases hm : mapB (rd b (some 0)).1 l with
    | false => rw [hm, Bool.and_false] at e; cases e
    | true =>
      rw [hm, Bool.and_true] at e
      cases hs : (s3 == some b.length) with
      | false => rw [hs] at e; cases e
      | true =>
        rw [hs] at e
        cases e
        have h30 := mapB_len hm
        have hz : tls ps = 0 := tls_zero fun y hy => (hi y hy).2
        exact ⟨_, _, rfl, ⟨⟨⟨rfl, wf64 (by omega) (by omega)⟩, ⟨by unfold maxLen; omega, fitL_all.2 fun x hx => (hi x hx).1⟩, trivial⟩, by simp only [tl, tls, hz]; omega⟩, ⟨trivial, Nat.zero_le _⟩⟩
theorem same {lf : Nat} (hlf : 33554432 ≤ lf) (l : List T) (hf : fitC (.sl false [.i .u8]) (.sl l)) (z : tl (.sl l) ≤ 1048576) :
    ∃ r0 r1, Cc lf 6 35 [.sl l] = some [r0, r1] ∧ Cc lf 6 37 [.sl l] = some [r0, r1] ∧ (fitE true csfit_iMiiE r0 ∧ tl r0 ≤ 16777216) ∧ (fitC .b r1 ∧ tl r1 ≤ 16777216) ∧ True := by
  simp only [tl] at z
  have hb := byt_of hf
  obtain ⟨r0, r1, h1, h2, h3⟩ := getMap_fit hb
  exact ⟨r0, r1, by rw [← h1]; exact c_sGetMap (d := 2) hlf hb (by omega), by rw [← h1]; exact c_iGetMap (d := 2) hlf hb (by omega), h2, h3, trivial⟩

/-- The law answers true. -/
theorem lawB {lf : Nat} (hlf : 33554432 ≤ lf) {t0 : T} (ht0 : fitC (.sl false [.i .u8]) t0) : Cc lf 7 9 [t0] = some [.b true] := by
  have hf0 := ht0
  obtain ⟨p0_0, rfl, w0_0⟩ := fitC_sl ht0
  refine (f9_eq (Cc lf 6) lf p0_0).trans ?_
  unfold f9 f9_t
  by_cases l0 : (1048576 : Int) < (p0_0.length : Int)
  · rw [iLt_t l0]; rfl
  rw [iLt_f l0, cond_f]
  have z0 : tl (T.sl p0_0) ≤ 1048576 := by have := tls_flat hf0 rfl; simp only [tl]; omega
  have eT0 := to36 hlf (d := 6) (by omega) _ hf0 (by omega)
  obtain ⟨r0, r1, eS, eI, ⟨hr0, zr0⟩, ⟨hr1, zr1⟩, _⟩ := same hlf p0_0 hf0 z0
  have hR0 := hr0
  obtain ⟨R0_0, R0_1, rfl, W0_0, W0_1⟩ := fit_iMiiE hr0
  have eQ0 := eq14 hlf (d := 6) (by omega) _ hR0 zr0
  have hR1 := hr1
  obtain ⟨R1_0, rfl⟩ := fitC_b hr1
  have eX0 := eq29 hlf (d := 6) (by omega) _ hf0 (by omega)
  obtain ⟨K1, bK1_0, eK1, uK1, vK1⟩ := mk31 hlf (d := 6) (by omega) _ hf0 (by omega) 1 (by omega) (by omega)
  obtain ⟨M1, bM1_0, eM1, eH1, uM1, vM1⟩ := ms30 hlf (d := 6) (by omega) hR0 zr0 1 (by omega) (by omega)
  simp only [T.cell, List.getD_cons_zero, List.getD_cons_succ] at eH1
  simp only [eT0, eQ0, eS, eI, eX0, eK1, eM1, eH1, Option.bind_some, nth0, nthS, asI_i, asL_l, asB_b, asS_s, cell0, cellS, beq_self_eq_true, bne_self_eq_false, Bool.not_true, Bool.and_true, cond_f, cond_t, iLt_f (show ¬ (K1 < 0) by omega), iLt_f (show ¬ (M1 < 0) by omega)]
end Go.Proofs.Ytejeinhdlcgkgaa.T
