/- What functions of the law FnInodesRead come to, in trees; no condition. -/
import Derived.Test.YtockabaoaneplaaRows
import Derived.Test.YtockabaoaneplaaX2
set_option linter.unusedVariables false
set_option linter.constructorNameAsVariable false
set_option linter.unusedSimpArgs false
set_option linter.unnecessarySimpa false
namespace Go.Proofs.Ytockabaoaneplaa.T
open Go Go.Proofs.YtockabaoaneplaaV
set_option maxRecDepth 100000
theorem c_l1In {lf d : Nat} (a lo hi : Int) : Cc lf (d + 1) 77 [.i .i64 a, .i .i64 lo, .i .i64 hi] = some [.b (iLe lo a && iLe a hi)] := by
  refine (f77_eq (Cc lf d) lf a lo hi).trans ?_
  unfold f77 f77_t
  exact cond_b _ _
theorem c_from {lf d : Nat} (a lo hi : Int) : Cc lf (d + 1) 76 [.i .i64 a, .i .i64 lo, .i .i64 hi] = some [.b (iLe lo a && iLe a hi)] := by
  refine (f76_eq (Cc lf d) lf a lo hi).trans ?_
  unfold f76 f76_t
  exact cond_b _ _
theorem c_sName {lf d : Nat} (hlf : 33554432 ≤ lf) (s : ByteArray) (hs : s.size ≤ 16777216) : Cc lf (d + 2) 109 [.s s] = some [.b (nameB s)] := by
  refine (f109_eq (Cc lf (d + 1)) lf s).trans ?_
  unfold f109 f109_t
  have L := all_loop (F := fun n j => f109_0 (Cc lf (d + 1)) lf s n j) (P := fun j => chB (byteAt s j)) (X := some [T.i .i64 0, T.b false]) (Y := some [T.i .i64 1, T.s s]) (len := s.size) (fun n j hj => by
    show f109_0_s (Cc lf (d + 1)) lf s _ _ = _
    unfold f109_0_s
    obtain ⟨b0, b1⟩ := byteAt_in s j
    rw [iLt_t (by omega), inR_nat hj, wrapK (x := byteAt s j) (by omega), wrap_next hj (by omega)]
    simp only [c_l1In, Option.bind_some, nth0, asB_b, chB, bne_not, cond_not, cond_and, cond_or, cond_t]) (fun n => by
    show f109_0_s (Cc lf (d + 1)) lf s _ _ = _
    unfold f109_0_s
    rw [iLt_f (by omega)]
    rfl) (n := lf) (by omega)
  simp only at L ⊢
  rw [L]
  unfold nameB
  cases allB (fun j => chB (byteAt s j)) s.size with
  | false => rfl
  | true =>
    simp only [cond_t, Option.bind_some, nth0, nthS, asI_i, asB_b, asS_s, c_l1In, cond_not]
    rw [show ((1 : Int) == 0) = false from rfl, cond_f]
    cases iLe 1 (s.size : Int) <;> cases iLe (s.size : Int) 14 <;> cases (s.toList == (⟨#[46]⟩ : ByteArray).toList) <;> cases (s.toList == (⟨#[46, 46]⟩ : ByteArray).toList) <;> rfl
theorem c_iName {lf d : Nat} (hlf : 33554432 ≤ lf) (s : ByteArray) (hs : s.size ≤ 16777216) : Cc lf (d + 2) 90 [.s s] = some [.b (nameB s)] := by
  refine (f90_eq (Cc lf (d + 1)) lf s).trans ?_
  unfold f90 f90_t
  have L := all_loop (F := fun n j => f90_0 (Cc lf (d + 1)) lf s n j) (P := fun j => chB (byteAt s j)) (X := some [T.i .i64 0, T.b false]) (Y := some [T.i .i64 1, T.s s]) (len := s.size) (fun n j hj => by
    show f90_0_s (Cc lf (d + 1)) lf s _ _ = _
    unfold f90_0_s
    rw [iLt_t (by omega), inR_nat hj, wrap_next hj (by omega)]
    simp only [iLt_le, chB, bne_not, cond_not, cond_and, cond_or, cond_t]) (fun n => by
    show f90_0_s (Cc lf (d + 1)) lf s _ _ = _
    unfold f90_0_s
    rw [iLt_f (by omega)]
    rfl) (n := lf) (by omega)
  simp only at L ⊢
  rw [L]
  unfold nameB
  cases allB (fun j => chB (byteAt s j)) s.size with
  | false => rfl
  | true =>
    simp only [cond_t, Option.bind_some, nth0, nthS, asI_i, asB_b, asS_s, cond_not]
    rw [show ((1 : Int) == 0) = false from rfl, cond_f]
    cases iLe 1 (s.size : Int) <;> cases iLe (s.size : Int) 14 <;> cases (s.toList == (⟨#[46]⟩ : ByteArray).toList) <;> cases (s.toList == (⟨#[46, 46]⟩ : ByteArray).toList) <;> rfl
theorem c_clone {lf d : Nat} {l : List T} (h : l.length ≤ 1073741830) : Cc lf (d + 1) 123 [.sl l] = some [.sl l] := by
  show (bif nLe (0 + l.length) LIM then some [T.sl l] else none) = _
  rw [nLe_t (by unfold LIM; omega)]
  rfl
theorem c_iPutNum {lf d : Nat} (hlf : 33554432 ≤ lf) (b : List T) (n : Int) (hb : b.length ≤ 1073741824) : Cc lf (d + 2) 67 [.sl b, .i .i64 n] = some [.sl (b ++ numT (clampN n))] := by
  refine (f67_eq (Cc lf (d + 1)) lf b n).trans ?_
  unfold f67 f67_t
  dsimp only
  have hc := clampN_in n
  obtain ⟨y, l', h1, h2, h3, h4, h5⟩ := put_loop (F := fun n x l => f67_0 (Cc lf (d + 1)) lf n x l) (fun n x l h0 h1 hl => by
    rw [f67_0_u]
    unfold f67_0_s
    by_cases h : 127 < x
    · rw [iLe_t (by omega), if_pos h, nLe_app (by omega), Int.tdiv_eq_ediv_of_nonneg h0, Int.tmod_eq_emod_of_nonneg h0, wrap_in (x := x / 128) (by omega) (by omega), wrap_in (by omega) (by omega), wrap8 (by omega) (by omega)]
      rfl
    · rw [iLe_f (by omega), if_neg h]
      rfl) (n := lf) (by omega) (x := clampN n) (l := b) hc.1 hc.2 hb
  rw [c_clone (by omega), Option.bind_some, nth0, asL_l, show imax 0 (imin n 1000000) = clampN n by unfold imax imin clampN; split <;> split <;> (try split) <;> omega, h1]
  simp only [Option.bind_some, nth0, nthS, asL_l, asI_i]
  rw [nLe_app (by omega), wrap8 h3 (by omega), ← h2]
  rfl
theorem c_sPutNum {lf d : Nat} (hlf : 33554432 ≤ lf) (b : List T) (n : Int) (hb : b.length ≤ 1073741824) : Cc lf (d + 2) 79 [.sl b, .i .i64 n] = some [.sl (b ++ numT (clampN n))] := by
  refine (f79_eq (Cc lf (d + 1)) lf b n).trans ?_
  unfold f79 f79_t
  dsimp only
  have hc := clampN_in n
  have L : ∀ (n : Nat) (x : Int) (l : List T), 0 ≤ x → x ≤ 1000000 → l.length ≤ 1073741827 → f79_0 (Cc lf (d + 1)) lf (n + 1) x l = if 127 < x then f79_0 (Cc lf (d + 1)) lf n (x / 128) (l ++ [by8 (x % 128 + 128)]) else some [T.i .i64 0, T.i .i64 x, T.sl l] := fun n x l h0 h1 hl => by
    rw [f79_0_u]
    unfold f79_0_s
    by_cases h : 127 < x
    · rw [iLt_t h, if_pos h, nLe_app (by omega), and_mod h0 (by omega), or128 (by omega) (by omega), wrap8 (by omega) (by omega), show (7 : Int) = ((7 : Nat) : Int) from rfl, shr_div (by omega) h0]
      rfl
    · rw [iLt_f h, if_neg h]
      rfl
  have L2 : ∀ (n : Nat) (x : Int) (l : List T), 0 ≤ x → x ≤ 1000000 → l.length ≤ 1073741827 → f79_2 (Cc lf (d + 1)) lf (n + 1) x l = if 127 < x then f79_2 (Cc lf (d + 1)) lf n (x / 128) (l ++ [by8 (x % 128 + 128)]) else some [T.i .i64 0, T.i .i64 x, T.sl l] := fun n x l h0 h1 hl => by
    rw [f79_2_u]
    unfold f79_2_s
    by_cases h : 127 < x
    · rw [iLt_t h, if_pos h, nLe_app (by omega), and_mod h0 (by omega), or128 (by omega) (by omega), wrap8 (by omega) (by omega), show (7 : Int) = ((7 : Nat) : Int) from rfl, shr_div (by omega) h0]
      rfl
    · rw [iLt_f h, if_neg h]
      rfl
  rw [nLe_t (show ([] : List T).length + b.length ≤ LIM by unfold LIM; simp; omega), cond_true]
  by_cases hn : 1000000 < n
  · obtain ⟨y, l', h1, h2, h3, h4, h5⟩ := put_loop (F := fun n x l => f79_0 (Cc lf (d + 1)) lf n x l) L (n := lf) (by omega) (x := 1000000) (l := b) (by omega) (by omega) hb
    rw [iLt_t hn, cond_true, List.nil_append, h1]
    simp only [Option.bind_some, nth0, nthS, asL_l, asI_i]
    rw [nLe_app (by omega), wrap8 h3 (by omega), show clampN n = 1000000 by unfold clampN; rw [if_neg (by omega), if_pos (by omega)], ← h2]
    rfl
  · by_cases hm : n < 0
    · rw [iLt_f hn, cond_false, iLt_t hm, cond_true]
      obtain ⟨m, rfl⟩ : ∃ m, lf = m + 1 := ⟨lf - 1, by omega⟩
      show ((some [T.i .i64 0, T.i .i64 0, T.sl (([] : List T) ++ b)] : Option (List T)).bind _) = _
      simp only [Option.bind_some, nth0, nthS, asL_l, asI_i, List.nil_append]
      rw [nLe_app (by omega), show clampN n = 0 by unfold clampN; rw [if_pos hm]]
      rfl
    · obtain ⟨y, l', h1, h2, h3, h4, h5⟩ := put_loop (F := fun n x l => f79_2 (Cc lf (d + 1)) lf n x l) L2 (n := lf) (by omega) (x := n) (l := b) (by omega) (by omega) hb
      rw [iLt_f hn, cond_false, iLt_f hm, cond_false, List.nil_append, h1]
      simp only [Option.bind_some, nth0, nthS, asL_l, asI_i]
      rw [nLe_app (by omega), wrap8 h3 (by omega), clampN_id (by omega) (by omega), ← h2]
      rfl
theorem c_iPutText {lf d : Nat} (hlf : 33554432 ≤ lf) (b : List T) (s : ByteArray) (hb : b.length ≤ 1073741824) (hs : s.size ≤ 1073741824) : Cc lf (d + 3) 82 [.sl b, .s s] = some [.sl (b ++ textT s)] := by
  refine (f82_eq (Cc lf (d + 2)) lf b s).trans ?_
  unfold f82 f82_t
  have h1 := numT_len (clampN (s.size : Int))
  rw [c_iPutNum hlf _ _ hb, Option.bind_some, nth0, asL_l, nLe_t (by unfold LIM; rw [List.length_append, listOf_len]; omega), cond_t, List.append_assoc]
  rfl
theorem c_sPutText {lf d : Nat} (hlf : 33554432 ≤ lf) (b : List T) (s : ByteArray) (hb : b.length ≤ 1073741824) (hs : s.size ≤ 1073741824) : Cc lf (d + 3) 80 [.sl b, .s s] = some [.sl (b ++ textT s)] := by
  refine (f80_eq (Cc lf (d + 2)) lf b s).trans ?_
  unfold f80 f80_t
  have h1 := numT_len (clampN (s.size : Int))
  rw [c_sPutNum hlf _ _ hb, Option.bind_some, nth0, asL_l, nLe_t (by unfold LIM; rw [List.length_append, listOf_len]; omega), cond_t, List.append_assoc]
  rfl
theorem c_sGetNum {lf d : Nat} (hlf : 33554432 ≤ lf) {b : List T} (hb : byt b) (hl : b.length ≤ 1073741824) (p : Nat) (hp : p ≤ 1073741824) : Cc lf (d + 1) 126 [.sl b, .i .i64 (p : Int)] = some (getR (getNum b p)) := by
  refine (f126_eq (Cc lf d) lf b p).trans ?_
  unfold f126 f126_t
  dsimp only
  have B : ∀ j, j < b.length → 0 ≤ asI (b.getD j .u) ∧ asI (b.getD j .u) < 256 := fun j hj => by
    obtain ⟨n, e, h⟩ := byt_at hb hj
    rw [e]; exact h
  have L := getNum_loop (b := b) (p := p) (F := fun n x k => f126_0 (Cc lf d) lf b p n x k) (X := some [T.i .i64 0, T.i .i64 0, T.i .i64 0, T.b false]) (Z := some [T.i .i64 1]) (Y := fun v q => some [T.i .i64 0, T.i .i64 v, T.i .i64 (q : Int), T.b true]) hb (fun n x k hk hpk h0 h1 => by
    have hc := B _ hpk
    have hw : IntKind.wrap .u64 (IntKind.wrap .i64 (7 * (k : Int))) = ((7 * k : Nat) : Int) := by
      rcases (by omega : k = 0 ∨ k = 1 ∨ k = 2) with rfl | rfl | rfl <;> rfl
    have hpw : ((2 ^ (7 * k) : Nat) : Int) = 128 ^ k := by
      rcases (by omega : k = 0 ∨ k = 1 ∨ k = 2) with rfl | rfl | rfl <;> rfl
    rw [f126_0_u]
    unfold f126_0_s
    rw [iLt_t (by omega), iLe_t (by omega), iLt_t (by omega), wrap_in (x := (p : Int) + (k : Int)) (by omega) (by omega), iLt_t (by omega), inR_t (by omega) (by omega), hw, iLe_t (by omega), show ((p : Int) + (k : Int)).toNat = p + k by omega, wrap_in (x := asI (b.getD (p + k) .u)) (by omega) (by omega), and_mod hc.1 (by omega),
      shl_mul (by omega) (by omega) (by omega), or_add (k := 7 * k) h0 (by rw [hpw]; exact h1) (by omega) (by omega) (by omega), hpw, wrap_in (x := (k : Int) + 1) (by omega) (by omega), wrap_in (x := (p : Int) + (k : Int) + 1) (by omega) (by omega)]
    simp only [cond_t]
    by_cases c0 : 128 ≤ asI (b.getD (p + k) .u)
    · rw [iLt_t (by omega), if_pos c0]
      rfl
    · rw [iLt_f (by omega), if_neg c0, Int.emod_eq_of_lt hc.1 (by omega)]
      simp only [cond_f]
      by_cases k0 : k = 0
      · subst k0
        rw [iLt_f (by omega)]
        by_cases m : 1000000 < x + asI (b.getD (p + 0) .u) * 128 ^ 0
        · rw [iLt_t m, if_pos (.inr m)]; rfl
        · rw [iLt_f m, if_neg (by omega)]; rfl
      · rw [iLt_t (by omega)]
        by_cases z : asI (b.getD (p + k) .u) = 0
        · rw [if_pos (.inl ⟨k0, z⟩), z]; rfl
        · rw [show (asI (b.getD (p + k) .u) == 0) = false from by simpa using z]
          by_cases m : 1000000 < x + asI (b.getD (p + k) .u) * 128 ^ k
          · rw [iLt_t m, if_pos (.inr m)]; rfl
          · rw [iLt_f m, if_neg (by rintro (h | h); exact z h.2; exact m h)]; rfl) (fun n x k hk3 hk => by
    rw [f126_0_u]
    unfold f126_0_s
    by_cases k3 : k < 3
    · rw [iLt_t (by omega), iLe_t (by omega)]
      by_cases h : p < b.length
      · rw [iLt_t (by omega), wrap_in (x := (p : Int) + (k : Int)) (by omega) (by omega), iLt_f (by omega)]; rfl
      · rw [iLt_f (by omega)]; rfl
    · rw [iLt_f (by omega)]; rfl) (n := lf) (by omega)
  rcases L with ⟨h1, h2 | h2⟩ | ⟨v, q, h1, h2⟩
  · rw [show ((0 : Nat) : Int) = 0 from rfl] at h2; rw [h1, h2]; rfl
  · rw [show ((0 : Nat) : Int) = 0 from rfl] at h2; rw [h1, h2]; rfl
  · rw [show ((0 : Nat) : Int) = 0 from rfl] at h2; rw [h1, h2]; rfl
theorem c_iGetNum {lf d : Nat} (hlf : 33554432 ≤ lf) {b : List T} (hb : byt b) (hl : b.length ≤ 1073741824) (p : Nat) (hp : p ≤ 1073741824) : Cc lf (d + 1) 125 [.sl b, .i .i64 (p : Int)] = some (getR (getNum b p)) := by
  refine (f125_eq (Cc lf d) lf b p).trans ?_
  unfold f125 f125_t
  dsimp only
  have B : ∀ j, j < b.length → 0 ≤ asI (b.getD j .u) ∧ asI (b.getD j .u) < 256 := fun j hj => by
    obtain ⟨n, e, h⟩ := byt_at hb hj
    rw [e]; exact h
  have L := getNum_loop (b := b) (p := p) (F := fun n x k => f125_0 (Cc lf d) lf b p n x (128 ^ k) k) (X := some [T.i .i64 0]) (Z := some [T.i .i64 0]) (Y := fun v q => some [T.i .i64 1, T.i .i64 v, T.i .i64 (q : Int), T.b true]) hb (fun n x k hk hpk h0 h1 => by
    have hc := B _ hpk
    have hm := Int.emod_nonneg (asI (b.getD (p + k) .u)) (show (128 : Int) ≠ 0 by omega)
    have hm2 := Int.emod_lt_of_pos (asI (b.getD (p + k) .u)) (show (0 : Int) < 128 by omega)
    have hk3 : k = 0 ∨ k = 1 ∨ k = 2 := by omega
    have hpw : 1 ≤ (128 : Int) ^ k ∧ (128 : Int) ^ k ≤ 16384 ∧ (128 : Int) ^ k * 128 = 128 ^ (k + 1) ∧ 0 ≤ asI (b.getD (p + k) .u) % 128 * 128 ^ k ∧ asI (b.getD (p + k) .u) % 128 * 128 ^ k ≤ 2097152 := by
      rcases hk3 with rfl | rfl | rfl
      · refine ⟨by decide, by decide, by decide, ?_, ?_⟩ <;> rw [Int.pow_zero] <;> omega
      · refine ⟨by decide, by decide, by decide, ?_, ?_⟩ <;> rw [Int.pow_one] <;> omega
      · have e : (128 : Int) ^ 2 = 16384 := rfl
        refine ⟨by decide, by decide, by decide, ?_, ?_⟩ <;> rw [e] <;> omega
    rw [f125_0_u]
    unfold f125_0_s
    rw [iLt_t (by omega), wrap_in (x := (b.length : Int) - (k : Int)) (by omega) (by omega), iLt_t (by omega), wrap_in (x := (p : Int) + (k : Int)) (by omega) (by omega), inR_t (by omega) (by omega), show ((p : Int) + (k : Int)).toNat = p + k by omega, wrap_in (x := asI (b.getD (p + k) .u)) (by omega) (by omega), Int.tmod_eq_emod_of_nonneg hc.1,
      wrap_in (x := asI (b.getD (p + k) .u) % 128 * 128 ^ k) (by omega) (by omega), wrap_in (x := x + asI (b.getD (p + k) .u) % 128 * 128 ^ k) (by omega) (by omega), wrap_in (x := (128 : Int) ^ k * 128) (by omega) (by omega), hpw.2.2.1, wrap_in (x := (k : Int) + 1) (by omega) (by omega), wrap_in (x := (p : Int) + (k : Int) + 1) (by omega) (by omega)]
    simp only [cond_t]
    by_cases c0 : 128 ≤ asI (b.getD (p + k) .u)
    · rw [iLe_t c0, if_pos c0]
      rfl
    · rw [iLe_f c0, if_neg c0, Int.emod_eq_of_lt hc.1 (by omega)]
      simp only [cond_f]
      by_cases m : 1000000 < x + asI (b.getD (p + k) .u) * 128 ^ k
      · rw [iLt_t m, if_pos (.inr m)]; rfl
      · rw [iLt_f m]
        by_cases z : asI (b.getD (p + k) .u) = 0
        · by_cases k0 : k = 0
          · subst k0
            rw [if_neg (by omega), iLt_f (by omega), show (asI (b.getD (p + 0) .u) == 0) = true by rw [z]; rfl]; rfl
          · rw [if_pos (.inl ⟨k0, z⟩), iLt_t (by omega), show (asI (b.getD (p + k) .u) == 0) = true by rw [z]; rfl]; rfl
        · rw [if_neg (by rintro (h | h); exact z h.2; exact m h), show (asI (b.getD (p + k) .u) == 0) = false from by simpa using z]; rfl) (fun n x k hk3 hk => by
    rw [f125_0_u]
    unfold f125_0_s
    by_cases k3 : k < 3
    · rw [iLt_t (by omega), wrap_in (x := (b.length : Int) - (k : Int)) (by omega) (by omega), iLt_f (by omega)]; rfl
    · rw [iLt_f (by omega)]; rfl) (n := lf) (by omega)
  rw [iLt_f (by omega), cond_f]
  rcases L with ⟨h1, h2 | h2⟩ | ⟨v, q, h1, h2⟩
  · rw [Int.pow_zero, show ((0 : Nat) : Int) = 0 from rfl] at h2; rw [h1, h2]; rfl
  · rw [Int.pow_zero, show ((0 : Nat) : Int) = 0 from rfl] at h2; rw [h1, h2]; rfl
  · rw [Int.pow_zero, show ((0 : Nat) : Int) = 0 from rfl] at h2; rw [h1, h2]; rfl
theorem c_iNum {lf d : Nat} (hlf : 33554432 ≤ lf) {b : List T} (hb : byt b) (hl : b.length ≤ 1073741824) {s : Option Nat} {p : Int} {ok : Bool} (h : RI b s p ok) :
    ∃ p' ok', Cc lf (d + 2) 72 [.st [.sl b, .i .i64 p, .b ok]] = some [.i .i64 (rd b s).1, .st [.sl b, .i .i64 p', .b ok']] ∧ RI b (rd b s).2 p' ok' := by
  have E := f72_eq (Cc lf (d + 1)) lf b p ok
  unfold f72 f72_t at E
  obtain ⟨rfl, h2⟩ := h
  cases s with
  | none => exact ⟨p, false, E, rfl, fun q hq => by cases hq⟩
  | some q =>
    obtain ⟨rfl, hq⟩ := h2 q rfl
    rw [c_iGetNum hlf hb hl q (by omega)] at E
    simp only [rd]
    cases e : getNum b q with
    | none => rw [e] at E; exact ⟨0, false, E, rfl, fun q hq => by cases hq⟩
    | some x =>
      obtain ⟨n, q2⟩ := x
      rw [e] at E
      exact ⟨q2, true, E, rfl, fun q hq => by cases hq; exact ⟨rfl, (getNum_in hb e).2.2.2⟩⟩
theorem c_sNum {lf d : Nat} (hlf : 33554432 ≤ lf) {b : List T} (hb : byt b) (hl : b.length ≤ 1073741824) {s : Option Nat} {p : Int} {bad : Bool} (h : RS b s p bad) :
    ∃ p' bad', Cc lf (d + 2) 75 [.st [.sl b, .i .i64 p, .b bad]] = some [.i .i64 (rd b s).1, .st [.sl b, .i .i64 p', .b bad']] ∧ RS b (rd b s).2 p' bad' := by
  have E := f75_eq (Cc lf (d + 1)) lf b p bad
  unfold f75 f75_t at E
  obtain ⟨rfl, h2, q0, rfl, hq0⟩ := h
  rw [c_sGetNum hlf hb hl q0 (by omega)] at E
  cases s with
  | none => exact ⟨q0, true, E, rfl, (fun q hq => by cases hq), q0, rfl, hq0⟩
  | some q =>
    have e0 : q0 = q := by have := h2 q rfl; omega
    subst e0
    simp only [rd]
    cases e : getNum b q0 with
    | none => rw [e] at E; exact ⟨q0, true, E, rfl, (fun q hq => by cases hq), q0, rfl, hq0⟩
    | some x =>
      obtain ⟨n, q2⟩ := x
      rw [e] at E
      exact ⟨q2, false, E, rfl, (fun q hq => by cases hq; rfl), q2, rfl, (getNum_in hb e).2.2.2⟩
theorem c_iCount {lf d : Nat} (hlf : 33554432 ≤ lf) {b : List T} (hb : byt b) (hl : b.length ≤ 1073741824) {s : Option Nat} {p : Int} {ok : Bool} (h : RI b s p ok) :
    ∃ p' ok', Cc lf (d + 3) 73 [.st [.sl b, .i .i64 p, .b ok]] = some [.i .i64 (rdC b s).1, .st [.sl b, .i .i64 p', .b ok']] ∧ RI b (rdC b s).2 p' ok' := by
  have E := f73_eq (Cc lf (d + 2)) lf b p ok
  unfold f73 f73_t at E
  obtain ⟨p', ok', h1, h2⟩ := c_iNum (d := d) hlf hb hl h
  rw [h1] at E
  simp only [Option.bind_some, nth0, nthS, asI_i, asB_b, cell0, cellS] at E
  obtain ⟨rfl, h3⟩ := h2
  have hz := @rd_zero b s
  unfold rdC
  generalize hr : rd b s = r at *
  obtain ⟨n, s'⟩ := r
  cases s' with
  | none =>
    have : n = 0 := hz rfl
    subst this
    cases c : iLt (IntKind.wrap .i64 ((b.length : Int) - p')) 0 with
    | true => rw [c] at E; exact ⟨p', false, E, rfl, fun q hq => by cases hq⟩
    | false => rw [c] at E; exact ⟨p', false, E, rfl, fun q hq => by cases hq⟩
  | some q =>
    obtain ⟨rfl, hq⟩ := h3 q rfl
    rw [wrap_in (by omega) (by omega)] at E
    simp only
    by_cases c : n > (b.length : Int) - q
    · rw [iLt_t c] at E
      rw [if_pos c]
      exact ⟨q, false, E, rfl, fun q hq => by cases hq⟩
    · rw [iLt_f c] at E
      rw [if_neg c]
      exact ⟨q, true, E, rfl, fun q2 hq2 => by cases hq2; exact ⟨rfl, hq⟩⟩
theorem c_iDone {lf d : Nat} {b : List T} {s : Option Nat} {p : Int} {ok : Bool} (h : RI b s p ok) :
    ∃ t, Cc lf (d + 1) 74 [.st [.sl b, .i .i64 p, .b ok]] = some [.b (s == some b.length), t] := by
  have E := f74_eq (Cc lf d) lf b p ok
  unfold f74 f74_t at E
  obtain ⟨rfl, h2⟩ := h
  cases s with
  | none => exact ⟨_, E⟩
  | some q =>
    obtain ⟨rfl, _⟩ := h2 q rfl
    have e : ((q : Int) == (b.length : Int)) = (some q == some b.length) := by
      rw [Bool.eq_iff_iff]
      simp
      omega
    exact ⟨_, by rw [← e]; exact E⟩
/-- What reading a text answers. -/
def getTR : ByteArray × Option Nat → List T
  | (s, some q) => [.s s, .i .i64 (q : Int), .b true]
  | (_, none) => [.s ⟨#[]⟩, .i .i64 0, .b false]
theorem getText_aux {b : List T} (hb : byt b) (hl : b.length ≤ 1073741824) (p : Nat) : ((some (getR (getNum b p)) : Option (List T)).bind fun r =>
  bif !(asB (nth r 2)) then
    some [T.s (⟨#[]⟩ : ByteArray), T.i .i64 0, T.b false]
  else
    bif iLt (IntKind.wrap .i64 ((b.length : Int) - (asI (nth r 1)))) (asI (nth r 0)) then
      some [T.s (⟨#[]⟩ : ByteArray), T.i .i64 0, T.b false]
    else
      bif iLe 0 (asI (nth r 1)) && iLe (asI (nth r 1)) (IntKind.wrap .i64 ((asI (nth r 1)) + (asI (nth r 0)))) && iLe (IntKind.wrap .i64 ((asI (nth r 1)) + (asI (nth r 0)))) (b.length : Int) then
      some [T.s (bytesOf ((b.drop ((asI (nth r 1)).toNat)).take (((IntKind.wrap .i64 ((asI (nth r 1)) + (asI (nth r 0)))).toNat) - ((asI (nth r 1)).toNat)))), T.i .i64 (IntKind.wrap .i64 ((asI (nth r 1)) + (asI (nth r 0)))), T.b true]
      else none) = some (getTR (rdS b (some p))) := by
  unfold rdS
  simp only [rd]
  cases e : getNum b p with
  | none => rfl
  | some x =>
    obtain ⟨n, q⟩ := x
    obtain ⟨h0, h1, h2, h3⟩ := getNum_in hb e
    simp only [getR, Option.bind_some, nth0, nthS, asI_i, asB_b, Bool.not_true, cond_f]
    rw [wrap_in (x := (b.length : Int) - q) (by omega) (by omega), wrap_in (x := (q : Int) + n) (by omega) (by omega)]
    by_cases c : n > (b.length : Int) - q
    · rw [iLt_t c, if_pos c]; rfl
    · rw [iLt_f c, if_neg c, cond_f, iLe_t (by omega), iLe_t (by omega), iLe_t (by omega)]
      rw [show ((q : Int)).toNat = q from rfl, show ((q : Int) + n).toNat - q = n.toNat by omega, show (q : Int) + n = ((q + n.toNat : Nat) : Int) by omega]
      rfl
theorem c_iGetText {lf d : Nat} (hlf : 33554432 ≤ lf) {b : List T} (hb : byt b) (hl : b.length ≤ 1073741824) (p : Nat) (hp : p ≤ 1073741824) : Cc lf (d + 2) 132 [.sl b, .i .i64 (p : Int)] = some (getTR (rdS b (some p))) := by
  refine (f132_eq (Cc lf (d + 1)) lf b p).trans ?_
  unfold f132 f132_t
  rw [c_iGetNum hlf hb hl p hp]
  exact getText_aux hb hl p
theorem c_sGetText {lf d : Nat} (hlf : 33554432 ≤ lf) {b : List T} (hb : byt b) (hl : b.length ≤ 1073741824) (p : Nat) (hp : p ≤ 1073741824) : Cc lf (d + 2) 139 [.sl b, .i .i64 (p : Int)] = some (getTR (rdS b (some p))) := by
  refine (f139_eq (Cc lf (d + 1)) lf b p).trans ?_
  unfold f139 f139_t
  rw [c_sGetNum hlf hb hl p hp]
  exact getText_aux hb hl p
theorem c_iText {lf d : Nat} (hlf : 33554432 ≤ lf) {b : List T} (hb : byt b) (hl : b.length ≤ 1073741824) {s : Option Nat} {p : Int} {ok : Bool} (h : RI b s p ok) :
    ∃ p' ok', Cc lf (d + 3) 91 [.st [.sl b, .i .i64 p, .b ok]] = some [.s (rdS b s).1, .st [.sl b, .i .i64 p', .b ok']] ∧ RI b (rdS b s).2 p' ok' := by
  have E := f91_eq (Cc lf (d + 2)) lf b p ok
  unfold f91 f91_t at E
  obtain ⟨rfl, h2⟩ := h
  cases s with
  | none => exact ⟨p, false, E, rfl, fun q hq => by cases hq⟩
  | some q =>
    obtain ⟨rfl, hq⟩ := h2 q rfl
    rw [c_iGetText hlf hb hl q (by omega)] at E
    have hn := @rdS_next b hb (some q)
    have hs : (rdS b (some q)).2 = none → (rdS b (some q)).1 = ⟨#[]⟩ := by
      intro h
      unfold rdS at h ⊢
      split
      · rename_i n q' e
        rw [e] at h
        simp only at h
        split at h
        · rename_i c; rw [if_pos c]
        · cases h
      · rfl
    generalize rdS b (some q) = r at *
    obtain ⟨s, q2⟩ := r
    cases q2 with
    | none =>
      have := hs rfl
      simp only at this
      subst this
      exact ⟨0, false, E, rfl, fun q hq => by cases hq⟩
    | some q2 => exact ⟨q2, true, E, rfl, fun q hq => by cases hq; obtain ⟨_, _, _, h⟩ := hn rfl; exact ⟨rfl, h⟩⟩
theorem c_sText {lf d : Nat} (hlf : 33554432 ≤ lf) {b : List T} (hb : byt b) (hl : b.length ≤ 1073741824) {s : Option Nat} {p : Int} {bad : Bool} (h : RS b s p bad) :
    ∃ p' bad', Cc lf (d + 3) 101 [.st [.sl b, .i .i64 p, .b bad]] = some [.s (rdS b s).1, .st [.sl b, .i .i64 p', .b bad']] ∧ RS b (rdS b s).2 p' bad' := by
  have E := f101_eq (Cc lf (d + 2)) lf b p bad
  unfold f101 f101_t at E
  obtain ⟨rfl, h2, q0, rfl, hq0⟩ := h
  rw [c_sGetText hlf hb hl q0 (by omega)] at E
  cases s with
  | none => exact ⟨q0, true, E, rfl, (fun q hq => by cases hq), q0, rfl, hq0⟩
  | some q =>
    have e0 : q0 = q := by have := h2 q rfl; omega
    subst e0
    have hn := @rdS_next b hb (some q0)
    have hs : (rdS b (some q0)).2 = none → (rdS b (some q0)).1 = ⟨#[]⟩ := by
      intro h
      unfold rdS at h ⊢
      split
      · rename_i n q' e
        rw [e] at h
        simp only at h
        split at h
        · rename_i c; rw [if_pos c]
        · cases h
      · rfl
    generalize rdS b (some q0) = r at *
    obtain ⟨s, q2⟩ := r
    cases q2 with
    | none =>
      have := hs rfl
      simp only at this
      subst this
      exact ⟨q0, true, E, rfl, (fun q hq => by cases hq), q0, rfl, hq0⟩
    | some q2 => exact ⟨q2, false, E, rfl, (fun q hq => by cases hq; rfl), q2, rfl, by obtain ⟨_, _, _, h⟩ := hn rfl; exact h⟩
def lessB (l : List T) (j : Nat) : Bool := !iLt 0 (j : Int) || Op.bytesLess (asS (T.cell (l.getD (j - 1) T.u) 0)).toList (asS (T.cell (l.getD j T.u) 0)).toList
def entB (l : List T) (j : Nat) : Bool := nameB (asS (T.cell (l.getD j T.u) 0)) && ((iLe 2 (asI (T.cell (l.getD j T.u) 1)) && iLe (asI (T.cell (l.getD j T.u) 1)) 1000) && lessB l j)
def attrB (l : List T) (j : Nat) : Bool := nameB (asS (T.cell (l.getD j T.u) 0)) && ((iLe 1 ((asS (T.cell (l.getD j T.u) 1)).size : Int) && iLe ((asS (T.cell (l.getD j T.u) 1)).size : Int) 16) && lessB l j)
def entsB (l : List T) : Bool := allB (entB l) l.length && iLe (l.length : Int) 10
def attrsB (l : List T) : Bool := allB (attrB l) l.length && iLe (l.length : Int) 4
def inodeB (ino kind links : Int) (data ents attrs : List T) : Bool :=
  (iLe 1 ino && iLe ino 1000) && ((iLe 0 links && iLe links 1000) && (((links == 0) == (ino == 1)) && (!iLt 100 (data.length : Int) && (entsB ents && (attrsB attrs &&
    bif kind == 1 then ((ents.length : Int) == 0) else bif kind == 2 then ((data.length : Int) == 0) && iLe links 1 else false)))))
theorem c_sEnts {lf d : Nat} (hlf : 33554432 ≤ lf) (l : List T) (hs : l.length + tls l ≤ 16777216) : Cc lf (d + 3) 87 [.sl l] = some [.b (entsB l)] := by
  refine (f87_eq (Cc lf (d + 2)) lf l).trans ?_
  unfold f87 f87_t
  dsimp only
  have L := all_loop (F := fun n j => f87_0 (Cc lf (d + 2)) lf l n j) (P := entB l) (X := some [T.i .i64 0, T.b false]) (Y := some [T.i .i64 1, T.sl l]) (len := l.length) (fun n j hj => by
    have hn := cellS_le (l := l) (j := j) 0
    rw [f87_0_u]
    unfold f87_0_s
    rw [iLt_t (by omega), inR_nat hj, wrap_next hj (by omega)]
    simp only [Int.toNat_natCast, c_sName hlf _ (show (asS (T.cell (l.getD j T.u) 0)).size ≤ 16777216 by omega), c_l1In, Option.bind_some, nth0, asB_b, entB, lessB, cond_not, cond_and, cond_or, cond_t]
    cases h0 : iLt 0 (j : Int) with
    | true =>
      have hj0 : 0 < j := by have := iLt_iff.1 h0; omega
      rw [wrap_pred hj0 (by omega), inR_nat (by omega)]
      simp only [cond_t, Int.toNat_natCast]
    | false => rfl) (fun n => by
    rw [f87_0_u]
    unfold f87_0_s
    rw [iLt_f (by omega)]
    rfl) (n := lf) (by omega)
  rw [show ((0 : Int)) = 0 from rfl] at L
  rw [L]
  unfold entsB
  cases allB (entB l) l.length <;> rfl
theorem c_sAttrs {lf d : Nat} (hlf : 33554432 ≤ lf) (l : List T) (hs : l.length + tls l ≤ 16777216) : Cc lf (d + 3) 88 [.sl l] = some [.b (attrsB l)] := by
  refine (f88_eq (Cc lf (d + 2)) lf l).trans ?_
  unfold f88 f88_t
  dsimp only
  have L := all_loop (F := fun n j => f88_0 (Cc lf (d + 2)) lf l n j) (P := attrB l) (X := some [T.i .i64 0, T.b false]) (Y := some [T.i .i64 1, T.sl l]) (len := l.length) (fun n j hj => by
    have hn := cellS_le (l := l) (j := j) 0
    rw [f88_0_u]
    unfold f88_0_s
    rw [iLt_t (by omega), inR_nat hj, wrap_next hj (by omega)]
    simp only [Int.toNat_natCast, c_sName hlf _ (show (asS (T.cell (l.getD j T.u) 0)).size ≤ 16777216 by omega), c_l1In, Option.bind_some, nth0, asB_b, attrB, lessB, cond_not, cond_and, cond_or, cond_t]
    cases h0 : iLt 0 (j : Int) with
    | true =>
      have hj0 : 0 < j := by have := iLt_iff.1 h0; omega
      rw [wrap_pred hj0 (by omega), inR_nat (by omega)]
      simp only [cond_t, Int.toNat_natCast]
    | false => rfl) (fun n => by
    rw [f88_0_u]
    unfold f88_0_s
    rw [iLt_f (by omega)]
    rfl) (n := lf) (by omega)
  rw [L]
  unfold attrsB
  cases allB (attrB l) l.length <;> rfl
theorem c_iAttrs {lf d : Nat} (hlf : 33554432 ≤ lf) (l : List T) (hs : l.length + tls l ≤ 16777216) : Cc lf (d + 3) 89 [.sl l] = some [.b (attrsB l)] := by
  refine (f89_eq (Cc lf (d + 2)) lf l).trans ?_
  unfold f89 f89_t
  dsimp only
  have L := all_loop (F := fun n j => f89_0 (Cc lf (d + 2)) lf l n j) (P := attrB l) (X := some [T.i .i64 0, T.b false]) (Y := some [T.i .i64 1, T.sl l]) (len := l.length) (fun n j hj => by
    have hn := cellS_le (l := l) (j := j) 0
    rw [f89_0_u]
    unfold f89_0_s
    rw [iLt_t (by omega), inR_nat hj, wrap_next hj (by omega)]
    simp only [Int.toNat_natCast, c_iName hlf _ (show (asS (T.cell (l.getD j T.u) 0)).size ≤ 16777216 by omega), c_from, Option.bind_some, nth0, asB_b, attrB, lessB, cond_not, cond_and, cond_or, cond_t]
    cases h0 : iLt 0 (j : Int) with
    | true =>
      have hj0 : 0 < j := by have := iLt_iff.1 h0; omega
      rw [wrap_pred hj0 (by omega), inR_nat (by omega)]
      simp only [cond_t, Int.toNat_natCast]
    | false => rfl) (fun n => by
    rw [f89_0_u]
    unfold f89_0_s
    rw [iLt_f (by omega)]
    rfl) (n := lf) (by omega)
  rw [L]
  unfold attrsB
  cases allB (attrB l) l.length <;> rfl
theorem c_sInodeOk {lf d : Nat} (hlf : 33554432 ≤ lf) (ino kind links : Int) (data ents attrs : List T) (he : ents.length + tls ents ≤ 16777216) (ha : attrs.length + tls attrs ≤ 16777216) :
    Cc lf (d + 4) 34 [.st [.i .i64 ino, .i .i64 kind, .i .i64 links, .sl data, .sl ents, .sl attrs]] = some [.b (inodeB ino kind links data ents attrs)] := by
  refine (f34_eq (Cc lf (d + 3)) lf ino kind links data ents attrs).trans ?_
  unfold f34 f34_t
  simp only [c_l1In, c_sEnts hlf ents he, c_sAttrs hlf attrs ha, Option.bind_some, nth0, asB_b, cond_st]
  refine congrArg (fun b => some [T.b b]) ?_
  unfold inodeB
  generalize (iLe 1 ino && iLe ino 1000) = b1
  generalize (iLe 0 links && iLe links 1000) = b2
  generalize ((links == 0) == (ino == 1)) = b3
  generalize iLt 100 (data.length : Int) = b4
  generalize entsB ents = b5
  generalize attrsB attrs = b6
  generalize (kind == 1) = b7
  generalize (kind == 2) = b8
  generalize ((data.length : Int) == 0) = b9
  generalize ((ents.length : Int) == 0) = b10
  generalize iLe links 1 = b11
  cases b1 <;> cases b2 <;> cases b3 <;> cases b4 <;> cases b5 <;> cases b6 <;> first | rfl | (cases b7 <;> cases b8 <;> cases b9 <;> rfl)
theorem c_iInodeOk {lf d : Nat} (hlf : 33554432 ≤ lf) (ino kind links : Int) (data ents attrs : List T) (he : ents.length + tls ents ≤ 16777216) (ha : attrs.length + tls attrs ≤ 16777216) :
    Cc lf (d + 4) 35 [.st [.i .i64 ino, .i .i64 kind, .i .i64 links, .sl data, .sl ents, .sl attrs]] = some [.b (inodeB ino kind links data ents attrs)] := by
  refine (f35_eq (Cc lf (d + 3)) lf ino kind links data ents attrs).trans ?_
  unfold f35 f35_t
  dsimp only
  have L := all_loop (F := fun n j => f35_0 (Cc lf (d + 3)) lf data ents attrs ino kind links n j) (P := entB ents) (X := some [T.i .i64 0, T.b false]) (Y := some [T.i .i64 1, T.i .i64 ino, T.i .i64 kind, T.i .i64 links, T.sl data, T.sl ents, T.sl attrs]) (len := ents.length) (fun n j hj => by
    have hn := cellS_le (l := ents) (j := j) 0
    rw [f35_0_u]
    unfold f35_0_s
    rw [iLt_t (by omega), inR_nat hj, wrap_next hj (by omega)]
    simp only [Int.toNat_natCast, c_iName hlf _ (show (asS (T.cell (ents.getD j T.u) 0)).size ≤ 16777216 by omega), c_from, Option.bind_some, nth0, asB_b, entB, lessB, cond_not, cond_and, cond_or, cond_t]
    cases h0 : iLt 0 (j : Int) with
    | true =>
      have hj0 : 0 < j := by have := iLt_iff.1 h0; omega
      rw [wrap_pred hj0 (by omega), inR_nat (by omega)]
      simp only [cond_t, Int.toNat_natCast]
    | false => rfl) (fun n => by
    rw [f35_0_u]
    unfold f35_0_s
    rw [iLt_f (by omega)]
    rfl) (n := lf) (by omega)
  rw [L]
  have h10 : iLt 10 (ents.length : Int) = !iLe (ents.length : Int) 10 := iLt_le _ _
  unfold inodeB entsB
  cases allB (entB ents) ents.length with
  | false =>
    simp only [c_from, c_iAttrs hlf attrs ha, Option.bind_some, nth0, nthS, asB_b, asI_i, cond_f, cond_st, h10]
    rw [show ((0 : Int) == 0) = true from rfl]
    refine congrArg (fun b => some [T.b b]) ?_
    generalize (iLe 1 ino && iLe ino 1000) = b1
    generalize (iLe 0 links && iLe links 1000) = b2
    generalize ((links == 0) == (ino == 1)) = b3
    generalize iLt 100 (data.length : Int) = b4
    generalize iLe (ents.length : Int) 10 = b5
    generalize attrsB attrs = b6
    cases b1 <;> cases b2 <;> cases b3 <;> cases b4 <;> cases b5 <;> cases b6 <;> rfl
  | true =>
    simp only [c_from, c_iAttrs hlf attrs ha, Option.bind_some, nth0, nthS, asB_b, asI_i, asL_l, cond_t, cond_st, h10]
    rw [show ((1 : Int) == 0) = false from rfl]
    refine congrArg (fun b => some [T.b b]) ?_
    generalize (iLe 1 ino && iLe ino 1000) = b1
    generalize (iLe 0 links && iLe links 1000) = b2
    generalize ((links == 0) == (ino == 1)) = b3
    generalize iLt 100 (data.length : Int) = b4
    generalize iLe (ents.length : Int) 10 = b5
    generalize attrsB attrs = b6
    generalize (kind == 1) = b7
    generalize (kind == 2) = b8
    generalize ((data.length : Int) == 0) = b9
    generalize ((ents.length : Int) == 0) = b10
    generalize iLe links 1 = b11
    cases b1 <;> cases b2 <;> cases b3 <;> cases b4 <;> cases b5 <;> cases b6 <;> first | rfl | (cases b7 <;> cases b8 <;> cases b9 <;> rfl)
def gEnt (b : List T) (s : Option Nat) : T × Option Nat := (.st [.s (rdS b s).1, .i .i64 (rd b (rdS b s).2).1], (rd b (rdS b s).2).2)
def gAttr (b : List T) (s : Option Nat) : T × Option Nat := (.st [.s (rdS b s).1, .s (rdS b (rdS b s).2).1], (rdS b (rdS b s).2).2)
theorem gEnt_next {b : List T} (hb : byt b) (p q : Nat) (h : (gEnt b (some p)).2 = some q) : p < q ∧ q ≤ b.length := by
  unfold gEnt at h
  obtain ⟨p1, e1, h1, h2, _⟩ := rd_next hb h
  obtain ⟨p2, e2, h3, h4⟩ := rdS_next hb e1
  cases e2
  omega
theorem gAttr_next {b : List T} (hb : byt b) (p q : Nat) (h : (gAttr b (some p)).2 = some q) : p < q ∧ q ≤ b.length := by
  unfold gAttr at h
  obtain ⟨p1, e1, h1, h2⟩ := rdS_next hb h
  obtain ⟨p2, e2, h3, h4⟩ := rdS_next hb e1
  cases e2
  omega
theorem gEnt_size {b : List T} (hb : byt b) (p : Nat) (hp : p ≤ b.length) : p + tl (gEnt b (some p)).1 ≤ b.length ∧ ∀ q, (gEnt b (some p)).2 = some q → p + tl (gEnt b (some p)).1 ≤ q ∧ q ≤ b.length := by
  have e : tl (gEnt b (some p)).1 = (rdS b (some p)).1.size := by simp only [gEnt, tl, tls]; omega
  obtain ⟨a1, a2⟩ := rdS_size hb hp
  rw [e]
  refine ⟨a1, fun q h => ?_⟩
  have hq := gEnt_next hb p q h
  unfold gEnt at h
  obtain ⟨p1, e1, h1, h2, _⟩ := rd_next hb h
  have := a2 p1 e1
  omega
theorem gAttr_size {b : List T} (hb : byt b) (p : Nat) (hp : p ≤ b.length) : p + tl (gAttr b (some p)).1 ≤ b.length ∧ ∀ q, (gAttr b (some p)).2 = some q → p + tl (gAttr b (some p)).1 ≤ q ∧ q ≤ b.length := by
  have e : tl (gAttr b (some p)).1 = (rdS b (some p)).1.size + (rdS b (rdS b (some p)).2).1.size := by simp only [gAttr, tl, tls]; omega
  obtain ⟨a1, a2⟩ := rdS_size hb hp
  rw [e]
  cases e1 : (rdS b (some p)).2 with
  | none =>
    refine ⟨by rw [rdS_none]; show p + ((rdS b (some p)).1.size + 0) ≤ _; omega, fun q h => ?_⟩
    unfold gAttr at h
    rw [e1] at h
    cases h
  | some p1 =>
    have h1 := a2 p1 e1
    obtain ⟨_, _, _, h2⟩ := rdS_next hb e1
    obtain ⟨b1, b2⟩ := rdS_size hb h2
    refine ⟨by omega, fun q h => ?_⟩
    have hq := gAttr_next hb p q h
    unfold gAttr at h
    rw [e1] at h
    have := b2 q h
    omega
theorem gtls {g : Option Nat → T × Option Nat} {b : List T} (h0 : tl (g none).1 = 0 ∧ (g none).2 = none) (h1 : ∀ p, p ≤ b.length → p + tl (g (some p)).1 ≤ b.length ∧ ∀ q, (g (some p)).2 = some q → p + tl (g (some p)).1 ≤ q ∧ q ≤ b.length) (k : Nat) (s : Option Nat) (hs : ∀ p, s = some p → p ≤ b.length) : tls (itemsI g k s).1 ≤ b.length ∧ tls (itemsS g k s).1 ≤ b.length := by
  obtain ⟨r1, r2⟩ := items_tls h0 h1 k s
  obtain ⟨t1, t2⟩ := itemsS_tls h1 k s
  cases s with
  | none => rw [r1 rfl, t1 rfl]; exact ⟨Nat.zero_le _, Nat.zero_le _⟩
  | some p => have := r2 p rfl (hs p rfl); have := t2 p rfl (hs p rfl); omega
theorem rdC_le' {b : List T} {s : Option Nat} (hb : byt b) : ∀ p, (rdC b s).2 = some p → p ≤ b.length := by
  intro p h
  cases e : (rd b s).2 with
  | none => rw [rdC_none e] at h; cases h
  | some q =>
    obtain ⟨_, _, _, h2, _⟩ := rd_next hb e
    rw [rdC_some (N := (rd b s).1) (p := q) (by rw [← e])] at h
    split at h
    · cases h
    · cases h; exact h2
theorem itemsI_le {g : Option Nat → T × Option Nat} {b : List T} (h0 : (g none).2 = none) (h1 : ∀ p q, (g (some p)).2 = some q → p < q ∧ q ≤ b.length) : ∀ (k : Nat) (s : Option Nat), (∀ p, s = some p → p ≤ b.length) → ∀ p, (itemsI g k s).2 = some p → p ≤ b.length
  | 0, s, hs, p, h => hs p h
  | k + 1, s, hs, p, h => itemsI_le h0 h1 k (g s).2 (fun q hq => by
    cases s with
    | none => rw [h0] at hq; cases hq
    | some p0 => exact (h1 p0 q hq).2) p h
def inoHead (b : List T) : (Int × Int × Int × ByteArray) × Option Nat :=
  (((rd b (some 0)).1, (rd b (rd b (some 0)).2).1, (rd b (rd b (rd b (some 0)).2).2).1, (rdS b (rd b (rd b (rd b (some 0)).2).2).2).1), (rdS b (rd b (rd b (rd b (some 0)).2).2).2).2)
def inoE (b : List T) (s : Option Nat) : List T × Option Nat := itemsI (gEnt b) (rdC b s).1.toNat (rdC b s).2
def inoA (b : List T) (s : Option Nat) : List T × Option Nat := itemsI (gAttr b) (rdC b s).1.toNat (rdC b s).2
/-- The inode that bytes are. -/
def getInodeB (b : List T) : Option (Int × Int × Int × List T × List T × List T) :=
  bif (inoA b (inoE b (inoHead b).2).2).2 == some b.length && inodeB (inoHead b).1.1 (inoHead b).1.2.1 (inoHead b).1.2.2.1 (listOf (inoHead b).1.2.2.2) (inoE b (inoHead b).2).1 (inoA b (inoE b (inoHead b).2).2).1 then
    some ((inoHead b).1.1, (inoHead b).1.2.1, (inoHead b).1.2.2.1, listOf (inoHead b).1.2.2.2, (inoE b (inoHead b).2).1, (inoA b (inoE b (inoHead b).2).2).1) else none
theorem inoE_size {b : List T} (hb : byt b) (hl : b.length ≤ 1048576) (s : Option Nat) : (inoE b s).1.length + tls (inoE b s).1 ≤ 16777216 := by
  have h1 := itemsI_len (g := gEnt b) (rdC b s).1.toNat (rdC b s).2
  have h2 := (gtls (g := gEnt b) (b := b) ⟨rfl, rfl⟩ (gEnt_size hb) (rdC b s).1.toNat (rdC b s).2 (rdC_le' hb)).1
  have h3 := rdC_in hb s
  unfold inoE
  omega
theorem inoA_size {b : List T} (hb : byt b) (hl : b.length ≤ 1048576) (s : Option Nat) : (inoA b s).1.length + tls (inoA b s).1 ≤ 16777216 := by
  have h1 := itemsI_len (g := gAttr b) (rdC b s).1.toNat (rdC b s).2
  have h2 := (gtls (g := gAttr b) (b := b) ⟨rfl, rfl⟩ (gAttr_size hb) (rdC b s).1.toNat (rdC b s).2 (rdC_le' hb)).1
  have h3 := rdC_in hb s
  unfold inoA
  omega
def getInodeR : Option (Int × Int × Int × List T × List T × List T) → List T
  | some (i, k, n, d, es, ats) => [.st [.i .i64 i, .i .i64 k, .i .i64 n, .sl d, .sl es, .sl ats], .b true]
  | none => [.st [.i .i64 0, .i .i64 0, .i .i64 0, .sl [], .sl [], .sl []], .b false]
theorem inodeB_len {i k n : Int} {d es ats : List T} (h : inodeB i k n d es ats = true) : d.length ≤ 100 ∧ es.length ≤ 10 ∧ ats.length ≤ 4 := by
  unfold inodeB entsB attrsB at h
  simp only [Bool.and_eq_true, iLe_iff, Bool.not_eq_true'] at h
  have : ¬ (100 : Int) < d.length := fun hc => by rw [iLt_t hc] at h; simp at h
  omega
theorem c_iRAttrs {lf d : Nat} (hlf : 33554432 ≤ lf) {b : List T} (hb : byt b) (hl : b.length ≤ 1048576) {s : Option Nat} {p : Int} {ok : Bool} (h : RI b s p ok) :
    ∃ p' ok', Cc lf (d + 4) 92 [.st [.sl b, .i .i64 p, .b ok]] = some [.sl (inoA b s).1, .st [.sl b, .i .i64 p', .b ok']] ∧ RI b (inoA b s).2 p' ok' := by
  have E := f92_eq (Cc lf (d + 3)) lf b p ok
  unfold f92 f92_t at E
  dsimp only at E
  obtain ⟨p2, ok2, e2, R2⟩ := c_iCount (d := d) hlf hb (by omega) h
  rw [e2] at E
  simp only [Option.bind_some, nth0, nthS, asI_i, asB_b, cell0, cellS] at E
  have hc := rdC_in hb s
  obtain ⟨N, hN⟩ := Int.eq_ofNat_of_zero_le hc.1
  obtain ⟨p3, ok3, e3, R3⟩ := loopI (g := gAttr b) (b := b) (N := N) (F := fun n j p ok acc => f92_0 (Cc lf (d + 3)) lf b [T.i .i64 (rdC b s).1, T.st [T.sl b, T.i .i64 p2, T.b ok2]] n j p ok acc)
    (Y := fun p ok acc => some [T.i .i64 0, T.sl b, T.i .i64 p, T.b ok, T.sl acc]) (by omega) (fun n j p ok acc s' hj hR ha => by
      obtain ⟨pa, oa, q1, Q1⟩ := c_iText (d := d) hlf hb (by omega) hR
      obtain ⟨pb, ob, q2, Q2⟩ := c_iText (d := d) hlf hb (by omega) Q1
      refine ⟨pb, ob, ?_, Q2⟩
      rw [f92_0_u]
      unfold f92_0_s
      rw [nth0, asI_i, hN, iLt_t (by omega), q1]
      simp only [cond_t, Option.bind_some, nth0, nthS, asI_i, asB_b, asS_s, cell0, cellS]
      rw [q2]
      simp only [cond_t, Option.bind_some, nth0, nthS, asI_i, asB_b, asS_s, cell0, cellS]
      rw [nLe_app (by omega), cond_t, wrap_in (by omega) (by omega)]
      rfl) (fun n p ok acc => by
      rw [f92_0_u]
      unfold f92_0_s
      rw [nth0, asI_i, hN, iLt_f (by omega)]
      rfl) (n := lf) (by omega) R2
  rw [e3] at E
  simp only [Option.bind_some, nth0, nthS, asI_i, asB_b, asL_l, cell0, cellS] at E
  unfold inoA
  rw [hN]
  exact ⟨p3, ok3, E, R3⟩
theorem c_iGetInode {lf d : Nat} (hlf : 33554432 ≤ lf) {b : List T} (hb : byt b) (hl : b.length ≤ 1048576) : Cc lf (d + 5) 36 [.sl b] = some (getInodeR (getInodeB b)) := by
  refine (f36_eq (Cc lf (d + 4)) lf b).trans ?_
  unfold f36 f36_t
  dsimp only
  obtain ⟨p0, ok0, e0, R0⟩ := c_iNum (d := d + 2) (s := some 0) (p := 0) (ok := true) hlf hb (by omega) ⟨rfl, fun q hq => by cases hq; exact ⟨rfl, Nat.zero_le _⟩⟩
  obtain ⟨p1, ok1, e1, R1⟩ := c_iNum (d := d + 2) hlf hb (by omega) R0
  obtain ⟨p2, ok2, e2, R2⟩ := c_iNum (d := d + 2) hlf hb (by omega) R1
  obtain ⟨p3, ok3, e3, R3⟩ := c_iText (d := d + 1) hlf hb (by omega) R2
  obtain ⟨p4, ok4, e4, R4⟩ := c_iCount (d := d + 1) hlf hb (by omega) R3
  have hd := rdS_len hb (rd b (rd b (rd b (some 0)).2).2).2
  rw [e0]
  simp only [Option.bind_some, nth0, nthS, asI_i, asB_b, asS_s, cell0, cellS]
  rw [e1]
  simp only [Option.bind_some, nth0, nthS, asI_i, asB_b, asS_s, cell0, cellS]
  rw [e2]
  simp only [Option.bind_some, nth0, nthS, asI_i, asB_b, asS_s, cell0, cellS]
  rw [e3]
  simp only [Option.bind_some, nth0, nthS, asI_i, asB_b, asS_s, cell0, cellS]
  rw [e4, nLe_t (show (rdS b (rd b (rd b (rd b (some 0)).2).2).2).1.size ≤ LIM by unfold LIM; omega)]
  simp only [cond_t, Option.bind_some, nth0, nthS, asI_i, asB_b, asS_s, cell0, cellS]
  unfold getInodeB
  have hH : inoHead b = (((rd b (some 0)).1, (rd b (rd b (some 0)).2).1, (rd b (rd b (rd b (some 0)).2).2).1, (rdS b (rd b (rd b (rd b (some 0)).2).2).2).1), (rdS b (rd b (rd b (rd b (some 0)).2).2).2).2) := rfl
  simp only [hH]
  clear hH hd
  generalize rd b (some 0) = i0 at *
  generalize rd b i0.2 = i1 at *
  generalize rd b i1.2 = i2 at *
  generalize rdS b i2.2 = i3 at *
  have hc := rdC_in hb i3.2
  obtain ⟨N, hN⟩ := Int.eq_ofNat_of_zero_le hc.1
  obtain ⟨p5, ok5, e5, R5⟩ := loopI (g := gEnt b) (b := b) (N := N) (F := fun n j p ok acc => f36_0 (Cc lf (d + 4)) lf b [T.i .i64 i0.1, T.st [T.sl b, T.i .i64 p0, T.b ok0]] [T.i .i64 i1.1, T.st [T.sl b, T.i .i64 p1, T.b ok1]] [T.i .i64 i2.1, T.st [T.sl b, T.i .i64 p2, T.b ok2]] [T.s i3.1, T.st [T.sl b, T.i .i64 p3, T.b ok3]] [T.i .i64 (rdC b i3.2).1, T.st [T.sl b, T.i .i64 p4, T.b ok4]] n j p ok acc)
    (Y := fun p ok acc => some [T.i .i64 0, T.i .i64 0, T.i .i64 0, T.i .i64 0, T.sl ([] : List T), T.sl ([] : List T), T.sl ([] : List T), T.sl b, T.i .i64 p, T.b ok, T.i .i64 i0.1, T.i .i64 i1.1, T.i .i64 i2.1, T.sl (listOf i3.1), T.sl acc, T.sl ([] : List T)]) (by omega) (fun n j p ok acc s' hj hR ha => by
      obtain ⟨pa, oa, q1, Q1⟩ := c_iText (d := d + 1) hlf hb (by omega) hR
      obtain ⟨pb, ob, q2, Q2⟩ := c_iNum (d := d + 2) hlf hb (by omega) Q1
      refine ⟨pb, ob, ?_, Q2⟩
      rw [f36_0_u]
      unfold f36_0_s
      simp only [nth0, nthS, asI_i, asS_s, hN]
      rw [iLt_t (by omega), q1]
      simp only [cond_t, Option.bind_some, nth0, nthS, asI_i, asB_b, asS_s, cell0, cellS]
      rw [q2]
      simp only [cond_t, Option.bind_some, nth0, nthS, asI_i, asB_b, asS_s, cell0, cellS]
      rw [nLe_app (by omega), cond_t, wrap_in (by omega) (by omega)]
      rfl) (fun n p ok acc => by
      rw [f36_0_u]
      unfold f36_0_s
      simp only [nth0, nthS, asI_i, asS_s, hN]
      rw [iLt_f (by omega)]
      rfl) (n := lf) (by omega) R4
  rw [e5]
  simp only [Option.bind_some, nth0, nthS, asI_i, asB_b, asS_s, asL_l, cell0, cellS]
  have hE : itemsI (gEnt b) N (rdC b i3.2).2 = inoE b i3.2 := by unfold inoE; rw [hN]; rfl
  rw [hE] at R5 ⊢
  obtain ⟨p6, ok6, e6, R6⟩ := c_iRAttrs (d := d) hlf hb hl R5
  rw [e6]
  simp only [Option.bind_some, nth0, nthS, asI_i, asB_b, asS_s, asL_l, cell0, cellS]
  obtain ⟨t, e7⟩ := c_iDone (lf := lf) (d := d + 3) R6
  rw [e7]
  simp only [Option.bind_some, nth0, nthS, asI_i, asB_b, asL_l]
  rw [c_iInodeOk (d := d) hlf _ _ _ _ _ _ (inoE_size hb hl _) (inoA_size hb hl _)]
  simp only [Option.bind_some, nth0, asB_b]
  cases (inoA b (inoE b i3.2).2).2 == some b.length with
  | false => rfl
  | true =>
    cases inodeB i0.1 i1.1 i2.1 (listOf i3.1) (inoE b i3.2).1 (inoA b (inoE b i3.2).2).1 <;> rfl
theorem c_sGetInode {lf d : Nat} (hlf : 33554432 ≤ lf) {b : List T} (hb : byt b) (hl : b.length ≤ 1048576) : Cc lf (d + 5) 54 [.sl b] = some (getInodeR (getInodeB b)) := by
  refine (f54_eq (Cc lf (d + 4)) lf b).trans ?_
  unfold f54 f54_t
  dsimp only
  obtain ⟨p0, ok0, e0, R0⟩ := c_sNum (d := d + 2) (s := some 0) (p := 0) (bad := false) hlf hb (by omega) ⟨rfl, (fun q hq => by cases hq; rfl), 0, rfl, Nat.zero_le _⟩
  obtain ⟨p1, ok1, e1, R1⟩ := c_sNum (d := d + 2) hlf hb (by omega) R0
  obtain ⟨p2, ok2, e2, R2⟩ := c_sNum (d := d + 2) hlf hb (by omega) R1
  obtain ⟨p3, ok3, e3, R3⟩ := c_sText (d := d + 1) hlf hb (by omega) R2
  obtain ⟨p4, ok4, e4, R4⟩ := c_sNum (d := d + 2) hlf hb (by omega) R3
  have hd := rdS_len hb (rd b (rd b (rd b (some 0)).2).2).2
  rw [e0]
  simp only [Option.bind_some, nth0, nthS, asI_i, asB_b, asS_s, cell0, cellS]
  rw [e1]
  simp only [Option.bind_some, nth0, nthS, asI_i, asB_b, asS_s, cell0, cellS]
  rw [e2]
  simp only [Option.bind_some, nth0, nthS, asI_i, asB_b, asS_s, cell0, cellS]
  rw [e3]
  simp only [Option.bind_some, nth0, nthS, asI_i, asB_b, asS_s, cell0, cellS]
  rw [e4, nLe_t (show (rdS b (rd b (rd b (rd b (some 0)).2).2).2).1.size ≤ LIM by unfold LIM; omega)]
  simp only [cond_t, Option.bind_some, nth0, nthS, asI_i, asB_b, asS_s, cell0, cellS]
  unfold getInodeB
  have hH : inoHead b = (((rd b (some 0)).1, (rd b (rd b (some 0)).2).1, (rd b (rd b (rd b (some 0)).2).2).1, (rdS b (rd b (rd b (rd b (some 0)).2).2).2).1), (rdS b (rd b (rd b (rd b (some 0)).2).2).2).2) := rfl
  simp only [hH]
  clear hH hd
  generalize rd b (some 0) = i0 at *
  generalize rd b i0.2 = i1 at *
  generalize rd b i1.2 = i2 at *
  generalize rdS b i2.2 = i3 at *
  have hc := rd_in hb i3.2
  obtain ⟨N, hN⟩ := Int.eq_ofNat_of_zero_le hc.1
  obtain ⟨p5, ok5, e5, R5⟩ := loopS (g := gEnt b) (b := b) (K := min N (10 + 1)) (F := fun n j p ok acc => f54_0 (Cc lf (d + 4)) lf b [T.i .i64 i0.1, T.st [T.sl b, T.i .i64 p0, T.b ok0]] [T.i .i64 i1.1, T.st [T.sl b, T.i .i64 p1, T.b ok1]] [T.i .i64 i2.1, T.st [T.sl b, T.i .i64 p2, T.b ok2]] [T.s i3.1, T.st [T.sl b, T.i .i64 p3, T.b ok3]] [T.i .i64 (rd b i3.2).1, T.st [T.sl b, T.i .i64 p4, T.b ok4]] n j p ok acc)
    (Y := fun p bad acc => some [T.i .i64 0, T.sl b, T.i .i64 (N : Int), T.i .i64 0, T.i .i64 0, T.i .i64 0, T.sl ([] : List T), T.sl ([] : List T), T.sl ([] : List T), T.sl b, T.i .i64 p, T.b bad, T.i .i64 i0.1, T.i .i64 i1.1, T.i .i64 i2.1, T.sl (listOf i3.1), T.sl acc, T.sl ([] : List T)]) (by omega) (fun n j p bad acc s' hj hR ha => by
      obtain ⟨pa, oa, q1, Q1⟩ := c_sText (d := d + 1) hlf hb (by omega) hR
      obtain ⟨pb, ob, q2, Q2⟩ := c_sNum (d := d + 2) hlf hb (by omega) Q1
      refine ⟨pb, ob, ?_, Q2⟩
      have hbad : bad = false := hR.1
      subst hbad
      rw [f54_0_u]
      unfold f54_0_s
      simp only [nth0, nthS, asI_i, asS_s, hN]
      rw [iLt_t (by omega), iLe_t (by omega), q1]
      simp only [cond_t, cond_f, Bool.not_false, Option.bind_some, nth0, nthS, asI_i, asB_b, asS_s, cell0, cellS]
      rw [q2]
      simp only [cond_t, Option.bind_some, nth0, nthS, asI_i, asB_b, asS_s, cell0, cellS]
      rw [nLe_app (by omega), cond_t, wrap_in (by omega) (by omega)]
      rfl) (fun n j p bad acc s hj hR hx => by
      rw [f54_0_u]
      unfold f54_0_s
      simp only [nth0, nthS, asI_i, asS_s, hN]
      by_cases c1 : j < N
      · rw [iLt_t (by omega)]
        by_cases c2 : j ≤ 10
        · have hs : s = none := by rcases hx with h | h; omega; exact h
          have hbad : bad = true := by rw [hR.1, hs]; rfl
          subst hbad
          rw [iLe_t (by omega)]
          rfl
        · rw [iLe_f (by omega)]; rfl
      · rw [iLt_f (by omega)]; rfl) (n := lf) (by omega) R4
  rw [e5]
  simp only [Option.bind_some, nth0, nthS, asI_i, asB_b, asS_s, asL_l, cell0, cellS]
  obtain ⟨p6, ok6, e6, R6⟩ := c_sNum (d := d + 2) hlf hb (by omega) R5
  rw [e6]
  simp only [Option.bind_some, nth0, nthS, asI_i, asB_b, asS_s, asL_l, cell0, cellS]
  have hEl := itemsS_len (g := gEnt b) (min N (10 + 1)) (rd b i3.2).2
  have hEt := (gtls (g := gEnt b) (b := b) ⟨rfl, rfl⟩ (gEnt_size hb) (min N (10 + 1)) (rd b i3.2).2 (fun p h => by obtain ⟨_, _, _, h2, _⟩ := rd_next hb h; exact h2)).2
  have hc2 := rd_in hb (itemsS (gEnt b) (min N (10 + 1)) (rd b i3.2).2).2
  obtain ⟨M, hM⟩ := Int.eq_ofNat_of_zero_le hc2.1
  generalize hES : itemsS (gEnt b) (min N (10 + 1)) (rd b i3.2).2 = ES at *
  obtain ⟨p7, ok7, e7, R7⟩ := loopS (g := gAttr b) (b := b) (K := min M (4 + 1)) (F := fun n j p ok acc => f54_1 (Cc lf (d + 4)) lf [T.i .i64 0, T.sl b, T.i .i64 (N : Int), T.i .i64 0, T.i .i64 0, T.i .i64 0, T.sl ([] : List T), T.sl ([] : List T), T.sl ([] : List T), T.sl b, T.i .i64 p5, T.b ok5, T.i .i64 i0.1, T.i .i64 i1.1, T.i .i64 i2.1, T.sl (listOf i3.1), T.sl ES.1, T.sl ([] : List T)] [T.i .i64 (rd b ES.2).1, T.st [T.sl b, T.i .i64 p6, T.b ok6]] n j p ok acc)
    (Y := fun p bad acc => some [T.i .i64 0, T.sl b, T.i .i64 (N : Int), T.i .i64 (M : Int), T.i .i64 0, T.i .i64 0, T.i .i64 0, T.sl ([] : List T), T.sl ([] : List T), T.sl ([] : List T), T.sl b, T.i .i64 p, T.b bad, T.i .i64 i0.1, T.i .i64 i1.1, T.i .i64 i2.1, T.sl (listOf i3.1), T.sl ES.1, T.sl acc]) (by omega) (fun n j p bad acc s' hj hR ha => by
      obtain ⟨pa, oa, q1, Q1⟩ := c_sText (d := d + 1) hlf hb (by omega) hR
      obtain ⟨pb, ob, q2, Q2⟩ := c_sText (d := d + 1) hlf hb (by omega) Q1
      refine ⟨pb, ob, ?_, Q2⟩
      have hbad : bad = false := hR.1
      subst hbad
      rw [f54_1_u]
      unfold f54_1_s
      simp only [nth0, nthS, asI_i, asS_s, asL_l, hM]
      rw [iLt_t (by omega), iLe_t (by omega), q1]
      simp only [cond_t, cond_f, Bool.not_false, Option.bind_some, nth0, nthS, asI_i, asB_b, asS_s, cell0, cellS]
      rw [q2]
      simp only [cond_t, Option.bind_some, nth0, nthS, asI_i, asB_b, asS_s, cell0, cellS]
      rw [nLe_app (by omega), cond_t, wrap_in (by omega) (by omega)]
      rfl) (fun n j p bad acc s hj hR hx => by
      rw [f54_1_u]
      unfold f54_1_s
      simp only [nth0, nthS, asI_i, asS_s, asL_l, hM]
      by_cases c1 : j < M
      · rw [iLt_t (by omega)]
        by_cases c2 : j ≤ 4
        · have hs : s = none := by rcases hx with h | h; omega; exact h
          have hbad : bad = true := by rw [hR.1, hs]; rfl
          subst hbad
          rw [iLe_t (by omega)]
          rfl
        · rw [iLe_f (by omega)]; rfl
      · rw [iLt_f (by omega)]; rfl) (n := lf) (by omega) R6
  rw [e7]
  simp only [Option.bind_some, nth0, nthS, asI_i, asB_b, asS_s, asL_l, cell0, cellS]
  rw [RS_fin R7]
  have hAl := itemsS_len (g := gAttr b) (min M (4 + 1)) (rd b ES.2).2
  have hAt := (gtls (g := gAttr b) (b := b) ⟨rfl, rfl⟩ (gAttr_size hb) (min M (4 + 1)) (rd b ES.2).2 (fun p h => by obtain ⟨_, _, _, h2, _⟩ := rd_next hb h; exact h2)).2
  rw [c_sInodeOk (d := d) hlf _ _ _ _ _ _ (by omega) (by omega)]
  simp only [Option.bind_some, nth0, asB_b]
  -- the two readers
  have nE : (gEnt b none).2 = none := rfl
  have nA : (gAttr b none).2 = none := rfl
  have A0 : inoA b none = ([], none) := rfl
  have S0 : ∀ k, (itemsS (gAttr b) k none).2 = none := fun k => by cases k <;> rfl
  -- behind the entries, where they are read
  have tail : ∀ (es : List T) (q : Nat), q ≤ b.length → N = es.length → ES = (es, some q) → inoE b i3.2 = (es, some q) →
      (bif (itemsS (gAttr b) (min M (4 + 1)) (rd b ES.2).2).2 == some b.length then
        bif (N : Int) != (ES.1.length : Int) then some [T.st [T.i .i64 0, T.i .i64 0, T.i .i64 0, T.sl [], T.sl [], T.sl []], T.b false]
        else bif (M : Int) != ((itemsS (gAttr b) (min M (4 + 1)) (rd b ES.2).2).1.length : Int) then some [T.st [T.i .i64 0, T.i .i64 0, T.i .i64 0, T.sl [], T.sl [], T.sl []], T.b false]
        else bif !inodeB i0.1 i1.1 i2.1 (listOf i3.1) ES.1 (itemsS (gAttr b) (min M (4 + 1)) (rd b ES.2).2).1 then some [T.st [T.i .i64 0, T.i .i64 0, T.i .i64 0, T.sl [], T.sl [], T.sl []], T.b false]
        else some [T.st [T.i .i64 i0.1, T.i .i64 i1.1, T.i .i64 i2.1, T.sl (listOf i3.1), T.sl ES.1, T.sl (itemsS (gAttr b) (min M (4 + 1)) (rd b ES.2).2).1], T.b true]
      else some [T.st [T.i .i64 0, T.i .i64 0, T.i .i64 0, T.sl [], T.sl [], T.sl []], T.b false]) =
      some (getInodeR (bif (inoA b (inoE b i3.2).2).2 == some b.length && inodeB i0.1 i1.1 i2.1 (listOf i3.1) (inoE b i3.2).1 (inoA b (inoE b i3.2).2).1 then some (i0.1, i1.1, i2.1, listOf i3.1, (inoE b i3.2).1, (inoA b (inoE b i3.2).2).1) else none)) := by
    intro es q hq hNe hES' hE
    subst hES'
    simp only at hM ⊢
    rw [hE]
    simp only
    have hne : ((N : Int) != (es.length : Int)) = false := by rw [hNe]; simp
    rw [hne, cond_f]
    cases hs : (rd b (some q)).2 with
    | none =>
      have : inoA b (some q) = ([], none) := by unfold inoA; rw [rdC_none hs]; rfl
      rw [this, S0]
      rfl
    | some p =>
      obtain ⟨_, _, _, hpl, _⟩ := rd_next hb hs
      have hrd : rd b (some q) = ((M : Int), some p) := by rw [← hM, ← hs]
      rcases list_rel (g := gAttr b) (b := b) nA (gAttr_next hb) 4 M p hpl with ⟨ps, q2, h1, h2, h3, h4, h5⟩ | ⟨h1, h2⟩
      · have hA : inoA b (some q) = (ps, some q2) := by
          unfold inoA
          rw [rdC_some hrd, if_neg (by omega)]
          exact h2
        have hne2 : ((M : Int) != (ps.length : Int)) = false := by rw [h4]; simp
        rw [hA, h3]
        simp only [hne2, cond_f]
        cases (some q2 == some b.length) with
        | false => rfl
        | true => cases inodeB i0.1 i1.1 i2.1 (listOf i3.1) es ps <;> rfl
      · have hA : (inoA b (some q)).2 = none ∨ 4 < (inoA b (some q)).1.length := by
          unfold inoA
          rw [rdC_some hrd]
          by_cases hc : (M : Int) > (b.length : Int) - p
          · rw [if_pos hc]; exact .inl rfl
          · rw [if_neg hc]
            rcases h1 with h1 | h1 | h1
            · omega
            · exact .inl h1
            · exact .inr h1
        have hI : (bif (inoA b (some q)).2 == some b.length && inodeB i0.1 i1.1 i2.1 (listOf i3.1) es (inoA b (some q)).1 then some (i0.1, i1.1, i2.1, listOf i3.1, es, (inoA b (some q)).1) else none) = none := by
          rcases hA with h | h
          · rw [h]; rfl
          · cases hm : inodeB i0.1 i1.1 i2.1 (listOf i3.1) es (inoA b (some q)).1 with
            | true => have := inodeB_len hm; omega
            | false => rw [Bool.and_false]; rfl
        rw [hI]
        rcases h2 with h2 | h2
        · rw [h2]; rfl
        · have hne2 : ((M : Int) != ((itemsS (gAttr b) (min M (4 + 1)) (some p)).1.length : Int)) = true := by simp only [bne_iff_ne, ne_eq]; omega
          rw [hne2]
          cases (itemsS (gAttr b) (min M (4 + 1)) (some p)).2 == some b.length <;> rfl
  cases hs2 : (rd b i3.2).2 with
  | none =>
    have hE : inoE b i3.2 = ([], none) := by unfold inoE; rw [rdC_none hs2]; rfl
    have hE2 : ES.2 = none := by rw [← hES, hs2]; cases min N (10 + 1) <;> rfl
    have hm0 : (rd b ES.2).2 = none := by rw [hE2]; rfl
    rw [hm0, S0, hE]
    rfl
  | some p =>
    obtain ⟨_, _, _, hpl, _⟩ := rd_next hb hs2
    have hrd : rd b i3.2 = ((N : Int), some p) := by rw [← hN, ← hs2]
    rw [hs2] at hES
    rcases list_rel (g := gEnt b) (b := b) nE (gEnt_next hb) 10 N p hpl with ⟨ps, q, h1, h2, h3, h4, h5⟩ | ⟨h1, h2⟩
    · have hE : inoE b i3.2 = (ps, some q) := by
        unfold inoE
        rw [rdC_some hrd, if_neg (by omega)]
        exact h2
      exact tail ps q h5 h4 (by rw [← hES, h3]) hE
    · have hA : (inoA b (inoE b i3.2).2).2 = none ∨ 10 < (inoE b i3.2).1.length := by
        unfold inoE
        rw [rdC_some hrd]
        by_cases hc : (N : Int) > (b.length : Int) - p
        · rw [if_pos hc]; exact .inl rfl
        · rw [if_neg hc]
          rcases h1 with h1 | h1 | h1
          · omega
          · left
            show (inoA b (itemsI (gEnt b) ((N : Int)).toNat (some p)).2).2 = none
            rw [Int.toNat_natCast, h1]
            rfl
          · exact .inr h1
      have hI : (bif (inoA b (inoE b i3.2).2).2 == some b.length && inodeB i0.1 i1.1 i2.1 (listOf i3.1) (inoE b i3.2).1 (inoA b (inoE b i3.2).2).1 then some (i0.1, i1.1, i2.1, listOf i3.1, (inoE b i3.2).1, (inoA b (inoE b i3.2).2).1) else none) = none := by
        rcases hA with h | h
        · rw [h]; rfl
        · cases hm : inodeB i0.1 i1.1 i2.1 (listOf i3.1) (inoE b i3.2).1 (inoA b (inoE b i3.2).2).1 with
          | true => have := inodeB_len hm; omega
          | false => rw [Bool.and_false]; rfl
      rw [hI]
      rw [hES] at h2
      rcases h2 with h2 | h2
      · have hm0 : (rd b ES.2).2 = none := by rw [h2]; rfl
        rw [hm0, S0]
        rfl
      · have hne : ((N : Int) != (ES.1.length : Int)) = true := by simp only [bne_iff_ne, ne_eq]; omega
        rw [hne]
        cases (itemsS (gAttr b) (min M (4 + 1)) (rd b ES.2).2).2 == some b.length <;> rfl
def prEnt (x : T) : List T := textT (asS (T.cell x 0)) ++ numT (clampN (asI (T.cell x 1)))
def prAttr (x : T) : List T := textT (asS (T.cell x 0)) ++ textT (asS (T.cell x 1))
def putInodeT (i k n : Int) (dt es ats : List T) : List T := numT (clampN i) ++ (numT (clampN k) ++ (numT (clampN n) ++ (textT (bytesOf dt) ++ (numT (clampN (es.length : Int)) ++ (flatT prEnt es ++ (numT (clampN (ats.length : Int)) ++ flatT prAttr ats))))))
theorem prEnt_len {x : T} (h : (asS (T.cell x 0)).size ≤ 14) : (prEnt x).length ≤ 20 := by
  have h1 := textT_len (asS (T.cell x 0))
  have h2 := numT_len (clampN (asI (T.cell x 1)))
  simp only [prEnt, List.length_append]
  omega
theorem prAttr_len {x : T} (h : (asS (T.cell x 0)).size ≤ 14) (h2 : (asS (T.cell x 1)).size ≤ 16) : (prAttr x).length ≤ 36 := by
  have h1 := textT_len (asS (T.cell x 0))
  have h2 := textT_len (asS (T.cell x 1))
  simp only [prAttr, List.length_append]
  omega
theorem prEnt_byt (x : T) : byt (prEnt x) := byt_app (byt_text _) (byt_num (clampN_in _).1 (clampN_in _).2)
theorem prAttr_byt (x : T) : byt (prAttr x) := byt_app (byt_text _) (byt_text _)
theorem putInodeT_byt (i k n : Int) (dt es ats : List T) : byt (putInodeT i k n dt es ats) := by
  have N : ∀ m : Int, byt (numT (clampN m)) := fun m => byt_num (clampN_in _).1 (clampN_in _).2
  exact byt_app (N _) (byt_app (N _) (byt_app (N _) (byt_app (byt_text _) (byt_app (N _) (byt_app (flatT_byt fun x _ => prEnt_byt x) (byt_app (N _) (flatT_byt fun x _ => prAttr_byt x)))))))
theorem nameB_le {s : ByteArray} (h : nameB s = true) : s.size ≤ 14 := by
  unfold nameB at h
  simp only [Bool.and_eq_true, iLe_iff] at h
  omega
theorem inodeB_parts {i k n : Int} {d es ats : List T} (h : inodeB i k n d es ats = true) : (1 ≤ i ∧ i ≤ 1000) ∧ (0 ≤ n ∧ n ≤ 1000) ∧ (k = 1 ∨ k = 2) ∧ (∀ j, j < es.length → entB es j = true) ∧ (∀ j, j < ats.length → attrB ats j = true) := by
  unfold inodeB entsB attrsB at h
  simp only [Bool.and_eq_true, iLe_iff] at h
  obtain ⟨h1, h2, _, _, h3, h4, h5⟩ := h
  refine ⟨h1, h2, ?_, allB_iff.1 h3.1, allB_iff.1 h4.1⟩
  cases c1 : k == 1 with
  | true => exact .inl (by simpa using c1)
  | false =>
    rw [c1] at h5
    cases c2 : k == 2 with
    | true => exact .inr (by simpa using c2)
    | false => rw [c2] at h5; cases h5
theorem inodeB_names {i k n : Int} {d es ats : List T} (h : inodeB i k n d es ats = true) : (∀ x ∈ es, (asS (T.cell x 0)).size ≤ 14) ∧ (∀ x ∈ ats, (asS (T.cell x 0)).size ≤ 14 ∧ (asS (T.cell x 1)).size ≤ 16) := by
  obtain ⟨_, _, _, h3, h4⟩ := inodeB_parts h
  constructor
  · intro x hx
    obtain ⟨j, hj, rfl⟩ := List.getElem_of_mem hx
    have := h3 j hj
    unfold entB at this
    rw [List.getD_eq_getElem?_getD, List.getElem?_eq_getElem hj] at this
    simp only [Bool.and_eq_true] at this
    exact nameB_le this.1
  · intro x hx
    obtain ⟨j, hj, rfl⟩ := List.getElem_of_mem hx
    have := h4 j hj
    unfold attrB at this
    rw [List.getD_eq_getElem?_getD, List.getElem?_eq_getElem hj] at this
    simp only [Bool.and_eq_true, iLe_iff] at this
    have h2 : ((asS (T.cell ats[j] 1)).size : Int) ≤ 16 := this.2.1.2
    exact ⟨nameB_le this.1, by omega⟩
theorem c_iPutAttrs {lf d : Nat} (hlf : 33554432 ≤ lf) (b ats : List T) (hb : b.length ≤ 1000) (hl : ats.length ≤ 4) (hna : ∀ x ∈ ats, (asS (T.cell x 0)).size ≤ 14 ∧ (asS (T.cell x 1)).size ≤ 16) : Cc lf (d + 4) 86 [.sl b, .sl ats] = some [.sl (b ++ (numT (clampN (ats.length : Int)) ++ flatT prAttr ats))] := by
  refine (f86_eq (Cc lf (d + 3)) lf b ats).trans ?_
  unfold f86 f86_t
  dsimp only
  have q6 := numT_len (clampN (ats.length : Int))
  have L1 : ∀ (b : List T), b.length ≤ 2000 → f86_0 (Cc lf (d + 3)) lf ats lf 0 b = some [T.i .i64 0, T.sl (b ++ flatT prAttr ats)] := fun b hb =>
    flat_loop (F := fun m j b => f86_0 (Cc lf (d + 3)) lf ats m j b) (pr := prAttr) (l := ats) (Y := fun b => some [T.i .i64 0, T.sl b]) (M := 36) (B := 2000) (fun x hx => prAttr_len (hna x hx).1 (hna x hx).2) (fun m j b hj hb => by
      have hs : (asS (T.cell (ats.getD j .u) 0)).size ≤ 14 ∧ (asS (T.cell (ats.getD j .u) 1)).size ≤ 16 := by
        rw [List.getD_eq_getElem?_getD, List.getElem?_eq_getElem hj]
        exact hna _ (List.getElem_mem hj)
      have ht := textT_len (asS (T.cell (ats.getD j .u) 0))
      rw [f86_0_u]
      unfold f86_0_s
      rw [iLt_t (by omega), inR_nat hj, wrap_next hj (by omega)]
      simp only [cond_t, Int.toNat_natCast]
      rw [c_iPutText (d := d) hlf _ _ (by omega) (by omega)]
      simp only [Option.bind_some, nth0, asL_l]
      rw [c_iPutText (d := d) hlf _ _ (by rw [List.length_append]; omega) (by omega)]
      simp only [Option.bind_some, nth0, asL_l, prAttr, List.append_assoc]) (fun m b => by
      rw [f86_0_u]
      unfold f86_0_s
      rw [iLt_f (by omega)]
      rfl) (n := lf) (by omega) hb
  rw [c_iPutNum (d := d + 1) hlf _ _ (by omega)]
  simp only [Option.bind_some, nth0, asL_l]
  rw [L1 _ (by rw [List.length_append]; omega)]
  simp only [Option.bind_some, nth0, nthS, asL_l, List.append_assoc]
theorem c_sPutInode {lf d : Nat} (hlf : 33554432 ≤ lf) (i k n : Int) (dt es ats : List T) (he : es.length + tls es ≤ 16777216) (ha : ats.length + tls ats ≤ 16777216) : Cc lf (d + 5) 116 [.st [.i .i64 i, .i .i64 k, .i .i64 n, .sl dt, .sl es, .sl ats]] = some [.sl (bif inodeB i k n dt es ats then putInodeT i k n dt es ats else [])] := by
  refine (f116_eq (Cc lf (d + 4)) lf i k n dt es ats).trans ?_
  unfold f116 f116_t
  dsimp only
  rw [c_sInodeOk hlf i k n dt es ats he ha]
  simp only [Option.bind_some, nth0, asB_b]
  cases hm : inodeB i k n dt es ats with
  | false => rfl
  | true =>
    obtain ⟨hd, hel, hal⟩ := inodeB_len hm
    obtain ⟨hne, hna⟩ := inodeB_names hm
    have q1 := numT_len (clampN i)
    have q2 := numT_len (clampN k)
    have q3 := numT_len (clampN n)
    have q4 := textT_len (bytesOf dt)
    rw [bytesOf_size] at q4
    have q5 := numT_len (clampN (es.length : Int))
    have q6 := numT_len (clampN (ats.length : Int))
    have qE : ∀ x ∈ es, (prEnt x).length ≤ 20 := fun x hx => prEnt_len (hne x hx)
    have qA : ∀ x ∈ ats, (prAttr x).length ≤ 36 := fun x hx => prAttr_len (hna x hx).1 (hna x hx).2
    have qF := flatT_len qE
    have L0 : ∀ b : List T, b.length ≤ 2000 → f116_0 (Cc lf (d + 4)) lf dt es ats i k n lf 0 b = some [T.i .i64 0, T.i .i64 i, T.i .i64 k, T.i .i64 n, T.sl dt, T.sl es, T.sl ats, T.sl (b ++ flatT prEnt es)] := fun b hb =>
      flat_loop (F := fun m j b => f116_0 (Cc lf (d + 4)) lf dt es ats i k n m j b) (pr := prEnt) (l := es) (Y := fun b => some [T.i .i64 0, T.i .i64 i, T.i .i64 k, T.i .i64 n, T.sl dt, T.sl es, T.sl ats, T.sl b]) (M := 20) (B := 2000) qE (fun m j b hj hb => by
        have hs : (asS (T.cell (es.getD j .u) 0)).size ≤ 14 := by
          rw [List.getD_eq_getElem?_getD, List.getElem?_eq_getElem hj]
          exact hne _ (List.getElem_mem hj)
        have ht := textT_len (asS (T.cell (es.getD j .u) 0))
        rw [f116_0_u]
        unfold f116_0_s
        rw [iLt_t (by omega), inR_nat hj, wrap_next hj (by omega)]
        simp only [cond_t, Int.toNat_natCast]
        rw [c_sPutText (d := d + 1) hlf _ _ (by omega) (by omega)]
        simp only [Option.bind_some, nth0, asL_l]
        rw [c_sPutNum (d := d + 2) hlf _ _ (by rw [List.length_append]; omega)]
        simp only [Option.bind_some, nth0, asL_l, prEnt, List.append_assoc]) (fun m b => by
        rw [f116_0_u]
        unfold f116_0_s
        rw [iLt_f (by omega)]
        rfl) (n := lf) (by omega) hb
    simp only [Bool.not_true, cond_f, cond_t]
    rw [c_sPutNum (d := d + 2) hlf _ _ (by simp)]
    simp only [Option.bind_some, nth0, asL_l, List.nil_append]
    rw [c_sPutNum (d := d + 2) hlf _ _ (by omega)]
    simp only [Option.bind_some, nth0, asL_l]
    rw [c_sPutNum (d := d + 2) hlf _ _ (by simp only [List.length_append]; omega)]
    simp only [Option.bind_some, nth0, asL_l]
    rw [c_sPutText (d := d + 1) hlf _ _ (by simp only [List.length_append]; omega) (by rw [bytesOf_size]; omega)]
    simp only [Option.bind_some, nth0, asL_l]
    rw [c_sPutNum (d := d + 2) hlf _ _ (by simp only [List.length_append]; omega)]
    simp only [Option.bind_some, nth0, asL_l]
    rw [L0 _ (by simp only [List.length_append]; omega)]
    have L1 : ∀ (b z : List T), b.length ≤ 2000 → f116_1 (Cc lf (d + 4)) lf [T.i .i64 0, T.i .i64 i, T.i .i64 k, T.i .i64 n, T.sl dt, T.sl es, T.sl ats, T.sl z] lf 0 b = some [T.i .i64 0, T.sl (b ++ flatT prAttr ats)] := fun b z hb =>
      flat_loop (F := fun m j b => f116_1 (Cc lf (d + 4)) lf [T.i .i64 0, T.i .i64 i, T.i .i64 k, T.i .i64 n, T.sl dt, T.sl es, T.sl ats, T.sl z] m j b) (pr := prAttr) (l := ats) (Y := fun b => some [T.i .i64 0, T.sl b]) (M := 36) (B := 2000) qA (fun m j b hj hb => by
        have hs : (asS (T.cell (ats.getD j .u) 0)).size ≤ 14 ∧ (asS (T.cell (ats.getD j .u) 1)).size ≤ 16 := by
          rw [List.getD_eq_getElem?_getD, List.getElem?_eq_getElem hj]
          exact hna _ (List.getElem_mem hj)
        have ht := textT_len (asS (T.cell (ats.getD j .u) 0))
        rw [f116_1_u]
        unfold f116_1_s
        simp only [nth0, nthS, asL_l]
        rw [iLt_t (by omega), inR_nat hj, wrap_next hj (by omega)]
        simp only [cond_t, Int.toNat_natCast]
        rw [c_sPutText (d := d + 1) hlf _ _ (by omega) (by omega)]
        simp only [Option.bind_some, nth0, asL_l]
        rw [c_sPutText (d := d + 1) hlf _ _ (by rw [List.length_append]; omega) (by omega)]
        simp only [Option.bind_some, nth0, asL_l, prAttr, List.append_assoc]) (fun m b => by
        rw [f116_1_u]
        unfold f116_1_s
        simp only [nth0, nthS, asL_l]
        rw [iLt_f (by omega)]
        rfl) (n := lf) (by omega) hb
    simp only [Option.bind_some, nth0, nthS, asL_l]
    rw [c_sPutNum (d := d + 2) hlf _ _ (by simp only [List.length_append]; omega)]
    simp only [Option.bind_some, nth0, asL_l]
    rw [L1 _ _ (by simp only [List.length_append]; omega)]
    simp only [Option.bind_some, nth0, nthS, asL_l, putInodeT, List.append_assoc]
theorem c_iPutInode {lf d : Nat} (hlf : 33554432 ≤ lf) (i k n : Int) (dt es ats : List T) (he : es.length + tls es ≤ 16777216) (ha : ats.length + tls ats ≤ 16777216) : Cc lf (d + 5) 33 [.st [.i .i64 i, .i .i64 k, .i .i64 n, .sl dt, .sl es, .sl ats]] = some [.sl (bif inodeB i k n dt es ats then putInodeT i k n dt es ats else [])] := by
  refine (f33_eq (Cc lf (d + 4)) lf i k n dt es ats).trans ?_
  unfold f33 f33_t
  dsimp only
  rw [c_iInodeOk hlf i k n dt es ats he ha]
  simp only [Option.bind_some, nth0, asB_b]
  cases hm : inodeB i k n dt es ats with
  | false => rfl
  | true =>
    obtain ⟨hd, hel, hal⟩ := inodeB_len hm
    obtain ⟨hne, hna⟩ := inodeB_names hm
    have q1 := numT_len (clampN i)
    have q2 := numT_len (clampN k)
    have q3 := numT_len (clampN n)
    have q4 := textT_len (bytesOf dt)
    rw [bytesOf_size] at q4
    have q5 := numT_len (clampN (es.length : Int))
    have q6 := numT_len (clampN (ats.length : Int))
    have qE : ∀ x ∈ es, (prEnt x).length ≤ 20 := fun x hx => prEnt_len (hne x hx)
    have qA : ∀ x ∈ ats, (prAttr x).length ≤ 36 := fun x hx => prAttr_len (hna x hx).1 (hna x hx).2
    have qF := flatT_len qE
    have L0 : ∀ b : List T, b.length ≤ 2000 → f33_0 (Cc lf (d + 4)) lf dt es ats i k n lf 0 b = some [T.i .i64 0, T.i .i64 i, T.i .i64 k, T.i .i64 n, T.sl dt, T.sl es, T.sl ats, T.sl (b ++ flatT prEnt es)] := fun b hb =>
      flat_loop (F := fun m j b => f33_0 (Cc lf (d + 4)) lf dt es ats i k n m j b) (pr := prEnt) (l := es) (Y := fun b => some [T.i .i64 0, T.i .i64 i, T.i .i64 k, T.i .i64 n, T.sl dt, T.sl es, T.sl ats, T.sl b]) (M := 20) (B := 2000) qE (fun m j b hj hb => by
        have hs : (asS (T.cell (es.getD j .u) 0)).size ≤ 14 := by
          rw [List.getD_eq_getElem?_getD, List.getElem?_eq_getElem hj]
          exact hne _ (List.getElem_mem hj)
        have ht := textT_len (asS (T.cell (es.getD j .u) 0))
        rw [f33_0_u]
        unfold f33_0_s
        rw [iLt_t (by omega), inR_nat hj, wrap_next hj (by omega)]
        simp only [cond_t, Int.toNat_natCast]
        rw [c_iPutText (d := d + 1) hlf _ _ (by omega) (by omega)]
        simp only [Option.bind_some, nth0, asL_l]
        rw [c_iPutNum (d := d + 2) hlf _ _ (by rw [List.length_append]; omega)]
        simp only [Option.bind_some, nth0, asL_l, prEnt, List.append_assoc]) (fun m b => by
        rw [f33_0_u]
        unfold f33_0_s
        rw [iLt_f (by omega)]
        rfl) (n := lf) (by omega) hb
    simp only [Bool.not_true, cond_f, cond_t]
    rw [c_iPutNum (d := d + 2) hlf _ _ (by simp)]
    simp only [Option.bind_some, nth0, asL_l, List.nil_append]
    rw [c_iPutNum (d := d + 2) hlf _ _ (by omega)]
    simp only [Option.bind_some, nth0, asL_l]
    rw [c_iPutNum (d := d + 2) hlf _ _ (by simp only [List.length_append]; omega)]
    simp only [Option.bind_some, nth0, asL_l]
    rw [c_iPutText (d := d + 1) hlf _ _ (by simp only [List.length_append]; omega) (by rw [bytesOf_size]; omega)]
    simp only [Option.bind_some, nth0, asL_l]
    rw [c_iPutNum (d := d + 2) hlf _ _ (by simp only [List.length_append]; omega)]
    simp only [Option.bind_some, nth0, asL_l]
    rw [L0 _ (by simp only [List.length_append]; omega)]
    simp only [Option.bind_some, nth0, nthS, asL_l]
    rw [c_iPutAttrs (d := d) hlf _ _ (by simp only [List.length_append]; omega) (by omega) hna]
    simp only [Option.bind_some, nth0, nthS, asL_l, putInodeT, List.append_assoc]
def entT (l : List T) : Prop := ∀ x ∈ l, ∃ s a, x = .st [.s s, .i .i64 a]
def attrT (l : List T) : Prop := ∀ x ∈ l, ∃ s t, x = .st [.s s, .s t]
theorem flatE_len : ∀ (l : List T), l.length ≤ (flatT prEnt l).length
  | [] => Nat.le_refl _
  | x :: l => by
    have h1 := numT_pos (clampN (asI (T.cell x 1)))
    have h2 := flatE_len l
    simp only [flatT, prEnt, List.length_append, List.length_cons]
    omega
theorem textT_pos (s : ByteArray) : 1 ≤ (textT s).length := by
  have := numT_pos (clampN (s.size : Int))
  unfold textT
  rw [List.length_append]
  omega
theorem flatA_len : ∀ (l : List T), l.length ≤ (flatT prAttr l).length
  | [] => Nat.le_refl _
  | x :: l => by
    have h1 := textT_pos (asS (T.cell x 0))
    have h2 := flatA_len l
    simp only [flatT, prAttr, List.length_append, List.length_cons]
    omega
theorem inode_put {i k n : Int} {dt es ats : List T} (h : inodeB i k n dt es ats = true) (hd : byt dt) (he : entT es) (ha : attrT ats) : getInodeB (putInodeT i k n dt es ats) = some (i, k, n, dt, es, ats) := by
  obtain ⟨hi, hn, hk, hE, hA⟩ := inodeB_parts h
  obtain ⟨hdl, hel, hal⟩ := inodeB_len h
  obtain ⟨hne, hna⟩ := inodeB_names h
  have hb0 : putInodeT i k n dt es ats = numT i ++ (numT k ++ (numT n ++ (textT (bytesOf dt) ++ (numT (es.length : Int) ++ (flatT prEnt es ++ (numT (ats.length : Int) ++ (flatT prAttr ats ++ []))))))) := by
    unfold putInodeT
    rw [List.append_nil, clampN_id (by omega) (by omega), clampN_id (n := k) (by omega) (by omega), clampN_id (n := n) (by omega) (by omega), clampN_id (n := (es.length : Int)) (by omega) (by omega), clampN_id (n := (ats.length : Int)) (by omega) (by omega)]
  generalize hb : putInodeT i k n dt es ats = b at hb0 ⊢
  have A0 : At b (some 0) (numT i ++ (numT k ++ (numT n ++ (textT (bytesOf dt) ++ (numT (es.length : Int) ++ (flatT prEnt es ++ (numT (ats.length : Int) ++ (flatT prAttr ats ++ [])))))))) := by rw [← hb0]; exact at_zero b
  obtain ⟨e1, A1⟩ := rd_put A0 (by omega) (by omega)
  obtain ⟨e2, A2⟩ := rd_put A1 (by omega) (by omega)
  obtain ⟨e3, A3⟩ := rd_put A2 (by omega) (by omega)
  obtain ⟨e4, A4⟩ := rdS_put A3 (by rw [bytesOf_size]; omega)
  have hH : inoHead b = ((i, k, n, bytesOf dt), (rdS b (rd b (rd b (rd b (some 0)).2).2).2).2) := by
    unfold inoHead
    rw [e1, e2, e3, e4]
  generalize (rdS b (rd b (rd b (rd b (some 0)).2).2).2).2 = s4 at hH A4
  obtain ⟨e5, A5⟩ := rdC_put A4 (by omega) (by omega) (by have := flatE_len es; rw [List.length_append]; omega)
  obtain ⟨e6, A6⟩ := items_put (b := b) (g := gEnt b) (pr := prEnt) es _ _ (fun x hx s rest hAt => by
    obtain ⟨j, hj, rfl⟩ := List.getElem_of_mem hx
    have hin := hE j hj
    have hsz := hne _ hx
    unfold entB at hin
    rw [List.getD_eq_getElem?_getD, List.getElem?_eq_getElem hj] at hin
    obtain ⟨t, a, hx2⟩ := he _ hx
    simp only [Option.getD_some, Bool.and_eq_true, iLe_iff] at hin
    have hin := hin.2.1
    rw [hx2] at hin hAt hsz ⊢
    simp only [cell0, cellS, asI_i, asS_s] at hin hsz
    have hAt : At b s ((textT t ++ numT (clampN a)) ++ rest) := hAt
    rw [clampN_id (by omega) (by omega), List.append_assoc] at hAt
    obtain ⟨f1, B1⟩ := rdS_put hAt (by omega)
    obtain ⟨f2, B2⟩ := rd_put B1 (by omega) (by omega)
    unfold gEnt
    rw [f1, f2]
    exact ⟨rfl, B2⟩) A5
  have hE1 : (inoE b s4).1 = es ∧ At b (inoE b s4).2 (numT (ats.length : Int) ++ (flatT prAttr ats ++ [])) := by
    unfold inoE
    rw [e5, Int.toNat_natCast]
    exact ⟨e6, A6⟩
  obtain ⟨e7, A7⟩ := rdC_put hE1.2 (by omega) (by omega) (by have := flatA_len ats; rw [List.append_nil]; omega)
  obtain ⟨e8, A8⟩ := items_put (b := b) (g := gAttr b) (pr := prAttr) ats _ [] (fun x hx s rest hAt => by
    have hsz := hna _ hx
    obtain ⟨t, u, hx2⟩ := ha _ hx
    rw [hx2] at hAt hsz ⊢
    simp only [cell0, cellS, asS_s] at hsz
    have hAt : At b s ((textT t ++ textT u) ++ rest) := hAt
    rw [List.append_assoc] at hAt
    obtain ⟨f1, B1⟩ := rdS_put hAt (by omega)
    obtain ⟨f2, B2⟩ := rdS_put B1 (by omega)
    unfold gAttr
    rw [f1, f2]
    exact ⟨rfl, B2⟩) A7
  have hA1 : (inoA b (inoE b s4).2).1 = ats ∧ At b (inoA b (inoE b s4).2).2 [] := by
    unfold inoA
    rw [e7, Int.toNat_natCast]
    exact ⟨e8, A8⟩
  unfold getInodeB
  rw [hH]
  simp only
  rw [(at_end hA1.2).2 rfl, hA1.1, hE1.1, listOf_bytesOf hd, h]
  rfl
theorem gEnt_of {b : List T} (hb : byt b) (s : Option Nat) (R : List T) (hA : At b s R) (hne : (gEnt b s).2 ≠ none) : ∃ rest, R = prEnt (gEnt b s).1 ++ rest ∧ At b (gEnt b s).2 rest := by
  unfold gEnt at hne ⊢
  simp only at hne ⊢
  obtain ⟨r1, q1, B1⟩ := rdS_of hb hA (rd_back hne)
  obtain ⟨r2, q2, B2⟩ := rd_of hb B1 hne
  have n2 := rd_in hb (rdS b s).2
  refine ⟨r2, ?_, B2⟩
  show R = (textT (rdS b s).1 ++ numT (clampN (rd b (rdS b s).2).1)) ++ r2
  rw [clampN_id n2.1 n2.2, List.append_assoc, ← q2, ← q1]
theorem gAttr_of {b : List T} (hb : byt b) (s : Option Nat) (R : List T) (hA : At b s R) (hne : (gAttr b s).2 ≠ none) : ∃ rest, R = prAttr (gAttr b s).1 ++ rest ∧ At b (gAttr b s).2 rest := by
  unfold gAttr at hne ⊢
  simp only at hne ⊢
  obtain ⟨r1, q1, B1⟩ := rdS_of hb hA (rdS_back hne)
  obtain ⟨r2, q2, B2⟩ := rdS_of hb B1 hne
  refine ⟨r2, ?_, B2⟩
  show R = (textT (rdS b s).1 ++ textT (rdS b (rdS b s).2).1) ++ r2
  rw [List.append_assoc, ← q2, ← q1]
theorem part_of {b : List T} (hb : byt b) {g : Option Nat → T × Option Nat} {pr : T → List T} (h0 : (g none).2 = none) (H : ∀ s R, At b s R → (g s).2 ≠ none → ∃ rest, R = pr (g s).1 ++ rest ∧ At b (g s).2 rest) {s : Option Nat} {R : List T} (hA : At b s R) (hn : (itemsI g (rdC b s).1.toNat (rdC b s).2).2 ≠ none) : ∃ rest, R = numT (clampN ((itemsI g (rdC b s).1.toNat (rdC b s).2).1.length : Int)) ++ (flatT pr (itemsI g (rdC b s).1.toNat (rdC b s).2).1 ++ rest) ∧ At b (itemsI g (rdC b s).1.toNat (rdC b s).2).2 rest := by
  have hc := rdC_in hb s
  obtain ⟨r1, q1, A1⟩ := rdC_of hb hA (items_back h0 hn)
  obtain ⟨r2, q2, A2⟩ := items_of h0 H _ _ _ A1 hn
  refine ⟨r2, ?_, A2⟩
  rw [itemsI_len, show (((rdC b s).1.toNat : Nat) : Int) = (rdC b s).1 by omega, clampN_id hc.1 hc.2, ← q2, ← q1]
theorem part_back {b : List T} {g : Option Nat → T × Option Nat} (h0 : (g none).2 = none) {s : Option Nat} (hn : (itemsI g (rdC b s).1.toNat (rdC b s).2).2 ≠ none) : s ≠ none := rd_back (rdC_back (items_back h0 hn))
theorem inode_of {b : List T} (hb : byt b) {i k n : Int} {dt es ats : List T} (h : getInodeB b = some (i, k, n, dt, es, ats)) : inodeB i k n dt es ats = true ∧ putInodeT i k n dt es ats = b := by
  unfold getInodeB at h
  cases c1 : (inoA b (inoE b (inoHead b).2).2).2 == some b.length with
  | false => rw [c1] at h; cases h
  | true =>
    cases c2 : inodeB (inoHead b).1.1 (inoHead b).1.2.1 (inoHead b).1.2.2.1 (listOf (inoHead b).1.2.2.2) (inoE b (inoHead b).2).1 (inoA b (inoE b (inoHead b).2).2).1 with
    | false => rw [c1, c2] at h; cases h
    | true =>
      rw [c1, c2] at h
      simp only [Bool.and_self, cond_t, Option.some.injEq, Prod.mk.injEq] at h
      obtain ⟨rfl, rfl, rfl, rfl, rfl, rfl⟩ := h
      refine ⟨c2, ?_⟩
      have zA : (inoA b (inoE b (inoHead b).2).2).2 ≠ none := fun e => by rw [e] at c1; cases c1
      have zE : (inoE b (inoHead b).2).2 ≠ none := part_back (g := gAttr b) rfl zA
      have z4 : (inoHead b).2 ≠ none := part_back (g := gEnt b) rfl zE
      unfold inoHead at z4
      simp only at z4
      have z3 := rdS_back z4
      have z2 := rd_back z3
      have z1 := rd_back z2
      obtain ⟨r1, q1, A1⟩ := rd_of hb (at_zero b) z1
      obtain ⟨r2, q2, A2⟩ := rd_of hb A1 z2
      obtain ⟨r3, q3, A3⟩ := rd_of hb A2 z3
      obtain ⟨r4, q4, A4⟩ := rdS_of hb A3 z4
      have n1 := rd_in hb (some 0)
      have n2 := rd_in hb (rd b (some 0)).2
      have n3 := rd_in hb (rd b (rd b (some 0)).2).2
      have A4 : At b (inoHead b).2 r4 := A4
      obtain ⟨r5, q5, A5⟩ := part_of hb (g := gEnt b) (pr := prEnt) rfl (gEnt_of hb) A4 zE
      have A5 : At b (inoE b (inoHead b).2).2 r5 := A5
      obtain ⟨r6, q6, A6⟩ := part_of hb (g := gAttr b) (pr := prAttr) rfl (gAttr_of hb) A5 zA
      have := (at_end A6).1 c1
      subst this
      rw [List.append_nil] at q6
      unfold putInodeT
      have q5 : r4 = numT (clampN ((inoE b (inoHead b).2).1.length : Int)) ++ (flatT prEnt (inoE b (inoHead b).2).1 ++ r5) := q5
      have q6 : r5 = numT (clampN ((inoA b (inoE b (inoHead b).2).2).1.length : Int)) ++ flatT prAttr (inoA b (inoE b (inoHead b).2).2).1 := q6
      rw [← q6, ← q5]
      unfold inoHead
      simp only
      rw [bytesOf_listOf, clampN_id n1.1 n1.2, clampN_id n2.1 n2.2, clampN_id n3.1 n3.2, ← q4, ← q3, ← q2, ← q1]
theorem and_255 (x : Int) : 0 ≤ intBits .and .i64 x 255 ∧ intBits .and .i64 x 255 ≤ 255 := by
  have h : intBits .and .i64 x 255 = IntKind.wrap .i64 (((BitVec.ofInt 64 x &&& BitVec.ofInt 64 255).toNat : Nat) : Int) := rfl
  have h2 : (BitVec.ofInt 64 x &&& BitVec.ofInt 64 255).toNat ≤ 255 := by
    rw [BitVec.toNat_and, toNat_ofInt64 (x := 255) (by omega) (by omega)]
    exact Nat.and_le_right
  rw [h, wrap_in (by omega) (by omega)]
  omega
theorem c_new {lf d : Nat} (hlf : 33554432 ≤ lf) {b : List T} (hl : b.length ≤ 1048576) : ∃ h, Cc lf (d + 1) 65 [.sl b] = some [.st [.sl b, .i .i64 0, .i .i64 h]] := by
  have E := f65_eq (Cc lf d) lf b
  unfold f65 f65_t at E
  dsimp only at E
  have L : ∀ (k j n : Nat) (h : Int), j + k = b.length → k < n → ∃ h', f65_0 (Cc lf d) lf b n h j = some [T.i .i64 0, T.sl b, T.i .i64 h'] := by
    intro k
    induction k with
    | zero =>
      intro j n h hj hn
      obtain ⟨n, rfl⟩ : ∃ m, n = m + 1 := ⟨n - 1, by omega⟩
      refine ⟨h, ?_⟩
      rw [f65_0_u]
      unfold f65_0_s
      rw [iLt_f (by omega)]
      rfl
    | succ k ih =>
      intro j n h hj hn
      obtain ⟨n, rfl⟩ : ∃ m, n = m + 1 := ⟨n - 1, by omega⟩
      rw [f65_0_u]
      unfold f65_0_s
      rw [iLt_t (show (j : Int) < (b.length : Int) by omega), inR_nat (by omega), wrap_next (show j < b.length by omega) (by omega)]
      simp only [cond_t]
      cases iLt (j : Int) 4000 with
      | false => exact ⟨h, rfl⟩
      | true => exact ih (j + 1) n _ (by omega) (by omega)
  obtain ⟨h', e⟩ := L b.length 0 lf (IntKind.wrap .i64 (351351 + (b.length : Int))) (by omega) (by omega)
  rw [show ((0 : Nat) : Int) = 0 from rfl] at e
  rw [e] at E
  exact ⟨h', E⟩
theorem c_byte {lf d : Nat} {b : List T} (hl : b.length ≤ 1048576) (i h : Int) (hi : 0 ≤ i ∧ i ≤ b.length) : ∃ x i' h', Cc lf (d + 1) 124 [.st [.sl b, .i .i64 i, .i .i64 h]] = some [.i .i64 x, .st [.sl b, .i .i64 i', .i .i64 h']] ∧ (0 ≤ x ∧ x ≤ 255) ∧ (0 ≤ i' ∧ i' ≤ b.length) := by
  have E := f124_eq (Cc lf d) lf b i h
  unfold f124 f124_t at E
  obtain ⟨k, rfl⟩ := Int.eq_ofNat_of_zero_le hi.1
  by_cases c : k < b.length
  · rw [iLt_t (by omega), inR_nat c, wrap_in (x := (k : Int) + 1) (by omega) (by omega)] at E
    exact ⟨_, _, _, E, and_255 _, by omega⟩
  · rw [iLt_f (by omega)] at E
    exact ⟨_, _, _, E, and_255 _, by omega⟩
theorem c_below {lf d : Nat} {b : List T} (hl : b.length ≤ 1048576) (i h : Int) (hi : 0 ≤ i ∧ i ≤ b.length) (n : Int) : ∃ x i' h', Cc lf (d + 2) 70 [.st [.sl b, .i .i64 i, .i .i64 h], .i .i64 n] = some [.i .i64 x, .st [.sl b, .i .i64 i', .i .i64 h']] ∧ (0 ≤ x ∧ (x < n ∨ n ≤ 0 ∧ x = 0)) ∧ (0 ≤ i' ∧ i' ≤ b.length) := by
  have E := f70_eq (Cc lf (d + 1)) lf b i h n
  unfold f70 f70_t at E
  by_cases c : n ≤ 0
  · rw [iLe_t c] at E
    exact ⟨0, i, h, E, ⟨Int.le_refl _, .inr ⟨c, rfl⟩⟩, hi⟩
  · rw [iLe_f c] at E
    have hne : (n != 0) = true := by rw [bne_iff_ne]; omega
    obtain ⟨x, i1, h1, e1, r1, q1⟩ := c_byte (lf := lf) (d := d) hl i h hi
    rw [e1, hne] at E
    simp only [cond_f, cond_t, Option.bind_some, nth0, nthS, asI_i, cell0, cellS] at E
    by_cases c2 : n ≤ 256
    · rw [iLe_t c2] at E
      exact ⟨_, _, _, E, ⟨Int.tmod_nonneg _ r1.1, .inl (Int.tmod_lt_of_pos _ (by omega))⟩, q1⟩
    · rw [iLe_f c2] at E
      obtain ⟨y, i2, h2, e2, r2, q2⟩ := c_byte (lf := lf) (d := d) hl i1 h1 q1
      obtain ⟨z, i3, h3, e3, r3, q3⟩ := c_byte (lf := lf) (d := d) hl i2 h2 q2
      rw [e2] at E
      simp only [cond_f, cond_t, Option.bind_some, nth0, nthS, asI_i, cell0, cellS] at E
      rw [e3] at E
      simp only [cond_f, cond_t, Option.bind_some, nth0, nthS, asI_i, cell0, cellS] at E
      rw [wrap_in (x := x * 65536) (by omega) (by omega), wrap_in (x := y * 256) (by omega) (by omega), wrap_in (x := x * 65536 + y * 256) (by omega) (by omega), wrap_in (x := x * 65536 + y * 256 + z) (by omega) (by omega)] at E
      exact ⟨_, _, _, E, ⟨Int.tmod_nonneg _ (by omega), .inl (Int.tmod_lt_of_pos _ (by omega))⟩, q3⟩
theorem c_once {lf d : Nat} {b : List T} (hl : b.length ≤ 1048576) (i h : Int) (hi : 0 ≤ i ∧ i ≤ b.length) (n : Int) : ∃ (x : Bool) (i' h' : Int), Cc lf (d + 3) 118 [.st [.sl b, .i .i64 i, .i .i64 h], .i .i64 n] = some [.b x, .st [.sl b, .i .i64 i', .i .i64 h']] ∧ (0 ≤ i' ∧ i' ≤ b.length) := by
  have E := f118_eq (Cc lf (d + 2)) lf b i h n
  unfold f118 f118_t at E
  obtain ⟨x, i1, h1, e1, _, q1⟩ := c_below (lf := lf) (d := d) hl i h hi n
  rw [e1] at E
  exact ⟨_, _, _, E, q1⟩
theorem c_int {lf d : Nat} {b : List T} (hl : b.length ≤ 1048576) (i h : Int) (hi : 0 ≤ i ∧ i ≤ b.length) (l : List T) (h0 : 0 < l.length) : ∃ (k : Nat) (i' h' : Int), k < l.length ∧ Cc lf (d + 3) 71 [.st [.sl b, .i .i64 i, .i .i64 h], .sl l] = some [.i .i64 (asI (l.getD k T.u)), .st [.sl b, .i .i64 i', .i .i64 h']] ∧ (0 ≤ i' ∧ i' ≤ b.length) := by
  have E := f71_eq (Cc lf (d + 2)) lf b i h l
  unfold f71 f71_t at E
  obtain ⟨x, i1, h1, e1, r1, q1⟩ := c_below (lf := lf) (d := d) hl i h hi (l.length : Int)
  obtain ⟨k, rfl⟩ := Int.eq_ofNat_of_zero_le r1.1
  rw [e1] at E
  simp only [Option.bind_some, nth0, nthS, asI_i, cell0, cellS] at E
  rw [inR_nat (by omega)] at E
  exact ⟨k, i1, h1, by omega, E, q1⟩
theorem byt_set {l : List T} (h : byt l) (k : Nat) (v : Int) : byt (l.set k (.i .u8 (IntKind.wrap .u8 v))) := by
  intro x hx
  rcases List.mem_or_eq_of_mem_set hx with hx | rfl
  · exact h x hx
  · refine ⟨_, rfl, ?_⟩
    rw [IntKind.wrap_u8]
    omega
theorem c_big {lf d : Nat} (b : List T) : Cc lf (d + 1) 13 [.sl b] = some [.b (iLt 1048576 (b.length : Int))] := by
  refine (f13_eq (Cc lf d) lf b).trans ?_
  rfl
theorem getD_app (l : List T) (x : T) : (l ++ [x]).getD l.length T.u = x := by
  rw [List.getD_eq_getElem?_getD, List.getElem?_append_right (Nat.le_refl _), Nat.sub_self]
  rfl
theorem getD_app_lt {l : List T} {i : Nat} (x : T) (h : i < l.length) : (l ++ [x]).getD i T.u = l.getD i T.u := by
  rw [List.getD_eq_getElem?_getD, List.getD_eq_getElem?_getD, List.getElem?_append_left h]
theorem byt_app1 {l : List T} (h : byt l) : byt (l ++ [T.i .u8 0]) := byt_app h fun x hx => ⟨0, List.mem_singleton.1 hx, by omega, by omega⟩
theorem byt_take2 {l : List T} (h : byt l) (k : Nat) : byt (l.take k) := fun x hx => h x (List.mem_of_mem_take hx)
theorem c_str {lf d : Nat} {b : List T} (hl : b.length ≤ 1048576) (i h : Int) (hi : 0 ≤ i ∧ i ≤ b.length) (l : List T) (h0 : 0 < l.length) : ∃ (k : Nat) (i' h' : Int), k < l.length ∧ Cc lf (d + 3) 131 [.st [.sl b, .i .i64 i, .i .i64 h], .sl l] = some [.s (asS (l.getD k T.u)), .st [.sl b, .i .i64 i', .i .i64 h']] ∧ (0 ≤ i' ∧ i' ≤ b.length) := by
  have E := f131_eq (Cc lf (d + 2)) lf b i h l
  unfold f131 f131_t at E
  obtain ⟨x, i1, h1, e1, r1, q1⟩ := c_below (lf := lf) (d := d) hl i h hi (l.length : Int)
  obtain ⟨k, rfl⟩ := Int.eq_ofNat_of_zero_le r1.1
  rw [e1] at E
  simp only [Option.bind_some, nth0, nthS, asI_i, cell0, cellS] at E
  rw [inR_nat (by omega)] at E
  exact ⟨k, i1, h1, by omega, E, q1⟩
theorem c_bytes {lf d : Nat} (hlf : 33554432 ≤ lf) {b : List T} (hl : b.length ≤ 1048576) (i h : Int) (hi : 0 ≤ i ∧ i ≤ b.length) (m : Nat) (hm : m ≤ 1000) : ∃ (o : List T) (i' h' : Int), Cc lf (d + 2) 143 [.st [.sl b, .i .i64 i, .i .i64 h], .i .i64 (m : Int)] = some [.sl o, .st [.sl b, .i .i64 i', .i .i64 h']] ∧ byt o ∧ o.length = m ∧ (0 ≤ i' ∧ i' ≤ b.length) := by
  have E := f143_eq (Cc lf (d + 1)) lf b i h m
  unfold f143 f143_t at E
  dsimp only at E
  have L : ∀ (k n : Nat) (i h : Int) (l : List T), l.length + k = m → k < n → byt l → (0 ≤ i ∧ i ≤ b.length) → ∃ l' i' h', f143_0 (Cc lf (d + 1)) lf b m n (l.length : Int) i h l = some [T.i .i64 0, T.sl b, T.i .i64 i', T.i .i64 h', T.sl l'] ∧ byt l' ∧ l'.length = m ∧ (0 ≤ i' ∧ i' ≤ b.length) := by
    intro k
    induction k with
    | zero =>
      intro n i h l hj hn hg hi
      obtain ⟨n, rfl⟩ : ∃ m, n = m + 1 := ⟨n - 1, by omega⟩
      refine ⟨l, i, h, ?_, hg, by omega, hi⟩
      rw [f143_0_u]
      unfold f143_0_s
      rw [iLt_f (by omega)]
      rfl
    | succ k ih =>
      intro n i h l hj hn hg hi
      obtain ⟨n, rfl⟩ : ∃ m, n = m + 1 := ⟨n - 1, by omega⟩
      rw [f143_0_u]
      unfold f143_0_s
      obtain ⟨x, i1, h1, e1, r1, q1⟩ := c_byte (lf := lf) (d := d) hl i h hi
      rw [iLt_t (by omega), e1]
      simp only [cond_t, Option.bind_some, nth0, nthS, asI_i, cell0, cellS]
      rw [nLe_app (by omega), wrap8 r1.1 (by omega), wrap_in (x := (l.length : Int) + 1) (by omega) (by omega)]
      have := ih n i1 h1 (l ++ [T.i .u8 x]) (by rw [List.length_append, List.length_singleton]; omega) (by omega) (byt_app hg fun y hy => ⟨x, List.mem_singleton.1 hy, r1.1, by omega⟩) q1
      rw [List.length_append, List.length_singleton] at this
      exact this
  obtain ⟨l', i', h', e, g1, g2, g3⟩ := L m lf i h [] (by simp) (by omega) byt_nil hi
  rw [show ((([] : List T).length : Nat) : Int) = 0 from rfl] at e
  rw [e] at E
  exact ⟨l', i', h', E, g1, g2, g3⟩
def nm4 : List T := [T.s (⟨#[97]⟩ : ByteArray), T.s (⟨#[98]⟩ : ByteArray), T.s (⟨#[99]⟩ : ByteArray), T.s (⟨#[100, 46, 116, 120, 116]⟩ : ByteArray)]
theorem nm4_ok : ∀ j, j < 4 → nameB (asS (nm4.getD j T.u)) = true := by
  intro j hj
  unfold nameB
  rcases j with _ | _ | _ | _ | j <;> first | omega | (simp only [ByteArray.toList_eq]; decide +kernel)
theorem nm4_less : ∀ i j, i < j → j < 4 → Op.bytesLess (asS (nm4.getD i T.u)).toList (asS (nm4.getD j T.u)).toList = true := by
  intro i j hi hj
  rcases j with _ | _ | _ | _ | j <;> rcases i with _ | _ | _ | i <;> first | omega | (simp only [ByteArray.toList_eq]; decide)
/-- Not the name that is asked for. -/
def noZ (s : ByteArray) : Prop := s.size ≤ 14 ∧ (s.toList == (⟨#[122, 122]⟩ : ByteArray).toList) = false
theorem nm4_noZ : ∀ j, j < 4 → noZ (asS (nm4.getD j T.u)) := by
  intro j hj
  refine ⟨nameB_le (nm4_ok j hj), ?_⟩
  rcases j with _ | _ | _ | _ | j <;> first | omega | (simp only [ByteArray.toList_eq]; decide)
def goodEn (l : List T) (j : Nat) : Prop := l.length ≤ j ∧ ∀ i, i < l.length → ∃ q a, q < j ∧ l.getD i T.u = .st [.s (asS (nm4.getD q T.u)), .i .i64 a] ∧ (2 ≤ a ∧ a ≤ 9) ∧ (0 < i → ∃ q' a', q' < q ∧ l.getD (i - 1) T.u = .st [.s (asS (nm4.getD q' T.u)), .i .i64 a'])
theorem goodEn_step {l : List T} {j : Nat} (h : goodEn l j) : goodEn l (j + 1) := ⟨by have := h.1; omega, fun i hi => by
  obtain ⟨q, a, h1, h2⟩ := h.2 i hi
  exact ⟨q, a, by omega, h2⟩⟩
theorem goodEn_app {l : List T} {j : Nat} (h : goodEn l j) {a : Int} (ha : 2 ≤ a ∧ a ≤ 9) : goodEn (l ++ [.st [.s (asS (nm4.getD j T.u)), .i .i64 a]]) (j + 1) := by
  refine ⟨by have := h.1; rw [List.length_append, List.length_singleton]; omega, fun i hi => ?_⟩
  rw [List.length_append, List.length_singleton] at hi
  by_cases e : i = l.length
  · subst e
    refine ⟨j, a, by omega, getD_app l _, ha, fun h0 => ?_⟩
    obtain ⟨q, a', h1, h2, _⟩ := h.2 (l.length - 1) (by omega)
    exact ⟨q, a', h1, by rw [getD_app_lt _ (by omega)]; exact h2⟩
  · obtain ⟨q, a', h1, h2, h3, h4⟩ := h.2 i (by omega)
    refine ⟨q, a', by omega, by rw [getD_app_lt _ (by omega)]; exact h2, h3, fun h0 => ?_⟩
    obtain ⟨q', a2, g1, g2⟩ := h4 h0
    exact ⟨q', a2, g1, by rw [getD_app_lt _ (by omega)]; exact g2⟩
theorem goodEn_B {l : List T} (h : goodEn l 4) : entsB l = true := by
  unfold entsB
  rw [Bool.and_eq_true, allB_iff]
  refine ⟨fun j hj => ?_, iLe_t (by have := h.1; omega)⟩
  obtain ⟨q, a, h1, h2, h3, h4⟩ := h.2 j hj
  unfold entB lessB
  rw [h2]
  simp only [cell0, cellS, asS_s, asI_i]
  rw [nm4_ok q h1, iLe_t h3.1, iLe_t (by omega)]
  by_cases h0 : 0 < j
  · obtain ⟨q', a', g1, g2⟩ := h4 h0
    rw [g2]
    simp only [cell0, asS_s]
    rw [nm4_less q' q g1 h1]
    cases iLt 0 (j : Int) <;> rfl
  · rw [iLt_f (by omega)]; rfl
/-- Entries of short names that are not 'zz'. -/
def entZ (l : List T) : Prop := ∀ x ∈ l, ∃ s a, x = .st [.s s, .i .i64 a] ∧ noZ s
def attrZ (l : List T) : Prop := ∀ x ∈ l, ∃ s t, x = .st [.s s, .s t] ∧ s.size ≤ 14 ∧ t.size ≤ 17
theorem goodEn_Z {l : List T} (h : goodEn l 4) : entZ l := by
  intro x hx
  obtain ⟨j, hj, rfl⟩ := List.getElem_of_mem hx
  obtain ⟨q, a, h1, h2, _⟩ := h.2 j hj
  rw [List.getD_eq_getElem?_getD, List.getElem?_eq_getElem hj] at h2
  exact ⟨_, _, h2, nm4_noZ q h1⟩
def goodAt (l : List T) (j : Nat) : Prop := l.length ≤ j ∧ ∀ i, i < l.length → ∃ q t, q < j ∧ l.getD i T.u = .st [.s (asS (nm4.getD q T.u)), .s t] ∧ (1 ≤ t.size ∧ t.size ≤ 16) ∧ (0 < i → ∃ q' t', q' < q ∧ l.getD (i - 1) T.u = .st [.s (asS (nm4.getD q' T.u)), .s t'])
theorem goodAt_step {l : List T} {j : Nat} (h : goodAt l j) : goodAt l (j + 1) := ⟨by have := h.1; omega, fun i hi => by
  obtain ⟨q, a, h1, h2⟩ := h.2 i hi
  exact ⟨q, a, by omega, h2⟩⟩
theorem goodAt_app {l : List T} {j : Nat} (h : goodAt l j) {t : ByteArray} (ha : 1 ≤ t.size ∧ t.size ≤ 16) : goodAt (l ++ [.st [.s (asS (nm4.getD j T.u)), .s t]]) (j + 1) := by
  refine ⟨by have := h.1; rw [List.length_append, List.length_singleton]; omega, fun i hi => ?_⟩
  rw [List.length_append, List.length_singleton] at hi
  by_cases e : i = l.length
  · subst e
    refine ⟨j, t, by omega, getD_app l _, ha, fun h0 => ?_⟩
    obtain ⟨q, a', h1, h2, _⟩ := h.2 (l.length - 1) (by omega)
    exact ⟨q, a', h1, by rw [getD_app_lt _ (by omega)]; exact h2⟩
  · obtain ⟨q, a', h1, h2, h3, h4⟩ := h.2 i (by omega)
    refine ⟨q, a', by omega, by rw [getD_app_lt _ (by omega)]; exact h2, h3, fun h0 => ?_⟩
    obtain ⟨q', a2, g1, g2⟩ := h4 h0
    exact ⟨q', a2, g1, by rw [getD_app_lt _ (by omega)]; exact g2⟩
theorem goodAt_B {l : List T} (h : goodAt l 2) : attrsB l = true := by
  unfold attrsB
  rw [Bool.and_eq_true, allB_iff]
  refine ⟨fun j hj => ?_, iLe_t (by have := h.1; omega)⟩
  obtain ⟨q, a, h1, h2, h3, h4⟩ := h.2 j hj
  unfold attrB lessB
  rw [h2]
  simp only [cell0, cellS, asS_s, asI_i]
  rw [nm4_ok q (by omega), iLe_t (show (1 : Int) ≤ (a.size : Int) by omega), iLe_t (show (a.size : Int) ≤ 16 by omega)]
  by_cases h0 : 0 < j
  · obtain ⟨q', a', g1, g2⟩ := h4 h0
    rw [g2]
    simp only [cell0, asS_s]
    rw [nm4_less q' q g1 (by omega)]
    cases iLt 0 (j : Int) <;> rfl
  · rw [iLt_f (by omega)]; rfl
theorem goodAt_Z {l : List T} (h : goodAt l 2) : attrZ l := by
  intro x hx
  obtain ⟨j, hj, rfl⟩ := List.getElem_of_mem hx
  obtain ⟨q, a, h1, h2, h3, _⟩ := h.2 j hj
  rw [List.getD_eq_getElem?_getD, List.getElem?_eq_getElem hj] at h2
  exact ⟨_, _, h2, nameB_le (nm4_ok q (by omega)), by omega⟩
def vals3 : List T := [T.s (⟨#[120]⟩ : ByteArray), T.s (⟨#[118, 97, 108, 117, 101]⟩ : ByteArray), T.s (⟨#[115, 105, 120, 116, 101, 101, 110, 98, 121, 116, 101, 115, 120, 120, 120, 120]⟩ : ByteArray)]
theorem vals3_ok : ∀ z, z < 3 → 1 ≤ (asS (vals3.getD z T.u)).size ∧ (asS (vals3.getD z T.u)).size ≤ 16 := by
  intro z hz
  rcases z with _ | _ | _ | z <;> first | omega | decide
theorem c_loopA0 {lf d : Nat} (hlf : 33554432 ≤ lf) {b : List T} (hl : b.length ≤ 1048576) (x1 x2 x3 : Int) (dt : List T) (c1 c2 c3 c4 : T) : ∀ (k j n : Nat) (i h : Int) (l : List T), j + k = 2 → k < n → goodAt l j → (0 ≤ i ∧ i ≤ b.length) → ∃ l' i' h', f117_0 (Cc lf (d + 3)) lf b [T.i .i64 x1, c1] [T.i .i64 x2, c2] [T.sl dt, c3] [T.i .i64 x3, c4] n j i h l = some [T.i .i64 0, T.sl b, T.i .i64 i', T.i .i64 h', T.i .i64 0, T.i .i64 0, T.i .i64 0, T.sl ([] : List T), T.sl ([] : List T), T.sl ([] : List T), T.i .i64 (IntKind.wrap .i64 (2 + x1)), T.i .i64 (IntKind.wrap .i64 (1 + x2)), T.i .i64 (IntKind.wrap .i64 (1 + x3)), T.sl dt, T.sl ([] : List T), T.sl l'] ∧ goodAt l' 2 ∧ (0 ≤ i' ∧ i' ≤ b.length) := by
  intro k
  induction k with
  | zero =>
    intro j n i h l hj hn hg hi
    obtain ⟨n, rfl⟩ : ∃ m, n = m + 1 := ⟨n - 1, by omega⟩
    refine ⟨l, i, h, ?_, by rw [show (2 : Nat) = j by omega]; exact hg, hi⟩
    rw [f117_0_u]
    unfold f117_0_s
    rw [iLt_f (by omega)]
    rfl
  | succ k ih =>
    intro j n i h l hj hn hg hi
    obtain ⟨n, rfl⟩ : ∃ m, n = m + 1 := ⟨n - 1, by omega⟩
    rw [f117_0_u]
    unfold f117_0_s
    simp only [nth0, nthS, asL_l]
    obtain ⟨x, i1, h1, e1, q1⟩ := c_once (lf := lf) (d := d) hl i h hi 3
    rw [iLt_t (by omega), e1, wrap_in (x := (j : Int) + 1) (by omega) (by omega)]
    simp only [cond_t, Option.bind_some, nth0, nthS, asB_b, asI_i, cell0, cellS]
    cases x with
    | false => exact ih (j + 1) n i1 h1 l (by omega) (by omega) (goodAt_step hg) q1
    | true =>
      obtain ⟨z, i2, h2, hz, e2, q2⟩ := c_str (lf := lf) (d := d) hl i1 h1 q1 vals3 (by unfold vals3; simp)
      have hv := vals3_ok z hz
      have e2 : Cc lf (d + 3) 131 [.st [.sl b, .i .i64 i1, .i .i64 h1], .sl [T.s (⟨#[120]⟩ : ByteArray), T.s (⟨#[118, 97, 108, 117, 101]⟩ : ByteArray), T.s (⟨#[115, 105, 120, 116, 101, 101, 110, 98, 121, 116, 101, 115, 120, 120, 120, 120]⟩ : ByteArray)]] = some [.s (asS (vals3.getD z T.u)), .st [.sl b, .i .i64 i2, .i .i64 h2]] := e2
      rw [e2]
      simp only [cond_t, Option.bind_some, nth0, nthS, asB_b, asI_i, asS_s, cell0, cellS, Int.toNat_natCast]
      have := hg.1
      rw [inR_nat (show j < _ by simp only [List.length_cons, List.length_nil]; omega), nLe_app (by omega)]
      exact ih (j + 1) n i2 h2 _ (by omega) (by omega) (goodAt_app hg hv) q2
theorem c_loopA2 {lf d : Nat} (hlf : 33554432 ≤ lf) {b : List T} (hl : b.length ≤ 1048576) (x1 x2 y1 y2 : Int) (es : List T) : ∀ (k j n : Nat) (i h : Int) (l : List T), j + k = 2 → k < n → goodAt l j → (0 ≤ i ∧ i ≤ b.length) → ∃ l' i' h', f117_2 (Cc lf (d + 3)) lf [T.i .i64 0, T.sl b, T.i .i64 y1, T.i .i64 y2, T.i .i64 0, T.i .i64 0, T.i .i64 0, T.sl ([] : List T), T.sl ([] : List T), T.sl ([] : List T), T.i .i64 x1, T.i .i64 x2, T.i .i64 1, T.sl ([] : List T), T.sl es, T.sl ([] : List T), T.sl ([T.s (⟨#[97]⟩ : ByteArray), T.s (⟨#[98]⟩ : ByteArray), T.s (⟨#[99]⟩ : ByteArray), T.s (⟨#[100, 46, 116, 120, 116]⟩ : ByteArray)] : List T)] n j i h l = some [T.i .i64 0, T.sl b, T.i .i64 i', T.i .i64 h', T.i .i64 0, T.i .i64 0, T.i .i64 0, T.sl ([] : List T), T.sl ([] : List T), T.sl ([] : List T), T.i .i64 x1, T.i .i64 x2, T.i .i64 1, T.sl ([] : List T), T.sl es, T.sl l'] ∧ goodAt l' 2 ∧ (0 ≤ i' ∧ i' ≤ b.length) := by
  intro k
  induction k with
  | zero =>
    intro j n i h l hj hn hg hi
    obtain ⟨n, rfl⟩ : ∃ m, n = m + 1 := ⟨n - 1, by omega⟩
    refine ⟨l, i, h, ?_, by rw [show (2 : Nat) = j by omega]; exact hg, hi⟩
    rw [f117_2_u]
    unfold f117_2_s
    rw [iLt_f (by omega)]
    rfl
  | succ k ih =>
    intro j n i h l hj hn hg hi
    obtain ⟨n, rfl⟩ : ∃ m, n = m + 1 := ⟨n - 1, by omega⟩
    rw [f117_2_u]
    unfold f117_2_s
    simp only [nth0, nthS, asL_l]
    obtain ⟨x, i1, h1, e1, q1⟩ := c_once (lf := lf) (d := d) hl i h hi 3
    rw [iLt_t (by omega), e1, wrap_in (x := (j : Int) + 1) (by omega) (by omega)]
    simp only [cond_t, Option.bind_some, nth0, nthS, asB_b, asI_i, cell0, cellS]
    cases x with
    | false => exact ih (j + 1) n i1 h1 l (by omega) (by omega) (goodAt_step hg) q1
    | true =>
      obtain ⟨z, i2, h2, hz, e2, q2⟩ := c_str (lf := lf) (d := d) hl i1 h1 q1 vals3 (by unfold vals3; simp)
      have hv := vals3_ok z hz
      have e2 : Cc lf (d + 3) 131 [.st [.sl b, .i .i64 i1, .i .i64 h1], .sl [T.s (⟨#[120]⟩ : ByteArray), T.s (⟨#[118, 97, 108, 117, 101]⟩ : ByteArray), T.s (⟨#[115, 105, 120, 116, 101, 101, 110, 98, 121, 116, 101, 115, 120, 120, 120, 120]⟩ : ByteArray)]] = some [.s (asS (vals3.getD z T.u)), .st [.sl b, .i .i64 i2, .i .i64 h2]] := e2
      rw [e2]
      simp only [cond_t, Option.bind_some, nth0, nthS, asB_b, asI_i, asS_s, cell0, cellS, Int.toNat_natCast]
      have := hg.1
      rw [inR_nat (show j < _ by simp only [List.length_cons, List.length_nil]; omega), nLe_app (by omega)]
      exact ih (j + 1) n i2 h2 _ (by omega) (by omega) (goodAt_app hg hv) q2
theorem c_loopE {lf d : Nat} (hlf : 33554432 ≤ lf) {b : List T} (hl : b.length ≤ 1048576) (x1 x2 : Int) (c1 c2 : T) : ∀ (k j n : Nat) (i h : Int) (l : List T), j + k = 4 → k < n → goodEn l j → (0 ≤ i ∧ i ≤ b.length) → ∃ l' i' h', f117_1 (Cc lf (d + 3)) lf b [T.i .i64 x1, c1] [T.i .i64 x2, c2] n j i h l = some [T.i .i64 0, T.sl b, T.i .i64 i', T.i .i64 h', T.i .i64 0, T.i .i64 0, T.i .i64 0, T.sl ([] : List T), T.sl ([] : List T), T.sl ([] : List T), T.i .i64 (IntKind.wrap .i64 (2 + x1)), T.i .i64 (IntKind.wrap .i64 (1 + x2)), T.i .i64 1, T.sl ([] : List T), T.sl l', T.sl ([] : List T), T.sl ([T.s (⟨#[97]⟩ : ByteArray), T.s (⟨#[98]⟩ : ByteArray), T.s (⟨#[99]⟩ : ByteArray), T.s (⟨#[100, 46, 116, 120, 116]⟩ : ByteArray)] : List T)] ∧ goodEn l' 4 ∧ (0 ≤ i' ∧ i' ≤ b.length) := by
  intro k
  induction k with
  | zero =>
    intro j n i h l hj hn hg hi
    obtain ⟨n, rfl⟩ : ∃ m, n = m + 1 := ⟨n - 1, by omega⟩
    refine ⟨l, i, h, ?_, by rw [show (4 : Nat) = j by omega]; exact hg, hi⟩
    rw [f117_1_u]
    unfold f117_1_s
    rw [iLt_f (by omega)]
    rfl
  | succ k ih =>
    intro j n i h l hj hn hg hi
    obtain ⟨n, rfl⟩ : ∃ m, n = m + 1 := ⟨n - 1, by omega⟩
    rw [f117_1_u]
    unfold f117_1_s
    obtain ⟨x, i1, h1, e1, q1⟩ := c_once (lf := lf) (d := d) hl i h hi 2
    rw [iLt_t (by omega), e1, wrap_in (x := (j : Int) + 1) (by omega) (by omega)]
    simp only [cond_t, Option.bind_some, nth0, nthS, asB_b, asI_i, cell0, cellS]
    cases x with
    | false => exact ih (j + 1) n i1 h1 l (by omega) (by omega) (goodEn_step hg) q1
    | true =>
      obtain ⟨z, i2, h2, e2, r2, q2⟩ := c_below (lf := lf) (d := d + 1) hl i1 h1 q1 8
      rw [e2]
      simp only [cond_t, Option.bind_some, nth0, nthS, asB_b, asI_i, asS_s, cell0, cellS, Int.toNat_natCast]
      have := hg.1
      rw [inR_nat (show j < _ by simp only [List.length_cons, List.length_nil]; omega), nLe_app (by omega), wrap_in (x := 2 + z) (by omega) (by omega)]
      exact ih (j + 1) n i2 h2 _ (by omega) (by omega) (goodEn_app hg (by omega)) q2
theorem c_drawI {lf d : Nat} (hlf : 33554432 ≤ lf) {b : List T} (hl : b.length ≤ 1048576) (i h : Int) (hi : 0 ≤ i ∧ i ≤ b.length) : ∃ a k n dt es ats i' h', Cc lf (d + 4) 117 [.st [.sl b, .i .i64 i, .i .i64 h]] = some [.st [.i .i64 a, .i .i64 k, .i .i64 n, .sl dt, .sl es, .sl ats], .st [.sl b, .i .i64 i', .i .i64 h']] ∧ inodeB a k n dt es ats = true ∧ byt dt ∧ entZ es ∧ es.length ≤ 4 ∧ attrZ ats ∧ ats.length ≤ 2 ∧ (0 ≤ i' ∧ i' ≤ b.length) := by
  have E := f117_eq (Cc lf (d + 3)) lf b i h
  unfold f117 f117_t at E
  dsimp only at E
  obtain ⟨x1, i1, h1, e1, r1, q1⟩ := c_below (lf := lf) (d := d + 1) hl i h hi 6
  rw [e1] at E
  simp only [Option.bind_some, nth0, nthS, asB_b, asI_i, asL_l, cell0, cellS] at E
  obtain ⟨x2, i2, h2, e2, r2, q2⟩ := c_below (lf := lf) (d := d + 1) hl i1 h1 q1 2
  rw [e2] at E
  simp only [Option.bind_some, nth0, nthS, asB_b, asI_i, asL_l, cell0, cellS] at E
  have w1 : IntKind.wrap .i64 (2 + x1) = 2 + x1 := wrap_in (by omega) (by omega)
  have w2 : IntKind.wrap .i64 (1 + x2) = 1 + x2 := wrap_in (by omega) (by omega)
  have g0 : goodAt [] 0 := ⟨Nat.le_refl _, fun i hi => absurd hi (Nat.not_lt_zero _)⟩
  have g0' : goodEn [] 0 := ⟨Nat.le_refl _, fun i hi => absurd hi (Nat.not_lt_zero _)⟩
  by_cases c : x2 = 0
  · subst c
    rw [w2] at E
    rw [show ((1 : Int) + 0 == 1) = true from rfl] at E
    simp only [cond_t] at E
    obtain ⟨z, i3, h3, hz, e3, q3⟩ := c_int (lf := lf) (d := d) hl i2 h2 q2 [T.i .i64 0, T.i .i64 1, T.i .i64 5, T.i .i64 20, T.i .i64 100] (by simp)
    obtain ⟨m, hm, hm2⟩ : ∃ m : Nat, asI ([T.i .i64 0, T.i .i64 1, T.i .i64 5, T.i .i64 20, T.i .i64 100].getD z T.u) = (m : Int) ∧ m ≤ 100 := by
      rcases z with _ | _ | _ | _ | _ | z
      · exact ⟨0, rfl, by omega⟩
      · exact ⟨1, rfl, by omega⟩
      · exact ⟨5, rfl, by omega⟩
      · exact ⟨20, rfl, by omega⟩
      · exact ⟨100, rfl, by omega⟩
      · simp only [List.length_cons, List.length_nil] at hz; omega
    rw [e3, hm] at E
    simp only [Option.bind_some, nth0, nthS, asB_b, asI_i, asL_l, cell0, cellS] at E
    obtain ⟨o, i4, h4, e4, ob, ol, q4⟩ := c_bytes (lf := lf) (d := d + 1) hlf hl i3 h3 q3 m (by omega)
    rw [e4] at E
    simp only [Option.bind_some, nth0, nthS, asB_b, asI_i, asL_l, cell0, cellS] at E
    obtain ⟨x3, i5, h5, e5, r5, q5⟩ := c_below (lf := lf) (d := d + 1) hl i4 h4 q4 2
    rw [e5] at E
    simp only [Option.bind_some, nth0, nthS, asB_b, asI_i, asL_l, cell0, cellS] at E
    obtain ⟨l', i6, h6, e6, g6, q6⟩ := c_loopA0 (d := d) hlf hl x1 0 x3 o (.st [.sl b, .i .i64 i1, .i .i64 h1]) (.st [.sl b, .i .i64 i2, .i .i64 h2]) (.st [.sl b, .i .i64 i4, .i .i64 h4]) (.st [.sl b, .i .i64 i5, .i .i64 h5]) 2 0 lf i5 h5 [] rfl (by omega) g0 q5
    rw [show ((0 : Nat) : Int) = 0 from rfl] at e6
    rw [e6] at E
    simp only [Option.bind_some, nth0, nthS, asB_b, asI_i, asL_l, cell0, cellS] at E
    rw [w1, wrap_in (x := 1 + 0) (by omega) (by omega), wrap_in (x := 1 + x3) (by omega) (by omega)] at E
    refine ⟨_, _, _, _, _, _, _, _, E, ?_, ob, (fun x hx => by cases hx), Nat.zero_le _, goodAt_Z g6, g6.1, q6⟩
    unfold inodeB
    rw [goodAt_B g6, show entsB [] = true from rfl, iLe_t (by omega), iLe_t (by omega), iLe_t (by omega), iLe_t (by omega), iLt_f (show ¬ (100 : Int) < (o.length : Int) by omega), show ((1 + x3 == 0) = false) by rw [beq_eq_false_iff_ne]; omega, show ((2 + x1 == 1) = false) by rw [beq_eq_false_iff_ne]; omega]
    rfl
  · have c1 : x2 = 1 := by omega
    subst c1
    rw [w2] at E
    rw [show ((1 : Int) + 1 == 1) = false from rfl] at E
    simp only [cond_f] at E
    obtain ⟨es, i4, h4, e4, g4, q4⟩ := c_loopE (d := d) hlf hl x1 1 (.st [.sl b, .i .i64 i1, .i .i64 h1]) (.st [.sl b, .i .i64 i2, .i .i64 h2]) 4 0 lf i2 h2 [] rfl (by omega) g0' q2
    rw [show ((0 : Nat) : Int) = 0 from rfl] at e4
    rw [e4] at E
    simp only [Option.bind_some, nth0, nthS, asB_b, asI_i, asL_l, cell0, cellS] at E
    rw [w1, w2] at E
    obtain ⟨l', i6, h6, e6, g6, q6⟩ := c_loopA2 (d := d) hlf hl (2 + x1) (1 + 1) i4 h4 es 2 0 lf i4 h4 [] rfl (by omega) g0 q4
    rw [show ((0 : Nat) : Int) = 0 from rfl] at e6
    rw [e6] at E
    simp only [Option.bind_some, nth0, nthS, asB_b, asI_i, asL_l, cell0, cellS] at E
    refine ⟨_, _, _, _, _, _, _, _, E, ?_, byt_nil, goodEn_Z g4, g4.1, goodAt_Z g6, g6.1, q6⟩
    unfold inodeB
    rw [goodAt_B g6, goodEn_B g4, iLe_t (show (1 : Int) ≤ 2 + x1 by omega), iLe_t (show 2 + x1 ≤ 1000 by omega), show ((2 + x1 == 1) = false) by rw [beq_eq_false_iff_ne]; omega]
    rfl
/-- A drawn inode, right or not. -/
def dIno (dt es ats : List T) : Prop := byt dt ∧ dt.length ≤ 101 ∧ (entZ es ∧ es.length ≤ 5) ∧ (attrZ ats ∧ ats.length ≤ 3)
theorem entZ_app {l : List T} (h : entZ l) {s : ByteArray} (hs : noZ s) (a : Int) : entZ (l ++ [.st [.s s, .i .i64 a]]) := fun x hx => by
  rcases List.mem_append.1 hx with hx | hx
  · exact h x hx
  · exact ⟨s, a, List.mem_singleton.1 hx, hs⟩
theorem attrZ_app {l : List T} (h : attrZ l) {s t : ByteArray} (hs : s.size ≤ 14) (ht : t.size ≤ 17) : attrZ (l ++ [.st [.s s, .s t]]) := fun x hx => by
  rcases List.mem_append.1 hx with hx | hx
  · exact h x hx
  · exact ⟨s, t, List.mem_singleton.1 hx, hs, ht⟩
def strs4 : List T := [T.s (⟨#[97]⟩ : ByteArray), T.s (⟨#[122]⟩ : ByteArray), T.s (⟨#[]⟩ : ByteArray), T.s (⟨#[90]⟩ : ByteArray)]
theorem strs4_ok : ∀ z, z < 4 → noZ (asS (strs4.getD z T.u)) := by
  intro z hz
  unfold noZ
  rcases z with _ | _ | _ | _ | z <;> first | omega | (simp only [ByteArray.toList_eq]; decide)
def strs3 : List T := [T.s (⟨#[97]⟩ : ByteArray), T.s (⟨#[122]⟩ : ByteArray), T.s (⟨#[]⟩ : ByteArray)]
theorem strs3_ok : ∀ z, z < 3 → (asS (strs3.getD z T.u)).size ≤ 14 := by
  intro z hz
  rcases z with _ | _ | _ | z <;> first | omega | decide
theorem c_anyI {lf d : Nat} (hlf : 33554432 ≤ lf) {b : List T} (hl : b.length ≤ 1048576) (i h : Int) (hi : 0 ≤ i ∧ i ≤ b.length) : ∃ a k n dt es ats i' h', Cc lf (d + 5) 85 [.st [.sl b, .i .i64 i, .i .i64 h]] = some [.st [.i .i64 a, .i .i64 k, .i .i64 n, .sl dt, .sl es, .sl ats], .st [.sl b, .i .i64 i', .i .i64 h']] ∧ dIno dt es ats ∧ (0 ≤ i' ∧ i' ≤ b.length) := by
  have E := f85_eq (Cc lf (d + 4)) lf b i h
  unfold f85 f85_t at E
  obtain ⟨a, k, n, dt, es, ats, i1, h1, e1, hB, d1, d2, d3, d4, d5, q1⟩ := c_drawI (d := d) hlf hl i h hi
  have d0 := (inodeB_len hB).1
  rw [e1] at E
  simp only [Option.bind_some, nth0, nthS, asI_i, asL_l, cell0, cellS] at E
  obtain ⟨x, i2, h2, e2, _, q2⟩ := c_below (lf := lf) (d := d + 2) hl i1 h1 q1 14
  rw [e2] at E
  simp only [Option.bind_some, nth0, nthS, asI_i, asL_l, cell0, cellS] at E
  cases c0 : x == 0 with
  | true =>
    rw [c0] at E
    obtain ⟨z, i3, h3, _, e3, q3⟩ := c_int (lf := lf) (d := d + 1) hl i2 h2 q2 [T.i .i64 0, T.i .i64 1, T.i .i64 1000, T.i .i64 1001] (by simp)
    rw [e3] at E
    exact ⟨_, _, _, _, _, _, _, _, E, ⟨d1, by omega, ⟨d2, by omega⟩, d4, by omega⟩, q3⟩
  | false =>
  rw [c0] at E
  cases c1 : x == 1 with
  | true =>
    rw [c1] at E
    obtain ⟨z, i3, h3, e3, _, q3⟩ := c_below (lf := lf) (d := d + 2) hl i2 h2 q2 4
    rw [e3] at E
    exact ⟨_, _, _, _, _, _, _, _, E, ⟨d1, by omega, ⟨d2, by omega⟩, d4, by omega⟩, q3⟩
  | false =>
  rw [c1] at E
  cases c2 : x == 2 with
  | true =>
    rw [c2] at E
    obtain ⟨z, i3, h3, _, e3, q3⟩ := c_int (lf := lf) (d := d + 1) hl i2 h2 q2 [T.i .i64 (-1), T.i .i64 0, T.i .i64 2, T.i .i64 1001] (by simp)
    rw [e3] at E
    exact ⟨_, _, _, _, _, _, _, _, E, ⟨d1, by omega, ⟨d2, by omega⟩, d4, by omega⟩, q3⟩
  | false =>
  rw [c2] at E
  cases c3 : x == 3 with
  | true =>
    rw [c3, nLe_app (by omega)] at E
    exact ⟨_, _, _, _, _, _, _, _, E, ⟨byt_app d1 fun y hy => ⟨1, List.mem_singleton.1 hy, by omega, by omega⟩, by rw [List.length_append, List.length_singleton]; omega, ⟨d2, by omega⟩, d4, by omega⟩, q2⟩
  | false =>
  rw [c3] at E
  cases c4 : x == 4 with
  | true =>
    rw [c4] at E
    obtain ⟨z, i3, h3, hz, e3, q3⟩ := c_str (lf := lf) (d := d + 1) hl i2 h2 q2 strs4 (by unfold strs4; simp)
    have e3 : Cc lf (d + 4) 131 [.st [.sl b, .i .i64 i2, .i .i64 h2], .sl [T.s (⟨#[97]⟩ : ByteArray), T.s (⟨#[122]⟩ : ByteArray), T.s (⟨#[]⟩ : ByteArray), T.s (⟨#[90]⟩ : ByteArray)]] = some [.s (asS (strs4.getD z T.u)), .st [.sl b, .i .i64 i3, .i .i64 h3]] := e3
    rw [e3] at E
    simp only [cond_f, cond_t, Option.bind_some, nth0, nthS, asI_i, asL_l, asS_s, cell0, cellS] at E
    obtain ⟨w, i4, h4, _, e4, q4⟩ := c_int (lf := lf) (d := d + 1) hl i3 h3 q3 [T.i .i64 1, T.i .i64 2, T.i .i64 1000, T.i .i64 1001] (by simp)
    rw [e4] at E
    simp only [cond_f, cond_t, Option.bind_some, nth0, nthS, asI_i, asL_l, asS_s, cell0, cellS] at E
    rw [nLe_app (by omega)] at E
    exact ⟨_, _, _, _, _, _, _, _, E, ⟨d1, by omega, ⟨entZ_app d2 (strs4_ok z hz) _, by rw [List.length_append, List.length_singleton]; omega⟩, d4, by omega⟩, q4⟩
  | false =>
  rw [c4] at E
  cases c5 : x == 5 with
  | true =>
    rw [c5] at E
    obtain ⟨z, i3, h3, hz, e3, q3⟩ := c_str (lf := lf) (d := d + 1) hl i2 h2 q2 strs3 (by unfold strs3; simp)
    have e3 : Cc lf (d + 4) 131 [.st [.sl b, .i .i64 i2, .i .i64 h2], .sl [T.s (⟨#[97]⟩ : ByteArray), T.s (⟨#[122]⟩ : ByteArray), T.s (⟨#[]⟩ : ByteArray)]] = some [.s (asS (strs3.getD z T.u)), .st [.sl b, .i .i64 i3, .i .i64 h3]] := e3
    rw [e3] at E
    simp only [cond_f, cond_t, Option.bind_some, nth0, nthS, asI_i, asL_l, asS_s, cell0, cellS] at E
    obtain ⟨w, i4, h4, e4, r4, q4⟩ := c_below (lf := lf) (d := d + 2) hl i3 h3 q3 3
    rw [e4] at E
    simp only [cond_f, cond_t, Option.bind_some, nth0, nthS, asI_i, asL_l, asS_s, cell0, cellS] at E
    rw [wrap_in (x := 15 + w) (by omega) (by omega), iLe_t (show 0 ≤ 15 + w by omega), iLe_t (show 15 + w ≤ (LIM : Int) by unfold LIM; omega), beq_self_eq_true, nLe_app (by omega)] at E
    refine ⟨_, _, _, _, _, _, _, _, E, ⟨d1, by omega, ⟨d2, by omega⟩, attrZ_app d4 (strs3_ok z hz) ?_, by rw [List.length_append, List.length_singleton]; omega⟩, q4⟩
    rw [bytesOf_size, List.length_replicate]
    omega
  | false =>
    rw [c5] at E
    exact ⟨_, _, _, _, _, _, _, _, E, ⟨d1, by omega, ⟨d2, by omega⟩, d4, by omega⟩, q2⟩
theorem entZ_tls : ∀ {l : List T}, entZ l → tls l ≤ 14 * l.length
  | [], _ => Nat.le_refl _
  | x :: l, h => by
    obtain ⟨s, a, rfl, hs⟩ := h _ (List.mem_cons_self ..)
    have := entZ_tls fun y hy => h y (List.mem_cons_of_mem _ hy)
    have h2 := hs.1
    simp only [tls, tl, List.length_cons] at this ⊢
    omega
theorem attrZ_tls : ∀ {l : List T}, attrZ l → tls l ≤ 31 * l.length
  | [], _ => Nat.le_refl _
  | x :: l, h => by
    obtain ⟨s, a, rfl, h1, h2⟩ := h _ (List.mem_cons_self ..)
    have := attrZ_tls fun y hy => h y (List.mem_cons_of_mem _ hy)
    simp only [tls, tl, List.length_cons] at this ⊢
    omega
theorem dIno_len {dt es ats : List T} (h : dIno dt es ats) : es.length + tls es ≤ 1000 ∧ ats.length + tls ats ≤ 1000 := by
  have h1 := entZ_tls h.2.2.1.1
  have h2 := attrZ_tls h.2.2.2.1
  have h3 := h.2.2.1.2
  have h4 := h.2.2.2.2
  omega
theorem putInode_len (a k n : Int) {dt es ats : List T} (h : dIno dt es ats) : (putInodeT a k n dt es ats).length ≤ 380 ∧ 0 < (putInodeT a k n dt es ats).length := by
  obtain ⟨_, h1, ⟨h2, h3⟩, h4, h5⟩ := h
  have q1 := numT_len (clampN a)
  have q0 := numT_pos (clampN a)
  have q2 := numT_len (clampN k)
  have q3 := numT_len (clampN n)
  have q4 := textT_len (bytesOf dt)
  rw [bytesOf_size] at q4
  have q5 := numT_len (clampN (es.length : Int))
  have q6 := numT_len (clampN (ats.length : Int))
  have q7 := flatT_len (pr := prEnt) (M := 20) (l := es) fun x hx => by
    obtain ⟨s, c, rfl, hs⟩ := h2 x hx
    exact prEnt_len hs.1
  have q8 := flatT_len (pr := prAttr) (M := 40) (l := ats) fun x hx => by
    obtain ⟨s, c, rfl, hs, ht⟩ := h4 x hx
    have r1 := textT_len s
    have r2 := textT_len c
    show (textT s ++ textT c).length ≤ 40
    rw [List.length_append]
    omega
  unfold putInodeT
  simp only [List.length_append]
  omega
def pageU (ps : List T) (j : Nat) : Bool := asB (T.cell (ps.getD j T.u) 0)
/-- How many pages of a block are written. -/
def usedN (ps : List T) : Nat := cntB (pageU ps) ps.length
theorem usedN_le (ps : List T) : usedN ps ≤ ps.length := cntB_le _ _
theorem cellL_le {l : List T} {j : Nat} (k : Nat) : (asL (T.cell (l.getD j T.u) k)).length + tls (asL (T.cell (l.getD j T.u) k)) ≤ tls l := by
  by_cases h : j < l.length
  · have h1 := tl_mem (List.getElem_mem h)
    rw [List.getD_eq_getElem?_getD, List.getElem?_eq_getElem h]
    show (asL (T.cell l[j] k)).length + tls (asL (T.cell l[j] k)) ≤ _
    cases e : l[j] <;> try (simp only [T.cell, asL, tls]; exact Nat.zero_le _)
    rename_i xs
    rw [e] at h1
    simp only [T.cell, tl] at h1 ⊢
    cases e2 : xs[k]? with
    | none => rw [List.getD_eq_getElem?_getD, e2]; exact Nat.zero_le _
    | some x =>
      rw [List.getD_eq_getElem?_getD, e2]
      have h3 := tl_mem (List.mem_of_getElem? e2)
      show (asL x).length + tls (asL x) ≤ _
      cases x <;> try (exact Nat.zero_le _)
      simp only [tl, asL] at h3 ⊢
      omega
  · rw [List.getD_eq_getElem?_getD, List.getElem?_eq_none (by omega)]
    exact Nat.zero_le _
theorem c_drawGetInode {lf d : Nat} (hlf : 33554432 ≤ lf) {b : List T} (hl : b.length ≤ 1048576) : ∃ c, Cc lf (d + 6) 58 [.sl b] = some [.sl c] ∧ byt c ∧ c.length ≤ 1000 := by
  have E := f58_eq (Cc lf (d + 5)) lf b
  unfold f58 f58_t at E
  obtain ⟨h, e⟩ := c_new (d := d + 4) hlf hl
  rw [e] at E
  simp only [Option.bind_some, nth0, nthS, asI_i, asL_l, cell0, cellS] at E
  obtain ⟨a, k, n, dt, es, ats, i1, h1, e1, hB, d1, d2, d3, d4, d5, q1⟩ := c_drawI (d := d + 1) hlf hl 0 h (by omega)
  rw [e1] at E
  simp only [Option.bind_some, nth0, nthS, asI_i, asL_l, cell0, cellS] at E
  have hD : dIno dt es ats := ⟨d1, by have := (inodeB_len hB).1; omega, ⟨d2, by omega⟩, d4, by omega⟩
  have hlen := dIno_len hD
  rw [c_sPutInode (d := d) hlf a k n dt es ats (by omega) (by omega), hB] at E
  simp only [Option.bind_some, nth0, nthS, asI_i, asL_l, cell0, cellS, cond_t] at E
  have hb := putInodeT_byt a k n dt es ats
  obtain ⟨hpl, hpp⟩ := putInode_len a k n hD
  generalize putInodeT a k n dt es ats = p at *
  obtain ⟨x, i2, h2, e2, _, q2⟩ := c_below (lf := lf) (d := d + 3) hl i1 h1 q1 5
  rw [e2] at E
  simp only [Option.bind_some, nth0, nthS, asI_i, asL_l, cell0, cellS] at E
  cases c0 : x == 0 with
  | true =>
    rw [c0] at E
    obtain ⟨y, i3, h3, e3, r3, q3⟩ := c_below (lf := lf) (d := d + 3) hl i2 h2 q2 (p.length : Int)
    rw [e3] at E
    simp only [cond_t, Option.bind_some, nth0, nthS, asI_i, asL_l, cell0, cellS] at E
    obtain ⟨z, i4, h4, _, e4, q4⟩ := c_int (lf := lf) (d := d + 2) hl i3 h3 q3 [T.i .i64 0, T.i .i64 1, T.i .i64 2, T.i .i64 97, T.i .i64 128] (by simp)
    rw [e4] at E
    simp only [cond_t, Option.bind_some, nth0, nthS, asI_i, asL_l, cell0, cellS] at E
    obtain ⟨k, rfl⟩ := Int.eq_ofNat_of_zero_le r3.1
    rw [inR_nat (by omega)] at E
    exact ⟨_, E, byt_set hb _ _, by rw [List.length_set]; omega⟩
  | false =>
    rw [c0] at E
    cases c1 : x == 1 with
    | true =>
      rw [c1] at E
      obtain ⟨y, i3, h3, e3, r3, q3⟩ := c_below (lf := lf) (d := d + 3) hl i2 h2 q2 (p.length : Int)
      rw [e3] at E
      simp only [cond_f, cond_t, Option.bind_some, nth0, nthS, asI_i, asL_l, cell0, cellS] at E
      rw [iLe_t (show (0 : Int) ≤ 0 by omega), iLe_t (show 0 ≤ y by omega), iLe_t (show y ≤ (p.length : Int) by omega)] at E
      exact ⟨_, E, byt_take2 (by rw [List.drop_zero]; exact hb) _, by rw [List.length_take, List.drop_zero]; omega⟩
    | false =>
      rw [c1] at E
      cases c2 : x == 2 with
      | true =>
        rw [c2] at E
        rw [nLe_app (by omega)] at E
        exact ⟨_, E, byt_app1 hb, by rw [List.length_append, List.length_singleton]; omega⟩
      | false =>
        rw [c2] at E
        exact ⟨_, E, hb, by omega⟩
theorem c_copyIno {lf d : Nat} (a k n : Int) (dt es ats : List T) (h : dt.length ≤ 1000000 ∧ es.length ≤ 1000000 ∧ ats.length ≤ 1000000) : Cc lf (d + 1) 119 [.st [.i .i64 a, .i .i64 k, .i .i64 n, .sl dt, .sl es, .sl ats]] = some [.st [.i .i64 a, .i .i64 k, .i .i64 n, .sl dt, .sl es, .sl ats]] := by
  refine (f119_eq (Cc lf d) lf a k n dt es ats).trans ?_
  unfold f119 f119_t
  rw [nLe_t (by unfold LIM; simp only [List.length_nil]; omega), nLe_t (by unfold LIM; simp only [List.length_nil]; omega), nLe_t (by unfold LIM; simp only [List.length_nil]; omega)]
  rfl
theorem c_drawSameInode {lf d : Nat} (hlf : 33554432 ≤ lf) {b : List T} (hl : b.length ≤ 1048576) : ∃ a k n dt es ats a2 k2 n2 dt2 es2 ats2, Cc lf (d + 6) 59 [.sl b] = some [.st [.i .i64 a, .i .i64 k, .i .i64 n, .sl dt, .sl es, .sl ats], .st [.i .i64 a2, .i .i64 k2, .i .i64 n2, .sl dt2, .sl es2, .sl ats2]] ∧ dIno dt es ats := by
  have E := f59_eq (Cc lf (d + 5)) lf b
  unfold f59 f59_t at E
  obtain ⟨h, e⟩ := c_new (d := d + 4) hlf hl
  rw [e] at E
  simp only [Option.bind_some, nth0, nthS, asI_i, asL_l, cell0, cellS] at E
  obtain ⟨a, k, n, dt, es, ats, i1, h1, e1, hD, q1⟩ := c_anyI (d := d) hlf hl 0 h (by omega)
  rw [e1] at E
  simp only [Option.bind_some, nth0, nthS, asI_i, asL_l, cell0, cellS] at E
  obtain ⟨x, i2, h2, e2, q2⟩ := c_once (lf := lf) (d := d + 2) hl i1 h1 q1 2
  rw [e2] at E
  simp only [Option.bind_some, nth0, nthS, asI_i, asB_b, asL_l, cell0, cellS] at E
  cases x with
  | true =>
    rw [c_copyIno (d := d + 4) a k n dt es ats (by have h1 := hD.2.1; have h2 := hD.2.2.1.2; have h3 := hD.2.2.2.2; omega)] at E
    exact ⟨_, _, _, _, _, _, _, _, _, _, _, _, E, hD⟩
  | false =>
    obtain ⟨a2, k2, n2, dt2, es2, ats2, i3, h3, e3, _, _⟩ := c_anyI (d := d) hlf hl i2 h2 q2
    rw [e3] at E
    exact ⟨_, _, _, _, _, _, _, _, _, _, _, _, E, hD⟩
/-- Are two lists the same? -/
def sameB (P : Nat → Bool) (l0 l1 : List T) : Bool := ((l0.length : Int) == (l1.length : Int)) && allB P l0.length
def byteE (l0 l1 : List T) (j : Nat) : Bool := asI (l0.getD j T.u) == asI (l1.getD j T.u)
def entE (l0 l1 : List T) (j : Nat) : Bool := (asS (T.cell (l0.getD j T.u) 0) == asS (T.cell (l1.getD j T.u) 0)) && ((asI (T.cell (l0.getD j T.u) 1) == asI (T.cell (l1.getD j T.u) 1)) && true)
def attrE (l0 l1 : List T) (j : Nat) : Bool := (asS (T.cell (l0.getD j T.u) 0) == asS (T.cell (l1.getD j T.u) 0)) && ((asS (T.cell (l0.getD j T.u) 1) == asS (T.cell (l1.getD j T.u) 1)) && true)
def inoSame (n0 n1 n2 : Int) (l3 l4 l5 : List T) (m0 m1 m2 : Int) (k3 k4 k5 : List T) : Bool := (n0 == m0) && ((n1 == m1) && ((n2 == m2) && (sameB (byteE l3 k3) l3 k3 && (sameB (entE l4 k4) l4 k4 && sameB (attrE l5 k5) l5 k5))))
def inoAt (l0 l1 : List T) (j : Nat) : Bool := inoSame (asI (T.cell (l0.getD j T.u) 0)) (asI (T.cell (l0.getD j T.u) 1)) (asI (T.cell (l0.getD j T.u) 2)) (asL (T.cell (l0.getD j T.u) 3)) (asL (T.cell (l0.getD j T.u) 4)) (asL (T.cell (l0.getD j T.u) 5)) (asI (T.cell (l1.getD j T.u) 0)) (asI (T.cell (l1.getD j T.u) 1)) (asI (T.cell (l1.getD j T.u) 2)) (asL (T.cell (l1.getD j T.u) 3)) (asL (T.cell (l1.getD j T.u) 4)) (asL (T.cell (l1.getD j T.u) 5))
def tabE (l0 : List T) (n0 : Int) (l1 : List T) (n1 : Int) : Bool := (n0 == n1) && sameB (inoAt l0 l1) l0 l1
def volE (n0 : Int) (s1 : ByteArray) (b2 : Bool) (n3 : Int) (l4 : List T) (n5 : Int) (m0 : Int) (t1 : ByteArray) (c2 : Bool) (m3 : Int) (k4 : List T) (m5 : Int) : Bool := (n0 == m0) && ((s1.toList == t1.toList) && ((b2 == c2) && ((n3 == m3) && tabE l4 n5 k4 m5)))
def volAt (l0 l1 : List T) (j : Nat) : Bool := volE (asI (T.cell (l0.getD j T.u) 0)) (asS (T.cell (l0.getD j T.u) 1)) (asB (T.cell (l0.getD j T.u) 2)) (asI (T.cell (l0.getD j T.u) 3)) (asL (T.cell (l0.getD j T.u) 4)) (asI (T.cell (l0.getD j T.u) 5)) (asI (T.cell (l1.getD j T.u) 0)) (asS (T.cell (l1.getD j T.u) 1)) (asB (T.cell (l1.getD j T.u) 2)) (asI (T.cell (l1.getD j T.u) 3)) (asL (T.cell (l1.getD j T.u) 4)) (asI (T.cell (l1.getD j T.u) 5))
def fsE (l0 : List T) (n0 : Int) (l1 : List T) (n1 : Int) : Bool := (n0 == n1) && sameB (volAt l0 l1) l0 l1
theorem len_eq {l0 l1 : List T} (h : l0.length = l1.length) : ((l0.length : Int) == (l1.length : Int)) = true := by rw [beq_iff_eq]; omega
theorem len_ne {l0 l1 : List T} (h : ¬ l0.length = l1.length) : ((l0.length : Int) == (l1.length : Int)) = false := by rw [beq_eq_false_iff_ne, ne_eq]; omega
theorem c_sBytesEq {lf d : Nat} (hlf : 33554432 ≤ lf) (l0 l1 : List T) (hs : l0.length ≤ 16777216) : Cc lf (d + 1) 120 [.sl l0, .sl l1] = some [.b (sameB (byteE l0 l1) l0 l1)] := by
  refine (f120_eq (Cc lf d) lf l0 l1).trans ?_
  unfold f120 f120_t sameB
  dsimp only
  by_cases h : l0.length = l1.length
  · have L := all_loop (F := fun n j => f120_0 (Cc lf d) lf l0 l1 n j) (P := byteE l0 l1) (X := some [T.i .i64 0, T.b false]) (Y := some [T.i .i64 1]) (len := l0.length) (fun n j hj => by
      rw [f120_0_u]
      unfold f120_0_s byteE
      rw [iLt_t (by omega), inR_nat hj, inR_nat (show j < l1.length by omega), wrap_next hj (by omega)]
      simp only [cond_t, Int.toNat_natCast, bne, cond_not]) (fun n => by
      rw [f120_0_u]
      unfold f120_0_s
      rw [iLt_f (by omega)]
      rfl) (n := lf) (by omega)
    simp only [bne, len_eq h, Bool.not_true, cond_f, Bool.true_and]
    rw [L]
    cases allB (byteE l0 l1) l0.length <;> rfl
  · simp only [bne, len_ne h]
    rfl
theorem c_iBytesEq {lf d : Nat} (hlf : 33554432 ≤ lf) (l0 l1 : List T) (hs : l0.length ≤ 16777216) : Cc lf (d + 1) 93 [.sl l0, .sl l1] = some [.b (sameB (byteE l0 l1) l0 l1)] := by
  refine (f93_eq (Cc lf d) lf l0 l1).trans ?_
  unfold f93 f93_t sameB
  dsimp only
  by_cases h : l0.length = l1.length
  · have L := all_loop (F := fun n j => f93_0 (Cc lf d) lf l0 l1 n j) (P := byteE l0 l1) (X := some [T.i .i64 0, T.b false]) (Y := some [T.i .i64 1]) (len := l0.length) (fun n j hj => by
      rw [f93_0_u]
      unfold f93_0_s byteE
      rw [iLt_t (by omega), inR_nat hj, inR_nat (show j < l1.length by omega), wrap_next hj (by omega)]
      simp only [cond_t, Int.toNat_natCast, bne, cond_not]) (fun n => by
      rw [f93_0_u]
      unfold f93_0_s
      rw [iLt_f (by omega)]
      rfl) (n := lf) (by omega)
    simp only [bne, len_eq h, Bool.not_true, cond_f, Bool.true_and]
    rw [L]
    cases allB (byteE l0 l1) l0.length <;> rfl
  · simp only [bne, len_ne h]
    rfl
theorem c_iEntsEq {lf d : Nat} (hlf : 33554432 ≤ lf) (l0 l1 : List T) (hs : l0.length ≤ 16777216) : Cc lf (d + 1) 94 [.sl l0, .sl l1] = some [.b (sameB (entE l0 l1) l0 l1)] := by
  refine (f94_eq (Cc lf d) lf l0 l1).trans ?_
  unfold f94 f94_t sameB
  dsimp only
  by_cases h : l0.length = l1.length
  · have L := all_loop (F := fun n j => f94_0 (Cc lf d) lf l0 l1 n j) (P := entE l0 l1) (X := some [T.i .i64 0, T.b false]) (Y := some [T.i .i64 1]) (len := l0.length) (fun n j hj => by
      rw [f94_0_u]
      unfold f94_0_s entE
      rw [iLt_t (by omega), inR_nat hj, inR_nat (show j < l1.length by omega), wrap_next hj (by omega)]
      simp only [cond_t, Int.toNat_natCast, bne, cond_not]) (fun n => by
      rw [f94_0_u]
      unfold f94_0_s
      rw [iLt_f (by omega)]
      rfl) (n := lf) (by omega)
    simp only [bne, len_eq h, Bool.not_true, cond_f, Bool.true_and]
    rw [L]
    cases allB (entE l0 l1) l0.length <;> rfl
  · simp only [bne, len_ne h]
    rfl
theorem c_iAttrsEq {lf d : Nat} (hlf : 33554432 ≤ lf) (l0 l1 : List T) (hs : l0.length ≤ 16777216) : Cc lf (d + 1) 95 [.sl l0, .sl l1] = some [.b (sameB (attrE l0 l1) l0 l1)] := by
  refine (f95_eq (Cc lf d) lf l0 l1).trans ?_
  unfold f95 f95_t sameB
  dsimp only
  by_cases h : l0.length = l1.length
  · have L := all_loop (F := fun n j => f95_0 (Cc lf d) lf l0 l1 n j) (P := attrE l0 l1) (X := some [T.i .i64 0, T.b false]) (Y := some [T.i .i64 1]) (len := l0.length) (fun n j hj => by
      rw [f95_0_u]
      unfold f95_0_s attrE
      rw [iLt_t (by omega), inR_nat hj, inR_nat (show j < l1.length by omega), wrap_next hj (by omega)]
      simp only [cond_t, Int.toNat_natCast, bne, cond_not]) (fun n => by
      rw [f95_0_u]
      unfold f95_0_s
      rw [iLt_f (by omega)]
      rfl) (n := lf) (by omega)
    simp only [bne, len_eq h, Bool.not_true, cond_f, Bool.true_and]
    rw [L]
    cases allB (attrE l0 l1) l0.length <;> rfl
  · simp only [bne, len_ne h]
    rfl
theorem c_iSameInode {lf d : Nat} (hlf : 33554432 ≤ lf) (n0 n1 n2 : Int) (l3 l4 l5 : List T) (m0 m1 m2 : Int) (k3 k4 k5 : List T) (h3 : l3.length ≤ 16777216) (h4 : l4.length ≤ 16777216) (h5 : l5.length ≤ 16777216) : Cc lf (d + 2) 38 [.st [.i .i64 n0, .i .i64 n1, .i .i64 n2, .sl l3, .sl l4, .sl l5], .st [.i .i64 m0, .i .i64 m1, .i .i64 m2, .sl k3, .sl k4, .sl k5]] = some [.b (inoSame n0 n1 n2 l3 l4 l5 m0 m1 m2 k3 k4 k5)] := by
  refine (f38_eq (Cc lf (d + 1)) lf n0 n1 n2 l3 l4 l5 m0 m1 m2 k3 k4 k5).trans ?_
  unfold f38 f38_t inoSame
  rw [c_iBytesEq hlf l3 k3 h3, c_iEntsEq hlf l4 k4 h4, c_iAttrsEq hlf l5 k5 h5]
  simp only [Option.bind_some, nth0, asB_b]
  cases n0 == m0 <;> cases n1 == m1 <;> cases n2 == m2 <;> cases sameB (byteE l3 k3) l3 k3 <;> cases sameB (entE l4 k4) l4 k4 <;> rfl
theorem c_sSameInode {lf d : Nat} (hlf : 33554432 ≤ lf) (n0 n1 n2 : Int) (l3 l4 l5 : List T) (m0 m1 m2 : Int) (k3 k4 k5 : List T) (h3 : l3.length ≤ 16777216) (h4 : l4.length ≤ 16777216) (h5 : l5.length ≤ 16777216) : Cc lf (d + 2) 60 [.st [.i .i64 n0, .i .i64 n1, .i .i64 n2, .sl l3, .sl l4, .sl l5], .st [.i .i64 m0, .i .i64 m1, .i .i64 m2, .sl k3, .sl k4, .sl k5]] = some [.b (inoSame n0 n1 n2 l3 l4 l5 m0 m1 m2 k3 k4 k5)] := by
  refine (f60_eq (Cc lf (d + 1)) lf n0 n1 n2 l3 l4 l5 m0 m1 m2 k3 k4 k5).trans ?_
  unfold f60 f60_t inoSame
  dsimp only
  rw [c_sBytesEq hlf l3 k3 h3]
  simp only [Option.bind_some, nth0, asB_b, bne]
  cases n0 == m0 with
  | false => rfl
  | true =>
  cases n1 == m1 with
  | false => rfl
  | true =>
  cases n2 == m2 with
  | false => rfl
  | true =>
  cases sameB (byteE l3 k3) l3 k3 with
  | false => rfl
  | true =>
  by_cases e4 : l4.length = k4.length
  · by_cases e5 : l5.length = k5.length
    · have L0 := all_loop (F := fun n j => f60_0 (Cc lf (d + 1)) lf l3 l4 l5 k3 k4 k5 n0 n1 n2 m0 m1 m2 n j) (P := entE l4 k4) (X := some [T.i .i64 0, T.b false]) (Y := some [T.i .i64 1, T.i .i64 n0, T.i .i64 n1, T.i .i64 n2, T.sl l3, T.sl l4, T.sl l5, T.i .i64 m0, T.i .i64 m1, T.i .i64 m2, T.sl k3, T.sl k4, T.sl k5]) (len := l4.length) (fun n j hj => by
        rw [f60_0_u]
        unfold f60_0_s entE
        rw [iLt_t (by omega), inR_nat hj, inR_nat (show j < k4.length by omega), wrap_next hj (by omega)]
        simp only [cond_t, Int.toNat_natCast, cond_not]) (fun n => by
        rw [f60_0_u]
        unfold f60_0_s
        rw [iLt_f (by omega)]
        rfl) (n := lf) (by omega)
      have L1 := all_loop (F := fun n j => f60_1 (Cc lf (d + 1)) lf [T.i .i64 1, T.i .i64 n0, T.i .i64 n1, T.i .i64 n2, T.sl l3, T.sl l4, T.sl l5, T.i .i64 m0, T.i .i64 m1, T.i .i64 m2, T.sl k3, T.sl k4, T.sl k5] n j) (P := attrE l5 k5) (X := some [T.i .i64 0, T.b false]) (Y := some [T.i .i64 1]) (len := l5.length) (fun n j hj => by
        rw [f60_1_u]
        unfold f60_1_s attrE
        simp only [nth0, nthS, asL_l]
        rw [iLt_t (by omega), inR_nat hj, inR_nat (show j < k5.length by omega), wrap_next hj (by omega)]
        simp only [cond_t, Int.toNat_natCast, cond_not]) (fun n => by
        rw [f60_1_u]
        unfold f60_1_s
        simp only [nth0, nthS, asL_l]
        rw [iLt_f (by omega)]
        rfl) (n := lf) (by omega)
      unfold sameB
      simp only [len_eq e4, len_eq e5, Bool.not_true, cond_f, Bool.true_and]
      rw [L0]
      cases allB (entE l4 k4) l4.length with
      | false => rfl
      | true =>
        simp only [cond_t, Option.bind_some, nth0, asI_i, show ((1 : Int) == 0) = false from rfl, cond_f]
        rw [L1]
        cases allB (attrE l5 k5) l5.length <;> rfl
    · unfold sameB
      simp only [len_ne e5, len_eq e4, Bool.not_true, Bool.not_false, cond_f, cond_t, Bool.false_and, Bool.and_false]
  · unfold sameB
    simp only [len_ne e4, Bool.not_false, Bool.not_true, cond_t, cond_f, Bool.false_and, Bool.and_false]
theorem cells_le {l : List T} {j : Nat} (hs : l.length + tls l ≤ 16777216) (k : Nat) : (asL (T.cell (l.getD j T.u) k)).length ≤ 16777216 := by
  have := cellL_le (l := l) (j := j) k
  omega
theorem tlV {l : List T} {j : Nat} (hs : l.length + tls l ≤ 16777216) (k : Nat) : (asL (T.cell (l.getD j T.u) k)).length + tls (asL (T.cell (l.getD j T.u) k)) ≤ 16777216 := by
  have := cellL_le (l := l) (j := j) k
  omega
theorem sameB_refl {P : List T → List T → Nat → Bool} (h : ∀ l j, P l l j = true) (l : List T) : sameB (P l l) l l = true := by
  unfold sameB
  rw [beq_self_eq_true, Bool.true_and]
  exact allB_iff.2 fun j _ => h l j
theorem inoSame_refl (n0 n1 n2 : Int) (l3 l4 l5 : List T) : inoSame n0 n1 n2 l3 l4 l5 n0 n1 n2 l3 l4 l5 = true := by
  unfold inoSame
  rw [sameB_refl (P := byteE) (fun l j => by unfold byteE; exact beq_self_eq_true _), sameB_refl (P := entE) (fun l j => by unfold entE; rw [beq_ba, beq_self_eq_true]; rfl), sameB_refl (P := attrE) (fun l j => by unfold attrE; rw [beq_ba, beq_ba]; rfl), beq_self_eq_true, beq_self_eq_true, beq_self_eq_true]
  rfl
theorem c_sameBytes {lf d : Nat} (hlf : 33554432 ≤ lf) (l : List T) (hs : l.length ≤ 16777216) : Cc lf (d + 1) 20 [.sl l, .sl l] = some [.b true] := by
  refine (f20_eq (Cc lf d) lf l l).trans ?_
  unfold f20 f20_t
  dsimp only
  have L := all_loop (F := fun n j => f20_0 (Cc lf d) lf l l n j) (P := fun _ => true) (X := some [T.i .i64 0, T.b false]) (Y := some [T.i .i64 1]) (len := l.length) (fun n j hj => by
    rw [f20_0_u]
    unfold f20_0_s
    rw [iLt_t (by omega), inR_nat hj, wrap_next hj (by omega)]
    simp only [cond_t, bne_self_eq_false, cond_f]) (fun n => by
    rw [f20_0_u]
    unfold f20_0_s
    rw [iLt_f (by omega)]
    rfl) (n := lf) (by omega)
  have ht : allB (fun _ => true) l.length = true := allB_iff.2 fun _ _ => rfl
  rw [L, ht, bne_self_eq_false]
  rfl
theorem getInodeB_tls {b : List T} (hb : byt b) (hl : b.length ≤ 1048576) {a k n : Int} {dt es ats : List T} (h : getInodeB b = some (a, k, n, dt, es, ats)) : es.length + tls es ≤ 16777216 ∧ ats.length + tls ats ≤ 16777216 := by
  have h1 := inoE_size hb hl (inoHead b).2
  have h2 := inoA_size hb hl (inoE b (inoHead b).2).2
  unfold getInodeB at h
  generalize ((inoA b (inoE b (inoHead b).2).2).2 == some b.length && inodeB (inoHead b).1.1 (inoHead b).1.2.1 (inoHead b).1.2.2.1 (listOf (inoHead b).1.2.2.2) (inoE b (inoHead b).2).1 (inoA b (inoE b (inoHead b).2).2).1) = c at h
  cases c with
  | false => cases h
  | true =>
    simp only [cond_t, Option.some.injEq, Prod.mk.injEq] at h
    obtain ⟨_, _, _, _, rfl, rfl⟩ := h
    exact ⟨h1, h2⟩
theorem lawB {lf : Nat} (hlf : 33554432 ≤ lf) {t0 : T} (ht0 : fitC (.sl false [.i .u8]) t0) : Cc lf 12 11 [t0] = some [.b true] := by
  obtain ⟨b, rfl, _⟩ := fitC_sl ht0
  refine (f11_eq (Cc lf 11) lf b).trans ?_
  unfold f11 f11_t
  rw [c_big (d := 10)]
  simp only [Option.bind_some, nth0, asB_b]
  by_cases hl : b.length ≤ 1048576
  case neg => rw [iLt_t (by omega)]; rfl
  rw [iLt_f (by omega), cond_f]
  obtain ⟨c, e1, hb, hc⟩ := c_drawGetInode (lf := lf) (d := 5) hlf hl
  obtain ⟨a, k, n, dt, es, ats, a2, k2, n2, dt2, es2, ats2, e2, hD⟩ := c_drawSameInode (lf := lf) (d := 5) hlf hl
  have hsz := dIno_len hD
  have hdl := hD.2.1
  rw [e1]
  simp only [Option.bind_some, nth0, nthS, asI_i, asL_l, cell0, cellS]
  rw [c_iGetInode (d := 6) hlf hb (by omega), c_sGetInode (d := 6) hlf hb (by omega), e2]
  simp only [Option.bind_some, nth0, nthS, asI_i, asL_l, asB_b, cell0, cellS, beq_self_eq_true, cond_t]
  rw [c_iSameInode (d := 9) hlf a k n dt es ats a2 k2 n2 dt2 es2 ats2 (by omega) (by omega) (by omega), c_sSameInode (d := 9) hlf a k n dt es ats a2 k2 n2 dt2 es2 ats2 (by omega) (by omega) (by omega), c_iSameInode (d := 9) hlf a k n dt es ats a k n dt es ats (by omega) (by omega) (by omega), inoSame_refl]
  simp only [Option.bind_some, nth0, asB_b, beq_self_eq_true, cond_t]
  cases hg : getInodeB c with
  | none => rfl
  | some r =>
    obtain ⟨i, k3, n3, d3, es3, ats3⟩ := r
    obtain ⟨m1, m2⟩ := inode_of hb hg
    have hz := getInodeB_tls hb (by omega) hg
    simp only [getInodeR, nth0, nthS, asB_b, asI_i, asL_l, cell0, cellS, cond_f, Bool.not_true]
    rw [c_iInodeOk (d := 7) hlf i k3 n3 d3 es3 ats3 (by omega) (by omega), m1, c_iPutInode (d := 6) hlf i k3 n3 d3 es3 ats3 (by omega) (by omega), m1]
    simp only [Option.bind_some, nth0, asB_b, asL_l, cond_t, m2]
    rw [c_sameBytes (d := 10) hlf c (by omega)]
    rfl
end Go.Proofs.Ytockabaoaneplaa.T
