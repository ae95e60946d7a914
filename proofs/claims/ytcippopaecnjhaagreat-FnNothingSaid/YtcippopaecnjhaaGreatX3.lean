/- What functions of the law FnNothing come to, in trees; no condition. -/
import Derived.Test.YtcippopaecnjhaaGreatRows
import Derived.Test.YtcippopaecnjhaaGreatX2
set_option linter.unusedVariables false
set_option linter.constructorNameAsVariable false
set_option linter.unusedSimpArgs false
set_option linter.unnecessarySimpa false
namespace Go.Proofs.YtcippopaecnjhaaGreat.T
open Go Go.Proofs.YtcippopaecnjhaaGreatV
set_option maxRecDepth 100000
theorem c_from {lf d : Nat} (a lo hi : Int) : Cc lf (d + 1) 58 [.i .i64 a, .i .i64 lo, .i .i64 hi] = some [.b (iLe lo a && iLe a hi)] := by
 refine (f58_eq (Cc lf d) lf a lo hi).trans ?_
 unfold f58 f58_t
 exact cond_b _ _
theorem c_iName {lf d : Nat} (hlf : 33554432 ≤ lf) (s : ByteArray) (hs : s.size ≤ 16777216) : Cc lf (d + 2) 59 [.s s] = some [.b (nameB s)] := by
 refine (f59_eq (Cc lf (d + 1)) lf s).trans ?_
 unfold f59 f59_t
 have L := all_loop (F := fun n j => f59_0 (Cc lf (d + 1)) lf s n j) (P := fun j => chB (byteAt s j)) (X := some [T.i .i64 0, T.b false]) (Y := some [T.i .i64 1, T.s s]) (len := s.size) (fun n j hj => by
  show f59_0_s (Cc lf (d + 1)) lf s _ _ = _
  unfold f59_0_s
  rw [iLt_t (by omega), inR_nat hj, wrap_next hj (by omega)]
  simp only [iLt_le, chB, bne_not, cond_not, cond_and, cond_or, cond_t]) (fun n => by
  show f59_0_s (Cc lf (d + 1)) lf s _ _ = _
  unfold f59_0_s
  rw [iLt_f (by omega)]
  rfl) (n := lf) (by omega)
 simp only at L ⊢
 rw [L]
 unfold nameB
 cases allB (fun j => chB (byteAt s j)) s.size with
 | false => rfl
 | true =>
  simp only [cond_t, Option.bind_some, nth0, nthS, asI_i, asB_b, asS_s, cond_not]
  rw [show ((1 : Int) == 0) = false from rfl, cond_f]
  cases iLe 1 (s.size : Int) <;> cases iLe (s.size : Int) 14 <;> cases (s.toList == (⟨#[46]⟩ : ByteArray).toList) <;> cases (s.toList == (⟨#[46, 46]⟩ : ByteArray).toList) <;> rfl
theorem c_clone {lf d : Nat} {l : List T} (h : l.length ≤ 1073741830) : Cc lf (d + 1) 54 [.sl l] = some [.sl l] := by
 show (bif nLe (0 + l.length) LIM then some [T.sl l] else none) = _
 rw [nLe_t (by unfold LIM; omega)]
 rfl
theorem c_iPutNum {lf d : Nat} (hlf : 33554432 ≤ lf) (b : List T) (n : Int) (hb : b.length ≤ 1073741824) : Cc lf (d + 2) 18 [.sl b, .i .i64 n] = some [.sl (b ++ numT (clampN n))] := by
 refine (f18_eq (Cc lf (d + 1)) lf b n).trans ?_
 unfold f18 f18_t
 dsimp only
 have hc := clampN_in n
 obtain ⟨y, l', h1, h2, h3, h4, h5⟩ := put_loop (F := fun n x l => f18_0 (Cc lf (d + 1)) lf n x l) (fun n x l h0 h1 hl => by
  rw [f18_0_u]
  unfold f18_0_s
  by_cases h : 127 < x
  ·rw [iLe_t (by omega), if_pos h, nLe_app (by omega), Int.tdiv_eq_ediv_of_nonneg h0, Int.tmod_eq_emod_of_nonneg h0, wrap_in (x := x / 128) (by omega) (by omega), wrap_in (by omega) (by omega), wrap8 (by omega) (by omega)]
   rfl
  ·rw [iLe_f (by omega), if_neg h]
   rfl) (n := lf) (by omega) (x := clampN n) (l := b) hc.1 hc.2 hb
 rw [c_clone (by omega), Option.bind_some, nth0, asL_l, show imax 0 (imin n 1000000) = clampN n by unfold imax imin clampN; split <;> split <;> (try split) <;> omega, h1]
 simp only [Option.bind_some, nth0, nthS, asL_l, asI_i]
 rw [nLe_app (by omega), wrap8 h3 (by omega), ← h2]
 rfl
theorem c_iPutText {lf d : Nat} (hlf : 33554432 ≤ lf) (b : List T) (s : ByteArray) (hb : b.length ≤ 1073741824) (hs : s.size ≤ 1073741824) : Cc lf (d + 3) 100 [.sl b, .s s] = some [.sl (b ++ textT s)] := by
 refine (f100_eq (Cc lf (d + 2)) lf b s).trans ?_
 unfold f100 f100_t
 have h1 := numT_len (clampN (s.size : Int))
 rw [c_iPutNum hlf _ _ hb, Option.bind_some, nth0, asL_l, nLe_t (by unfold LIM; rw [List.length_append, listOf_len]; omega), cond_t, List.append_assoc]
 rfl
def rowB (nx : Int) (l : List T) (j : Nat) : Bool :=
 !iLt (asI (T.cell (l.getD j T.u) 0)) 1 && (!iLe nx (asI (T.cell (l.getD j T.u) 0)) && (nameB (asS (T.cell (l.getD j T.u) 1)) && ((iLe 32 (asI (T.cell (l.getD j T.u) 3)) && iLe (asI (T.cell (l.getD j T.u) 3)) 4000) &&
  ((iLe 0 (asI (T.cell (l.getD j T.u) 4)) && iLe (asI (T.cell (l.getD j T.u) 4)) 191) && ((!iLt 0 (j : Int) || !iLe (asI (T.cell (l.getD j T.u) 0)) (asI (T.cell (l.getD (j - 1) T.u) 0))) &&
   allB (fun i => !((asS (T.cell (l.getD i T.u) 1)).toList == (asS (T.cell (l.getD j T.u) 1)).toList)) j)))))
def tableB (nx : Int) (l : List T) : Bool := allB (rowB nx l) l.length && (iLe (l.length : Int) 6 && (iLe 1 nx && iLe nx 99))
theorem rows_name {l : List T} {n : Nat} (hs : n + tls l ≤ 16777216) {j : Nat} (h : j < l.length) : (asS (T.cell (l.getD j T.u) 1)).size ≤ 16777216 := by
 have h1 := tl_mem (List.getElem_mem h)
 rw [List.getD_eq_getElem?_getD, List.getElem?_eq_getElem h]
 show (asS (T.cell l[j] 1)).size ≤ _
 cases e : l[j] <;> try (simp only [T.cell, asS]; exact Nat.zero_le _)
 rename_i xs
 rw [e] at h1
 simp only [T.cell, tl] at h1 ⊢
 cases e2 : xs[1]? with
 | none => rw [List.getD_eq_getElem?_getD, e2]; exact Nat.zero_le _
 | some x =>
  rw [List.getD_eq_getElem?_getD, e2]
  have h3 := tl_mem (List.mem_of_getElem? e2)
  show (asS x).size ≤ _
  cases x <;> try (exact Nat.zero_le _)
  simp only [tl, asS] at h3 ⊢
  omega
theorem c_iTable {lf d : Nat} (hlf : 33554432 ≤ lf) (nx : Int) (l : List T) (hs : l.length + tls l ≤ 16777216) : Cc lf (d + 3) 153 [.st [.i .i64 nx, .sl l]] = some [.b (tableB nx l)] := by
 refine (f153_eq (Cc lf (d + 2)) lf nx l).trans ?_
 unfold f153 f153_t
 have cl : ∀ a, Cc lf (d + 2) 61 [.i .i64 a] = some [.b (iLe 32 a && iLe a 4000)] := fun a => by
  refine (f61_eq (Cc lf (d + 1)) lf a).trans ?_
  unfold f61 f61_t
  rw [c_from]
  rfl
 have L := all_loop (F := fun n j => f153_0 (Cc lf (d + 2)) lf l nx n j) (P := rowB nx l) (X := some [T.i .i64 0, T.b false]) (Y := some [T.i .i64 1, T.i .i64 nx, T.sl l]) (len := l.length) (fun n j hj => by
  show f153_0 (Cc lf (d + 2)) lf l nx (n + 1) _ = _
  rw [f153_0_u]
  unfold f153_0_s
  have ht : (l.take j).length = j := by rw [List.length_take]; omega
  have hg : ∀ i, i < j → (l.take j).getD i T.u = l.getD i T.u := fun i hi => by rw [List.getD_eq_getElem?_getD, List.getD_eq_getElem?_getD, List.getElem?_take_of_lt hi]
  have A1 := find_loop (F := fun n i => f153_1 (Cc lf (d + 2)) lf l j n i) (P := fun i => !((asS (T.cell (l.getD i T.u) 1)).toList == (asS (T.cell (l.getD j T.u) 1)).toList)) (X := fun i => some [T.i .i64 0, T.i .i64 i, T.i .i64 (asI (T.cell (l.getD j T.u) 0)), T.s (asS (T.cell (l.getD j T.u) 1)), T.b (asB (T.cell (l.getD j T.u) 2)), T.i .i64 (asI (T.cell (l.getD j T.u) 3)), T.i .i64 (asI (T.cell (l.getD j T.u) 4))])
   (Y := some [T.i .i64 1, T.i .i64 (asI (T.cell (l.getD j T.u) 0)), T.s (asS (T.cell (l.getD j T.u) 1)), T.b (asB (T.cell (l.getD j T.u) 2)), T.i .i64 (asI (T.cell (l.getD j T.u) 3)), T.i .i64 (asI (T.cell (l.getD j T.u) 4))]) (len := j) (fun n i hi => by
   show f153_1_s (Cc lf (d + 2)) lf _ _ _ _ = _
   unfold f153_1_s
   simp only [Int.toNat_natCast, ht, hg i hi]
   rw [iLt_t (by omega), inR_nat (by omega), wrap_next hi (by omega)]
   simp only [cond_t, cond_not]) (fun n => by
   show f153_1_s (Cc lf (d + 2)) lf _ _ _ _ = _
   unfold f153_1_s
   simp only [Int.toNat_natCast, ht]
   rw [iLt_f (by omega)]
   rfl) (n := lf) (by omega)
  have A2 := find_loop (F := fun n i => f153_2 (Cc lf (d + 2)) lf l j n i) (P := fun i => !((asS (T.cell (l.getD i T.u) 1)).toList == (asS (T.cell (l.getD j T.u) 1)).toList)) (X := fun i => some [T.i .i64 0, T.i .i64 i, T.i .i64 (asI (T.cell (l.getD j T.u) 0)), T.s (asS (T.cell (l.getD j T.u) 1)), T.b (asB (T.cell (l.getD j T.u) 2)), T.i .i64 (asI (T.cell (l.getD j T.u) 3)), T.i .i64 (asI (T.cell (l.getD j T.u) 4))])
   (Y := some [T.i .i64 1, T.i .i64 (asI (T.cell (l.getD j T.u) 0)), T.s (asS (T.cell (l.getD j T.u) 1)), T.b (asB (T.cell (l.getD j T.u) 2)), T.i .i64 (asI (T.cell (l.getD j T.u) 3)), T.i .i64 (asI (T.cell (l.getD j T.u) 4))]) (len := j) (fun n i hi => by
   show f153_2_s (Cc lf (d + 2)) lf _ _ _ _ = _
   unfold f153_2_s
   simp only [Int.toNat_natCast, ht, hg i hi]
   rw [iLt_t (by omega), inR_nat (by omega), wrap_next hi (by omega)]
   simp only [cond_t, cond_not]) (fun n => by
   show f153_2_s (Cc lf (d + 2)) lf _ _ _ _ = _
   unfold f153_2_s
   simp only [Int.toNat_natCast, ht]
   rw [iLt_f (by omega)]
   rfl) (n := lf) (by omega)
  rw [iLt_t (by omega), inR_nat hj]
  simp only [c_iName hlf _ (rows_name hs hj), cl, c_from, Option.bind_some, nth0, asB_b, rowB, cond_not, cond_and, cond_or, cond_t, Int.toNat_natCast]
  rw [iLe_t (show (0 : Int) ≤ (j : Int) by omega), iLe_t (show (j : Int) ≤ (l.length : Int) by omega)]
  simp only [cond_t, Bool.and_self]
  cases iLt (asI (T.cell (l.getD j T.u) 0)) 1 <;> simp only [cond_t, cond_f]
  cases iLe nx (asI (T.cell (l.getD j T.u) 0)) <;> simp only [cond_t, cond_f]
  cases h0 : iLt 0 (j : Int) with
  | true =>
   have hj0 : 0 < j := by have := iLt_iff.1 h0; omega
   rw [wrap_pred hj0 (by omega), inR_nat (by omega)]
   simp only [cond_t, cond_f, Int.toNat_natCast]
   rcases A1 with ⟨p1, p2⟩ | ⟨p1, i, p3, _, p2⟩
   ·rw [p1, p2, wrap_next hj (by omega)]
    simp only [cond_t, cond_f, Option.bind_some, nth0, asI_i]
    rw [show ((1 : Int) == 0) = false from rfl]
    cases nameB (asS (T.cell (l.getD j T.u) 1)) <;> cases iLe (asI (T.cell (l.getD j T.u) 0)) (asI (T.cell (l.getD (j - 1) T.u) 0)) <;> cases iLe 32 (asI (T.cell (l.getD j T.u) 3)) <;> cases iLe (asI (T.cell (l.getD j T.u) 3)) 4000 <;> cases iLe 0 (asI (T.cell (l.getD j T.u) 4)) <;> cases iLe (asI (T.cell (l.getD j T.u) 4)) 191 <;> rfl
   ·rw [p1, p2]
    simp only [cond_t, cond_f, Option.bind_some, nth0, nthS, asI_i]
    rw [show ((0 : Int) == 0) = true from rfl, iLe_t (show (0 : Int) ≤ (i : Int) by omega)]
    cases nameB (asS (T.cell (l.getD j T.u) 1)) <;> cases iLe (asI (T.cell (l.getD j T.u) 0)) (asI (T.cell (l.getD (j - 1) T.u) 0)) <;> cases iLe 32 (asI (T.cell (l.getD j T.u) 3)) <;> cases iLe (asI (T.cell (l.getD j T.u) 3)) 4000 <;> cases iLe 0 (asI (T.cell (l.getD j T.u) 4)) <;> cases iLe (asI (T.cell (l.getD j T.u) 4)) 191 <;> rfl
  | false =>
   simp only [cond_t, cond_f]
   rcases A2 with ⟨p1, p2⟩ | ⟨p1, i, p3, _, p2⟩
   ·rw [p1, p2, wrap_next hj (by omega)]
    simp only [cond_t, cond_f, Option.bind_some, nth0, asI_i]
    rw [show ((1 : Int) == 0) = false from rfl]
    cases nameB (asS (T.cell (l.getD j T.u) 1)) <;> cases iLe 32 (asI (T.cell (l.getD j T.u) 3)) <;> cases iLe (asI (T.cell (l.getD j T.u) 3)) 4000 <;> cases iLe 0 (asI (T.cell (l.getD j T.u) 4)) <;> cases iLe (asI (T.cell (l.getD j T.u) 4)) 191 <;> rfl
   ·rw [p1, p2]
    simp only [cond_t, cond_f, Option.bind_some, nth0, nthS, asI_i]
    rw [show ((0 : Int) == 0) = true from rfl, iLe_t (show (0 : Int) ≤ (i : Int) by omega)]
    cases nameB (asS (T.cell (l.getD j T.u) 1)) <;> cases iLe 32 (asI (T.cell (l.getD j T.u) 3)) <;> cases iLe (asI (T.cell (l.getD j T.u) 3)) 4000 <;> cases iLe 0 (asI (T.cell (l.getD j T.u) 4)) <;> cases iLe (asI (T.cell (l.getD j T.u) 4)) 191 <;> rfl) (fun n => by
  show f153_0 (Cc lf (d + 2)) lf l nx (n + 1) _ = _
  rw [f153_0_u]
  unfold f153_0_s
  rw [iLt_f (by omega)]
  rfl) (n := lf) (by omega)
 simp only at L ⊢
 rw [L]
 unfold tableB
 cases allB (rowB nx l) l.length with
 | false => rfl
 | true =>
  simp only [cond_t, Option.bind_some, nth0, nthS, asI_i, asB_b, asL_l, c_from]
  rw [show ((1 : Int) == 0) = false from rfl, cond_f]
  cases iLe (l.length : Int) 6 <;> cases iLe 1 nx <;> cases iLe nx 99 <;> rfl
theorem c_iGetNum {lf d : Nat} (hlf : 33554432 ≤ lf) {b : List T} (hb : byt b) (hl : b.length ≤ 1073741824) (p : Nat) (hp : p ≤ 1073741824) : Cc lf (d + 1) 91 [.sl b, .i .i64 (p : Int)] = some (getR (getNum b p)) := by
 refine (f91_eq (Cc lf d) lf b p).trans ?_
 unfold f91 f91_t
 dsimp only
 have B : ∀ j, j < b.length → 0 ≤ asI (b.getD j .u) ∧ asI (b.getD j .u) < 256 := fun j hj => by
  obtain ⟨n, e, h⟩ := byt_at hb hj
  rw [e]; exact h
 have L := getNum_loop (b := b) (p := p) (F := fun n x k => f91_0 (Cc lf d) lf b p n x (128 ^ k) k) (X := some [T.i .i64 0]) (Z := some [T.i .i64 0]) (Y := fun v q => some [T.i .i64 1, T.i .i64 v, T.i .i64 (q : Int), T.b true]) hb (fun n x k hk hpk h0 h1 => by
  have hc := B _ hpk
  have hm := Int.emod_nonneg (asI (b.getD (p + k) .u)) (show (128 : Int) ≠ 0 by omega)
  have hm2 := Int.emod_lt_of_pos (asI (b.getD (p + k) .u)) (show (0 : Int) < 128 by omega)
  have hk3 : k = 0 ∨ k = 1 ∨ k = 2 := by omega
  have hpw : 1 ≤ (128 : Int) ^ k ∧ (128 : Int) ^ k ≤ 16384 ∧ (128 : Int) ^ k * 128 = 128 ^ (k + 1) ∧ 0 ≤ asI (b.getD (p + k) .u) % 128 * 128 ^ k ∧ asI (b.getD (p + k) .u) % 128 * 128 ^ k ≤ 2097152 := by
   rcases hk3 with rfl | rfl | rfl
   ·refine ⟨by decide, by decide, by decide, ?_, ?_⟩ <;> rw [Int.pow_zero] <;> omega
   ·refine ⟨by decide, by decide, by decide, ?_, ?_⟩ <;> rw [Int.pow_one] <;> omega
   ·have e : (128 : Int) ^ 2 = 16384 := rfl
    refine ⟨by decide, by decide, by decide, ?_, ?_⟩ <;> rw [e] <;> omega
  rw [f91_0_u]
  unfold f91_0_s
  rw [iLt_t (by omega), wrap_in (x := (b.length : Int) - (k : Int)) (by omega) (by omega), iLt_t (by omega), wrap_in (x := (p : Int) + (k : Int)) (by omega) (by omega), inR_t (by omega) (by omega), show ((p : Int) + (k : Int)).toNat = p + k by omega, wrap_in (x := asI (b.getD (p + k) .u)) (by omega) (by omega), Int.tmod_eq_emod_of_nonneg hc.1,
   wrap_in (x := asI (b.getD (p + k) .u) % 128 * 128 ^ k) (by omega) (by omega), wrap_in (x := x + asI (b.getD (p + k) .u) % 128 * 128 ^ k) (by omega) (by omega), wrap_in (x := (128 : Int) ^ k * 128) (by omega) (by omega), hpw.2.2.1, wrap_in (x := (k : Int) + 1) (by omega) (by omega), wrap_in (x := (p : Int) + (k : Int) + 1) (by omega) (by omega)]
  simp only [cond_t]
  by_cases c0 : 128 ≤ asI (b.getD (p + k) .u)
  ·rw [iLe_t c0, if_pos c0]
   rfl
  ·rw [iLe_f c0, if_neg c0, Int.emod_eq_of_lt hc.1 (by omega)]
   simp only [cond_f]
   by_cases m : 1000000 < x + asI (b.getD (p + k) .u) * 128 ^ k
   ·rw [iLt_t m, if_pos (.inr m)]; rfl
   ·rw [iLt_f m]
    by_cases z : asI (b.getD (p + k) .u) = 0
    ·by_cases k0 : k = 0
     ·subst k0
      rw [if_neg (by omega), iLt_f (by omega), show (asI (b.getD (p + 0) .u) == 0) = true by rw [z]; rfl]; rfl
     ·rw [if_pos (.inl ⟨k0, z⟩), iLt_t (by omega), show (asI (b.getD (p + k) .u) == 0) = true by rw [z]; rfl]; rfl
    ·rw [if_neg (by rintro (h | h); exact z h.2; exact m h), show (asI (b.getD (p + k) .u) == 0) = false from by simpa using z]; rfl) (fun n x k hk3 hk => by
  rw [f91_0_u]
  unfold f91_0_s
  by_cases k3 : k < 3
  ·rw [iLt_t (by omega), wrap_in (x := (b.length : Int) - (k : Int)) (by omega) (by omega), iLt_f (by omega)]; rfl
  ·rw [iLt_f (by omega)]; rfl) (n := lf) (by omega)
 rw [iLt_f (by omega), cond_f]
 rcases L with ⟨h1, h2 | h2⟩ | ⟨v, q, h1, h2⟩
 ·rw [Int.pow_zero, show ((0 : Nat) : Int) = 0 from rfl] at h2; rw [h1, h2]; rfl
 ·rw [Int.pow_zero, show ((0 : Nat) : Int) = 0 from rfl] at h2; rw [h1, h2]; rfl
 ·rw [Int.pow_zero, show ((0 : Nat) : Int) = 0 from rfl] at h2; rw [h1, h2]; rfl
theorem c_iNum {lf d : Nat} (hlf : 33554432 ≤ lf) {b : List T} (hb : byt b) (hl : b.length ≤ 1073741824) {s : Option Nat} {p : Int} {ok : Bool} (h : RI b s p ok) :
 ∃ p' ok', Cc lf (d + 2) 148 [.st [.sl b, .i .i64 p, .b ok]] = some [.i .i64 (rd b s).1, .st [.sl b, .i .i64 p', .b ok']] ∧ RI b (rd b s).2 p' ok' := by
 have E := f148_eq (Cc lf (d + 1)) lf b p ok
 unfold f148 f148_t at E
 obtain ⟨rfl, h2⟩ := h
 cases s with
 | none => exact ⟨p, false, E, rfl, fun q hq => by cases hq⟩
 | some q =>
  obtain ⟨rfl, hq⟩ := h2 q rfl
  rw [c_iGetNum hlf hb hl q (by omega)] at E
  simp only [rd]
  cases e : getNum b q with
  | none => rw [e] at E; exact ⟨0, false, E, rfl, fun q hq => by cases hq⟩
  | some x =>
   obtain ⟨n, q2⟩ := x
   rw [e] at E
   exact ⟨q2, true, E, rfl, fun q hq => by cases hq; exact ⟨rfl, (getNum_in hb e).2.2.2⟩⟩
theorem c_iCount {lf d : Nat} (hlf : 33554432 ≤ lf) {b : List T} (hb : byt b) (hl : b.length ≤ 1073741824) {s : Option Nat} {p : Int} {ok : Bool} (h : RI b s p ok) :
 ∃ p' ok', Cc lf (d + 3) 149 [.st [.sl b, .i .i64 p, .b ok]] = some [.i .i64 (rdC b s).1, .st [.sl b, .i .i64 p', .b ok']] ∧ RI b (rdC b s).2 p' ok' := by
 have E := f149_eq (Cc lf (d + 2)) lf b p ok
 unfold f149 f149_t at E
 obtain ⟨p', ok', h1, h2⟩ := c_iNum (d := d) hlf hb hl h
 rw [h1] at E
 simp only [Option.bind_some, nth0, nthS, asI_i, asB_b, cell0, cellS] at E
 obtain ⟨rfl, h3⟩ := h2
 have hz := @rd_zero b s
 unfold rdC
 generalize hr : rd b s = r at *
 obtain ⟨n, s'⟩ := r
 cases s' with
 | none =>
  have : n = 0 := hz rfl
  subst this
  cases c : iLt (IntKind.wrap .i64 ((b.length : Int) - p')) 0 with
  | true => rw [c] at E; exact ⟨p', false, E, rfl, fun q hq => by cases hq⟩
  | false => rw [c] at E; exact ⟨p', false, E, rfl, fun q hq => by cases hq⟩
 | some q =>
  obtain ⟨rfl, hq⟩ := h3 q rfl
  rw [wrap_in (by omega) (by omega)] at E
  simp only
  by_cases c : n > (b.length : Int) - q
  ·rw [iLt_t c] at E
   rw [if_pos c]
   exact ⟨q, false, E, rfl, fun q hq => by cases hq⟩
  ·rw [iLt_f c] at E
   rw [if_neg c]
   exact ⟨q, true, E, rfl, fun q2 hq2 => by cases hq2; exact ⟨rfl, hq⟩⟩
theorem c_iDone {lf d : Nat} {b : List T} {s : Option Nat} {p : Int} {ok : Bool} (h : RI b s p ok) :
 ∃ t, Cc lf (d + 1) 152 [.st [.sl b, .i .i64 p, .b ok]] = some [.b (s == some b.length), t] := by
 have E := f152_eq (Cc lf d) lf b p ok
 unfold f152 f152_t at E
 obtain ⟨rfl, h2⟩ := h
 cases s with
 | none => exact ⟨_, E⟩
 | some q =>
  obtain ⟨rfl, _⟩ := h2 q rfl
  have e : ((q : Int) == (b.length : Int)) = (some q == some b.length) := by
   rw [Bool.eq_iff_iff]
   simp
   omega
  exact ⟨_, by rw [← e]; exact E⟩
def getTR : ByteArray × Option Nat → List T
 | (s, some q) => [.s s, .i .i64 (q : Int), .b true]
 | (_, none) => [.s ⟨#[]⟩, .i .i64 0, .b false]
theorem getText_aux {b : List T} (hb : byt b) (hl : b.length ≤ 1073741824) (p : Nat) : ((some (getR (getNum b p)) : Option (List T)).bind fun r =>
 bif !(asB (nth r 2)) then
  some [T.s (⟨#[]⟩ : ByteArray), T.i .i64 0, T.b false]
 else
  bif iLt (IntKind.wrap .i64 ((b.length : Int) - (asI (nth r 1)))) (asI (nth r 0)) then
   some [T.s (⟨#[]⟩ : ByteArray), T.i .i64 0, T.b false]
  else
   bif iLe 0 (asI (nth r 1)) && iLe (asI (nth r 1)) (IntKind.wrap .i64 ((asI (nth r 1)) + (asI (nth r 0)))) && iLe (IntKind.wrap .i64 ((asI (nth r 1)) + (asI (nth r 0)))) (b.length : Int) then
   some [T.s (bytesOf ((b.drop ((asI (nth r 1)).toNat)).take (((IntKind.wrap .i64 ((asI (nth r 1)) + (asI (nth r 0)))).toNat) - ((asI (nth r 1)).toNat)))), T.i .i64 (IntKind.wrap .i64 ((asI (nth r 1)) + (asI (nth r 0)))), T.b true]
   else none) = some (getTR (rdS b (some p))) := by
 unfold rdS
 simp only [rd]
 cases e : getNum b p with
 | none => rfl
 | some x =>
  obtain ⟨n, q⟩ := x
  obtain ⟨h0, h1, h2, h3⟩ := getNum_in hb e
  simp only [getR, Option.bind_some, nth0, nthS, asI_i, asB_b, Bool.not_true, cond_f]
  rw [wrap_in (x := (b.length : Int) - q) (by omega) (by omega), wrap_in (x := (q : Int) + n) (by omega) (by omega)]
  by_cases c : n > (b.length : Int) - q
  ·rw [iLt_t c, if_pos c]; rfl
  ·rw [iLt_f c, if_neg c, cond_f, iLe_t (by omega), iLe_t (by omega), iLe_t (by omega)]
   rw [show ((q : Int)).toNat = q from rfl, show ((q : Int) + n).toNat - q = n.toNat by omega, show (q : Int) + n = ((q + n.toNat : Nat) : Int) by omega]
   rfl
theorem c_iGetText {lf d : Nat} (hlf : 33554432 ≤ lf) {b : List T} (hb : byt b) (hl : b.length ≤ 1073741824) (p : Nat) (hp : p ≤ 1073741824) : Cc lf (d + 2) 198 [.sl b, .i .i64 (p : Int)] = some (getTR (rdS b (some p))) := by
 refine (f198_eq (Cc lf (d + 1)) lf b p).trans ?_
 unfold f198 f198_t
 rw [c_iGetNum hlf hb hl p hp]
 exact getText_aux hb hl p
theorem c_iText {lf d : Nat} (hlf : 33554432 ≤ lf) {b : List T} (hb : byt b) (hl : b.length ≤ 1073741824) {s : Option Nat} {p : Int} {ok : Bool} (h : RI b s p ok) :
 ∃ p' ok', Cc lf (d + 3) 150 [.st [.sl b, .i .i64 p, .b ok]] = some [.s (rdS b s).1, .st [.sl b, .i .i64 p', .b ok']] ∧ RI b (rdS b s).2 p' ok' := by
 have E := f150_eq (Cc lf (d + 2)) lf b p ok
 unfold f150 f150_t at E
 obtain ⟨rfl, h2⟩ := h
 cases s with
 | none => exact ⟨p, false, E, rfl, fun q hq => by cases hq⟩
 | some q =>
  obtain ⟨rfl, hq⟩ := h2 q rfl
  rw [c_iGetText hlf hb hl q (by omega)] at E
  have hn := @rdS_next b hb (some q)
  have hs : (rdS b (some q)).2 = none → (rdS b (some q)).1 = ⟨#[]⟩ := by
   intro h
   unfold rdS at h ⊢
   split
   ·rename_i n q' e
    rw [e] at h
    simp only at h
    split at h
    ·rename_i c; rw [if_pos c]
    ·cases h
   ·rfl
  generalize rdS b (some q) = r at *
  obtain ⟨s, q2⟩ := r
  cases q2 with
  | none =>
   have := hs rfl
   simp only at this
   subst this
   exact ⟨0, false, E, rfl, fun q hq => by cases hq⟩
  | some q2 => exact ⟨q2, true, E, rfl, fun q hq => by cases hq; obtain ⟨_, _, _, h⟩ := hn rfl; exact ⟨rfl, h⟩⟩
def gRow (b : List T) (s : Option Nat) : T × Option Nat :=
 (.st [.i .i64 (rd b s).1, .s (rdS b (rd b s).2).1, .b (rdF b (rdS b (rd b s).2).2).1, .i .i64 (rd b (rdF b (rdS b (rd b s).2).2).2).1, .i .i64 (rd b (rd b (rdF b (rdS b (rd b s).2).2).2).2).1], (rd b (rd b (rdF b (rdS b (rd b s).2).2).2).2).2)
theorem rdF_next {b : List T} (hb : byt b) {s : Option Nat} {q : Nat} (h : (rdF b s).2 = some q) : ∃ p, s = some p ∧ p < q ∧ q ≤ b.length := by
 unfold rdF at h
 simp only at h
 split at h
 ·obtain ⟨p, e1, h1, h2, _⟩ := rd_next hb h
  exact ⟨p, e1, h1, h2⟩
 ·cases h
theorem gRow_next {b : List T} (hb : byt b) (p q : Nat) (h : (gRow b (some p)).2 = some q) : p < q ∧ q ≤ b.length := by
 unfold gRow at h
 obtain ⟨p1, e1, h1, h2, _⟩ := rd_next hb h
 obtain ⟨p2, e2, h3, h4, _⟩ := rd_next hb e1
 obtain ⟨p3, e3, h5, h6⟩ := rdF_next hb e2
 obtain ⟨p4, e4, h7, h8⟩ := rdS_next hb e3
 obtain ⟨p5, e5, h9, h10, _⟩ := rd_next hb e4
 cases e5
 omega
theorem gRow_tl (b : List T) (s : Option Nat) : tl (gRow b s).1 = (rdS b (rd b s).2).1.size := by
 simp only [gRow, tl, tls]
 omega
theorem gRow_size {b : List T} (hb : byt b) (p : Nat) (hp : p ≤ b.length) : p + tl (gRow b (some p)).1 ≤ b.length ∧ ∀ q, (gRow b (some p)).2 = some q → p + tl (gRow b (some p)).1 ≤ q ∧ q ≤ b.length := by
 rw [gRow_tl]
 cases e : (rd b (some p)).2 with
 | none =>
  refine ⟨by rw [rdS_none]; exact hp, fun q h => ?_⟩
  have := gRow_next hb p q h
  rw [rdS_none]
  exact ⟨by show p + 0 ≤ q; omega, this.2⟩
 | some p1 =>
  obtain ⟨p0, e0, h1, h2, _⟩ := rd_next hb e
  cases e0
  obtain ⟨a1, a2⟩ := rdS_size hb h2
  refine ⟨by omega, fun q h => ?_⟩
  have hq := gRow_next hb p q h
  unfold gRow at h
  obtain ⟨p1', e1, h3, h4, _⟩ := rd_next hb h
  obtain ⟨p2, e2, h5, h6, _⟩ := rd_next hb e1
  obtain ⟨p3, e3, h7, h8⟩ := rdF_next hb e2
  rw [e] at e3
  have := a2 p3 e3
  omega
theorem rows_tls {b : List T} (hb : byt b) (k : Nat) (s : Option Nat) (hs : ∀ p, s = some p → p ≤ b.length) : tls (itemsI (gRow b) k s).1 ≤ b.length := by
 obtain ⟨r1, r2⟩ := items_tls (g := gRow b) (b := b) ⟨rfl, rfl⟩ (gRow_size hb) k s
 cases s with
 | none => rw [r1 rfl]; exact Nat.zero_le _
 | some p => have := r2 p rfl (hs p rfl); omega
theorem c_iFlag {lf d : Nat} (hlf : 33554432 ≤ lf) {b : List T} (hb : byt b) (hl : b.length ≤ 1073741824) {s : Option Nat} {p : Int} {ok : Bool} (h : RI b s p ok) :
 ∃ p' ok', Cc lf (d + 3) 151 [.st [.sl b, .i .i64 p, .b ok]] = some [.b (rdF b s).1, .st [.sl b, .i .i64 p', .b ok']] ∧ RI b (rdF b s).2 p' ok' := by
 have E := f151_eq (Cc lf (d + 2)) lf b p ok
 unfold f151 f151_t at E
 obtain ⟨p', ok', h1, h2⟩ := c_iNum (d := d) hlf hb hl h
 rw [h1] at E
 simp only [Option.bind_some, nth0, nthS, asI_i, asB_b, cell0, cellS] at E
 obtain ⟨rfl, h3⟩ := h2
 unfold rdF
 simp only
 cases e : (rd b s).2 with
 | none =>
  rw [e] at E
  refine ⟨p', false, E, ?_⟩
  rw [ite_self]
  exact ⟨rfl, fun q hq => by cases hq⟩
 | some q =>
  rw [e] at E
  by_cases c : (rd b s).1 < 2
  ·rw [iLt_t c] at E
   rw [if_pos c]
   exact ⟨p', true, E, rfl, fun q' hq => h3 q' (by rw [e]; exact hq)⟩
  ·rw [iLt_f c] at E
   rw [if_neg c]
   exact ⟨p', false, E, rfl, fun q hq => by cases hq⟩
def getTableB (b : List T) : Option (Int × List T) :=
 match (rdC b (rd b (some 0)).2) with
 | (n, s) => match itemsI (gRow b) n.toNat s with
  | (ps, s3) => bif s3 == some b.length && tableB (rd b (some 0)).1 ps then some ((rd b (some 0)).1, ps) else none
def getTableR : Option (Int × List T) → List T
 | some (n, ps) => [.st [.i .i64 n, .sl ps], .b true]
 | none => [.st [.i .i64 0, .sl []], .b false]
theorem rdC_le {b : List T} {s : Option Nat} (hb : byt b) : ∀ p, (rdC b s).2 = some p → p ≤ b.length := by
 intro p h
 cases e : (rd b s).2 with
 | none => rw [rdC_none e] at h; cases h
 | some q =>
  obtain ⟨_, _, _, h2, _⟩ := rd_next hb e
  rw [rdC_some (N := (rd b s).1) (p := q) (by rw [← e])] at h
  split at h
  ·cases h
  ·cases h; exact h2
theorem c_iGetTable {lf d : Nat} (hlf : 33554432 ≤ lf) {b : List T} (hb : byt b) (hl : b.length ≤ 1048576) : Cc lf (d + 5) 92 [.sl b] = some (getTableR (getTableB b)) := by
 refine (f92_eq (Cc lf (d + 4)) lf b).trans ?_
 unfold f92 f92_t
 dsimp only
 obtain ⟨p1, ok1, e1, R1⟩ := c_iNum (d := d + 2) (s := some 0) (p := 0) (ok := true) hlf hb (by omega) ⟨rfl, fun q hq => by cases hq; exact ⟨rfl, Nat.zero_le _⟩⟩
 obtain ⟨p2, ok2, e2, R2⟩ := c_iCount (d := d + 1) hlf hb (by omega) R1
 rw [e1]
 simp only [Option.bind_some, nth0, nthS, asI_i, asB_b, cell0, cellS]
 rw [e2]
 simp only [Option.bind_some, nth0, nthS, asI_i, asB_b, cell0, cellS]
 have hc := rdC_in hb (rd b (some 0)).2
 obtain ⟨N, hN⟩ := Int.eq_ofNat_of_zero_le hc.1
 obtain ⟨p3, ok3, e3, R3⟩ := loopI (g := gRow b) (b := b) (N := N) (F := fun n j p ok acc => f92_0 (Cc lf (d + 4)) lf b [T.i .i64 (rd b (some 0)).1, T.st [T.sl b, T.i .i64 p1, T.b ok1]] [T.i .i64 (rdC b (rd b (some 0)).2).1, T.st [T.sl b, T.i .i64 p2, T.b ok2]] n j p ok acc)
  (Y := fun p ok acc => some [T.i .i64 0, T.i .i64 0, T.sl ([] : List T), T.sl b, T.i .i64 p, T.b ok, T.i .i64 (rd b (some 0)).1, T.sl acc]) (by omega) (fun n j p ok acc s hj hR ha => by
   obtain ⟨pa, oa, q1, Q1⟩ := c_iNum (d := d + 2) hlf hb (by omega) hR
   obtain ⟨pb, ob, q2, Q2⟩ := c_iText (d := d + 1) hlf hb (by omega) Q1
   obtain ⟨pc, oc, q3, Q3⟩ := c_iFlag (d := d + 1) hlf hb (by omega) Q2
   obtain ⟨pd, od, q4, Q4⟩ := c_iNum (d := d + 2) hlf hb (by omega) Q3
   obtain ⟨pe, oe, q5, Q5⟩ := c_iNum (d := d + 2) hlf hb (by omega) Q4
   refine ⟨pe, oe, ?_, Q5⟩
   rw [f92_0_u]
   unfold f92_0_s
   rw [nth0, asI_i, hN, iLt_t (by omega), q1]
   simp only [cond_t, Option.bind_some, nth0, nthS, asI_i, asB_b, asS_s, cell0, cellS]
   rw [q2]
   simp only [cond_t, Option.bind_some, nth0, nthS, asI_i, asB_b, asS_s, cell0, cellS]
   rw [q3]
   simp only [cond_t, Option.bind_some, nth0, nthS, asI_i, asB_b, asS_s, cell0, cellS]
   rw [q4]
   simp only [cond_t, Option.bind_some, nth0, nthS, asI_i, asB_b, asS_s, cell0, cellS]
   rw [q5]
   simp only [cond_t, Option.bind_some, nth0, nthS, asI_i, asB_b, asS_s, cell0, cellS]
   rw [nLe_app (by omega), cond_t, wrap_in (by omega) (by omega)]
   rfl) (fun n p ok acc => by
   rw [f92_0_u]
   unfold f92_0_s
   rw [nth0, asI_i, hN, iLt_f (by omega)]
   rfl) (n := lf) (by omega) R2
 rw [e3]
 simp only [Option.bind_some, nth0, nthS, asI_i, asB_b, asL_l, cell0, cellS]
 obtain ⟨t, e4⟩ := c_iDone (lf := lf) (d := d + 3) R3
 rw [e4]
 simp only [Option.bind_some, nth0, nthS, asI_i, asB_b]
 have hlen := itemsI_len (g := gRow b) N (rdC b (rd b (some 0)).2).2
 have htls := rows_tls hb N (rdC b (rd b (some 0)).2).2 (rdC_le hb)
 rw [c_iTable (d := d + 1) hlf _ _ (by omega)]
 simp only [Option.bind_some, nth0, asB_b]
 unfold getTableB
 simp only [hN, Int.toNat_natCast]
 cases (itemsI (gRow b) N (rdC b (rd b (some 0)).2).2).2 == some b.length with
 | false => rfl
 | true =>
  cases tableB (rd b (some 0)).1 (itemsI (gRow b) N (rdC b (rd b (some 0)).2).2).1 with
  | false => rfl
  | true => rfl
theorem c_iCrc {lf d : Nat} (hlf : 33554432 ≤ lf) {b : List T} (hb : byt b) (hl : b.length ≤ 16777216) : Cc lf (d + 1) 157 [.sl b] = some [.i .i64 (crcN b : Nat)] := by
 refine (f157_eq (Cc lf d) lf b).trans ?_
 unfold f157 f157_t
 dsimp only
 have In : ∀ (x j : Nat), x < 4294967296 → f157_1 (Cc lf d) lf b (b.length : Int) j lf x 0 = some [T.i .i64 0, T.i .u32 (r8 x : Nat), T.sl b, T.i .i64 (b.length : Int), T.i .i64 (j : Int)] := fun x j hx => by
  have := (fold_loop (S := Nat) (F := fun n s k => f157_1 (Cc lf d) lf b (b.length : Int) j n s k) (g := fun s _ => r1 s) (I := fun s _ => s < 4294967296) (Y := fun s => some [T.i .i64 0, T.i .u32 (s : Int), T.sl b, T.i .i64 (b.length : Int), T.i .i64 (j : Int)]) (len := 8) (fun n s k hk hs => by
   rw [f157_1_u]
   unfold f157_1_s
   rw [iLt_t (by omega), and32 hs, shr1_32, show (2197175160 : Int) = ((2197175160 : Nat) : Int) from rfl, xor32 (by omega) (by omega), wrap_in (x := (k : Int) + 1) (by omega) (by omega)]
   unfold r1
   by_cases c : s % 2 = 1
   ·rw [if_pos c, show (((s % 2 : Nat) : Int) == 1) = true by simp only [beq_iff_eq]; omega]; rfl
   ·rw [if_neg c, show (((s % 2 : Nat) : Int) == 1) = false by simp only [beq_eq_false_iff_ne, ne_eq]; omega]; rfl) (fun s k hk hs => r1_lt hs) (fun n s hs => by
   rw [f157_1_u]
   unfold f157_1_s
   rw [iLt_f (by omega)]
   rfl) (n := lf) (by omega) (s := x) hx).1
  exact this
 have L := (fold_loop (S := Nat) (F := fun n s j => f157_0 (Cc lf d) lf n s b (b.length : Int) j) (g := fun s j => r8 (s ^^^ (asI (b.getD j .u)).toNat)) (I := fun s _ => s < 4294967296) (Y := fun s => some [T.i .i64 0, T.i .u32 (s : Int)]) (len := b.length) (fun n s j hj hs => by
  have hB := byte_lt hb j
  rw [f157_0_u]
  unfold f157_0_s
  obtain ⟨v, hv⟩ := Int.eq_ofNat_of_zero_le hB.1
  rw [iLt_t (by omega), inR_nat hj, Int.toNat_natCast, hv, wrap32 (x := (v : Int)) (by omega) (by omega), xor32 hs (by omega)]
  dsimp only
  rw [In _ j (xor_lt hs (by omega))]
  simp only [cond_t, Option.bind_some, nth0, nthS, asI_i, asL_l]
  rw [wrap_in (x := (j : Int) + 1) (by omega) (by omega)]
  rfl) (fun s j hj hs => by
   have hB := byte_lt hb j
   exact r8_lt (xor_lt hs (by omega))) (fun n s hs => by
  rw [f157_0_u]
  unfold f157_0_s
  rw [iLt_f (by omega)]
  rfl) (n := lf) (by omega) (s := 4294967295) (by omega)).1
 rw [show ((4294967295 : Nat) : Int) = 4294967295 from rfl] at L
 rw [L]
 simp only [Option.bind_some, nth0, nthS, asI_i]
 have hc := crcN_lt hb
 have e : foldN (fun s j => r8 (s ^^^ (asI (b.getD j .u)).toNat)) 4294967295 b.length = crcS b b.length := rfl
 rw [e, show (4294967295 : Int) = ((4294967295 : Nat) : Int) from rfl, xor32 (show 4294967295 < 4294967296 by omega) (crcS_lt hb b.length), Nat.xor_comm, show crcS b b.length ^^^ 4294967295 = crcN b from rfl, wrap_in (by omega) (by omega)]
def recB (k s : Int) (body : List T) : Bool := (iLe 1 k && iLe k 4) && ((iLe 0 s && iLe s 1000000) && iLe (body.length : Int) 380)
def recHead (x : List T) (s : Option Nat) : (Int × Int × ByteArray) × Option Nat := (((rd x s).1, (rd x (rd x s).2).1, (rdS x (rd x (rd x s).2).2).1), (rdS x (rd x (rd x s).2).2).2)
def getRecB (b : List T) : Option (Int × Int × List T) :=
 if b.length < 4 then none else
  bif sealB b && ((recHead (b.take (b.length - 4)) (some 0)).2 == some (b.length - 4) && recB (recHead (b.take (b.length - 4)) (some 0)).1.1 (recHead (b.take (b.length - 4)) (some 0)).1.2.1 (listOf (recHead (b.take (b.length - 4)) (some 0)).1.2.2)) then
   some ((recHead (b.take (b.length - 4)) (some 0)).1.1, (recHead (b.take (b.length - 4)) (some 0)).1.2.1, listOf (recHead (b.take (b.length - 4)) (some 0)).1.2.2) else none
def recT : Option (Int × Int × List T) → T
 | some (k, s, d) => .st [.i .i64 k, .i .i64 s, .sl d]
 | none => .st [.i .i64 0, .i .i64 0, .sl []]
def getRecR (r : Option (Int × Int × List T)) : List T := [recT r, .b r.isSome]
theorem c_iRecOk {lf d : Nat} (k s : Int) (body : List T) : Cc lf (d + 2) 49 [.st [.i .i64 k, .i .i64 s, .sl body]] = some [.b (recB k s body)] := by
 refine (f49_eq (Cc lf (d + 1)) lf k s body).trans ?_
 unfold f49 f49_t
 simp only [c_from, Option.bind_some, nth0, asB_b, cond_st]
 unfold recB
 cases (iLe 1 k && iLe k 4) <;> cases (iLe 0 s && iLe s 1000000) <;> rfl
theorem c_sealed {lf d : Nat} (hlf : 33554432 ≤ lf) {b : List T} (hb : byt b) (hl : b.length ≤ 16777216) : Cc lf (d + 2) 99 [.sl b] = some [.sl (b ++ four (crcN b))] := by
 refine (f99_eq (Cc lf (d + 1)) lf b).trans ?_
 unfold f99 f99_t
 rw [c_iCrc hlf hb hl]
 simp only [Option.bind_some, nth0, asI_i]
 rw [c_clone (by omega), four_sh (crcN_lt hb)]
 simp only [Option.bind_some, nth0, asL_l]
 rw [nLe_t (by unfold LIM four; simp; omega)]
 rfl
theorem c_opened {lf d : Nat} (hlf : 33554432 ≤ lf) {b : List T} (hb : byt b) (hl : b.length ≤ 16777216) : Cc lf (d + 3) 195 [.sl b] = some (if b.length < 4 then [.sl [], .b false] else bif sealB b then [.sl (b.take (b.length - 4)), .b true] else [.sl [], .b false]) := by
 refine (f195_eq (Cc lf (d + 2)) lf b).trans ?_
 unfold f195 f195_t
 rw [wrap_in (by omega) (by omega)]
 by_cases h : b.length < 4
 ·rw [iLt_t (by omega), if_pos h]; rfl
 ·rw [iLt_f (by omega), if_neg h, cond_f, iLe_t (by omega), iLe_t (by omega), show ((b.length : Int) - 4).toNat = b.length - 4 by omega, c_sealed hlf (byt_take hb _) (by simp; omega)]
  simp only [Bool.and_self, cond_t, Option.bind_some, nth0, asL_l, seal_iff hb (show 4 ≤ b.length by omega)]
  cases sealB b <;> rfl
theorem c_iGetRec {lf d : Nat} (hlf : 33554432 ≤ lf) {b : List T} (hb : byt b) (hl : b.length ≤ 16777216) : Cc lf (d + 4) 145 [.sl b] = some (getRecR (getRecB b)) := by
 refine (f145_eq (Cc lf (d + 3)) lf b).trans ?_
 unfold f145 f145_t
 rw [c_opened hlf hb hl]
 have go : ∀ (x : List T) (s : Option Nat) (ok : Bool), byt x → x.length ≤ 16777216 → RI x s 0 ok →
  ((Cc lf (d + 3) 148 [.st [.sl x, .i .i64 0, .b ok]]).bind fun r2 =>
   (Cc lf (d + 3) 148 [.st [.sl x, .i .i64 (asI (T.cell (nth r2 1) 1)), .b (asB (T.cell (nth r2 1) 2))]]).bind fun r3 =>
   (Cc lf (d + 3) 150 [.st [.sl x, .i .i64 (asI (T.cell (nth r3 1) 1)), .b (asB (T.cell (nth r3 1) 2))]]).bind fun r4 =>
   bif nLe (asS (nth r4 0)).size LIM then
   (Cc lf (d + 3) 152 [.st [.sl x, .i .i64 (asI (T.cell (nth r4 1) 1)), .b (asB (T.cell (nth r4 1) 2))]]).bind fun r5 =>
   bif !(asB (nth r5 0)) then
    some [T.st [T.i .i64 0, T.i .i64 0, T.sl []], T.b false]
   else
    (Cc lf (d + 3) 49 [.st [.i .i64 (asI (nth r2 0)), .i .i64 (asI (nth r3 0)), .sl (listOf (asS (nth r4 0)))]]).bind fun r6 =>
    bif !(asB (nth r6 0)) then
     some [T.st [T.i .i64 0, T.i .i64 0, T.sl []], T.b false]
    else
     some [T.st [T.i .i64 (asI (nth r2 0)), T.i .i64 (asI (nth r3 0)), T.sl (listOf (asS (nth r4 0)))], T.b true]
   else none) = some (getRecR (bif (recHead x s).2 == some x.length && recB (recHead x s).1.1 (recHead x s).1.2.1 (listOf (recHead x s).1.2.2) then some ((recHead x s).1.1, (recHead x s).1.2.1, listOf (recHead x s).1.2.2) else none)) := by
  intro x s ok hx hxl R0
  obtain ⟨p1, ok1, e1, R1⟩ := c_iNum (d := d + 1) hlf hx (by omega) R0
  obtain ⟨p2, ok2, e2, R2⟩ := c_iNum (d := d + 1) hlf hx (by omega) R1
  obtain ⟨p3, ok3, e3, R3⟩ := c_iText (d := d) hlf hx (by omega) R2
  obtain ⟨t, e4⟩ := c_iDone (lf := lf) (d := d + 2) R3
  have hd := rdS_len hx (rd x (rd x s).2).2
  rw [e1]
  simp only [Option.bind_some, nth0, nthS, asI_i, asB_b, cell0, cellS]
  rw [e2]
  simp only [Option.bind_some, nth0, nthS, asI_i, asB_b, cell0, cellS]
  rw [e3]
  simp only [Option.bind_some, nth0, nthS, asI_i, asB_b, asS_s, cell0, cellS]
  rw [nLe_t (show (rdS x (rd x (rd x s).2).2).1.size ≤ LIM by unfold LIM; omega), cond_t, e4]
  simp only [Option.bind_some, nth0, asB_b]
  rw [c_iRecOk]
  simp only [Option.bind_some, nth0, asB_b]
  unfold recHead
  simp only
  cases (rdS x (rd x (rd x s).2).2).2 == some x.length with
  | false => rfl
  | true => cases recB (rd x s).1 (rd x (rd x s).2).1 (listOf (rdS x (rd x (rd x s).2).2).1) <;> rfl
 unfold getRecB
 by_cases h : b.length < 4
 ·rw [if_pos h, if_pos h]
  simp only [Option.bind_some, nth0, nthS, asL_l, asB_b]
  exact go [] none false byt_nil (Nat.zero_le _) ⟨rfl, fun q hq => by cases hq⟩
 ·rw [if_neg h, if_neg h]
  cases sealB b with
  | false =>
   simp only [cond_f, Option.bind_some, nth0, nthS, asL_l, asB_b]
   exact go [] none false byt_nil (Nat.zero_le _) ⟨rfl, fun q hq => by cases hq⟩
  | true =>
   simp only [cond_t, Option.bind_some, nth0, nthS, asL_l, asB_b]
   have hlen : (b.take (b.length - 4)).length = b.length - 4 := by rw [List.length_take]; omega
   have := go (b.take (b.length - 4)) (some 0) true (byt_take hb _) (by omega) ⟨rfl, fun q hq => by cases hq; exact ⟨rfl, Nat.zero_le _⟩⟩
   rw [hlen] at this
   exact this
def pageU (ps : List T) (j : Nat) : Bool := asB (T.cell (ps.getD j T.u) 0)
def usedN (ps : List T) : Nat := cntB (pageU ps) ps.length
theorem usedN_le (ps : List T) : usedN ps ≤ ps.length := cntB_le _ _
theorem cellL_le {l : List T} {j : Nat} (k : Nat) : (asL (T.cell (l.getD j T.u) k)).length + tls (asL (T.cell (l.getD j T.u) k)) ≤ tls l := by
 by_cases h : j < l.length
 ·have h1 := tl_mem (List.getElem_mem h)
  rw [List.getD_eq_getElem?_getD, List.getElem?_eq_getElem h]
  show (asL (T.cell l[j] k)).length + tls (asL (T.cell l[j] k)) ≤ _
  cases e : l[j] <;> try (simp only [T.cell, asL, tls]; exact Nat.zero_le _)
  rename_i xs
  rw [e] at h1
  simp only [T.cell, tl] at h1 ⊢
  cases e2 : xs[k]? with
  | none => rw [List.getD_eq_getElem?_getD, e2]; exact Nat.zero_le _
  | some x =>
   rw [List.getD_eq_getElem?_getD, e2]
   have h3 := tl_mem (List.mem_of_getElem? e2)
   show (asL x).length + tls (asL x) ≤ _
   cases x <;> try (exact Nat.zero_le _)
   simp only [tl, asL] at h3 ⊢
   omega
 ·rw [List.getD_eq_getElem?_getD, List.getElem?_eq_none (by omega)]
  exact Nat.zero_le _
theorem c_isBlock {lf d : Nat} (l : List T) (n : Int) (hs : l.length ≤ 16777216) : Cc lf (d + 2) 95 [.st [.sl l], .i .i64 n] = some [.b (iLe 0 n && iLt n (l.length : Int))] := by
 refine (f95_eq (Cc lf (d + 1)) lf l n).trans ?_
 unfold f95 f95_t
 rw [wrap_in (by omega) (by omega), c_from]
 have : iLe n ((l.length : Int) - 1) = iLt n (l.length : Int) := by
  by_cases h : n < (l.length : Int)
  ·rw [iLt_t h, iLe_t (by omega)]
  ·rw [iLt_f h, iLe_f (by omega)]
 rw [this]
 rfl
theorem c_iNext {lf d : Nat} (hlf : 33554432 ≤ lf) (l : List T) (j : Nat) (hj : j < l.length) (hs : l.length + tls l ≤ 16777216) : Cc lf (d + 3) 51 [.st [.sl l], .i .i64 (j : Int)] = some [.i .i64 (usedN (asL (T.cell (l.getD j T.u) 0)) : Nat)] := by
 refine (f51_eq (Cc lf (d + 2)) lf l j).trans ?_
 unfold f51 f51_t
 dsimp only
 have hp := cellL_le (l := l) (j := j) 0
 have L := cnt_loop (F := fun n x k => f51_0 (Cc lf (d + 2)) lf l j n x k) (P := pageU (asL (T.cell (l.getD j T.u) 0))) (Y := fun x => some [T.i .i64 0, T.i .i64 x]) (len := (asL (T.cell (l.getD j T.u) 0)).length) (by omega) (fun n x k hk hx => by
  rw [f51_0_u]
  unfold f51_0_s
  rw [Int.toNat_natCast, iLt_t (by omega), inR_nat hk, wrap_next hk (by omega)]
  rfl) (fun n x => by
  rw [f51_0_u]
  unfold f51_0_s
  rw [Int.toNat_natCast, iLt_f (by omega)]
  rfl) (n := lf) (by omega)
 rw [c_isBlock l j (by omega), iLe_t (by omega), iLt_t (by omega), inR_nat hj]
 simp only [Option.bind_some, nth0, asB_b, Bool.and_self, Bool.not_true, cond_f, cond_t]
 rw [L]
 rfl
theorem c_iNextNo {lf d : Nat} (l : List T) (n : Int) (hn : ¬ (0 ≤ n ∧ n < (l.length : Int))) (hs : l.length + tls l ≤ 16777216) : Cc lf (d + 3) 51 [.st [.sl l], .i .i64 n] = some [.i .i64 (-1)] := by
 refine (f51_eq (Cc lf (d + 2)) lf l n).trans ?_
 unfold f51 f51_t
 rw [c_isBlock l n (by omega)]
 have : (iLe 0 n && iLt n (l.length : Int)) = false := by
  by_cases h : 0 ≤ n
  ·rw [iLe_t h, iLt_f (by omega)]; rfl
  ·rw [iLe_f h]; rfl
 rw [this]
 rfl
def freeB (l : List T) : Nat := cntB (fun j => !(asB (T.cell (l.getD j T.u) 2)) && ((usedN (asL (T.cell (l.getD j T.u) 0)) : Nat) : Int) == 0) l.length
theorem c_iFree {lf d : Nat} (hlf : 33554432 ≤ lf) (l : List T) (ops : Int) (fs : List T) (dn : Bool) (sq : Int) (hs : l.length + tls l ≤ 16777216) :
 Cc lf (d + 4) 94 [.st [.sl l, .i .i64 ops, .sl fs, .b dn, .i .i64 sq]] = some [.i .i64 (freeB l : Nat)] := by
 refine (f94_eq (Cc lf (d + 3)) lf l ops fs dn sq).trans ?_
 unfold f94 f94_t
 dsimp only
 have L := cnt_loop (F := fun n x j => f94_0 (Cc lf (d + 3)) lf dn l fs ops sq n x j) (P := fun j => !(asB (T.cell (l.getD j T.u) 2)) && ((usedN (asL (T.cell (l.getD j T.u) 0)) : Nat) : Int) == 0) (Y := fun x => some [T.i .i64 0, T.i .i64 x]) (len := l.length) (by omega) (fun n x j hj hx => by
  rw [f94_0_u]
  unfold f94_0_s
  rw [iLt_t (by omega), inR_nat hj, wrap_next hj (by omega), c_iNext hlf l j hj hs, Int.toNat_natCast]
  simp only [Option.bind_some, nth0, asI_i, cond_t, cond_and, cond_not]) (fun n x => by
  rw [f94_0_u]
  unfold f94_0_s
  rw [iLt_f (by omega)]
  rfl) (n := lf) (by omega)
 rw [L]
 rfl
def openG (l : List T) (s : Int) (j : Nat) : Nat ⊕ Int :=
 bif (asB (T.cell (l.getD j T.u) 2)) then .inr s else bif iLt 0 ((usedN (asL (T.cell (l.getD j T.u) 0)) : Nat) : Int) && iLt ((usedN (asL (T.cell (l.getD j T.u) 0)) : Nat) : Int) ((asL (T.cell (l.getD j T.u) 0)).length : Int) then .inl j else bif ((usedN (asL (T.cell (l.getD j T.u) 0)) : Nat) : Int) == 0 && iLt s 0 then .inr (j : Int) else .inr s
def openB (l : List T) (spare : Int) : Int := match foldX (openG l) (-1) l.length with | .inl j => (j : Int) | .inr s => bif iLt spare (freeB l : Nat) then s else -1
theorem c_iOpen {lf d : Nat} (hlf : 33554432 ≤ lf) (l : List T) (ops : Int) (fs : List T) (dn : Bool) (sq spare : Int) (hs : l.length + tls l ≤ 16777216) :
 Cc lf (d + 5) 50 [.st [.sl l, .i .i64 ops, .sl fs, .b dn, .i .i64 sq], .i .i64 spare] = some [.i .i64 (openB l spare)] := by
 refine (f50_eq (Cc lf (d + 4)) lf l ops fs dn sq spare).trans ?_
 unfold f50 f50_t
 dsimp only
 have L := foldX_loop (F := fun n s j => f50_0 (Cc lf (d + 4)) lf dn l fs spare ops sq n s j) (g := openG l) (I := fun _ _ => True) (X := fun j => some [T.i .i64 0, T.i .i64 (j : Int)]) (Y := fun s => some [T.i .i64 1, T.i .i64 spare, T.i .i64 s, T.sl l, T.i .i64 ops, T.sl fs, T.b dn, T.i .i64 sq]) (len := l.length) (fun n s j hj hi => by
  rw [f50_0_u]
  unfold f50_0_s
  rw [iLt_t (by omega), inR_nat hj, wrap_next hj (by omega), c_iNext hlf l j hj hs, Int.toNat_natCast]
  simp only [Option.bind_some, nth0, asI_i, cond_t, openG]
  generalize asB (T.cell (l.getD j T.u) 2) = b1
  generalize iLt 0 ((usedN (asL (T.cell (l.getD j T.u) 0)) : Nat) : Int) = b2
  generalize iLt ((usedN (asL (T.cell (l.getD j T.u) 0)) : Nat) : Int) ((asL (T.cell (l.getD j T.u) 0)).length : Int) = b3
  generalize (((usedN (asL (T.cell (l.getD j T.u) 0)) : Nat) : Int) == 0) = b4
  generalize iLt s 0 = b5
  cases b1 <;> cases b2 <;> cases b3 <;> cases b4 <;> cases b5 <;> first | exact .inl ⟨_, rfl, rfl⟩ | exact .inr ⟨_, rfl, rfl, trivial⟩) (fun n s hi => by
  rw [f50_0_u]
  unfold f50_0_s
  rw [iLt_f (by omega)]
  rfl) (n := lf) (by omega) (s := -1) trivial
 unfold openB
 rcases L with ⟨j, h1, h2⟩ | ⟨s, h1, h2, _⟩
 ·rw [h1, h2]; rfl
 ·rw [h1, h2]
  simp only [Option.bind_some, nth0, nthS, asI_i, asL_l, asB_b]
  rw [show ((1 : Int) == 0) = false from rfl, cond_f, c_iFree hlf l ops fs dn sq hs]
  simp only [Option.bind_some, nth0, asI_i]
  cases iLt spare (freeB l : Nat) <;> rfl
theorem wf64_in {n : Int} (h : (Lit.int .i64 n).wf = true) : -9223372036854775808 ≤ n ∧ n ≤ 9223372036854775807 := by
 have h1 : (decide (-9223372036854775808 ≤ n) && decide (n ≤ 9223372036854775807)) = true := h
 rw [Bool.and_eq_true] at h1
 exact ⟨of_decide_eq_true h1.1, of_decide_eq_true h1.2⟩
def pgs (l : List T) (n1 : Int) : List T := asL (T.cell (l.getD n1.toNat T.u) 0)
def pgb (l : List T) (n1 n2 : Int) : List T := asL (T.cell ((pgs l n1).getD n2.toNat T.u) 1)
def pgB (l : List T) (n1 n2 : Int) : Bool := (iLe 0 n1 && iLt n1 (l.length : Int)) && ((iLe 0 n2 && iLt n2 ((pgs l n1).length : Int)) && asB (T.cell ((pgs l n1).getD n2.toNat T.u) 0))
def pgR (l : List T) (n1 n2 : Int) : List T := bif pgB l n1 n2 then pgb l n1 n2 else []
theorem pgb_len (l : List T) (n1 n2 : Int) : (pgb l n1 n2).length ≤ tls l := by
 have h1 := cellL_le (l := l) (j := n1.toNat) 0
 have h2 := cellL_le (l := pgs l n1) (j := n2.toNat) 1
 unfold pgb
 have : (pgs l n1).length + tls (pgs l n1) ≤ tls l := h1
 omega
theorem inR_le {n : Int} {k : Nat} (h0 : 0 ≤ n) (h1 : n < k) : inR n k = true := by
 obtain ⟨m, rfl⟩ := Int.eq_ofNat_of_zero_le h0
 exact inR_nat (by omega)
theorem c_iReadPage {lf d : Nat} (l : List T) (n1 n2 : Int) (hs : l.length + tls l ≤ 16777216) : Cc lf (d + 3) 144 [.st [.sl l], .i .i64 n1, .i .i64 n2] = some [.sl (pgR l n1 n2), .b (pgB l n1 n2)] := by
 refine (f144_eq (Cc lf (d + 2)) lf l n1 n2).trans ?_
 unfold f144 f144_t pgR pgB
 have hp := pgb_len l n1 n2
 have hq := cellL_le (l := l) (j := n1.toNat) 0
 unfold pgb at hp ⊢
 unfold pgs at hp ⊢
 rw [c_isBlock l n1 (by omega)]
 simp only [Option.bind_some, nth0, asB_b]
 by_cases h1 : n1 < 0
 ·rw [iLe_f (show ¬ 0 ≤ n1 by omega)]; rfl
 rw [iLe_t (show 0 ≤ n1 by omega)]
 by_cases h2 : (l.length : Int) ≤ n1
 ·rw [iLt_f (by omega)]; rfl
 rw [iLt_t (by omega), inR_le (by omega) (by omega), wrap_in (by omega) (by omega), c_from]
 simp only [cond_f, cond_t, Bool.and_self, Bool.not_true, Option.bind_some, nth0, asB_b]
 by_cases h3 : n2 < 0
 ·rw [iLe_f (show ¬ 0 ≤ n2 by omega)]; rfl
 rw [iLe_t (show 0 ≤ n2 by omega)]
 by_cases h4 : ((asL (T.cell (l.getD n1.toNat T.u) 0)).length : Int) ≤ n2
 ·rw [iLe_f (by omega), iLt_f (by omega)]; rfl
 rw [iLe_t (by omega), iLt_t (by omega), inR_le (by omega) (by omega)]
 cases asB (T.cell ((asL (T.cell (l.getD n1.toNat T.u) 0)).getD n2.toNat T.u) 0) with
 | false => rfl
 | true =>
  rw [c_clone (by omega)]
  rfl
def recA (l : List T) (a : Int) : Option (Int × Int × List T) := bif !iLt a 0 then getRecB (pgR l (a.tdiv 8) (a.tmod 8)) else none
def pgsByt (l : List T) : Prop := ∀ n1 n2, byt (pgb l n1 n2)
theorem pgR_byt {l : List T} (h : pgsByt l) (n1 n2 : Int) : byt (pgR l n1 n2) := by
 unfold pgR
 cases pgB l n1 n2
 ·exact byt_nil
 ·exact h n1 n2
theorem pgR_len (l : List T) (n1 n2 : Int) : (pgR l n1 n2).length ≤ tls l := by
 unfold pgR
 cases pgB l n1 n2
 ·exact Nat.zero_le _
 ·exact pgb_len l n1 n2
theorem pgR_no {l : List T} {n1 n2 : Int} (h : pgB l n1 n2 = false) : getRecB (pgR l n1 n2) = none := by
 unfold pgR
 rw [h]
 rfl
theorem wrap_div {a : Int} (h : (Lit.int .i64 a).wf = true) (h0 : 0 ≤ a) : IntKind.wrap .i64 (a.tdiv 8) = a.tdiv 8 := by
 have h2 : a ≤ 9223372036854775807 := (wf64_in h).2
 have : 0 ≤ a.tdiv 8 := Int.tdiv_nonneg h0 (by omega)
 have : a.tdiv 8 ≤ a := Int.tdiv_le_self _ h0
 exact wrap_in (by omega) (by omega)
theorem c_recAt {lf d : Nat} (hlf : 33554432 ≤ lf) (l : List T) (ops : Int) (fs : List T) (dn : Bool) (sq a : Int) (ha : (Lit.int .i64 a).wf = true) (hb : pgsByt l) (hs : l.length + tls l ≤ 16777216) : Cc lf (d + 5) 85 [.st [.sl l, .i .i64 ops, .sl fs, .b dn, .i .i64 sq], .i .i64 a] = some (getRecR (recA l a)) := by
 refine (f85_eq (Cc lf (d + 4)) lf l ops fs dn sq a).trans ?_
 unfold f85 f85_t recA
 by_cases h : a < 0
 ·rw [iLt_t h]; rfl
 rw [iLt_f h, wrap_div ha (by omega), c_iReadPage (d := d + 1) l _ _ hs]
 simp only [cond_f, cond_t, Bool.not_false, Option.bind_some, nth0, nthS, asL_l, asB_b]
 have hL := pgR_len l (a.tdiv 8) (a.tmod 8)
 cases h2 : pgB l (a.tdiv 8) (a.tmod 8) with
 | false => rw [pgR_no h2]; rfl
 | true =>
  rw [c_iGetRec hlf (pgR_byt hb _ _) (by omega)]
  cases getRecB (pgR l (a.tdiv 8) (a.tmod 8)) <;> rfl
def readAtR (l : List T) (a k : Int) : List T := match recA l a with
 | none => [recT none, .b false]
 | some r => bif r.1 == k then [recT (some r), .b true] else [recT none, .b false]
theorem c_iReadAt {lf d : Nat} (hlf : 33554432 ≤ lf) (l : List T) (ops : Int) (fs : List T) (dn : Bool) (sq a k : Int) (ha : (Lit.int .i64 a).wf = true) (hb : pgsByt l) (hs : l.length + tls l ≤ 16777216) : Cc lf (d + 6) 90 [.st [.sl l, .i .i64 ops, .sl fs, .b dn, .i .i64 sq], .i .i64 a, .i .i64 k] = some (readAtR l a k) := by
 refine (f90_eq (Cc lf (d + 5)) lf l ops fs dn sq a k).trans ?_
 unfold f90 f90_t readAtR
 rw [c_recAt hlf l ops fs dn sq a ha hb hs]
 cases recA l a with
 | none => rfl
 | some r =>
  show (bif (r.1 != k) then _ else _) = some (bif r.1 == k then _ else _)
  unfold bne
  cases r.1 == k <;> rfl
def pageB (ps : List T) (j : Nat) : Bool := !iLt 400 ((asL (T.cell (ps.getD j T.u) 1)).length : Int) && ((pageU ps j || !iLt 0 ((asL (T.cell (ps.getD j T.u) 1)).length : Int)) && (!iLt 0 (j : Int) || (!pageU ps j || pageU ps (j - 1))))
def blockB (ps : List T) (w : Int) : Bool := ((ps.length : Int) == 8 && (iLe 0 w && iLe w 100000)) && allB (pageB ps) ps.length
def blocksB (l : List T) (j : Nat) : Bool := blockB (asL (T.cell (l.getD j T.u) 0)) (asI (T.cell (l.getD j T.u) 1))
def chipB (l : List T) : Bool := allB (blocksB l) l.length && (iLe 3 (l.length : Int) && iLe (l.length : Int) 24)
theorem c_iChipOk {lf d : Nat} (hlf : 33554432 ≤ lf) (l : List T) (hs : l.length + tls l ≤ 16777216) : Cc lf (d + 2) 83 [.st [.sl l]] = some [.b (chipB l)] := by
 refine (f83_eq (Cc lf (d + 1)) lf l).trans ?_
 unfold f83 f83_t chipB
 dsimp only
 have In : ∀ (i : Nat), f83_1 (Cc lf (d + 1)) lf l (l.length : Int) (i : Int) l lf 0 = bif allB (pageB (asL (T.cell (l.getD i T.u) 0))) (asL (T.cell (l.getD i T.u) 0)).length then some [T.i .i64 1, T.sl l, T.i .i64 (l.length : Int), T.i .i64 (i : Int), T.sl l] else some [T.i .i64 0, T.b false] := fun i => by
  have hp := cellL_le (l := l) (j := i) 0
  obtain ⟨ps, hps⟩ : ∃ ps, ps = asL (T.cell (l.getD i T.u) 0) := ⟨_, rfl⟩
  rw [← hps] at hp ⊢
  exact all_loop (F := fun n j => f83_1 (Cc lf (d + 1)) lf l (l.length : Int) (i : Int) l n j) (P := pageB ps) (X := some [T.i .i64 0, T.b false]) (Y := some [T.i .i64 1, T.sl l, T.i .i64 (l.length : Int), T.i .i64 (i : Int), T.sl l]) (len := ps.length) (fun n j hj => by
   rw [f83_1_u]
   unfold f83_1_s pageB pageU
   rw [Int.toNat_natCast, ← hps, iLt_t (by omega), inR_nat hj, wrap_next hj (by omega)]
   simp only [cond_t, Int.toNat_natCast]
   cases h0 : iLt 0 (j : Int) with
   | true =>
    have hj0 : 0 < j := by have := iLt_iff.1 h0; omega
    rw [wrap_pred hj0 (by omega), inR_nat (by omega)]
    simp only [cond_t, Int.toNat_natCast]
    cases iLt 400 ((asL (T.cell (ps.getD j T.u) 1)).length : Int) <;> cases asB (T.cell (ps.getD j T.u) 0) <;> cases iLt 0 ((asL (T.cell (ps.getD j T.u) 1)).length : Int) <;> cases asB (T.cell (ps.getD (j - 1) T.u) 0) <;> rfl
   | false =>
    cases iLt 400 ((asL (T.cell (ps.getD j T.u) 1)).length : Int) <;> cases asB (T.cell (ps.getD j T.u) 0) <;> cases iLt 0 ((asL (T.cell (ps.getD j T.u) 1)).length : Int) <;> rfl) (fun n => by
   rw [f83_1_u]
   unfold f83_1_s
   rw [Int.toNat_natCast, ← hps, iLt_f (by omega)]
   rfl) (n := lf) (by omega)
 have L := all_loop (F := fun n j => f83_0 (Cc lf (d + 1)) lf n l (l.length : Int) j l) (P := blocksB l) (X := some [T.i .i64 0, T.b false]) (Y := some [T.i .i64 1, T.sl l]) (len := l.length) (fun n j hj => by
  rw [f83_0_u]
  unfold f83_0_s blocksB blockB
  rw [iLt_t (by omega), inR_nat hj, c_from]
  dsimp only
  rw [In]
  simp only [cond_t, Option.bind_some, nth0, asB_b, bne, Int.toNat_natCast]
  cases (((asL (T.cell (l.getD j T.u) 0)).length : Int) == 8) with
  | false => rfl
  | true =>
   cases (iLe 0 (asI (T.cell (l.getD j T.u) 1)) && iLe (asI (T.cell (l.getD j T.u) 1)) 100000) with
   | false => rfl
   | true =>
    cases allB (pageB (asL (T.cell (l.getD j T.u) 0))) (asL (T.cell (l.getD j T.u) 0)).length with
    | false => rfl
    | true =>
     simp only [cond_t, Option.bind_some, nth0, nthS, asL_l, asI_i]
     rw [wrap_next hj (by omega)]
     rfl) (fun n => by
  rw [f83_0_u]
  unfold f83_0_s
  rw [iLt_f (by omega)]
  rfl) (n := lf) (by omega)
 rw [L]
 cases allB (blocksB l) l.length with
 | false => rfl
 | true =>
  simp only [cond_t, Option.bind_some, nth0, nthS, asL_l, asI_i, c_from, asB_b]
  rfl
def faultB (l : List T) (j : Nat) : Bool :=
 (iLe 0 (asI (T.cell (l.getD j T.u) 0)) && iLe (asI (T.cell (l.getD j T.u) 0)) 100000) && ((iLe 1 (asI (T.cell (l.getD j T.u) 1)) && iLe (asI (T.cell (l.getD j T.u) 1)) 2) && ((iLe 0 (asI (T.cell (l.getD j T.u) 2)) && iLe (asI (T.cell (l.getD j T.u) 2)) 400) && (!iLt 0 (j : Int) || !iLe (asI (T.cell (l.getD j T.u) 0)) (asI (T.cell (l.getD (j - 1) T.u) 0)))))
def devB (l : List T) (ops : Int) (fs : List T) : Bool := allB (faultB fs) fs.length && (chipB l && ((iLe 0 ops && iLe ops 100000) && iLe (fs.length : Int) 20))
theorem c_iDevOk {lf d : Nat} (hlf : 33554432 ≤ lf) (l : List T) (ops : Int) (fs : List T) (dn : Bool) (hs : l.length + tls l ≤ 16777216) (hs2 : fs.length ≤ 16777216) : Cc lf (d + 3) 42 [.st [.sl l, .i .i64 ops, .sl fs, .b dn]] = some [.b (devB l ops fs)] := by
 refine (f42_eq (Cc lf (d + 2)) lf l ops fs dn).trans ?_
 unfold f42 f42_t devB
 dsimp only
 have L := all_loop (F := fun n j => f42_0 (Cc lf (d + 2)) lf dn l fs ops n j) (P := faultB fs) (X := some [T.i .i64 0, T.b false]) (Y := some [T.i .i64 1, T.sl l, T.i .i64 ops, T.sl fs, T.b dn]) (len := fs.length) (fun n j hj => by
  rw [f42_0_u]
  unfold f42_0_s
  rw [iLt_t (by omega), inR_nat hj, wrap_next hj (by omega)]
  simp only [c_from, Option.bind_some, nth0, asB_b, faultB, cond_not, cond_and, cond_or, cond_t, Int.toNat_natCast]
  cases h0 : iLt 0 (j : Int) with
  | true =>
   have hj0 : 0 < j := by have := iLt_iff.1 h0; omega
   rw [wrap_pred hj0 (by omega), inR_nat (by omega)]
   simp only [cond_t, Int.toNat_natCast]
  | false => rfl) (fun n => by
  rw [f42_0_u]
  unfold f42_0_s
  rw [iLt_f (by omega)]
  rfl) (n := lf) (by omega)
 rw [L]
 cases allB (faultB fs) fs.length with
 | false => rfl
 | true =>
  simp only [cond_t, Option.bind_some, nth0, nthS, asL_l, asI_i]
  rw [c_iChipOk hlf l hs, c_from]
  simp only [Option.bind_some, nth0, asB_b]
  generalize iLe (fs.length : Int) 20 = b2
  cases chipB l <;> cases (iLe 0 ops && iLe ops 100000) <;> cases b2 <;> rfl
theorem foldN_le {g : Int → Nat → Int} {P : Nat → Prop} {q : Int} (h : ∀ s k, g s k ≤ q ↔ s ≤ q ∧ P k) (s : Int) : ∀ n, foldN g s n ≤ q ↔ s ≤ q ∧ ∀ k, k < n → P k
 | 0 => ⟨fun h => ⟨h, fun _ h => absurd h (Nat.not_lt_zero _)⟩, fun h => h.1⟩
 | n + 1 => by
  show g (foldN g s n) n ≤ q ↔ _
  rw [h, foldN_le h s n]
  constructor
  ·rintro ⟨⟨h1, h2⟩, h3⟩
   refine ⟨h1, fun k hk => ?_⟩
   by_cases e : k = n
   ·rw [e]; exact h3
   ·exact h2 k (by omega)
  ·rintro ⟨h1, h2⟩
   exact ⟨⟨h1, fun k hk => h2 k (by omega)⟩, h2 n (by omega)⟩
theorem getRecB_seq {b : List T} {r : Int × Int × List T} (h : getRecB b = some r) : recB r.1 r.2.1 r.2.2 = true := by
 unfold getRecB at h
 split at h
 ·cases h
 ·generalize sealB b = b1 at h
  generalize recHead (b.take (b.length - 4)) (some 0) = x at h
  generalize (x.2 == some (b.length - 4)) = b2 at h
  cases b1 <;> cases b2 <;> simp only [Bool.false_and, Bool.true_and, Bool.and_false, cond_f] at h
  ·cases h
  ·cases h
  ·cases h
  ·cases e : recB x.1.1 x.1.2.1 (listOf x.1.2.2) with
   | false => rw [e] at h; cases h
   | true =>
    rw [e] at h
    cases h
    exact e
theorem recB_in {k s : Int} {b : List T} (h : recB k s b = true) : (1 ≤ k ∧ k ≤ 4) ∧ (0 ≤ s ∧ s ≤ 1000000) ∧ b.length ≤ 380 := by
 unfold recB at h
 simp only [Bool.and_eq_true, iLe_iff] at h
 exact ⟨h.1, h.2.1, by omega⟩
def seqG (ps : List T) (s : Int) (k : Nat) : Int := match getRecB (asL (T.cell (ps.getD k T.u) 1)) with | some r => (bif iLe s r.2.1 then r.2.1 + 1 else s) | none => s
theorem seqG_le {ps : List T} {q s : Int} {k : Nat} : seqG ps s k ≤ q ↔ s ≤ q ∧ ∀ r, getRecB (asL (T.cell (ps.getD k T.u) 1)) = some r → r.2.1 < q := by
 unfold seqG
 cases e : getRecB (asL (T.cell (ps.getD k T.u) 1)) with
 | none => exact ⟨fun h => ⟨h, fun r hr => by cases hr⟩, fun h => h.1⟩
 | some r =>
  simp only
  by_cases c : s ≤ r.2.1
  ·rw [iLe_t c]
   simp only [cond_t]
   exact ⟨fun h => ⟨by omega, fun r' hr => by cases hr; omega⟩, fun h => by have := h.2 r rfl; omega⟩
  ·rw [iLe_f c]
   simp only [cond_f]
   exact ⟨fun h => ⟨h, fun r' hr => by cases hr; omega⟩, fun h => h.1⟩
def mostB (ps : List T) (s : Int) : Int := foldN (seqG ps) s ps.length
theorem mostB_le {ps : List T} {q s : Int} : mostB ps s ≤ q ↔ s ≤ q ∧ ∀ k, k < ps.length → ∀ r, getRecB (asL (T.cell (ps.getD k T.u) 1)) = some r → r.2.1 < q := by
 unfold mostB
 exact foldN_le (g := seqG ps) (P := fun k => ∀ r, getRecB (asL (T.cell (ps.getD k T.u) 1)) = some r → r.2.1 < q) (fun s k => seqG_le) s _
def mostL (l : List T) : Int := foldN (fun s i => mostB (pgs l (i : Nat)) s) 0 l.length
def logB (l : List T) (ops : Int) (fs : List T) (sq : Int) : Bool := devB l ops fs && ((iLe 0 sq && iLe sq 1000000) && iLe (mostL l) sq)
def seqOk (l : List T) (sq : Int) (a : Nat) : Bool := match recA l a with | some r => iLt r.2.1 sq | none => true
theorem recA_pages {l : List T} (hc : chipB l = true) {i k : Nat} (hi : i < l.length) (hk : k < 8) : recA l ((8 * i + k : Nat) : Int) = getRecB (asL (T.cell ((pgs l i).getD k T.u) 1)) ∧ (pgs l i).length = 8 := by
 have h1 := allB_iff.1 (Bool.and_eq_true _ _ ▸ hc).1 i hi
 unfold blocksB blockB at h1
 rw [Bool.and_eq_true, Bool.and_eq_true] at h1
 have h8 : (pgs l i).length = 8 := by
  have : (((pgs l i).length : Int) == 8) = true := h1.1.1
  rw [beq_iff_eq] at this
  omega
 refine ⟨?_, h8⟩
 have hd : ((8 * i + k : Nat) : Int).tdiv 8 = (i : Int) := by
  rw [Int.tdiv_eq_ediv_of_nonneg (by omega)]; omega
 have hm : ((8 * i + k : Nat) : Int).tmod 8 = (k : Int) := by
  rw [Int.tmod_eq_emod_of_nonneg (by omega)]; omega
 unfold recA
 rw [iLt_f (by omega), hd, hm]
 simp only [Bool.not_false, cond_t]
 have hp : pageB (pgs l i) k = true := allB_iff.1 h1.2 k (by show k < (pgs l i).length; omega)
 unfold pgR pgB
 rw [iLe_t (by omega), iLt_t (by omega), iLe_t (by omega), iLt_t (by omega), Int.toNat_natCast]
 simp only [Bool.and_self, Bool.true_and]
 cases e : asB (T.cell ((pgs l i).getD k T.u) 0) with
 | true => rfl
 | false =>
  unfold pageB pageU at hp
  rw [e] at hp
  simp only [Bool.and_eq_true, Bool.false_or, Bool.not_eq_true'] at hp
  have : ¬ (0 : Int) < ((asL (T.cell ((pgs l i).getD k T.u) 1)).length : Int) := fun h => by rw [iLt_t h] at hp; exact absurd hp.2.1 (by simp)
  have : asL (T.cell ((pgs l i).getD k T.u) 1) = [] := List.eq_nil_of_length_eq_zero (by omega)
  rw [this]
  rfl
theorem seq_same {l : List T} (hc : chipB l = true) (sq : Int) (h0 : 0 ≤ sq) : allB (seqOk l sq) (8 * l.length) = iLe (mostL l) sq := by
 have A : mostL l ≤ sq ↔ ∀ i, i < l.length → ∀ k, k < (pgs l i).length → ∀ r, getRecB (asL (T.cell ((pgs l i).getD k T.u) 1)) = some r → r.2.1 < sq := by
  have := foldN_le (g := fun s i => mostB (pgs l (i : Nat)) s) (P := fun i => ∀ k, k < (pgs l i).length → ∀ r, getRecB (asL (T.cell ((pgs l i).getD k T.u) 1)) = some r → r.2.1 < sq) (q := sq) (fun s i => mostB_le) 0 l.length
  exact ⟨fun h => (this.1 h).2, fun h => this.2 ⟨h0, h⟩⟩
 have B : allB (seqOk l sq) (8 * l.length) = true ↔ ∀ i, i < l.length → ∀ k, k < (pgs l i).length → ∀ r, getRecB (asL (T.cell ((pgs l i).getD k T.u) 1)) = some r → r.2.1 < sq := by
  rw [allB_iff]
  constructor
  ·intro h i hi k hk r hr
   have h8 := (recA_pages hc hi (show 0 < 8 by omega)).2
   have h2 := (recA_pages hc hi (show k < 8 by omega)).1
   have := h (8 * i + k) (by omega)
   unfold seqOk at this
   rw [h2, hr] at this
   exact iLt_iff.1 this
  ·intro h a ha
   have h2 := recA_pages hc (i := a / 8) (k := a % 8) (by omega) (by omega)
   rw [show 8 * (a / 8) + a % 8 = a by omega] at h2
   unfold seqOk
   rw [h2.1]
   cases e : getRecB (asL (T.cell ((pgs l (a / 8 : Nat)).getD (a % 8) T.u) 1)) with
   | none => rfl
   | some r => exact iLt_t (h (a / 8) (by omega) (a % 8) (by omega) r e)
 cases e : allB (seqOk l sq) (8 * l.length) with
 | true => rw [iLe_t (A.2 (B.1 e))]
 | false =>
  rw [iLe_f]
  intro h
  have := B.2 (A.1 h)
  rw [e] at this
  cases this
theorem cell_fit {cs : List CT} {l : List T} {j k : Nat} {c : CT} (h : fitC (.sl true cs) (.sl l)) (hj : j < l.length) (hk : cs[k]? = some c) : fitC c (T.cell (l.getD j .u) k) := by
 have h1 := fitL_all.1 h.2 l[j] (List.getElem_mem hj)
 rw [List.getD_eq_getElem?_getD, List.getElem?_eq_getElem hj]
 obtain ⟨xs, hx, h2⟩ := fitE_st h1
 show fitC c (T.cell l[j] k)
 rw [hx]
 have h3 := fitCs_get.1 h2
 have hk2 : k < cs.length := by
  rcases Nat.lt_or_ge k cs.length with h | h
  ·exact h
  ·rw [List.getElem?_eq_none h] at hk; cases hk
 have hx2 : xs[k]? = some (xs[k]'(by omega)) := List.getElem?_eq_getElem _
 have := h3.2 k c _ hk hx2
 simp only [T.cell]
 rw [List.getD_eq_getElem?_getD, hx2]
 exact this
theorem pgsByt_of {cs : List CT} {l : List T} (h : fitC (.sl true (.sl true [.b, .sl false [.i .u8]] :: cs)) (.sl l)) : pgsByt l := by
 intro n1 n2
 unfold pgb pgs
 by_cases h1 : n1.toNat < l.length
 ·obtain ⟨ps, e, q⟩ := fitC_sl (cell_fit (k := 0) h h1 rfl)
  rw [e]
  by_cases h2 : n2.toNat < ps.length
  ·obtain ⟨bs, e2, q2⟩ := fitC_sl (cell_fit (k := 1) q h2 rfl)
   show byt (asL (T.cell (ps.getD n2.toNat T.u) 1))
   rw [e2]
   exact byt_of q2
  ·show byt (asL (T.cell (ps.getD n2.toNat T.u) 1))
   rw [List.getD_eq_getElem?_getD, List.getElem?_eq_none (show ps.length ≤ n2.toNat by omega)]
   exact byt_nil
 ·have e : l.getD n1.toNat T.u = T.u := by
   rw [List.getD_eq_getElem?_getD, List.getElem?_eq_none (show l.length ≤ n1.toNat by omega)]
   rfl
  rw [e]
  exact byt_nil
theorem copy_loop {F : Nat → Int → List T → Option (List T)} {l : List T} {Y : Option (List T)} (hF : ∀ n (j : Nat), j < l.length → F (n + 1) j (l.take j) = F n ((j + 1 : Nat) : Int) (l.take j ++ [l.getD j T.u])) (hE : ∀ n, F (n + 1) (l.length : Int) l = Y) {n : Nat} (hn : l.length < n) : F n 0 [] = Y := by
 have key : ∀ (k j n : Nat), j + k = l.length → k < n → F n (j : Int) (l.take j) = Y := by
  intro k
  induction k with
  | zero =>
   intro j n hj hn
   obtain ⟨n, rfl⟩ : ∃ m, n = m + 1 := ⟨n - 1, by omega⟩
   rw [List.take_of_length_le (by omega), show (j : Int) = (l.length : Int) by omega, hE]
  | succ k ih =>
   intro j n hj hn
   obtain ⟨n, rfl⟩ : ∃ m, n = m + 1 := ⟨n - 1, by omega⟩
   have hjl : j < l.length := by omega
   have := ih (j + 1) n (by omega) (by omega)
   rw [List.take_succ_eq_append_getElem hjl] at this
   rw [hF n j hjl, List.getD_eq_getElem?_getD, List.getElem?_eq_getElem hjl, Option.getD_some]
   exact this
 exact key l.length 0 n (by omega) hn
def pgT (ps : List T) : Prop := ∀ p ∈ ps, ∃ u bs, p = .st [.b u, .sl bs]
def chT (l : List T) : Prop := ∀ x ∈ l, ∃ ps w bad, x = .st [.sl ps, .i .i64 w, .b bad] ∧ pgT ps
theorem getD_mem {l : List T} {j : Nat} (h : j < l.length) : l.getD j T.u ∈ l := by
 rw [List.getD_eq_getElem?_getD, List.getElem?_eq_getElem h]
 exact List.getElem_mem h
theorem chT_at {l : List T} (h : chT l) {j : Nat} (hj : j < l.length) : l.getD j T.u = .st [.sl (asL (T.cell (l.getD j T.u) 0)), .i .i64 (asI (T.cell (l.getD j T.u) 1)), .b (asB (T.cell (l.getD j T.u) 2))] ∧ pgT (asL (T.cell (l.getD j T.u) 0)) := by
 obtain ⟨ps, w, bad, e, hp⟩ := h _ (getD_mem hj)
 rw [e]
 exact ⟨rfl, hp⟩
theorem pgT_at {ps : List T} (h : pgT ps) {j : Nat} (hj : j < ps.length) : ps.getD j T.u = .st [.b (asB (T.cell (ps.getD j T.u) 0)), .sl (asL (T.cell (ps.getD j T.u) 1))] := by
 obtain ⟨u, bs, e⟩ := h _ (getD_mem hj)
 rw [e]
 rfl
theorem c_iCopyChip {lf d : Nat} (hlf : 33554432 ≤ lf) (l : List T) (hc : chT l) (hs : l.length + tls l ≤ 16777216) : Cc lf (d + 2) 143 [.st [.sl l]] = some [.st [.sl l]] := by
 refine (f143_eq (Cc lf (d + 1)) lf l).trans ?_
 unfold f143 f143_t
 dsimp only
 have In : ∀ (i : Nat) (z acc : List T), i < l.length → f143_1 (Cc lf (d + 1)) lf l (l.length : Int) (i : Int) z acc lf 0 [] = some [T.i .i64 0, T.sl l, T.i .i64 (l.length : Int), T.i .i64 (i : Int), T.sl z, T.sl acc, T.sl (asL (T.cell (l.getD i T.u) 0)), T.i .i64 (asI (T.cell (l.getD i T.u) 1)), T.b (asB (T.cell (l.getD i T.u) 2)), T.sl (asL (T.cell (l.getD i T.u) 0))] := fun i z acc hi => by
  have h1 := cellL_le (l := l) (j := i) 0
  have hp := (chT_at hc hi).2
  obtain ⟨ps, hps⟩ : ∃ ps, ps = asL (T.cell (l.getD i T.u) 0) := ⟨_, rfl⟩
  rw [← hps] at h1 hp ⊢
  exact copy_loop (F := fun n j acc2 => f143_1 (Cc lf (d + 1)) lf l (l.length : Int) (i : Int) z acc n j acc2) (l := ps) (Y := some [T.i .i64 0, T.sl l, T.i .i64 (l.length : Int), T.i .i64 (i : Int), T.sl z, T.sl acc, T.sl ps, T.i .i64 (asI (T.cell (l.getD i T.u) 1)), T.b (asB (T.cell (l.getD i T.u) 2)), T.sl ps]) (fun n j hj => by
   have h2 := cellL_le (l := ps) (j := j) 1
   rw [f143_1_u]
   unfold f143_1_s
   rw [Int.toNat_natCast, ← hps, iLt_t (by omega), inR_nat hj, wrap_next hj (by omega), Int.toNat_natCast, c_clone (by omega)]
   simp only [cond_t, Option.bind_some, nth0, asL_l]
   rw [nLe_app (by rw [List.length_take]; omega), ← pgT_at hp hj]
   rfl) (fun n => by
   rw [f143_1_u]
   unfold f143_1_s
   rw [Int.toNat_natCast, ← hps, iLt_f (by omega)]
   rfl) (n := lf) (by omega)
 have L := copy_loop (F := fun n j acc => f143_0 (Cc lf (d + 1)) lf n l (l.length : Int) j ([] : List T) acc) (l := l) (Y := some [T.i .i64 0, T.sl ([] : List T), T.sl l]) (fun n j hj => by
  obtain ⟨e, hp⟩ := chT_at hc hj
  rw [f143_0_u]
  unfold f143_0_s
  rw [iLt_t (by omega), inR_nat hj]
  dsimp only
  rw [In j _ _ hj]
  simp only [cond_t, Option.bind_some, nth0, nthS, asL_l, asI_i, asB_b]
  rw [nLe_app (by rw [List.length_take]; omega), wrap_next hj (by omega), ← e]
  rfl) (fun n => by
  rw [f143_0_u]
  unfold f143_0_s
  rw [iLt_f (by omega)]
  rfl) (n := lf) (by omega)
 rw [L]
 rfl
def inB (l : List T) (n : Int) : Bool := iLe 0 n && iLt n (l.length : Int)
def nextC (l : List T) (n : Int) : Int := bif inB l n then ((usedN (pgs l n) : Nat) : Int) else -1
def badAt (l : List T) (n : Int) : Bool := asB (T.cell (l.getD n.toNat T.u) 2)
def mayC (l : List T) (n : Int) (full : Bool) : Int := bif !(chipB l) then 1 else bif !(inB l n) then 1 else bif badAt l n then 2 else bif full then 5 else 0
def progC (l : List T) (n : Int) (b : List T) : Int := bif iLt 400 (b.length : Int) then 1 else mayC l n (nextC l n == 8)
def setPg (l : List T) (n : Int) (k : Nat) (p : T) : List T := l.set n.toNat (T.setc (l.getD n.toNat T.u) 0 (T.sl ((pgs l n).set k p)))
def progL (l : List T) (n : Int) (b : List T) : List T := bif progC l n b == 0 then setPg l n (usedN (pgs l n)) (T.st [T.b true, T.sl b]) else l
theorem inB_in {l : List T} {n : Int} (h : inB l n = true) : 0 ≤ n ∧ n < (l.length : Int) := by
 unfold inB at h
 rw [Bool.and_eq_true, iLe_iff, iLt_iff] at h
 exact h
theorem inB_no {l : List T} {n : Int} (h : inB l n = false) : ¬ (0 ≤ n ∧ n < (l.length : Int)) := fun e => by
 unfold inB at h
 rw [iLe_t e.1, iLt_t e.2] at h
 cases h
theorem c_iNextPage {lf d : Nat} (hlf : 33554432 ≤ lf) (l : List T) (n : Int) (hs : l.length + tls l ≤ 16777216) : Cc lf (d + 3) 51 [.st [.sl l], .i .i64 n] = some [.i .i64 (nextC l n)] := by
 unfold nextC
 cases h : inB l n with
 | true =>
  have h2 := inB_in h
  obtain ⟨j, rfl⟩ := Int.eq_ofNat_of_zero_le h2.1
  exact c_iNext hlf l j (by omega) hs
 | false => exact c_iNextNo l n (inB_no h) hs
theorem chipB_pages {l : List T} (h : chipB l = true) {n : Int} (hn : inB l n = true) : (pgs l n).length = 8 := by
 have h2 := inB_in hn
 obtain ⟨j, rfl⟩ := Int.eq_ofNat_of_zero_le h2.1
 exact (recA_pages h (i := j) (k := 0) (by omega) (by omega)).2
theorem progC_zero {l : List T} {n : Int} {b : List T} (h : progC l n b = 0) : chipB l = true ∧ inB l n = true ∧ badAt l n = false ∧ usedN (pgs l n) < 8 ∧ b.length ≤ 400 ∧ (pgs l n).length = 8 := by
 unfold progC mayC at h
 by_cases h4 : (400 : Int) < b.length
 ·rw [iLt_t h4] at h; cases h
 ·rw [iLt_f h4] at h
  cases hc : chipB l with
  | false => rw [hc] at h; cases h
  | true =>
   cases hi : inB l n with
   | false => rw [hc, hi] at h; cases h
   | true =>
    cases hb : badAt l n with
    | true => rw [hc, hi, hb] at h; cases h
    | false =>
     rw [hc, hi, hb] at h
     have h8 := chipB_pages hc hi
     have hu := usedN_le (pgs l n)
     unfold nextC at h
     rw [hi] at h
     refine ⟨rfl, rfl, rfl, ?_, by omega, h8⟩
     cases he : (((usedN (pgs l n) : Nat) : Int) == 8) with
     | true => rw [cond_t, he] at h; cases h
     | false =>
      have : ((usedN (pgs l n) : Nat) : Int) ≠ 8 := by simpa using he
      omega
theorem c_iProgram {lf d : Nat} (hlf : 33554432 ≤ lf) (l : List T) (n : Int) (b : List T) (hc : chT l) (hs : l.length + tls l ≤ 16777216) (hb : b.length ≤ 16777216) : Cc lf (d + 4) 96 [.st [.sl l], .i .i64 n, .sl b] = some [.st [.sl (progL l n b)], .i .i64 (progC l n b)] := by
 refine (f96_eq (Cc lf (d + 3)) lf l n b).trans ?_
 unfold f96 f96_t progL
 rw [c_iCopyChip (d := d + 1) hlf l hc hs]
 simp only [Option.bind_some, nth0, nthS, asI_i, asL_l, cell0]
 rw [c_iChipOk (d := d + 1) hlf l hs, c_isBlock (d := d + 1) l n (by omega), c_iNextPage (d := d) hlf l n hs, c_clone (by omega)]
 simp only [Option.bind_some, nth0, nthS, asI_i, asL_l, asB_b]
 rw [show (iLe 0 n && iLt n (l.length : Int)) = inB l n from rfl]
 cases hk : chipB l with
 | false =>
  have : progC l n b = 1 := by unfold progC mayC; rw [hk]; cases iLt 400 (b.length : Int) <;> rfl
  rw [this]; rfl
 | true =>
  cases hi : inB l n with
  | false =>
   have : progC l n b = 1 := by unfold progC mayC; rw [hk, hi]; cases iLt 400 (b.length : Int) <;> rfl
   rw [this]; rfl
  | true =>
   have hin := inB_in hi
   rw [inR_le (by omega) (by omega)]
   unfold progC mayC
   rw [hk, hi]
   cases h4 : iLt 400 (b.length : Int) with
   | true => rfl
   | false =>
    rw [show badAt l n = asB (T.cell (l.getD n.toNat T.u) 2) from rfl]
    cases hb2 : asB (T.cell (l.getD n.toNat T.u) 2) with
    | true => rfl
    | false =>
     cases h8 : (nextC l n == 8) with
     | true => rfl
     | false =>
      have hz : progC l n b = 0 := by
       unfold progC mayC
       rw [h4, hk, hi, show badAt l n = asB (T.cell (l.getD n.toNat T.u) 2) from rfl, hb2, h8]
       rfl
      obtain ⟨z1, z2, z3, z4, z5, z6⟩ := progC_zero hz
      have hnx : nextC l n = ((usedN (pgs l n) : Nat) : Int) := by unfold nextC; rw [hi]; rfl
      rw [hnx, show (asL (T.cell (l.getD n.toNat T.u) 0)) = pgs l n from rfl, inR_nat (by omega), Int.toNat_natCast]
      rfl
def recX (k s : Int) (body : List T) : List T := numT (clampN k) ++ (numT (clampN s) ++ textT (bytesOf body))
def putRecT (k s : Int) (body : List T) : List T := bif recB k s body then recX k s body ++ four (crcN (recX k s body)) else []
theorem recX_byt (k s : Int) (body : List T) : byt (recX k s body) := byt_app (byt_num (clampN_in _).1 (clampN_in _).2) (byt_app (byt_num (clampN_in _).1 (clampN_in _).2) (byt_text _))
theorem recX_len (k s : Int) (body : List T) : (recX k s body).length ≤ body.length + 9 := by
 have h1 := numT_len (clampN k)
 have h2 := numT_len (clampN s)
 have h3 := textT_len (bytesOf body)
 rw [bytesOf_size] at h3
 simp only [recX, List.length_append]
 omega
theorem c_iPutRec {lf d : Nat} (hlf : 33554432 ≤ lf) (k s : Int) (body : List T) (hl : body.length ≤ 16000000) : Cc lf (d + 4) 53 [.st [.i .i64 k, .i .i64 s, .sl body]] = some [.sl (putRecT k s body)] := by
 refine (f53_eq (Cc lf (d + 3)) lf k s body).trans ?_
 unfold f53 f53_t putRecT
 rw [c_iRecOk (d := d + 1)]
 simp only [Option.bind_some, nth0, asB_b]
 cases recB k s body with
 | false => rfl
 | true =>
  have q1 := numT_len (clampN k)
  have q2 := numT_len (clampN s)
  have hx := recX_len k s body
  simp only [Bool.not_true, cond_f, cond_t]
  rw [c_iPutNum (d := d + 1) hlf _ _ (by simp)]
  simp only [Option.bind_some, nth0, asL_l, List.nil_append]
  rw [c_iPutNum (d := d + 1) hlf _ _ (by omega)]
  simp only [Option.bind_some, nth0, asL_l]
  rw [c_iPutText (d := d) hlf _ _ (by rw [List.length_append]; omega) (by rw [bytesOf_size]; omega)]
  simp only [Option.bind_some, nth0, asL_l]
  rw [show numT (clampN k) ++ numT (clampN s) ++ textT (bytesOf body) = recX k s body by unfold recX; rw [List.append_assoc], c_sealed (d := d + 1) hlf (recX_byt k s body) (by omega)]
  rfl
def faultAt (ops : Int) : List T → Option (Int × Int × Int)
 | [] => none
 | x :: l => bif asI (T.cell x 0) == ops then some (asI (T.cell x 0), asI (T.cell x 1), asI (T.cell x 2)) else faultAt ops l
def faultR : Option (Int × Int × Int) → List T
 | some (a, k, e) => [T.st [T.i .i64 a, T.i .i64 k, T.i .i64 e], T.b true]
 | none => [T.st [T.i .i64 0, T.i .i64 0, T.i .i64 0], T.b false]
theorem faultAt_drop (ops : Int) {l : List T} {j : Nat} (h : j < l.length) : faultAt ops (l.drop j) = bif asI (T.cell (l.getD j T.u) 0) == ops then some (asI (T.cell (l.getD j T.u) 0), asI (T.cell (l.getD j T.u) 1), asI (T.cell (l.getD j T.u) 2)) else faultAt ops (l.drop (j + 1)) := by
 rw [List.drop_eq_getElem_cons h, List.getD_eq_getElem?_getD, List.getElem?_eq_getElem h]
 rfl
theorem c_iFaultAt {lf d : Nat} (hlf : 33554432 ≤ lf) (l : List T) (ops : Int) (fs : List T) (dn : Bool) (hs : fs.length ≤ 16777216) : Cc lf (d + 1) 156 [.st [.sl l, .i .i64 ops, .sl fs, .b dn]] = some (faultR (faultAt ops fs)) := by
 refine (f156_eq (Cc lf d) lf l ops fs dn).trans ?_
 unfold f156 f156_t
 dsimp only
 have L : ∀ (k j n : Nat), j + k = fs.length → k < n → f156_0 (Cc lf d) lf dn l fs ops n j = match faultAt ops (fs.drop j) with | some (a, k, e) => some [T.i .i64 0, T.b true, T.i .i64 a, T.i .i64 k, T.i .i64 e] | none => some [T.i .i64 1, T.i .i64 0, T.i .i64 0, T.i .i64 0] := by
  intro k
  induction k with
  | zero =>
   intro j n hj hn
   obtain ⟨n, rfl⟩ : ∃ m, n = m + 1 := ⟨n - 1, by omega⟩
   rw [f156_0_u, List.drop_eq_nil_of_le (by omega)]
   unfold f156_0_s
   rw [iLt_f (by omega)]
   rfl
  | succ k ih =>
   intro j n hj hn
   obtain ⟨n, rfl⟩ : ∃ m, n = m + 1 := ⟨n - 1, by omega⟩
   have hjl : j < fs.length := by omega
   rw [f156_0_u, faultAt_drop ops hjl]
   unfold f156_0_s
   rw [iLt_t (by omega), inR_nat hjl, wrap_next hjl (by omega), Int.toNat_natCast]
   cases asI (T.cell (fs.getD j T.u) 0) == ops with
   | true => rfl
   | false => exact ih (j + 1) n (by omega) (by omega)
 have L0 := L fs.length 0 lf (by omega) (by omega)
 rw [show ((0 : Nat) : Int) = 0 from rfl, List.drop_zero] at L0
 rw [L0]
 cases faultAt ops fs with
 | none => rfl
 | some x => obtain ⟨a, k, e⟩ := x; rfl
def devP (l : List T) (ops : Int) (fs : List T) (dn : Bool) (n : Int) (b : List T) : (List T × Int × Bool) × Int :=
 bif !(devB l ops fs) then ((l, ops, dn), 1) else bif dn then ((l, ops, dn), 10) else bif iLe 100000 ops then ((l, ops, dn), 10) else
 bif !(progC l n b == 0) then ((l, ops, dn), progC l n b) else
 match faultAt ops fs with
 | none => ((progL l n b, ops + 1, false), 0)
 | some (_, k, e) => bif k == 1 then ((l.set n.toNat (T.setc (l.getD n.toNat T.u) 2 (T.b true)), ops + 1, false), 2) else ((progL l n (b.take (imin e (b.length : Int)).toNat), ops + 1, true), 10)
def devT (fs : List T) (x : List T × Int × Bool) : T := .st [.sl x.1, .i .i64 x.2.1, .sl fs, .b x.2.2]
theorem faultAt_ok {ops : Int} {fs : List T} (h : allB (faultB fs) fs.length = true) {a k e : Int} (hf : faultAt ops fs = some (a, k, e)) : (1 ≤ k ∧ k ≤ 2) ∧ (0 ≤ e ∧ e ≤ 400) := by
 have key : ∀ (m j : Nat), j + m = fs.length → faultAt ops (fs.drop j) = some (a, k, e) → (1 ≤ k ∧ k ≤ 2) ∧ (0 ≤ e ∧ e ≤ 400) := by
  intro m
  induction m with
  | zero =>
   intro j hj hf
   rw [List.drop_eq_nil_of_le (by omega)] at hf
   cases hf
  | succ m ih =>
   intro j hj hf
   have hjl : j < fs.length := by omega
   rw [faultAt_drop ops hjl] at hf
   cases c : asI (T.cell (fs.getD j T.u) 0) == ops with
   | false => rw [c] at hf; exact ih (j + 1) (by omega) hf
   | true =>
    rw [c] at hf
    cases hf
    have := allB_iff.1 h j hjl
    unfold faultB at this
    simp only [Bool.and_eq_true, iLe_iff] at this
    exact ⟨this.2.1, this.2.2.1⟩
 exact key fs.length 0 (by omega) (by rw [List.drop_zero]; exact hf)
theorem devB_in {l : List T} {ops : Int} {fs : List T} (h : devB l ops fs = true) : allB (faultB fs) fs.length = true ∧ chipB l = true ∧ (0 ≤ ops ∧ ops ≤ 100000) ∧ fs.length ≤ 20 := by
 unfold devB at h
 simp only [Bool.and_eq_true, iLe_iff] at h
 exact ⟨h.1, h.2.1, h.2.2.1, by omega⟩
theorem c_cloneF {lf d : Nat} {l : List T} (h : l.length ≤ 1073741830) : Cc lf (d + 1) 41 [.sl l] = some [.sl l] := by
 show (bif nLe (0 + l.length) LIM then some [T.sl l] else none) = _
 rw [nLe_t (by unfold LIM; omega)]
 rfl
theorem c_iCopyDev {lf d : Nat} (hlf : 33554432 ≤ lf) (l : List T) (ops : Int) (fs : List T) (dn : Bool) (hc : chT l) (hs : l.length + tls l ≤ 16777216) (hs2 : fs.length ≤ 16777216) : Cc lf (d + 3) 84 [.st [.sl l, .i .i64 ops, .sl fs, .b dn]] = some [.st [.sl l, .i .i64 ops, .sl fs, .b dn]] := by
 refine (f84_eq (Cc lf (d + 2)) lf l ops fs dn).trans ?_
 unfold f84 f84_t
 rw [c_iCopyChip (d := d) hlf l hc hs, c_cloneF (by omega)]
 rfl
theorem c_iDevProgram {lf d : Nat} (hlf : 33554432 ≤ lf) (l : List T) (ops : Int) (fs : List T) (dn : Bool) (n : Int) (b : List T) (hc : chT l) (hs : l.length + tls l ≤ 16777216) (hs2 : fs.length ≤ 16777216) (hb : b.length ≤ 16777216) : Cc lf (d + 5) 52 [.st [.sl l, .i .i64 ops, .sl fs, .b dn], .i .i64 n, .sl b] = some [devT fs (devP l ops fs dn n b).1, .i .i64 (devP l ops fs dn n b).2] := by
 refine (f52_eq (Cc lf (d + 4)) lf l ops fs dn n b).trans ?_
 unfold f52 f52_t devP
 rw [c_iCopyDev (d := d + 1) hlf l ops fs dn hc hs hs2]
 simp only [Option.bind_some, nth0, nthS, asI_i, asL_l, asB_b, cell0, cellS]
 rw [c_iDevOk (d := d + 1) hlf l ops fs dn hs hs2]
 simp only [Option.bind_some, nth0, asB_b]
 cases h1 : devB l ops fs with
 | false => rfl
 | true =>
 obtain ⟨k1, k2, k3, k4⟩ := devB_in h1
 cases dn with
 | true => rfl
 | false =>
 by_cases h2 : ops = 100000
 ·rw [iLe_t (by omega), show (ops == 100000) = true by simpa using h2]; rfl
 rw [iLe_f (by omega), show (ops == 100000) = false by simpa using h2]
 simp only [Bool.not_true, cond_f, bne]
 rw [c_iProgram (d := d) hlf l n b hc hs hb]
 simp only [Option.bind_some, nth0, nthS, asI_i, asL_l, cell0]
 cases h3 : progC l n b == 0 with
 | false => rfl
 | true =>
 obtain ⟨z1, z2, z3, z4, z5, z6⟩ := progC_zero (by simpa using h3)
 have hin := inB_in z2
 rw [c_iFaultAt (d := d + 3) hlf l ops fs false hs2, wrap_in (by omega) (by omega)]
 simp only [Option.bind_some, Bool.not_true, cond_f]
 cases hf : faultAt ops fs with
 | none => rfl
 | some x =>
  obtain ⟨a, k, e⟩ := x
  obtain ⟨⟨r1, r2⟩, r3, r4⟩ := faultAt_ok k1 hf
  simp only [faultR, nth0, nthS, asB_b, asI_i, cell0, cellS, Bool.not_true, cond_f]
  cases hk : k == 1 with
  | true =>
   rw [inR_le (by omega) (by omega)]
   rfl
  | false =>
   have him : 0 ≤ imin e (b.length : Int) ∧ imin e (b.length : Int) ≤ (b.length : Int) := by unfold imin; split <;> omega
   simp only [cond_f]
   rw [iLe_t him.1, iLe_t him.2, c_iProgram (d := d) hlf l n _ hc hs (by rw [List.length_take]; omega)]
   rfl
theorem openB_ok (l : List T) (spare : Int) : openB l spare = -1 ∨ ∃ j : Nat, openB l spare = (j : Int) ∧ j < l.length ∧ asB (T.cell (l.getD j T.u) 2) = false := by
 have key : ∀ n : Nat, (match foldX (openG l) (-1) n with | .inl j => (j : Int) < n ∧ asB (T.cell (l.getD j T.u) 2) = false | .inr s => s = -1 ∨ ∃ j : Nat, s = (j : Int) ∧ j < n ∧ asB (T.cell (l.getD j T.u) 2) = false) := by
  intro n
  induction n with
  | zero => exact .inl rfl
  | succ n ih =>
   simp only [foldX]
   cases e : foldX (openG l) (-1) n with
   | inl j => rw [e] at ih; simp only at ih ⊢; exact ⟨by omega, ih.2⟩
   | inr s =>
    rw [e] at ih
    simp only at ih ⊢
    have old : s = -1 ∨ ∃ j : Nat, s = (j : Int) ∧ j < n + 1 ∧ asB (T.cell (l.getD j T.u) 2) = false := by
     rcases ih with h | ⟨j, h1, h2, h3⟩
     ·exact .inl h
     ·exact .inr ⟨j, h1, by omega, h3⟩
    unfold openG
    cases hb : asB (T.cell (l.getD n T.u) 2) with
    | true => exact old
    | false =>
     generalize iLt 0 ((usedN (asL (T.cell (l.getD n T.u) 0)) : Nat) : Int) = b2
     generalize iLt ((usedN (asL (T.cell (l.getD n T.u) 0)) : Nat) : Int) ((asL (T.cell (l.getD n T.u) 0)).length : Int) = b3
     generalize (((usedN (asL (T.cell (l.getD n T.u) 0)) : Nat) : Int) == 0) = b4
     generalize iLt s 0 = b5
     cases b2 <;> cases b3 <;> cases b4 <;> cases b5 <;> first | exact old | exact ⟨by omega, hb⟩ | exact .inr ⟨n, rfl, by omega, hb⟩
 have := key l.length
 unfold openB
 cases e : foldX (openG l) (-1) l.length with
 | inl j => rw [e] at this; simp only at this ⊢; exact .inr ⟨j, rfl, by omega, this.2⟩
 | inr s =>
  rw [e] at this
  simp only at this ⊢
  cases iLt spare (freeB l : Nat) with
  | false => exact .inl rfl
  | true => exact this
def nonBad (l : List T) : Nat := cntB (fun j => !asB (T.cell (l.getD j T.u) 2)) l.length
def setBad (l : List T) (n : Int) : List T := l.set n.toNat (T.setc (l.getD n.toNat T.u) 2 (T.b true))
theorem cntB_congr {P Q : Nat → Bool} : ∀ n, (∀ j, j < n → P j = Q j) → cntB P n = cntB Q n
 | 0, _ => rfl
 | n + 1, h => by
  show (bif P n then cntB P n + 1 else cntB P n) = (bif Q n then cntB Q n + 1 else cntB Q n)
  rw [cntB_congr n (fun j hj => h j (by omega)), h n (by omega)]
theorem cntB_drop {P Q : Nat → Bool} {k : Nat} (hP : P k = true) (hQ : Q k = false) : ∀ n, k < n → (∀ j, j < n → j ≠ k → P j = Q j) → cntB P n = cntB Q n + 1
 | 0, h, _ => absurd h (Nat.not_lt_zero _)
 | n + 1, h, hj => by
  show (bif P n then cntB P n + 1 else cntB P n) = (bif Q n then cntB Q n + 1 else cntB Q n) + 1
  by_cases e : n = k
  ·subst e
   rw [hP, hQ, cntB_congr n (fun j hjn => hj j (by omega) (by omega))]
   rfl
  ·rw [cntB_drop hP hQ n (by omega) (fun j hjn hjk => hj j (by omega) hjk), hj n (by omega) e]
   cases Q n <;> rfl
theorem setBad_len (l : List T) (n : Int) : (setBad l n).length = l.length := List.length_set ..
theorem getD_setne {l : List T} {i j : Nat} (v : T) (h : i ≠ j) : (l.set i v).getD j T.u = l.getD j T.u := by
 rw [List.getD_eq_getElem?_getD, List.getD_eq_getElem?_getD, List.getElem?_set_ne h]
theorem chT_bad {l : List T} (hc : chT l) (n : Int) (hn : n.toNat < l.length) : chT (setBad l n) ∧ ∃ ps w, l.getD n.toNat T.u = .st [.sl ps, .i .i64 w, .b (asB (T.cell (l.getD n.toNat T.u) 2))] ∧ T.setc (l.getD n.toNat T.u) 2 (T.b true) = .st [.sl ps, .i .i64 w, .b true] := by
 obtain ⟨e, hp⟩ := chT_at hc hn
 have e2 : T.setc (l.getD n.toNat T.u) 2 (T.b true) = .st [.sl (asL (T.cell (l.getD n.toNat T.u) 0)), .i .i64 (asI (T.cell (l.getD n.toNat T.u) 1)), .b true] := by rw [e]; rfl
 refine ⟨fun x hx => ?_, _, _, e, e2⟩
 rcases List.mem_or_eq_of_mem_set hx with hx | hx
 ·exact hc x hx
 ·rw [hx, e2]
  exact ⟨_, _, _, rfl, hp⟩
theorem tls_set : ∀ (l : List T) (j : Nat) (v : T), j < l.length → tl v ≤ tl (l.getD j T.u) → tls (l.set j v) ≤ tls l
 | [], _, _, h, _ => absurd h (Nat.not_lt_zero _)
 | x :: l, 0, v, _, hv => by
  have hv : tl v ≤ tl x := hv
  simp only [List.set_cons_zero, tls]
  omega
 | x :: l, j + 1, v, h, hv => by
  have := tls_set l j v (by simpa using h) hv
  simp only [List.set_cons_succ, tls]
  omega
theorem setBad_tls {l : List T} (hc : chT l) (n : Int) (hn : n.toNat < l.length) : tls (setBad l n) ≤ tls l := by
 obtain ⟨_, ps, w, e1, e2⟩ := chT_bad hc n hn
 refine tls_set l _ _ hn ?_
 rw [e2, e1]
 simp only [tl, tls]
 omega
theorem nonBad_set {l : List T} (hc : chT l) (k : Nat) (hk : k < l.length) (hb : asB (T.cell (l.getD k T.u) 2) = false) : nonBad l = nonBad (setBad l (k : Int)) + 1 := by
 unfold nonBad
 rw [setBad_len]
 obtain ⟨_, ps, w, e1, e2⟩ := chT_bad hc (k : Int) (by rw [Int.toNat_natCast]; exact hk)
 rw [Int.toNat_natCast] at e2
 refine cntB_drop (by rw [hb]; rfl) ?_ _ hk fun j hj hjk => ?_
 ·unfold setBad
  rw [Int.toNat_natCast, getD_set hk, e2]
  rfl
 ·unfold setBad
  rw [Int.toNat_natCast, getD_setne _ (by omega)]
theorem progC_two {l : List T} {n : Int} {b : List T} (hb : badAt l n = false) : progC l n b ≠ 2 := by
 unfold progC mayC
 rw [hb]
 generalize iLt 400 (b.length : Int) = b1
 generalize chipB l = b2
 generalize inB l n = b3
 generalize (nextC l n == 8) = b4
 revert b1 b2 b3 b4
 decide
theorem devP_two {l : List T} {ops : Int} {fs : List T} {n : Int} {b : List T} (h : (devP l ops fs false n b).2 = 2) (hb : badAt l n = false) : (devP l ops fs false n b).1 = (setBad l n, ops + 1, false) ∧ inB l n = true ∧ devB l ops fs = true := by
 unfold devP at h ⊢
 cases h1 : devB l ops fs with
 | false => rw [h1] at h; cases h
 | true =>
  rw [h1] at h
  cases h2 : iLe 100000 ops with
  | true => rw [h2] at h; cases h
  | false =>
   rw [h2] at h
   cases h3 : progC l n b == 0 with
   | false =>
    rw [h3] at h
    exact absurd h (progC_two hb)
   | true =>
    obtain ⟨z1, z2, _⟩ := progC_zero (by simpa using h3)
    rw [h3] at h
    cases hf : faultAt ops fs with
    | none => rw [hf] at h; cases h
    | some x =>
     obtain ⟨a, k, e⟩ := x
     rw [hf] at h
     cases hk : k == 1 with
     | false =>
      simp only [Bool.not_true, cond_f, hk] at h
      cases h
     | true =>
      refine ⟨?_, z2, rfl⟩
      simp only [Bool.not_true, cond_f, cond_t, hk]
      rfl
def wrR (fs : List T) (sq spare : Int) (b : List T) : Nat → List T → Int → (List T × Int × Bool) × Int × Int × Int
 | 0, l, ops => ((l, ops, false), sq, -1, 9)
 | m + 1, l, ops =>
  bif iLt (openB l spare) 0 then ((l, ops, false), sq, -1, 9) else
  bif (devP l ops fs false (openB l spare) b).2 == 0 then ((devP l ops fs false (openB l spare) b).1, sq + 1, openB l spare * 8 + nextC l (openB l spare), 0) else
  bif (devP l ops fs false (openB l spare) b).2 == 2 then wrR fs sq spare b m (devP l ops fs false (openB l spare) b).1.1 (devP l ops fs false (openB l spare) b).1.2.1 else
  ((devP l ops fs false (openB l spare) b).1, (bif (devP l ops fs false (openB l spare) b).1.2.2 then sq + 1 else sq), -1, 10)
def wrT (fs : List T) (r : (List T × Int × Bool) × Int × Int × Int) : List T := [T.i .i64 0, T.i .i64 r.2.2.1, T.i .i64 r.2.2.2, T.i .i64 r.1.2.1, T.b r.1.2.2, T.i .i64 r.2.1, T.sl r.1.1, T.sl fs]
theorem c_iWrLoop {lf d : Nat} (hlf : 33554432 ≤ lf) (fs : List T) (k sq spare : Int) (body : List T) (c0 c1 c2 c3 : T) (hq : 0 ≤ sq ∧ sq < 1000000) (hbd : body.length ≤ 16000000) (hs2 : fs.length ≤ 16777216) : ∀ (m n : Nat) (l : List T) (ops : Int), nonBad l < m → m ≤ n → chT l → l.length + tls l ≤ 16777216 → f17_0 (Cc lf (d + 6)) lf body k spare [T.st [c0, c1, c2, c3, T.i .i64 sq]] n ops false l fs = some (wrT fs (wrR fs sq spare (putRecT k sq body) m l ops))
 | 0, _, _, _, h, _, _, _ => absurd h (Nat.not_lt_zero _)
 | m + 1, n, l, ops, hm, hn, hc, hs => by
  obtain ⟨n, rfl⟩ : ∃ z, n = z + 1 := ⟨n - 1, by omega⟩
  rw [f17_0_u]
  unfold f17_0_s wrR
  simp only [nth0, asI_i, cell0, cellS]
  rw [c_iOpen (d := d + 1) hlf l ops fs false sq spare hs]
  simp only [Option.bind_some, nth0, asI_i, cond_f]
  have ho := openB_ok l spare
  have hpl : (putRecT k sq body).length ≤ 16777216 := by
   have := recX_len k sq body
   unfold putRecT
   cases recB k sq body with
   | false => exact Nat.zero_le _
   | true => simp only [cond_t, List.length_append, four, List.length_cons, List.length_nil]; omega
  generalize openB l spare = o at *
  rcases ho with rfl | ⟨j, rfl, hj, hb⟩
  ·rfl
  ·rw [iLt_f (by omega)]
   have hnx : nextC l (j : Int) = ((usedN (pgs l (j : Int)) : Nat) : Int) := by unfold nextC inB; rw [iLe_t (by omega), iLt_t (by omega)]; rfl
   have hu := usedN_le (pgs l (j : Int))
   have hcl := cellL_le (l := l) (j := j) 0
   have hpg : (pgs l (j : Int)).length ≤ 16777216 := by unfold pgs; rw [Int.toNat_natCast]; omega
   simp only [cond_f]
   rw [c_iNextPage (d := d + 3) hlf l (j : Int) hs, c_iPutRec (d := d + 2) hlf k sq body hbd]
   simp only [Option.bind_some, nth0, asI_i, asL_l]
   rw [c_iDevProgram (d := d + 1) hlf l ops fs false (j : Int) (putRecT k sq body) hc hs hs2 hpl]
   simp only [Option.bind_some, nth0, nthS, asI_i]
   cases h0 : (devP l ops fs false (j : Int) (putRecT k sq body)).2 == 0 with
   | true =>
    rw [wrap_in (x := (j : Int) * 8) (by omega) (by omega), wrap_in (x := (j : Int) * 8 + nextC l (j : Int)) (by omega) (by omega), wrap_in (x := sq + 1) (by omega) (by omega)]
    rfl
   | false =>
    cases h2 : (devP l ops fs false (j : Int) (putRecT k sq body)).2 == 2 with
    | true =>
     obtain ⟨e, hi, _⟩ := devP_two (by simpa using h2) (show badAt l (j : Int) = false by unfold badAt; rw [Int.toNat_natCast]; exact hb)
     simp only [cond_f, cond_t]
     rw [e]
     have hnb := nonBad_set hc j hj hb
     have ht := setBad_tls hc (j : Int) (by rw [Int.toNat_natCast]; exact hj)
     exact c_iWrLoop hlf fs k sq spare body c0 c1 c2 c3 hq hbd hs2 m n (setBad l (j : Int)) (ops + 1) (by omega) (by omega) (chT_bad hc (j : Int) (by rw [Int.toNat_natCast]; exact hj)).1 (by rw [setBad_len]; omega)
    | false =>
     simp only [cond_f]
     obtain ⟨x, c⟩ := devP l ops fs false (j : Int) (putRecT k sq body)
     obtain ⟨l', ops', dn'⟩ := x
     rw [wrap_in (x := sq + 1) (by omega) (by omega)]
     cases dn' <;> rfl
theorem c_iCopyLog {lf d : Nat} (hlf : 33554432 ≤ lf) (l : List T) (ops : Int) (fs : List T) (dn : Bool) (sq : Int) (hc : chT l) (hs : l.length + tls l ≤ 16777216) (hs2 : fs.length ≤ 16777216) : Cc lf (d + 4) 48 [.st [.sl l, .i .i64 ops, .sl fs, .b dn, .i .i64 sq]] = some [.st [.sl l, .i .i64 ops, .sl fs, .b dn, .i .i64 sq]] := by
 refine (f48_eq (Cc lf (d + 3)) lf l ops fs dn sq).trans ?_
 unfold f48 f48_t
 rw [c_iCopyDev (d := d) hlf l ops fs dn hc hs hs2]
 rfl
def writeR (l : List T) (ops : Int) (fs : List T) (dn : Bool) (sq k : Int) (body : List T) (spare : Int) : (List T × Int × Bool) × Int × Int × Int :=
 bif !(devB l ops fs) then ((l, ops, dn), sq, -1, 1) else bif !(recB k sq body) then ((l, ops, dn), sq, -1, 1) else bif iLe 1000000 sq then ((l, ops, dn), sq, -1, 1) else
 bif dn then ((l, ops, dn), sq, -1, 10) else wrR fs sq spare (putRecT k sq body) (nonBad l + 1) l ops
def writeT (fs : List T) (r : (List T × Int × Bool) × Int × Int × Int) : List T := [T.st [.sl r.1.1, .i .i64 r.1.2.1, .sl fs, .b r.1.2.2, .i .i64 r.2.1], T.i .i64 r.2.2.1, T.i .i64 r.2.2.2]
theorem nonBad_le (l : List T) : nonBad l ≤ l.length := cntB_le _ _
theorem c_iWrite {lf d : Nat} (hlf : 33554432 ≤ lf) (l : List T) (ops : Int) (fs : List T) (dn : Bool) (sq k : Int) (body : List T) (spare : Int) (hc : chT l) (hs : l.length + tls l ≤ 16777216) (hs2 : fs.length ≤ 16777216) (hbd : body.length ≤ 16000000) : Cc lf (d + 7) 17 [.st [.sl l, .i .i64 ops, .sl fs, .b dn, .i .i64 sq], .i .i64 k, .sl body, .i .i64 spare] = some (writeT fs (writeR l ops fs dn sq k body spare)) := by
 refine (f17_eq (Cc lf (d + 6)) lf l ops fs dn sq k body spare).trans ?_
 unfold f17 f17_t writeR
 dsimp only
 rw [c_iCopyLog (d := d + 2) hlf l ops fs dn sq hc hs hs2]
 simp only [Option.bind_some, nth0, asI_i, asL_l, asB_b, cell0, cellS]
 rw [c_iRecOk (d := d + 4), c_iDevOk (d := d + 3) hlf l ops fs dn hs hs2]
 simp only [Option.bind_some, nth0, asB_b]
 cases hr : recB k sq body with
 | false => cases devB l ops fs <;> rfl
 | true =>
  cases hd : devB l ops fs with
  | false => rfl
  | true =>
   have hq := (recB_in hr).2.1
   by_cases h1 : sq = 1000000
   ·rw [iLe_t (by omega), show (sq == 1000000) = true by simpa using h1]; rfl
   ·rw [iLe_f (by omega), show (sq == 1000000) = false by simpa using h1]
    have hnb := nonBad_le l
    cases dn with
    | true =>
     obtain ⟨m, hm⟩ : ∃ m, lf = m + 1 := ⟨lf - 1, by omega⟩
     have : f17_0 (Cc lf (d + 6)) lf body k spare [T.st [T.sl l, T.i .i64 ops, T.sl fs, T.b true, T.i .i64 sq]] lf ops true l fs = some [T.i .i64 0, T.i .i64 (-1), T.i .i64 10, T.i .i64 ops, T.b true, T.i .i64 sq, T.sl l, T.sl fs] := by
      conv => lhs; rw [hm]
      rw [f17_0_u]
      unfold f17_0_s
      simp only [nth0, asI_i, cell0, cellS]
      rw [← hm, c_iOpen (d := d + 1) hlf l ops fs true sq spare hs]
      rfl
     simp only [Bool.not_true, cond_f, cond_t]
     rw [this]
     rfl
    | false =>
     simp only [Bool.not_true, cond_f, cond_t]
     rw [c_iWrLoop (d := d) hlf fs k sq spare body _ _ _ _ (by omega) hbd hs2 (nonBad l + 1) lf l ops (by omega) (by omega) hc hs]
     rfl
abbrev chCT : List CT := [.sl true [.b, .sl false [.i .u8]], .i .i64, .b]
theorem fitS_set {m : Bool} {cs : List CT} {l : List T} (h : fitC (.sl m cs) (.sl l)) (j : Nat) {v : T} (hv : fitE m cs v) : fitC (.sl m cs) (.sl (l.set j v)) := by
 refine ⟨by rw [List.length_set]; exact h.1, fitL_all.2 fun x hx => ?_⟩
 rcases List.mem_or_eq_of_mem_set hx with hx | rfl
 ·exact fitL_all.1 h.2 x hx
 ·exact hv
theorem ch_of {l : List T} (h : fitC (.sl true chCT) (.sl l)) : chT l := by
 intro x hx
 obtain ⟨l0, rfl, q⟩ := fitE_st (fitL_all.1 h.2 x hx)
 obtain ⟨x0, l1, rfl, q0, q⟩ := fitCs_cons q
 obtain ⟨x1, l2, rfl, q1, q⟩ := fitCs_cons q
 obtain ⟨x2, l3, rfl, q2, q⟩ := fitCs_cons q
 obtain rfl := fitCs_nil q
 obtain ⟨ps, rfl, qp⟩ := fitC_sl q0
 obtain ⟨w, rfl, _⟩ := fitC_i q1
 obtain ⟨bad, rfl⟩ := fitC_b q2
 refine ⟨ps, w, bad, rfl, fun p hp => ?_⟩
 obtain ⟨y, rfl, z⟩ := fitE_st (fitL_all.1 qp.2 p hp)
 obtain ⟨y0, y1, rfl, z0, z⟩ := fitCs_cons z
 obtain ⟨y2, y3, rfl, z2, z⟩ := fitCs_cons z
 obtain rfl := fitCs_nil z
 obtain ⟨u, rfl⟩ := fitC_b z0
 obtain ⟨bs, rfl, _⟩ := fitC_sl z2
 exact ⟨u, bs, rfl⟩
theorem fit_block {l : List T} (h : fitC (.sl true chCT) (.sl l)) {j : Nat} (hj : j < l.length) : fitC (.sl true [.b, .sl false [.i .u8]]) (.sl (asL (T.cell (l.getD j T.u) 0))) ∧ fitC (.i .i64) (.i .i64 (asI (T.cell (l.getD j T.u) 1))) := by
 obtain ⟨ps, e0, q0⟩ := fitC_sl (cell_fit (k := 0) h hj rfl)
 obtain ⟨w, e1, q1⟩ := fitC_i (cell_fit (k := 1) h hj rfl)
 rw [e0, e1]
 exact ⟨q0, rfl, q1⟩
theorem fit_setBad {l : List T} (h : fitC (.sl true chCT) (.sl l)) (n : Int) (hn : n.toNat < l.length) : fitC (.sl true chCT) (.sl (setBad l n)) := by
 obtain ⟨e, _⟩ := chT_at (ch_of h) hn
 obtain ⟨f0, f1⟩ := fit_block h hn
 refine fitS_set h _ ?_
 rw [e]
 exact ⟨f0, f1, trivial, trivial⟩
theorem fit_progL {l : List T} (h : fitC (.sl true chCT) (.sl l)) (n : Int) (b : List T) (hb : byt b) : fitC (.sl true chCT) (.sl (progL l n b)) := by
 unfold progL
 cases h0 : progC l n b == 0 with
 | false => exact h
 | true =>
  obtain ⟨z1, z2, z3, z4, z5, z6⟩ := progC_zero (by simpa using h0)
  have hin := inB_in z2
  have hn : n.toNat < l.length := by omega
  obtain ⟨e, _⟩ := chT_at (ch_of h) hn
  obtain ⟨f0, f1⟩ := fit_block h hn
  refine fitS_set h _ ?_
  rw [e]
  refine ⟨?_, f1, trivial, trivial⟩
  exact fitS_set f0 _ ⟨trivial, byt_fit hb (by unfold maxLen; omega), trivial⟩
theorem tls_setA : ∀ (l : List T) (j : Nat) (v : T) (c : Nat), j < l.length → tl v ≤ tl (l.getD j T.u) + c → tls (l.set j v) ≤ tls l + c
 | [], _, _, _, h, _ => absurd h (Nat.not_lt_zero _)
 | x :: l, 0, v, c, _, hv => by
  have hv : tl v ≤ tl x + c := hv
  simp only [List.set_cons_zero, tls]
  omega
 | x :: l, j + 1, v, c, h, hv => by
  have := tls_setA l j v c (by simpa using h) hv
  simp only [List.set_cons_succ, tls]
  omega
theorem progL_tls {l : List T} (hc : chT l) (n : Int) (b : List T) (hb : byt b) : (progL l n b).length = l.length ∧ tls (progL l n b) ≤ tls l + 400 := by
 unfold progL
 cases h0 : progC l n b == 0 with
 | false => exact ⟨rfl, by simp only [cond_f]; omega⟩
 | true =>
  obtain ⟨z1, z2, z3, z4, z5, z6⟩ := progC_zero (by simpa using h0)
  have hin := inB_in z2
  have hn : n.toNat < l.length := by omega
  obtain ⟨e, _⟩ := chT_at hc hn
  have hp := tls_setA (pgs l n) (usedN (pgs l n)) (T.st [T.b true, T.sl b]) 400 (by omega) (by have := byt_tls hb; simp only [tl, tls]; omega)
  have e2 : T.setc (l.getD n.toNat T.u) 0 (T.sl ((pgs l n).set (usedN (pgs l n)) (T.st [T.b true, T.sl b]))) = .st [T.sl ((pgs l n).set (usedN (pgs l n)) (T.st [T.b true, T.sl b])), .i .i64 (asI (T.cell (l.getD n.toNat T.u) 1)), .b (asB (T.cell (l.getD n.toNat T.u) 2))] := by
   rw [e]
   rfl
  have e3 : tl (l.getD n.toNat T.u) = (pgs l n).length + tls (pgs l n) := by
   conv => lhs; rw [e]
   show (pgs l n).length + tls (pgs l n) + (0 + (0 + 0)) = _
   omega
  refine ⟨List.length_set .., tls_setA l _ _ 400 hn ?_⟩
  rw [e2, e3]
  simp only [tl, tls, List.length_set]
  omega
def i64B (n : Int) : Prop := -9223372036854775808 ≤ n ∧ n ≤ 9223372036854775807
theorem devP_fit {l : List T} (h : fitC (.sl true chCT) (.sl l)) (ops : Int) (fs : List T) (dn : Bool) (n : Int) {b : List T} (hb : byt b) (ho : i64B ops) : fitC (.sl true chCT) (.sl (devP l ops fs dn n b).1.1) ∧ (devP l ops fs dn n b).1.1.length = l.length ∧ tls (devP l ops fs dn n b).1.1 ≤ tls l + 400 ∧ i64B (devP l ops fs dn n b).1.2.1 := by
 have same : fitC (.sl true chCT) (.sl l) ∧ l.length = l.length ∧ tls l ≤ tls l + 400 ∧ i64B ops := ⟨h, rfl, by omega, ho⟩
 unfold devP
 cases devB l ops fs with
 | false => exact same
 | true =>
  cases dn with
  | true => exact same
  | false =>
   by_cases h1 : 100000 ≤ ops
   ·rw [iLe_t h1]; exact same
   ·rw [iLe_f h1]
    have ho2 : i64B (ops + 1) := by unfold i64B at *; omega
    cases h3 : progC l n b == 0 with
    | false => exact same
    | true =>
     obtain ⟨z1, z2, _⟩ := progC_zero (by simpa using h3)
     have hin := inB_in z2
     have hn : n.toNat < l.length := by omega
     cases faultAt ops fs with
     | none => exact ⟨fit_progL h n b hb, (progL_tls (ch_of h) n b hb).1, (progL_tls (ch_of h) n b hb).2, ho2⟩
     | some x =>
      obtain ⟨a, k, e⟩ := x
      cases hk : k == 1 with
      | true =>
       simp only [Bool.not_true, cond_f, cond_t, hk]
       exact ⟨fit_setBad h n hn, setBad_len l n, Nat.le_trans (setBad_tls (ch_of h) n hn) (by omega), ho2⟩
      | false =>
       simp only [Bool.not_true, cond_f, cond_t, hk]
       exact ⟨fit_progL h n _ (byt_take hb _), (progL_tls (ch_of h) n _ (byt_take hb _)).1, (progL_tls (ch_of h) n _ (byt_take hb _)).2, ho2⟩
theorem i64B_c {n : Int} (h : -100 ≤ n ∧ n ≤ 100) : i64B n := ⟨by omega, by omega⟩
def wrG (K : Nat) (r : (List T × Int × Bool) × Int × Int × Int) : Prop := fitC (.sl true chCT) (.sl r.1.1) ∧ r.1.1.length + tls r.1.1 ≤ K + 400 ∧ i64B r.1.2.1 ∧ (0 ≤ r.2.1 ∧ r.2.1 ≤ 1000001) ∧ i64B r.2.2.1 ∧ i64B r.2.2.2
theorem wrG_no {K : Nat} {l : List T} {ops sq : Int} (h : fitC (.sl true chCT) (.sl l)) (hs : l.length + tls l ≤ K) (ho : i64B ops) (hq : 0 ≤ sq ∧ sq ≤ 1000000) (c : Int) (hc : -100 ≤ c ∧ c ≤ 100) : wrG K ((l, ops, false), sq, -1, c) := ⟨h, by show l.length + tls l ≤ _; omega, ho, ⟨hq.1, by show sq ≤ _; omega⟩, i64B_c (by show -100 ≤ (-1 : Int) ∧ (-1 : Int) ≤ 100; omega), i64B_c hc⟩
theorem wr_fit {fs : List T} {sq spare : Int} {b : List T} (hb : byt b) (hq : 0 ≤ sq ∧ sq ≤ 1000000) {K : Nat} (hK : K ≤ 16777216) : ∀ (m : Nat) (l : List T) (ops : Int), fitC (.sl true chCT) (.sl l) → l.length + tls l ≤ K → i64B ops → wrG K (wrR fs sq spare b m l ops)
 | 0, l, ops, h, hs, ho => wrG_no h hs ho hq 9 (by decide)
 | m + 1, l, ops, h, hs, ho => by
  have hc := ch_of h
  have hok := openB_ok l spare
  unfold wrR
  generalize openB l spare = o at *
  rcases hok with rfl | ⟨j, rfl, hj, hbd⟩
  ·exact wrG_no h hs ho hq 9 (by decide)
  ·rw [iLt_f (by omega)]
   simp only [cond_f]
   obtain ⟨f1, f2, f3, f4⟩ := devP_fit h ops fs false (j : Int) hb ho
   cases h0 : (devP l ops fs false (j : Int) b).2 == 0 with
   | true =>
    have hnx : nextC l (j : Int) = ((usedN (pgs l (j : Int)) : Nat) : Int) := by unfold nextC inB; rw [iLe_t (by omega), iLt_t (by omega)]; rfl
    have hu := usedN_le (pgs l (j : Int))
    have hcl := cellL_le (l := l) (j := j) 0
    have hpg : (pgs l (j : Int)).length ≤ 16777216 := by unfold pgs; rw [Int.toNat_natCast]; omega
    exact ⟨f1, by show (devP l ops fs false (j : Int) b).1.1.length + tls (devP l ops fs false (j : Int) b).1.1 ≤ K + 400; omega, f4, ⟨by show 0 ≤ sq + 1; omega, by show sq + 1 ≤ _; omega⟩, ⟨by show _ ≤ (j : Int) * 8 + nextC l (j : Int); omega, by show (j : Int) * 8 + nextC l (j : Int) ≤ _; omega⟩, i64B_c (n := 0) (by omega)⟩
   | false =>
    cases h2 : (devP l ops fs false (j : Int) b).2 == 2 with
    | true =>
     obtain ⟨e, hi, _⟩ := devP_two (by simpa using h2) (show badAt l (j : Int) = false by unfold badAt; rw [Int.toNat_natCast]; exact hbd)
     simp only [cond_f, cond_t]
     rw [e] at f1 f2 f3 f4
     rw [e]
     have ht := setBad_tls hc (j : Int) (by rw [Int.toNat_natCast]; exact hj)
     simp only at f1 f2 f3 f4
     exact wr_fit hb hq hK m (setBad l (j : Int)) (ops + 1) f1 (by rw [setBad_len]; omega) f4
    | false =>
     simp only [cond_f]
     refine ⟨f1, by show (devP l ops fs false (j : Int) b).1.1.length + tls (devP l ops fs false (j : Int) b).1.1 ≤ K + 400; omega, f4, ?_, i64B_c (n := -1) (by omega), i64B_c (n := 10) (by omega)⟩
     show 0 ≤ (bif (devP l ops fs false (j : Int) b).1.2.2 then sq + 1 else sq) ∧ (bif (devP l ops fs false (j : Int) b).1.2.2 then sq + 1 else sq) ≤ 1000001
     cases (devP l ops fs false (j : Int) b).1.2.2 with
     | true => simp only [cond_t]; omega
     | false => simp only [cond_f]; omega
theorem putRecT_byt (k s : Int) (body : List T) : byt (putRecT k s body) := by
 unfold putRecT
 cases recB k s body with
 | false => exact byt_nil
 | true => exact byt_app (recX_byt k s body) (byt_four (crcN_lt (recX_byt k s body)))
def wrF (K : Nat) (r : (List T × Int × Bool) × Int × Int × Int) : Prop := fitC (.sl true chCT) (.sl r.1.1) ∧ r.1.1.length + tls r.1.1 ≤ K + 400 ∧ i64B r.1.2.1 ∧ i64B r.2.1 ∧ i64B r.2.2.1 ∧ i64B r.2.2.2
theorem write_fit {l : List T} {ops : Int} (fs : List T) (dn : Bool) {sq : Int} (k : Int) (body : List T) (spare : Int) (h : fitC (.sl true chCT) (.sl l)) {K : Nat} (hK : K ≤ 16777216) (hs : l.length + tls l ≤ K) (ho : i64B ops) (hq : i64B sq) : wrF K (writeR l ops fs dn sq k body spare) := by
 have no : ∀ c : Int, i64B c → wrF K ((l, ops, dn), sq, -1, c) := fun c hc => ⟨h, by show l.length + tls l ≤ _; omega, ho, hq, i64B_c (n := -1) (by omega), hc⟩
 unfold writeR
 cases devB l ops fs with
 | false => exact no 1 (i64B_c (by omega))
 | true =>
  cases hr : recB k sq body with
  | false => exact no 1 (i64B_c (by omega))
  | true =>
   by_cases h1 : 1000000 ≤ sq
   ·rw [iLe_t h1]; exact no 1 (i64B_c (by omega))
   ·rw [iLe_f h1]
    cases dn with
    | true => exact no 10 (i64B_c (by omega))
    | false =>
     have hq2 := (recB_in hr).2.1
     obtain ⟨g1, g2, g3, g4, g5, g6⟩ := wr_fit (fs := fs) (spare := spare) (putRecT_byt k sq body) (by omega) hK (nonBad l + 1) l ops h hs ho
     exact ⟨g1, g2, g3, ⟨by have := g4.1; simp only [Bool.not_true, cond_f]; omega, by have := g4.2; simp only [Bool.not_true, cond_f]; omega⟩, g5, g6⟩
theorem numT_inj {a b : Int} {r r' : List T} (h : numT a ++ r = numT b ++ r') (ha : 0 ≤ a ∧ a ≤ 1000000) (hb : 0 ≤ b ∧ b ≤ 1000000) : a = b ∧ r = r' := by
 have h1 := getNum_put (b := numT a ++ r) (p := 0) (n := a) (rest := r) (List.drop_zero ..) ha.1 ha.2
 have h2 := getNum_put (b := numT a ++ r) (p := 0) (n := b) (rest := r') (by rw [List.drop_zero]; exact h) hb.1 hb.2
 rw [h1, Option.some.injEq, Prod.mk.injEq] at h2
 obtain ⟨rfl, _⟩ := h2
 exact ⟨rfl, List.append_cancel_left h⟩
theorem textT_inj {s t : ByteArray} {r r' : List T} (h : textT s ++ r = textT t ++ r') (hs : s.size ≤ 1000000) (ht : t.size ≤ 1000000) : s = t ∧ r = r' := by
 unfold textT at h
 rw [clampN_id (by omega) (by omega), clampN_id (by omega) (by omega), List.append_assoc, List.append_assoc] at h
 obtain ⟨e, h⟩ := numT_inj h (by omega) (by omega)
 have h2 := List.append_inj h (by rw [listOf_len, listOf_len]; omega)
 refine ⟨?_, h2.2⟩
 rw [← bytesOf_listOf s, ← bytesOf_listOf t, h2.1]
theorem getRecB_parts {b : List T} (hb : byt b) {r : Int × Int × List T} (h : getRecB b = some r) : ∃ t : ByteArray, 4 ≤ b.length ∧ b.take (b.length - 4) = numT r.1 ++ (numT r.2.1 ++ textT t) ∧ r.2.2 = listOf t ∧ recB r.1 r.2.1 r.2.2 = true := by
 have hrec := getRecB_seq h
 unfold getRecB at h
 split at h
 ·cases h
 ·rename_i h4
  have hbx := byt_take hb (b.length - 4)
  have hlx : (b.take (b.length - 4)).length = b.length - 4 := by rw [List.length_take]; omega
  generalize hx : b.take (b.length - 4) = x at *
  cases e : (sealB b && ((recHead x (some 0)).2 == some (b.length - 4) && recB (recHead x (some 0)).1.1 (recHead x (some 0)).1.2.1 (listOf (recHead x (some 0)).1.2.2))) with
  | false => rw [e] at h; cases h
  | true =>
   rw [e] at h
   cases h
   simp only [Bool.and_eq_true, beq_iff_eq] at e
   have e1 := e.2.1
   unfold recHead at e1
   simp only at e1
   have n3 : (rdS x (rd x (rd x (some 0)).2).2).2 ≠ none := by rw [e1]; intro h; cases h
   have n2 := rdS_back n3
   have n1 := rd_back n2
   obtain ⟨r1, q1, A1⟩ := rd_of hbx (at_zero x) n1
   obtain ⟨r2, q2, A2⟩ := rd_of hbx A1 n2
   obtain ⟨r3, q3, A3⟩ := rdS_of hbx A2 n3
   have q4 := (at_end A3).1 (by rw [e1, hlx]; exact beq_self_eq_true _)
   rw [q4, List.append_nil] at q3
   refine ⟨(rdS x (rd x (rd x (some 0)).2).2).1, by omega, ?_, rfl, hrec⟩
   show x = numT (rd x (some 0)).1 ++ (numT (rd x (rd x (some 0)).2).1 ++ textT (rdS x (rd x (rd x (some 0)).2).2).1)
   rw [← q3, ← q2, ← q1]
theorem be4_four {x : List T} {c : Nat} (h : c < 4294967296) : be4 (x ++ four c) x.length = (c : Int) := by
 have g : ∀ k, (x ++ four c).getD (x.length + k) .u = (four c).getD k .u := fun k => by
  rw [List.getD_eq_getElem?_getD, List.getD_eq_getElem?_getD, List.getElem?_append_right (by omega), show x.length + k - x.length = k by omega]
 have g0 := g 0
 rw [Nat.add_zero] at g0
 unfold be4
 rw [g0, g 1, g 2, g 3]
 show ((((c / 16777216 : Nat) : Int) * 256 + ((c / 65536 % 256 : Nat) : Int)) * 256 + ((c / 256 % 256 : Nat) : Int)) * 256 + ((c % 256 : Nat) : Int) = (c : Int)
 omega
theorem rec_round {k s : Int} {body : List T} (h : recB k s body = true) (hb : byt body) : getRecB (putRecT k s body) = some (k, s, body) := by
 obtain ⟨h1, h2, h3⟩ := recB_in h
 unfold putRecT
 rw [h, cond_t]
 have hx := recX_byt k s body
 have hc := crcN_lt hx
 have hX : recX k s body = numT k ++ (numT s ++ textT (bytesOf body)) := by unfold recX; rw [clampN_id (by omega) (by omega), clampN_id (by omega) (by omega)]
 have hl : (recX k s body ++ four (crcN (recX k s body))).length - 4 = (recX k s body).length := by rw [List.length_append]; show (recX k s body).length + 4 - 4 = _; omega
 have hh : recHead (recX k s body) (some 0) = ((k, s, bytesOf body), some (recX k s body).length) := by
  have A0 := at_zero (recX k s body)
  have e1 : At (recX k s body) (some 0) (numT k ++ (numT s ++ (textT (bytesOf body) ++ []))) := by rw [List.append_nil, ← hX]; exact A0
  obtain ⟨f1, A1⟩ := rd_put e1 (by omega) (by omega)
  obtain ⟨f2, A2⟩ := rd_put A1 (by omega) (by omega)
  obtain ⟨f3, A3⟩ := rdS_put A2 (by rw [bytesOf_size]; omega)
  unfold recHead
  rw [f1, f2, f3, beq_iff_eq.1 ((at_end A3).2 rfl)]
 unfold getRecB
 rw [if_neg (by rw [List.length_append]; show ¬ (recX k s body).length + 4 < 4; omega), hl, List.take_left, hh]
 have hs : sealB (recX k s body ++ four (crcN (recX k s body))) = true := by
  unfold sealB
  rw [hl, List.take_left, be4_four hc]
  exact beq_self_eq_true _
 rw [hs, beq_self_eq_true, listOf_bytesOf hb, h]
 rfl
theorem rec_torn {k s : Int} {body : List T} (h : recB k s body = true) {n : Nat} (hn : n < (putRecT k s body).length) : getRecB ((putRecT k s body).take n) = none := by
 have hby := putRecT_byt k s body
 cases e : getRecB ((putRecT k s body).take n) with
 | none => rfl
 | some r =>
  obtain ⟨t, h4, hp, ht, hr⟩ := getRecB_parts (byt_take hby n) e
  obtain ⟨h1, h2, h3⟩ := recB_in h
  obtain ⟨g1, g2, g3⟩ := recB_in hr
  rw [ht, listOf_len] at g3
  exfalso
  have hP : putRecT k s body = numT k ++ (numT s ++ (textT (bytesOf body) ++ four (crcN (recX k s body)))) := by
   have hX : recX k s body = numT k ++ (numT s ++ textT (bytesOf body)) := by unfold recX; rw [clampN_id (by omega) (by omega), clampN_id (by omega) (by omega)]
   unfold putRecT
   rw [h, cond_t]
   generalize four (crcN (recX k s body)) = c
   rw [hX, List.append_assoc, List.append_assoc]
  have hlt : ((putRecT k s body).take n).length = n := by rw [List.length_take]; omega
  rw [hlt, List.take_take, Nat.min_eq_left (by omega)] at hp
  have hs := (List.take_append_drop (n - 4) (putRecT k s body)).symm
  have hl := congrArg List.length hp
  rw [List.length_take] at hl
  rw [hp, hP] at hs
  rw [List.append_assoc, List.append_assoc] at hs
  obtain ⟨e1, hs⟩ := numT_inj hs (by omega) (by omega)
  obtain ⟨e2, hs⟩ := numT_inj hs (by omega) (by omega)
  obtain ⟨e3, hs⟩ := textT_inj hs (by rw [bytesOf_size]; omega) (by omega)
  have hd := congrArg List.length hs
  rw [List.length_drop] at hd
  have hf : (four (crcN (recX k s body))).length = 4 := rfl
  have hPl := congrArg List.length hP
  simp only [List.length_append] at hl hPl
  rw [← e1, ← e2, ← e3] at hl
  omega
theorem rec_take {k s : Int} {body : List T} (h : recB k s body = true) (hb : byt body) (n : Nat) : getRecB ((putRecT k s body).take n) = if (putRecT k s body).length ≤ n then some (k, s, body) else none := by
 by_cases c : (putRecT k s body).length ≤ n
 ·rw [if_pos c, List.take_of_length_le c, rec_round h hb]
 ·rw [if_neg c, rec_torn h (by omega)]
theorem iLtF_iff {x y : Int} : iLt x y = false ↔ ¬ x < y := decide_eq_false_iff_not
abbrev pgBy (ps : List T) (k : Nat) : List T := asL (T.cell (ps.getD k T.u) 1)
theorem blockB_in {ps : List T} {w : Int} (h : blockB ps w = true) : ps.length = 8 ∧ (0 ≤ w ∧ w ≤ 100000) ∧ ∀ k, k < 8 → (pgBy ps k).length ≤ 400 ∧ (pageU ps k = true ∨ pgBy ps k = []) ∧ (0 < k → pageU ps k = true → pageU ps (k - 1) = true) := by
 unfold blockB at h
 simp only [Bool.and_eq_true, beq_iff_eq, iLe_iff, allB_iff] at h
 have h8 : ps.length = 8 := by omega
 refine ⟨h8, h.1.2, fun k hk => ?_⟩
 have h1 := h.2 k (by omega)
 have hy : (pgBy ps k).length = (asL (T.cell (ps.getD k T.u) 1)).length := rfl
 unfold pageB at h1
 simp only [Bool.and_eq_true, Bool.or_eq_true, Bool.not_eq_true', iLtF_iff] at h1
 refine ⟨by omega, ?_, fun h0 hu => ?_⟩
 ·rcases h1.2.1 with h2 | h2
  ·exact .inl h2
  ·exact .inr (List.eq_nil_of_length_eq_zero (by omega))
 ·rcases h1.2.2 with h2 | h2 | h2
  ·omega
  ·rw [hu] at h2; cases h2
  ·exact h2
theorem blockB_of {ps : List T} {w : Int} (h8 : ps.length = 8) (hw : 0 ≤ w ∧ w ≤ 100000) (h : ∀ k, k < 8 → (pgBy ps k).length ≤ 400 ∧ (pageU ps k = true ∨ pgBy ps k = []) ∧ (0 < k → pageU ps k = true → pageU ps (k - 1) = true)) : blockB ps w = true := by
 unfold blockB
 simp only [Bool.and_eq_true, beq_iff_eq, iLe_iff, allB_iff]
 refine ⟨⟨by omega, hw⟩, fun k hk => ?_⟩
 obtain ⟨h1, h2, h3⟩ := h k (by omega)
 have hy : (pgBy ps k).length = (asL (T.cell (ps.getD k T.u) 1)).length := rfl
 unfold pageB
 simp only [Bool.and_eq_true, Bool.or_eq_true, Bool.not_eq_true', iLtF_iff]
 refine ⟨by omega, ?_, ?_⟩
 ·rcases h2 with h2 | h2
  ·exact .inl h2
  ·exact .inr (by have := congrArg List.length h2; simp only [List.length_nil] at this; omega)
 ·by_cases h0 : 0 < k
  ·cases hu : pageU ps k with
   | false => exact .inr (.inl rfl)
   | true => exact .inr (.inr (h3 h0 hu))
  ·exact .inl (by omega)
theorem cntB_down {P : Nat → Bool} : ∀ n, (∀ j, 0 < j → j < n → P j = true → P (j - 1) = true) → ∀ j, j < n → (P j = true ↔ j < cntB P n)
 | 0, _, _, hj => absurd hj (Nat.not_lt_zero _)
 | n + 1, h, j, hj => by
  have ih := cntB_down n (fun j h0 hj => h j h0 (by omega))
  have hle := cntB_le P n
  have e : cntB P (n + 1) = (bif P n then cntB P n + 1 else cntB P n) := rfl
  rw [e]
  cases hp : P n with
  | true =>
   have full : cntB P n = n := by
    rcases Nat.eq_zero_or_pos n with h0 | h0
    ·omega
    ·have := (ih (n - 1) (by omega)).1 (h n h0 (by omega) hp)
     omega
   simp only [cond_t]
   constructor
   ·intro _; omega
   ·intro _
    by_cases hj2 : j = n
    ·rw [hj2]; exact hp
    ·exact (ih j (by omega)).2 (by omega)
  | false =>
   simp only [cond_f]
   by_cases hj2 : j = n
   ·rw [hj2, hp]
    exact ⟨fun h => (by cases h), fun h => by omega⟩
   ·exact ih j (by omega)
theorem pages_used {ps : List T} {w : Int} (h : blockB ps w = true) {k : Nat} (hk : k < 8) : pageU ps k = true ↔ k < usedN ps := by
 obtain ⟨h8, _, h3⟩ := blockB_in h
 have := cntB_down (P := pageU ps) 8 (fun j h0 hj => (h3 j hj).2.2 h0) k hk
 unfold usedN
 rw [h8]
 exact this
theorem chipB_in {l : List T} (h : chipB l = true) : (3 ≤ l.length ∧ l.length ≤ 24) ∧ ∀ i : Nat, i < l.length → blockB (pgs l i) (asI (T.cell (l.getD i T.u) 1)) = true := by
 unfold chipB at h
 simp only [Bool.and_eq_true, iLe_iff, allB_iff] at h
 exact ⟨by omega, fun i hi => h.1 i hi⟩
theorem chipB_of {l : List T} (hl : 3 ≤ l.length ∧ l.length ≤ 24) (h : ∀ i : Nat, i < l.length → blockB (pgs l i) (asI (T.cell (l.getD i T.u) 1)) = true) : chipB l = true := by
 unfold chipB
 simp only [Bool.and_eq_true, iLe_iff, allB_iff]
 exact ⟨fun i hi => h i hi, by omega⟩
theorem setPg_at {l : List T} (hc : chT l) {j : Nat} (hj : j < l.length) (u : Nat) (p : T) : (setPg l (j : Int) u p).getD j T.u = .st [.sl ((pgs l (j : Int)).set u p), .i .i64 (asI (T.cell (l.getD j T.u) 1)), .b (asB (T.cell (l.getD j T.u) 2))] := by
 obtain ⟨e, _⟩ := chT_at hc hj
 unfold setPg
 rw [Int.toNat_natCast, getD_set hj]
 conv => lhs; rw [e]
 rfl
theorem setPg_ne {l : List T} {i j : Nat} (h : i ≠ j) (u : Nat) (p : T) : (setPg l (j : Int) u p).getD i T.u = l.getD i T.u := by
 unfold setPg
 rw [Int.toNat_natCast]
 exact getD_setne _ (by omega)
theorem setPg_len (l : List T) (n : Int) (u : Nat) (p : T) : (setPg l n u p).length = l.length := List.length_set ..
theorem setPg_pgs {l : List T} (hc : chT l) {j : Nat} (hj : j < l.length) (u : Nat) (p : T) : pgs (setPg l (j : Int) u p) (j : Int) = (pgs l (j : Int)).set u p := by
 show asL (T.cell ((setPg l (j : Int) u p).getD j T.u) 0) = _
 rw [setPg_at hc hj]
 rfl
theorem setPg_pgsne {l : List T} {i j : Nat} (h : i ≠ j) (u : Nat) (p : T) : pgs (setPg l (j : Int) u p) (i : Int) = pgs l (i : Int) := by
 show asL (T.cell ((setPg l (j : Int) u p).getD i T.u) 0) = _
 rw [setPg_ne h]
 rfl
theorem prog_block {ps : List T} {w : Int} (h : blockB ps w = true) {b : List T} (hb : b.length ≤ 400) (hu : usedN ps < 8) : blockB (ps.set (usedN ps) (T.st [T.b true, T.sl b])) w = true ∧ usedN (ps.set (usedN ps) (T.st [T.b true, T.sl b])) = usedN ps + 1 ∧ pgBy ps (usedN ps) = [] ∧ (∀ k, pgBy (ps.set (usedN ps) (T.st [T.b true, T.sl b])) k = if k = usedN ps then b else pgBy ps k) := by
 obtain ⟨h8, h2, h3⟩ := blockB_in h
 have hU : ∀ k, k < 8 → (pageU ps k = true ↔ k < usedN ps) := fun k hk => pages_used h hk
 generalize usedN ps = u at *
 have G : ∀ k, (ps.set u (T.st [T.b true, T.sl b])).getD k T.u = if k = u then T.st [T.b true, T.sl b] else ps.getD k T.u := fun k => by
  by_cases e : k = u
  ·rw [if_pos e, e, getD_set (by omega)]
  ·rw [if_neg e]; exact getD_setne _ (by omega)
 have P : ∀ k, k < 8 → (pageU (ps.set u (T.st [T.b true, T.sl b])) k = true ↔ k < u + 1) := fun k hk => by
  unfold pageU
  rw [G]
  by_cases e : k = u
  ·rw [if_pos e]; exact ⟨fun _ => by omega, fun _ => rfl⟩
  ·rw [if_neg e]
   exact (hU k hk).trans ⟨fun h => by omega, fun h => by omega⟩
 have Y : ∀ k, pgBy (ps.set u (T.st [T.b true, T.sl b])) k = if k = u then b else pgBy ps k := fun k => by
  unfold pgBy
  rw [G]
  by_cases e : k = u
  ·rw [if_pos e, if_pos e]; rfl
  ·rw [if_neg e, if_neg e]
 have B : blockB (ps.set u (T.st [T.b true, T.sl b])) w = true := blockB_of (by rw [List.length_set]; exact h8) h2 fun k hk => by
  obtain ⟨q1, q2, q3⟩ := h3 k hk
  rw [Y]
  refine ⟨?_, ?_, fun h0 hp => ?_⟩
  ·by_cases e : k = u
   ·rw [if_pos e]; exact hb
   ·rw [if_neg e]; exact q1
  ·by_cases e : k = u
   ·exact .inl ((P k hk).2 (by omega))
   ·rw [if_neg e]
    rcases q2 with q2 | q2
    ·exact .inl ((P k hk).2 (by have := (hU k hk).1 q2; omega))
    ·exact .inr q2
  ·have := (P k hk).1 hp
   exact (P (k - 1) (by omega)).2 (by omega)
 refine ⟨B, ?_, ?_, Y⟩
 ·have a1 := (pages_used B hu).1 ((P u hu).2 (by omega))
  by_cases h7 : u + 1 < 8
  ·have a2 : ¬ u + 1 < usedN (ps.set u (T.st [T.b true, T.sl b])) := fun h => by have := (P (u + 1) h7).1 ((pages_used B h7).2 h); omega
   omega
  ·have := usedN_le (ps.set u (T.st [T.b true, T.sl b]))
   rw [List.length_set] at this
   omega
 ·rcases (h3 u hu).2.1 with h | h
  ·have := (hU u hu).1 h; omega
  ·exact h
theorem prog_chip {l : List T} (hc : chT l) (hb : chipB l = true) {j : Nat} (hj : j < l.length) {b : List T} (hl : b.length ≤ 400) (hu : usedN (pgs l (j : Int)) < 8) : chipB (setPg l (j : Int) (usedN (pgs l (j : Int))) (T.st [T.b true, T.sl b])) = true := by
 obtain ⟨h1, h2⟩ := chipB_in hb
 refine chipB_of (by rw [setPg_len]; exact h1) fun i hi => ?_
 rw [setPg_len] at hi
 by_cases e : i = j
 ·subst e
  rw [setPg_pgs hc hi, setPg_at hc hi]
  exact (prog_block (h2 i hi) hl hu).1
 ·rw [setPg_pgsne e, setPg_ne e]
  exact h2 i hi
theorem recA_nat {l : List T} {n : Nat} (hn : ¬ n / 8 < l.length) : recA l (n : Int) = none := by
 unfold recA
 rw [iLt_f (by omega)]
 simp only [Bool.not_false, cond_t]
 refine pgR_no ?_
 unfold pgB
 rw [iLt_f (show ¬ (n : Int).tdiv 8 < (l.length : Int) by rw [Int.tdiv_eq_ediv_of_nonneg (by omega)]; omega), Bool.and_false, Bool.false_and]
theorem recA_at {l : List T} (hb : chipB l = true) {n : Nat} (hn : n / 8 < l.length) : recA l (n : Int) = getRecB (pgBy (pgs l ((n / 8 : Nat) : Int)) (n % 8)) := by
 have := (recA_pages hb hn (show n % 8 < 8 by omega)).1
 rw [show 8 * (n / 8) + n % 8 = n by omega] at this
 exact this
theorem recA_neg {l : List T} {a : Int} (h : a < 0) : recA l a = none := by
 unfold recA
 rw [iLt_t h]
 rfl
theorem recA_congr {l l' : List T} (hl : l'.length = l.length) (hp : ∀ n, pgs l' n = pgs l n) (a : Int) : recA l' a = recA l a := by
 unfold recA pgR pgB pgb
 simp only [hl, hp]
theorem prog_rec {l : List T} (hc : chT l) (hb : chipB l = true) {j : Nat} (hj : j < l.length) {b : List T} (hl : b.length ≤ 400) (hu : usedN (pgs l (j : Int)) < 8) (a : Int) : recA (setPg l (j : Int) (usedN (pgs l (j : Int))) (T.st [T.b true, T.sl b])) a = if a = ((8 * j + usedN (pgs l (j : Int)) : Nat) : Int) then getRecB b else recA l a := by
 have hb' := prog_chip hc hb hj hl hu
 have Y := (prog_block ((chipB_in hb).2 j hj) hl hu).2.2.2
 by_cases h0 : a < 0
 ·rw [recA_neg h0, recA_neg h0, if_neg (by omega)]
 ·obtain ⟨n, rfl⟩ := Int.eq_ofNat_of_zero_le (show 0 ≤ a by omega)
  by_cases hn : n / 8 < l.length
  ·rw [recA_at hb' (by rw [setPg_len]; exact hn), recA_at hb hn]
   by_cases e : n / 8 = j
   ·rw [e, setPg_pgs hc hj, Y]
    by_cases e2 : n % 8 = usedN (pgs l (j : Int))
    ·rw [if_pos e2, if_pos (by omega)]
    ·rw [if_neg e2, if_neg (by omega)]
   ·rw [setPg_pgsne e, if_neg (by omega)]
  ·rw [recA_nat (by rw [setPg_len]; exact hn), recA_nat hn, if_neg (by omega)]
theorem prog_free {l : List T} (hb : chipB l = true) {j : Nat} (hj : j < l.length) (hu : usedN (pgs l (j : Int)) < 8) : recA l ((8 * j + usedN (pgs l (j : Int)) : Nat) : Int) = none := by
 have Y := (prog_block ((chipB_in hb).2 j hj) (b := []) (Nat.zero_le _) hu).2.2.1
 rw [(recA_pages hb hj hu).1]
 show getRecB (pgBy (pgs l (j : Int)) (usedN (pgs l (j : Int)))) = none
 rw [Y]
 rfl
theorem setBad_cells {l : List T} (hc : chT l) (j : Nat) (hj : j < l.length) (i : Nat) : T.cell ((setBad l (j : Int)).getD i T.u) 0 = T.cell (l.getD i T.u) 0 ∧ T.cell ((setBad l (j : Int)).getD i T.u) 1 = T.cell (l.getD i T.u) 1 := by
 by_cases e : i = j
 ·subst e
  obtain ⟨_, ps, w, e1, e2⟩ := chT_bad hc (i : Int) (by rw [Int.toNat_natCast]; exact hj)
  rw [Int.toNat_natCast] at e1 e2
  unfold setBad
  rw [Int.toNat_natCast, getD_set hj, e2, e1]
  exact ⟨rfl, rfl⟩
 ·unfold setBad
  rw [Int.toNat_natCast, getD_setne _ (by omega)]
  exact ⟨rfl, rfl⟩
theorem setBad_pgs {l : List T} (hc : chT l) (j : Nat) (hj : j < l.length) (n : Int) : pgs (setBad l (j : Int)) n = pgs l n := by
 unfold pgs
 rw [(setBad_cells hc j hj n.toNat).1]
theorem setBad_chip {l : List T} (hc : chT l) (hb : chipB l = true) (j : Nat) (hj : j < l.length) : chipB (setBad l (j : Int)) = true := by
 obtain ⟨h1, h2⟩ := chipB_in hb
 refine chipB_of (by rw [setBad_len]; exact h1) fun i hi => ?_
 rw [setBad_len] at hi
 rw [setBad_pgs hc j hj, (setBad_cells hc j hj i).2]
 exact h2 i hi
theorem setBad_rec {l : List T} (hc : chT l) (j : Nat) (hj : j < l.length) (a : Int) : recA (setBad l (j : Int)) a = recA l a := recA_congr (setBad_len l _) (setBad_pgs hc j hj) a
theorem openB_spec (l : List T) (spare : Int) : (openB l spare = -1 ∧ ((freeB l : Int) ≤ spare ∨ freeB l = 0)) ∨ ∃ j : Nat, openB l spare = (j : Int) ∧ j < l.length ∧ asB (T.cell (l.getD j T.u) 2) = false ∧ ((0 < usedN (pgs l (j : Int)) ∧ usedN (pgs l (j : Int)) < (pgs l (j : Int)).length) ∨ (usedN (pgs l (j : Int)) = 0 ∧ spare < (freeB l : Int))) := by
 have key : ∀ n : Nat, (match foldX (openG l) (-1) n with | .inl j => j < n ∧ asB (T.cell (l.getD j T.u) 2) = false ∧ (0 < usedN (pgs l (j : Int)) ∧ usedN (pgs l (j : Int)) < (pgs l (j : Int)).length) | .inr s => (s = -1 ∧ cntB (fun j => !(asB (T.cell (l.getD j T.u) 2)) && ((usedN (asL (T.cell (l.getD j T.u) 0)) : Nat) : Int) == 0) n = 0) ∨ ∃ j : Nat, s = (j : Int) ∧ j < n ∧ asB (T.cell (l.getD j T.u) 2) = false ∧ usedN (pgs l (j : Int)) = 0) := by
  intro n
  induction n with
  | zero => exact .inl ⟨rfl, rfl⟩
  | succ n ih =>
   simp only [foldX]
   cases e : foldX (openG l) (-1) n with
   | inl j => rw [e] at ih; simp only at ih ⊢; exact ⟨by omega, ih.2⟩
   | inr s =>
    rw [e] at ih
    simp only at ih ⊢
    have hcnt : cntB (fun j => !(asB (T.cell (l.getD j T.u) 2)) && ((usedN (asL (T.cell (l.getD j T.u) 0)) : Nat) : Int) == 0) (n + 1) = (bif (!(asB (T.cell (l.getD n T.u) 2)) && ((usedN (asL (T.cell (l.getD n T.u) 0)) : Nat) : Int) == 0) then cntB (fun j => !(asB (T.cell (l.getD j T.u) 2)) && ((usedN (asL (T.cell (l.getD j T.u) 0)) : Nat) : Int) == 0) n + 1 else cntB (fun j => !(asB (T.cell (l.getD j T.u) 2)) && ((usedN (asL (T.cell (l.getD j T.u) 0)) : Nat) : Int) == 0) n) := rfl
    rw [hcnt]
    have hpg : pgs l (n : Int) = asL (T.cell (l.getD n T.u) 0) := rfl
    unfold openG
    rw [← hpg]
    generalize hu : usedN (pgs l (n : Int)) = u
    generalize hL : (pgs l (n : Int)).length = L
    generalize cntB (fun j => !(asB (T.cell (l.getD j T.u) 2)) && ((usedN (asL (T.cell (l.getD j T.u) 0)) : Nat) : Int) == 0) n = cn at *
    have far : ∀ {s : Int}, (∃ j : Nat, s = (j : Int) ∧ j < n ∧ asB (T.cell (l.getD j T.u) 2) = false ∧ usedN (pgs l (j : Int)) = 0) → ∃ j : Nat, s = (j : Int) ∧ j < n + 1 ∧ asB (T.cell (l.getD j T.u) 2) = false ∧ usedN (pgs l (j : Int)) = 0 := fun ⟨j, a, b, c⟩ => ⟨j, a, by omega, c⟩
    cases hb : asB (T.cell (l.getD n T.u) 2) with
    | true =>
     simp only [cond_t, cond_f, Bool.not_true, Bool.false_and]
     rcases ih with h | h
     ·exact .inl h
     ·exact .inr (far h)
    | false =>
     simp only [cond_f, Bool.not_false, Bool.true_and]
     by_cases c0 : u = 0
     ·rw [c0, iLt_f (by omega), show ((((0 : Nat) : Int)) == 0) = true from rfl, Bool.false_and, Bool.true_and, cond_f]
      rcases ih with ⟨h1, h2⟩ | h
      ·rw [h1, iLt_t (by omega), cond_t]
       exact .inr ⟨n, rfl, by omega, hb, by rw [hu, c0]⟩
      ·have h' := h
       obtain ⟨j, hj, _⟩ := h'
       rw [iLt_f (by omega), cond_f]
       exact .inr (far h)
     ·rw [iLt_t (by omega), show (((u : Nat) : Int) == 0) = false by simp only [beq_eq_false_iff_ne, ne_eq]; omega, Bool.true_and, Bool.false_and, cond_f, cond_f]
      by_cases c1 : (u : Int) < (L : Int)
      ·rw [iLt_t c1, cond_t]
       exact ⟨by omega, hb, by omega, by omega⟩
      ·rw [iLt_f c1, cond_f]
       rcases ih with h | h
       ·exact .inl h
       ·exact .inr (far h)
 have := key l.length
 unfold openB
 cases e : foldX (openG l) (-1) l.length with
 | inl j => rw [e] at this; simp only at this ⊢; exact .inr ⟨j, rfl, this.1, this.2.1, .inl this.2.2⟩
 | inr s =>
  rw [e] at this
  simp only at this ⊢
  have hf : freeB l = cntB (fun j => !(asB (T.cell (l.getD j T.u) 2)) && ((usedN (asL (T.cell (l.getD j T.u) 0)) : Nat) : Int) == 0) l.length := rfl
  by_cases c : spare < (freeB l : Int)
  ·rw [iLt_t c, cond_t]
   rcases this with ⟨h1, h2⟩ | ⟨j, h1, h2, h3, h4⟩
   ·exact .inl ⟨h1, .inr (by rw [hf]; exact h2)⟩
   ·exact .inr ⟨j, h1, h2, h3, .inr ⟨h4, c⟩⟩
  ·rw [iLt_f c, cond_f]
   exact .inl ⟨rfl, .inl (by omega)⟩
theorem tls_bound {M : Nat} : ∀ {l : List T}, (∀ x ∈ l, tl x ≤ M) → tls l ≤ M * l.length
 | [], _ => Nat.zero_le _
 | x :: l, h => by
  have h1 := h x (List.mem_cons_self ..)
  have h2 := tls_bound fun y hy => h y (List.mem_cons_of_mem _ hy)
  simp only [tls, List.length_cons, Nat.mul_add]
  omega
theorem chip_small1 {l : List T} (hb : chipB l = true) (hf : fitC (.sl true chCT) (.sl l)) : l.length + tls l ≤ 100000 := by
 obtain ⟨h1, h2⟩ := chipB_in hb
 have hc := ch_of hf
 have := tls_bound (M := 3300) (l := l) fun x hx => by
  obtain ⟨i, hi, rfl⟩ := List.getElem_of_mem hx
  have e : l.getD i T.u = l[i] := by rw [List.getD_eq_getElem?_getD, List.getElem?_eq_getElem hi]; rfl
  obtain ⟨e1, _⟩ := chT_at hc hi
  obtain ⟨p8, _, pk⟩ := blockB_in (h2 i hi)
  have hq := tls_bound (M := 400) (l := pgs l (i : Int)) fun p hp => by
   obtain ⟨k, hk, rfl⟩ := List.getElem_of_mem hp
   have e3 : (pgs l (i : Int)).getD k T.u = (pgs l (i : Int))[k] := by rw [List.getD_eq_getElem?_getD, List.getElem?_eq_getElem hk]; rfl
   have hbs : byt (pgBy (pgs l (i : Int)) k) := pgsByt_of hf (i : Int) (k : Int)
   have e4 := pgT_at (chT_at hc hi).2 (show k < (asL (T.cell (l.getD i T.u) 0)).length from hk)
   have e5 : (asL (T.cell (l.getD i T.u) 0)).getD k T.u = (pgs l (i : Int))[k] := e3
   rw [← e5, e4]
   have h400 := (pk k (by omega)).1
   have ht := byt_tls hbs
   show tl (.st [.b _, .sl (pgBy (pgs l (i : Int)) k)]) ≤ 400
   simp only [tl, tls, ht]
   omega
  rw [← e, e1]
  show tl (.st [.sl (pgs l (i : Int)), .i .i64 _, .b _]) ≤ 3300
  simp only [tl, tls]
  omega
 omega
theorem chip_small {l : List T} (hb : chipB l = true) (hf : fitC (.sl true chCT) (.sl l)) : l.length + tls l ≤ 16777216 := Nat.le_trans (chip_small1 hb hf) (by omega)
theorem progC_len {l : List T} {n : Int} {b b' : List T} (h : progC l n b = 0) (hb : b'.length ≤ 400) : progC l n b' = 0 := by
 obtain ⟨_, _, _, _, h5, _⟩ := progC_zero h
 unfold progC at h ⊢
 rw [iLt_f (by omega), cond_f] at h
 rw [iLt_f (by omega), cond_f]
 exact h
theorem progL_set {l : List T} {n : Int} {b : List T} (h : progC l n b = 0) : progL l n b = setPg l n (usedN (pgs l n)) (T.st [T.b true, T.sl b]) := by
 unfold progL
 rw [h]
 rfl
theorem progC_open {l : List T} (hb : chipB l = true) {j : Nat} (hj : j < l.length) (hbad : asB (T.cell (l.getD j T.u) 2) = false) (hu : usedN (pgs l (j : Int)) < 8) {b : List T} (hl : b.length ≤ 400) : progC l (j : Int) b = 0 := by
 have hi : inB l (j : Int) = true := by unfold inB; rw [iLe_t (by omega), iLt_t (by omega)]; rfl
 have hn : nextC l (j : Int) = ((usedN (pgs l (j : Int)) : Nat) : Int) := by unfold nextC; rw [hi]; rfl
 unfold progC mayC
 rw [iLt_f (by omega), hb, hi, show badAt l (j : Int) = false by unfold badAt; rw [Int.toNat_natCast]; exact hbad, hn, show (((usedN (pgs l (j : Int)) : Nat) : Int) == 8) = false by simp only [beq_eq_false_iff_ne, ne_eq]; omega]
 rfl
theorem devB_of {l l' : List T} {ops ops' : Int} {fs : List T} (h : devB l ops fs = true) (hc : chipB l' = true) (ho : 0 ≤ ops' ∧ ops' ≤ 100000) : devB l' ops' fs = true := by
 unfold devB at h ⊢
 simp only [Bool.and_eq_true, iLe_iff] at h ⊢
 exact ⟨h.1, hc, ho, h.2.2.2⟩
theorem nextC_nat {l : List T} {j : Nat} (hj : j < l.length) : nextC l (j : Int) = ((usedN (pgs l (j : Int)) : Nat) : Int) := by
 unfold nextC inB
 rw [iLe_t (by omega), iLt_t (by omega)]
 rfl
theorem prog_main {l : List T} (hc : chT l) (hb : chipB l = true) {j : Nat} (hj : j < l.length) {b b' : List T} (h0 : progC l (j : Int) b = 0) (hl : b'.length ≤ 400) : chipB (progL l (j : Int) b') = true ∧ (progL l (j : Int) b').length = l.length ∧ recA l ((8 * j + usedN (pgs l (j : Int)) : Nat) : Int) = none ∧ ∀ a, recA (progL l (j : Int) b') a = if a = ((8 * j + usedN (pgs l (j : Int)) : Nat) : Int) then getRecB b' else recA l a := by
 obtain ⟨_, _, _, hu, _, _⟩ := progC_zero h0
 rw [progL_set (progC_len h0 hl)]
 exact ⟨prog_chip hc hb hj hl hu, setPg_len .., prog_free hb hj hu, prog_rec hc hb hj hl hu⟩
def wrP (fs : List T) (k sq : Int) (body : List T) (l : List T) (ops : Int) (m : Nat) (r : (List T × Int × Bool) × Int × Int × Int) : Prop :=
 devB r.1.1 r.1.2.1 fs = true ∧ (ops ≤ r.1.2.1 ∧ r.1.2.1 ≤ ops + m) ∧ r.1.1.length = l.length ∧ (∀ a x, recA l a = some x → recA r.1.1 a = some x) ∧ (∀ a x, recA r.1.1 a = some x → recA l a = some x ∨ (x = (k, sq, body) ∧ r.2.1 = sq + 1)) ∧ (sq ≤ r.2.1 ∧ r.2.1 ≤ sq + 1) ∧ ((r.2.2.2 = 0 ∧ r.2.1 = sq + 1 ∧ recA r.1.1 r.2.2.1 = some (k, sq, body)) ∨ (r.2.2.2 ≠ 0 ∧ r.2.2.1 = -1))
theorem wrP_no {fs : List T} {k sq : Int} {body l : List T} {ops : Int} (hd : devB l ops fs = true) (m : Nat) {dn : Bool} {c : Int} (hc : c ≠ 0) : wrP fs k sq body l ops m ((l, ops, dn), sq, -1, c) :=
 ⟨hd, ⟨Int.le_refl _, by show ops ≤ ops + m; omega⟩, rfl, fun _ _ h => h, fun _ _ h => .inl h, ⟨Int.le_refl _, by show sq ≤ sq + 1; omega⟩, .inr ⟨hc, rfl⟩⟩
theorem wr_main {fs : List T} {k sq : Int} {body : List T} (spare : Int) (hr : recB k sq body = true) (hby : byt body) : ∀ (m : Nat) (l : List T) (ops : Int), devB l ops fs = true → fitC (.sl true chCT) (.sl l) → wrP fs k sq body l ops m (wrR fs sq spare (putRecT k sq body) m l ops)
 | 0, l, ops, hd, hf => wrP_no hd 0 (by decide)
 | m + 1, l, ops, hd, hf => by
  have hc := ch_of hf
  obtain ⟨d1, d2, d3, d4⟩ := devB_in hd
  have hok := openB_ok l spare
  unfold wrR
  generalize openB l spare = o at *
  rcases hok with rfl | ⟨j, rfl, hj, hbd⟩
  ·exact wrP_no hd _ (by decide)
  ·rw [iLt_f (by omega)]
   simp only [cond_f]
   unfold devP
   rw [hd]
   simp only [Bool.not_true, cond_f]
   by_cases h1 : 100000 ≤ ops
   ·rw [iLe_t h1]; exact wrP_no hd _ (by decide)
   ·rw [iLe_f h1]
    simp only [cond_f]
    cases h3 : progC l (j : Int) (putRecT k sq body) == 0 with
    | false =>
     have h2 : (progC l (j : Int) (putRecT k sq body) == 2) = false := by simpa using progC_two (b := putRecT k sq body) (show badAt l (j : Int) = false by unfold badAt; rw [Int.toNat_natCast]; exact hbd)
     simp only [Bool.not_false, cond_t, h3, h2, cond_f]
     exact wrP_no hd _ (by decide)
    | true =>
     have h0 : progC l (j : Int) (putRecT k sq body) = 0 := by simpa using h3
     have hbl := (progC_zero h0).2.2.2.2.1
     simp only [Bool.not_true, cond_f]
     cases hfa : faultAt ops fs with
     | none =>
      obtain ⟨p1, p2, p3, p4⟩ := prog_main hc d2 hj h0 hbl
      simp only [show ((0 : Int) == 0) = true from rfl, cond_t]
      refine ⟨devB_of hd p1 (by show 0 ≤ ops + 1 ∧ ops + 1 ≤ 100000; omega), ⟨by show ops ≤ ops + 1; omega, by show ops + 1 ≤ ops + ((m + 1 : Nat) : Int); omega⟩, p2, fun a x hx => ?_, fun a x hx => ?_, ⟨by show sq ≤ sq + 1; omega, Int.le_refl _⟩, .inl ⟨rfl, rfl, ?_⟩⟩
      ·show recA (progL l (j : Int) (putRecT k sq body)) a = some x
       rw [p4]
       by_cases e : a = ((8 * j + usedN (pgs l (j : Int)) : Nat) : Int)
       ·rw [e, p3] at hx; cases hx
       ·rw [if_neg e]; exact hx
      ·have hx : recA (progL l (j : Int) (putRecT k sq body)) a = some x := hx
       rw [p4] at hx
       by_cases e : a = ((8 * j + usedN (pgs l (j : Int)) : Nat) : Int)
       ·rw [if_pos e, rec_round hr hby] at hx
        cases hx
        exact .inr ⟨rfl, rfl⟩
       ·rw [if_neg e] at hx; exact .inl hx
      ·show recA (progL l (j : Int) (putRecT k sq body)) ((j : Int) * 8 + nextC l (j : Int)) = _
       rw [p4, nextC_nat hj, if_pos (by omega), rec_round hr hby]
     | some x =>
      obtain ⟨a, kk, e⟩ := x
      cases hk : kk == 1 with
      | true =>
       have ih := wr_main (fs := fs) (k := k) (sq := sq) (body := body) spare hr hby m (setBad l (j : Int)) (ops + 1) (devB_of hd (setBad_chip hc d2 j hj) (by omega)) (fit_setBad hf _ (by rw [Int.toNat_natCast]; exact hj))
       simp only [hk, cond_t, show ((2 : Int) == 0) = false from rfl, show ((2 : Int) == 2) = true from rfl, cond_f]
       have es : l.set (j : Int).toNat (T.setc (l.getD (j : Int).toNat T.u) 2 (T.b true)) = setBad l (j : Int) := rfl
       rw [es]
       generalize wrR fs sq spare (putRecT k sq body) m (setBad l (j : Int)) (ops + 1) = r at *
       obtain ⟨i1, i2, i3, i4, i5, i6, i7⟩ := ih
       exact ⟨i1, by omega, by rw [i3, setBad_len], fun a x hx => i4 a x (by rw [setBad_rec hc j hj]; exact hx), fun a x hx => by have := i5 a x hx; rw [setBad_rec hc j hj] at this; exact this, i6, i7⟩
      | false =>
       have htl : ((putRecT k sq body).take (imin e ((putRecT k sq body).length : Int)).toNat).length ≤ 400 := by rw [List.length_take]; omega
       obtain ⟨p1, p2, p3, p4⟩ := prog_main hc d2 hj h0 htl
       simp only [hk, cond_f, show ((10 : Int) == 0) = false from rfl, show ((10 : Int) == 2) = false from rfl, cond_t]
       refine ⟨devB_of hd p1 (by show 0 ≤ ops + 1 ∧ ops + 1 ≤ 100000; omega), ⟨by show ops ≤ ops + 1; omega, by show ops + 1 ≤ ops + ((m + 1 : Nat) : Int); omega⟩, p2, fun a x hx => ?_, fun a x hx => ?_, ⟨by show sq ≤ sq + 1; omega, Int.le_refl _⟩, .inr ⟨by show (10 : Int) ≠ 0; decide, rfl⟩⟩
       ·show recA (progL l (j : Int) _) a = some x
        rw [p4]
        by_cases e : a = ((8 * j + usedN (pgs l (j : Int)) : Nat) : Int)
        ·rw [e, p3] at hx; cases hx
        ·rw [if_neg e]; exact hx
       ·have hx : recA (progL l (j : Int) _) a = some x := hx
        rw [p4] at hx
        by_cases e : a = ((8 * j + usedN (pgs l (j : Int)) : Nat) : Int)
        ·rw [if_pos e, rec_take hr hby] at hx
         split at hx
         ·cases hx; exact .inr ⟨rfl, rfl⟩
         ·cases hx
        ·rw [if_neg e] at hx; exact .inl hx
theorem logB_in {l : List T} {ops : Int} {fs : List T} {sq : Int} (h : logB l ops fs sq = true) : devB l ops fs = true ∧ (0 ≤ sq ∧ sq ≤ 1000000) ∧ ∀ a x, recA l a = some x → x.2.1 < sq := by
 unfold logB at h
 simp only [Bool.and_eq_true, iLe_iff] at h
 obtain ⟨h1, h2, h3⟩ := h
 obtain ⟨_, d2, _, _⟩ := devB_in h1
 refine ⟨h1, h2, fun a x hx => ?_⟩
 have hs := seq_same d2 sq h2.1
 rw [iLe_t h3, allB_iff] at hs
 by_cases h0 : a < 0
 ·rw [recA_neg h0] at hx; cases hx
 ·obtain ⟨n, rfl⟩ := Int.eq_ofNat_of_zero_le (show 0 ≤ a by omega)
  by_cases hn : n / 8 < l.length
  ·have := hs n (by omega)
   unfold seqOk at this
   rw [hx] at this
   exact iLt_iff.1 this
  ·rw [recA_nat hn] at hx; cases hx
theorem logB_of {l : List T} {ops : Int} {fs : List T} {sq : Int} (h1 : devB l ops fs = true) (h2 : 0 ≤ sq ∧ sq ≤ 1000000) (h3 : ∀ a x, recA l a = some x → x.2.1 < sq) : logB l ops fs sq = true := by
 obtain ⟨_, d2, _, _⟩ := devB_in h1
 have hs := seq_same d2 sq h2.1
 have : allB (seqOk l sq) (8 * l.length) = true := allB_iff.2 fun n hn => by
  unfold seqOk
  cases e : recA l (n : Int) with
  | none => rfl
  | some x => exact iLt_t (h3 _ _ e)
 rw [this] at hs
 unfold logB
 rw [h1, ← hs, iLe_t h2.1, iLe_t h2.2]
 rfl
theorem log_wr {fs : List T} {k sq : Int} {body l : List T} {ops : Int} {m : Nat} {r : (List T × Int × Bool) × Int × Int × Int} (h : logB l ops fs sq = true) (hs : sq < 1000000) (w : wrP fs k sq body l ops m r) : logB r.1.1 r.1.2.1 fs r.2.1 = true := by
 obtain ⟨_, h2, h3⟩ := logB_in h
 obtain ⟨w1, w2, w3, w4, w5, w6, w7⟩ := w
 refine logB_of w1 (by omega) fun a x hx => ?_
 rcases w5 a x hx with g | ⟨rfl, g⟩
 ·have := h3 a x g; omega
 ·show sq < r.2.1
  omega
theorem write_main {l : List T} {ops : Int} (fs : List T) (dn : Bool) {sq : Int} (k : Int) {body : List T} (spare : Int) (hf : fitC (.sl true chCT) (.sl l)) (hby : byt body) : ((writeR l ops fs dn sq k body spare).1.1 = l ∧ (writeR l ops fs dn sq k body spare).1.2.1 = ops ∧ (writeR l ops fs dn sq k body spare).2.1 = sq ∧ (writeR l ops fs dn sq k body spare).2.2.1 = -1 ∧ (writeR l ops fs dn sq k body spare).2.2.2 ≠ 0) ∨ (sq < 1000000 ∧ recB k sq body = true ∧ wrP fs k sq body l ops (nonBad l + 1) (writeR l ops fs dn sq k body spare)) := by
 unfold writeR
 cases hd : devB l ops fs with
 | false => exact .inl ⟨rfl, rfl, rfl, rfl, by simp only [Bool.not_false, cond_t]; decide⟩
 | true =>
  cases hr : recB k sq body with
  | false => exact .inl ⟨rfl, rfl, rfl, rfl, by simp only [Bool.not_true, Bool.not_false, cond_t, cond_f]; decide⟩
  | true =>
   by_cases h1 : 1000000 ≤ sq
   ·rw [iLe_t h1]; exact .inl ⟨rfl, rfl, rfl, rfl, by simp only [Bool.not_true, cond_t, cond_f]; decide⟩
   ·rw [iLe_f h1]
    cases dn with
    | true => exact .inl ⟨rfl, rfl, rfl, rfl, by simp only [Bool.not_true, cond_t, cond_f]; decide⟩
    | false => exact .inr ⟨by omega, rfl, wr_main spare hr hby _ l ops hd hf⟩
theorem c_big {lf d : Nat} (b : List T) : Cc lf (d + 1) 14 [.sl b] = some [.b (iLt 1048576 (b.length : Int))] := by
 refine (f14_eq (Cc lf d) lf b).trans ?_
 rfl
theorem c_iPowerUp {lf d : Nat} (hlf : 33554432 ≤ lf) (l : List T) (ops : Int) (fs : List T) (dn : Bool) (hc : chT l) (hs : l.length + tls l ≤ 16777216) (hs2 : fs.length ≤ 16777216) : Cc lf (d + 4) 43 [.st [.sl l, .i .i64 ops, .sl fs, .b dn]] = some [.st [.sl l, .i .i64 ops, .sl fs, .b false]] := by
 refine (f43_eq (Cc lf (d + 3)) lf l ops fs dn).trans ?_
 unfold f43 f43_t
 rw [c_iCopyDev (d := d) hlf l ops fs dn hc hs hs2]
 rfl
theorem c_at2 {lf d : Nat} {b : List T} (hb : byt b) : ∃ x : Int, Cc lf (d + 1) 19 [.sl b, .i .i64 2] = some [.i .i64 x] ∧ 0 ≤ x ∧ x ≤ 255 := by
 have E := f19_eq (Cc lf d) lf b 2
 unfold f19 f19_t at E
 by_cases h : (2 : Int) < (b.length : Int)
 ·have hv := byte_lt hb 2
  rw [iLt_t h, inR_le (by omega) (by omega), show ((2 : Int).toNat) = 2 from rfl, wrap_in (x := asI (b.getD 2 T.u)) (by omega) (by omega)] at E
  exact ⟨_, E, hv.1, by omega⟩
 ·rw [iLt_f h, wrap_in (x := 2 * 31) (by omega) (by omega), wrap_in (x := (b.length : Int) * 7) (by omega) (by omega), wrap_in (x := 2 * 31 + (b.length : Int) * 7) (by omega) (by omega), Int.tmod_eq_emod_of_nonneg (by omega)] at E
  exact ⟨_, E, by omega, by omega⟩
theorem log_write {l : List T} {ops : Int} {fs : List T} (dn : Bool) {sq : Int} (k : Int) {body : List T} (spare : Int) (h : logB l ops fs sq = true) (hf : fitC (.sl true chCT) (.sl l)) (hby : byt body) : logB (writeR l ops fs dn sq k body spare).1.1 (writeR l ops fs dn sq k body spare).1.2.1 fs (writeR l ops fs dn sq k body spare).2.1 = true ∧ fitC (.sl true chCT) (.sl (writeR l ops fs dn sq k body spare).1.1) := by
 have hd := (logB_in h).1
 have hchip := (devB_in hd).2.1
 refine ⟨?_, (write_fit (l := l) (ops := ops) fs dn (sq := sq) k body spare hf (K := 16777216) (Nat.le_refl _) (chip_small hchip hf) (by have := (devB_in hd).2.2.1; unfold i64B; omega) (by have := (logB_in h).2.1; unfold i64B; omega)).1⟩
 rcases write_main (ops := ops) fs dn (sq := sq) k spare hf hby with ⟨e1, e2, e3, _⟩ | ⟨g1, g2, g3⟩
 ·rw [e1, e2, e3]; exact h
 ·exact log_wr h g1 g3
theorem recB_ok {k s : Int} {body : List T} (hk : 1 ≤ k ∧ k ≤ 4) (hs : 0 ≤ s ∧ s ≤ 1000000) (hb : body.length ≤ 380) : recB k s body = true := by
 unfold recB
 rw [iLe_t hk.1, iLe_t hk.2, iLe_t hs.1, iLe_t hs.2, iLe_t (by omega)]
 rfl
theorem putRec_pos {k s : Int} {body : List T} (h : recB k s body = true) : 4 ≤ (putRecT k s body).length ∧ (putRecT k s body).length ≤ body.length + 13 := by
 unfold putRecT
 rw [h, cond_t, List.length_append]
 have h1 := recX_len k s body
 have h2 : (four (crcN (recX k s body))).length = 4 := rfl
 omega
theorem open_room {l : List T} (hb : chipB l = true) {spare : Int} {j : Nat} (h : openB l spare = (j : Int)) : j < l.length ∧ asB (T.cell (l.getD j T.u) 2) = false ∧ usedN (pgs l (j : Int)) < 8 := by
 rcases openB_spec l spare with ⟨e, _⟩ | ⟨i, e, h1, h2, h3⟩
 ·omega
 ·have : i = j := by omega
  subst this
  have h8 := (blockB_in ((chipB_in hb).2 i h1)).1
  exact ⟨h1, h2, by omega⟩
def newT : T := T.st [T.sl [], T.i .i64 1, T.i .i64 1, T.sl [], T.sl [], T.i .i64 (-1), T.i .i64 (-1)]
theorem c_iFsNew {lf d : Nat} : Cc lf (d + 1) 21 [] = some [T.st [T.sl [], T.i .i64 1]] := by
 refine (f21_eq (Cc lf d) lf).trans ?_
 rfl
theorem c_iImageNew {lf d : Nat} : Cc lf (d + 2) 28 [] = some [newT] := by
 refine (f28_eq (Cc lf (d + 1)) lf).trans ?_
 unfold f28 f28_t
 rw [c_iFsNew]
 rfl
def blk0 : T := .st [.sl [T.st [T.b false, T.sl []], T.st [T.b false, T.sl []], T.st [T.b false, T.sl []], T.st [T.b false, T.sl []], T.st [T.b false, T.sl []], T.st [T.b false, T.sl []], T.st [T.b false, T.sl []], T.st [T.b false, T.sl []]], .i .i64 0, .b false]
theorem rep_at {n i : Nat} (h : i < n) : (List.replicate n blk0).getD i T.u = blk0 := by
 rw [List.getD_eq_getElem?_getD, List.getElem?_replicate, if_pos h]
 rfl
theorem rep_chip {n : Nat} (h : 3 ≤ n ∧ n ≤ 24) : chipB (List.replicate n blk0) = true := by
 refine chipB_of (by rw [List.length_replicate]; exact h) fun i hi => ?_
 rw [List.length_replicate] at hi
 show blockB (asL (T.cell ((List.replicate n blk0).getD i T.u) 0)) (asI (T.cell ((List.replicate n blk0).getD i T.u) 1)) = true
 rw [rep_at hi]
 rfl
theorem rep_fit {n : Nat} (h : n ≤ 24) : fitC (.sl true chCT) (.sl (List.replicate n blk0)) := by
 refine ⟨by rw [List.length_replicate]; unfold maxLen; omega, fitL_all.2 fun x hx => ?_⟩
 rw [List.eq_of_mem_replicate hx]
 refine ⟨⟨by show (8 : Nat) ≤ maxLen; unfold maxLen; omega, fitL_all.2 fun p hp => ?_⟩, ⟨rfl, wf64 (by omega) (by omega)⟩, trivial, trivial⟩
 simp only [List.mem_cons, List.not_mem_nil, or_false, or_self] at hp
 rw [hp]
 exact ⟨trivial, ⟨Nat.zero_le _, trivial⟩, trivial⟩
def okN (n : Int) (fs : List T) : Bool := (iLe 3 n && iLe n 24) && (allB (faultB fs) fs.length && iLe (fs.length : Int) 20)
def chipOf (n : Int) : List T := bif iLe 3 n && iLe n 24 then List.replicate n.toNat blk0 else []
theorem chipOf_t {n : Nat} (h : 3 ≤ n ∧ n ≤ 24) : chipOf (n : Int) = List.replicate n blk0 := by
 unfold chipOf
 rw [iLe_t (by omega), iLe_t (by omega), Int.toNat_natCast]
 rfl
theorem in_f {n : Int} (h : ¬ (3 ≤ n ∧ n ≤ 24)) : (iLe 3 n && iLe n 24) = false := by
 by_cases h1 : 3 ≤ n
 ·rw [iLe_t h1, iLe_f (by omega)]; rfl
 ·rw [iLe_f h1]; rfl
theorem chipOf_f {n : Int} (h : ¬ (3 ≤ n ∧ n ≤ 24)) : chipOf n = [] := by
 unfold chipOf
 rw [in_f h]
 rfl
theorem c_iChipNew {lf d : Nat} (hlf : 33554432 ≤ lf) (n : Int) : Cc lf (d + 2) 40 [.i .i64 n] = some [.st [.sl (chipOf n)]] := by
 refine (f40_eq (Cc lf (d + 1)) lf n).trans ?_
 unfold f40 f40_t
 dsimp only
 rw [c_from]
 by_cases h : 3 ≤ n ∧ n ≤ 24
 ·obtain ⟨n, rfl⟩ := Int.eq_ofNat_of_zero_le (show 0 ≤ n by omega)
  rw [chipOf_t (by omega), iLe_t (by omega), iLe_t (by omega)]
  have L : ∀ (k j m : Nat), j + k = n → k < m → f40_0 (Cc lf (d + 1)) lf n m j (List.replicate j blk0) = some [T.i .i64 0, T.sl ([] : List T), T.sl (List.replicate n blk0)] := by
   intro k
   induction k with
   | zero =>
    intro j m hj hm
    obtain ⟨m, rfl⟩ : ∃ z, m = z + 1 := ⟨m - 1, by omega⟩
    rw [f40_0_u]
    unfold f40_0_s
    rw [iLt_f (by omega), show j = n by omega]
    rfl
   | succ k ih =>
    intro j m hj hm
    obtain ⟨m, rfl⟩ : ∃ z, m = z + 1 := ⟨m - 1, by omega⟩
    rw [f40_0_u]
    unfold f40_0_s
    rw [iLt_t (by omega), wrap_in (x := (j : Int) + 1) (by omega) (by omega), nLe_t (by rw [List.length_replicate]; unfold LIM; simp only [List.length_cons, List.length_nil]; omega)]
    have e := ih (j + 1) m (by omega) (by omega)
    rw [List.replicate_succ'] at e
    exact e
  have := L n 0 lf (by omega) (by omega)
  rw [show ((0 : Nat) : Int) = 0 from rfl, show List.replicate 0 blk0 = [] from rfl] at this
  rw [this]
  rfl
 ·rw [chipOf_f h, in_f h]
  rfl
theorem chipOf_small (n : Int) : (chipOf n).length + tls (chipOf n) ≤ 500 ∧ pgsByt (chipOf n) := by
 by_cases h : 3 ≤ n ∧ n ≤ 24
 ·obtain ⟨n, rfl⟩ := Int.eq_ofNat_of_zero_le (show 0 ≤ n by omega)
  rw [chipOf_t (by omega)]
  have key : ∀ m : Nat, tls (List.replicate m blk0) = 8 * m := by
   intro m
   induction m with
   | zero => rfl
   | succ m ih =>
    rw [List.replicate_succ]
    simp only [tls, ih]
    show 8 + 8 * m = _
    omega
  rw [key, List.length_replicate]
  exact ⟨by omega, pgsByt_of (rep_fit (by omega))⟩
 ·rw [chipOf_f h]
  exact ⟨by show 0 + 0 ≤ 500; omega, pgsByt_of (cs := [.i .i64, .b]) ⟨Nat.zero_le _, trivial⟩⟩
theorem devN (n : Int) (fs : List T) : devB (chipOf n) 0 fs = okN n fs := by
 unfold devB okN
 by_cases h : 3 ≤ n ∧ n ≤ 24
 ·obtain ⟨n, rfl⟩ := Int.eq_ofNat_of_zero_le (show 0 ≤ n by omega)
  rw [chipOf_t (by omega), rep_chip (by omega), iLe_t (show (3 : Int) ≤ (n : Int) by omega), iLe_t (show (n : Int) ≤ 24 by omega)]
  cases allB (faultB fs) fs.length <;> cases iLe (fs.length : Int) 20 <;> rfl
 ·rw [chipOf_f h, in_f h]
  cases allB (faultB fs) fs.length <;> rfl
def devNT (n : Int) (fs : List T) : List T := bif okN n fs then [.sl (chipOf n), .i .i64 0, .sl fs, .b false] else [.sl [], .i .i64 0, .sl [], .b false]
theorem c_iDevN {lf d : Nat} (hlf : 33554432 ≤ lf) (n : Int) (fs : List T) (hs : fs.length ≤ 16777216) : Cc lf (d + 4) 15 [.i .i64 n, .sl fs] = some [.st (devNT n fs)] := by
 refine (f15_eq (Cc lf (d + 3)) lf n fs).trans ?_
 unfold f15 f15_t
 have hc := (chipOf_small n).1
 have hcl : Cc lf (d + 3) 41 [T.sl fs] = some [.sl fs] := by
  show (bif nLe (0 + fs.length) LIM then some [T.sl fs] else none) = _
  rw [nLe_t (by unfold LIM; omega)]
  rfl
 rw [c_iChipNew (d := d + 1) hlf, hcl]
 simp only [Option.bind_some, nth0, asL_l, cell0]
 rw [c_iDevOk (d := d) hlf _ 0 fs false (by omega) hs, devN]
 unfold devNT
 cases okN n fs <;> rfl
theorem most_new (n : Nat) : mostL (List.replicate n blk0) = 0 := by
 unfold mostL
 have : ∀ m, m ≤ n → foldN (fun s i => mostB (pgs (List.replicate n blk0) ((i : Nat) : Int)) s) 0 m = 0 := by
  intro m
  induction m with
  | zero => intro _; rfl
  | succ m ih =>
   intro h
   show mostB (pgs (List.replicate n blk0) ((m : Nat) : Int)) (foldN (fun s i => mostB (pgs (List.replicate n blk0) ((i : Nat) : Int)) s) 0 m) = 0
   rw [ih (by omega)]
   have : pgs (List.replicate n blk0) ((m : Nat) : Int) = asL (T.cell blk0 0) := by
    unfold pgs
    rw [Int.toNat_natCast, rep_at (by omega)]
   rw [this]
   rfl
 exact this _ (by rw [List.length_replicate]; exact Nat.le_refl _)
theorem logB_new {n : Int} {fs : List T} (h : okN n fs = true) : logB (chipOf n) 0 fs 0 = true := by
 have h2 := devN n fs
 rw [h] at h2
 unfold logB
 rw [h2]
 unfold okN at h
 simp only [Bool.and_eq_true, iLe_iff] at h
 obtain ⟨n, rfl⟩ := Int.eq_ofNat_of_zero_le (show 0 ≤ n by omega)
 rw [chipOf_t (by omega), most_new]
 rfl
theorem c_iFsNewOk {lf d : Nat} (hlf : 33554432 ≤ lf) : Cc lf (d + 2) 22 [.st [.sl [], .i .i64 1]] = some [.b true] := by
 refine (f22_eq (Cc lf (d + 1)) lf [] 1).trans ?_
 unfold f22 f22_t
 obtain ⟨m, rfl⟩ : ∃ z, lf = z + 1 := ⟨lf - 1, by omega⟩
 rw [c_from]
 rfl
theorem c_iSame0 {lf d : Nat} (hlf : 33554432 ≤ lf) : Cc lf (d + 1) 20 [.st [.sl [], .i .i64 1], .st [.sl [], .i .i64 1]] = some [.b true] := by
 refine (f20_eq (Cc lf d) lf [] 1 [] 1).trans ?_
 obtain ⟨m, rfl⟩ : ∃ z, lf = z + 1 := ⟨lf - 1, by omega⟩
 rfl
theorem rep_rec {n : Nat} (h : 3 ≤ n ∧ n ≤ 24) (a : Int) : recA (List.replicate n blk0) a = none := by
 by_cases h0 : a < 0
 ·exact recA_neg h0
 ·obtain ⟨m, rfl⟩ := Int.eq_ofNat_of_zero_le (show 0 ≤ a by omega)
  by_cases hm : m / 8 < (List.replicate n blk0).length
  ·rw [recA_at (rep_chip h) hm]
   rw [List.length_replicate] at hm
   show getRecB (asL (T.cell ((asL (T.cell ((List.replicate n blk0).getD (m / 8) T.u) 0)).getD (m % 8) T.u) 1)) = none
   rw [rep_at hm]
   have : ∀ k, k < 8 → getRecB (asL (T.cell ((asL (T.cell blk0 0)).getD k T.u) 1)) = none := by
    intro k hk
    rcases k with _ | _ | _ | _ | _ | _ | _ | _ | k <;> first | rfl | omega
   exact this _ (by omega)
  ·exact recA_nat hm
def seqN (R : Option (Int × Int × List T)) : Int := match R with | none => 0 | some _ => 1
def rootN (R : Option (Int × Int × List T)) : List T := match R with | none => [] | some _ => [T.st [T.i .i64 0, T.i .i64 0]]
def addrN (R : Option (Int × Int × List T)) : List T := match R with | none => [] | some _ => [T.i .i64 0]
def oneRec (l : List T) (R : Option (Int × Int × List T)) : Prop := (∀ a : Nat, recA l (a : Int) = if a = 0 then R else none) ∧ (R = none ∨ ∃ body, R = some (4, 0, body) ∧ byt body ∧ body.length ≤ 1000)
theorem c_mLoop {lf d : Nat} (hlf : 33554432 ≤ lf) (l : List T) (ops : Int) (R : Option (Int × Int × List T)) (hb : pgsByt l) (hl : l.length ≤ 24) (hl0 : 1 ≤ l.length) (hs : l.length + tls l ≤ 1048576) (h : oneRec l R) :
 f16_0 (Cc lf (d + 5)) lf [.st [.sl l, .i .i64 ops, .sl [], .b false]] lf 0 0 = some [T.i .i64 0, T.sl l, T.sl [], T.i .i64 ops, T.b false, T.i .i64 (seqN R)] := by
 obtain ⟨h1, h2⟩ := h
 have step : ∀ a : Nat, a < 8 * l.length → Cc lf (d + 5) 85 [.st [.sl l, .i .i64 ops, .sl [], .b false, .i .i64 0], .i .i64 (a : Int)] = some (getRecR (if a = 0 then R else none)) := fun a ha => by rw [← h1]; exact c_recAt hlf l ops [] false 0 a (wf64 (by omega) (by omega)) hb (by omega)
 have L : ∀ (k a n : Nat), a + k = 8 * l.length → k < n → 1 ≤ a → f16_0 (Cc lf (d + 5)) lf [.st [.sl l, .i .i64 ops, .sl [], .b false]] n (a : Int) (seqN R) = some [T.i .i64 0, T.sl l, T.sl [], T.i .i64 ops, T.b false, T.i .i64 (seqN R)] := by
  intro k
  induction k with
  | zero =>
   intro a n ha hn _
   obtain ⟨n, rfl⟩ : ∃ z, n = z + 1 := ⟨n - 1, by omega⟩
   rw [f16_0_u]
   unfold f16_0_s
   simp only [nth0, cell0, cellS, asL_l]
   rw [wrap_in (x := (l.length : Int) * 8) (by omega) (by omega), iLt_f (by omega)]
   rfl
  | succ k ih =>
   intro a n ha hn h0
   obtain ⟨n, rfl⟩ : ∃ z, n = z + 1 := ⟨n - 1, by omega⟩
   rw [f16_0_u]
   unfold f16_0_s
   simp only [nth0, cell0, cellS, asL_l, asI_i, asB_b]
   rw [wrap_in (x := (l.length : Int) * 8) (by omega) (by omega), iLt_t (by omega), step a (by omega), if_neg (by omega), wrap_in (x := (a : Int) + 1) (by omega) (by omega)]
   exact ih (a + 1) n (by omega) (by omega) (by omega)
 obtain ⟨n, rfl⟩ : ∃ z, lf = z + 1 := ⟨lf - 1, by omega⟩
 rw [f16_0_u]
 unfold f16_0_s
 simp only [nth0, cell0, cellS, asL_l, asI_i, asB_b]
 have s0 := step 0 (by omega)
 rw [if_pos rfl, show ((0 : Nat) : Int) = 0 from rfl] at s0
 rw [wrap_in (x := (l.length : Int) * 8) (by omega) (by omega), iLt_t (by omega), s0]
 have e := L (8 * l.length - 1) 1 n (by omega) (by omega) (Nat.le_refl _)
 rcases h2 with rfl | ⟨body, rfl, _, _⟩
 ·exact e
 ·exact e
theorem c_rLoop {lf d : Nat} (hlf : 33554432 ≤ lf) (l : List T) (ops sq : Int) (R : Option (Int × Int × List T)) (hb : pgsByt l) (hl : l.length ≤ 24) (hl0 : 1 ≤ l.length) (hs : l.length + tls l ≤ 1048576) (h : oneRec l R) :
 f46_0 (Cc lf (d + 5)) lf false l [] ops sq lf 0 [] = some [T.i .i64 0, T.sl (rootN R)] := by
 obtain ⟨h1, h2⟩ := h
 have step : ∀ a : Nat, a < 8 * l.length → Cc lf (d + 5) 85 [.st [.sl l, .i .i64 ops, .sl [], .b false, .i .i64 sq], .i .i64 (a : Int)] = some (getRecR (if a = 0 then R else none)) := fun a ha => by rw [← h1]; exact c_recAt hlf l ops [] false sq a (wf64 (by omega) (by omega)) hb (by omega)
 have L : ∀ (k a n : Nat), a + k = 8 * l.length → k < n → 1 ≤ a → f46_0 (Cc lf (d + 5)) lf false l [] ops sq n (a : Int) (rootN R) = some [T.i .i64 0, T.sl (rootN R)] := by
  intro k
  induction k with
  | zero =>
   intro a n ha hn _
   obtain ⟨n, rfl⟩ : ∃ z, n = z + 1 := ⟨n - 1, by omega⟩
   rw [f46_0_u]
   unfold f46_0_s
   rw [wrap_in (x := (l.length : Int) * 8) (by omega) (by omega), iLt_f (by omega)]
   rfl
  | succ k ih =>
   intro a n ha hn h0
   obtain ⟨n, rfl⟩ : ∃ z, n = z + 1 := ⟨n - 1, by omega⟩
   rw [f46_0_u]
   unfold f46_0_s
   rw [wrap_in (x := (l.length : Int) * 8) (by omega) (by omega), iLt_t (by omega), step a (by omega), if_neg (by omega), wrap_in (x := (a : Int) + 1) (by omega) (by omega)]
   exact ih (a + 1) n (by omega) (by omega) (by omega)
 obtain ⟨n, rfl⟩ : ∃ z, lf = z + 1 := ⟨lf - 1, by omega⟩
 rw [f46_0_u]
 unfold f46_0_s
 have s0 := step 0 (by omega)
 rw [if_pos rfl, show ((0 : Nat) : Int) = 0 from rfl] at s0
 rw [wrap_in (x := (l.length : Int) * 8) (by omega) (by omega), iLt_t (by omega), s0]
 have e := L (8 * l.length - 1) 1 n (by omega) (by omega) (Nat.le_refl _)
 rcases h2 with rfl | ⟨body, rfl, _, _⟩
 ·exact e
 ·exact e
theorem c_roots {lf d : Nat} (hlf : 33554432 ≤ lf) (l : List T) (ops sq : Int) (R : Option (Int × Int × List T)) (hb : pgsByt l) (hl : l.length ≤ 24) (hl0 : 1 ≤ l.length) (hs : l.length + tls l ≤ 1048576) (h : oneRec l R) :
 Cc lf (d + 6) 46 [.st [.sl l, .i .i64 ops, .sl [], .b false, .i .i64 sq]] = some [.sl (addrN R)] := by
 refine (f46_eq (Cc lf (d + 5)) lf l ops [] false sq).trans ?_
 unfold f46 f46_t
 dsimp only
 rw [c_rLoop (d := d) hlf l ops sq R hb hl hl0 hs h]
 obtain ⟨n, rfl⟩ : ∃ z, lf = z + 2 := ⟨lf - 2, by omega⟩
 rcases h.2 with rfl | ⟨body, rfl, _, _⟩
 ·rfl
 ·rfl
theorem c_load {lf d : Nat} (hlf : 33554432 ≤ lf) (l : List T) (ops sq : Int) (body : List T) (hb : pgsByt l) (hs : l.length + tls l ≤ 1048576) (h : ∀ a : Nat, recA l (a : Int) = if a = 0 then some (4, 0, body) else none) (hby : byt body) (hbl : body.length ≤ 1000) :
 Cc lf (d + 7) 47 [.st [.sl l, .i .i64 ops, .sl [], .b false, .i .i64 sq], .i .i64 0] = some [newT, .b false] := by
 refine (f47_eq (Cc lf (d + 6)) lf l ops [] false sq 0).trans ?_
 unfold f47 f47_t
 have r0 : readAtR l 0 4 = [recT (some (4, 0, body)), .b true] := by
  unfold readAtR
  rw [show recA l 0 = some (4, 0, body) from h 0]
  rfl
 have r1 : ∀ v : Nat, readAtR l (v : Int) 3 = [recT none, .b false] := fun v => by
  unfold readAtR
  rw [h v]
  by_cases e : v = 0
  ·rw [if_pos e]; rfl
  ·rw [if_neg e]
 rw [c_iReadAt (d := d) hlf l ops [] false sq 0 4 (wf64 (by omega) (by omega)) hb (by omega), r0]
 simp only [Option.bind_some, recT, nth0, nthS, cell0, cellS, asL_l, asB_b]
 have g := c_iGetNum (d := d + 5) hlf hby (by omega) 0 (by omega)
 rw [show ((0 : Nat) : Int) = 0 from rfl] at g
 rw [g]
 obtain ⟨v, q, ok, e, hv⟩ : ∃ (v q : Nat) (ok : Bool), getR (getNum body 0) = [.i .i64 (v : Int), .i .i64 (q : Int), .b ok] ∧ v ≤ 1000000 := by
  cases e : getNum body 0 with
  | none => exact ⟨0, 0, false, rfl, by omega⟩
  | some x =>
   obtain ⟨n, q⟩ := x
   have := getNum_in hby e
   obtain ⟨v, rfl⟩ := Int.eq_ofNat_of_zero_le this.1
   exact ⟨v, q, true, rfl, by omega⟩
 rw [e]
 simp only [Option.bind_some, nth0, nthS, asI_i, asB_b]
 rw [c_iReadAt (d := d) hlf l ops [] false sq (v : Int) 3 (wf64 (by omega) (by omega)) hb (by omega), r1 v]
 simp only [Option.bind_some, recT, nth0, nthS, cell0, cellS, asL_l, asB_b]
 rw [c_iGetTable (d := d + 1) hlf byt_nil (by simp)]
 have hN := c_iImageNew (lf := lf) (d := d + 4)
 unfold newT at hN
 rw [hN]
 simp only [Option.bind_some, Bool.not_true, Bool.not_false, cond_f, cond_t]
 cases ok <;> rfl
theorem c_mount {lf d : Nat} (hlf : 33554432 ≤ lf) (l : List T) (ops sq : Int) (R : Option (Int × Int × List T)) (hc : chT l) (hb : pgsByt l) (hl : l.length ≤ 24) (hl0 : 1 ≤ l.length) (hs : l.length + tls l ≤ 1048576) (h : oneRec l R) :
 Cc lf (d + 8) 16 [.st [.sl l, .i .i64 ops, .sl [], .b false, .i .i64 sq]] = some [.st [.sl l, .i .i64 ops, .sl [], .b false, .i .i64 (seqN R)], newT] := by
 refine (f16_eq (Cc lf (d + 7)) lf l ops [] false sq).trans ?_
 unfold f16 f16_t
 dsimp only
 rw [c_iPowerUp (d := d + 3) hlf l ops [] false hc (by omega) (by simp)]
 simp only [Option.bind_some]
 rw [c_mLoop (d := d + 2) hlf l ops R hb hl hl0 hs h]
 simp only [Option.bind_some, nth0, nthS, asI_i, asL_l, asB_b]
 rw [c_roots (d := d + 1) hlf l ops (seqN R) R hb hl hl0 hs h]
 have hN := c_iImageNew (lf := lf) (d := d + 5)
 unfold newT at hN
 rw [hN]
 obtain ⟨n, hn⟩ : ∃ z, lf = z + 2 := ⟨lf - 2, by omega⟩
 simp only [Option.bind_some]
 rcases h.2 with rfl | ⟨body, rfl, hby, hbl⟩
 ·have e : f16_1 (Cc lf (d + 7)) lf [T.i .i64 0, T.sl l, T.sl [], T.i .i64 ops, T.b false, T.i .i64 (seqN none)] [T.sl (addrN none)] lf 0 = f16_1 (Cc lf (d + 7)) lf [T.i .i64 0, T.sl l, T.sl [], T.i .i64 ops, T.b false, T.i .i64 (seqN none)] [T.sl (addrN none)] (n + 2) 0 := by rw [← hn]
  rw [e]
  rfl
 ·have e : f16_1 (Cc lf (d + 7)) lf [T.i .i64 0, T.sl l, T.sl [], T.i .i64 ops, T.b false, T.i .i64 (seqN (some (4, 0, body)))] [T.sl (addrN (some (4, 0, body)))] lf 0 = f16_1 (Cc lf (d + 7)) lf [T.i .i64 0, T.sl l, T.sl [], T.i .i64 ops, T.b false, T.i .i64 (seqN (some (4, 0, body)))] [T.sl (addrN (some (4, 0, body)))] (n + 2) 0 := by rw [← hn]
  rw [e, f16_1_u]
  unfold f16_1_s
  have hL := c_load (d := d) hlf l ops 1 body hb hs h.1 hby hbl
  simp only [nth0, nthS, asI_i, asL_l, asB_b, addrN, seqN]
  rw [show inR 0 ([T.i .i64 0] : List T).length = true from rfl, show iLt 0 ((([T.i .i64 0] : List T).length : Nat) : Int) = true from rfl, show asI (([T.i .i64 0] : List T).getD (0 : Int).toNat T.u) = 0 from rfl, hL]
  rfl
theorem open_new : openB (List.replicate 4 blk0) 0 = ((0 : Nat) : Int) := by rfl
theorem write_new {body : List T} (hby : byt body) (hbl : body.length ≤ 10) : ∃ l', writeR (List.replicate 4 blk0) 0 [] false 0 4 body 0 = ((l', 1, false), 1, 0, 0) ∧ fitC (.sl true chCT) (.sl l') ∧ l'.length = 4 ∧ chipB l' = true ∧ ∀ a : Int, recA l' a = if a = 0 then some (4, 0, body) else none := by
 have hf : fitC (.sl true chCT) (.sl (List.replicate 4 blk0)) := rep_fit (by omega)
 have h1 : logB (List.replicate 4 blk0) 0 [] 0 = true := by
  have := logB_new (n := 4) (fs := []) (by rfl)
  rw [show chipOf 4 = List.replicate 4 blk0 from chipOf_t (n := 4) (by omega)] at this
  exact this
 obtain ⟨hd, hsq, hrec⟩ := logB_in h1
 have hchip := (devB_in hd).2.1
 have hc := ch_of hf
 have hr : recB 4 0 body = true := recB_ok (by omega) (by omega) (by omega)
 have hp := putRec_pos hr
 obtain ⟨w1, w2⟩ := log_write false 4 0 h1 hf hby
 have W : writeR (List.replicate 4 blk0) 0 [] false 0 4 body 0 = wrR [] 0 0 (putRecT 4 0 body) (nonBad (List.replicate 4 blk0) + 1) (List.replicate 4 blk0) 0 := by
  unfold writeR
  rw [hd, hr, iLe_f (show ¬ (1000000 : Int) ≤ 0 by omega)]
  rfl
 rw [W] at w1 w2 ⊢
 unfold wrR at w1 w2 ⊢
 rw [open_new] at w1 w2 ⊢
 obtain ⟨a1, a2, a3⟩ := open_room hchip open_new
 have h0 : progC (List.replicate 4 blk0) ((0 : Nat) : Int) (putRecT 4 0 body) = 0 := progC_open hchip a1 a2 a3 (by omega)
 have hD : devP (List.replicate 4 blk0) 0 [] false ((0 : Nat) : Int) (putRecT 4 0 body) = ((progL (List.replicate 4 blk0) ((0 : Nat) : Int) (putRecT 4 0 body), 0 + 1, false), 0) := by
  unfold devP
  rw [hd, iLe_f (show ¬ (100000 : Int) ≤ 0 by omega), h0]
  rfl
 rw [hD] at w1 w2 ⊢
 rw [iLt_f (by omega)] at w1 w2 ⊢
 simp only [cond_f, cond_t, show ((0 : Int) == 0) = true from rfl] at w1 w2 ⊢
 obtain ⟨p1, p2, p3, p4⟩ := prog_main hc hchip a1 h0 (show (putRecT 4 0 body).length ≤ 400 by omega)
 have hu : usedN (pgs (List.replicate 4 blk0) ((0 : Nat) : Int)) = 0 := by rfl
 refine ⟨progL (List.replicate 4 blk0) ((0 : Nat) : Int) (putRecT 4 0 body), ?_, w2, p2, p1, fun a => ?_⟩
 ·rw [nextC_nat a1, hu]
  rfl
 ·rw [p4, hu, rec_round hr hby, rep_rec (n := 4) (by omega) a]
  rfl
theorem lawC (C : Orc) (lf : Nat) (b l0 l' body : List T) (x : Int) (hbig : C 14 [.sl b] = some [.b (iLt 1048576 (b.length : Int))])
 (hdev : C 15 [T.i .i64 4, T.sl []] = some [.st [.sl l0, .i .i64 0, .sl [], .b false]])
 (hm1 : C 16 [.st [.sl l0, .i .i64 0, .sl [], .b false, .i .i64 0]] = some [.st [.sl l0, .i .i64 0, .sl [], .b false, .i .i64 0], newT])
 (hat : C 19 [.sl b, .i .i64 2] = some [.i .i64 x])
 (hnum : C 18 [.sl [], .i .i64 x] = some [.sl body])
 (hwr : C 17 [.st [.sl l0, .i .i64 0, .sl [], .b false, .i .i64 0], .i .i64 4, .sl body, .i .i64 0] = some [T.st [.sl l', .i .i64 1, .sl [], .b false, .i .i64 1], T.i .i64 0, T.i .i64 0])
 (hm2 : C 16 [.st [.sl l', .i .i64 1, .sl [], .b false, .i .i64 1]] = some [.st [.sl l', .i .i64 1, .sl [], .b false, .i .i64 1], newT])
 (hfs : C 21 [] = some [T.st [T.sl [], T.i .i64 1]])
 (hsame : C 20 [.st [.sl [], .i .i64 1], .st [.sl [], .i .i64 1]] = some [.b true])
 (hok : C 22 [.st [.sl [], .i .i64 1]] = some [.b true]) :
 f4 C lf b = some [.b true] := by
 unfold f4 f4_t
 rw [hbig]
 simp only [Option.bind_some, nth0, asB_b]
 cases iLt 1048576 (b.length : Int) with
 | true => rfl
 | false =>
  rw [cond_f, hdev]
  simp only [Option.bind_some, nth0, asL_l, asI_i, asB_b, cell0, cellS]
  rw [hm1]
  simp only [newT, Option.bind_some, nth0, nthS, asL_l, asI_i, asB_b, cell0, cellS]
  rw [hat]
  simp only [Option.bind_some, nth0, asI_i]
  rw [hnum]
  simp only [Option.bind_some, nth0, asL_l]
  rw [hwr]
  simp only [Option.bind_some, nth0, nthS, asL_l, asI_i, asB_b, cell0, cellS]
  rw [hm2, hfs]
  simp only [newT, Option.bind_some, nth0, nthS, asL_l, asI_i, asB_b, cell0, cellS]
  rw [hsame]
  simp only [Option.bind_some, nth0, nthS, asL_l, asI_i, asB_b, cell0, cellS]
  rw [hok]
  rfl
theorem lawG {lf : Nat} (hlf : 33554432 ≤ lf) (l0 : List T)
 (hdev : Cc lf 13 15 [T.i .i64 4, T.sl []] = some [.st [.sl l0, .i .i64 0, .sl [], .b false]])
 (hc : chT l0) (hp : pgsByt l0) (hl0 : l0.length = 4) (hs0 : l0.length + tls l0 ≤ 1048576) (h1 : oneRec l0 none)
 (hw0 : ∀ body : List T, byt body → body.length ≤ 10 → ∃ l', writeR l0 0 [] false 0 4 body 0 = ((l', 1, false), 1, 0, 0) ∧ chT l' ∧ pgsByt l' ∧ l'.length = 4 ∧ l'.length + tls l' ≤ 1048576 ∧ oneRec l' (some (4, 0, body)))
 (b : List T) (hbb : byt b) : Cc lf 14 4 [.sl b] = some [.b true] := by
 refine (f4_eq (Cc lf 13) lf b).trans ?_
 obtain ⟨x, e1, hx1, hx2⟩ := c_at2 (lf := lf) (d := 12) hbb
 have hby : byt (numT (clampN x)) := byt_num (clampN_in x).1 (clampN_in x).2
 have hbl : (numT (clampN x)).length ≤ 10 := Nat.le_trans (numT_len _) (by omega)
 have e2 := c_iPutNum (d := 11) hlf [] x (by simp)
 obtain ⟨l', hw, hf', hp', hl', hs', ho'⟩ := hw0 _ hby hbl
 have e3 := c_iWrite (d := 6) hlf l0 0 [] false 0 4 _ 0 hc (by omega) (by simp) (show (numT (clampN x)).length ≤ 16000000 by omega)
 rw [hw] at e3
 exact lawC (Cc lf 13) lf b l0 l' _ x (c_big (d := 12) b) hdev (c_mount (d := 5) hlf l0 0 0 none hc hp (by omega) (by omega) hs0 h1) e1 e2 e3
  (c_mount (d := 5) hlf l' 1 1 (some (4, 0, _)) hf' hp' (by omega) (by omega) hs' ho') (c_iFsNew (d := 12)) (c_iSame0 (d := 12) hlf) (c_iFsNewOk (d := 11) hlf)
theorem dev4 {lf : Nat} (hlf : 33554432 ≤ lf) : Cc lf 13 15 [T.i .i64 4, T.sl []] = some [.st [.sl (List.replicate 4 blk0), .i .i64 0, .sl [], .b false]] := by
 have := c_iDevN (d := 9) hlf 4 [] (by simp)
 rw [this]
 unfold devNT
 rw [show okN 4 [] = true from rfl, show chipOf 4 = List.replicate 4 blk0 from chipOf_t (n := 4) (by omega)]
 rfl
theorem one0 : oneRec (List.replicate 4 blk0) none := ⟨fun a => by rw [rep_rec (n := 4) (by omega)]; split <;> rfl, .inl rfl⟩
theorem lawB {lf : Nat} (hlf : 33554432 ≤ lf) {t0 : T} (ht0 : fitC (.sl false [.i .u8]) t0) : Cc lf 14 4 [t0] = some [.b true] := by
 obtain ⟨b, rfl, _⟩ := fitC_sl ht0
 have hf : fitC (.sl true chCT) (.sl (List.replicate 4 blk0)) := rep_fit (by omega)
 have hs0 := chip_small1 (rep_chip (n := 4) (by omega)) hf
 refine lawG hlf (List.replicate 4 blk0) (dev4 hlf) (ch_of hf) (pgsByt_of hf) List.length_replicate (by omega) one0 (fun body hby hbl => ?_) b (byt_of ht0)
 obtain ⟨l', hw, hf', hl', hch, hr'⟩ := write_new hby hbl
 have hs' := chip_small1 hch hf'
 exact ⟨l', hw, ch_of hf', pgsByt_of hf', hl', by omega, fun a => by rw [hr']; by_cases e : a = 0 <;> simp [e], .inr ⟨body, rfl, hby, by omega⟩⟩
end Go.Proofs.YtcippopaecnjhaaGreat.T
