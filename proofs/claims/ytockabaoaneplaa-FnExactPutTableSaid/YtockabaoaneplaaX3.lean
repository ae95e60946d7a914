/- What functions of the law FnExactPutTable come to, in trees; no condition. -/
import Derived.Test.YtockabaoaneplaaRows
import Derived.Test.YtockabaoaneplaaX2
set_option linter.unusedVariables false
set_option linter.constructorNameAsVariable false
set_option linter.unusedSimpArgs false
set_option linter.unnecessarySimpa false
namespace Go.Proofs.Ytockabaoaneplaa.T
open Go Go.Proofs.YtockabaoaneplaaV
set_option maxRecDepth 100000
theorem c_l1In {lf d : Nat} (a lo hi : Int) : Cc lf (d + 1) 77 [.i .i64 a, .i .i64 lo, .i .i64 hi] = some [.b (iLe lo a && iLe a hi)] := by
  refine (f77_eq (Cc lf d) lf a lo hi).trans ?_
  unfold f77 f77_t
  exact cond_b _ _
theorem c_from {lf d : Nat} (a lo hi : Int) : Cc lf (d + 1) 76 [.i .i64 a, .i .i64 lo, .i .i64 hi] = some [.b (iLe lo a && iLe a hi)] := by
  refine (f76_eq (Cc lf d) lf a lo hi).trans ?_
  unfold f76 f76_t
  exact cond_b _ _
theorem c_sName {lf d : Nat} (hlf : 33554432 ≤ lf) (s : ByteArray) (hs : s.size ≤ 16777216) : Cc lf (d + 2) 109 [.s s] = some [.b (nameB s)] := by
  refine (f109_eq (Cc lf (d + 1)) lf s).trans ?_
  unfold f109 f109_t
  have L := all_loop (F := fun n j => f109_0 (Cc lf (d + 1)) lf s n j) (P := fun j => chB (byteAt s j)) (X := some [T.i .i64 0, T.b false]) (Y := some [T.i .i64 1, T.s s]) (len := s.size) (fun n j hj => by
    show f109_0_s (Cc lf (d + 1)) lf s _ _ = _
    unfold f109_0_s
    obtain ⟨b0, b1⟩ := byteAt_in s j
    rw [iLt_t (by omega), inR_nat hj, wrapK (x := byteAt s j) (by omega), wrap_next hj (by omega)]
    simp only [c_l1In, Option.bind_some, nth0, asB_b, chB, bne_not, cond_not, cond_and, cond_or, cond_t]) (fun n => by
    show f109_0_s (Cc lf (d + 1)) lf s _ _ = _
    unfold f109_0_s
    rw [iLt_f (by omega)]
    rfl) (n := lf) (by omega)
  simp only at L ⊢
  rw [L]
  unfold nameB
  cases allB (fun j => chB (byteAt s j)) s.size with
  | false => rfl
  | true =>
    simp only [cond_t, Option.bind_some, nth0, nthS, asI_i, asB_b, asS_s, c_l1In, cond_not]
    rw [show ((1 : Int) == 0) = false from rfl, cond_f]
    cases iLe 1 (s.size : Int) <;> cases iLe (s.size : Int) 14 <;> cases (s.toList == (⟨#[46]⟩ : ByteArray).toList) <;> cases (s.toList == (⟨#[46, 46]⟩ : ByteArray).toList) <;> rfl
theorem c_iName {lf d : Nat} (hlf : 33554432 ≤ lf) (s : ByteArray) (hs : s.size ≤ 16777216) : Cc lf (d + 2) 90 [.s s] = some [.b (nameB s)] := by
  refine (f90_eq (Cc lf (d + 1)) lf s).trans ?_
  unfold f90 f90_t
  have L := all_loop (F := fun n j => f90_0 (Cc lf (d + 1)) lf s n j) (P := fun j => chB (byteAt s j)) (X := some [T.i .i64 0, T.b false]) (Y := some [T.i .i64 1, T.s s]) (len := s.size) (fun n j hj => by
    show f90_0_s (Cc lf (d + 1)) lf s _ _ = _
    unfold f90_0_s
    rw [iLt_t (by omega), inR_nat hj, wrap_next hj (by omega)]
    simp only [iLt_le, chB, bne_not, cond_not, cond_and, cond_or, cond_t]) (fun n => by
    show f90_0_s (Cc lf (d + 1)) lf s _ _ = _
    unfold f90_0_s
    rw [iLt_f (by omega)]
    rfl) (n := lf) (by omega)
  simp only at L ⊢
  rw [L]
  unfold nameB
  cases allB (fun j => chB (byteAt s j)) s.size with
  | false => rfl
  | true =>
    simp only [cond_t, Option.bind_some, nth0, nthS, asI_i, asB_b, asS_s, cond_not]
    rw [show ((1 : Int) == 0) = false from rfl, cond_f]
    cases iLe 1 (s.size : Int) <;> cases iLe (s.size : Int) 14 <;> cases (s.toList == (⟨#[46]⟩ : ByteArray).toList) <;> cases (s.toList == (⟨#[46, 46]⟩ : ByteArray).toList) <;> rfl
theorem c_clone {lf d : Nat} {l : List T} (h : l.length ≤ 1073741830) : Cc lf (d + 1) 123 [.sl l] = some [.sl l] := by
  show (bif nLe (0 + l.length) LIM then some [T.sl l] else none) = _
  rw [nLe_t (by unfold LIM; omega)]
  rfl
theorem c_iPutNum {lf d : Nat} (hlf : 33554432 ≤ lf) (b : List T) (n : Int) (hb : b.length ≤ 1073741824) : Cc lf (d + 2) 67 [.sl b, .i .i64 n] = some [.sl (b ++ numT (clampN n))] := by
  refine (f67_eq (Cc lf (d + 1)) lf b n).trans ?_
  unfold f67 f67_t
  dsimp only
  have hc := clampN_in n
  obtain ⟨y, l', h1, h2, h3, h4, h5⟩ := put_loop (F := fun n x l => f67_0 (Cc lf (d + 1)) lf n x l) (fun n x l h0 h1 hl => by
    rw [f67_0_u]
    unfold f67_0_s
    by_cases h : 127 < x
    · rw [iLe_t (by omega), if_pos h, nLe_app (by omega), Int.tdiv_eq_ediv_of_nonneg h0, Int.tmod_eq_emod_of_nonneg h0, wrap_in (x := x / 128) (by omega) (by omega), wrap_in (by omega) (by omega), wrap8 (by omega) (by omega)]
      rfl
    · rw [iLe_f (by omega), if_neg h]
      rfl) (n := lf) (by omega) (x := clampN n) (l := b) hc.1 hc.2 hb
  rw [c_clone (by omega), Option.bind_some, nth0, asL_l, show imax 0 (imin n 1000000) = clampN n by unfold imax imin clampN; split <;> split <;> (try split) <;> omega, h1]
  simp only [Option.bind_some, nth0, nthS, asL_l, asI_i]
  rw [nLe_app (by omega), wrap8 h3 (by omega), ← h2]
  rfl
theorem c_sPutNum {lf d : Nat} (hlf : 33554432 ≤ lf) (b : List T) (n : Int) (hb : b.length ≤ 1073741824) : Cc lf (d + 2) 79 [.sl b, .i .i64 n] = some [.sl (b ++ numT (clampN n))] := by
  refine (f79_eq (Cc lf (d + 1)) lf b n).trans ?_
  unfold f79 f79_t
  dsimp only
  have hc := clampN_in n
  have L : ∀ (n : Nat) (x : Int) (l : List T), 0 ≤ x → x ≤ 1000000 → l.length ≤ 1073741827 → f79_0 (Cc lf (d + 1)) lf (n + 1) x l = if 127 < x then f79_0 (Cc lf (d + 1)) lf n (x / 128) (l ++ [by8 (x % 128 + 128)]) else some [T.i .i64 0, T.i .i64 x, T.sl l] := fun n x l h0 h1 hl => by
    rw [f79_0_u]
    unfold f79_0_s
    by_cases h : 127 < x
    · rw [iLt_t h, if_pos h, nLe_app (by omega), and_mod h0 (by omega), or128 (by omega) (by omega), wrap8 (by omega) (by omega), show (7 : Int) = ((7 : Nat) : Int) from rfl, shr_div (by omega) h0]
      rfl
    · rw [iLt_f h, if_neg h]
      rfl
  have L2 : ∀ (n : Nat) (x : Int) (l : List T), 0 ≤ x → x ≤ 1000000 → l.length ≤ 1073741827 → f79_2 (Cc lf (d + 1)) lf (n + 1) x l = if 127 < x then f79_2 (Cc lf (d + 1)) lf n (x / 128) (l ++ [by8 (x % 128 + 128)]) else some [T.i .i64 0, T.i .i64 x, T.sl l] := fun n x l h0 h1 hl => by
    rw [f79_2_u]
    unfold f79_2_s
    by_cases h : 127 < x
    · rw [iLt_t h, if_pos h, nLe_app (by omega), and_mod h0 (by omega), or128 (by omega) (by omega), wrap8 (by omega) (by omega), show (7 : Int) = ((7 : Nat) : Int) from rfl, shr_div (by omega) h0]
      rfl
    · rw [iLt_f h, if_neg h]
      rfl
  rw [nLe_t (show ([] : List T).length + b.length ≤ LIM by unfold LIM; simp; omega), cond_true]
  by_cases hn : 1000000 < n
  · obtain ⟨y, l', h1, h2, h3, h4, h5⟩ := put_loop (F := fun n x l => f79_0 (Cc lf (d + 1)) lf n x l) L (n := lf) (by omega) (x := 1000000) (l := b) (by omega) (by omega) hb
    rw [iLt_t hn, cond_true, List.nil_append, h1]
    simp only [Option.bind_some, nth0, nthS, asL_l, asI_i]
    rw [nLe_app (by omega), wrap8 h3 (by omega), show clampN n = 1000000 by unfold clampN; rw [if_neg (by omega), if_pos (by omega)], ← h2]
    rfl
  · by_cases hm : n < 0
    · rw [iLt_f hn, cond_false, iLt_t hm, cond_true]
      obtain ⟨m, rfl⟩ : ∃ m, lf = m + 1 := ⟨lf - 1, by omega⟩
      show ((some [T.i .i64 0, T.i .i64 0, T.sl (([] : List T) ++ b)] : Option (List T)).bind _) = _
      simp only [Option.bind_some, nth0, nthS, asL_l, asI_i, List.nil_append]
      rw [nLe_app (by omega), show clampN n = 0 by unfold clampN; rw [if_pos hm]]
      rfl
    · obtain ⟨y, l', h1, h2, h3, h4, h5⟩ := put_loop (F := fun n x l => f79_2 (Cc lf (d + 1)) lf n x l) L2 (n := lf) (by omega) (x := n) (l := b) (by omega) (by omega) hb
      rw [iLt_f hn, cond_false, iLt_f hm, cond_false, List.nil_append, h1]
      simp only [Option.bind_some, nth0, nthS, asL_l, asI_i]
      rw [nLe_app (by omega), wrap8 h3 (by omega), clampN_id (by omega) (by omega), ← h2]
      rfl
/-- Is row j right? -/
def rowB (nx : Int) (l : List T) (j : Nat) : Bool :=
  !iLt (asI (T.cell (l.getD j T.u) 0)) 1 && (!iLe nx (asI (T.cell (l.getD j T.u) 0)) && (nameB (asS (T.cell (l.getD j T.u) 1)) && ((iLe 32 (asI (T.cell (l.getD j T.u) 3)) && iLe (asI (T.cell (l.getD j T.u) 3)) 4000) &&
    ((iLe 0 (asI (T.cell (l.getD j T.u) 4)) && iLe (asI (T.cell (l.getD j T.u) 4)) 191) && ((!iLt 0 (j : Int) || !iLe (asI (T.cell (l.getD j T.u) 0)) (asI (T.cell (l.getD (j - 1) T.u) 0))) &&
      allB (fun i => !((asS (T.cell (l.getD i T.u) 1)).toList == (asS (T.cell (l.getD j T.u) 1)).toList)) j)))))
def tableB (nx : Int) (l : List T) : Bool := allB (rowB nx l) l.length && (iLe (l.length : Int) 6 && (iLe 1 nx && iLe nx 99))

theorem rows_name {l : List T} {n : Nat} (hs : n + tls l ≤ 16777216) {j : Nat} (h : j < l.length) : (asS (T.cell (l.getD j T.u) 1)).size ≤ 16777216 := by
  have h1 := tl_mem (List.getElem_mem h)
  rw [List.getD_eq_getElem?_getD, List.getElem?_eq_getElem h]
  show (asS (T.cell l[j] 1)).size ≤ _
  cases e : l[j] <;> try (simp only [T.cell, asS]; exact Nat.zero_le _)
  rename_i xs
  rw [e] at h1
  simp only [T.cell, tl] at h1 ⊢
  cases e2 : xs[1]? with
  | none => rw [List.getD_eq_getElem?_getD, e2]; exact Nat.zero_le _
  | some x =>
    rw [List.getD_eq_getElem?_getD, e2]
    have h3 := tl_mem (List.mem_of_getElem? e2)
    show (asS x).size ≤ _
    cases x <;> try (exact Nat.zero_le _)
    simp only [tl, asS] at h3 ⊢
    omega

theorem c_sTable {lf d : Nat} (hlf : 33554432 ≤ lf) (nx : Int) (l : List T) (hs : l.length + tls l ≤ 16777216) : Cc lf (d + 3) 53 [.st [.i .i64 nx, .sl l]] = some [.b (tableB nx l)] := by
  refine (f53_eq (Cc lf (d + 2)) lf nx l).trans ?_
  unfold f53 f53_t
  have L := all_loop (F := fun n j => f53_0 (Cc lf (d + 2)) lf n j nx l) (P := rowB nx l) (X := some [T.i .i64 0, T.b false]) (Y := some [T.i .i64 1, T.i .i64 nx, T.sl l]) (len := l.length) (fun n j hj => by
    show f53_0 (Cc lf (d + 2)) lf (n + 1) _ nx l = _
    rw [f53_0_u]
    unfold f53_0_s
    have A1 := all_loop (F := fun n i => f53_1 (Cc lf (d + 2)) lf j nx l n i) (P := fun i => !((asS (T.cell (l.getD i T.u) 1)).toList == (asS (T.cell (l.getD j T.u) 1)).toList)) (X := some [T.i .i64 1, T.b false]) (Y := some [T.i .i64 0, T.i .i64 j, T.i .i64 nx, T.sl l]) (len := j) (fun n i hi => by
      show f53_1_s (Cc lf (d + 2)) lf _ _ _ _ _ = _
      unfold f53_1_s
      rw [iLt_t (by omega), inR_nat (by omega), wrap_next hi (by omega)]
      simp only [cond_t, cond_not, Int.toNat_natCast]) (fun n => by
      show f53_1_s (Cc lf (d + 2)) lf _ _ _ _ _ = _
      unfold f53_1_s
      rw [iLt_f (by omega)]
      rfl) (n := lf) (by omega)
    have A2 := all_loop (F := fun n i => f53_2 (Cc lf (d + 2)) lf j nx l n i) (P := fun i => !((asS (T.cell (l.getD i T.u) 1)).toList == (asS (T.cell (l.getD j T.u) 1)).toList)) (X := some [T.i .i64 1, T.b false]) (Y := some [T.i .i64 0, T.i .i64 j, T.i .i64 nx, T.sl l]) (len := j) (fun n i hi => by
      show f53_2_s (Cc lf (d + 2)) lf _ _ _ _ _ = _
      unfold f53_2_s
      rw [iLt_t (by omega), inR_nat (by omega), wrap_next hi (by omega)]
      simp only [cond_t, cond_not, Int.toNat_natCast]) (fun n => by
      show f53_2_s (Cc lf (d + 2)) lf _ _ _ _ _ = _
      unfold f53_2_s
      rw [iLt_f (by omega)]
      rfl) (n := lf) (by omega)
    rw [iLt_t (by omega), inR_nat hj]
    simp only [c_sName hlf _ (rows_name hs hj), c_l1In, Option.bind_some, nth0, asB_b, rowB, cond_not, cond_and, cond_or, cond_t, Int.toNat_natCast, A1, A2]
    cases h0 : iLt 0 (j : Int) with
    | true =>
      have hj0 : 0 < j := by have := iLt_iff.1 h0; omega
      rw [wrap_pred hj0 (by omega), inR_nat (by omega)]
      simp only [cond_t, cond_f, Int.toNat_natCast]
      cases allB (fun i => !((asS (T.cell (l.getD i T.u) 1)).toList == (asS (T.cell (l.getD j T.u) 1)).toList)) j with
      | true => simp only [cond_t, Option.bind_some, nth0, nthS, asI_i, asL_l, beq_self_eq_true, wrap_next hj (show l.length ≤ 9223372036854775807 by omega)]
      | false => rfl
    | false =>
      simp only [cond_t, cond_f]
      cases allB (fun i => !((asS (T.cell (l.getD i T.u) 1)).toList == (asS (T.cell (l.getD j T.u) 1)).toList)) j with
      | true => simp only [cond_t, Option.bind_some, nth0, nthS, asI_i, asL_l, beq_self_eq_true, wrap_next hj (show l.length ≤ 9223372036854775807 by omega)]
      | false => rfl) (fun n => by
    show f53_0 (Cc lf (d + 2)) lf (n + 1) _ nx l = _
    rw [f53_0_u]
    unfold f53_0_s
    rw [iLt_f (by omega)]
    rfl) (n := lf) (by omega)
  simp only at L ⊢
  rw [L]
  unfold tableB
  cases allB (rowB nx l) l.length with
  | false => rfl
  | true =>
    simp only [cond_t, Option.bind_some, nth0, nthS, asI_i, asB_b, asL_l, c_l1In]
    rw [show ((1 : Int) == 0) = false from rfl, cond_f]
    cases iLe (l.length : Int) 6 <;> rfl

theorem c_iTable {lf d : Nat} (hlf : 33554432 ≤ lf) (nx : Int) (l : List T) (hs : l.length + tls l ≤ 16777216) : Cc lf (d + 3) 52 [.st [.i .i64 nx, .sl l]] = some [.b (tableB nx l)] := by
  refine (f52_eq (Cc lf (d + 2)) lf nx l).trans ?_
  unfold f52 f52_t
  have cl : ∀ a, Cc lf (d + 2) 106 [.i .i64 a] = some [.b (iLe 32 a && iLe a 4000)] := fun a => by
    refine (f106_eq (Cc lf (d + 1)) lf a).trans ?_
    unfold f106 f106_t
    rw [c_from]
    rfl
  have L := all_loop (F := fun n j => f52_0 (Cc lf (d + 2)) lf l nx n j) (P := rowB nx l) (X := some [T.i .i64 0, T.b false]) (Y := some [T.i .i64 1, T.i .i64 nx, T.sl l]) (len := l.length) (fun n j hj => by
    show f52_0 (Cc lf (d + 2)) lf l nx (n + 1) _ = _
    rw [f52_0_u]
    unfold f52_0_s
    have ht : (l.take j).length = j := by rw [List.length_take]; omega
    have hg : ∀ i, i < j → (l.take j).getD i T.u = l.getD i T.u := fun i hi => by rw [List.getD_eq_getElem?_getD, List.getD_eq_getElem?_getD, List.getElem?_take_of_lt hi]
    have A1 := find_loop (F := fun n i => f52_1 (Cc lf (d + 2)) lf l j n i) (P := fun i => !((asS (T.cell (l.getD i T.u) 1)).toList == (asS (T.cell (l.getD j T.u) 1)).toList)) (X := fun i => some [T.i .i64 0, T.i .i64 i, T.i .i64 (asI (T.cell (l.getD j T.u) 0)), T.s (asS (T.cell (l.getD j T.u) 1)), T.b (asB (T.cell (l.getD j T.u) 2)), T.i .i64 (asI (T.cell (l.getD j T.u) 3)), T.i .i64 (asI (T.cell (l.getD j T.u) 4))])
      (Y := some [T.i .i64 1, T.i .i64 (asI (T.cell (l.getD j T.u) 0)), T.s (asS (T.cell (l.getD j T.u) 1)), T.b (asB (T.cell (l.getD j T.u) 2)), T.i .i64 (asI (T.cell (l.getD j T.u) 3)), T.i .i64 (asI (T.cell (l.getD j T.u) 4))]) (len := j) (fun n i hi => by
      show f52_1_s (Cc lf (d + 2)) lf _ _ _ _ = _
      unfold f52_1_s
      simp only [Int.toNat_natCast, ht, hg i hi]
      rw [iLt_t (by omega), inR_nat (by omega), wrap_next hi (by omega)]
      simp only [cond_t, cond_not]) (fun n => by
      show f52_1_s (Cc lf (d + 2)) lf _ _ _ _ = _
      unfold f52_1_s
      simp only [Int.toNat_natCast, ht]
      rw [iLt_f (by omega)]
      rfl) (n := lf) (by omega)
    have A2 := find_loop (F := fun n i => f52_2 (Cc lf (d + 2)) lf l j n i) (P := fun i => !((asS (T.cell (l.getD i T.u) 1)).toList == (asS (T.cell (l.getD j T.u) 1)).toList)) (X := fun i => some [T.i .i64 0, T.i .i64 i, T.i .i64 (asI (T.cell (l.getD j T.u) 0)), T.s (asS (T.cell (l.getD j T.u) 1)), T.b (asB (T.cell (l.getD j T.u) 2)), T.i .i64 (asI (T.cell (l.getD j T.u) 3)), T.i .i64 (asI (T.cell (l.getD j T.u) 4))])
      (Y := some [T.i .i64 1, T.i .i64 (asI (T.cell (l.getD j T.u) 0)), T.s (asS (T.cell (l.getD j T.u) 1)), T.b (asB (T.cell (l.getD j T.u) 2)), T.i .i64 (asI (T.cell (l.getD j T.u) 3)), T.i .i64 (asI (T.cell (l.getD j T.u) 4))]) (len := j) (fun n i hi => by
      show f52_2_s (Cc lf (d + 2)) lf _ _ _ _ = _
      unfold f52_2_s
      simp only [Int.toNat_natCast, ht, hg i hi]
      rw [iLt_t (by omega), inR_nat (by omega), wrap_next hi (by omega)]
      simp only [cond_t, cond_not]) (fun n => by
      show f52_2_s (Cc lf (d + 2)) lf _ _ _ _ = _
      unfold f52_2_s
      simp only [Int.toNat_natCast, ht]
      rw [iLt_f (by omega)]
      rfl) (n := lf) (by omega)
    rw [iLt_t (by omega), inR_nat hj]
    simp only [c_iName hlf _ (rows_name hs hj), cl, c_from, Option.bind_some, nth0, asB_b, rowB, cond_not, cond_and, cond_or, cond_t, Int.toNat_natCast]
    rw [iLe_t (show (0 : Int) ≤ (j : Int) by omega), iLe_t (show (j : Int) ≤ (l.length : Int) by omega)]
    simp only [cond_t, Bool.and_self]
    cases iLt (asI (T.cell (l.getD j T.u) 0)) 1 <;> simp only [cond_t, cond_f]
    cases iLe nx (asI (T.cell (l.getD j T.u) 0)) <;> simp only [cond_t, cond_f]
    cases h0 : iLt 0 (j : Int) with
    | true =>
      have hj0 : 0 < j := by have := iLt_iff.1 h0; omega
      rw [wrap_pred hj0 (by omega), inR_nat (by omega)]
      simp only [cond_t, cond_f, Int.toNat_natCast]
      rcases A1 with ⟨p1, p2⟩ | ⟨p1, i, p3, _, p2⟩
      · rw [p1, p2, wrap_next hj (by omega)]
        simp only [cond_t, cond_f, Option.bind_some, nth0, asI_i]
        rw [show ((1 : Int) == 0) = false from rfl]
        cases nameB (asS (T.cell (l.getD j T.u) 1)) <;> cases iLe (asI (T.cell (l.getD j T.u) 0)) (asI (T.cell (l.getD (j - 1) T.u) 0)) <;> cases iLe 32 (asI (T.cell (l.getD j T.u) 3)) <;> cases iLe (asI (T.cell (l.getD j T.u) 3)) 4000 <;> cases iLe 0 (asI (T.cell (l.getD j T.u) 4)) <;> cases iLe (asI (T.cell (l.getD j T.u) 4)) 191 <;> rfl
      · rw [p1, p2]
        simp only [cond_t, cond_f, Option.bind_some, nth0, nthS, asI_i]
        rw [show ((0 : Int) == 0) = true from rfl, iLe_t (show (0 : Int) ≤ (i : Int) by omega)]
        cases nameB (asS (T.cell (l.getD j T.u) 1)) <;> cases iLe (asI (T.cell (l.getD j T.u) 0)) (asI (T.cell (l.getD (j - 1) T.u) 0)) <;> cases iLe 32 (asI (T.cell (l.getD j T.u) 3)) <;> cases iLe (asI (T.cell (l.getD j T.u) 3)) 4000 <;> cases iLe 0 (asI (T.cell (l.getD j T.u) 4)) <;> cases iLe (asI (T.cell (l.getD j T.u) 4)) 191 <;> rfl
    | false =>
      simp only [cond_t, cond_f]
      rcases A2 with ⟨p1, p2⟩ | ⟨p1, i, p3, _, p2⟩
      · rw [p1, p2, wrap_next hj (by omega)]
        simp only [cond_t, cond_f, Option.bind_some, nth0, asI_i]
        rw [show ((1 : Int) == 0) = false from rfl]
        cases nameB (asS (T.cell (l.getD j T.u) 1)) <;> cases iLe 32 (asI (T.cell (l.getD j T.u) 3)) <;> cases iLe (asI (T.cell (l.getD j T.u) 3)) 4000 <;> cases iLe 0 (asI (T.cell (l.getD j T.u) 4)) <;> cases iLe (asI (T.cell (l.getD j T.u) 4)) 191 <;> rfl
      · rw [p1, p2]
        simp only [cond_t, cond_f, Option.bind_some, nth0, nthS, asI_i]
        rw [show ((0 : Int) == 0) = true from rfl, iLe_t (show (0 : Int) ≤ (i : Int) by omega)]
        cases nameB (asS (T.cell (l.getD j T.u) 1)) <;> cases iLe 32 (asI (T.cell (l.getD j T.u) 3)) <;> cases iLe (asI (T.cell (l.getD j T.u) 3)) 4000 <;> cases iLe 0 (asI (T.cell (l.getD j T.u) 4)) <;> cases iLe (asI (T.cell (l.getD j T.u) 4)) 191 <;> rfl) (fun n => by
    show f52_0 (Cc lf (d + 2)) lf l nx (n + 1) _ = _
    rw [f52_0_u]
    unfold f52_0_s
    rw [iLt_f (by omega)]
    rfl) (n := lf) (by omega)
  simp only at L ⊢
  rw [L]
  unfold tableB
  cases allB (rowB nx l) l.length with
  | false => rfl
  | true =>
    simp only [cond_t, Option.bind_some, nth0, nthS, asI_i, asB_b, asL_l, c_from]
    rw [show ((1 : Int) == 0) = false from rfl, cond_f]
    cases iLe (l.length : Int) 6 <;> cases iLe 1 nx <;> cases iLe nx 99 <;> rfl
theorem c_iPutText {lf d : Nat} (hlf : 33554432 ≤ lf) (b : List T) (s : ByteArray) (hb : b.length ≤ 1073741824) (hs : s.size ≤ 1073741824) : Cc lf (d + 3) 82 [.sl b, .s s] = some [.sl (b ++ textT s)] := by
  refine (f82_eq (Cc lf (d + 2)) lf b s).trans ?_
  unfold f82 f82_t
  have h1 := numT_len (clampN (s.size : Int))
  rw [c_iPutNum hlf _ _ hb, Option.bind_some, nth0, asL_l, nLe_t (by unfold LIM; rw [List.length_append, listOf_len]; omega), cond_t, List.append_assoc]
  rfl
theorem c_sPutText {lf d : Nat} (hlf : 33554432 ≤ lf) (b : List T) (s : ByteArray) (hb : b.length ≤ 1073741824) (hs : s.size ≤ 1073741824) : Cc lf (d + 3) 80 [.sl b, .s s] = some [.sl (b ++ textT s)] := by
  refine (f80_eq (Cc lf (d + 2)) lf b s).trans ?_
  unfold f80 f80_t
  have h1 := numT_len (clampN (s.size : Int))
  rw [c_sPutNum hlf _ _ hb, Option.bind_some, nth0, asL_l, nLe_t (by unfold LIM; rw [List.length_append, listOf_len]; omega), cond_t, List.append_assoc]
  rfl
def rowT (x : T) : List T := numT (clampN (asI (T.cell x 0))) ++ (textT (asS (T.cell x 1)) ++ (numT (bif asB (T.cell x 2) then 1 else 0) ++ (numT (clampN (asI (T.cell x 3))) ++ numT (clampN (asI (T.cell x 4))))))
def putRows : List T → List T → List T
  | b, [] => b
  | b, x :: l => putRows (b ++ rowT x) l
def putTableT (nx : Int) (l : List T) : List T := putRows (numT (clampN nx) ++ numT (clampN (l.length : Int))) l
theorem rowT_len {x : T} (h : (asS (T.cell x 1)).size ≤ 14) : (rowT x).length ≤ 40 := by
  have h1 := numT_len (clampN (asI (T.cell x 0)))
  have h2 := textT_len (asS (T.cell x 1))
  have h3 := numT_len (bif asB (T.cell x 2) then 1 else 0)
  have h4 := numT_len (clampN (asI (T.cell x 3)))
  have h5 := numT_len (clampN (asI (T.cell x 4)))
  simp only [rowT, List.length_append]
  omega
theorem rowT_byt (x : T) : byt (rowT x) := by
  have h3 : byt (numT (bif asB (T.cell x 2) then 1 else 0)) := by cases asB (T.cell x 2) <;> exact byt_num (by simp) (by simp)
  exact byt_app (byt_num (clampN_in _).1 (clampN_in _).2) (byt_app (byt_text _) (byt_app h3 (byt_app (byt_num (clampN_in _).1 (clampN_in _).2) (byt_num (clampN_in _).1 (clampN_in _).2))))
theorem putRows_len : ∀ (l : List T) (b : List T), (∀ x ∈ l, (asS (T.cell x 1)).size ≤ 14) → (putRows b l).length ≤ b.length + 40 * l.length
  | [], b, _ => by simp [putRows]
  | x :: l, b, h => by
    have := putRows_len l (b ++ rowT x) fun y hy => h y (List.mem_cons_of_mem _ hy)
    have h1 := rowT_len (h x (List.mem_cons_self ..))
    simp only [putRows, List.length_append, List.length_cons] at this ⊢
    omega
theorem putRows_byt : ∀ (l : List T) (b : List T), byt b → byt (putRows b l)
  | [], b, h => h
  | x :: l, b, h => putRows_byt l _ (byt_app h (rowT_byt x))
theorem putRows_drop {l : List T} {j : Nat} (h : j < l.length) (b : List T) : putRows b (l.drop j) = putRows (b ++ rowT (l.getD j .u)) (l.drop (j + 1)) := by
  rw [List.drop_eq_getElem_cons h, List.getD_eq_getElem?_getD, List.getElem?_eq_getElem h]
  rfl
theorem nameB_len {s : ByteArray} (h : nameB s = true) : s.size ≤ 14 := by
  unfold nameB at h
  simp only [Bool.and_eq_true, iLe_iff] at h
  omega
theorem tableB_row {nx : Int} {l : List T} (h : tableB nx l = true) : l.length ≤ 6 ∧ ∀ j, j < l.length → (asS (T.cell (l.getD j .u) 1)).size ≤ 14 := by
  unfold tableB at h
  simp only [Bool.and_eq_true, iLe_iff] at h
  refine ⟨by omega, fun j hj => ?_⟩
  have := allB_iff.1 h.1 j hj
  unfold rowB at this
  simp only [Bool.and_eq_true] at this
  exact nameB_len this.2.2.1
theorem c_sPutTable {lf d : Nat} (hlf : 33554432 ≤ lf) (nx : Int) (l : List T) (hs : l.length + tls l ≤ 16777216) : Cc lf (d + 4) 24 [.st [.i .i64 nx, .sl l]] = some [.sl (bif tableB nx l then putTableT nx l else [])] := by
  refine (f24_eq (Cc lf (d + 3)) lf nx l).trans ?_
  unfold f24 f24_t
  dsimp only
  rw [c_sTable hlf nx l hs]
  simp only [Option.bind_some, nth0, asB_b]
  cases hm : tableB nx l with
  | false => rfl
  | true =>
    obtain ⟨hl, hrow⟩ := tableB_row hm
    have q1 := numT_len (clampN nx)
    have q2 := numT_len (clampN (l.length : Int))
    have L : ∀ (k j n : Nat) (b : List T), j + k = l.length → k < n → b.length ≤ 1000 + 40 * j → f24_0 (Cc lf (d + 3)) lf l nx n j b = some [T.i .i64 0, T.sl (putRows b (l.drop j))] := by
      intro k
      induction k with
      | zero =>
        intro j n b hj hn hb
        obtain ⟨n, rfl⟩ : ∃ m, n = m + 1 := ⟨n - 1, by omega⟩
        rw [f24_0_u]
        unfold f24_0_s
        rw [iLt_f (by omega), List.drop_eq_nil_of_le (by omega)]
        rfl
      | succ k ih =>
        intro j n b hj hn hb
        obtain ⟨n, rfl⟩ : ∃ m, n = m + 1 := ⟨n - 1, by omega⟩
        have hj' : j < l.length := by omega
        have h14 := hrow j hj'
        rw [f24_0_u]
        unfold f24_0_s
        have r1 := numT_len (clampN (asI (T.cell (l.getD j .u) 0)))
        have r2 := textT_len (asS (T.cell (l.getD j .u) 1))
        have r3 := numT_len (clampN (asI (T.cell (l.getD j .u) 3)))
        have r4 := numT_len (clampN (asI (T.cell (l.getD j .u) 4)))
        have r5 := numT_len 0
        have r6 := numT_len 1
        rw [iLt_t (by omega), inR_nat hj', wrap_next hj' (by omega), putRows_drop hj']
        simp only [cond_t, Int.toNat_natCast]
        have hrow := rowT_len h14
        have fin := ih (j + 1) n (b ++ rowT (l.getD j .u)) (by omega) (by omega) (by rw [List.length_append]; omega)
        unfold rowT at fin ⊢
        generalize asB (T.cell (l.getD j .u) 2) = ro at fin ⊢
        cases ro with
        | true =>
          simp only [cond_t] at fin ⊢
          rw [c_sPutNum hlf _ _ (by omega)]
          simp only [Option.bind_some, nth0, asL_l]
          rw [c_sPutText hlf _ _ (by rw [List.length_append]; omega) (by omega)]
          simp only [Option.bind_some, nth0, asL_l]
          rw [c_sPutNum hlf _ _ (by simp only [List.length_append]; omega)]
          simp only [Option.bind_some, nth0, asL_l]
          rw [c_sPutNum hlf _ _ (by simp only [List.length_append]; rw [show clampN 1 = 1 from rfl]; omega)]
          simp only [Option.bind_some, nth0, asL_l]
          rw [c_sPutNum hlf _ _ (by simp only [List.length_append]; rw [show clampN 1 = 1 from rfl]; omega)]
          simp only [Option.bind_some, nth0, asL_l, List.append_assoc, show clampN 1 = 1 from rfl]
          exact fin
        | false =>
          simp only [cond_f] at fin ⊢
          rw [c_sPutNum hlf _ _ (by omega)]
          simp only [Option.bind_some, nth0, asL_l]
          rw [c_sPutText hlf _ _ (by rw [List.length_append]; omega) (by omega)]
          simp only [Option.bind_some, nth0, asL_l]
          rw [c_sPutNum hlf _ _ (by simp only [List.length_append]; omega)]
          simp only [Option.bind_some, nth0, asL_l]
          rw [c_sPutNum hlf _ _ (by simp only [List.length_append]; rw [show clampN 0 = 0 from rfl]; omega)]
          simp only [Option.bind_some, nth0, asL_l]
          rw [c_sPutNum hlf _ _ (by simp only [List.length_append]; rw [show clampN 0 = 0 from rfl]; omega)]
          simp only [Option.bind_some, nth0, asL_l, List.append_assoc, show clampN 0 = 0 from rfl]
          exact fin
    have L0 := L l.length 0 lf (numT (clampN nx) ++ numT (clampN (l.length : Int))) (by omega) (by omega) (by simp only [List.length_append]; omega)
    simp only [Bool.not_true, cond_f, cond_t]
    rw [c_sPutNum hlf _ _ (by simp)]
    simp only [Option.bind_some, nth0, asL_l, List.nil_append]
    rw [c_sPutNum hlf _ _ (by omega)]
    simp only [Option.bind_some, nth0, asL_l]
    rw [show ((0 : Nat) : Int) = 0 from rfl] at L0
    rw [L0]
    rfl
theorem c_iPutTable {lf d : Nat} (hlf : 33554432 ≤ lf) (nx : Int) (l : List T) (hs : l.length + tls l ≤ 16777216) : Cc lf (d + 4) 26 [.st [.i .i64 nx, .sl l]] = some [.sl (bif tableB nx l then putTableT nx l else [])] := by
  refine (f26_eq (Cc lf (d + 3)) lf nx l).trans ?_
  unfold f26 f26_t
  dsimp only
  rw [c_iTable hlf nx l hs]
  simp only [Option.bind_some, nth0, asB_b]
  cases hm : tableB nx l with
  | false => rfl
  | true =>
    obtain ⟨hl, hrow⟩ := tableB_row hm
    have q1 := numT_len (clampN nx)
    have q2 := numT_len (clampN (l.length : Int))
    have L : ∀ (k j n : Nat) (b : List T), j + k = l.length → k < n → b.length ≤ 1000 + 40 * j → f26_0 (Cc lf (d + 3)) lf l n j b = some [T.i .i64 0, T.sl (putRows b (l.drop j))] := by
      intro k
      induction k with
      | zero =>
        intro j n b hj hn hb
        obtain ⟨n, rfl⟩ : ∃ m, n = m + 1 := ⟨n - 1, by omega⟩
        rw [f26_0_u]
        unfold f26_0_s
        rw [iLt_f (by omega), List.drop_eq_nil_of_le (by omega)]
        rfl
      | succ k ih =>
        intro j n b hj hn hb
        obtain ⟨n, rfl⟩ : ∃ m, n = m + 1 := ⟨n - 1, by omega⟩
        have hj' : j < l.length := by omega
        have h14 := hrow j hj'
        rw [f26_0_u]
        unfold f26_0_s
        have r1 := numT_len (clampN (asI (T.cell (l.getD j .u) 0)))
        have r2 := textT_len (asS (T.cell (l.getD j .u) 1))
        have r3 := numT_len (clampN (asI (T.cell (l.getD j .u) 3)))
        have r4 := numT_len (clampN (asI (T.cell (l.getD j .u) 4)))
        have r5 := numT_len 0
        have r6 := numT_len 1
        rw [iLt_t (by omega), inR_nat hj', wrap_next hj' (by omega), putRows_drop hj']
        simp only [cond_t, Int.toNat_natCast]
        have hrow := rowT_len h14
        have fin := ih (j + 1) n (b ++ rowT (l.getD j .u)) (by omega) (by omega) (by rw [List.length_append]; omega)
        unfold rowT at fin ⊢
        rw [c_iPutNum hlf _ _ (by omega)]
        simp only [Option.bind_some, nth0, asL_l]
        rw [c_iPutText hlf _ _ (by rw [List.length_append]; omega) (by omega)]
        simp only [Option.bind_some, nth0, asL_l]
        generalize asB (T.cell (l.getD j .u) 2) = ro at fin ⊢
        cases ro with
        | true =>
          simp only [cond_t] at fin ⊢
          rw [c_iPutNum hlf _ _ (by simp only [List.length_append]; omega)]
          simp only [Option.bind_some, nth0, asL_l]
          rw [c_iPutNum hlf _ _ (by simp only [List.length_append]; rw [show clampN 1 = 1 from rfl]; omega)]
          simp only [Option.bind_some, nth0, asL_l]
          rw [c_iPutNum hlf _ _ (by simp only [List.length_append]; rw [show clampN 1 = 1 from rfl]; omega)]
          simp only [Option.bind_some, nth0, asL_l, List.append_assoc, show clampN 1 = 1 from rfl]
          exact fin
        | false =>
          simp only [cond_f] at fin ⊢
          rw [c_iPutNum hlf _ _ (by simp only [List.length_append]; omega)]
          simp only [Option.bind_some, nth0, asL_l]
          rw [c_iPutNum hlf _ _ (by simp only [List.length_append]; rw [show clampN 0 = 0 from rfl]; omega)]
          simp only [Option.bind_some, nth0, asL_l]
          rw [c_iPutNum hlf _ _ (by simp only [List.length_append]; rw [show clampN 0 = 0 from rfl]; omega)]
          simp only [Option.bind_some, nth0, asL_l, List.append_assoc, show clampN 0 = 0 from rfl]
          exact fin
    have L0 := L l.length 0 lf (numT (clampN nx) ++ numT (clampN (l.length : Int))) (by omega) (by omega) (by simp only [List.length_append]; omega)
    simp only [Bool.not_true, cond_f, cond_t]
    rw [c_iPutNum hlf _ _ (by simp)]
    simp only [Option.bind_some, nth0, asL_l, List.nil_append]
    rw [c_iPutNum hlf _ _ (by omega)]
    simp only [Option.bind_some, nth0, asL_l]
    rw [show ((0 : Nat) : Int) = 0 from rfl] at L0
    rw [L0]
    rfl
theorem same {lf : Nat} (hlf : 33554432 ≤ lf) (nx : Int) (l : List T) (hf : fitE true csfit_iMisbiiE (.st [.i .i64 nx, .sl l])) (z : tl (.st [.i .i64 nx, .sl l]) ≤ 1048576) :
    ∃ r, Cc lf 6 24 [.st [.i .i64 nx, .sl l]] = some [r] ∧ Cc lf 6 26 [.st [.i .i64 nx, .sl l]] = some [r] ∧ (fitC (.sl false [.i .u8]) r ∧ tl r ≤ 16777216) ∧ True := by
  simp only [tl, tls] at z
  have hb : byt (bif tableB nx l then putTableT nx l else []) := by
    cases tableB nx l with
    | false => exact byt_nil
    | true => exact putRows_byt _ _ (byt_app (byt_num (clampN_in _).1 (clampN_in _).2) (byt_num (clampN_in _).1 (clampN_in _).2))
  have hl : (bif tableB nx l then putTableT nx l else []).length ≤ 16000000 := by
    cases hm : tableB nx l with
    | false => simp
    | true =>
      obtain ⟨h6, hrow⟩ := tableB_row hm
      have := putRows_len l (numT (clampN nx) ++ numT (clampN (l.length : Int))) fun x hx => by
        obtain ⟨j, hj, rfl⟩ := List.mem_iff_getElem.1 hx
        have := hrow j hj
        rw [List.getD_eq_getElem?_getD, List.getElem?_eq_getElem hj] at this
        exact this
      have h1 := numT_len (clampN nx)
      have h2 := numT_len (clampN (l.length : Int))
      simp only [List.length_append] at this
      simp only [cond_t, putTableT]
      omega
  exact ⟨_, c_sPutTable (d := 2) hlf nx l (by omega), c_iPutTable (d := 2) hlf nx l (by omega), ⟨byt_fit hb (by unfold maxLen; omega), by simp only [tl, byt_tls hb]; omega⟩, trivial⟩
/-- The law answers true. -/
theorem lawB {lf : Nat} (hlf : 33554432 ≤ lf) {t0 : T} (ht0 : fitE true csfit_iMisbiiE t0) : Cc lf 7 4 [t0] = some [.b true] := by
  have hf0 := ht0
  obtain ⟨p0_0, p0_1, rfl, w0_0, w0_1⟩ := fit_iMisbiiE ht0
  refine (f4_eq (Cc lf 6) lf p0_0 p0_1).trans ?_
  unfold f4 f4_t
  rcases sz23 hlf (d := 6) (by omega) _ hf0 1048576 (by omega) (by omega) with e | ⟨y1, e1, g1, zz0⟩
  · rw [e]; rfl
  rw [e1]
  simp only [Option.bind_some, nth0, asI_i]
  rw [iLt_f (show ¬ y1 < 0 by omega), cond_f]
  have z0 : tl (T.st [T.i .i64 p0_0, T.sl p0_1]) ≤ 1048576 := by omega
  have eT0 := to25 hlf (d := 6) (by omega) _ hf0 (by omega)
  obtain ⟨r0, eS, eI, ⟨hr0, zr0⟩, _⟩ := same hlf p0_0 p0_1 hf0 z0
  have hR0 := hr0
  obtain ⟨R0_0, rfl, W0_0⟩ := fitC_sl hr0
  have eQ0 := eq27 hlf (d := 6) (by omega) _ hR0 zr0
  have eX0 := eq28 hlf (d := 6) (by omega) _ hf0 (by omega)
  obtain ⟨K1, bK1_0, eK1, uK1, vK1⟩ := mo29 hlf (d := 6) (by omega) hf0 (by omega) 1 (by omega) (by omega)
  obtain ⟨M1, bM1_0, eM1, eH1, uM1, vM1⟩ := mh30 hlf (d := 6) (by omega) _ hR0 zr0 1 (by omega) (by omega)
  simp only [eT0, eQ0, eS, eI, eX0, eK1, eM1, eH1, Option.bind_some, nth0, nthS, asI_i, asL_l, asB_b, asS_s, cell0, cellS, beq_self_eq_true, bne_self_eq_false, Bool.not_true, Bool.and_true, cond_f, cond_t, iLt_f (show ¬ (K1 < 0) by omega), iLt_f (show ¬ (M1 < 0) by omega)]
end Go.Proofs.Ytockabaoaneplaa.T
