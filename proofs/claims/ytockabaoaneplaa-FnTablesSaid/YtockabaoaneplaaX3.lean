/- What functions of the law FnTables come to, in trees; no condition. -/
import Derived.Test.YtockabaoaneplaaRows
import Derived.Test.YtockabaoaneplaaX2
set_option linter.unusedVariables false
set_option linter.constructorNameAsVariable false
set_option linter.unusedSimpArgs false
set_option linter.unnecessarySimpa false
namespace Go.Proofs.Ytockabaoaneplaa.T
open Go Go.Proofs.YtockabaoaneplaaV
set_option maxRecDepth 100000
theorem c_l1In {lf d : Nat} (a lo hi : Int) : Cc lf (d + 1) 77 [.i .i64 a, .i .i64 lo, .i .i64 hi] = some [.b (iLe lo a && iLe a hi)] := by
  refine (f77_eq (Cc lf d) lf a lo hi).trans ?_
  unfold f77 f77_t
  exact cond_b _ _
theorem c_from {lf d : Nat} (a lo hi : Int) : Cc lf (d + 1) 76 [.i .i64 a, .i .i64 lo, .i .i64 hi] = some [.b (iLe lo a && iLe a hi)] := by
  refine (f76_eq (Cc lf d) lf a lo hi).trans ?_
  unfold f76 f76_t
  exact cond_b _ _
theorem c_sName {lf d : Nat} (hlf : 33554432 ≤ lf) (s : ByteArray) (hs : s.size ≤ 16777216) : Cc lf (d + 2) 109 [.s s] = some [.b (nameB s)] := by
  refine (f109_eq (Cc lf (d + 1)) lf s).trans ?_
  unfold f109 f109_t
  have L := all_loop (F := fun n j => f109_0 (Cc lf (d + 1)) lf s n j) (P := fun j => chB (byteAt s j)) (X := some [T.i .i64 0, T.b false]) (Y := some [T.i .i64 1, T.s s]) (len := s.size) (fun n j hj => by
    show f109_0_s (Cc lf (d + 1)) lf s _ _ = _
    unfold f109_0_s
    obtain ⟨b0, b1⟩ := byteAt_in s j
    rw [iLt_t (by omega), inR_nat hj, wrapK (x := byteAt s j) (by omega), wrap_next hj (by omega)]
    simp only [c_l1In, Option.bind_some, nth0, asB_b, chB, bne_not, cond_not, cond_and, cond_or, cond_t]) (fun n => by
    show f109_0_s (Cc lf (d + 1)) lf s _ _ = _
    unfold f109_0_s
    rw [iLt_f (by omega)]
    rfl) (n := lf) (by omega)
  simp only at L ⊢
  rw [L]
  unfold nameB
  cases allB (fun j => chB (byteAt s j)) s.size with
  | false => rfl
  | true =>
    simp only [cond_t, Option.bind_some, nth0, nthS, asI_i, asB_b, asS_s, c_l1In, cond_not]
    rw [show ((1 : Int) == 0) = false from rfl, cond_f]
    cases iLe 1 (s.size : Int) <;> cases iLe (s.size : Int) 14 <;> cases (s.toList == (⟨#[46]⟩ : ByteArray).toList) <;> cases (s.toList == (⟨#[46, 46]⟩ : ByteArray).toList) <;> rfl
theorem c_iName {lf d : Nat} (hlf : 33554432 ≤ lf) (s : ByteArray) (hs : s.size ≤ 16777216) : Cc lf (d + 2) 90 [.s s] = some [.b (nameB s)] := by
  refine (f90_eq (Cc lf (d + 1)) lf s).trans ?_
  unfold f90 f90_t
  have L := all_loop (F := fun n j => f90_0 (Cc lf (d + 1)) lf s n j) (P := fun j => chB (byteAt s j)) (X := some [T.i .i64 0, T.b false]) (Y := some [T.i .i64 1, T.s s]) (len := s.size) (fun n j hj => by
    show f90_0_s (Cc lf (d + 1)) lf s _ _ = _
    unfold f90_0_s
    rw [iLt_t (by omega), inR_nat hj, wrap_next hj (by omega)]
    simp only [iLt_le, chB, bne_not, cond_not, cond_and, cond_or, cond_t]) (fun n => by
    show f90_0_s (Cc lf (d + 1)) lf s _ _ = _
    unfold f90_0_s
    rw [iLt_f (by omega)]
    rfl) (n := lf) (by omega)
  simp only at L ⊢
  rw [L]
  unfold nameB
  cases allB (fun j => chB (byteAt s j)) s.size with
  | false => rfl
  | true =>
    simp only [cond_t, Option.bind_some, nth0, nthS, asI_i, asB_b, asS_s, cond_not]
    rw [show ((1 : Int) == 0) = false from rfl, cond_f]
    cases iLe 1 (s.size : Int) <;> cases iLe (s.size : Int) 14 <;> cases (s.toList == (⟨#[46]⟩ : ByteArray).toList) <;> cases (s.toList == (⟨#[46, 46]⟩ : ByteArray).toList) <;> rfl
theorem c_clone {lf d : Nat} {l : List T} (h : l.length ≤ 1073741830) : Cc lf (d + 1) 123 [.sl l] = some [.sl l] := by
  show (bif nLe (0 + l.length) LIM then some [T.sl l] else none) = _
  rw [nLe_t (by unfold LIM; omega)]
  rfl
theorem c_iPutNum {lf d : Nat} (hlf : 33554432 ≤ lf) (b : List T) (n : Int) (hb : b.length ≤ 1073741824) : Cc lf (d + 2) 67 [.sl b, .i .i64 n] = some [.sl (b ++ numT (clampN n))] := by
  refine (f67_eq (Cc lf (d + 1)) lf b n).trans ?_
  unfold f67 f67_t
  dsimp only
  have hc := clampN_in n
  obtain ⟨y, l', h1, h2, h3, h4, h5⟩ := put_loop (F := fun n x l => f67_0 (Cc lf (d + 1)) lf n x l) (fun n x l h0 h1 hl => by
    rw [f67_0_u]
    unfold f67_0_s
    by_cases h : 127 < x
    · rw [iLe_t (by omega), if_pos h, nLe_app (by omega), Int.tdiv_eq_ediv_of_nonneg h0, Int.tmod_eq_emod_of_nonneg h0, wrap_in (x := x / 128) (by omega) (by omega), wrap_in (by omega) (by omega), wrap8 (by omega) (by omega)]
      rfl
    · rw [iLe_f (by omega), if_neg h]
      rfl) (n := lf) (by omega) (x := clampN n) (l := b) hc.1 hc.2 hb
  rw [c_clone (by omega), Option.bind_some, nth0, asL_l, show imax 0 (imin n 1000000) = clampN n by unfold imax imin clampN; split <;> split <;> (try split) <;> omega, h1]
  simp only [Option.bind_some, nth0, nthS, asL_l, asI_i]
  rw [nLe_app (by omega), wrap8 h3 (by omega), ← h2]
  rfl
theorem c_sPutNum {lf d : Nat} (hlf : 33554432 ≤ lf) (b : List T) (n : Int) (hb : b.length ≤ 1073741824) : Cc lf (d + 2) 79 [.sl b, .i .i64 n] = some [.sl (b ++ numT (clampN n))] := by
  refine (f79_eq (Cc lf (d + 1)) lf b n).trans ?_
  unfold f79 f79_t
  dsimp only
  have hc := clampN_in n
  have L : ∀ (n : Nat) (x : Int) (l : List T), 0 ≤ x → x ≤ 1000000 → l.length ≤ 1073741827 → f79_0 (Cc lf (d + 1)) lf (n + 1) x l = if 127 < x then f79_0 (Cc lf (d + 1)) lf n (x / 128) (l ++ [by8 (x % 128 + 128)]) else some [T.i .i64 0, T.i .i64 x, T.sl l] := fun n x l h0 h1 hl => by
    rw [f79_0_u]
    unfold f79_0_s
    by_cases h : 127 < x
    · rw [iLt_t h, if_pos h, nLe_app (by omega), and_mod h0 (by omega), or128 (by omega) (by omega), wrap8 (by omega) (by omega), show (7 : Int) = ((7 : Nat) : Int) from rfl, shr_div (by omega) h0]
      rfl
    · rw [iLt_f h, if_neg h]
      rfl
  have L2 : ∀ (n : Nat) (x : Int) (l : List T), 0 ≤ x → x ≤ 1000000 → l.length ≤ 1073741827 → f79_2 (Cc lf (d + 1)) lf (n + 1) x l = if 127 < x then f79_2 (Cc lf (d + 1)) lf n (x / 128) (l ++ [by8 (x % 128 + 128)]) else some [T.i .i64 0, T.i .i64 x, T.sl l] := fun n x l h0 h1 hl => by
    rw [f79_2_u]
    unfold f79_2_s
    by_cases h : 127 < x
    · rw [iLt_t h, if_pos h, nLe_app (by omega), and_mod h0 (by omega), or128 (by omega) (by omega), wrap8 (by omega) (by omega), show (7 : Int) = ((7 : Nat) : Int) from rfl, shr_div (by omega) h0]
      rfl
    · rw [iLt_f h, if_neg h]
      rfl
  rw [nLe_t (show ([] : List T).length + b.length ≤ LIM by unfold LIM; simp; omega), cond_true]
  by_cases hn : 1000000 < n
  · obtain ⟨y, l', h1, h2, h3, h4, h5⟩ := put_loop (F := fun n x l => f79_0 (Cc lf (d + 1)) lf n x l) L (n := lf) (by omega) (x := 1000000) (l := b) (by omega) (by omega) hb
    rw [iLt_t hn, cond_true, List.nil_append, h1]
    simp only [Option.bind_some, nth0, nthS, asL_l, asI_i]
    rw [nLe_app (by omega), wrap8 h3 (by omega), show clampN n = 1000000 by unfold clampN; rw [if_neg (by omega), if_pos (by omega)], ← h2]
    rfl
  · by_cases hm : n < 0
    · rw [iLt_f hn, cond_false, iLt_t hm, cond_true]
      obtain ⟨m, rfl⟩ : ∃ m, lf = m + 1 := ⟨lf - 1, by omega⟩
      show ((some [T.i .i64 0, T.i .i64 0, T.sl (([] : List T) ++ b)] : Option (List T)).bind _) = _
      simp only [Option.bind_some, nth0, nthS, asL_l, asI_i, List.nil_append]
      rw [nLe_app (by omega), show clampN n = 0 by unfold clampN; rw [if_pos hm]]
      rfl
    · obtain ⟨y, l', h1, h2, h3, h4, h5⟩ := put_loop (F := fun n x l => f79_2 (Cc lf (d + 1)) lf n x l) L2 (n := lf) (by omega) (x := n) (l := b) (by omega) (by omega) hb
      rw [iLt_f hn, cond_false, iLt_f hm, cond_false, List.nil_append, h1]
      simp only [Option.bind_some, nth0, nthS, asL_l, asI_i]
      rw [nLe_app (by omega), wrap8 h3 (by omega), clampN_id (by omega) (by omega), ← h2]
      rfl
/-- Is row j right? -/
def rowB (nx : Int) (l : List T) (j : Nat) : Bool :=
  !iLt (asI (T.cell (l.getD j T.u) 0)) 1 && (!iLe nx (asI (T.cell (l.getD j T.u) 0)) && (nameB (asS (T.cell (l.getD j T.u) 1)) && ((iLe 32 (asI (T.cell (l.getD j T.u) 3)) && iLe (asI (T.cell (l.getD j T.u) 3)) 4000) &&
    ((iLe 0 (asI (T.cell (l.getD j T.u) 4)) && iLe (asI (T.cell (l.getD j T.u) 4)) 191) && ((!iLt 0 (j : Int) || !iLe (asI (T.cell (l.getD j T.u) 0)) (asI (T.cell (l.getD (j - 1) T.u) 0))) &&
      allB (fun i => !((asS (T.cell (l.getD i T.u) 1)).toList == (asS (T.cell (l.getD j T.u) 1)).toList)) j)))))
def tableB (nx : Int) (l : List T) : Bool := allB (rowB nx l) l.length && (iLe (l.length : Int) 6 && (iLe 1 nx && iLe nx 99))

theorem rows_name {l : List T} {n : Nat} (hs : n + tls l ≤ 16777216) {j : Nat} (h : j < l.length) : (asS (T.cell (l.getD j T.u) 1)).size ≤ 16777216 := by
  have h1 := tl_mem (List.getElem_mem h)
  rw [List.getD_eq_getElem?_getD, List.getElem?_eq_getElem h]
  show (asS (T.cell l[j] 1)).size ≤ _
  cases e : l[j] <;> try (simp only [T.cell, asS]; exact Nat.zero_le _)
  rename_i xs
  rw [e] at h1
  simp only [T.cell, tl] at h1 ⊢
  cases e2 : xs[1]? with
  | none => rw [List.getD_eq_getElem?_getD, e2]; exact Nat.zero_le _
  | some x =>
    rw [List.getD_eq_getElem?_getD, e2]
    have h3 := tl_mem (List.mem_of_getElem? e2)
    show (asS x).size ≤ _
    cases x <;> try (exact Nat.zero_le _)
    simp only [tl, asS] at h3 ⊢
    omega

theorem c_sTable {lf d : Nat} (hlf : 33554432 ≤ lf) (nx : Int) (l : List T) (hs : l.length + tls l ≤ 16777216) : Cc lf (d + 3) 53 [.st [.i .i64 nx, .sl l]] = some [.b (tableB nx l)] := by
  refine (f53_eq (Cc lf (d + 2)) lf nx l).trans ?_
  unfold f53 f53_t
  have L := all_loop (F := fun n j => f53_0 (Cc lf (d + 2)) lf n j nx l) (P := rowB nx l) (X := some [T.i .i64 0, T.b false]) (Y := some [T.i .i64 1, T.i .i64 nx, T.sl l]) (len := l.length) (fun n j hj => by
    show f53_0 (Cc lf (d + 2)) lf (n + 1) _ nx l = _
    rw [f53_0_u]
    unfold f53_0_s
    have A1 := all_loop (F := fun n i => f53_1 (Cc lf (d + 2)) lf j nx l n i) (P := fun i => !((asS (T.cell (l.getD i T.u) 1)).toList == (asS (T.cell (l.getD j T.u) 1)).toList)) (X := some [T.i .i64 1, T.b false]) (Y := some [T.i .i64 0, T.i .i64 j, T.i .i64 nx, T.sl l]) (len := j) (fun n i hi => by
      show f53_1_s (Cc lf (d + 2)) lf _ _ _ _ _ = _
      unfold f53_1_s
      rw [iLt_t (by omega), inR_nat (by omega), wrap_next hi (by omega)]
      simp only [cond_t, cond_not, Int.toNat_natCast]) (fun n => by
      show f53_1_s (Cc lf (d + 2)) lf _ _ _ _ _ = _
      unfold f53_1_s
      rw [iLt_f (by omega)]
      rfl) (n := lf) (by omega)
    have A2 := all_loop (F := fun n i => f53_2 (Cc lf (d + 2)) lf j nx l n i) (P := fun i => !((asS (T.cell (l.getD i T.u) 1)).toList == (asS (T.cell (l.getD j T.u) 1)).toList)) (X := some [T.i .i64 1, T.b false]) (Y := some [T.i .i64 0, T.i .i64 j, T.i .i64 nx, T.sl l]) (len := j) (fun n i hi => by
      show f53_2_s (Cc lf (d + 2)) lf _ _ _ _ _ = _
      unfold f53_2_s
      rw [iLt_t (by omega), inR_nat (by omega), wrap_next hi (by omega)]
      simp only [cond_t, cond_not, Int.toNat_natCast]) (fun n => by
      show f53_2_s (Cc lf (d + 2)) lf _ _ _ _ _ = _
      unfold f53_2_s
      rw [iLt_f (by omega)]
      rfl) (n := lf) (by omega)
    rw [iLt_t (by omega), inR_nat hj]
    simp only [c_sName hlf _ (rows_name hs hj), c_l1In, Option.bind_some, nth0, asB_b, rowB, cond_not, cond_and, cond_or, cond_t, Int.toNat_natCast, A1, A2]
    cases h0 : iLt 0 (j : Int) with
    | true =>
      have hj0 : 0 < j := by have := iLt_iff.1 h0; omega
      rw [wrap_pred hj0 (by omega), inR_nat (by omega)]
      simp only [cond_t, cond_f, Int.toNat_natCast]
      cases allB (fun i => !((asS (T.cell (l.getD i T.u) 1)).toList == (asS (T.cell (l.getD j T.u) 1)).toList)) j with
      | true => simp only [cond_t, Option.bind_some, nth0, nthS, asI_i, asL_l, beq_self_eq_true, wrap_next hj (show l.length ≤ 9223372036854775807 by omega)]
      | false => rfl
    | false =>
      simp only [cond_t, cond_f]
      cases allB (fun i => !((asS (T.cell (l.getD i T.u) 1)).toList == (asS (T.cell (l.getD j T.u) 1)).toList)) j with
      | true => simp only [cond_t, Option.bind_some, nth0, nthS, asI_i, asL_l, beq_self_eq_true, wrap_next hj (show l.length ≤ 9223372036854775807 by omega)]
      | false => rfl) (fun n => by
    show f53_0 (Cc lf (d + 2)) lf (n + 1) _ nx l = _
    rw [f53_0_u]
    unfold f53_0_s
    rw [iLt_f (by omega)]
    rfl) (n := lf) (by omega)
  simp only at L ⊢
  rw [L]
  unfold tableB
  cases allB (rowB nx l) l.length with
  | false => rfl
  | true =>
    simp only [cond_t, Option.bind_some, nth0, nthS, asI_i, asB_b, asL_l, c_l1In]
    rw [show ((1 : Int) == 0) = false from rfl, cond_f]
    cases iLe (l.length : Int) 6 <;> rfl

theorem c_iTable {lf d : Nat} (hlf : 33554432 ≤ lf) (nx : Int) (l : List T) (hs : l.length + tls l ≤ 16777216) : Cc lf (d + 3) 52 [.st [.i .i64 nx, .sl l]] = some [.b (tableB nx l)] := by
  refine (f52_eq (Cc lf (d + 2)) lf nx l).trans ?_
  unfold f52 f52_t
  have cl : ∀ a, Cc lf (d + 2) 106 [.i .i64 a] = some [.b (iLe 32 a && iLe a 4000)] := fun a => by
    refine (f106_eq (Cc lf (d + 1)) lf a).trans ?_
    unfold f106 f106_t
    rw [c_from]
    rfl
  have L := all_loop (F := fun n j => f52_0 (Cc lf (d + 2)) lf l nx n j) (P := rowB nx l) (X := some [T.i .i64 0, T.b false]) (Y := some [T.i .i64 1, T.i .i64 nx, T.sl l]) (len := l.length) (fun n j hj => by
    show f52_0 (Cc lf (d + 2)) lf l nx (n + 1) _ = _
    rw [f52_0_u]
    unfold f52_0_s
    have ht : (l.take j).length = j := by rw [List.length_take]; omega
    have hg : ∀ i, i < j → (l.take j).getD i T.u = l.getD i T.u := fun i hi => by rw [List.getD_eq_getElem?_getD, List.getD_eq_getElem?_getD, List.getElem?_take_of_lt hi]
    have A1 := find_loop (F := fun n i => f52_1 (Cc lf (d + 2)) lf l j n i) (P := fun i => !((asS (T.cell (l.getD i T.u) 1)).toList == (asS (T.cell (l.getD j T.u) 1)).toList)) (X := fun i => some [T.i .i64 0, T.i .i64 i, T.i .i64 (asI (T.cell (l.getD j T.u) 0)), T.s (asS (T.cell (l.getD j T.u) 1)), T.b (asB (T.cell (l.getD j T.u) 2)), T.i .i64 (asI (T.cell (l.getD j T.u) 3)), T.i .i64 (asI (T.cell (l.getD j T.u) 4))])
      (Y := some [T.i .i64 1, T.i .i64 (asI (T.cell (l.getD j T.u) 0)), T.s (asS (T.cell (l.getD j T.u) 1)), T.b (asB (T.cell (l.getD j T.u) 2)), T.i .i64 (asI (T.cell (l.getD j T.u) 3)), T.i .i64 (asI (T.cell (l.getD j T.u) 4))]) (len := j) (fun n i hi => by
      show f52_1_s (Cc lf (d + 2)) lf _ _ _ _ = _
      unfold f52_1_s
      simp only [Int.toNat_natCast, ht, hg i hi]
      rw [iLt_t (by omega), inR_nat (by omega), wrap_next hi (by omega)]
      simp only [cond_t, cond_not]) (fun n => by
      show f52_1_s (Cc lf (d + 2)) lf _ _ _ _ = _
      unfold f52_1_s
      simp only [Int.toNat_natCast, ht]
      rw [iLt_f (by omega)]
      rfl) (n := lf) (by omega)
    have A2 := find_loop (F := fun n i => f52_2 (Cc lf (d + 2)) lf l j n i) (P := fun i => !((asS (T.cell (l.getD i T.u) 1)).toList == (asS (T.cell (l.getD j T.u) 1)).toList)) (X := fun i => some [T.i .i64 0, T.i .i64 i, T.i .i64 (asI (T.cell (l.getD j T.u) 0)), T.s (asS (T.cell (l.getD j T.u) 1)), T.b (asB (T.cell (l.getD j T.u) 2)), T.i .i64 (asI (T.cell (l.getD j T.u) 3)), T.i .i64 (asI (T.cell (l.getD j T.u) 4))])
      (Y := some [T.i .i64 1, T.i .i64 (asI (T.cell (l.getD j T.u) 0)), T.s (asS (T.cell (l.getD j T.u) 1)), T.b (asB (T.cell (l.getD j T.u) 2)), T.i .i64 (asI (T.cell (l.getD j T.u) 3)), T.i .i64 (asI (T.cell (l.getD j T.u) 4))]) (len := j) (fun n i hi => by
      show f52_2_s (Cc lf (d + 2)) lf _ _ _ _ = _
      unfold f52_2_s
      simp only [Int.toNat_natCast, ht, hg i hi]
      rw [iLt_t (by omega), inR_nat (by omega), wrap_next hi (by omega)]
      simp only [cond_t, cond_not]) (fun n => by
      show f52_2_s (Cc lf (d + 2)) lf _ _ _ _ = _
      unfold f52_2_s
      simp only [Int.toNat_natCast, ht]
      rw [iLt_f (by omega)]
      rfl) (n := lf) (by omega)
    rw [iLt_t (by omega), inR_nat hj]
    simp only [c_iName hlf _ (rows_name hs hj), cl, c_from, Option.bind_some, nth0, asB_b, rowB, cond_not, cond_and, cond_or, cond_t, Int.toNat_natCast]
    rw [iLe_t (show (0 : Int) ≤ (j : Int) by omega), iLe_t (show (j : Int) ≤ (l.length : Int) by omega)]
    simp only [cond_t, Bool.and_self]
    cases iLt (asI (T.cell (l.getD j T.u) 0)) 1 <;> simp only [cond_t, cond_f]
    cases iLe nx (asI (T.cell (l.getD j T.u) 0)) <;> simp only [cond_t, cond_f]
    cases h0 : iLt 0 (j : Int) with
    | true =>
      have hj0 : 0 < j := by have := iLt_iff.1 h0; omega
      rw [wrap_pred hj0 (by omega), inR_nat (by omega)]
      simp only [cond_t, cond_f, Int.toNat_natCast]
      rcases A1 with ⟨p1, p2⟩ | ⟨p1, i, p3, _, p2⟩
      · rw [p1, p2, wrap_next hj (by omega)]
        simp only [cond_t, cond_f, Option.bind_some, nth0, asI_i]
        rw [show ((1 : Int) == 0) = false from rfl]
        cases nameB (asS (T.cell (l.getD j T.u) 1)) <;> cases iLe (asI (T.cell (l.getD j T.u) 0)) (asI (T.cell (l.getD (j - 1) T.u) 0)) <;> cases iLe 32 (asI (T.cell (l.getD j T.u) 3)) <;> cases iLe (asI (T.cell (l.getD j T.u) 3)) 4000 <;> cases iLe 0 (asI (T.cell (l.getD j T.u) 4)) <;> cases iLe (asI (T.cell (l.getD j T.u) 4)) 191 <;> rfl
      · rw [p1, p2]
        simp only [cond_t, cond_f, Option.bind_some, nth0, nthS, asI_i]
        rw [show ((0 : Int) == 0) = true from rfl, iLe_t (show (0 : Int) ≤ (i : Int) by omega)]
        cases nameB (asS (T.cell (l.getD j T.u) 1)) <;> cases iLe (asI (T.cell (l.getD j T.u) 0)) (asI (T.cell (l.getD (j - 1) T.u) 0)) <;> cases iLe 32 (asI (T.cell (l.getD j T.u) 3)) <;> cases iLe (asI (T.cell (l.getD j T.u) 3)) 4000 <;> cases iLe 0 (asI (T.cell (l.getD j T.u) 4)) <;> cases iLe (asI (T.cell (l.getD j T.u) 4)) 191 <;> rfl
    | false =>
      simp only [cond_t, cond_f]
      rcases A2 with ⟨p1, p2⟩ | ⟨p1, i, p3, _, p2⟩
      · rw [p1, p2, wrap_next hj (by omega)]
        simp only [cond_t, cond_f, Option.bind_some, nth0, asI_i]
        rw [show ((1 : Int) == 0) = false from rfl]
        cases nameB (asS (T.cell (l.getD j T.u) 1)) <;> cases iLe 32 (asI (T.cell (l.getD j T.u) 3)) <;> cases iLe (asI (T.cell (l.getD j T.u) 3)) 4000 <;> cases iLe 0 (asI (T.cell (l.getD j T.u) 4)) <;> cases iLe (asI (T.cell (l.getD j T.u) 4)) 191 <;> rfl
      · rw [p1, p2]
        simp only [cond_t, cond_f, Option.bind_some, nth0, nthS, asI_i]
        rw [show ((0 : Int) == 0) = true from rfl, iLe_t (show (0 : Int) ≤ (i : Int) by omega)]
        cases nameB (asS (T.cell (l.getD j T.u) 1)) <;> cases iLe 32 (asI (T.cell (l.getD j T.u) 3)) <;> cases iLe (asI (T.cell (l.getD j T.u) 3)) 4000 <;> cases iLe 0 (asI (T.cell (l.getD j T.u) 4)) <;> cases iLe (asI (T.cell (l.getD j T.u) 4)) 191 <;> rfl) (fun n => by
    show f52_0 (Cc lf (d + 2)) lf l nx (n + 1) _ = _
    rw [f52_0_u]
    unfold f52_0_s
    rw [iLt_f (by omega)]
    rfl) (n := lf) (by omega)
  simp only at L ⊢
  rw [L]
  unfold tableB
  cases allB (rowB nx l) l.length with
  | false => rfl
  | true =>
    simp only [cond_t, Option.bind_some, nth0, nthS, asI_i, asB_b, asL_l, c_from]
    rw [show ((1 : Int) == 0) = false from rfl, cond_f]
    cases iLe (l.length : Int) 6 <;> cases iLe 1 nx <;> cases iLe nx 99 <;> rfl
theorem c_iPutText {lf d : Nat} (hlf : 33554432 ≤ lf) (b : List T) (s : ByteArray) (hb : b.length ≤ 1073741824) (hs : s.size ≤ 1073741824) : Cc lf (d + 3) 82 [.sl b, .s s] = some [.sl (b ++ textT s)] := by
  refine (f82_eq (Cc lf (d + 2)) lf b s).trans ?_
  unfold f82 f82_t
  have h1 := numT_len (clampN (s.size : Int))
  rw [c_iPutNum hlf _ _ hb, Option.bind_some, nth0, asL_l, nLe_t (by unfold LIM; rw [List.length_append, listOf_len]; omega), cond_t, List.append_assoc]
  rfl
theorem c_sPutText {lf d : Nat} (hlf : 33554432 ≤ lf) (b : List T) (s : ByteArray) (hb : b.length ≤ 1073741824) (hs : s.size ≤ 1073741824) : Cc lf (d + 3) 80 [.sl b, .s s] = some [.sl (b ++ textT s)] := by
  refine (f80_eq (Cc lf (d + 2)) lf b s).trans ?_
  unfold f80 f80_t
  have h1 := numT_len (clampN (s.size : Int))
  rw [c_sPutNum hlf _ _ hb, Option.bind_some, nth0, asL_l, nLe_t (by unfold LIM; rw [List.length_append, listOf_len]; omega), cond_t, List.append_assoc]
  rfl
def rowT (x : T) : List T := numT (clampN (asI (T.cell x 0))) ++ (textT (asS (T.cell x 1)) ++ (numT (bif asB (T.cell x 2) then 1 else 0) ++ (numT (clampN (asI (T.cell x 3))) ++ numT (clampN (asI (T.cell x 4))))))
def putRows : List T → List T → List T
  | b, [] => b
  | b, x :: l => putRows (b ++ rowT x) l
def putTableT (nx : Int) (l : List T) : List T := putRows (numT (clampN nx) ++ numT (clampN (l.length : Int))) l
theorem rowT_len {x : T} (h : (asS (T.cell x 1)).size ≤ 14) : (rowT x).length ≤ 40 := by
  have h1 := numT_len (clampN (asI (T.cell x 0)))
  have h2 := textT_len (asS (T.cell x 1))
  have h3 := numT_len (bif asB (T.cell x 2) then 1 else 0)
  have h4 := numT_len (clampN (asI (T.cell x 3)))
  have h5 := numT_len (clampN (asI (T.cell x 4)))
  simp only [rowT, List.length_append]
  omega
theorem rowT_byt (x : T) : byt (rowT x) := by
  have h3 : byt (numT (bif asB (T.cell x 2) then 1 else 0)) := by cases asB (T.cell x 2) <;> exact byt_num (by simp) (by simp)
  exact byt_app (byt_num (clampN_in _).1 (clampN_in _).2) (byt_app (byt_text _) (byt_app h3 (byt_app (byt_num (clampN_in _).1 (clampN_in _).2) (byt_num (clampN_in _).1 (clampN_in _).2))))
theorem putRows_len : ∀ (l : List T) (b : List T), (∀ x ∈ l, (asS (T.cell x 1)).size ≤ 14) → (putRows b l).length ≤ b.length + 40 * l.length
  | [], b, _ => by simp [putRows]
  | x :: l, b, h => by
    have := putRows_len l (b ++ rowT x) fun y hy => h y (List.mem_cons_of_mem _ hy)
    have h1 := rowT_len (h x (List.mem_cons_self ..))
    simp only [putRows, List.length_append, List.length_cons] at this ⊢
    omega
theorem putRows_byt : ∀ (l : List T) (b : List T), byt b → byt (putRows b l)
  | [], b, h => h
  | x :: l, b, h => putRows_byt l _ (byt_app h (rowT_byt x))
theorem putRows_drop {l : List T} {j : Nat} (h : j < l.length) (b : List T) : putRows b (l.drop j) = putRows (b ++ rowT (l.getD j .u)) (l.drop (j + 1)) := by
  rw [List.drop_eq_getElem_cons h, List.getD_eq_getElem?_getD, List.getElem?_eq_getElem h]
  rfl
theorem nameB_len {s : ByteArray} (h : nameB s = true) : s.size ≤ 14 := by
  unfold nameB at h
  simp only [Bool.and_eq_true, iLe_iff] at h
  omega
theorem tableB_row {nx : Int} {l : List T} (h : tableB nx l = true) : l.length ≤ 6 ∧ ∀ j, j < l.length → (asS (T.cell (l.getD j .u) 1)).size ≤ 14 := by
  unfold tableB at h
  simp only [Bool.and_eq_true, iLe_iff] at h
  refine ⟨by omega, fun j hj => ?_⟩
  have := allB_iff.1 h.1 j hj
  unfold rowB at this
  simp only [Bool.and_eq_true] at this
  exact nameB_len this.2.2.1
theorem c_sPutTable {lf d : Nat} (hlf : 33554432 ≤ lf) (nx : Int) (l : List T) (hs : l.length + tls l ≤ 16777216) : Cc lf (d + 4) 24 [.st [.i .i64 nx, .sl l]] = some [.sl (bif tableB nx l then putTableT nx l else [])] := by
  refine (f24_eq (Cc lf (d + 3)) lf nx l).trans ?_
  unfold f24 f24_t
  dsimp only
  rw [c_sTable hlf nx l hs]
  simp only [Option.bind_some, nth0, asB_b]
  cases hm : tableB nx l with
  | false => rfl
  | true =>
    obtain ⟨hl, hrow⟩ := tableB_row hm
    have q1 := numT_len (clampN nx)
    have q2 := numT_len (clampN (l.length : Int))
    have L : ∀ (k j n : Nat) (b : List T), j + k = l.length → k < n → b.length ≤ 1000 + 40 * j → f24_0 (Cc lf (d + 3)) lf l nx n j b = some [T.i .i64 0, T.sl (putRows b (l.drop j))] := by
      intro k
      induction k with
      | zero =>
        intro j n b hj hn hb
        obtain ⟨n, rfl⟩ : ∃ m, n = m + 1 := ⟨n - 1, by omega⟩
        rw [f24_0_u]
        unfold f24_0_s
        rw [iLt_f (by omega), List.drop_eq_nil_of_le (by omega)]
        rfl
      | succ k ih =>
        intro j n b hj hn hb
        obtain ⟨n, rfl⟩ : ∃ m, n = m + 1 := ⟨n - 1, by omega⟩
        have hj' : j < l.length := by omega
        have h14 := hrow j hj'
        rw [f24_0_u]
        unfold f24_0_s
        have r1 := numT_len (clampN (asI (T.cell (l.getD j .u) 0)))
        have r2 := textT_len (asS (T.cell (l.getD j .u) 1))
        have r3 := numT_len (clampN (asI (T.cell (l.getD j .u) 3)))
        have r4 := numT_len (clampN (asI (T.cell (l.getD j .u) 4)))
        have r5 := numT_len 0
        have r6 := numT_len 1
        rw [iLt_t (by omega), inR_nat hj', wrap_next hj' (by omega), putRows_drop hj']
        simp only [cond_t, Int.toNat_natCast]
        have hrow := rowT_len h14
        have fin := ih (j + 1) n (b ++ rowT (l.getD j .u)) (by omega) (by omega) (by rw [List.length_append]; omega)
        unfold rowT at fin ⊢
        generalize asB (T.cell (l.getD j .u) 2) = ro at fin ⊢
        cases ro with
        | true =>
          simp only [cond_t] at fin ⊢
          rw [c_sPutNum hlf _ _ (by omega)]
          simp only [Option.bind_some, nth0, asL_l]
          rw [c_sPutText hlf _ _ (by rw [List.length_append]; omega) (by omega)]
          simp only [Option.bind_some, nth0, asL_l]
          rw [c_sPutNum hlf _ _ (by simp only [List.length_append]; omega)]
          simp only [Option.bind_some, nth0, asL_l]
          rw [c_sPutNum hlf _ _ (by simp only [List.length_append]; rw [show clampN 1 = 1 from rfl]; omega)]
          simp only [Option.bind_some, nth0, asL_l]
          rw [c_sPutNum hlf _ _ (by simp only [List.length_append]; rw [show clampN 1 = 1 from rfl]; omega)]
          simp only [Option.bind_some, nth0, asL_l, List.append_assoc, show clampN 1 = 1 from rfl]
          exact fin
        | false =>
          simp only [cond_f] at fin ⊢
          rw [c_sPutNum hlf _ _ (by omega)]
          simp only [Option.bind_some, nth0, asL_l]
          rw [c_sPutText hlf _ _ (by rw [List.length_append]; omega) (by omega)]
          simp only [Option.bind_some, nth0, asL_l]
          rw [c_sPutNum hlf _ _ (by simp only [List.length_append]; omega)]
          simp only [Option.bind_some, nth0, asL_l]
          rw [c_sPutNum hlf _ _ (by simp only [List.length_append]; rw [show clampN 0 = 0 from rfl]; omega)]
          simp only [Option.bind_some, nth0, asL_l]
          rw [c_sPutNum hlf _ _ (by simp only [List.length_append]; rw [show clampN 0 = 0 from rfl]; omega)]
          simp only [Option.bind_some, nth0, asL_l, List.append_assoc, show clampN 0 = 0 from rfl]
          exact fin
    have L0 := L l.length 0 lf (numT (clampN nx) ++ numT (clampN (l.length : Int))) (by omega) (by omega) (by simp only [List.length_append]; omega)
    simp only [Bool.not_true, cond_f, cond_t]
    rw [c_sPutNum hlf _ _ (by simp)]
    simp only [Option.bind_some, nth0, asL_l, List.nil_append]
    rw [c_sPutNum hlf _ _ (by omega)]
    simp only [Option.bind_some, nth0, asL_l]
    rw [show ((0 : Nat) : Int) = 0 from rfl] at L0
    rw [L0]
    rfl
theorem c_iPutTable {lf d : Nat} (hlf : 33554432 ≤ lf) (nx : Int) (l : List T) (hs : l.length + tls l ≤ 16777216) : Cc lf (d + 4) 26 [.st [.i .i64 nx, .sl l]] = some [.sl (bif tableB nx l then putTableT nx l else [])] := by
  refine (f26_eq (Cc lf (d + 3)) lf nx l).trans ?_
  unfold f26 f26_t
  dsimp only
  rw [c_iTable hlf nx l hs]
  simp only [Option.bind_some, nth0, asB_b]
  cases hm : tableB nx l with
  | false => rfl
  | true =>
    obtain ⟨hl, hrow⟩ := tableB_row hm
    have q1 := numT_len (clampN nx)
    have q2 := numT_len (clampN (l.length : Int))
    have L : ∀ (k j n : Nat) (b : List T), j + k = l.length → k < n → b.length ≤ 1000 + 40 * j → f26_0 (Cc lf (d + 3)) lf l n j b = some [T.i .i64 0, T.sl (putRows b (l.drop j))] := by
      intro k
      induction k with
      | zero =>
        intro j n b hj hn hb
        obtain ⟨n, rfl⟩ : ∃ m, n = m + 1 := ⟨n - 1, by omega⟩
        rw [f26_0_u]
        unfold f26_0_s
        rw [iLt_f (by omega), List.drop_eq_nil_of_le (by omega)]
        rfl
      | succ k ih =>
        intro j n b hj hn hb
        obtain ⟨n, rfl⟩ : ∃ m, n = m + 1 := ⟨n - 1, by omega⟩
        have hj' : j < l.length := by omega
        have h14 := hrow j hj'
        rw [f26_0_u]
        unfold f26_0_s
        have r1 := numT_len (clampN (asI (T.cell (l.getD j .u) 0)))
        have r2 := textT_len (asS (T.cell (l.getD j .u) 1))
        have r3 := numT_len (clampN (asI (T.cell (l.getD j .u) 3)))
        have r4 := numT_len (clampN (asI (T.cell (l.getD j .u) 4)))
        have r5 := numT_len 0
        have r6 := numT_len 1
        rw [iLt_t (by omega), inR_nat hj', wrap_next hj' (by omega), putRows_drop hj']
        simp only [cond_t, Int.toNat_natCast]
        have hrow := rowT_len h14
        have fin := ih (j + 1) n (b ++ rowT (l.getD j .u)) (by omega) (by omega) (by rw [List.length_append]; omega)
        unfold rowT at fin ⊢
        rw [c_iPutNum hlf _ _ (by omega)]
        simp only [Option.bind_some, nth0, asL_l]
        rw [c_iPutText hlf _ _ (by rw [List.length_append]; omega) (by omega)]
        simp only [Option.bind_some, nth0, asL_l]
        generalize asB (T.cell (l.getD j .u) 2) = ro at fin ⊢
        cases ro with
        | true =>
          simp only [cond_t] at fin ⊢
          rw [c_iPutNum hlf _ _ (by simp only [List.length_append]; omega)]
          simp only [Option.bind_some, nth0, asL_l]
          rw [c_iPutNum hlf _ _ (by simp only [List.length_append]; rw [show clampN 1 = 1 from rfl]; omega)]
          simp only [Option.bind_some, nth0, asL_l]
          rw [c_iPutNum hlf _ _ (by simp only [List.length_append]; rw [show clampN 1 = 1 from rfl]; omega)]
          simp only [Option.bind_some, nth0, asL_l, List.append_assoc, show clampN 1 = 1 from rfl]
          exact fin
        | false =>
          simp only [cond_f] at fin ⊢
          rw [c_iPutNum hlf _ _ (by simp only [List.length_append]; omega)]
          simp only [Option.bind_some, nth0, asL_l]
          rw [c_iPutNum hlf _ _ (by simp only [List.length_append]; rw [show clampN 0 = 0 from rfl]; omega)]
          simp only [Option.bind_some, nth0, asL_l]
          rw [c_iPutNum hlf _ _ (by simp only [List.length_append]; rw [show clampN 0 = 0 from rfl]; omega)]
          simp only [Option.bind_some, nth0, asL_l, List.append_assoc, show clampN 0 = 0 from rfl]
          exact fin
    have L0 := L l.length 0 lf (numT (clampN nx) ++ numT (clampN (l.length : Int))) (by omega) (by omega) (by simp only [List.length_append]; omega)
    simp only [Bool.not_true, cond_f, cond_t]
    rw [c_iPutNum hlf _ _ (by simp)]
    simp only [Option.bind_some, nth0, asL_l, List.nil_append]
    rw [c_iPutNum hlf _ _ (by omega)]
    simp only [Option.bind_some, nth0, asL_l]
    rw [show ((0 : Nat) : Int) = 0 from rfl] at L0
    rw [L0]
    rfl
theorem c_sGetNum {lf d : Nat} (hlf : 33554432 ≤ lf) {b : List T} (hb : byt b) (hl : b.length ≤ 1073741824) (p : Nat) (hp : p ≤ 1073741824) : Cc lf (d + 1) 126 [.sl b, .i .i64 (p : Int)] = some (getR (getNum b p)) := by
  refine (f126_eq (Cc lf d) lf b p).trans ?_
  unfold f126 f126_t
  dsimp only
  have B : ∀ j, j < b.length → 0 ≤ asI (b.getD j .u) ∧ asI (b.getD j .u) < 256 := fun j hj => by
    obtain ⟨n, e, h⟩ := byt_at hb hj
    rw [e]; exact h
  have L := getNum_loop (b := b) (p := p) (F := fun n x k => f126_0 (Cc lf d) lf b p n x k) (X := some [T.i .i64 0, T.i .i64 0, T.i .i64 0, T.b false]) (Z := some [T.i .i64 1]) (Y := fun v q => some [T.i .i64 0, T.i .i64 v, T.i .i64 (q : Int), T.b true]) hb (fun n x k hk hpk h0 h1 => by
    have hc := B _ hpk
    have hw : IntKind.wrap .u64 (IntKind.wrap .i64 (7 * (k : Int))) = ((7 * k : Nat) : Int) := by
      rcases (by omega : k = 0 ∨ k = 1 ∨ k = 2) with rfl | rfl | rfl <;> rfl
    have hpw : ((2 ^ (7 * k) : Nat) : Int) = 128 ^ k := by
      rcases (by omega : k = 0 ∨ k = 1 ∨ k = 2) with rfl | rfl | rfl <;> rfl
    rw [f126_0_u]
    unfold f126_0_s
    rw [iLt_t (by omega), iLe_t (by omega), iLt_t (by omega), wrap_in (x := (p : Int) + (k : Int)) (by omega) (by omega), iLt_t (by omega), inR_t (by omega) (by omega), hw, iLe_t (by omega), show ((p : Int) + (k : Int)).toNat = p + k by omega, wrap_in (x := asI (b.getD (p + k) .u)) (by omega) (by omega), and_mod hc.1 (by omega),
      shl_mul (by omega) (by omega) (by omega), or_add (k := 7 * k) h0 (by rw [hpw]; exact h1) (by omega) (by omega) (by omega), hpw, wrap_in (x := (k : Int) + 1) (by omega) (by omega), wrap_in (x := (p : Int) + (k : Int) + 1) (by omega) (by omega)]
    simp only [cond_t]
    by_cases c0 : 128 ≤ asI (b.getD (p + k) .u)
    · rw [iLt_t (by omega), if_pos c0]
      rfl
    · rw [iLt_f (by omega), if_neg c0, Int.emod_eq_of_lt hc.1 (by omega)]
      simp only [cond_f]
      by_cases k0 : k = 0
      · subst k0
        rw [iLt_f (by omega)]
        by_cases m : 1000000 < x + asI (b.getD (p + 0) .u) * 128 ^ 0
        · rw [iLt_t m, if_pos (.inr m)]; rfl
        · rw [iLt_f m, if_neg (by omega)]; rfl
      · rw [iLt_t (by omega)]
        by_cases z : asI (b.getD (p + k) .u) = 0
        · rw [if_pos (.inl ⟨k0, z⟩), z]; rfl
        · rw [show (asI (b.getD (p + k) .u) == 0) = false from by simpa using z]
          by_cases m : 1000000 < x + asI (b.getD (p + k) .u) * 128 ^ k
          · rw [iLt_t m, if_pos (.inr m)]; rfl
          · rw [iLt_f m, if_neg (by rintro (h | h); exact z h.2; exact m h)]; rfl) (fun n x k hk3 hk => by
    rw [f126_0_u]
    unfold f126_0_s
    by_cases k3 : k < 3
    · rw [iLt_t (by omega), iLe_t (by omega)]
      by_cases h : p < b.length
      · rw [iLt_t (by omega), wrap_in (x := (p : Int) + (k : Int)) (by omega) (by omega), iLt_f (by omega)]; rfl
      · rw [iLt_f (by omega)]; rfl
    · rw [iLt_f (by omega)]; rfl) (n := lf) (by omega)
  rcases L with ⟨h1, h2 | h2⟩ | ⟨v, q, h1, h2⟩
  · rw [show ((0 : Nat) : Int) = 0 from rfl] at h2; rw [h1, h2]; rfl
  · rw [show ((0 : Nat) : Int) = 0 from rfl] at h2; rw [h1, h2]; rfl
  · rw [show ((0 : Nat) : Int) = 0 from rfl] at h2; rw [h1, h2]; rfl
theorem c_iGetNum {lf d : Nat} (hlf : 33554432 ≤ lf) {b : List T} (hb : byt b) (hl : b.length ≤ 1073741824) (p : Nat) (hp : p ≤ 1073741824) : Cc lf (d + 1) 125 [.sl b, .i .i64 (p : Int)] = some (getR (getNum b p)) := by
  refine (f125_eq (Cc lf d) lf b p).trans ?_
  unfold f125 f125_t
  dsimp only
  have B : ∀ j, j < b.length → 0 ≤ asI (b.getD j .u) ∧ asI (b.getD j .u) < 256 := fun j hj => by
    obtain ⟨n, e, h⟩ := byt_at hb hj
    rw [e]; exact h
  have L := getNum_loop (b := b) (p := p) (F := fun n x k => f125_0 (Cc lf d) lf b p n x (128 ^ k) k) (X := some [T.i .i64 0]) (Z := some [T.i .i64 0]) (Y := fun v q => some [T.i .i64 1, T.i .i64 v, T.i .i64 (q : Int), T.b true]) hb (fun n x k hk hpk h0 h1 => by
    have hc := B _ hpk
    have hm := Int.emod_nonneg (asI (b.getD (p + k) .u)) (show (128 : Int) ≠ 0 by omega)
    have hm2 := Int.emod_lt_of_pos (asI (b.getD (p + k) .u)) (show (0 : Int) < 128 by omega)
    have hk3 : k = 0 ∨ k = 1 ∨ k = 2 := by omega
    have hpw : 1 ≤ (128 : Int) ^ k ∧ (128 : Int) ^ k ≤ 16384 ∧ (128 : Int) ^ k * 128 = 128 ^ (k + 1) ∧ 0 ≤ asI (b.getD (p + k) .u) % 128 * 128 ^ k ∧ asI (b.getD (p + k) .u) % 128 * 128 ^ k ≤ 2097152 := by
      rcases hk3 with rfl | rfl | rfl
      · refine ⟨by decide, by decide, by decide, ?_, ?_⟩ <;> rw [Int.pow_zero] <;> omega
      · refine ⟨by decide, by decide, by decide, ?_, ?_⟩ <;> rw [Int.pow_one] <;> omega
      · have e : (128 : Int) ^ 2 = 16384 := rfl
        refine ⟨by decide, by decide, by decide, ?_, ?_⟩ <;> rw [e] <;> omega
    rw [f125_0_u]
    unfold f125_0_s
    rw [iLt_t (by omega), wrap_in (x := (b.length : Int) - (k : Int)) (by omega) (by omega), iLt_t (by omega), wrap_in (x := (p : Int) + (k : Int)) (by omega) (by omega), inR_t (by omega) (by omega), show ((p : Int) + (k : Int)).toNat = p + k by omega, wrap_in (x := asI (b.getD (p + k) .u)) (by omega) (by omega), Int.tmod_eq_emod_of_nonneg hc.1,
      wrap_in (x := asI (b.getD (p + k) .u) % 128 * 128 ^ k) (by omega) (by omega), wrap_in (x := x + asI (b.getD (p + k) .u) % 128 * 128 ^ k) (by omega) (by omega), wrap_in (x := (128 : Int) ^ k * 128) (by omega) (by omega), hpw.2.2.1, wrap_in (x := (k : Int) + 1) (by omega) (by omega), wrap_in (x := (p : Int) + (k : Int) + 1) (by omega) (by omega)]
    simp only [cond_t]
    by_cases c0 : 128 ≤ asI (b.getD (p + k) .u)
    · rw [iLe_t c0, if_pos c0]
      rfl
    · rw [iLe_f c0, if_neg c0, Int.emod_eq_of_lt hc.1 (by omega)]
      simp only [cond_f]
      by_cases m : 1000000 < x + asI (b.getD (p + k) .u) * 128 ^ k
      · rw [iLt_t m, if_pos (.inr m)]; rfl
      · rw [iLt_f m]
        by_cases z : asI (b.getD (p + k) .u) = 0
        · by_cases k0 : k = 0
          · subst k0
            rw [if_neg (by omega), iLt_f (by omega), show (asI (b.getD (p + 0) .u) == 0) = true by rw [z]; rfl]; rfl
          · rw [if_pos (.inl ⟨k0, z⟩), iLt_t (by omega), show (asI (b.getD (p + k) .u) == 0) = true by rw [z]; rfl]; rfl
        · rw [if_neg (by rintro (h | h); exact z h.2; exact m h), show (asI (b.getD (p + k) .u) == 0) = false from by simpa using z]; rfl) (fun n x k hk3 hk => by
    rw [f125_0_u]
    unfold f125_0_s
    by_cases k3 : k < 3
    · rw [iLt_t (by omega), wrap_in (x := (b.length : Int) - (k : Int)) (by omega) (by omega), iLt_f (by omega)]; rfl
    · rw [iLt_f (by omega)]; rfl) (n := lf) (by omega)
  rw [iLt_f (by omega), cond_f]
  rcases L with ⟨h1, h2 | h2⟩ | ⟨v, q, h1, h2⟩
  · rw [Int.pow_zero, show ((0 : Nat) : Int) = 0 from rfl] at h2; rw [h1, h2]; rfl
  · rw [Int.pow_zero, show ((0 : Nat) : Int) = 0 from rfl] at h2; rw [h1, h2]; rfl
  · rw [Int.pow_zero, show ((0 : Nat) : Int) = 0 from rfl] at h2; rw [h1, h2]; rfl
theorem c_iNum {lf d : Nat} (hlf : 33554432 ≤ lf) {b : List T} (hb : byt b) (hl : b.length ≤ 1073741824) {s : Option Nat} {p : Int} {ok : Bool} (h : RI b s p ok) :
    ∃ p' ok', Cc lf (d + 2) 72 [.st [.sl b, .i .i64 p, .b ok]] = some [.i .i64 (rd b s).1, .st [.sl b, .i .i64 p', .b ok']] ∧ RI b (rd b s).2 p' ok' := by
  have E := f72_eq (Cc lf (d + 1)) lf b p ok
  unfold f72 f72_t at E
  obtain ⟨rfl, h2⟩ := h
  cases s with
  | none => exact ⟨p, false, E, rfl, fun q hq => by cases hq⟩
  | some q =>
    obtain ⟨rfl, hq⟩ := h2 q rfl
    rw [c_iGetNum hlf hb hl q (by omega)] at E
    simp only [rd]
    cases e : getNum b q with
    | none => rw [e] at E; exact ⟨0, false, E, rfl, fun q hq => by cases hq⟩
    | some x =>
      obtain ⟨n, q2⟩ := x
      rw [e] at E
      exact ⟨q2, true, E, rfl, fun q hq => by cases hq; exact ⟨rfl, (getNum_in hb e).2.2.2⟩⟩
theorem c_sNum {lf d : Nat} (hlf : 33554432 ≤ lf) {b : List T} (hb : byt b) (hl : b.length ≤ 1073741824) {s : Option Nat} {p : Int} {bad : Bool} (h : RS b s p bad) :
    ∃ p' bad', Cc lf (d + 2) 75 [.st [.sl b, .i .i64 p, .b bad]] = some [.i .i64 (rd b s).1, .st [.sl b, .i .i64 p', .b bad']] ∧ RS b (rd b s).2 p' bad' := by
  have E := f75_eq (Cc lf (d + 1)) lf b p bad
  unfold f75 f75_t at E
  obtain ⟨rfl, h2, q0, rfl, hq0⟩ := h
  rw [c_sGetNum hlf hb hl q0 (by omega)] at E
  cases s with
  | none => exact ⟨q0, true, E, rfl, (fun q hq => by cases hq), q0, rfl, hq0⟩
  | some q =>
    have e0 : q0 = q := by have := h2 q rfl; omega
    subst e0
    simp only [rd]
    cases e : getNum b q0 with
    | none => rw [e] at E; exact ⟨q0, true, E, rfl, (fun q hq => by cases hq), q0, rfl, hq0⟩
    | some x =>
      obtain ⟨n, q2⟩ := x
      rw [e] at E
      exact ⟨q2, false, E, rfl, (fun q hq => by cases hq; rfl), q2, rfl, (getNum_in hb e).2.2.2⟩
theorem c_iCount {lf d : Nat} (hlf : 33554432 ≤ lf) {b : List T} (hb : byt b) (hl : b.length ≤ 1073741824) {s : Option Nat} {p : Int} {ok : Bool} (h : RI b s p ok) :
    ∃ p' ok', Cc lf (d + 3) 73 [.st [.sl b, .i .i64 p, .b ok]] = some [.i .i64 (rdC b s).1, .st [.sl b, .i .i64 p', .b ok']] ∧ RI b (rdC b s).2 p' ok' := by
  have E := f73_eq (Cc lf (d + 2)) lf b p ok
  unfold f73 f73_t at E
  obtain ⟨p', ok', h1, h2⟩ := c_iNum (d := d) hlf hb hl h
  rw [h1] at E
  simp only [Option.bind_some, nth0, nthS, asI_i, asB_b, cell0, cellS] at E
  obtain ⟨rfl, h3⟩ := h2
  have hz := @rd_zero b s
  unfold rdC
  generalize hr : rd b s = r at *
  obtain ⟨n, s'⟩ := r
  cases s' with
  | none =>
    have : n = 0 := hz rfl
    subst this
    cases c : iLt (IntKind.wrap .i64 ((b.length : Int) - p')) 0 with
    | true => rw [c] at E; exact ⟨p', false, E, rfl, fun q hq => by cases hq⟩
    | false => rw [c] at E; exact ⟨p', false, E, rfl, fun q hq => by cases hq⟩
  | some q =>
    obtain ⟨rfl, hq⟩ := h3 q rfl
    rw [wrap_in (by omega) (by omega)] at E
    simp only
    by_cases c : n > (b.length : Int) - q
    · rw [iLt_t c] at E
      rw [if_pos c]
      exact ⟨q, false, E, rfl, fun q hq => by cases hq⟩
    · rw [iLt_f c] at E
      rw [if_neg c]
      exact ⟨q, true, E, rfl, fun q2 hq2 => by cases hq2; exact ⟨rfl, hq⟩⟩
theorem c_iDone {lf d : Nat} {b : List T} {s : Option Nat} {p : Int} {ok : Bool} (h : RI b s p ok) :
    ∃ t, Cc lf (d + 1) 74 [.st [.sl b, .i .i64 p, .b ok]] = some [.b (s == some b.length), t] := by
  have E := f74_eq (Cc lf d) lf b p ok
  unfold f74 f74_t at E
  obtain ⟨rfl, h2⟩ := h
  cases s with
  | none => exact ⟨_, E⟩
  | some q =>
    obtain ⟨rfl, _⟩ := h2 q rfl
    have e : ((q : Int) == (b.length : Int)) = (some q == some b.length) := by
      rw [Bool.eq_iff_iff]
      simp
      omega
    exact ⟨_, by rw [← e]; exact E⟩
/-- What reading a text answers. -/
def getTR : ByteArray × Option Nat → List T
  | (s, some q) => [.s s, .i .i64 (q : Int), .b true]
  | (_, none) => [.s ⟨#[]⟩, .i .i64 0, .b false]
theorem getText_aux {b : List T} (hb : byt b) (hl : b.length ≤ 1073741824) (p : Nat) : ((some (getR (getNum b p)) : Option (List T)).bind fun r =>
  bif !(asB (nth r 2)) then
    some [T.s (⟨#[]⟩ : ByteArray), T.i .i64 0, T.b false]
  else
    bif iLt (IntKind.wrap .i64 ((b.length : Int) - (asI (nth r 1)))) (asI (nth r 0)) then
      some [T.s (⟨#[]⟩ : ByteArray), T.i .i64 0, T.b false]
    else
      bif iLe 0 (asI (nth r 1)) && iLe (asI (nth r 1)) (IntKind.wrap .i64 ((asI (nth r 1)) + (asI (nth r 0)))) && iLe (IntKind.wrap .i64 ((asI (nth r 1)) + (asI (nth r 0)))) (b.length : Int) then
      some [T.s (bytesOf ((b.drop ((asI (nth r 1)).toNat)).take (((IntKind.wrap .i64 ((asI (nth r 1)) + (asI (nth r 0)))).toNat) - ((asI (nth r 1)).toNat)))), T.i .i64 (IntKind.wrap .i64 ((asI (nth r 1)) + (asI (nth r 0)))), T.b true]
      else none) = some (getTR (rdS b (some p))) := by
  unfold rdS
  simp only [rd]
  cases e : getNum b p with
  | none => rfl
  | some x =>
    obtain ⟨n, q⟩ := x
    obtain ⟨h0, h1, h2, h3⟩ := getNum_in hb e
    simp only [getR, Option.bind_some, nth0, nthS, asI_i, asB_b, Bool.not_true, cond_f]
    rw [wrap_in (x := (b.length : Int) - q) (by omega) (by omega), wrap_in (x := (q : Int) + n) (by omega) (by omega)]
    by_cases c : n > (b.length : Int) - q
    · rw [iLt_t c, if_pos c]; rfl
    · rw [iLt_f c, if_neg c, cond_f, iLe_t (by omega), iLe_t (by omega), iLe_t (by omega)]
      rw [show ((q : Int)).toNat = q from rfl, show ((q : Int) + n).toNat - q = n.toNat by omega, show (q : Int) + n = ((q + n.toNat : Nat) : Int) by omega]
      rfl
theorem c_iGetText {lf d : Nat} (hlf : 33554432 ≤ lf) {b : List T} (hb : byt b) (hl : b.length ≤ 1073741824) (p : Nat) (hp : p ≤ 1073741824) : Cc lf (d + 2) 132 [.sl b, .i .i64 (p : Int)] = some (getTR (rdS b (some p))) := by
  refine (f132_eq (Cc lf (d + 1)) lf b p).trans ?_
  unfold f132 f132_t
  rw [c_iGetNum hlf hb hl p hp]
  exact getText_aux hb hl p
theorem c_sGetText {lf d : Nat} (hlf : 33554432 ≤ lf) {b : List T} (hb : byt b) (hl : b.length ≤ 1073741824) (p : Nat) (hp : p ≤ 1073741824) : Cc lf (d + 2) 139 [.sl b, .i .i64 (p : Int)] = some (getTR (rdS b (some p))) := by
  refine (f139_eq (Cc lf (d + 1)) lf b p).trans ?_
  unfold f139 f139_t
  rw [c_sGetNum hlf hb hl p hp]
  exact getText_aux hb hl p
theorem c_iText {lf d : Nat} (hlf : 33554432 ≤ lf) {b : List T} (hb : byt b) (hl : b.length ≤ 1073741824) {s : Option Nat} {p : Int} {ok : Bool} (h : RI b s p ok) :
    ∃ p' ok', Cc lf (d + 3) 91 [.st [.sl b, .i .i64 p, .b ok]] = some [.s (rdS b s).1, .st [.sl b, .i .i64 p', .b ok']] ∧ RI b (rdS b s).2 p' ok' := by
  have E := f91_eq (Cc lf (d + 2)) lf b p ok
  unfold f91 f91_t at E
  obtain ⟨rfl, h2⟩ := h
  cases s with
  | none => exact ⟨p, false, E, rfl, fun q hq => by cases hq⟩
  | some q =>
    obtain ⟨rfl, hq⟩ := h2 q rfl
    rw [c_iGetText hlf hb hl q (by omega)] at E
    have hn := @rdS_next b hb (some q)
    have hs : (rdS b (some q)).2 = none → (rdS b (some q)).1 = ⟨#[]⟩ := by
      intro h
      unfold rdS at h ⊢
      split
      · rename_i n q' e
        rw [e] at h
        simp only at h
        split at h
        · rename_i c; rw [if_pos c]
        · cases h
      · rfl
    generalize rdS b (some q) = r at *
    obtain ⟨s, q2⟩ := r
    cases q2 with
    | none =>
      have := hs rfl
      simp only at this
      subst this
      exact ⟨0, false, E, rfl, fun q hq => by cases hq⟩
    | some q2 => exact ⟨q2, true, E, rfl, fun q hq => by cases hq; obtain ⟨_, _, _, h⟩ := hn rfl; exact ⟨rfl, h⟩⟩
theorem c_sText {lf d : Nat} (hlf : 33554432 ≤ lf) {b : List T} (hb : byt b) (hl : b.length ≤ 1073741824) {s : Option Nat} {p : Int} {bad : Bool} (h : RS b s p bad) :
    ∃ p' bad', Cc lf (d + 3) 101 [.st [.sl b, .i .i64 p, .b bad]] = some [.s (rdS b s).1, .st [.sl b, .i .i64 p', .b bad']] ∧ RS b (rdS b s).2 p' bad' := by
  have E := f101_eq (Cc lf (d + 2)) lf b p bad
  unfold f101 f101_t at E
  obtain ⟨rfl, h2, q0, rfl, hq0⟩ := h
  rw [c_sGetText hlf hb hl q0 (by omega)] at E
  cases s with
  | none => exact ⟨q0, true, E, rfl, (fun q hq => by cases hq), q0, rfl, hq0⟩
  | some q =>
    have e0 : q0 = q := by have := h2 q rfl; omega
    subst e0
    have hn := @rdS_next b hb (some q0)
    have hs : (rdS b (some q0)).2 = none → (rdS b (some q0)).1 = ⟨#[]⟩ := by
      intro h
      unfold rdS at h ⊢
      split
      · rename_i n q' e
        rw [e] at h
        simp only at h
        split at h
        · rename_i c; rw [if_pos c]
        · cases h
      · rfl
    generalize rdS b (some q0) = r at *
    obtain ⟨s, q2⟩ := r
    cases q2 with
    | none =>
      have := hs rfl
      simp only at this
      subst this
      exact ⟨q0, true, E, rfl, (fun q hq => by cases hq), q0, rfl, hq0⟩
    | some q2 => exact ⟨q2, false, E, rfl, (fun q hq => by cases hq; rfl), q2, rfl, by obtain ⟨_, _, _, h⟩ := hn rfl; exact h⟩
def gRow (b : List T) (s : Option Nat) : T × Option Nat :=
  (.st [.i .i64 (rd b s).1, .s (rdS b (rd b s).2).1, .b (rdF b (rdS b (rd b s).2).2).1, .i .i64 (rd b (rdF b (rdS b (rd b s).2).2).2).1, .i .i64 (rd b (rd b (rdF b (rdS b (rd b s).2).2).2).2).1], (rd b (rd b (rdF b (rdS b (rd b s).2).2).2).2).2)
theorem rdF_next {b : List T} (hb : byt b) {s : Option Nat} {q : Nat} (h : (rdF b s).2 = some q) : ∃ p, s = some p ∧ p < q ∧ q ≤ b.length := by
  unfold rdF at h
  simp only at h
  split at h
  · obtain ⟨p, e1, h1, h2, _⟩ := rd_next hb h
    exact ⟨p, e1, h1, h2⟩
  · cases h
theorem gRow_next {b : List T} (hb : byt b) (p q : Nat) (h : (gRow b (some p)).2 = some q) : p < q ∧ q ≤ b.length := by
  unfold gRow at h
  obtain ⟨p1, e1, h1, h2, _⟩ := rd_next hb h
  obtain ⟨p2, e2, h3, h4, _⟩ := rd_next hb e1
  obtain ⟨p3, e3, h5, h6⟩ := rdF_next hb e2
  obtain ⟨p4, e4, h7, h8⟩ := rdS_next hb e3
  obtain ⟨p5, e5, h9, h10, _⟩ := rd_next hb e4
  cases e5
  omega
theorem gRow_tl (b : List T) (s : Option Nat) : tl (gRow b s).1 = (rdS b (rd b s).2).1.size := by
  simp only [gRow, tl, tls]
  omega
theorem gRow_size {b : List T} (hb : byt b) (p : Nat) (hp : p ≤ b.length) : p + tl (gRow b (some p)).1 ≤ b.length ∧ ∀ q, (gRow b (some p)).2 = some q → p + tl (gRow b (some p)).1 ≤ q ∧ q ≤ b.length := by
  rw [gRow_tl]
  cases e : (rd b (some p)).2 with
  | none =>
    refine ⟨by rw [rdS_none]; exact hp, fun q h => ?_⟩
    have := gRow_next hb p q h
    rw [rdS_none]
    exact ⟨by show p + 0 ≤ q; omega, this.2⟩
  | some p1 =>
    obtain ⟨p0, e0, h1, h2, _⟩ := rd_next hb e
    cases e0
    obtain ⟨a1, a2⟩ := rdS_size hb h2
    refine ⟨by omega, fun q h => ?_⟩
    have hq := gRow_next hb p q h
    unfold gRow at h
    obtain ⟨p1', e1, h3, h4, _⟩ := rd_next hb h
    obtain ⟨p2, e2, h5, h6, _⟩ := rd_next hb e1
    obtain ⟨p3, e3, h7, h8⟩ := rdF_next hb e2
    rw [e] at e3
    have := a2 p3 e3
    omega
theorem rows_tls {b : List T} (hb : byt b) (k : Nat) (s : Option Nat) (hs : ∀ p, s = some p → p ≤ b.length) : tls (itemsI (gRow b) k s).1 ≤ b.length := by
  obtain ⟨r1, r2⟩ := items_tls (g := gRow b) (b := b) ⟨rfl, rfl⟩ (gRow_size hb) k s
  cases s with
  | none => rw [r1 rfl]; exact Nat.zero_le _
  | some p => have := r2 p rfl (hs p rfl); omega
theorem rowsS_tls {b : List T} (hb : byt b) (k : Nat) (s : Option Nat) (hs : ∀ p, s = some p → p ≤ b.length) : tls (itemsS (gRow b) k s).1 ≤ b.length := by
  obtain ⟨r1, r2⟩ := itemsS_tls (g := gRow b) (b := b) (gRow_size hb) k s
  cases s with
  | none => rw [r1 rfl]; exact Nat.zero_le _
  | some p => have := r2 p rfl (hs p rfl); omega
theorem c_iFlag {lf d : Nat} (hlf : 33554432 ≤ lf) {b : List T} (hb : byt b) (hl : b.length ≤ 1073741824) {s : Option Nat} {p : Int} {ok : Bool} (h : RI b s p ok) :
    ∃ p' ok', Cc lf (d + 3) 102 [.st [.sl b, .i .i64 p, .b ok]] = some [.b (rdF b s).1, .st [.sl b, .i .i64 p', .b ok']] ∧ RI b (rdF b s).2 p' ok' := by
  have E := f102_eq (Cc lf (d + 2)) lf b p ok
  unfold f102 f102_t at E
  obtain ⟨p', ok', h1, h2⟩ := c_iNum (d := d) hlf hb hl h
  rw [h1] at E
  simp only [Option.bind_some, nth0, nthS, asI_i, asB_b, cell0, cellS] at E
  obtain ⟨rfl, h3⟩ := h2
  unfold rdF
  simp only
  cases e : (rd b s).2 with
  | none =>
    rw [e] at E
    refine ⟨p', false, E, ?_⟩
    rw [ite_self]
    exact ⟨rfl, fun q hq => by cases hq⟩
  | some q =>
    rw [e] at E
    by_cases c : (rd b s).1 < 2
    · rw [iLt_t c] at E
      rw [if_pos c]
      exact ⟨p', true, E, rfl, fun q' hq => h3 q' (by rw [e]; exact hq)⟩
    · rw [iLt_f c] at E
      rw [if_neg c]
      exact ⟨p', false, E, rfl, fun q hq => by cases hq⟩
/-- The table that bytes are. -/
def getTableB (b : List T) : Option (Int × List T) :=
  match (rdC b (rd b (some 0)).2) with
  | (n, s) => match itemsI (gRow b) n.toNat s with
    | (ps, s3) => bif s3 == some b.length && tableB (rd b (some 0)).1 ps then some ((rd b (some 0)).1, ps) else none
def getTableR : Option (Int × List T) → List T
  | some (n, ps) => [.st [.i .i64 n, .sl ps], .b true]
  | none => [.st [.i .i64 0, .sl []], .b false]
theorem rdC_le {b : List T} {s : Option Nat} (hb : byt b) : ∀ p, (rdC b s).2 = some p → p ≤ b.length := by
  intro p h
  cases e : (rd b s).2 with
  | none => rw [rdC_none e] at h; cases h
  | some q =>
    obtain ⟨_, _, _, h2, _⟩ := rd_next hb e
    rw [rdC_some (N := (rd b s).1) (p := q) (by rw [← e])] at h
    split at h
    · cases h
    · cases h; exact h2
theorem c_iGetTable {lf d : Nat} (hlf : 33554432 ≤ lf) {b : List T} (hb : byt b) (hl : b.length ≤ 1048576) : Cc lf (d + 5) 46 [.sl b] = some (getTableR (getTableB b)) := by
  refine (f46_eq (Cc lf (d + 4)) lf b).trans ?_
  unfold f46 f46_t
  dsimp only
  obtain ⟨p1, ok1, e1, R1⟩ := c_iNum (d := d + 2) (s := some 0) (p := 0) (ok := true) hlf hb (by omega) ⟨rfl, fun q hq => by cases hq; exact ⟨rfl, Nat.zero_le _⟩⟩
  obtain ⟨p2, ok2, e2, R2⟩ := c_iCount (d := d + 1) hlf hb (by omega) R1
  rw [e1]
  simp only [Option.bind_some, nth0, nthS, asI_i, asB_b, cell0, cellS]
  rw [e2]
  simp only [Option.bind_some, nth0, nthS, asI_i, asB_b, cell0, cellS]
  have hc := rdC_in hb (rd b (some 0)).2
  obtain ⟨N, hN⟩ := Int.eq_ofNat_of_zero_le hc.1
  obtain ⟨p3, ok3, e3, R3⟩ := loopI (g := gRow b) (b := b) (N := N) (F := fun n j p ok acc => f46_0 (Cc lf (d + 4)) lf b [T.i .i64 (rd b (some 0)).1, T.st [T.sl b, T.i .i64 p1, T.b ok1]] [T.i .i64 (rdC b (rd b (some 0)).2).1, T.st [T.sl b, T.i .i64 p2, T.b ok2]] n j p ok acc)
    (Y := fun p ok acc => some [T.i .i64 0, T.i .i64 0, T.sl ([] : List T), T.sl b, T.i .i64 p, T.b ok, T.i .i64 (rd b (some 0)).1, T.sl acc]) (by omega) (fun n j p ok acc s hj hR ha => by
      obtain ⟨pa, oa, q1, Q1⟩ := c_iNum (d := d + 2) hlf hb (by omega) hR
      obtain ⟨pb, ob, q2, Q2⟩ := c_iText (d := d + 1) hlf hb (by omega) Q1
      obtain ⟨pc, oc, q3, Q3⟩ := c_iFlag (d := d + 1) hlf hb (by omega) Q2
      obtain ⟨pd, od, q4, Q4⟩ := c_iNum (d := d + 2) hlf hb (by omega) Q3
      obtain ⟨pe, oe, q5, Q5⟩ := c_iNum (d := d + 2) hlf hb (by omega) Q4
      refine ⟨pe, oe, ?_, Q5⟩
      rw [f46_0_u]
      unfold f46_0_s
      rw [nth0, asI_i, hN, iLt_t (by omega), q1]
      simp only [cond_t, Option.bind_some, nth0, nthS, asI_i, asB_b, asS_s, cell0, cellS]
      rw [q2]
      simp only [cond_t, Option.bind_some, nth0, nthS, asI_i, asB_b, asS_s, cell0, cellS]
      rw [q3]
      simp only [cond_t, Option.bind_some, nth0, nthS, asI_i, asB_b, asS_s, cell0, cellS]
      rw [q4]
      simp only [cond_t, Option.bind_some, nth0, nthS, asI_i, asB_b, asS_s, cell0, cellS]
      rw [q5]
      simp only [cond_t, Option.bind_some, nth0, nthS, asI_i, asB_b, asS_s, cell0, cellS]
      rw [nLe_app (by omega), cond_t, wrap_in (by omega) (by omega)]
      rfl) (fun n p ok acc => by
      rw [f46_0_u]
      unfold f46_0_s
      rw [nth0, asI_i, hN, iLt_f (by omega)]
      rfl) (n := lf) (by omega) R2
  rw [e3]
  simp only [Option.bind_some, nth0, nthS, asI_i, asB_b, asL_l, cell0, cellS]
  obtain ⟨t, e4⟩ := c_iDone (lf := lf) (d := d + 3) R3
  rw [e4]
  simp only [Option.bind_some, nth0, nthS, asI_i, asB_b]
  have hlen := itemsI_len (g := gRow b) N (rdC b (rd b (some 0)).2).2
  have htls := rows_tls hb N (rdC b (rd b (some 0)).2).2 (rdC_le hb)
  rw [c_iTable (d := d + 1) hlf _ _ (by omega)]
  simp only [Option.bind_some, nth0, asB_b]
  unfold getTableB
  simp only [hN, Int.toNat_natCast]
  cases (itemsI (gRow b) N (rdC b (rd b (some 0)).2).2).2 == some b.length with
  | false => rfl
  | true =>
    cases tableB (rd b (some 0)).1 (itemsI (gRow b) N (rdC b (rd b (some 0)).2).2).1 with
    | false => rfl
    | true => rfl
theorem c_sGetTable {lf d : Nat} (hlf : 33554432 ≤ lf) {b : List T} (hb : byt b) (hl : b.length ≤ 1048576) : Cc lf (d + 5) 44 [.sl b] = some (getTableR (getTableB b)) := by
  refine (f44_eq (Cc lf (d + 4)) lf b).trans ?_
  unfold f44 f44_t
  dsimp only
  obtain ⟨p1, ok1, e1, R1⟩ := c_sNum (d := d + 2) (s := some 0) (p := 0) (bad := false) hlf hb (by omega) ⟨rfl, (fun q hq => by cases hq; rfl), 0, rfl, Nat.zero_le _⟩
  obtain ⟨p2, ok2, e2, R2⟩ := c_sNum (d := d + 2) hlf hb (by omega) R1
  rw [e1]
  simp only [Option.bind_some, nth0, nthS, asI_i, asB_b, cell0, cellS]
  rw [e2]
  simp only [Option.bind_some, nth0, nthS, asI_i, asB_b, cell0, cellS]
  have hc := rd_in hb (rd b (some 0)).2
  obtain ⟨N, hN⟩ := Int.eq_ofNat_of_zero_le hc.1
  obtain ⟨p3, ok3, e3, R3⟩ := loopS (g := gRow b) (b := b) (K := min N (6 + 1)) (F := fun n j p bad acc => f44_0 (Cc lf (d + 4)) lf b [T.i .i64 (rd b (some 0)).1, T.st [T.sl b, T.i .i64 p1, T.b ok1]] [T.i .i64 (rd b (rd b (some 0)).2).1, T.st [T.sl b, T.i .i64 p2, T.b ok2]] n j p bad acc)
    (Y := fun p bad acc => some [T.i .i64 0, T.sl b, T.i .i64 (N : Int), T.i .i64 0, T.sl ([] : List T), T.sl b, T.i .i64 p, T.b bad, T.i .i64 (rd b (some 0)).1, T.sl acc]) (by omega) (fun n j p bad acc s hj hR ha => by
      obtain ⟨pa, oa, q1, Q1⟩ := c_sNum (d := d + 2) hlf hb (by omega) hR
      obtain ⟨pb, ob, q2, Q2⟩ := c_sText (d := d + 1) hlf hb (by omega) Q1
      obtain ⟨pc, oc, q3, Q3⟩ := c_sNum (d := d + 2) hlf hb (by omega) Q2
      have QF : RS b (rdF b (rdS b (rd b (some s)).2).2).2 pc (oc || iLt 1 (rd b (rdS b (rd b (some s)).2).2).1) := by
        obtain ⟨a1, a2, a3⟩ := Q3
        unfold rdF
        simp only
        by_cases c : (rd b (rdS b (rd b (some s)).2).2).1 < 2
        · rw [if_pos c, iLt_f (by omega), Bool.or_false]
          exact ⟨a1, a2, a3⟩
        · rw [if_neg c, iLt_t (by omega), Bool.or_true]
          exact ⟨rfl, (fun q h => by cases h), a3⟩
      obtain ⟨pd, od, q4, Q4⟩ := c_sNum (d := d + 2) hlf hb (by omega) QF
      obtain ⟨pe, oe, q5, Q5⟩ := c_sNum (d := d + 2) hlf hb (by omega) Q4
      refine ⟨pe, oe, ?_, Q5⟩
      have hbad : bad = false := hR.1
      subst hbad
      rw [f44_0_u]
      unfold f44_0_s
      rw [nth0, asI_i, hN, iLt_t (by omega), iLe_t (by omega), q1]
      simp only [cond_t, cond_f, Bool.not_false, Option.bind_some, nth0, nthS, asI_i, asB_b, asS_s, cell0, cellS]
      rw [q2]
      simp only [cond_t, cond_f, Bool.not_false, Option.bind_some, nth0, nthS, asI_i, asB_b, asS_s, cell0, cellS]
      rw [q3]
      simp only [cond_t, Option.bind_some, nth0, nthS, asI_i, asB_b, asS_s, cell0, cellS]
      have fin : ∀ ob, (oc || iLt 1 (rd b (rdS b (rd b (some s)).2).2).1) = ob → Cc lf (d + 4) 75 [.st [.sl b, .i .i64 pc, .b ob]] = some [.i .i64 (rd b (rdF b (rdS b (rd b (some s)).2).2).2).1, .st [.sl b, .i .i64 pd, .b od]] := fun ob e => by rw [← e]; exact q4
      cases oc with
      | true =>
        simp only [cond_t]
        rw [fin true rfl]
        simp only [cond_t, Option.bind_some, nth0, nthS, asI_i, asB_b, asS_s, cell0, cellS]
        rw [q5]
        simp only [cond_t, Option.bind_some, nth0, nthS, asI_i, asB_b, asS_s, cell0, cellS]
        rw [nLe_app (by omega), cond_t, wrap_in (by omega) (by omega)]
        rfl
      | false =>
        simp only [cond_f]
        rw [fin _ (Bool.false_or _)]
        simp only [cond_t, Option.bind_some, nth0, nthS, asI_i, asB_b, asS_s, cell0, cellS]
        rw [q5]
        simp only [cond_t, Option.bind_some, nth0, nthS, asI_i, asB_b, asS_s, cell0, cellS]
        rw [nLe_app (by omega), cond_t, wrap_in (by omega) (by omega)]
        rfl) (fun n j p bad acc s hj hR hx => by
      rw [f44_0_u]
      unfold f44_0_s
      rw [nth0, asI_i, hN]
      by_cases c1 : j < N
      · rw [iLt_t (by omega)]
        by_cases c2 : j ≤ 6
        · have hs : s = none := by rcases hx with h | h; omega; exact h
          have hbad : bad = true := by rw [hR.1, hs]; rfl
          subst hbad
          rw [iLe_t (by omega)]
          rfl
        · rw [iLe_f (by omega)]; rfl
      · rw [iLt_f (by omega)]; rfl) (n := lf) (by omega) R2
  rw [e3]
  simp only [Option.bind_some, nth0, nthS, asI_i, asB_b, asL_l, cell0, cellS]
  have hlen := itemsS_len (g := gRow b) (min N (6 + 1)) (rd b (rd b (some 0)).2).2
  have htls := rowsS_tls hb (min N (6 + 1)) (rd b (rd b (some 0)).2).2 (fun p h => by obtain ⟨_, _, _, h2, _⟩ := rd_next hb h; exact h2)
  rw [c_sTable (d := d + 1) hlf _ _ (by omega)]
  simp only [Option.bind_some, nth0, asB_b]
  -- the two readers
  have hno : (gRow b none).2 = none := rfl
  obtain ⟨hbad, hat, q3, hq3, hq3l⟩ := R3
  unfold getTableB
  cases hs2 : (rd b (rd b (some 0)).2).2 with
  | none =>
    have hcnt : rdC b (rd b (some 0)).2 = (0, none) := by
      unfold rdC
      generalize hr : rd b (rd b (some 0)).2 = r at *
      obtain ⟨n, s'⟩ := r
      simp only at hs2
      subst hs2
      rfl
    have hS : (itemsS (gRow b) (min N (6 + 1)) none).2 = none := by cases min N (6 + 1) <;> rfl
    rw [hs2] at hbad
    rw [hS] at hbad
    rw [hcnt, hbad]
    rfl
  | some p =>
    obtain ⟨p0, hp0, _, hpl, _⟩ := rd_next hb hs2
    rw [hs2] at hbad hat
    have hrd : rd b (rd b (some 0)).2 = ((N : Int), some p) := by rw [← hN, ← hs2]
    rcases list_rel (g := gRow b) (b := b) hno (gRow_next hb) 6 N p hpl with ⟨ps, q, h1, h2, h3, h4, h5⟩ | ⟨h1, h2⟩
    · have hcnt : rdC b (rd b (some 0)).2 = ((N : Int), some p) := by
        unfold rdC
        rw [hrd]
        simp only
        rw [if_neg (by omega)]
      rw [h3] at hbad hat
      have hat := hat q rfl
      subst hat
      rw [hbad, h3, hcnt]
      simp only [Int.toNat_natCast, h2, Option.isNone_some, cond_f]
      have hne : ((N : Int) != (ps.length : Int)) = false := by rw [h4]; simp
      rw [hne]
      have e5 : (some q == some b.length) = ((q : Int) == (b.length : Int)) := by
        rw [Bool.eq_iff_iff]
        simp
        omega
      rw [e5]
      cases e6 : ((q : Int) == (b.length : Int)) with
      | false => simp only [bne, e6]; rfl
      | true =>
        simp only [bne, e6]
        cases tableB (rd b (some 0)).1 ps <;> rfl
    · have hI : (match rdC b (rd b (some 0)).2 with | (n, s) => match itemsI (gRow b) n.toNat s with | (ps, s3) => bif s3 == some b.length && tableB (rd b (some 0)).1 ps then some ((rd b (some 0)).1, ps) else none) = none := by
        by_cases hc : (N : Int) > (b.length : Int) - p
        · have hcnt : rdC b (rd b (some 0)).2 = (0, none) := by
            unfold rdC
            rw [hrd]
            simp only
            rw [if_pos hc]
          rw [hcnt]
          rfl
        · have hcnt : rdC b (rd b (some 0)).2 = ((N : Int), some p) := by
            unfold rdC
            rw [hrd]
            simp only
            rw [if_neg hc]
          rw [hcnt]
          simp only [Int.toNat_natCast]
          rcases h1 with h1 | h1 | h1
          · omega
          · rw [h1]; rfl
          · cases hm : tableB (rd b (some 0)).1 (itemsI (gRow b) N (some p)).1 with
            | true => have := (tableB_row hm).1; omega
            | false => rw [Bool.and_false]; rfl
      rw [hI, hbad]
      rcases h2 with h2 | h2
      · rw [h2]; rfl
      · have hne : ((N : Int) != ((itemsS (gRow b) (min N (6 + 1)) (some p)).1.length : Int)) = true := by
          simp only [bne_iff_ne, ne_eq]
          omega
        rw [hne]
        cases (itemsS (gRow b) (min N (6 + 1)) (some p)).2.isNone with
        | true => rfl
        | false => cases (p3 != (b.length : Int)) <;> rfl
theorem and_255 (x : Int) : 0 ≤ intBits .and .i64 x 255 ∧ intBits .and .i64 x 255 ≤ 255 := by
  have h : intBits .and .i64 x 255 = IntKind.wrap .i64 (((BitVec.ofInt 64 x &&& BitVec.ofInt 64 255).toNat : Nat) : Int) := rfl
  have h2 : (BitVec.ofInt 64 x &&& BitVec.ofInt 64 255).toNat ≤ 255 := by
    rw [BitVec.toNat_and, toNat_ofInt64 (x := 255) (by omega) (by omega)]
    exact Nat.and_le_right
  rw [h, wrap_in (by omega) (by omega)]
  omega
theorem c_new {lf d : Nat} (hlf : 33554432 ≤ lf) {b : List T} (hl : b.length ≤ 1048576) : ∃ h, Cc lf (d + 1) 65 [.sl b] = some [.st [.sl b, .i .i64 0, .i .i64 h]] := by
  have E := f65_eq (Cc lf d) lf b
  unfold f65 f65_t at E
  dsimp only at E
  have L : ∀ (k j n : Nat) (h : Int), j + k = b.length → k < n → ∃ h', f65_0 (Cc lf d) lf b n h j = some [T.i .i64 0, T.sl b, T.i .i64 h'] := by
    intro k
    induction k with
    | zero =>
      intro j n h hj hn
      obtain ⟨n, rfl⟩ : ∃ m, n = m + 1 := ⟨n - 1, by omega⟩
      refine ⟨h, ?_⟩
      rw [f65_0_u]
      unfold f65_0_s
      rw [iLt_f (by omega)]
      rfl
    | succ k ih =>
      intro j n h hj hn
      obtain ⟨n, rfl⟩ : ∃ m, n = m + 1 := ⟨n - 1, by omega⟩
      rw [f65_0_u]
      unfold f65_0_s
      rw [iLt_t (show (j : Int) < (b.length : Int) by omega), inR_nat (by omega), wrap_next (show j < b.length by omega) (by omega)]
      simp only [cond_t]
      cases iLt (j : Int) 4000 with
      | false => exact ⟨h, rfl⟩
      | true => exact ih (j + 1) n _ (by omega) (by omega)
  obtain ⟨h', e⟩ := L b.length 0 lf (IntKind.wrap .i64 (351351 + (b.length : Int))) (by omega) (by omega)
  rw [show ((0 : Nat) : Int) = 0 from rfl] at e
  rw [e] at E
  exact ⟨h', E⟩
theorem c_byte {lf d : Nat} {b : List T} (hl : b.length ≤ 1048576) (i h : Int) (hi : 0 ≤ i ∧ i ≤ b.length) : ∃ x i' h', Cc lf (d + 1) 124 [.st [.sl b, .i .i64 i, .i .i64 h]] = some [.i .i64 x, .st [.sl b, .i .i64 i', .i .i64 h']] ∧ (0 ≤ x ∧ x ≤ 255) ∧ (0 ≤ i' ∧ i' ≤ b.length) := by
  have E := f124_eq (Cc lf d) lf b i h
  unfold f124 f124_t at E
  obtain ⟨k, rfl⟩ := Int.eq_ofNat_of_zero_le hi.1
  by_cases c : k < b.length
  · rw [iLt_t (by omega), inR_nat c, wrap_in (x := (k : Int) + 1) (by omega) (by omega)] at E
    exact ⟨_, _, _, E, and_255 _, by omega⟩
  · rw [iLt_f (by omega)] at E
    exact ⟨_, _, _, E, and_255 _, by omega⟩
theorem c_below {lf d : Nat} {b : List T} (hl : b.length ≤ 1048576) (i h : Int) (hi : 0 ≤ i ∧ i ≤ b.length) (n : Int) : ∃ x i' h', Cc lf (d + 2) 70 [.st [.sl b, .i .i64 i, .i .i64 h], .i .i64 n] = some [.i .i64 x, .st [.sl b, .i .i64 i', .i .i64 h']] ∧ (0 ≤ x ∧ (x < n ∨ n ≤ 0 ∧ x = 0)) ∧ (0 ≤ i' ∧ i' ≤ b.length) := by
  have E := f70_eq (Cc lf (d + 1)) lf b i h n
  unfold f70 f70_t at E
  by_cases c : n ≤ 0
  · rw [iLe_t c] at E
    exact ⟨0, i, h, E, ⟨Int.le_refl _, .inr ⟨c, rfl⟩⟩, hi⟩
  · rw [iLe_f c] at E
    have hne : (n != 0) = true := by rw [bne_iff_ne]; omega
    obtain ⟨x, i1, h1, e1, r1, q1⟩ := c_byte (lf := lf) (d := d) hl i h hi
    rw [e1, hne] at E
    simp only [cond_f, cond_t, Option.bind_some, nth0, nthS, asI_i, cell0, cellS] at E
    by_cases c2 : n ≤ 256
    · rw [iLe_t c2] at E
      exact ⟨_, _, _, E, ⟨Int.tmod_nonneg _ r1.1, .inl (Int.tmod_lt_of_pos _ (by omega))⟩, q1⟩
    · rw [iLe_f c2] at E
      obtain ⟨y, i2, h2, e2, r2, q2⟩ := c_byte (lf := lf) (d := d) hl i1 h1 q1
      obtain ⟨z, i3, h3, e3, r3, q3⟩ := c_byte (lf := lf) (d := d) hl i2 h2 q2
      rw [e2] at E
      simp only [cond_f, cond_t, Option.bind_some, nth0, nthS, asI_i, cell0, cellS] at E
      rw [e3] at E
      simp only [cond_f, cond_t, Option.bind_some, nth0, nthS, asI_i, cell0, cellS] at E
      rw [wrap_in (x := x * 65536) (by omega) (by omega), wrap_in (x := y * 256) (by omega) (by omega), wrap_in (x := x * 65536 + y * 256) (by omega) (by omega), wrap_in (x := x * 65536 + y * 256 + z) (by omega) (by omega)] at E
      exact ⟨_, _, _, E, ⟨Int.tmod_nonneg _ (by omega), .inl (Int.tmod_lt_of_pos _ (by omega))⟩, q3⟩
theorem c_once {lf d : Nat} {b : List T} (hl : b.length ≤ 1048576) (i h : Int) (hi : 0 ≤ i ∧ i ≤ b.length) (n : Int) : ∃ (x : Bool) (i' h' : Int), Cc lf (d + 3) 118 [.st [.sl b, .i .i64 i, .i .i64 h], .i .i64 n] = some [.b x, .st [.sl b, .i .i64 i', .i .i64 h']] ∧ (0 ≤ i' ∧ i' ≤ b.length) := by
  have E := f118_eq (Cc lf (d + 2)) lf b i h n
  unfold f118 f118_t at E
  obtain ⟨x, i1, h1, e1, _, q1⟩ := c_below (lf := lf) (d := d) hl i h hi n
  rw [e1] at E
  exact ⟨_, _, _, E, q1⟩
theorem c_int {lf d : Nat} {b : List T} (hl : b.length ≤ 1048576) (i h : Int) (hi : 0 ≤ i ∧ i ≤ b.length) (l : List T) (h0 : 0 < l.length) : ∃ (k : Nat) (i' h' : Int), k < l.length ∧ Cc lf (d + 3) 71 [.st [.sl b, .i .i64 i, .i .i64 h], .sl l] = some [.i .i64 (asI (l.getD k T.u)), .st [.sl b, .i .i64 i', .i .i64 h']] ∧ (0 ≤ i' ∧ i' ≤ b.length) := by
  have E := f71_eq (Cc lf (d + 2)) lf b i h l
  unfold f71 f71_t at E
  obtain ⟨x, i1, h1, e1, r1, q1⟩ := c_below (lf := lf) (d := d) hl i h hi (l.length : Int)
  obtain ⟨k, rfl⟩ := Int.eq_ofNat_of_zero_le r1.1
  rw [e1] at E
  simp only [Option.bind_some, nth0, nthS, asI_i, cell0, cellS] at E
  rw [inR_nat (by omega)] at E
  exact ⟨k, i1, h1, by omega, E, q1⟩
theorem byt_set {l : List T} (h : byt l) (k : Nat) (v : Int) : byt (l.set k (.i .u8 (IntKind.wrap .u8 v))) := by
  intro x hx
  rcases List.mem_or_eq_of_mem_set hx with hx | rfl
  · exact h x hx
  · refine ⟨_, rfl, ?_⟩
    rw [IntKind.wrap_u8]
    omega
theorem c_big {lf d : Nat} (b : List T) : Cc lf (d + 1) 13 [.sl b] = some [.b (iLt 1048576 (b.length : Int))] := by
  refine (f13_eq (Cc lf d) lf b).trans ?_
  rfl
theorem getD_app (l : List T) (x : T) : (l ++ [x]).getD l.length T.u = x := by
  rw [List.getD_eq_getElem?_getD, List.getElem?_append_right (Nat.le_refl _), Nat.sub_self]
  rfl
theorem getD_app_lt {l : List T} {i : Nat} (x : T) (h : i < l.length) : (l ++ [x]).getD i T.u = l.getD i T.u := by
  rw [List.getD_eq_getElem?_getD, List.getD_eq_getElem?_getD, List.getElem?_append_left h]
theorem byt_app1 {l : List T} (h : byt l) : byt (l ++ [T.i .u8 0]) := byt_app h fun x hx => ⟨0, List.mem_singleton.1 hx, by omega, by omega⟩
theorem byt_take2 {l : List T} (h : byt l) (k : Nat) : byt (l.take k) := fun x hx => h x (List.mem_of_mem_take hx)
theorem putRows_flat : ∀ (l b : List T), putRows b l = b ++ flatT rowT l
  | [], b => by rw [putRows, flatT, List.append_nil]
  | x :: l, b => by rw [putRows, putRows_flat l, flatT]; simp only [List.append_assoc]
/-- A table's rows, as trees. -/
def rwT (l : List T) : Prop := ∀ x ∈ l, ∃ a s v c e, x = .st [.i .i64 a, .s s, .b v, .i .i64 c, .i .i64 e]
theorem rowB_in {nx : Int} {l : List T} {j : Nat} (h : rowB nx l j = true) : (1 ≤ asI (T.cell (l.getD j T.u) 0) ∧ asI (T.cell (l.getD j T.u) 0) < nx) ∧ (asS (T.cell (l.getD j T.u) 1)).size ≤ 14 ∧ (32 ≤ asI (T.cell (l.getD j T.u) 3) ∧ asI (T.cell (l.getD j T.u) 3) ≤ 4000) ∧ (0 ≤ asI (T.cell (l.getD j T.u) 4) ∧ asI (T.cell (l.getD j T.u) 4) ≤ 191) := by
  unfold rowB at h
  simp only [Bool.and_eq_true, Bool.not_eq_true', iLe_iff] at h
  obtain ⟨h1, h2, hn, h3, h4, _⟩ := h
  have h1 : ¬ asI (T.cell (l.getD j T.u) 0) < 1 := fun e => by rw [iLt_t e] at h1; cases h1
  have h2 : ¬ nx ≤ asI (T.cell (l.getD j T.u) 0) := fun e => by rw [iLe_t e] at h2; cases h2
  exact ⟨⟨by omega, by omega⟩, nameB_len hn, h3, h4⟩
theorem tableB_in {nx : Int} {l : List T} (h : tableB nx l = true) : (∀ j, j < l.length → rowB nx l j = true) ∧ l.length ≤ 6 ∧ 1 ≤ nx ∧ nx ≤ 99 := by
  unfold tableB at h
  simp only [Bool.and_eq_true, iLe_iff] at h
  exact ⟨allB_iff.1 h.1, by omega, h.2.2.1, h.2.2.2⟩
theorem flatR_len : ∀ (l : List T), l.length ≤ (flatT rowT l).length
  | [] => Nat.le_refl _
  | x :: l => by
    have h1 := numT_pos (clampN (asI (T.cell x 0)))
    have h2 := flatR_len l
    simp only [flatT, rowT, List.length_append, List.length_cons]
    omega
theorem table_put {nx : Int} {l : List T} (h : tableB nx l = true) (hp : rwT l) : getTableB (putTableT nx l) = some (nx, l) := by
  obtain ⟨h1, h2, h3, h4⟩ := tableB_in h
  have hb0 : putTableT nx l = numT nx ++ (numT (l.length : Int) ++ (flatT rowT l ++ [])) := by
    unfold putTableT
    rw [putRows_flat, clampN_id (by omega) (by omega), clampN_id (n := (l.length : Int)) (by omega) (by omega), List.append_nil, List.append_assoc]
  generalize hb : putTableT nx l = b at hb0 ⊢
  have A0 : At b (some 0) (numT nx ++ (numT (l.length : Int) ++ (flatT rowT l ++ []))) := by rw [← hb0]; exact at_zero b
  obtain ⟨e1, A1⟩ := rd_put A0 (by omega) (by omega)
  have hfl := flatR_len l
  obtain ⟨e2, A2⟩ := rdC_put A1 (by omega) (by omega) (by rw [List.append_nil]; omega)
  obtain ⟨e3, A3⟩ := items_put (b := b) (g := gRow b) (pr := rowT) l _ [] (fun x hx s rest hA => by
    obtain ⟨j, hj, rfl⟩ := List.getElem_of_mem hx
    have hin := rowB_in (h1 j hj)
    have e : l.getD j T.u = l[j] := by rw [List.getD_eq_getElem?_getD, List.getElem?_eq_getElem hj]; rfl
    rw [e] at hin
    obtain ⟨a, t, v, c, f, hx2⟩ := hp _ hx
    rw [hx2] at hin hA ⊢
    simp only [cell0, cellS, asI_i, asS_s] at hin
    have hA : At b s ((numT (clampN a) ++ (textT t ++ (numT (bif v then 1 else 0) ++ (numT (clampN c) ++ numT (clampN f))))) ++ rest) := hA
    rw [clampN_id (by omega) (by omega), clampN_id (by omega) (by omega), clampN_id (by omega) (by omega)] at hA
    simp only [List.append_assoc] at hA
    obtain ⟨f1, B1⟩ := rd_put hA (by omega) (by omega)
    obtain ⟨f2, B2⟩ := rdS_put B1 (by omega)
    obtain ⟨f3, B3⟩ := rdF_put B2
    obtain ⟨f4, B4⟩ := rd_put B3 (by omega) (by omega)
    obtain ⟨f5, B5⟩ := rd_put B4 (by omega) (by omega)
    unfold gRow
    rw [f1, f2, f3, f4, f5]
    exact ⟨rfl, B5⟩) A2
  unfold getTableB
  generalize hr : rdC b (rd b (some 0)).2 = r at *
  obtain ⟨N, s⟩ := r
  simp only at e2 A2 e3 A3 ⊢
  subst e2
  rw [Int.toNat_natCast]
  generalize hi : itemsI (gRow b) l.length s = it at *
  obtain ⟨ps, s3⟩ := it
  simp only at e3 A3 ⊢
  subst e3
  rw [(at_end A3).2 rfl, e1, h]
  rfl
theorem table_of {b : List T} (hb : byt b) {nx : Int} {l : List T} (h : getTableB b = some (nx, l)) : tableB nx l = true ∧ putTableT nx l = b := by
  unfold getTableB at h
  have hn := rd_in hb (some 0)
  have hc := rdC_in hb (rd b (some 0)).2
  have A0 := at_zero b
  have hlen := itemsI_len (g := gRow b) (rdC b (rd b (some 0)).2).1.toNat (rdC b (rd b (some 0)).2).2
  have R1 := @rd_of b hb (some 0) b A0
  have R2 := fun R hA => @rdC_of b hb (rd b (some 0)).2 R hA
  have hback := @rdC_back b (rd b (some 0)).2
  have hI := @items_of b (gRow b) rowT rfl (fun s R hA hne => by
    unfold gRow at hne ⊢
    simp only at hne ⊢
    have z4 := rd_back hne
    have z3 := rd_back z4
    have z2 := rdS_back (b := b) (s := (rd b s).2) (by
      intro e
      apply z3
      unfold rdF
      rw [e]
      rfl)
    have z2' : (rdS b (rd b s).2).2 ≠ none := by
      intro e
      apply z3
      unfold rdF
      rw [e]
      rfl
    obtain ⟨r1, q1, B1⟩ := rd_of hb hA z2
    obtain ⟨r2, q2, B2⟩ := rdS_of hb B1 z2'
    obtain ⟨r3, q3, B3⟩ := rdF_of hb B2 z3
    obtain ⟨r4, q4, B4⟩ := rd_of hb B3 z4
    obtain ⟨r5, q5, B5⟩ := rd_of hb B4 hne
    have n1 := rd_in hb s
    have n4 := rd_in hb (rdF b (rdS b (rd b s).2).2).2
    have n5 := rd_in hb (rd b (rdF b (rdS b (rd b s).2).2).2).2
    refine ⟨r5, ?_, B5⟩
    show R = (numT (clampN (rd b s).1) ++ (textT (rdS b (rd b s).2).1 ++ (numT (bif (rdF b (rdS b (rd b s).2).2).1 then 1 else 0) ++ (numT (clampN (rd b (rdF b (rdS b (rd b s).2).2).2).1) ++ numT (clampN (rd b (rd b (rdF b (rdS b (rd b s).2).2).2).2).1))))) ++ r5
    rw [clampN_id n1.1 n1.2, clampN_id n4.1 n4.2, clampN_id n5.1 n5.2]
    simp only [List.append_assoc]
    rw [← q5, ← q4, ← q3, ← q2, ← q1]) (rdC b (rd b (some 0)).2).1.toNat (rdC b (rd b (some 0)).2).2
  have hib := @items_back (gRow b) rfl (rdC b (rd b (some 0)).2).1.toNat (rdC b (rd b (some 0)).2).2
  generalize hr : rdC b (rd b (some 0)).2 = r at *
  obtain ⟨N, s⟩ := r
  simp only at h hlen hc R2 hback hI hib
  generalize hi : itemsI (gRow b) N.toNat s = it at *
  obtain ⟨ps, s3⟩ := it
  simp only at h hlen hI hib
  cases c1 : s3 == some b.length with
  | false => rw [c1] at h; cases h
  | true =>
    cases c2 : tableB (rd b (some 0)).1 ps with
    | false => rw [c1, c2] at h; cases h
    | true =>
      rw [c1, c2] at h
      cases h
      have z3 : s3 ≠ none := fun e => by rw [e] at c1; cases c1
      have z2 : s ≠ none := hib z3
      have z1 : (rd b (some 0)).2 ≠ none := rd_back (hback z2)
      obtain ⟨r1, q1, A1⟩ := R1 z1
      obtain ⟨r2, q2, A2⟩ := R2 r1 A1 z2
      obtain ⟨r3, q3, A3⟩ := hI r2 A2 z3
      have := (at_end A3).1 c1
      subst this
      refine ⟨c2, ?_⟩
      unfold putTableT
      have hN : ((l.length : Nat) : Int) = N := by omega
      rw [putRows_flat, clampN_id hn.1 hn.2, hN, clampN_id hc.1 hc.2, List.append_assoc]
      rw [List.append_nil] at q3
      rw [← q3, ← q2, ← q1]
def nmL : List T := [T.s (⟨#[109, 97, 105, 110]⟩ : ByteArray), T.s (⟨#[115, 110, 97, 112]⟩ : ByteArray), T.s (⟨#[119, 111, 114, 107]⟩ : ByteArray)]
theorem nm_ok : ∀ j, j < 3 → nameB (asS (nmL.getD j T.u)) = true := by
  intro j hj
  unfold nameB
  rcases j with _ | _ | _ | j <;> first | omega | (simp only [ByteArray.toList_eq]; decide +kernel)
theorem nm_ne : ∀ i j, i < j → j < 3 → ((asS (nmL.getD i T.u)).toList == (asS (nmL.getD j T.u)).toList) = false := by
  intro i j hi hj
  rcases j with _ | _ | _ | j <;> rcases i with _ | _ | i <;> first | omega | (simp only [ByteArray.toList_eq]; decide)
theorem nm_size : ∀ j, j < 3 → (asS (nmL.getD j T.u)).size ≤ 14 := fun j hj => nameB_len (nm_ok j hj)
def goodRw (l : List T) : Prop := l.length ≤ 3 ∧ ∀ i, i < l.length → ∃ v c e, l.getD i T.u = .st [.i .i64 (1 + 2 * (i : Int)), .s (asS (nmL.getD i T.u)), .b v, .i .i64 c, .i .i64 e] ∧ (32 ≤ c ∧ c ≤ 4000) ∧ (0 ≤ e ∧ e ≤ 191)
theorem goodRw_app {l : List T} (h : goodRw l) (hl : l.length < 3) (v : Bool) {c e : Int} (hc : 32 ≤ c ∧ c ≤ 4000) (he : 0 ≤ e ∧ e ≤ 191) : goodRw (l ++ [.st [.i .i64 (1 + 2 * (l.length : Int)), .s (asS (nmL.getD l.length T.u)), .b v, .i .i64 c, .i .i64 e]]) := by
  refine ⟨by rw [List.length_append, List.length_singleton]; omega, fun i hi => ?_⟩
  rw [List.length_append, List.length_singleton] at hi
  by_cases q : i = l.length
  · subst q
    exact ⟨v, c, e, getD_app l _, hc, he⟩
  · obtain ⟨v', c', e', q1, q2⟩ := h.2 i (by omega)
    exact ⟨v', c', e', by rw [getD_app_lt _ (by omega)]; exact q1, q2⟩
theorem goodRw_table {l : List T} (h : goodRw l) : tableB 9 l = true := by
  unfold tableB
  rw [Bool.and_eq_true, allB_iff]
  have hl := h.1
  refine ⟨fun j hj => ?_, by rw [iLe_t (by omega)]; rfl⟩
  obtain ⟨v, c, e, q, hc, he⟩ := h.2 j hj
  unfold rowB
  have hu : allB (fun i => !((asS (T.cell (l.getD i T.u) 1)).toList == (asS (T.cell (l.getD j T.u) 1)).toList)) j = true := allB_iff.2 fun i hi => by
    obtain ⟨v', c', e', q', _⟩ := h.2 i (by omega)
    rw [q, q']
    simp only [cell0, cellS, asS_s]
    rw [nm_ne i j hi (by omega)]
    rfl
  rw [hu, q]
  simp only [cell0, cellS, asI_i, asS_s]
  rw [iLt_f (show ¬ 1 + 2 * (j : Int) < 1 by omega), iLe_f (show ¬ (9 : Int) ≤ 1 + 2 * (j : Int) by omega), nm_ok j (by omega), iLe_t hc.1, iLe_t hc.2, iLe_t he.1, iLe_t he.2]
  by_cases h0 : 0 < j
  · obtain ⟨v', c', e', q', _⟩ := h.2 (j - 1) (by omega)
    rw [q']
    simp only [cell0, cellS, asI_i]
    rw [iLe_f (show ¬ 1 + 2 * (j : Int) ≤ 1 + 2 * ((j - 1 : Nat) : Int) by omega)]
    cases iLt 0 (j : Int) <;> rfl
  · rw [iLt_f (by omega)]; rfl
/-- Rows whose names are short. -/
def rwS (l : List T) : Prop := ∀ x ∈ l, ∃ a s v c e, x = .st [.i .i64 a, .s s, .b v, .i .i64 c, .i .i64 e] ∧ s.size ≤ 14
theorem rwS_T {l : List T} (h : rwS l) : rwT l := fun x hx => by
  obtain ⟨a, s, v, c, e, q, _⟩ := h x hx
  exact ⟨a, s, v, c, e, q⟩
theorem rwS_tls : ∀ {l : List T}, rwS l → tls l ≤ 14 * l.length
  | [], _ => Nat.le_refl _
  | x :: l, h => by
    obtain ⟨a, s, v, c, e, rfl, hs⟩ := h _ (List.mem_cons_self ..)
    have := rwS_tls fun y hy => h y (List.mem_cons_of_mem _ hy)
    simp only [tls, tl, List.length_cons] at this ⊢
    omega
theorem goodRw_S {l : List T} (h : goodRw l) : rwS l := by
  intro x hx
  obtain ⟨j, hj, rfl⟩ := List.getElem_of_mem hx
  obtain ⟨v, c, e, q, _⟩ := h.2 j hj
  rw [List.getD_eq_getElem?_getD, List.getElem?_eq_getElem hj] at q
  exact ⟨_, _, _, _, _, q, nm_size j (by have := h.1; omega)⟩
theorem c_drawT {lf d : Nat} (hlf : 33554432 ≤ lf) {b : List T} (hl : b.length ≤ 1048576) (i h : Int) (hi : 0 ≤ i ∧ i ≤ b.length) : ∃ l i' h', Cc lf (d + 4) 105 [.st [.sl b, .i .i64 i, .i .i64 h]] = some [.st [.i .i64 9, .sl l], .st [.sl b, .i .i64 i', .i .i64 h']] ∧ goodRw l ∧ (0 ≤ i' ∧ i' ≤ b.length) := by
  have E := f105_eq (Cc lf (d + 3)) lf b i h
  unfold f105 f105_t at E
  dsimp only at E
  have L : ∀ (k n : Nat) (i h : Int) (l : List T), l.length + k = 3 → k < n → goodRw l → (0 ≤ i ∧ i ≤ b.length) → ∃ l' i' h', f105_0 (Cc lf (d + 3)) lf b n (l.length : Int) i h l = some [T.i .i64 0, T.sl b, T.i .i64 i', T.i .i64 h', T.i .i64 0, T.sl ([] : List T), T.i .i64 9, T.sl l'] ∧ goodRw l' ∧ (0 ≤ i' ∧ i' ≤ b.length) := by
    intro k
    induction k with
    | zero =>
      intro n i h l hj hn hg hi
      obtain ⟨n, rfl⟩ : ∃ m, n = m + 1 := ⟨n - 1, by omega⟩
      obtain ⟨x, i1, h1, e1, _, q1⟩ := c_below (lf := lf) (d := d + 1) hl i h hi 4
      refine ⟨l, i1, h1, ?_, hg, q1⟩
      rw [f105_0_u]
      unfold f105_0_s
      rw [e1, iLt_f (show ¬ (l.length : Int) < 3 by omega)]
      simp only [cond_f, Option.bind_some, nth0, nthS, asI_i, cell0, cellS]
      cases iLt (l.length : Int) x <;> rfl
    | succ k ih =>
      intro n i h l hj hn hg hi
      obtain ⟨n, rfl⟩ : ∃ m, n = m + 1 := ⟨n - 1, by omega⟩
      obtain ⟨x, i1, h1, e1, _, q1⟩ := c_below (lf := lf) (d := d + 1) hl i h hi 4
      rw [f105_0_u]
      unfold f105_0_s
      rw [e1, iLt_t (show (l.length : Int) < 3 by omega)]
      simp only [cond_t, Option.bind_some, nth0, nthS, asI_i, cell0, cellS]
      cases iLt (l.length : Int) x with
      | false => exact ⟨l, i1, h1, rfl, hg, q1⟩
      | true =>
        simp only [cond_t]
        obtain ⟨v, i2, h2, e2, q2⟩ := c_once (lf := lf) (d := d) hl i1 h1 q1 2
        obtain ⟨z, i3, h3, hz, e3, q3⟩ := c_int (lf := lf) (d := d) hl i2 h2 q2 [T.i .i64 32, T.i .i64 500, T.i .i64 4000] (by simp)
        have hv : 32 ≤ asI ([T.i .i64 32, T.i .i64 500, T.i .i64 4000].getD z T.u) ∧ asI ([T.i .i64 32, T.i .i64 500, T.i .i64 4000].getD z T.u) ≤ 4000 := by
          rcases z with _ | _ | _ | z <;> first | decide | (simp only [List.length_cons, List.length_nil] at hz; omega)
        obtain ⟨y, i4, h4, hy, e4, q4⟩ := c_int (lf := lf) (d := d) hl i3 h3 q3 [T.i .i64 0, T.i .i64 9, T.i .i64 191] (by simp)
        have hw : 0 ≤ asI ([T.i .i64 0, T.i .i64 9, T.i .i64 191].getD y T.u) ∧ asI ([T.i .i64 0, T.i .i64 9, T.i .i64 191].getD y T.u) ≤ 191 := by
          rcases y with _ | _ | _ | y <;> first | decide | (simp only [List.length_cons, List.length_nil] at hy; omega)
        rw [inR_nat (show l.length < _ by simp only [List.length_cons, List.length_nil]; omega), e2]
        simp only [cond_t, Option.bind_some, nth0, nthS, asI_i, asB_b, cell0, cellS]
        rw [e3]
        simp only [cond_t, Option.bind_some, nth0, nthS, asI_i, asB_b, cell0, cellS]
        rw [e4]
        simp only [cond_t, Option.bind_some, nth0, nthS, asI_i, asB_b, cell0, cellS]
        rw [nLe_app (by omega), wrap_in (x := 2 * (l.length : Int)) (by omega) (by omega), wrap_in (x := 1 + 2 * (l.length : Int)) (by omega) (by omega), wrap_in (x := (l.length : Int) + 1) (by omega) (by omega), Int.toNat_natCast]
        have := ih n i4 h4 (l ++ [.st [.i .i64 (1 + 2 * (l.length : Int)), .s (asS (nmL.getD l.length T.u)), .b v, .i .i64 _, .i .i64 _]]) (by rw [List.length_append, List.length_singleton]; omega) (by omega) (goodRw_app hg (by omega) v hv hw) q4
        rw [List.length_append, List.length_singleton] at this
        exact this
  obtain ⟨l', i', h', e, g1, g2⟩ := L 3 lf i h [] (by simp) (by omega) ⟨by simp, fun i hi => absurd hi (Nat.not_lt_zero _)⟩ hi
  rw [show ((([] : List T).length : Nat) : Int) = 0 from rfl] at e
  rw [e] at E
  exact ⟨l', i', h', E, g1, g2⟩
theorem c_str {lf d : Nat} {b : List T} (hl : b.length ≤ 1048576) (i h : Int) (hi : 0 ≤ i ∧ i ≤ b.length) (l : List T) (h0 : 0 < l.length) : ∃ (k : Nat) (i' h' : Int), k < l.length ∧ Cc lf (d + 3) 131 [.st [.sl b, .i .i64 i, .i .i64 h], .sl l] = some [.s (asS (l.getD k T.u)), .st [.sl b, .i .i64 i', .i .i64 h']] ∧ (0 ≤ i' ∧ i' ≤ b.length) := by
  have E := f131_eq (Cc lf (d + 2)) lf b i h l
  unfold f131 f131_t at E
  obtain ⟨x, i1, h1, e1, r1, q1⟩ := c_below (lf := lf) (d := d) hl i h hi (l.length : Int)
  obtain ⟨k, rfl⟩ := Int.eq_ofNat_of_zero_le r1.1
  rw [e1] at E
  simp only [Option.bind_some, nth0, nthS, asI_i, cell0, cellS] at E
  rw [inR_nat (by omega)] at E
  exact ⟨k, i1, h1, by omega, E, q1⟩
theorem c_anyT {lf d : Nat} (hlf : 33554432 ≤ lf) {b : List T} (hl : b.length ≤ 1048576) (i h : Int) (hi : 0 ≤ i ∧ i ≤ b.length) : ∃ nx l i' h', Cc lf (d + 5) 104 [.st [.sl b, .i .i64 i, .i .i64 h]] = some [.st [.i .i64 nx, .sl l], .st [.sl b, .i .i64 i', .i .i64 h']] ∧ rwS l ∧ l.length ≤ 4 ∧ (0 ≤ i' ∧ i' ≤ b.length) := by
  have E := f104_eq (Cc lf (d + 4)) lf b i h
  unfold f104 f104_t at E
  obtain ⟨l, i1, h1, e1, g1, q1⟩ := c_drawT (d := d) hlf hl i h hi
  rw [e1] at E
  simp only [Option.bind_some, nth0, nthS, asB_b, asI_i, asL_l, cell0, cellS] at E
  obtain ⟨x, i2, h2, e2, _, q2⟩ := c_below (lf := lf) (d := d + 2) hl i1 h1 q1 8
  rw [e2] at E
  simp only [Option.bind_some, nth0, nthS, asB_b, asI_i, asL_l, cell0, cellS] at E
  have hp := goodRw_S g1
  have hlen := g1.1
  cases c0 : x == 0 with
  | true =>
    rw [c0] at E
    obtain ⟨z, i3, h3, _, e3, q3⟩ := c_int (lf := lf) (d := d + 1) hl i2 h2 q2 [T.i .i64 0, T.i .i64 1, T.i .i64 99, T.i .i64 100] (by simp)
    rw [e3] at E
    exact ⟨_, _, _, _, E, hp, by omega, q3⟩
  | false =>
    rw [c0] at E
    cases c1 : x == 1 with
    | true =>
      rw [c1] at E
      obtain ⟨z, i3, h3, _, e3, q3⟩ := c_int (lf := lf) (d := d + 1) hl i2 h2 q2 [T.i .i64 0, T.i .i64 3, T.i .i64 8, T.i .i64 9] (by simp)
      rw [e3] at E
      simp only [cond_f, cond_t, Option.bind_some, nth0, nthS, asB_b, asI_i, asL_l, asS_s, cell0, cellS] at E
      obtain ⟨w, i4, h4, hw, e4, q4⟩ := c_str (lf := lf) (d := d + 1) hl i3 h3 q3 [T.s (⟨#[109, 97, 105, 110]⟩ : ByteArray), T.s (⟨#[120]⟩ : ByteArray), T.s (⟨#[]⟩ : ByteArray)] (by simp)
      have hsz : (asS ([T.s (⟨#[109, 97, 105, 110]⟩ : ByteArray), T.s (⟨#[120]⟩ : ByteArray), T.s (⟨#[]⟩ : ByteArray)].getD w T.u)).size ≤ 14 := by
        rcases w with _ | _ | _ | w <;> first | decide | (simp only [List.length_cons, List.length_nil] at hw; omega)
      rw [e4] at E
      simp only [cond_f, cond_t, Option.bind_some, nth0, nthS, asB_b, asI_i, asL_l, asS_s, cell0, cellS] at E
      obtain ⟨z, i5, h5, _, e5, q5⟩ := c_int (lf := lf) (d := d + 1) hl i4 h4 q4 [T.i .i64 31, T.i .i64 32, T.i .i64 4001] (by simp)
      rw [e5] at E
      simp only [cond_f, cond_t, Option.bind_some, nth0, nthS, asB_b, asI_i, asL_l, asS_s, cell0, cellS] at E
      obtain ⟨z, i6, h6, _, e6, q6⟩ := c_int (lf := lf) (d := d + 1) hl i5 h5 q5 [T.i .i64 (-1), T.i .i64 0, T.i .i64 192] (by simp)
      rw [e6] at E
      simp only [cond_f, cond_t, Option.bind_some, nth0, nthS, asB_b, asI_i, asL_l, asS_s, cell0, cellS] at E
      rw [nLe_app (by omega)] at E
      refine ⟨_, _, _, _, E, fun y hy => ?_, by rw [List.length_append, List.length_singleton]; omega, q6⟩
      rcases List.mem_append.1 hy with hy | hy
      · exact hp y hy
      · exact ⟨_, _, _, _, _, List.mem_singleton.1 hy, hsz⟩
    | false =>
      rw [c1] at E
      exact ⟨_, _, _, _, E, hp, by omega, q2⟩
theorem c_drawPutTable {lf d : Nat} (hlf : 33554432 ≤ lf) {b : List T} (hl : b.length ≤ 1048576) : ∃ nx l, Cc lf (d + 6) 50 [.sl b] = some [.st [.i .i64 nx, .sl l]] ∧ rwS l ∧ l.length ≤ 4 := by
  have E := f50_eq (Cc lf (d + 5)) lf b
  unfold f50 f50_t at E
  obtain ⟨h, e⟩ := c_new (d := d + 4) hlf hl
  rw [e] at E
  simp only [Option.bind_some, nth0, nthS, asI_i, asL_l, cell0, cellS] at E
  obtain ⟨nx, l, i', h', e2, h1, h2, _⟩ := c_anyT (d := d) hlf hl 0 h (by omega)
  rw [e2] at E
  exact ⟨nx, l, E, h1, h2⟩
theorem c_drawGetTable {lf d : Nat} (hlf : 33554432 ≤ lf) {b : List T} (hl : b.length ≤ 1048576) : ∃ c, Cc lf (d + 6) 51 [.sl b] = some [.sl c] ∧ byt c ∧ c.length ≤ 1000 := by
  have E := f51_eq (Cc lf (d + 5)) lf b
  unfold f51 f51_t at E
  obtain ⟨h, e⟩ := c_new (d := d + 4) hlf hl
  rw [e] at E
  simp only [Option.bind_some, nth0, nthS, asI_i, asL_l, cell0, cellS] at E
  obtain ⟨l, i1, h1, e1, g1, q1⟩ := c_drawT (d := d + 1) hlf hl 0 h (by omega)
  rw [e1] at E
  simp only [Option.bind_some, nth0, nthS, asI_i, asL_l, cell0, cellS] at E
  have hm := goodRw_table g1
  have hlen := g1.1
  have htl := rwS_tls (goodRw_S g1)
  rw [c_sPutTable (d := d + 1) hlf 9 l (by omega), hm] at E
  simp only [Option.bind_some, nth0, nthS, asI_i, asL_l, cell0, cellS, cond_t] at E
  have hb : byt (putTableT 9 l) := putRows_byt _ _ (byt_app (byt_num (clampN_in _).1 (clampN_in _).2) (byt_num (clampN_in _).1 (clampN_in _).2))
  have hpl : (putTableT 9 l).length ≤ 6 + 40 * l.length := by
    have h1 := putRows_len l (numT (clampN 9) ++ numT (clampN (l.length : Int))) (fun x hx => by
      obtain ⟨a, s, v, c, e, rfl, hs⟩ := goodRw_S g1 x hx
      exact hs)
    have h2 := numT_len (clampN 9)
    have h3 := numT_len (clampN (l.length : Int))
    rw [List.length_append] at h1
    unfold putTableT
    omega
  have hpp : 0 < (putTableT 9 l).length := by
    unfold putTableT
    rw [putRows_flat]
    have h2 := numT_pos (clampN 9)
    simp only [List.length_append]
    omega
  generalize putTableT 9 l = p at *
  obtain ⟨x, i2, h2, e2, _, q2⟩ := c_below (lf := lf) (d := d + 3) hl i1 h1 q1 5
  rw [e2] at E
  simp only [Option.bind_some, nth0, nthS, asI_i, asL_l, cell0, cellS] at E
  cases c0 : x == 0 with
  | true =>
    rw [c0] at E
    obtain ⟨y, i3, h3, e3, r3, q3⟩ := c_below (lf := lf) (d := d + 3) hl i2 h2 q2 (p.length : Int)
    rw [e3] at E
    simp only [cond_t, Option.bind_some, nth0, nthS, asI_i, asL_l, cell0, cellS] at E
    obtain ⟨z, i4, h4, _, e4, q4⟩ := c_int (lf := lf) (d := d + 2) hl i3 h3 q3 [T.i .i64 0, T.i .i64 1, T.i .i64 2, T.i .i64 97, T.i .i64 128] (by simp)
    rw [e4] at E
    simp only [cond_t, Option.bind_some, nth0, nthS, asI_i, asL_l, cell0, cellS] at E
    obtain ⟨k, rfl⟩ := Int.eq_ofNat_of_zero_le r3.1
    rw [inR_nat (by omega)] at E
    exact ⟨_, E, byt_set hb _ _, by rw [List.length_set]; omega⟩
  | false =>
    rw [c0] at E
    cases c1 : x == 1 with
    | true =>
      rw [c1] at E
      obtain ⟨y, i3, h3, e3, r3, q3⟩ := c_below (lf := lf) (d := d + 3) hl i2 h2 q2 (p.length : Int)
      rw [e3] at E
      simp only [cond_f, cond_t, Option.bind_some, nth0, nthS, asI_i, asL_l, cell0, cellS] at E
      rw [iLe_t (show (0 : Int) ≤ 0 by omega), iLe_t (show 0 ≤ y by omega), iLe_t (show y ≤ (p.length : Int) by omega)] at E
      exact ⟨_, E, byt_take2 (by rw [List.drop_zero]; exact hb) _, by rw [List.length_take, List.drop_zero]; omega⟩
    | false =>
      rw [c1] at E
      cases c2 : x == 2 with
      | true =>
        rw [c2] at E
        rw [nLe_app (by omega)] at E
        exact ⟨_, E, byt_app1 hb, by rw [List.length_append, List.length_singleton]; omega⟩
      | false =>
        rw [c2] at E
        exact ⟨_, E, hb, by omega⟩
theorem c_sameBytes {lf d : Nat} (hlf : 33554432 ≤ lf) (l : List T) (hs : l.length ≤ 16777216) : Cc lf (d + 1) 20 [.sl l, .sl l] = some [.b true] := by
  refine (f20_eq (Cc lf d) lf l l).trans ?_
  unfold f20 f20_t
  dsimp only
  have L := all_loop (F := fun n j => f20_0 (Cc lf d) lf l l n j) (P := fun _ => true) (X := some [T.i .i64 0, T.b false]) (Y := some [T.i .i64 1]) (len := l.length) (fun n j hj => by
    rw [f20_0_u]
    unfold f20_0_s
    rw [iLt_t (by omega), inR_nat hj, wrap_next hj (by omega)]
    simp only [cond_t, bne_self_eq_false, cond_f]) (fun n => by
    rw [f20_0_u]
    unfold f20_0_s
    rw [iLt_f (by omega)]
    rfl) (n := lf) (by omega)
  have ht : allB (fun _ => true) l.length = true := allB_iff.2 fun _ _ => rfl
  rw [L, ht, bne_self_eq_false]
  rfl
theorem getTableB_tls {b : List T} (hb : byt b) {n : Int} {ps : List T} (h : getTableB b = some (n, ps)) : tls ps ≤ b.length := by
  unfold getTableB at h
  have hle := rdC_le (b := b) (s := (rd b (some 0)).2) hb
  generalize rdC b (rd b (some 0)).2 = r at h hle
  obtain ⟨N, s⟩ := r
  simp only at h hle
  have ht := rows_tls hb N.toNat s hle
  generalize itemsI (gRow b) N.toNat s = it at *
  obtain ⟨l, s3⟩ := it
  simp only at h ht
  generalize (s3 == some b.length && tableB (rd b (some 0)).1 l) = c at h
  cases c with
  | false => cases h
  | true => cases h; exact ht
theorem lawB {lf : Nat} (hlf : 33554432 ≤ lf) {t0 : T} (ht0 : fitC (.sl false [.i .u8]) t0) : Cc lf 12 9 [t0] = some [.b true] := by
  obtain ⟨b, rfl, _⟩ := fitC_sl ht0
  refine (f9_eq (Cc lf 11) lf b).trans ?_
  unfold f9 f9_t
  dsimp only
  rw [c_big (d := 10)]
  simp only [Option.bind_some, nth0, asB_b]
  by_cases hl : b.length ≤ 1048576
  case neg => rw [iLt_t (by omega)]; rfl
  rw [iLt_f (by omega), cond_f]
  obtain ⟨nx, l, e1, hS, hlen⟩ := c_drawPutTable (lf := lf) (d := 5) hlf hl
  obtain ⟨c, e2, hb, hc⟩ := c_drawGetTable (lf := lf) (d := 5) hlf hl
  have htl := rwS_tls hS
  rw [e1]
  simp only [Option.bind_some, nth0, nthS, asI_i, asL_l, cell0, cellS]
  rw [c_iPutTable (d := 7) hlf nx l (by omega), e2]
  simp only [Option.bind_some, nth0, nthS, asI_i, asL_l, cell0, cellS]
  rw [c_iGetTable (d := 6) hlf hb (by omega), c_sGetTable (d := 6) hlf hb (by omega)]
  simp only [Option.bind_some, beq_self_eq_true, Bool.not_true, cond_f]
  rw [c_sTable (d := 8) hlf nx l (by omega), c_iTable (d := 8) hlf nx l (by omega)]
  simp only [Option.bind_some, nth0, asB_b]
  have L0 : f9_0 (Cc lf 11) lf [T.st [T.i .i64 nx, T.sl l]] [T.st [T.i .i64 nx, T.sl l], T.b true] lf 0 = some [T.i .i64 1, T.i .i64 nx, T.sl l] := by
    have L := all_loop (F := fun n j => f9_0 (Cc lf 11) lf [T.st [T.i .i64 nx, T.sl l]] [T.st [T.i .i64 nx, T.sl l], T.b true] n j) (P := fun _ => true) (X := some [T.i .i64 0, T.b false]) (Y := some [T.i .i64 1, T.i .i64 nx, T.sl l]) (len := l.length) (fun n j hj => by
      rw [f9_0_u]
      unfold f9_0_s
      simp only [nth0, nthS, asI_i, asL_l, cell0, cellS]
      rw [iLt_t (by omega), inR_nat hj, Int.toNat_natCast, wrap_next hj (by omega)]
      simp only [cond_t, beq_self_eq_true, beq_ba, Bool.and_self, Bool.not_true, cond_f]) (fun n => by
      rw [f9_0_u]
      unfold f9_0_s
      simp only [nth0, nthS, asI_i, asL_l, cell0, cellS]
      rw [iLt_f (by omega)]
      rfl) (n := lf) (by omega)
    have ht : allB (fun _ => true) l.length = true := allB_iff.2 fun _ _ => rfl
    rw [ht] at L
    exact L
  have L1 : f9_1 (Cc lf 11) lf [T.st [T.i .i64 nx, T.sl l]] [T.st [T.i .i64 nx, T.sl l], T.b true] lf 0 = some [T.i .i64 1, T.i .i64 nx, T.sl l] := by
    have L := all_loop (F := fun n j => f9_1 (Cc lf 11) lf [T.st [T.i .i64 nx, T.sl l]] [T.st [T.i .i64 nx, T.sl l], T.b true] n j) (P := fun _ => true) (X := some [T.i .i64 0, T.b false]) (Y := some [T.i .i64 1, T.i .i64 nx, T.sl l]) (len := l.length) (fun n j hj => by
      rw [f9_1_u]
      unfold f9_1_s
      simp only [nth0, nthS, asI_i, asL_l, cell0, cellS]
      rw [iLt_t (by omega), inR_nat hj, Int.toNat_natCast, wrap_next hj (by omega)]
      simp only [cond_t, beq_self_eq_true, beq_ba, Bool.and_self, Bool.not_true, cond_f]) (fun n => by
      rw [f9_1_u]
      unfold f9_1_s
      simp only [nth0, nthS, asI_i, asL_l, cell0, cellS]
      rw [iLt_f (by omega)]
      rfl) (n := lf) (by omega)
    have ht : allB (fun _ => true) l.length = true := allB_iff.2 fun _ _ => rfl
    rw [ht] at L
    exact L
  have hpb : byt (putTableT nx l) := putRows_byt _ _ (byt_app (byt_num (clampN_in _).1 (clampN_in _).2) (byt_num (clampN_in _).1 (clampN_in _).2))
  have hpl : (putTableT nx l).length ≤ 380 := by
    have h1 := putRows_len l (numT (clampN nx) ++ numT (clampN (l.length : Int))) (fun x hx => by
      obtain ⟨a, s, v, c, e, rfl, hs⟩ := hS x hx
      exact hs)
    have h2 := numT_len (clampN nx)
    have h3 := numT_len (clampN (l.length : Int))
    rw [List.length_append] at h1
    unfold putTableT
    omega
  have G : tableB nx l = true → Cc lf 11 46 [.sl (putTableT nx l)] = some [T.st [T.i .i64 nx, T.sl l], T.b true] := fun hm => by
    have := c_iGetTable (lf := lf) (d := 6) hlf hpb (by omega)
    rw [table_put hm (rwS_T hS)] at this
    exact this
  cases hg : getTableB c with
  | none =>
    simp only [getTableR, nth0, nthS, asB_b, cond_f]
    cases hm : tableB nx l with
    | false => rfl
    | true =>
      simp only [cond_t, cond_f, Bool.not_true]
      rw [G hm]
      simp only [Option.bind_some, nth0, nthS, asI_i, asL_l, asB_b, cell0, cellS, Bool.not_true, bne_self_eq_false, cond_f]
      rw [iLt_f (show ¬ (380 : Int) < ((putTableT nx l).length : Int) by omega)]
      simp only [cond_f]
      rw [L1]
      simp only [Option.bind_some, nth0, nthS, asI_i, asL_l, asB_b, show ((1 : Int) == 0) = false from rfl, cond_f]
      rw [c_iTable (d := 8) hlf nx l (by omega), hm]
      rfl
  | some r =>
    obtain ⟨n, ps⟩ := r
    obtain ⟨m1, m2⟩ := table_of hb hg
    have hps := (tableB_in m1).2.1
    have hpt := getTableB_tls hb hg
    simp only [getTableR, nth0, nthS, asB_b, asI_i, asL_l, cell0, cellS, cond_t]
    rw [c_iTable (d := 8) hlf n ps (by omega), m1, c_iPutTable (d := 7) hlf n ps (by omega), m1]
    simp only [Option.bind_some, nth0, asB_b, asL_l, Bool.not_true, cond_t, cond_f, m2]
    rw [c_sameBytes (d := 10) hlf c (by omega)]
    simp only [Option.bind_some, nth0, asB_b, Bool.not_true, cond_f]
    cases hm : tableB nx l with
    | false => rfl
    | true =>
      simp only [cond_t, cond_f, Bool.not_true]
      rw [G hm]
      simp only [Option.bind_some, nth0, nthS, asI_i, asL_l, asB_b, cell0, cellS, Bool.not_true, bne_self_eq_false, cond_f]
      rw [iLt_f (show ¬ (380 : Int) < ((putTableT nx l).length : Int) by omega)]
      simp only [cond_f]
      rw [L0]
      simp only [Option.bind_some, nth0, nthS, asI_i, asL_l, asB_b, show ((1 : Int) == 0) = false from rfl, cond_f]
      rw [c_iTable (d := 8) hlf nx l (by omega), hm]
      rfl
end Go.Proofs.Ytockabaoaneplaa.T
