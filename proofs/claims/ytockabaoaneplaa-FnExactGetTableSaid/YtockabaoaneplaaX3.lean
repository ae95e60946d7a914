/- What functions of the law FnExactGetTable come to, in trees; no condition. -/
import Derived.Test.YtockabaoaneplaaRows
import Derived.Test.YtockabaoaneplaaX2
set_option linter.unusedVariables false
set_option linter.constructorNameAsVariable false
set_option linter.unusedSimpArgs false
set_option linter.unnecessarySimpa false
namespace Go.Proofs.Ytockabaoaneplaa.T
open Go Go.Proofs.YtockabaoaneplaaV
set_option maxRecDepth 100000
theorem c_l1In {lf d : Nat} (a lo hi : Int) : Cc lf (d + 1) 77 [.i .i64 a, .i .i64 lo, .i .i64 hi] = some [.b (iLe lo a && iLe a hi)] := by
  refine (f77_eq (Cc lf d) lf a lo hi).trans ?_
  unfold f77 f77_t
  exact cond_b _ _
theorem c_from {lf d : Nat} (a lo hi : Int) : Cc lf (d + 1) 76 [.i .i64 a, .i .i64 lo, .i .i64 hi] = some [.b (iLe lo a && iLe a hi)] := by
  refine (f76_eq (Cc lf d) lf a lo hi).trans ?_
  unfold f76 f76_t
  exact cond_b _ _
theorem c_sName {lf d : Nat} (hlf : 33554432 ≤ lf) (s : ByteArray) (hs : s.size ≤ 16777216) : Cc lf (d + 2) 109 [.s s] = some [.b (nameB s)] := by
  refine (f109_eq (Cc lf (d + 1)) lf s).trans ?_
  unfold f109 f109_t
  have L := all_loop (F := fun n j => f109_0 (Cc lf (d + 1)) lf s n j) (P := fun j => chB (byteAt s j)) (X := some [T.i .i64 0, T.b false]) (Y := some [T.i .i64 1, T.s s]) (len := s.size) (fun n j hj => by
    show f109_0_s (Cc lf (d + 1)) lf s _ _ = _
    unfold f109_0_s
    obtain ⟨b0, b1⟩ := byteAt_in s j
    rw [iLt_t (by omega), inR_nat hj, wrapK (x := byteAt s j) (by omega), wrap_next hj (by omega)]
    simp only [c_l1In, Option.bind_some, nth0, asB_b, chB, bne_not, cond_not, cond_and, cond_or, cond_t]) (fun n => by
    show f109_0_s (Cc lf (d + 1)) lf s _ _ = _
    unfold f109_0_s
    rw [iLt_f (by omega)]
    rfl) (n := lf) (by omega)
  simp only at L ⊢
  rw [L]
  unfold nameB
  cases allB (fun j => chB (byteAt s j)) s.size with
  | false => rfl
  | true =>
    simp only [cond_t, Option.bind_some, nth0, nthS, asI_i, asB_b, asS_s, c_l1In, cond_not]
    rw [show ((1 : Int) == 0) = false from rfl, cond_f]
    cases iLe 1 (s.size : Int) <;> cases iLe (s.size : Int) 14 <;> cases (s.toList == (⟨#[46]⟩ : ByteArray).toList) <;> cases (s.toList == (⟨#[46, 46]⟩ : ByteArray).toList) <;> rfl
theorem c_iName {lf d : Nat} (hlf : 33554432 ≤ lf) (s : ByteArray) (hs : s.size ≤ 16777216) : Cc lf (d + 2) 90 [.s s] = some [.b (nameB s)] := by
  refine (f90_eq (Cc lf (d + 1)) lf s).trans ?_
  unfold f90 f90_t
  have L := all_loop (F := fun n j => f90_0 (Cc lf (d + 1)) lf s n j) (P := fun j => chB (byteAt s j)) (X := some [T.i .i64 0, T.b false]) (Y := some [T.i .i64 1, T.s s]) (len := s.size) (fun n j hj => by
    show f90_0_s (Cc lf (d + 1)) lf s _ _ = _
    unfold f90_0_s
    rw [iLt_t (by omega), inR_nat hj, wrap_next hj (by omega)]
    simp only [iLt_le, chB, bne_not, cond_not, cond_and, cond_or, cond_t]) (fun n => by
    show f90_0_s (Cc lf (d + 1)) lf s _ _ = _
    unfold f90_0_s
    rw [iLt_f (by omega)]
    rfl) (n := lf) (by omega)
  simp only at L ⊢
  rw [L]
  unfold nameB
  cases allB (fun j => chB (byteAt s j)) s.size with
  | false => rfl
  | true =>
    simp only [cond_t, Option.bind_some, nth0, nthS, asI_i, asB_b, asS_s, cond_not]
    rw [show ((1 : Int) == 0) = false from rfl, cond_f]
    cases iLe 1 (s.size : Int) <;> cases iLe (s.size : Int) 14 <;> cases (s.toList == (⟨#[46]⟩ : ByteArray).toList) <;> cases (s.toList == (⟨#[46, 46]⟩ : ByteArray).toList) <;> rfl
/-- Is row j right? -/
def rowB (nx : Int) (l : List T) (j : Nat) : Bool :=
  !iLt (asI (T.cell (l.getD j T.u) 0)) 1 && (!iLe nx (asI (T.cell (l.getD j T.u) 0)) && (nameB (asS (T.cell (l.getD j T.u) 1)) && ((iLe 32 (asI (T.cell (l.getD j T.u) 3)) && iLe (asI (T.cell (l.getD j T.u) 3)) 4000) &&
    ((iLe 0 (asI (T.cell (l.getD j T.u) 4)) && iLe (asI (T.cell (l.getD j T.u) 4)) 191) && ((!iLt 0 (j : Int) || !iLe (asI (T.cell (l.getD j T.u) 0)) (asI (T.cell (l.getD (j - 1) T.u) 0))) &&
      allB (fun i => !((asS (T.cell (l.getD i T.u) 1)).toList == (asS (T.cell (l.getD j T.u) 1)).toList)) j)))))
def tableB (nx : Int) (l : List T) : Bool := allB (rowB nx l) l.length && (iLe (l.length : Int) 6 && (iLe 1 nx && iLe nx 99))

theorem rows_name {l : List T} {n : Nat} (hs : n + tls l ≤ 16777216) {j : Nat} (h : j < l.length) : (asS (T.cell (l.getD j T.u) 1)).size ≤ 16777216 := by
  have h1 := tl_mem (List.getElem_mem h)
  rw [List.getD_eq_getElem?_getD, List.getElem?_eq_getElem h]
  show (asS (T.cell l[j] 1)).size ≤ _
  cases e : l[j] <;> try (simp only [T.cell, asS]; exact Nat.zero_le _)
  rename_i xs
  rw [e] at h1
  simp only [T.cell, tl] at h1 ⊢
  cases e2 : xs[1]? with
  | none => rw [List.getD_eq_getElem?_getD, e2]; exact Nat.zero_le _
  | some x =>
    rw [List.getD_eq_getElem?_getD, e2]
    have h3 := tl_mem (List.mem_of_getElem? e2)
    show (asS x).size ≤ _
    cases x <;> try (exact Nat.zero_le _)
    simp only [tl, asS] at h3 ⊢
    omega

theorem c_sTable {lf d : Nat} (hlf : 33554432 ≤ lf) (nx : Int) (l : List T) (hs : l.length + tls l ≤ 16777216) : Cc lf (d + 3) 53 [.st [.i .i64 nx, .sl l]] = some [.b (tableB nx l)] := by
  refine (f53_eq (Cc lf (d + 2)) lf nx l).trans ?_
  unfold f53 f53_t
  have L := all_loop (F := fun n j => f53_0 (Cc lf (d + 2)) lf n j nx l) (P := rowB nx l) (X := some [T.i .i64 0, T.b false]) (Y := some [T.i .i64 1, T.i .i64 nx, T.sl l]) (len := l.length) (fun n j hj => by
    show f53_0 (Cc lf (d + 2)) lf (n + 1) _ nx l = _
    rw [f53_0_u]
    unfold f53_0_s
    have A1 := all_loop (F := fun n i => f53_1 (Cc lf (d + 2)) lf j nx l n i) (P := fun i => !((asS (T.cell (l.getD i T.u) 1)).toList == (asS (T.cell (l.getD j T.u) 1)).toList)) (X := some [T.i .i64 1, T.b false]) (Y := some [T.i .i64 0, T.i .i64 j, T.i .i64 nx, T.sl l]) (len := j) (fun n i hi => by
      show f53_1_s (Cc lf (d + 2)) lf _ _ _ _ _ = _
      unfold f53_1_s
      rw [iLt_t (by omega), inR_nat (by omega), wrap_next hi (by omega)]
      simp only [cond_t, cond_not, Int.toNat_natCast]) (fun n => by
      show f53_1_s (Cc lf (d + 2)) lf _ _ _ _ _ = _
      unfold f53_1_s
      rw [iLt_f (by omega)]
      rfl) (n := lf) (by omega)
    have A2 := all_loop (F := fun n i => f53_2 (Cc lf (d + 2)) lf j nx l n i) (P := fun i => !((asS (T.cell (l.getD i T.u) 1)).toList == (asS (T.cell (l.getD j T.u) 1)).toList)) (X := some [T.i .i64 1, T.b false]) (Y := some [T.i .i64 0, T.i .i64 j, T.i .i64 nx, T.sl l]) (len := j) (fun n i hi => by
      show f53_2_s (Cc lf (d + 2)) lf _ _ _ _ _ = _
      unfold f53_2_s
      rw [iLt_t (by omega), inR_nat (by omega), wrap_next hi (by omega)]
      simp only [cond_t, cond_not, Int.toNat_natCast]) (fun n => by
      show f53_2_s (Cc lf (d + 2)) lf _ _ _ _ _ = _
      unfold f53_2_s
      rw [iLt_f (by omega)]
      rfl) (n := lf) (by omega)
    rw [iLt_t (by omega), inR_nat hj]
    simp only [c_sName hlf _ (rows_name hs hj), c_l1In, Option.bind_some, nth0, asB_b, rowB, cond_not, cond_and, cond_or, cond_t, Int.toNat_natCast, A1, A2]
    cases h0 : iLt 0 (j : Int) with
    | true =>
      have hj0 : 0 < j := by have := iLt_iff.1 h0; omega
      rw [wrap_pred hj0 (by omega), inR_nat (by omega)]
      simp only [cond_t, cond_f, Int.toNat_natCast]
      cases allB (fun i => !((asS (T.cell (l.getD i T.u) 1)).toList == (asS (T.cell (l.getD j T.u) 1)).toList)) j with
      | true => simp only [cond_t, Option.bind_some, nth0, nthS, asI_i, asL_l, beq_self_eq_true, wrap_next hj (show l.length ≤ 9223372036854775807 by omega)]
      | false => rfl
    | false =>
      simp only [cond_t, cond_f]
      cases allB (fun i => !((asS (T.cell (l.getD i T.u) 1)).toList == (asS (T.cell (l.getD j T.u) 1)).toList)) j with
      | true => simp only [cond_t, Option.bind_some, nth0, nthS, asI_i, asL_l, beq_self_eq_true, wrap_next hj (show l.length ≤ 9223372036854775807 by omega)]
      | false => rfl) (fun n => by
    show f53_0 (Cc lf (d + 2)) lf (n + 1) _ nx l = _
    rw [f53_0_u]
    unfold f53_0_s
    rw [iLt_f (by omega)]
    rfl) (n := lf) (by omega)
  simp only at L ⊢
  rw [L]
  unfold tableB
  cases allB (rowB nx l) l.length with
  | false => rfl
  | true =>
    simp only [cond_t, Option.bind_some, nth0, nthS, asI_i, asB_b, asL_l, c_l1In]
    rw [show ((1 : Int) == 0) = false from rfl, cond_f]
    cases iLe (l.length : Int) 6 <;> rfl

theorem c_iTable {lf d : Nat} (hlf : 33554432 ≤ lf) (nx : Int) (l : List T) (hs : l.length + tls l ≤ 16777216) : Cc lf (d + 3) 52 [.st [.i .i64 nx, .sl l]] = some [.b (tableB nx l)] := by
  refine (f52_eq (Cc lf (d + 2)) lf nx l).trans ?_
  unfold f52 f52_t
  have cl : ∀ a, Cc lf (d + 2) 106 [.i .i64 a] = some [.b (iLe 32 a && iLe a 4000)] := fun a => by
    refine (f106_eq (Cc lf (d + 1)) lf a).trans ?_
    unfold f106 f106_t
    rw [c_from]
    rfl
  have L := all_loop (F := fun n j => f52_0 (Cc lf (d + 2)) lf l nx n j) (P := rowB nx l) (X := some [T.i .i64 0, T.b false]) (Y := some [T.i .i64 1, T.i .i64 nx, T.sl l]) (len := l.length) (fun n j hj => by
    show f52_0 (Cc lf (d + 2)) lf l nx (n + 1) _ = _
    rw [f52_0_u]
    unfold f52_0_s
    have ht : (l.take j).length = j := by rw [List.length_take]; omega
    have hg : ∀ i, i < j → (l.take j).getD i T.u = l.getD i T.u := fun i hi => by rw [List.getD_eq_getElem?_getD, List.getD_eq_getElem?_getD, List.getElem?_take_of_lt hi]
    have A1 := find_loop (F := fun n i => f52_1 (Cc lf (d + 2)) lf l j n i) (P := fun i => !((asS (T.cell (l.getD i T.u) 1)).toList == (asS (T.cell (l.getD j T.u) 1)).toList)) (X := fun i => some [T.i .i64 0, T.i .i64 i, T.i .i64 (asI (T.cell (l.getD j T.u) 0)), T.s (asS (T.cell (l.getD j T.u) 1)), T.b (asB (T.cell (l.getD j T.u) 2)), T.i .i64 (asI (T.cell (l.getD j T.u) 3)), T.i .i64 (asI (T.cell (l.getD j T.u) 4))])
      (Y := some [T.i .i64 1, T.i .i64 (asI (T.cell (l.getD j T.u) 0)), T.s (asS (T.cell (l.getD j T.u) 1)), T.b (asB (T.cell (l.getD j T.u) 2)), T.i .i64 (asI (T.cell (l.getD j T.u) 3)), T.i .i64 (asI (T.cell (l.getD j T.u) 4))]) (len := j) (fun n i hi => by
      show f52_1_s (Cc lf (d + 2)) lf _ _ _ _ = _
      unfold f52_1_s
      simp only [Int.toNat_natCast, ht, hg i hi]
      rw [iLt_t (by omega), inR_nat (by omega), wrap_next hi (by omega)]
      simp only [cond_t, cond_not]) (fun n => by
      show f52_1_s (Cc lf (d + 2)) lf _ _ _ _ = _
      unfold f52_1_s
      simp only [Int.toNat_natCast, ht]
      rw [iLt_f (by omega)]
      rfl) (n := lf) (by omega)
    have A2 := find_loop (F := fun n i => f52_2 (Cc lf (d + 2)) lf l j n i) (P := fun i => !((asS (T.cell (l.getD i T.u) 1)).toList == (asS (T.cell (l.getD j T.u) 1)).toList)) (X := fun i => some [T.i .i64 0, T.i .i64 i, T.i .i64 (asI (T.cell (l.getD j T.u) 0)), T.s (asS (T.cell (l.getD j T.u) 1)), T.b (asB (T.cell (l.getD j T.u) 2)), T.i .i64 (asI (T.cell (l.getD j T.u) 3)), T.i .i64 (asI (T.cell (l.getD j T.u) 4))])
      (Y := some [T.i .i64 1, T.i .i64 (asI (T.cell (l.getD j T.u) 0)), T.s (asS (T.cell (l.getD j T.u) 1)), T.b (asB (T.cell (l.getD j T.u) 2)), T.i .i64 (asI (T.cell (l.getD j T.u) 3)), T.i .i64 (asI (T.cell (l.getD j T.u) 4))]) (len := j) (fun n i hi => by
      show f52_2_s (Cc lf (d + 2)) lf _ _ _ _ = _
      unfold f52_2_s
      simp only [Int.toNat_natCast, ht, hg i hi]
      rw [iLt_t (by omega), inR_nat (by omega), wrap_next hi (by omega)]
      simp only [cond_t, cond_not]) (fun n => by
      show f52_2_s (Cc lf (d + 2)) lf _ _ _ _ = _
      unfold f52_2_s
      simp only [Int.toNat_natCast, ht]
      rw [iLt_f (by omega)]
      rfl) (n := lf) (by omega)
    rw [iLt_t (by omega), inR_nat hj]
    simp only [c_iName hlf _ (rows_name hs hj), cl, c_from, Option.bind_some, nth0, asB_b, rowB, cond_not, cond_and, cond_or, cond_t, Int.toNat_natCast]
    rw [iLe_t (show (0 : Int) ≤ (j : Int) by omega), iLe_t (show (j : Int) ≤ (l.length : Int) by omega)]
    simp only [cond_t, Bool.and_self]
    cases iLt (asI (T.cell (l.getD j T.u) 0)) 1 <;> simp only [cond_t, cond_f]
    cases iLe nx (asI (T.cell (l.getD j T.u) 0)) <;> simp only [cond_t, cond_f]
    cases h0 : iLt 0 (j : Int) with
    | true =>
      have hj0 : 0 < j := by have := iLt_iff.1 h0; omega
      rw [wrap_pred hj0 (by omega), inR_nat (by omega)]
      simp only [cond_t, cond_f, Int.toNat_natCast]
      rcases A1 with ⟨p1, p2⟩ | ⟨p1, i, p3, _, p2⟩
      · rw [p1, p2, wrap_next hj (by omega)]
        simp only [cond_t, cond_f, Option.bind_some, nth0, asI_i]
        rw [show ((1 : Int) == 0) = false from rfl]
        cases nameB (asS (T.cell (l.getD j T.u) 1)) <;> cases iLe (asI (T.cell (l.getD j T.u) 0)) (asI (T.cell (l.getD (j - 1) T.u) 0)) <;> cases iLe 32 (asI (T.cell (l.getD j T.u) 3)) <;> cases iLe (asI (T.cell (l.getD j T.u) 3)) 4000 <;> cases iLe 0 (asI (T.cell (l.getD j T.u) 4)) <;> cases iLe (asI (T.cell (l.getD j T.u) 4)) 191 <;> rfl
      · rw [p1, p2]
        simp only [cond_t, cond_f, Option.bind_some, nth0, nthS, asI_i]
        rw [show ((0 : Int) == 0) = true from rfl, iLe_t (show (0 : Int) ≤ (i : Int) by omega)]
        cases nameB (asS (T.cell (l.getD j T.u) 1)) <;> cases iLe (asI (T.cell (l.getD j T.u) 0)) (asI (T.cell (l.getD (j - 1) T.u) 0)) <;> cases iLe 32 (asI (T.cell (l.getD j T.u) 3)) <;> cases iLe (asI (T.cell (l.getD j T.u) 3)) 4000 <;> cases iLe 0 (asI (T.cell (l.getD j T.u) 4)) <;> cases iLe (asI (T.cell (l.getD j T.u) 4)) 191 <;> rfl
    | false =>
      simp only [cond_t, cond_f]
      rcases A2 with ⟨p1, p2⟩ | ⟨p1, i, p3, _, p2⟩
      · rw [p1, p2, wrap_next hj (by omega)]
        simp only [cond_t, cond_f, Option.bind_some, nth0, asI_i]
        rw [show ((1 : Int) == 0) = false from rfl]
        cases nameB (asS (T.cell (l.getD j T.u) 1)) <;> cases iLe 32 (asI (T.cell (l.getD j T.u) 3)) <;> cases iLe (asI (T.cell (l.getD j T.u) 3)) 4000 <;> cases iLe 0 (asI (T.cell (l.getD j T.u) 4)) <;> cases iLe (asI (T.cell (l.getD j T.u) 4)) 191 <;> rfl
      · rw [p1, p2]
        simp only [cond_t, cond_f, Option.bind_some, nth0, nthS, asI_i]
        rw [show ((0 : Int) == 0) = true from rfl, iLe_t (show (0 : Int) ≤ (i : Int) by omega)]
        cases nameB (asS (T.cell (l.getD j T.u) 1)) <;> cases iLe 32 (asI (T.cell (l.getD j T.u) 3)) <;> cases iLe (asI (T.cell (l.getD j T.u) 3)) 4000 <;> cases iLe 0 (asI (T.cell (l.getD j T.u) 4)) <;> cases iLe (asI (T.cell (l.getD j T.u) 4)) 191 <;> rfl) (fun n => by
    show f52_0 (Cc lf (d + 2)) lf l nx (n + 1) _ = _
    rw [f52_0_u]
    unfold f52_0_s
    rw [iLt_f (by omega)]
    rfl) (n := lf) (by omega)
  simp only at L ⊢
  rw [L]
  unfold tableB
  cases allB (rowB nx l) l.length with
  | false => rfl
  | true =>
    simp only [cond_t, Option.bind_some, nth0, nthS, asI_i, asB_b, asL_l, c_from]
    rw [show ((1 : Int) == 0) = false from rfl, cond_f]
    cases iLe (l.length : Int) 6 <;> cases iLe 1 nx <;> cases iLe nx 99 <;> rfl
theorem c_sGetNum {lf d : Nat} (hlf : 33554432 ≤ lf) {b : List T} (hb : byt b) (hl : b.length ≤ 1073741824) (p : Nat) (hp : p ≤ 1073741824) : Cc lf (d + 1) 126 [.sl b, .i .i64 (p : Int)] = some (getR (getNum b p)) := by
  refine (f126_eq (Cc lf d) lf b p).trans ?_
  unfold f126 f126_t
  dsimp only
  have B : ∀ j, j < b.length → 0 ≤ asI (b.getD j .u) ∧ asI (b.getD j .u) < 256 := fun j hj => by
    obtain ⟨n, e, h⟩ := byt_at hb hj
    rw [e]; exact h
  have L := getNum_loop (b := b) (p := p) (F := fun n x k => f126_0 (Cc lf d) lf b p n x k) (X := some [T.i .i64 0, T.i .i64 0, T.i .i64 0, T.b false]) (Z := some [T.i .i64 1]) (Y := fun v q => some [T.i .i64 0, T.i .i64 v, T.i .i64 (q : Int), T.b true]) hb (fun n x k hk hpk h0 h1 => by
    have hc := B _ hpk
    have hw : IntKind.wrap .u64 (IntKind.wrap .i64 (7 * (k : Int))) = ((7 * k : Nat) : Int) := by
      rcases (by omega : k = 0 ∨ k = 1 ∨ k = 2) with rfl | rfl | rfl <;> rfl
    have hpw : ((2 ^ (7 * k) : Nat) : Int) = 128 ^ k := by
      rcases (by omega : k = 0 ∨ k = 1 ∨ k = 2) with rfl | rfl | rfl <;> rfl
    rw [f126_0_u]
    unfold f126_0_s
    rw [iLt_t (by omega), iLe_t (by omega), iLt_t (by omega), wrap_in (x := (p : Int) + (k : Int)) (by omega) (by omega), iLt_t (by omega), inR_t (by omega) (by omega), hw, iLe_t (by omega), show ((p : Int) + (k : Int)).toNat = p + k by omega, wrap_in (x := asI (b.getD (p + k) .u)) (by omega) (by omega), and_mod hc.1 (by omega),
      shl_mul (by omega) (by omega) (by omega), or_add (k := 7 * k) h0 (by rw [hpw]; exact h1) (by omega) (by omega) (by omega), hpw, wrap_in (x := (k : Int) + 1) (by omega) (by omega), wrap_in (x := (p : Int) + (k : Int) + 1) (by omega) (by omega)]
    simp only [cond_t]
    by_cases c0 : 128 ≤ asI (b.getD (p + k) .u)
    · rw [iLt_t (by omega), if_pos c0]
      rfl
    · rw [iLt_f (by omega), if_neg c0, Int.emod_eq_of_lt hc.1 (by omega)]
      simp only [cond_f]
      by_cases k0 : k = 0
      · subst k0
        rw [iLt_f (by omega)]
        by_cases m : 1000000 < x + asI (b.getD (p + 0) .u) * 128 ^ 0
        · rw [iLt_t m, if_pos (.inr m)]; rfl
        · rw [iLt_f m, if_neg (by omega)]; rfl
      · rw [iLt_t (by omega)]
        by_cases z : asI (b.getD (p + k) .u) = 0
        · rw [if_pos (.inl ⟨k0, z⟩), z]; rfl
        · rw [show (asI (b.getD (p + k) .u) == 0) = false from by simpa using z]
          by_cases m : 1000000 < x + asI (b.getD (p + k) .u) * 128 ^ k
          · rw [iLt_t m, if_pos (.inr m)]; rfl
          · rw [iLt_f m, if_neg (by rintro (h | h); exact z h.2; exact m h)]; rfl) (fun n x k hk3 hk => by
    rw [f126_0_u]
    unfold f126_0_s
    by_cases k3 : k < 3
    · rw [iLt_t (by omega), iLe_t (by omega)]
      by_cases h : p < b.length
      · rw [iLt_t (by omega), wrap_in (x := (p : Int) + (k : Int)) (by omega) (by omega), iLt_f (by omega)]; rfl
      · rw [iLt_f (by omega)]; rfl
    · rw [iLt_f (by omega)]; rfl) (n := lf) (by omega)
  rcases L with ⟨h1, h2 | h2⟩ | ⟨v, q, h1, h2⟩
  · rw [show ((0 : Nat) : Int) = 0 from rfl] at h2; rw [h1, h2]; rfl
  · rw [show ((0 : Nat) : Int) = 0 from rfl] at h2; rw [h1, h2]; rfl
  · rw [show ((0 : Nat) : Int) = 0 from rfl] at h2; rw [h1, h2]; rfl
theorem c_iGetNum {lf d : Nat} (hlf : 33554432 ≤ lf) {b : List T} (hb : byt b) (hl : b.length ≤ 1073741824) (p : Nat) (hp : p ≤ 1073741824) : Cc lf (d + 1) 125 [.sl b, .i .i64 (p : Int)] = some (getR (getNum b p)) := by
  refine (f125_eq (Cc lf d) lf b p).trans ?_
  unfold f125 f125_t
  dsimp only
  have B : ∀ j, j < b.length → 0 ≤ asI (b.getD j .u) ∧ asI (b.getD j .u) < 256 := fun j hj => by
    obtain ⟨n, e, h⟩ := byt_at hb hj
    rw [e]; exact h
  have L := getNum_loop (b := b) (p := p) (F := fun n x k => f125_0 (Cc lf d) lf b p n x (128 ^ k) k) (X := some [T.i .i64 0]) (Z := some [T.i .i64 0]) (Y := fun v q => some [T.i .i64 1, T.i .i64 v, T.i .i64 (q : Int), T.b true]) hb (fun n x k hk hpk h0 h1 => by
    have hc := B _ hpk
    have hm := Int.emod_nonneg (asI (b.getD (p + k) .u)) (show (128 : Int) ≠ 0 by omega)
    have hm2 := Int.emod_lt_of_pos (asI (b.getD (p + k) .u)) (show (0 : Int) < 128 by omega)
    have hk3 : k = 0 ∨ k = 1 ∨ k = 2 := by omega
    have hpw : 1 ≤ (128 : Int) ^ k ∧ (128 : Int) ^ k ≤ 16384 ∧ (128 : Int) ^ k * 128 = 128 ^ (k + 1) ∧ 0 ≤ asI (b.getD (p + k) .u) % 128 * 128 ^ k ∧ asI (b.getD (p + k) .u) % 128 * 128 ^ k ≤ 2097152 := by
      rcases hk3 with rfl | rfl | rfl
      · refine ⟨by decide, by decide, by decide, ?_, ?_⟩ <;> rw [Int.pow_zero] <;> omega
      · refine ⟨by decide, by decide, by decide, ?_, ?_⟩ <;> rw [Int.pow_one] <;> omega
      · have e : (128 : Int) ^ 2 = 16384 := rfl
        refine ⟨by decide, by decide, by decide, ?_, ?_⟩ <;> rw [e] <;> omega
    rw [f125_0_u]
    unfold f125_0_s
    rw [iLt_t (by omega), wrap_in (x := (b.length : Int) - (k : Int)) (by omega) (by omega), iLt_t (by omega), wrap_in (x := (p : Int) + (k : Int)) (by omega) (by omega), inR_t (by omega) (by omega), show ((p : Int) + (k : Int)).toNat = p + k by omega, wrap_in (x := asI (b.getD (p + k) .u)) (by omega) (by omega), Int.tmod_eq_emod_of_nonneg hc.1,
      wrap_in (x := asI (b.getD (p + k) .u) % 128 * 128 ^ k) (by omega) (by omega), wrap_in (x := x + asI (b.getD (p + k) .u) % 128 * 128 ^ k) (by omega) (by omega), wrap_in (x := (128 : Int) ^ k * 128) (by omega) (by omega), hpw.2.2.1, wrap_in (x := (k : Int) + 1) (by omega) (by omega), wrap_in (x := (p : Int) + (k : Int) + 1) (by omega) (by omega)]
    simp only [cond_t]
    by_cases c0 : 128 ≤ asI (b.getD (p + k) .u)
    · rw [iLe_t c0, if_pos c0]
      rfl
    · rw [iLe_f c0, if_neg c0, Int.emod_eq_of_lt hc.1 (by omega)]
      simp only [cond_f]
      by_cases m : 1000000 < x + asI (b.getD (p + k) .u) * 128 ^ k
      · rw [iLt_t m, if_pos (.inr m)]; rfl
      · rw [iLt_f m]
        by_cases z : asI (b.getD (p + k) .u) = 0
        · by_cases k0 : k = 0
          · subst k0
            rw [if_neg (by omega), iLt_f (by omega), show (asI (b.getD (p + 0) .u) == 0) = true by rw [z]; rfl]; rfl
          · rw [if_pos (.inl ⟨k0, z⟩), iLt_t (by omega), show (asI (b.getD (p + k) .u) == 0) = true by rw [z]; rfl]; rfl
        · rw [if_neg (by rintro (h | h); exact z h.2; exact m h), show (asI (b.getD (p + k) .u) == 0) = false from by simpa using z]; rfl) (fun n x k hk3 hk => by
    rw [f125_0_u]
    unfold f125_0_s
    by_cases k3 : k < 3
    · rw [iLt_t (by omega), wrap_in (x := (b.length : Int) - (k : Int)) (by omega) (by omega), iLt_f (by omega)]; rfl
    · rw [iLt_f (by omega)]; rfl) (n := lf) (by omega)
  rw [iLt_f (by omega), cond_f]
  rcases L with ⟨h1, h2 | h2⟩ | ⟨v, q, h1, h2⟩
  · rw [Int.pow_zero, show ((0 : Nat) : Int) = 0 from rfl] at h2; rw [h1, h2]; rfl
  · rw [Int.pow_zero, show ((0 : Nat) : Int) = 0 from rfl] at h2; rw [h1, h2]; rfl
  · rw [Int.pow_zero, show ((0 : Nat) : Int) = 0 from rfl] at h2; rw [h1, h2]; rfl
theorem c_iNum {lf d : Nat} (hlf : 33554432 ≤ lf) {b : List T} (hb : byt b) (hl : b.length ≤ 1073741824) {s : Option Nat} {p : Int} {ok : Bool} (h : RI b s p ok) :
    ∃ p' ok', Cc lf (d + 2) 72 [.st [.sl b, .i .i64 p, .b ok]] = some [.i .i64 (rd b s).1, .st [.sl b, .i .i64 p', .b ok']] ∧ RI b (rd b s).2 p' ok' := by
  have E := f72_eq (Cc lf (d + 1)) lf b p ok
  unfold f72 f72_t at E
  obtain ⟨rfl, h2⟩ := h
  cases s with
  | none => exact ⟨p, false, E, rfl, fun q hq => by cases hq⟩
  | some q =>
    obtain ⟨rfl, hq⟩ := h2 q rfl
    rw [c_iGetNum hlf hb hl q (by omega)] at E
    simp only [rd]
    cases e : getNum b q with
    | none => rw [e] at E; exact ⟨0, false, E, rfl, fun q hq => by cases hq⟩
    | some x =>
      obtain ⟨n, q2⟩ := x
      rw [e] at E
      exact ⟨q2, true, E, rfl, fun q hq => by cases hq; exact ⟨rfl, (getNum_in hb e).2.2.2⟩⟩
theorem c_sNum {lf d : Nat} (hlf : 33554432 ≤ lf) {b : List T} (hb : byt b) (hl : b.length ≤ 1073741824) {s : Option Nat} {p : Int} {bad : Bool} (h : RS b s p bad) :
    ∃ p' bad', Cc lf (d + 2) 75 [.st [.sl b, .i .i64 p, .b bad]] = some [.i .i64 (rd b s).1, .st [.sl b, .i .i64 p', .b bad']] ∧ RS b (rd b s).2 p' bad' := by
  have E := f75_eq (Cc lf (d + 1)) lf b p bad
  unfold f75 f75_t at E
  obtain ⟨rfl, h2, q0, rfl, hq0⟩ := h
  rw [c_sGetNum hlf hb hl q0 (by omega)] at E
  cases s with
  | none => exact ⟨q0, true, E, rfl, (fun q hq => by cases hq), q0, rfl, hq0⟩
  | some q =>
    have e0 : q0 = q := by have := h2 q rfl; omega
    subst e0
    simp only [rd]
    cases e : getNum b q0 with
    | none => rw [e] at E; exact ⟨q0, true, E, rfl, (fun q hq => by cases hq), q0, rfl, hq0⟩
    | some x =>
      obtain ⟨n, q2⟩ := x
      rw [e] at E
      exact ⟨q2, false, E, rfl, (fun q hq => by cases hq; rfl), q2, rfl, (getNum_in hb e).2.2.2⟩
theorem c_iCount {lf d : Nat} (hlf : 33554432 ≤ lf) {b : List T} (hb : byt b) (hl : b.length ≤ 1073741824) {s : Option Nat} {p : Int} {ok : Bool} (h : RI b s p ok) :
    ∃ p' ok', Cc lf (d + 3) 73 [.st [.sl b, .i .i64 p, .b ok]] = some [.i .i64 (rdC b s).1, .st [.sl b, .i .i64 p', .b ok']] ∧ RI b (rdC b s).2 p' ok' := by
  have E := f73_eq (Cc lf (d + 2)) lf b p ok
  unfold f73 f73_t at E
  obtain ⟨p', ok', h1, h2⟩ := c_iNum (d := d) hlf hb hl h
  rw [h1] at E
  simp only [Option.bind_some, nth0, nthS, asI_i, asB_b, cell0, cellS] at E
  obtain ⟨rfl, h3⟩ := h2
  have hz := @rd_zero b s
  unfold rdC
  generalize hr : rd b s = r at *
  obtain ⟨n, s'⟩ := r
  cases s' with
  | none =>
    have : n = 0 := hz rfl
    subst this
    cases c : iLt (IntKind.wrap .i64 ((b.length : Int) - p')) 0 with
    | true => rw [c] at E; exact ⟨p', false, E, rfl, fun q hq => by cases hq⟩
    | false => rw [c] at E; exact ⟨p', false, E, rfl, fun q hq => by cases hq⟩
  | some q =>
    obtain ⟨rfl, hq⟩ := h3 q rfl
    rw [wrap_in (by omega) (by omega)] at E
    simp only
    by_cases c : n > (b.length : Int) - q
    · rw [iLt_t c] at E
      rw [if_pos c]
      exact ⟨q, false, E, rfl, fun q hq => by cases hq⟩
    · rw [iLt_f c] at E
      rw [if_neg c]
      exact ⟨q, true, E, rfl, fun q2 hq2 => by cases hq2; exact ⟨rfl, hq⟩⟩
theorem c_iDone {lf d : Nat} {b : List T} {s : Option Nat} {p : Int} {ok : Bool} (h : RI b s p ok) :
    ∃ t, Cc lf (d + 1) 74 [.st [.sl b, .i .i64 p, .b ok]] = some [.b (s == some b.length), t] := by
  have E := f74_eq (Cc lf d) lf b p ok
  unfold f74 f74_t at E
  obtain ⟨rfl, h2⟩ := h
  cases s with
  | none => exact ⟨_, E⟩
  | some q =>
    obtain ⟨rfl, _⟩ := h2 q rfl
    have e : ((q : Int) == (b.length : Int)) = (some q == some b.length) := by
      rw [Bool.eq_iff_iff]
      simp
      omega
    exact ⟨_, by rw [← e]; exact E⟩
/-- What reading a text answers. -/
def getTR : ByteArray × Option Nat → List T
  | (s, some q) => [.s s, .i .i64 (q : Int), .b true]
  | (_, none) => [.s ⟨#[]⟩, .i .i64 0, .b false]
theorem getText_aux {b : List T} (hb : byt b) (hl : b.length ≤ 1073741824) (p : Nat) : ((some (getR (getNum b p)) : Option (List T)).bind fun r =>
  bif !(asB (nth r 2)) then
    some [T.s (⟨#[]⟩ : ByteArray), T.i .i64 0, T.b false]
  else
    bif iLt (IntKind.wrap .i64 ((b.length : Int) - (asI (nth r 1)))) (asI (nth r 0)) then
      some [T.s (⟨#[]⟩ : ByteArray), T.i .i64 0, T.b false]
    else
      bif iLe 0 (asI (nth r 1)) && iLe (asI (nth r 1)) (IntKind.wrap .i64 ((asI (nth r 1)) + (asI (nth r 0)))) && iLe (IntKind.wrap .i64 ((asI (nth r 1)) + (asI (nth r 0)))) (b.length : Int) then
      some [T.s (bytesOf ((b.drop ((asI (nth r 1)).toNat)).take (((IntKind.wrap .i64 ((asI (nth r 1)) + (asI (nth r 0)))).toNat) - ((asI (nth r 1)).toNat)))), T.i .i64 (IntKind.wrap .i64 ((asI (nth r 1)) + (asI (nth r 0)))), T.b true]
      else none) = some (getTR (rdS b (some p))) := by
  unfold rdS
  simp only [rd]
  cases e : getNum b p with
  | none => rfl
  | some x =>
    obtain ⟨n, q⟩ := x
    obtain ⟨h0, h1, h2, h3⟩ := getNum_in hb e
    simp only [getR, Option.bind_some, nth0, nthS, asI_i, asB_b, Bool.not_true, cond_f]
    rw [wrap_in (x := (b.length : Int) - q) (by omega) (by omega), wrap_in (x := (q : Int) + n) (by omega) (by omega)]
    by_cases c : n > (b.length : Int) - q
    · rw [iLt_t c, if_pos c]; rfl
    · rw [iLt_f c, if_neg c, cond_f, iLe_t (by omega), iLe_t (by omega), iLe_t (by omega)]
      rw [show ((q : Int)).toNat = q from rfl, show ((q : Int) + n).toNat - q = n.toNat by omega, show (q : Int) + n = ((q + n.toNat : Nat) : Int) by omega]
      rfl
theorem c_iGetText {lf d : Nat} (hlf : 33554432 ≤ lf) {b : List T} (hb : byt b) (hl : b.length ≤ 1073741824) (p : Nat) (hp : p ≤ 1073741824) : Cc lf (d + 2) 132 [.sl b, .i .i64 (p : Int)] = some (getTR (rdS b (some p))) := by
  refine (f132_eq (Cc lf (d + 1)) lf b p).trans ?_
  unfold f132 f132_t
  rw [c_iGetNum hlf hb hl p hp]
  exact getText_aux hb hl p
theorem c_sGetText {lf d : Nat} (hlf : 33554432 ≤ lf) {b : List T} (hb : byt b) (hl : b.length ≤ 1073741824) (p : Nat) (hp : p ≤ 1073741824) : Cc lf (d + 2) 139 [.sl b, .i .i64 (p : Int)] = some (getTR (rdS b (some p))) := by
  refine (f139_eq (Cc lf (d + 1)) lf b p).trans ?_
  unfold f139 f139_t
  rw [c_sGetNum hlf hb hl p hp]
  exact getText_aux hb hl p
theorem c_iText {lf d : Nat} (hlf : 33554432 ≤ lf) {b : List T} (hb : byt b) (hl : b.length ≤ 1073741824) {s : Option Nat} {p : Int} {ok : Bool} (h : RI b s p ok) :
    ∃ p' ok', Cc lf (d + 3) 91 [.st [.sl b, .i .i64 p, .b ok]] = some [.s (rdS b s).1, .st [.sl b, .i .i64 p', .b ok']] ∧ RI b (rdS b s).2 p' ok' := by
  have E := f91_eq (Cc lf (d + 2)) lf b p ok
  unfold f91 f91_t at E
  obtain ⟨rfl, h2⟩ := h
  cases s with
  | none => exact ⟨p, false, E, rfl, fun q hq => by cases hq⟩
  | some q =>
    obtain ⟨rfl, hq⟩ := h2 q rfl
    rw [c_iGetText hlf hb hl q (by omega)] at E
    have hn := @rdS_next b hb (some q)
    have hs : (rdS b (some q)).2 = none → (rdS b (some q)).1 = ⟨#[]⟩ := by
      intro h
      unfold rdS at h ⊢
      split
      · rename_i n q' e
        rw [e] at h
        simp only at h
        split at h
        · rename_i c; rw [if_pos c]
        · cases h
      · rfl
    generalize rdS b (some q) = r at *
    obtain ⟨s, q2⟩ := r
    cases q2 with
    | none =>
      have := hs rfl
      simp only at this
      subst this
      exact ⟨0, false, E, rfl, fun q hq => by cases hq⟩
    | some q2 => exact ⟨q2, true, E, rfl, fun q hq => by cases hq; obtain ⟨_, _, _, h⟩ := hn rfl; exact ⟨rfl, h⟩⟩
theorem c_sText {lf d : Nat} (hlf : 33554432 ≤ lf) {b : List T} (hb : byt b) (hl : b.length ≤ 1073741824) {s : Option Nat} {p : Int} {bad : Bool} (h : RS b s p bad) :
    ∃ p' bad', Cc lf (d + 3) 101 [.st [.sl b, .i .i64 p, .b bad]] = some [.s (rdS b s).1, .st [.sl b, .i .i64 p', .b bad']] ∧ RS b (rdS b s).2 p' bad' := by
  have E := f101_eq (Cc lf (d + 2)) lf b p bad
  unfold f101 f101_t at E
  obtain ⟨rfl, h2, q0, rfl, hq0⟩ := h
  rw [c_sGetText hlf hb hl q0 (by omega)] at E
  cases s with
  | none => exact ⟨q0, true, E, rfl, (fun q hq => by cases hq), q0, rfl, hq0⟩
  | some q =>
    have e0 : q0 = q := by have := h2 q rfl; omega
    subst e0
    have hn := @rdS_next b hb (some q0)
    have hs : (rdS b (some q0)).2 = none → (rdS b (some q0)).1 = ⟨#[]⟩ := by
      intro h
      unfold rdS at h ⊢
      split
      · rename_i n q' e
        rw [e] at h
        simp only at h
        split at h
        · rename_i c; rw [if_pos c]
        · cases h
      · rfl
    generalize rdS b (some q0) = r at *
    obtain ⟨s, q2⟩ := r
    cases q2 with
    | none =>
      have := hs rfl
      simp only at this
      subst this
      exact ⟨q0, true, E, rfl, (fun q hq => by cases hq), q0, rfl, hq0⟩
    | some q2 => exact ⟨q2, false, E, rfl, (fun q hq => by cases hq; rfl), q2, rfl, by obtain ⟨_, _, _, h⟩ := hn rfl; exact h⟩
def rowT (x : T) : List T := numT (clampN (asI (T.cell x 0))) ++ (textT (asS (T.cell x 1)) ++ (numT (bif asB (T.cell x 2) then 1 else 0) ++ (numT (clampN (asI (T.cell x 3))) ++ numT (clampN (asI (T.cell x 4))))))
def putRows : List T → List T → List T
  | b, [] => b
  | b, x :: l => putRows (b ++ rowT x) l
def putTableT (nx : Int) (l : List T) : List T := putRows (numT (clampN nx) ++ numT (clampN (l.length : Int))) l
theorem rowT_len {x : T} (h : (asS (T.cell x 1)).size ≤ 14) : (rowT x).length ≤ 40 := by
  have h1 := numT_len (clampN (asI (T.cell x 0)))
  have h2 := textT_len (asS (T.cell x 1))
  have h3 := numT_len (bif asB (T.cell x 2) then 1 else 0)
  have h4 := numT_len (clampN (asI (T.cell x 3)))
  have h5 := numT_len (clampN (asI (T.cell x 4)))
  simp only [rowT, List.length_append]
  omega
theorem rowT_byt (x : T) : byt (rowT x) := by
  have h3 : byt (numT (bif asB (T.cell x 2) then 1 else 0)) := by cases asB (T.cell x 2) <;> exact byt_num (by simp) (by simp)
  exact byt_app (byt_num (clampN_in _).1 (clampN_in _).2) (byt_app (byt_text _) (byt_app h3 (byt_app (byt_num (clampN_in _).1 (clampN_in _).2) (byt_num (clampN_in _).1 (clampN_in _).2))))
theorem putRows_len : ∀ (l : List T) (b : List T), (∀ x ∈ l, (asS (T.cell x 1)).size ≤ 14) → (putRows b l).length ≤ b.length + 40 * l.length
  | [], b, _ => by simp [putRows]
  | x :: l, b, h => by
    have := putRows_len l (b ++ rowT x) fun y hy => h y (List.mem_cons_of_mem _ hy)
    have h1 := rowT_len (h x (List.mem_cons_self ..))
    simp only [putRows, List.length_append, List.length_cons] at this ⊢
    omega
theorem putRows_byt : ∀ (l : List T) (b : List T), byt b → byt (putRows b l)
  | [], b, h => h
  | x :: l, b, h => putRows_byt l _ (byt_app h (rowT_byt x))
theorem putRows_drop {l : List T} {j : Nat} (h : j < l.length) (b : List T) : putRows b (l.drop j) = putRows (b ++ rowT (l.getD j .u)) (l.drop (j + 1)) := by
  rw [List.drop_eq_getElem_cons h, List.getD_eq_getElem?_getD, List.getElem?_eq_getElem h]
  rfl
theorem nameB_len {s : ByteArray} (h : nameB s = true) : s.size ≤ 14 := by
  unfold nameB at h
  simp only [Bool.and_eq_true, iLe_iff] at h
  omega
theorem tableB_row {nx : Int} {l : List T} (h : tableB nx l = true) : l.length ≤ 6 ∧ ∀ j, j < l.length → (asS (T.cell (l.getD j .u) 1)).size ≤ 14 := by
  unfold tableB at h
  simp only [Bool.and_eq_true, iLe_iff] at h
  refine ⟨by omega, fun j hj => ?_⟩
  have := allB_iff.1 h.1 j hj
  unfold rowB at this
  simp only [Bool.and_eq_true] at this
  exact nameB_len this.2.2.1
def gRow (b : List T) (s : Option Nat) : T × Option Nat :=
  (.st [.i .i64 (rd b s).1, .s (rdS b (rd b s).2).1, .b (rdF b (rdS b (rd b s).2).2).1, .i .i64 (rd b (rdF b (rdS b (rd b s).2).2).2).1, .i .i64 (rd b (rd b (rdF b (rdS b (rd b s).2).2).2).2).1], (rd b (rd b (rdF b (rdS b (rd b s).2).2).2).2).2)
theorem rdF_next {b : List T} (hb : byt b) {s : Option Nat} {q : Nat} (h : (rdF b s).2 = some q) : ∃ p, s = some p ∧ p < q ∧ q ≤ b.length := by
  unfold rdF at h
  simp only at h
  split at h
  · obtain ⟨p, e1, h1, h2, _⟩ := rd_next hb h
    exact ⟨p, e1, h1, h2⟩
  · cases h
theorem gRow_next {b : List T} (hb : byt b) (p q : Nat) (h : (gRow b (some p)).2 = some q) : p < q ∧ q ≤ b.length := by
  unfold gRow at h
  obtain ⟨p1, e1, h1, h2, _⟩ := rd_next hb h
  obtain ⟨p2, e2, h3, h4, _⟩ := rd_next hb e1
  obtain ⟨p3, e3, h5, h6⟩ := rdF_next hb e2
  obtain ⟨p4, e4, h7, h8⟩ := rdS_next hb e3
  obtain ⟨p5, e5, h9, h10, _⟩ := rd_next hb e4
  cases e5
  omega
theorem gRow_tl (b : List T) (s : Option Nat) : tl (gRow b s).1 = (rdS b (rd b s).2).1.size := by
  simp only [gRow, tl, tls]
  omega
theorem gRow_size {b : List T} (hb : byt b) (p : Nat) (hp : p ≤ b.length) : p + tl (gRow b (some p)).1 ≤ b.length ∧ ∀ q, (gRow b (some p)).2 = some q → p + tl (gRow b (some p)).1 ≤ q ∧ q ≤ b.length := by
  rw [gRow_tl]
  cases e : (rd b (some p)).2 with
  | none =>
    refine ⟨by rw [rdS_none]; exact hp, fun q h => ?_⟩
    have := gRow_next hb p q h
    rw [rdS_none]
    exact ⟨by show p + 0 ≤ q; omega, this.2⟩
  | some p1 =>
    obtain ⟨p0, e0, h1, h2, _⟩ := rd_next hb e
    cases e0
    obtain ⟨a1, a2⟩ := rdS_size hb h2
    refine ⟨by omega, fun q h => ?_⟩
    have hq := gRow_next hb p q h
    unfold gRow at h
    obtain ⟨p1', e1, h3, h4, _⟩ := rd_next hb h
    obtain ⟨p2, e2, h5, h6, _⟩ := rd_next hb e1
    obtain ⟨p3, e3, h7, h8⟩ := rdF_next hb e2
    rw [e] at e3
    have := a2 p3 e3
    omega
theorem rows_tls {b : List T} (hb : byt b) (k : Nat) (s : Option Nat) (hs : ∀ p, s = some p → p ≤ b.length) : tls (itemsI (gRow b) k s).1 ≤ b.length := by
  obtain ⟨r1, r2⟩ := items_tls (g := gRow b) (b := b) ⟨rfl, rfl⟩ (gRow_size hb) k s
  cases s with
  | none => rw [r1 rfl]; exact Nat.zero_le _
  | some p => have := r2 p rfl (hs p rfl); omega
theorem rowsS_tls {b : List T} (hb : byt b) (k : Nat) (s : Option Nat) (hs : ∀ p, s = some p → p ≤ b.length) : tls (itemsS (gRow b) k s).1 ≤ b.length := by
  obtain ⟨r1, r2⟩ := itemsS_tls (g := gRow b) (b := b) (gRow_size hb) k s
  cases s with
  | none => rw [r1 rfl]; exact Nat.zero_le _
  | some p => have := r2 p rfl (hs p rfl); omega
theorem c_iFlag {lf d : Nat} (hlf : 33554432 ≤ lf) {b : List T} (hb : byt b) (hl : b.length ≤ 1073741824) {s : Option Nat} {p : Int} {ok : Bool} (h : RI b s p ok) :
    ∃ p' ok', Cc lf (d + 3) 102 [.st [.sl b, .i .i64 p, .b ok]] = some [.b (rdF b s).1, .st [.sl b, .i .i64 p', .b ok']] ∧ RI b (rdF b s).2 p' ok' := by
  have E := f102_eq (Cc lf (d + 2)) lf b p ok
  unfold f102 f102_t at E
  obtain ⟨p', ok', h1, h2⟩ := c_iNum (d := d) hlf hb hl h
  rw [h1] at E
  simp only [Option.bind_some, nth0, nthS, asI_i, asB_b, cell0, cellS] at E
  obtain ⟨rfl, h3⟩ := h2
  unfold rdF
  simp only
  cases e : (rd b s).2 with
  | none =>
    rw [e] at E
    refine ⟨p', false, E, ?_⟩
    rw [ite_self]
    exact ⟨rfl, fun q hq => by cases hq⟩
  | some q =>
    rw [e] at E
    by_cases c : (rd b s).1 < 2
    · rw [iLt_t c] at E
      rw [if_pos c]
      exact ⟨p', true, E, rfl, fun q' hq => h3 q' (by rw [e]; exact hq)⟩
    · rw [iLt_f c] at E
      rw [if_neg c]
      exact ⟨p', false, E, rfl, fun q hq => by cases hq⟩
/-- The table that bytes are. -/
def getTableB (b : List T) : Option (Int × List T) :=
  match (rdC b (rd b (some 0)).2) with
  | (n, s) => match itemsI (gRow b) n.toNat s with
    | (ps, s3) => bif s3 == some b.length && tableB (rd b (some 0)).1 ps then some ((rd b (some 0)).1, ps) else none
def getTableR : Option (Int × List T) → List T
  | some (n, ps) => [.st [.i .i64 n, .sl ps], .b true]
  | none => [.st [.i .i64 0, .sl []], .b false]
theorem rdC_le {b : List T} {s : Option Nat} (hb : byt b) : ∀ p, (rdC b s).2 = some p → p ≤ b.length := by
  intro p h
  cases e : (rd b s).2 with
  | none => rw [rdC_none e] at h; cases h
  | some q =>
    obtain ⟨_, _, _, h2, _⟩ := rd_next hb e
    rw [rdC_some (N := (rd b s).1) (p := q) (by rw [← e])] at h
    split at h
    · cases h
    · cases h; exact h2
theorem c_iGetTable {lf d : Nat} (hlf : 33554432 ≤ lf) {b : List T} (hb : byt b) (hl : b.length ≤ 1048576) : Cc lf (d + 5) 46 [.sl b] = some (getTableR (getTableB b)) := by
  refine (f46_eq (Cc lf (d + 4)) lf b).trans ?_
  unfold f46 f46_t
  dsimp only
  obtain ⟨p1, ok1, e1, R1⟩ := c_iNum (d := d + 2) (s := some 0) (p := 0) (ok := true) hlf hb (by omega) ⟨rfl, fun q hq => by cases hq; exact ⟨rfl, Nat.zero_le _⟩⟩
  obtain ⟨p2, ok2, e2, R2⟩ := c_iCount (d := d + 1) hlf hb (by omega) R1
  rw [e1]
  simp only [Option.bind_some, nth0, nthS, asI_i, asB_b, cell0, cellS]
  rw [e2]
  simp only [Option.bind_some, nth0, nthS, asI_i, asB_b, cell0, cellS]
  have hc := rdC_in hb (rd b (some 0)).2
  obtain ⟨N, hN⟩ := Int.eq_ofNat_of_zero_le hc.1
  obtain ⟨p3, ok3, e3, R3⟩ := loopI (g := gRow b) (b := b) (N := N) (F := fun n j p ok acc => f46_0 (Cc lf (d + 4)) lf b [T.i .i64 (rd b (some 0)).1, T.st [T.sl b, T.i .i64 p1, T.b ok1]] [T.i .i64 (rdC b (rd b (some 0)).2).1, T.st [T.sl b, T.i .i64 p2, T.b ok2]] n j p ok acc)
    (Y := fun p ok acc => some [T.i .i64 0, T.i .i64 0, T.sl ([] : List T), T.sl b, T.i .i64 p, T.b ok, T.i .i64 (rd b (some 0)).1, T.sl acc]) (by omega) (fun n j p ok acc s hj hR ha => by
      obtain ⟨pa, oa, q1, Q1⟩ := c_iNum (d := d + 2) hlf hb (by omega) hR
      obtain ⟨pb, ob, q2, Q2⟩ := c_iText (d := d + 1) hlf hb (by omega) Q1
      obtain ⟨pc, oc, q3, Q3⟩ := c_iFlag (d := d + 1) hlf hb (by omega) Q2
      obtain ⟨pd, od, q4, Q4⟩ := c_iNum (d := d + 2) hlf hb (by omega) Q3
      obtain ⟨pe, oe, q5, Q5⟩ := c_iNum (d := d + 2) hlf hb (by omega) Q4
      refine ⟨pe, oe, ?_, Q5⟩
      rw [f46_0_u]
      unfold f46_0_s
      rw [nth0, asI_i, hN, iLt_t (by omega), q1]
      simp only [cond_t, Option.bind_some, nth0, nthS, asI_i, asB_b, asS_s, cell0, cellS]
      rw [q2]
      simp only [cond_t, Option.bind_some, nth0, nthS, asI_i, asB_b, asS_s, cell0, cellS]
      rw [q3]
      simp only [cond_t, Option.bind_some, nth0, nthS, asI_i, asB_b, asS_s, cell0, cellS]
      rw [q4]
      simp only [cond_t, Option.bind_some, nth0, nthS, asI_i, asB_b, asS_s, cell0, cellS]
      rw [q5]
      simp only [cond_t, Option.bind_some, nth0, nthS, asI_i, asB_b, asS_s, cell0, cellS]
      rw [nLe_app (by omega), cond_t, wrap_in (by omega) (by omega)]
      rfl) (fun n p ok acc => by
      rw [f46_0_u]
      unfold f46_0_s
      rw [nth0, asI_i, hN, iLt_f (by omega)]
      rfl) (n := lf) (by omega) R2
  rw [e3]
  simp only [Option.bind_some, nth0, nthS, asI_i, asB_b, asL_l, cell0, cellS]
  obtain ⟨t, e4⟩ := c_iDone (lf := lf) (d := d + 3) R3
  rw [e4]
  simp only [Option.bind_some, nth0, nthS, asI_i, asB_b]
  have hlen := itemsI_len (g := gRow b) N (rdC b (rd b (some 0)).2).2
  have htls := rows_tls hb N (rdC b (rd b (some 0)).2).2 (rdC_le hb)
  rw [c_iTable (d := d + 1) hlf _ _ (by omega)]
  simp only [Option.bind_some, nth0, asB_b]
  unfold getTableB
  simp only [hN, Int.toNat_natCast]
  cases (itemsI (gRow b) N (rdC b (rd b (some 0)).2).2).2 == some b.length with
  | false => rfl
  | true =>
    cases tableB (rd b (some 0)).1 (itemsI (gRow b) N (rdC b (rd b (some 0)).2).2).1 with
    | false => rfl
    | true => rfl
theorem c_sGetTable {lf d : Nat} (hlf : 33554432 ≤ lf) {b : List T} (hb : byt b) (hl : b.length ≤ 1048576) : Cc lf (d + 5) 44 [.sl b] = some (getTableR (getTableB b)) := by
  refine (f44_eq (Cc lf (d + 4)) lf b).trans ?_
  unfold f44 f44_t
  dsimp only
  obtain ⟨p1, ok1, e1, R1⟩ := c_sNum (d := d + 2) (s := some 0) (p := 0) (bad := false) hlf hb (by omega) ⟨rfl, (fun q hq => by cases hq; rfl), 0, rfl, Nat.zero_le _⟩
  obtain ⟨p2, ok2, e2, R2⟩ := c_sNum (d := d + 2) hlf hb (by omega) R1
  rw [e1]
  simp only [Option.bind_some, nth0, nthS, asI_i, asB_b, cell0, cellS]
  rw [e2]
  simp only [Option.bind_some, nth0, nthS, asI_i, asB_b, cell0, cellS]
  have hc := rd_in hb (rd b (some 0)).2
  obtain ⟨N, hN⟩ := Int.eq_ofNat_of_zero_le hc.1
  obtain ⟨p3, ok3, e3, R3⟩ := loopS (g := gRow b) (b := b) (K := min N (6 + 1)) (F := fun n j p bad acc => f44_0 (Cc lf (d + 4)) lf b [T.i .i64 (rd b (some 0)).1, T.st [T.sl b, T.i .i64 p1, T.b ok1]] [T.i .i64 (rd b (rd b (some 0)).2).1, T.st [T.sl b, T.i .i64 p2, T.b ok2]] n j p bad acc)
    (Y := fun p bad acc => some [T.i .i64 0, T.sl b, T.i .i64 (N : Int), T.i .i64 0, T.sl ([] : List T), T.sl b, T.i .i64 p, T.b bad, T.i .i64 (rd b (some 0)).1, T.sl acc]) (by omega) (fun n j p bad acc s hj hR ha => by
      obtain ⟨pa, oa, q1, Q1⟩ := c_sNum (d := d + 2) hlf hb (by omega) hR
      obtain ⟨pb, ob, q2, Q2⟩ := c_sText (d := d + 1) hlf hb (by omega) Q1
      obtain ⟨pc, oc, q3, Q3⟩ := c_sNum (d := d + 2) hlf hb (by omega) Q2
      have QF : RS b (rdF b (rdS b (rd b (some s)).2).2).2 pc (oc || iLt 1 (rd b (rdS b (rd b (some s)).2).2).1) := by
        obtain ⟨a1, a2, a3⟩ := Q3
        unfold rdF
        simp only
        by_cases c : (rd b (rdS b (rd b (some s)).2).2).1 < 2
        · rw [if_pos c, iLt_f (by omega), Bool.or_false]
          exact ⟨a1, a2, a3⟩
        · rw [if_neg c, iLt_t (by omega), Bool.or_true]
          exact ⟨rfl, (fun q h => by cases h), a3⟩
      obtain ⟨pd, od, q4, Q4⟩ := c_sNum (d := d + 2) hlf hb (by omega) QF
      obtain ⟨pe, oe, q5, Q5⟩ := c_sNum (d := d + 2) hlf hb (by omega) Q4
      refine ⟨pe, oe, ?_, Q5⟩
      have hbad : bad = false := hR.1
      subst hbad
      rw [f44_0_u]
      unfold f44_0_s
      rw [nth0, asI_i, hN, iLt_t (by omega), iLe_t (by omega), q1]
      simp only [cond_t, cond_f, Bool.not_false, Option.bind_some, nth0, nthS, asI_i, asB_b, asS_s, cell0, cellS]
      rw [q2]
      simp only [cond_t, cond_f, Bool.not_false, Option.bind_some, nth0, nthS, asI_i, asB_b, asS_s, cell0, cellS]
      rw [q3]
      simp only [cond_t, Option.bind_some, nth0, nthS, asI_i, asB_b, asS_s, cell0, cellS]
      have fin : ∀ ob, (oc || iLt 1 (rd b (rdS b (rd b (some s)).2).2).1) = ob → Cc lf (d + 4) 75 [.st [.sl b, .i .i64 pc, .b ob]] = some [.i .i64 (rd b (rdF b (rdS b (rd b (some s)).2).2).2).1, .st [.sl b, .i .i64 pd, .b od]] := fun ob e => by rw [← e]; exact q4
      cases oc with
      | true =>
        simp only [cond_t]
        rw [fin true rfl]
        simp only [cond_t, Option.bind_some, nth0, nthS, asI_i, asB_b, asS_s, cell0, cellS]
        rw [q5]
        simp only [cond_t, Option.bind_some, nth0, nthS, asI_i, asB_b, asS_s, cell0, cellS]
        rw [nLe_app (by omega), cond_t, wrap_in (by omega) (by omega)]
        rfl
      | false =>
        simp only [cond_f]
        rw [fin _ (Bool.false_or _)]
        simp only [cond_t, Option.bind_some, nth0, nthS, asI_i, asB_b, asS_s, cell0, cellS]
        rw [q5]
        simp only [cond_t, Option.bind_some, nth0, nthS, asI_i, asB_b, asS_s, cell0, cellS]
        rw [nLe_app (by omega), cond_t, wrap_in (by omega) (by omega)]
        rfl) (fun n j p bad acc s hj hR hx => by
      rw [f44_0_u]
      unfold f44_0_s
      rw [nth0, asI_i, hN]
      by_cases c1 : j < N
      · rw [iLt_t (by omega)]
        by_cases c2 : j ≤ 6
        · have hs : s = none := by rcases hx with h | h; omega; exact h
          have hbad : bad = true := by rw [hR.1, hs]; rfl
          subst hbad
          rw [iLe_t (by omega)]
          rfl
        · rw [iLe_f (by omega)]; rfl
      · rw [iLt_f (by omega)]; rfl) (n := lf) (by omega) R2
  rw [e3]
  simp only [Option.bind_some, nth0, nthS, asI_i, asB_b, asL_l, cell0, cellS]
  have hlen := itemsS_len (g := gRow b) (min N (6 + 1)) (rd b (rd b (some 0)).2).2
  have htls := rowsS_tls hb (min N (6 + 1)) (rd b (rd b (some 0)).2).2 (fun p h => by obtain ⟨_, _, _, h2, _⟩ := rd_next hb h; exact h2)
  rw [c_sTable (d := d + 1) hlf _ _ (by omega)]
  simp only [Option.bind_some, nth0, asB_b]
  -- the two readers
  have hno : (gRow b none).2 = none := rfl
  obtain ⟨hbad, hat, q3, hq3, hq3l⟩ := R3
  unfold getTableB
  cases hs2 : (rd b (rd b (some 0)).2).2 with
  | none =>
    have hcnt : rdC b (rd b (some 0)).2 = (0, none) := by
      unfold rdC
      generalize hr : rd b (rd b (some 0)).2 = r at *
      obtain ⟨n, s'⟩ := r
      simp only at hs2
      subst hs2
      rfl
    have hS : (itemsS (gRow b) (min N (6 + 1)) none).2 = none := by cases min N (6 + 1) <;> rfl
    rw [hs2] at hbad
    rw [hS] at hbad
    rw [hcnt, hbad]
    rfl
  | some p =>
    obtain ⟨p0, hp0, _, hpl, _⟩ := rd_next hb hs2
    rw [hs2] at hbad hat
    have hrd : rd b (rd b (some 0)).2 = ((N : Int), some p) := by rw [← hN, ← hs2]
    rcases list_rel (g := gRow b) (b := b) hno (gRow_next hb) 6 N p hpl with ⟨ps, q, h1, h2, h3, h4, h5⟩ | ⟨h1, h2⟩
    · have hcnt : rdC b (rd b (some 0)).2 = ((N : Int), some p) := by
        unfold rdC
        rw [hrd]
        simp only
        rw [if_neg (by omega)]
      rw [h3] at hbad hat
      have hat := hat q rfl
      subst hat
      rw [hbad, h3, hcnt]
      simp only [Int.toNat_natCast, h2, Option.isNone_some, cond_f]
      have hne : ((N : Int) != (ps.length : Int)) = false := by rw [h4]; simp
      rw [hne]
      have e5 : (some q == some b.length) = ((q : Int) == (b.length : Int)) := by
        rw [Bool.eq_iff_iff]
        simp
        omega
      rw [e5]
      cases e6 : ((q : Int) == (b.length : Int)) with
      | false => simp only [bne, e6]; rfl
      | true =>
        simp only [bne, e6]
        cases tableB (rd b (some 0)).1 ps <;> rfl
    · have hI : (match rdC b (rd b (some 0)).2 with | (n, s) => match itemsI (gRow b) n.toNat s with | (ps, s3) => bif s3 == some b.length && tableB (rd b (some 0)).1 ps then some ((rd b (some 0)).1, ps) else none) = none := by
        by_cases hc : (N : Int) > (b.length : Int) - p
        · have hcnt : rdC b (rd b (some 0)).2 = (0, none) := by
            unfold rdC
            rw [hrd]
            simp only
            rw [if_pos hc]
          rw [hcnt]
          rfl
        · have hcnt : rdC b (rd b (some 0)).2 = ((N : Int), some p) := by
            unfold rdC
            rw [hrd]
            simp only
            rw [if_neg hc]
          rw [hcnt]
          simp only [Int.toNat_natCast]
          rcases h1 with h1 | h1 | h1
          · omega
          · rw [h1]; rfl
          · cases hm : tableB (rd b (some 0)).1 (itemsI (gRow b) N (some p)).1 with
            | true => have := (tableB_row hm).1; omega
            | false => rw [Bool.and_false]; rfl
      rw [hI, hbad]
      rcases h2 with h2 | h2
      · rw [h2]; rfl
      · have hne : ((N : Int) != ((itemsS (gRow b) (min N (6 + 1)) (some p)).1.length : Int)) = true := by
          simp only [bne_iff_ne, ne_eq]
          omega
        rw [hne]
        cases (itemsS (gRow b) (min N (6 + 1)) (some p)).2.isNone with
        | true => rfl
        | false => cases (p3 != (b.length : Int)) <;> rfl
theorem gRow_fit {b : List T} (hb : byt b) (hl : b.length ≤ 1048576) (s : Option Nat) : fitE true [.i .i64, .s, .b, .i .i64, .i .i64] (gRow b s).1 := by
  have h1 := rd_in hb s
  have h2 := rd_in hb (rdF b (rdS b (rd b s).2).2).2
  have h3 := rd_in hb (rd b (rdF b (rdS b (rd b s).2).2).2).2
  have h4 := rdS_len hb (rd b s).2
  exact ⟨⟨rfl, wf64 (by omega) (by omega)⟩, (show (rdS b (rd b s).2).1.size ≤ maxLen by unfold maxLen; omega), trivial, ⟨rfl, wf64 (by omega) (by omega)⟩, ⟨rfl, wf64 (by omega) (by omega)⟩, trivial⟩
theorem items_fit {b : List T} (hb : byt b) (hl : b.length ≤ 1048576) : ∀ (k : Nat) (s : Option Nat), (∀ x ∈ (itemsI (gRow b) k s).1, fitE true [.i .i64, .s, .b, .i .i64, .i .i64] x)
  | 0, s, x, h => by cases h
  | k + 1, s, x, h => by
    rcases List.mem_cons.1 h with rfl | h
    · exact gRow_fit hb hl s
    · exact items_fit hb hl k _ x h
theorem getTable_fit {b : List T} (hb : byt b) (hl : b.length ≤ 1048576) : ∃ r0 r1, getTableR (getTableB b) = [r0, r1] ∧ (fitE true csfit_iMisbiiE r0 ∧ tl r0 ≤ 16777216) ∧ (fitC .b r1 ∧ tl r1 ≤ 16777216) := by
  have hn := rd_in hb (some 0)
  cases e : getTableB b with
  | none => exact ⟨_, _, rfl, ⟨⟨⟨rfl, wf64 (by omega) (by omega)⟩, ⟨Nat.zero_le _, trivial⟩, trivial⟩, Nat.zero_le _⟩, ⟨trivial, Nat.zero_le _⟩⟩
  | some x =>
    obtain ⟨n, ps⟩ := x
    unfold getTableB at e
    have hle := rdC_le (b := b) (s := (rd b (some 0)).2) hb
    generalize rdC b (rd b (some 0)).2 = r at e hle
    obtain ⟨N, s⟩ := r
    simp only at e hle
    have hi := items_fit hb hl N.toNat s
    have ht := rows_tls hb N.toNat s hle
    generalize itemsI (gRow b) N.toNat s = it at *
    obtain ⟨l, s3⟩ := it
    simp only at e hi ht
    cases hm : tableB (rd b (some 0)).1 l with
    | false => rw [hm, Bool.and_false] at e; cases e
    | true =>
      rw [hm, Bool.and_true] at e
      cases hs : (s3 == some b.length) with
      | false => rw [hs] at e; cases e
      | true =>
        rw [hs] at e
        cases e
        have h6 := (tableB_row hm).1
        exact ⟨_, _, rfl, ⟨⟨⟨rfl, wf64 (by omega) (by omega)⟩, ⟨by unfold maxLen; omega, fitL_all.2 fun x hx => hi x hx⟩, trivial⟩, by simp only [tl, tls]; omega⟩, ⟨trivial, Nat.zero_le _⟩⟩
theorem same {lf : Nat} (hlf : 33554432 ≤ lf) (l : List T) (hf : fitC (.sl false [.i .u8]) (.sl l)) (z : tl (.sl l) ≤ 1048576) :
    ∃ r0 r1, Cc lf 7 44 [.sl l] = some [r0, r1] ∧ Cc lf 7 46 [.sl l] = some [r0, r1] ∧ (fitE true csfit_iMisbiiE r0 ∧ tl r0 ≤ 16777216) ∧ (fitC .b r1 ∧ tl r1 ≤ 16777216) ∧ True := by
  simp only [tl] at z
  have hb := byt_of hf
  obtain ⟨r0, r1, h1, h2, h3⟩ := getTable_fit hb (by omega)
  exact ⟨r0, r1, by rw [← h1]; exact c_sGetTable (d := 2) hlf hb (by omega), by rw [← h1]; exact c_iGetTable (d := 2) hlf hb (by omega), h2, h3, trivial⟩
/-- The law answers true. -/
theorem lawB {lf : Nat} (hlf : 33554432 ≤ lf) {t0 : T} (ht0 : fitC (.sl false [.i .u8]) t0) : Cc lf 8 7 [t0] = some [.b true] := by
  have hf0 := ht0
  obtain ⟨p0_0, rfl, w0_0⟩ := fitC_sl ht0
  refine (f7_eq (Cc lf 7) lf p0_0).trans ?_
  unfold f7 f7_t
  by_cases l0 : (1048576 : Int) < (p0_0.length : Int)
  · rw [iLt_t l0]; rfl
  rw [iLt_f l0, cond_f]
  have z0 : tl (T.sl p0_0) ≤ 1048576 := by have := tls_flat hf0 rfl; simp only [tl]; omega
  have eT0 := to45 hlf (d := 7) (by omega) _ hf0 (by omega)
  obtain ⟨r0, r1, eS, eI, ⟨hr0, zr0⟩, ⟨hr1, zr1⟩, _⟩ := same hlf p0_0 hf0 z0
  have hR0 := hr0
  obtain ⟨R0_0, R0_1, rfl, W0_0, W0_1⟩ := fit_iMisbiiE hr0
  have eQ0 := eq28 hlf (d := 7) (by omega) _ hR0 zr0
  have hR1 := hr1
  obtain ⟨R1_0, rfl⟩ := fitC_b hr1
  have eX0 := eq27 hlf (d := 7) (by omega) _ hf0 (by omega)
  obtain ⟨K1, bK1_0, eK1, uK1, vK1⟩ := mk30 hlf (d := 7) (by omega) _ hf0 (by omega) 1 (by omega) (by omega)
  obtain ⟨M1, bM1_0, eM1, eH1, uM1, vM1⟩ := ms29 hlf (d := 7) (by omega) hR0 zr0 1 (by omega) (by omega)
  simp only [T.cell, List.getD_cons_zero, List.getD_cons_succ] at eH1
  simp only [eT0, eQ0, eS, eI, eX0, eK1, eM1, eH1, Option.bind_some, nth0, nthS, asI_i, asL_l, asB_b, asS_s, cell0, cellS, beq_self_eq_true, bne_self_eq_false, Bool.not_true, Bool.and_true, cond_f, cond_t, iLt_f (show ¬ (K1 < 0) by omega), iLt_f (show ¬ (M1 < 0) by omega)]
end Go.Proofs.Ytockabaoaneplaa.T
