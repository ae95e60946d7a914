/- What functions of the law FnExactTableOk come to, in trees; no condition. -/
import Derived.Test.YtejeinhdlcgkgaaRows
import Derived.Test.YtejeinhdlcgkgaaX2
set_option linter.unusedVariables false
set_option linter.constructorNameAsVariable false
set_option linter.unusedSimpArgs false
set_option linter.unnecessarySimpa false
namespace Go.Proofs.Ytejeinhdlcgkgaa.T
open Go Go.Proofs.YtejeinhdlcgkgaaV
set_option maxRecDepth 100000
theorem c_l1In {lf d : Nat} (a lo hi : Int) : Cc lf (d + 1) 42 [.i .i64 a, .i .i64 lo, .i .i64 hi] = some [.b (iLe lo a && iLe a hi)] := by
  refine (f42_eq (Cc lf d) lf a lo hi).trans ?_
  unfold f42 f42_t
  exact cond_b _ _
theorem c_from {lf d : Nat} (a lo hi : Int) : Cc lf (d + 1) 43 [.i .i64 a, .i .i64 lo, .i .i64 hi] = some [.b (iLe lo a && iLe a hi)] := by
  refine (f43_eq (Cc lf d) lf a lo hi).trans ?_
  unfold f43 f43_t
  exact cond_b _ _
theorem c_sName {lf d : Nat} (hlf : 33554432 ≤ lf) (s : ByteArray) (hs : s.size ≤ 16777216) : Cc lf (d + 2) 45 [.s s] = some [.b (nameB s)] := by
  refine (f45_eq (Cc lf (d + 1)) lf s).trans ?_
  unfold f45 f45_t
  have L := all_loop (F := fun n j => f45_0 (Cc lf (d + 1)) lf s n j) (P := fun j => chB (byteAt s j)) (X := some [T.i .i64 0, T.b false]) (Y := some [T.i .i64 1, T.s s]) (len := s.size) (fun n j hj => by
    show f45_0_s (Cc lf (d + 1)) lf s _ _ = _
    unfold f45_0_s
    obtain ⟨b0, b1⟩ := byteAt_in s j
    rw [iLt_t (by omega), inR_nat hj, wrapK (x := byteAt s j) (by omega), wrap_next hj (by omega)]
    simp only [c_l1In, Option.bind_some, nth0, asB_b, chB, bne_not, cond_not, cond_and, cond_or, cond_t]) (fun n => by
    show f45_0_s (Cc lf (d + 1)) lf s _ _ = _
    unfold f45_0_s
    rw [iLt_f (by omega)]
    rfl) (n := lf) (by omega)
  simp only at L ⊢
  rw [L]
  unfold nameB
  cases allB (fun j => chB (byteAt s j)) s.size with
  | false => rfl
  | true =>
    simp only [cond_t, Option.bind_some, nth0, nthS, asI_i, asB_b, asS_s, c_l1In, cond_not]
    rw [show ((1 : Int) == 0) = false from rfl, cond_f]
    cases iLe 1 (s.size : Int) <;> cases iLe (s.size : Int) 14 <;> cases (s.toList == (⟨#[46]⟩ : ByteArray).toList) <;> cases (s.toList == (⟨#[46, 46]⟩ : ByteArray).toList) <;> rfl
theorem c_iName {lf d : Nat} (hlf : 33554432 ≤ lf) (s : ByteArray) (hs : s.size ≤ 16777216) : Cc lf (d + 2) 47 [.s s] = some [.b (nameB s)] := by
  refine (f47_eq (Cc lf (d + 1)) lf s).trans ?_
  unfold f47 f47_t
  have L := all_loop (F := fun n j => f47_0 (Cc lf (d + 1)) lf s n j) (P := fun j => chB (byteAt s j)) (X := some [T.i .i64 0, T.b false]) (Y := some [T.i .i64 1, T.s s]) (len := s.size) (fun n j hj => by
    show f47_0_s (Cc lf (d + 1)) lf s _ _ = _
    unfold f47_0_s
    rw [iLt_t (by omega), inR_nat hj, wrap_next hj (by omega)]
    simp only [iLt_le, chB, bne_not, cond_not, cond_and, cond_or, cond_t]) (fun n => by
    show f47_0_s (Cc lf (d + 1)) lf s _ _ = _
    unfold f47_0_s
    rw [iLt_f (by omega)]
    rfl) (n := lf) (by omega)
  simp only at L ⊢
  rw [L]
  unfold nameB
  cases allB (fun j => chB (byteAt s j)) s.size with
  | false => rfl
  | true =>
    simp only [cond_t, Option.bind_some, nth0, nthS, asI_i, asB_b, asS_s, cond_not]
    rw [show ((1 : Int) == 0) = false from rfl, cond_f]
    cases iLe 1 (s.size : Int) <;> cases iLe (s.size : Int) 14 <;> cases (s.toList == (⟨#[46]⟩ : ByteArray).toList) <;> cases (s.toList == (⟨#[46, 46]⟩ : ByteArray).toList) <;> rfl

/-- Is row j right? -/
def rowB (nx : Int) (l : List T) (j : Nat) : Bool :=
  !iLt (asI (T.cell (l.getD j T.u) 0)) 1 && (!iLe nx (asI (T.cell (l.getD j T.u) 0)) && (nameB (asS (T.cell (l.getD j T.u) 1)) && ((iLe 32 (asI (T.cell (l.getD j T.u) 3)) && iLe (asI (T.cell (l.getD j T.u) 3)) 4000) &&
    ((iLe 0 (asI (T.cell (l.getD j T.u) 4)) && iLe (asI (T.cell (l.getD j T.u) 4)) 191) && ((!iLt 0 (j : Int) || !iLe (asI (T.cell (l.getD j T.u) 0)) (asI (T.cell (l.getD (j - 1) T.u) 0))) &&
      allB (fun i => !((asS (T.cell (l.getD i T.u) 1)).toList == (asS (T.cell (l.getD j T.u) 1)).toList)) j)))))
def tableB (nx : Int) (l : List T) : Bool := allB (rowB nx l) l.length && (iLe (l.length : Int) 6 && (iLe 1 nx && iLe nx 99))

theorem rows_name {l : List T} {n : Nat} (hs : n + tls l ≤ 16777216) {j : Nat} (h : j < l.length) : (asS (T.cell (l.getD j T.u) 1)).size ≤ 16777216 := by
  have h1 := tl_mem (List.getElem_mem h)
  rw [List.getD_eq_getElem?_getD, List.getElem?_eq_getElem h]
  show (asS (T.cell l[j] 1)).size ≤ _
  cases e : l[j] <;> try (simp only [T.cell, asS]; exact Nat.zero_le _)
  rename_i xs
  rw [e] at h1
  simp only [T.cell, tl] at h1 ⊢
  cases e2 : xs[1]? with
  | none => rw [List.getD_eq_getElem?_getD, e2]; exact Nat.zero_le _
  | some x =>
    rw [List.getD_eq_getElem?_getD, e2]
    have h3 := tl_mem (List.mem_of_getElem? e2)
    show (asS x).size ≤ _
    cases x <;> try (exact Nat.zero_le _)
    simp only [tl, asS] at h3 ⊢
    omega

theorem c_sTable {lf d : Nat} (hlf : 33554432 ≤ lf) (nx : Int) (l : List T) (hs : l.length + tls l ≤ 16777216) : Cc lf (d + 3) 18 [.st [.i .i64 nx, .sl l]] = some [.b (tableB nx l)] := by
  refine (f18_eq (Cc lf (d + 2)) lf nx l).trans ?_
  unfold f18 f18_t
  have L := all_loop (F := fun n j => f18_0 (Cc lf (d + 2)) lf n j nx l) (P := rowB nx l) (X := some [T.i .i64 0, T.b false]) (Y := some [T.i .i64 1, T.i .i64 nx, T.sl l]) (len := l.length) (fun n j hj => by
    show f18_0 (Cc lf (d + 2)) lf (n + 1) _ nx l = _
    rw [f18_0_u]
    unfold f18_0_s
    have A1 := all_loop (F := fun n i => f18_1 (Cc lf (d + 2)) lf j nx l n i) (P := fun i => !((asS (T.cell (l.getD i T.u) 1)).toList == (asS (T.cell (l.getD j T.u) 1)).toList)) (X := some [T.i .i64 1, T.b false]) (Y := some [T.i .i64 0, T.i .i64 j, T.i .i64 nx, T.sl l]) (len := j) (fun n i hi => by
      show f18_1_s (Cc lf (d + 2)) lf _ _ _ _ _ = _
      unfold f18_1_s
      rw [iLt_t (by omega), inR_nat (by omega), wrap_next hi (by omega)]
      simp only [cond_t, cond_not, Int.toNat_natCast]) (fun n => by
      show f18_1_s (Cc lf (d + 2)) lf _ _ _ _ _ = _
      unfold f18_1_s
      rw [iLt_f (by omega)]
      rfl) (n := lf) (by omega)
    have A2 := all_loop (F := fun n i => f18_2 (Cc lf (d + 2)) lf j nx l n i) (P := fun i => !((asS (T.cell (l.getD i T.u) 1)).toList == (asS (T.cell (l.getD j T.u) 1)).toList)) (X := some [T.i .i64 1, T.b false]) (Y := some [T.i .i64 0, T.i .i64 j, T.i .i64 nx, T.sl l]) (len := j) (fun n i hi => by
      show f18_2_s (Cc lf (d + 2)) lf _ _ _ _ _ = _
      unfold f18_2_s
      rw [iLt_t (by omega), inR_nat (by omega), wrap_next hi (by omega)]
      simp only [cond_t, cond_not, Int.toNat_natCast]) (fun n => by
      show f18_2_s (Cc lf (d + 2)) lf _ _ _ _ _ = _
      unfold f18_2_s
      rw [iLt_f (by omega)]
      rfl) (n := lf) (by omega)
    rw [iLt_t (by omega), inR_nat hj]
    simp only [c_sName hlf _ (rows_name hs hj), c_l1In, Option.bind_some, nth0, asB_b, rowB, cond_not, cond_and, cond_or, cond_t, Int.toNat_natCast, A1, A2]
    cases h0 : iLt 0 (j : Int) with
    | true =>
      have hj0 : 0 < j := by have := iLt_iff.1 h0; omega
      rw [wrap_pred hj0 (by omega), inR_nat (by omega)]
      simp only [cond_t, cond_f, Int.toNat_natCast]
      cases allB (fun i => !((asS (T.cell (l.getD i T.u) 1)).toList == (asS (T.cell (l.getD j T.u) 1)).toList)) j with
      | true => simp only [cond_t, Option.bind_some, nth0, nthS, asI_i, asL_l, beq_self_eq_true, wrap_next hj (show l.length ≤ 9223372036854775807 by omega)]
      | false => rfl
    | false =>
      simp only [cond_t, cond_f]
      cases allB (fun i => !((asS (T.cell (l.getD i T.u) 1)).toList == (asS (T.cell (l.getD j T.u) 1)).toList)) j with
      | true => simp only [cond_t, Option.bind_some, nth0, nthS, asI_i, asL_l, beq_self_eq_true, wrap_next hj (show l.length ≤ 9223372036854775807 by omega)]
      | false => rfl) (fun n => by
    show f18_0 (Cc lf (d + 2)) lf (n + 1) _ nx l = _
    rw [f18_0_u]
    unfold f18_0_s
    rw [iLt_f (by omega)]
    rfl) (n := lf) (by omega)
  simp only at L ⊢
  rw [L]
  unfold tableB
  cases allB (rowB nx l) l.length with
  | false => rfl
  | true =>
    simp only [cond_t, Option.bind_some, nth0, nthS, asI_i, asB_b, asL_l, c_l1In]
    rw [show ((1 : Int) == 0) = false from rfl, cond_f]
    cases iLe (l.length : Int) 6 <;> rfl

theorem c_iTable {lf d : Nat} (hlf : 33554432 ≤ lf) (nx : Int) (l : List T) (hs : l.length + tls l ≤ 16777216) : Cc lf (d + 3) 20 [.st [.i .i64 nx, .sl l]] = some [.b (tableB nx l)] := by
  refine (f20_eq (Cc lf (d + 2)) lf nx l).trans ?_
  unfold f20 f20_t
  have cl : ∀ a, Cc lf (d + 2) 48 [.i .i64 a] = some [.b (iLe 32 a && iLe a 4000)] := fun a => by
    refine (f48_eq (Cc lf (d + 1)) lf a).trans ?_
    unfold f48 f48_t
    rw [c_from]
    rfl
  have L := all_loop (F := fun n j => f20_0 (Cc lf (d + 2)) lf l nx n j) (P := rowB nx l) (X := some [T.i .i64 0, T.b false]) (Y := some [T.i .i64 1, T.i .i64 nx, T.sl l]) (len := l.length) (fun n j hj => by
    show f20_0 (Cc lf (d + 2)) lf l nx (n + 1) _ = _
    rw [f20_0_u]
    unfold f20_0_s
    have ht : (l.take j).length = j := by rw [List.length_take]; omega
    have hg : ∀ i, i < j → (l.take j).getD i T.u = l.getD i T.u := fun i hi => by rw [List.getD_eq_getElem?_getD, List.getD_eq_getElem?_getD, List.getElem?_take_of_lt hi]
    have A1 := find_loop (F := fun n i => f20_1 (Cc lf (d + 2)) lf l j n i) (P := fun i => !((asS (T.cell (l.getD i T.u) 1)).toList == (asS (T.cell (l.getD j T.u) 1)).toList)) (X := fun i => some [T.i .i64 0, T.i .i64 i, T.i .i64 (asI (T.cell (l.getD j T.u) 0)), T.s (asS (T.cell (l.getD j T.u) 1)), T.b (asB (T.cell (l.getD j T.u) 2)), T.i .i64 (asI (T.cell (l.getD j T.u) 3)), T.i .i64 (asI (T.cell (l.getD j T.u) 4))])
      (Y := some [T.i .i64 1, T.i .i64 (asI (T.cell (l.getD j T.u) 0)), T.s (asS (T.cell (l.getD j T.u) 1)), T.b (asB (T.cell (l.getD j T.u) 2)), T.i .i64 (asI (T.cell (l.getD j T.u) 3)), T.i .i64 (asI (T.cell (l.getD j T.u) 4))]) (len := j) (fun n i hi => by
      show f20_1_s (Cc lf (d + 2)) lf _ _ _ _ = _
      unfold f20_1_s
      simp only [Int.toNat_natCast, ht, hg i hi]
      rw [iLt_t (by omega), inR_nat (by omega), wrap_next hi (by omega)]
      simp only [cond_t, cond_not]) (fun n => by
      show f20_1_s (Cc lf (d + 2)) lf _ _ _ _ = _
      unfold f20_1_s
      simp only [Int.toNat_natCast, ht]
      rw [iLt_f (by omega)]
      rfl) (n := lf) (by omega)
    have A2 := find_loop (F := fun n i => f20_2 (Cc lf (d + 2)) lf l j n i) (P := fun i => !((asS (T.cell (l.getD i T.u) 1)).toList == (asS (T.cell (l.getD j T.u) 1)).toList)) (X := fun i => some [T.i .i64 0, T.i .i64 i, T.i .i64 (asI (T.cell (l.getD j T.u) 0)), T.s (asS (T.cell (l.getD j T.u) 1)), T.b (asB (T.cell (l.getD j T.u) 2)), T.i .i64 (asI (T.cell (l.getD j T.u) 3)), T.i .i64 (asI (T.cell (l.getD j T.u) 4))])
      (Y := some [T.i .i64 1, T.i .i64 (asI (T.cell (l.getD j T.u) 0)), T.s (asS (T.cell (l.getD j T.u) 1)), T.b (asB (T.cell (l.getD j T.u) 2)), T.i .i64 (asI (T.cell (l.getD j T.u) 3)), T.i .i64 (asI (T.cell (l.getD j T.u) 4))]) (len := j) (fun n i hi => by
      show f20_2_s (Cc lf (d + 2)) lf _ _ _ _ = _
      unfold f20_2_s
      simp only [Int.toNat_natCast, ht, hg i hi]
      rw [iLt_t (by omega), inR_nat (by omega), wrap_next hi (by omega)]
      simp only [cond_t, cond_not]) (fun n => by
      show f20_2_s (Cc lf (d + 2)) lf _ _ _ _ = _
      unfold f20_2_s
      simp only [Int.toNat_natCast, ht]
      rw [iLt_f (by omega)]
      rfl) (n := lf) (by omega)
    rw [iLt_t (by omega), inR_nat hj]
    simp only [c_iName hlf _ (rows_name hs hj), cl, c_from, Option.bind_some, nth0, asB_b, rowB, cond_not, cond_and, cond_or, cond_t, Int.toNat_natCast]
    rw [iLe_t (show (0 : Int) ≤ (j : Int) by omega), iLe_t (show (j : Int) ≤ (l.length : Int) by omega)]
    simp only [cond_t, Bool.and_self]
    cases iLt (asI (T.cell (l.getD j T.u) 0)) 1 <;> simp only [cond_t, cond_f]
    cases iLe nx (asI (T.cell (l.getD j T.u) 0)) <;> simp only [cond_t, cond_f]
    cases h0 : iLt 0 (j : Int) with
    | true =>
      have hj0 : 0 < j := by have := iLt_iff.1 h0; omega
      rw [wrap_pred hj0 (by omega), inR_nat (by omega)]
      simp only [cond_t, cond_f, Int.toNat_natCast]
      rcases A1 with ⟨p1, p2⟩ | ⟨p1, i, p3, _, p2⟩
      · rw [p1, p2, wrap_next hj (by omega)]
        simp only [cond_t, cond_f, Option.bind_some, nth0, asI_i]
        rw [show ((1 : Int) == 0) = false from rfl]
        cases nameB (asS (T.cell (l.getD j T.u) 1)) <;> cases iLe (asI (T.cell (l.getD j T.u) 0)) (asI (T.cell (l.getD (j - 1) T.u) 0)) <;> cases iLe 32 (asI (T.cell (l.getD j T.u) 3)) <;> cases iLe (asI (T.cell (l.getD j T.u) 3)) 4000 <;> cases iLe 0 (asI (T.cell (l.getD j T.u) 4)) <;> cases iLe (asI (T.cell (l.getD j T.u) 4)) 191 <;> rfl
      · rw [p1, p2]
        simp only [cond_t, cond_f, Option.bind_some, nth0, nthS, asI_i]
        rw [show ((0 : Int) == 0) = true from rfl, iLe_t (show (0 : Int) ≤ (i : Int) by omega)]
        cases nameB (asS (T.cell (l.getD j T.u) 1)) <;> cases iLe (asI (T.cell (l.getD j T.u) 0)) (asI (T.cell (l.getD (j - 1) T.u) 0)) <;> cases iLe 32 (asI (T.cell (l.getD j T.u) 3)) <;> cases iLe (asI (T.cell (l.getD j T.u) 3)) 4000 <;> cases iLe 0 (asI (T.cell (l.getD j T.u) 4)) <;> cases iLe (asI (T.cell (l.getD j T.u) 4)) 191 <;> rfl
    | false =>
      simp only [cond_t, cond_f]
      rcases A2 with ⟨p1, p2⟩ | ⟨p1, i, p3, _, p2⟩
      · rw [p1, p2, wrap_next hj (by omega)]
        simp only [cond_t, cond_f, Option.bind_some, nth0, asI_i]
        rw [show ((1 : Int) == 0) = false from rfl]
        cases nameB (asS (T.cell (l.getD j T.u) 1)) <;> cases iLe 32 (asI (T.cell (l.getD j T.u) 3)) <;> cases iLe (asI (T.cell (l.getD j T.u) 3)) 4000 <;> cases iLe 0 (asI (T.cell (l.getD j T.u) 4)) <;> cases iLe (asI (T.cell (l.getD j T.u) 4)) 191 <;> rfl
      · rw [p1, p2]
        simp only [cond_t, cond_f, Option.bind_some, nth0, nthS, asI_i]
        rw [show ((0 : Int) == 0) = true from rfl, iLe_t (show (0 : Int) ≤ (i : Int) by omega)]
        cases nameB (asS (T.cell (l.getD j T.u) 1)) <;> cases iLe 32 (asI (T.cell (l.getD j T.u) 3)) <;> cases iLe (asI (T.cell (l.getD j T.u) 3)) 4000 <;> cases iLe 0 (asI (T.cell (l.getD j T.u) 4)) <;> cases iLe (asI (T.cell (l.getD j T.u) 4)) 191 <;> rfl) (fun n => by
    show f20_0 (Cc lf (d + 2)) lf l nx (n + 1) _ = _
    rw [f20_0_u]
    unfold f20_0_s
    rw [iLt_f (by omega)]
    rfl) (n := lf) (by omega)
  simp only at L ⊢
  rw [L]
  unfold tableB
  cases allB (rowB nx l) l.length with
  | false => rfl
  | true =>
    simp only [cond_t, Option.bind_some, nth0, nthS, asI_i, asB_b, asL_l, c_from]
    rw [show ((1 : Int) == 0) = false from rfl, cond_f]
    cases iLe (l.length : Int) 6 <;> cases iLe 1 nx <;> cases iLe nx 99 <;> rfl

theorem lawB {lf : Nat} (hlf : 33554432 ≤ lf) {t : T} (ht : fitE true csfit_iMisbiiE t) : Cc lf 5 5 [t] = some [.b true] := by
  obtain ⟨a0, a1, rfl, q0, q1⟩ := fit_iMisbiiE ht
  refine (f5_eq (Cc lf 4) lf a0 a1).trans ?_
  unfold f5 f5_t
  rcases sz17 hlf (d := 4) (by omega) _ ht 1048576 (by omega) (by omega) with e | ⟨y, e, p, z⟩
  · rw [e]; rfl
  rw [e]
  simp only [Option.bind_some, nth0, asI_i]
  rw [iLt_f (show ¬ y < 0 by omega), cond_f]
  simp only [tl, tls] at z
  have e1 := to19 hlf (d := 4) (by omega) _ ht (by simp only [tl, tls]; omega)
  have e2 := eq21 hlf (d := 4) (by omega) _ ht (by simp only [tl, tls]; omega)
  have s := c_sTable (d := 1) hlf a0 a1 (by omega)
  have i := c_iTable (d := 1) hlf a0 a1 (by omega)
  simp only [e1, e2, s, i, Option.bind_some, nth0, nthS, asI_i, asL_l, asB_b, cell0, cellS, beq_self_eq_true, Bool.not_true, cond_f]

end Go.Proofs.Ytejeinhdlcgkgaa.T
