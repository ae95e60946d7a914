/- What functions of the law FnExactClear come to, in trees; no condition. -/
import Derived.Test.YtdclnhlpifahpaaRows
import Derived.Test.YtdclnhlpifahpaaX2
set_option linter.unusedVariables false
set_option linter.constructorNameAsVariable false
set_option linter.unusedSimpArgs false
set_option linter.unnecessarySimpa false
namespace Go.Proofs.Ytdclnhlpifahpaa.T
open Go Go.Proofs.YtdclnhlpifahpaaV
set_option maxRecDepth 100000
def pageU (ps : List T) (j : Nat) : Bool := asB (T.cell (ps.getD j T.u) 0)
/-- How many pages of a block are written. -/
def usedN (ps : List T) : Nat := cntB (pageU ps) ps.length
theorem usedN_le (ps : List T) : usedN ps ≤ ps.length := cntB_le _ _
theorem cellL_le {l : List T} {j : Nat} (k : Nat) : (asL (T.cell (l.getD j T.u) k)).length + tls (asL (T.cell (l.getD j T.u) k)) ≤ tls l := by
  by_cases h : j < l.length
  · have h1 := tl_mem (List.getElem_mem h)
    rw [List.getD_eq_getElem?_getD, List.getElem?_eq_getElem h]
    show (asL (T.cell l[j] k)).length + tls (asL (T.cell l[j] k)) ≤ _
    cases e : l[j] <;> try (simp only [T.cell, asL, tls]; exact Nat.zero_le _)
    rename_i xs
    rw [e] at h1
    simp only [T.cell, tl] at h1 ⊢
    cases e2 : xs[k]? with
    | none => rw [List.getD_eq_getElem?_getD, e2]; exact Nat.zero_le _
    | some x =>
      rw [List.getD_eq_getElem?_getD, e2]
      have h3 := tl_mem (List.mem_of_getElem? e2)
      show (asL x).length + tls (asL x) ≤ _
      cases x <;> try (exact Nat.zero_le _)
      simp only [tl, asL] at h3 ⊢
      omega
  · rw [List.getD_eq_getElem?_getD, List.getElem?_eq_none (by omega)]
    exact Nat.zero_le _
/-- Are two lists the same? -/
def sameB (P : Nat → Bool) (l0 l1 : List T) : Bool := ((l0.length : Int) == (l1.length : Int)) && allB P l0.length
def byteE (l0 l1 : List T) (j : Nat) : Bool := asI (l0.getD j T.u) == asI (l1.getD j T.u)
def entE (l0 l1 : List T) (j : Nat) : Bool := (asS (T.cell (l0.getD j T.u) 0) == asS (T.cell (l1.getD j T.u) 0)) && ((asI (T.cell (l0.getD j T.u) 1) == asI (T.cell (l1.getD j T.u) 1)) && true)
def attrE (l0 l1 : List T) (j : Nat) : Bool := (asS (T.cell (l0.getD j T.u) 0) == asS (T.cell (l1.getD j T.u) 0)) && ((asS (T.cell (l0.getD j T.u) 1) == asS (T.cell (l1.getD j T.u) 1)) && true)
def inoE (n0 n1 n2 : Int) (l3 l4 l5 : List T) (m0 m1 m2 : Int) (k3 k4 k5 : List T) : Bool := (n0 == m0) && ((n1 == m1) && ((n2 == m2) && (sameB (byteE l3 k3) l3 k3 && (sameB (entE l4 k4) l4 k4 && sameB (attrE l5 k5) l5 k5))))
def inoAt (l0 l1 : List T) (j : Nat) : Bool := inoE (asI (T.cell (l0.getD j T.u) 0)) (asI (T.cell (l0.getD j T.u) 1)) (asI (T.cell (l0.getD j T.u) 2)) (asL (T.cell (l0.getD j T.u) 3)) (asL (T.cell (l0.getD j T.u) 4)) (asL (T.cell (l0.getD j T.u) 5)) (asI (T.cell (l1.getD j T.u) 0)) (asI (T.cell (l1.getD j T.u) 1)) (asI (T.cell (l1.getD j T.u) 2)) (asL (T.cell (l1.getD j T.u) 3)) (asL (T.cell (l1.getD j T.u) 4)) (asL (T.cell (l1.getD j T.u) 5))
def tabE (l0 : List T) (n0 : Int) (l1 : List T) (n1 : Int) : Bool := (n0 == n1) && sameB (inoAt l0 l1) l0 l1
def volE (n0 : Int) (s1 : ByteArray) (b2 : Bool) (n3 : Int) (l4 : List T) (n5 : Int) (m0 : Int) (t1 : ByteArray) (c2 : Bool) (m3 : Int) (k4 : List T) (m5 : Int) : Bool := (n0 == m0) && ((s1.toList == t1.toList) && ((b2 == c2) && ((n3 == m3) && tabE l4 n5 k4 m5)))
def volAt (l0 l1 : List T) (j : Nat) : Bool := volE (asI (T.cell (l0.getD j T.u) 0)) (asS (T.cell (l0.getD j T.u) 1)) (asB (T.cell (l0.getD j T.u) 2)) (asI (T.cell (l0.getD j T.u) 3)) (asL (T.cell (l0.getD j T.u) 4)) (asI (T.cell (l0.getD j T.u) 5)) (asI (T.cell (l1.getD j T.u) 0)) (asS (T.cell (l1.getD j T.u) 1)) (asB (T.cell (l1.getD j T.u) 2)) (asI (T.cell (l1.getD j T.u) 3)) (asL (T.cell (l1.getD j T.u) 4)) (asI (T.cell (l1.getD j T.u) 5))
def fsE (l0 : List T) (n0 : Int) (l1 : List T) (n1 : Int) : Bool := (n0 == n1) && sameB (volAt l0 l1) l0 l1
theorem len_eq {l0 l1 : List T} (h : l0.length = l1.length) : ((l0.length : Int) == (l1.length : Int)) = true := by rw [beq_iff_eq]; omega
theorem len_ne {l0 l1 : List T} (h : ¬ l0.length = l1.length) : ((l0.length : Int) == (l1.length : Int)) = false := by rw [beq_eq_false_iff_ne, ne_eq]; omega
theorem c_sBytesEq {lf d : Nat} (hlf : 33554432 ≤ lf) (l0 l1 : List T) (hs : l0.length ≤ 16777216) : Cc lf (d + 1) 234 [.sl l0, .sl l1] = some [.b (sameB (byteE l0 l1) l0 l1)] := by
  refine (f234_eq (Cc lf d) lf l0 l1).trans ?_
  unfold f234 f234_t sameB
  dsimp only
  by_cases h : l0.length = l1.length
  · have L := all_loop (F := fun n j => f234_0 (Cc lf d) lf l0 l1 n j) (P := byteE l0 l1) (X := some [T.i .i64 0, T.b false]) (Y := some [T.i .i64 1]) (len := l0.length) (fun n j hj => by
      rw [f234_0_u]
      unfold f234_0_s byteE
      rw [iLt_t (by omega), inR_nat hj, inR_nat (show j < l1.length by omega), wrap_next hj (by omega)]
      simp only [cond_t, Int.toNat_natCast, bne, cond_not]) (fun n => by
      rw [f234_0_u]
      unfold f234_0_s
      rw [iLt_f (by omega)]
      rfl) (n := lf) (by omega)
    simp only [bne, len_eq h, Bool.not_true, cond_f, Bool.true_and]
    rw [L]
    cases allB (byteE l0 l1) l0.length <;> rfl
  · simp only [bne, len_ne h]
    rfl
theorem c_iBytesEq {lf d : Nat} (hlf : 33554432 ≤ lf) (l0 l1 : List T) (hs : l0.length ≤ 16777216) : Cc lf (d + 1) 238 [.sl l0, .sl l1] = some [.b (sameB (byteE l0 l1) l0 l1)] := by
  refine (f238_eq (Cc lf d) lf l0 l1).trans ?_
  unfold f238 f238_t sameB
  dsimp only
  by_cases h : l0.length = l1.length
  · have L := all_loop (F := fun n j => f238_0 (Cc lf d) lf l0 l1 n j) (P := byteE l0 l1) (X := some [T.i .i64 0, T.b false]) (Y := some [T.i .i64 1]) (len := l0.length) (fun n j hj => by
      rw [f238_0_u]
      unfold f238_0_s byteE
      rw [iLt_t (by omega), inR_nat hj, inR_nat (show j < l1.length by omega), wrap_next hj (by omega)]
      simp only [cond_t, Int.toNat_natCast, bne, cond_not]) (fun n => by
      rw [f238_0_u]
      unfold f238_0_s
      rw [iLt_f (by omega)]
      rfl) (n := lf) (by omega)
    simp only [bne, len_eq h, Bool.not_true, cond_f, Bool.true_and]
    rw [L]
    cases allB (byteE l0 l1) l0.length <;> rfl
  · simp only [bne, len_ne h]
    rfl
theorem c_iEntsEq {lf d : Nat} (hlf : 33554432 ≤ lf) (l0 l1 : List T) (hs : l0.length ≤ 16777216) : Cc lf (d + 1) 239 [.sl l0, .sl l1] = some [.b (sameB (entE l0 l1) l0 l1)] := by
  refine (f239_eq (Cc lf d) lf l0 l1).trans ?_
  unfold f239 f239_t sameB
  dsimp only
  by_cases h : l0.length = l1.length
  · have L := all_loop (F := fun n j => f239_0 (Cc lf d) lf l0 l1 n j) (P := entE l0 l1) (X := some [T.i .i64 0, T.b false]) (Y := some [T.i .i64 1]) (len := l0.length) (fun n j hj => by
      rw [f239_0_u]
      unfold f239_0_s entE
      rw [iLt_t (by omega), inR_nat hj, inR_nat (show j < l1.length by omega), wrap_next hj (by omega)]
      simp only [cond_t, Int.toNat_natCast, bne, cond_not]) (fun n => by
      rw [f239_0_u]
      unfold f239_0_s
      rw [iLt_f (by omega)]
      rfl) (n := lf) (by omega)
    simp only [bne, len_eq h, Bool.not_true, cond_f, Bool.true_and]
    rw [L]
    cases allB (entE l0 l1) l0.length <;> rfl
  · simp only [bne, len_ne h]
    rfl
theorem c_iAttrsEq {lf d : Nat} (hlf : 33554432 ≤ lf) (l0 l1 : List T) (hs : l0.length ≤ 16777216) : Cc lf (d + 1) 240 [.sl l0, .sl l1] = some [.b (sameB (attrE l0 l1) l0 l1)] := by
  refine (f240_eq (Cc lf d) lf l0 l1).trans ?_
  unfold f240 f240_t sameB
  dsimp only
  by_cases h : l0.length = l1.length
  · have L := all_loop (F := fun n j => f240_0 (Cc lf d) lf l0 l1 n j) (P := attrE l0 l1) (X := some [T.i .i64 0, T.b false]) (Y := some [T.i .i64 1]) (len := l0.length) (fun n j hj => by
      rw [f240_0_u]
      unfold f240_0_s attrE
      rw [iLt_t (by omega), inR_nat hj, inR_nat (show j < l1.length by omega), wrap_next hj (by omega)]
      simp only [cond_t, Int.toNat_natCast, bne, cond_not]) (fun n => by
      rw [f240_0_u]
      unfold f240_0_s
      rw [iLt_f (by omega)]
      rfl) (n := lf) (by omega)
    simp only [bne, len_eq h, Bool.not_true, cond_f, Bool.true_and]
    rw [L]
    cases allB (attrE l0 l1) l0.length <;> rfl
  · simp only [bne, len_ne h]
    rfl
theorem c_iSameInode {lf d : Nat} (hlf : 33554432 ≤ lf) (n0 n1 n2 : Int) (l3 l4 l5 : List T) (m0 m1 m2 : Int) (k3 k4 k5 : List T) (h3 : l3.length ≤ 16777216) (h4 : l4.length ≤ 16777216) (h5 : l5.length ≤ 16777216) : Cc lf (d + 2) 212 [.st [.i .i64 n0, .i .i64 n1, .i .i64 n2, .sl l3, .sl l4, .sl l5], .st [.i .i64 m0, .i .i64 m1, .i .i64 m2, .sl k3, .sl k4, .sl k5]] = some [.b (inoE n0 n1 n2 l3 l4 l5 m0 m1 m2 k3 k4 k5)] := by
  refine (f212_eq (Cc lf (d + 1)) lf n0 n1 n2 l3 l4 l5 m0 m1 m2 k3 k4 k5).trans ?_
  unfold f212 f212_t inoE
  rw [c_iBytesEq hlf l3 k3 h3, c_iEntsEq hlf l4 k4 h4, c_iAttrsEq hlf l5 k5 h5]
  simp only [Option.bind_some, nth0, asB_b]
  cases n0 == m0 <;> cases n1 == m1 <;> cases n2 == m2 <;> cases sameB (byteE l3 k3) l3 k3 <;> cases sameB (entE l4 k4) l4 k4 <;> rfl
theorem c_sSameInode {lf d : Nat} (hlf : 33554432 ≤ lf) (n0 n1 n2 : Int) (l3 l4 l5 : List T) (m0 m1 m2 : Int) (k3 k4 k5 : List T) (h3 : l3.length ≤ 16777216) (h4 : l4.length ≤ 16777216) (h5 : l5.length ≤ 16777216) : Cc lf (d + 2) 207 [.st [.i .i64 n0, .i .i64 n1, .i .i64 n2, .sl l3, .sl l4, .sl l5], .st [.i .i64 m0, .i .i64 m1, .i .i64 m2, .sl k3, .sl k4, .sl k5]] = some [.b (inoE n0 n1 n2 l3 l4 l5 m0 m1 m2 k3 k4 k5)] := by
  refine (f207_eq (Cc lf (d + 1)) lf n0 n1 n2 l3 l4 l5 m0 m1 m2 k3 k4 k5).trans ?_
  unfold f207 f207_t inoE
  dsimp only
  rw [c_sBytesEq hlf l3 k3 h3]
  simp only [Option.bind_some, nth0, asB_b, bne]
  cases n0 == m0 with
  | false => rfl
  | true =>
  cases n1 == m1 with
  | false => rfl
  | true =>
  cases n2 == m2 with
  | false => rfl
  | true =>
  cases sameB (byteE l3 k3) l3 k3 with
  | false => rfl
  | true =>
  by_cases e4 : l4.length = k4.length
  · by_cases e5 : l5.length = k5.length
    · have L0 := all_loop (F := fun n j => f207_0 (Cc lf (d + 1)) lf l3 l4 l5 k3 k4 k5 n0 n1 n2 m0 m1 m2 n j) (P := entE l4 k4) (X := some [T.i .i64 0, T.b false]) (Y := some [T.i .i64 1, T.i .i64 n0, T.i .i64 n1, T.i .i64 n2, T.sl l3, T.sl l4, T.sl l5, T.i .i64 m0, T.i .i64 m1, T.i .i64 m2, T.sl k3, T.sl k4, T.sl k5]) (len := l4.length) (fun n j hj => by
        rw [f207_0_u]
        unfold f207_0_s entE
        rw [iLt_t (by omega), inR_nat hj, inR_nat (show j < k4.length by omega), wrap_next hj (by omega)]
        simp only [cond_t, Int.toNat_natCast, cond_not]) (fun n => by
        rw [f207_0_u]
        unfold f207_0_s
        rw [iLt_f (by omega)]
        rfl) (n := lf) (by omega)
      have L1 := all_loop (F := fun n j => f207_1 (Cc lf (d + 1)) lf [T.i .i64 1, T.i .i64 n0, T.i .i64 n1, T.i .i64 n2, T.sl l3, T.sl l4, T.sl l5, T.i .i64 m0, T.i .i64 m1, T.i .i64 m2, T.sl k3, T.sl k4, T.sl k5] n j) (P := attrE l5 k5) (X := some [T.i .i64 0, T.b false]) (Y := some [T.i .i64 1]) (len := l5.length) (fun n j hj => by
        rw [f207_1_u]
        unfold f207_1_s attrE
        simp only [nth0, nthS, asL_l]
        rw [iLt_t (by omega), inR_nat hj, inR_nat (show j < k5.length by omega), wrap_next hj (by omega)]
        simp only [cond_t, Int.toNat_natCast, cond_not]) (fun n => by
        rw [f207_1_u]
        unfold f207_1_s
        simp only [nth0, nthS, asL_l]
        rw [iLt_f (by omega)]
        rfl) (n := lf) (by omega)
      unfold sameB
      simp only [len_eq e4, len_eq e5, Bool.not_true, cond_f, Bool.true_and]
      rw [L0]
      cases allB (entE l4 k4) l4.length with
      | false => rfl
      | true =>
        simp only [cond_t, Option.bind_some, nth0, asI_i, show ((1 : Int) == 0) = false from rfl, cond_f]
        rw [L1]
        cases allB (attrE l5 k5) l5.length <;> rfl
    · unfold sameB
      simp only [len_ne e5, len_eq e4, Bool.not_true, Bool.not_false, cond_f, cond_t, Bool.false_and, Bool.and_false]
  · unfold sameB
    simp only [len_ne e4, Bool.not_false, Bool.not_true, cond_t, cond_f, Bool.false_and, Bool.and_false]
theorem cells_le {l : List T} {j : Nat} (hs : l.length + tls l ≤ 16777216) (k : Nat) : (asL (T.cell (l.getD j T.u) k)).length ≤ 16777216 := by
  have := cellL_le (l := l) (j := j) k
  omega
theorem c_sSameTab {lf d : Nat} (hlf : 33554432 ≤ lf) (l0 : List T) (n0 : Int) (l1 : List T) (n1 : Int) (hs : l0.length + tls l0 ≤ 16777216) : Cc lf (d + 3) 162 [.st [.sl l0, .i .i64 n0], .st [.sl l1, .i .i64 n1]] = some [.b (tabE l0 n0 l1 n1)] := by
  refine (f162_eq (Cc lf (d + 2)) lf l0 n0 l1 n1).trans ?_
  unfold f162 f162_t tabE sameB
  dsimp only
  simp only [bne]
  cases n0 == n1 with
  | false => rfl
  | true =>
  by_cases h : l0.length = l1.length
  · have L := all_loop (F := fun n j => f162_0 (Cc lf (d + 2)) lf l0 l1 n0 n1 n j) (P := inoAt l0 l1) (X := some [T.i .i64 0, T.b false]) (Y := some [T.i .i64 1]) (len := l0.length) (fun n j hj => by
      rw [f162_0_u]
      unfold f162_0_s inoAt
      rw [iLt_t (by omega), inR_nat hj, inR_nat (show j < l1.length by omega), wrap_next hj (by omega), Int.toNat_natCast, c_sSameInode hlf _ _ _ _ _ _ _ _ _ _ _ _ (cells_le hs 3) (cells_le hs 4) (cells_le hs 5)]
      simp only [cond_t, Option.bind_some, nth0, asB_b, cond_not]) (fun n => by
      rw [f162_0_u]
      unfold f162_0_s
      rw [iLt_f (by omega)]
      rfl) (n := lf) (by omega)
    simp only [len_eq h, Bool.not_true, cond_f, Bool.true_and]
    rw [L]
    cases allB (inoAt l0 l1) l0.length <;> rfl
  · simp only [len_ne h]
    rfl
theorem c_iSameTab {lf d : Nat} (hlf : 33554432 ≤ lf) (l0 : List T) (n0 : Int) (l1 : List T) (n1 : Int) (hs : l0.length + tls l0 ≤ 16777216) : Cc lf (d + 3) 168 [.st [.sl l0, .i .i64 n0], .st [.sl l1, .i .i64 n1]] = some [.b (tabE l0 n0 l1 n1)] := by
  refine (f168_eq (Cc lf (d + 2)) lf l0 n0 l1 n1).trans ?_
  unfold f168 f168_t tabE sameB
  dsimp only
  simp only [bne]
  cases n0 == n1 with
  | false => rfl
  | true =>
  by_cases h : l0.length = l1.length
  · have L := all_loop (F := fun n j => f168_0 (Cc lf (d + 2)) lf l0 l1 n j) (P := inoAt l0 l1) (X := some [T.i .i64 0, T.b false]) (Y := some [T.i .i64 1]) (len := l0.length) (fun n j hj => by
      rw [f168_0_u]
      unfold f168_0_s inoAt
      rw [iLt_t (by omega), inR_nat hj, inR_nat (show j < l1.length by omega), wrap_next hj (by omega), Int.toNat_natCast, c_iSameInode hlf _ _ _ _ _ _ _ _ _ _ _ _ (cells_le hs 3) (cells_le hs 4) (cells_le hs 5)]
      simp only [cond_t, Option.bind_some, nth0, asB_b, cond_not]) (fun n => by
      rw [f168_0_u]
      unfold f168_0_s
      rw [iLt_f (by omega)]
      rfl) (n := lf) (by omega)
    simp only [len_eq h, Bool.not_true, cond_f, cond_t, Bool.true_and]
    rw [L]
    cases allB (inoAt l0 l1) l0.length <;> rfl
  · simp only [len_ne h]
    rfl
theorem tlV {l : List T} {j : Nat} (hs : l.length + tls l ≤ 16777216) (k : Nat) : (asL (T.cell (l.getD j T.u) k)).length + tls (asL (T.cell (l.getD j T.u) k)) ≤ 16777216 := by
  have := cellL_le (l := l) (j := j) k
  omega
theorem c_iSameVol {lf d : Nat} (hlf : 33554432 ≤ lf) (n0 : Int) (s1 : ByteArray) (b2 : Bool) (n3 : Int) (l4 : List T) (n5 : Int) (m0 : Int) (t1 : ByteArray) (c2 : Bool) (m3 : Int) (k4 : List T) (m5 : Int) (hs : l4.length + tls l4 ≤ 16777216) : Cc lf (d + 4) 167 [.st [.i .i64 n0, .s s1, .b b2, .i .i64 n3, .sl l4, .i .i64 n5], .st [.i .i64 m0, .s t1, .b c2, .i .i64 m3, .sl k4, .i .i64 m5]] = some [.b (volE n0 s1 b2 n3 l4 n5 m0 t1 c2 m3 k4 m5)] := by
  refine (f167_eq (Cc lf (d + 3)) lf n0 s1 b2 n3 l4 n5 m0 t1 c2 m3 k4 m5).trans ?_
  unfold f167 f167_t volE
  rw [c_iSameTab hlf l4 n5 k4 m5 hs]
  simp only [Option.bind_some, nth0, asB_b]
  cases n0 == m0 <;> cases s1.toList == t1.toList <;> cases b2 == c2 <;> cases n3 == m3 <;> rfl
theorem c_iSameFs {lf d : Nat} (hlf : 33554432 ≤ lf) (l0 : List T) (n0 : Int) (l1 : List T) (n1 : Int) (hs : l0.length + tls l0 ≤ 16777216) : Cc lf (d + 5) 112 [.st [.sl l0, .i .i64 n0], .st [.sl l1, .i .i64 n1]] = some [.b (fsE l0 n0 l1 n1)] := by
  refine (f112_eq (Cc lf (d + 4)) lf l0 n0 l1 n1).trans ?_
  unfold f112 f112_t fsE sameB
  dsimp only
  simp only [bne]
  cases n0 == n1 with
  | false => rfl
  | true =>
  by_cases h : l0.length = l1.length
  · have L := all_loop (F := fun n j => f112_0 (Cc lf (d + 4)) lf l0 l1 n j) (P := volAt l0 l1) (X := some [T.i .i64 0, T.b false]) (Y := some [T.i .i64 1]) (len := l0.length) (fun n j hj => by
      rw [f112_0_u]
      unfold f112_0_s volAt
      rw [iLt_t (by omega), inR_nat hj, inR_nat (show j < l1.length by omega), wrap_next hj (by omega), Int.toNat_natCast, c_iSameVol hlf _ _ _ _ _ _ _ _ _ _ _ _ (tlV hs 4)]
      simp only [cond_t, Option.bind_some, nth0, asB_b, cond_not]) (fun n => by
      rw [f112_0_u]
      unfold f112_0_s
      rw [iLt_f (by omega)]
      rfl) (n := lf) (by omega)
    simp only [len_eq h, Bool.not_true, cond_f, cond_t, Bool.true_and]
    rw [L]
    cases allB (volAt l0 l1) l0.length <;> rfl
  · simp only [len_ne h]
    rfl
theorem c_sSameFs {lf d : Nat} (hlf : 33554432 ≤ lf) (l0 : List T) (n0 : Int) (l1 : List T) (n1 : Int) (hs : l0.length + tls l0 ≤ 16777216) : Cc lf (d + 4) 109 [.st [.sl l0, .i .i64 n0], .st [.sl l1, .i .i64 n1]] = some [.b (fsE l0 n0 l1 n1)] := by
  refine (f109_eq (Cc lf (d + 3)) lf l0 n0 l1 n1).trans ?_
  unfold f109 f109_t fsE sameB
  dsimp only
  simp only [bne]
  cases n0 == n1 with
  | false => rfl
  | true =>
  by_cases h : l0.length = l1.length
  · have L := all_loop (F := fun n j => f109_0 (Cc lf (d + 3)) lf l0 l1 n0 n1 n j) (P := volAt l0 l1) (X := some [T.i .i64 0, T.b false]) (Y := some [T.i .i64 1]) (len := l0.length) (fun n j hj => by
      rw [f109_0_u]
      unfold f109_0_s volAt volE
      rw [iLt_t (by omega), inR_nat hj, inR_nat (show j < l1.length by omega), wrap_next hj (by omega), Int.toNat_natCast, c_sSameTab hlf _ _ _ _ (tlV hs 4)]
      simp only [cond_t, Option.bind_some, nth0, asB_b, bne, cond_not, cond_and]) (fun n => by
      rw [f109_0_u]
      unfold f109_0_s
      rw [iLt_f (by omega)]
      rfl) (n := lf) (by omega)
    simp only [len_eq h, Bool.not_true, cond_f, Bool.true_and]
    rw [L]
    cases allB (volAt l0 l1) l0.length <;> rfl
  · simp only [len_ne h]
    rfl
theorem c_sClear {lf d : Nat} (hlf : 33554432 ≤ lf) (l0 : List T) (n1 : Int) (l2 : List T) (n3 : Int) (n4 : Int) (l5 : List T) (l6 : List T) (n7 : Int) (n8 : Int) (l9 : List T) (n10 : Int) (l11 : List T) (b12 : Bool) (n13 : Int) (hs : l0.length + tls l0 ≤ 16777216) : Cc lf (d + 5) 54 [.st [.sl l0, .i .i64 n1, .sl l2, .i .i64 n3, .i .i64 n4, .sl l5, .sl l6, .i .i64 n7, .i .i64 n8, .sl l9, .i .i64 n10, .sl l11, .b b12, .i .i64 n13]] = some [.b (fsE l0 n1 l2 n3)] := by
  refine (f54_eq (Cc lf (d + 4)) lf l0 n1 l2 n3 n4 l5 l6 n7 n8 l9 n10 l11 b12 n13).trans ?_
  unfold f54 f54_t
  rw [c_sSameFs hlf l0 n1 l2 n3 hs]
  rfl
theorem c_iClear {lf d : Nat} (hlf : 33554432 ≤ lf) (l0 : List T) (n1 : Int) (l2 : List T) (n3 : Int) (n4 : Int) (l5 : List T) (l6 : List T) (n7 : Int) (n8 : Int) (l9 : List T) (n10 : Int) (l11 : List T) (b12 : Bool) (n13 : Int) (hs : l0.length + tls l0 ≤ 16777216) : Cc lf (d + 6) 56 [.st [.sl l0, .i .i64 n1, .sl l2, .i .i64 n3, .i .i64 n4, .sl l5, .sl l6, .i .i64 n7, .i .i64 n8, .sl l9, .i .i64 n10, .sl l11, .b b12, .i .i64 n13]] = some [.b (fsE l0 n1 l2 n3)] := by
  refine (f56_eq (Cc lf (d + 5)) lf l0 n1 l2 n3 n4 l5 l6 n7 n8 l9 n10 l11 b12 n13).trans ?_
  unfold f56 f56_t
  rw [c_iSameFs hlf l0 n1 l2 n3 hs]
  rfl
theorem same {lf : Nat} (hlf : 33554432 ≤ lf) (l0 : List T) (n1 : Int) (l2 : List T) (n3 : Int) (n4 : Int) (l5 : List T) (l6 : List T) (n7 : Int) (n8 : Int) (l9 : List T) (n10 : Int) (l11 : List T) (b12 : Bool) (n13 : Int) {cs : List CT} (_ : fitE true cs (.st [.sl l0, .i .i64 n1, .sl l2, .i .i64 n3, .i .i64 n4, .sl l5, .sl l6, .i .i64 n7, .i .i64 n8, .sl l9, .i .i64 n10, .sl l11, .b b12, .i .i64 n13])) (z : tl (.st [.sl l0, .i .i64 n1, .sl l2, .i .i64 n3, .i .i64 n4, .sl l5, .sl l6, .i .i64 n7, .i .i64 n8, .sl l9, .i .i64 n10, .sl l11, .b b12, .i .i64 n13]) ≤ 1048576) :
    ∃ r, Cc lf 13 54 [.st [.sl l0, .i .i64 n1, .sl l2, .i .i64 n3, .i .i64 n4, .sl l5, .sl l6, .i .i64 n7, .i .i64 n8, .sl l9, .i .i64 n10, .sl l11, .b b12, .i .i64 n13]] = some [r] ∧ Cc lf 13 56 [.st [.sl l0, .i .i64 n1, .sl l2, .i .i64 n3, .i .i64 n4, .sl l5, .sl l6, .i .i64 n7, .i .i64 n8, .sl l9, .i .i64 n10, .sl l11, .b b12, .i .i64 n13]] = some [r] ∧ (fitC .b r ∧ tl r ≤ 16777216) ∧ True := by
  simp only [tl, tls] at z
  exact ⟨_, c_sClear (d := 8) hlf l0 n1 l2 n3 n4 l5 l6 n7 n8 l9 n10 l11 b12 n13 (by omega), c_iClear (d := 7) hlf l0 n1 l2 n3 n4 l5 l6 n7 n8 l9 n10 l11 b12 n13 (by omega), ⟨trivial, Nat.zero_le _⟩, trivial⟩
/-- The law answers true. -/
theorem lawB {lf : Nat} (hlf : 33554432 ≤ lf) {t0 : T} (ht0 : fitE true csfit_MisbiMiiiScMsiEMssEEiEiMisbiMiiiScMsiEMssEEiEiiMisbiiEMiMiiEEiiMMbScEibEiMiiiEbi t0) : Cc lf 14 12 [t0] = some [.b true] := by
  have hf0 := ht0
  obtain ⟨p0_0, p0_1, p0_2, p0_3, p0_4, p0_5, p0_6, p0_7, p0_8, p0_9, p0_10, p0_11, p0_12, p0_13, rfl, w0_0, w0_1, w0_2, w0_3, w0_4, w0_5, w0_6, w0_7, w0_8, w0_9, w0_10, w0_11, w0_13⟩ := fit_MisbiMiiiScMsiEMssEEiEiMisbiMiiiScMsiEMssEEiEiiMisbiiEMiMiiEEiiMMbScEibEiMiiiEbi ht0
  refine (f12_eq (Cc lf 13) lf p0_0 p0_1 p0_2 p0_3 p0_4 p0_5 p0_6 p0_7 p0_8 p0_9 p0_10 p0_11 p0_12 p0_13).trans ?_
  unfold f12 f12_t
  rcases sz53 hlf (d := 13) (by omega) _ hf0 1048576 (by omega) (by omega) with e | ⟨y1, e1, g1, zz0⟩
  · rw [e]; rfl
  rw [e1]
  simp only [Option.bind_some, nth0, asI_i]
  rw [iLt_f (show ¬ y1 < 0 by omega), cond_f]
  have z0 : tl (T.st [T.sl p0_0, T.i .i64 p0_1, T.sl p0_2, T.i .i64 p0_3, T.i .i64 p0_4, T.sl p0_5, T.sl p0_6, T.i .i64 p0_7, T.i .i64 p0_8, T.sl p0_9, T.i .i64 p0_10, T.sl p0_11, T.b p0_12, T.i .i64 p0_13]) ≤ 1048576 := by omega
  have eT0 := to55 hlf (d := 13) (by omega) _ hf0 (by omega)
  obtain ⟨r0, eS, eI, ⟨hr0, zr0⟩, _⟩ := same hlf p0_0 p0_1 p0_2 p0_3 p0_4 p0_5 p0_6 p0_7 p0_8 p0_9 p0_10 p0_11 p0_12 p0_13 hf0 z0
  have hR0 := hr0
  obtain ⟨R0_0, rfl⟩ := fitC_b hr0
  have eX0 := eq57 hlf (d := 13) (by omega) _ hf0 (by omega)
  simp only [eT0, eS, eI, eX0, Option.bind_some, nth0, nthS, asI_i, asL_l, asB_b, asS_s, cell0, cellS, beq_self_eq_true, bne_self_eq_false, Bool.not_true, Bool.and_true, cond_f, cond_t]
end Go.Proofs.Ytdclnhlpifahpaa.T
