/- What functions of the law FnExactColdest come to, in trees; no condition. -/
import Derived.Test.YtockabaoaneplaaRows
import Derived.Test.YtockabaoaneplaaX2
set_option linter.unusedVariables false
set_option linter.constructorNameAsVariable false
set_option linter.unusedSimpArgs false
set_option linter.unnecessarySimpa false
namespace Go.Proofs.Ytockabaoaneplaa.T
open Go Go.Proofs.YtockabaoaneplaaV
set_option maxRecDepth 100000
theorem c_from {lf d : Nat} (a lo hi : Int) : Cc lf (d + 1) 76 [.i .i64 a, .i .i64 lo, .i .i64 hi] = some [.b (iLe lo a && iLe a hi)] := by
  refine (f76_eq (Cc lf d) lf a lo hi).trans ?_
  unfold f76 f76_t
  exact cond_b _ _
def pageU (ps : List T) (j : Nat) : Bool := asB (T.cell (ps.getD j T.u) 0)
/-- How many pages of a block are written. -/
def usedN (ps : List T) : Nat := cntB (pageU ps) ps.length
theorem usedN_le (ps : List T) : usedN ps ≤ ps.length := cntB_le _ _
theorem cellL_le {l : List T} {j : Nat} (k : Nat) : (asL (T.cell (l.getD j T.u) k)).length + tls (asL (T.cell (l.getD j T.u) k)) ≤ tls l := by
  by_cases h : j < l.length
  · have h1 := tl_mem (List.getElem_mem h)
    rw [List.getD_eq_getElem?_getD, List.getElem?_eq_getElem h]
    show (asL (T.cell l[j] k)).length + tls (asL (T.cell l[j] k)) ≤ _
    cases e : l[j] <;> try (simp only [T.cell, asL, tls]; exact Nat.zero_le _)
    rename_i xs
    rw [e] at h1
    simp only [T.cell, tl] at h1 ⊢
    cases e2 : xs[k]? with
    | none => rw [List.getD_eq_getElem?_getD, e2]; exact Nat.zero_le _
    | some x =>
      rw [List.getD_eq_getElem?_getD, e2]
      have h3 := tl_mem (List.mem_of_getElem? e2)
      show (asL x).length + tls (asL x) ≤ _
      cases x <;> try (exact Nat.zero_le _)
      simp only [tl, asL] at h3 ⊢
      omega
  · rw [List.getD_eq_getElem?_getD, List.getElem?_eq_none (by omega)]
    exact Nat.zero_le _
theorem c_sNext {lf d : Nat} (hlf : 33554432 ≤ lf) (ps : List T) (w : Int) (bad : Bool) (hs : ps.length ≤ 16777216) : Cc lf (d + 1) 97 [.st [.sl ps, .i .i64 w, .b bad]] = some [.i .i64 (usedN ps : Nat)] := by
  refine (f97_eq (Cc lf d) lf ps w bad).trans ?_
  unfold f97 f97_t
  dsimp only
  have L := cnt_loop (F := fun n x j => f97_0 (Cc lf d) lf bad ps w n x j) (P := pageU ps) (Y := fun x => some [T.i .i64 0, T.i .i64 x]) (len := ps.length) (by omega) (fun n x j hj hx => by
    rw [f97_0_u]
    unfold f97_0_s
    rw [iLt_t (by omega), inR_nat hj, wrap_next hj (by omega)]
    rfl) (fun n x => by
    rw [f97_0_u]
    unfold f97_0_s
    rw [iLt_f (by omega)]
    rfl) (n := lf) (by omega)
  rw [L]
  rfl
theorem c_isBlock {lf d : Nat} (l : List T) (n : Int) (hs : l.length ≤ 16777216) : Cc lf (d + 2) 122 [.st [.sl l], .i .i64 n] = some [.b (iLe 0 n && iLt n (l.length : Int))] := by
  refine (f122_eq (Cc lf (d + 1)) lf l n).trans ?_
  unfold f122 f122_t
  rw [wrap_in (by omega) (by omega), c_from]
  have : iLe n ((l.length : Int) - 1) = iLt n (l.length : Int) := by
    by_cases h : n < (l.length : Int)
    · rw [iLt_t h, iLe_t (by omega)]
    · rw [iLt_f h, iLe_f (by omega)]
  rw [this]
  rfl
theorem c_iNext {lf d : Nat} (hlf : 33554432 ≤ lf) (l : List T) (j : Nat) (hj : j < l.length) (hs : l.length + tls l ≤ 16777216) : Cc lf (d + 3) 64 [.st [.sl l], .i .i64 (j : Int)] = some [.i .i64 (usedN (asL (T.cell (l.getD j T.u) 0)) : Nat)] := by
  refine (f64_eq (Cc lf (d + 2)) lf l j).trans ?_
  unfold f64 f64_t
  dsimp only
  have hp := cellL_le (l := l) (j := j) 0
  have L := cnt_loop (F := fun n x k => f64_0 (Cc lf (d + 2)) lf l j n x k) (P := pageU (asL (T.cell (l.getD j T.u) 0))) (Y := fun x => some [T.i .i64 0, T.i .i64 x]) (len := (asL (T.cell (l.getD j T.u) 0)).length) (by omega) (fun n x k hk hx => by
    rw [f64_0_u]
    unfold f64_0_s
    rw [Int.toNat_natCast, iLt_t (by omega), inR_nat hk, wrap_next hk (by omega)]
    rfl) (fun n x => by
    rw [f64_0_u]
    unfold f64_0_s
    rw [Int.toNat_natCast, iLt_f (by omega)]
    rfl) (n := lf) (by omega)
  rw [c_isBlock l j (by omega), iLe_t (by omega), iLt_t (by omega), inR_nat hj]
  simp only [Option.bind_some, nth0, asB_b, Bool.and_self, Bool.not_true, cond_f, cond_t]
  rw [L]
  rfl
theorem c_iNextNo {lf d : Nat} (l : List T) (n : Int) (hn : ¬ (0 ≤ n ∧ n < (l.length : Int))) (hs : l.length + tls l ≤ 16777216) : Cc lf (d + 3) 64 [.st [.sl l], .i .i64 n] = some [.i .i64 (-1)] := by
  refine (f64_eq (Cc lf (d + 2)) lf l n).trans ?_
  unfold f64 f64_t
  rw [c_isBlock l n (by omega)]
  have : (iLe 0 n && iLt n (l.length : Int)) = false := by
    by_cases h : 0 ≤ n
    · rw [iLe_t h, iLt_f (by omega)]; rfl
    · rw [iLe_f h]; rfl
  rw [this]
  rfl
def wholeB (l : List T) (j : Nat) : Bool := !(asB (T.cell (l.getD j T.u) 2)) && ((usedN (asL (T.cell (l.getD j T.u) 0)) : Nat) : Int) == 8
theorem c_whole {lf d : Nat} (hlf : 33554432 ≤ lf) (l : List T) (ops : Int) (fs : List T) (dn : Bool) (sq : Int) (j : Nat) (hj : j < l.length) (hs : l.length + tls l ≤ 16777216) :
    Cc lf (d + 4) 99 [.st [.sl l, .i .i64 ops, .sl fs, .b dn, .i .i64 sq], .i .i64 (j : Int)] = some [.b (wholeB l j)] := by
  refine (f99_eq (Cc lf (d + 3)) lf l ops fs dn sq j).trans ?_
  unfold f99 f99_t
  rw [c_isBlock l j (by omega), iLe_t (by omega), iLt_t (by omega), inR_nat hj, c_iNext hlf l j hj hs]
  simp only [Option.bind_some, nth0, asB_b, asI_i, Bool.and_self, cond_t, Int.toNat_natCast]
  unfold wholeB
  cases asB (T.cell (l.getD j T.u) 2) <;> rfl
def coldG (l : List T) (s : Int) (j : Nat) : Int := bif wholeB l j then (bif iLt s 0 then (j : Int) else bif iLt (asI (T.cell (l.getD j T.u) 1)) ((asI (T.cell (l.getD s.toNat T.u) 1))) then (j : Int) else s) else s
def coldB (l : List T) : Int := foldN (coldG l) (-1) l.length
theorem coldG_in {l : List T} {s : Int} {j : Nat} (h : s < j ∧ -1 ≤ s) : coldG l s j < ((j + 1 : Nat) : Int) ∧ -1 ≤ coldG l s j := by
  unfold coldG
  cases wholeB l j <;> cases iLt s 0 <;> cases iLt (asI (T.cell (l.getD j T.u) 1)) ((asI (T.cell (l.getD s.toNat T.u) 1))) <;> simp only [cond_t, cond_f] <;> omega
theorem c_sColdest {lf d : Nat} (hlf : 33554432 ≤ lf) (l : List T) (ops : Int) (fs : List T) (dn : Bool) (sq : Int) (hs : l.length + tls l ≤ 16777216) :
    Cc lf (d + 2) 40 [.st [.sl l, .i .i64 ops, .sl fs, .b dn, .i .i64 sq]] = some [.i .i64 (coldB l)] := by
  refine (f40_eq (Cc lf (d + 1)) lf l ops fs dn sq).trans ?_
  unfold f40 f40_t
  dsimp only
  have L := (fold_loop (F := fun n s j => f40_0 (Cc lf (d + 1)) lf dn l fs ops sq n s j) (g := coldG l) (I := fun s j => s < (j : Int) ∧ -1 ≤ s) (Y := fun s => some [T.i .i64 0, T.i .i64 s]) (len := l.length) (fun n s j hj hi => by
    have hp := cellL_le (l := l) (j := j) 0
    rw [f40_0_u]
    unfold f40_0_s
    rw [iLt_t (by omega), inR_nat hj, wrap_next hj (by omega), Int.toNat_natCast, c_sNext hlf _ _ _ (by omega)]
    simp only [Option.bind_some, nth0, asI_i, cond_t, coldG, wholeB, cond_and, cond_not]
    cases asB (T.cell (l.getD j T.u) 2) with
    | true => rfl
    | false =>
      simp only [cond_f, cond_t]
      cases ((usedN (asL (T.cell (l.getD j T.u) 0)) : Nat) : Int) == 8 with
      | false => rfl
      | true =>
        simp only [cond_t]
        by_cases h0 : s < 0
        · rw [iLt_t h0]; rfl
        · rw [iLt_f h0, inR_t (by omega) (by omega)]
          simp only [cond_f, cond_t]
          cases iLt (asI (T.cell (l.getD j T.u) 1)) (asI (T.cell (l.getD s.toNat T.u) 1)) <;> rfl) (fun s j hj hi => coldG_in hi) (fun n s hi => by
    rw [f40_0_u]
    unfold f40_0_s
    rw [iLt_f (by omega)]
    rfl) (n := lf) (by omega) (s := -1) (by omega)).1
  rw [L]
  rfl
theorem c_iColdest {lf d : Nat} (hlf : 33554432 ≤ lf) (l : List T) (ops : Int) (fs : List T) (dn : Bool) (sq : Int) (hs : l.length + tls l ≤ 16777216) :
    Cc lf (d + 5) 42 [.st [.sl l, .i .i64 ops, .sl fs, .b dn, .i .i64 sq]] = some [.i .i64 (coldB l)] := by
  refine (f42_eq (Cc lf (d + 4)) lf l ops fs dn sq).trans ?_
  unfold f42 f42_t
  dsimp only
  have L := (fold_loop (F := fun n s j => f42_0 (Cc lf (d + 4)) lf dn l fs ops sq n s j) (g := coldG l) (I := fun s j => s < (j : Int) ∧ -1 ≤ s) (Y := fun s => some [T.i .i64 0, T.i .i64 s]) (len := l.length) (fun n s j hj hi => by
    rw [f42_0_u]
    unfold f42_0_s
    rw [iLt_t (by omega), inR_nat hj, wrap_next hj (by omega), c_whole hlf l ops fs dn sq j hj hs]
    simp only [Option.bind_some, nth0, asB_b, cond_t, coldG, Int.toNat_natCast]
    cases wholeB l j with
    | false => rfl
    | true =>
      simp only [cond_t]
      by_cases h0 : s < 0
      · rw [iLt_t h0]; rfl
      · rw [iLt_f h0, inR_t (by omega) (by omega)]
        simp only [cond_f, cond_t]
        cases iLt (asI (T.cell (l.getD j T.u) 1)) (asI (T.cell (l.getD s.toNat T.u) 1)) <;> rfl) (fun s j hj hi => coldG_in hi) (fun n s hi => by
    rw [f42_0_u]
    unfold f42_0_s
    rw [iLt_f (by omega)]
    rfl) (n := lf) (by omega) (s := -1) (by omega)).1
  rw [L]
  rfl
theorem coldB_in (l : List T) : -1 ≤ coldB l ∧ coldB l < (l.length : Int) + 1 := by
  have : ∀ n : Nat, foldN (coldG l) (-1) n < (n : Int) ∧ -1 ≤ foldN (coldG l) (-1) n := by
    intro n
    induction n with
    | zero => exact ⟨by show (-1 : Int) < 0; omega, Int.le_refl _⟩
    | succ n ih => exact coldG_in ih
  have := this l.length
  unfold coldB
  omega
theorem same {lf : Nat} (hlf : 33554432 ≤ lf) (l : List T) (ops : Int) (fs : List T) (dn : Bool) (sq : Int) {cs : List CT} (hf : fitE true cs (.st [.sl l, .i .i64 ops, .sl fs, .b dn, .i .i64 sq])) (z : tl (.st [.sl l, .i .i64 ops, .sl fs, .b dn, .i .i64 sq]) ≤ 1048576) :
    ∃ r, Cc lf 11 40 [.st [.sl l, .i .i64 ops, .sl fs, .b dn, .i .i64 sq]] = some [r] ∧ Cc lf 11 42 [.st [.sl l, .i .i64 ops, .sl fs, .b dn, .i .i64 sq]] = some [r] ∧ (fitC (.i .i64) r ∧ tl r ≤ 16777216) ∧ True := by
  simp only [tl, tls] at z
  have h := coldB_in l
  exact ⟨_, c_sColdest (d := 9) hlf l ops fs dn sq (by omega), c_iColdest (d := 6) hlf l ops fs dn sq (by omega), ⟨⟨rfl, wf64 (by omega) (by omega)⟩, Nat.zero_le _⟩, trivial⟩
/-- The law answers true. -/
theorem lawB {lf : Nat} (hlf : 33554432 ≤ lf) {t0 : T} (ht0 : fitE true csfit_MMbScEibEiMiiiEbi t0) : Cc lf 12 6 [t0] = some [.b true] := by
  have hf0 := ht0
  obtain ⟨p0_0, p0_1, p0_2, p0_3, p0_4, rfl, w0_0, w0_1, w0_2, w0_4⟩ := fit_MMbScEibEiMiiiEbi ht0
  refine (f6_eq (Cc lf 11) lf p0_0 p0_1 p0_2 p0_3 p0_4).trans ?_
  unfold f6 f6_t
  rcases sz39 hlf (d := 11) (by omega) _ hf0 1048576 (by omega) (by omega) with e | ⟨y1, e1, g1, zz0⟩
  · rw [e]; rfl
  rw [e1]
  simp only [Option.bind_some, nth0, asI_i]
  rw [iLt_f (show ¬ y1 < 0 by omega), cond_f]
  have z0 : tl (T.st [T.sl p0_0, T.i .i64 p0_1, T.sl p0_2, T.b p0_3, T.i .i64 p0_4]) ≤ 1048576 := by omega
  have eT0 := to41 hlf (d := 11) (by omega) _ hf0 (by omega)
  obtain ⟨r0, eS, eI, ⟨hr0, zr0⟩, _⟩ := same hlf p0_0 p0_1 p0_2 p0_3 p0_4 hf0 z0
  have hR0 := hr0
  obtain ⟨R0_0, rfl, W0_0⟩ := fitC_i hr0
  have eX0 := eq43 hlf (d := 11) (by omega) _ hf0 (by omega)
  simp only [eT0, eS, eI, eX0, Option.bind_some, nth0, nthS, asI_i, asL_l, asB_b, asS_s, cell0, cellS, beq_self_eq_true, bne_self_eq_false, Bool.not_true, Bool.and_true, cond_f, cond_t]
end Go.Proofs.Ytockabaoaneplaa.T
