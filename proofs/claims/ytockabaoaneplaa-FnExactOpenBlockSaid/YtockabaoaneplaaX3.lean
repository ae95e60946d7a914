/- What functions of the law FnExactOpenBlock come to, in trees; no condition. -/
import Derived.Test.YtockabaoaneplaaRows
import Derived.Test.YtockabaoaneplaaX2
set_option linter.unusedVariables false
set_option linter.constructorNameAsVariable false
set_option linter.unusedSimpArgs false
set_option linter.unnecessarySimpa false
namespace Go.Proofs.Ytockabaoaneplaa.T
open Go Go.Proofs.YtockabaoaneplaaV
set_option maxRecDepth 100000
theorem c_from {lf d : Nat} (a lo hi : Int) : Cc lf (d + 1) 76 [.i .i64 a, .i .i64 lo, .i .i64 hi] = some [.b (iLe lo a && iLe a hi)] := by
  refine (f76_eq (Cc lf d) lf a lo hi).trans ?_
  unfold f76 f76_t
  exact cond_b _ _
def pageU (ps : List T) (j : Nat) : Bool := asB (T.cell (ps.getD j T.u) 0)
/-- How many pages of a block are written. -/
def usedN (ps : List T) : Nat := cntB (pageU ps) ps.length
theorem usedN_le (ps : List T) : usedN ps ≤ ps.length := cntB_le _ _
theorem cellL_le {l : List T} {j : Nat} (k : Nat) : (asL (T.cell (l.getD j T.u) k)).length + tls (asL (T.cell (l.getD j T.u) k)) ≤ tls l := by
  by_cases h : j < l.length
  · have h1 := tl_mem (List.getElem_mem h)
    rw [List.getD_eq_getElem?_getD, List.getElem?_eq_getElem h]
    show (asL (T.cell l[j] k)).length + tls (asL (T.cell l[j] k)) ≤ _
    cases e : l[j] <;> try (simp only [T.cell, asL, tls]; exact Nat.zero_le _)
    rename_i xs
    rw [e] at h1
    simp only [T.cell, tl] at h1 ⊢
    cases e2 : xs[k]? with
    | none => rw [List.getD_eq_getElem?_getD, e2]; exact Nat.zero_le _
    | some x =>
      rw [List.getD_eq_getElem?_getD, e2]
      have h3 := tl_mem (List.mem_of_getElem? e2)
      show (asL x).length + tls (asL x) ≤ _
      cases x <;> try (exact Nat.zero_le _)
      simp only [tl, asL] at h3 ⊢
      omega
  · rw [List.getD_eq_getElem?_getD, List.getElem?_eq_none (by omega)]
    exact Nat.zero_le _
theorem c_sNext {lf d : Nat} (hlf : 33554432 ≤ lf) (ps : List T) (w : Int) (bad : Bool) (hs : ps.length ≤ 16777216) : Cc lf (d + 1) 97 [.st [.sl ps, .i .i64 w, .b bad]] = some [.i .i64 (usedN ps : Nat)] := by
  refine (f97_eq (Cc lf d) lf ps w bad).trans ?_
  unfold f97 f97_t
  dsimp only
  have L := cnt_loop (F := fun n x j => f97_0 (Cc lf d) lf bad ps w n x j) (P := pageU ps) (Y := fun x => some [T.i .i64 0, T.i .i64 x]) (len := ps.length) (by omega) (fun n x j hj hx => by
    rw [f97_0_u]
    unfold f97_0_s
    rw [iLt_t (by omega), inR_nat hj, wrap_next hj (by omega)]
    rfl) (fun n x => by
    rw [f97_0_u]
    unfold f97_0_s
    rw [iLt_f (by omega)]
    rfl) (n := lf) (by omega)
  rw [L]
  rfl
theorem c_isBlock {lf d : Nat} (l : List T) (n : Int) (hs : l.length ≤ 16777216) : Cc lf (d + 2) 122 [.st [.sl l], .i .i64 n] = some [.b (iLe 0 n && iLt n (l.length : Int))] := by
  refine (f122_eq (Cc lf (d + 1)) lf l n).trans ?_
  unfold f122 f122_t
  rw [wrap_in (by omega) (by omega), c_from]
  have : iLe n ((l.length : Int) - 1) = iLt n (l.length : Int) := by
    by_cases h : n < (l.length : Int)
    · rw [iLt_t h, iLe_t (by omega)]
    · rw [iLt_f h, iLe_f (by omega)]
  rw [this]
  rfl
theorem c_iNext {lf d : Nat} (hlf : 33554432 ≤ lf) (l : List T) (j : Nat) (hj : j < l.length) (hs : l.length + tls l ≤ 16777216) : Cc lf (d + 3) 64 [.st [.sl l], .i .i64 (j : Int)] = some [.i .i64 (usedN (asL (T.cell (l.getD j T.u) 0)) : Nat)] := by
  refine (f64_eq (Cc lf (d + 2)) lf l j).trans ?_
  unfold f64 f64_t
  dsimp only
  have hp := cellL_le (l := l) (j := j) 0
  have L := cnt_loop (F := fun n x k => f64_0 (Cc lf (d + 2)) lf l j n x k) (P := pageU (asL (T.cell (l.getD j T.u) 0))) (Y := fun x => some [T.i .i64 0, T.i .i64 x]) (len := (asL (T.cell (l.getD j T.u) 0)).length) (by omega) (fun n x k hk hx => by
    rw [f64_0_u]
    unfold f64_0_s
    rw [Int.toNat_natCast, iLt_t (by omega), inR_nat hk, wrap_next hk (by omega)]
    rfl) (fun n x => by
    rw [f64_0_u]
    unfold f64_0_s
    rw [Int.toNat_natCast, iLt_f (by omega)]
    rfl) (n := lf) (by omega)
  rw [c_isBlock l j (by omega), iLe_t (by omega), iLt_t (by omega), inR_nat hj]
  simp only [Option.bind_some, nth0, asB_b, Bool.and_self, Bool.not_true, cond_f, cond_t]
  rw [L]
  rfl
theorem c_iNextNo {lf d : Nat} (l : List T) (n : Int) (hn : ¬ (0 ≤ n ∧ n < (l.length : Int))) (hs : l.length + tls l ≤ 16777216) : Cc lf (d + 3) 64 [.st [.sl l], .i .i64 n] = some [.i .i64 (-1)] := by
  refine (f64_eq (Cc lf (d + 2)) lf l n).trans ?_
  unfold f64 f64_t
  rw [c_isBlock l n (by omega)]
  have : (iLe 0 n && iLt n (l.length : Int)) = false := by
    by_cases h : 0 ≤ n
    · rw [iLe_t h, iLt_f (by omega)]; rfl
    · rw [iLe_f h]; rfl
  rw [this]
  rfl
def freeB (l : List T) : Nat := cntB (fun j => !(asB (T.cell (l.getD j T.u) 2)) && ((usedN (asL (T.cell (l.getD j T.u) 0)) : Nat) : Int) == 0) l.length
theorem c_sFree {lf d : Nat} (hlf : 33554432 ≤ lf) (l : List T) (ops : Int) (fs : List T) (dn : Bool) (sq : Int) (hs : l.length + tls l ≤ 16777216) :
    Cc lf (d + 2) 63 [.st [.sl l, .i .i64 ops, .sl fs, .b dn, .i .i64 sq]] = some [.i .i64 (freeB l : Nat)] := by
  refine (f63_eq (Cc lf (d + 1)) lf l ops fs dn sq).trans ?_
  unfold f63 f63_t
  dsimp only
  have L := cnt_loop (F := fun n x j => f63_0 (Cc lf (d + 1)) lf dn l fs ops sq n x j) (P := fun j => !(asB (T.cell (l.getD j T.u) 2)) && ((usedN (asL (T.cell (l.getD j T.u) 0)) : Nat) : Int) == 0) (Y := fun x => some [T.i .i64 0, T.i .i64 x]) (len := l.length) (by omega) (fun n x j hj hx => by
    have hp := cellL_le (l := l) (j := j) 0
    rw [f63_0_u]
    unfold f63_0_s
    rw [iLt_t (by omega), inR_nat hj, wrap_next hj (by omega), Int.toNat_natCast, c_sNext hlf _ _ _ (by omega)]
    simp only [Option.bind_some, nth0, asI_i, cond_t, cond_and, cond_not]) (fun n x => by
    rw [f63_0_u]
    unfold f63_0_s
    rw [iLt_f (by omega)]
    rfl) (n := lf) (by omega)
  rw [L]
  rfl
theorem c_iFree {lf d : Nat} (hlf : 33554432 ≤ lf) (l : List T) (ops : Int) (fs : List T) (dn : Bool) (sq : Int) (hs : l.length + tls l ≤ 16777216) :
    Cc lf (d + 4) 62 [.st [.sl l, .i .i64 ops, .sl fs, .b dn, .i .i64 sq]] = some [.i .i64 (freeB l : Nat)] := by
  refine (f62_eq (Cc lf (d + 3)) lf l ops fs dn sq).trans ?_
  unfold f62 f62_t
  dsimp only
  have L := cnt_loop (F := fun n x j => f62_0 (Cc lf (d + 3)) lf dn l fs ops sq n x j) (P := fun j => !(asB (T.cell (l.getD j T.u) 2)) && ((usedN (asL (T.cell (l.getD j T.u) 0)) : Nat) : Int) == 0) (Y := fun x => some [T.i .i64 0, T.i .i64 x]) (len := l.length) (by omega) (fun n x j hj hx => by
    rw [f62_0_u]
    unfold f62_0_s
    rw [iLt_t (by omega), inR_nat hj, wrap_next hj (by omega), c_iNext hlf l j hj hs, Int.toNat_natCast]
    simp only [Option.bind_some, nth0, asI_i, cond_t, cond_and, cond_not]) (fun n x => by
    rw [f62_0_u]
    unfold f62_0_s
    rw [iLt_f (by omega)]
    rfl) (n := lf) (by omega)
  rw [L]
  rfl
def openG (l : List T) (s : Int) (j : Nat) : Nat ⊕ Int :=
  bif (asB (T.cell (l.getD j T.u) 2)) then .inr s else bif iLt 0 ((usedN (asL (T.cell (l.getD j T.u) 0)) : Nat) : Int) && iLt ((usedN (asL (T.cell (l.getD j T.u) 0)) : Nat) : Int) ((asL (T.cell (l.getD j T.u) 0)).length : Int) then .inl j else bif ((usedN (asL (T.cell (l.getD j T.u) 0)) : Nat) : Int) == 0 && iLt s 0 then .inr (j : Int) else .inr s
/-- The block that is written to next. -/
def openB (l : List T) (spare : Int) : Int := match foldX (openG l) (-1) l.length with | .inl j => (j : Int) | .inr s => bif iLt spare (freeB l : Nat) then s else -1
theorem c_sOpen {lf d : Nat} (hlf : 33554432 ≤ lf) (l : List T) (ops : Int) (fs : List T) (dn : Bool) (sq spare : Int) (hs : l.length + tls l ≤ 16777216) :
    Cc lf (d + 3) 48 [.st [.sl l, .i .i64 ops, .sl fs, .b dn, .i .i64 sq], .i .i64 spare] = some [.i .i64 (openB l spare)] := by
  refine (f48_eq (Cc lf (d + 2)) lf l ops fs dn sq spare).trans ?_
  unfold f48 f48_t
  dsimp only
  have L := foldX_loop (F := fun n s j => f48_0 (Cc lf (d + 2)) lf dn l fs spare ops sq n s j) (g := openG l) (I := fun _ _ => True) (X := fun j => some [T.i .i64 0, T.i .i64 (j : Int)]) (Y := fun s => some [T.i .i64 1, T.i .i64 spare, T.i .i64 s, T.sl l, T.i .i64 ops, T.sl fs, T.b dn, T.i .i64 sq]) (len := l.length) (fun n s j hj hi => by
    have hp := cellL_le (l := l) (j := j) 0
    rw [f48_0_u]
    unfold f48_0_s
    rw [iLt_t (by omega), inR_nat hj, wrap_next hj (by omega), Int.toNat_natCast, c_sNext hlf _ _ _ (by omega)]
    simp only [Option.bind_some, nth0, asI_i, cond_t, openG]
    generalize asB (T.cell (l.getD j T.u) 2) = b1
    generalize iLt 0 ((usedN (asL (T.cell (l.getD j T.u) 0)) : Nat) : Int) = b2
    generalize iLt ((usedN (asL (T.cell (l.getD j T.u) 0)) : Nat) : Int) ((asL (T.cell (l.getD j T.u) 0)).length : Int) = b3
    generalize (((usedN (asL (T.cell (l.getD j T.u) 0)) : Nat) : Int) == 0) = b4
    generalize iLt s 0 = b5
    cases b1 <;> cases b2 <;> cases b3 <;> cases b4 <;> cases b5 <;> first | exact .inl ⟨_, rfl, rfl⟩ | exact .inr ⟨_, rfl, rfl, trivial⟩) (fun n s hi => by
    rw [f48_0_u]
    unfold f48_0_s
    rw [iLt_f (by omega)]
    rfl) (n := lf) (by omega) (s := -1) trivial
  unfold openB
  rcases L with ⟨j, h1, h2⟩ | ⟨s, h1, h2, _⟩
  · rw [h1, h2]; rfl
  · rw [h1, h2]
    simp only [Option.bind_some, nth0, nthS, asI_i, asL_l, asB_b]
    rw [show ((1 : Int) == 0) = false from rfl, cond_f, c_sFree hlf l ops fs dn sq hs]
    simp only [Option.bind_some, nth0, asI_i]
    cases iLt spare (freeB l : Nat) <;> rfl
theorem c_iOpen {lf d : Nat} (hlf : 33554432 ≤ lf) (l : List T) (ops : Int) (fs : List T) (dn : Bool) (sq spare : Int) (hs : l.length + tls l ≤ 16777216) :
    Cc lf (d + 5) 49 [.st [.sl l, .i .i64 ops, .sl fs, .b dn, .i .i64 sq], .i .i64 spare] = some [.i .i64 (openB l spare)] := by
  refine (f49_eq (Cc lf (d + 4)) lf l ops fs dn sq spare).trans ?_
  unfold f49 f49_t
  dsimp only
  have L := foldX_loop (F := fun n s j => f49_0 (Cc lf (d + 4)) lf dn l fs spare ops sq n s j) (g := openG l) (I := fun _ _ => True) (X := fun j => some [T.i .i64 0, T.i .i64 (j : Int)]) (Y := fun s => some [T.i .i64 1, T.i .i64 spare, T.i .i64 s, T.sl l, T.i .i64 ops, T.sl fs, T.b dn, T.i .i64 sq]) (len := l.length) (fun n s j hj hi => by
    rw [f49_0_u]
    unfold f49_0_s
    rw [iLt_t (by omega), inR_nat hj, wrap_next hj (by omega), c_iNext hlf l j hj hs, Int.toNat_natCast]
    simp only [Option.bind_some, nth0, asI_i, cond_t, openG]
    generalize asB (T.cell (l.getD j T.u) 2) = b1
    generalize iLt 0 ((usedN (asL (T.cell (l.getD j T.u) 0)) : Nat) : Int) = b2
    generalize iLt ((usedN (asL (T.cell (l.getD j T.u) 0)) : Nat) : Int) ((asL (T.cell (l.getD j T.u) 0)).length : Int) = b3
    generalize (((usedN (asL (T.cell (l.getD j T.u) 0)) : Nat) : Int) == 0) = b4
    generalize iLt s 0 = b5
    cases b1 <;> cases b2 <;> cases b3 <;> cases b4 <;> cases b5 <;> first | exact .inl ⟨_, rfl, rfl⟩ | exact .inr ⟨_, rfl, rfl, trivial⟩) (fun n s hi => by
    rw [f49_0_u]
    unfold f49_0_s
    rw [iLt_f (by omega)]
    rfl) (n := lf) (by omega) (s := -1) trivial
  unfold openB
  rcases L with ⟨j, h1, h2⟩ | ⟨s, h1, h2, _⟩
  · rw [h1, h2]; rfl
  · rw [h1, h2]
    simp only [Option.bind_some, nth0, nthS, asI_i, asL_l, asB_b]
    rw [show ((1 : Int) == 0) = false from rfl, cond_f, c_iFree hlf l ops fs dn sq hs]
    simp only [Option.bind_some, nth0, asI_i]
    cases iLt spare (freeB l : Nat) <;> rfl
theorem openB_in (l : List T) (spare : Int) : -1 ≤ openB l spare ∧ openB l spare < (l.length : Int) + 1 := by
  have : ∀ n : Nat, (match foldX (openG l) (-1) n with | .inl j => (j : Int) < n | .inr s => s < (n : Int) ∧ -1 ≤ s) := by
    intro n
    induction n with
    | zero => exact ⟨by show (-1 : Int) < 0; omega, Int.le_refl _⟩
    | succ n ih =>
      simp only [foldX]
      cases e : foldX (openG l) (-1) n with
      | inl j => rw [e] at ih; simp only at ih ⊢; omega
      | inr s =>
        rw [e] at ih
        simp only at ih ⊢
        unfold openG
        generalize asB (T.cell (l.getD n T.u) 2) = b1
        generalize iLt 0 ((usedN (asL (T.cell (l.getD n T.u) 0)) : Nat) : Int) = b2
        generalize iLt ((usedN (asL (T.cell (l.getD n T.u) 0)) : Nat) : Int) ((asL (T.cell (l.getD n T.u) 0)).length : Int) = b3
        generalize (((usedN (asL (T.cell (l.getD n T.u) 0)) : Nat) : Int) == 0) = b4
        generalize iLt s 0 = b5
        cases b1 <;> cases b2 <;> cases b3 <;> cases b4 <;> cases b5 <;> simp only [cond_t, cond_f, Bool.and_true, Bool.and_false, Bool.true_and, Bool.false_and, Bool.and_self] <;> omega
  have := this l.length
  unfold openB
  cases e : foldX (openG l) (-1) l.length with
  | inl j => rw [e] at this; simp only at this ⊢; omega
  | inr s =>
    rw [e] at this
    simp only at this ⊢
    cases iLt spare (freeB l : Nat) <;> simp only [cond_t, cond_f] <;> omega
theorem same {lf : Nat} (hlf : 33554432 ≤ lf) (l : List T) (ops : Int) (fs : List T) (dn : Bool) (sq : Int) {cs : List CT} (hf : fitE true cs (.st [.sl l, .i .i64 ops, .sl fs, .b dn, .i .i64 sq])) (z : tl (.st [.sl l, .i .i64 ops, .sl fs, .b dn, .i .i64 sq]) ≤ 1048576) (spare : Int) (hf1 : fitC (.i .i64) (.i .i64 spare)) (z1 : tl (.i .i64 spare) ≤ 1048576) :
    ∃ r, Cc lf 11 48 [.st [.sl l, .i .i64 ops, .sl fs, .b dn, .i .i64 sq], .i .i64 spare] = some [r] ∧ Cc lf 11 49 [.st [.sl l, .i .i64 ops, .sl fs, .b dn, .i .i64 sq], .i .i64 spare] = some [r] ∧ (fitC (.i .i64) r ∧ tl r ≤ 16777216) ∧ True := by
  simp only [tl, tls] at z
  have h := openB_in l spare
  exact ⟨_, c_sOpen (d := 8) hlf l ops fs dn sq spare (by omega), c_iOpen (d := 6) hlf l ops fs dn sq spare (by omega), ⟨⟨rfl, wf64 (by omega) (by omega)⟩, Nat.zero_le _⟩, trivial⟩
/-- The law answers true. -/
theorem lawB {lf : Nat} (hlf : 33554432 ≤ lf) {t0 : T} (ht0 : fitE true csfit_MMbScEibEiMiiiEbi t0) {t1 : T} (ht1 : fitC (.i .i64) t1) : Cc lf 12 8 [t0, t1] = some [.b true] := by
  have hf0 := ht0
  obtain ⟨p0_0, p0_1, p0_2, p0_3, p0_4, rfl, w0_0, w0_1, w0_2, w0_4⟩ := fit_MMbScEibEiMiiiEbi ht0
  have hf1 := ht1
  obtain ⟨p1_0, rfl, w1_0⟩ := fitC_i ht1
  refine (f8_eq (Cc lf 11) lf p0_0 p0_1 p0_2 p0_3 p0_4 p1_0).trans ?_
  unfold f8 f8_t
  rcases sz39 hlf (d := 11) (by omega) _ hf0 1048576 (by omega) (by omega) with e | ⟨y1, e1, g1, zz0⟩
  · rw [e]; rfl
  rw [e1]
  simp only [Option.bind_some, nth0, asI_i]
  rw [iLt_f (show ¬ y1 < 0 by omega), cond_f]
  have z0 : tl (T.st [T.sl p0_0, T.i .i64 p0_1, T.sl p0_2, T.b p0_3, T.i .i64 p0_4]) ≤ 1048576 := by omega
  have z1 : tl (T.i .i64 p1_0) ≤ 1048576 := Nat.zero_le _
  have eT0 := to41 hlf (d := 11) (by omega) _ hf0 (by omega)
  obtain ⟨r0, eS, eI, ⟨hr0, zr0⟩, _⟩ := same hlf p0_0 p0_1 p0_2 p0_3 p0_4 hf0 z0 p1_0 hf1 z1
  have hR0 := hr0
  obtain ⟨R0_0, rfl, W0_0⟩ := fitC_i hr0
  have eX0 := eq43 hlf (d := 11) (by omega) _ hf0 (by omega)
  simp only [eT0, eS, eI, eX0, Option.bind_some, nth0, nthS, asI_i, asL_l, asB_b, asS_s, cell0, cellS, beq_self_eq_true, bne_self_eq_false, Bool.not_true, Bool.and_true, cond_f, cond_t]
end Go.Proofs.Ytockabaoaneplaa.T
