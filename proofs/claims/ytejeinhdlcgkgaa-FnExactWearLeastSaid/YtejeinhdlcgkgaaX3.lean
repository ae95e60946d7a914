/- What functions of the law FnExactWearLeast come to, in trees; no condition. -/
import Derived.Test.YtejeinhdlcgkgaaRows
import Derived.Test.YtejeinhdlcgkgaaX2
set_option linter.unusedVariables false
set_option linter.constructorNameAsVariable false
set_option linter.unusedSimpArgs false
set_option linter.unnecessarySimpa false
namespace Go.Proofs.Ytejeinhdlcgkgaa.T
open Go Go.Proofs.YtejeinhdlcgkgaaV
section
variable {lf : Nat} (hlf : 2097152 ≤ lf)

def csC : List CT := [.sl true csB]
theorem fitCh {t : T} (h : fitE true csC t) : ∃ l, t = .st [.sl l] ∧ fitC (.sl true csB) (.sl l) := by
  match t, h with
  | .st [x], h =>
    obtain ⟨h1, _⟩ := (h : fitC (.sl true csB) x ∧ True)
    cases x <;> first | exact h1.elim | skip
    exact ⟨_, rfl, h1⟩
  | .st [], h => exact (show False from h).elim
  | .st (_ :: _ :: _), h => exact (show _ ∧ False from h).2.elim

include hlf in
theorem sz_chip : SZ (Cc lf) 6 22 (fitE true csC) := by
  intro t ht x h0 h1
  obtain ⟨l, rfl, hl⟩ := fitCh ht
  have hcall : ∀ d, Cc lf (d + 1) 22 [.st [.sl l], .i .i64 x] = f22_t (Cc lf d) lf l x := fun d => f22_eq (Cc lf d) lf l x
  rcases sz_blocks hlf _ hl x h0 h1 with h | ⟨r, h, h2, h3, h4⟩
  · exact .inl (says_of fun d hd => by rw [hcall]; unfold f22_t; rw [h d hd]; rfl)
  · exact .inr ⟨r, says_of fun d hd => by rw [hcall]; unfold f22_t; rw [h d hd]; simp only [Option.bind_some, neg_tell h2, cond_false]; rfl, h2, h3, h4, trivial⟩
include hlf in
theorem to_chip : TO (Cc lf) 6 24 (fitE true csC) := by
  intro t ht hsm
  obtain ⟨l, rfl, hl⟩ := fitCh ht
  have hcall : ∀ d, Cc lf (d + 1) 24 [.st [.sl l]] = f24_t (Cc lf d) lf l := fun d => f24_eq (Cc lf d) lf l
  exact says_of fun d hd => by rw [hcall]; unfold f24_t; rw [to_blocks hlf _ hl hsm.1 d hd]; rfl
include hlf in
theorem eq_chip : EQ (Cc lf) 6 26 (fitE true csC) := by
  intro t ht hsm
  obtain ⟨l, rfl, hl⟩ := fitCh ht
  have hcall : ∀ d, Cc lf (d + 1) 26 [.st [.sl l], .st [.sl l]] = f26_t (Cc lf d) lf l l := fun d => f26_eq (Cc lf d) lf l l
  exact says_of fun d hd => by rw [hcall]; unfold f26_t; rw [eq_blocks hlf _ hl hsm.1 d hd]; rfl

theorem least_loop {l : List T} (hl : l.length ≤ 1048576) (c c' : Orc) : ∀ (m j n : Nat) (x : Int) (b : Bool), j + m = l.length → m < n → ∃ y, f33_0 c lf l n x b j = some [T.i .i64 0, T.i .i64 y] ∧ f34_0 c' lf l n x b j = some [T.i .i64 0, T.i .i64 y]
  | 0, j, n, x, b, hj, hn => by
    obtain ⟨n, rfl⟩ : ∃ m, n = m + 1 := ⟨n - 1, by omega⟩
    have hb : decide ((j : Int) < (l.length : Int)) = false := by simp; omega
    refine ⟨x, ?_, ?_⟩
    · show f33_0_s c lf l _ x b j = _
      unfold f33_0_s
      rw [hb]
      rfl
    · show f34_0_s c' lf l _ x b j = _
      unfold f34_0_s
      rw [hb]
      rfl
  | m + 1, j, n, x, b, hj, hn => by
    obtain ⟨n, rfl⟩ : ∃ m, n = m + 1 := ⟨n - 1, by omega⟩
    have hjl : j < l.length := by omega
    have hb : decide ((j : Int) < (l.length : Int)) = true := by simp; omega
    have e1 : f33_0 c lf l (n + 1) x b j = f33_0_s c lf l (f33_0 c lf l n) x b j := rfl
    have e2 : f34_0 c' lf l (n + 1) x b j = f34_0_s c' lf l (f34_0 c' lf l n) x b j := rfl
    rw [e1, e2]
    unfold f33_0_s f34_0_s
    rw [hb, inR_nat hjl, wrap_next hjl (by omega)]
    simp only [cond_true]
    cases asB (T.cell (l.getD ((j : Int)).toNat T.u) 2) with
    | true => simp only [Bool.not_true, cond_false]; exact least_loop hl c c' m (j + 1) n _ _ (by omega) (by omega)
    | false =>
      simp only [Bool.not_false, cond_true]
      cases b with
      | false => simp only [Bool.not_false, cond_true]; exact least_loop hl c c' m (j + 1) n _ _ (by omega) (by omega)
      | true =>
        simp only [Bool.not_true, cond_false]
        cases decide (asI (T.cell (l.getD ((j : Int)).toNat T.u) 1) < x) with
        | true => simp only [cond_true]; exact least_loop hl c c' m (j + 1) n _ _ (by omega) (by omega)
        | false => simp only [cond_false]; exact least_loop hl c c' m (j + 1) n _ _ (by omega) (by omega)

include hlf in
/-- The law of the least wear answers true. -/
theorem law8 {t : T} (ht : fitE true csC t) : Says (Cc lf) 8 8 [t] [.b true] := by
  obtain ⟨l, rfl, hl⟩ := fitCh ht
  have hcall : ∀ d, Cc lf (d + 1) 8 [.st [.sl l]] = f8_t (Cc lf d) lf l := fun d => f8_eq (Cc lf d) lf l
  rcases sz_chip hlf _ ht 1048576 (by omega) (by omega) with h | ⟨r, h, h2, h3, h4⟩
  · exact says_of fun d hd => by rw [hcall]; unfold f8_t; rw [h d (by omega)]; rfl
  · obtain ⟨y, g1, g2⟩ := least_loop (lf := lf) h4.1.1 (Cc lf 0) (Cc lf 0) l.length 0 lf 0 false (by omega) (by have := h4.1.1; omega)
    refine says_of fun d hd => ?_
    obtain ⟨e, rfl⟩ : ∃ e, d = e + 1 := ⟨d - 1, by omega⟩
    obtain ⟨y, g1, g2⟩ := least_loop (lf := lf) h4.1.1 (Cc lf e) (Cc lf e) l.length 0 lf 0 false (by omega) (by have := h4.1.1; omega)
    have c33 : Cc lf (e + 1) 33 [.st [.sl l]] = some [.i .i64 y] := by
      refine (f33_eq (Cc lf e) lf l).trans ?_
      unfold f33 f33_t
      rw [show ((0 : Nat) : Int) = 0 from rfl] at g1
      show (f33_0 (Cc lf e) lf l lf 0 false 0).bind _ = _
      rw [g1]
      rfl
    have c34 : Cc lf (e + 1) 34 [.st [.sl l]] = some [.i .i64 y] := by
      refine (f34_eq (Cc lf e) lf l).trans ?_
      unfold f34 f34_t
      rw [show ((0 : Nat) : Int) = 0 from rfl] at g2
      show (f34_0 (Cc lf e) lf l lf 0 false 0).bind _ = _
      rw [g2]
      rfl
    have cto := to_chip hlf _ ht h4 (e + 1) (by omega)
    have ceq := eq_chip hlf _ ht h4 (e + 1) (by omega)
    rw [hcall]
    unfold f8_t
    rw [h (e + 1) (by omega)]
    simp only [Option.bind_some, neg_tell h2, cond_false]
    rw [cto]
    simp only [Option.bind_some]
    have ea : asL (T.cell (nth [T.st [T.sl l]] 0) 0) = l := rfl
    rw [ea, c33, c34]
    have en : (asI (nth [T.i .i64 y] 0) != asI (nth [T.i .i64 y] 0)) = false := by simp
    simp only [Option.bind_some, en, cond_false, ea]
    rw [ceq]
    rfl

end
end Go.Proofs.Ytejeinhdlcgkgaa.T
