/- What functions of the law FnExactImageNew come to, in trees; no condition. -/
import Derived.Test.YtdclnhlpifahpaaRows
import Derived.Test.YtdclnhlpifahpaaX1
set_option linter.unusedVariables false
set_option linter.constructorNameAsVariable false
set_option linter.unusedSimpArgs false
set_option linter.unnecessarySimpa false
namespace Go.Proofs.Ytdclnhlpifahpaa.T
open Go Go.Proofs.YtdclnhlpifahpaaV
set_option maxRecDepth 100000
/-- The functions, by depth. -/
noncomputable abbrev Cc (lf d : Nat) : Orc := orc X env lf 6 d
theorem Cc_le {lf d d' : Nat} (h : d ≤ d') : OLe (Cc lf d) (Cc lf d') := fun _ _ _ g => orc_le h g
section
variable {lf : Nat}
theorem eq48 (hlf : 33554432 ≤ lf) {d : Nat} (hd : 1 ≤ d) : EQ1 (Cc lf d) 48 (fitC (.sl false [.i .u8])) := by
  exact EQ1.le (Cc_le hd) (eq_flat1 (c' := Cc lf 1) hlf (F := fun l l' n i => f48_0 (Cc lf 0) lf l l' n i) (N := fun l l' i => (asI (l.getD i.toNat T.u)) != (asI (l'.getD i.toNat T.u))) (fun l l' => f48_eq (Cc lf 0) lf l l') (fun l l' n i => rfl) (fun l i => by simp))
abbrev csfit_si : List CT := [.s, .i .i64]
theorem fit_si {t : T} (h : fitE true csfit_si t) : ∃ (a0 : ByteArray) (a1 : Int), t = .st [.s a0, .i .i64 a1] ∧ a0.size ≤ maxLen ∧ (Lit.int .i64 a1).wf = true := by
  obtain ⟨l, rfl, h⟩ := fitE_st h
  obtain ⟨x0, l0, rfl, h0, h⟩ := fitCs_cons h
  obtain ⟨x1, l1, rfl, h1, h⟩ := fitCs_cons h
  obtain rfl := fitCs_nil h
  obtain ⟨a0, rfl, q0⟩ := fitC_s h0
  obtain ⟨a1, rfl, q1⟩ := fitC_i h1
  exact ⟨a0, a1, rfl, q0, q1⟩
theorem eq264 (hlf : 33554432 ≤ lf) {d : Nat} (hd : 1 ≤ d) : EQ1 (Cc lf d) 264 (fitE true csfit_si) := by
  refine EQ1.le (Cc_le hd) ?_
  intro t ht hs
  obtain ⟨a0, a1, rfl, q0, q1⟩ := fit_si ht
  simp only [tl, tls] at hs
  have hcall : Cc lf 1 264 [T.st [T.s a0, T.i .i64 a1], T.st [T.s a0, T.i .i64 a1]] = f264_t (Cc lf 0) lf a0 a1 a0 a1 := f264_eq (Cc lf 0) lf a0 a1 a0 a1
  rw [hcall]
  unfold f264_t
  simp only [Option.bind_some, nth0, asB_b, Bool.not_true, cond_false, ne_f, beq_self_eq_true]
theorem eq257 (hlf : 33554432 ≤ lf) {d : Nat} (hd : 2 ≤ d) : EQ1 (Cc lf d) 257 (fitC (.sl true [.s, .i .i64])) := by
  exact EQ1.le (Cc_le hd) (eq_slice1 (c' := Cc lf 2) hlf (F := fun l l' n i => f257_0 (Cc lf 1) lf l l' n i) (G := fun l l' i => Cc lf 1 264 [T.st [T.s (asS (T.cell (l.getD i.toNat T.u) 0)), T.i .i64 (asI (T.cell (l.getD i.toNat T.u) 1))], T.st [T.s (asS (T.cell (l'.getD i.toNat T.u) 0)), T.i .i64 (asI (T.cell (l'.getD i.toNat T.u) 1))]]) (fun l l' => f257_eq (Cc lf 1) lf l l') (fun l l' n i => rfl) (fun l j h hf hs => by
    have heq := eq264 hlf (d := 1) (by omega) _ hf hs
    obtain ⟨a0, a1, e, _⟩ := fit_si hf
    rw [e] at heq
    simp only [getD_nat h, e]
    exact heq))
abbrev csfit_ss : List CT := [.s, .s]
theorem fit_ss {t : T} (h : fitE true csfit_ss t) : ∃ (a0 : ByteArray) (a1 : ByteArray), t = .st [.s a0, .s a1] ∧ a0.size ≤ maxLen ∧ a1.size ≤ maxLen := by
  obtain ⟨l, rfl, h⟩ := fitE_st h
  obtain ⟨x0, l0, rfl, h0, h⟩ := fitCs_cons h
  obtain ⟨x1, l1, rfl, h1, h⟩ := fitCs_cons h
  obtain rfl := fitCs_nil h
  obtain ⟨a0, rfl, q0⟩ := fitC_s h0
  obtain ⟨a1, rfl, q1⟩ := fitC_s h1
  exact ⟨a0, a1, rfl, q0, q1⟩
theorem eq265 (hlf : 33554432 ≤ lf) {d : Nat} (hd : 1 ≤ d) : EQ1 (Cc lf d) 265 (fitE true csfit_ss) := by
  refine EQ1.le (Cc_le hd) ?_
  intro t ht hs
  obtain ⟨a0, a1, rfl, q0, q1⟩ := fit_ss ht
  simp only [tl, tls] at hs
  have hcall : Cc lf 1 265 [T.st [T.s a0, T.s a1], T.st [T.s a0, T.s a1]] = f265_t (Cc lf 0) lf a0 a1 a0 a1 := f265_eq (Cc lf 0) lf a0 a1 a0 a1
  rw [hcall]
  unfold f265_t
  simp only [Option.bind_some, nth0, asB_b, Bool.not_true, cond_false, ne_f, beq_self_eq_true]
theorem eq258 (hlf : 33554432 ≤ lf) {d : Nat} (hd : 2 ≤ d) : EQ1 (Cc lf d) 258 (fitC (.sl true [.s, .s])) := by
  exact EQ1.le (Cc_le hd) (eq_slice1 (c' := Cc lf 2) hlf (F := fun l l' n i => f258_0 (Cc lf 1) lf l l' n i) (G := fun l l' i => Cc lf 1 265 [T.st [T.s (asS (T.cell (l.getD i.toNat T.u) 0)), T.s (asS (T.cell (l.getD i.toNat T.u) 1))], T.st [T.s (asS (T.cell (l'.getD i.toNat T.u) 0)), T.s (asS (T.cell (l'.getD i.toNat T.u) 1))]]) (fun l l' => f258_eq (Cc lf 1) lf l l') (fun l l' n i => rfl) (fun l j h hf hs => by
    have heq := eq265 hlf (d := 1) (by omega) _ hf hs
    obtain ⟨a0, a1, e, _⟩ := fit_ss hf
    rw [e] at heq
    simp only [getD_nat h, e]
    exact heq))
abbrev csfit_iiiScMsiEMssE : List CT := [.i .i64, .i .i64, .i .i64, .sl false [.i .u8], .sl true [.s, .i .i64], .sl true [.s, .s]]
theorem fit_iiiScMsiEMssE {t : T} (h : fitE true csfit_iiiScMsiEMssE t) : ∃ (a0 : Int) (a1 : Int) (a2 : Int) (a3 : List T) (a4 : List T) (a5 : List T), t = .st [.i .i64 a0, .i .i64 a1, .i .i64 a2, .sl a3, .sl a4, .sl a5] ∧ (Lit.int .i64 a0).wf = true ∧ (Lit.int .i64 a1).wf = true ∧ (Lit.int .i64 a2).wf = true ∧ fitC (.sl false [.i .u8]) (.sl a3) ∧ fitC (.sl true [.s, .i .i64]) (.sl a4) ∧ fitC (.sl true [.s, .s]) (.sl a5) := by
  obtain ⟨l, rfl, h⟩ := fitE_st h
  obtain ⟨x0, l0, rfl, h0, h⟩ := fitCs_cons h
  obtain ⟨x1, l1, rfl, h1, h⟩ := fitCs_cons h
  obtain ⟨x2, l2, rfl, h2, h⟩ := fitCs_cons h
  obtain ⟨x3, l3, rfl, h3, h⟩ := fitCs_cons h
  obtain ⟨x4, l4, rfl, h4, h⟩ := fitCs_cons h
  obtain ⟨x5, l5, rfl, h5, h⟩ := fitCs_cons h
  obtain rfl := fitCs_nil h
  obtain ⟨a0, rfl, q0⟩ := fitC_i h0
  obtain ⟨a1, rfl, q1⟩ := fitC_i h1
  obtain ⟨a2, rfl, q2⟩ := fitC_i h2
  obtain ⟨a3, rfl, q3⟩ := fitC_sl h3
  obtain ⟨a4, rfl, q4⟩ := fitC_sl h4
  obtain ⟨a5, rfl, q5⟩ := fitC_sl h5
  exact ⟨a0, a1, a2, a3, a4, a5, rfl, q0, q1, q2, q3, q4, q5⟩
theorem eq251 (hlf : 33554432 ≤ lf) {d : Nat} (hd : 3 ≤ d) : EQ1 (Cc lf d) 251 (fitE true csfit_iiiScMsiEMssE) := by
  refine EQ1.le (Cc_le hd) ?_
  intro t ht hs
  obtain ⟨a0, a1, a2, a3, a4, a5, rfl, q0, q1, q2, q3, q4, q5⟩ := fit_iiiScMsiEMssE ht
  simp only [tl, tls] at hs
  have hcall : Cc lf 3 251 [T.st [T.i .i64 a0, T.i .i64 a1, T.i .i64 a2, T.sl a3, T.sl a4, T.sl a5], T.st [T.i .i64 a0, T.i .i64 a1, T.i .i64 a2, T.sl a3, T.sl a4, T.sl a5]] = f251_t (Cc lf 2) lf a0 a1 a2 a3 a4 a5 a0 a1 a2 a3 a4 a5 := f251_eq (Cc lf 2) lf a0 a1 a2 a3 a4 a5 a0 a1 a2 a3 a4 a5
  rw [hcall]
  unfold f251_t
  have e1 := eq48 hlf (d := 2) (by omega) (T.sl a3) q3 (by simp only [tl, tls]; omega)
  have e2 := eq257 hlf (d := 2) (by omega) (T.sl a4) q4 (by simp only [tl, tls]; omega)
  have e3 := eq258 hlf (d := 2) (by omega) (T.sl a5) q5 (by simp only [tl, tls]; omega)
  simp only [e1, e2, e3, Option.bind_some, nth0, asB_b, Bool.not_true, cond_false, ne_f, beq_self_eq_true]
theorem eq241 (hlf : 33554432 ≤ lf) {d : Nat} (hd : 4 ≤ d) : EQ1 (Cc lf d) 241 (fitC (.sl true [.i .i64, .i .i64, .i .i64, .sl false [.i .u8], .sl true [.s, .i .i64], .sl true [.s, .s]])) := by
  exact EQ1.le (Cc_le hd) (eq_slice1 (c' := Cc lf 4) hlf (F := fun l l' n i => f241_0 (Cc lf 3) lf l l' n i) (G := fun l l' i => Cc lf 3 251 [T.st [T.i .i64 (asI (T.cell (l.getD i.toNat T.u) 0)), T.i .i64 (asI (T.cell (l.getD i.toNat T.u) 1)), T.i .i64 (asI (T.cell (l.getD i.toNat T.u) 2)), T.sl (asL (T.cell (l.getD i.toNat T.u) 3)), T.sl (asL (T.cell (l.getD i.toNat T.u) 4)), T.sl (asL (T.cell (l.getD i.toNat T.u) 5))], T.st [T.i .i64 (asI (T.cell (l'.getD i.toNat T.u) 0)), T.i .i64 (asI (T.cell (l'.getD i.toNat T.u) 1)), T.i .i64 (asI (T.cell (l'.getD i.toNat T.u) 2)), T.sl (asL (T.cell (l'.getD i.toNat T.u) 3)), T.sl (asL (T.cell (l'.getD i.toNat T.u) 4)), T.sl (asL (T.cell (l'.getD i.toNat T.u) 5))]]) (fun l l' => f241_eq (Cc lf 3) lf l l') (fun l l' n i => rfl) (fun l j h hf hs => by
    have heq := eq251 hlf (d := 3) (by omega) _ hf hs
    obtain ⟨a0, a1, a2, a3, a4, a5, e, _⟩ := fit_iiiScMsiEMssE hf
    rw [e] at heq
    simp only [getD_nat h, e]
    exact heq))
abbrev csfit_MiiiScMsiEMssEEi : List CT := [.sl true [.i .i64, .i .i64, .i .i64, .sl false [.i .u8], .sl true [.s, .i .i64], .sl true [.s, .s]], .i .i64]
theorem fit_MiiiScMsiEMssEEi {t : T} (h : fitE true csfit_MiiiScMsiEMssEEi t) : ∃ (a0 : List T) (a1 : Int), t = .st [.sl a0, .i .i64 a1] ∧ fitC (.sl true [.i .i64, .i .i64, .i .i64, .sl false [.i .u8], .sl true [.s, .i .i64], .sl true [.s, .s]]) (.sl a0) ∧ (Lit.int .i64 a1).wf = true := by
  obtain ⟨l, rfl, h⟩ := fitE_st h
  obtain ⟨x0, l0, rfl, h0, h⟩ := fitCs_cons h
  obtain ⟨x1, l1, rfl, h1, h⟩ := fitCs_cons h
  obtain rfl := fitCs_nil h
  obtain ⟨a0, rfl, q0⟩ := fitC_sl h0
  obtain ⟨a1, rfl, q1⟩ := fitC_i h1
  exact ⟨a0, a1, rfl, q0, q1⟩
theorem eq213 (hlf : 33554432 ≤ lf) {d : Nat} (hd : 5 ≤ d) : EQ1 (Cc lf d) 213 (fitE true csfit_MiiiScMsiEMssEEi) := by
  refine EQ1.le (Cc_le hd) ?_
  intro t ht hs
  obtain ⟨a0, a1, rfl, q0, q1⟩ := fit_MiiiScMsiEMssEEi ht
  simp only [tl, tls] at hs
  have hcall : Cc lf 5 213 [T.st [T.sl a0, T.i .i64 a1], T.st [T.sl a0, T.i .i64 a1]] = f213_t (Cc lf 4) lf a0 a1 a0 a1 := f213_eq (Cc lf 4) lf a0 a1 a0 a1
  rw [hcall]
  unfold f213_t
  have e1 := eq241 hlf (d := 4) (by omega) (T.sl a0) q0 (by simp only [tl, tls]; omega)
  simp only [e1, Option.bind_some, nth0, asB_b, Bool.not_true, cond_false, ne_f, beq_self_eq_true]
abbrev csfit_isbiMiiiScMsiEMssEEi : List CT := [.i .i64, .s, .b, .i .i64, .sl true [.i .i64, .i .i64, .i .i64, .sl false [.i .u8], .sl true [.s, .i .i64], .sl true [.s, .s]], .i .i64]
theorem fit_isbiMiiiScMsiEMssEEi {t : T} (h : fitE true csfit_isbiMiiiScMsiEMssEEi t) : ∃ (a0 : Int) (a1 : ByteArray) (a2 : Bool) (a3 : Int) (a4 : List T) (a5 : Int), t = .st [.i .i64 a0, .s a1, .b a2, .i .i64 a3, .sl a4, .i .i64 a5] ∧ (Lit.int .i64 a0).wf = true ∧ a1.size ≤ maxLen ∧ (Lit.int .i64 a3).wf = true ∧ fitC (.sl true [.i .i64, .i .i64, .i .i64, .sl false [.i .u8], .sl true [.s, .i .i64], .sl true [.s, .s]]) (.sl a4) ∧ (Lit.int .i64 a5).wf = true := by
  obtain ⟨l, rfl, h⟩ := fitE_st h
  obtain ⟨x0, l0, rfl, h0, h⟩ := fitCs_cons h
  obtain ⟨x1, l1, rfl, h1, h⟩ := fitCs_cons h
  obtain ⟨x2, l2, rfl, h2, h⟩ := fitCs_cons h
  obtain ⟨x3, l3, rfl, h3, h⟩ := fitCs_cons h
  obtain ⟨x4, l4, rfl, h4, h⟩ := fitCs_cons h
  obtain ⟨x5, l5, rfl, h5, h⟩ := fitCs_cons h
  obtain rfl := fitCs_nil h
  obtain ⟨a0, rfl, q0⟩ := fitC_i h0
  obtain ⟨a1, rfl, q1⟩ := fitC_s h1
  obtain ⟨a2, rfl⟩ := fitC_b h2
  obtain ⟨a3, rfl, q3⟩ := fitC_i h3
  obtain ⟨a4, rfl, q4⟩ := fitC_sl h4
  obtain ⟨a5, rfl, q5⟩ := fitC_i h5
  exact ⟨a0, a1, a2, a3, a4, a5, rfl, q0, q1, q3, q4, q5⟩
theorem eq169 (hlf : 33554432 ≤ lf) {d : Nat} (hd : 6 ≤ d) : EQ1 (Cc lf d) 169 (fitE true csfit_isbiMiiiScMsiEMssEEi) := by
  refine EQ1.le (Cc_le hd) ?_
  intro t ht hs
  obtain ⟨a0, a1, a2, a3, a4, a5, rfl, q0, q1, q3, q4, q5⟩ := fit_isbiMiiiScMsiEMssEEi ht
  simp only [tl, tls] at hs
  have hcall : Cc lf 6 169 [T.st [T.i .i64 a0, T.s a1, T.b a2, T.i .i64 a3, T.sl a4, T.i .i64 a5], T.st [T.i .i64 a0, T.s a1, T.b a2, T.i .i64 a3, T.sl a4, T.i .i64 a5]] = f169_t (Cc lf 5) lf a0 a1 a2 a3 a4 a5 a0 a1 a2 a3 a4 a5 := f169_eq (Cc lf 5) lf a0 a1 a2 a3 a4 a5 a0 a1 a2 a3 a4 a5
  rw [hcall]
  unfold f169_t
  have e1 := eq213 hlf (d := 5) (by omega) (T.st [T.sl a4, T.i .i64 a5]) (show fitE true csfit_MiiiScMsiEMssEEi (T.st [T.sl a4, T.i .i64 a5]) from ⟨q4, ⟨rfl, q5⟩, trivial⟩) (by simp only [tl, tls]; omega)
  simp only [e1, Option.bind_some, nth0, asB_b, Bool.not_true, cond_false, ne_f, beq_self_eq_true]
theorem eq113 (hlf : 33554432 ≤ lf) {d : Nat} (hd : 7 ≤ d) : EQ1 (Cc lf d) 113 (fitC (.sl true [.i .i64, .s, .b, .i .i64, .sl true [.i .i64, .i .i64, .i .i64, .sl false [.i .u8], .sl true [.s, .i .i64], .sl true [.s, .s]], .i .i64])) := by
  exact EQ1.le (Cc_le hd) (eq_slice1 (c' := Cc lf 7) hlf (F := fun l l' n i => f113_0 (Cc lf 6) lf l l' n i) (G := fun l l' i => Cc lf 6 169 [T.st [T.i .i64 (asI (T.cell (l.getD i.toNat T.u) 0)), T.s (asS (T.cell (l.getD i.toNat T.u) 1)), T.b (asB (T.cell (l.getD i.toNat T.u) 2)), T.i .i64 (asI (T.cell (l.getD i.toNat T.u) 3)), T.sl (asL (T.cell (l.getD i.toNat T.u) 4)), T.i .i64 (asI (T.cell (l.getD i.toNat T.u) 5))], T.st [T.i .i64 (asI (T.cell (l'.getD i.toNat T.u) 0)), T.s (asS (T.cell (l'.getD i.toNat T.u) 1)), T.b (asB (T.cell (l'.getD i.toNat T.u) 2)), T.i .i64 (asI (T.cell (l'.getD i.toNat T.u) 3)), T.sl (asL (T.cell (l'.getD i.toNat T.u) 4)), T.i .i64 (asI (T.cell (l'.getD i.toNat T.u) 5))]]) (fun l l' => f113_eq (Cc lf 6) lf l l') (fun l l' n i => rfl) (fun l j h hf hs => by
    have heq := eq169 hlf (d := 6) (by omega) _ hf hs
    obtain ⟨a0, a1, a2, a3, a4, a5, e, _⟩ := fit_isbiMiiiScMsiEMssEEi hf
    rw [e] at heq
    simp only [getD_nat h, e]
    exact heq))
abbrev csfit_MisbiMiiiScMsiEMssEEiEi : List CT := [.sl true [.i .i64, .s, .b, .i .i64, .sl true [.i .i64, .i .i64, .i .i64, .sl false [.i .u8], .sl true [.s, .i .i64], .sl true [.s, .s]], .i .i64], .i .i64]
theorem fit_MisbiMiiiScMsiEMssEEiEi {t : T} (h : fitE true csfit_MisbiMiiiScMsiEMssEEiEi t) : ∃ (a0 : List T) (a1 : Int), t = .st [.sl a0, .i .i64 a1] ∧ fitC (.sl true [.i .i64, .s, .b, .i .i64, .sl true [.i .i64, .i .i64, .i .i64, .sl false [.i .u8], .sl true [.s, .i .i64], .sl true [.s, .s]], .i .i64]) (.sl a0) ∧ (Lit.int .i64 a1).wf = true := by
  obtain ⟨l, rfl, h⟩ := fitE_st h
  obtain ⟨x0, l0, rfl, h0, h⟩ := fitCs_cons h
  obtain ⟨x1, l1, rfl, h1, h⟩ := fitCs_cons h
  obtain rfl := fitCs_nil h
  obtain ⟨a0, rfl, q0⟩ := fitC_sl h0
  obtain ⟨a1, rfl, q1⟩ := fitC_i h1
  exact ⟨a0, a1, rfl, q0, q1⟩
theorem eq60 (hlf : 33554432 ≤ lf) {d : Nat} (hd : 8 ≤ d) : EQ1 (Cc lf d) 60 (fitE true csfit_MisbiMiiiScMsiEMssEEiEi) := by
  refine EQ1.le (Cc_le hd) ?_
  intro t ht hs
  obtain ⟨a0, a1, rfl, q0, q1⟩ := fit_MisbiMiiiScMsiEMssEEiEi ht
  simp only [tl, tls] at hs
  have hcall : Cc lf 8 60 [T.st [T.sl a0, T.i .i64 a1], T.st [T.sl a0, T.i .i64 a1]] = f60_t (Cc lf 7) lf a0 a1 a0 a1 := f60_eq (Cc lf 7) lf a0 a1 a0 a1
  rw [hcall]
  unfold f60_t
  have e1 := eq113 hlf (d := 7) (by omega) (T.sl a0) q0 (by simp only [tl, tls]; omega)
  simp only [e1, Option.bind_some, nth0, asB_b, Bool.not_true, cond_false, ne_f, beq_self_eq_true]
abbrev csfit_isbii : List CT := [.i .i64, .s, .b, .i .i64, .i .i64]
theorem fit_isbii {t : T} (h : fitE true csfit_isbii t) : ∃ (a0 : Int) (a1 : ByteArray) (a2 : Bool) (a3 : Int) (a4 : Int), t = .st [.i .i64 a0, .s a1, .b a2, .i .i64 a3, .i .i64 a4] ∧ (Lit.int .i64 a0).wf = true ∧ a1.size ≤ maxLen ∧ (Lit.int .i64 a3).wf = true ∧ (Lit.int .i64 a4).wf = true := by
  obtain ⟨l, rfl, h⟩ := fitE_st h
  obtain ⟨x0, l0, rfl, h0, h⟩ := fitCs_cons h
  obtain ⟨x1, l1, rfl, h1, h⟩ := fitCs_cons h
  obtain ⟨x2, l2, rfl, h2, h⟩ := fitCs_cons h
  obtain ⟨x3, l3, rfl, h3, h⟩ := fitCs_cons h
  obtain ⟨x4, l4, rfl, h4, h⟩ := fitCs_cons h
  obtain rfl := fitCs_nil h
  obtain ⟨a0, rfl, q0⟩ := fitC_i h0
  obtain ⟨a1, rfl, q1⟩ := fitC_s h1
  obtain ⟨a2, rfl⟩ := fitC_b h2
  obtain ⟨a3, rfl, q3⟩ := fitC_i h3
  obtain ⟨a4, rfl, q4⟩ := fitC_i h4
  exact ⟨a0, a1, a2, a3, a4, rfl, q0, q1, q3, q4⟩
theorem eq170 (hlf : 33554432 ≤ lf) {d : Nat} (hd : 1 ≤ d) : EQ1 (Cc lf d) 170 (fitE true csfit_isbii) := by
  refine EQ1.le (Cc_le hd) ?_
  intro t ht hs
  obtain ⟨a0, a1, a2, a3, a4, rfl, q0, q1, q3, q4⟩ := fit_isbii ht
  simp only [tl, tls] at hs
  have hcall : Cc lf 1 170 [T.st [T.i .i64 a0, T.s a1, T.b a2, T.i .i64 a3, T.i .i64 a4], T.st [T.i .i64 a0, T.s a1, T.b a2, T.i .i64 a3, T.i .i64 a4]] = f170_t (Cc lf 0) lf a0 a1 a2 a3 a4 a0 a1 a2 a3 a4 := f170_eq (Cc lf 0) lf a0 a1 a2 a3 a4 a0 a1 a2 a3 a4
  rw [hcall]
  unfold f170_t
  simp only [Option.bind_some, nth0, asB_b, Bool.not_true, cond_false, ne_f, beq_self_eq_true]
theorem eq114 (hlf : 33554432 ≤ lf) {d : Nat} (hd : 2 ≤ d) : EQ1 (Cc lf d) 114 (fitC (.sl true [.i .i64, .s, .b, .i .i64, .i .i64])) := by
  exact EQ1.le (Cc_le hd) (eq_slice1 (c' := Cc lf 2) hlf (F := fun l l' n i => f114_0 (Cc lf 1) lf l l' n i) (G := fun l l' i => Cc lf 1 170 [T.st [T.i .i64 (asI (T.cell (l.getD i.toNat T.u) 0)), T.s (asS (T.cell (l.getD i.toNat T.u) 1)), T.b (asB (T.cell (l.getD i.toNat T.u) 2)), T.i .i64 (asI (T.cell (l.getD i.toNat T.u) 3)), T.i .i64 (asI (T.cell (l.getD i.toNat T.u) 4))], T.st [T.i .i64 (asI (T.cell (l'.getD i.toNat T.u) 0)), T.s (asS (T.cell (l'.getD i.toNat T.u) 1)), T.b (asB (T.cell (l'.getD i.toNat T.u) 2)), T.i .i64 (asI (T.cell (l'.getD i.toNat T.u) 3)), T.i .i64 (asI (T.cell (l'.getD i.toNat T.u) 4))]]) (fun l l' => f114_eq (Cc lf 1) lf l l') (fun l l' n i => rfl) (fun l j h hf hs => by
    have heq := eq170 hlf (d := 1) (by omega) _ hf hs
    obtain ⟨a0, a1, a2, a3, a4, e, _⟩ := fit_isbii hf
    rw [e] at heq
    simp only [getD_nat h, e]
    exact heq))
abbrev csfit_iMisbiiE : List CT := [.i .i64, .sl true [.i .i64, .s, .b, .i .i64, .i .i64]]
theorem fit_iMisbiiE {t : T} (h : fitE true csfit_iMisbiiE t) : ∃ (a0 : Int) (a1 : List T), t = .st [.i .i64 a0, .sl a1] ∧ (Lit.int .i64 a0).wf = true ∧ fitC (.sl true [.i .i64, .s, .b, .i .i64, .i .i64]) (.sl a1) := by
  obtain ⟨l, rfl, h⟩ := fitE_st h
  obtain ⟨x0, l0, rfl, h0, h⟩ := fitCs_cons h
  obtain ⟨x1, l1, rfl, h1, h⟩ := fitCs_cons h
  obtain rfl := fitCs_nil h
  obtain ⟨a0, rfl, q0⟩ := fitC_i h0
  obtain ⟨a1, rfl, q1⟩ := fitC_sl h1
  exact ⟨a0, a1, rfl, q0, q1⟩
theorem eq61 (hlf : 33554432 ≤ lf) {d : Nat} (hd : 3 ≤ d) : EQ1 (Cc lf d) 61 (fitE true csfit_iMisbiiE) := by
  refine EQ1.le (Cc_le hd) ?_
  intro t ht hs
  obtain ⟨a0, a1, rfl, q0, q1⟩ := fit_iMisbiiE ht
  simp only [tl, tls] at hs
  have hcall : Cc lf 3 61 [T.st [T.i .i64 a0, T.sl a1], T.st [T.i .i64 a0, T.sl a1]] = f61_t (Cc lf 2) lf a0 a1 a0 a1 := f61_eq (Cc lf 2) lf a0 a1 a0 a1
  rw [hcall]
  unfold f61_t
  have e1 := eq114 hlf (d := 2) (by omega) (T.sl a1) q1 (by simp only [tl, tls]; omega)
  simp only [e1, Option.bind_some, nth0, asB_b, Bool.not_true, cond_false, ne_f, beq_self_eq_true]
abbrev csfit_ii : List CT := [.i .i64, .i .i64]
theorem fit_ii {t : T} (h : fitE true csfit_ii t) : ∃ (a0 : Int) (a1 : Int), t = .st [.i .i64 a0, .i .i64 a1] ∧ (Lit.int .i64 a0).wf = true ∧ (Lit.int .i64 a1).wf = true := by
  obtain ⟨l, rfl, h⟩ := fitE_st h
  obtain ⟨x0, l0, rfl, h0, h⟩ := fitCs_cons h
  obtain ⟨x1, l1, rfl, h1, h⟩ := fitCs_cons h
  obtain rfl := fitCs_nil h
  obtain ⟨a0, rfl, q0⟩ := fitC_i h0
  obtain ⟨a1, rfl, q1⟩ := fitC_i h1
  exact ⟨a0, a1, rfl, q0, q1⟩
theorem eq214 (hlf : 33554432 ≤ lf) {d : Nat} (hd : 1 ≤ d) : EQ1 (Cc lf d) 214 (fitE true csfit_ii) := by
  refine EQ1.le (Cc_le hd) ?_
  intro t ht hs
  obtain ⟨a0, a1, rfl, q0, q1⟩ := fit_ii ht
  simp only [tl, tls] at hs
  have hcall : Cc lf 1 214 [T.st [T.i .i64 a0, T.i .i64 a1], T.st [T.i .i64 a0, T.i .i64 a1]] = f214_t (Cc lf 0) lf a0 a1 a0 a1 := f214_eq (Cc lf 0) lf a0 a1 a0 a1
  rw [hcall]
  unfold f214_t
  simp only [Option.bind_some, nth0, asB_b, Bool.not_true, cond_false, ne_f, beq_self_eq_true]
theorem eq171 (hlf : 33554432 ≤ lf) {d : Nat} (hd : 2 ≤ d) : EQ1 (Cc lf d) 171 (fitC (.sl true [.i .i64, .i .i64])) := by
  exact EQ1.le (Cc_le hd) (eq_slice1 (c' := Cc lf 2) hlf (F := fun l l' n i => f171_0 (Cc lf 1) lf l l' n i) (G := fun l l' i => Cc lf 1 214 [T.st [T.i .i64 (asI (T.cell (l.getD i.toNat T.u) 0)), T.i .i64 (asI (T.cell (l.getD i.toNat T.u) 1))], T.st [T.i .i64 (asI (T.cell (l'.getD i.toNat T.u) 0)), T.i .i64 (asI (T.cell (l'.getD i.toNat T.u) 1))]]) (fun l l' => f171_eq (Cc lf 1) lf l l') (fun l l' n i => rfl) (fun l j h hf hs => by
    have heq := eq214 hlf (d := 1) (by omega) _ hf hs
    obtain ⟨a0, a1, e, _⟩ := fit_ii hf
    rw [e] at heq
    simp only [getD_nat h, e]
    exact heq))
abbrev csfit_iMiiE : List CT := [.i .i64, .sl true [.i .i64, .i .i64]]
theorem fit_iMiiE {t : T} (h : fitE true csfit_iMiiE t) : ∃ (a0 : Int) (a1 : List T), t = .st [.i .i64 a0, .sl a1] ∧ (Lit.int .i64 a0).wf = true ∧ fitC (.sl true [.i .i64, .i .i64]) (.sl a1) := by
  obtain ⟨l, rfl, h⟩ := fitE_st h
  obtain ⟨x0, l0, rfl, h0, h⟩ := fitCs_cons h
  obtain ⟨x1, l1, rfl, h1, h⟩ := fitCs_cons h
  obtain rfl := fitCs_nil h
  obtain ⟨a0, rfl, q0⟩ := fitC_i h0
  obtain ⟨a1, rfl, q1⟩ := fitC_sl h1
  exact ⟨a0, a1, rfl, q0, q1⟩
theorem eq115 (hlf : 33554432 ≤ lf) {d : Nat} (hd : 3 ≤ d) : EQ1 (Cc lf d) 115 (fitE true csfit_iMiiE) := by
  refine EQ1.le (Cc_le hd) ?_
  intro t ht hs
  obtain ⟨a0, a1, rfl, q0, q1⟩ := fit_iMiiE ht
  simp only [tl, tls] at hs
  have hcall : Cc lf 3 115 [T.st [T.i .i64 a0, T.sl a1], T.st [T.i .i64 a0, T.sl a1]] = f115_t (Cc lf 2) lf a0 a1 a0 a1 := f115_eq (Cc lf 2) lf a0 a1 a0 a1
  rw [hcall]
  unfold f115_t
  have e1 := eq171 hlf (d := 2) (by omega) (T.sl a1) q1 (by simp only [tl, tls]; omega)
  simp only [e1, Option.bind_some, nth0, asB_b, Bool.not_true, cond_false, ne_f, beq_self_eq_true]
theorem eq62 (hlf : 33554432 ≤ lf) {d : Nat} (hd : 4 ≤ d) : EQ1 (Cc lf d) 62 (fitC (.sl true [.i .i64, .sl true [.i .i64, .i .i64]])) := by
  exact EQ1.le (Cc_le hd) (eq_slice1 (c' := Cc lf 4) hlf (F := fun l l' n i => f62_0 (Cc lf 3) lf l l' n i) (G := fun l l' i => Cc lf 3 115 [T.st [T.i .i64 (asI (T.cell (l.getD i.toNat T.u) 0)), T.sl (asL (T.cell (l.getD i.toNat T.u) 1))], T.st [T.i .i64 (asI (T.cell (l'.getD i.toNat T.u) 0)), T.sl (asL (T.cell (l'.getD i.toNat T.u) 1))]]) (fun l l' => f62_eq (Cc lf 3) lf l l') (fun l l' n i => rfl) (fun l j h hf hs => by
    have heq := eq115 hlf (d := 3) (by omega) _ hf hs
    obtain ⟨a0, a1, e, _⟩ := fit_iMiiE hf
    rw [e] at heq
    simp only [getD_nat h, e]
    exact heq))
abbrev csfit_MisbiMiiiScMsiEMssEEiEiiMisbiiEMiMiiEEii : List CT := [.sl true [.i .i64, .s, .b, .i .i64, .sl true [.i .i64, .i .i64, .i .i64, .sl false [.i .u8], .sl true [.s, .i .i64], .sl true [.s, .s]], .i .i64], .i .i64, .i .i64, .sl true [.i .i64, .s, .b, .i .i64, .i .i64], .sl true [.i .i64, .sl true [.i .i64, .i .i64]], .i .i64, .i .i64]
theorem fit_MisbiMiiiScMsiEMssEEiEiiMisbiiEMiMiiEEii {t : T} (h : fitE true csfit_MisbiMiiiScMsiEMssEEiEiiMisbiiEMiMiiEEii t) : ∃ (a0 : List T) (a1 : Int) (a2 : Int) (a3 : List T) (a4 : List T) (a5 : Int) (a6 : Int), t = .st [.sl a0, .i .i64 a1, .i .i64 a2, .sl a3, .sl a4, .i .i64 a5, .i .i64 a6] ∧ fitC (.sl true [.i .i64, .s, .b, .i .i64, .sl true [.i .i64, .i .i64, .i .i64, .sl false [.i .u8], .sl true [.s, .i .i64], .sl true [.s, .s]], .i .i64]) (.sl a0) ∧ (Lit.int .i64 a1).wf = true ∧ (Lit.int .i64 a2).wf = true ∧ fitC (.sl true [.i .i64, .s, .b, .i .i64, .i .i64]) (.sl a3) ∧ fitC (.sl true [.i .i64, .sl true [.i .i64, .i .i64]]) (.sl a4) ∧ (Lit.int .i64 a5).wf = true ∧ (Lit.int .i64 a6).wf = true := by
  obtain ⟨l, rfl, h⟩ := fitE_st h
  obtain ⟨x0, l0, rfl, h0, h⟩ := fitCs_cons h
  obtain ⟨x1, l1, rfl, h1, h⟩ := fitCs_cons h
  obtain ⟨x2, l2, rfl, h2, h⟩ := fitCs_cons h
  obtain ⟨x3, l3, rfl, h3, h⟩ := fitCs_cons h
  obtain ⟨x4, l4, rfl, h4, h⟩ := fitCs_cons h
  obtain ⟨x5, l5, rfl, h5, h⟩ := fitCs_cons h
  obtain ⟨x6, l6, rfl, h6, h⟩ := fitCs_cons h
  obtain rfl := fitCs_nil h
  obtain ⟨a0, rfl, q0⟩ := fitC_sl h0
  obtain ⟨a1, rfl, q1⟩ := fitC_i h1
  obtain ⟨a2, rfl, q2⟩ := fitC_i h2
  obtain ⟨a3, rfl, q3⟩ := fitC_sl h3
  obtain ⟨a4, rfl, q4⟩ := fitC_sl h4
  obtain ⟨a5, rfl, q5⟩ := fitC_i h5
  obtain ⟨a6, rfl, q6⟩ := fitC_i h6
  exact ⟨a0, a1, a2, a3, a4, a5, a6, rfl, q0, q1, q2, q3, q4, q5, q6⟩
theorem eq15 (hlf : 33554432 ≤ lf) {d : Nat} (hd : 9 ≤ d) : EQ1 (Cc lf d) 15 (fitE true csfit_MisbiMiiiScMsiEMssEEiEiiMisbiiEMiMiiEEii) := by
  refine EQ1.le (Cc_le hd) ?_
  intro t ht hs
  obtain ⟨a0, a1, a2, a3, a4, a5, a6, rfl, q0, q1, q2, q3, q4, q5, q6⟩ := fit_MisbiMiiiScMsiEMssEEiEiiMisbiiEMiMiiEEii ht
  simp only [tl, tls] at hs
  have hcall : Cc lf 9 15 [T.st [T.sl a0, T.i .i64 a1, T.i .i64 a2, T.sl a3, T.sl a4, T.i .i64 a5, T.i .i64 a6], T.st [T.sl a0, T.i .i64 a1, T.i .i64 a2, T.sl a3, T.sl a4, T.i .i64 a5, T.i .i64 a6]] = f15_t (Cc lf 8) lf a0 a1 a2 a3 a4 a5 a6 a0 a1 a2 a3 a4 a5 a6 := f15_eq (Cc lf 8) lf a0 a1 a2 a3 a4 a5 a6 a0 a1 a2 a3 a4 a5 a6
  rw [hcall]
  unfold f15_t
  have e1 := eq60 hlf (d := 8) (by omega) (T.st [T.sl a0, T.i .i64 a1]) (show fitE true csfit_MisbiMiiiScMsiEMssEEiEi (T.st [T.sl a0, T.i .i64 a1]) from ⟨q0, ⟨rfl, q1⟩, trivial⟩) (by simp only [tl, tls]; omega)
  have e2 := eq61 hlf (d := 8) (by omega) (T.st [T.i .i64 a2, T.sl a3]) (show fitE true csfit_iMisbiiE (T.st [T.i .i64 a2, T.sl a3]) from ⟨⟨rfl, q2⟩, q3, trivial⟩) (by simp only [tl, tls]; omega)
  have e3 := eq62 hlf (d := 8) (by omega) (T.sl a4) q4 (by simp only [tl, tls]; omega)
  simp only [e1, e2, e3, Option.bind_some, nth0, asB_b, Bool.not_true, cond_false, ne_f, beq_self_eq_true]
theorem tx172 (hlf : 33554432 ≤ lf) {d : Nat} (hd : 1 ≤ d) : TX1 (Cc lf d) 172 :=
  TX1.le (Cc_le hd) (tx_mk (c' := Cc lf 1) hlf (F := fun n k s => f172_0 (Cc lf 0) lf n k s) (fun k => f172_eq (Cc lf 0) lf k) (fun n k s => rfl))
theorem mh49 (hlf : 33554432 ≤ lf) {d : Nat} (hd : 1 ≤ d) : MH1 (Cc lf d) 49 83 false [.i .u8] := by
  refine MH1.le (Cc_le hd) (mh_slice1 (c' := Cc lf 1) hlf (M := fun n k i l => f49_0 (Cc lf 0) lf n k i l) (H := fun l n k i => f83_0 (Cc lf 0) lf l n k i) (fun l k => f49_eq (Cc lf 0) lf l k) (fun l k => f83_eq (Cc lf 0) lf l k) (fun n k l => ?_) (fun l n k => ?_) ?_)
  · show f49_0_s (Cc lf 0) lf _ _ _ _ = _
    unfold f49_0_s
    rw [iLt_f (by omega), cond_false]
  · show f83_0_s (Cc lf 0) lf _ _ _ _ = _
    unfold f83_0_s
    rw [iLt_f (by omega), cond_false]
  · intro e0 j len hf ht hj hlen k h0 h1
    clear hf

    refine ⟨(k + 1), T.i .u8 (IntKind.wrap .u8 k), by omega, by omega, fun n l hl he => ?_, fun n l hl he => ?_⟩
    all_goals subst hl
    all_goals have g := getD_at he
    all_goals have hb : (j : Int) < (l.length : Int) := by omega
    all_goals have hr := inR_nat hj
    · show f49_0_s (Cc lf 0) lf _ _ _ _ = _
      unfold f49_0_s
      simp (disch := omega) only [iLt_t hb, hr, cond_true, cond_false, Option.bind_some, nth0, nthS, asI_i, asB_b, asS_s, asL_l, Int.toNat_natCast, List.length_set, List.set_set, getD_set hj, T.setc, cell0, cellS, List.set_cons_zero, List.set_cons_succ, ne_f, beq_self_eq_true, Bool.not_true, Bool.not_false, Int.add_assoc, Int.reduceAdd, bne_self_eq_false, g, wrap_next hj, wrapK]
      first | done | rfl
    · show f83_0_s (Cc lf 0) lf _ _ _ _ = _
      unfold f83_0_s
      simp (disch := omega) only [iLt_t hb, hr, cond_true, cond_false, Option.bind_some, nth0, nthS, asI_i, asB_b, asS_s, asL_l, Int.toNat_natCast, List.length_set, List.set_set, getD_set hj, T.setc, cell0, cellS, List.set_cons_zero, List.set_cons_succ, ne_f, beq_self_eq_true, Bool.not_true, Bool.not_false, Int.add_assoc, Int.reduceAdd, bne_self_eq_false, g, wrap_next hj, wrapK]
      first | done | rfl
theorem mk49 (hlf : 33554432 ≤ lf) {d : Nat} (hd : 1 ≤ d) : MK1 (Cc lf d) 49 false [.i .u8] := fun l hl hs k h0 h1 => by
  obtain ⟨k', l', g1, _, g3⟩ := mh49 hlf hd l hl hs k h0 h1
  exact ⟨k', l', g1, g3⟩
theorem mh215 (hlf : 33554432 ≤ lf) {d : Nat} (hd : 2 ≤ d) : MH1 (Cc lf d) 215 217 true [.s, .i .i64] := by
  refine MH1.le (Cc_le hd) (mh_slice1 (c' := Cc lf 2) hlf (M := fun n k i l => f215_0 (Cc lf 1) lf n k i l) (H := fun l n k i => f217_0 (Cc lf 1) lf l n k i) (fun l k => f215_eq (Cc lf 1) lf l k) (fun l k => f217_eq (Cc lf 1) lf l k) (fun n k l => ?_) (fun l n k => ?_) ?_)
  · show f215_0_s (Cc lf 1) lf _ _ _ _ = _
    unfold f215_0_s
    rw [iLt_f (by omega), cond_false]
  · show f217_0_s (Cc lf 1) lf _ _ _ _ = _
    unfold f217_0_s
    rw [iLt_f (by omega), cond_false]
  · intro e0 j len hf ht hj hlen k h0 h1
    obtain ⟨a0, a1, rfl, q0, q1⟩ := fit_si hf
    obtain ⟨t1, m1⟩ := tx172 hlf (d := 1) (by omega) k (by omega) (by simp only [tl, tls] at ht; omega)
    refine ⟨(k + 2), T.st [T.s t1, T.i .i64 (k + 1)], by omega, by simp only [tl, tls]; omega, fun n l hl he => ?_, fun n l hl he => ?_⟩
    all_goals subst hl
    all_goals have g := getD_at he
    all_goals have hb : (j : Int) < (l.length : Int) := by omega
    all_goals have hr := inR_nat hj
    · show f215_0_s (Cc lf 1) lf _ _ _ _ = _
      unfold f215_0_s
      simp (disch := (simp only [tl, tls] at ht; omega)) only [iLt_t hb, hr, cond_true, cond_false, Option.bind_some, nth0, nthS, asI_i, asB_b, asS_s, asL_l, Int.toNat_natCast, List.length_set, List.set_set, getD_set hj, T.setc, cell0, cellS, List.set_cons_zero, List.set_cons_succ, ne_f, beq_self_eq_true, Bool.not_true, Bool.not_false, Int.add_assoc, Int.reduceAdd, bne_self_eq_false, m1, g, wrap_next hj, wrapK]
      first | done | rfl
    · show f217_0_s (Cc lf 1) lf _ _ _ _ = _
      unfold f217_0_s
      simp (disch := (simp only [tl, tls] at ht; omega)) only [iLt_t hb, hr, cond_true, cond_false, Option.bind_some, nth0, nthS, asI_i, asB_b, asS_s, asL_l, Int.toNat_natCast, List.length_set, List.set_set, getD_set hj, T.setc, cell0, cellS, List.set_cons_zero, List.set_cons_succ, ne_f, beq_self_eq_true, Bool.not_true, Bool.not_false, Int.add_assoc, Int.reduceAdd, bne_self_eq_false, m1, g, wrap_next hj, wrapK]
      first | done | rfl
theorem mk215 (hlf : 33554432 ≤ lf) {d : Nat} (hd : 2 ≤ d) : MK1 (Cc lf d) 215 true [.s, .i .i64] := fun l hl hs k h0 h1 => by
  obtain ⟨k', l', g1, _, g3⟩ := mh215 hlf hd l hl hs k h0 h1
  exact ⟨k', l', g1, g3⟩
theorem mh216 (hlf : 33554432 ≤ lf) {d : Nat} (hd : 2 ≤ d) : MH1 (Cc lf d) 216 218 true [.s, .s] := by
  refine MH1.le (Cc_le hd) (mh_slice1 (c' := Cc lf 2) hlf (M := fun n k i l => f216_0 (Cc lf 1) lf n k i l) (H := fun l n k i => f218_0 (Cc lf 1) lf l n k i) (fun l k => f216_eq (Cc lf 1) lf l k) (fun l k => f218_eq (Cc lf 1) lf l k) (fun n k l => ?_) (fun l n k => ?_) ?_)
  · show f216_0_s (Cc lf 1) lf _ _ _ _ = _
    unfold f216_0_s
    rw [iLt_f (by omega), cond_false]
  · show f218_0_s (Cc lf 1) lf _ _ _ _ = _
    unfold f218_0_s
    rw [iLt_f (by omega), cond_false]
  · intro e0 j len hf ht hj hlen k h0 h1
    obtain ⟨a0, a1, rfl, q0, q1⟩ := fit_ss hf
    obtain ⟨t1, m1⟩ := tx172 hlf (d := 1) (by omega) k (by omega) (by simp only [tl, tls] at ht; omega)
    obtain ⟨t2, m2⟩ := tx172 hlf (d := 1) (by omega) (k + 1) (by omega) (by simp only [tl, tls] at ht; omega)
    refine ⟨(k + 2), T.st [T.s t1, T.s t2], by omega, by simp only [tl, tls]; omega, fun n l hl he => ?_, fun n l hl he => ?_⟩
    all_goals subst hl
    all_goals have g := getD_at he
    all_goals have hb : (j : Int) < (l.length : Int) := by omega
    all_goals have hr := inR_nat hj
    · show f216_0_s (Cc lf 1) lf _ _ _ _ = _
      unfold f216_0_s
      simp (disch := (simp only [tl, tls] at ht; omega)) only [iLt_t hb, hr, cond_true, cond_false, Option.bind_some, nth0, nthS, asI_i, asB_b, asS_s, asL_l, Int.toNat_natCast, List.length_set, List.set_set, getD_set hj, T.setc, cell0, cellS, List.set_cons_zero, List.set_cons_succ, ne_f, beq_self_eq_true, Bool.not_true, Bool.not_false, Int.add_assoc, Int.reduceAdd, bne_self_eq_false, m1, m2, g, wrap_next hj, wrapK]
      first | done | rfl
    · show f218_0_s (Cc lf 1) lf _ _ _ _ = _
      unfold f218_0_s
      simp (disch := (simp only [tl, tls] at ht; omega)) only [iLt_t hb, hr, cond_true, cond_false, Option.bind_some, nth0, nthS, asI_i, asB_b, asS_s, asL_l, Int.toNat_natCast, List.length_set, List.set_set, getD_set hj, T.setc, cell0, cellS, List.set_cons_zero, List.set_cons_succ, ne_f, beq_self_eq_true, Bool.not_true, Bool.not_false, Int.add_assoc, Int.reduceAdd, bne_self_eq_false, m1, m2, g, wrap_next hj, wrapK]
      first | done | rfl
theorem mk216 (hlf : 33554432 ≤ lf) {d : Nat} (hd : 2 ≤ d) : MK1 (Cc lf d) 216 true [.s, .s] := fun l hl hs k h0 h1 => by
  obtain ⟨k', l', g1, _, g3⟩ := mh216 hlf hd l hl hs k h0 h1
  exact ⟨k', l', g1, g3⟩
theorem mh173 (hlf : 33554432 ≤ lf) {d : Nat} (hd : 3 ≤ d) : MH1 (Cc lf d) 173 174 true [.i .i64, .i .i64, .i .i64, .sl false [.i .u8], .sl true [.s, .i .i64], .sl true [.s, .s]] := by
  refine MH1.le (Cc_le hd) (mh_slice1 (c' := Cc lf 3) hlf (M := fun n k i l => f173_0 (Cc lf 2) lf n k i l) (H := fun l n k i => f174_0 (Cc lf 2) lf l n k i) (fun l k => f173_eq (Cc lf 2) lf l k) (fun l k => f174_eq (Cc lf 2) lf l k) (fun n k l => ?_) (fun l n k => ?_) ?_)
  · show f173_0_s (Cc lf 2) lf _ _ _ _ = _
    unfold f173_0_s
    rw [iLt_f (by omega), cond_false]
  · show f174_0_s (Cc lf 2) lf _ _ _ _ = _
    unfold f174_0_s
    rw [iLt_f (by omega), cond_false]
  · intro e0 j len hf ht hj hlen k h0 h1
    obtain ⟨a0, a1, a2, a3, a4, a5, rfl, q0, q1, q2, q3, q4, q5⟩ := fit_iiiScMsiEMssE hf
    obtain ⟨k1, b1, m1, o1, u1, v1⟩ := mh49 hlf (d := 2) (by omega) a3 q3 (by simp only [tl, tls] at ht ⊢; omega) (k + 3) (by omega) (by simp only [tl, tls] at h1 ⊢; omega)
    simp only [tl] at v1
    obtain ⟨k2, b2, m2, o2, u2, v2⟩ := mh215 hlf (d := 2) (by omega) a4 q4 (by simp only [tl, tls] at ht ⊢; omega) k1 (by omega) (by simp only [tl, tls] at h1 ⊢; omega)
    simp only [tl] at v2
    obtain ⟨k3, b3, m3, o3, u3, v3⟩ := mh216 hlf (d := 2) (by omega) a5 q5 (by simp only [tl, tls] at ht ⊢; omega) k2 (by omega) (by simp only [tl, tls] at h1 ⊢; omega)
    simp only [tl] at v3
    refine ⟨k3, T.st [T.i .i64 k, T.i .i64 (k + 1), T.i .i64 (k + 2), T.sl b1, T.sl b2, T.sl b3], by omega, by simp only [tl, tls]; omega, fun n l hl he => ?_, fun n l hl he => ?_⟩
    all_goals subst hl
    all_goals have g := getD_at he
    all_goals have hb : (j : Int) < (l.length : Int) := by omega
    all_goals have hr := inR_nat hj
    · show f173_0_s (Cc lf 2) lf _ _ _ _ = _
      unfold f173_0_s
      simp (disch := (simp only [tl, tls] at ht; omega)) only [iLt_t hb, hr, cond_true, cond_false, Option.bind_some, nth0, nthS, asI_i, asB_b, asS_s, asL_l, Int.toNat_natCast, List.length_set, List.set_set, getD_set hj, T.setc, cell0, cellS, List.set_cons_zero, List.set_cons_succ, ne_f, beq_self_eq_true, Bool.not_true, Bool.not_false, Int.add_assoc, Int.reduceAdd, bne_self_eq_false, m1, m2, m3, g, wrap_next hj, wrapK]
      first | done | rfl
    · show f174_0_s (Cc lf 2) lf _ _ _ _ = _
      unfold f174_0_s
      simp (disch := (simp only [tl, tls] at ht; omega)) only [iLt_t hb, hr, cond_true, cond_false, Option.bind_some, nth0, nthS, asI_i, asB_b, asS_s, asL_l, Int.toNat_natCast, List.length_set, List.set_set, getD_set hj, T.setc, cell0, cellS, List.set_cons_zero, List.set_cons_succ, ne_f, beq_self_eq_true, Bool.not_true, Bool.not_false, Int.add_assoc, Int.reduceAdd, bne_self_eq_false, o1, o2, o3, iLt_f (show ¬ (k1 < 0) by omega), iLt_f (show ¬ (k2 < 0) by omega), iLt_f (show ¬ (k3 < 0) by omega), g, wrap_next hj, wrapK]
      first | done | rfl
theorem mk173 (hlf : 33554432 ≤ lf) {d : Nat} (hd : 3 ≤ d) : MK1 (Cc lf d) 173 true [.i .i64, .i .i64, .i .i64, .sl false [.i .u8], .sl true [.s, .i .i64], .sl true [.s, .s]] := fun l hl hs k h0 h1 => by
  obtain ⟨k', l', g1, _, g3⟩ := mh173 hlf hd l hl hs k h0 h1
  exact ⟨k', l', g1, g3⟩
theorem mh116 (hlf : 33554432 ≤ lf) {d : Nat} (hd : 4 ≤ d) : MH1 (Cc lf d) 116 119 true [.i .i64, .s, .b, .i .i64, .sl true [.i .i64, .i .i64, .i .i64, .sl false [.i .u8], .sl true [.s, .i .i64], .sl true [.s, .s]], .i .i64] := by
  refine MH1.le (Cc_le hd) (mh_slice1 (c' := Cc lf 4) hlf (M := fun n k i l => f116_0 (Cc lf 3) lf n k i l) (H := fun l n k i => f119_0 (Cc lf 3) lf l n k i) (fun l k => f116_eq (Cc lf 3) lf l k) (fun l k => f119_eq (Cc lf 3) lf l k) (fun n k l => ?_) (fun l n k => ?_) ?_)
  · show f116_0_s (Cc lf 3) lf _ _ _ _ = _
    unfold f116_0_s
    rw [iLt_f (by omega), cond_false]
  · show f119_0_s (Cc lf 3) lf _ _ _ _ = _
    unfold f119_0_s
    rw [iLt_f (by omega), cond_false]
  · intro e0 j len hf ht hj hlen k h0 h1
    obtain ⟨a0, a1, a2, a3, a4, a5, rfl, q0, q1, q3, q4, q5⟩ := fit_isbiMiiiScMsiEMssEEi hf
    obtain ⟨t1, m1⟩ := tx172 hlf (d := 3) (by omega) (k + 1) (by omega) (by simp only [tl, tls] at ht; omega)
    obtain ⟨k2, b2, m2, o2, u2, v2⟩ := mh173 hlf (d := 3) (by omega) a4 q4 (by simp only [tl, tls] at ht ⊢; omega) (k + 4) (by omega) (by simp only [tl, tls] at h1 ⊢; omega)
    simp only [tl] at v2
    refine ⟨(k2 + 1), T.st [T.i .i64 k, T.s t1, T.b (((k + 2).tmod 3) == 0), T.i .i64 (k + 3), T.sl b2, T.i .i64 k2], by omega, by simp only [tl, tls]; omega, fun n l hl he => ?_, fun n l hl he => ?_⟩
    all_goals subst hl
    all_goals have g := getD_at he
    all_goals have hb : (j : Int) < (l.length : Int) := by omega
    all_goals have hr := inR_nat hj
    · show f116_0_s (Cc lf 3) lf _ _ _ _ = _
      unfold f116_0_s
      simp (disch := (simp only [tl, tls] at ht; omega)) only [iLt_t hb, hr, cond_true, cond_false, Option.bind_some, nth0, nthS, asI_i, asB_b, asS_s, asL_l, Int.toNat_natCast, List.length_set, List.set_set, getD_set hj, T.setc, cell0, cellS, List.set_cons_zero, List.set_cons_succ, ne_f, beq_self_eq_true, Bool.not_true, Bool.not_false, Int.add_assoc, Int.reduceAdd, bne_self_eq_false, m1, m2, g, wrap_next hj, wrapK]
      first | done | rfl
    · show f119_0_s (Cc lf 3) lf _ _ _ _ = _
      unfold f119_0_s
      simp (disch := (simp only [tl, tls] at ht; omega)) only [iLt_t hb, hr, cond_true, cond_false, Option.bind_some, nth0, nthS, asI_i, asB_b, asS_s, asL_l, Int.toNat_natCast, List.length_set, List.set_set, getD_set hj, T.setc, cell0, cellS, List.set_cons_zero, List.set_cons_succ, ne_f, beq_self_eq_true, Bool.not_true, Bool.not_false, Int.add_assoc, Int.reduceAdd, bne_self_eq_false, m1, o2, iLt_f (show ¬ (k2 < 0) by omega), g, wrap_next hj, wrapK]
      first | done | rfl
theorem mk116 (hlf : 33554432 ≤ lf) {d : Nat} (hd : 4 ≤ d) : MK1 (Cc lf d) 116 true [.i .i64, .s, .b, .i .i64, .sl true [.i .i64, .i .i64, .i .i64, .sl false [.i .u8], .sl true [.s, .i .i64], .sl true [.s, .s]], .i .i64] := fun l hl hs k h0 h1 => by
  obtain ⟨k', l', g1, _, g3⟩ := mh116 hlf hd l hl hs k h0 h1
  exact ⟨k', l', g1, g3⟩
theorem ms63 (hlf : 33554432 ≤ lf) {d : Nat} (hd : 5 ≤ d) {t : T} (hf : fitE true csfit_MisbiMiiiScMsiEMssEEiEi t) (ht : tl t ≤ 16777216) (k : Int) (h0 : 0 ≤ k) (hk : k + 64 * (tl t : Int) ≤ 1152921504606846976) : ∃ (k' : Int) (b0 : List T), Cc lf d 63 [t, .i .i64 k] = some [.i .i64 k', .sl b0] ∧ Cc lf d 66 [T.st [T.sl b0, (T.cell t 1)], .i .i64 k] = some [.i .i64 k'] ∧ k ≤ k' ∧ k' ≤ k + 64 * (tl t : Int) := by
  obtain ⟨a0, a1, rfl, q0, q1⟩ := fit_MisbiMiiiScMsiEMssEEiEi hf
  obtain ⟨k1, b0, m1, o1, u1, v1⟩ := mh116 hlf (d := 4) (by omega) a0 q0 (by simp only [tl, tls] at ht ⊢; omega) k (by omega) (by simp only [tl, tls] at hk ⊢; omega)
  simp only [tl] at v1
  refine ⟨k1, b0, Cc_le hd _ _ _ ?_, Cc_le hd _ _ _ ?_, by omega, by simp only [tl, tls]; omega⟩
  · refine (f63_eq (Cc lf 4) lf a0 a1 k).trans ?_
    unfold f63 f63_t
    simp only [m1, Option.bind_some, nth0, nthS, asI_i, asL_l, asB_b, asS_s, cell0, cellS, cond_false, cond_true]
  · simp only [T.cell, List.getD_cons_zero, List.getD_cons_succ]
    refine (f66_eq (Cc lf 4) lf b0 a1 k).trans ?_
    unfold f66 f66_t
    simp only [o1, iLt_f (show ¬ (k1 < 0) by omega), Option.bind_some, nth0, nthS, asI_i, asL_l, asB_b, asS_s, cell0, cellS, cond_false, cond_true]
theorem mo63 (hlf : 33554432 ≤ lf) {d : Nat} (hd : 5 ≤ d) {t : T} (hf : fitE true csfit_MisbiMiiiScMsiEMssEEiEi t) (ht : tl t ≤ 16777216) (k : Int) (h0 : 0 ≤ k) (hk : k + 64 * (tl t : Int) ≤ 1152921504606846976) : ∃ (k' : Int) (b0 : List T), Cc lf d 63 [t, .i .i64 k] = some [.i .i64 k', .sl b0] ∧ k ≤ k' ∧ k' ≤ k + 64 * (tl t : Int) := by
  obtain ⟨k, b0, g1, _, g3⟩ := ms63 hlf hd hf ht k h0 hk
  exact ⟨k, b0, g1, g3⟩
theorem mh117 (hlf : 33554432 ≤ lf) {d : Nat} (hd : 2 ≤ d) : MH1 (Cc lf d) 117 120 true [.i .i64, .s, .b, .i .i64, .i .i64] := by
  refine MH1.le (Cc_le hd) (mh_slice1 (c' := Cc lf 2) hlf (M := fun n k i l => f117_0 (Cc lf 1) lf n k i l) (H := fun l n k i => f120_0 (Cc lf 1) lf l n k i) (fun l k => f117_eq (Cc lf 1) lf l k) (fun l k => f120_eq (Cc lf 1) lf l k) (fun n k l => ?_) (fun l n k => ?_) ?_)
  · show f117_0_s (Cc lf 1) lf _ _ _ _ = _
    unfold f117_0_s
    rw [iLt_f (by omega), cond_false]
  · show f120_0_s (Cc lf 1) lf _ _ _ _ = _
    unfold f120_0_s
    rw [iLt_f (by omega), cond_false]
  · intro e0 j len hf ht hj hlen k h0 h1
    obtain ⟨a0, a1, a2, a3, a4, rfl, q0, q1, q3, q4⟩ := fit_isbii hf
    obtain ⟨t1, m1⟩ := tx172 hlf (d := 1) (by omega) (k + 1) (by omega) (by simp only [tl, tls] at ht; omega)
    refine ⟨(k + 5), T.st [T.i .i64 k, T.s t1, T.b (((k + 2).tmod 3) == 0), T.i .i64 (k + 3), T.i .i64 (k + 4)], by omega, by simp only [tl, tls]; omega, fun n l hl he => ?_, fun n l hl he => ?_⟩
    all_goals subst hl
    all_goals have g := getD_at he
    all_goals have hb : (j : Int) < (l.length : Int) := by omega
    all_goals have hr := inR_nat hj
    · show f117_0_s (Cc lf 1) lf _ _ _ _ = _
      unfold f117_0_s
      simp (disch := (simp only [tl, tls] at ht; omega)) only [iLt_t hb, hr, cond_true, cond_false, Option.bind_some, nth0, nthS, asI_i, asB_b, asS_s, asL_l, Int.toNat_natCast, List.length_set, List.set_set, getD_set hj, T.setc, cell0, cellS, List.set_cons_zero, List.set_cons_succ, ne_f, beq_self_eq_true, Bool.not_true, Bool.not_false, Int.add_assoc, Int.reduceAdd, bne_self_eq_false, m1, g, wrap_next hj, wrapK]
      first | done | rfl
    · show f120_0_s (Cc lf 1) lf _ _ _ _ = _
      unfold f120_0_s
      simp (disch := (simp only [tl, tls] at ht; omega)) only [iLt_t hb, hr, cond_true, cond_false, Option.bind_some, nth0, nthS, asI_i, asB_b, asS_s, asL_l, Int.toNat_natCast, List.length_set, List.set_set, getD_set hj, T.setc, cell0, cellS, List.set_cons_zero, List.set_cons_succ, ne_f, beq_self_eq_true, Bool.not_true, Bool.not_false, Int.add_assoc, Int.reduceAdd, bne_self_eq_false, m1, g, wrap_next hj, wrapK]
      first | done | rfl
theorem mk117 (hlf : 33554432 ≤ lf) {d : Nat} (hd : 2 ≤ d) : MK1 (Cc lf d) 117 true [.i .i64, .s, .b, .i .i64, .i .i64] := fun l hl hs k h0 h1 => by
  obtain ⟨k', l', g1, _, g3⟩ := mh117 hlf hd l hl hs k h0 h1
  exact ⟨k', l', g1, g3⟩
theorem ms64 (hlf : 33554432 ≤ lf) {d : Nat} (hd : 3 ≤ d) {t : T} (hf : fitE true csfit_iMisbiiE t) (ht : tl t ≤ 16777216) (k : Int) (h0 : 0 ≤ k) (hk : k + 64 * (tl t : Int) ≤ 1152921504606846976) : ∃ (k' : Int) (b1 : List T), Cc lf d 64 [t, .i .i64 k] = some [.i .i64 k', .sl b1] ∧ Cc lf d 67 [T.st [(T.cell t 0), T.sl b1], .i .i64 k] = some [.i .i64 k'] ∧ k ≤ k' ∧ k' ≤ k + 64 * (tl t : Int) := by
  obtain ⟨a0, a1, rfl, q0, q1⟩ := fit_iMisbiiE hf
  obtain ⟨k1, b1, m1, o1, u1, v1⟩ := mh117 hlf (d := 2) (by omega) a1 q1 (by simp only [tl, tls] at ht ⊢; omega) k (by omega) (by simp only [tl, tls] at hk ⊢; omega)
  simp only [tl] at v1
  refine ⟨k1, b1, Cc_le hd _ _ _ ?_, Cc_le hd _ _ _ ?_, by omega, by simp only [tl, tls]; omega⟩
  · refine (f64_eq (Cc lf 2) lf a0 a1 k).trans ?_
    unfold f64 f64_t
    simp only [m1, Option.bind_some, nth0, nthS, asI_i, asL_l, asB_b, asS_s, cell0, cellS, cond_false, cond_true]
  · simp only [T.cell, List.getD_cons_zero, List.getD_cons_succ]
    refine (f67_eq (Cc lf 2) lf a0 b1 k).trans ?_
    unfold f67 f67_t
    simp only [o1, iLt_f (show ¬ (k1 < 0) by omega), Option.bind_some, nth0, nthS, asI_i, asL_l, asB_b, asS_s, cell0, cellS, cond_false, cond_true]
theorem mo64 (hlf : 33554432 ≤ lf) {d : Nat} (hd : 3 ≤ d) {t : T} (hf : fitE true csfit_iMisbiiE t) (ht : tl t ≤ 16777216) (k : Int) (h0 : 0 ≤ k) (hk : k + 64 * (tl t : Int) ≤ 1152921504606846976) : ∃ (k' : Int) (b1 : List T), Cc lf d 64 [t, .i .i64 k] = some [.i .i64 k', .sl b1] ∧ k ≤ k' ∧ k' ≤ k + 64 * (tl t : Int) := by
  obtain ⟨k, b1, g1, _, g3⟩ := ms64 hlf hd hf ht k h0 hk
  exact ⟨k, b1, g1, g3⟩
theorem mh118 (hlf : 33554432 ≤ lf) {d : Nat} (hd : 1 ≤ d) : MH1 (Cc lf d) 118 121 true [.i .i64, .i .i64] := by
  refine MH1.le (Cc_le hd) (mh_slice1 (c' := Cc lf 1) hlf (M := fun n k i l => f118_0 (Cc lf 0) lf n k i l) (H := fun l n k i => f121_0 (Cc lf 0) lf l n k i) (fun l k => f118_eq (Cc lf 0) lf l k) (fun l k => f121_eq (Cc lf 0) lf l k) (fun n k l => ?_) (fun l n k => ?_) ?_)
  · show f118_0_s (Cc lf 0) lf _ _ _ _ = _
    unfold f118_0_s
    rw [iLt_f (by omega), cond_false]
  · show f121_0_s (Cc lf 0) lf _ _ _ _ = _
    unfold f121_0_s
    rw [iLt_f (by omega), cond_false]
  · intro e0 j len hf ht hj hlen k h0 h1
    obtain ⟨a0, a1, rfl, q0, q1⟩ := fit_ii hf

    refine ⟨(k + 2), T.st [T.i .i64 k, T.i .i64 (k + 1)], by omega, by simp only [tl, tls]; omega, fun n l hl he => ?_, fun n l hl he => ?_⟩
    all_goals subst hl
    all_goals have g := getD_at he
    all_goals have hb : (j : Int) < (l.length : Int) := by omega
    all_goals have hr := inR_nat hj
    · show f118_0_s (Cc lf 0) lf _ _ _ _ = _
      unfold f118_0_s
      simp (disch := (simp only [tl, tls] at ht; omega)) only [iLt_t hb, hr, cond_true, cond_false, Option.bind_some, nth0, nthS, asI_i, asB_b, asS_s, asL_l, Int.toNat_natCast, List.length_set, List.set_set, getD_set hj, T.setc, cell0, cellS, List.set_cons_zero, List.set_cons_succ, ne_f, beq_self_eq_true, Bool.not_true, Bool.not_false, Int.add_assoc, Int.reduceAdd, bne_self_eq_false, g, wrap_next hj, wrapK]
      first | done | rfl
    · show f121_0_s (Cc lf 0) lf _ _ _ _ = _
      unfold f121_0_s
      simp (disch := (simp only [tl, tls] at ht; omega)) only [iLt_t hb, hr, cond_true, cond_false, Option.bind_some, nth0, nthS, asI_i, asB_b, asS_s, asL_l, Int.toNat_natCast, List.length_set, List.set_set, getD_set hj, T.setc, cell0, cellS, List.set_cons_zero, List.set_cons_succ, ne_f, beq_self_eq_true, Bool.not_true, Bool.not_false, Int.add_assoc, Int.reduceAdd, bne_self_eq_false, g, wrap_next hj, wrapK]
      first | done | rfl
theorem mk118 (hlf : 33554432 ≤ lf) {d : Nat} (hd : 1 ≤ d) : MK1 (Cc lf d) 118 true [.i .i64, .i .i64] := fun l hl hs k h0 h1 => by
  obtain ⟨k', l', g1, _, g3⟩ := mh118 hlf hd l hl hs k h0 h1
  exact ⟨k', l', g1, g3⟩
theorem mh65 (hlf : 33554432 ≤ lf) {d : Nat} (hd : 2 ≤ d) : MH1 (Cc lf d) 65 68 true [.i .i64, .sl true [.i .i64, .i .i64]] := by
  refine MH1.le (Cc_le hd) (mh_slice1 (c' := Cc lf 2) hlf (M := fun n k i l => f65_0 (Cc lf 1) lf n k i l) (H := fun l n k i => f68_0 (Cc lf 1) lf l n k i) (fun l k => f65_eq (Cc lf 1) lf l k) (fun l k => f68_eq (Cc lf 1) lf l k) (fun n k l => ?_) (fun l n k => ?_) ?_)
  · show f65_0_s (Cc lf 1) lf _ _ _ _ = _
    unfold f65_0_s
    rw [iLt_f (by omega), cond_false]
  · show f68_0_s (Cc lf 1) lf _ _ _ _ = _
    unfold f68_0_s
    rw [iLt_f (by omega), cond_false]
  · intro e0 j len hf ht hj hlen k h0 h1
    obtain ⟨a0, a1, rfl, q0, q1⟩ := fit_iMiiE hf
    obtain ⟨k1, b1, m1, o1, u1, v1⟩ := mh118 hlf (d := 1) (by omega) a1 q1 (by simp only [tl, tls] at ht ⊢; omega) (k + 1) (by omega) (by simp only [tl, tls] at h1 ⊢; omega)
    simp only [tl] at v1
    refine ⟨k1, T.st [T.i .i64 k, T.sl b1], by omega, by simp only [tl, tls]; omega, fun n l hl he => ?_, fun n l hl he => ?_⟩
    all_goals subst hl
    all_goals have g := getD_at he
    all_goals have hb : (j : Int) < (l.length : Int) := by omega
    all_goals have hr := inR_nat hj
    · show f65_0_s (Cc lf 1) lf _ _ _ _ = _
      unfold f65_0_s
      simp (disch := (simp only [tl, tls] at ht; omega)) only [iLt_t hb, hr, cond_true, cond_false, Option.bind_some, nth0, nthS, asI_i, asB_b, asS_s, asL_l, Int.toNat_natCast, List.length_set, List.set_set, getD_set hj, T.setc, cell0, cellS, List.set_cons_zero, List.set_cons_succ, ne_f, beq_self_eq_true, Bool.not_true, Bool.not_false, Int.add_assoc, Int.reduceAdd, bne_self_eq_false, m1, g, wrap_next hj, wrapK]
      first | done | rfl
    · show f68_0_s (Cc lf 1) lf _ _ _ _ = _
      unfold f68_0_s
      simp (disch := (simp only [tl, tls] at ht; omega)) only [iLt_t hb, hr, cond_true, cond_false, Option.bind_some, nth0, nthS, asI_i, asB_b, asS_s, asL_l, Int.toNat_natCast, List.length_set, List.set_set, getD_set hj, T.setc, cell0, cellS, List.set_cons_zero, List.set_cons_succ, ne_f, beq_self_eq_true, Bool.not_true, Bool.not_false, Int.add_assoc, Int.reduceAdd, bne_self_eq_false, o1, iLt_f (show ¬ (k1 < 0) by omega), g, wrap_next hj, wrapK]
      first | done | rfl
theorem mk65 (hlf : 33554432 ≤ lf) {d : Nat} (hd : 2 ≤ d) : MK1 (Cc lf d) 65 true [.i .i64, .sl true [.i .i64, .i .i64]] := fun l hl hs k h0 h1 => by
  obtain ⟨k', l', g1, _, g3⟩ := mh65 hlf hd l hl hs k h0 h1
  exact ⟨k', l', g1, g3⟩
theorem ms16 (hlf : 33554432 ≤ lf) {d : Nat} (hd : 6 ≤ d) {t : T} (hf : fitE true csfit_MisbiMiiiScMsiEMssEEiEiiMisbiiEMiMiiEEii t) (ht : tl t ≤ 16777216) (k : Int) (h0 : 0 ≤ k) (hk : k + 64 * (tl t : Int) ≤ 1152921504606846976) : ∃ (k' : Int) (b0 : List T) (b3 : List T) (b4 : List T), Cc lf d 16 [t, .i .i64 k] = some [.i .i64 k', .sl b0, .sl b3, .sl b4] ∧ Cc lf d 17 [T.st [T.sl b0, (T.cell t 1), (T.cell t 2), T.sl b3, T.sl b4, (T.cell t 5), (T.cell t 6)], .i .i64 k] = some [.i .i64 k'] ∧ k ≤ k' ∧ k' ≤ k + 64 * (tl t : Int) := by
  obtain ⟨a0, a1, a2, a3, a4, a5, a6, rfl, q0, q1, q2, q3, q4, q5, q6⟩ := fit_MisbiMiiiScMsiEMssEEiEiiMisbiiEMiMiiEEii hf
  obtain ⟨k1, b0, m1, o1, u1, v1⟩ := ms63 hlf (d := 5) (by omega) (t := T.st [T.sl a0, T.i .i64 a1]) (show fitE true csfit_MisbiMiiiScMsiEMssEEiEi (T.st [T.sl a0, T.i .i64 a1]) from ⟨q0, ⟨rfl, q1⟩, trivial⟩) (by simp only [tl, tls] at ht ⊢; omega) k (by omega) (by simp only [tl, tls] at ht hk ⊢; omega)
  simp only [tl, tls] at v1
  simp only [T.cell, List.getD_cons_zero, List.getD_cons_succ] at o1
  obtain ⟨k2, b3, m2, o2, u2, v2⟩ := ms64 hlf (d := 5) (by omega) (t := T.st [T.i .i64 a2, T.sl a3]) (show fitE true csfit_iMisbiiE (T.st [T.i .i64 a2, T.sl a3]) from ⟨⟨rfl, q2⟩, q3, trivial⟩) (by simp only [tl, tls] at ht ⊢; omega) k1 (by omega) (by simp only [tl, tls] at ht hk ⊢; omega)
  simp only [tl, tls] at v2
  simp only [T.cell, List.getD_cons_zero, List.getD_cons_succ] at o2
  obtain ⟨k3, b4, m3, o3, u3, v3⟩ := mh65 hlf (d := 5) (by omega) a4 q4 (by simp only [tl, tls] at ht ⊢; omega) k2 (by omega) (by simp only [tl, tls] at hk ⊢; omega)
  simp only [tl] at v3
  refine ⟨k3, b0, b3, b4, Cc_le hd _ _ _ ?_, Cc_le hd _ _ _ ?_, by omega, by simp only [tl, tls]; omega⟩
  · refine (f16_eq (Cc lf 5) lf a0 a1 a2 a3 a4 a5 a6 k).trans ?_
    unfold f16 f16_t
    simp only [m1, m2, m3, Option.bind_some, nth0, nthS, asI_i, asL_l, asB_b, asS_s, cell0, cellS, cond_false, cond_true]
  · simp only [T.cell, List.getD_cons_zero, List.getD_cons_succ]
    refine (f17_eq (Cc lf 5) lf b0 a1 a2 b3 b4 a5 a6 k).trans ?_
    unfold f17 f17_t
    simp only [o1, o2, o3, iLt_f (show ¬ (k1 < 0) by omega), iLt_f (show ¬ (k2 < 0) by omega), iLt_f (show ¬ (k3 < 0) by omega), Option.bind_some, nth0, nthS, asI_i, asL_l, asB_b, asS_s, cell0, cellS, cond_false, cond_true]
theorem mo16 (hlf : 33554432 ≤ lf) {d : Nat} (hd : 6 ≤ d) {t : T} (hf : fitE true csfit_MisbiMiiiScMsiEMssEEiEiiMisbiiEMiMiiEEii t) (ht : tl t ≤ 16777216) (k : Int) (h0 : 0 ≤ k) (hk : k + 64 * (tl t : Int) ≤ 1152921504606846976) : ∃ (k' : Int) (b0 : List T) (b3 : List T) (b4 : List T), Cc lf d 16 [t, .i .i64 k] = some [.i .i64 k', .sl b0, .sl b3, .sl b4] ∧ k ≤ k' ∧ k' ≤ k + 64 * (tl t : Int) := by
  obtain ⟨k, b0, b3, b4, g1, _, g3⟩ := ms16 hlf hd hf ht k h0 hk
  exact ⟨k, b0, b3, b4, g1, g3⟩
end
end Go.Proofs.Ytdclnhlpifahpaa.T
