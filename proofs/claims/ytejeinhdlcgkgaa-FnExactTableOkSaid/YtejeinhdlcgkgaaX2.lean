/- What functions of the law FnExactTableOk come to, in trees; no condition. -/
import Derived.Test.YtejeinhdlcgkgaaRows
import Derived.Test.YtejeinhdlcgkgaaX1
set_option linter.unusedVariables false
set_option linter.constructorNameAsVariable false
set_option linter.unusedSimpArgs false
set_option linter.unnecessarySimpa false
namespace Go.Proofs.Ytejeinhdlcgkgaa.T
open Go Go.Proofs.YtejeinhdlcgkgaaV
set_option maxRecDepth 100000
/-- The functions, by depth. -/
noncomputable abbrev Cc (lf d : Nat) : Orc := orc (fun _ => none) env lf 6 d
theorem Cc_le {lf d d' : Nat} (h : d ≤ d') : OLe (Cc lf d) (Cc lf d') := fun _ _ _ g => orc_le h g
section
variable {lf : Nat}
abbrev csfit_isbii : List CT := [.i .i64, .s, .b, .i .i64, .i .i64]
theorem fit_isbii {t : T} (h : fitE true csfit_isbii t) : ∃ (a0 : Int) (a1 : ByteArray) (a2 : Bool) (a3 : Int) (a4 : Int), t = .st [.i .i64 a0, .s a1, .b a2, .i .i64 a3, .i .i64 a4] ∧ (Lit.int .i64 a0).wf = true ∧ a1.size ≤ maxLen ∧ (Lit.int .i64 a3).wf = true ∧ (Lit.int .i64 a4).wf = true := by
  obtain ⟨l, rfl, h⟩ := fitE_st h
  obtain ⟨x0, l0, rfl, h0, h⟩ := fitCs_cons h
  obtain ⟨x1, l1, rfl, h1, h⟩ := fitCs_cons h
  obtain ⟨x2, l2, rfl, h2, h⟩ := fitCs_cons h
  obtain ⟨x3, l3, rfl, h3, h⟩ := fitCs_cons h
  obtain ⟨x4, l4, rfl, h4, h⟩ := fitCs_cons h
  obtain rfl := fitCs_nil h
  obtain ⟨a0, rfl, q0⟩ := fitC_i h0
  obtain ⟨a1, rfl, q1⟩ := fitC_s h1
  obtain ⟨a2, rfl⟩ := fitC_b h2
  obtain ⟨a3, rfl, q3⟩ := fitC_i h3
  obtain ⟨a4, rfl, q4⟩ := fitC_i h4
  exact ⟨a0, a1, a2, a3, a4, rfl, q0, q1, q3, q4⟩
theorem sz65 (hlf : 33554432 ≤ lf) {d : Nat} (hd : 1 ≤ d) : SZ1 (Cc lf d) 65 (fitE true csfit_isbii) := by
  refine SZ1.le (Cc_le hd) ?_
  intro t ht x h0 h1
  obtain ⟨a0, a1, a2, a3, a4, rfl, q0, q1, q3, q4⟩ := fit_isbii ht
  have hcall : Cc lf 1 65 [T.st [T.i .i64 a0, T.s a1, T.b a2, T.i .i64 a3, T.i .i64 a4], T.i .i64 x] = f65_t (Cc lf 0) lf a0 a1 a2 a3 a4 x := f65_eq (Cc lf 0) lf a0 a1 a2 a3 a4 x
  rw [hcall]
  unfold f65_t
  have w1 := sub_in (x := x) (n := a1.size) (by omega) (by omega) q1
  rw [w1]
  by_cases p1 : x - (a1.size : Int) < 0
  · left
    rw [iLt_t p1, cond_true]
  rw [iLt_f p1, cond_false]
  obtain ⟨y1, e1⟩ : ∃ y, y = x - (a1.size : Int) := ⟨_, rfl⟩
  rw [← e1]
  refine .inr ⟨y1, rfl, by omega, ?_⟩
  simp only [tl, tls]
  omega
theorem sz44 (hlf : 33554432 ≤ lf) {d : Nat} (hd : 2 ≤ d) : SZ1 (Cc lf d) 44 (fitC (.sl true [.i .i64, .s, .b, .i .i64, .i .i64])) := by
  exact SZ1.le (Cc_le hd) (sz_slice1 (c := Cc lf 1) (c' := Cc lf 2) hlf (sz65 hlf (Nat.le_refl _)) (F := fun l n x i => f44_0 (Cc lf 1) lf l n x i) (G := fun l i x => Cc lf 1 65 [T.st [T.i .i64 (asI (T.cell (l.getD i.toNat T.u) 0)), T.s (asS (T.cell (l.getD i.toNat T.u) 1)), T.b (asB (T.cell (l.getD i.toNat T.u) 2)), T.i .i64 (asI (T.cell (l.getD i.toNat T.u) 3)), T.i .i64 (asI (T.cell (l.getD i.toNat T.u) 4))], T.i .i64 x])
    (fun l x => f44_eq (Cc lf 1) lf l x) (fun l n x i => rfl) (fun l j x h hf => by
      obtain ⟨a0, a1, a2, a3, a4, e, _⟩ := fit_isbii hf
      simp only [getD_nat h, e]
      rfl))
abbrev csfit_iMisbiiE : List CT := [.i .i64, .sl true [.i .i64, .s, .b, .i .i64, .i .i64]]
theorem fit_iMisbiiE {t : T} (h : fitE true csfit_iMisbiiE t) : ∃ (a0 : Int) (a1 : List T), t = .st [.i .i64 a0, .sl a1] ∧ (Lit.int .i64 a0).wf = true ∧ fitC (.sl true [.i .i64, .s, .b, .i .i64, .i .i64]) (.sl a1) := by
  obtain ⟨l, rfl, h⟩ := fitE_st h
  obtain ⟨x0, l0, rfl, h0, h⟩ := fitCs_cons h
  obtain ⟨x1, l1, rfl, h1, h⟩ := fitCs_cons h
  obtain rfl := fitCs_nil h
  obtain ⟨a0, rfl, q0⟩ := fitC_i h0
  obtain ⟨a1, rfl, q1⟩ := fitC_sl h1
  exact ⟨a0, a1, rfl, q0, q1⟩
theorem sz17 (hlf : 33554432 ≤ lf) {d : Nat} (hd : 3 ≤ d) : SZ1 (Cc lf d) 17 (fitE true csfit_iMisbiiE) := by
  refine SZ1.le (Cc_le hd) ?_
  intro t ht x h0 h1
  obtain ⟨a0, a1, rfl, q0, q1⟩ := fit_iMisbiiE ht
  have hcall : Cc lf 3 17 [T.st [T.i .i64 a0, T.sl a1], T.i .i64 x] = f17_t (Cc lf 2) lf a0 a1 x := f17_eq (Cc lf 2) lf a0 a1 x
  rw [hcall]
  unfold f17_t
  have s1 := sz44 hlf (d := 2) (by omega) (T.sl a1) q1 x (by omega) (by omega)
  rcases s1 with e | ⟨y1, e, p1, z1⟩
  · left
    rw [e]
    rfl
  rw [e]
  simp only [Option.bind_some, nth0, asI_i]
  rw [iLt_f (show ¬ (y1 < 0) by omega), cond_false]
  simp only [tl, tls] at z1
  refine .inr ⟨y1, rfl, by omega, ?_⟩
  simp only [tl, tls]
  omega
theorem to66 (hlf : 33554432 ≤ lf) {d : Nat} (hd : 1 ≤ d) : TO1 (Cc lf d) 66 (fitE true csfit_isbii) := by
  refine TO1.le (Cc_le hd) ?_
  intro t ht hs
  obtain ⟨a0, a1, a2, a3, a4, rfl, q0, q1, q3, q4⟩ := fit_isbii ht
  simp only [tl, tls] at hs
  have hcall : Cc lf 1 66 [T.st [T.i .i64 a0, T.s a1, T.b a2, T.i .i64 a3, T.i .i64 a4]] = f66_t (Cc lf 0) lf a0 a1 a2 a3 a4 := f66_eq (Cc lf 0) lf a0 a1 a2 a3 a4
  rw [hcall]
  unfold f66_t
  rfl
theorem to46 (hlf : 33554432 ≤ lf) {d : Nat} (hd : 2 ≤ d) : TO1 (Cc lf d) 46 (fitC (.sl true [.i .i64, .s, .b, .i .i64, .i .i64])) := by
  exact TO1.le (Cc_le hd) (to_slice1 (c' := Cc lf 2) hlf (F := fun l n i out => f46_0 (Cc lf 1) lf l n i out) (G := fun l i => Cc lf 1 66 [T.st [T.i .i64 (asI (T.cell (l.getD i.toNat T.u) 0)), T.s (asS (T.cell (l.getD i.toNat T.u) 1)), T.b (asB (T.cell (l.getD i.toNat T.u) 2)), T.i .i64 (asI (T.cell (l.getD i.toNat T.u) 3)), T.i .i64 (asI (T.cell (l.getD i.toNat T.u) 4))]]) (V := fun _ _ r => T.st [T.i .i64 (asI (T.cell (nth r 0) 0)), T.s (asS (T.cell (nth r 0) 1)), T.b (asB (T.cell (nth r 0) 2)), T.i .i64 (asI (T.cell (nth r 0) 3)), T.i .i64 (asI (T.cell (nth r 0) 4))]) (fun l => f46_eq (Cc lf 1) lf l) (fun l n i out => rfl) (fun l j h hf hs => by
    have hto := to66 hlf (d := 1) (by omega) _ hf hs
    obtain ⟨a0, a1, a2, a3, a4, e, _⟩ := fit_isbii hf
    rw [e] at hto
    simp only [getD_nat h, e]
    exact ⟨_, hto, rfl⟩))
theorem to19 (hlf : 33554432 ≤ lf) {d : Nat} (hd : 3 ≤ d) : TO1 (Cc lf d) 19 (fitE true csfit_iMisbiiE) := by
  refine TO1.le (Cc_le hd) ?_
  intro t ht hs
  obtain ⟨a0, a1, rfl, q0, q1⟩ := fit_iMisbiiE ht
  simp only [tl, tls] at hs
  have hcall : Cc lf 3 19 [T.st [T.i .i64 a0, T.sl a1]] = f19_t (Cc lf 2) lf a0 a1 := f19_eq (Cc lf 2) lf a0 a1
  rw [hcall]
  unfold f19_t
  have e1 := to46 hlf (d := 2) (by omega) (T.sl a1) q1 (by simp only [tl, tls]; omega)
  simp only [e1, Option.bind_some, nth0, asL_l, asI_i, asB_b, asS_s, cell0, cellS]
theorem eq68 (hlf : 33554432 ≤ lf) {d : Nat} (hd : 1 ≤ d) : EQ1 (Cc lf d) 68 (fitE true csfit_isbii) := by
  refine EQ1.le (Cc_le hd) ?_
  intro t ht hs
  obtain ⟨a0, a1, a2, a3, a4, rfl, q0, q1, q3, q4⟩ := fit_isbii ht
  simp only [tl, tls] at hs
  have hcall : Cc lf 1 68 [T.st [T.i .i64 a0, T.s a1, T.b a2, T.i .i64 a3, T.i .i64 a4], T.st [T.i .i64 a0, T.s a1, T.b a2, T.i .i64 a3, T.i .i64 a4]] = f68_t (Cc lf 0) lf a0 a1 a2 a3 a4 a0 a1 a2 a3 a4 := f68_eq (Cc lf 0) lf a0 a1 a2 a3 a4 a0 a1 a2 a3 a4
  rw [hcall]
  unfold f68_t
  simp only [Option.bind_some, nth0, asB_b, Bool.not_true, cond_false, ne_f, beq_self_eq_true]
theorem eq51 (hlf : 33554432 ≤ lf) {d : Nat} (hd : 2 ≤ d) : EQ1 (Cc lf d) 51 (fitC (.sl true [.i .i64, .s, .b, .i .i64, .i .i64])) := by
  exact EQ1.le (Cc_le hd) (eq_slice1 (c' := Cc lf 2) hlf (F := fun l l' n i => f51_0 (Cc lf 1) lf l l' n i) (G := fun l l' i => Cc lf 1 68 [T.st [T.i .i64 (asI (T.cell (l.getD i.toNat T.u) 0)), T.s (asS (T.cell (l.getD i.toNat T.u) 1)), T.b (asB (T.cell (l.getD i.toNat T.u) 2)), T.i .i64 (asI (T.cell (l.getD i.toNat T.u) 3)), T.i .i64 (asI (T.cell (l.getD i.toNat T.u) 4))], T.st [T.i .i64 (asI (T.cell (l'.getD i.toNat T.u) 0)), T.s (asS (T.cell (l'.getD i.toNat T.u) 1)), T.b (asB (T.cell (l'.getD i.toNat T.u) 2)), T.i .i64 (asI (T.cell (l'.getD i.toNat T.u) 3)), T.i .i64 (asI (T.cell (l'.getD i.toNat T.u) 4))]]) (fun l l' => f51_eq (Cc lf 1) lf l l') (fun l l' n i => rfl) (fun l j h hf hs => by
    have heq := eq68 hlf (d := 1) (by omega) _ hf hs
    obtain ⟨a0, a1, a2, a3, a4, e, _⟩ := fit_isbii hf
    rw [e] at heq
    simp only [getD_nat h, e]
    exact heq))
theorem eq21 (hlf : 33554432 ≤ lf) {d : Nat} (hd : 3 ≤ d) : EQ1 (Cc lf d) 21 (fitE true csfit_iMisbiiE) := by
  refine EQ1.le (Cc_le hd) ?_
  intro t ht hs
  obtain ⟨a0, a1, rfl, q0, q1⟩ := fit_iMisbiiE ht
  simp only [tl, tls] at hs
  have hcall : Cc lf 3 21 [T.st [T.i .i64 a0, T.sl a1], T.st [T.i .i64 a0, T.sl a1]] = f21_t (Cc lf 2) lf a0 a1 a0 a1 := f21_eq (Cc lf 2) lf a0 a1 a0 a1
  rw [hcall]
  unfold f21_t
  have e1 := eq51 hlf (d := 2) (by omega) (T.sl a1) q1 (by simp only [tl, tls]; omega)
  simp only [e1, Option.bind_some, nth0, asB_b, Bool.not_true, cond_false, ne_f, beq_self_eq_true]
end
end Go.Proofs.Ytejeinhdlcgkgaa.T
