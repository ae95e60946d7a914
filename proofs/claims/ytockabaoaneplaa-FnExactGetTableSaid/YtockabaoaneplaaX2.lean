/- What functions of the law FnExactGetTable come to, in trees; no condition. -/
import Derived.Test.YtockabaoaneplaaRows
import Derived.Test.YtockabaoaneplaaX1
set_option linter.unusedVariables false
set_option linter.constructorNameAsVariable false
set_option linter.unusedSimpArgs false
set_option linter.unnecessarySimpa false
namespace Go.Proofs.Ytockabaoaneplaa.T
open Go Go.Proofs.YtockabaoaneplaaV
set_option maxRecDepth 100000
/-- The functions, by depth. -/
noncomputable abbrev Cc (lf d : Nat) : Orc := orc X env lf 6 d
theorem Cc_le {lf d d' : Nat} (h : d ≤ d') : OLe (Cc lf d) (Cc lf d') := fun _ _ _ g => orc_le h g
section
variable {lf : Nat}
theorem to45 (hlf : 33554432 ≤ lf) {d : Nat} (hd : 1 ≤ d) : TO1 (Cc lf d) 45 (fitC (.sl false [.i .u8])) := by
  exact TO1.le (Cc_le hd) (to_slice1 (c' := Cc lf 1) hlf (m := false) (F := fun l n i out => f45_0 (Cc lf 0) lf l n i out) (G := fun _ _ => some []) (V := fun l i _ => T.i .u8 (asI (l.getD i.toNat T.u))) (fun l => f45_eq (Cc lf 0) lf l) (fun l n i out => rfl) (fun l j h hf _ => by
    refine ⟨[], rfl, ?_⟩
    have hf : fitC (.i .u8) l[j] := hf
    obtain ⟨v, e, _⟩ := fitC_i hf
    simp only [getD_nat h, e]
    rfl))
abbrev csfit_isbii : List CT := [.i .i64, .s, .b, .i .i64, .i .i64]
theorem fit_isbii {t : T} (h : fitE true csfit_isbii t) : ∃ (a0 : Int) (a1 : ByteArray) (a2 : Bool) (a3 : Int) (a4 : Int), t = .st [.i .i64 a0, .s a1, .b a2, .i .i64 a3, .i .i64 a4] ∧ (Lit.int .i64 a0).wf = true ∧ a1.size ≤ maxLen ∧ (Lit.int .i64 a3).wf = true ∧ (Lit.int .i64 a4).wf = true := by
  obtain ⟨l, rfl, h⟩ := fitE_st h
  obtain ⟨x0, l0, rfl, h0, h⟩ := fitCs_cons h
  obtain ⟨x1, l1, rfl, h1, h⟩ := fitCs_cons h
  obtain ⟨x2, l2, rfl, h2, h⟩ := fitCs_cons h
  obtain ⟨x3, l3, rfl, h3, h⟩ := fitCs_cons h
  obtain ⟨x4, l4, rfl, h4, h⟩ := fitCs_cons h
  obtain rfl := fitCs_nil h
  obtain ⟨a0, rfl, q0⟩ := fitC_i h0
  obtain ⟨a1, rfl, q1⟩ := fitC_s h1
  obtain ⟨a2, rfl⟩ := fitC_b h2
  obtain ⟨a3, rfl, q3⟩ := fitC_i h3
  obtain ⟨a4, rfl, q4⟩ := fitC_i h4
  exact ⟨a0, a1, a2, a3, a4, rfl, q0, q1, q3, q4⟩
theorem eq129 (hlf : 33554432 ≤ lf) {d : Nat} (hd : 1 ≤ d) : EQ1 (Cc lf d) 129 (fitE true csfit_isbii) := by
  refine EQ1.le (Cc_le hd) ?_
  intro t ht hs
  obtain ⟨a0, a1, a2, a3, a4, rfl, q0, q1, q3, q4⟩ := fit_isbii ht
  simp only [tl, tls] at hs
  have hcall : Cc lf 1 129 [T.st [T.i .i64 a0, T.s a1, T.b a2, T.i .i64 a3, T.i .i64 a4], T.st [T.i .i64 a0, T.s a1, T.b a2, T.i .i64 a3, T.i .i64 a4]] = f129_t (Cc lf 0) lf a0 a1 a2 a3 a4 a0 a1 a2 a3 a4 := f129_eq (Cc lf 0) lf a0 a1 a2 a3 a4 a0 a1 a2 a3 a4
  rw [hcall]
  unfold f129_t
  simp only [Option.bind_some, nth0, asB_b, Bool.not_true, cond_false, ne_f, beq_self_eq_true]
theorem eq83 (hlf : 33554432 ≤ lf) {d : Nat} (hd : 2 ≤ d) : EQ1 (Cc lf d) 83 (fitC (.sl true [.i .i64, .s, .b, .i .i64, .i .i64])) := by
  exact EQ1.le (Cc_le hd) (eq_slice1 (c' := Cc lf 2) hlf (F := fun l l' n i => f83_0 (Cc lf 1) lf l l' n i) (G := fun l l' i => Cc lf 1 129 [T.st [T.i .i64 (asI (T.cell (l.getD i.toNat T.u) 0)), T.s (asS (T.cell (l.getD i.toNat T.u) 1)), T.b (asB (T.cell (l.getD i.toNat T.u) 2)), T.i .i64 (asI (T.cell (l.getD i.toNat T.u) 3)), T.i .i64 (asI (T.cell (l.getD i.toNat T.u) 4))], T.st [T.i .i64 (asI (T.cell (l'.getD i.toNat T.u) 0)), T.s (asS (T.cell (l'.getD i.toNat T.u) 1)), T.b (asB (T.cell (l'.getD i.toNat T.u) 2)), T.i .i64 (asI (T.cell (l'.getD i.toNat T.u) 3)), T.i .i64 (asI (T.cell (l'.getD i.toNat T.u) 4))]]) (fun l l' => f83_eq (Cc lf 1) lf l l') (fun l l' n i => rfl) (fun l j h hf hs => by
    have heq := eq129 hlf (d := 1) (by omega) _ hf hs
    obtain ⟨a0, a1, a2, a3, a4, e, _⟩ := fit_isbii hf
    rw [e] at heq
    simp only [getD_nat h, e]
    exact heq))
abbrev csfit_iMisbiiE : List CT := [.i .i64, .sl true [.i .i64, .s, .b, .i .i64, .i .i64]]
theorem fit_iMisbiiE {t : T} (h : fitE true csfit_iMisbiiE t) : ∃ (a0 : Int) (a1 : List T), t = .st [.i .i64 a0, .sl a1] ∧ (Lit.int .i64 a0).wf = true ∧ fitC (.sl true [.i .i64, .s, .b, .i .i64, .i .i64]) (.sl a1) := by
  obtain ⟨l, rfl, h⟩ := fitE_st h
  obtain ⟨x0, l0, rfl, h0, h⟩ := fitCs_cons h
  obtain ⟨x1, l1, rfl, h1, h⟩ := fitCs_cons h
  obtain rfl := fitCs_nil h
  obtain ⟨a0, rfl, q0⟩ := fitC_i h0
  obtain ⟨a1, rfl, q1⟩ := fitC_sl h1
  exact ⟨a0, a1, rfl, q0, q1⟩
theorem eq28 (hlf : 33554432 ≤ lf) {d : Nat} (hd : 3 ≤ d) : EQ1 (Cc lf d) 28 (fitE true csfit_iMisbiiE) := by
  refine EQ1.le (Cc_le hd) ?_
  intro t ht hs
  obtain ⟨a0, a1, rfl, q0, q1⟩ := fit_iMisbiiE ht
  simp only [tl, tls] at hs
  have hcall : Cc lf 3 28 [T.st [T.i .i64 a0, T.sl a1], T.st [T.i .i64 a0, T.sl a1]] = f28_t (Cc lf 2) lf a0 a1 a0 a1 := f28_eq (Cc lf 2) lf a0 a1 a0 a1
  rw [hcall]
  unfold f28_t
  have e1 := eq83 hlf (d := 2) (by omega) (T.sl a1) q1 (by simp only [tl, tls]; omega)
  simp only [e1, Option.bind_some, nth0, asB_b, Bool.not_true, cond_false, ne_f, beq_self_eq_true]
theorem eq27 (hlf : 33554432 ≤ lf) {d : Nat} (hd : 1 ≤ d) : EQ1 (Cc lf d) 27 (fitC (.sl false [.i .u8])) := by
  exact EQ1.le (Cc_le hd) (eq_flat1 (c' := Cc lf 1) hlf (F := fun l l' n i => f27_0 (Cc lf 0) lf l l' n i) (N := fun l l' i => (asI (l.getD i.toNat T.u)) != (asI (l'.getD i.toNat T.u))) (fun l l' => f27_eq (Cc lf 0) lf l l') (fun l l' n i => rfl) (fun l i => by simp))
theorem tx130 (hlf : 33554432 ≤ lf) {d : Nat} (hd : 1 ≤ d) : TX1 (Cc lf d) 130 :=
  TX1.le (Cc_le hd) (tx_mk (c' := Cc lf 1) hlf (F := fun n k s => f130_0 (Cc lf 0) lf n k s) (fun k => f130_eq (Cc lf 0) lf k) (fun n k s => rfl))
theorem mk30 (hlf : 33554432 ≤ lf) {d : Nat} (hd : 1 ≤ d) : MK1 (Cc lf d) 30 false [.i .u8] := by
  refine MK1.le (Cc_le hd) (mk_slice1 (c' := Cc lf 1) hlf (M := fun n k i l => f30_0 (Cc lf 0) lf n k i l) (fun l k => f30_eq (Cc lf 0) lf l k) (fun n k l => ?_) ?_)
  · rw [f30_0_u]
    unfold f30_0_s
    rw [iLt_f (by omega), cond_false]
  · intro e0 j len hf ht hj hlen k h0 h1
    clear hf

    refine ⟨(k + 1), T.i .u8 (IntKind.wrap .u8 k), by omega, by omega, fun n l hl he => ?_⟩
    subst hl
    have g := getD_at he
    have hb : (j : Int) < (l.length : Int) := by omega
    have hr := inR_nat hj
    rw [f30_0_u]
    unfold f30_0_s
    simp (disch := omega) only [iLt_t hb, hr, cond_true, cond_false, Option.bind_some, nth0, nthS, asI_i, asB_b, asS_s, asL_l, Int.toNat_natCast, List.length_set, List.set_set, getD_set hj, T.setc, cell0, cellS, List.set_cons_zero, List.set_cons_succ, ne_f, beq_self_eq_true, Bool.not_true, Bool.not_false, Int.add_assoc, Int.reduceAdd, bne_self_eq_false, g, wrap_next hj, wrapK]
    first | done | rfl
theorem mh84 (hlf : 33554432 ≤ lf) {d : Nat} (hd : 2 ≤ d) : MH1 (Cc lf d) 84 103 true [.i .i64, .s, .b, .i .i64, .i .i64] := by
  refine MH1.le (Cc_le hd) (mh_slice1 (c' := Cc lf 2) hlf (M := fun n k i l => f84_0 (Cc lf 1) lf n k i l) (H := fun l n k i => f103_0 (Cc lf 1) lf l n k i) (fun l k => f84_eq (Cc lf 1) lf l k) (fun l k => f103_eq (Cc lf 1) lf l k) (fun n k l => ?_) (fun l n k => ?_) ?_)
  · show f84_0_s (Cc lf 1) lf _ _ _ _ = _
    unfold f84_0_s
    rw [iLt_f (by omega), cond_false]
  · show f103_0_s (Cc lf 1) lf _ _ _ _ = _
    unfold f103_0_s
    rw [iLt_f (by omega), cond_false]
  · intro e0 j len hf ht hj hlen k h0 h1
    obtain ⟨a0, a1, a2, a3, a4, rfl, q0, q1, q3, q4⟩ := fit_isbii hf
    obtain ⟨t1, m1⟩ := tx130 hlf (d := 1) (by omega) (k + 1) (by omega) (by simp only [tl, tls] at ht; omega)
    refine ⟨(k + 5), T.st [T.i .i64 k, T.s t1, T.b (((k + 2).tmod 3) == 0), T.i .i64 (k + 3), T.i .i64 (k + 4)], by omega, by simp only [tl, tls]; omega, fun n l hl he => ?_, fun n l hl he => ?_⟩
    all_goals subst hl
    all_goals have g := getD_at he
    all_goals have hb : (j : Int) < (l.length : Int) := by omega
    all_goals have hr := inR_nat hj
    · show f84_0_s (Cc lf 1) lf _ _ _ _ = _
      unfold f84_0_s
      simp (disch := (simp only [tl, tls] at ht; omega)) only [iLt_t hb, hr, cond_true, cond_false, Option.bind_some, nth0, nthS, asI_i, asB_b, asS_s, asL_l, Int.toNat_natCast, List.length_set, List.set_set, getD_set hj, T.setc, cell0, cellS, List.set_cons_zero, List.set_cons_succ, ne_f, beq_self_eq_true, Bool.not_true, Bool.not_false, Int.add_assoc, Int.reduceAdd, bne_self_eq_false, m1, g, wrap_next hj, wrapK]
      first | done | rfl
    · show f103_0_s (Cc lf 1) lf _ _ _ _ = _
      unfold f103_0_s
      simp (disch := (simp only [tl, tls] at ht; omega)) only [iLt_t hb, hr, cond_true, cond_false, Option.bind_some, nth0, nthS, asI_i, asB_b, asS_s, asL_l, Int.toNat_natCast, List.length_set, List.set_set, getD_set hj, T.setc, cell0, cellS, List.set_cons_zero, List.set_cons_succ, ne_f, beq_self_eq_true, Bool.not_true, Bool.not_false, Int.add_assoc, Int.reduceAdd, bne_self_eq_false, m1, g, wrap_next hj, wrapK]
      first | done | rfl
theorem mk84 (hlf : 33554432 ≤ lf) {d : Nat} (hd : 2 ≤ d) : MK1 (Cc lf d) 84 true [.i .i64, .s, .b, .i .i64, .i .i64] := fun l hl hs k h0 h1 => by
  obtain ⟨k', l', g1, _, g3⟩ := mh84 hlf hd l hl hs k h0 h1
  exact ⟨k', l', g1, g3⟩
theorem ms29 (hlf : 33554432 ≤ lf) {d : Nat} (hd : 3 ≤ d) {t : T} (hf : fitE true csfit_iMisbiiE t) (ht : tl t ≤ 16777216) (k : Int) (h0 : 0 ≤ k) (hk : k + 64 * (tl t : Int) ≤ 1152921504606846976) : ∃ (k' : Int) (b1 : List T), Cc lf d 29 [t, .i .i64 k] = some [.i .i64 k', .sl b1] ∧ Cc lf d 47 [T.st [(T.cell t 0), T.sl b1], .i .i64 k] = some [.i .i64 k'] ∧ k ≤ k' ∧ k' ≤ k + 64 * (tl t : Int) := by
  obtain ⟨a0, a1, rfl, q0, q1⟩ := fit_iMisbiiE hf
  obtain ⟨k1, b1, m1, o1, u1, v1⟩ := mh84 hlf (d := 2) (by omega) a1 q1 (by simp only [tl, tls] at ht ⊢; omega) k (by omega) (by simp only [tl, tls] at ht hk; omega)
  simp only [tl] at v1
  refine ⟨k1, b1, Cc_le hd _ _ _ ?_, Cc_le hd _ _ _ ?_, by omega, by simp only [tl, tls]; omega⟩
  · refine (f29_eq (Cc lf 2) lf a0 a1 k).trans ?_
    unfold f29 f29_t
    simp only [m1, Option.bind_some, nth0, nthS, asI_i, asL_l, asB_b, asS_s, cell0, cellS, cond_false, cond_true]
  · simp only [T.cell, List.getD_cons_zero, List.getD_cons_succ]
    refine (f47_eq (Cc lf 2) lf a0 b1 k).trans ?_
    unfold f47 f47_t
    simp only [o1, iLt_f (show ¬ (k1 < 0) by omega), Option.bind_some, nth0, nthS, asI_i, asL_l, asB_b, asS_s, cell0, cellS, cond_false, cond_true]
theorem mo29 (hlf : 33554432 ≤ lf) {d : Nat} (hd : 3 ≤ d) {t : T} (hf : fitE true csfit_iMisbiiE t) (ht : tl t ≤ 16777216) (k : Int) (h0 : 0 ≤ k) (hk : k + 64 * (tl t : Int) ≤ 1152921504606846976) : ∃ (k' : Int) (b1 : List T), Cc lf d 29 [t, .i .i64 k] = some [.i .i64 k', .sl b1] ∧ k ≤ k' ∧ k' ≤ k + 64 * (tl t : Int) := by
  obtain ⟨k, b1, g1, _, g3⟩ := ms29 hlf hd hf ht k h0 hk
  exact ⟨k, b1, g1, g3⟩
end
end Go.Proofs.Ytockabaoaneplaa.T
