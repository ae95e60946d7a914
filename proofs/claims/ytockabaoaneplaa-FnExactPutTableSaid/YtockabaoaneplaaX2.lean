/- What functions of the law FnExactPutTable come to, in trees; no condition. -/
import Derived.Test.YtockabaoaneplaaRows
import Derived.Test.YtockabaoaneplaaX1
set_option linter.unusedVariables false
set_option linter.constructorNameAsVariable false
set_option linter.unusedSimpArgs false
set_option linter.unnecessarySimpa false
namespace Go.Proofs.Ytockabaoaneplaa.T
open Go Go.Proofs.YtockabaoaneplaaV
set_option maxRecDepth 100000
/-- The functions, by depth. -/
noncomputable abbrev Cc (lf d : Nat) : Orc := orc X env lf 6 d
theorem Cc_le {lf d d' : Nat} (h : d ≤ d') : OLe (Cc lf d) (Cc lf d') := fun _ _ _ g => orc_le h g
section
variable {lf : Nat}
abbrev csfit_isbii : List CT := [.i .i64, .s, .b, .i .i64, .i .i64]
theorem fit_isbii {t : T} (h : fitE true csfit_isbii t) : ∃ (a0 : Int) (a1 : ByteArray) (a2 : Bool) (a3 : Int) (a4 : Int), t = .st [.i .i64 a0, .s a1, .b a2, .i .i64 a3, .i .i64 a4] ∧ (Lit.int .i64 a0).wf = true ∧ a1.size ≤ maxLen ∧ (Lit.int .i64 a3).wf = true ∧ (Lit.int .i64 a4).wf = true := by
  obtain ⟨l, rfl, h⟩ := fitE_st h
  obtain ⟨x0, l0, rfl, h0, h⟩ := fitCs_cons h
  obtain ⟨x1, l1, rfl, h1, h⟩ := fitCs_cons h
  obtain ⟨x2, l2, rfl, h2, h⟩ := fitCs_cons h
  obtain ⟨x3, l3, rfl, h3, h⟩ := fitCs_cons h
  obtain ⟨x4, l4, rfl, h4, h⟩ := fitCs_cons h
  obtain rfl := fitCs_nil h
  obtain ⟨a0, rfl, q0⟩ := fitC_i h0
  obtain ⟨a1, rfl, q1⟩ := fitC_s h1
  obtain ⟨a2, rfl⟩ := fitC_b h2
  obtain ⟨a3, rfl, q3⟩ := fitC_i h3
  obtain ⟨a4, rfl, q4⟩ := fitC_i h4
  exact ⟨a0, a1, a2, a3, a4, rfl, q0, q1, q3, q4⟩
theorem sz127 (hlf : 33554432 ≤ lf) {d : Nat} (hd : 1 ≤ d) : SZ1 (Cc lf d) 127 (fitE true csfit_isbii) := by
  refine SZ1.le (Cc_le hd) ?_
  intro t ht x h0 h1
  obtain ⟨a0, a1, a2, a3, a4, rfl, q0, q1, q3, q4⟩ := fit_isbii ht
  have hcall : Cc lf 1 127 [T.st [T.i .i64 a0, T.s a1, T.b a2, T.i .i64 a3, T.i .i64 a4], T.i .i64 x] = f127_t (Cc lf 0) lf a0 a1 a2 a3 a4 x := f127_eq (Cc lf 0) lf a0 a1 a2 a3 a4 x
  rw [hcall]
  unfold f127_t
  have w1 := sub_in (x := x) (n := a1.size) (by omega) (by omega) q1
  rw [w1]
  by_cases p1 : x - (a1.size : Int) < 0
  · left
    rw [iLt_t p1, cond_true]
  rw [iLt_f p1, cond_false]
  obtain ⟨y1, e1⟩ : ∃ y, y = x - (a1.size : Int) := ⟨_, rfl⟩
  rw [← e1]
  refine .inr ⟨y1, rfl, by omega, ?_⟩
  simp only [tl, tls]
  omega
theorem sz78 (hlf : 33554432 ≤ lf) {d : Nat} (hd : 2 ≤ d) : SZ1 (Cc lf d) 78 (fitC (.sl true [.i .i64, .s, .b, .i .i64, .i .i64])) := by
  exact SZ1.le (Cc_le hd) (sz_slice1 (c := Cc lf 1) (c' := Cc lf 2) hlf (sz127 hlf (Nat.le_refl _)) (F := fun l n x i => f78_0 (Cc lf 1) lf l n x i) (G := fun l i x => Cc lf 1 127 [T.st [T.i .i64 (asI (T.cell (l.getD i.toNat T.u) 0)), T.s (asS (T.cell (l.getD i.toNat T.u) 1)), T.b (asB (T.cell (l.getD i.toNat T.u) 2)), T.i .i64 (asI (T.cell (l.getD i.toNat T.u) 3)), T.i .i64 (asI (T.cell (l.getD i.toNat T.u) 4))], T.i .i64 x])
    (fun l x => f78_eq (Cc lf 1) lf l x) (fun l n x i => rfl) (fun l j x h hf => by
      obtain ⟨a0, a1, a2, a3, a4, e, _⟩ := fit_isbii hf
      simp only [getD_nat h, e]
      rfl))
abbrev csfit_iMisbiiE : List CT := [.i .i64, .sl true [.i .i64, .s, .b, .i .i64, .i .i64]]
theorem fit_iMisbiiE {t : T} (h : fitE true csfit_iMisbiiE t) : ∃ (a0 : Int) (a1 : List T), t = .st [.i .i64 a0, .sl a1] ∧ (Lit.int .i64 a0).wf = true ∧ fitC (.sl true [.i .i64, .s, .b, .i .i64, .i .i64]) (.sl a1) := by
  obtain ⟨l, rfl, h⟩ := fitE_st h
  obtain ⟨x0, l0, rfl, h0, h⟩ := fitCs_cons h
  obtain ⟨x1, l1, rfl, h1, h⟩ := fitCs_cons h
  obtain rfl := fitCs_nil h
  obtain ⟨a0, rfl, q0⟩ := fitC_i h0
  obtain ⟨a1, rfl, q1⟩ := fitC_sl h1
  exact ⟨a0, a1, rfl, q0, q1⟩
theorem sz23 (hlf : 33554432 ≤ lf) {d : Nat} (hd : 3 ≤ d) : SZ1 (Cc lf d) 23 (fitE true csfit_iMisbiiE) := by
  refine SZ1.le (Cc_le hd) ?_
  intro t ht x h0 h1
  obtain ⟨a0, a1, rfl, q0, q1⟩ := fit_iMisbiiE ht
  have hcall : Cc lf 3 23 [T.st [T.i .i64 a0, T.sl a1], T.i .i64 x] = f23_t (Cc lf 2) lf a0 a1 x := f23_eq (Cc lf 2) lf a0 a1 x
  rw [hcall]
  unfold f23_t
  have s1 := sz78 hlf (d := 2) (by omega) (T.sl a1) q1 x (by omega) (by omega)
  rcases s1 with e | ⟨y1, e, p1, z1⟩
  · left
    rw [e]
    rfl
  rw [e]
  simp only [Option.bind_some, nth0, asI_i]
  rw [iLt_f (show ¬ (y1 < 0) by omega), cond_false]
  simp only [tl, tls] at z1
  refine .inr ⟨y1, rfl, by omega, ?_⟩
  simp only [tl, tls]
  omega
theorem to128 (hlf : 33554432 ≤ lf) {d : Nat} (hd : 1 ≤ d) : TO1 (Cc lf d) 128 (fitE true csfit_isbii) := by
  refine TO1.le (Cc_le hd) ?_
  intro t ht hs
  obtain ⟨a0, a1, a2, a3, a4, rfl, q0, q1, q3, q4⟩ := fit_isbii ht
  simp only [tl, tls] at hs
  have hcall : Cc lf 1 128 [T.st [T.i .i64 a0, T.s a1, T.b a2, T.i .i64 a3, T.i .i64 a4]] = f128_t (Cc lf 0) lf a0 a1 a2 a3 a4 := f128_eq (Cc lf 0) lf a0 a1 a2 a3 a4
  rw [hcall]
  unfold f128_t
  rfl
theorem to81 (hlf : 33554432 ≤ lf) {d : Nat} (hd : 2 ≤ d) : TO1 (Cc lf d) 81 (fitC (.sl true [.i .i64, .s, .b, .i .i64, .i .i64])) := by
  exact TO1.le (Cc_le hd) (to_slice1 (c' := Cc lf 2) hlf (F := fun l n i out => f81_0 (Cc lf 1) lf l n i out) (G := fun l i => Cc lf 1 128 [T.st [T.i .i64 (asI (T.cell (l.getD i.toNat T.u) 0)), T.s (asS (T.cell (l.getD i.toNat T.u) 1)), T.b (asB (T.cell (l.getD i.toNat T.u) 2)), T.i .i64 (asI (T.cell (l.getD i.toNat T.u) 3)), T.i .i64 (asI (T.cell (l.getD i.toNat T.u) 4))]]) (V := fun _ _ r => T.st [T.i .i64 (asI (T.cell (nth r 0) 0)), T.s (asS (T.cell (nth r 0) 1)), T.b (asB (T.cell (nth r 0) 2)), T.i .i64 (asI (T.cell (nth r 0) 3)), T.i .i64 (asI (T.cell (nth r 0) 4))]) (fun l => f81_eq (Cc lf 1) lf l) (fun l n i out => rfl) (fun l j h hf hs => by
    have hto := to128 hlf (d := 1) (by omega) _ hf hs
    obtain ⟨a0, a1, a2, a3, a4, e, _⟩ := fit_isbii hf
    rw [e] at hto
    simp only [getD_nat h, e]
    exact ⟨_, hto, rfl⟩))
theorem to25 (hlf : 33554432 ≤ lf) {d : Nat} (hd : 3 ≤ d) : TO1 (Cc lf d) 25 (fitE true csfit_iMisbiiE) := by
  refine TO1.le (Cc_le hd) ?_
  intro t ht hs
  obtain ⟨a0, a1, rfl, q0, q1⟩ := fit_iMisbiiE ht
  simp only [tl, tls] at hs
  have hcall : Cc lf 3 25 [T.st [T.i .i64 a0, T.sl a1]] = f25_t (Cc lf 2) lf a0 a1 := f25_eq (Cc lf 2) lf a0 a1
  rw [hcall]
  unfold f25_t
  have e1 := to81 hlf (d := 2) (by omega) (T.sl a1) q1 (by simp only [tl, tls]; omega)
  simp only [e1, Option.bind_some, nth0, asL_l, asI_i, asB_b, asS_s, cell0, cellS]
theorem eq27 (hlf : 33554432 ≤ lf) {d : Nat} (hd : 1 ≤ d) : EQ1 (Cc lf d) 27 (fitC (.sl false [.i .u8])) := by
  exact EQ1.le (Cc_le hd) (eq_flat1 (c' := Cc lf 1) hlf (F := fun l l' n i => f27_0 (Cc lf 0) lf l l' n i) (N := fun l l' i => (asI (l.getD i.toNat T.u)) != (asI (l'.getD i.toNat T.u))) (fun l l' => f27_eq (Cc lf 0) lf l l') (fun l l' n i => rfl) (fun l i => by simp))
theorem eq129 (hlf : 33554432 ≤ lf) {d : Nat} (hd : 1 ≤ d) : EQ1 (Cc lf d) 129 (fitE true csfit_isbii) := by
  refine EQ1.le (Cc_le hd) ?_
  intro t ht hs
  obtain ⟨a0, a1, a2, a3, a4, rfl, q0, q1, q3, q4⟩ := fit_isbii ht
  simp only [tl, tls] at hs
  have hcall : Cc lf 1 129 [T.st [T.i .i64 a0, T.s a1, T.b a2, T.i .i64 a3, T.i .i64 a4], T.st [T.i .i64 a0, T.s a1, T.b a2, T.i .i64 a3, T.i .i64 a4]] = f129_t (Cc lf 0) lf a0 a1 a2 a3 a4 a0 a1 a2 a3 a4 := f129_eq (Cc lf 0) lf a0 a1 a2 a3 a4 a0 a1 a2 a3 a4
  rw [hcall]
  unfold f129_t
  simp only [Option.bind_some, nth0, asB_b, Bool.not_true, cond_false, ne_f, beq_self_eq_true]
theorem eq83 (hlf : 33554432 ≤ lf) {d : Nat} (hd : 2 ≤ d) : EQ1 (Cc lf d) 83 (fitC (.sl true [.i .i64, .s, .b, .i .i64, .i .i64])) := by
  exact EQ1.le (Cc_le hd) (eq_slice1 (c' := Cc lf 2) hlf (F := fun l l' n i => f83_0 (Cc lf 1) lf l l' n i) (G := fun l l' i => Cc lf 1 129 [T.st [T.i .i64 (asI (T.cell (l.getD i.toNat T.u) 0)), T.s (asS (T.cell (l.getD i.toNat T.u) 1)), T.b (asB (T.cell (l.getD i.toNat T.u) 2)), T.i .i64 (asI (T.cell (l.getD i.toNat T.u) 3)), T.i .i64 (asI (T.cell (l.getD i.toNat T.u) 4))], T.st [T.i .i64 (asI (T.cell (l'.getD i.toNat T.u) 0)), T.s (asS (T.cell (l'.getD i.toNat T.u) 1)), T.b (asB (T.cell (l'.getD i.toNat T.u) 2)), T.i .i64 (asI (T.cell (l'.getD i.toNat T.u) 3)), T.i .i64 (asI (T.cell (l'.getD i.toNat T.u) 4))]]) (fun l l' => f83_eq (Cc lf 1) lf l l') (fun l l' n i => rfl) (fun l j h hf hs => by
    have heq := eq129 hlf (d := 1) (by omega) _ hf hs
    obtain ⟨a0, a1, a2, a3, a4, e, _⟩ := fit_isbii hf
    rw [e] at heq
    simp only [getD_nat h, e]
    exact heq))
theorem eq28 (hlf : 33554432 ≤ lf) {d : Nat} (hd : 3 ≤ d) : EQ1 (Cc lf d) 28 (fitE true csfit_iMisbiiE) := by
  refine EQ1.le (Cc_le hd) ?_
  intro t ht hs
  obtain ⟨a0, a1, rfl, q0, q1⟩ := fit_iMisbiiE ht
  simp only [tl, tls] at hs
  have hcall : Cc lf 3 28 [T.st [T.i .i64 a0, T.sl a1], T.st [T.i .i64 a0, T.sl a1]] = f28_t (Cc lf 2) lf a0 a1 a0 a1 := f28_eq (Cc lf 2) lf a0 a1 a0 a1
  rw [hcall]
  unfold f28_t
  have e1 := eq83 hlf (d := 2) (by omega) (T.sl a1) q1 (by simp only [tl, tls]; omega)
  simp only [e1, Option.bind_some, nth0, asB_b, Bool.not_true, cond_false, ne_f, beq_self_eq_true]
theorem tx130 (hlf : 33554432 ≤ lf) {d : Nat} (hd : 1 ≤ d) : TX1 (Cc lf d) 130 :=
  TX1.le (Cc_le hd) (tx_mk (c' := Cc lf 1) hlf (F := fun n k s => f130_0 (Cc lf 0) lf n k s) (fun k => f130_eq (Cc lf 0) lf k) (fun n k s => rfl))
theorem mk84 (hlf : 33554432 ≤ lf) {d : Nat} (hd : 2 ≤ d) : MK1 (Cc lf d) 84 true [.i .i64, .s, .b, .i .i64, .i .i64] := by
  refine MK1.le (Cc_le hd) (mk_slice1 (c' := Cc lf 2) hlf (M := fun n k i l => f84_0 (Cc lf 1) lf n k i l) (fun l k => f84_eq (Cc lf 1) lf l k) (fun n k l => ?_) ?_)
  · rw [f84_0_u]
    unfold f84_0_s
    rw [iLt_f (by omega), cond_false]
  · intro e0 j len hf ht hj hlen k h0 h1
    obtain ⟨a0, a1, a2, a3, a4, rfl, q0, q1, q3, q4⟩ := fit_isbii hf
    obtain ⟨t1, m1⟩ := tx130 hlf (d := 1) (by omega) (k + 1) (by omega) (by simp only [tl, tls] at ht; omega)
    refine ⟨(k + 5), T.st [T.i .i64 k, T.s t1, T.b (((k + 2).tmod 3) == 0), T.i .i64 (k + 3), T.i .i64 (k + 4)], by omega, by simp only [tl, tls]; omega, fun n l hl he => ?_⟩
    subst hl
    have g := getD_at he
    have hb : (j : Int) < (l.length : Int) := by omega
    have hr := inR_nat hj
    rw [f84_0_u]
    unfold f84_0_s
    simp (disch := (simp only [tl, tls] at ht; omega)) only [iLt_t hb, hr, cond_true, cond_false, Option.bind_some, nth0, nthS, asI_i, asB_b, asS_s, asL_l, Int.toNat_natCast, List.length_set, List.set_set, getD_set hj, T.setc, cell0, cellS, List.set_cons_zero, List.set_cons_succ, ne_f, beq_self_eq_true, Bool.not_true, Bool.not_false, Int.add_assoc, Int.reduceAdd, bne_self_eq_false, m1, g, wrap_next hj, wrapK]
    first | done | rfl
theorem mo29 (hlf : 33554432 ≤ lf) {d : Nat} (hd : 3 ≤ d) {t : T} (hf : fitE true csfit_iMisbiiE t) (ht : tl t ≤ 16777216) (k : Int) (h0 : 0 ≤ k) (hk : k + 64 * (tl t : Int) ≤ 1152921504606846976) : ∃ (k' : Int) (b1 : List T), Cc lf d 29 [t, .i .i64 k] = some [.i .i64 k', .sl b1] ∧ k ≤ k' ∧ k' ≤ k + 64 * (tl t : Int) := by
  obtain ⟨a0, a1, rfl, q0, q1⟩ := fit_iMisbiiE hf
  obtain ⟨k1, b1, m1, u1, v1⟩ := mk84 hlf (d := 2) (by omega) a1 q1 (by simp only [tl, tls] at ht ⊢; omega) k (by omega) (by simp only [tl, tls] at ht hk; omega)
  simp only [tl] at v1
  refine ⟨k1, b1, Cc_le hd _ _ _ ?_, by omega, by simp only [tl, tls]; omega⟩
  refine (f29_eq (Cc lf 2) lf a0 a1 k).trans ?_
  unfold f29 f29_t
  simp only [m1, Option.bind_some, nth0, nthS, asI_i, asL_l, asB_b, asS_s, cell0, cellS, cond_false, cond_true]
theorem mh30 (hlf : 33554432 ≤ lf) {d : Nat} (hd : 1 ≤ d) : MH1 (Cc lf d) 30 31 false [.i .u8] := by
  refine MH1.le (Cc_le hd) (mh_slice1 (c' := Cc lf 1) hlf (M := fun n k i l => f30_0 (Cc lf 0) lf n k i l) (H := fun l n k i => f31_0 (Cc lf 0) lf l n k i) (fun l k => f30_eq (Cc lf 0) lf l k) (fun l k => f31_eq (Cc lf 0) lf l k) (fun n k l => ?_) (fun l n k => ?_) ?_)
  · show f30_0_s (Cc lf 0) lf _ _ _ _ = _
    unfold f30_0_s
    rw [iLt_f (by omega), cond_false]
  · show f31_0_s (Cc lf 0) lf _ _ _ _ = _
    unfold f31_0_s
    rw [iLt_f (by omega), cond_false]
  · intro e0 j len hf ht hj hlen k h0 h1
    clear hf

    refine ⟨(k + 1), T.i .u8 (IntKind.wrap .u8 k), by omega, by omega, fun n l hl he => ?_, fun n l hl he => ?_⟩
    all_goals subst hl
    all_goals have g := getD_at he
    all_goals have hb : (j : Int) < (l.length : Int) := by omega
    all_goals have hr := inR_nat hj
    · show f30_0_s (Cc lf 0) lf _ _ _ _ = _
      unfold f30_0_s
      simp (disch := omega) only [iLt_t hb, hr, cond_true, cond_false, Option.bind_some, nth0, nthS, asI_i, asB_b, asS_s, asL_l, Int.toNat_natCast, List.length_set, List.set_set, getD_set hj, T.setc, cell0, cellS, List.set_cons_zero, List.set_cons_succ, ne_f, beq_self_eq_true, Bool.not_true, Bool.not_false, Int.add_assoc, Int.reduceAdd, bne_self_eq_false, g, wrap_next hj, wrapK]
      first | done | rfl
    · show f31_0_s (Cc lf 0) lf _ _ _ _ = _
      unfold f31_0_s
      simp (disch := omega) only [iLt_t hb, hr, cond_true, cond_false, Option.bind_some, nth0, nthS, asI_i, asB_b, asS_s, asL_l, Int.toNat_natCast, List.length_set, List.set_set, getD_set hj, T.setc, cell0, cellS, List.set_cons_zero, List.set_cons_succ, ne_f, beq_self_eq_true, Bool.not_true, Bool.not_false, Int.add_assoc, Int.reduceAdd, bne_self_eq_false, g, wrap_next hj, wrapK]
      first | done | rfl
theorem mk30 (hlf : 33554432 ≤ lf) {d : Nat} (hd : 1 ≤ d) : MK1 (Cc lf d) 30 false [.i .u8] := fun l hl hs k h0 h1 => by
  obtain ⟨k', l', g1, _, g3⟩ := mh30 hlf hd l hl hs k h0 h1
  exact ⟨k', l', g1, g3⟩
end
end Go.Proofs.Ytockabaoaneplaa.T
