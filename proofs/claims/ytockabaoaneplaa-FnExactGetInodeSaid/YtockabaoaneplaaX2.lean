/- What functions of the law FnExactGetInode come to, in trees; no condition. -/
import Derived.Test.YtockabaoaneplaaRows
import Derived.Test.YtockabaoaneplaaX1
set_option linter.unusedVariables false
set_option linter.constructorNameAsVariable false
set_option linter.unusedSimpArgs false
set_option linter.unnecessarySimpa false
namespace Go.Proofs.Ytockabaoaneplaa.T
open Go Go.Proofs.YtockabaoaneplaaV
set_option maxRecDepth 100000
/-- The functions, by depth. -/
noncomputable abbrev Cc (lf d : Nat) : Orc := orc X env lf 6 d
theorem Cc_le {lf d d' : Nat} (h : d ≤ d') : OLe (Cc lf d) (Cc lf d') := fun _ _ _ g => orc_le h g
section
variable {lf : Nat}
theorem to45 (hlf : 33554432 ≤ lf) {d : Nat} (hd : 1 ≤ d) : TO1 (Cc lf d) 45 (fitC (.sl false [.i .u8])) := by
  exact TO1.le (Cc_le hd) (to_slice1 (c' := Cc lf 1) hlf (m := false) (F := fun l n i out => f45_0 (Cc lf 0) lf l n i out) (G := fun _ _ => some []) (V := fun l i _ => T.i .u8 (asI (l.getD i.toNat T.u))) (fun l => f45_eq (Cc lf 0) lf l) (fun l n i out => rfl) (fun l j h hf _ => by
    refine ⟨[], rfl, ?_⟩
    have hf : fitC (.i .u8) l[j] := hf
    obtain ⟨v, e, _⟩ := fitC_i hf
    simp only [getD_nat h, e]
    rfl))
theorem eq27 (hlf : 33554432 ≤ lf) {d : Nat} (hd : 1 ≤ d) : EQ1 (Cc lf d) 27 (fitC (.sl false [.i .u8])) := by
  exact EQ1.le (Cc_le hd) (eq_flat1 (c' := Cc lf 1) hlf (F := fun l l' n i => f27_0 (Cc lf 0) lf l l' n i) (N := fun l l' i => (asI (l.getD i.toNat T.u)) != (asI (l'.getD i.toNat T.u))) (fun l l' => f27_eq (Cc lf 0) lf l l') (fun l l' n i => rfl) (fun l i => by simp))
abbrev csfit_si : List CT := [.s, .i .i64]
theorem fit_si {t : T} (h : fitE true csfit_si t) : ∃ (a0 : ByteArray) (a1 : Int), t = .st [.s a0, .i .i64 a1] ∧ a0.size ≤ maxLen ∧ (Lit.int .i64 a1).wf = true := by
  obtain ⟨l, rfl, h⟩ := fitE_st h
  obtain ⟨x0, l0, rfl, h0, h⟩ := fitCs_cons h
  obtain ⟨x1, l1, rfl, h1, h⟩ := fitCs_cons h
  obtain rfl := fitCs_nil h
  obtain ⟨a0, rfl, q0⟩ := fitC_s h0
  obtain ⟨a1, rfl, q1⟩ := fitC_i h1
  exact ⟨a0, a1, rfl, q0, q1⟩
theorem eq141 (hlf : 33554432 ≤ lf) {d : Nat} (hd : 1 ≤ d) : EQ1 (Cc lf d) 141 (fitE true csfit_si) := by
  refine EQ1.le (Cc_le hd) ?_
  intro t ht hs
  obtain ⟨a0, a1, rfl, q0, q1⟩ := fit_si ht
  simp only [tl, tls] at hs
  have hcall : Cc lf 1 141 [T.st [T.s a0, T.i .i64 a1], T.st [T.s a0, T.i .i64 a1]] = f141_t (Cc lf 0) lf a0 a1 a0 a1 := f141_eq (Cc lf 0) lf a0 a1 a0 a1
  rw [hcall]
  unfold f141_t
  simp only [Option.bind_some, nth0, asB_b, Bool.not_true, cond_false, ne_f, beq_self_eq_true]
theorem eq110 (hlf : 33554432 ≤ lf) {d : Nat} (hd : 2 ≤ d) : EQ1 (Cc lf d) 110 (fitC (.sl true [.s, .i .i64])) := by
  exact EQ1.le (Cc_le hd) (eq_slice1 (c' := Cc lf 2) hlf (F := fun l l' n i => f110_0 (Cc lf 1) lf l l' n i) (G := fun l l' i => Cc lf 1 141 [T.st [T.s (asS (T.cell (l.getD i.toNat T.u) 0)), T.i .i64 (asI (T.cell (l.getD i.toNat T.u) 1))], T.st [T.s (asS (T.cell (l'.getD i.toNat T.u) 0)), T.i .i64 (asI (T.cell (l'.getD i.toNat T.u) 1))]]) (fun l l' => f110_eq (Cc lf 1) lf l l') (fun l l' n i => rfl) (fun l j h hf hs => by
    have heq := eq141 hlf (d := 1) (by omega) _ hf hs
    obtain ⟨a0, a1, e, _⟩ := fit_si hf
    rw [e] at heq
    simp only [getD_nat h, e]
    exact heq))
abbrev csfit_ss : List CT := [.s, .s]
theorem fit_ss {t : T} (h : fitE true csfit_ss t) : ∃ (a0 : ByteArray) (a1 : ByteArray), t = .st [.s a0, .s a1] ∧ a0.size ≤ maxLen ∧ a1.size ≤ maxLen := by
  obtain ⟨l, rfl, h⟩ := fitE_st h
  obtain ⟨x0, l0, rfl, h0, h⟩ := fitCs_cons h
  obtain ⟨x1, l1, rfl, h1, h⟩ := fitCs_cons h
  obtain rfl := fitCs_nil h
  obtain ⟨a0, rfl, q0⟩ := fitC_s h0
  obtain ⟨a1, rfl, q1⟩ := fitC_s h1
  exact ⟨a0, a1, rfl, q0, q1⟩
theorem eq142 (hlf : 33554432 ≤ lf) {d : Nat} (hd : 1 ≤ d) : EQ1 (Cc lf d) 142 (fitE true csfit_ss) := by
  refine EQ1.le (Cc_le hd) ?_
  intro t ht hs
  obtain ⟨a0, a1, rfl, q0, q1⟩ := fit_ss ht
  simp only [tl, tls] at hs
  have hcall : Cc lf 1 142 [T.st [T.s a0, T.s a1], T.st [T.s a0, T.s a1]] = f142_t (Cc lf 0) lf a0 a1 a0 a1 := f142_eq (Cc lf 0) lf a0 a1 a0 a1
  rw [hcall]
  unfold f142_t
  simp only [Option.bind_some, nth0, asB_b, Bool.not_true, cond_false, ne_f, beq_self_eq_true]
theorem eq111 (hlf : 33554432 ≤ lf) {d : Nat} (hd : 2 ≤ d) : EQ1 (Cc lf d) 111 (fitC (.sl true [.s, .s])) := by
  exact EQ1.le (Cc_le hd) (eq_slice1 (c' := Cc lf 2) hlf (F := fun l l' n i => f111_0 (Cc lf 1) lf l l' n i) (G := fun l l' i => Cc lf 1 142 [T.st [T.s (asS (T.cell (l.getD i.toNat T.u) 0)), T.s (asS (T.cell (l.getD i.toNat T.u) 1))], T.st [T.s (asS (T.cell (l'.getD i.toNat T.u) 0)), T.s (asS (T.cell (l'.getD i.toNat T.u) 1))]]) (fun l l' => f111_eq (Cc lf 1) lf l l') (fun l l' n i => rfl) (fun l j h hf hs => by
    have heq := eq142 hlf (d := 1) (by omega) _ hf hs
    obtain ⟨a0, a1, e, _⟩ := fit_ss hf
    rw [e] at heq
    simp only [getD_nat h, e]
    exact heq))
abbrev csfit_iiiScMsiEMssE : List CT := [.i .i64, .i .i64, .i .i64, .sl false [.i .u8], .sl true [.s, .i .i64], .sl true [.s, .s]]
theorem fit_iiiScMsiEMssE {t : T} (h : fitE true csfit_iiiScMsiEMssE t) : ∃ (a0 : Int) (a1 : Int) (a2 : Int) (a3 : List T) (a4 : List T) (a5 : List T), t = .st [.i .i64 a0, .i .i64 a1, .i .i64 a2, .sl a3, .sl a4, .sl a5] ∧ (Lit.int .i64 a0).wf = true ∧ (Lit.int .i64 a1).wf = true ∧ (Lit.int .i64 a2).wf = true ∧ fitC (.sl false [.i .u8]) (.sl a3) ∧ fitC (.sl true [.s, .i .i64]) (.sl a4) ∧ fitC (.sl true [.s, .s]) (.sl a5) := by
  obtain ⟨l, rfl, h⟩ := fitE_st h
  obtain ⟨x0, l0, rfl, h0, h⟩ := fitCs_cons h
  obtain ⟨x1, l1, rfl, h1, h⟩ := fitCs_cons h
  obtain ⟨x2, l2, rfl, h2, h⟩ := fitCs_cons h
  obtain ⟨x3, l3, rfl, h3, h⟩ := fitCs_cons h
  obtain ⟨x4, l4, rfl, h4, h⟩ := fitCs_cons h
  obtain ⟨x5, l5, rfl, h5, h⟩ := fitCs_cons h
  obtain rfl := fitCs_nil h
  obtain ⟨a0, rfl, q0⟩ := fitC_i h0
  obtain ⟨a1, rfl, q1⟩ := fitC_i h1
  obtain ⟨a2, rfl, q2⟩ := fitC_i h2
  obtain ⟨a3, rfl, q3⟩ := fitC_sl h3
  obtain ⟨a4, rfl, q4⟩ := fitC_sl h4
  obtain ⟨a5, rfl, q5⟩ := fitC_sl h5
  exact ⟨a0, a1, a2, a3, a4, a5, rfl, q0, q1, q2, q3, q4, q5⟩
theorem eq55 (hlf : 33554432 ≤ lf) {d : Nat} (hd : 3 ≤ d) : EQ1 (Cc lf d) 55 (fitE true csfit_iiiScMsiEMssE) := by
  refine EQ1.le (Cc_le hd) ?_
  intro t ht hs
  obtain ⟨a0, a1, a2, a3, a4, a5, rfl, q0, q1, q2, q3, q4, q5⟩ := fit_iiiScMsiEMssE ht
  simp only [tl, tls] at hs
  have hcall : Cc lf 3 55 [T.st [T.i .i64 a0, T.i .i64 a1, T.i .i64 a2, T.sl a3, T.sl a4, T.sl a5], T.st [T.i .i64 a0, T.i .i64 a1, T.i .i64 a2, T.sl a3, T.sl a4, T.sl a5]] = f55_t (Cc lf 2) lf a0 a1 a2 a3 a4 a5 a0 a1 a2 a3 a4 a5 := f55_eq (Cc lf 2) lf a0 a1 a2 a3 a4 a5 a0 a1 a2 a3 a4 a5
  rw [hcall]
  unfold f55_t
  have e1 := eq27 hlf (d := 2) (by omega) (T.sl a3) q3 (by simp only [tl, tls]; omega)
  have e2 := eq110 hlf (d := 2) (by omega) (T.sl a4) q4 (by simp only [tl, tls]; omega)
  have e3 := eq111 hlf (d := 2) (by omega) (T.sl a5) q5 (by simp only [tl, tls]; omega)
  simp only [e1, e2, e3, Option.bind_some, nth0, asB_b, Bool.not_true, cond_false, ne_f, beq_self_eq_true]
theorem tx130 (hlf : 33554432 ≤ lf) {d : Nat} (hd : 1 ≤ d) : TX1 (Cc lf d) 130 :=
  TX1.le (Cc_le hd) (tx_mk (c' := Cc lf 1) hlf (F := fun n k s => f130_0 (Cc lf 0) lf n k s) (fun k => f130_eq (Cc lf 0) lf k) (fun n k s => rfl))
theorem mh30 (hlf : 33554432 ≤ lf) {d : Nat} (hd : 1 ≤ d) : MH1 (Cc lf d) 30 31 false [.i .u8] := by
  refine MH1.le (Cc_le hd) (mh_slice1 (c' := Cc lf 1) hlf (M := fun n k i l => f30_0 (Cc lf 0) lf n k i l) (H := fun l n k i => f31_0 (Cc lf 0) lf l n k i) (fun l k => f30_eq (Cc lf 0) lf l k) (fun l k => f31_eq (Cc lf 0) lf l k) (fun n k l => ?_) (fun l n k => ?_) ?_)
  · show f30_0_s (Cc lf 0) lf _ _ _ _ = _
    unfold f30_0_s
    rw [iLt_f (by omega), cond_false]
  · show f31_0_s (Cc lf 0) lf _ _ _ _ = _
    unfold f31_0_s
    rw [iLt_f (by omega), cond_false]
  · intro e0 j len hf ht hj hlen k h0 h1
    clear hf

    refine ⟨(k + 1), T.i .u8 (IntKind.wrap .u8 k), by omega, by omega, fun n l hl he => ?_, fun n l hl he => ?_⟩
    all_goals subst hl
    all_goals have g := getD_at he
    all_goals have hb : (j : Int) < (l.length : Int) := by omega
    all_goals have hr := inR_nat hj
    · show f30_0_s (Cc lf 0) lf _ _ _ _ = _
      unfold f30_0_s
      simp (disch := omega) only [iLt_t hb, hr, cond_true, cond_false, Option.bind_some, nth0, nthS, asI_i, asB_b, asS_s, asL_l, Int.toNat_natCast, List.length_set, List.set_set, getD_set hj, T.setc, cell0, cellS, List.set_cons_zero, List.set_cons_succ, ne_f, beq_self_eq_true, Bool.not_true, Bool.not_false, Int.add_assoc, Int.reduceAdd, bne_self_eq_false, g, wrap_next hj, wrapK]
      first | done | rfl
    · show f31_0_s (Cc lf 0) lf _ _ _ _ = _
      unfold f31_0_s
      simp (disch := omega) only [iLt_t hb, hr, cond_true, cond_false, Option.bind_some, nth0, nthS, asI_i, asB_b, asS_s, asL_l, Int.toNat_natCast, List.length_set, List.set_set, getD_set hj, T.setc, cell0, cellS, List.set_cons_zero, List.set_cons_succ, ne_f, beq_self_eq_true, Bool.not_true, Bool.not_false, Int.add_assoc, Int.reduceAdd, bne_self_eq_false, g, wrap_next hj, wrapK]
      first | done | rfl
theorem mk30 (hlf : 33554432 ≤ lf) {d : Nat} (hd : 1 ≤ d) : MK1 (Cc lf d) 30 false [.i .u8] := fun l hl hs k h0 h1 => by
  obtain ⟨k', l', g1, _, g3⟩ := mh30 hlf hd l hl hs k h0 h1
  exact ⟨k', l', g1, g3⟩
theorem mh112 (hlf : 33554432 ≤ lf) {d : Nat} (hd : 2 ≤ d) : MH1 (Cc lf d) 112 114 true [.s, .i .i64] := by
  refine MH1.le (Cc_le hd) (mh_slice1 (c' := Cc lf 2) hlf (M := fun n k i l => f112_0 (Cc lf 1) lf n k i l) (H := fun l n k i => f114_0 (Cc lf 1) lf l n k i) (fun l k => f112_eq (Cc lf 1) lf l k) (fun l k => f114_eq (Cc lf 1) lf l k) (fun n k l => ?_) (fun l n k => ?_) ?_)
  · show f112_0_s (Cc lf 1) lf _ _ _ _ = _
    unfold f112_0_s
    rw [iLt_f (by omega), cond_false]
  · show f114_0_s (Cc lf 1) lf _ _ _ _ = _
    unfold f114_0_s
    rw [iLt_f (by omega), cond_false]
  · intro e0 j len hf ht hj hlen k h0 h1
    obtain ⟨a0, a1, rfl, q0, q1⟩ := fit_si hf
    obtain ⟨t1, m1⟩ := tx130 hlf (d := 1) (by omega) k (by omega) (by simp only [tl, tls] at ht; omega)
    refine ⟨(k + 2), T.st [T.s t1, T.i .i64 (k + 1)], by omega, by simp only [tl, tls]; omega, fun n l hl he => ?_, fun n l hl he => ?_⟩
    all_goals subst hl
    all_goals have g := getD_at he
    all_goals have hb : (j : Int) < (l.length : Int) := by omega
    all_goals have hr := inR_nat hj
    · show f112_0_s (Cc lf 1) lf _ _ _ _ = _
      unfold f112_0_s
      simp (disch := (simp only [tl, tls] at ht; omega)) only [iLt_t hb, hr, cond_true, cond_false, Option.bind_some, nth0, nthS, asI_i, asB_b, asS_s, asL_l, Int.toNat_natCast, List.length_set, List.set_set, getD_set hj, T.setc, cell0, cellS, List.set_cons_zero, List.set_cons_succ, ne_f, beq_self_eq_true, Bool.not_true, Bool.not_false, Int.add_assoc, Int.reduceAdd, bne_self_eq_false, m1, g, wrap_next hj, wrapK]
      first | done | rfl
    · show f114_0_s (Cc lf 1) lf _ _ _ _ = _
      unfold f114_0_s
      simp (disch := (simp only [tl, tls] at ht; omega)) only [iLt_t hb, hr, cond_true, cond_false, Option.bind_some, nth0, nthS, asI_i, asB_b, asS_s, asL_l, Int.toNat_natCast, List.length_set, List.set_set, getD_set hj, T.setc, cell0, cellS, List.set_cons_zero, List.set_cons_succ, ne_f, beq_self_eq_true, Bool.not_true, Bool.not_false, Int.add_assoc, Int.reduceAdd, bne_self_eq_false, m1, g, wrap_next hj, wrapK]
      first | done | rfl
theorem mk112 (hlf : 33554432 ≤ lf) {d : Nat} (hd : 2 ≤ d) : MK1 (Cc lf d) 112 true [.s, .i .i64] := fun l hl hs k h0 h1 => by
  obtain ⟨k', l', g1, _, g3⟩ := mh112 hlf hd l hl hs k h0 h1
  exact ⟨k', l', g1, g3⟩
theorem mh113 (hlf : 33554432 ≤ lf) {d : Nat} (hd : 2 ≤ d) : MH1 (Cc lf d) 113 115 true [.s, .s] := by
  refine MH1.le (Cc_le hd) (mh_slice1 (c' := Cc lf 2) hlf (M := fun n k i l => f113_0 (Cc lf 1) lf n k i l) (H := fun l n k i => f115_0 (Cc lf 1) lf l n k i) (fun l k => f113_eq (Cc lf 1) lf l k) (fun l k => f115_eq (Cc lf 1) lf l k) (fun n k l => ?_) (fun l n k => ?_) ?_)
  · show f113_0_s (Cc lf 1) lf _ _ _ _ = _
    unfold f113_0_s
    rw [iLt_f (by omega), cond_false]
  · show f115_0_s (Cc lf 1) lf _ _ _ _ = _
    unfold f115_0_s
    rw [iLt_f (by omega), cond_false]
  · intro e0 j len hf ht hj hlen k h0 h1
    obtain ⟨a0, a1, rfl, q0, q1⟩ := fit_ss hf
    obtain ⟨t1, m1⟩ := tx130 hlf (d := 1) (by omega) k (by omega) (by simp only [tl, tls] at ht; omega)
    obtain ⟨t2, m2⟩ := tx130 hlf (d := 1) (by omega) (k + 1) (by omega) (by simp only [tl, tls] at ht; omega)
    refine ⟨(k + 2), T.st [T.s t1, T.s t2], by omega, by simp only [tl, tls]; omega, fun n l hl he => ?_, fun n l hl he => ?_⟩
    all_goals subst hl
    all_goals have g := getD_at he
    all_goals have hb : (j : Int) < (l.length : Int) := by omega
    all_goals have hr := inR_nat hj
    · show f113_0_s (Cc lf 1) lf _ _ _ _ = _
      unfold f113_0_s
      simp (disch := (simp only [tl, tls] at ht; omega)) only [iLt_t hb, hr, cond_true, cond_false, Option.bind_some, nth0, nthS, asI_i, asB_b, asS_s, asL_l, Int.toNat_natCast, List.length_set, List.set_set, getD_set hj, T.setc, cell0, cellS, List.set_cons_zero, List.set_cons_succ, ne_f, beq_self_eq_true, Bool.not_true, Bool.not_false, Int.add_assoc, Int.reduceAdd, bne_self_eq_false, m1, m2, g, wrap_next hj, wrapK]
      first | done | rfl
    · show f115_0_s (Cc lf 1) lf _ _ _ _ = _
      unfold f115_0_s
      simp (disch := (simp only [tl, tls] at ht; omega)) only [iLt_t hb, hr, cond_true, cond_false, Option.bind_some, nth0, nthS, asI_i, asB_b, asS_s, asL_l, Int.toNat_natCast, List.length_set, List.set_set, getD_set hj, T.setc, cell0, cellS, List.set_cons_zero, List.set_cons_succ, ne_f, beq_self_eq_true, Bool.not_true, Bool.not_false, Int.add_assoc, Int.reduceAdd, bne_self_eq_false, m1, m2, g, wrap_next hj, wrapK]
      first | done | rfl
theorem mk113 (hlf : 33554432 ≤ lf) {d : Nat} (hd : 2 ≤ d) : MK1 (Cc lf d) 113 true [.s, .s] := fun l hl hs k h0 h1 => by
  obtain ⟨k', l', g1, _, g3⟩ := mh113 hlf hd l hl hs k h0 h1
  exact ⟨k', l', g1, g3⟩
theorem ms56 (hlf : 33554432 ≤ lf) {d : Nat} (hd : 3 ≤ d) {t : T} (hf : fitE true csfit_iiiScMsiEMssE t) (ht : tl t ≤ 16777216) (k : Int) (h0 : 0 ≤ k) (hk : k + 64 * (tl t : Int) ≤ 1152921504606846976) : ∃ (k' : Int) (b3 : List T) (b4 : List T) (b5 : List T), Cc lf d 56 [t, .i .i64 k] = some [.i .i64 k', .sl b3, .sl b4, .sl b5] ∧ Cc lf d 57 [T.st [(T.cell t 0), (T.cell t 1), (T.cell t 2), T.sl b3, T.sl b4, T.sl b5], .i .i64 k] = some [.i .i64 k'] ∧ k ≤ k' ∧ k' ≤ k + 64 * (tl t : Int) := by
  obtain ⟨a0, a1, a2, a3, a4, a5, rfl, q0, q1, q2, q3, q4, q5⟩ := fit_iiiScMsiEMssE hf
  obtain ⟨k1, b3, m1, o1, u1, v1⟩ := mh30 hlf (d := 2) (by omega) a3 q3 (by simp only [tl, tls] at ht ⊢; omega) k (by omega) (by simp only [tl, tls] at ht hk; omega)
  simp only [tl] at v1
  obtain ⟨k2, b4, m2, o2, u2, v2⟩ := mh112 hlf (d := 2) (by omega) a4 q4 (by simp only [tl, tls] at ht ⊢; omega) k1 (by omega) (by simp only [tl, tls] at ht hk; omega)
  simp only [tl] at v2
  obtain ⟨k3, b5, m3, o3, u3, v3⟩ := mh113 hlf (d := 2) (by omega) a5 q5 (by simp only [tl, tls] at ht ⊢; omega) k2 (by omega) (by simp only [tl, tls] at ht hk; omega)
  simp only [tl] at v3
  refine ⟨k3, b3, b4, b5, Cc_le hd _ _ _ ?_, Cc_le hd _ _ _ ?_, by omega, by simp only [tl, tls]; omega⟩
  · refine (f56_eq (Cc lf 2) lf a0 a1 a2 a3 a4 a5 k).trans ?_
    unfold f56 f56_t
    simp only [m1, m2, m3, Option.bind_some, nth0, nthS, asI_i, asL_l, asB_b, asS_s, cell0, cellS, cond_false, cond_true]
  · simp only [T.cell, List.getD_cons_zero, List.getD_cons_succ]
    refine (f57_eq (Cc lf 2) lf a0 a1 a2 b3 b4 b5 k).trans ?_
    unfold f57 f57_t
    simp only [o1, o2, o3, iLt_f (show ¬ (k1 < 0) by omega), iLt_f (show ¬ (k2 < 0) by omega), iLt_f (show ¬ (k3 < 0) by omega), Option.bind_some, nth0, nthS, asI_i, asL_l, asB_b, asS_s, cell0, cellS, cond_false, cond_true]
theorem mo56 (hlf : 33554432 ≤ lf) {d : Nat} (hd : 3 ≤ d) {t : T} (hf : fitE true csfit_iiiScMsiEMssE t) (ht : tl t ≤ 16777216) (k : Int) (h0 : 0 ≤ k) (hk : k + 64 * (tl t : Int) ≤ 1152921504606846976) : ∃ (k' : Int) (b3 : List T) (b4 : List T) (b5 : List T), Cc lf d 56 [t, .i .i64 k] = some [.i .i64 k', .sl b3, .sl b4, .sl b5] ∧ k ≤ k' ∧ k' ≤ k + 64 * (tl t : Int) := by
  obtain ⟨k, b3, b4, b5, g1, _, g3⟩ := ms56 hlf hd hf ht k h0 hk
  exact ⟨k, b3, b4, b5, g1, g3⟩
end
end Go.Proofs.Ytockabaoaneplaa.T
