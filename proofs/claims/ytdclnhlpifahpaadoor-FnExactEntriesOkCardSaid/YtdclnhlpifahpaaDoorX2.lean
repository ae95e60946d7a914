/- What functions of the law FnExactEntriesOk come to, in trees; no condition. -/
import Derived.Test.YtdclnhlpifahpaaDoorRows
import Derived.Test.YtdclnhlpifahpaaDoorX1
set_option linter.unusedVariables false
set_option linter.constructorNameAsVariable false
set_option linter.unusedSimpArgs false
set_option linter.unnecessarySimpa false
namespace Go.Proofs.YtdclnhlpifahpaaDoor.T
open Go Go.Proofs.YtdclnhlpifahpaaDoorV
set_option maxRecDepth 100000
noncomputable abbrev Cc (lf d : Nat) : Orc := orc X env lf 6 d
theorem Cc_le {lf d d' : Nat} (h : d ≤ d') : OLe (Cc lf d) (Cc lf d') := fun _ _ _ g => orc_le h g
section
variable {lf : Nat}
theorem sz22 (hlf : 33554432 ≤ lf) {d : Nat} (hd : 1 ≤ d) : SZ1 (Cc lf d) 22 (fitC (.sl false [.i .u8])) := by
 exact SZ1.le (Cc_le hd) (sz_flat1 (c := Cc lf 1) rfl fun l x => f22_eq (Cc lf 0) lf l x)
abbrev csfit_ss : List CT := [.s, .s]
theorem fit_ss {t : T} (h : fitE true csfit_ss t) : ∃ (a0 : ByteArray) (a1 : ByteArray), t = .st [.s a0, .s a1] ∧ a0.size ≤ maxLen ∧ a1.size ≤ maxLen := by
 obtain ⟨l, rfl, h⟩ := fitE_st h
 obtain ⟨x0, l0, rfl, h0, h⟩ := fitCs_cons h
 obtain ⟨x1, l1, rfl, h1, h⟩ := fitCs_cons h
 obtain rfl := fitCs_nil h
 obtain ⟨a0, rfl, q0⟩ := fitC_s h0
 obtain ⟨a1, rfl, q1⟩ := fitC_s h1
 exact ⟨a0, a1, rfl, q0, q1⟩
theorem sz35 (hlf : 33554432 ≤ lf) {d : Nat} (hd : 1 ≤ d) : SZ1 (Cc lf d) 35 (fitE true csfit_ss) := by
 refine SZ1.le (Cc_le hd) ?_
 intro t ht x h0 h1
 obtain ⟨a0, a1, rfl, q0, q1⟩ := fit_ss ht
 have hcall : Cc lf 1 35 [T.st [T.s a0, T.s a1], T.i .i64 x] = f35_t (Cc lf 0) lf a0 a1 x := f35_eq (Cc lf 0) lf a0 a1 x
 rw [hcall]
 unfold f35_t
 have w1 := sub_in (x := x) (n := a0.size) (by omega) (by omega) q0
 rw [w1]
 by_cases p1 : x - (a0.size : Int) < 0
 ·left
  rw [iLt_t p1, cond_true]
 rw [iLt_f p1, cond_false]
 obtain ⟨y1, e1⟩ : ∃ y, y = x - (a0.size : Int) := ⟨_, rfl⟩
 rw [← e1]
 have w2 := sub_in (x := y1) (n := a1.size) (by omega) (by omega) q1
 rw [w2]
 by_cases p2 : y1 - (a1.size : Int) < 0
 ·left
  rw [iLt_t p2, cond_true]
 rw [iLt_f p2, cond_false]
 obtain ⟨y2, e2⟩ : ∃ y, y = y1 - (a1.size : Int) := ⟨_, rfl⟩
 rw [← e2]
 refine .inr ⟨y2, rfl, by omega, ?_⟩
 simp only [tl, tls]
 omega
theorem sz23 (hlf : 33554432 ≤ lf) {d : Nat} (hd : 2 ≤ d) : SZ1 (Cc lf d) 23 (fitC (.sl true [.s, .s])) := by
 exact SZ1.le (Cc_le hd) (sz_slice1 (c := Cc lf 1) (c' := Cc lf 2) hlf (sz35 hlf (Nat.le_refl _)) (F := fun l n x i => f23_0 (Cc lf 1) lf l n x i) (G := fun l i x => Cc lf 1 35 [T.st [T.s (asS (T.cell (l.getD i.toNat T.u) 0)), T.s (asS (T.cell (l.getD i.toNat T.u) 1))], T.i .i64 x])
  (fun l x => f23_eq (Cc lf 1) lf l x) (fun l n x i => rfl) (fun l j x h hf => by
   obtain ⟨a0, a1, e, _⟩ := fit_ss hf
   simp only [getD_nat h, e]
   rfl))
abbrev csfit_siScMssEs : List CT := [.s, .i .i64, .sl false [.i .u8], .sl true [.s, .s], .s]
theorem fit_siScMssEs {t : T} (h : fitE true csfit_siScMssEs t) : ∃ (a0 : ByteArray) (a1 : Int) (a2 : List T) (a3 : List T) (a4 : ByteArray), t = .st [.s a0, .i .i64 a1, .sl a2, .sl a3, .s a4] ∧ a0.size ≤ maxLen ∧ (Lit.int .i64 a1).wf = true ∧ fitC (.sl false [.i .u8]) (.sl a2) ∧ fitC (.sl true [.s, .s]) (.sl a3) ∧ a4.size ≤ maxLen := by
 obtain ⟨l, rfl, h⟩ := fitE_st h
 obtain ⟨x0, l0, rfl, h0, h⟩ := fitCs_cons h
 obtain ⟨x1, l1, rfl, h1, h⟩ := fitCs_cons h
 obtain ⟨x2, l2, rfl, h2, h⟩ := fitCs_cons h
 obtain ⟨x3, l3, rfl, h3, h⟩ := fitCs_cons h
 obtain ⟨x4, l4, rfl, h4, h⟩ := fitCs_cons h
 obtain rfl := fitCs_nil h
 obtain ⟨a0, rfl, q0⟩ := fitC_s h0
 obtain ⟨a1, rfl, q1⟩ := fitC_i h1
 obtain ⟨a2, rfl, q2⟩ := fitC_sl h2
 obtain ⟨a3, rfl, q3⟩ := fitC_sl h3
 obtain ⟨a4, rfl, q4⟩ := fitC_s h4
 exact ⟨a0, a1, a2, a3, a4, rfl, q0, q1, q2, q3, q4⟩
theorem sz9 (hlf : 33554432 ≤ lf) {d : Nat} (hd : 3 ≤ d) : SZ1 (Cc lf d) 9 (fitE true csfit_siScMssEs) := by
 refine SZ1.le (Cc_le hd) ?_
 intro t ht x h0 h1
 obtain ⟨a0, a1, a2, a3, a4, rfl, q0, q1, q2, q3, q4⟩ := fit_siScMssEs ht
 have hcall : Cc lf 3 9 [T.st [T.s a0, T.i .i64 a1, T.sl a2, T.sl a3, T.s a4], T.i .i64 x] = f9_t (Cc lf 2) lf a0 a1 a2 a3 a4 x := f9_eq (Cc lf 2) lf a0 a1 a2 a3 a4 x
 rw [hcall]
 unfold f9_t
 have w1 := sub_in (x := x) (n := a0.size) (by omega) (by omega) q0
 rw [w1]
 by_cases p1 : x - (a0.size : Int) < 0
 ·left
  rw [iLt_t p1, cond_true]
 rw [iLt_f p1, cond_false]
 obtain ⟨y1, e1⟩ : ∃ y, y = x - (a0.size : Int) := ⟨_, rfl⟩
 rw [← e1]
 have s2 := sz22 hlf (d := 2) (by omega) (T.sl a2) q2 y1 (by omega) (by omega)
 rcases s2 with e | ⟨y2, e, p2, z2⟩
 ·left
  rw [e]
  rfl
 rw [e]
 simp only [Option.bind_some, nth0, asI_i]
 rw [iLt_f (show ¬ (y2 < 0) by omega), cond_false]
 simp only [tl, tls] at z2
 have s3 := sz23 hlf (d := 2) (by omega) (T.sl a3) q3 y2 (by omega) (by omega)
 rcases s3 with e | ⟨y3, e, p3, z3⟩
 ·left
  rw [e]
  rfl
 rw [e]
 simp only [Option.bind_some, nth0, asI_i]
 rw [iLt_f (show ¬ (y3 < 0) by omega), cond_false]
 simp only [tl, tls] at z3
 have w4 := sub_in (x := y3) (n := a4.size) (by omega) (by omega) q4
 rw [w4]
 by_cases p4 : y3 - (a4.size : Int) < 0
 ·left
  rw [iLt_t p4, cond_true]
 rw [iLt_f p4, cond_false]
 obtain ⟨y4, e4⟩ : ∃ y, y = y3 - (a4.size : Int) := ⟨_, rfl⟩
 rw [← e4]
 refine .inr ⟨y4, rfl, by omega, ?_⟩
 simp only [tl, tls]
 omega
theorem sz4 (hlf : 33554432 ≤ lf) {d : Nat} (hd : 4 ≤ d) : SZ1 (Cc lf d) 4 (fitC (.sl true [.s, .i .i64, .sl false [.i .u8], .sl true [.s, .s], .s])) := by
 exact SZ1.le (Cc_le hd) (sz_slice1 (c := Cc lf 3) (c' := Cc lf 4) hlf (sz9 hlf (Nat.le_refl _)) (F := fun l n x i => f4_0 (Cc lf 3) lf l n x i) (G := fun l i x => Cc lf 3 9 [T.st [T.s (asS (T.cell (l.getD i.toNat T.u) 0)), T.i .i64 (asI (T.cell (l.getD i.toNat T.u) 1)), T.sl (asL (T.cell (l.getD i.toNat T.u) 2)), T.sl (asL (T.cell (l.getD i.toNat T.u) 3)), T.s (asS (T.cell (l.getD i.toNat T.u) 4))], T.i .i64 x])
  (fun l x => f4_eq (Cc lf 3) lf l x) (fun l n x i => rfl) (fun l j x h hf => by
   obtain ⟨a0, a1, a2, a3, a4, e, _⟩ := fit_siScMssEs hf
   simp only [getD_nat h, e]
   rfl))
theorem to27 (hlf : 33554432 ≤ lf) {d : Nat} (hd : 1 ≤ d) : TO1 (Cc lf d) 27 (fitC (.sl false [.i .u8])) := by
 exact TO1.le (Cc_le hd) (to_slice1 (c' := Cc lf 1) hlf (m := false) (F := fun l n i out => f27_0 (Cc lf 0) lf l n i out) (G := fun _ _ => some []) (V := fun l i _ => T.i .u8 (asI (l.getD i.toNat T.u))) (fun l => f27_eq (Cc lf 0) lf l) (fun l n i out => rfl) (fun l j h hf _ => by
  refine ⟨[], rfl, ?_⟩
  have hf : fitC (.i .u8) l[j] := hf
  obtain ⟨v, e, _⟩ := fitC_i hf
  simp only [getD_nat h, e]
  rfl))
theorem to39 (hlf : 33554432 ≤ lf) {d : Nat} (hd : 1 ≤ d) : TO1 (Cc lf d) 39 (fitE true csfit_ss) := by
 refine TO1.le (Cc_le hd) ?_
 intro t ht hs
 obtain ⟨a0, a1, rfl, q0, q1⟩ := fit_ss ht
 simp only [tl, tls] at hs
 have hcall : Cc lf 1 39 [T.st [T.s a0, T.s a1]] = f39_t (Cc lf 0) lf a0 a1 := f39_eq (Cc lf 0) lf a0 a1
 rw [hcall]
 unfold f39_t
 rfl
theorem to28 (hlf : 33554432 ≤ lf) {d : Nat} (hd : 2 ≤ d) : TO1 (Cc lf d) 28 (fitC (.sl true [.s, .s])) := by
 exact TO1.le (Cc_le hd) (to_slice1 (c' := Cc lf 2) hlf (F := fun l n i out => f28_0 (Cc lf 1) lf l n i out) (G := fun l i => Cc lf 1 39 [T.st [T.s (asS (T.cell (l.getD i.toNat T.u) 0)), T.s (asS (T.cell (l.getD i.toNat T.u) 1))]]) (V := fun _ _ r => T.st [T.s (asS (T.cell (nth r 0) 0)), T.s (asS (T.cell (nth r 0) 1))]) (fun l => f28_eq (Cc lf 1) lf l) (fun l n i out => rfl) (fun l j h hf hs => by
  have hto := to39 hlf (d := 1) (by omega) _ hf hs
  obtain ⟨a0, a1, e, _⟩ := fit_ss hf
  rw [e] at hto
  simp only [getD_nat h, e]
  exact ⟨_, hto, rfl⟩))
theorem to14 (hlf : 33554432 ≤ lf) {d : Nat} (hd : 3 ≤ d) : TO1 (Cc lf d) 14 (fitE true csfit_siScMssEs) := by
 refine TO1.le (Cc_le hd) ?_
 intro t ht hs
 obtain ⟨a0, a1, a2, a3, a4, rfl, q0, q1, q2, q3, q4⟩ := fit_siScMssEs ht
 simp only [tl, tls] at hs
 have hcall : Cc lf 3 14 [T.st [T.s a0, T.i .i64 a1, T.sl a2, T.sl a3, T.s a4]] = f14_t (Cc lf 2) lf a0 a1 a2 a3 a4 := f14_eq (Cc lf 2) lf a0 a1 a2 a3 a4
 rw [hcall]
 unfold f14_t
 have e1 := to27 hlf (d := 2) (by omega) (T.sl a2) q2 (by simp only [tl, tls]; omega)
 have e2 := to28 hlf (d := 2) (by omega) (T.sl a3) q3 (by simp only [tl, tls]; omega)
 simp only [e1, e2, Option.bind_some, nth0, asL_l, asI_i, asB_b, asS_s, cell0, cellS]
theorem to6 (hlf : 33554432 ≤ lf) {d : Nat} (hd : 4 ≤ d) : TO1 (Cc lf d) 6 (fitC (.sl true [.s, .i .i64, .sl false [.i .u8], .sl true [.s, .s], .s])) := by
 exact TO1.le (Cc_le hd) (to_slice1 (c' := Cc lf 4) hlf (F := fun l n i out => f6_0 (Cc lf 3) lf l n i out) (G := fun l i => Cc lf 3 14 [T.st [T.s (asS (T.cell (l.getD i.toNat T.u) 0)), T.i .i64 (asI (T.cell (l.getD i.toNat T.u) 1)), T.sl (asL (T.cell (l.getD i.toNat T.u) 2)), T.sl (asL (T.cell (l.getD i.toNat T.u) 3)), T.s (asS (T.cell (l.getD i.toNat T.u) 4))]]) (V := fun _ _ r => T.st [T.s (asS (T.cell (nth r 0) 0)), T.i .i64 (asI (T.cell (nth r 0) 1)), T.sl (asL (T.cell (nth r 0) 2)), T.sl (asL (T.cell (nth r 0) 3)), T.s (asS (T.cell (nth r 0) 4))]) (fun l => f6_eq (Cc lf 3) lf l) (fun l n i out => rfl) (fun l j h hf hs => by
  have hto := to14 hlf (d := 3) (by omega) _ hf hs
  obtain ⟨a0, a1, a2, a3, a4, e, _⟩ := fit_siScMssEs hf
  rw [e] at hto
  simp only [getD_nat h, e]
  exact ⟨_, hto, rfl⟩))
theorem eq33 (hlf : 33554432 ≤ lf) {d : Nat} (hd : 1 ≤ d) : EQ1 (Cc lf d) 33 (fitC (.sl false [.i .u8])) := by
 exact EQ1.le (Cc_le hd) (eq_flat1 (c' := Cc lf 1) hlf (F := fun l l' n i => f33_0 (Cc lf 0) lf l l' n i) (N := fun l l' i => (asI (l.getD i.toNat T.u)) != (asI (l'.getD i.toNat T.u))) (fun l l' => f33_eq (Cc lf 0) lf l l') (fun l l' n i => rfl) (fun l i => by simp))
theorem eq42 (hlf : 33554432 ≤ lf) {d : Nat} (hd : 1 ≤ d) : EQ1 (Cc lf d) 42 (fitE true csfit_ss) := by
 refine EQ1.le (Cc_le hd) ?_
 intro t ht hs
 obtain ⟨a0, a1, rfl, q0, q1⟩ := fit_ss ht
 simp only [tl, tls] at hs
 have hcall : Cc lf 1 42 [T.st [T.s a0, T.s a1], T.st [T.s a0, T.s a1]] = f42_t (Cc lf 0) lf a0 a1 a0 a1 := f42_eq (Cc lf 0) lf a0 a1 a0 a1
 rw [hcall]
 unfold f42_t
 simp only [Option.bind_some, nth0, asB_b, Bool.not_true, cond_false, ne_f, beq_self_eq_true]
theorem eq34 (hlf : 33554432 ≤ lf) {d : Nat} (hd : 2 ≤ d) : EQ1 (Cc lf d) 34 (fitC (.sl true [.s, .s])) := by
 exact EQ1.le (Cc_le hd) (eq_slice1 (c' := Cc lf 2) hlf (F := fun l l' n i => f34_0 (Cc lf 1) lf l l' n i) (G := fun l l' i => Cc lf 1 42 [T.st [T.s (asS (T.cell (l.getD i.toNat T.u) 0)), T.s (asS (T.cell (l.getD i.toNat T.u) 1))], T.st [T.s (asS (T.cell (l'.getD i.toNat T.u) 0)), T.s (asS (T.cell (l'.getD i.toNat T.u) 1))]]) (fun l l' => f34_eq (Cc lf 1) lf l l') (fun l l' n i => rfl) (fun l j h hf hs => by
  have heq := eq42 hlf (d := 1) (by omega) _ hf hs
  obtain ⟨a0, a1, e, _⟩ := fit_ss hf
  rw [e] at heq
  simp only [getD_nat h, e]
  exact heq))
theorem eq21 (hlf : 33554432 ≤ lf) {d : Nat} (hd : 3 ≤ d) : EQ1 (Cc lf d) 21 (fitE true csfit_siScMssEs) := by
 refine EQ1.le (Cc_le hd) ?_
 intro t ht hs
 obtain ⟨a0, a1, a2, a3, a4, rfl, q0, q1, q2, q3, q4⟩ := fit_siScMssEs ht
 simp only [tl, tls] at hs
 have hcall : Cc lf 3 21 [T.st [T.s a0, T.i .i64 a1, T.sl a2, T.sl a3, T.s a4], T.st [T.s a0, T.i .i64 a1, T.sl a2, T.sl a3, T.s a4]] = f21_t (Cc lf 2) lf a0 a1 a2 a3 a4 a0 a1 a2 a3 a4 := f21_eq (Cc lf 2) lf a0 a1 a2 a3 a4 a0 a1 a2 a3 a4
 rw [hcall]
 unfold f21_t
 have e1 := eq33 hlf (d := 2) (by omega) (T.sl a2) q2 (by simp only [tl, tls]; omega)
 have e2 := eq34 hlf (d := 2) (by omega) (T.sl a3) q3 (by simp only [tl, tls]; omega)
 simp only [e1, e2, Option.bind_some, nth0, asB_b, Bool.not_true, cond_false, ne_f, beq_self_eq_true]
theorem eq8 (hlf : 33554432 ≤ lf) {d : Nat} (hd : 4 ≤ d) : EQ1 (Cc lf d) 8 (fitC (.sl true [.s, .i .i64, .sl false [.i .u8], .sl true [.s, .s], .s])) := by
 exact EQ1.le (Cc_le hd) (eq_slice1 (c' := Cc lf 4) hlf (F := fun l l' n i => f8_0 (Cc lf 3) lf l l' n i) (G := fun l l' i => Cc lf 3 21 [T.st [T.s (asS (T.cell (l.getD i.toNat T.u) 0)), T.i .i64 (asI (T.cell (l.getD i.toNat T.u) 1)), T.sl (asL (T.cell (l.getD i.toNat T.u) 2)), T.sl (asL (T.cell (l.getD i.toNat T.u) 3)), T.s (asS (T.cell (l.getD i.toNat T.u) 4))], T.st [T.s (asS (T.cell (l'.getD i.toNat T.u) 0)), T.i .i64 (asI (T.cell (l'.getD i.toNat T.u) 1)), T.sl (asL (T.cell (l'.getD i.toNat T.u) 2)), T.sl (asL (T.cell (l'.getD i.toNat T.u) 3)), T.s (asS (T.cell (l'.getD i.toNat T.u) 4))]]) (fun l l' => f8_eq (Cc lf 3) lf l l') (fun l l' n i => rfl) (fun l j h hf hs => by
  have heq := eq21 hlf (d := 3) (by omega) _ hf hs
  obtain ⟨a0, a1, a2, a3, a4, e, _⟩ := fit_siScMssEs hf
  rw [e] at heq
  simp only [getD_nat h, e]
  exact heq))
end
end Go.Proofs.YtdclnhlpifahpaaDoor.T
