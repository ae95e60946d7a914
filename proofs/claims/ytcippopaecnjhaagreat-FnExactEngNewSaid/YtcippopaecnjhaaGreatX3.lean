/- What functions of the law FnExactEngNew come to, in trees; no condition. -/
import Derived.Test.YtcippopaecnjhaaGreatRows
import Derived.Test.YtcippopaecnjhaaGreatX2
set_option linter.unusedVariables false
set_option linter.constructorNameAsVariable false
set_option linter.unusedSimpArgs false
set_option linter.unnecessarySimpa false
namespace Go.Proofs.YtcippopaecnjhaaGreat.T
open Go Go.Proofs.YtcippopaecnjhaaGreatV
set_option maxRecDepth 100000
noncomputable abbrev Cc (lf d : Nat) : Orc := orc X env lf 6 d
theorem Cc_le {lf d d' : Nat} (h : d ≤ d') : OLe (Cc lf d) (Cc lf d') := fun _ _ _ g => orc_le h g
section
variable {lf : Nat}
theorem sz5 (hlf : 33554432 ≤ lf) {d : Nat} (hd : 1 ≤ d) : SZ1 (Cc lf d) 5 (fitC (.sl true [.i .i64, .i .i64, .i .i64])) := by
 exact SZ1.le (Cc_le hd) (sz_flat1 (c := Cc lf 1) rfl fun l x => f5_eq (Cc lf 0) lf l x)
abbrev csfit_iii : List CT := [.i .i64, .i .i64, .i .i64]
theorem fit_iii {t : T} (h : fitE true csfit_iii t) : ∃ (a0 : Int) (a1 : Int) (a2 : Int), t = .st [.i .i64 a0, .i .i64 a1, .i .i64 a2] ∧ (Lit.int .i64 a0).wf = true ∧ (Lit.int .i64 a1).wf = true ∧ (Lit.int .i64 a2).wf = true := by
 obtain ⟨l, rfl, h⟩ := fitE_st h
 obtain ⟨x0, l0, rfl, h0, h⟩ := fitCs_cons h
 obtain ⟨x1, l1, rfl, h1, h⟩ := fitCs_cons h
 obtain ⟨x2, l2, rfl, h2, h⟩ := fitCs_cons h
 obtain rfl := fitCs_nil h
 obtain ⟨a0, rfl, q0⟩ := fitC_i h0
 obtain ⟨a1, rfl, q1⟩ := fitC_i h1
 obtain ⟨a2, rfl, q2⟩ := fitC_i h2
 exact ⟨a0, a1, a2, rfl, q0, q1, q2⟩
theorem to27 (hlf : 33554432 ≤ lf) {d : Nat} (hd : 1 ≤ d) : TO1 (Cc lf d) 27 (fitE true csfit_iii) := by
 refine TO1.le (Cc_le hd) ?_
 intro t ht hs
 obtain ⟨a0, a1, a2, rfl, q0, q1, q2⟩ := fit_iii ht
 simp only [tl, tls] at hs
 have hcall : Cc lf 1 27 [T.st [T.i .i64 a0, T.i .i64 a1, T.i .i64 a2]] = f27_t (Cc lf 0) lf a0 a1 a2 := f27_eq (Cc lf 0) lf a0 a1 a2
 rw [hcall]
 unfold f27_t
 rfl
theorem to7 (hlf : 33554432 ≤ lf) {d : Nat} (hd : 2 ≤ d) : TO1 (Cc lf d) 7 (fitC (.sl true [.i .i64, .i .i64, .i .i64])) := by
 exact TO1.le (Cc_le hd) (to_slice1 (c' := Cc lf 2) hlf (F := fun l n i out => f7_0 (Cc lf 1) lf l n i out) (G := fun l i => Cc lf 1 27 [T.st [T.i .i64 (asI (T.cell (l.getD i.toNat T.u) 0)), T.i .i64 (asI (T.cell (l.getD i.toNat T.u) 1)), T.i .i64 (asI (T.cell (l.getD i.toNat T.u) 2))]]) (V := fun _ _ r => T.st [T.i .i64 (asI (T.cell (nth r 0) 0)), T.i .i64 (asI (T.cell (nth r 0) 1)), T.i .i64 (asI (T.cell (nth r 0) 2))]) (fun l => f7_eq (Cc lf 1) lf l) (fun l n i out => rfl) (fun l j h hf hs => by
  have hto := to27 hlf (d := 1) (by omega) _ hf hs
  obtain ⟨a0, a1, a2, e, _⟩ := fit_iii hf
  rw [e] at hto
  simp only [getD_nat h, e]
  exact ⟨_, hto, rfl⟩))
theorem eq252 (hlf : 33554432 ≤ lf) {d : Nat} (hd : 1 ≤ d) : EQ1 (Cc lf d) 252 (fitC (.sl false [.i .u8])) := by
 exact EQ1.le (Cc_le hd) (eq_flat1 (c' := Cc lf 1) hlf (F := fun l l' n i => f252_0 (Cc lf 0) lf l l' n i) (N := fun l l' i => (asI (l.getD i.toNat T.u)) != (asI (l'.getD i.toNat T.u))) (fun l l' => f252_eq (Cc lf 0) lf l l') (fun l l' n i => rfl) (fun l i => by simp))
abbrev csfit_si : List CT := [.s, .i .i64]
theorem fit_si {t : T} (h : fitE true csfit_si t) : ∃ (a0 : ByteArray) (a1 : Int), t = .st [.s a0, .i .i64 a1] ∧ a0.size ≤ maxLen ∧ (Lit.int .i64 a1).wf = true := by
 obtain ⟨l, rfl, h⟩ := fitE_st h
 obtain ⟨x0, l0, rfl, h0, h⟩ := fitCs_cons h
 obtain ⟨x1, l1, rfl, h1, h⟩ := fitCs_cons h
 obtain rfl := fitCs_nil h
 obtain ⟨a0, rfl, q0⟩ := fitC_s h0
 obtain ⟨a1, rfl, q1⟩ := fitC_i h1
 exact ⟨a0, a1, rfl, q0, q1⟩
theorem eq257 (hlf : 33554432 ≤ lf) {d : Nat} (hd : 1 ≤ d) : EQ1 (Cc lf d) 257 (fitE true csfit_si) := by
 refine EQ1.le (Cc_le hd) ?_
 intro t ht hs
 obtain ⟨a0, a1, rfl, q0, q1⟩ := fit_si ht
 simp only [tl, tls] at hs
 have hcall : Cc lf 1 257 [T.st [T.s a0, T.i .i64 a1], T.st [T.s a0, T.i .i64 a1]] = f257_t (Cc lf 0) lf a0 a1 a0 a1 := f257_eq (Cc lf 0) lf a0 a1 a0 a1
 rw [hcall]
 unfold f257_t
 simp only [Option.bind_some, nth0, asB_b, Bool.not_true, cond_false, ne_f, beq_self_eq_true]
theorem eq253 (hlf : 33554432 ≤ lf) {d : Nat} (hd : 2 ≤ d) : EQ1 (Cc lf d) 253 (fitC (.sl true [.s, .i .i64])) := by
 exact EQ1.le (Cc_le hd) (eq_slice1 (c' := Cc lf 2) hlf (F := fun l l' n i => f253_0 (Cc lf 1) lf l l' n i) (G := fun l l' i => Cc lf 1 257 [T.st [T.s (asS (T.cell (l.getD i.toNat T.u) 0)), T.i .i64 (asI (T.cell (l.getD i.toNat T.u) 1))], T.st [T.s (asS (T.cell (l'.getD i.toNat T.u) 0)), T.i .i64 (asI (T.cell (l'.getD i.toNat T.u) 1))]]) (fun l l' => f253_eq (Cc lf 1) lf l l') (fun l l' n i => rfl) (fun l j h hf hs => by
  have heq := eq257 hlf (d := 1) (by omega) _ hf hs
  obtain ⟨a0, a1, e, _⟩ := fit_si hf
  rw [e] at heq
  simp only [getD_nat h, e]
  exact heq))
abbrev csfit_ss : List CT := [.s, .s]
theorem fit_ss {t : T} (h : fitE true csfit_ss t) : ∃ (a0 : ByteArray) (a1 : ByteArray), t = .st [.s a0, .s a1] ∧ a0.size ≤ maxLen ∧ a1.size ≤ maxLen := by
 obtain ⟨l, rfl, h⟩ := fitE_st h
 obtain ⟨x0, l0, rfl, h0, h⟩ := fitCs_cons h
 obtain ⟨x1, l1, rfl, h1, h⟩ := fitCs_cons h
 obtain rfl := fitCs_nil h
 obtain ⟨a0, rfl, q0⟩ := fitC_s h0
 obtain ⟨a1, rfl, q1⟩ := fitC_s h1
 exact ⟨a0, a1, rfl, q0, q1⟩
theorem eq258 (hlf : 33554432 ≤ lf) {d : Nat} (hd : 1 ≤ d) : EQ1 (Cc lf d) 258 (fitE true csfit_ss) := by
 refine EQ1.le (Cc_le hd) ?_
 intro t ht hs
 obtain ⟨a0, a1, rfl, q0, q1⟩ := fit_ss ht
 simp only [tl, tls] at hs
 have hcall : Cc lf 1 258 [T.st [T.s a0, T.s a1], T.st [T.s a0, T.s a1]] = f258_t (Cc lf 0) lf a0 a1 a0 a1 := f258_eq (Cc lf 0) lf a0 a1 a0 a1
 rw [hcall]
 unfold f258_t
 simp only [Option.bind_some, nth0, asB_b, Bool.not_true, cond_false, ne_f, beq_self_eq_true]
theorem eq254 (hlf : 33554432 ≤ lf) {d : Nat} (hd : 2 ≤ d) : EQ1 (Cc lf d) 254 (fitC (.sl true [.s, .s])) := by
 exact EQ1.le (Cc_le hd) (eq_slice1 (c' := Cc lf 2) hlf (F := fun l l' n i => f254_0 (Cc lf 1) lf l l' n i) (G := fun l l' i => Cc lf 1 258 [T.st [T.s (asS (T.cell (l.getD i.toNat T.u) 0)), T.s (asS (T.cell (l.getD i.toNat T.u) 1))], T.st [T.s (asS (T.cell (l'.getD i.toNat T.u) 0)), T.s (asS (T.cell (l'.getD i.toNat T.u) 1))]]) (fun l l' => f254_eq (Cc lf 1) lf l l') (fun l l' n i => rfl) (fun l j h hf hs => by
  have heq := eq258 hlf (d := 1) (by omega) _ hf hs
  obtain ⟨a0, a1, e, _⟩ := fit_ss hf
  rw [e] at heq
  simp only [getD_nat h, e]
  exact heq))
abbrev csfit_iiiScMsiEMssE : List CT := [.i .i64, .i .i64, .i .i64, .sl false [.i .u8], .sl true [.s, .i .i64], .sl true [.s, .s]]
theorem fit_iiiScMsiEMssE {t : T} (h : fitE true csfit_iiiScMsiEMssE t) : ∃ (a0 : Int) (a1 : Int) (a2 : Int) (a3 : List T) (a4 : List T) (a5 : List T), t = .st [.i .i64 a0, .i .i64 a1, .i .i64 a2, .sl a3, .sl a4, .sl a5] ∧ (Lit.int .i64 a0).wf = true ∧ (Lit.int .i64 a1).wf = true ∧ (Lit.int .i64 a2).wf = true ∧ fitC (.sl false [.i .u8]) (.sl a3) ∧ fitC (.sl true [.s, .i .i64]) (.sl a4) ∧ fitC (.sl true [.s, .s]) (.sl a5) := by
 obtain ⟨l, rfl, h⟩ := fitE_st h
 obtain ⟨x0, l0, rfl, h0, h⟩ := fitCs_cons h
 obtain ⟨x1, l1, rfl, h1, h⟩ := fitCs_cons h
 obtain ⟨x2, l2, rfl, h2, h⟩ := fitCs_cons h
 obtain ⟨x3, l3, rfl, h3, h⟩ := fitCs_cons h
 obtain ⟨x4, l4, rfl, h4, h⟩ := fitCs_cons h
 obtain ⟨x5, l5, rfl, h5, h⟩ := fitCs_cons h
 obtain rfl := fitCs_nil h
 obtain ⟨a0, rfl, q0⟩ := fitC_i h0
 obtain ⟨a1, rfl, q1⟩ := fitC_i h1
 obtain ⟨a2, rfl, q2⟩ := fitC_i h2
 obtain ⟨a3, rfl, q3⟩ := fitC_sl h3
 obtain ⟨a4, rfl, q4⟩ := fitC_sl h4
 obtain ⟨a5, rfl, q5⟩ := fitC_sl h5
 exact ⟨a0, a1, a2, a3, a4, a5, rfl, q0, q1, q2, q3, q4, q5⟩
theorem eq242 (hlf : 33554432 ≤ lf) {d : Nat} (hd : 3 ≤ d) : EQ1 (Cc lf d) 242 (fitE true csfit_iiiScMsiEMssE) := by
 refine EQ1.le (Cc_le hd) ?_
 intro t ht hs
 obtain ⟨a0, a1, a2, a3, a4, a5, rfl, q0, q1, q2, q3, q4, q5⟩ := fit_iiiScMsiEMssE ht
 simp only [tl, tls] at hs
 have hcall : Cc lf 3 242 [T.st [T.i .i64 a0, T.i .i64 a1, T.i .i64 a2, T.sl a3, T.sl a4, T.sl a5], T.st [T.i .i64 a0, T.i .i64 a1, T.i .i64 a2, T.sl a3, T.sl a4, T.sl a5]] = f242_t (Cc lf 2) lf a0 a1 a2 a3 a4 a5 a0 a1 a2 a3 a4 a5 := f242_eq (Cc lf 2) lf a0 a1 a2 a3 a4 a5 a0 a1 a2 a3 a4 a5
 rw [hcall]
 unfold f242_t
 have e1 := eq252 hlf (d := 2) (by omega) (T.sl a3) q3 (by simp only [tl, tls]; omega)
 have e2 := eq253 hlf (d := 2) (by omega) (T.sl a4) q4 (by simp only [tl, tls]; omega)
 have e3 := eq254 hlf (d := 2) (by omega) (T.sl a5) q5 (by simp only [tl, tls]; omega)
 simp only [e1, e2, e3, Option.bind_some, nth0, asB_b, Bool.not_true, cond_false, ne_f, beq_self_eq_true]
theorem eq215 (hlf : 33554432 ≤ lf) {d : Nat} (hd : 4 ≤ d) : EQ1 (Cc lf d) 215 (fitC (.sl true [.i .i64, .i .i64, .i .i64, .sl false [.i .u8], .sl true [.s, .i .i64], .sl true [.s, .s]])) := by
 exact EQ1.le (Cc_le hd) (eq_slice1 (c' := Cc lf 4) hlf (F := fun l l' n i => f215_0 (Cc lf 3) lf l l' n i) (G := fun l l' i => Cc lf 3 242 [T.st [T.i .i64 (asI (T.cell (l.getD i.toNat T.u) 0)), T.i .i64 (asI (T.cell (l.getD i.toNat T.u) 1)), T.i .i64 (asI (T.cell (l.getD i.toNat T.u) 2)), T.sl (asL (T.cell (l.getD i.toNat T.u) 3)), T.sl (asL (T.cell (l.getD i.toNat T.u) 4)), T.sl (asL (T.cell (l.getD i.toNat T.u) 5))], T.st [T.i .i64 (asI (T.cell (l'.getD i.toNat T.u) 0)), T.i .i64 (asI (T.cell (l'.getD i.toNat T.u) 1)), T.i .i64 (asI (T.cell (l'.getD i.toNat T.u) 2)), T.sl (asL (T.cell (l'.getD i.toNat T.u) 3)), T.sl (asL (T.cell (l'.getD i.toNat T.u) 4)), T.sl (asL (T.cell (l'.getD i.toNat T.u) 5))]]) (fun l l' => f215_eq (Cc lf 3) lf l l') (fun l l' n i => rfl) (fun l j h hf hs => by
  have heq := eq242 hlf (d := 3) (by omega) _ hf hs
  obtain ⟨a0, a1, a2, a3, a4, a5, e, _⟩ := fit_iiiScMsiEMssE hf
  rw [e] at heq
  simp only [getD_nat h, e]
  exact heq))
abbrev csfit_MiiiScMsiEMssEEi : List CT := [.sl true [.i .i64, .i .i64, .i .i64, .sl false [.i .u8], .sl true [.s, .i .i64], .sl true [.s, .s]], .i .i64]
theorem fit_MiiiScMsiEMssEEi {t : T} (h : fitE true csfit_MiiiScMsiEMssEEi t) : ∃ (a0 : List T) (a1 : Int), t = .st [.sl a0, .i .i64 a1] ∧ fitC (.sl true [.i .i64, .i .i64, .i .i64, .sl false [.i .u8], .sl true [.s, .i .i64], .sl true [.s, .s]]) (.sl a0) ∧ (Lit.int .i64 a1).wf = true := by
 obtain ⟨l, rfl, h⟩ := fitE_st h
 obtain ⟨x0, l0, rfl, h0, h⟩ := fitCs_cons h
 obtain ⟨x1, l1, rfl, h1, h⟩ := fitCs_cons h
 obtain rfl := fitCs_nil h
 obtain ⟨a0, rfl, q0⟩ := fitC_sl h0
 obtain ⟨a1, rfl, q1⟩ := fitC_i h1
 exact ⟨a0, a1, rfl, q0, q1⟩
theorem eq183 (hlf : 33554432 ≤ lf) {d : Nat} (hd : 5 ≤ d) : EQ1 (Cc lf d) 183 (fitE true csfit_MiiiScMsiEMssEEi) := by
 refine EQ1.le (Cc_le hd) ?_
 intro t ht hs
 obtain ⟨a0, a1, rfl, q0, q1⟩ := fit_MiiiScMsiEMssEEi ht
 simp only [tl, tls] at hs
 have hcall : Cc lf 5 183 [T.st [T.sl a0, T.i .i64 a1], T.st [T.sl a0, T.i .i64 a1]] = f183_t (Cc lf 4) lf a0 a1 a0 a1 := f183_eq (Cc lf 4) lf a0 a1 a0 a1
 rw [hcall]
 unfold f183_t
 have e1 := eq215 hlf (d := 4) (by omega) (T.sl a0) q0 (by simp only [tl, tls]; omega)
 simp only [e1, Option.bind_some, nth0, asB_b, Bool.not_true, cond_false, ne_f, beq_self_eq_true]
abbrev csfit_isbiMiiiScMsiEMssEEi : List CT := [.i .i64, .s, .b, .i .i64, .sl true [.i .i64, .i .i64, .i .i64, .sl false [.i .u8], .sl true [.s, .i .i64], .sl true [.s, .s]], .i .i64]
theorem fit_isbiMiiiScMsiEMssEEi {t : T} (h : fitE true csfit_isbiMiiiScMsiEMssEEi t) : ∃ (a0 : Int) (a1 : ByteArray) (a2 : Bool) (a3 : Int) (a4 : List T) (a5 : Int), t = .st [.i .i64 a0, .s a1, .b a2, .i .i64 a3, .sl a4, .i .i64 a5] ∧ (Lit.int .i64 a0).wf = true ∧ a1.size ≤ maxLen ∧ (Lit.int .i64 a3).wf = true ∧ fitC (.sl true [.i .i64, .i .i64, .i .i64, .sl false [.i .u8], .sl true [.s, .i .i64], .sl true [.s, .s]]) (.sl a4) ∧ (Lit.int .i64 a5).wf = true := by
 obtain ⟨l, rfl, h⟩ := fitE_st h
 obtain ⟨x0, l0, rfl, h0, h⟩ := fitCs_cons h
 obtain ⟨x1, l1, rfl, h1, h⟩ := fitCs_cons h
 obtain ⟨x2, l2, rfl, h2, h⟩ := fitCs_cons h
 obtain ⟨x3, l3, rfl, h3, h⟩ := fitCs_cons h
 obtain ⟨x4, l4, rfl, h4, h⟩ := fitCs_cons h
 obtain ⟨x5, l5, rfl, h5, h⟩ := fitCs_cons h
 obtain rfl := fitCs_nil h
 obtain ⟨a0, rfl, q0⟩ := fitC_i h0
 obtain ⟨a1, rfl, q1⟩ := fitC_s h1
 obtain ⟨a2, rfl⟩ := fitC_b h2
 obtain ⟨a3, rfl, q3⟩ := fitC_i h3
 obtain ⟨a4, rfl, q4⟩ := fitC_sl h4
 obtain ⟨a5, rfl, q5⟩ := fitC_i h5
 exact ⟨a0, a1, a2, a3, a4, a5, rfl, q0, q1, q3, q4, q5⟩
theorem eq129 (hlf : 33554432 ≤ lf) {d : Nat} (hd : 6 ≤ d) : EQ1 (Cc lf d) 129 (fitE true csfit_isbiMiiiScMsiEMssEEi) := by
 refine EQ1.le (Cc_le hd) ?_
 intro t ht hs
 obtain ⟨a0, a1, a2, a3, a4, a5, rfl, q0, q1, q3, q4, q5⟩ := fit_isbiMiiiScMsiEMssEEi ht
 simp only [tl, tls] at hs
 have hcall : Cc lf 6 129 [T.st [T.i .i64 a0, T.s a1, T.b a2, T.i .i64 a3, T.sl a4, T.i .i64 a5], T.st [T.i .i64 a0, T.s a1, T.b a2, T.i .i64 a3, T.sl a4, T.i .i64 a5]] = f129_t (Cc lf 5) lf a0 a1 a2 a3 a4 a5 a0 a1 a2 a3 a4 a5 := f129_eq (Cc lf 5) lf a0 a1 a2 a3 a4 a5 a0 a1 a2 a3 a4 a5
 rw [hcall]
 unfold f129_t
 have e1 := eq183 hlf (d := 5) (by omega) (T.st [T.sl a4, T.i .i64 a5]) (show fitE true csfit_MiiiScMsiEMssEEi (T.st [T.sl a4, T.i .i64 a5]) from ⟨q4, ⟨rfl, q5⟩, trivial⟩) (by simp only [tl, tls]; omega)
 simp only [e1, Option.bind_some, nth0, asB_b, Bool.not_true, cond_false, ne_f, beq_self_eq_true]
theorem eq71 (hlf : 33554432 ≤ lf) {d : Nat} (hd : 7 ≤ d) : EQ1 (Cc lf d) 71 (fitC (.sl true [.i .i64, .s, .b, .i .i64, .sl true [.i .i64, .i .i64, .i .i64, .sl false [.i .u8], .sl true [.s, .i .i64], .sl true [.s, .s]], .i .i64])) := by
 exact EQ1.le (Cc_le hd) (eq_slice1 (c' := Cc lf 7) hlf (F := fun l l' n i => f71_0 (Cc lf 6) lf l l' n i) (G := fun l l' i => Cc lf 6 129 [T.st [T.i .i64 (asI (T.cell (l.getD i.toNat T.u) 0)), T.s (asS (T.cell (l.getD i.toNat T.u) 1)), T.b (asB (T.cell (l.getD i.toNat T.u) 2)), T.i .i64 (asI (T.cell (l.getD i.toNat T.u) 3)), T.sl (asL (T.cell (l.getD i.toNat T.u) 4)), T.i .i64 (asI (T.cell (l.getD i.toNat T.u) 5))], T.st [T.i .i64 (asI (T.cell (l'.getD i.toNat T.u) 0)), T.s (asS (T.cell (l'.getD i.toNat T.u) 1)), T.b (asB (T.cell (l'.getD i.toNat T.u) 2)), T.i .i64 (asI (T.cell (l'.getD i.toNat T.u) 3)), T.sl (asL (T.cell (l'.getD i.toNat T.u) 4)), T.i .i64 (asI (T.cell (l'.getD i.toNat T.u) 5))]]) (fun l l' => f71_eq (Cc lf 6) lf l l') (fun l l' n i => rfl) (fun l j h hf hs => by
  have heq := eq129 hlf (d := 6) (by omega) _ hf hs
  obtain ⟨a0, a1, a2, a3, a4, a5, e, _⟩ := fit_isbiMiiiScMsiEMssEEi hf
  rw [e] at heq
  simp only [getD_nat h, e]
  exact heq))
abbrev csfit_MisbiMiiiScMsiEMssEEiEi : List CT := [.sl true [.i .i64, .s, .b, .i .i64, .sl true [.i .i64, .i .i64, .i .i64, .sl false [.i .u8], .sl true [.s, .i .i64], .sl true [.s, .s]], .i .i64], .i .i64]
theorem fit_MisbiMiiiScMsiEMssEEiEi {t : T} (h : fitE true csfit_MisbiMiiiScMsiEMssEEiEi t) : ∃ (a0 : List T) (a1 : Int), t = .st [.sl a0, .i .i64 a1] ∧ fitC (.sl true [.i .i64, .s, .b, .i .i64, .sl true [.i .i64, .i .i64, .i .i64, .sl false [.i .u8], .sl true [.s, .i .i64], .sl true [.s, .s]], .i .i64]) (.sl a0) ∧ (Lit.int .i64 a1).wf = true := by
 obtain ⟨l, rfl, h⟩ := fitE_st h
 obtain ⟨x0, l0, rfl, h0, h⟩ := fitCs_cons h
 obtain ⟨x1, l1, rfl, h1, h⟩ := fitCs_cons h
 obtain rfl := fitCs_nil h
 obtain ⟨a0, rfl, q0⟩ := fitC_sl h0
 obtain ⟨a1, rfl, q1⟩ := fitC_i h1
 exact ⟨a0, a1, rfl, q0, q1⟩
theorem eq30 (hlf : 33554432 ≤ lf) {d : Nat} (hd : 8 ≤ d) : EQ1 (Cc lf d) 30 (fitE true csfit_MisbiMiiiScMsiEMssEEiEi) := by
 refine EQ1.le (Cc_le hd) ?_
 intro t ht hs
 obtain ⟨a0, a1, rfl, q0, q1⟩ := fit_MisbiMiiiScMsiEMssEEiEi ht
 simp only [tl, tls] at hs
 have hcall : Cc lf 8 30 [T.st [T.sl a0, T.i .i64 a1], T.st [T.sl a0, T.i .i64 a1]] = f30_t (Cc lf 7) lf a0 a1 a0 a1 := f30_eq (Cc lf 7) lf a0 a1 a0 a1
 rw [hcall]
 unfold f30_t
 have e1 := eq71 hlf (d := 7) (by omega) (T.sl a0) q0 (by simp only [tl, tls]; omega)
 simp only [e1, Option.bind_some, nth0, asB_b, Bool.not_true, cond_false, ne_f, beq_self_eq_true]
abbrev csfit_isbii : List CT := [.i .i64, .s, .b, .i .i64, .i .i64]
theorem fit_isbii {t : T} (h : fitE true csfit_isbii t) : ∃ (a0 : Int) (a1 : ByteArray) (a2 : Bool) (a3 : Int) (a4 : Int), t = .st [.i .i64 a0, .s a1, .b a2, .i .i64 a3, .i .i64 a4] ∧ (Lit.int .i64 a0).wf = true ∧ a1.size ≤ maxLen ∧ (Lit.int .i64 a3).wf = true ∧ (Lit.int .i64 a4).wf = true := by
 obtain ⟨l, rfl, h⟩ := fitE_st h
 obtain ⟨x0, l0, rfl, h0, h⟩ := fitCs_cons h
 obtain ⟨x1, l1, rfl, h1, h⟩ := fitCs_cons h
 obtain ⟨x2, l2, rfl, h2, h⟩ := fitCs_cons h
 obtain ⟨x3, l3, rfl, h3, h⟩ := fitCs_cons h
 obtain ⟨x4, l4, rfl, h4, h⟩ := fitCs_cons h
 obtain rfl := fitCs_nil h
 obtain ⟨a0, rfl, q0⟩ := fitC_i h0
 obtain ⟨a1, rfl, q1⟩ := fitC_s h1
 obtain ⟨a2, rfl⟩ := fitC_b h2
 obtain ⟨a3, rfl, q3⟩ := fitC_i h3
 obtain ⟨a4, rfl, q4⟩ := fitC_i h4
 exact ⟨a0, a1, a2, a3, a4, rfl, q0, q1, q3, q4⟩
theorem eq184 (hlf : 33554432 ≤ lf) {d : Nat} (hd : 1 ≤ d) : EQ1 (Cc lf d) 184 (fitE true csfit_isbii) := by
 refine EQ1.le (Cc_le hd) ?_
 intro t ht hs
 obtain ⟨a0, a1, a2, a3, a4, rfl, q0, q1, q3, q4⟩ := fit_isbii ht
 simp only [tl, tls] at hs
 have hcall : Cc lf 1 184 [T.st [T.i .i64 a0, T.s a1, T.b a2, T.i .i64 a3, T.i .i64 a4], T.st [T.i .i64 a0, T.s a1, T.b a2, T.i .i64 a3, T.i .i64 a4]] = f184_t (Cc lf 0) lf a0 a1 a2 a3 a4 a0 a1 a2 a3 a4 := f184_eq (Cc lf 0) lf a0 a1 a2 a3 a4 a0 a1 a2 a3 a4
 rw [hcall]
 unfold f184_t
 simp only [Option.bind_some, nth0, asB_b, Bool.not_true, cond_false, ne_f, beq_self_eq_true]
theorem eq130 (hlf : 33554432 ≤ lf) {d : Nat} (hd : 2 ≤ d) : EQ1 (Cc lf d) 130 (fitC (.sl true [.i .i64, .s, .b, .i .i64, .i .i64])) := by
 exact EQ1.le (Cc_le hd) (eq_slice1 (c' := Cc lf 2) hlf (F := fun l l' n i => f130_0 (Cc lf 1) lf l l' n i) (G := fun l l' i => Cc lf 1 184 [T.st [T.i .i64 (asI (T.cell (l.getD i.toNat T.u) 0)), T.s (asS (T.cell (l.getD i.toNat T.u) 1)), T.b (asB (T.cell (l.getD i.toNat T.u) 2)), T.i .i64 (asI (T.cell (l.getD i.toNat T.u) 3)), T.i .i64 (asI (T.cell (l.getD i.toNat T.u) 4))], T.st [T.i .i64 (asI (T.cell (l'.getD i.toNat T.u) 0)), T.s (asS (T.cell (l'.getD i.toNat T.u) 1)), T.b (asB (T.cell (l'.getD i.toNat T.u) 2)), T.i .i64 (asI (T.cell (l'.getD i.toNat T.u) 3)), T.i .i64 (asI (T.cell (l'.getD i.toNat T.u) 4))]]) (fun l l' => f130_eq (Cc lf 1) lf l l') (fun l l' n i => rfl) (fun l j h hf hs => by
  have heq := eq184 hlf (d := 1) (by omega) _ hf hs
  obtain ⟨a0, a1, a2, a3, a4, e, _⟩ := fit_isbii hf
  rw [e] at heq
  simp only [getD_nat h, e]
  exact heq))
abbrev csfit_iMisbiiE : List CT := [.i .i64, .sl true [.i .i64, .s, .b, .i .i64, .i .i64]]
theorem fit_iMisbiiE {t : T} (h : fitE true csfit_iMisbiiE t) : ∃ (a0 : Int) (a1 : List T), t = .st [.i .i64 a0, .sl a1] ∧ (Lit.int .i64 a0).wf = true ∧ fitC (.sl true [.i .i64, .s, .b, .i .i64, .i .i64]) (.sl a1) := by
 obtain ⟨l, rfl, h⟩ := fitE_st h
 obtain ⟨x0, l0, rfl, h0, h⟩ := fitCs_cons h
 obtain ⟨x1, l1, rfl, h1, h⟩ := fitCs_cons h
 obtain rfl := fitCs_nil h
 obtain ⟨a0, rfl, q0⟩ := fitC_i h0
 obtain ⟨a1, rfl, q1⟩ := fitC_sl h1
 exact ⟨a0, a1, rfl, q0, q1⟩
theorem eq72 (hlf : 33554432 ≤ lf) {d : Nat} (hd : 3 ≤ d) : EQ1 (Cc lf d) 72 (fitE true csfit_iMisbiiE) := by
 refine EQ1.le (Cc_le hd) ?_
 intro t ht hs
 obtain ⟨a0, a1, rfl, q0, q1⟩ := fit_iMisbiiE ht
 simp only [tl, tls] at hs
 have hcall : Cc lf 3 72 [T.st [T.i .i64 a0, T.sl a1], T.st [T.i .i64 a0, T.sl a1]] = f72_t (Cc lf 2) lf a0 a1 a0 a1 := f72_eq (Cc lf 2) lf a0 a1 a0 a1
 rw [hcall]
 unfold f72_t
 have e1 := eq130 hlf (d := 2) (by omega) (T.sl a1) q1 (by simp only [tl, tls]; omega)
 simp only [e1, Option.bind_some, nth0, asB_b, Bool.not_true, cond_false, ne_f, beq_self_eq_true]
abbrev csfit_ii : List CT := [.i .i64, .i .i64]
theorem fit_ii {t : T} (h : fitE true csfit_ii t) : ∃ (a0 : Int) (a1 : Int), t = .st [.i .i64 a0, .i .i64 a1] ∧ (Lit.int .i64 a0).wf = true ∧ (Lit.int .i64 a1).wf = true := by
 obtain ⟨l, rfl, h⟩ := fitE_st h
 obtain ⟨x0, l0, rfl, h0, h⟩ := fitCs_cons h
 obtain ⟨x1, l1, rfl, h1, h⟩ := fitCs_cons h
 obtain rfl := fitCs_nil h
 obtain ⟨a0, rfl, q0⟩ := fitC_i h0
 obtain ⟨a1, rfl, q1⟩ := fitC_i h1
 exact ⟨a0, a1, rfl, q0, q1⟩
theorem eq216 (hlf : 33554432 ≤ lf) {d : Nat} (hd : 1 ≤ d) : EQ1 (Cc lf d) 216 (fitE true csfit_ii) := by
 refine EQ1.le (Cc_le hd) ?_
 intro t ht hs
 obtain ⟨a0, a1, rfl, q0, q1⟩ := fit_ii ht
 simp only [tl, tls] at hs
 have hcall : Cc lf 1 216 [T.st [T.i .i64 a0, T.i .i64 a1], T.st [T.i .i64 a0, T.i .i64 a1]] = f216_t (Cc lf 0) lf a0 a1 a0 a1 := f216_eq (Cc lf 0) lf a0 a1 a0 a1
 rw [hcall]
 unfold f216_t
 simp only [Option.bind_some, nth0, asB_b, Bool.not_true, cond_false, ne_f, beq_self_eq_true]
theorem eq185 (hlf : 33554432 ≤ lf) {d : Nat} (hd : 2 ≤ d) : EQ1 (Cc lf d) 185 (fitC (.sl true [.i .i64, .i .i64])) := by
 exact EQ1.le (Cc_le hd) (eq_slice1 (c' := Cc lf 2) hlf (F := fun l l' n i => f185_0 (Cc lf 1) lf l l' n i) (G := fun l l' i => Cc lf 1 216 [T.st [T.i .i64 (asI (T.cell (l.getD i.toNat T.u) 0)), T.i .i64 (asI (T.cell (l.getD i.toNat T.u) 1))], T.st [T.i .i64 (asI (T.cell (l'.getD i.toNat T.u) 0)), T.i .i64 (asI (T.cell (l'.getD i.toNat T.u) 1))]]) (fun l l' => f185_eq (Cc lf 1) lf l l') (fun l l' n i => rfl) (fun l j h hf hs => by
  have heq := eq216 hlf (d := 1) (by omega) _ hf hs
  obtain ⟨a0, a1, e, _⟩ := fit_ii hf
  rw [e] at heq
  simp only [getD_nat h, e]
  exact heq))
abbrev csfit_iMiiE : List CT := [.i .i64, .sl true [.i .i64, .i .i64]]
theorem fit_iMiiE {t : T} (h : fitE true csfit_iMiiE t) : ∃ (a0 : Int) (a1 : List T), t = .st [.i .i64 a0, .sl a1] ∧ (Lit.int .i64 a0).wf = true ∧ fitC (.sl true [.i .i64, .i .i64]) (.sl a1) := by
 obtain ⟨l, rfl, h⟩ := fitE_st h
 obtain ⟨x0, l0, rfl, h0, h⟩ := fitCs_cons h
 obtain ⟨x1, l1, rfl, h1, h⟩ := fitCs_cons h
 obtain rfl := fitCs_nil h
 obtain ⟨a0, rfl, q0⟩ := fitC_i h0
 obtain ⟨a1, rfl, q1⟩ := fitC_sl h1
 exact ⟨a0, a1, rfl, q0, q1⟩
theorem eq131 (hlf : 33554432 ≤ lf) {d : Nat} (hd : 3 ≤ d) : EQ1 (Cc lf d) 131 (fitE true csfit_iMiiE) := by
 refine EQ1.le (Cc_le hd) ?_
 intro t ht hs
 obtain ⟨a0, a1, rfl, q0, q1⟩ := fit_iMiiE ht
 simp only [tl, tls] at hs
 have hcall : Cc lf 3 131 [T.st [T.i .i64 a0, T.sl a1], T.st [T.i .i64 a0, T.sl a1]] = f131_t (Cc lf 2) lf a0 a1 a0 a1 := f131_eq (Cc lf 2) lf a0 a1 a0 a1
 rw [hcall]
 unfold f131_t
 have e1 := eq185 hlf (d := 2) (by omega) (T.sl a1) q1 (by simp only [tl, tls]; omega)
 simp only [e1, Option.bind_some, nth0, asB_b, Bool.not_true, cond_false, ne_f, beq_self_eq_true]
theorem eq73 (hlf : 33554432 ≤ lf) {d : Nat} (hd : 4 ≤ d) : EQ1 (Cc lf d) 73 (fitC (.sl true [.i .i64, .sl true [.i .i64, .i .i64]])) := by
 exact EQ1.le (Cc_le hd) (eq_slice1 (c' := Cc lf 4) hlf (F := fun l l' n i => f73_0 (Cc lf 3) lf l l' n i) (G := fun l l' i => Cc lf 3 131 [T.st [T.i .i64 (asI (T.cell (l.getD i.toNat T.u) 0)), T.sl (asL (T.cell (l.getD i.toNat T.u) 1))], T.st [T.i .i64 (asI (T.cell (l'.getD i.toNat T.u) 0)), T.sl (asL (T.cell (l'.getD i.toNat T.u) 1))]]) (fun l l' => f73_eq (Cc lf 3) lf l l') (fun l l' n i => rfl) (fun l j h hf hs => by
  have heq := eq131 hlf (d := 3) (by omega) _ hf hs
  obtain ⟨a0, a1, e, _⟩ := fit_iMiiE hf
  rw [e] at heq
  simp only [getD_nat h, e]
  exact heq))
abbrev csfit_MisbiMiiiScMsiEMssEEiEiiMisbiiEMiMiiEEii : List CT := [.sl true [.i .i64, .s, .b, .i .i64, .sl true [.i .i64, .i .i64, .i .i64, .sl false [.i .u8], .sl true [.s, .i .i64], .sl true [.s, .s]], .i .i64], .i .i64, .i .i64, .sl true [.i .i64, .s, .b, .i .i64, .i .i64], .sl true [.i .i64, .sl true [.i .i64, .i .i64]], .i .i64, .i .i64]
theorem fit_MisbiMiiiScMsiEMssEEiEiiMisbiiEMiMiiEEii {t : T} (h : fitE true csfit_MisbiMiiiScMsiEMssEEiEiiMisbiiEMiMiiEEii t) : ∃ (a0 : List T) (a1 : Int) (a2 : Int) (a3 : List T) (a4 : List T) (a5 : Int) (a6 : Int), t = .st [.sl a0, .i .i64 a1, .i .i64 a2, .sl a3, .sl a4, .i .i64 a5, .i .i64 a6] ∧ fitC (.sl true [.i .i64, .s, .b, .i .i64, .sl true [.i .i64, .i .i64, .i .i64, .sl false [.i .u8], .sl true [.s, .i .i64], .sl true [.s, .s]], .i .i64]) (.sl a0) ∧ (Lit.int .i64 a1).wf = true ∧ (Lit.int .i64 a2).wf = true ∧ fitC (.sl true [.i .i64, .s, .b, .i .i64, .i .i64]) (.sl a3) ∧ fitC (.sl true [.i .i64, .sl true [.i .i64, .i .i64]]) (.sl a4) ∧ (Lit.int .i64 a5).wf = true ∧ (Lit.int .i64 a6).wf = true := by
 obtain ⟨l, rfl, h⟩ := fitE_st h
 obtain ⟨x0, l0, rfl, h0, h⟩ := fitCs_cons h
 obtain ⟨x1, l1, rfl, h1, h⟩ := fitCs_cons h
 obtain ⟨x2, l2, rfl, h2, h⟩ := fitCs_cons h
 obtain ⟨x3, l3, rfl, h3, h⟩ := fitCs_cons h
 obtain ⟨x4, l4, rfl, h4, h⟩ := fitCs_cons h
 obtain ⟨x5, l5, rfl, h5, h⟩ := fitCs_cons h
 obtain ⟨x6, l6, rfl, h6, h⟩ := fitCs_cons h
 obtain rfl := fitCs_nil h
 obtain ⟨a0, rfl, q0⟩ := fitC_sl h0
 obtain ⟨a1, rfl, q1⟩ := fitC_i h1
 obtain ⟨a2, rfl, q2⟩ := fitC_i h2
 obtain ⟨a3, rfl, q3⟩ := fitC_sl h3
 obtain ⟨a4, rfl, q4⟩ := fitC_sl h4
 obtain ⟨a5, rfl, q5⟩ := fitC_i h5
 obtain ⟨a6, rfl, q6⟩ := fitC_i h6
 exact ⟨a0, a1, a2, a3, a4, a5, a6, rfl, q0, q1, q2, q3, q4, q5, q6⟩
theorem eq31 (hlf : 33554432 ≤ lf) {d : Nat} (hd : 9 ≤ d) : EQ1 (Cc lf d) 31 (fitE true csfit_MisbiMiiiScMsiEMssEEiEiiMisbiiEMiMiiEEii) := by
 refine EQ1.le (Cc_le hd) ?_
 intro t ht hs
 obtain ⟨a0, a1, a2, a3, a4, a5, a6, rfl, q0, q1, q2, q3, q4, q5, q6⟩ := fit_MisbiMiiiScMsiEMssEEiEiiMisbiiEMiMiiEEii ht
 simp only [tl, tls] at hs
 have hcall : Cc lf 9 31 [T.st [T.sl a0, T.i .i64 a1, T.i .i64 a2, T.sl a3, T.sl a4, T.i .i64 a5, T.i .i64 a6], T.st [T.sl a0, T.i .i64 a1, T.i .i64 a2, T.sl a3, T.sl a4, T.i .i64 a5, T.i .i64 a6]] = f31_t (Cc lf 8) lf a0 a1 a2 a3 a4 a5 a6 a0 a1 a2 a3 a4 a5 a6 := f31_eq (Cc lf 8) lf a0 a1 a2 a3 a4 a5 a6 a0 a1 a2 a3 a4 a5 a6
 rw [hcall]
 unfold f31_t
 have e1 := eq30 hlf (d := 8) (by omega) (T.st [T.sl a0, T.i .i64 a1]) (show fitE true csfit_MisbiMiiiScMsiEMssEEiEi (T.st [T.sl a0, T.i .i64 a1]) from ⟨q0, ⟨rfl, q1⟩, trivial⟩) (by simp only [tl, tls]; omega)
 have e2 := eq72 hlf (d := 8) (by omega) (T.st [T.i .i64 a2, T.sl a3]) (show fitE true csfit_iMisbiiE (T.st [T.i .i64 a2, T.sl a3]) from ⟨⟨rfl, q2⟩, q3, trivial⟩) (by simp only [tl, tls]; omega)
 have e3 := eq73 hlf (d := 8) (by omega) (T.sl a4) q4 (by simp only [tl, tls]; omega)
 simp only [e1, e2, e3, Option.bind_some, nth0, asB_b, Bool.not_true, cond_false, ne_f, beq_self_eq_true]
abbrev csfit_bSc : List CT := [.b, .sl false [.i .u8]]
theorem fit_bSc {t : T} (h : fitE true csfit_bSc t) : ∃ (a0 : Bool) (a1 : List T), t = .st [.b a0, .sl a1] ∧ fitC (.sl false [.i .u8]) (.sl a1) := by
 obtain ⟨l, rfl, h⟩ := fitE_st h
 obtain ⟨x0, l0, rfl, h0, h⟩ := fitCs_cons h
 obtain ⟨x1, l1, rfl, h1, h⟩ := fitCs_cons h
 obtain rfl := fitCs_nil h
 obtain ⟨a0, rfl⟩ := fitC_b h0
 obtain ⟨a1, rfl, q1⟩ := fitC_sl h1
 exact ⟨a0, a1, rfl, q1⟩
theorem eq255 (hlf : 33554432 ≤ lf) {d : Nat} (hd : 2 ≤ d) : EQ1 (Cc lf d) 255 (fitE true csfit_bSc) := by
 refine EQ1.le (Cc_le hd) ?_
 intro t ht hs
 obtain ⟨a0, a1, rfl, q1⟩ := fit_bSc ht
 simp only [tl, tls] at hs
 have hcall : Cc lf 2 255 [T.st [T.b a0, T.sl a1], T.st [T.b a0, T.sl a1]] = f255_t (Cc lf 1) lf a0 a1 a0 a1 := f255_eq (Cc lf 1) lf a0 a1 a0 a1
 rw [hcall]
 unfold f255_t
 have e1 := eq252 hlf (d := 1) (by omega) (T.sl a1) q1 (by simp only [tl, tls]; omega)
 simp only [e1, Option.bind_some, nth0, asB_b, Bool.not_true, cond_false, ne_f, beq_self_eq_true]
theorem eq243 (hlf : 33554432 ≤ lf) {d : Nat} (hd : 3 ≤ d) : EQ1 (Cc lf d) 243 (fitC (.sl true [.b, .sl false [.i .u8]])) := by
 exact EQ1.le (Cc_le hd) (eq_slice1 (c' := Cc lf 3) hlf (F := fun l l' n i => f243_0 (Cc lf 2) lf l l' n i) (G := fun l l' i => Cc lf 2 255 [T.st [T.b (asB (T.cell (l.getD i.toNat T.u) 0)), T.sl (asL (T.cell (l.getD i.toNat T.u) 1))], T.st [T.b (asB (T.cell (l'.getD i.toNat T.u) 0)), T.sl (asL (T.cell (l'.getD i.toNat T.u) 1))]]) (fun l l' => f243_eq (Cc lf 2) lf l l') (fun l l' n i => rfl) (fun l j h hf hs => by
  have heq := eq255 hlf (d := 2) (by omega) _ hf hs
  obtain ⟨a0, a1, e, _⟩ := fit_bSc hf
  rw [e] at heq
  simp only [getD_nat h, e]
  exact heq))
abbrev csfit_MbScEib : List CT := [.sl true [.b, .sl false [.i .u8]], .i .i64, .b]
theorem fit_MbScEib {t : T} (h : fitE true csfit_MbScEib t) : ∃ (a0 : List T) (a1 : Int) (a2 : Bool), t = .st [.sl a0, .i .i64 a1, .b a2] ∧ fitC (.sl true [.b, .sl false [.i .u8]]) (.sl a0) ∧ (Lit.int .i64 a1).wf = true := by
 obtain ⟨l, rfl, h⟩ := fitE_st h
 obtain ⟨x0, l0, rfl, h0, h⟩ := fitCs_cons h
 obtain ⟨x1, l1, rfl, h1, h⟩ := fitCs_cons h
 obtain ⟨x2, l2, rfl, h2, h⟩ := fitCs_cons h
 obtain rfl := fitCs_nil h
 obtain ⟨a0, rfl, q0⟩ := fitC_sl h0
 obtain ⟨a1, rfl, q1⟩ := fitC_i h1
 obtain ⟨a2, rfl⟩ := fitC_b h2
 exact ⟨a0, a1, a2, rfl, q0, q1⟩
theorem eq217 (hlf : 33554432 ≤ lf) {d : Nat} (hd : 4 ≤ d) : EQ1 (Cc lf d) 217 (fitE true csfit_MbScEib) := by
 refine EQ1.le (Cc_le hd) ?_
 intro t ht hs
 obtain ⟨a0, a1, a2, rfl, q0, q1⟩ := fit_MbScEib ht
 simp only [tl, tls] at hs
 have hcall : Cc lf 4 217 [T.st [T.sl a0, T.i .i64 a1, T.b a2], T.st [T.sl a0, T.i .i64 a1, T.b a2]] = f217_t (Cc lf 3) lf a0 a1 a2 a0 a1 a2 := f217_eq (Cc lf 3) lf a0 a1 a2 a0 a1 a2
 rw [hcall]
 unfold f217_t
 have e1 := eq243 hlf (d := 3) (by omega) (T.sl a0) q0 (by simp only [tl, tls]; omega)
 simp only [e1, Option.bind_some, nth0, asB_b, Bool.not_true, cond_false, ne_f, beq_self_eq_true]
theorem eq186 (hlf : 33554432 ≤ lf) {d : Nat} (hd : 5 ≤ d) : EQ1 (Cc lf d) 186 (fitC (.sl true [.sl true [.b, .sl false [.i .u8]], .i .i64, .b])) := by
 exact EQ1.le (Cc_le hd) (eq_slice1 (c' := Cc lf 5) hlf (F := fun l l' n i => f186_0 (Cc lf 4) lf l l' n i) (G := fun l l' i => Cc lf 4 217 [T.st [T.sl (asL (T.cell (l.getD i.toNat T.u) 0)), T.i .i64 (asI (T.cell (l.getD i.toNat T.u) 1)), T.b (asB (T.cell (l.getD i.toNat T.u) 2))], T.st [T.sl (asL (T.cell (l'.getD i.toNat T.u) 0)), T.i .i64 (asI (T.cell (l'.getD i.toNat T.u) 1)), T.b (asB (T.cell (l'.getD i.toNat T.u) 2))]]) (fun l l' => f186_eq (Cc lf 4) lf l l') (fun l l' n i => rfl) (fun l j h hf hs => by
  have heq := eq217 hlf (d := 4) (by omega) _ hf hs
  obtain ⟨a0, a1, a2, e, _⟩ := fit_MbScEib hf
  rw [e] at heq
  simp only [getD_nat h, e]
  exact heq))
abbrev csfit_MMbScEibE : List CT := [.sl true [.sl true [.b, .sl false [.i .u8]], .i .i64, .b]]
theorem fit_MMbScEibE {t : T} (h : fitE true csfit_MMbScEibE t) : ∃ (a0 : List T), t = .st [.sl a0] ∧ fitC (.sl true [.sl true [.b, .sl false [.i .u8]], .i .i64, .b]) (.sl a0) := by
 obtain ⟨l, rfl, h⟩ := fitE_st h
 obtain ⟨x0, l0, rfl, h0, h⟩ := fitCs_cons h
 obtain rfl := fitCs_nil h
 obtain ⟨a0, rfl, q0⟩ := fitC_sl h0
 exact ⟨a0, rfl, q0⟩
theorem eq132 (hlf : 33554432 ≤ lf) {d : Nat} (hd : 6 ≤ d) : EQ1 (Cc lf d) 132 (fitE true csfit_MMbScEibE) := by
 refine EQ1.le (Cc_le hd) ?_
 intro t ht hs
 obtain ⟨a0, rfl, q0⟩ := fit_MMbScEibE ht
 simp only [tl, tls] at hs
 have hcall : Cc lf 6 132 [T.st [T.sl a0], T.st [T.sl a0]] = f132_t (Cc lf 5) lf a0 a0 := f132_eq (Cc lf 5) lf a0 a0
 rw [hcall]
 unfold f132_t
 have e1 := eq186 hlf (d := 5) (by omega) (T.sl a0) q0 (by simp only [tl, tls]; omega)
 simp only [e1, Option.bind_some, nth0, asB_b, Bool.not_true, cond_false, ne_f, beq_self_eq_true]
theorem eq33 (hlf : 33554432 ≤ lf) {d : Nat} (hd : 1 ≤ d) : EQ1 (Cc lf d) 33 (fitE true csfit_iii) := by
 refine EQ1.le (Cc_le hd) ?_
 intro t ht hs
 obtain ⟨a0, a1, a2, rfl, q0, q1, q2⟩ := fit_iii ht
 simp only [tl, tls] at hs
 have hcall : Cc lf 1 33 [T.st [T.i .i64 a0, T.i .i64 a1, T.i .i64 a2], T.st [T.i .i64 a0, T.i .i64 a1, T.i .i64 a2]] = f33_t (Cc lf 0) lf a0 a1 a2 a0 a1 a2 := f33_eq (Cc lf 0) lf a0 a1 a2 a0 a1 a2
 rw [hcall]
 unfold f33_t
 simp only [Option.bind_some, nth0, asB_b, Bool.not_true, cond_false, ne_f, beq_self_eq_true]
theorem eq10 (hlf : 33554432 ≤ lf) {d : Nat} (hd : 2 ≤ d) : EQ1 (Cc lf d) 10 (fitC (.sl true [.i .i64, .i .i64, .i .i64])) := by
 exact EQ1.le (Cc_le hd) (eq_slice1 (c' := Cc lf 2) hlf (F := fun l l' n i => f10_0 (Cc lf 1) lf l l' n i) (G := fun l l' i => Cc lf 1 33 [T.st [T.i .i64 (asI (T.cell (l.getD i.toNat T.u) 0)), T.i .i64 (asI (T.cell (l.getD i.toNat T.u) 1)), T.i .i64 (asI (T.cell (l.getD i.toNat T.u) 2))], T.st [T.i .i64 (asI (T.cell (l'.getD i.toNat T.u) 0)), T.i .i64 (asI (T.cell (l'.getD i.toNat T.u) 1)), T.i .i64 (asI (T.cell (l'.getD i.toNat T.u) 2))]]) (fun l l' => f10_eq (Cc lf 1) lf l l') (fun l l' n i => rfl) (fun l j h hf hs => by
  have heq := eq33 hlf (d := 1) (by omega) _ hf hs
  obtain ⟨a0, a1, a2, e, _⟩ := fit_iii hf
  rw [e] at heq
  simp only [getD_nat h, e]
  exact heq))
abbrev csfit_MMbScEibEiMiiiEb : List CT := [.sl true [.sl true [.b, .sl false [.i .u8]], .i .i64, .b], .i .i64, .sl true [.i .i64, .i .i64, .i .i64], .b]
theorem fit_MMbScEibEiMiiiEb {t : T} (h : fitE true csfit_MMbScEibEiMiiiEb t) : ∃ (a0 : List T) (a1 : Int) (a2 : List T) (a3 : Bool), t = .st [.sl a0, .i .i64 a1, .sl a2, .b a3] ∧ fitC (.sl true [.sl true [.b, .sl false [.i .u8]], .i .i64, .b]) (.sl a0) ∧ (Lit.int .i64 a1).wf = true ∧ fitC (.sl true [.i .i64, .i .i64, .i .i64]) (.sl a2) := by
 obtain ⟨l, rfl, h⟩ := fitE_st h
 obtain ⟨x0, l0, rfl, h0, h⟩ := fitCs_cons h
 obtain ⟨x1, l1, rfl, h1, h⟩ := fitCs_cons h
 obtain ⟨x2, l2, rfl, h2, h⟩ := fitCs_cons h
 obtain ⟨x3, l3, rfl, h3, h⟩ := fitCs_cons h
 obtain rfl := fitCs_nil h
 obtain ⟨a0, rfl, q0⟩ := fitC_sl h0
 obtain ⟨a1, rfl, q1⟩ := fitC_i h1
 obtain ⟨a2, rfl, q2⟩ := fitC_sl h2
 obtain ⟨a3, rfl⟩ := fitC_b h3
 exact ⟨a0, a1, a2, a3, rfl, q0, q1, q2⟩
theorem eq74 (hlf : 33554432 ≤ lf) {d : Nat} (hd : 7 ≤ d) : EQ1 (Cc lf d) 74 (fitE true csfit_MMbScEibEiMiiiEb) := by
 refine EQ1.le (Cc_le hd) ?_
 intro t ht hs
 obtain ⟨a0, a1, a2, a3, rfl, q0, q1, q2⟩ := fit_MMbScEibEiMiiiEb ht
 simp only [tl, tls] at hs
 have hcall : Cc lf 7 74 [T.st [T.sl a0, T.i .i64 a1, T.sl a2, T.b a3], T.st [T.sl a0, T.i .i64 a1, T.sl a2, T.b a3]] = f74_t (Cc lf 6) lf a0 a1 a2 a3 a0 a1 a2 a3 := f74_eq (Cc lf 6) lf a0 a1 a2 a3 a0 a1 a2 a3
 rw [hcall]
 unfold f74_t
 have e1 := eq132 hlf (d := 6) (by omega) (T.st [T.sl a0]) (show fitE true csfit_MMbScEibE (T.st [T.sl a0]) from ⟨q0, trivial⟩) (by simp only [tl, tls]; omega)
 have e2 := eq10 hlf (d := 6) (by omega) (T.sl a2) q2 (by simp only [tl, tls]; omega)
 simp only [e1, e2, Option.bind_some, nth0, asB_b, Bool.not_true, cond_false, ne_f, beq_self_eq_true]
abbrev csfit_MMbScEibEiMiiiEbi : List CT := [.sl true [.sl true [.b, .sl false [.i .u8]], .i .i64, .b], .i .i64, .sl true [.i .i64, .i .i64, .i .i64], .b, .i .i64]
theorem fit_MMbScEibEiMiiiEbi {t : T} (h : fitE true csfit_MMbScEibEiMiiiEbi t) : ∃ (a0 : List T) (a1 : Int) (a2 : List T) (a3 : Bool) (a4 : Int), t = .st [.sl a0, .i .i64 a1, .sl a2, .b a3, .i .i64 a4] ∧ fitC (.sl true [.sl true [.b, .sl false [.i .u8]], .i .i64, .b]) (.sl a0) ∧ (Lit.int .i64 a1).wf = true ∧ fitC (.sl true [.i .i64, .i .i64, .i .i64]) (.sl a2) ∧ (Lit.int .i64 a4).wf = true := by
 obtain ⟨l, rfl, h⟩ := fitE_st h
 obtain ⟨x0, l0, rfl, h0, h⟩ := fitCs_cons h
 obtain ⟨x1, l1, rfl, h1, h⟩ := fitCs_cons h
 obtain ⟨x2, l2, rfl, h2, h⟩ := fitCs_cons h
 obtain ⟨x3, l3, rfl, h3, h⟩ := fitCs_cons h
 obtain ⟨x4, l4, rfl, h4, h⟩ := fitCs_cons h
 obtain rfl := fitCs_nil h
 obtain ⟨a0, rfl, q0⟩ := fitC_sl h0
 obtain ⟨a1, rfl, q1⟩ := fitC_i h1
 obtain ⟨a2, rfl, q2⟩ := fitC_sl h2
 obtain ⟨a3, rfl⟩ := fitC_b h3
 obtain ⟨a4, rfl, q4⟩ := fitC_i h4
 exact ⟨a0, a1, a2, a3, a4, rfl, q0, q1, q2, q4⟩
theorem eq32 (hlf : 33554432 ≤ lf) {d : Nat} (hd : 8 ≤ d) : EQ1 (Cc lf d) 32 (fitE true csfit_MMbScEibEiMiiiEbi) := by
 refine EQ1.le (Cc_le hd) ?_
 intro t ht hs
 obtain ⟨a0, a1, a2, a3, a4, rfl, q0, q1, q2, q4⟩ := fit_MMbScEibEiMiiiEbi ht
 simp only [tl, tls] at hs
 have hcall : Cc lf 8 32 [T.st [T.sl a0, T.i .i64 a1, T.sl a2, T.b a3, T.i .i64 a4], T.st [T.sl a0, T.i .i64 a1, T.sl a2, T.b a3, T.i .i64 a4]] = f32_t (Cc lf 7) lf a0 a1 a2 a3 a4 a0 a1 a2 a3 a4 := f32_eq (Cc lf 7) lf a0 a1 a2 a3 a4 a0 a1 a2 a3 a4
 rw [hcall]
 unfold f32_t
 have e1 := eq74 hlf (d := 7) (by omega) (T.st [T.sl a0, T.i .i64 a1, T.sl a2, T.b a3]) (show fitE true csfit_MMbScEibEiMiiiEb (T.st [T.sl a0, T.i .i64 a1, T.sl a2, T.b a3]) from ⟨q0, ⟨rfl, q1⟩, q2, trivial, trivial⟩) (by simp only [tl, tls]; omega)
 simp only [e1, Option.bind_some, nth0, asB_b, Bool.not_true, cond_false, ne_f, beq_self_eq_true]
abbrev csfit_MisbiMiiiScMsiEMssEEiEiMisbiMiiiScMsiEMssEEiEiiMisbiiEMiMiiEEiiMMbScEibEiMiiiEbi : List CT := [.sl true [.i .i64, .s, .b, .i .i64, .sl true [.i .i64, .i .i64, .i .i64, .sl false [.i .u8], .sl true [.s, .i .i64], .sl true [.s, .s]], .i .i64], .i .i64, .sl true [.i .i64, .s, .b, .i .i64, .sl true [.i .i64, .i .i64, .i .i64, .sl false [.i .u8], .sl true [.s, .i .i64], .sl true [.s, .s]], .i .i64], .i .i64, .i .i64, .sl true [.i .i64, .s, .b, .i .i64, .i .i64], .sl true [.i .i64, .sl true [.i .i64, .i .i64]], .i .i64, .i .i64, .sl true [.sl true [.b, .sl false [.i .u8]], .i .i64, .b], .i .i64, .sl true [.i .i64, .i .i64, .i .i64], .b, .i .i64]
theorem fit_MisbiMiiiScMsiEMssEEiEiMisbiMiiiScMsiEMssEEiEiiMisbiiEMiMiiEEiiMMbScEibEiMiiiEbi {t : T} (h : fitE true csfit_MisbiMiiiScMsiEMssEEiEiMisbiMiiiScMsiEMssEEiEiiMisbiiEMiMiiEEiiMMbScEibEiMiiiEbi t) : ∃ (a0 : List T) (a1 : Int) (a2 : List T) (a3 : Int) (a4 : Int) (a5 : List T) (a6 : List T) (a7 : Int) (a8 : Int) (a9 : List T) (a10 : Int) (a11 : List T) (a12 : Bool) (a13 : Int), t = .st [.sl a0, .i .i64 a1, .sl a2, .i .i64 a3, .i .i64 a4, .sl a5, .sl a6, .i .i64 a7, .i .i64 a8, .sl a9, .i .i64 a10, .sl a11, .b a12, .i .i64 a13] ∧ fitC (.sl true [.i .i64, .s, .b, .i .i64, .sl true [.i .i64, .i .i64, .i .i64, .sl false [.i .u8], .sl true [.s, .i .i64], .sl true [.s, .s]], .i .i64]) (.sl a0) ∧ (Lit.int .i64 a1).wf = true ∧ fitC (.sl true [.i .i64, .s, .b, .i .i64, .sl true [.i .i64, .i .i64, .i .i64, .sl false [.i .u8], .sl true [.s, .i .i64], .sl true [.s, .s]], .i .i64]) (.sl a2) ∧ (Lit.int .i64 a3).wf = true ∧ (Lit.int .i64 a4).wf = true ∧ fitC (.sl true [.i .i64, .s, .b, .i .i64, .i .i64]) (.sl a5) ∧ fitC (.sl true [.i .i64, .sl true [.i .i64, .i .i64]]) (.sl a6) ∧ (Lit.int .i64 a7).wf = true ∧ (Lit.int .i64 a8).wf = true ∧ fitC (.sl true [.sl true [.b, .sl false [.i .u8]], .i .i64, .b]) (.sl a9) ∧ (Lit.int .i64 a10).wf = true ∧ fitC (.sl true [.i .i64, .i .i64, .i .i64]) (.sl a11) ∧ (Lit.int .i64 a13).wf = true := by
 obtain ⟨l, rfl, h⟩ := fitE_st h
 obtain ⟨x0, l0, rfl, h0, h⟩ := fitCs_cons h
 obtain ⟨x1, l1, rfl, h1, h⟩ := fitCs_cons h
 obtain ⟨x2, l2, rfl, h2, h⟩ := fitCs_cons h
 obtain ⟨x3, l3, rfl, h3, h⟩ := fitCs_cons h
 obtain ⟨x4, l4, rfl, h4, h⟩ := fitCs_cons h
 obtain ⟨x5, l5, rfl, h5, h⟩ := fitCs_cons h
 obtain ⟨x6, l6, rfl, h6, h⟩ := fitCs_cons h
 obtain ⟨x7, l7, rfl, h7, h⟩ := fitCs_cons h
 obtain ⟨x8, l8, rfl, h8, h⟩ := fitCs_cons h
 obtain ⟨x9, l9, rfl, h9, h⟩ := fitCs_cons h
 obtain ⟨x10, l10, rfl, h10, h⟩ := fitCs_cons h
 obtain ⟨x11, l11, rfl, h11, h⟩ := fitCs_cons h
 obtain ⟨x12, l12, rfl, h12, h⟩ := fitCs_cons h
 obtain ⟨x13, l13, rfl, h13, h⟩ := fitCs_cons h
 obtain rfl := fitCs_nil h
 obtain ⟨a0, rfl, q0⟩ := fitC_sl h0
 obtain ⟨a1, rfl, q1⟩ := fitC_i h1
 obtain ⟨a2, rfl, q2⟩ := fitC_sl h2
 obtain ⟨a3, rfl, q3⟩ := fitC_i h3
 obtain ⟨a4, rfl, q4⟩ := fitC_i h4
 obtain ⟨a5, rfl, q5⟩ := fitC_sl h5
 obtain ⟨a6, rfl, q6⟩ := fitC_sl h6
 obtain ⟨a7, rfl, q7⟩ := fitC_i h7
 obtain ⟨a8, rfl, q8⟩ := fitC_i h8
 obtain ⟨a9, rfl, q9⟩ := fitC_sl h9
 obtain ⟨a10, rfl, q10⟩ := fitC_i h10
 obtain ⟨a11, rfl, q11⟩ := fitC_sl h11
 obtain ⟨a12, rfl⟩ := fitC_b h12
 obtain ⟨a13, rfl, q13⟩ := fitC_i h13
 exact ⟨a0, a1, a2, a3, a4, a5, a6, a7, a8, a9, a10, a11, a12, a13, rfl, q0, q1, q2, q3, q4, q5, q6, q7, q8, q9, q10, q11, q13⟩
theorem eq9 (hlf : 33554432 ≤ lf) {d : Nat} (hd : 10 ≤ d) : EQ1 (Cc lf d) 9 (fitE true csfit_MisbiMiiiScMsiEMssEEiEiMisbiMiiiScMsiEMssEEiEiiMisbiiEMiMiiEEiiMMbScEibEiMiiiEbi) := by
 refine EQ1.le (Cc_le hd) ?_
 intro t ht hs
 obtain ⟨a0, a1, a2, a3, a4, a5, a6, a7, a8, a9, a10, a11, a12, a13, rfl, q0, q1, q2, q3, q4, q5, q6, q7, q8, q9, q10, q11, q13⟩ := fit_MisbiMiiiScMsiEMssEEiEiMisbiMiiiScMsiEMssEEiEiiMisbiiEMiMiiEEiiMMbScEibEiMiiiEbi ht
 simp only [tl, tls] at hs
 have hcall : Cc lf 10 9 [T.st [T.sl a0, T.i .i64 a1, T.sl a2, T.i .i64 a3, T.i .i64 a4, T.sl a5, T.sl a6, T.i .i64 a7, T.i .i64 a8, T.sl a9, T.i .i64 a10, T.sl a11, T.b a12, T.i .i64 a13], T.st [T.sl a0, T.i .i64 a1, T.sl a2, T.i .i64 a3, T.i .i64 a4, T.sl a5, T.sl a6, T.i .i64 a7, T.i .i64 a8, T.sl a9, T.i .i64 a10, T.sl a11, T.b a12, T.i .i64 a13]] = f9_t (Cc lf 9) lf a0 a1 a2 a3 a4 a5 a6 a7 a8 a9 a10 a11 a12 a13 a0 a1 a2 a3 a4 a5 a6 a7 a8 a9 a10 a11 a12 a13 := f9_eq (Cc lf 9) lf a0 a1 a2 a3 a4 a5 a6 a7 a8 a9 a10 a11 a12 a13 a0 a1 a2 a3 a4 a5 a6 a7 a8 a9 a10 a11 a12 a13
 rw [hcall]
 unfold f9_t
 have e1 := eq30 hlf (d := 9) (by omega) (T.st [T.sl a0, T.i .i64 a1]) (show fitE true csfit_MisbiMiiiScMsiEMssEEiEi (T.st [T.sl a0, T.i .i64 a1]) from ⟨q0, ⟨rfl, q1⟩, trivial⟩) (by simp only [tl, tls]; omega)
 have e2 := eq31 hlf (d := 9) (by omega) (T.st [T.sl a2, T.i .i64 a3, T.i .i64 a4, T.sl a5, T.sl a6, T.i .i64 a7, T.i .i64 a8]) (show fitE true csfit_MisbiMiiiScMsiEMssEEiEiiMisbiiEMiMiiEEii (T.st [T.sl a2, T.i .i64 a3, T.i .i64 a4, T.sl a5, T.sl a6, T.i .i64 a7, T.i .i64 a8]) from ⟨q2, ⟨rfl, q3⟩, ⟨rfl, q4⟩, q5, q6, ⟨rfl, q7⟩, ⟨rfl, q8⟩, trivial⟩) (by simp only [tl, tls]; omega)
 have e3 := eq32 hlf (d := 9) (by omega) (T.st [T.sl a9, T.i .i64 a10, T.sl a11, T.b a12, T.i .i64 a13]) (show fitE true csfit_MMbScEibEiMiiiEbi (T.st [T.sl a9, T.i .i64 a10, T.sl a11, T.b a12, T.i .i64 a13]) from ⟨q9, ⟨rfl, q10⟩, q11, trivial, ⟨rfl, q13⟩, trivial⟩) (by simp only [tl, tls]; omega)
 simp only [e1, e2, e3, Option.bind_some, nth0, asB_b, Bool.not_true, cond_false, ne_f, beq_self_eq_true]
theorem tx133 (hlf : 33554432 ≤ lf) {d : Nat} (hd : 1 ≤ d) : TX1 (Cc lf d) 133 :=
 TX1.le (Cc_le hd) (tx_mk (c' := Cc lf 1) hlf (F := fun n k s => f133_0 (Cc lf 0) lf n k s) (fun k => f133_eq (Cc lf 0) lf k) (fun n k s => rfl))
theorem mh11 (hlf : 33554432 ≤ lf) {d : Nat} (hd : 1 ≤ d) : MH1 (Cc lf d) 11 142 true [.i .i64, .i .i64, .i .i64] := by
 refine MH1.le (Cc_le hd) (mh_slice1 (c' := Cc lf 1) hlf (M := fun n k i l => f11_0 (Cc lf 0) lf n k i l) (H := fun l n k i => f142_0 (Cc lf 0) lf l n k i) (fun l k => f11_eq (Cc lf 0) lf l k) (fun l k => f142_eq (Cc lf 0) lf l k) (fun n k l => ?_) (fun l n k => ?_) ?_)
 ·show f11_0_s (Cc lf 0) lf _ _ _ _ = _
  unfold f11_0_s
  rw [iLt_f (by omega), cond_false]
 ·show f142_0_s (Cc lf 0) lf _ _ _ _ = _
  unfold f142_0_s
  rw [iLt_f (by omega), cond_false]
 ·intro e0 j len hf ht hj hlen k h0 h1
  obtain ⟨a0, a1, a2, rfl, q0, q1, q2⟩ := fit_iii hf
  refine ⟨(k + 3), T.st [T.i .i64 k, T.i .i64 (k + 1), T.i .i64 (k + 2)], by omega, by simp only [tl, tls]; omega, fun n l hl he => ?_, fun n l hl he => ?_⟩
  all_goals subst hl
  all_goals have g := getD_at he
  all_goals have hb : (j : Int) < (l.length : Int) := by omega
  all_goals have hr := inR_nat hj
  ·show f11_0_s (Cc lf 0) lf _ _ _ _ = _
   unfold f11_0_s
   simp (disch := (simp only [tl, tls] at ht; omega)) only [iLt_t hb, hr, cond_true, cond_false, Option.bind_some, nth0, nthS, asI_i, asB_b, asS_s, asL_l, Int.toNat_natCast, List.length_set, List.set_set, getD_set hj, T.setc, cell0, cellS, List.set_cons_zero, List.set_cons_succ, ne_f, beq_self_eq_true, Bool.not_true, Bool.not_false, Int.add_assoc, Int.reduceAdd, bne_self_eq_false, g, wrap_next hj, wrapK]
   first | done | rfl
  ·show f142_0_s (Cc lf 0) lf _ _ _ _ = _
   unfold f142_0_s
   simp (disch := (simp only [tl, tls] at ht; omega)) only [iLt_t hb, hr, cond_true, cond_false, Option.bind_some, nth0, nthS, asI_i, asB_b, asS_s, asL_l, Int.toNat_natCast, List.length_set, List.set_set, getD_set hj, T.setc, cell0, cellS, List.set_cons_zero, List.set_cons_succ, ne_f, beq_self_eq_true, Bool.not_true, Bool.not_false, Int.add_assoc, Int.reduceAdd, bne_self_eq_false, g, wrap_next hj, wrapK]
   first | done | rfl
theorem mk11 (hlf : 33554432 ≤ lf) {d : Nat} (hd : 1 ≤ d) : MK1 (Cc lf d) 11 true [.i .i64, .i .i64, .i .i64] := fun l hl hs k h0 h1 => by
 obtain ⟨k', l', g1, _, g3⟩ := mh11 hlf hd l hl hs k h0 h1
 exact ⟨k', l', g1, g3⟩
theorem mh187 (hlf : 33554432 ≤ lf) {d : Nat} (hd : 1 ≤ d) : MH1 (Cc lf d) 187 191 false [.i .u8] := by
 refine MH1.le (Cc_le hd) (mh_slice1 (c' := Cc lf 1) hlf (M := fun n k i l => f187_0 (Cc lf 0) lf n k i l) (H := fun l n k i => f191_0 (Cc lf 0) lf l n k i) (fun l k => f187_eq (Cc lf 0) lf l k) (fun l k => f191_eq (Cc lf 0) lf l k) (fun n k l => ?_) (fun l n k => ?_) ?_)
 ·show f187_0_s (Cc lf 0) lf _ _ _ _ = _
  unfold f187_0_s
  rw [iLt_f (by omega), cond_false]
 ·show f191_0_s (Cc lf 0) lf _ _ _ _ = _
  unfold f191_0_s
  rw [iLt_f (by omega), cond_false]
 ·intro e0 j len hf ht hj hlen k h0 h1
  clear hf
  refine ⟨(k + 1), T.i .u8 (IntKind.wrap .u8 k), by omega, by omega, fun n l hl he => ?_, fun n l hl he => ?_⟩
  all_goals subst hl
  all_goals have g := getD_at he
  all_goals have hb : (j : Int) < (l.length : Int) := by omega
  all_goals have hr := inR_nat hj
  ·show f187_0_s (Cc lf 0) lf _ _ _ _ = _
   unfold f187_0_s
   simp (disch := omega) only [iLt_t hb, hr, cond_true, cond_false, Option.bind_some, nth0, nthS, asI_i, asB_b, asS_s, asL_l, Int.toNat_natCast, List.length_set, List.set_set, getD_set hj, T.setc, cell0, cellS, List.set_cons_zero, List.set_cons_succ, ne_f, beq_self_eq_true, Bool.not_true, Bool.not_false, Int.add_assoc, Int.reduceAdd, bne_self_eq_false, g, wrap_next hj, wrapK]
   first | done | rfl
  ·show f191_0_s (Cc lf 0) lf _ _ _ _ = _
   unfold f191_0_s
   simp (disch := omega) only [iLt_t hb, hr, cond_true, cond_false, Option.bind_some, nth0, nthS, asI_i, asB_b, asS_s, asL_l, Int.toNat_natCast, List.length_set, List.set_set, getD_set hj, T.setc, cell0, cellS, List.set_cons_zero, List.set_cons_succ, ne_f, beq_self_eq_true, Bool.not_true, Bool.not_false, Int.add_assoc, Int.reduceAdd, bne_self_eq_false, g, wrap_next hj, wrapK]
   first | done | rfl
theorem mh188 (hlf : 33554432 ≤ lf) {d : Nat} (hd : 2 ≤ d) : MH1 (Cc lf d) 188 192 true [.s, .i .i64] := by
 refine MH1.le (Cc_le hd) (mh_slice1 (c' := Cc lf 2) hlf (M := fun n k i l => f188_0 (Cc lf 1) lf n k i l) (H := fun l n k i => f192_0 (Cc lf 1) lf l n k i) (fun l k => f188_eq (Cc lf 1) lf l k) (fun l k => f192_eq (Cc lf 1) lf l k) (fun n k l => ?_) (fun l n k => ?_) ?_)
 ·show f188_0_s (Cc lf 1) lf _ _ _ _ = _
  unfold f188_0_s
  rw [iLt_f (by omega), cond_false]
 ·show f192_0_s (Cc lf 1) lf _ _ _ _ = _
  unfold f192_0_s
  rw [iLt_f (by omega), cond_false]
 ·intro e0 j len hf ht hj hlen k h0 h1
  obtain ⟨a0, a1, rfl, q0, q1⟩ := fit_si hf
  obtain ⟨t1, m1⟩ := tx133 hlf (d := 1) (by omega) k (by omega) (by simp only [tl, tls] at ht; omega)
  refine ⟨(k + 2), T.st [T.s t1, T.i .i64 (k + 1)], by omega, by simp only [tl, tls]; omega, fun n l hl he => ?_, fun n l hl he => ?_⟩
  all_goals subst hl
  all_goals have g := getD_at he
  all_goals have hb : (j : Int) < (l.length : Int) := by omega
  all_goals have hr := inR_nat hj
  ·show f188_0_s (Cc lf 1) lf _ _ _ _ = _
   unfold f188_0_s
   simp (disch := (simp only [tl, tls] at ht; omega)) only [iLt_t hb, hr, cond_true, cond_false, Option.bind_some, nth0, nthS, asI_i, asB_b, asS_s, asL_l, Int.toNat_natCast, List.length_set, List.set_set, getD_set hj, T.setc, cell0, cellS, List.set_cons_zero, List.set_cons_succ, ne_f, beq_self_eq_true, Bool.not_true, Bool.not_false, Int.add_assoc, Int.reduceAdd, bne_self_eq_false, m1, g, wrap_next hj, wrapK]
   first | done | rfl
  ·show f192_0_s (Cc lf 1) lf _ _ _ _ = _
   unfold f192_0_s
   simp (disch := (simp only [tl, tls] at ht; omega)) only [iLt_t hb, hr, cond_true, cond_false, Option.bind_some, nth0, nthS, asI_i, asB_b, asS_s, asL_l, Int.toNat_natCast, List.length_set, List.set_set, getD_set hj, T.setc, cell0, cellS, List.set_cons_zero, List.set_cons_succ, ne_f, beq_self_eq_true, Bool.not_true, Bool.not_false, Int.add_assoc, Int.reduceAdd, bne_self_eq_false, m1, g, wrap_next hj, wrapK]
   first | done | rfl
theorem mh189 (hlf : 33554432 ≤ lf) {d : Nat} (hd : 2 ≤ d) : MH1 (Cc lf d) 189 193 true [.s, .s] := by
 refine MH1.le (Cc_le hd) (mh_slice1 (c' := Cc lf 2) hlf (M := fun n k i l => f189_0 (Cc lf 1) lf n k i l) (H := fun l n k i => f193_0 (Cc lf 1) lf l n k i) (fun l k => f189_eq (Cc lf 1) lf l k) (fun l k => f193_eq (Cc lf 1) lf l k) (fun n k l => ?_) (fun l n k => ?_) ?_)
 ·show f189_0_s (Cc lf 1) lf _ _ _ _ = _
  unfold f189_0_s
  rw [iLt_f (by omega), cond_false]
 ·show f193_0_s (Cc lf 1) lf _ _ _ _ = _
  unfold f193_0_s
  rw [iLt_f (by omega), cond_false]
 ·intro e0 j len hf ht hj hlen k h0 h1
  obtain ⟨a0, a1, rfl, q0, q1⟩ := fit_ss hf
  obtain ⟨t1, m1⟩ := tx133 hlf (d := 1) (by omega) k (by omega) (by simp only [tl, tls] at ht; omega)
  obtain ⟨t2, m2⟩ := tx133 hlf (d := 1) (by omega) (k + 1) (by omega) (by simp only [tl, tls] at ht; omega)
  refine ⟨(k + 2), T.st [T.s t1, T.s t2], by omega, by simp only [tl, tls]; omega, fun n l hl he => ?_, fun n l hl he => ?_⟩
  all_goals subst hl
  all_goals have g := getD_at he
  all_goals have hb : (j : Int) < (l.length : Int) := by omega
  all_goals have hr := inR_nat hj
  ·show f189_0_s (Cc lf 1) lf _ _ _ _ = _
   unfold f189_0_s
   simp (disch := (simp only [tl, tls] at ht; omega)) only [iLt_t hb, hr, cond_true, cond_false, Option.bind_some, nth0, nthS, asI_i, asB_b, asS_s, asL_l, Int.toNat_natCast, List.length_set, List.set_set, getD_set hj, T.setc, cell0, cellS, List.set_cons_zero, List.set_cons_succ, ne_f, beq_self_eq_true, Bool.not_true, Bool.not_false, Int.add_assoc, Int.reduceAdd, bne_self_eq_false, m1, m2, g, wrap_next hj, wrapK]
   first | done | rfl
  ·show f193_0_s (Cc lf 1) lf _ _ _ _ = _
   unfold f193_0_s
   simp (disch := (simp only [tl, tls] at ht; omega)) only [iLt_t hb, hr, cond_true, cond_false, Option.bind_some, nth0, nthS, asI_i, asB_b, asS_s, asL_l, Int.toNat_natCast, List.length_set, List.set_set, getD_set hj, T.setc, cell0, cellS, List.set_cons_zero, List.set_cons_succ, ne_f, beq_self_eq_true, Bool.not_true, Bool.not_false, Int.add_assoc, Int.reduceAdd, bne_self_eq_false, m1, m2, g, wrap_next hj, wrapK]
   first | done | rfl
theorem mh134 (hlf : 33554432 ≤ lf) {d : Nat} (hd : 3 ≤ d) : MH1 (Cc lf d) 134 138 true [.i .i64, .i .i64, .i .i64, .sl false [.i .u8], .sl true [.s, .i .i64], .sl true [.s, .s]] := by
 refine MH1.le (Cc_le hd) (mh_slice1 (c' := Cc lf 3) hlf (M := fun n k i l => f134_0 (Cc lf 2) lf n k i l) (H := fun l n k i => f138_0 (Cc lf 2) lf l n k i) (fun l k => f134_eq (Cc lf 2) lf l k) (fun l k => f138_eq (Cc lf 2) lf l k) (fun n k l => ?_) (fun l n k => ?_) ?_)
 ·show f134_0_s (Cc lf 2) lf _ _ _ _ = _
  unfold f134_0_s
  rw [iLt_f (by omega), cond_false]
 ·show f138_0_s (Cc lf 2) lf _ _ _ _ = _
  unfold f138_0_s
  rw [iLt_f (by omega), cond_false]
 ·intro e0 j len hf ht hj hlen k h0 h1
  obtain ⟨a0, a1, a2, a3, a4, a5, rfl, q0, q1, q2, q3, q4, q5⟩ := fit_iiiScMsiEMssE hf
  obtain ⟨k1, b1, m1, o1, u1, v1⟩ := mh187 hlf (d := 2) (by omega) a3 q3 (by simp only [tl, tls] at ht ⊢; omega) (k + 3) (by omega) (by simp only [tl, tls] at h1 ⊢; omega)
  simp only [tl] at v1
  obtain ⟨k2, b2, m2, o2, u2, v2⟩ := mh188 hlf (d := 2) (by omega) a4 q4 (by simp only [tl, tls] at ht ⊢; omega) k1 (by omega) (by simp only [tl, tls] at h1 ⊢; omega)
  simp only [tl] at v2
  obtain ⟨k3, b3, m3, o3, u3, v3⟩ := mh189 hlf (d := 2) (by omega) a5 q5 (by simp only [tl, tls] at ht ⊢; omega) k2 (by omega) (by simp only [tl, tls] at h1 ⊢; omega)
  simp only [tl] at v3
  refine ⟨k3, T.st [T.i .i64 k, T.i .i64 (k + 1), T.i .i64 (k + 2), T.sl b1, T.sl b2, T.sl b3], by omega, by simp only [tl, tls]; omega, fun n l hl he => ?_, fun n l hl he => ?_⟩
  all_goals subst hl
  all_goals have g := getD_at he
  all_goals have hb : (j : Int) < (l.length : Int) := by omega
  all_goals have hr := inR_nat hj
  ·show f134_0_s (Cc lf 2) lf _ _ _ _ = _
   unfold f134_0_s
   simp (disch := (simp only [tl, tls] at ht; omega)) only [iLt_t hb, hr, cond_true, cond_false, Option.bind_some, nth0, nthS, asI_i, asB_b, asS_s, asL_l, Int.toNat_natCast, List.length_set, List.set_set, getD_set hj, T.setc, cell0, cellS, List.set_cons_zero, List.set_cons_succ, ne_f, beq_self_eq_true, Bool.not_true, Bool.not_false, Int.add_assoc, Int.reduceAdd, bne_self_eq_false, m1, m2, m3, g, wrap_next hj, wrapK]
   first | done | rfl
  ·show f138_0_s (Cc lf 2) lf _ _ _ _ = _
   unfold f138_0_s
   simp (disch := (simp only [tl, tls] at ht; omega)) only [iLt_t hb, hr, cond_true, cond_false, Option.bind_some, nth0, nthS, asI_i, asB_b, asS_s, asL_l, Int.toNat_natCast, List.length_set, List.set_set, getD_set hj, T.setc, cell0, cellS, List.set_cons_zero, List.set_cons_succ, ne_f, beq_self_eq_true, Bool.not_true, Bool.not_false, Int.add_assoc, Int.reduceAdd, bne_self_eq_false, o1, o2, o3, iLt_f (show ¬ (k1 < 0) by omega), iLt_f (show ¬ (k2 < 0) by omega), iLt_f (show ¬ (k3 < 0) by omega), g, wrap_next hj, wrapK]
   first | done | rfl
theorem mh75 (hlf : 33554432 ≤ lf) {d : Nat} (hd : 4 ≤ d) : MH1 (Cc lf d) 75 79 true [.i .i64, .s, .b, .i .i64, .sl true [.i .i64, .i .i64, .i .i64, .sl false [.i .u8], .sl true [.s, .i .i64], .sl true [.s, .s]], .i .i64] := by
 refine MH1.le (Cc_le hd) (mh_slice1 (c' := Cc lf 4) hlf (M := fun n k i l => f75_0 (Cc lf 3) lf n k i l) (H := fun l n k i => f79_0 (Cc lf 3) lf l n k i) (fun l k => f75_eq (Cc lf 3) lf l k) (fun l k => f79_eq (Cc lf 3) lf l k) (fun n k l => ?_) (fun l n k => ?_) ?_)
 ·show f75_0_s (Cc lf 3) lf _ _ _ _ = _
  unfold f75_0_s
  rw [iLt_f (by omega), cond_false]
 ·show f79_0_s (Cc lf 3) lf _ _ _ _ = _
  unfold f79_0_s
  rw [iLt_f (by omega), cond_false]
 ·intro e0 j len hf ht hj hlen k h0 h1
  obtain ⟨a0, a1, a2, a3, a4, a5, rfl, q0, q1, q3, q4, q5⟩ := fit_isbiMiiiScMsiEMssEEi hf
  obtain ⟨t1, m1⟩ := tx133 hlf (d := 3) (by omega) (k + 1) (by omega) (by simp only [tl, tls] at ht; omega)
  obtain ⟨k2, b2, m2, o2, u2, v2⟩ := mh134 hlf (d := 3) (by omega) a4 q4 (by simp only [tl, tls] at ht ⊢; omega) (k + 4) (by omega) (by simp only [tl, tls] at h1 ⊢; omega)
  simp only [tl] at v2
  refine ⟨(k2 + 1), T.st [T.i .i64 k, T.s t1, T.b (((k + 2).tmod 3) == 0), T.i .i64 (k + 3), T.sl b2, T.i .i64 k2], by omega, by simp only [tl, tls]; omega, fun n l hl he => ?_, fun n l hl he => ?_⟩
  all_goals subst hl
  all_goals have g := getD_at he
  all_goals have hb : (j : Int) < (l.length : Int) := by omega
  all_goals have hr := inR_nat hj
  ·show f75_0_s (Cc lf 3) lf _ _ _ _ = _
   unfold f75_0_s
   simp (disch := (simp only [tl, tls] at ht; omega)) only [iLt_t hb, hr, cond_true, cond_false, Option.bind_some, nth0, nthS, asI_i, asB_b, asS_s, asL_l, Int.toNat_natCast, List.length_set, List.set_set, getD_set hj, T.setc, cell0, cellS, List.set_cons_zero, List.set_cons_succ, ne_f, beq_self_eq_true, Bool.not_true, Bool.not_false, Int.add_assoc, Int.reduceAdd, bne_self_eq_false, m1, m2, g, wrap_next hj, wrapK]
   first | done | rfl
  ·show f79_0_s (Cc lf 3) lf _ _ _ _ = _
   unfold f79_0_s
   simp (disch := (simp only [tl, tls] at ht; omega)) only [iLt_t hb, hr, cond_true, cond_false, Option.bind_some, nth0, nthS, asI_i, asB_b, asS_s, asL_l, Int.toNat_natCast, List.length_set, List.set_set, getD_set hj, T.setc, cell0, cellS, List.set_cons_zero, List.set_cons_succ, ne_f, beq_self_eq_true, Bool.not_true, Bool.not_false, Int.add_assoc, Int.reduceAdd, bne_self_eq_false, m1, o2, iLt_f (show ¬ (k2 < 0) by omega), g, wrap_next hj, wrapK]
   first | done | rfl
theorem ms34 (hlf : 33554432 ≤ lf) {d : Nat} (hd : 5 ≤ d) {t : T} (hf : fitE true csfit_MisbiMiiiScMsiEMssEEiEi t) (ht : tl t ≤ 16777216) (k : Int) (h0 : 0 ≤ k) (hk : k + 64 * (tl t : Int) ≤ 1152921504606846976) : ∃ (k' : Int) (b0 : List T), Cc lf d 34 [t, .i .i64 k] = some [.i .i64 k', .sl b0] ∧ Cc lf d 37 [T.st [T.sl b0, (T.cell t 1)], .i .i64 k] = some [.i .i64 k'] ∧ k ≤ k' ∧ k' ≤ k + 64 * (tl t : Int) := by
 obtain ⟨a0, a1, rfl, q0, q1⟩ := fit_MisbiMiiiScMsiEMssEEiEi hf
 obtain ⟨k1, b0, m1, o1, u1, v1⟩ := mh75 hlf (d := 4) (by omega) a0 q0 (by simp only [tl, tls] at ht ⊢; omega) k (by omega) (by simp only [tl, tls] at hk ⊢; omega)
 simp only [tl] at v1
 refine ⟨k1, b0, Cc_le hd _ _ _ ?_, Cc_le hd _ _ _ ?_, by omega, by simp only [tl, tls]; omega⟩
 ·refine (f34_eq (Cc lf 4) lf a0 a1 k).trans ?_
  unfold f34 f34_t
  simp only [m1, Option.bind_some, nth0, nthS, asI_i, asL_l, asB_b, asS_s, cell0, cellS, cond_false, cond_true]
 ·try simp only [T.cell, List.getD_cons_zero, List.getD_cons_succ]
  refine (f37_eq (Cc lf 4) lf b0 a1 k).trans ?_
  unfold f37 f37_t
  simp only [o1, iLt_f (show ¬ (k1 < 0) by omega), Option.bind_some, nth0, nthS, asI_i, asL_l, asB_b, asS_s, cell0, cellS, cond_false, cond_true]
theorem mh135 (hlf : 33554432 ≤ lf) {d : Nat} (hd : 2 ≤ d) : MH1 (Cc lf d) 135 139 true [.i .i64, .s, .b, .i .i64, .i .i64] := by
 refine MH1.le (Cc_le hd) (mh_slice1 (c' := Cc lf 2) hlf (M := fun n k i l => f135_0 (Cc lf 1) lf n k i l) (H := fun l n k i => f139_0 (Cc lf 1) lf l n k i) (fun l k => f135_eq (Cc lf 1) lf l k) (fun l k => f139_eq (Cc lf 1) lf l k) (fun n k l => ?_) (fun l n k => ?_) ?_)
 ·show f135_0_s (Cc lf 1) lf _ _ _ _ = _
  unfold f135_0_s
  rw [iLt_f (by omega), cond_false]
 ·show f139_0_s (Cc lf 1) lf _ _ _ _ = _
  unfold f139_0_s
  rw [iLt_f (by omega), cond_false]
 ·intro e0 j len hf ht hj hlen k h0 h1
  obtain ⟨a0, a1, a2, a3, a4, rfl, q0, q1, q3, q4⟩ := fit_isbii hf
  obtain ⟨t1, m1⟩ := tx133 hlf (d := 1) (by omega) (k + 1) (by omega) (by simp only [tl, tls] at ht; omega)
  refine ⟨(k + 5), T.st [T.i .i64 k, T.s t1, T.b (((k + 2).tmod 3) == 0), T.i .i64 (k + 3), T.i .i64 (k + 4)], by omega, by simp only [tl, tls]; omega, fun n l hl he => ?_, fun n l hl he => ?_⟩
  all_goals subst hl
  all_goals have g := getD_at he
  all_goals have hb : (j : Int) < (l.length : Int) := by omega
  all_goals have hr := inR_nat hj
  ·show f135_0_s (Cc lf 1) lf _ _ _ _ = _
   unfold f135_0_s
   simp (disch := (simp only [tl, tls] at ht; omega)) only [iLt_t hb, hr, cond_true, cond_false, Option.bind_some, nth0, nthS, asI_i, asB_b, asS_s, asL_l, Int.toNat_natCast, List.length_set, List.set_set, getD_set hj, T.setc, cell0, cellS, List.set_cons_zero, List.set_cons_succ, ne_f, beq_self_eq_true, Bool.not_true, Bool.not_false, Int.add_assoc, Int.reduceAdd, bne_self_eq_false, m1, g, wrap_next hj, wrapK]
   first | done | rfl
  ·show f139_0_s (Cc lf 1) lf _ _ _ _ = _
   unfold f139_0_s
   simp (disch := (simp only [tl, tls] at ht; omega)) only [iLt_t hb, hr, cond_true, cond_false, Option.bind_some, nth0, nthS, asI_i, asB_b, asS_s, asL_l, Int.toNat_natCast, List.length_set, List.set_set, getD_set hj, T.setc, cell0, cellS, List.set_cons_zero, List.set_cons_succ, ne_f, beq_self_eq_true, Bool.not_true, Bool.not_false, Int.add_assoc, Int.reduceAdd, bne_self_eq_false, m1, g, wrap_next hj, wrapK]
   first | done | rfl
theorem ms76 (hlf : 33554432 ≤ lf) {d : Nat} (hd : 3 ≤ d) {t : T} (hf : fitE true csfit_iMisbiiE t) (ht : tl t ≤ 16777216) (k : Int) (h0 : 0 ≤ k) (hk : k + 64 * (tl t : Int) ≤ 1152921504606846976) : ∃ (k' : Int) (b1 : List T), Cc lf d 76 [t, .i .i64 k] = some [.i .i64 k', .sl b1] ∧ Cc lf d 80 [T.st [(T.cell t 0), T.sl b1], .i .i64 k] = some [.i .i64 k'] ∧ k ≤ k' ∧ k' ≤ k + 64 * (tl t : Int) := by
 obtain ⟨a0, a1, rfl, q0, q1⟩ := fit_iMisbiiE hf
 obtain ⟨k1, b1, m1, o1, u1, v1⟩ := mh135 hlf (d := 2) (by omega) a1 q1 (by simp only [tl, tls] at ht ⊢; omega) k (by omega) (by simp only [tl, tls] at hk ⊢; omega)
 simp only [tl] at v1
 refine ⟨k1, b1, Cc_le hd _ _ _ ?_, Cc_le hd _ _ _ ?_, by omega, by simp only [tl, tls]; omega⟩
 ·refine (f76_eq (Cc lf 2) lf a0 a1 k).trans ?_
  unfold f76 f76_t
  simp only [m1, Option.bind_some, nth0, nthS, asI_i, asL_l, asB_b, asS_s, cell0, cellS, cond_false, cond_true]
 ·try simp only [T.cell, List.getD_cons_zero, List.getD_cons_succ]
  refine (f80_eq (Cc lf 2) lf a0 b1 k).trans ?_
  unfold f80 f80_t
  simp only [o1, iLt_f (show ¬ (k1 < 0) by omega), Option.bind_some, nth0, nthS, asI_i, asL_l, asB_b, asS_s, cell0, cellS, cond_false, cond_true]
theorem mh136 (hlf : 33554432 ≤ lf) {d : Nat} (hd : 1 ≤ d) : MH1 (Cc lf d) 136 140 true [.i .i64, .i .i64] := by
 refine MH1.le (Cc_le hd) (mh_slice1 (c' := Cc lf 1) hlf (M := fun n k i l => f136_0 (Cc lf 0) lf n k i l) (H := fun l n k i => f140_0 (Cc lf 0) lf l n k i) (fun l k => f136_eq (Cc lf 0) lf l k) (fun l k => f140_eq (Cc lf 0) lf l k) (fun n k l => ?_) (fun l n k => ?_) ?_)
 ·show f136_0_s (Cc lf 0) lf _ _ _ _ = _
  unfold f136_0_s
  rw [iLt_f (by omega), cond_false]
 ·show f140_0_s (Cc lf 0) lf _ _ _ _ = _
  unfold f140_0_s
  rw [iLt_f (by omega), cond_false]
 ·intro e0 j len hf ht hj hlen k h0 h1
  obtain ⟨a0, a1, rfl, q0, q1⟩ := fit_ii hf
  refine ⟨(k + 2), T.st [T.i .i64 k, T.i .i64 (k + 1)], by omega, by simp only [tl, tls]; omega, fun n l hl he => ?_, fun n l hl he => ?_⟩
  all_goals subst hl
  all_goals have g := getD_at he
  all_goals have hb : (j : Int) < (l.length : Int) := by omega
  all_goals have hr := inR_nat hj
  ·show f136_0_s (Cc lf 0) lf _ _ _ _ = _
   unfold f136_0_s
   simp (disch := (simp only [tl, tls] at ht; omega)) only [iLt_t hb, hr, cond_true, cond_false, Option.bind_some, nth0, nthS, asI_i, asB_b, asS_s, asL_l, Int.toNat_natCast, List.length_set, List.set_set, getD_set hj, T.setc, cell0, cellS, List.set_cons_zero, List.set_cons_succ, ne_f, beq_self_eq_true, Bool.not_true, Bool.not_false, Int.add_assoc, Int.reduceAdd, bne_self_eq_false, g, wrap_next hj, wrapK]
   first | done | rfl
  ·show f140_0_s (Cc lf 0) lf _ _ _ _ = _
   unfold f140_0_s
   simp (disch := (simp only [tl, tls] at ht; omega)) only [iLt_t hb, hr, cond_true, cond_false, Option.bind_some, nth0, nthS, asI_i, asB_b, asS_s, asL_l, Int.toNat_natCast, List.length_set, List.set_set, getD_set hj, T.setc, cell0, cellS, List.set_cons_zero, List.set_cons_succ, ne_f, beq_self_eq_true, Bool.not_true, Bool.not_false, Int.add_assoc, Int.reduceAdd, bne_self_eq_false, g, wrap_next hj, wrapK]
   first | done | rfl
theorem mh77 (hlf : 33554432 ≤ lf) {d : Nat} (hd : 2 ≤ d) : MH1 (Cc lf d) 77 81 true [.i .i64, .sl true [.i .i64, .i .i64]] := by
 refine MH1.le (Cc_le hd) (mh_slice1 (c' := Cc lf 2) hlf (M := fun n k i l => f77_0 (Cc lf 1) lf n k i l) (H := fun l n k i => f81_0 (Cc lf 1) lf l n k i) (fun l k => f77_eq (Cc lf 1) lf l k) (fun l k => f81_eq (Cc lf 1) lf l k) (fun n k l => ?_) (fun l n k => ?_) ?_)
 ·show f77_0_s (Cc lf 1) lf _ _ _ _ = _
  unfold f77_0_s
  rw [iLt_f (by omega), cond_false]
 ·show f81_0_s (Cc lf 1) lf _ _ _ _ = _
  unfold f81_0_s
  rw [iLt_f (by omega), cond_false]
 ·intro e0 j len hf ht hj hlen k h0 h1
  obtain ⟨a0, a1, rfl, q0, q1⟩ := fit_iMiiE hf
  obtain ⟨k1, b1, m1, o1, u1, v1⟩ := mh136 hlf (d := 1) (by omega) a1 q1 (by simp only [tl, tls] at ht ⊢; omega) (k + 1) (by omega) (by simp only [tl, tls] at h1 ⊢; omega)
  simp only [tl] at v1
  refine ⟨k1, T.st [T.i .i64 k, T.sl b1], by omega, by simp only [tl, tls]; omega, fun n l hl he => ?_, fun n l hl he => ?_⟩
  all_goals subst hl
  all_goals have g := getD_at he
  all_goals have hb : (j : Int) < (l.length : Int) := by omega
  all_goals have hr := inR_nat hj
  ·show f77_0_s (Cc lf 1) lf _ _ _ _ = _
   unfold f77_0_s
   simp (disch := (simp only [tl, tls] at ht; omega)) only [iLt_t hb, hr, cond_true, cond_false, Option.bind_some, nth0, nthS, asI_i, asB_b, asS_s, asL_l, Int.toNat_natCast, List.length_set, List.set_set, getD_set hj, T.setc, cell0, cellS, List.set_cons_zero, List.set_cons_succ, ne_f, beq_self_eq_true, Bool.not_true, Bool.not_false, Int.add_assoc, Int.reduceAdd, bne_self_eq_false, m1, g, wrap_next hj, wrapK]
   first | done | rfl
  ·show f81_0_s (Cc lf 1) lf _ _ _ _ = _
   unfold f81_0_s
   simp (disch := (simp only [tl, tls] at ht; omega)) only [iLt_t hb, hr, cond_true, cond_false, Option.bind_some, nth0, nthS, asI_i, asB_b, asS_s, asL_l, Int.toNat_natCast, List.length_set, List.set_set, getD_set hj, T.setc, cell0, cellS, List.set_cons_zero, List.set_cons_succ, ne_f, beq_self_eq_true, Bool.not_true, Bool.not_false, Int.add_assoc, Int.reduceAdd, bne_self_eq_false, o1, iLt_f (show ¬ (k1 < 0) by omega), g, wrap_next hj, wrapK]
   first | done | rfl
theorem ms35 (hlf : 33554432 ≤ lf) {d : Nat} (hd : 6 ≤ d) {t : T} (hf : fitE true csfit_MisbiMiiiScMsiEMssEEiEiiMisbiiEMiMiiEEii t) (ht : tl t ≤ 16777216) (k : Int) (h0 : 0 ≤ k) (hk : k + 64 * (tl t : Int) ≤ 1152921504606846976) : ∃ (k' : Int) (b0 : List T) (b3 : List T) (b4 : List T), Cc lf d 35 [t, .i .i64 k] = some [.i .i64 k', .sl b0, .sl b3, .sl b4] ∧ Cc lf d 38 [T.st [T.sl b0, (T.cell t 1), (T.cell t 2), T.sl b3, T.sl b4, (T.cell t 5), (T.cell t 6)], .i .i64 k] = some [.i .i64 k'] ∧ k ≤ k' ∧ k' ≤ k + 64 * (tl t : Int) := by
 obtain ⟨a0, a1, a2, a3, a4, a5, a6, rfl, q0, q1, q2, q3, q4, q5, q6⟩ := fit_MisbiMiiiScMsiEMssEEiEiiMisbiiEMiMiiEEii hf
 obtain ⟨k1, b0, m1, o1, u1, v1⟩ := ms34 hlf (d := 5) (by omega) (t := T.st [T.sl a0, T.i .i64 a1]) (show fitE true csfit_MisbiMiiiScMsiEMssEEiEi (T.st [T.sl a0, T.i .i64 a1]) from ⟨q0, ⟨rfl, q1⟩, trivial⟩) (by simp only [tl, tls] at ht ⊢; omega) k (by omega) (by simp only [tl, tls] at ht hk ⊢; omega)
 simp only [tl, tls] at v1
 try simp only [T.cell, List.getD_cons_zero, List.getD_cons_succ] at o1
 obtain ⟨k2, b3, m2, o2, u2, v2⟩ := ms76 hlf (d := 5) (by omega) (t := T.st [T.i .i64 a2, T.sl a3]) (show fitE true csfit_iMisbiiE (T.st [T.i .i64 a2, T.sl a3]) from ⟨⟨rfl, q2⟩, q3, trivial⟩) (by simp only [tl, tls] at ht ⊢; omega) k1 (by omega) (by simp only [tl, tls] at ht hk ⊢; omega)
 simp only [tl, tls] at v2
 try simp only [T.cell, List.getD_cons_zero, List.getD_cons_succ] at o2
 obtain ⟨k3, b4, m3, o3, u3, v3⟩ := mh77 hlf (d := 5) (by omega) a4 q4 (by simp only [tl, tls] at ht ⊢; omega) k2 (by omega) (by simp only [tl, tls] at hk ⊢; omega)
 simp only [tl] at v3
 refine ⟨k3, b0, b3, b4, Cc_le hd _ _ _ ?_, Cc_le hd _ _ _ ?_, by omega, by simp only [tl, tls]; omega⟩
 ·refine (f35_eq (Cc lf 5) lf a0 a1 a2 a3 a4 a5 a6 k).trans ?_
  unfold f35 f35_t
  simp only [m1, m2, m3, Option.bind_some, nth0, nthS, asI_i, asL_l, asB_b, asS_s, cell0, cellS, cond_false, cond_true]
 ·try simp only [T.cell, List.getD_cons_zero, List.getD_cons_succ]
  refine (f38_eq (Cc lf 5) lf b0 a1 a2 b3 b4 a5 a6 k).trans ?_
  unfold f38 f38_t
  simp only [o1, o2, o3, iLt_f (show ¬ (k1 < 0) by omega), iLt_f (show ¬ (k2 < 0) by omega), iLt_f (show ¬ (k3 < 0) by omega), Option.bind_some, nth0, nthS, asI_i, asL_l, asB_b, asS_s, cell0, cellS, cond_false, cond_true]
theorem mh218 (hlf : 33554432 ≤ lf) {d : Nat} (hd : 2 ≤ d) : MH1 (Cc lf d) 218 219 true [.b, .sl false [.i .u8]] := by
 refine MH1.le (Cc_le hd) (mh_slice1 (c' := Cc lf 2) hlf (M := fun n k i l => f218_0 (Cc lf 1) lf n k i l) (H := fun l n k i => f219_0 (Cc lf 1) lf l n k i) (fun l k => f218_eq (Cc lf 1) lf l k) (fun l k => f219_eq (Cc lf 1) lf l k) (fun n k l => ?_) (fun l n k => ?_) ?_)
 ·show f218_0_s (Cc lf 1) lf _ _ _ _ = _
  unfold f218_0_s
  rw [iLt_f (by omega), cond_false]
 ·show f219_0_s (Cc lf 1) lf _ _ _ _ = _
  unfold f219_0_s
  rw [iLt_f (by omega), cond_false]
 ·intro e0 j len hf ht hj hlen k h0 h1
  obtain ⟨a0, a1, rfl, q1⟩ := fit_bSc hf
  obtain ⟨k1, b1, m1, o1, u1, v1⟩ := mh187 hlf (d := 1) (by omega) a1 q1 (by simp only [tl, tls] at ht ⊢; omega) (k + 1) (by omega) (by simp only [tl, tls] at h1 ⊢; omega)
  simp only [tl] at v1
  refine ⟨k1, T.st [T.b ((k.tmod 3) == 0), T.sl b1], by omega, by simp only [tl, tls]; omega, fun n l hl he => ?_, fun n l hl he => ?_⟩
  all_goals subst hl
  all_goals have g := getD_at he
  all_goals have hb : (j : Int) < (l.length : Int) := by omega
  all_goals have hr := inR_nat hj
  ·show f218_0_s (Cc lf 1) lf _ _ _ _ = _
   unfold f218_0_s
   simp (disch := (simp only [tl, tls] at ht; omega)) only [iLt_t hb, hr, cond_true, cond_false, Option.bind_some, nth0, nthS, asI_i, asB_b, asS_s, asL_l, Int.toNat_natCast, List.length_set, List.set_set, getD_set hj, T.setc, cell0, cellS, List.set_cons_zero, List.set_cons_succ, ne_f, beq_self_eq_true, Bool.not_true, Bool.not_false, Int.add_assoc, Int.reduceAdd, bne_self_eq_false, m1, g, wrap_next hj, wrapK]
   first | done | rfl
  ·show f219_0_s (Cc lf 1) lf _ _ _ _ = _
   unfold f219_0_s
   simp (disch := (simp only [tl, tls] at ht; omega)) only [iLt_t hb, hr, cond_true, cond_false, Option.bind_some, nth0, nthS, asI_i, asB_b, asS_s, asL_l, Int.toNat_natCast, List.length_set, List.set_set, getD_set hj, T.setc, cell0, cellS, List.set_cons_zero, List.set_cons_succ, ne_f, beq_self_eq_true, Bool.not_true, Bool.not_false, Int.add_assoc, Int.reduceAdd, bne_self_eq_false, o1, iLt_f (show ¬ (k1 < 0) by omega), g, wrap_next hj, wrapK]
   first | done | rfl
theorem mh190 (hlf : 33554432 ≤ lf) {d : Nat} (hd : 3 ≤ d) : MH1 (Cc lf d) 190 194 true [.sl true [.b, .sl false [.i .u8]], .i .i64, .b] := by
 refine MH1.le (Cc_le hd) (mh_slice1 (c' := Cc lf 3) hlf (M := fun n k i l => f190_0 (Cc lf 2) lf n k i l) (H := fun l n k i => f194_0 (Cc lf 2) lf l n k i) (fun l k => f190_eq (Cc lf 2) lf l k) (fun l k => f194_eq (Cc lf 2) lf l k) (fun n k l => ?_) (fun l n k => ?_) ?_)
 ·show f190_0_s (Cc lf 2) lf _ _ _ _ = _
  unfold f190_0_s
  rw [iLt_f (by omega), cond_false]
 ·show f194_0_s (Cc lf 2) lf _ _ _ _ = _
  unfold f194_0_s
  rw [iLt_f (by omega), cond_false]
 ·intro e0 j len hf ht hj hlen k h0 h1
  obtain ⟨a0, a1, a2, rfl, q0, q1⟩ := fit_MbScEib hf
  obtain ⟨k1, b1, m1, o1, u1, v1⟩ := mh218 hlf (d := 2) (by omega) a0 q0 (by simp only [tl, tls] at ht ⊢; omega) k (by omega) (by simp only [tl, tls] at h1 ⊢; omega)
  simp only [tl] at v1
  refine ⟨(k1 + 2), T.st [T.sl b1, T.i .i64 k1, T.b (((k1 + 1).tmod 3) == 0)], by omega, by simp only [tl, tls]; omega, fun n l hl he => ?_, fun n l hl he => ?_⟩
  all_goals subst hl
  all_goals have g := getD_at he
  all_goals have hb : (j : Int) < (l.length : Int) := by omega
  all_goals have hr := inR_nat hj
  ·show f190_0_s (Cc lf 2) lf _ _ _ _ = _
   unfold f190_0_s
   simp (disch := (simp only [tl, tls] at ht; omega)) only [iLt_t hb, hr, cond_true, cond_false, Option.bind_some, nth0, nthS, asI_i, asB_b, asS_s, asL_l, Int.toNat_natCast, List.length_set, List.set_set, getD_set hj, T.setc, cell0, cellS, List.set_cons_zero, List.set_cons_succ, ne_f, beq_self_eq_true, Bool.not_true, Bool.not_false, Int.add_assoc, Int.reduceAdd, bne_self_eq_false, m1, g, wrap_next hj, wrapK]
   first | done | rfl
  ·show f194_0_s (Cc lf 2) lf _ _ _ _ = _
   unfold f194_0_s
   simp (disch := (simp only [tl, tls] at ht; omega)) only [iLt_t hb, hr, cond_true, cond_false, Option.bind_some, nth0, nthS, asI_i, asB_b, asS_s, asL_l, Int.toNat_natCast, List.length_set, List.set_set, getD_set hj, T.setc, cell0, cellS, List.set_cons_zero, List.set_cons_succ, ne_f, beq_self_eq_true, Bool.not_true, Bool.not_false, Int.add_assoc, Int.reduceAdd, bne_self_eq_false, o1, iLt_f (show ¬ (k1 < 0) by omega), g, wrap_next hj, wrapK]
   first | done | rfl
theorem ms137 (hlf : 33554432 ≤ lf) {d : Nat} (hd : 4 ≤ d) {t : T} (hf : fitE true csfit_MMbScEibE t) (ht : tl t ≤ 16777216) (k : Int) (h0 : 0 ≤ k) (hk : k + 64 * (tl t : Int) ≤ 1152921504606846976) : ∃ (k' : Int) (b0 : List T), Cc lf d 137 [t, .i .i64 k] = some [.i .i64 k', .sl b0] ∧ Cc lf d 141 [T.st [T.sl b0], .i .i64 k] = some [.i .i64 k'] ∧ k ≤ k' ∧ k' ≤ k + 64 * (tl t : Int) := by
 obtain ⟨a0, rfl, q0⟩ := fit_MMbScEibE hf
 obtain ⟨k1, b0, m1, o1, u1, v1⟩ := mh190 hlf (d := 3) (by omega) a0 q0 (by simp only [tl, tls] at ht ⊢; omega) k (by omega) (by simp only [tl, tls] at hk ⊢; omega)
 simp only [tl] at v1
 refine ⟨k1, b0, Cc_le hd _ _ _ ?_, Cc_le hd _ _ _ ?_, by omega, by simp only [tl, tls]; omega⟩
 ·refine (f137_eq (Cc lf 3) lf a0 k).trans ?_
  unfold f137 f137_t
  simp only [m1, Option.bind_some, nth0, nthS, asI_i, asL_l, asB_b, asS_s, cell0, cellS, cond_false, cond_true]
 ·try simp only [T.cell, List.getD_cons_zero, List.getD_cons_succ]
  refine (f141_eq (Cc lf 3) lf b0 k).trans ?_
  unfold f141 f141_t
  simp only [o1, iLt_f (show ¬ (k1 < 0) by omega), Option.bind_some, nth0, nthS, asI_i, asL_l, asB_b, asS_s, cell0, cellS, cond_false, cond_true]
theorem ms78 (hlf : 33554432 ≤ lf) {d : Nat} (hd : 5 ≤ d) {t : T} (hf : fitE true csfit_MMbScEibEiMiiiEb t) (ht : tl t ≤ 16777216) (k : Int) (h0 : 0 ≤ k) (hk : k + 64 * (tl t : Int) ≤ 1152921504606846976) : ∃ (k' : Int) (b0 : List T) (b2 : List T), Cc lf d 78 [t, .i .i64 k] = some [.i .i64 k', .sl b0, .sl b2] ∧ Cc lf d 82 [T.st [T.sl b0, (T.cell t 1), T.sl b2, (T.cell t 3)], .i .i64 k] = some [.i .i64 k'] ∧ k ≤ k' ∧ k' ≤ k + 64 * (tl t : Int) := by
 obtain ⟨a0, a1, a2, a3, rfl, q0, q1, q2⟩ := fit_MMbScEibEiMiiiEb hf
 obtain ⟨k1, b0, m1, o1, u1, v1⟩ := ms137 hlf (d := 4) (by omega) (t := T.st [T.sl a0]) (show fitE true csfit_MMbScEibE (T.st [T.sl a0]) from ⟨q0, trivial⟩) (by simp only [tl, tls] at ht ⊢; omega) k (by omega) (by simp only [tl, tls] at ht hk ⊢; omega)
 simp only [tl, tls] at v1
 try simp only [T.cell, List.getD_cons_zero, List.getD_cons_succ] at o1
 obtain ⟨k2, b2, m2, o2, u2, v2⟩ := mh11 hlf (d := 4) (by omega) a2 q2 (by simp only [tl, tls] at ht ⊢; omega) k1 (by omega) (by simp only [tl, tls] at hk ⊢; omega)
 simp only [tl] at v2
 refine ⟨k2, b0, b2, Cc_le hd _ _ _ ?_, Cc_le hd _ _ _ ?_, by omega, by simp only [tl, tls]; omega⟩
 ·refine (f78_eq (Cc lf 4) lf a0 a1 a2 a3 k).trans ?_
  unfold f78 f78_t
  simp only [m1, m2, Option.bind_some, nth0, nthS, asI_i, asL_l, asB_b, asS_s, cell0, cellS, cond_false, cond_true]
 ·try simp only [T.cell, List.getD_cons_zero, List.getD_cons_succ]
  refine (f82_eq (Cc lf 4) lf b0 a1 b2 a3 k).trans ?_
  unfold f82 f82_t
  simp only [o1, o2, iLt_f (show ¬ (k1 < 0) by omega), iLt_f (show ¬ (k2 < 0) by omega), Option.bind_some, nth0, nthS, asI_i, asL_l, asB_b, asS_s, cell0, cellS, cond_false, cond_true]
theorem ms36 (hlf : 33554432 ≤ lf) {d : Nat} (hd : 6 ≤ d) {t : T} (hf : fitE true csfit_MMbScEibEiMiiiEbi t) (ht : tl t ≤ 16777216) (k : Int) (h0 : 0 ≤ k) (hk : k + 64 * (tl t : Int) ≤ 1152921504606846976) : ∃ (k' : Int) (b0 : List T) (b2 : List T), Cc lf d 36 [t, .i .i64 k] = some [.i .i64 k', .sl b0, .sl b2] ∧ Cc lf d 39 [T.st [T.sl b0, (T.cell t 1), T.sl b2, (T.cell t 3), (T.cell t 4)], .i .i64 k] = some [.i .i64 k'] ∧ k ≤ k' ∧ k' ≤ k + 64 * (tl t : Int) := by
 obtain ⟨a0, a1, a2, a3, a4, rfl, q0, q1, q2, q4⟩ := fit_MMbScEibEiMiiiEbi hf
 obtain ⟨k1, b0, b2, m1, o1, u1, v1⟩ := ms78 hlf (d := 5) (by omega) (t := T.st [T.sl a0, T.i .i64 a1, T.sl a2, T.b a3]) (show fitE true csfit_MMbScEibEiMiiiEb (T.st [T.sl a0, T.i .i64 a1, T.sl a2, T.b a3]) from ⟨q0, ⟨rfl, q1⟩, q2, trivial, trivial⟩) (by simp only [tl, tls] at ht ⊢; omega) k (by omega) (by simp only [tl, tls] at ht hk ⊢; omega)
 simp only [tl, tls] at v1
 try simp only [T.cell, List.getD_cons_zero, List.getD_cons_succ] at o1
 refine ⟨k1, b0, b2, Cc_le hd _ _ _ ?_, Cc_le hd _ _ _ ?_, by omega, by simp only [tl, tls]; omega⟩
 ·refine (f36_eq (Cc lf 5) lf a0 a1 a2 a3 a4 k).trans ?_
  unfold f36 f36_t
  simp only [m1, Option.bind_some, nth0, nthS, asI_i, asL_l, asB_b, asS_s, cell0, cellS, cond_false, cond_true]
 ·try simp only [T.cell, List.getD_cons_zero, List.getD_cons_succ]
  refine (f39_eq (Cc lf 5) lf b0 a1 b2 a3 a4 k).trans ?_
  unfold f39 f39_t
  simp only [o1, iLt_f (show ¬ (k1 < 0) by omega), Option.bind_some, nth0, nthS, asI_i, asL_l, asB_b, asS_s, cell0, cellS, cond_false, cond_true]
theorem ms12 (hlf : 33554432 ≤ lf) {d : Nat} (hd : 7 ≤ d) {t : T} (hf : fitE true csfit_MisbiMiiiScMsiEMssEEiEiMisbiMiiiScMsiEMssEEiEiiMisbiiEMiMiiEEiiMMbScEibEiMiiiEbi t) (ht : tl t ≤ 16777216) (k : Int) (h0 : 0 ≤ k) (hk : k + 64 * (tl t : Int) ≤ 1152921504606846976) : ∃ (k' : Int) (b0 : List T) (b2 : List T) (b5 : List T) (b6 : List T) (b9 : List T) (b11 : List T), Cc lf d 12 [t, .i .i64 k] = some [.i .i64 k', .sl b0, .sl b2, .sl b5, .sl b6, .sl b9, .sl b11] ∧ Cc lf d 13 [T.st [T.sl b0, (T.cell t 1), T.sl b2, (T.cell t 3), (T.cell t 4), T.sl b5, T.sl b6, (T.cell t 7), (T.cell t 8), T.sl b9, (T.cell t 10), T.sl b11, (T.cell t 12), (T.cell t 13)], .i .i64 k] = some [.i .i64 k'] ∧ k ≤ k' ∧ k' ≤ k + 64 * (tl t : Int) := by
 obtain ⟨a0, a1, a2, a3, a4, a5, a6, a7, a8, a9, a10, a11, a12, a13, rfl, q0, q1, q2, q3, q4, q5, q6, q7, q8, q9, q10, q11, q13⟩ := fit_MisbiMiiiScMsiEMssEEiEiMisbiMiiiScMsiEMssEEiEiiMisbiiEMiMiiEEiiMMbScEibEiMiiiEbi hf
 obtain ⟨k1, b0, m1, o1, u1, v1⟩ := ms34 hlf (d := 6) (by omega) (t := T.st [T.sl a0, T.i .i64 a1]) (show fitE true csfit_MisbiMiiiScMsiEMssEEiEi (T.st [T.sl a0, T.i .i64 a1]) from ⟨q0, ⟨rfl, q1⟩, trivial⟩) (by simp only [tl, tls] at ht ⊢; omega) k (by omega) (by simp only [tl, tls] at ht hk ⊢; omega)
 simp only [tl, tls] at v1
 try simp only [T.cell, List.getD_cons_zero, List.getD_cons_succ] at o1
 obtain ⟨k2, b2, b5, b6, m2, o2, u2, v2⟩ := ms35 hlf (d := 6) (by omega) (t := T.st [T.sl a2, T.i .i64 a3, T.i .i64 a4, T.sl a5, T.sl a6, T.i .i64 a7, T.i .i64 a8]) (show fitE true csfit_MisbiMiiiScMsiEMssEEiEiiMisbiiEMiMiiEEii (T.st [T.sl a2, T.i .i64 a3, T.i .i64 a4, T.sl a5, T.sl a6, T.i .i64 a7, T.i .i64 a8]) from ⟨q2, ⟨rfl, q3⟩, ⟨rfl, q4⟩, q5, q6, ⟨rfl, q7⟩, ⟨rfl, q8⟩, trivial⟩) (by simp only [tl, tls] at ht ⊢; omega) k1 (by omega) (by simp only [tl, tls] at ht hk ⊢; omega)
 simp only [tl, tls] at v2
 try simp only [T.cell, List.getD_cons_zero, List.getD_cons_succ] at o2
 obtain ⟨k3, b9, b11, m3, o3, u3, v3⟩ := ms36 hlf (d := 6) (by omega) (t := T.st [T.sl a9, T.i .i64 a10, T.sl a11, T.b a12, T.i .i64 a13]) (show fitE true csfit_MMbScEibEiMiiiEbi (T.st [T.sl a9, T.i .i64 a10, T.sl a11, T.b a12, T.i .i64 a13]) from ⟨q9, ⟨rfl, q10⟩, q11, trivial, ⟨rfl, q13⟩, trivial⟩) (by simp only [tl, tls] at ht ⊢; omega) k2 (by omega) (by simp only [tl, tls] at ht hk ⊢; omega)
 simp only [tl, tls] at v3
 try simp only [T.cell, List.getD_cons_zero, List.getD_cons_succ] at o3
 refine ⟨k3, b0, b2, b5, b6, b9, b11, Cc_le hd _ _ _ ?_, Cc_le hd _ _ _ ?_, by omega, by simp only [tl, tls]; omega⟩
 ·refine (f12_eq (Cc lf 6) lf a0 a1 a2 a3 a4 a5 a6 a7 a8 a9 a10 a11 a12 a13 k).trans ?_
  unfold f12 f12_t
  simp only [m1, m2, m3, Option.bind_some, nth0, nthS, asI_i, asL_l, asB_b, asS_s, cell0, cellS, cond_false, cond_true]
 ·try simp only [T.cell, List.getD_cons_zero, List.getD_cons_succ]
  refine (f13_eq (Cc lf 6) lf b0 a1 b2 a3 a4 b5 b6 a7 a8 b9 a10 b11 a12 a13 k).trans ?_
  unfold f13 f13_t
  simp only [o1, o2, o3, iLt_f (show ¬ (k1 < 0) by omega), iLt_f (show ¬ (k2 < 0) by omega), iLt_f (show ¬ (k3 < 0) by omega), Option.bind_some, nth0, nthS, asI_i, asL_l, asB_b, asS_s, cell0, cellS, cond_false, cond_true]
end
end Go.Proofs.YtcippopaecnjhaaGreat.T
