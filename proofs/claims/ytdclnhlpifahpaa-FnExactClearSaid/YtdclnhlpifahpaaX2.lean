/- What functions of the law FnExactClear come to, in trees; no condition. -/
import Derived.Test.YtdclnhlpifahpaaRows
import Derived.Test.YtdclnhlpifahpaaX1
set_option linter.unusedVariables false
set_option linter.constructorNameAsVariable false
set_option linter.unusedSimpArgs false
set_option linter.unnecessarySimpa false
namespace Go.Proofs.Ytdclnhlpifahpaa.T
open Go Go.Proofs.YtdclnhlpifahpaaV
set_option maxRecDepth 100000
/-- The functions, by depth. -/
noncomputable abbrev Cc (lf d : Nat) : Orc := orc X env lf 6 d
theorem Cc_le {lf d d' : Nat} (h : d ≤ d') : OLe (Cc lf d) (Cc lf d') := fun _ _ _ g => orc_le h g
section
variable {lf : Nat}
theorem sz259 (hlf : 33554432 ≤ lf) {d : Nat} (hd : 1 ≤ d) : SZ1 (Cc lf d) 259 (fitC (.sl false [.i .u8])) := by
  exact SZ1.le (Cc_le hd) (sz_flat1 (c := Cc lf 1) rfl fun l x => f259_eq (Cc lf 0) lf l x)
abbrev csfit_si : List CT := [.s, .i .i64]
theorem fit_si {t : T} (h : fitE true csfit_si t) : ∃ (a0 : ByteArray) (a1 : Int), t = .st [.s a0, .i .i64 a1] ∧ a0.size ≤ maxLen ∧ (Lit.int .i64 a1).wf = true := by
  obtain ⟨l, rfl, h⟩ := fitE_st h
  obtain ⟨x0, l0, rfl, h0, h⟩ := fitCs_cons h
  obtain ⟨x1, l1, rfl, h1, h⟩ := fitCs_cons h
  obtain rfl := fitCs_nil h
  obtain ⟨a0, rfl, q0⟩ := fitC_s h0
  obtain ⟨a1, rfl, q1⟩ := fitC_i h1
  exact ⟨a0, a1, rfl, q0, q1⟩
theorem sz266 (hlf : 33554432 ≤ lf) {d : Nat} (hd : 1 ≤ d) : SZ1 (Cc lf d) 266 (fitE true csfit_si) := by
  refine SZ1.le (Cc_le hd) ?_
  intro t ht x h0 h1
  obtain ⟨a0, a1, rfl, q0, q1⟩ := fit_si ht
  have hcall : Cc lf 1 266 [T.st [T.s a0, T.i .i64 a1], T.i .i64 x] = f266_t (Cc lf 0) lf a0 a1 x := f266_eq (Cc lf 0) lf a0 a1 x
  rw [hcall]
  unfold f266_t
  have w1 := sub_in (x := x) (n := a0.size) (by omega) (by omega) q0
  rw [w1]
  by_cases p1 : x - (a0.size : Int) < 0
  · left
    rw [iLt_t p1, cond_true]
  rw [iLt_f p1, cond_false]
  obtain ⟨y1, e1⟩ : ∃ y, y = x - (a0.size : Int) := ⟨_, rfl⟩
  rw [← e1]
  refine .inr ⟨y1, rfl, by omega, ?_⟩
  simp only [tl, tls]
  omega
theorem sz260 (hlf : 33554432 ≤ lf) {d : Nat} (hd : 2 ≤ d) : SZ1 (Cc lf d) 260 (fitC (.sl true [.s, .i .i64])) := by
  exact SZ1.le (Cc_le hd) (sz_slice1 (c := Cc lf 1) (c' := Cc lf 2) hlf (sz266 hlf (Nat.le_refl _)) (F := fun l n x i => f260_0 (Cc lf 1) lf l n x i) (G := fun l i x => Cc lf 1 266 [T.st [T.s (asS (T.cell (l.getD i.toNat T.u) 0)), T.i .i64 (asI (T.cell (l.getD i.toNat T.u) 1))], T.i .i64 x])
    (fun l x => f260_eq (Cc lf 1) lf l x) (fun l n x i => rfl) (fun l j x h hf => by
      obtain ⟨a0, a1, e, _⟩ := fit_si hf
      simp only [getD_nat h, e]
      rfl))
abbrev csfit_ss : List CT := [.s, .s]
theorem fit_ss {t : T} (h : fitE true csfit_ss t) : ∃ (a0 : ByteArray) (a1 : ByteArray), t = .st [.s a0, .s a1] ∧ a0.size ≤ maxLen ∧ a1.size ≤ maxLen := by
  obtain ⟨l, rfl, h⟩ := fitE_st h
  obtain ⟨x0, l0, rfl, h0, h⟩ := fitCs_cons h
  obtain ⟨x1, l1, rfl, h1, h⟩ := fitCs_cons h
  obtain rfl := fitCs_nil h
  obtain ⟨a0, rfl, q0⟩ := fitC_s h0
  obtain ⟨a1, rfl, q1⟩ := fitC_s h1
  exact ⟨a0, a1, rfl, q0, q1⟩
theorem sz267 (hlf : 33554432 ≤ lf) {d : Nat} (hd : 1 ≤ d) : SZ1 (Cc lf d) 267 (fitE true csfit_ss) := by
  refine SZ1.le (Cc_le hd) ?_
  intro t ht x h0 h1
  obtain ⟨a0, a1, rfl, q0, q1⟩ := fit_ss ht
  have hcall : Cc lf 1 267 [T.st [T.s a0, T.s a1], T.i .i64 x] = f267_t (Cc lf 0) lf a0 a1 x := f267_eq (Cc lf 0) lf a0 a1 x
  rw [hcall]
  unfold f267_t
  have w1 := sub_in (x := x) (n := a0.size) (by omega) (by omega) q0
  rw [w1]
  by_cases p1 : x - (a0.size : Int) < 0
  · left
    rw [iLt_t p1, cond_true]
  rw [iLt_f p1, cond_false]
  obtain ⟨y1, e1⟩ : ∃ y, y = x - (a0.size : Int) := ⟨_, rfl⟩
  rw [← e1]
  have w2 := sub_in (x := y1) (n := a1.size) (by omega) (by omega) q1
  rw [w2]
  by_cases p2 : y1 - (a1.size : Int) < 0
  · left
    rw [iLt_t p2, cond_true]
  rw [iLt_f p2, cond_false]
  obtain ⟨y2, e2⟩ : ∃ y, y = y1 - (a1.size : Int) := ⟨_, rfl⟩
  rw [← e2]
  refine .inr ⟨y2, rfl, by omega, ?_⟩
  simp only [tl, tls]
  omega
theorem sz261 (hlf : 33554432 ≤ lf) {d : Nat} (hd : 2 ≤ d) : SZ1 (Cc lf d) 261 (fitC (.sl true [.s, .s])) := by
  exact SZ1.le (Cc_le hd) (sz_slice1 (c := Cc lf 1) (c' := Cc lf 2) hlf (sz267 hlf (Nat.le_refl _)) (F := fun l n x i => f261_0 (Cc lf 1) lf l n x i) (G := fun l i x => Cc lf 1 267 [T.st [T.s (asS (T.cell (l.getD i.toNat T.u) 0)), T.s (asS (T.cell (l.getD i.toNat T.u) 1))], T.i .i64 x])
    (fun l x => f261_eq (Cc lf 1) lf l x) (fun l n x i => rfl) (fun l j x h hf => by
      obtain ⟨a0, a1, e, _⟩ := fit_ss hf
      simp only [getD_nat h, e]
      rfl))
abbrev csfit_iiiScMsiEMssE : List CT := [.i .i64, .i .i64, .i .i64, .sl false [.i .u8], .sl true [.s, .i .i64], .sl true [.s, .s]]
theorem fit_iiiScMsiEMssE {t : T} (h : fitE true csfit_iiiScMsiEMssE t) : ∃ (a0 : Int) (a1 : Int) (a2 : Int) (a3 : List T) (a4 : List T) (a5 : List T), t = .st [.i .i64 a0, .i .i64 a1, .i .i64 a2, .sl a3, .sl a4, .sl a5] ∧ (Lit.int .i64 a0).wf = true ∧ (Lit.int .i64 a1).wf = true ∧ (Lit.int .i64 a2).wf = true ∧ fitC (.sl false [.i .u8]) (.sl a3) ∧ fitC (.sl true [.s, .i .i64]) (.sl a4) ∧ fitC (.sl true [.s, .s]) (.sl a5) := by
  obtain ⟨l, rfl, h⟩ := fitE_st h
  obtain ⟨x0, l0, rfl, h0, h⟩ := fitCs_cons h
  obtain ⟨x1, l1, rfl, h1, h⟩ := fitCs_cons h
  obtain ⟨x2, l2, rfl, h2, h⟩ := fitCs_cons h
  obtain ⟨x3, l3, rfl, h3, h⟩ := fitCs_cons h
  obtain ⟨x4, l4, rfl, h4, h⟩ := fitCs_cons h
  obtain ⟨x5, l5, rfl, h5, h⟩ := fitCs_cons h
  obtain rfl := fitCs_nil h
  obtain ⟨a0, rfl, q0⟩ := fitC_i h0
  obtain ⟨a1, rfl, q1⟩ := fitC_i h1
  obtain ⟨a2, rfl, q2⟩ := fitC_i h2
  obtain ⟨a3, rfl, q3⟩ := fitC_sl h3
  obtain ⟨a4, rfl, q4⟩ := fitC_sl h4
  obtain ⟨a5, rfl, q5⟩ := fitC_sl h5
  exact ⟨a0, a1, a2, a3, a4, a5, rfl, q0, q1, q2, q3, q4, q5⟩
theorem sz255 (hlf : 33554432 ≤ lf) {d : Nat} (hd : 3 ≤ d) : SZ1 (Cc lf d) 255 (fitE true csfit_iiiScMsiEMssE) := by
  refine SZ1.le (Cc_le hd) ?_
  intro t ht x h0 h1
  obtain ⟨a0, a1, a2, a3, a4, a5, rfl, q0, q1, q2, q3, q4, q5⟩ := fit_iiiScMsiEMssE ht
  have hcall : Cc lf 3 255 [T.st [T.i .i64 a0, T.i .i64 a1, T.i .i64 a2, T.sl a3, T.sl a4, T.sl a5], T.i .i64 x] = f255_t (Cc lf 2) lf a0 a1 a2 a3 a4 a5 x := f255_eq (Cc lf 2) lf a0 a1 a2 a3 a4 a5 x
  rw [hcall]
  unfold f255_t
  have s1 := sz259 hlf (d := 2) (by omega) (T.sl a3) q3 x (by omega) (by omega)
  rcases s1 with e | ⟨y1, e, p1, z1⟩
  · left
    rw [e]
    rfl
  rw [e]
  simp only [Option.bind_some, nth0, asI_i]
  rw [iLt_f (show ¬ (y1 < 0) by omega), cond_false]
  simp only [tl, tls] at z1
  have s2 := sz260 hlf (d := 2) (by omega) (T.sl a4) q4 y1 (by omega) (by omega)
  rcases s2 with e | ⟨y2, e, p2, z2⟩
  · left
    rw [e]
    rfl
  rw [e]
  simp only [Option.bind_some, nth0, asI_i]
  rw [iLt_f (show ¬ (y2 < 0) by omega), cond_false]
  simp only [tl, tls] at z2
  have s3 := sz261 hlf (d := 2) (by omega) (T.sl a5) q5 y2 (by omega) (by omega)
  rcases s3 with e | ⟨y3, e, p3, z3⟩
  · left
    rw [e]
    rfl
  rw [e]
  simp only [Option.bind_some, nth0, asI_i]
  rw [iLt_f (show ¬ (y3 < 0) by omega), cond_false]
  simp only [tl, tls] at z3
  refine .inr ⟨y3, rfl, by omega, ?_⟩
  simp only [tl, tls]
  omega
theorem sz248 (hlf : 33554432 ≤ lf) {d : Nat} (hd : 4 ≤ d) : SZ1 (Cc lf d) 248 (fitC (.sl true [.i .i64, .i .i64, .i .i64, .sl false [.i .u8], .sl true [.s, .i .i64], .sl true [.s, .s]])) := by
  exact SZ1.le (Cc_le hd) (sz_slice1 (c := Cc lf 3) (c' := Cc lf 4) hlf (sz255 hlf (Nat.le_refl _)) (F := fun l n x i => f248_0 (Cc lf 3) lf l n x i) (G := fun l i x => Cc lf 3 255 [T.st [T.i .i64 (asI (T.cell (l.getD i.toNat T.u) 0)), T.i .i64 (asI (T.cell (l.getD i.toNat T.u) 1)), T.i .i64 (asI (T.cell (l.getD i.toNat T.u) 2)), T.sl (asL (T.cell (l.getD i.toNat T.u) 3)), T.sl (asL (T.cell (l.getD i.toNat T.u) 4)), T.sl (asL (T.cell (l.getD i.toNat T.u) 5))], T.i .i64 x])
    (fun l x => f248_eq (Cc lf 3) lf l x) (fun l n x i => rfl) (fun l j x h hf => by
      obtain ⟨a0, a1, a2, a3, a4, a5, e, _⟩ := fit_iiiScMsiEMssE hf
      simp only [getD_nat h, e]
      rfl))
abbrev csfit_MiiiScMsiEMssEEi : List CT := [.sl true [.i .i64, .i .i64, .i .i64, .sl false [.i .u8], .sl true [.s, .i .i64], .sl true [.s, .s]], .i .i64]
theorem fit_MiiiScMsiEMssEEi {t : T} (h : fitE true csfit_MiiiScMsiEMssEEi t) : ∃ (a0 : List T) (a1 : Int), t = .st [.sl a0, .i .i64 a1] ∧ fitC (.sl true [.i .i64, .i .i64, .i .i64, .sl false [.i .u8], .sl true [.s, .i .i64], .sl true [.s, .s]]) (.sl a0) ∧ (Lit.int .i64 a1).wf = true := by
  obtain ⟨l, rfl, h⟩ := fitE_st h
  obtain ⟨x0, l0, rfl, h0, h⟩ := fitCs_cons h
  obtain ⟨x1, l1, rfl, h1, h⟩ := fitCs_cons h
  obtain rfl := fitCs_nil h
  obtain ⟨a0, rfl, q0⟩ := fitC_sl h0
  obtain ⟨a1, rfl, q1⟩ := fitC_i h1
  exact ⟨a0, a1, rfl, q0, q1⟩
theorem sz231 (hlf : 33554432 ≤ lf) {d : Nat} (hd : 5 ≤ d) : SZ1 (Cc lf d) 231 (fitE true csfit_MiiiScMsiEMssEEi) := by
  refine SZ1.le (Cc_le hd) ?_
  intro t ht x h0 h1
  obtain ⟨a0, a1, rfl, q0, q1⟩ := fit_MiiiScMsiEMssEEi ht
  have hcall : Cc lf 5 231 [T.st [T.sl a0, T.i .i64 a1], T.i .i64 x] = f231_t (Cc lf 4) lf a0 a1 x := f231_eq (Cc lf 4) lf a0 a1 x
  rw [hcall]
  unfold f231_t
  have s1 := sz248 hlf (d := 4) (by omega) (T.sl a0) q0 x (by omega) (by omega)
  rcases s1 with e | ⟨y1, e, p1, z1⟩
  · left
    rw [e]
    rfl
  rw [e]
  simp only [Option.bind_some, nth0, asI_i]
  rw [iLt_f (show ¬ (y1 < 0) by omega), cond_false]
  simp only [tl, tls] at z1
  refine .inr ⟨y1, rfl, by omega, ?_⟩
  simp only [tl, tls]
  omega
abbrev csfit_isbiMiiiScMsiEMssEEi : List CT := [.i .i64, .s, .b, .i .i64, .sl true [.i .i64, .i .i64, .i .i64, .sl false [.i .u8], .sl true [.s, .i .i64], .sl true [.s, .s]], .i .i64]
theorem fit_isbiMiiiScMsiEMssEEi {t : T} (h : fitE true csfit_isbiMiiiScMsiEMssEEi t) : ∃ (a0 : Int) (a1 : ByteArray) (a2 : Bool) (a3 : Int) (a4 : List T) (a5 : Int), t = .st [.i .i64 a0, .s a1, .b a2, .i .i64 a3, .sl a4, .i .i64 a5] ∧ (Lit.int .i64 a0).wf = true ∧ a1.size ≤ maxLen ∧ (Lit.int .i64 a3).wf = true ∧ fitC (.sl true [.i .i64, .i .i64, .i .i64, .sl false [.i .u8], .sl true [.s, .i .i64], .sl true [.s, .s]]) (.sl a4) ∧ (Lit.int .i64 a5).wf = true := by
  obtain ⟨l, rfl, h⟩ := fitE_st h
  obtain ⟨x0, l0, rfl, h0, h⟩ := fitCs_cons h
  obtain ⟨x1, l1, rfl, h1, h⟩ := fitCs_cons h
  obtain ⟨x2, l2, rfl, h2, h⟩ := fitCs_cons h
  obtain ⟨x3, l3, rfl, h3, h⟩ := fitCs_cons h
  obtain ⟨x4, l4, rfl, h4, h⟩ := fitCs_cons h
  obtain ⟨x5, l5, rfl, h5, h⟩ := fitCs_cons h
  obtain rfl := fitCs_nil h
  obtain ⟨a0, rfl, q0⟩ := fitC_i h0
  obtain ⟨a1, rfl, q1⟩ := fitC_s h1
  obtain ⟨a2, rfl⟩ := fitC_b h2
  obtain ⟨a3, rfl, q3⟩ := fitC_i h3
  obtain ⟨a4, rfl, q4⟩ := fitC_sl h4
  obtain ⟨a5, rfl, q5⟩ := fitC_i h5
  exact ⟨a0, a1, a2, a3, a4, a5, rfl, q0, q1, q3, q4, q5⟩
theorem sz204 (hlf : 33554432 ≤ lf) {d : Nat} (hd : 6 ≤ d) : SZ1 (Cc lf d) 204 (fitE true csfit_isbiMiiiScMsiEMssEEi) := by
  refine SZ1.le (Cc_le hd) ?_
  intro t ht x h0 h1
  obtain ⟨a0, a1, a2, a3, a4, a5, rfl, q0, q1, q3, q4, q5⟩ := fit_isbiMiiiScMsiEMssEEi ht
  have hcall : Cc lf 6 204 [T.st [T.i .i64 a0, T.s a1, T.b a2, T.i .i64 a3, T.sl a4, T.i .i64 a5], T.i .i64 x] = f204_t (Cc lf 5) lf a0 a1 a2 a3 a4 a5 x := f204_eq (Cc lf 5) lf a0 a1 a2 a3 a4 a5 x
  rw [hcall]
  unfold f204_t
  have w1 := sub_in (x := x) (n := a1.size) (by omega) (by omega) q1
  rw [w1]
  by_cases p1 : x - (a1.size : Int) < 0
  · left
    rw [iLt_t p1, cond_true]
  rw [iLt_f p1, cond_false]
  obtain ⟨y1, e1⟩ : ∃ y, y = x - (a1.size : Int) := ⟨_, rfl⟩
  rw [← e1]
  have s2 := sz231 hlf (d := 5) (by omega) (T.st [T.sl a4, T.i .i64 a5]) (show fitE true csfit_MiiiScMsiEMssEEi (T.st [T.sl a4, T.i .i64 a5]) from ⟨q4, ⟨rfl, q5⟩, trivial⟩) y1 (by omega) (by omega)
  rcases s2 with e | ⟨y2, e, p2, z2⟩
  · left
    rw [e]
    rfl
  rw [e]
  simp only [Option.bind_some, nth0, asI_i]
  rw [iLt_f (show ¬ (y2 < 0) by omega), cond_false]
  simp only [tl, tls] at z2
  refine .inr ⟨y2, rfl, by omega, ?_⟩
  simp only [tl, tls]
  omega
theorem sz159 (hlf : 33554432 ≤ lf) {d : Nat} (hd : 7 ≤ d) : SZ1 (Cc lf d) 159 (fitC (.sl true [.i .i64, .s, .b, .i .i64, .sl true [.i .i64, .i .i64, .i .i64, .sl false [.i .u8], .sl true [.s, .i .i64], .sl true [.s, .s]], .i .i64])) := by
  exact SZ1.le (Cc_le hd) (sz_slice1 (c := Cc lf 6) (c' := Cc lf 7) hlf (sz204 hlf (Nat.le_refl _)) (F := fun l n x i => f159_0 (Cc lf 6) lf l n x i) (G := fun l i x => Cc lf 6 204 [T.st [T.i .i64 (asI (T.cell (l.getD i.toNat T.u) 0)), T.s (asS (T.cell (l.getD i.toNat T.u) 1)), T.b (asB (T.cell (l.getD i.toNat T.u) 2)), T.i .i64 (asI (T.cell (l.getD i.toNat T.u) 3)), T.sl (asL (T.cell (l.getD i.toNat T.u) 4)), T.i .i64 (asI (T.cell (l.getD i.toNat T.u) 5))], T.i .i64 x])
    (fun l x => f159_eq (Cc lf 6) lf l x) (fun l n x i => rfl) (fun l j x h hf => by
      obtain ⟨a0, a1, a2, a3, a4, a5, e, _⟩ := fit_isbiMiiiScMsiEMssEEi hf
      simp only [getD_nat h, e]
      rfl))
abbrev csfit_MisbiMiiiScMsiEMssEEiEi : List CT := [.sl true [.i .i64, .s, .b, .i .i64, .sl true [.i .i64, .i .i64, .i .i64, .sl false [.i .u8], .sl true [.s, .i .i64], .sl true [.s, .s]], .i .i64], .i .i64]
theorem fit_MisbiMiiiScMsiEMssEEiEi {t : T} (h : fitE true csfit_MisbiMiiiScMsiEMssEEiEi t) : ∃ (a0 : List T) (a1 : Int), t = .st [.sl a0, .i .i64 a1] ∧ fitC (.sl true [.i .i64, .s, .b, .i .i64, .sl true [.i .i64, .i .i64, .i .i64, .sl false [.i .u8], .sl true [.s, .i .i64], .sl true [.s, .s]], .i .i64]) (.sl a0) ∧ (Lit.int .i64 a1).wf = true := by
  obtain ⟨l, rfl, h⟩ := fitE_st h
  obtain ⟨x0, l0, rfl, h0, h⟩ := fitCs_cons h
  obtain ⟨x1, l1, rfl, h1, h⟩ := fitCs_cons h
  obtain rfl := fitCs_nil h
  obtain ⟨a0, rfl, q0⟩ := fitC_sl h0
  obtain ⟨a1, rfl, q1⟩ := fitC_i h1
  exact ⟨a0, a1, rfl, q0, q1⟩
theorem sz107 (hlf : 33554432 ≤ lf) {d : Nat} (hd : 8 ≤ d) : SZ1 (Cc lf d) 107 (fitE true csfit_MisbiMiiiScMsiEMssEEiEi) := by
  refine SZ1.le (Cc_le hd) ?_
  intro t ht x h0 h1
  obtain ⟨a0, a1, rfl, q0, q1⟩ := fit_MisbiMiiiScMsiEMssEEiEi ht
  have hcall : Cc lf 8 107 [T.st [T.sl a0, T.i .i64 a1], T.i .i64 x] = f107_t (Cc lf 7) lf a0 a1 x := f107_eq (Cc lf 7) lf a0 a1 x
  rw [hcall]
  unfold f107_t
  have s1 := sz159 hlf (d := 7) (by omega) (T.sl a0) q0 x (by omega) (by omega)
  rcases s1 with e | ⟨y1, e, p1, z1⟩
  · left
    rw [e]
    rfl
  rw [e]
  simp only [Option.bind_some, nth0, asI_i]
  rw [iLt_f (show ¬ (y1 < 0) by omega), cond_false]
  simp only [tl, tls] at z1
  refine .inr ⟨y1, rfl, by omega, ?_⟩
  simp only [tl, tls]
  omega
abbrev csfit_isbii : List CT := [.i .i64, .s, .b, .i .i64, .i .i64]
theorem fit_isbii {t : T} (h : fitE true csfit_isbii t) : ∃ (a0 : Int) (a1 : ByteArray) (a2 : Bool) (a3 : Int) (a4 : Int), t = .st [.i .i64 a0, .s a1, .b a2, .i .i64 a3, .i .i64 a4] ∧ (Lit.int .i64 a0).wf = true ∧ a1.size ≤ maxLen ∧ (Lit.int .i64 a3).wf = true ∧ (Lit.int .i64 a4).wf = true := by
  obtain ⟨l, rfl, h⟩ := fitE_st h
  obtain ⟨x0, l0, rfl, h0, h⟩ := fitCs_cons h
  obtain ⟨x1, l1, rfl, h1, h⟩ := fitCs_cons h
  obtain ⟨x2, l2, rfl, h2, h⟩ := fitCs_cons h
  obtain ⟨x3, l3, rfl, h3, h⟩ := fitCs_cons h
  obtain ⟨x4, l4, rfl, h4, h⟩ := fitCs_cons h
  obtain rfl := fitCs_nil h
  obtain ⟨a0, rfl, q0⟩ := fitC_i h0
  obtain ⟨a1, rfl, q1⟩ := fitC_s h1
  obtain ⟨a2, rfl⟩ := fitC_b h2
  obtain ⟨a3, rfl, q3⟩ := fitC_i h3
  obtain ⟨a4, rfl, q4⟩ := fitC_i h4
  exact ⟨a0, a1, a2, a3, a4, rfl, q0, q1, q3, q4⟩
theorem sz232 (hlf : 33554432 ≤ lf) {d : Nat} (hd : 1 ≤ d) : SZ1 (Cc lf d) 232 (fitE true csfit_isbii) := by
  refine SZ1.le (Cc_le hd) ?_
  intro t ht x h0 h1
  obtain ⟨a0, a1, a2, a3, a4, rfl, q0, q1, q3, q4⟩ := fit_isbii ht
  have hcall : Cc lf 1 232 [T.st [T.i .i64 a0, T.s a1, T.b a2, T.i .i64 a3, T.i .i64 a4], T.i .i64 x] = f232_t (Cc lf 0) lf a0 a1 a2 a3 a4 x := f232_eq (Cc lf 0) lf a0 a1 a2 a3 a4 x
  rw [hcall]
  unfold f232_t
  have w1 := sub_in (x := x) (n := a1.size) (by omega) (by omega) q1
  rw [w1]
  by_cases p1 : x - (a1.size : Int) < 0
  · left
    rw [iLt_t p1, cond_true]
  rw [iLt_f p1, cond_false]
  obtain ⟨y1, e1⟩ : ∃ y, y = x - (a1.size : Int) := ⟨_, rfl⟩
  rw [← e1]
  refine .inr ⟨y1, rfl, by omega, ?_⟩
  simp only [tl, tls]
  omega
theorem sz205 (hlf : 33554432 ≤ lf) {d : Nat} (hd : 2 ≤ d) : SZ1 (Cc lf d) 205 (fitC (.sl true [.i .i64, .s, .b, .i .i64, .i .i64])) := by
  exact SZ1.le (Cc_le hd) (sz_slice1 (c := Cc lf 1) (c' := Cc lf 2) hlf (sz232 hlf (Nat.le_refl _)) (F := fun l n x i => f205_0 (Cc lf 1) lf l n x i) (G := fun l i x => Cc lf 1 232 [T.st [T.i .i64 (asI (T.cell (l.getD i.toNat T.u) 0)), T.s (asS (T.cell (l.getD i.toNat T.u) 1)), T.b (asB (T.cell (l.getD i.toNat T.u) 2)), T.i .i64 (asI (T.cell (l.getD i.toNat T.u) 3)), T.i .i64 (asI (T.cell (l.getD i.toNat T.u) 4))], T.i .i64 x])
    (fun l x => f205_eq (Cc lf 1) lf l x) (fun l n x i => rfl) (fun l j x h hf => by
      obtain ⟨a0, a1, a2, a3, a4, e, _⟩ := fit_isbii hf
      simp only [getD_nat h, e]
      rfl))
abbrev csfit_iMisbiiE : List CT := [.i .i64, .sl true [.i .i64, .s, .b, .i .i64, .i .i64]]
theorem fit_iMisbiiE {t : T} (h : fitE true csfit_iMisbiiE t) : ∃ (a0 : Int) (a1 : List T), t = .st [.i .i64 a0, .sl a1] ∧ (Lit.int .i64 a0).wf = true ∧ fitC (.sl true [.i .i64, .s, .b, .i .i64, .i .i64]) (.sl a1) := by
  obtain ⟨l, rfl, h⟩ := fitE_st h
  obtain ⟨x0, l0, rfl, h0, h⟩ := fitCs_cons h
  obtain ⟨x1, l1, rfl, h1, h⟩ := fitCs_cons h
  obtain rfl := fitCs_nil h
  obtain ⟨a0, rfl, q0⟩ := fitC_i h0
  obtain ⟨a1, rfl, q1⟩ := fitC_sl h1
  exact ⟨a0, a1, rfl, q0, q1⟩
theorem sz160 (hlf : 33554432 ≤ lf) {d : Nat} (hd : 3 ≤ d) : SZ1 (Cc lf d) 160 (fitE true csfit_iMisbiiE) := by
  refine SZ1.le (Cc_le hd) ?_
  intro t ht x h0 h1
  obtain ⟨a0, a1, rfl, q0, q1⟩ := fit_iMisbiiE ht
  have hcall : Cc lf 3 160 [T.st [T.i .i64 a0, T.sl a1], T.i .i64 x] = f160_t (Cc lf 2) lf a0 a1 x := f160_eq (Cc lf 2) lf a0 a1 x
  rw [hcall]
  unfold f160_t
  have s1 := sz205 hlf (d := 2) (by omega) (T.sl a1) q1 x (by omega) (by omega)
  rcases s1 with e | ⟨y1, e, p1, z1⟩
  · left
    rw [e]
    rfl
  rw [e]
  simp only [Option.bind_some, nth0, asI_i]
  rw [iLt_f (show ¬ (y1 < 0) by omega), cond_false]
  simp only [tl, tls] at z1
  refine .inr ⟨y1, rfl, by omega, ?_⟩
  simp only [tl, tls]
  omega
theorem sz233 (hlf : 33554432 ≤ lf) {d : Nat} (hd : 1 ≤ d) : SZ1 (Cc lf d) 233 (fitC (.sl true [.i .i64, .i .i64])) := by
  exact SZ1.le (Cc_le hd) (sz_flat1 (c := Cc lf 1) rfl fun l x => f233_eq (Cc lf 0) lf l x)
abbrev csfit_iMiiE : List CT := [.i .i64, .sl true [.i .i64, .i .i64]]
theorem fit_iMiiE {t : T} (h : fitE true csfit_iMiiE t) : ∃ (a0 : Int) (a1 : List T), t = .st [.i .i64 a0, .sl a1] ∧ (Lit.int .i64 a0).wf = true ∧ fitC (.sl true [.i .i64, .i .i64]) (.sl a1) := by
  obtain ⟨l, rfl, h⟩ := fitE_st h
  obtain ⟨x0, l0, rfl, h0, h⟩ := fitCs_cons h
  obtain ⟨x1, l1, rfl, h1, h⟩ := fitCs_cons h
  obtain rfl := fitCs_nil h
  obtain ⟨a0, rfl, q0⟩ := fitC_i h0
  obtain ⟨a1, rfl, q1⟩ := fitC_sl h1
  exact ⟨a0, a1, rfl, q0, q1⟩
theorem sz206 (hlf : 33554432 ≤ lf) {d : Nat} (hd : 2 ≤ d) : SZ1 (Cc lf d) 206 (fitE true csfit_iMiiE) := by
  refine SZ1.le (Cc_le hd) ?_
  intro t ht x h0 h1
  obtain ⟨a0, a1, rfl, q0, q1⟩ := fit_iMiiE ht
  have hcall : Cc lf 2 206 [T.st [T.i .i64 a0, T.sl a1], T.i .i64 x] = f206_t (Cc lf 1) lf a0 a1 x := f206_eq (Cc lf 1) lf a0 a1 x
  rw [hcall]
  unfold f206_t
  have s1 := sz233 hlf (d := 1) (by omega) (T.sl a1) q1 x (by omega) (by omega)
  rcases s1 with e | ⟨y1, e, p1, z1⟩
  · left
    rw [e]
    rfl
  rw [e]
  simp only [Option.bind_some, nth0, asI_i]
  rw [iLt_f (show ¬ (y1 < 0) by omega), cond_false]
  simp only [tl, tls] at z1
  refine .inr ⟨y1, rfl, by omega, ?_⟩
  simp only [tl, tls]
  omega
theorem sz161 (hlf : 33554432 ≤ lf) {d : Nat} (hd : 3 ≤ d) : SZ1 (Cc lf d) 161 (fitC (.sl true [.i .i64, .sl true [.i .i64, .i .i64]])) := by
  exact SZ1.le (Cc_le hd) (sz_slice1 (c := Cc lf 2) (c' := Cc lf 3) hlf (sz206 hlf (Nat.le_refl _)) (F := fun l n x i => f161_0 (Cc lf 2) lf l n x i) (G := fun l i x => Cc lf 2 206 [T.st [T.i .i64 (asI (T.cell (l.getD i.toNat T.u) 0)), T.sl (asL (T.cell (l.getD i.toNat T.u) 1))], T.i .i64 x])
    (fun l x => f161_eq (Cc lf 2) lf l x) (fun l n x i => rfl) (fun l j x h hf => by
      obtain ⟨a0, a1, e, _⟩ := fit_iMiiE hf
      simp only [getD_nat h, e]
      rfl))
abbrev csfit_MisbiMiiiScMsiEMssEEiEiiMisbiiEMiMiiEEii : List CT := [.sl true [.i .i64, .s, .b, .i .i64, .sl true [.i .i64, .i .i64, .i .i64, .sl false [.i .u8], .sl true [.s, .i .i64], .sl true [.s, .s]], .i .i64], .i .i64, .i .i64, .sl true [.i .i64, .s, .b, .i .i64, .i .i64], .sl true [.i .i64, .sl true [.i .i64, .i .i64]], .i .i64, .i .i64]
theorem fit_MisbiMiiiScMsiEMssEEiEiiMisbiiEMiMiiEEii {t : T} (h : fitE true csfit_MisbiMiiiScMsiEMssEEiEiiMisbiiEMiMiiEEii t) : ∃ (a0 : List T) (a1 : Int) (a2 : Int) (a3 : List T) (a4 : List T) (a5 : Int) (a6 : Int), t = .st [.sl a0, .i .i64 a1, .i .i64 a2, .sl a3, .sl a4, .i .i64 a5, .i .i64 a6] ∧ fitC (.sl true [.i .i64, .s, .b, .i .i64, .sl true [.i .i64, .i .i64, .i .i64, .sl false [.i .u8], .sl true [.s, .i .i64], .sl true [.s, .s]], .i .i64]) (.sl a0) ∧ (Lit.int .i64 a1).wf = true ∧ (Lit.int .i64 a2).wf = true ∧ fitC (.sl true [.i .i64, .s, .b, .i .i64, .i .i64]) (.sl a3) ∧ fitC (.sl true [.i .i64, .sl true [.i .i64, .i .i64]]) (.sl a4) ∧ (Lit.int .i64 a5).wf = true ∧ (Lit.int .i64 a6).wf = true := by
  obtain ⟨l, rfl, h⟩ := fitE_st h
  obtain ⟨x0, l0, rfl, h0, h⟩ := fitCs_cons h
  obtain ⟨x1, l1, rfl, h1, h⟩ := fitCs_cons h
  obtain ⟨x2, l2, rfl, h2, h⟩ := fitCs_cons h
  obtain ⟨x3, l3, rfl, h3, h⟩ := fitCs_cons h
  obtain ⟨x4, l4, rfl, h4, h⟩ := fitCs_cons h
  obtain ⟨x5, l5, rfl, h5, h⟩ := fitCs_cons h
  obtain ⟨x6, l6, rfl, h6, h⟩ := fitCs_cons h
  obtain rfl := fitCs_nil h
  obtain ⟨a0, rfl, q0⟩ := fitC_sl h0
  obtain ⟨a1, rfl, q1⟩ := fitC_i h1
  obtain ⟨a2, rfl, q2⟩ := fitC_i h2
  obtain ⟨a3, rfl, q3⟩ := fitC_sl h3
  obtain ⟨a4, rfl, q4⟩ := fitC_sl h4
  obtain ⟨a5, rfl, q5⟩ := fitC_i h5
  obtain ⟨a6, rfl, q6⟩ := fitC_i h6
  exact ⟨a0, a1, a2, a3, a4, a5, a6, rfl, q0, q1, q2, q3, q4, q5, q6⟩
theorem sz108 (hlf : 33554432 ≤ lf) {d : Nat} (hd : 9 ≤ d) : SZ1 (Cc lf d) 108 (fitE true csfit_MisbiMiiiScMsiEMssEEiEiiMisbiiEMiMiiEEii) := by
  refine SZ1.le (Cc_le hd) ?_
  intro t ht x h0 h1
  obtain ⟨a0, a1, a2, a3, a4, a5, a6, rfl, q0, q1, q2, q3, q4, q5, q6⟩ := fit_MisbiMiiiScMsiEMssEEiEiiMisbiiEMiMiiEEii ht
  have hcall : Cc lf 9 108 [T.st [T.sl a0, T.i .i64 a1, T.i .i64 a2, T.sl a3, T.sl a4, T.i .i64 a5, T.i .i64 a6], T.i .i64 x] = f108_t (Cc lf 8) lf a0 a1 a2 a3 a4 a5 a6 x := f108_eq (Cc lf 8) lf a0 a1 a2 a3 a4 a5 a6 x
  rw [hcall]
  unfold f108_t
  have s1 := sz107 hlf (d := 8) (by omega) (T.st [T.sl a0, T.i .i64 a1]) (show fitE true csfit_MisbiMiiiScMsiEMssEEiEi (T.st [T.sl a0, T.i .i64 a1]) from ⟨q0, ⟨rfl, q1⟩, trivial⟩) x (by omega) (by omega)
  rcases s1 with e | ⟨y1, e, p1, z1⟩
  · left
    rw [e]
    rfl
  rw [e]
  simp only [Option.bind_some, nth0, asI_i]
  rw [iLt_f (show ¬ (y1 < 0) by omega), cond_false]
  simp only [tl, tls] at z1
  have s2 := sz160 hlf (d := 8) (by omega) (T.st [T.i .i64 a2, T.sl a3]) (show fitE true csfit_iMisbiiE (T.st [T.i .i64 a2, T.sl a3]) from ⟨⟨rfl, q2⟩, q3, trivial⟩) y1 (by omega) (by omega)
  rcases s2 with e | ⟨y2, e, p2, z2⟩
  · left
    rw [e]
    rfl
  rw [e]
  simp only [Option.bind_some, nth0, asI_i]
  rw [iLt_f (show ¬ (y2 < 0) by omega), cond_false]
  simp only [tl, tls] at z2
  have s3 := sz161 hlf (d := 8) (by omega) (T.sl a4) q4 y2 (by omega) (by omega)
  rcases s3 with e | ⟨y3, e, p3, z3⟩
  · left
    rw [e]
    rfl
  rw [e]
  simp only [Option.bind_some, nth0, asI_i]
  rw [iLt_f (show ¬ (y3 < 0) by omega), cond_false]
  simp only [tl, tls] at z3
  refine .inr ⟨y3, rfl, by omega, ?_⟩
  simp only [tl, tls]
  omega
abbrev csfit_bSc : List CT := [.b, .sl false [.i .u8]]
theorem fit_bSc {t : T} (h : fitE true csfit_bSc t) : ∃ (a0 : Bool) (a1 : List T), t = .st [.b a0, .sl a1] ∧ fitC (.sl false [.i .u8]) (.sl a1) := by
  obtain ⟨l, rfl, h⟩ := fitE_st h
  obtain ⟨x0, l0, rfl, h0, h⟩ := fitCs_cons h
  obtain ⟨x1, l1, rfl, h1, h⟩ := fitCs_cons h
  obtain rfl := fitCs_nil h
  obtain ⟨a0, rfl⟩ := fitC_b h0
  obtain ⟨a1, rfl, q1⟩ := fitC_sl h1
  exact ⟨a0, a1, rfl, q1⟩
theorem sz252 (hlf : 33554432 ≤ lf) {d : Nat} (hd : 2 ≤ d) : SZ1 (Cc lf d) 252 (fitE true csfit_bSc) := by
  refine SZ1.le (Cc_le hd) ?_
  intro t ht x h0 h1
  obtain ⟨a0, a1, rfl, q1⟩ := fit_bSc ht
  have hcall : Cc lf 2 252 [T.st [T.b a0, T.sl a1], T.i .i64 x] = f252_t (Cc lf 1) lf a0 a1 x := f252_eq (Cc lf 1) lf a0 a1 x
  rw [hcall]
  unfold f252_t
  have s1 := sz259 hlf (d := 1) (by omega) (T.sl a1) q1 x (by omega) (by omega)
  rcases s1 with e | ⟨y1, e, p1, z1⟩
  · left
    rw [e]
    rfl
  rw [e]
  simp only [Option.bind_some, nth0, asI_i]
  rw [iLt_f (show ¬ (y1 < 0) by omega), cond_false]
  simp only [tl, tls] at z1
  refine .inr ⟨y1, rfl, by omega, ?_⟩
  simp only [tl, tls]
  omega
theorem sz242 (hlf : 33554432 ≤ lf) {d : Nat} (hd : 3 ≤ d) : SZ1 (Cc lf d) 242 (fitC (.sl true [.b, .sl false [.i .u8]])) := by
  exact SZ1.le (Cc_le hd) (sz_slice1 (c := Cc lf 2) (c' := Cc lf 3) hlf (sz252 hlf (Nat.le_refl _)) (F := fun l n x i => f242_0 (Cc lf 2) lf l n x i) (G := fun l i x => Cc lf 2 252 [T.st [T.b (asB (T.cell (l.getD i.toNat T.u) 0)), T.sl (asL (T.cell (l.getD i.toNat T.u) 1))], T.i .i64 x])
    (fun l x => f242_eq (Cc lf 2) lf l x) (fun l n x i => rfl) (fun l j x h hf => by
      obtain ⟨a0, a1, e, _⟩ := fit_bSc hf
      simp only [getD_nat h, e]
      rfl))
abbrev csfit_MbScEib : List CT := [.sl true [.b, .sl false [.i .u8]], .i .i64, .b]
theorem fit_MbScEib {t : T} (h : fitE true csfit_MbScEib t) : ∃ (a0 : List T) (a1 : Int) (a2 : Bool), t = .st [.sl a0, .i .i64 a1, .b a2] ∧ fitC (.sl true [.b, .sl false [.i .u8]]) (.sl a0) ∧ (Lit.int .i64 a1).wf = true := by
  obtain ⟨l, rfl, h⟩ := fitE_st h
  obtain ⟨x0, l0, rfl, h0, h⟩ := fitCs_cons h
  obtain ⟨x1, l1, rfl, h1, h⟩ := fitCs_cons h
  obtain ⟨x2, l2, rfl, h2, h⟩ := fitCs_cons h
  obtain rfl := fitCs_nil h
  obtain ⟨a0, rfl, q0⟩ := fitC_sl h0
  obtain ⟨a1, rfl, q1⟩ := fitC_i h1
  obtain ⟨a2, rfl⟩ := fitC_b h2
  exact ⟨a0, a1, a2, rfl, q0, q1⟩
theorem sz219 (hlf : 33554432 ≤ lf) {d : Nat} (hd : 4 ≤ d) : SZ1 (Cc lf d) 219 (fitE true csfit_MbScEib) := by
  refine SZ1.le (Cc_le hd) ?_
  intro t ht x h0 h1
  obtain ⟨a0, a1, a2, rfl, q0, q1⟩ := fit_MbScEib ht
  have hcall : Cc lf 4 219 [T.st [T.sl a0, T.i .i64 a1, T.b a2], T.i .i64 x] = f219_t (Cc lf 3) lf a0 a1 a2 x := f219_eq (Cc lf 3) lf a0 a1 a2 x
  rw [hcall]
  unfold f219_t
  have s1 := sz242 hlf (d := 3) (by omega) (T.sl a0) q0 x (by omega) (by omega)
  rcases s1 with e | ⟨y1, e, p1, z1⟩
  · left
    rw [e]
    rfl
  rw [e]
  simp only [Option.bind_some, nth0, asI_i]
  rw [iLt_f (show ¬ (y1 < 0) by omega), cond_false]
  simp only [tl, tls] at z1
  refine .inr ⟨y1, rfl, by omega, ?_⟩
  simp only [tl, tls]
  omega
theorem sz175 (hlf : 33554432 ≤ lf) {d : Nat} (hd : 5 ≤ d) : SZ1 (Cc lf d) 175 (fitC (.sl true [.sl true [.b, .sl false [.i .u8]], .i .i64, .b])) := by
  exact SZ1.le (Cc_le hd) (sz_slice1 (c := Cc lf 4) (c' := Cc lf 5) hlf (sz219 hlf (Nat.le_refl _)) (F := fun l n x i => f175_0 (Cc lf 4) lf l n x i) (G := fun l i x => Cc lf 4 219 [T.st [T.sl (asL (T.cell (l.getD i.toNat T.u) 0)), T.i .i64 (asI (T.cell (l.getD i.toNat T.u) 1)), T.b (asB (T.cell (l.getD i.toNat T.u) 2))], T.i .i64 x])
    (fun l x => f175_eq (Cc lf 4) lf l x) (fun l n x i => rfl) (fun l j x h hf => by
      obtain ⟨a0, a1, a2, e, _⟩ := fit_MbScEib hf
      simp only [getD_nat h, e]
      rfl))
abbrev csfit_MMbScEibE : List CT := [.sl true [.sl true [.b, .sl false [.i .u8]], .i .i64, .b]]
theorem fit_MMbScEibE {t : T} (h : fitE true csfit_MMbScEibE t) : ∃ (a0 : List T), t = .st [.sl a0] ∧ fitC (.sl true [.sl true [.b, .sl false [.i .u8]], .i .i64, .b]) (.sl a0) := by
  obtain ⟨l, rfl, h⟩ := fitE_st h
  obtain ⟨x0, l0, rfl, h0, h⟩ := fitCs_cons h
  obtain rfl := fitCs_nil h
  obtain ⟨a0, rfl, q0⟩ := fitC_sl h0
  exact ⟨a0, rfl, q0⟩
theorem sz122 (hlf : 33554432 ≤ lf) {d : Nat} (hd : 6 ≤ d) : SZ1 (Cc lf d) 122 (fitE true csfit_MMbScEibE) := by
  refine SZ1.le (Cc_le hd) ?_
  intro t ht x h0 h1
  obtain ⟨a0, rfl, q0⟩ := fit_MMbScEibE ht
  have hcall : Cc lf 6 122 [T.st [T.sl a0], T.i .i64 x] = f122_t (Cc lf 5) lf a0 x := f122_eq (Cc lf 5) lf a0 x
  rw [hcall]
  unfold f122_t
  have s1 := sz175 hlf (d := 5) (by omega) (T.sl a0) q0 x (by omega) (by omega)
  rcases s1 with e | ⟨y1, e, p1, z1⟩
  · left
    rw [e]
    rfl
  rw [e]
  simp only [Option.bind_some, nth0, asI_i]
  rw [iLt_f (show ¬ (y1 < 0) by omega), cond_false]
  simp only [tl, tls] at z1
  refine .inr ⟨y1, rfl, by omega, ?_⟩
  simp only [tl, tls]
  omega
theorem sz123 (hlf : 33554432 ≤ lf) {d : Nat} (hd : 1 ≤ d) : SZ1 (Cc lf d) 123 (fitC (.sl true [.i .i64, .i .i64, .i .i64])) := by
  exact SZ1.le (Cc_le hd) (sz_flat1 (c := Cc lf 1) rfl fun l x => f123_eq (Cc lf 0) lf l x)
abbrev csfit_MMbScEibEiMiiiEb : List CT := [.sl true [.sl true [.b, .sl false [.i .u8]], .i .i64, .b], .i .i64, .sl true [.i .i64, .i .i64, .i .i64], .b]
theorem fit_MMbScEibEiMiiiEb {t : T} (h : fitE true csfit_MMbScEibEiMiiiEb t) : ∃ (a0 : List T) (a1 : Int) (a2 : List T) (a3 : Bool), t = .st [.sl a0, .i .i64 a1, .sl a2, .b a3] ∧ fitC (.sl true [.sl true [.b, .sl false [.i .u8]], .i .i64, .b]) (.sl a0) ∧ (Lit.int .i64 a1).wf = true ∧ fitC (.sl true [.i .i64, .i .i64, .i .i64]) (.sl a2) := by
  obtain ⟨l, rfl, h⟩ := fitE_st h
  obtain ⟨x0, l0, rfl, h0, h⟩ := fitCs_cons h
  obtain ⟨x1, l1, rfl, h1, h⟩ := fitCs_cons h
  obtain ⟨x2, l2, rfl, h2, h⟩ := fitCs_cons h
  obtain ⟨x3, l3, rfl, h3, h⟩ := fitCs_cons h
  obtain rfl := fitCs_nil h
  obtain ⟨a0, rfl, q0⟩ := fitC_sl h0
  obtain ⟨a1, rfl, q1⟩ := fitC_i h1
  obtain ⟨a2, rfl, q2⟩ := fitC_sl h2
  obtain ⟨a3, rfl⟩ := fitC_b h3
  exact ⟨a0, a1, a2, a3, rfl, q0, q1, q2⟩
theorem sz69 (hlf : 33554432 ≤ lf) {d : Nat} (hd : 7 ≤ d) : SZ1 (Cc lf d) 69 (fitE true csfit_MMbScEibEiMiiiEb) := by
  refine SZ1.le (Cc_le hd) ?_
  intro t ht x h0 h1
  obtain ⟨a0, a1, a2, a3, rfl, q0, q1, q2⟩ := fit_MMbScEibEiMiiiEb ht
  have hcall : Cc lf 7 69 [T.st [T.sl a0, T.i .i64 a1, T.sl a2, T.b a3], T.i .i64 x] = f69_t (Cc lf 6) lf a0 a1 a2 a3 x := f69_eq (Cc lf 6) lf a0 a1 a2 a3 x
  rw [hcall]
  unfold f69_t
  have s1 := sz122 hlf (d := 6) (by omega) (T.st [T.sl a0]) (show fitE true csfit_MMbScEibE (T.st [T.sl a0]) from ⟨q0, trivial⟩) x (by omega) (by omega)
  rcases s1 with e | ⟨y1, e, p1, z1⟩
  · left
    rw [e]
    rfl
  rw [e]
  simp only [Option.bind_some, nth0, asI_i]
  rw [iLt_f (show ¬ (y1 < 0) by omega), cond_false]
  simp only [tl, tls] at z1
  have s2 := sz123 hlf (d := 6) (by omega) (T.sl a2) q2 y1 (by omega) (by omega)
  rcases s2 with e | ⟨y2, e, p2, z2⟩
  · left
    rw [e]
    rfl
  rw [e]
  simp only [Option.bind_some, nth0, asI_i]
  rw [iLt_f (show ¬ (y2 < 0) by omega), cond_false]
  simp only [tl, tls] at z2
  refine .inr ⟨y2, rfl, by omega, ?_⟩
  simp only [tl, tls]
  omega
abbrev csfit_MMbScEibEiMiiiEbi : List CT := [.sl true [.sl true [.b, .sl false [.i .u8]], .i .i64, .b], .i .i64, .sl true [.i .i64, .i .i64, .i .i64], .b, .i .i64]
theorem fit_MMbScEibEiMiiiEbi {t : T} (h : fitE true csfit_MMbScEibEiMiiiEbi t) : ∃ (a0 : List T) (a1 : Int) (a2 : List T) (a3 : Bool) (a4 : Int), t = .st [.sl a0, .i .i64 a1, .sl a2, .b a3, .i .i64 a4] ∧ fitC (.sl true [.sl true [.b, .sl false [.i .u8]], .i .i64, .b]) (.sl a0) ∧ (Lit.int .i64 a1).wf = true ∧ fitC (.sl true [.i .i64, .i .i64, .i .i64]) (.sl a2) ∧ (Lit.int .i64 a4).wf = true := by
  obtain ⟨l, rfl, h⟩ := fitE_st h
  obtain ⟨x0, l0, rfl, h0, h⟩ := fitCs_cons h
  obtain ⟨x1, l1, rfl, h1, h⟩ := fitCs_cons h
  obtain ⟨x2, l2, rfl, h2, h⟩ := fitCs_cons h
  obtain ⟨x3, l3, rfl, h3, h⟩ := fitCs_cons h
  obtain ⟨x4, l4, rfl, h4, h⟩ := fitCs_cons h
  obtain rfl := fitCs_nil h
  obtain ⟨a0, rfl, q0⟩ := fitC_sl h0
  obtain ⟨a1, rfl, q1⟩ := fitC_i h1
  obtain ⟨a2, rfl, q2⟩ := fitC_sl h2
  obtain ⟨a3, rfl⟩ := fitC_b h3
  obtain ⟨a4, rfl, q4⟩ := fitC_i h4
  exact ⟨a0, a1, a2, a3, a4, rfl, q0, q1, q2, q4⟩
theorem sz18 (hlf : 33554432 ≤ lf) {d : Nat} (hd : 8 ≤ d) : SZ1 (Cc lf d) 18 (fitE true csfit_MMbScEibEiMiiiEbi) := by
  refine SZ1.le (Cc_le hd) ?_
  intro t ht x h0 h1
  obtain ⟨a0, a1, a2, a3, a4, rfl, q0, q1, q2, q4⟩ := fit_MMbScEibEiMiiiEbi ht
  have hcall : Cc lf 8 18 [T.st [T.sl a0, T.i .i64 a1, T.sl a2, T.b a3, T.i .i64 a4], T.i .i64 x] = f18_t (Cc lf 7) lf a0 a1 a2 a3 a4 x := f18_eq (Cc lf 7) lf a0 a1 a2 a3 a4 x
  rw [hcall]
  unfold f18_t
  have s1 := sz69 hlf (d := 7) (by omega) (T.st [T.sl a0, T.i .i64 a1, T.sl a2, T.b a3]) (show fitE true csfit_MMbScEibEiMiiiEb (T.st [T.sl a0, T.i .i64 a1, T.sl a2, T.b a3]) from ⟨q0, ⟨rfl, q1⟩, q2, trivial, trivial⟩) x (by omega) (by omega)
  rcases s1 with e | ⟨y1, e, p1, z1⟩
  · left
    rw [e]
    rfl
  rw [e]
  simp only [Option.bind_some, nth0, asI_i]
  rw [iLt_f (show ¬ (y1 < 0) by omega), cond_false]
  simp only [tl, tls] at z1
  refine .inr ⟨y1, rfl, by omega, ?_⟩
  simp only [tl, tls]
  omega
abbrev csfit_MisbiMiiiScMsiEMssEEiEiMisbiMiiiScMsiEMssEEiEiiMisbiiEMiMiiEEiiMMbScEibEiMiiiEbi : List CT := [.sl true [.i .i64, .s, .b, .i .i64, .sl true [.i .i64, .i .i64, .i .i64, .sl false [.i .u8], .sl true [.s, .i .i64], .sl true [.s, .s]], .i .i64], .i .i64, .sl true [.i .i64, .s, .b, .i .i64, .sl true [.i .i64, .i .i64, .i .i64, .sl false [.i .u8], .sl true [.s, .i .i64], .sl true [.s, .s]], .i .i64], .i .i64, .i .i64, .sl true [.i .i64, .s, .b, .i .i64, .i .i64], .sl true [.i .i64, .sl true [.i .i64, .i .i64]], .i .i64, .i .i64, .sl true [.sl true [.b, .sl false [.i .u8]], .i .i64, .b], .i .i64, .sl true [.i .i64, .i .i64, .i .i64], .b, .i .i64]
theorem fit_MisbiMiiiScMsiEMssEEiEiMisbiMiiiScMsiEMssEEiEiiMisbiiEMiMiiEEiiMMbScEibEiMiiiEbi {t : T} (h : fitE true csfit_MisbiMiiiScMsiEMssEEiEiMisbiMiiiScMsiEMssEEiEiiMisbiiEMiMiiEEiiMMbScEibEiMiiiEbi t) : ∃ (a0 : List T) (a1 : Int) (a2 : List T) (a3 : Int) (a4 : Int) (a5 : List T) (a6 : List T) (a7 : Int) (a8 : Int) (a9 : List T) (a10 : Int) (a11 : List T) (a12 : Bool) (a13 : Int), t = .st [.sl a0, .i .i64 a1, .sl a2, .i .i64 a3, .i .i64 a4, .sl a5, .sl a6, .i .i64 a7, .i .i64 a8, .sl a9, .i .i64 a10, .sl a11, .b a12, .i .i64 a13] ∧ fitC (.sl true [.i .i64, .s, .b, .i .i64, .sl true [.i .i64, .i .i64, .i .i64, .sl false [.i .u8], .sl true [.s, .i .i64], .sl true [.s, .s]], .i .i64]) (.sl a0) ∧ (Lit.int .i64 a1).wf = true ∧ fitC (.sl true [.i .i64, .s, .b, .i .i64, .sl true [.i .i64, .i .i64, .i .i64, .sl false [.i .u8], .sl true [.s, .i .i64], .sl true [.s, .s]], .i .i64]) (.sl a2) ∧ (Lit.int .i64 a3).wf = true ∧ (Lit.int .i64 a4).wf = true ∧ fitC (.sl true [.i .i64, .s, .b, .i .i64, .i .i64]) (.sl a5) ∧ fitC (.sl true [.i .i64, .sl true [.i .i64, .i .i64]]) (.sl a6) ∧ (Lit.int .i64 a7).wf = true ∧ (Lit.int .i64 a8).wf = true ∧ fitC (.sl true [.sl true [.b, .sl false [.i .u8]], .i .i64, .b]) (.sl a9) ∧ (Lit.int .i64 a10).wf = true ∧ fitC (.sl true [.i .i64, .i .i64, .i .i64]) (.sl a11) ∧ (Lit.int .i64 a13).wf = true := by
  obtain ⟨l, rfl, h⟩ := fitE_st h
  obtain ⟨x0, l0, rfl, h0, h⟩ := fitCs_cons h
  obtain ⟨x1, l1, rfl, h1, h⟩ := fitCs_cons h
  obtain ⟨x2, l2, rfl, h2, h⟩ := fitCs_cons h
  obtain ⟨x3, l3, rfl, h3, h⟩ := fitCs_cons h
  obtain ⟨x4, l4, rfl, h4, h⟩ := fitCs_cons h
  obtain ⟨x5, l5, rfl, h5, h⟩ := fitCs_cons h
  obtain ⟨x6, l6, rfl, h6, h⟩ := fitCs_cons h
  obtain ⟨x7, l7, rfl, h7, h⟩ := fitCs_cons h
  obtain ⟨x8, l8, rfl, h8, h⟩ := fitCs_cons h
  obtain ⟨x9, l9, rfl, h9, h⟩ := fitCs_cons h
  obtain ⟨x10, l10, rfl, h10, h⟩ := fitCs_cons h
  obtain ⟨x11, l11, rfl, h11, h⟩ := fitCs_cons h
  obtain ⟨x12, l12, rfl, h12, h⟩ := fitCs_cons h
  obtain ⟨x13, l13, rfl, h13, h⟩ := fitCs_cons h
  obtain rfl := fitCs_nil h
  obtain ⟨a0, rfl, q0⟩ := fitC_sl h0
  obtain ⟨a1, rfl, q1⟩ := fitC_i h1
  obtain ⟨a2, rfl, q2⟩ := fitC_sl h2
  obtain ⟨a3, rfl, q3⟩ := fitC_i h3
  obtain ⟨a4, rfl, q4⟩ := fitC_i h4
  obtain ⟨a5, rfl, q5⟩ := fitC_sl h5
  obtain ⟨a6, rfl, q6⟩ := fitC_sl h6
  obtain ⟨a7, rfl, q7⟩ := fitC_i h7
  obtain ⟨a8, rfl, q8⟩ := fitC_i h8
  obtain ⟨a9, rfl, q9⟩ := fitC_sl h9
  obtain ⟨a10, rfl, q10⟩ := fitC_i h10
  obtain ⟨a11, rfl, q11⟩ := fitC_sl h11
  obtain ⟨a12, rfl⟩ := fitC_b h12
  obtain ⟨a13, rfl, q13⟩ := fitC_i h13
  exact ⟨a0, a1, a2, a3, a4, a5, a6, a7, a8, a9, a10, a11, a12, a13, rfl, q0, q1, q2, q3, q4, q5, q6, q7, q8, q9, q10, q11, q13⟩
theorem sz53 (hlf : 33554432 ≤ lf) {d : Nat} (hd : 10 ≤ d) : SZ1 (Cc lf d) 53 (fitE true csfit_MisbiMiiiScMsiEMssEEiEiMisbiMiiiScMsiEMssEEiEiiMisbiiEMiMiiEEiiMMbScEibEiMiiiEbi) := by
  refine SZ1.le (Cc_le hd) ?_
  intro t ht x h0 h1
  obtain ⟨a0, a1, a2, a3, a4, a5, a6, a7, a8, a9, a10, a11, a12, a13, rfl, q0, q1, q2, q3, q4, q5, q6, q7, q8, q9, q10, q11, q13⟩ := fit_MisbiMiiiScMsiEMssEEiEiMisbiMiiiScMsiEMssEEiEiiMisbiiEMiMiiEEiiMMbScEibEiMiiiEbi ht
  have hcall : Cc lf 10 53 [T.st [T.sl a0, T.i .i64 a1, T.sl a2, T.i .i64 a3, T.i .i64 a4, T.sl a5, T.sl a6, T.i .i64 a7, T.i .i64 a8, T.sl a9, T.i .i64 a10, T.sl a11, T.b a12, T.i .i64 a13], T.i .i64 x] = f53_t (Cc lf 9) lf a0 a1 a2 a3 a4 a5 a6 a7 a8 a9 a10 a11 a12 a13 x := f53_eq (Cc lf 9) lf a0 a1 a2 a3 a4 a5 a6 a7 a8 a9 a10 a11 a12 a13 x
  rw [hcall]
  unfold f53_t
  have s1 := sz107 hlf (d := 9) (by omega) (T.st [T.sl a0, T.i .i64 a1]) (show fitE true csfit_MisbiMiiiScMsiEMssEEiEi (T.st [T.sl a0, T.i .i64 a1]) from ⟨q0, ⟨rfl, q1⟩, trivial⟩) x (by omega) (by omega)
  rcases s1 with e | ⟨y1, e, p1, z1⟩
  · left
    rw [e]
    rfl
  rw [e]
  simp only [Option.bind_some, nth0, asI_i]
  rw [iLt_f (show ¬ (y1 < 0) by omega), cond_false]
  simp only [tl, tls] at z1
  have s2 := sz108 hlf (d := 9) (by omega) (T.st [T.sl a2, T.i .i64 a3, T.i .i64 a4, T.sl a5, T.sl a6, T.i .i64 a7, T.i .i64 a8]) (show fitE true csfit_MisbiMiiiScMsiEMssEEiEiiMisbiiEMiMiiEEii (T.st [T.sl a2, T.i .i64 a3, T.i .i64 a4, T.sl a5, T.sl a6, T.i .i64 a7, T.i .i64 a8]) from ⟨q2, ⟨rfl, q3⟩, ⟨rfl, q4⟩, q5, q6, ⟨rfl, q7⟩, ⟨rfl, q8⟩, trivial⟩) y1 (by omega) (by omega)
  rcases s2 with e | ⟨y2, e, p2, z2⟩
  · left
    rw [e]
    rfl
  rw [e]
  simp only [Option.bind_some, nth0, asI_i]
  rw [iLt_f (show ¬ (y2 < 0) by omega), cond_false]
  simp only [tl, tls] at z2
  have s3 := sz18 hlf (d := 9) (by omega) (T.st [T.sl a9, T.i .i64 a10, T.sl a11, T.b a12, T.i .i64 a13]) (show fitE true csfit_MMbScEibEiMiiiEbi (T.st [T.sl a9, T.i .i64 a10, T.sl a11, T.b a12, T.i .i64 a13]) from ⟨q9, ⟨rfl, q10⟩, q11, trivial, ⟨rfl, q13⟩, trivial⟩) y2 (by omega) (by omega)
  rcases s3 with e | ⟨y3, e, p3, z3⟩
  · left
    rw [e]
    rfl
  rw [e]
  simp only [Option.bind_some, nth0, asI_i]
  rw [iLt_f (show ¬ (y3 < 0) by omega), cond_false]
  simp only [tl, tls] at z3
  refine .inr ⟨y3, rfl, by omega, ?_⟩
  simp only [tl, tls]
  omega
theorem to47 (hlf : 33554432 ≤ lf) {d : Nat} (hd : 1 ≤ d) : TO1 (Cc lf d) 47 (fitC (.sl false [.i .u8])) := by
  exact TO1.le (Cc_le hd) (to_slice1 (c' := Cc lf 1) hlf (m := false) (F := fun l n i out => f47_0 (Cc lf 0) lf l n i out) (G := fun _ _ => some []) (V := fun l i _ => T.i .u8 (asI (l.getD i.toNat T.u))) (fun l => f47_eq (Cc lf 0) lf l) (fun l n i out => rfl) (fun l j h hf _ => by
    refine ⟨[], rfl, ?_⟩
    have hf : fitC (.i .u8) l[j] := hf
    obtain ⟨v, e, _⟩ := fitC_i hf
    simp only [getD_nat h, e]
    rfl))
theorem to268 (hlf : 33554432 ≤ lf) {d : Nat} (hd : 1 ≤ d) : TO1 (Cc lf d) 268 (fitE true csfit_si) := by
  refine TO1.le (Cc_le hd) ?_
  intro t ht hs
  obtain ⟨a0, a1, rfl, q0, q1⟩ := fit_si ht
  simp only [tl, tls] at hs
  have hcall : Cc lf 1 268 [T.st [T.s a0, T.i .i64 a1]] = f268_t (Cc lf 0) lf a0 a1 := f268_eq (Cc lf 0) lf a0 a1
  rw [hcall]
  unfold f268_t
  rfl
theorem to262 (hlf : 33554432 ≤ lf) {d : Nat} (hd : 2 ≤ d) : TO1 (Cc lf d) 262 (fitC (.sl true [.s, .i .i64])) := by
  exact TO1.le (Cc_le hd) (to_slice1 (c' := Cc lf 2) hlf (F := fun l n i out => f262_0 (Cc lf 1) lf l n i out) (G := fun l i => Cc lf 1 268 [T.st [T.s (asS (T.cell (l.getD i.toNat T.u) 0)), T.i .i64 (asI (T.cell (l.getD i.toNat T.u) 1))]]) (V := fun _ _ r => T.st [T.s (asS (T.cell (nth r 0) 0)), T.i .i64 (asI (T.cell (nth r 0) 1))]) (fun l => f262_eq (Cc lf 1) lf l) (fun l n i out => rfl) (fun l j h hf hs => by
    have hto := to268 hlf (d := 1) (by omega) _ hf hs
    obtain ⟨a0, a1, e, _⟩ := fit_si hf
    rw [e] at hto
    simp only [getD_nat h, e]
    exact ⟨_, hto, rfl⟩))
theorem to269 (hlf : 33554432 ≤ lf) {d : Nat} (hd : 1 ≤ d) : TO1 (Cc lf d) 269 (fitE true csfit_ss) := by
  refine TO1.le (Cc_le hd) ?_
  intro t ht hs
  obtain ⟨a0, a1, rfl, q0, q1⟩ := fit_ss ht
  simp only [tl, tls] at hs
  have hcall : Cc lf 1 269 [T.st [T.s a0, T.s a1]] = f269_t (Cc lf 0) lf a0 a1 := f269_eq (Cc lf 0) lf a0 a1
  rw [hcall]
  unfold f269_t
  rfl
theorem to263 (hlf : 33554432 ≤ lf) {d : Nat} (hd : 2 ≤ d) : TO1 (Cc lf d) 263 (fitC (.sl true [.s, .s])) := by
  exact TO1.le (Cc_le hd) (to_slice1 (c' := Cc lf 2) hlf (F := fun l n i out => f263_0 (Cc lf 1) lf l n i out) (G := fun l i => Cc lf 1 269 [T.st [T.s (asS (T.cell (l.getD i.toNat T.u) 0)), T.s (asS (T.cell (l.getD i.toNat T.u) 1))]]) (V := fun _ _ r => T.st [T.s (asS (T.cell (nth r 0) 0)), T.s (asS (T.cell (nth r 0) 1))]) (fun l => f263_eq (Cc lf 1) lf l) (fun l n i out => rfl) (fun l j h hf hs => by
    have hto := to269 hlf (d := 1) (by omega) _ hf hs
    obtain ⟨a0, a1, e, _⟩ := fit_ss hf
    rw [e] at hto
    simp only [getD_nat h, e]
    exact ⟨_, hto, rfl⟩))
theorem to256 (hlf : 33554432 ≤ lf) {d : Nat} (hd : 3 ≤ d) : TO1 (Cc lf d) 256 (fitE true csfit_iiiScMsiEMssE) := by
  refine TO1.le (Cc_le hd) ?_
  intro t ht hs
  obtain ⟨a0, a1, a2, a3, a4, a5, rfl, q0, q1, q2, q3, q4, q5⟩ := fit_iiiScMsiEMssE ht
  simp only [tl, tls] at hs
  have hcall : Cc lf 3 256 [T.st [T.i .i64 a0, T.i .i64 a1, T.i .i64 a2, T.sl a3, T.sl a4, T.sl a5]] = f256_t (Cc lf 2) lf a0 a1 a2 a3 a4 a5 := f256_eq (Cc lf 2) lf a0 a1 a2 a3 a4 a5
  rw [hcall]
  unfold f256_t
  have e1 := to47 hlf (d := 2) (by omega) (T.sl a3) q3 (by simp only [tl, tls]; omega)
  have e2 := to262 hlf (d := 2) (by omega) (T.sl a4) q4 (by simp only [tl, tls]; omega)
  have e3 := to263 hlf (d := 2) (by omega) (T.sl a5) q5 (by simp only [tl, tls]; omega)
  simp only [e1, e2, e3, Option.bind_some, nth0, asL_l, asI_i, asB_b, asS_s, cell0, cellS]
theorem to249 (hlf : 33554432 ≤ lf) {d : Nat} (hd : 4 ≤ d) : TO1 (Cc lf d) 249 (fitC (.sl true [.i .i64, .i .i64, .i .i64, .sl false [.i .u8], .sl true [.s, .i .i64], .sl true [.s, .s]])) := by
  exact TO1.le (Cc_le hd) (to_slice1 (c' := Cc lf 4) hlf (F := fun l n i out => f249_0 (Cc lf 3) lf l n i out) (G := fun l i => Cc lf 3 256 [T.st [T.i .i64 (asI (T.cell (l.getD i.toNat T.u) 0)), T.i .i64 (asI (T.cell (l.getD i.toNat T.u) 1)), T.i .i64 (asI (T.cell (l.getD i.toNat T.u) 2)), T.sl (asL (T.cell (l.getD i.toNat T.u) 3)), T.sl (asL (T.cell (l.getD i.toNat T.u) 4)), T.sl (asL (T.cell (l.getD i.toNat T.u) 5))]]) (V := fun _ _ r => T.st [T.i .i64 (asI (T.cell (nth r 0) 0)), T.i .i64 (asI (T.cell (nth r 0) 1)), T.i .i64 (asI (T.cell (nth r 0) 2)), T.sl (asL (T.cell (nth r 0) 3)), T.sl (asL (T.cell (nth r 0) 4)), T.sl (asL (T.cell (nth r 0) 5))]) (fun l => f249_eq (Cc lf 3) lf l) (fun l n i out => rfl) (fun l j h hf hs => by
    have hto := to256 hlf (d := 3) (by omega) _ hf hs
    obtain ⟨a0, a1, a2, a3, a4, a5, e, _⟩ := fit_iiiScMsiEMssE hf
    rw [e] at hto
    simp only [getD_nat h, e]
    exact ⟨_, hto, rfl⟩))
theorem to235 (hlf : 33554432 ≤ lf) {d : Nat} (hd : 5 ≤ d) : TO1 (Cc lf d) 235 (fitE true csfit_MiiiScMsiEMssEEi) := by
  refine TO1.le (Cc_le hd) ?_
  intro t ht hs
  obtain ⟨a0, a1, rfl, q0, q1⟩ := fit_MiiiScMsiEMssEEi ht
  simp only [tl, tls] at hs
  have hcall : Cc lf 5 235 [T.st [T.sl a0, T.i .i64 a1]] = f235_t (Cc lf 4) lf a0 a1 := f235_eq (Cc lf 4) lf a0 a1
  rw [hcall]
  unfold f235_t
  have e1 := to249 hlf (d := 4) (by omega) (T.sl a0) q0 (by simp only [tl, tls]; omega)
  simp only [e1, Option.bind_some, nth0, asL_l, asI_i, asB_b, asS_s, cell0, cellS]
theorem to208 (hlf : 33554432 ≤ lf) {d : Nat} (hd : 6 ≤ d) : TO1 (Cc lf d) 208 (fitE true csfit_isbiMiiiScMsiEMssEEi) := by
  refine TO1.le (Cc_le hd) ?_
  intro t ht hs
  obtain ⟨a0, a1, a2, a3, a4, a5, rfl, q0, q1, q3, q4, q5⟩ := fit_isbiMiiiScMsiEMssEEi ht
  simp only [tl, tls] at hs
  have hcall : Cc lf 6 208 [T.st [T.i .i64 a0, T.s a1, T.b a2, T.i .i64 a3, T.sl a4, T.i .i64 a5]] = f208_t (Cc lf 5) lf a0 a1 a2 a3 a4 a5 := f208_eq (Cc lf 5) lf a0 a1 a2 a3 a4 a5
  rw [hcall]
  unfold f208_t
  have e1 := to235 hlf (d := 5) (by omega) (T.st [T.sl a4, T.i .i64 a5]) (show fitE true csfit_MiiiScMsiEMssEEi (T.st [T.sl a4, T.i .i64 a5]) from ⟨q4, ⟨rfl, q5⟩, trivial⟩) (by simp only [tl, tls]; omega)
  simp only [e1, Option.bind_some, nth0, asL_l, asI_i, asB_b, asS_s, cell0, cellS]
theorem to163 (hlf : 33554432 ≤ lf) {d : Nat} (hd : 7 ≤ d) : TO1 (Cc lf d) 163 (fitC (.sl true [.i .i64, .s, .b, .i .i64, .sl true [.i .i64, .i .i64, .i .i64, .sl false [.i .u8], .sl true [.s, .i .i64], .sl true [.s, .s]], .i .i64])) := by
  exact TO1.le (Cc_le hd) (to_slice1 (c' := Cc lf 7) hlf (F := fun l n i out => f163_0 (Cc lf 6) lf l n i out) (G := fun l i => Cc lf 6 208 [T.st [T.i .i64 (asI (T.cell (l.getD i.toNat T.u) 0)), T.s (asS (T.cell (l.getD i.toNat T.u) 1)), T.b (asB (T.cell (l.getD i.toNat T.u) 2)), T.i .i64 (asI (T.cell (l.getD i.toNat T.u) 3)), T.sl (asL (T.cell (l.getD i.toNat T.u) 4)), T.i .i64 (asI (T.cell (l.getD i.toNat T.u) 5))]]) (V := fun _ _ r => T.st [T.i .i64 (asI (T.cell (nth r 0) 0)), T.s (asS (T.cell (nth r 0) 1)), T.b (asB (T.cell (nth r 0) 2)), T.i .i64 (asI (T.cell (nth r 0) 3)), T.sl (asL (T.cell (nth r 0) 4)), T.i .i64 (asI (T.cell (nth r 0) 5))]) (fun l => f163_eq (Cc lf 6) lf l) (fun l n i out => rfl) (fun l j h hf hs => by
    have hto := to208 hlf (d := 6) (by omega) _ hf hs
    obtain ⟨a0, a1, a2, a3, a4, a5, e, _⟩ := fit_isbiMiiiScMsiEMssEEi hf
    rw [e] at hto
    simp only [getD_nat h, e]
    exact ⟨_, hto, rfl⟩))
theorem to110 (hlf : 33554432 ≤ lf) {d : Nat} (hd : 8 ≤ d) : TO1 (Cc lf d) 110 (fitE true csfit_MisbiMiiiScMsiEMssEEiEi) := by
  refine TO1.le (Cc_le hd) ?_
  intro t ht hs
  obtain ⟨a0, a1, rfl, q0, q1⟩ := fit_MisbiMiiiScMsiEMssEEiEi ht
  simp only [tl, tls] at hs
  have hcall : Cc lf 8 110 [T.st [T.sl a0, T.i .i64 a1]] = f110_t (Cc lf 7) lf a0 a1 := f110_eq (Cc lf 7) lf a0 a1
  rw [hcall]
  unfold f110_t
  have e1 := to163 hlf (d := 7) (by omega) (T.sl a0) q0 (by simp only [tl, tls]; omega)
  simp only [e1, Option.bind_some, nth0, asL_l, asI_i, asB_b, asS_s, cell0, cellS]
theorem to236 (hlf : 33554432 ≤ lf) {d : Nat} (hd : 1 ≤ d) : TO1 (Cc lf d) 236 (fitE true csfit_isbii) := by
  refine TO1.le (Cc_le hd) ?_
  intro t ht hs
  obtain ⟨a0, a1, a2, a3, a4, rfl, q0, q1, q3, q4⟩ := fit_isbii ht
  simp only [tl, tls] at hs
  have hcall : Cc lf 1 236 [T.st [T.i .i64 a0, T.s a1, T.b a2, T.i .i64 a3, T.i .i64 a4]] = f236_t (Cc lf 0) lf a0 a1 a2 a3 a4 := f236_eq (Cc lf 0) lf a0 a1 a2 a3 a4
  rw [hcall]
  unfold f236_t
  rfl
theorem to209 (hlf : 33554432 ≤ lf) {d : Nat} (hd : 2 ≤ d) : TO1 (Cc lf d) 209 (fitC (.sl true [.i .i64, .s, .b, .i .i64, .i .i64])) := by
  exact TO1.le (Cc_le hd) (to_slice1 (c' := Cc lf 2) hlf (F := fun l n i out => f209_0 (Cc lf 1) lf l n i out) (G := fun l i => Cc lf 1 236 [T.st [T.i .i64 (asI (T.cell (l.getD i.toNat T.u) 0)), T.s (asS (T.cell (l.getD i.toNat T.u) 1)), T.b (asB (T.cell (l.getD i.toNat T.u) 2)), T.i .i64 (asI (T.cell (l.getD i.toNat T.u) 3)), T.i .i64 (asI (T.cell (l.getD i.toNat T.u) 4))]]) (V := fun _ _ r => T.st [T.i .i64 (asI (T.cell (nth r 0) 0)), T.s (asS (T.cell (nth r 0) 1)), T.b (asB (T.cell (nth r 0) 2)), T.i .i64 (asI (T.cell (nth r 0) 3)), T.i .i64 (asI (T.cell (nth r 0) 4))]) (fun l => f209_eq (Cc lf 1) lf l) (fun l n i out => rfl) (fun l j h hf hs => by
    have hto := to236 hlf (d := 1) (by omega) _ hf hs
    obtain ⟨a0, a1, a2, a3, a4, e, _⟩ := fit_isbii hf
    rw [e] at hto
    simp only [getD_nat h, e]
    exact ⟨_, hto, rfl⟩))
theorem to164 (hlf : 33554432 ≤ lf) {d : Nat} (hd : 3 ≤ d) : TO1 (Cc lf d) 164 (fitE true csfit_iMisbiiE) := by
  refine TO1.le (Cc_le hd) ?_
  intro t ht hs
  obtain ⟨a0, a1, rfl, q0, q1⟩ := fit_iMisbiiE ht
  simp only [tl, tls] at hs
  have hcall : Cc lf 3 164 [T.st [T.i .i64 a0, T.sl a1]] = f164_t (Cc lf 2) lf a0 a1 := f164_eq (Cc lf 2) lf a0 a1
  rw [hcall]
  unfold f164_t
  have e1 := to209 hlf (d := 2) (by omega) (T.sl a1) q1 (by simp only [tl, tls]; omega)
  simp only [e1, Option.bind_some, nth0, asL_l, asI_i, asB_b, asS_s, cell0, cellS]
abbrev csfit_ii : List CT := [.i .i64, .i .i64]
theorem fit_ii {t : T} (h : fitE true csfit_ii t) : ∃ (a0 : Int) (a1 : Int), t = .st [.i .i64 a0, .i .i64 a1] ∧ (Lit.int .i64 a0).wf = true ∧ (Lit.int .i64 a1).wf = true := by
  obtain ⟨l, rfl, h⟩ := fitE_st h
  obtain ⟨x0, l0, rfl, h0, h⟩ := fitCs_cons h
  obtain ⟨x1, l1, rfl, h1, h⟩ := fitCs_cons h
  obtain rfl := fitCs_nil h
  obtain ⟨a0, rfl, q0⟩ := fitC_i h0
  obtain ⟨a1, rfl, q1⟩ := fitC_i h1
  exact ⟨a0, a1, rfl, q0, q1⟩
theorem to250 (hlf : 33554432 ≤ lf) {d : Nat} (hd : 1 ≤ d) : TO1 (Cc lf d) 250 (fitE true csfit_ii) := by
  refine TO1.le (Cc_le hd) ?_
  intro t ht hs
  obtain ⟨a0, a1, rfl, q0, q1⟩ := fit_ii ht
  simp only [tl, tls] at hs
  have hcall : Cc lf 1 250 [T.st [T.i .i64 a0, T.i .i64 a1]] = f250_t (Cc lf 0) lf a0 a1 := f250_eq (Cc lf 0) lf a0 a1
  rw [hcall]
  unfold f250_t
  rfl
theorem to237 (hlf : 33554432 ≤ lf) {d : Nat} (hd : 2 ≤ d) : TO1 (Cc lf d) 237 (fitC (.sl true [.i .i64, .i .i64])) := by
  exact TO1.le (Cc_le hd) (to_slice1 (c' := Cc lf 2) hlf (F := fun l n i out => f237_0 (Cc lf 1) lf l n i out) (G := fun l i => Cc lf 1 250 [T.st [T.i .i64 (asI (T.cell (l.getD i.toNat T.u) 0)), T.i .i64 (asI (T.cell (l.getD i.toNat T.u) 1))]]) (V := fun _ _ r => T.st [T.i .i64 (asI (T.cell (nth r 0) 0)), T.i .i64 (asI (T.cell (nth r 0) 1))]) (fun l => f237_eq (Cc lf 1) lf l) (fun l n i out => rfl) (fun l j h hf hs => by
    have hto := to250 hlf (d := 1) (by omega) _ hf hs
    obtain ⟨a0, a1, e, _⟩ := fit_ii hf
    rw [e] at hto
    simp only [getD_nat h, e]
    exact ⟨_, hto, rfl⟩))
theorem to210 (hlf : 33554432 ≤ lf) {d : Nat} (hd : 3 ≤ d) : TO1 (Cc lf d) 210 (fitE true csfit_iMiiE) := by
  refine TO1.le (Cc_le hd) ?_
  intro t ht hs
  obtain ⟨a0, a1, rfl, q0, q1⟩ := fit_iMiiE ht
  simp only [tl, tls] at hs
  have hcall : Cc lf 3 210 [T.st [T.i .i64 a0, T.sl a1]] = f210_t (Cc lf 2) lf a0 a1 := f210_eq (Cc lf 2) lf a0 a1
  rw [hcall]
  unfold f210_t
  have e1 := to237 hlf (d := 2) (by omega) (T.sl a1) q1 (by simp only [tl, tls]; omega)
  simp only [e1, Option.bind_some, nth0, asL_l, asI_i, asB_b, asS_s, cell0, cellS]
theorem to165 (hlf : 33554432 ≤ lf) {d : Nat} (hd : 4 ≤ d) : TO1 (Cc lf d) 165 (fitC (.sl true [.i .i64, .sl true [.i .i64, .i .i64]])) := by
  exact TO1.le (Cc_le hd) (to_slice1 (c' := Cc lf 4) hlf (F := fun l n i out => f165_0 (Cc lf 3) lf l n i out) (G := fun l i => Cc lf 3 210 [T.st [T.i .i64 (asI (T.cell (l.getD i.toNat T.u) 0)), T.sl (asL (T.cell (l.getD i.toNat T.u) 1))]]) (V := fun _ _ r => T.st [T.i .i64 (asI (T.cell (nth r 0) 0)), T.sl (asL (T.cell (nth r 0) 1))]) (fun l => f165_eq (Cc lf 3) lf l) (fun l n i out => rfl) (fun l j h hf hs => by
    have hto := to210 hlf (d := 3) (by omega) _ hf hs
    obtain ⟨a0, a1, e, _⟩ := fit_iMiiE hf
    rw [e] at hto
    simp only [getD_nat h, e]
    exact ⟨_, hto, rfl⟩))
theorem to111 (hlf : 33554432 ≤ lf) {d : Nat} (hd : 9 ≤ d) : TO1 (Cc lf d) 111 (fitE true csfit_MisbiMiiiScMsiEMssEEiEiiMisbiiEMiMiiEEii) := by
  refine TO1.le (Cc_le hd) ?_
  intro t ht hs
  obtain ⟨a0, a1, a2, a3, a4, a5, a6, rfl, q0, q1, q2, q3, q4, q5, q6⟩ := fit_MisbiMiiiScMsiEMssEEiEiiMisbiiEMiMiiEEii ht
  simp only [tl, tls] at hs
  have hcall : Cc lf 9 111 [T.st [T.sl a0, T.i .i64 a1, T.i .i64 a2, T.sl a3, T.sl a4, T.i .i64 a5, T.i .i64 a6]] = f111_t (Cc lf 8) lf a0 a1 a2 a3 a4 a5 a6 := f111_eq (Cc lf 8) lf a0 a1 a2 a3 a4 a5 a6
  rw [hcall]
  unfold f111_t
  have e1 := to110 hlf (d := 8) (by omega) (T.st [T.sl a0, T.i .i64 a1]) (show fitE true csfit_MisbiMiiiScMsiEMssEEiEi (T.st [T.sl a0, T.i .i64 a1]) from ⟨q0, ⟨rfl, q1⟩, trivial⟩) (by simp only [tl, tls]; omega)
  have e2 := to164 hlf (d := 8) (by omega) (T.st [T.i .i64 a2, T.sl a3]) (show fitE true csfit_iMisbiiE (T.st [T.i .i64 a2, T.sl a3]) from ⟨⟨rfl, q2⟩, q3, trivial⟩) (by simp only [tl, tls]; omega)
  have e3 := to165 hlf (d := 8) (by omega) (T.sl a4) q4 (by simp only [tl, tls]; omega)
  simp only [e1, e2, e3, Option.bind_some, nth0, asL_l, asI_i, asB_b, asS_s, cell0, cellS]
theorem to253 (hlf : 33554432 ≤ lf) {d : Nat} (hd : 2 ≤ d) : TO1 (Cc lf d) 253 (fitE true csfit_bSc) := by
  refine TO1.le (Cc_le hd) ?_
  intro t ht hs
  obtain ⟨a0, a1, rfl, q1⟩ := fit_bSc ht
  simp only [tl, tls] at hs
  have hcall : Cc lf 2 253 [T.st [T.b a0, T.sl a1]] = f253_t (Cc lf 1) lf a0 a1 := f253_eq (Cc lf 1) lf a0 a1
  rw [hcall]
  unfold f253_t
  have e1 := to47 hlf (d := 1) (by omega) (T.sl a1) q1 (by simp only [tl, tls]; omega)
  simp only [e1, Option.bind_some, nth0, asL_l, asI_i, asB_b, asS_s, cell0, cellS]
theorem to243 (hlf : 33554432 ≤ lf) {d : Nat} (hd : 3 ≤ d) : TO1 (Cc lf d) 243 (fitC (.sl true [.b, .sl false [.i .u8]])) := by
  exact TO1.le (Cc_le hd) (to_slice1 (c' := Cc lf 3) hlf (F := fun l n i out => f243_0 (Cc lf 2) lf l n i out) (G := fun l i => Cc lf 2 253 [T.st [T.b (asB (T.cell (l.getD i.toNat T.u) 0)), T.sl (asL (T.cell (l.getD i.toNat T.u) 1))]]) (V := fun _ _ r => T.st [T.b (asB (T.cell (nth r 0) 0)), T.sl (asL (T.cell (nth r 0) 1))]) (fun l => f243_eq (Cc lf 2) lf l) (fun l n i out => rfl) (fun l j h hf hs => by
    have hto := to253 hlf (d := 2) (by omega) _ hf hs
    obtain ⟨a0, a1, e, _⟩ := fit_bSc hf
    rw [e] at hto
    simp only [getD_nat h, e]
    exact ⟨_, hto, rfl⟩))
theorem to220 (hlf : 33554432 ≤ lf) {d : Nat} (hd : 4 ≤ d) : TO1 (Cc lf d) 220 (fitE true csfit_MbScEib) := by
  refine TO1.le (Cc_le hd) ?_
  intro t ht hs
  obtain ⟨a0, a1, a2, rfl, q0, q1⟩ := fit_MbScEib ht
  simp only [tl, tls] at hs
  have hcall : Cc lf 4 220 [T.st [T.sl a0, T.i .i64 a1, T.b a2]] = f220_t (Cc lf 3) lf a0 a1 a2 := f220_eq (Cc lf 3) lf a0 a1 a2
  rw [hcall]
  unfold f220_t
  have e1 := to243 hlf (d := 3) (by omega) (T.sl a0) q0 (by simp only [tl, tls]; omega)
  simp only [e1, Option.bind_some, nth0, asL_l, asI_i, asB_b, asS_s, cell0, cellS]
theorem to177 (hlf : 33554432 ≤ lf) {d : Nat} (hd : 5 ≤ d) : TO1 (Cc lf d) 177 (fitC (.sl true [.sl true [.b, .sl false [.i .u8]], .i .i64, .b])) := by
  exact TO1.le (Cc_le hd) (to_slice1 (c' := Cc lf 5) hlf (F := fun l n i out => f177_0 (Cc lf 4) lf l n i out) (G := fun l i => Cc lf 4 220 [T.st [T.sl (asL (T.cell (l.getD i.toNat T.u) 0)), T.i .i64 (asI (T.cell (l.getD i.toNat T.u) 1)), T.b (asB (T.cell (l.getD i.toNat T.u) 2))]]) (V := fun _ _ r => T.st [T.sl (asL (T.cell (nth r 0) 0)), T.i .i64 (asI (T.cell (nth r 0) 1)), T.b (asB (T.cell (nth r 0) 2))]) (fun l => f177_eq (Cc lf 4) lf l) (fun l n i out => rfl) (fun l j h hf hs => by
    have hto := to220 hlf (d := 4) (by omega) _ hf hs
    obtain ⟨a0, a1, a2, e, _⟩ := fit_MbScEib hf
    rw [e] at hto
    simp only [getD_nat h, e]
    exact ⟨_, hto, rfl⟩))
theorem to126 (hlf : 33554432 ≤ lf) {d : Nat} (hd : 6 ≤ d) : TO1 (Cc lf d) 126 (fitE true csfit_MMbScEibE) := by
  refine TO1.le (Cc_le hd) ?_
  intro t ht hs
  obtain ⟨a0, rfl, q0⟩ := fit_MMbScEibE ht
  simp only [tl, tls] at hs
  have hcall : Cc lf 6 126 [T.st [T.sl a0]] = f126_t (Cc lf 5) lf a0 := f126_eq (Cc lf 5) lf a0
  rw [hcall]
  unfold f126_t
  have e1 := to177 hlf (d := 5) (by omega) (T.sl a0) q0 (by simp only [tl, tls]; omega)
  simp only [e1, Option.bind_some, nth0, asL_l, asI_i, asB_b, asS_s, cell0, cellS]
abbrev csfit_iii : List CT := [.i .i64, .i .i64, .i .i64]
theorem fit_iii {t : T} (h : fitE true csfit_iii t) : ∃ (a0 : Int) (a1 : Int) (a2 : Int), t = .st [.i .i64 a0, .i .i64 a1, .i .i64 a2] ∧ (Lit.int .i64 a0).wf = true ∧ (Lit.int .i64 a1).wf = true ∧ (Lit.int .i64 a2).wf = true := by
  obtain ⟨l, rfl, h⟩ := fitE_st h
  obtain ⟨x0, l0, rfl, h0, h⟩ := fitCs_cons h
  obtain ⟨x1, l1, rfl, h1, h⟩ := fitCs_cons h
  obtain ⟨x2, l2, rfl, h2, h⟩ := fitCs_cons h
  obtain rfl := fitCs_nil h
  obtain ⟨a0, rfl, q0⟩ := fitC_i h0
  obtain ⟨a1, rfl, q1⟩ := fitC_i h1
  obtain ⟨a2, rfl, q2⟩ := fitC_i h2
  exact ⟨a0, a1, a2, rfl, q0, q1, q2⟩
theorem to178 (hlf : 33554432 ≤ lf) {d : Nat} (hd : 1 ≤ d) : TO1 (Cc lf d) 178 (fitE true csfit_iii) := by
  refine TO1.le (Cc_le hd) ?_
  intro t ht hs
  obtain ⟨a0, a1, a2, rfl, q0, q1, q2⟩ := fit_iii ht
  simp only [tl, tls] at hs
  have hcall : Cc lf 1 178 [T.st [T.i .i64 a0, T.i .i64 a1, T.i .i64 a2]] = f178_t (Cc lf 0) lf a0 a1 a2 := f178_eq (Cc lf 0) lf a0 a1 a2
  rw [hcall]
  unfold f178_t
  rfl
theorem to127 (hlf : 33554432 ≤ lf) {d : Nat} (hd : 2 ≤ d) : TO1 (Cc lf d) 127 (fitC (.sl true [.i .i64, .i .i64, .i .i64])) := by
  exact TO1.le (Cc_le hd) (to_slice1 (c' := Cc lf 2) hlf (F := fun l n i out => f127_0 (Cc lf 1) lf l n i out) (G := fun l i => Cc lf 1 178 [T.st [T.i .i64 (asI (T.cell (l.getD i.toNat T.u) 0)), T.i .i64 (asI (T.cell (l.getD i.toNat T.u) 1)), T.i .i64 (asI (T.cell (l.getD i.toNat T.u) 2))]]) (V := fun _ _ r => T.st [T.i .i64 (asI (T.cell (nth r 0) 0)), T.i .i64 (asI (T.cell (nth r 0) 1)), T.i .i64 (asI (T.cell (nth r 0) 2))]) (fun l => f127_eq (Cc lf 1) lf l) (fun l n i out => rfl) (fun l j h hf hs => by
    have hto := to178 hlf (d := 1) (by omega) _ hf hs
    obtain ⟨a0, a1, a2, e, _⟩ := fit_iii hf
    rw [e] at hto
    simp only [getD_nat h, e]
    exact ⟨_, hto, rfl⟩))
theorem to73 (hlf : 33554432 ≤ lf) {d : Nat} (hd : 7 ≤ d) : TO1 (Cc lf d) 73 (fitE true csfit_MMbScEibEiMiiiEb) := by
  refine TO1.le (Cc_le hd) ?_
  intro t ht hs
  obtain ⟨a0, a1, a2, a3, rfl, q0, q1, q2⟩ := fit_MMbScEibEiMiiiEb ht
  simp only [tl, tls] at hs
  have hcall : Cc lf 7 73 [T.st [T.sl a0, T.i .i64 a1, T.sl a2, T.b a3]] = f73_t (Cc lf 6) lf a0 a1 a2 a3 := f73_eq (Cc lf 6) lf a0 a1 a2 a3
  rw [hcall]
  unfold f73_t
  have e1 := to126 hlf (d := 6) (by omega) (T.st [T.sl a0]) (show fitE true csfit_MMbScEibE (T.st [T.sl a0]) from ⟨q0, trivial⟩) (by simp only [tl, tls]; omega)
  have e2 := to127 hlf (d := 6) (by omega) (T.sl a2) q2 (by simp only [tl, tls]; omega)
  simp only [e1, e2, Option.bind_some, nth0, asL_l, asI_i, asB_b, asS_s, cell0, cellS]
theorem to20 (hlf : 33554432 ≤ lf) {d : Nat} (hd : 8 ≤ d) : TO1 (Cc lf d) 20 (fitE true csfit_MMbScEibEiMiiiEbi) := by
  refine TO1.le (Cc_le hd) ?_
  intro t ht hs
  obtain ⟨a0, a1, a2, a3, a4, rfl, q0, q1, q2, q4⟩ := fit_MMbScEibEiMiiiEbi ht
  simp only [tl, tls] at hs
  have hcall : Cc lf 8 20 [T.st [T.sl a0, T.i .i64 a1, T.sl a2, T.b a3, T.i .i64 a4]] = f20_t (Cc lf 7) lf a0 a1 a2 a3 a4 := f20_eq (Cc lf 7) lf a0 a1 a2 a3 a4
  rw [hcall]
  unfold f20_t
  have e1 := to73 hlf (d := 7) (by omega) (T.st [T.sl a0, T.i .i64 a1, T.sl a2, T.b a3]) (show fitE true csfit_MMbScEibEiMiiiEb (T.st [T.sl a0, T.i .i64 a1, T.sl a2, T.b a3]) from ⟨q0, ⟨rfl, q1⟩, q2, trivial, trivial⟩) (by simp only [tl, tls]; omega)
  simp only [e1, Option.bind_some, nth0, asL_l, asI_i, asB_b, asS_s, cell0, cellS]
theorem to55 (hlf : 33554432 ≤ lf) {d : Nat} (hd : 10 ≤ d) : TO1 (Cc lf d) 55 (fitE true csfit_MisbiMiiiScMsiEMssEEiEiMisbiMiiiScMsiEMssEEiEiiMisbiiEMiMiiEEiiMMbScEibEiMiiiEbi) := by
  refine TO1.le (Cc_le hd) ?_
  intro t ht hs
  obtain ⟨a0, a1, a2, a3, a4, a5, a6, a7, a8, a9, a10, a11, a12, a13, rfl, q0, q1, q2, q3, q4, q5, q6, q7, q8, q9, q10, q11, q13⟩ := fit_MisbiMiiiScMsiEMssEEiEiMisbiMiiiScMsiEMssEEiEiiMisbiiEMiMiiEEiiMMbScEibEiMiiiEbi ht
  simp only [tl, tls] at hs
  have hcall : Cc lf 10 55 [T.st [T.sl a0, T.i .i64 a1, T.sl a2, T.i .i64 a3, T.i .i64 a4, T.sl a5, T.sl a6, T.i .i64 a7, T.i .i64 a8, T.sl a9, T.i .i64 a10, T.sl a11, T.b a12, T.i .i64 a13]] = f55_t (Cc lf 9) lf a0 a1 a2 a3 a4 a5 a6 a7 a8 a9 a10 a11 a12 a13 := f55_eq (Cc lf 9) lf a0 a1 a2 a3 a4 a5 a6 a7 a8 a9 a10 a11 a12 a13
  rw [hcall]
  unfold f55_t
  have e1 := to110 hlf (d := 9) (by omega) (T.st [T.sl a0, T.i .i64 a1]) (show fitE true csfit_MisbiMiiiScMsiEMssEEiEi (T.st [T.sl a0, T.i .i64 a1]) from ⟨q0, ⟨rfl, q1⟩, trivial⟩) (by simp only [tl, tls]; omega)
  have e2 := to111 hlf (d := 9) (by omega) (T.st [T.sl a2, T.i .i64 a3, T.i .i64 a4, T.sl a5, T.sl a6, T.i .i64 a7, T.i .i64 a8]) (show fitE true csfit_MisbiMiiiScMsiEMssEEiEiiMisbiiEMiMiiEEii (T.st [T.sl a2, T.i .i64 a3, T.i .i64 a4, T.sl a5, T.sl a6, T.i .i64 a7, T.i .i64 a8]) from ⟨q2, ⟨rfl, q3⟩, ⟨rfl, q4⟩, q5, q6, ⟨rfl, q7⟩, ⟨rfl, q8⟩, trivial⟩) (by simp only [tl, tls]; omega)
  have e3 := to20 hlf (d := 9) (by omega) (T.st [T.sl a9, T.i .i64 a10, T.sl a11, T.b a12, T.i .i64 a13]) (show fitE true csfit_MMbScEibEiMiiiEbi (T.st [T.sl a9, T.i .i64 a10, T.sl a11, T.b a12, T.i .i64 a13]) from ⟨q9, ⟨rfl, q10⟩, q11, trivial, ⟨rfl, q13⟩, trivial⟩) (by simp only [tl, tls]; omega)
  simp only [e1, e2, e3, Option.bind_some, nth0, asL_l, asI_i, asB_b, asS_s, cell0, cellS]
theorem eq48 (hlf : 33554432 ≤ lf) {d : Nat} (hd : 1 ≤ d) : EQ1 (Cc lf d) 48 (fitC (.sl false [.i .u8])) := by
  exact EQ1.le (Cc_le hd) (eq_flat1 (c' := Cc lf 1) hlf (F := fun l l' n i => f48_0 (Cc lf 0) lf l l' n i) (N := fun l l' i => (asI (l.getD i.toNat T.u)) != (asI (l'.getD i.toNat T.u))) (fun l l' => f48_eq (Cc lf 0) lf l l') (fun l l' n i => rfl) (fun l i => by simp))
theorem eq264 (hlf : 33554432 ≤ lf) {d : Nat} (hd : 1 ≤ d) : EQ1 (Cc lf d) 264 (fitE true csfit_si) := by
  refine EQ1.le (Cc_le hd) ?_
  intro t ht hs
  obtain ⟨a0, a1, rfl, q0, q1⟩ := fit_si ht
  simp only [tl, tls] at hs
  have hcall : Cc lf 1 264 [T.st [T.s a0, T.i .i64 a1], T.st [T.s a0, T.i .i64 a1]] = f264_t (Cc lf 0) lf a0 a1 a0 a1 := f264_eq (Cc lf 0) lf a0 a1 a0 a1
  rw [hcall]
  unfold f264_t
  simp only [Option.bind_some, nth0, asB_b, Bool.not_true, cond_false, ne_f, beq_self_eq_true]
theorem eq257 (hlf : 33554432 ≤ lf) {d : Nat} (hd : 2 ≤ d) : EQ1 (Cc lf d) 257 (fitC (.sl true [.s, .i .i64])) := by
  exact EQ1.le (Cc_le hd) (eq_slice1 (c' := Cc lf 2) hlf (F := fun l l' n i => f257_0 (Cc lf 1) lf l l' n i) (G := fun l l' i => Cc lf 1 264 [T.st [T.s (asS (T.cell (l.getD i.toNat T.u) 0)), T.i .i64 (asI (T.cell (l.getD i.toNat T.u) 1))], T.st [T.s (asS (T.cell (l'.getD i.toNat T.u) 0)), T.i .i64 (asI (T.cell (l'.getD i.toNat T.u) 1))]]) (fun l l' => f257_eq (Cc lf 1) lf l l') (fun l l' n i => rfl) (fun l j h hf hs => by
    have heq := eq264 hlf (d := 1) (by omega) _ hf hs
    obtain ⟨a0, a1, e, _⟩ := fit_si hf
    rw [e] at heq
    simp only [getD_nat h, e]
    exact heq))
theorem eq265 (hlf : 33554432 ≤ lf) {d : Nat} (hd : 1 ≤ d) : EQ1 (Cc lf d) 265 (fitE true csfit_ss) := by
  refine EQ1.le (Cc_le hd) ?_
  intro t ht hs
  obtain ⟨a0, a1, rfl, q0, q1⟩ := fit_ss ht
  simp only [tl, tls] at hs
  have hcall : Cc lf 1 265 [T.st [T.s a0, T.s a1], T.st [T.s a0, T.s a1]] = f265_t (Cc lf 0) lf a0 a1 a0 a1 := f265_eq (Cc lf 0) lf a0 a1 a0 a1
  rw [hcall]
  unfold f265_t
  simp only [Option.bind_some, nth0, asB_b, Bool.not_true, cond_false, ne_f, beq_self_eq_true]
theorem eq258 (hlf : 33554432 ≤ lf) {d : Nat} (hd : 2 ≤ d) : EQ1 (Cc lf d) 258 (fitC (.sl true [.s, .s])) := by
  exact EQ1.le (Cc_le hd) (eq_slice1 (c' := Cc lf 2) hlf (F := fun l l' n i => f258_0 (Cc lf 1) lf l l' n i) (G := fun l l' i => Cc lf 1 265 [T.st [T.s (asS (T.cell (l.getD i.toNat T.u) 0)), T.s (asS (T.cell (l.getD i.toNat T.u) 1))], T.st [T.s (asS (T.cell (l'.getD i.toNat T.u) 0)), T.s (asS (T.cell (l'.getD i.toNat T.u) 1))]]) (fun l l' => f258_eq (Cc lf 1) lf l l') (fun l l' n i => rfl) (fun l j h hf hs => by
    have heq := eq265 hlf (d := 1) (by omega) _ hf hs
    obtain ⟨a0, a1, e, _⟩ := fit_ss hf
    rw [e] at heq
    simp only [getD_nat h, e]
    exact heq))
theorem eq251 (hlf : 33554432 ≤ lf) {d : Nat} (hd : 3 ≤ d) : EQ1 (Cc lf d) 251 (fitE true csfit_iiiScMsiEMssE) := by
  refine EQ1.le (Cc_le hd) ?_
  intro t ht hs
  obtain ⟨a0, a1, a2, a3, a4, a5, rfl, q0, q1, q2, q3, q4, q5⟩ := fit_iiiScMsiEMssE ht
  simp only [tl, tls] at hs
  have hcall : Cc lf 3 251 [T.st [T.i .i64 a0, T.i .i64 a1, T.i .i64 a2, T.sl a3, T.sl a4, T.sl a5], T.st [T.i .i64 a0, T.i .i64 a1, T.i .i64 a2, T.sl a3, T.sl a4, T.sl a5]] = f251_t (Cc lf 2) lf a0 a1 a2 a3 a4 a5 a0 a1 a2 a3 a4 a5 := f251_eq (Cc lf 2) lf a0 a1 a2 a3 a4 a5 a0 a1 a2 a3 a4 a5
  rw [hcall]
  unfold f251_t
  have e1 := eq48 hlf (d := 2) (by omega) (T.sl a3) q3 (by simp only [tl, tls]; omega)
  have e2 := eq257 hlf (d := 2) (by omega) (T.sl a4) q4 (by simp only [tl, tls]; omega)
  have e3 := eq258 hlf (d := 2) (by omega) (T.sl a5) q5 (by simp only [tl, tls]; omega)
  simp only [e1, e2, e3, Option.bind_some, nth0, asB_b, Bool.not_true, cond_false, ne_f, beq_self_eq_true]
theorem eq241 (hlf : 33554432 ≤ lf) {d : Nat} (hd : 4 ≤ d) : EQ1 (Cc lf d) 241 (fitC (.sl true [.i .i64, .i .i64, .i .i64, .sl false [.i .u8], .sl true [.s, .i .i64], .sl true [.s, .s]])) := by
  exact EQ1.le (Cc_le hd) (eq_slice1 (c' := Cc lf 4) hlf (F := fun l l' n i => f241_0 (Cc lf 3) lf l l' n i) (G := fun l l' i => Cc lf 3 251 [T.st [T.i .i64 (asI (T.cell (l.getD i.toNat T.u) 0)), T.i .i64 (asI (T.cell (l.getD i.toNat T.u) 1)), T.i .i64 (asI (T.cell (l.getD i.toNat T.u) 2)), T.sl (asL (T.cell (l.getD i.toNat T.u) 3)), T.sl (asL (T.cell (l.getD i.toNat T.u) 4)), T.sl (asL (T.cell (l.getD i.toNat T.u) 5))], T.st [T.i .i64 (asI (T.cell (l'.getD i.toNat T.u) 0)), T.i .i64 (asI (T.cell (l'.getD i.toNat T.u) 1)), T.i .i64 (asI (T.cell (l'.getD i.toNat T.u) 2)), T.sl (asL (T.cell (l'.getD i.toNat T.u) 3)), T.sl (asL (T.cell (l'.getD i.toNat T.u) 4)), T.sl (asL (T.cell (l'.getD i.toNat T.u) 5))]]) (fun l l' => f241_eq (Cc lf 3) lf l l') (fun l l' n i => rfl) (fun l j h hf hs => by
    have heq := eq251 hlf (d := 3) (by omega) _ hf hs
    obtain ⟨a0, a1, a2, a3, a4, a5, e, _⟩ := fit_iiiScMsiEMssE hf
    rw [e] at heq
    simp only [getD_nat h, e]
    exact heq))
theorem eq213 (hlf : 33554432 ≤ lf) {d : Nat} (hd : 5 ≤ d) : EQ1 (Cc lf d) 213 (fitE true csfit_MiiiScMsiEMssEEi) := by
  refine EQ1.le (Cc_le hd) ?_
  intro t ht hs
  obtain ⟨a0, a1, rfl, q0, q1⟩ := fit_MiiiScMsiEMssEEi ht
  simp only [tl, tls] at hs
  have hcall : Cc lf 5 213 [T.st [T.sl a0, T.i .i64 a1], T.st [T.sl a0, T.i .i64 a1]] = f213_t (Cc lf 4) lf a0 a1 a0 a1 := f213_eq (Cc lf 4) lf a0 a1 a0 a1
  rw [hcall]
  unfold f213_t
  have e1 := eq241 hlf (d := 4) (by omega) (T.sl a0) q0 (by simp only [tl, tls]; omega)
  simp only [e1, Option.bind_some, nth0, asB_b, Bool.not_true, cond_false, ne_f, beq_self_eq_true]
theorem eq169 (hlf : 33554432 ≤ lf) {d : Nat} (hd : 6 ≤ d) : EQ1 (Cc lf d) 169 (fitE true csfit_isbiMiiiScMsiEMssEEi) := by
  refine EQ1.le (Cc_le hd) ?_
  intro t ht hs
  obtain ⟨a0, a1, a2, a3, a4, a5, rfl, q0, q1, q3, q4, q5⟩ := fit_isbiMiiiScMsiEMssEEi ht
  simp only [tl, tls] at hs
  have hcall : Cc lf 6 169 [T.st [T.i .i64 a0, T.s a1, T.b a2, T.i .i64 a3, T.sl a4, T.i .i64 a5], T.st [T.i .i64 a0, T.s a1, T.b a2, T.i .i64 a3, T.sl a4, T.i .i64 a5]] = f169_t (Cc lf 5) lf a0 a1 a2 a3 a4 a5 a0 a1 a2 a3 a4 a5 := f169_eq (Cc lf 5) lf a0 a1 a2 a3 a4 a5 a0 a1 a2 a3 a4 a5
  rw [hcall]
  unfold f169_t
  have e1 := eq213 hlf (d := 5) (by omega) (T.st [T.sl a4, T.i .i64 a5]) (show fitE true csfit_MiiiScMsiEMssEEi (T.st [T.sl a4, T.i .i64 a5]) from ⟨q4, ⟨rfl, q5⟩, trivial⟩) (by simp only [tl, tls]; omega)
  simp only [e1, Option.bind_some, nth0, asB_b, Bool.not_true, cond_false, ne_f, beq_self_eq_true]
theorem eq113 (hlf : 33554432 ≤ lf) {d : Nat} (hd : 7 ≤ d) : EQ1 (Cc lf d) 113 (fitC (.sl true [.i .i64, .s, .b, .i .i64, .sl true [.i .i64, .i .i64, .i .i64, .sl false [.i .u8], .sl true [.s, .i .i64], .sl true [.s, .s]], .i .i64])) := by
  exact EQ1.le (Cc_le hd) (eq_slice1 (c' := Cc lf 7) hlf (F := fun l l' n i => f113_0 (Cc lf 6) lf l l' n i) (G := fun l l' i => Cc lf 6 169 [T.st [T.i .i64 (asI (T.cell (l.getD i.toNat T.u) 0)), T.s (asS (T.cell (l.getD i.toNat T.u) 1)), T.b (asB (T.cell (l.getD i.toNat T.u) 2)), T.i .i64 (asI (T.cell (l.getD i.toNat T.u) 3)), T.sl (asL (T.cell (l.getD i.toNat T.u) 4)), T.i .i64 (asI (T.cell (l.getD i.toNat T.u) 5))], T.st [T.i .i64 (asI (T.cell (l'.getD i.toNat T.u) 0)), T.s (asS (T.cell (l'.getD i.toNat T.u) 1)), T.b (asB (T.cell (l'.getD i.toNat T.u) 2)), T.i .i64 (asI (T.cell (l'.getD i.toNat T.u) 3)), T.sl (asL (T.cell (l'.getD i.toNat T.u) 4)), T.i .i64 (asI (T.cell (l'.getD i.toNat T.u) 5))]]) (fun l l' => f113_eq (Cc lf 6) lf l l') (fun l l' n i => rfl) (fun l j h hf hs => by
    have heq := eq169 hlf (d := 6) (by omega) _ hf hs
    obtain ⟨a0, a1, a2, a3, a4, a5, e, _⟩ := fit_isbiMiiiScMsiEMssEEi hf
    rw [e] at heq
    simp only [getD_nat h, e]
    exact heq))
theorem eq60 (hlf : 33554432 ≤ lf) {d : Nat} (hd : 8 ≤ d) : EQ1 (Cc lf d) 60 (fitE true csfit_MisbiMiiiScMsiEMssEEiEi) := by
  refine EQ1.le (Cc_le hd) ?_
  intro t ht hs
  obtain ⟨a0, a1, rfl, q0, q1⟩ := fit_MisbiMiiiScMsiEMssEEiEi ht
  simp only [tl, tls] at hs
  have hcall : Cc lf 8 60 [T.st [T.sl a0, T.i .i64 a1], T.st [T.sl a0, T.i .i64 a1]] = f60_t (Cc lf 7) lf a0 a1 a0 a1 := f60_eq (Cc lf 7) lf a0 a1 a0 a1
  rw [hcall]
  unfold f60_t
  have e1 := eq113 hlf (d := 7) (by omega) (T.sl a0) q0 (by simp only [tl, tls]; omega)
  simp only [e1, Option.bind_some, nth0, asB_b, Bool.not_true, cond_false, ne_f, beq_self_eq_true]
theorem eq170 (hlf : 33554432 ≤ lf) {d : Nat} (hd : 1 ≤ d) : EQ1 (Cc lf d) 170 (fitE true csfit_isbii) := by
  refine EQ1.le (Cc_le hd) ?_
  intro t ht hs
  obtain ⟨a0, a1, a2, a3, a4, rfl, q0, q1, q3, q4⟩ := fit_isbii ht
  simp only [tl, tls] at hs
  have hcall : Cc lf 1 170 [T.st [T.i .i64 a0, T.s a1, T.b a2, T.i .i64 a3, T.i .i64 a4], T.st [T.i .i64 a0, T.s a1, T.b a2, T.i .i64 a3, T.i .i64 a4]] = f170_t (Cc lf 0) lf a0 a1 a2 a3 a4 a0 a1 a2 a3 a4 := f170_eq (Cc lf 0) lf a0 a1 a2 a3 a4 a0 a1 a2 a3 a4
  rw [hcall]
  unfold f170_t
  simp only [Option.bind_some, nth0, asB_b, Bool.not_true, cond_false, ne_f, beq_self_eq_true]
theorem eq114 (hlf : 33554432 ≤ lf) {d : Nat} (hd : 2 ≤ d) : EQ1 (Cc lf d) 114 (fitC (.sl true [.i .i64, .s, .b, .i .i64, .i .i64])) := by
  exact EQ1.le (Cc_le hd) (eq_slice1 (c' := Cc lf 2) hlf (F := fun l l' n i => f114_0 (Cc lf 1) lf l l' n i) (G := fun l l' i => Cc lf 1 170 [T.st [T.i .i64 (asI (T.cell (l.getD i.toNat T.u) 0)), T.s (asS (T.cell (l.getD i.toNat T.u) 1)), T.b (asB (T.cell (l.getD i.toNat T.u) 2)), T.i .i64 (asI (T.cell (l.getD i.toNat T.u) 3)), T.i .i64 (asI (T.cell (l.getD i.toNat T.u) 4))], T.st [T.i .i64 (asI (T.cell (l'.getD i.toNat T.u) 0)), T.s (asS (T.cell (l'.getD i.toNat T.u) 1)), T.b (asB (T.cell (l'.getD i.toNat T.u) 2)), T.i .i64 (asI (T.cell (l'.getD i.toNat T.u) 3)), T.i .i64 (asI (T.cell (l'.getD i.toNat T.u) 4))]]) (fun l l' => f114_eq (Cc lf 1) lf l l') (fun l l' n i => rfl) (fun l j h hf hs => by
    have heq := eq170 hlf (d := 1) (by omega) _ hf hs
    obtain ⟨a0, a1, a2, a3, a4, e, _⟩ := fit_isbii hf
    rw [e] at heq
    simp only [getD_nat h, e]
    exact heq))
theorem eq61 (hlf : 33554432 ≤ lf) {d : Nat} (hd : 3 ≤ d) : EQ1 (Cc lf d) 61 (fitE true csfit_iMisbiiE) := by
  refine EQ1.le (Cc_le hd) ?_
  intro t ht hs
  obtain ⟨a0, a1, rfl, q0, q1⟩ := fit_iMisbiiE ht
  simp only [tl, tls] at hs
  have hcall : Cc lf 3 61 [T.st [T.i .i64 a0, T.sl a1], T.st [T.i .i64 a0, T.sl a1]] = f61_t (Cc lf 2) lf a0 a1 a0 a1 := f61_eq (Cc lf 2) lf a0 a1 a0 a1
  rw [hcall]
  unfold f61_t
  have e1 := eq114 hlf (d := 2) (by omega) (T.sl a1) q1 (by simp only [tl, tls]; omega)
  simp only [e1, Option.bind_some, nth0, asB_b, Bool.not_true, cond_false, ne_f, beq_self_eq_true]
theorem eq214 (hlf : 33554432 ≤ lf) {d : Nat} (hd : 1 ≤ d) : EQ1 (Cc lf d) 214 (fitE true csfit_ii) := by
  refine EQ1.le (Cc_le hd) ?_
  intro t ht hs
  obtain ⟨a0, a1, rfl, q0, q1⟩ := fit_ii ht
  simp only [tl, tls] at hs
  have hcall : Cc lf 1 214 [T.st [T.i .i64 a0, T.i .i64 a1], T.st [T.i .i64 a0, T.i .i64 a1]] = f214_t (Cc lf 0) lf a0 a1 a0 a1 := f214_eq (Cc lf 0) lf a0 a1 a0 a1
  rw [hcall]
  unfold f214_t
  simp only [Option.bind_some, nth0, asB_b, Bool.not_true, cond_false, ne_f, beq_self_eq_true]
theorem eq171 (hlf : 33554432 ≤ lf) {d : Nat} (hd : 2 ≤ d) : EQ1 (Cc lf d) 171 (fitC (.sl true [.i .i64, .i .i64])) := by
  exact EQ1.le (Cc_le hd) (eq_slice1 (c' := Cc lf 2) hlf (F := fun l l' n i => f171_0 (Cc lf 1) lf l l' n i) (G := fun l l' i => Cc lf 1 214 [T.st [T.i .i64 (asI (T.cell (l.getD i.toNat T.u) 0)), T.i .i64 (asI (T.cell (l.getD i.toNat T.u) 1))], T.st [T.i .i64 (asI (T.cell (l'.getD i.toNat T.u) 0)), T.i .i64 (asI (T.cell (l'.getD i.toNat T.u) 1))]]) (fun l l' => f171_eq (Cc lf 1) lf l l') (fun l l' n i => rfl) (fun l j h hf hs => by
    have heq := eq214 hlf (d := 1) (by omega) _ hf hs
    obtain ⟨a0, a1, e, _⟩ := fit_ii hf
    rw [e] at heq
    simp only [getD_nat h, e]
    exact heq))
theorem eq115 (hlf : 33554432 ≤ lf) {d : Nat} (hd : 3 ≤ d) : EQ1 (Cc lf d) 115 (fitE true csfit_iMiiE) := by
  refine EQ1.le (Cc_le hd) ?_
  intro t ht hs
  obtain ⟨a0, a1, rfl, q0, q1⟩ := fit_iMiiE ht
  simp only [tl, tls] at hs
  have hcall : Cc lf 3 115 [T.st [T.i .i64 a0, T.sl a1], T.st [T.i .i64 a0, T.sl a1]] = f115_t (Cc lf 2) lf a0 a1 a0 a1 := f115_eq (Cc lf 2) lf a0 a1 a0 a1
  rw [hcall]
  unfold f115_t
  have e1 := eq171 hlf (d := 2) (by omega) (T.sl a1) q1 (by simp only [tl, tls]; omega)
  simp only [e1, Option.bind_some, nth0, asB_b, Bool.not_true, cond_false, ne_f, beq_self_eq_true]
theorem eq62 (hlf : 33554432 ≤ lf) {d : Nat} (hd : 4 ≤ d) : EQ1 (Cc lf d) 62 (fitC (.sl true [.i .i64, .sl true [.i .i64, .i .i64]])) := by
  exact EQ1.le (Cc_le hd) (eq_slice1 (c' := Cc lf 4) hlf (F := fun l l' n i => f62_0 (Cc lf 3) lf l l' n i) (G := fun l l' i => Cc lf 3 115 [T.st [T.i .i64 (asI (T.cell (l.getD i.toNat T.u) 0)), T.sl (asL (T.cell (l.getD i.toNat T.u) 1))], T.st [T.i .i64 (asI (T.cell (l'.getD i.toNat T.u) 0)), T.sl (asL (T.cell (l'.getD i.toNat T.u) 1))]]) (fun l l' => f62_eq (Cc lf 3) lf l l') (fun l l' n i => rfl) (fun l j h hf hs => by
    have heq := eq115 hlf (d := 3) (by omega) _ hf hs
    obtain ⟨a0, a1, e, _⟩ := fit_iMiiE hf
    rw [e] at heq
    simp only [getD_nat h, e]
    exact heq))
theorem eq15 (hlf : 33554432 ≤ lf) {d : Nat} (hd : 9 ≤ d) : EQ1 (Cc lf d) 15 (fitE true csfit_MisbiMiiiScMsiEMssEEiEiiMisbiiEMiMiiEEii) := by
  refine EQ1.le (Cc_le hd) ?_
  intro t ht hs
  obtain ⟨a0, a1, a2, a3, a4, a5, a6, rfl, q0, q1, q2, q3, q4, q5, q6⟩ := fit_MisbiMiiiScMsiEMssEEiEiiMisbiiEMiMiiEEii ht
  simp only [tl, tls] at hs
  have hcall : Cc lf 9 15 [T.st [T.sl a0, T.i .i64 a1, T.i .i64 a2, T.sl a3, T.sl a4, T.i .i64 a5, T.i .i64 a6], T.st [T.sl a0, T.i .i64 a1, T.i .i64 a2, T.sl a3, T.sl a4, T.i .i64 a5, T.i .i64 a6]] = f15_t (Cc lf 8) lf a0 a1 a2 a3 a4 a5 a6 a0 a1 a2 a3 a4 a5 a6 := f15_eq (Cc lf 8) lf a0 a1 a2 a3 a4 a5 a6 a0 a1 a2 a3 a4 a5 a6
  rw [hcall]
  unfold f15_t
  have e1 := eq60 hlf (d := 8) (by omega) (T.st [T.sl a0, T.i .i64 a1]) (show fitE true csfit_MisbiMiiiScMsiEMssEEiEi (T.st [T.sl a0, T.i .i64 a1]) from ⟨q0, ⟨rfl, q1⟩, trivial⟩) (by simp only [tl, tls]; omega)
  have e2 := eq61 hlf (d := 8) (by omega) (T.st [T.i .i64 a2, T.sl a3]) (show fitE true csfit_iMisbiiE (T.st [T.i .i64 a2, T.sl a3]) from ⟨⟨rfl, q2⟩, q3, trivial⟩) (by simp only [tl, tls]; omega)
  have e3 := eq62 hlf (d := 8) (by omega) (T.sl a4) q4 (by simp only [tl, tls]; omega)
  simp only [e1, e2, e3, Option.bind_some, nth0, asB_b, Bool.not_true, cond_false, ne_f, beq_self_eq_true]
theorem eq254 (hlf : 33554432 ≤ lf) {d : Nat} (hd : 2 ≤ d) : EQ1 (Cc lf d) 254 (fitE true csfit_bSc) := by
  refine EQ1.le (Cc_le hd) ?_
  intro t ht hs
  obtain ⟨a0, a1, rfl, q1⟩ := fit_bSc ht
  simp only [tl, tls] at hs
  have hcall : Cc lf 2 254 [T.st [T.b a0, T.sl a1], T.st [T.b a0, T.sl a1]] = f254_t (Cc lf 1) lf a0 a1 a0 a1 := f254_eq (Cc lf 1) lf a0 a1 a0 a1
  rw [hcall]
  unfold f254_t
  have e1 := eq48 hlf (d := 1) (by omega) (T.sl a1) q1 (by simp only [tl, tls]; omega)
  simp only [e1, Option.bind_some, nth0, asB_b, Bool.not_true, cond_false, ne_f, beq_self_eq_true]
theorem eq244 (hlf : 33554432 ≤ lf) {d : Nat} (hd : 3 ≤ d) : EQ1 (Cc lf d) 244 (fitC (.sl true [.b, .sl false [.i .u8]])) := by
  exact EQ1.le (Cc_le hd) (eq_slice1 (c' := Cc lf 3) hlf (F := fun l l' n i => f244_0 (Cc lf 2) lf l l' n i) (G := fun l l' i => Cc lf 2 254 [T.st [T.b (asB (T.cell (l.getD i.toNat T.u) 0)), T.sl (asL (T.cell (l.getD i.toNat T.u) 1))], T.st [T.b (asB (T.cell (l'.getD i.toNat T.u) 0)), T.sl (asL (T.cell (l'.getD i.toNat T.u) 1))]]) (fun l l' => f244_eq (Cc lf 2) lf l l') (fun l l' n i => rfl) (fun l j h hf hs => by
    have heq := eq254 hlf (d := 2) (by omega) _ hf hs
    obtain ⟨a0, a1, e, _⟩ := fit_bSc hf
    rw [e] at heq
    simp only [getD_nat h, e]
    exact heq))
theorem eq221 (hlf : 33554432 ≤ lf) {d : Nat} (hd : 4 ≤ d) : EQ1 (Cc lf d) 221 (fitE true csfit_MbScEib) := by
  refine EQ1.le (Cc_le hd) ?_
  intro t ht hs
  obtain ⟨a0, a1, a2, rfl, q0, q1⟩ := fit_MbScEib ht
  simp only [tl, tls] at hs
  have hcall : Cc lf 4 221 [T.st [T.sl a0, T.i .i64 a1, T.b a2], T.st [T.sl a0, T.i .i64 a1, T.b a2]] = f221_t (Cc lf 3) lf a0 a1 a2 a0 a1 a2 := f221_eq (Cc lf 3) lf a0 a1 a2 a0 a1 a2
  rw [hcall]
  unfold f221_t
  have e1 := eq244 hlf (d := 3) (by omega) (T.sl a0) q0 (by simp only [tl, tls]; omega)
  simp only [e1, Option.bind_some, nth0, asB_b, Bool.not_true, cond_false, ne_f, beq_self_eq_true]
theorem eq179 (hlf : 33554432 ≤ lf) {d : Nat} (hd : 5 ≤ d) : EQ1 (Cc lf d) 179 (fitC (.sl true [.sl true [.b, .sl false [.i .u8]], .i .i64, .b])) := by
  exact EQ1.le (Cc_le hd) (eq_slice1 (c' := Cc lf 5) hlf (F := fun l l' n i => f179_0 (Cc lf 4) lf l l' n i) (G := fun l l' i => Cc lf 4 221 [T.st [T.sl (asL (T.cell (l.getD i.toNat T.u) 0)), T.i .i64 (asI (T.cell (l.getD i.toNat T.u) 1)), T.b (asB (T.cell (l.getD i.toNat T.u) 2))], T.st [T.sl (asL (T.cell (l'.getD i.toNat T.u) 0)), T.i .i64 (asI (T.cell (l'.getD i.toNat T.u) 1)), T.b (asB (T.cell (l'.getD i.toNat T.u) 2))]]) (fun l l' => f179_eq (Cc lf 4) lf l l') (fun l l' n i => rfl) (fun l j h hf hs => by
    have heq := eq221 hlf (d := 4) (by omega) _ hf hs
    obtain ⟨a0, a1, a2, e, _⟩ := fit_MbScEib hf
    rw [e] at heq
    simp only [getD_nat h, e]
    exact heq))
theorem eq129 (hlf : 33554432 ≤ lf) {d : Nat} (hd : 6 ≤ d) : EQ1 (Cc lf d) 129 (fitE true csfit_MMbScEibE) := by
  refine EQ1.le (Cc_le hd) ?_
  intro t ht hs
  obtain ⟨a0, rfl, q0⟩ := fit_MMbScEibE ht
  simp only [tl, tls] at hs
  have hcall : Cc lf 6 129 [T.st [T.sl a0], T.st [T.sl a0]] = f129_t (Cc lf 5) lf a0 a0 := f129_eq (Cc lf 5) lf a0 a0
  rw [hcall]
  unfold f129_t
  have e1 := eq179 hlf (d := 5) (by omega) (T.sl a0) q0 (by simp only [tl, tls]; omega)
  simp only [e1, Option.bind_some, nth0, asB_b, Bool.not_true, cond_false, ne_f, beq_self_eq_true]
theorem eq180 (hlf : 33554432 ≤ lf) {d : Nat} (hd : 1 ≤ d) : EQ1 (Cc lf d) 180 (fitE true csfit_iii) := by
  refine EQ1.le (Cc_le hd) ?_
  intro t ht hs
  obtain ⟨a0, a1, a2, rfl, q0, q1, q2⟩ := fit_iii ht
  simp only [tl, tls] at hs
  have hcall : Cc lf 1 180 [T.st [T.i .i64 a0, T.i .i64 a1, T.i .i64 a2], T.st [T.i .i64 a0, T.i .i64 a1, T.i .i64 a2]] = f180_t (Cc lf 0) lf a0 a1 a2 a0 a1 a2 := f180_eq (Cc lf 0) lf a0 a1 a2 a0 a1 a2
  rw [hcall]
  unfold f180_t
  simp only [Option.bind_some, nth0, asB_b, Bool.not_true, cond_false, ne_f, beq_self_eq_true]
theorem eq130 (hlf : 33554432 ≤ lf) {d : Nat} (hd : 2 ≤ d) : EQ1 (Cc lf d) 130 (fitC (.sl true [.i .i64, .i .i64, .i .i64])) := by
  exact EQ1.le (Cc_le hd) (eq_slice1 (c' := Cc lf 2) hlf (F := fun l l' n i => f130_0 (Cc lf 1) lf l l' n i) (G := fun l l' i => Cc lf 1 180 [T.st [T.i .i64 (asI (T.cell (l.getD i.toNat T.u) 0)), T.i .i64 (asI (T.cell (l.getD i.toNat T.u) 1)), T.i .i64 (asI (T.cell (l.getD i.toNat T.u) 2))], T.st [T.i .i64 (asI (T.cell (l'.getD i.toNat T.u) 0)), T.i .i64 (asI (T.cell (l'.getD i.toNat T.u) 1)), T.i .i64 (asI (T.cell (l'.getD i.toNat T.u) 2))]]) (fun l l' => f130_eq (Cc lf 1) lf l l') (fun l l' n i => rfl) (fun l j h hf hs => by
    have heq := eq180 hlf (d := 1) (by omega) _ hf hs
    obtain ⟨a0, a1, a2, e, _⟩ := fit_iii hf
    rw [e] at heq
    simp only [getD_nat h, e]
    exact heq))
theorem eq78 (hlf : 33554432 ≤ lf) {d : Nat} (hd : 7 ≤ d) : EQ1 (Cc lf d) 78 (fitE true csfit_MMbScEibEiMiiiEb) := by
  refine EQ1.le (Cc_le hd) ?_
  intro t ht hs
  obtain ⟨a0, a1, a2, a3, rfl, q0, q1, q2⟩ := fit_MMbScEibEiMiiiEb ht
  simp only [tl, tls] at hs
  have hcall : Cc lf 7 78 [T.st [T.sl a0, T.i .i64 a1, T.sl a2, T.b a3], T.st [T.sl a0, T.i .i64 a1, T.sl a2, T.b a3]] = f78_t (Cc lf 6) lf a0 a1 a2 a3 a0 a1 a2 a3 := f78_eq (Cc lf 6) lf a0 a1 a2 a3 a0 a1 a2 a3
  rw [hcall]
  unfold f78_t
  have e1 := eq129 hlf (d := 6) (by omega) (T.st [T.sl a0]) (show fitE true csfit_MMbScEibE (T.st [T.sl a0]) from ⟨q0, trivial⟩) (by simp only [tl, tls]; omega)
  have e2 := eq130 hlf (d := 6) (by omega) (T.sl a2) q2 (by simp only [tl, tls]; omega)
  simp only [e1, e2, Option.bind_some, nth0, asB_b, Bool.not_true, cond_false, ne_f, beq_self_eq_true]
theorem eq22 (hlf : 33554432 ≤ lf) {d : Nat} (hd : 8 ≤ d) : EQ1 (Cc lf d) 22 (fitE true csfit_MMbScEibEiMiiiEbi) := by
  refine EQ1.le (Cc_le hd) ?_
  intro t ht hs
  obtain ⟨a0, a1, a2, a3, a4, rfl, q0, q1, q2, q4⟩ := fit_MMbScEibEiMiiiEbi ht
  simp only [tl, tls] at hs
  have hcall : Cc lf 8 22 [T.st [T.sl a0, T.i .i64 a1, T.sl a2, T.b a3, T.i .i64 a4], T.st [T.sl a0, T.i .i64 a1, T.sl a2, T.b a3, T.i .i64 a4]] = f22_t (Cc lf 7) lf a0 a1 a2 a3 a4 a0 a1 a2 a3 a4 := f22_eq (Cc lf 7) lf a0 a1 a2 a3 a4 a0 a1 a2 a3 a4
  rw [hcall]
  unfold f22_t
  have e1 := eq78 hlf (d := 7) (by omega) (T.st [T.sl a0, T.i .i64 a1, T.sl a2, T.b a3]) (show fitE true csfit_MMbScEibEiMiiiEb (T.st [T.sl a0, T.i .i64 a1, T.sl a2, T.b a3]) from ⟨q0, ⟨rfl, q1⟩, q2, trivial, trivial⟩) (by simp only [tl, tls]; omega)
  simp only [e1, Option.bind_some, nth0, asB_b, Bool.not_true, cond_false, ne_f, beq_self_eq_true]
theorem eq57 (hlf : 33554432 ≤ lf) {d : Nat} (hd : 10 ≤ d) : EQ1 (Cc lf d) 57 (fitE true csfit_MisbiMiiiScMsiEMssEEiEiMisbiMiiiScMsiEMssEEiEiiMisbiiEMiMiiEEiiMMbScEibEiMiiiEbi) := by
  refine EQ1.le (Cc_le hd) ?_
  intro t ht hs
  obtain ⟨a0, a1, a2, a3, a4, a5, a6, a7, a8, a9, a10, a11, a12, a13, rfl, q0, q1, q2, q3, q4, q5, q6, q7, q8, q9, q10, q11, q13⟩ := fit_MisbiMiiiScMsiEMssEEiEiMisbiMiiiScMsiEMssEEiEiiMisbiiEMiMiiEEiiMMbScEibEiMiiiEbi ht
  simp only [tl, tls] at hs
  have hcall : Cc lf 10 57 [T.st [T.sl a0, T.i .i64 a1, T.sl a2, T.i .i64 a3, T.i .i64 a4, T.sl a5, T.sl a6, T.i .i64 a7, T.i .i64 a8, T.sl a9, T.i .i64 a10, T.sl a11, T.b a12, T.i .i64 a13], T.st [T.sl a0, T.i .i64 a1, T.sl a2, T.i .i64 a3, T.i .i64 a4, T.sl a5, T.sl a6, T.i .i64 a7, T.i .i64 a8, T.sl a9, T.i .i64 a10, T.sl a11, T.b a12, T.i .i64 a13]] = f57_t (Cc lf 9) lf a0 a1 a2 a3 a4 a5 a6 a7 a8 a9 a10 a11 a12 a13 a0 a1 a2 a3 a4 a5 a6 a7 a8 a9 a10 a11 a12 a13 := f57_eq (Cc lf 9) lf a0 a1 a2 a3 a4 a5 a6 a7 a8 a9 a10 a11 a12 a13 a0 a1 a2 a3 a4 a5 a6 a7 a8 a9 a10 a11 a12 a13
  rw [hcall]
  unfold f57_t
  have e1 := eq60 hlf (d := 9) (by omega) (T.st [T.sl a0, T.i .i64 a1]) (show fitE true csfit_MisbiMiiiScMsiEMssEEiEi (T.st [T.sl a0, T.i .i64 a1]) from ⟨q0, ⟨rfl, q1⟩, trivial⟩) (by simp only [tl, tls]; omega)
  have e2 := eq15 hlf (d := 9) (by omega) (T.st [T.sl a2, T.i .i64 a3, T.i .i64 a4, T.sl a5, T.sl a6, T.i .i64 a7, T.i .i64 a8]) (show fitE true csfit_MisbiMiiiScMsiEMssEEiEiiMisbiiEMiMiiEEii (T.st [T.sl a2, T.i .i64 a3, T.i .i64 a4, T.sl a5, T.sl a6, T.i .i64 a7, T.i .i64 a8]) from ⟨q2, ⟨rfl, q3⟩, ⟨rfl, q4⟩, q5, q6, ⟨rfl, q7⟩, ⟨rfl, q8⟩, trivial⟩) (by simp only [tl, tls]; omega)
  have e3 := eq22 hlf (d := 9) (by omega) (T.st [T.sl a9, T.i .i64 a10, T.sl a11, T.b a12, T.i .i64 a13]) (show fitE true csfit_MMbScEibEiMiiiEbi (T.st [T.sl a9, T.i .i64 a10, T.sl a11, T.b a12, T.i .i64 a13]) from ⟨q9, ⟨rfl, q10⟩, q11, trivial, ⟨rfl, q13⟩, trivial⟩) (by simp only [tl, tls]; omega)
  simp only [e1, e2, e3, Option.bind_some, nth0, asB_b, Bool.not_true, cond_false, ne_f, beq_self_eq_true]
end
end Go.Proofs.Ytdclnhlpifahpaa.T
