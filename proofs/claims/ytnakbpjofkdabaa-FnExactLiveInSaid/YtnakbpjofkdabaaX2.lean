/- What functions of the law FnExactLiveIn come to, in trees; no condition. -/
import Derived.Test.YtnakbpjofkdabaaRows
import Derived.Test.YtnakbpjofkdabaaX1
set_option linter.unusedVariables false
set_option linter.constructorNameAsVariable false
set_option linter.unusedSimpArgs false
set_option linter.unnecessarySimpa false
namespace Go.Proofs.Ytnakbpjofkdabaa.T
open Go Go.Proofs.YtnakbpjofkdabaaV
set_option maxRecDepth 100000
noncomputable abbrev Cc (lf d : Nat) : Orc := orc X env lf 6 d
theorem Cc_le {lf d d' : Nat} (h : d ≤ d') : OLe (Cc lf d) (Cc lf d') := fun _ _ _ g => orc_le h g
section
variable {lf : Nat}
theorem sz84 (hlf : 33554432 ≤ lf) {d : Nat} (hd : 1 ≤ d) : SZ1 (Cc lf d) 84 (fitC (.sl false [.i .u8])) := by
 exact SZ1.le (Cc_le hd) (sz_flat1 (c := Cc lf 1) rfl fun l x => f84_eq (Cc lf 0) lf l x)
abbrev csfit_si : List CT := [.s, .i .i64]
theorem fit_si {t : T} (h : fitE true csfit_si t) : ∃ (a0 : ByteArray) (a1 : Int), t = .st [.s a0, .i .i64 a1] ∧ a0.size ≤ maxLen ∧ (Lit.int .i64 a1).wf = true := by
 obtain ⟨l, rfl, h⟩ := fitE_st h
 obtain ⟨x0, l0, rfl, h0, h⟩ := fitCs_cons h
 obtain ⟨x1, l1, rfl, h1, h⟩ := fitCs_cons h
 obtain rfl := fitCs_nil h
 obtain ⟨a0, rfl, q0⟩ := fitC_s h0
 obtain ⟨a1, rfl, q1⟩ := fitC_i h1
 exact ⟨a0, a1, rfl, q0, q1⟩
theorem sz93 (hlf : 33554432 ≤ lf) {d : Nat} (hd : 1 ≤ d) : SZ1 (Cc lf d) 93 (fitE true csfit_si) := by
 refine SZ1.le (Cc_le hd) ?_
 intro t ht x h0 h1
 obtain ⟨a0, a1, rfl, q0, q1⟩ := fit_si ht
 have hcall : Cc lf 1 93 [T.st [T.s a0, T.i .i64 a1], T.i .i64 x] = f93_t (Cc lf 0) lf a0 a1 x := f93_eq (Cc lf 0) lf a0 a1 x
 rw [hcall]
 unfold f93_t
 have w1 := sub_in (x := x) (n := a0.size) (by omega) (by omega) q0
 rw [w1]
 by_cases p1 : x - (a0.size : Int) < 0
 ·left
  rw [iLt_t p1, cond_true]
 rw [iLt_f p1, cond_false]
 obtain ⟨y1, e1⟩ : ∃ y, y = x - (a0.size : Int) := ⟨_, rfl⟩
 rw [← e1]
 refine .inr ⟨y1, rfl, by omega, ?_⟩
 simp only [tl, tls]
 omega
theorem sz85 (hlf : 33554432 ≤ lf) {d : Nat} (hd : 2 ≤ d) : SZ1 (Cc lf d) 85 (fitC (.sl true [.s, .i .i64])) := by
 exact SZ1.le (Cc_le hd) (sz_slice1 (c := Cc lf 1) (c' := Cc lf 2) hlf (sz93 hlf (Nat.le_refl _)) (F := fun l n x i => f85_0 (Cc lf 1) lf l n x i) (G := fun l i x => Cc lf 1 93 [T.st [T.s (asS (T.cell (l.getD i.toNat T.u) 0)), T.i .i64 (asI (T.cell (l.getD i.toNat T.u) 1))], T.i .i64 x])
  (fun l x => f85_eq (Cc lf 1) lf l x) (fun l n x i => rfl) (fun l j x h hf => by
   obtain ⟨a0, a1, e, _⟩ := fit_si hf
   simp only [getD_nat h, e]
   rfl))
abbrev csfit_ss : List CT := [.s, .s]
theorem fit_ss {t : T} (h : fitE true csfit_ss t) : ∃ (a0 : ByteArray) (a1 : ByteArray), t = .st [.s a0, .s a1] ∧ a0.size ≤ maxLen ∧ a1.size ≤ maxLen := by
 obtain ⟨l, rfl, h⟩ := fitE_st h
 obtain ⟨x0, l0, rfl, h0, h⟩ := fitCs_cons h
 obtain ⟨x1, l1, rfl, h1, h⟩ := fitCs_cons h
 obtain rfl := fitCs_nil h
 obtain ⟨a0, rfl, q0⟩ := fitC_s h0
 obtain ⟨a1, rfl, q1⟩ := fitC_s h1
 exact ⟨a0, a1, rfl, q0, q1⟩
theorem sz94 (hlf : 33554432 ≤ lf) {d : Nat} (hd : 1 ≤ d) : SZ1 (Cc lf d) 94 (fitE true csfit_ss) := by
 refine SZ1.le (Cc_le hd) ?_
 intro t ht x h0 h1
 obtain ⟨a0, a1, rfl, q0, q1⟩ := fit_ss ht
 have hcall : Cc lf 1 94 [T.st [T.s a0, T.s a1], T.i .i64 x] = f94_t (Cc lf 0) lf a0 a1 x := f94_eq (Cc lf 0) lf a0 a1 x
 rw [hcall]
 unfold f94_t
 have w1 := sub_in (x := x) (n := a0.size) (by omega) (by omega) q0
 rw [w1]
 by_cases p1 : x - (a0.size : Int) < 0
 ·left
  rw [iLt_t p1, cond_true]
 rw [iLt_f p1, cond_false]
 obtain ⟨y1, e1⟩ : ∃ y, y = x - (a0.size : Int) := ⟨_, rfl⟩
 rw [← e1]
 have w2 := sub_in (x := y1) (n := a1.size) (by omega) (by omega) q1
 rw [w2]
 by_cases p2 : y1 - (a1.size : Int) < 0
 ·left
  rw [iLt_t p2, cond_true]
 rw [iLt_f p2, cond_false]
 obtain ⟨y2, e2⟩ : ∃ y, y = y1 - (a1.size : Int) := ⟨_, rfl⟩
 rw [← e2]
 refine .inr ⟨y2, rfl, by omega, ?_⟩
 simp only [tl, tls]
 omega
theorem sz86 (hlf : 33554432 ≤ lf) {d : Nat} (hd : 2 ≤ d) : SZ1 (Cc lf d) 86 (fitC (.sl true [.s, .s])) := by
 exact SZ1.le (Cc_le hd) (sz_slice1 (c := Cc lf 1) (c' := Cc lf 2) hlf (sz94 hlf (Nat.le_refl _)) (F := fun l n x i => f86_0 (Cc lf 1) lf l n x i) (G := fun l i x => Cc lf 1 94 [T.st [T.s (asS (T.cell (l.getD i.toNat T.u) 0)), T.s (asS (T.cell (l.getD i.toNat T.u) 1))], T.i .i64 x])
  (fun l x => f86_eq (Cc lf 1) lf l x) (fun l n x i => rfl) (fun l j x h hf => by
   obtain ⟨a0, a1, e, _⟩ := fit_ss hf
   simp only [getD_nat h, e]
   rfl))
abbrev csfit_iiiScMsiEMssE : List CT := [.i .i64, .i .i64, .i .i64, .sl false [.i .u8], .sl true [.s, .i .i64], .sl true [.s, .s]]
theorem fit_iiiScMsiEMssE {t : T} (h : fitE true csfit_iiiScMsiEMssE t) : ∃ (a0 : Int) (a1 : Int) (a2 : Int) (a3 : List T) (a4 : List T) (a5 : List T), t = .st [.i .i64 a0, .i .i64 a1, .i .i64 a2, .sl a3, .sl a4, .sl a5] ∧ (Lit.int .i64 a0).wf = true ∧ (Lit.int .i64 a1).wf = true ∧ (Lit.int .i64 a2).wf = true ∧ fitC (.sl false [.i .u8]) (.sl a3) ∧ fitC (.sl true [.s, .i .i64]) (.sl a4) ∧ fitC (.sl true [.s, .s]) (.sl a5) := by
 obtain ⟨l, rfl, h⟩ := fitE_st h
 obtain ⟨x0, l0, rfl, h0, h⟩ := fitCs_cons h
 obtain ⟨x1, l1, rfl, h1, h⟩ := fitCs_cons h
 obtain ⟨x2, l2, rfl, h2, h⟩ := fitCs_cons h
 obtain ⟨x3, l3, rfl, h3, h⟩ := fitCs_cons h
 obtain ⟨x4, l4, rfl, h4, h⟩ := fitCs_cons h
 obtain ⟨x5, l5, rfl, h5, h⟩ := fitCs_cons h
 obtain rfl := fitCs_nil h
 obtain ⟨a0, rfl, q0⟩ := fitC_i h0
 obtain ⟨a1, rfl, q1⟩ := fitC_i h1
 obtain ⟨a2, rfl, q2⟩ := fitC_i h2
 obtain ⟨a3, rfl, q3⟩ := fitC_sl h3
 obtain ⟨a4, rfl, q4⟩ := fitC_sl h4
 obtain ⟨a5, rfl, q5⟩ := fitC_sl h5
 exact ⟨a0, a1, a2, a3, a4, a5, rfl, q0, q1, q2, q3, q4, q5⟩
theorem sz81 (hlf : 33554432 ≤ lf) {d : Nat} (hd : 3 ≤ d) : SZ1 (Cc lf d) 81 (fitE true csfit_iiiScMsiEMssE) := by
 refine SZ1.le (Cc_le hd) ?_
 intro t ht x h0 h1
 obtain ⟨a0, a1, a2, a3, a4, a5, rfl, q0, q1, q2, q3, q4, q5⟩ := fit_iiiScMsiEMssE ht
 have hcall : Cc lf 3 81 [T.st [T.i .i64 a0, T.i .i64 a1, T.i .i64 a2, T.sl a3, T.sl a4, T.sl a5], T.i .i64 x] = f81_t (Cc lf 2) lf a0 a1 a2 a3 a4 a5 x := f81_eq (Cc lf 2) lf a0 a1 a2 a3 a4 a5 x
 rw [hcall]
 unfold f81_t
 have s1 := sz84 hlf (d := 2) (by omega) (T.sl a3) q3 x (by omega) (by omega)
 rcases s1 with e | ⟨y1, e, p1, z1⟩
 ·left
  rw [e]
  rfl
 rw [e]
 simp only [Option.bind_some, nth0, asI_i]
 rw [iLt_f (show ¬ (y1 < 0) by omega), cond_false]
 simp only [tl, tls] at z1
 have s2 := sz85 hlf (d := 2) (by omega) (T.sl a4) q4 y1 (by omega) (by omega)
 rcases s2 with e | ⟨y2, e, p2, z2⟩
 ·left
  rw [e]
  rfl
 rw [e]
 simp only [Option.bind_some, nth0, asI_i]
 rw [iLt_f (show ¬ (y2 < 0) by omega), cond_false]
 simp only [tl, tls] at z2
 have s3 := sz86 hlf (d := 2) (by omega) (T.sl a5) q5 y2 (by omega) (by omega)
 rcases s3 with e | ⟨y3, e, p3, z3⟩
 ·left
  rw [e]
  rfl
 rw [e]
 simp only [Option.bind_some, nth0, asI_i]
 rw [iLt_f (show ¬ (y3 < 0) by omega), cond_false]
 simp only [tl, tls] at z3
 refine .inr ⟨y3, rfl, by omega, ?_⟩
 simp only [tl, tls]
 omega
theorem sz77 (hlf : 33554432 ≤ lf) {d : Nat} (hd : 4 ≤ d) : SZ1 (Cc lf d) 77 (fitC (.sl true [.i .i64, .i .i64, .i .i64, .sl false [.i .u8], .sl true [.s, .i .i64], .sl true [.s, .s]])) := by
 exact SZ1.le (Cc_le hd) (sz_slice1 (c := Cc lf 3) (c' := Cc lf 4) hlf (sz81 hlf (Nat.le_refl _)) (F := fun l n x i => f77_0 (Cc lf 3) lf l n x i) (G := fun l i x => Cc lf 3 81 [T.st [T.i .i64 (asI (T.cell (l.getD i.toNat T.u) 0)), T.i .i64 (asI (T.cell (l.getD i.toNat T.u) 1)), T.i .i64 (asI (T.cell (l.getD i.toNat T.u) 2)), T.sl (asL (T.cell (l.getD i.toNat T.u) 3)), T.sl (asL (T.cell (l.getD i.toNat T.u) 4)), T.sl (asL (T.cell (l.getD i.toNat T.u) 5))], T.i .i64 x])
  (fun l x => f77_eq (Cc lf 3) lf l x) (fun l n x i => rfl) (fun l j x h hf => by
   obtain ⟨a0, a1, a2, a3, a4, a5, e, _⟩ := fit_iiiScMsiEMssE hf
   simp only [getD_nat h, e]
   rfl))
abbrev csfit_MiiiScMsiEMssEEi : List CT := [.sl true [.i .i64, .i .i64, .i .i64, .sl false [.i .u8], .sl true [.s, .i .i64], .sl true [.s, .s]], .i .i64]
theorem fit_MiiiScMsiEMssEEi {t : T} (h : fitE true csfit_MiiiScMsiEMssEEi t) : ∃ (a0 : List T) (a1 : Int), t = .st [.sl a0, .i .i64 a1] ∧ fitC (.sl true [.i .i64, .i .i64, .i .i64, .sl false [.i .u8], .sl true [.s, .i .i64], .sl true [.s, .s]]) (.sl a0) ∧ (Lit.int .i64 a1).wf = true := by
 obtain ⟨l, rfl, h⟩ := fitE_st h
 obtain ⟨x0, l0, rfl, h0, h⟩ := fitCs_cons h
 obtain ⟨x1, l1, rfl, h1, h⟩ := fitCs_cons h
 obtain rfl := fitCs_nil h
 obtain ⟨a0, rfl, q0⟩ := fitC_sl h0
 obtain ⟨a1, rfl, q1⟩ := fitC_i h1
 exact ⟨a0, a1, rfl, q0, q1⟩
theorem sz65 (hlf : 33554432 ≤ lf) {d : Nat} (hd : 5 ≤ d) : SZ1 (Cc lf d) 65 (fitE true csfit_MiiiScMsiEMssEEi) := by
 refine SZ1.le (Cc_le hd) ?_
 intro t ht x h0 h1
 obtain ⟨a0, a1, rfl, q0, q1⟩ := fit_MiiiScMsiEMssEEi ht
 have hcall : Cc lf 5 65 [T.st [T.sl a0, T.i .i64 a1], T.i .i64 x] = f65_t (Cc lf 4) lf a0 a1 x := f65_eq (Cc lf 4) lf a0 a1 x
 rw [hcall]
 unfold f65_t
 have s1 := sz77 hlf (d := 4) (by omega) (T.sl a0) q0 x (by omega) (by omega)
 rcases s1 with e | ⟨y1, e, p1, z1⟩
 ·left
  rw [e]
  rfl
 rw [e]
 simp only [Option.bind_some, nth0, asI_i]
 rw [iLt_f (show ¬ (y1 < 0) by omega), cond_false]
 simp only [tl, tls] at z1
 refine .inr ⟨y1, rfl, by omega, ?_⟩
 simp only [tl, tls]
 omega
abbrev csfit_isbiMiiiScMsiEMssEEi : List CT := [.i .i64, .s, .b, .i .i64, .sl true [.i .i64, .i .i64, .i .i64, .sl false [.i .u8], .sl true [.s, .i .i64], .sl true [.s, .s]], .i .i64]
theorem fit_isbiMiiiScMsiEMssEEi {t : T} (h : fitE true csfit_isbiMiiiScMsiEMssEEi t) : ∃ (a0 : Int) (a1 : ByteArray) (a2 : Bool) (a3 : Int) (a4 : List T) (a5 : Int), t = .st [.i .i64 a0, .s a1, .b a2, .i .i64 a3, .sl a4, .i .i64 a5] ∧ (Lit.int .i64 a0).wf = true ∧ a1.size ≤ maxLen ∧ (Lit.int .i64 a3).wf = true ∧ fitC (.sl true [.i .i64, .i .i64, .i .i64, .sl false [.i .u8], .sl true [.s, .i .i64], .sl true [.s, .s]]) (.sl a4) ∧ (Lit.int .i64 a5).wf = true := by
 obtain ⟨l, rfl, h⟩ := fitE_st h
 obtain ⟨x0, l0, rfl, h0, h⟩ := fitCs_cons h
 obtain ⟨x1, l1, rfl, h1, h⟩ := fitCs_cons h
 obtain ⟨x2, l2, rfl, h2, h⟩ := fitCs_cons h
 obtain ⟨x3, l3, rfl, h3, h⟩ := fitCs_cons h
 obtain ⟨x4, l4, rfl, h4, h⟩ := fitCs_cons h
 obtain ⟨x5, l5, rfl, h5, h⟩ := fitCs_cons h
 obtain rfl := fitCs_nil h
 obtain ⟨a0, rfl, q0⟩ := fitC_i h0
 obtain ⟨a1, rfl, q1⟩ := fitC_s h1
 obtain ⟨a2, rfl⟩ := fitC_b h2
 obtain ⟨a3, rfl, q3⟩ := fitC_i h3
 obtain ⟨a4, rfl, q4⟩ := fitC_sl h4
 obtain ⟨a5, rfl, q5⟩ := fitC_i h5
 exact ⟨a0, a1, a2, a3, a4, a5, rfl, q0, q1, q3, q4, q5⟩
theorem sz42 (hlf : 33554432 ≤ lf) {d : Nat} (hd : 6 ≤ d) : SZ1 (Cc lf d) 42 (fitE true csfit_isbiMiiiScMsiEMssEEi) := by
 refine SZ1.le (Cc_le hd) ?_
 intro t ht x h0 h1
 obtain ⟨a0, a1, a2, a3, a4, a5, rfl, q0, q1, q3, q4, q5⟩ := fit_isbiMiiiScMsiEMssEEi ht
 have hcall : Cc lf 6 42 [T.st [T.i .i64 a0, T.s a1, T.b a2, T.i .i64 a3, T.sl a4, T.i .i64 a5], T.i .i64 x] = f42_t (Cc lf 5) lf a0 a1 a2 a3 a4 a5 x := f42_eq (Cc lf 5) lf a0 a1 a2 a3 a4 a5 x
 rw [hcall]
 unfold f42_t
 have w1 := sub_in (x := x) (n := a1.size) (by omega) (by omega) q1
 rw [w1]
 by_cases p1 : x - (a1.size : Int) < 0
 ·left
  rw [iLt_t p1, cond_true]
 rw [iLt_f p1, cond_false]
 obtain ⟨y1, e1⟩ : ∃ y, y = x - (a1.size : Int) := ⟨_, rfl⟩
 rw [← e1]
 have s2 := sz65 hlf (d := 5) (by omega) (T.st [T.sl a4, T.i .i64 a5]) (show fitE true csfit_MiiiScMsiEMssEEi (T.st [T.sl a4, T.i .i64 a5]) from ⟨q4, ⟨rfl, q5⟩, trivial⟩) y1 (by omega) (by omega)
 rcases s2 with e | ⟨y2, e, p2, z2⟩
 ·left
  rw [e]
  rfl
 rw [e]
 simp only [Option.bind_some, nth0, asI_i]
 rw [iLt_f (show ¬ (y2 < 0) by omega), cond_false]
 simp only [tl, tls] at z2
 refine .inr ⟨y2, rfl, by omega, ?_⟩
 simp only [tl, tls]
 omega
theorem sz27 (hlf : 33554432 ≤ lf) {d : Nat} (hd : 7 ≤ d) : SZ1 (Cc lf d) 27 (fitC (.sl true [.i .i64, .s, .b, .i .i64, .sl true [.i .i64, .i .i64, .i .i64, .sl false [.i .u8], .sl true [.s, .i .i64], .sl true [.s, .s]], .i .i64])) := by
 exact SZ1.le (Cc_le hd) (sz_slice1 (c := Cc lf 6) (c' := Cc lf 7) hlf (sz42 hlf (Nat.le_refl _)) (F := fun l n x i => f27_0 (Cc lf 6) lf l n x i) (G := fun l i x => Cc lf 6 42 [T.st [T.i .i64 (asI (T.cell (l.getD i.toNat T.u) 0)), T.s (asS (T.cell (l.getD i.toNat T.u) 1)), T.b (asB (T.cell (l.getD i.toNat T.u) 2)), T.i .i64 (asI (T.cell (l.getD i.toNat T.u) 3)), T.sl (asL (T.cell (l.getD i.toNat T.u) 4)), T.i .i64 (asI (T.cell (l.getD i.toNat T.u) 5))], T.i .i64 x])
  (fun l x => f27_eq (Cc lf 6) lf l x) (fun l n x i => rfl) (fun l j x h hf => by
   obtain ⟨a0, a1, a2, a3, a4, a5, e, _⟩ := fit_isbiMiiiScMsiEMssEEi hf
   simp only [getD_nat h, e]
   rfl))
abbrev csfit_MisbiMiiiScMsiEMssEEiEi : List CT := [.sl true [.i .i64, .s, .b, .i .i64, .sl true [.i .i64, .i .i64, .i .i64, .sl false [.i .u8], .sl true [.s, .i .i64], .sl true [.s, .s]], .i .i64], .i .i64]
theorem fit_MisbiMiiiScMsiEMssEEiEi {t : T} (h : fitE true csfit_MisbiMiiiScMsiEMssEEiEi t) : ∃ (a0 : List T) (a1 : Int), t = .st [.sl a0, .i .i64 a1] ∧ fitC (.sl true [.i .i64, .s, .b, .i .i64, .sl true [.i .i64, .i .i64, .i .i64, .sl false [.i .u8], .sl true [.s, .i .i64], .sl true [.s, .s]], .i .i64]) (.sl a0) ∧ (Lit.int .i64 a1).wf = true := by
 obtain ⟨l, rfl, h⟩ := fitE_st h
 obtain ⟨x0, l0, rfl, h0, h⟩ := fitCs_cons h
 obtain ⟨x1, l1, rfl, h1, h⟩ := fitCs_cons h
 obtain rfl := fitCs_nil h
 obtain ⟨a0, rfl, q0⟩ := fitC_sl h0
 obtain ⟨a1, rfl, q1⟩ := fitC_i h1
 exact ⟨a0, a1, rfl, q0, q1⟩
theorem sz12 (hlf : 33554432 ≤ lf) {d : Nat} (hd : 8 ≤ d) : SZ1 (Cc lf d) 12 (fitE true csfit_MisbiMiiiScMsiEMssEEiEi) := by
 refine SZ1.le (Cc_le hd) ?_
 intro t ht x h0 h1
 obtain ⟨a0, a1, rfl, q0, q1⟩ := fit_MisbiMiiiScMsiEMssEEiEi ht
 have hcall : Cc lf 8 12 [T.st [T.sl a0, T.i .i64 a1], T.i .i64 x] = f12_t (Cc lf 7) lf a0 a1 x := f12_eq (Cc lf 7) lf a0 a1 x
 rw [hcall]
 unfold f12_t
 have s1 := sz27 hlf (d := 7) (by omega) (T.sl a0) q0 x (by omega) (by omega)
 rcases s1 with e | ⟨y1, e, p1, z1⟩
 ·left
  rw [e]
  rfl
 rw [e]
 simp only [Option.bind_some, nth0, asI_i]
 rw [iLt_f (show ¬ (y1 < 0) by omega), cond_false]
 simp only [tl, tls] at z1
 refine .inr ⟨y1, rfl, by omega, ?_⟩
 simp only [tl, tls]
 omega
abbrev csfit_isbii : List CT := [.i .i64, .s, .b, .i .i64, .i .i64]
theorem fit_isbii {t : T} (h : fitE true csfit_isbii t) : ∃ (a0 : Int) (a1 : ByteArray) (a2 : Bool) (a3 : Int) (a4 : Int), t = .st [.i .i64 a0, .s a1, .b a2, .i .i64 a3, .i .i64 a4] ∧ (Lit.int .i64 a0).wf = true ∧ a1.size ≤ maxLen ∧ (Lit.int .i64 a3).wf = true ∧ (Lit.int .i64 a4).wf = true := by
 obtain ⟨l, rfl, h⟩ := fitE_st h
 obtain ⟨x0, l0, rfl, h0, h⟩ := fitCs_cons h
 obtain ⟨x1, l1, rfl, h1, h⟩ := fitCs_cons h
 obtain ⟨x2, l2, rfl, h2, h⟩ := fitCs_cons h
 obtain ⟨x3, l3, rfl, h3, h⟩ := fitCs_cons h
 obtain ⟨x4, l4, rfl, h4, h⟩ := fitCs_cons h
 obtain rfl := fitCs_nil h
 obtain ⟨a0, rfl, q0⟩ := fitC_i h0
 obtain ⟨a1, rfl, q1⟩ := fitC_s h1
 obtain ⟨a2, rfl⟩ := fitC_b h2
 obtain ⟨a3, rfl, q3⟩ := fitC_i h3
 obtain ⟨a4, rfl, q4⟩ := fitC_i h4
 exact ⟨a0, a1, a2, a3, a4, rfl, q0, q1, q3, q4⟩
theorem sz43 (hlf : 33554432 ≤ lf) {d : Nat} (hd : 1 ≤ d) : SZ1 (Cc lf d) 43 (fitE true csfit_isbii) := by
 refine SZ1.le (Cc_le hd) ?_
 intro t ht x h0 h1
 obtain ⟨a0, a1, a2, a3, a4, rfl, q0, q1, q3, q4⟩ := fit_isbii ht
 have hcall : Cc lf 1 43 [T.st [T.i .i64 a0, T.s a1, T.b a2, T.i .i64 a3, T.i .i64 a4], T.i .i64 x] = f43_t (Cc lf 0) lf a0 a1 a2 a3 a4 x := f43_eq (Cc lf 0) lf a0 a1 a2 a3 a4 x
 rw [hcall]
 unfold f43_t
 have w1 := sub_in (x := x) (n := a1.size) (by omega) (by omega) q1
 rw [w1]
 by_cases p1 : x - (a1.size : Int) < 0
 ·left
  rw [iLt_t p1, cond_true]
 rw [iLt_f p1, cond_false]
 obtain ⟨y1, e1⟩ : ∃ y, y = x - (a1.size : Int) := ⟨_, rfl⟩
 rw [← e1]
 refine .inr ⟨y1, rfl, by omega, ?_⟩
 simp only [tl, tls]
 omega
theorem sz28 (hlf : 33554432 ≤ lf) {d : Nat} (hd : 2 ≤ d) : SZ1 (Cc lf d) 28 (fitC (.sl true [.i .i64, .s, .b, .i .i64, .i .i64])) := by
 exact SZ1.le (Cc_le hd) (sz_slice1 (c := Cc lf 1) (c' := Cc lf 2) hlf (sz43 hlf (Nat.le_refl _)) (F := fun l n x i => f28_0 (Cc lf 1) lf l n x i) (G := fun l i x => Cc lf 1 43 [T.st [T.i .i64 (asI (T.cell (l.getD i.toNat T.u) 0)), T.s (asS (T.cell (l.getD i.toNat T.u) 1)), T.b (asB (T.cell (l.getD i.toNat T.u) 2)), T.i .i64 (asI (T.cell (l.getD i.toNat T.u) 3)), T.i .i64 (asI (T.cell (l.getD i.toNat T.u) 4))], T.i .i64 x])
  (fun l x => f28_eq (Cc lf 1) lf l x) (fun l n x i => rfl) (fun l j x h hf => by
   obtain ⟨a0, a1, a2, a3, a4, e, _⟩ := fit_isbii hf
   simp only [getD_nat h, e]
   rfl))
abbrev csfit_iMisbiiE : List CT := [.i .i64, .sl true [.i .i64, .s, .b, .i .i64, .i .i64]]
theorem fit_iMisbiiE {t : T} (h : fitE true csfit_iMisbiiE t) : ∃ (a0 : Int) (a1 : List T), t = .st [.i .i64 a0, .sl a1] ∧ (Lit.int .i64 a0).wf = true ∧ fitC (.sl true [.i .i64, .s, .b, .i .i64, .i .i64]) (.sl a1) := by
 obtain ⟨l, rfl, h⟩ := fitE_st h
 obtain ⟨x0, l0, rfl, h0, h⟩ := fitCs_cons h
 obtain ⟨x1, l1, rfl, h1, h⟩ := fitCs_cons h
 obtain rfl := fitCs_nil h
 obtain ⟨a0, rfl, q0⟩ := fitC_i h0
 obtain ⟨a1, rfl, q1⟩ := fitC_sl h1
 exact ⟨a0, a1, rfl, q0, q1⟩
theorem sz13 (hlf : 33554432 ≤ lf) {d : Nat} (hd : 3 ≤ d) : SZ1 (Cc lf d) 13 (fitE true csfit_iMisbiiE) := by
 refine SZ1.le (Cc_le hd) ?_
 intro t ht x h0 h1
 obtain ⟨a0, a1, rfl, q0, q1⟩ := fit_iMisbiiE ht
 have hcall : Cc lf 3 13 [T.st [T.i .i64 a0, T.sl a1], T.i .i64 x] = f13_t (Cc lf 2) lf a0 a1 x := f13_eq (Cc lf 2) lf a0 a1 x
 rw [hcall]
 unfold f13_t
 have s1 := sz28 hlf (d := 2) (by omega) (T.sl a1) q1 x (by omega) (by omega)
 rcases s1 with e | ⟨y1, e, p1, z1⟩
 ·left
  rw [e]
  rfl
 rw [e]
 simp only [Option.bind_some, nth0, asI_i]
 rw [iLt_f (show ¬ (y1 < 0) by omega), cond_false]
 simp only [tl, tls] at z1
 refine .inr ⟨y1, rfl, by omega, ?_⟩
 simp only [tl, tls]
 omega
theorem sz44 (hlf : 33554432 ≤ lf) {d : Nat} (hd : 1 ≤ d) : SZ1 (Cc lf d) 44 (fitC (.sl true [.i .i64, .i .i64])) := by
 exact SZ1.le (Cc_le hd) (sz_flat1 (c := Cc lf 1) rfl fun l x => f44_eq (Cc lf 0) lf l x)
abbrev csfit_iMiiE : List CT := [.i .i64, .sl true [.i .i64, .i .i64]]
theorem fit_iMiiE {t : T} (h : fitE true csfit_iMiiE t) : ∃ (a0 : Int) (a1 : List T), t = .st [.i .i64 a0, .sl a1] ∧ (Lit.int .i64 a0).wf = true ∧ fitC (.sl true [.i .i64, .i .i64]) (.sl a1) := by
 obtain ⟨l, rfl, h⟩ := fitE_st h
 obtain ⟨x0, l0, rfl, h0, h⟩ := fitCs_cons h
 obtain ⟨x1, l1, rfl, h1, h⟩ := fitCs_cons h
 obtain rfl := fitCs_nil h
 obtain ⟨a0, rfl, q0⟩ := fitC_i h0
 obtain ⟨a1, rfl, q1⟩ := fitC_sl h1
 exact ⟨a0, a1, rfl, q0, q1⟩
theorem sz29 (hlf : 33554432 ≤ lf) {d : Nat} (hd : 2 ≤ d) : SZ1 (Cc lf d) 29 (fitE true csfit_iMiiE) := by
 refine SZ1.le (Cc_le hd) ?_
 intro t ht x h0 h1
 obtain ⟨a0, a1, rfl, q0, q1⟩ := fit_iMiiE ht
 have hcall : Cc lf 2 29 [T.st [T.i .i64 a0, T.sl a1], T.i .i64 x] = f29_t (Cc lf 1) lf a0 a1 x := f29_eq (Cc lf 1) lf a0 a1 x
 rw [hcall]
 unfold f29_t
 have s1 := sz44 hlf (d := 1) (by omega) (T.sl a1) q1 x (by omega) (by omega)
 rcases s1 with e | ⟨y1, e, p1, z1⟩
 ·left
  rw [e]
  rfl
 rw [e]
 simp only [Option.bind_some, nth0, asI_i]
 rw [iLt_f (show ¬ (y1 < 0) by omega), cond_false]
 simp only [tl, tls] at z1
 refine .inr ⟨y1, rfl, by omega, ?_⟩
 simp only [tl, tls]
 omega
theorem sz14 (hlf : 33554432 ≤ lf) {d : Nat} (hd : 3 ≤ d) : SZ1 (Cc lf d) 14 (fitC (.sl true [.i .i64, .sl true [.i .i64, .i .i64]])) := by
 exact SZ1.le (Cc_le hd) (sz_slice1 (c := Cc lf 2) (c' := Cc lf 3) hlf (sz29 hlf (Nat.le_refl _)) (F := fun l n x i => f14_0 (Cc lf 2) lf l n x i) (G := fun l i x => Cc lf 2 29 [T.st [T.i .i64 (asI (T.cell (l.getD i.toNat T.u) 0)), T.sl (asL (T.cell (l.getD i.toNat T.u) 1))], T.i .i64 x])
  (fun l x => f14_eq (Cc lf 2) lf l x) (fun l n x i => rfl) (fun l j x h hf => by
   obtain ⟨a0, a1, e, _⟩ := fit_iMiiE hf
   simp only [getD_nat h, e]
   rfl))
abbrev csfit_MisbiMiiiScMsiEMssEEiEiiMisbiiEMiMiiEEii : List CT := [.sl true [.i .i64, .s, .b, .i .i64, .sl true [.i .i64, .i .i64, .i .i64, .sl false [.i .u8], .sl true [.s, .i .i64], .sl true [.s, .s]], .i .i64], .i .i64, .i .i64, .sl true [.i .i64, .s, .b, .i .i64, .i .i64], .sl true [.i .i64, .sl true [.i .i64, .i .i64]], .i .i64, .i .i64]
theorem fit_MisbiMiiiScMsiEMssEEiEiiMisbiiEMiMiiEEii {t : T} (h : fitE true csfit_MisbiMiiiScMsiEMssEEiEiiMisbiiEMiMiiEEii t) : ∃ (a0 : List T) (a1 : Int) (a2 : Int) (a3 : List T) (a4 : List T) (a5 : Int) (a6 : Int), t = .st [.sl a0, .i .i64 a1, .i .i64 a2, .sl a3, .sl a4, .i .i64 a5, .i .i64 a6] ∧ fitC (.sl true [.i .i64, .s, .b, .i .i64, .sl true [.i .i64, .i .i64, .i .i64, .sl false [.i .u8], .sl true [.s, .i .i64], .sl true [.s, .s]], .i .i64]) (.sl a0) ∧ (Lit.int .i64 a1).wf = true ∧ (Lit.int .i64 a2).wf = true ∧ fitC (.sl true [.i .i64, .s, .b, .i .i64, .i .i64]) (.sl a3) ∧ fitC (.sl true [.i .i64, .sl true [.i .i64, .i .i64]]) (.sl a4) ∧ (Lit.int .i64 a5).wf = true ∧ (Lit.int .i64 a6).wf = true := by
 obtain ⟨l, rfl, h⟩ := fitE_st h
 obtain ⟨x0, l0, rfl, h0, h⟩ := fitCs_cons h
 obtain ⟨x1, l1, rfl, h1, h⟩ := fitCs_cons h
 obtain ⟨x2, l2, rfl, h2, h⟩ := fitCs_cons h
 obtain ⟨x3, l3, rfl, h3, h⟩ := fitCs_cons h
 obtain ⟨x4, l4, rfl, h4, h⟩ := fitCs_cons h
 obtain ⟨x5, l5, rfl, h5, h⟩ := fitCs_cons h
 obtain ⟨x6, l6, rfl, h6, h⟩ := fitCs_cons h
 obtain rfl := fitCs_nil h
 obtain ⟨a0, rfl, q0⟩ := fitC_sl h0
 obtain ⟨a1, rfl, q1⟩ := fitC_i h1
 obtain ⟨a2, rfl, q2⟩ := fitC_i h2
 obtain ⟨a3, rfl, q3⟩ := fitC_sl h3
 obtain ⟨a4, rfl, q4⟩ := fitC_sl h4
 obtain ⟨a5, rfl, q5⟩ := fitC_i h5
 obtain ⟨a6, rfl, q6⟩ := fitC_i h6
 exact ⟨a0, a1, a2, a3, a4, a5, a6, rfl, q0, q1, q2, q3, q4, q5, q6⟩
theorem sz5 (hlf : 33554432 ≤ lf) {d : Nat} (hd : 9 ≤ d) : SZ1 (Cc lf d) 5 (fitE true csfit_MisbiMiiiScMsiEMssEEiEiiMisbiiEMiMiiEEii) := by
 refine SZ1.le (Cc_le hd) ?_
 intro t ht x h0 h1
 obtain ⟨a0, a1, a2, a3, a4, a5, a6, rfl, q0, q1, q2, q3, q4, q5, q6⟩ := fit_MisbiMiiiScMsiEMssEEiEiiMisbiiEMiMiiEEii ht
 have hcall : Cc lf 9 5 [T.st [T.sl a0, T.i .i64 a1, T.i .i64 a2, T.sl a3, T.sl a4, T.i .i64 a5, T.i .i64 a6], T.i .i64 x] = f5_t (Cc lf 8) lf a0 a1 a2 a3 a4 a5 a6 x := f5_eq (Cc lf 8) lf a0 a1 a2 a3 a4 a5 a6 x
 rw [hcall]
 unfold f5_t
 have s1 := sz12 hlf (d := 8) (by omega) (T.st [T.sl a0, T.i .i64 a1]) (show fitE true csfit_MisbiMiiiScMsiEMssEEiEi (T.st [T.sl a0, T.i .i64 a1]) from ⟨q0, ⟨rfl, q1⟩, trivial⟩) x (by omega) (by omega)
 rcases s1 with e | ⟨y1, e, p1, z1⟩
 ·left
  rw [e]
  rfl
 rw [e]
 simp only [Option.bind_some, nth0, asI_i]
 rw [iLt_f (show ¬ (y1 < 0) by omega), cond_false]
 simp only [tl, tls] at z1
 have s2 := sz13 hlf (d := 8) (by omega) (T.st [T.i .i64 a2, T.sl a3]) (show fitE true csfit_iMisbiiE (T.st [T.i .i64 a2, T.sl a3]) from ⟨⟨rfl, q2⟩, q3, trivial⟩) y1 (by omega) (by omega)
 rcases s2 with e | ⟨y2, e, p2, z2⟩
 ·left
  rw [e]
  rfl
 rw [e]
 simp only [Option.bind_some, nth0, asI_i]
 rw [iLt_f (show ¬ (y2 < 0) by omega), cond_false]
 simp only [tl, tls] at z2
 have s3 := sz14 hlf (d := 8) (by omega) (T.sl a4) q4 y2 (by omega) (by omega)
 rcases s3 with e | ⟨y3, e, p3, z3⟩
 ·left
  rw [e]
  rfl
 rw [e]
 simp only [Option.bind_some, nth0, asI_i]
 rw [iLt_f (show ¬ (y3 < 0) by omega), cond_false]
 simp only [tl, tls] at z3
 refine .inr ⟨y3, rfl, by omega, ?_⟩
 simp only [tl, tls]
 omega
theorem to87 (hlf : 33554432 ≤ lf) {d : Nat} (hd : 1 ≤ d) : TO1 (Cc lf d) 87 (fitC (.sl false [.i .u8])) := by
 exact TO1.le (Cc_le hd) (to_slice1 (c' := Cc lf 1) hlf (m := false) (F := fun l n i out => f87_0 (Cc lf 0) lf l n i out) (G := fun _ _ => some []) (V := fun l i _ => T.i .u8 (asI (l.getD i.toNat T.u))) (fun l => f87_eq (Cc lf 0) lf l) (fun l n i out => rfl) (fun l j h hf _ => by
  refine ⟨[], rfl, ?_⟩
  have hf : fitC (.i .u8) l[j] := hf
  obtain ⟨v, e, _⟩ := fitC_i hf
  simp only [getD_nat h, e]
  rfl))
theorem to95 (hlf : 33554432 ≤ lf) {d : Nat} (hd : 1 ≤ d) : TO1 (Cc lf d) 95 (fitE true csfit_si) := by
 refine TO1.le (Cc_le hd) ?_
 intro t ht hs
 obtain ⟨a0, a1, rfl, q0, q1⟩ := fit_si ht
 simp only [tl, tls] at hs
 have hcall : Cc lf 1 95 [T.st [T.s a0, T.i .i64 a1]] = f95_t (Cc lf 0) lf a0 a1 := f95_eq (Cc lf 0) lf a0 a1
 rw [hcall]
 unfold f95_t
 rfl
theorem to88 (hlf : 33554432 ≤ lf) {d : Nat} (hd : 2 ≤ d) : TO1 (Cc lf d) 88 (fitC (.sl true [.s, .i .i64])) := by
 exact TO1.le (Cc_le hd) (to_slice1 (c' := Cc lf 2) hlf (F := fun l n i out => f88_0 (Cc lf 1) lf l n i out) (G := fun l i => Cc lf 1 95 [T.st [T.s (asS (T.cell (l.getD i.toNat T.u) 0)), T.i .i64 (asI (T.cell (l.getD i.toNat T.u) 1))]]) (V := fun _ _ r => T.st [T.s (asS (T.cell (nth r 0) 0)), T.i .i64 (asI (T.cell (nth r 0) 1))]) (fun l => f88_eq (Cc lf 1) lf l) (fun l n i out => rfl) (fun l j h hf hs => by
  have hto := to95 hlf (d := 1) (by omega) _ hf hs
  obtain ⟨a0, a1, e, _⟩ := fit_si hf
  rw [e] at hto
  simp only [getD_nat h, e]
  exact ⟨_, hto, rfl⟩))
theorem to96 (hlf : 33554432 ≤ lf) {d : Nat} (hd : 1 ≤ d) : TO1 (Cc lf d) 96 (fitE true csfit_ss) := by
 refine TO1.le (Cc_le hd) ?_
 intro t ht hs
 obtain ⟨a0, a1, rfl, q0, q1⟩ := fit_ss ht
 simp only [tl, tls] at hs
 have hcall : Cc lf 1 96 [T.st [T.s a0, T.s a1]] = f96_t (Cc lf 0) lf a0 a1 := f96_eq (Cc lf 0) lf a0 a1
 rw [hcall]
 unfold f96_t
 rfl
theorem to89 (hlf : 33554432 ≤ lf) {d : Nat} (hd : 2 ≤ d) : TO1 (Cc lf d) 89 (fitC (.sl true [.s, .s])) := by
 exact TO1.le (Cc_le hd) (to_slice1 (c' := Cc lf 2) hlf (F := fun l n i out => f89_0 (Cc lf 1) lf l n i out) (G := fun l i => Cc lf 1 96 [T.st [T.s (asS (T.cell (l.getD i.toNat T.u) 0)), T.s (asS (T.cell (l.getD i.toNat T.u) 1))]]) (V := fun _ _ r => T.st [T.s (asS (T.cell (nth r 0) 0)), T.s (asS (T.cell (nth r 0) 1))]) (fun l => f89_eq (Cc lf 1) lf l) (fun l n i out => rfl) (fun l j h hf hs => by
  have hto := to96 hlf (d := 1) (by omega) _ hf hs
  obtain ⟨a0, a1, e, _⟩ := fit_ss hf
  rw [e] at hto
  simp only [getD_nat h, e]
  exact ⟨_, hto, rfl⟩))
theorem to82 (hlf : 33554432 ≤ lf) {d : Nat} (hd : 3 ≤ d) : TO1 (Cc lf d) 82 (fitE true csfit_iiiScMsiEMssE) := by
 refine TO1.le (Cc_le hd) ?_
 intro t ht hs
 obtain ⟨a0, a1, a2, a3, a4, a5, rfl, q0, q1, q2, q3, q4, q5⟩ := fit_iiiScMsiEMssE ht
 simp only [tl, tls] at hs
 have hcall : Cc lf 3 82 [T.st [T.i .i64 a0, T.i .i64 a1, T.i .i64 a2, T.sl a3, T.sl a4, T.sl a5]] = f82_t (Cc lf 2) lf a0 a1 a2 a3 a4 a5 := f82_eq (Cc lf 2) lf a0 a1 a2 a3 a4 a5
 rw [hcall]
 unfold f82_t
 have e1 := to87 hlf (d := 2) (by omega) (T.sl a3) q3 (by simp only [tl, tls]; omega)
 have e2 := to88 hlf (d := 2) (by omega) (T.sl a4) q4 (by simp only [tl, tls]; omega)
 have e3 := to89 hlf (d := 2) (by omega) (T.sl a5) q5 (by simp only [tl, tls]; omega)
 simp only [e1, e2, e3, Option.bind_some, nth0, asL_l, asI_i, asB_b, asS_s, cell0, cellS]
theorem to78 (hlf : 33554432 ≤ lf) {d : Nat} (hd : 4 ≤ d) : TO1 (Cc lf d) 78 (fitC (.sl true [.i .i64, .i .i64, .i .i64, .sl false [.i .u8], .sl true [.s, .i .i64], .sl true [.s, .s]])) := by
 exact TO1.le (Cc_le hd) (to_slice1 (c' := Cc lf 4) hlf (F := fun l n i out => f78_0 (Cc lf 3) lf l n i out) (G := fun l i => Cc lf 3 82 [T.st [T.i .i64 (asI (T.cell (l.getD i.toNat T.u) 0)), T.i .i64 (asI (T.cell (l.getD i.toNat T.u) 1)), T.i .i64 (asI (T.cell (l.getD i.toNat T.u) 2)), T.sl (asL (T.cell (l.getD i.toNat T.u) 3)), T.sl (asL (T.cell (l.getD i.toNat T.u) 4)), T.sl (asL (T.cell (l.getD i.toNat T.u) 5))]]) (V := fun _ _ r => T.st [T.i .i64 (asI (T.cell (nth r 0) 0)), T.i .i64 (asI (T.cell (nth r 0) 1)), T.i .i64 (asI (T.cell (nth r 0) 2)), T.sl (asL (T.cell (nth r 0) 3)), T.sl (asL (T.cell (nth r 0) 4)), T.sl (asL (T.cell (nth r 0) 5))]) (fun l => f78_eq (Cc lf 3) lf l) (fun l n i out => rfl) (fun l j h hf hs => by
  have hto := to82 hlf (d := 3) (by omega) _ hf hs
  obtain ⟨a0, a1, a2, a3, a4, a5, e, _⟩ := fit_iiiScMsiEMssE hf
  rw [e] at hto
  simp only [getD_nat h, e]
  exact ⟨_, hto, rfl⟩))
theorem to67 (hlf : 33554432 ≤ lf) {d : Nat} (hd : 5 ≤ d) : TO1 (Cc lf d) 67 (fitE true csfit_MiiiScMsiEMssEEi) := by
 refine TO1.le (Cc_le hd) ?_
 intro t ht hs
 obtain ⟨a0, a1, rfl, q0, q1⟩ := fit_MiiiScMsiEMssEEi ht
 simp only [tl, tls] at hs
 have hcall : Cc lf 5 67 [T.st [T.sl a0, T.i .i64 a1]] = f67_t (Cc lf 4) lf a0 a1 := f67_eq (Cc lf 4) lf a0 a1
 rw [hcall]
 unfold f67_t
 have e1 := to78 hlf (d := 4) (by omega) (T.sl a0) q0 (by simp only [tl, tls]; omega)
 simp only [e1, Option.bind_some, nth0, asL_l, asI_i, asB_b, asS_s, cell0, cellS]
theorem to46 (hlf : 33554432 ≤ lf) {d : Nat} (hd : 6 ≤ d) : TO1 (Cc lf d) 46 (fitE true csfit_isbiMiiiScMsiEMssEEi) := by
 refine TO1.le (Cc_le hd) ?_
 intro t ht hs
 obtain ⟨a0, a1, a2, a3, a4, a5, rfl, q0, q1, q3, q4, q5⟩ := fit_isbiMiiiScMsiEMssEEi ht
 simp only [tl, tls] at hs
 have hcall : Cc lf 6 46 [T.st [T.i .i64 a0, T.s a1, T.b a2, T.i .i64 a3, T.sl a4, T.i .i64 a5]] = f46_t (Cc lf 5) lf a0 a1 a2 a3 a4 a5 := f46_eq (Cc lf 5) lf a0 a1 a2 a3 a4 a5
 rw [hcall]
 unfold f46_t
 have e1 := to67 hlf (d := 5) (by omega) (T.st [T.sl a4, T.i .i64 a5]) (show fitE true csfit_MiiiScMsiEMssEEi (T.st [T.sl a4, T.i .i64 a5]) from ⟨q4, ⟨rfl, q5⟩, trivial⟩) (by simp only [tl, tls]; omega)
 simp only [e1, Option.bind_some, nth0, asL_l, asI_i, asB_b, asS_s, cell0, cellS]
theorem to31 (hlf : 33554432 ≤ lf) {d : Nat} (hd : 7 ≤ d) : TO1 (Cc lf d) 31 (fitC (.sl true [.i .i64, .s, .b, .i .i64, .sl true [.i .i64, .i .i64, .i .i64, .sl false [.i .u8], .sl true [.s, .i .i64], .sl true [.s, .s]], .i .i64])) := by
 exact TO1.le (Cc_le hd) (to_slice1 (c' := Cc lf 7) hlf (F := fun l n i out => f31_0 (Cc lf 6) lf l n i out) (G := fun l i => Cc lf 6 46 [T.st [T.i .i64 (asI (T.cell (l.getD i.toNat T.u) 0)), T.s (asS (T.cell (l.getD i.toNat T.u) 1)), T.b (asB (T.cell (l.getD i.toNat T.u) 2)), T.i .i64 (asI (T.cell (l.getD i.toNat T.u) 3)), T.sl (asL (T.cell (l.getD i.toNat T.u) 4)), T.i .i64 (asI (T.cell (l.getD i.toNat T.u) 5))]]) (V := fun _ _ r => T.st [T.i .i64 (asI (T.cell (nth r 0) 0)), T.s (asS (T.cell (nth r 0) 1)), T.b (asB (T.cell (nth r 0) 2)), T.i .i64 (asI (T.cell (nth r 0) 3)), T.sl (asL (T.cell (nth r 0) 4)), T.i .i64 (asI (T.cell (nth r 0) 5))]) (fun l => f31_eq (Cc lf 6) lf l) (fun l n i out => rfl) (fun l j h hf hs => by
  have hto := to46 hlf (d := 6) (by omega) _ hf hs
  obtain ⟨a0, a1, a2, a3, a4, a5, e, _⟩ := fit_isbiMiiiScMsiEMssEEi hf
  rw [e] at hto
  simp only [getD_nat h, e]
  exact ⟨_, hto, rfl⟩))
theorem to17 (hlf : 33554432 ≤ lf) {d : Nat} (hd : 8 ≤ d) : TO1 (Cc lf d) 17 (fitE true csfit_MisbiMiiiScMsiEMssEEiEi) := by
 refine TO1.le (Cc_le hd) ?_
 intro t ht hs
 obtain ⟨a0, a1, rfl, q0, q1⟩ := fit_MisbiMiiiScMsiEMssEEiEi ht
 simp only [tl, tls] at hs
 have hcall : Cc lf 8 17 [T.st [T.sl a0, T.i .i64 a1]] = f17_t (Cc lf 7) lf a0 a1 := f17_eq (Cc lf 7) lf a0 a1
 rw [hcall]
 unfold f17_t
 have e1 := to31 hlf (d := 7) (by omega) (T.sl a0) q0 (by simp only [tl, tls]; omega)
 simp only [e1, Option.bind_some, nth0, asL_l, asI_i, asB_b, asS_s, cell0, cellS]
theorem to47 (hlf : 33554432 ≤ lf) {d : Nat} (hd : 1 ≤ d) : TO1 (Cc lf d) 47 (fitE true csfit_isbii) := by
 refine TO1.le (Cc_le hd) ?_
 intro t ht hs
 obtain ⟨a0, a1, a2, a3, a4, rfl, q0, q1, q3, q4⟩ := fit_isbii ht
 simp only [tl, tls] at hs
 have hcall : Cc lf 1 47 [T.st [T.i .i64 a0, T.s a1, T.b a2, T.i .i64 a3, T.i .i64 a4]] = f47_t (Cc lf 0) lf a0 a1 a2 a3 a4 := f47_eq (Cc lf 0) lf a0 a1 a2 a3 a4
 rw [hcall]
 unfold f47_t
 rfl
theorem to32 (hlf : 33554432 ≤ lf) {d : Nat} (hd : 2 ≤ d) : TO1 (Cc lf d) 32 (fitC (.sl true [.i .i64, .s, .b, .i .i64, .i .i64])) := by
 exact TO1.le (Cc_le hd) (to_slice1 (c' := Cc lf 2) hlf (F := fun l n i out => f32_0 (Cc lf 1) lf l n i out) (G := fun l i => Cc lf 1 47 [T.st [T.i .i64 (asI (T.cell (l.getD i.toNat T.u) 0)), T.s (asS (T.cell (l.getD i.toNat T.u) 1)), T.b (asB (T.cell (l.getD i.toNat T.u) 2)), T.i .i64 (asI (T.cell (l.getD i.toNat T.u) 3)), T.i .i64 (asI (T.cell (l.getD i.toNat T.u) 4))]]) (V := fun _ _ r => T.st [T.i .i64 (asI (T.cell (nth r 0) 0)), T.s (asS (T.cell (nth r 0) 1)), T.b (asB (T.cell (nth r 0) 2)), T.i .i64 (asI (T.cell (nth r 0) 3)), T.i .i64 (asI (T.cell (nth r 0) 4))]) (fun l => f32_eq (Cc lf 1) lf l) (fun l n i out => rfl) (fun l j h hf hs => by
  have hto := to47 hlf (d := 1) (by omega) _ hf hs
  obtain ⟨a0, a1, a2, a3, a4, e, _⟩ := fit_isbii hf
  rw [e] at hto
  simp only [getD_nat h, e]
  exact ⟨_, hto, rfl⟩))
theorem to18 (hlf : 33554432 ≤ lf) {d : Nat} (hd : 3 ≤ d) : TO1 (Cc lf d) 18 (fitE true csfit_iMisbiiE) := by
 refine TO1.le (Cc_le hd) ?_
 intro t ht hs
 obtain ⟨a0, a1, rfl, q0, q1⟩ := fit_iMisbiiE ht
 simp only [tl, tls] at hs
 have hcall : Cc lf 3 18 [T.st [T.i .i64 a0, T.sl a1]] = f18_t (Cc lf 2) lf a0 a1 := f18_eq (Cc lf 2) lf a0 a1
 rw [hcall]
 unfold f18_t
 have e1 := to32 hlf (d := 2) (by omega) (T.sl a1) q1 (by simp only [tl, tls]; omega)
 simp only [e1, Option.bind_some, nth0, asL_l, asI_i, asB_b, asS_s, cell0, cellS]
abbrev csfit_ii : List CT := [.i .i64, .i .i64]
theorem fit_ii {t : T} (h : fitE true csfit_ii t) : ∃ (a0 : Int) (a1 : Int), t = .st [.i .i64 a0, .i .i64 a1] ∧ (Lit.int .i64 a0).wf = true ∧ (Lit.int .i64 a1).wf = true := by
 obtain ⟨l, rfl, h⟩ := fitE_st h
 obtain ⟨x0, l0, rfl, h0, h⟩ := fitCs_cons h
 obtain ⟨x1, l1, rfl, h1, h⟩ := fitCs_cons h
 obtain rfl := fitCs_nil h
 obtain ⟨a0, rfl, q0⟩ := fitC_i h0
 obtain ⟨a1, rfl, q1⟩ := fitC_i h1
 exact ⟨a0, a1, rfl, q0, q1⟩
theorem to68 (hlf : 33554432 ≤ lf) {d : Nat} (hd : 1 ≤ d) : TO1 (Cc lf d) 68 (fitE true csfit_ii) := by
 refine TO1.le (Cc_le hd) ?_
 intro t ht hs
 obtain ⟨a0, a1, rfl, q0, q1⟩ := fit_ii ht
 simp only [tl, tls] at hs
 have hcall : Cc lf 1 68 [T.st [T.i .i64 a0, T.i .i64 a1]] = f68_t (Cc lf 0) lf a0 a1 := f68_eq (Cc lf 0) lf a0 a1
 rw [hcall]
 unfold f68_t
 rfl
theorem to48 (hlf : 33554432 ≤ lf) {d : Nat} (hd : 2 ≤ d) : TO1 (Cc lf d) 48 (fitC (.sl true [.i .i64, .i .i64])) := by
 exact TO1.le (Cc_le hd) (to_slice1 (c' := Cc lf 2) hlf (F := fun l n i out => f48_0 (Cc lf 1) lf l n i out) (G := fun l i => Cc lf 1 68 [T.st [T.i .i64 (asI (T.cell (l.getD i.toNat T.u) 0)), T.i .i64 (asI (T.cell (l.getD i.toNat T.u) 1))]]) (V := fun _ _ r => T.st [T.i .i64 (asI (T.cell (nth r 0) 0)), T.i .i64 (asI (T.cell (nth r 0) 1))]) (fun l => f48_eq (Cc lf 1) lf l) (fun l n i out => rfl) (fun l j h hf hs => by
  have hto := to68 hlf (d := 1) (by omega) _ hf hs
  obtain ⟨a0, a1, e, _⟩ := fit_ii hf
  rw [e] at hto
  simp only [getD_nat h, e]
  exact ⟨_, hto, rfl⟩))
theorem to33 (hlf : 33554432 ≤ lf) {d : Nat} (hd : 3 ≤ d) : TO1 (Cc lf d) 33 (fitE true csfit_iMiiE) := by
 refine TO1.le (Cc_le hd) ?_
 intro t ht hs
 obtain ⟨a0, a1, rfl, q0, q1⟩ := fit_iMiiE ht
 simp only [tl, tls] at hs
 have hcall : Cc lf 3 33 [T.st [T.i .i64 a0, T.sl a1]] = f33_t (Cc lf 2) lf a0 a1 := f33_eq (Cc lf 2) lf a0 a1
 rw [hcall]
 unfold f33_t
 have e1 := to48 hlf (d := 2) (by omega) (T.sl a1) q1 (by simp only [tl, tls]; omega)
 simp only [e1, Option.bind_some, nth0, asL_l, asI_i, asB_b, asS_s, cell0, cellS]
theorem to19 (hlf : 33554432 ≤ lf) {d : Nat} (hd : 4 ≤ d) : TO1 (Cc lf d) 19 (fitC (.sl true [.i .i64, .sl true [.i .i64, .i .i64]])) := by
 exact TO1.le (Cc_le hd) (to_slice1 (c' := Cc lf 4) hlf (F := fun l n i out => f19_0 (Cc lf 3) lf l n i out) (G := fun l i => Cc lf 3 33 [T.st [T.i .i64 (asI (T.cell (l.getD i.toNat T.u) 0)), T.sl (asL (T.cell (l.getD i.toNat T.u) 1))]]) (V := fun _ _ r => T.st [T.i .i64 (asI (T.cell (nth r 0) 0)), T.sl (asL (T.cell (nth r 0) 1))]) (fun l => f19_eq (Cc lf 3) lf l) (fun l n i out => rfl) (fun l j h hf hs => by
  have hto := to33 hlf (d := 3) (by omega) _ hf hs
  obtain ⟨a0, a1, e, _⟩ := fit_iMiiE hf
  rw [e] at hto
  simp only [getD_nat h, e]
  exact ⟨_, hto, rfl⟩))
theorem to7 (hlf : 33554432 ≤ lf) {d : Nat} (hd : 9 ≤ d) : TO1 (Cc lf d) 7 (fitE true csfit_MisbiMiiiScMsiEMssEEiEiiMisbiiEMiMiiEEii) := by
 refine TO1.le (Cc_le hd) ?_
 intro t ht hs
 obtain ⟨a0, a1, a2, a3, a4, a5, a6, rfl, q0, q1, q2, q3, q4, q5, q6⟩ := fit_MisbiMiiiScMsiEMssEEiEiiMisbiiEMiMiiEEii ht
 simp only [tl, tls] at hs
 have hcall : Cc lf 9 7 [T.st [T.sl a0, T.i .i64 a1, T.i .i64 a2, T.sl a3, T.sl a4, T.i .i64 a5, T.i .i64 a6]] = f7_t (Cc lf 8) lf a0 a1 a2 a3 a4 a5 a6 := f7_eq (Cc lf 8) lf a0 a1 a2 a3 a4 a5 a6
 rw [hcall]
 unfold f7_t
 have e1 := to17 hlf (d := 8) (by omega) (T.st [T.sl a0, T.i .i64 a1]) (show fitE true csfit_MisbiMiiiScMsiEMssEEiEi (T.st [T.sl a0, T.i .i64 a1]) from ⟨q0, ⟨rfl, q1⟩, trivial⟩) (by simp only [tl, tls]; omega)
 have e2 := to18 hlf (d := 8) (by omega) (T.st [T.i .i64 a2, T.sl a3]) (show fitE true csfit_iMisbiiE (T.st [T.i .i64 a2, T.sl a3]) from ⟨⟨rfl, q2⟩, q3, trivial⟩) (by simp only [tl, tls]; omega)
 have e3 := to19 hlf (d := 8) (by omega) (T.sl a4) q4 (by simp only [tl, tls]; omega)
 simp only [e1, e2, e3, Option.bind_some, nth0, asL_l, asI_i, asB_b, asS_s, cell0, cellS]
theorem eq90 (hlf : 33554432 ≤ lf) {d : Nat} (hd : 1 ≤ d) : EQ1 (Cc lf d) 90 (fitC (.sl false [.i .u8])) := by
 exact EQ1.le (Cc_le hd) (eq_flat1 (c' := Cc lf 1) hlf (F := fun l l' n i => f90_0 (Cc lf 0) lf l l' n i) (N := fun l l' i => (asI (l.getD i.toNat T.u)) != (asI (l'.getD i.toNat T.u))) (fun l l' => f90_eq (Cc lf 0) lf l l') (fun l l' n i => rfl) (fun l i => by simp))
theorem eq97 (hlf : 33554432 ≤ lf) {d : Nat} (hd : 1 ≤ d) : EQ1 (Cc lf d) 97 (fitE true csfit_si) := by
 refine EQ1.le (Cc_le hd) ?_
 intro t ht hs
 obtain ⟨a0, a1, rfl, q0, q1⟩ := fit_si ht
 simp only [tl, tls] at hs
 have hcall : Cc lf 1 97 [T.st [T.s a0, T.i .i64 a1], T.st [T.s a0, T.i .i64 a1]] = f97_t (Cc lf 0) lf a0 a1 a0 a1 := f97_eq (Cc lf 0) lf a0 a1 a0 a1
 rw [hcall]
 unfold f97_t
 simp only [Option.bind_some, nth0, asB_b, Bool.not_true, cond_false, ne_f, beq_self_eq_true]
theorem eq91 (hlf : 33554432 ≤ lf) {d : Nat} (hd : 2 ≤ d) : EQ1 (Cc lf d) 91 (fitC (.sl true [.s, .i .i64])) := by
 exact EQ1.le (Cc_le hd) (eq_slice1 (c' := Cc lf 2) hlf (F := fun l l' n i => f91_0 (Cc lf 1) lf l l' n i) (G := fun l l' i => Cc lf 1 97 [T.st [T.s (asS (T.cell (l.getD i.toNat T.u) 0)), T.i .i64 (asI (T.cell (l.getD i.toNat T.u) 1))], T.st [T.s (asS (T.cell (l'.getD i.toNat T.u) 0)), T.i .i64 (asI (T.cell (l'.getD i.toNat T.u) 1))]]) (fun l l' => f91_eq (Cc lf 1) lf l l') (fun l l' n i => rfl) (fun l j h hf hs => by
  have heq := eq97 hlf (d := 1) (by omega) _ hf hs
  obtain ⟨a0, a1, e, _⟩ := fit_si hf
  rw [e] at heq
  simp only [getD_nat h, e]
  exact heq))
theorem eq98 (hlf : 33554432 ≤ lf) {d : Nat} (hd : 1 ≤ d) : EQ1 (Cc lf d) 98 (fitE true csfit_ss) := by
 refine EQ1.le (Cc_le hd) ?_
 intro t ht hs
 obtain ⟨a0, a1, rfl, q0, q1⟩ := fit_ss ht
 simp only [tl, tls] at hs
 have hcall : Cc lf 1 98 [T.st [T.s a0, T.s a1], T.st [T.s a0, T.s a1]] = f98_t (Cc lf 0) lf a0 a1 a0 a1 := f98_eq (Cc lf 0) lf a0 a1 a0 a1
 rw [hcall]
 unfold f98_t
 simp only [Option.bind_some, nth0, asB_b, Bool.not_true, cond_false, ne_f, beq_self_eq_true]
theorem eq92 (hlf : 33554432 ≤ lf) {d : Nat} (hd : 2 ≤ d) : EQ1 (Cc lf d) 92 (fitC (.sl true [.s, .s])) := by
 exact EQ1.le (Cc_le hd) (eq_slice1 (c' := Cc lf 2) hlf (F := fun l l' n i => f92_0 (Cc lf 1) lf l l' n i) (G := fun l l' i => Cc lf 1 98 [T.st [T.s (asS (T.cell (l.getD i.toNat T.u) 0)), T.s (asS (T.cell (l.getD i.toNat T.u) 1))], T.st [T.s (asS (T.cell (l'.getD i.toNat T.u) 0)), T.s (asS (T.cell (l'.getD i.toNat T.u) 1))]]) (fun l l' => f92_eq (Cc lf 1) lf l l') (fun l l' n i => rfl) (fun l j h hf hs => by
  have heq := eq98 hlf (d := 1) (by omega) _ hf hs
  obtain ⟨a0, a1, e, _⟩ := fit_ss hf
  rw [e] at heq
  simp only [getD_nat h, e]
  exact heq))
theorem eq83 (hlf : 33554432 ≤ lf) {d : Nat} (hd : 3 ≤ d) : EQ1 (Cc lf d) 83 (fitE true csfit_iiiScMsiEMssE) := by
 refine EQ1.le (Cc_le hd) ?_
 intro t ht hs
 obtain ⟨a0, a1, a2, a3, a4, a5, rfl, q0, q1, q2, q3, q4, q5⟩ := fit_iiiScMsiEMssE ht
 simp only [tl, tls] at hs
 have hcall : Cc lf 3 83 [T.st [T.i .i64 a0, T.i .i64 a1, T.i .i64 a2, T.sl a3, T.sl a4, T.sl a5], T.st [T.i .i64 a0, T.i .i64 a1, T.i .i64 a2, T.sl a3, T.sl a4, T.sl a5]] = f83_t (Cc lf 2) lf a0 a1 a2 a3 a4 a5 a0 a1 a2 a3 a4 a5 := f83_eq (Cc lf 2) lf a0 a1 a2 a3 a4 a5 a0 a1 a2 a3 a4 a5
 rw [hcall]
 unfold f83_t
 have e1 := eq90 hlf (d := 2) (by omega) (T.sl a3) q3 (by simp only [tl, tls]; omega)
 have e2 := eq91 hlf (d := 2) (by omega) (T.sl a4) q4 (by simp only [tl, tls]; omega)
 have e3 := eq92 hlf (d := 2) (by omega) (T.sl a5) q5 (by simp only [tl, tls]; omega)
 simp only [e1, e2, e3, Option.bind_some, nth0, asB_b, Bool.not_true, cond_false, ne_f, beq_self_eq_true]
theorem eq80 (hlf : 33554432 ≤ lf) {d : Nat} (hd : 4 ≤ d) : EQ1 (Cc lf d) 80 (fitC (.sl true [.i .i64, .i .i64, .i .i64, .sl false [.i .u8], .sl true [.s, .i .i64], .sl true [.s, .s]])) := by
 exact EQ1.le (Cc_le hd) (eq_slice1 (c' := Cc lf 4) hlf (F := fun l l' n i => f80_0 (Cc lf 3) lf l l' n i) (G := fun l l' i => Cc lf 3 83 [T.st [T.i .i64 (asI (T.cell (l.getD i.toNat T.u) 0)), T.i .i64 (asI (T.cell (l.getD i.toNat T.u) 1)), T.i .i64 (asI (T.cell (l.getD i.toNat T.u) 2)), T.sl (asL (T.cell (l.getD i.toNat T.u) 3)), T.sl (asL (T.cell (l.getD i.toNat T.u) 4)), T.sl (asL (T.cell (l.getD i.toNat T.u) 5))], T.st [T.i .i64 (asI (T.cell (l'.getD i.toNat T.u) 0)), T.i .i64 (asI (T.cell (l'.getD i.toNat T.u) 1)), T.i .i64 (asI (T.cell (l'.getD i.toNat T.u) 2)), T.sl (asL (T.cell (l'.getD i.toNat T.u) 3)), T.sl (asL (T.cell (l'.getD i.toNat T.u) 4)), T.sl (asL (T.cell (l'.getD i.toNat T.u) 5))]]) (fun l l' => f80_eq (Cc lf 3) lf l l') (fun l l' n i => rfl) (fun l j h hf hs => by
  have heq := eq83 hlf (d := 3) (by omega) _ hf hs
  obtain ⟨a0, a1, a2, a3, a4, a5, e, _⟩ := fit_iiiScMsiEMssE hf
  rw [e] at heq
  simp only [getD_nat h, e]
  exact heq))
theorem eq75 (hlf : 33554432 ≤ lf) {d : Nat} (hd : 5 ≤ d) : EQ1 (Cc lf d) 75 (fitE true csfit_MiiiScMsiEMssEEi) := by
 refine EQ1.le (Cc_le hd) ?_
 intro t ht hs
 obtain ⟨a0, a1, rfl, q0, q1⟩ := fit_MiiiScMsiEMssEEi ht
 simp only [tl, tls] at hs
 have hcall : Cc lf 5 75 [T.st [T.sl a0, T.i .i64 a1], T.st [T.sl a0, T.i .i64 a1]] = f75_t (Cc lf 4) lf a0 a1 a0 a1 := f75_eq (Cc lf 4) lf a0 a1 a0 a1
 rw [hcall]
 unfold f75_t
 have e1 := eq80 hlf (d := 4) (by omega) (T.sl a0) q0 (by simp only [tl, tls]; omega)
 simp only [e1, Option.bind_some, nth0, asB_b, Bool.not_true, cond_false, ne_f, beq_self_eq_true]
theorem eq60 (hlf : 33554432 ≤ lf) {d : Nat} (hd : 6 ≤ d) : EQ1 (Cc lf d) 60 (fitE true csfit_isbiMiiiScMsiEMssEEi) := by
 refine EQ1.le (Cc_le hd) ?_
 intro t ht hs
 obtain ⟨a0, a1, a2, a3, a4, a5, rfl, q0, q1, q3, q4, q5⟩ := fit_isbiMiiiScMsiEMssEEi ht
 simp only [tl, tls] at hs
 have hcall : Cc lf 6 60 [T.st [T.i .i64 a0, T.s a1, T.b a2, T.i .i64 a3, T.sl a4, T.i .i64 a5], T.st [T.i .i64 a0, T.s a1, T.b a2, T.i .i64 a3, T.sl a4, T.i .i64 a5]] = f60_t (Cc lf 5) lf a0 a1 a2 a3 a4 a5 a0 a1 a2 a3 a4 a5 := f60_eq (Cc lf 5) lf a0 a1 a2 a3 a4 a5 a0 a1 a2 a3 a4 a5
 rw [hcall]
 unfold f60_t
 have e1 := eq75 hlf (d := 5) (by omega) (T.st [T.sl a4, T.i .i64 a5]) (show fitE true csfit_MiiiScMsiEMssEEi (T.st [T.sl a4, T.i .i64 a5]) from ⟨q4, ⟨rfl, q5⟩, trivial⟩) (by simp only [tl, tls]; omega)
 simp only [e1, Option.bind_some, nth0, asB_b, Bool.not_true, cond_false, ne_f, beq_self_eq_true]
theorem eq36 (hlf : 33554432 ≤ lf) {d : Nat} (hd : 7 ≤ d) : EQ1 (Cc lf d) 36 (fitC (.sl true [.i .i64, .s, .b, .i .i64, .sl true [.i .i64, .i .i64, .i .i64, .sl false [.i .u8], .sl true [.s, .i .i64], .sl true [.s, .s]], .i .i64])) := by
 exact EQ1.le (Cc_le hd) (eq_slice1 (c' := Cc lf 7) hlf (F := fun l l' n i => f36_0 (Cc lf 6) lf l l' n i) (G := fun l l' i => Cc lf 6 60 [T.st [T.i .i64 (asI (T.cell (l.getD i.toNat T.u) 0)), T.s (asS (T.cell (l.getD i.toNat T.u) 1)), T.b (asB (T.cell (l.getD i.toNat T.u) 2)), T.i .i64 (asI (T.cell (l.getD i.toNat T.u) 3)), T.sl (asL (T.cell (l.getD i.toNat T.u) 4)), T.i .i64 (asI (T.cell (l.getD i.toNat T.u) 5))], T.st [T.i .i64 (asI (T.cell (l'.getD i.toNat T.u) 0)), T.s (asS (T.cell (l'.getD i.toNat T.u) 1)), T.b (asB (T.cell (l'.getD i.toNat T.u) 2)), T.i .i64 (asI (T.cell (l'.getD i.toNat T.u) 3)), T.sl (asL (T.cell (l'.getD i.toNat T.u) 4)), T.i .i64 (asI (T.cell (l'.getD i.toNat T.u) 5))]]) (fun l l' => f36_eq (Cc lf 6) lf l l') (fun l l' n i => rfl) (fun l j h hf hs => by
  have heq := eq60 hlf (d := 6) (by omega) _ hf hs
  obtain ⟨a0, a1, a2, a3, a4, a5, e, _⟩ := fit_isbiMiiiScMsiEMssEEi hf
  rw [e] at heq
  simp only [getD_nat h, e]
  exact heq))
theorem eq23 (hlf : 33554432 ≤ lf) {d : Nat} (hd : 8 ≤ d) : EQ1 (Cc lf d) 23 (fitE true csfit_MisbiMiiiScMsiEMssEEiEi) := by
 refine EQ1.le (Cc_le hd) ?_
 intro t ht hs
 obtain ⟨a0, a1, rfl, q0, q1⟩ := fit_MisbiMiiiScMsiEMssEEiEi ht
 simp only [tl, tls] at hs
 have hcall : Cc lf 8 23 [T.st [T.sl a0, T.i .i64 a1], T.st [T.sl a0, T.i .i64 a1]] = f23_t (Cc lf 7) lf a0 a1 a0 a1 := f23_eq (Cc lf 7) lf a0 a1 a0 a1
 rw [hcall]
 unfold f23_t
 have e1 := eq36 hlf (d := 7) (by omega) (T.sl a0) q0 (by simp only [tl, tls]; omega)
 simp only [e1, Option.bind_some, nth0, asB_b, Bool.not_true, cond_false, ne_f, beq_self_eq_true]
theorem eq61 (hlf : 33554432 ≤ lf) {d : Nat} (hd : 1 ≤ d) : EQ1 (Cc lf d) 61 (fitE true csfit_isbii) := by
 refine EQ1.le (Cc_le hd) ?_
 intro t ht hs
 obtain ⟨a0, a1, a2, a3, a4, rfl, q0, q1, q3, q4⟩ := fit_isbii ht
 simp only [tl, tls] at hs
 have hcall : Cc lf 1 61 [T.st [T.i .i64 a0, T.s a1, T.b a2, T.i .i64 a3, T.i .i64 a4], T.st [T.i .i64 a0, T.s a1, T.b a2, T.i .i64 a3, T.i .i64 a4]] = f61_t (Cc lf 0) lf a0 a1 a2 a3 a4 a0 a1 a2 a3 a4 := f61_eq (Cc lf 0) lf a0 a1 a2 a3 a4 a0 a1 a2 a3 a4
 rw [hcall]
 unfold f61_t
 simp only [Option.bind_some, nth0, asB_b, Bool.not_true, cond_false, ne_f, beq_self_eq_true]
theorem eq37 (hlf : 33554432 ≤ lf) {d : Nat} (hd : 2 ≤ d) : EQ1 (Cc lf d) 37 (fitC (.sl true [.i .i64, .s, .b, .i .i64, .i .i64])) := by
 exact EQ1.le (Cc_le hd) (eq_slice1 (c' := Cc lf 2) hlf (F := fun l l' n i => f37_0 (Cc lf 1) lf l l' n i) (G := fun l l' i => Cc lf 1 61 [T.st [T.i .i64 (asI (T.cell (l.getD i.toNat T.u) 0)), T.s (asS (T.cell (l.getD i.toNat T.u) 1)), T.b (asB (T.cell (l.getD i.toNat T.u) 2)), T.i .i64 (asI (T.cell (l.getD i.toNat T.u) 3)), T.i .i64 (asI (T.cell (l.getD i.toNat T.u) 4))], T.st [T.i .i64 (asI (T.cell (l'.getD i.toNat T.u) 0)), T.s (asS (T.cell (l'.getD i.toNat T.u) 1)), T.b (asB (T.cell (l'.getD i.toNat T.u) 2)), T.i .i64 (asI (T.cell (l'.getD i.toNat T.u) 3)), T.i .i64 (asI (T.cell (l'.getD i.toNat T.u) 4))]]) (fun l l' => f37_eq (Cc lf 1) lf l l') (fun l l' n i => rfl) (fun l j h hf hs => by
  have heq := eq61 hlf (d := 1) (by omega) _ hf hs
  obtain ⟨a0, a1, a2, a3, a4, e, _⟩ := fit_isbii hf
  rw [e] at heq
  simp only [getD_nat h, e]
  exact heq))
theorem eq24 (hlf : 33554432 ≤ lf) {d : Nat} (hd : 3 ≤ d) : EQ1 (Cc lf d) 24 (fitE true csfit_iMisbiiE) := by
 refine EQ1.le (Cc_le hd) ?_
 intro t ht hs
 obtain ⟨a0, a1, rfl, q0, q1⟩ := fit_iMisbiiE ht
 simp only [tl, tls] at hs
 have hcall : Cc lf 3 24 [T.st [T.i .i64 a0, T.sl a1], T.st [T.i .i64 a0, T.sl a1]] = f24_t (Cc lf 2) lf a0 a1 a0 a1 := f24_eq (Cc lf 2) lf a0 a1 a0 a1
 rw [hcall]
 unfold f24_t
 have e1 := eq37 hlf (d := 2) (by omega) (T.sl a1) q1 (by simp only [tl, tls]; omega)
 simp only [e1, Option.bind_some, nth0, asB_b, Bool.not_true, cond_false, ne_f, beq_self_eq_true]
theorem eq76 (hlf : 33554432 ≤ lf) {d : Nat} (hd : 1 ≤ d) : EQ1 (Cc lf d) 76 (fitE true csfit_ii) := by
 refine EQ1.le (Cc_le hd) ?_
 intro t ht hs
 obtain ⟨a0, a1, rfl, q0, q1⟩ := fit_ii ht
 simp only [tl, tls] at hs
 have hcall : Cc lf 1 76 [T.st [T.i .i64 a0, T.i .i64 a1], T.st [T.i .i64 a0, T.i .i64 a1]] = f76_t (Cc lf 0) lf a0 a1 a0 a1 := f76_eq (Cc lf 0) lf a0 a1 a0 a1
 rw [hcall]
 unfold f76_t
 simp only [Option.bind_some, nth0, asB_b, Bool.not_true, cond_false, ne_f, beq_self_eq_true]
theorem eq62 (hlf : 33554432 ≤ lf) {d : Nat} (hd : 2 ≤ d) : EQ1 (Cc lf d) 62 (fitC (.sl true [.i .i64, .i .i64])) := by
 exact EQ1.le (Cc_le hd) (eq_slice1 (c' := Cc lf 2) hlf (F := fun l l' n i => f62_0 (Cc lf 1) lf l l' n i) (G := fun l l' i => Cc lf 1 76 [T.st [T.i .i64 (asI (T.cell (l.getD i.toNat T.u) 0)), T.i .i64 (asI (T.cell (l.getD i.toNat T.u) 1))], T.st [T.i .i64 (asI (T.cell (l'.getD i.toNat T.u) 0)), T.i .i64 (asI (T.cell (l'.getD i.toNat T.u) 1))]]) (fun l l' => f62_eq (Cc lf 1) lf l l') (fun l l' n i => rfl) (fun l j h hf hs => by
  have heq := eq76 hlf (d := 1) (by omega) _ hf hs
  obtain ⟨a0, a1, e, _⟩ := fit_ii hf
  rw [e] at heq
  simp only [getD_nat h, e]
  exact heq))
theorem eq38 (hlf : 33554432 ≤ lf) {d : Nat} (hd : 3 ≤ d) : EQ1 (Cc lf d) 38 (fitE true csfit_iMiiE) := by
 refine EQ1.le (Cc_le hd) ?_
 intro t ht hs
 obtain ⟨a0, a1, rfl, q0, q1⟩ := fit_iMiiE ht
 simp only [tl, tls] at hs
 have hcall : Cc lf 3 38 [T.st [T.i .i64 a0, T.sl a1], T.st [T.i .i64 a0, T.sl a1]] = f38_t (Cc lf 2) lf a0 a1 a0 a1 := f38_eq (Cc lf 2) lf a0 a1 a0 a1
 rw [hcall]
 unfold f38_t
 have e1 := eq62 hlf (d := 2) (by omega) (T.sl a1) q1 (by simp only [tl, tls]; omega)
 simp only [e1, Option.bind_some, nth0, asB_b, Bool.not_true, cond_false, ne_f, beq_self_eq_true]
theorem eq25 (hlf : 33554432 ≤ lf) {d : Nat} (hd : 4 ≤ d) : EQ1 (Cc lf d) 25 (fitC (.sl true [.i .i64, .sl true [.i .i64, .i .i64]])) := by
 exact EQ1.le (Cc_le hd) (eq_slice1 (c' := Cc lf 4) hlf (F := fun l l' n i => f25_0 (Cc lf 3) lf l l' n i) (G := fun l l' i => Cc lf 3 38 [T.st [T.i .i64 (asI (T.cell (l.getD i.toNat T.u) 0)), T.sl (asL (T.cell (l.getD i.toNat T.u) 1))], T.st [T.i .i64 (asI (T.cell (l'.getD i.toNat T.u) 0)), T.sl (asL (T.cell (l'.getD i.toNat T.u) 1))]]) (fun l l' => f25_eq (Cc lf 3) lf l l') (fun l l' n i => rfl) (fun l j h hf hs => by
  have heq := eq38 hlf (d := 3) (by omega) _ hf hs
  obtain ⟨a0, a1, e, _⟩ := fit_iMiiE hf
  rw [e] at heq
  simp only [getD_nat h, e]
  exact heq))
theorem eq9 (hlf : 33554432 ≤ lf) {d : Nat} (hd : 9 ≤ d) : EQ1 (Cc lf d) 9 (fitE true csfit_MisbiMiiiScMsiEMssEEiEiiMisbiiEMiMiiEEii) := by
 refine EQ1.le (Cc_le hd) ?_
 intro t ht hs
 obtain ⟨a0, a1, a2, a3, a4, a5, a6, rfl, q0, q1, q2, q3, q4, q5, q6⟩ := fit_MisbiMiiiScMsiEMssEEiEiiMisbiiEMiMiiEEii ht
 simp only [tl, tls] at hs
 have hcall : Cc lf 9 9 [T.st [T.sl a0, T.i .i64 a1, T.i .i64 a2, T.sl a3, T.sl a4, T.i .i64 a5, T.i .i64 a6], T.st [T.sl a0, T.i .i64 a1, T.i .i64 a2, T.sl a3, T.sl a4, T.i .i64 a5, T.i .i64 a6]] = f9_t (Cc lf 8) lf a0 a1 a2 a3 a4 a5 a6 a0 a1 a2 a3 a4 a5 a6 := f9_eq (Cc lf 8) lf a0 a1 a2 a3 a4 a5 a6 a0 a1 a2 a3 a4 a5 a6
 rw [hcall]
 unfold f9_t
 have e1 := eq23 hlf (d := 8) (by omega) (T.st [T.sl a0, T.i .i64 a1]) (show fitE true csfit_MisbiMiiiScMsiEMssEEiEi (T.st [T.sl a0, T.i .i64 a1]) from ⟨q0, ⟨rfl, q1⟩, trivial⟩) (by simp only [tl, tls]; omega)
 have e2 := eq24 hlf (d := 8) (by omega) (T.st [T.i .i64 a2, T.sl a3]) (show fitE true csfit_iMisbiiE (T.st [T.i .i64 a2, T.sl a3]) from ⟨⟨rfl, q2⟩, q3, trivial⟩) (by simp only [tl, tls]; omega)
 have e3 := eq25 hlf (d := 8) (by omega) (T.sl a4) q4 (by simp only [tl, tls]; omega)
 simp only [e1, e2, e3, Option.bind_some, nth0, asB_b, Bool.not_true, cond_false, ne_f, beq_self_eq_true]
end
end Go.Proofs.Ytnakbpjofkdabaa.T
