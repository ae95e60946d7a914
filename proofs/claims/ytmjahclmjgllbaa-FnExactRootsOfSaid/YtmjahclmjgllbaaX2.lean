/- What functions of the law FnExactRootsOf come to, in trees; no condition. -/
import Derived.Test.YtmjahclmjgllbaaRows
import Derived.Test.YtmjahclmjgllbaaX1
set_option linter.unusedVariables false
set_option linter.constructorNameAsVariable false
set_option linter.unusedSimpArgs false
set_option linter.unnecessarySimpa false
namespace Go.Proofs.Ytmjahclmjgllbaa.T
open Go Go.Proofs.YtmjahclmjgllbaaV
set_option maxRecDepth 100000
noncomputable abbrev Cc (lf d : Nat) : Orc := orc X env lf 6 d
theorem Cc_le {lf d d' : Nat} (h : d ≤ d') : OLe (Cc lf d) (Cc lf d') := fun _ _ _ g => orc_le h g
section
variable {lf : Nat}
theorem sz78 (hlf : 33554432 ≤ lf) {d : Nat} (hd : 1 ≤ d) : SZ1 (Cc lf d) 78 (fitC (.sl false [.i .u8])) := by
 exact SZ1.le (Cc_le hd) (sz_flat1 (c := Cc lf 1) rfl fun l x => f78_eq (Cc lf 0) lf l x)
abbrev csfit_bSc : List CT := [.b, .sl false [.i .u8]]
theorem fit_bSc {t : T} (h : fitE true csfit_bSc t) : ∃ (a0 : Bool) (a1 : List T), t = .st [.b a0, .sl a1] ∧ fitC (.sl false [.i .u8]) (.sl a1) := by
 obtain ⟨l, rfl, h⟩ := fitE_st h
 obtain ⟨x0, l0, rfl, h0, h⟩ := fitCs_cons h
 obtain ⟨x1, l1, rfl, h1, h⟩ := fitCs_cons h
 obtain rfl := fitCs_nil h
 obtain ⟨a0, rfl⟩ := fitC_b h0
 obtain ⟨a1, rfl, q1⟩ := fitC_sl h1
 exact ⟨a0, a1, rfl, q1⟩
theorem sz74 (hlf : 33554432 ≤ lf) {d : Nat} (hd : 2 ≤ d) : SZ1 (Cc lf d) 74 (fitE true csfit_bSc) := by
 refine SZ1.le (Cc_le hd) ?_
 intro t ht x h0 h1
 obtain ⟨a0, a1, rfl, q1⟩ := fit_bSc ht
 have hcall : Cc lf 2 74 [T.st [T.b a0, T.sl a1], T.i .i64 x] = f74_t (Cc lf 1) lf a0 a1 x := f74_eq (Cc lf 1) lf a0 a1 x
 rw [hcall]
 unfold f74_t
 have s1 := sz78 hlf (d := 1) (by omega) (T.sl a1) q1 x (by omega) (by omega)
 rcases s1 with e | ⟨y1, e, p1, z1⟩
 ·left
  rw [e]
  rfl
 rw [e]
 simp only [Option.bind_some, nth0, asI_i]
 rw [iLt_f (show ¬ (y1 < 0) by omega), cond_false]
 simp only [tl, tls] at z1
 refine .inr ⟨y1, rfl, by omega, ?_⟩
 simp only [tl, tls]
 omega
theorem sz66 (hlf : 33554432 ≤ lf) {d : Nat} (hd : 3 ≤ d) : SZ1 (Cc lf d) 66 (fitC (.sl true [.b, .sl false [.i .u8]])) := by
 exact SZ1.le (Cc_le hd) (sz_slice1 (c := Cc lf 2) (c' := Cc lf 3) hlf (sz74 hlf (Nat.le_refl _)) (F := fun l n x i => f66_0 (Cc lf 2) lf l n x i) (G := fun l i x => Cc lf 2 74 [T.st [T.b (asB (T.cell (l.getD i.toNat T.u) 0)), T.sl (asL (T.cell (l.getD i.toNat T.u) 1))], T.i .i64 x])
  (fun l x => f66_eq (Cc lf 2) lf l x) (fun l n x i => rfl) (fun l j x h hf => by
   obtain ⟨a0, a1, e, _⟩ := fit_bSc hf
   simp only [getD_nat h, e]
   rfl))
abbrev csfit_MbScEib : List CT := [.sl true [.b, .sl false [.i .u8]], .i .i64, .b]
theorem fit_MbScEib {t : T} (h : fitE true csfit_MbScEib t) : ∃ (a0 : List T) (a1 : Int) (a2 : Bool), t = .st [.sl a0, .i .i64 a1, .b a2] ∧ fitC (.sl true [.b, .sl false [.i .u8]]) (.sl a0) ∧ (Lit.int .i64 a1).wf = true := by
 obtain ⟨l, rfl, h⟩ := fitE_st h
 obtain ⟨x0, l0, rfl, h0, h⟩ := fitCs_cons h
 obtain ⟨x1, l1, rfl, h1, h⟩ := fitCs_cons h
 obtain ⟨x2, l2, rfl, h2, h⟩ := fitCs_cons h
 obtain rfl := fitCs_nil h
 obtain ⟨a0, rfl, q0⟩ := fitC_sl h0
 obtain ⟨a1, rfl, q1⟩ := fitC_i h1
 obtain ⟨a2, rfl⟩ := fitC_b h2
 exact ⟨a0, a1, a2, rfl, q0, q1⟩
theorem sz50 (hlf : 33554432 ≤ lf) {d : Nat} (hd : 4 ≤ d) : SZ1 (Cc lf d) 50 (fitE true csfit_MbScEib) := by
 refine SZ1.le (Cc_le hd) ?_
 intro t ht x h0 h1
 obtain ⟨a0, a1, a2, rfl, q0, q1⟩ := fit_MbScEib ht
 have hcall : Cc lf 4 50 [T.st [T.sl a0, T.i .i64 a1, T.b a2], T.i .i64 x] = f50_t (Cc lf 3) lf a0 a1 a2 x := f50_eq (Cc lf 3) lf a0 a1 a2 x
 rw [hcall]
 unfold f50_t
 have s1 := sz66 hlf (d := 3) (by omega) (T.sl a0) q0 x (by omega) (by omega)
 rcases s1 with e | ⟨y1, e, p1, z1⟩
 ·left
  rw [e]
  rfl
 rw [e]
 simp only [Option.bind_some, nth0, asI_i]
 rw [iLt_f (show ¬ (y1 < 0) by omega), cond_false]
 simp only [tl, tls] at z1
 refine .inr ⟨y1, rfl, by omega, ?_⟩
 simp only [tl, tls]
 omega
theorem sz36 (hlf : 33554432 ≤ lf) {d : Nat} (hd : 5 ≤ d) : SZ1 (Cc lf d) 36 (fitC (.sl true [.sl true [.b, .sl false [.i .u8]], .i .i64, .b])) := by
 exact SZ1.le (Cc_le hd) (sz_slice1 (c := Cc lf 4) (c' := Cc lf 5) hlf (sz50 hlf (Nat.le_refl _)) (F := fun l n x i => f36_0 (Cc lf 4) lf l n x i) (G := fun l i x => Cc lf 4 50 [T.st [T.sl (asL (T.cell (l.getD i.toNat T.u) 0)), T.i .i64 (asI (T.cell (l.getD i.toNat T.u) 1)), T.b (asB (T.cell (l.getD i.toNat T.u) 2))], T.i .i64 x])
  (fun l x => f36_eq (Cc lf 4) lf l x) (fun l n x i => rfl) (fun l j x h hf => by
   obtain ⟨a0, a1, a2, e, _⟩ := fit_MbScEib hf
   simp only [getD_nat h, e]
   rfl))
abbrev csfit_MMbScEibE : List CT := [.sl true [.sl true [.b, .sl false [.i .u8]], .i .i64, .b]]
theorem fit_MMbScEibE {t : T} (h : fitE true csfit_MMbScEibE t) : ∃ (a0 : List T), t = .st [.sl a0] ∧ fitC (.sl true [.sl true [.b, .sl false [.i .u8]], .i .i64, .b]) (.sl a0) := by
 obtain ⟨l, rfl, h⟩ := fitE_st h
 obtain ⟨x0, l0, rfl, h0, h⟩ := fitCs_cons h
 obtain rfl := fitCs_nil h
 obtain ⟨a0, rfl, q0⟩ := fitC_sl h0
 exact ⟨a0, rfl, q0⟩
theorem sz23 (hlf : 33554432 ≤ lf) {d : Nat} (hd : 6 ≤ d) : SZ1 (Cc lf d) 23 (fitE true csfit_MMbScEibE) := by
 refine SZ1.le (Cc_le hd) ?_
 intro t ht x h0 h1
 obtain ⟨a0, rfl, q0⟩ := fit_MMbScEibE ht
 have hcall : Cc lf 6 23 [T.st [T.sl a0], T.i .i64 x] = f23_t (Cc lf 5) lf a0 x := f23_eq (Cc lf 5) lf a0 x
 rw [hcall]
 unfold f23_t
 have s1 := sz36 hlf (d := 5) (by omega) (T.sl a0) q0 x (by omega) (by omega)
 rcases s1 with e | ⟨y1, e, p1, z1⟩
 ·left
  rw [e]
  rfl
 rw [e]
 simp only [Option.bind_some, nth0, asI_i]
 rw [iLt_f (show ¬ (y1 < 0) by omega), cond_false]
 simp only [tl, tls] at z1
 refine .inr ⟨y1, rfl, by omega, ?_⟩
 simp only [tl, tls]
 omega
theorem sz24 (hlf : 33554432 ≤ lf) {d : Nat} (hd : 1 ≤ d) : SZ1 (Cc lf d) 24 (fitC (.sl true [.i .i64, .i .i64, .i .i64])) := by
 exact SZ1.le (Cc_le hd) (sz_flat1 (c := Cc lf 1) rfl fun l x => f24_eq (Cc lf 0) lf l x)
abbrev csfit_MMbScEibEiMiiiEb : List CT := [.sl true [.sl true [.b, .sl false [.i .u8]], .i .i64, .b], .i .i64, .sl true [.i .i64, .i .i64, .i .i64], .b]
theorem fit_MMbScEibEiMiiiEb {t : T} (h : fitE true csfit_MMbScEibEiMiiiEb t) : ∃ (a0 : List T) (a1 : Int) (a2 : List T) (a3 : Bool), t = .st [.sl a0, .i .i64 a1, .sl a2, .b a3] ∧ fitC (.sl true [.sl true [.b, .sl false [.i .u8]], .i .i64, .b]) (.sl a0) ∧ (Lit.int .i64 a1).wf = true ∧ fitC (.sl true [.i .i64, .i .i64, .i .i64]) (.sl a2) := by
 obtain ⟨l, rfl, h⟩ := fitE_st h
 obtain ⟨x0, l0, rfl, h0, h⟩ := fitCs_cons h
 obtain ⟨x1, l1, rfl, h1, h⟩ := fitCs_cons h
 obtain ⟨x2, l2, rfl, h2, h⟩ := fitCs_cons h
 obtain ⟨x3, l3, rfl, h3, h⟩ := fitCs_cons h
 obtain rfl := fitCs_nil h
 obtain ⟨a0, rfl, q0⟩ := fitC_sl h0
 obtain ⟨a1, rfl, q1⟩ := fitC_i h1
 obtain ⟨a2, rfl, q2⟩ := fitC_sl h2
 obtain ⟨a3, rfl⟩ := fitC_b h3
 exact ⟨a0, a1, a2, a3, rfl, q0, q1, q2⟩
theorem sz13 (hlf : 33554432 ≤ lf) {d : Nat} (hd : 7 ≤ d) : SZ1 (Cc lf d) 13 (fitE true csfit_MMbScEibEiMiiiEb) := by
 refine SZ1.le (Cc_le hd) ?_
 intro t ht x h0 h1
 obtain ⟨a0, a1, a2, a3, rfl, q0, q1, q2⟩ := fit_MMbScEibEiMiiiEb ht
 have hcall : Cc lf 7 13 [T.st [T.sl a0, T.i .i64 a1, T.sl a2, T.b a3], T.i .i64 x] = f13_t (Cc lf 6) lf a0 a1 a2 a3 x := f13_eq (Cc lf 6) lf a0 a1 a2 a3 x
 rw [hcall]
 unfold f13_t
 have s1 := sz23 hlf (d := 6) (by omega) (T.st [T.sl a0]) (show fitE true csfit_MMbScEibE (T.st [T.sl a0]) from ⟨q0, trivial⟩) x (by omega) (by omega)
 rcases s1 with e | ⟨y1, e, p1, z1⟩
 ·left
  rw [e]
  rfl
 rw [e]
 simp only [Option.bind_some, nth0, asI_i]
 rw [iLt_f (show ¬ (y1 < 0) by omega), cond_false]
 simp only [tl, tls] at z1
 have s2 := sz24 hlf (d := 6) (by omega) (T.sl a2) q2 y1 (by omega) (by omega)
 rcases s2 with e | ⟨y2, e, p2, z2⟩
 ·left
  rw [e]
  rfl
 rw [e]
 simp only [Option.bind_some, nth0, asI_i]
 rw [iLt_f (show ¬ (y2 < 0) by omega), cond_false]
 simp only [tl, tls] at z2
 refine .inr ⟨y2, rfl, by omega, ?_⟩
 simp only [tl, tls]
 omega
abbrev csfit_MMbScEibEiMiiiEbi : List CT := [.sl true [.sl true [.b, .sl false [.i .u8]], .i .i64, .b], .i .i64, .sl true [.i .i64, .i .i64, .i .i64], .b, .i .i64]
theorem fit_MMbScEibEiMiiiEbi {t : T} (h : fitE true csfit_MMbScEibEiMiiiEbi t) : ∃ (a0 : List T) (a1 : Int) (a2 : List T) (a3 : Bool) (a4 : Int), t = .st [.sl a0, .i .i64 a1, .sl a2, .b a3, .i .i64 a4] ∧ fitC (.sl true [.sl true [.b, .sl false [.i .u8]], .i .i64, .b]) (.sl a0) ∧ (Lit.int .i64 a1).wf = true ∧ fitC (.sl true [.i .i64, .i .i64, .i .i64]) (.sl a2) ∧ (Lit.int .i64 a4).wf = true := by
 obtain ⟨l, rfl, h⟩ := fitE_st h
 obtain ⟨x0, l0, rfl, h0, h⟩ := fitCs_cons h
 obtain ⟨x1, l1, rfl, h1, h⟩ := fitCs_cons h
 obtain ⟨x2, l2, rfl, h2, h⟩ := fitCs_cons h
 obtain ⟨x3, l3, rfl, h3, h⟩ := fitCs_cons h
 obtain ⟨x4, l4, rfl, h4, h⟩ := fitCs_cons h
 obtain rfl := fitCs_nil h
 obtain ⟨a0, rfl, q0⟩ := fitC_sl h0
 obtain ⟨a1, rfl, q1⟩ := fitC_i h1
 obtain ⟨a2, rfl, q2⟩ := fitC_sl h2
 obtain ⟨a3, rfl⟩ := fitC_b h3
 obtain ⟨a4, rfl, q4⟩ := fitC_i h4
 exact ⟨a0, a1, a2, a3, a4, rfl, q0, q1, q2, q4⟩
theorem sz4 (hlf : 33554432 ≤ lf) {d : Nat} (hd : 8 ≤ d) : SZ1 (Cc lf d) 4 (fitE true csfit_MMbScEibEiMiiiEbi) := by
 refine SZ1.le (Cc_le hd) ?_
 intro t ht x h0 h1
 obtain ⟨a0, a1, a2, a3, a4, rfl, q0, q1, q2, q4⟩ := fit_MMbScEibEiMiiiEbi ht
 have hcall : Cc lf 8 4 [T.st [T.sl a0, T.i .i64 a1, T.sl a2, T.b a3, T.i .i64 a4], T.i .i64 x] = f4_t (Cc lf 7) lf a0 a1 a2 a3 a4 x := f4_eq (Cc lf 7) lf a0 a1 a2 a3 a4 x
 rw [hcall]
 unfold f4_t
 have s1 := sz13 hlf (d := 7) (by omega) (T.st [T.sl a0, T.i .i64 a1, T.sl a2, T.b a3]) (show fitE true csfit_MMbScEibEiMiiiEb (T.st [T.sl a0, T.i .i64 a1, T.sl a2, T.b a3]) from ⟨q0, ⟨rfl, q1⟩, q2, trivial, trivial⟩) x (by omega) (by omega)
 rcases s1 with e | ⟨y1, e, p1, z1⟩
 ·left
  rw [e]
  rfl
 rw [e]
 simp only [Option.bind_some, nth0, asI_i]
 rw [iLt_f (show ¬ (y1 < 0) by omega), cond_false]
 simp only [tl, tls] at z1
 refine .inr ⟨y1, rfl, by omega, ?_⟩
 simp only [tl, tls]
 omega
theorem to79 (hlf : 33554432 ≤ lf) {d : Nat} (hd : 1 ≤ d) : TO1 (Cc lf d) 79 (fitC (.sl false [.i .u8])) := by
 exact TO1.le (Cc_le hd) (to_slice1 (c' := Cc lf 1) hlf (m := false) (F := fun l n i out => f79_0 (Cc lf 0) lf l n i out) (G := fun _ _ => some []) (V := fun l i _ => T.i .u8 (asI (l.getD i.toNat T.u))) (fun l => f79_eq (Cc lf 0) lf l) (fun l n i out => rfl) (fun l j h hf _ => by
  refine ⟨[], rfl, ?_⟩
  have hf : fitC (.i .u8) l[j] := hf
  obtain ⟨v, e, _⟩ := fitC_i hf
  simp only [getD_nat h, e]
  rfl))
theorem to75 (hlf : 33554432 ≤ lf) {d : Nat} (hd : 2 ≤ d) : TO1 (Cc lf d) 75 (fitE true csfit_bSc) := by
 refine TO1.le (Cc_le hd) ?_
 intro t ht hs
 obtain ⟨a0, a1, rfl, q1⟩ := fit_bSc ht
 simp only [tl, tls] at hs
 have hcall : Cc lf 2 75 [T.st [T.b a0, T.sl a1]] = f75_t (Cc lf 1) lf a0 a1 := f75_eq (Cc lf 1) lf a0 a1
 rw [hcall]
 unfold f75_t
 have e1 := to79 hlf (d := 1) (by omega) (T.sl a1) q1 (by simp only [tl, tls]; omega)
 simp only [e1, Option.bind_some, nth0, asL_l, asI_i, asB_b, asS_s, cell0, cellS]
theorem to67 (hlf : 33554432 ≤ lf) {d : Nat} (hd : 3 ≤ d) : TO1 (Cc lf d) 67 (fitC (.sl true [.b, .sl false [.i .u8]])) := by
 exact TO1.le (Cc_le hd) (to_slice1 (c' := Cc lf 3) hlf (F := fun l n i out => f67_0 (Cc lf 2) lf l n i out) (G := fun l i => Cc lf 2 75 [T.st [T.b (asB (T.cell (l.getD i.toNat T.u) 0)), T.sl (asL (T.cell (l.getD i.toNat T.u) 1))]]) (V := fun _ _ r => T.st [T.b (asB (T.cell (nth r 0) 0)), T.sl (asL (T.cell (nth r 0) 1))]) (fun l => f67_eq (Cc lf 2) lf l) (fun l n i out => rfl) (fun l j h hf hs => by
  have hto := to75 hlf (d := 2) (by omega) _ hf hs
  obtain ⟨a0, a1, e, _⟩ := fit_bSc hf
  rw [e] at hto
  simp only [getD_nat h, e]
  exact ⟨_, hto, rfl⟩))
theorem to54 (hlf : 33554432 ≤ lf) {d : Nat} (hd : 4 ≤ d) : TO1 (Cc lf d) 54 (fitE true csfit_MbScEib) := by
 refine TO1.le (Cc_le hd) ?_
 intro t ht hs
 obtain ⟨a0, a1, a2, rfl, q0, q1⟩ := fit_MbScEib ht
 simp only [tl, tls] at hs
 have hcall : Cc lf 4 54 [T.st [T.sl a0, T.i .i64 a1, T.b a2]] = f54_t (Cc lf 3) lf a0 a1 a2 := f54_eq (Cc lf 3) lf a0 a1 a2
 rw [hcall]
 unfold f54_t
 have e1 := to67 hlf (d := 3) (by omega) (T.sl a0) q0 (by simp only [tl, tls]; omega)
 simp only [e1, Option.bind_some, nth0, asL_l, asI_i, asB_b, asS_s, cell0, cellS]
theorem to41 (hlf : 33554432 ≤ lf) {d : Nat} (hd : 5 ≤ d) : TO1 (Cc lf d) 41 (fitC (.sl true [.sl true [.b, .sl false [.i .u8]], .i .i64, .b])) := by
 exact TO1.le (Cc_le hd) (to_slice1 (c' := Cc lf 5) hlf (F := fun l n i out => f41_0 (Cc lf 4) lf l n i out) (G := fun l i => Cc lf 4 54 [T.st [T.sl (asL (T.cell (l.getD i.toNat T.u) 0)), T.i .i64 (asI (T.cell (l.getD i.toNat T.u) 1)), T.b (asB (T.cell (l.getD i.toNat T.u) 2))]]) (V := fun _ _ r => T.st [T.sl (asL (T.cell (nth r 0) 0)), T.i .i64 (asI (T.cell (nth r 0) 1)), T.b (asB (T.cell (nth r 0) 2))]) (fun l => f41_eq (Cc lf 4) lf l) (fun l n i out => rfl) (fun l j h hf hs => by
  have hto := to54 hlf (d := 4) (by omega) _ hf hs
  obtain ⟨a0, a1, a2, e, _⟩ := fit_MbScEib hf
  rw [e] at hto
  simp only [getD_nat h, e]
  exact ⟨_, hto, rfl⟩))
theorem to27 (hlf : 33554432 ≤ lf) {d : Nat} (hd : 6 ≤ d) : TO1 (Cc lf d) 27 (fitE true csfit_MMbScEibE) := by
 refine TO1.le (Cc_le hd) ?_
 intro t ht hs
 obtain ⟨a0, rfl, q0⟩ := fit_MMbScEibE ht
 simp only [tl, tls] at hs
 have hcall : Cc lf 6 27 [T.st [T.sl a0]] = f27_t (Cc lf 5) lf a0 := f27_eq (Cc lf 5) lf a0
 rw [hcall]
 unfold f27_t
 have e1 := to41 hlf (d := 5) (by omega) (T.sl a0) q0 (by simp only [tl, tls]; omega)
 simp only [e1, Option.bind_some, nth0, asL_l, asI_i, asB_b, asS_s, cell0, cellS]
abbrev csfit_iii : List CT := [.i .i64, .i .i64, .i .i64]
theorem fit_iii {t : T} (h : fitE true csfit_iii t) : ∃ (a0 : Int) (a1 : Int) (a2 : Int), t = .st [.i .i64 a0, .i .i64 a1, .i .i64 a2] ∧ (Lit.int .i64 a0).wf = true ∧ (Lit.int .i64 a1).wf = true ∧ (Lit.int .i64 a2).wf = true := by
 obtain ⟨l, rfl, h⟩ := fitE_st h
 obtain ⟨x0, l0, rfl, h0, h⟩ := fitCs_cons h
 obtain ⟨x1, l1, rfl, h1, h⟩ := fitCs_cons h
 obtain ⟨x2, l2, rfl, h2, h⟩ := fitCs_cons h
 obtain rfl := fitCs_nil h
 obtain ⟨a0, rfl, q0⟩ := fitC_i h0
 obtain ⟨a1, rfl, q1⟩ := fitC_i h1
 obtain ⟨a2, rfl, q2⟩ := fitC_i h2
 exact ⟨a0, a1, a2, rfl, q0, q1, q2⟩
theorem to42 (hlf : 33554432 ≤ lf) {d : Nat} (hd : 1 ≤ d) : TO1 (Cc lf d) 42 (fitE true csfit_iii) := by
 refine TO1.le (Cc_le hd) ?_
 intro t ht hs
 obtain ⟨a0, a1, a2, rfl, q0, q1, q2⟩ := fit_iii ht
 simp only [tl, tls] at hs
 have hcall : Cc lf 1 42 [T.st [T.i .i64 a0, T.i .i64 a1, T.i .i64 a2]] = f42_t (Cc lf 0) lf a0 a1 a2 := f42_eq (Cc lf 0) lf a0 a1 a2
 rw [hcall]
 unfold f42_t
 rfl
theorem to28 (hlf : 33554432 ≤ lf) {d : Nat} (hd : 2 ≤ d) : TO1 (Cc lf d) 28 (fitC (.sl true [.i .i64, .i .i64, .i .i64])) := by
 exact TO1.le (Cc_le hd) (to_slice1 (c' := Cc lf 2) hlf (F := fun l n i out => f28_0 (Cc lf 1) lf l n i out) (G := fun l i => Cc lf 1 42 [T.st [T.i .i64 (asI (T.cell (l.getD i.toNat T.u) 0)), T.i .i64 (asI (T.cell (l.getD i.toNat T.u) 1)), T.i .i64 (asI (T.cell (l.getD i.toNat T.u) 2))]]) (V := fun _ _ r => T.st [T.i .i64 (asI (T.cell (nth r 0) 0)), T.i .i64 (asI (T.cell (nth r 0) 1)), T.i .i64 (asI (T.cell (nth r 0) 2))]) (fun l => f28_eq (Cc lf 1) lf l) (fun l n i out => rfl) (fun l j h hf hs => by
  have hto := to42 hlf (d := 1) (by omega) _ hf hs
  obtain ⟨a0, a1, a2, e, _⟩ := fit_iii hf
  rw [e] at hto
  simp only [getD_nat h, e]
  exact ⟨_, hto, rfl⟩))
theorem to15 (hlf : 33554432 ≤ lf) {d : Nat} (hd : 7 ≤ d) : TO1 (Cc lf d) 15 (fitE true csfit_MMbScEibEiMiiiEb) := by
 refine TO1.le (Cc_le hd) ?_
 intro t ht hs
 obtain ⟨a0, a1, a2, a3, rfl, q0, q1, q2⟩ := fit_MMbScEibEiMiiiEb ht
 simp only [tl, tls] at hs
 have hcall : Cc lf 7 15 [T.st [T.sl a0, T.i .i64 a1, T.sl a2, T.b a3]] = f15_t (Cc lf 6) lf a0 a1 a2 a3 := f15_eq (Cc lf 6) lf a0 a1 a2 a3
 rw [hcall]
 unfold f15_t
 have e1 := to27 hlf (d := 6) (by omega) (T.st [T.sl a0]) (show fitE true csfit_MMbScEibE (T.st [T.sl a0]) from ⟨q0, trivial⟩) (by simp only [tl, tls]; omega)
 have e2 := to28 hlf (d := 6) (by omega) (T.sl a2) q2 (by simp only [tl, tls]; omega)
 simp only [e1, e2, Option.bind_some, nth0, asL_l, asI_i, asB_b, asS_s, cell0, cellS]
theorem to6 (hlf : 33554432 ≤ lf) {d : Nat} (hd : 8 ≤ d) : TO1 (Cc lf d) 6 (fitE true csfit_MMbScEibEiMiiiEbi) := by
 refine TO1.le (Cc_le hd) ?_
 intro t ht hs
 obtain ⟨a0, a1, a2, a3, a4, rfl, q0, q1, q2, q4⟩ := fit_MMbScEibEiMiiiEbi ht
 simp only [tl, tls] at hs
 have hcall : Cc lf 8 6 [T.st [T.sl a0, T.i .i64 a1, T.sl a2, T.b a3, T.i .i64 a4]] = f6_t (Cc lf 7) lf a0 a1 a2 a3 a4 := f6_eq (Cc lf 7) lf a0 a1 a2 a3 a4
 rw [hcall]
 unfold f6_t
 have e1 := to15 hlf (d := 7) (by omega) (T.st [T.sl a0, T.i .i64 a1, T.sl a2, T.b a3]) (show fitE true csfit_MMbScEibEiMiiiEb (T.st [T.sl a0, T.i .i64 a1, T.sl a2, T.b a3]) from ⟨q0, ⟨rfl, q1⟩, q2, trivial, trivial⟩) (by simp only [tl, tls]; omega)
 simp only [e1, Option.bind_some, nth0, asL_l, asI_i, asB_b, asS_s, cell0, cellS]
theorem eq8 (hlf : 33554432 ≤ lf) {d : Nat} (hd : 1 ≤ d) : EQ1 (Cc lf d) 8 (fitC (.sl false [.i .i64])) := by
 exact EQ1.le (Cc_le hd) (eq_flat1 (c' := Cc lf 1) hlf (F := fun l l' n i => f8_0 (Cc lf 0) lf l l' n i) (N := fun l l' i => (asI (l.getD i.toNat T.u)) != (asI (l'.getD i.toNat T.u))) (fun l l' => f8_eq (Cc lf 0) lf l l') (fun l l' n i => rfl) (fun l i => by simp))
theorem eq80 (hlf : 33554432 ≤ lf) {d : Nat} (hd : 1 ≤ d) : EQ1 (Cc lf d) 80 (fitC (.sl false [.i .u8])) := by
 exact EQ1.le (Cc_le hd) (eq_flat1 (c' := Cc lf 1) hlf (F := fun l l' n i => f80_0 (Cc lf 0) lf l l' n i) (N := fun l l' i => (asI (l.getD i.toNat T.u)) != (asI (l'.getD i.toNat T.u))) (fun l l' => f80_eq (Cc lf 0) lf l l') (fun l l' n i => rfl) (fun l i => by simp))
theorem eq77 (hlf : 33554432 ≤ lf) {d : Nat} (hd : 2 ≤ d) : EQ1 (Cc lf d) 77 (fitE true csfit_bSc) := by
 refine EQ1.le (Cc_le hd) ?_
 intro t ht hs
 obtain ⟨a0, a1, rfl, q1⟩ := fit_bSc ht
 simp only [tl, tls] at hs
 have hcall : Cc lf 2 77 [T.st [T.b a0, T.sl a1], T.st [T.b a0, T.sl a1]] = f77_t (Cc lf 1) lf a0 a1 a0 a1 := f77_eq (Cc lf 1) lf a0 a1 a0 a1
 rw [hcall]
 unfold f77_t
 have e1 := eq80 hlf (d := 1) (by omega) (T.sl a1) q1 (by simp only [tl, tls]; omega)
 simp only [e1, Option.bind_some, nth0, asB_b, Bool.not_true, cond_false, ne_f, beq_self_eq_true]
theorem eq72 (hlf : 33554432 ≤ lf) {d : Nat} (hd : 3 ≤ d) : EQ1 (Cc lf d) 72 (fitC (.sl true [.b, .sl false [.i .u8]])) := by
 exact EQ1.le (Cc_le hd) (eq_slice1 (c' := Cc lf 3) hlf (F := fun l l' n i => f72_0 (Cc lf 2) lf l l' n i) (G := fun l l' i => Cc lf 2 77 [T.st [T.b (asB (T.cell (l.getD i.toNat T.u) 0)), T.sl (asL (T.cell (l.getD i.toNat T.u) 1))], T.st [T.b (asB (T.cell (l'.getD i.toNat T.u) 0)), T.sl (asL (T.cell (l'.getD i.toNat T.u) 1))]]) (fun l l' => f72_eq (Cc lf 2) lf l l') (fun l l' n i => rfl) (fun l j h hf hs => by
  have heq := eq77 hlf (d := 2) (by omega) _ hf hs
  obtain ⟨a0, a1, e, _⟩ := fit_bSc hf
  rw [e] at heq
  simp only [getD_nat h, e]
  exact heq))
theorem eq64 (hlf : 33554432 ≤ lf) {d : Nat} (hd : 4 ≤ d) : EQ1 (Cc lf d) 64 (fitE true csfit_MbScEib) := by
 refine EQ1.le (Cc_le hd) ?_
 intro t ht hs
 obtain ⟨a0, a1, a2, rfl, q0, q1⟩ := fit_MbScEib ht
 simp only [tl, tls] at hs
 have hcall : Cc lf 4 64 [T.st [T.sl a0, T.i .i64 a1, T.b a2], T.st [T.sl a0, T.i .i64 a1, T.b a2]] = f64_t (Cc lf 3) lf a0 a1 a2 a0 a1 a2 := f64_eq (Cc lf 3) lf a0 a1 a2 a0 a1 a2
 rw [hcall]
 unfold f64_t
 have e1 := eq72 hlf (d := 3) (by omega) (T.sl a0) q0 (by simp only [tl, tls]; omega)
 simp only [e1, Option.bind_some, nth0, asB_b, Bool.not_true, cond_false, ne_f, beq_self_eq_true]
theorem eq47 (hlf : 33554432 ≤ lf) {d : Nat} (hd : 5 ≤ d) : EQ1 (Cc lf d) 47 (fitC (.sl true [.sl true [.b, .sl false [.i .u8]], .i .i64, .b])) := by
 exact EQ1.le (Cc_le hd) (eq_slice1 (c' := Cc lf 5) hlf (F := fun l l' n i => f47_0 (Cc lf 4) lf l l' n i) (G := fun l l' i => Cc lf 4 64 [T.st [T.sl (asL (T.cell (l.getD i.toNat T.u) 0)), T.i .i64 (asI (T.cell (l.getD i.toNat T.u) 1)), T.b (asB (T.cell (l.getD i.toNat T.u) 2))], T.st [T.sl (asL (T.cell (l'.getD i.toNat T.u) 0)), T.i .i64 (asI (T.cell (l'.getD i.toNat T.u) 1)), T.b (asB (T.cell (l'.getD i.toNat T.u) 2))]]) (fun l l' => f47_eq (Cc lf 4) lf l l') (fun l l' n i => rfl) (fun l j h hf hs => by
  have heq := eq64 hlf (d := 4) (by omega) _ hf hs
  obtain ⟨a0, a1, a2, e, _⟩ := fit_MbScEib hf
  rw [e] at heq
  simp only [getD_nat h, e]
  exact heq))
theorem eq32 (hlf : 33554432 ≤ lf) {d : Nat} (hd : 6 ≤ d) : EQ1 (Cc lf d) 32 (fitE true csfit_MMbScEibE) := by
 refine EQ1.le (Cc_le hd) ?_
 intro t ht hs
 obtain ⟨a0, rfl, q0⟩ := fit_MMbScEibE ht
 simp only [tl, tls] at hs
 have hcall : Cc lf 6 32 [T.st [T.sl a0], T.st [T.sl a0]] = f32_t (Cc lf 5) lf a0 a0 := f32_eq (Cc lf 5) lf a0 a0
 rw [hcall]
 unfold f32_t
 have e1 := eq47 hlf (d := 5) (by omega) (T.sl a0) q0 (by simp only [tl, tls]; omega)
 simp only [e1, Option.bind_some, nth0, asB_b, Bool.not_true, cond_false, ne_f, beq_self_eq_true]
theorem eq48 (hlf : 33554432 ≤ lf) {d : Nat} (hd : 1 ≤ d) : EQ1 (Cc lf d) 48 (fitE true csfit_iii) := by
 refine EQ1.le (Cc_le hd) ?_
 intro t ht hs
 obtain ⟨a0, a1, a2, rfl, q0, q1, q2⟩ := fit_iii ht
 simp only [tl, tls] at hs
 have hcall : Cc lf 1 48 [T.st [T.i .i64 a0, T.i .i64 a1, T.i .i64 a2], T.st [T.i .i64 a0, T.i .i64 a1, T.i .i64 a2]] = f48_t (Cc lf 0) lf a0 a1 a2 a0 a1 a2 := f48_eq (Cc lf 0) lf a0 a1 a2 a0 a1 a2
 rw [hcall]
 unfold f48_t
 simp only [Option.bind_some, nth0, asB_b, Bool.not_true, cond_false, ne_f, beq_self_eq_true]
theorem eq33 (hlf : 33554432 ≤ lf) {d : Nat} (hd : 2 ≤ d) : EQ1 (Cc lf d) 33 (fitC (.sl true [.i .i64, .i .i64, .i .i64])) := by
 exact EQ1.le (Cc_le hd) (eq_slice1 (c' := Cc lf 2) hlf (F := fun l l' n i => f33_0 (Cc lf 1) lf l l' n i) (G := fun l l' i => Cc lf 1 48 [T.st [T.i .i64 (asI (T.cell (l.getD i.toNat T.u) 0)), T.i .i64 (asI (T.cell (l.getD i.toNat T.u) 1)), T.i .i64 (asI (T.cell (l.getD i.toNat T.u) 2))], T.st [T.i .i64 (asI (T.cell (l'.getD i.toNat T.u) 0)), T.i .i64 (asI (T.cell (l'.getD i.toNat T.u) 1)), T.i .i64 (asI (T.cell (l'.getD i.toNat T.u) 2))]]) (fun l l' => f33_eq (Cc lf 1) lf l l') (fun l l' n i => rfl) (fun l j h hf hs => by
  have heq := eq48 hlf (d := 1) (by omega) _ hf hs
  obtain ⟨a0, a1, a2, e, _⟩ := fit_iii hf
  rw [e] at heq
  simp only [getD_nat h, e]
  exact heq))
theorem eq21 (hlf : 33554432 ≤ lf) {d : Nat} (hd : 7 ≤ d) : EQ1 (Cc lf d) 21 (fitE true csfit_MMbScEibEiMiiiEb) := by
 refine EQ1.le (Cc_le hd) ?_
 intro t ht hs
 obtain ⟨a0, a1, a2, a3, rfl, q0, q1, q2⟩ := fit_MMbScEibEiMiiiEb ht
 simp only [tl, tls] at hs
 have hcall : Cc lf 7 21 [T.st [T.sl a0, T.i .i64 a1, T.sl a2, T.b a3], T.st [T.sl a0, T.i .i64 a1, T.sl a2, T.b a3]] = f21_t (Cc lf 6) lf a0 a1 a2 a3 a0 a1 a2 a3 := f21_eq (Cc lf 6) lf a0 a1 a2 a3 a0 a1 a2 a3
 rw [hcall]
 unfold f21_t
 have e1 := eq32 hlf (d := 6) (by omega) (T.st [T.sl a0]) (show fitE true csfit_MMbScEibE (T.st [T.sl a0]) from ⟨q0, trivial⟩) (by simp only [tl, tls]; omega)
 have e2 := eq33 hlf (d := 6) (by omega) (T.sl a2) q2 (by simp only [tl, tls]; omega)
 simp only [e1, e2, Option.bind_some, nth0, asB_b, Bool.not_true, cond_false, ne_f, beq_self_eq_true]
theorem eq9 (hlf : 33554432 ≤ lf) {d : Nat} (hd : 8 ≤ d) : EQ1 (Cc lf d) 9 (fitE true csfit_MMbScEibEiMiiiEbi) := by
 refine EQ1.le (Cc_le hd) ?_
 intro t ht hs
 obtain ⟨a0, a1, a2, a3, a4, rfl, q0, q1, q2, q4⟩ := fit_MMbScEibEiMiiiEbi ht
 simp only [tl, tls] at hs
 have hcall : Cc lf 8 9 [T.st [T.sl a0, T.i .i64 a1, T.sl a2, T.b a3, T.i .i64 a4], T.st [T.sl a0, T.i .i64 a1, T.sl a2, T.b a3, T.i .i64 a4]] = f9_t (Cc lf 7) lf a0 a1 a2 a3 a4 a0 a1 a2 a3 a4 := f9_eq (Cc lf 7) lf a0 a1 a2 a3 a4 a0 a1 a2 a3 a4
 rw [hcall]
 unfold f9_t
 have e1 := eq21 hlf (d := 7) (by omega) (T.st [T.sl a0, T.i .i64 a1, T.sl a2, T.b a3]) (show fitE true csfit_MMbScEibEiMiiiEb (T.st [T.sl a0, T.i .i64 a1, T.sl a2, T.b a3]) from ⟨q0, ⟨rfl, q1⟩, q2, trivial, trivial⟩) (by simp only [tl, tls]; omega)
 simp only [e1, Option.bind_some, nth0, asB_b, Bool.not_true, cond_false, ne_f, beq_self_eq_true]
theorem mk73 (hlf : 33554432 ≤ lf) {d : Nat} (hd : 1 ≤ d) : MK1 (Cc lf d) 73 false [.i .u8] := by
 refine MK1.le (Cc_le hd) (mk_slice1 (c' := Cc lf 1) hlf (M := fun n k i l => f73_0 (Cc lf 0) lf n k i l) (fun l k => f73_eq (Cc lf 0) lf l k) (fun n k l => ?_) ?_)
 ·rw [f73_0_u]
  unfold f73_0_s
  rw [iLt_f (by omega), cond_false]
 ·intro e0 j len hf ht hj hlen k h0 h1
  clear hf
  refine ⟨(k + 1), T.i .u8 (IntKind.wrap .u8 k), by omega, by omega, fun n l hl he => ?_⟩
  subst hl
  have g := getD_at he
  have hb : (j : Int) < (l.length : Int) := by omega
  have hr := inR_nat hj
  rw [f73_0_u]
  unfold f73_0_s
  simp (disch := omega) only [iLt_t hb, hr, cond_true, cond_false, Option.bind_some, nth0, nthS, asI_i, asB_b, asS_s, asL_l, Int.toNat_natCast, List.length_set, List.set_set, getD_set hj, T.setc, cell0, cellS, List.set_cons_zero, List.set_cons_succ, ne_f, beq_self_eq_true, Bool.not_true, Bool.not_false, Int.add_assoc, Int.reduceAdd, bne_self_eq_false, g, wrap_next hj, wrapK]
  first | done | rfl
theorem mk65 (hlf : 33554432 ≤ lf) {d : Nat} (hd : 2 ≤ d) : MK1 (Cc lf d) 65 true [.b, .sl false [.i .u8]] := by
 refine MK1.le (Cc_le hd) (mk_slice1 (c' := Cc lf 2) hlf (M := fun n k i l => f65_0 (Cc lf 1) lf n k i l) (fun l k => f65_eq (Cc lf 1) lf l k) (fun n k l => ?_) ?_)
 ·rw [f65_0_u]
  unfold f65_0_s
  rw [iLt_f (by omega), cond_false]
 ·intro e0 j len hf ht hj hlen k h0 h1
  obtain ⟨a0, a1, rfl, q1⟩ := fit_bSc hf
  obtain ⟨k1, b1, m1, u1, v1⟩ := mk73 hlf (d := 1) (by omega) a1 q1 (by simp only [tl, tls] at ht ⊢; omega) (k + 1) (by omega) (by simp only [tl, tls] at h1 ⊢; omega)
  simp only [tl] at v1
  refine ⟨k1, T.st [T.b ((k.tmod 3) == 0), T.sl b1], by omega, by simp only [tl, tls]; omega, fun n l hl he => ?_⟩
  subst hl
  have g := getD_at he
  have hb : (j : Int) < (l.length : Int) := by omega
  have hr := inR_nat hj
  rw [f65_0_u]
  unfold f65_0_s
  simp (disch := (simp only [tl, tls] at ht; omega)) only [iLt_t hb, hr, cond_true, cond_false, Option.bind_some, nth0, nthS, asI_i, asB_b, asS_s, asL_l, Int.toNat_natCast, List.length_set, List.set_set, getD_set hj, T.setc, cell0, cellS, List.set_cons_zero, List.set_cons_succ, ne_f, beq_self_eq_true, Bool.not_true, Bool.not_false, Int.add_assoc, Int.reduceAdd, bne_self_eq_false, m1, g, wrap_next hj, wrapK]
  first | done | rfl
theorem mk49 (hlf : 33554432 ≤ lf) {d : Nat} (hd : 3 ≤ d) : MK1 (Cc lf d) 49 true [.sl true [.b, .sl false [.i .u8]], .i .i64, .b] := by
 refine MK1.le (Cc_le hd) (mk_slice1 (c' := Cc lf 3) hlf (M := fun n k i l => f49_0 (Cc lf 2) lf n k i l) (fun l k => f49_eq (Cc lf 2) lf l k) (fun n k l => ?_) ?_)
 ·rw [f49_0_u]
  unfold f49_0_s
  rw [iLt_f (by omega), cond_false]
 ·intro e0 j len hf ht hj hlen k h0 h1
  obtain ⟨a0, a1, a2, rfl, q0, q1⟩ := fit_MbScEib hf
  obtain ⟨k1, b1, m1, u1, v1⟩ := mk65 hlf (d := 2) (by omega) a0 q0 (by simp only [tl, tls] at ht ⊢; omega) k (by omega) (by simp only [tl, tls] at h1 ⊢; omega)
  simp only [tl] at v1
  refine ⟨(k1 + 2), T.st [T.sl b1, T.i .i64 k1, T.b (((k1 + 1).tmod 3) == 0)], by omega, by simp only [tl, tls]; omega, fun n l hl he => ?_⟩
  subst hl
  have g := getD_at he
  have hb : (j : Int) < (l.length : Int) := by omega
  have hr := inR_nat hj
  rw [f49_0_u]
  unfold f49_0_s
  simp (disch := (simp only [tl, tls] at ht; omega)) only [iLt_t hb, hr, cond_true, cond_false, Option.bind_some, nth0, nthS, asI_i, asB_b, asS_s, asL_l, Int.toNat_natCast, List.length_set, List.set_set, getD_set hj, T.setc, cell0, cellS, List.set_cons_zero, List.set_cons_succ, ne_f, beq_self_eq_true, Bool.not_true, Bool.not_false, Int.add_assoc, Int.reduceAdd, bne_self_eq_false, m1, g, wrap_next hj, wrapK]
  first | done | rfl
theorem mo34 (hlf : 33554432 ≤ lf) {d : Nat} (hd : 4 ≤ d) {t : T} (hf : fitE true csfit_MMbScEibE t) (ht : tl t ≤ 16777216) (k : Int) (h0 : 0 ≤ k) (hk : k + 64 * (tl t : Int) ≤ 1152921504606846976) : ∃ (k' : Int) (b0 : List T), Cc lf d 34 [t, .i .i64 k] = some [.i .i64 k', .sl b0] ∧ k ≤ k' ∧ k' ≤ k + 64 * (tl t : Int) := by
 obtain ⟨a0, rfl, q0⟩ := fit_MMbScEibE hf
 obtain ⟨k1, b0, m1, u1, v1⟩ := mk49 hlf (d := 3) (by omega) a0 q0 (by simp only [tl, tls] at ht ⊢; omega) k (by omega) (by simp only [tl, tls] at hk ⊢; omega)
 simp only [tl] at v1
 refine ⟨k1, b0, Cc_le hd _ _ _ ?_, by omega, by simp only [tl, tls]; omega⟩
 refine (f34_eq (Cc lf 3) lf a0 k).trans ?_
 unfold f34 f34_t
 simp only [m1, Option.bind_some, nth0, nthS, asI_i, asL_l, asB_b, asS_s, cell0, cellS, cond_false, cond_true]
theorem mk35 (hlf : 33554432 ≤ lf) {d : Nat} (hd : 1 ≤ d) : MK1 (Cc lf d) 35 true [.i .i64, .i .i64, .i .i64] := by
 refine MK1.le (Cc_le hd) (mk_slice1 (c' := Cc lf 1) hlf (M := fun n k i l => f35_0 (Cc lf 0) lf n k i l) (fun l k => f35_eq (Cc lf 0) lf l k) (fun n k l => ?_) ?_)
 ·rw [f35_0_u]
  unfold f35_0_s
  rw [iLt_f (by omega), cond_false]
 ·intro e0 j len hf ht hj hlen k h0 h1
  obtain ⟨a0, a1, a2, rfl, q0, q1, q2⟩ := fit_iii hf
  refine ⟨(k + 3), T.st [T.i .i64 k, T.i .i64 (k + 1), T.i .i64 (k + 2)], by omega, by simp only [tl, tls]; omega, fun n l hl he => ?_⟩
  subst hl
  have g := getD_at he
  have hb : (j : Int) < (l.length : Int) := by omega
  have hr := inR_nat hj
  rw [f35_0_u]
  unfold f35_0_s
  simp (disch := (simp only [tl, tls] at ht; omega)) only [iLt_t hb, hr, cond_true, cond_false, Option.bind_some, nth0, nthS, asI_i, asB_b, asS_s, asL_l, Int.toNat_natCast, List.length_set, List.set_set, getD_set hj, T.setc, cell0, cellS, List.set_cons_zero, List.set_cons_succ, ne_f, beq_self_eq_true, Bool.not_true, Bool.not_false, Int.add_assoc, Int.reduceAdd, bne_self_eq_false, g, wrap_next hj, wrapK]
  first | done | rfl
theorem mo22 (hlf : 33554432 ≤ lf) {d : Nat} (hd : 5 ≤ d) {t : T} (hf : fitE true csfit_MMbScEibEiMiiiEb t) (ht : tl t ≤ 16777216) (k : Int) (h0 : 0 ≤ k) (hk : k + 64 * (tl t : Int) ≤ 1152921504606846976) : ∃ (k' : Int) (b0 : List T) (b2 : List T), Cc lf d 22 [t, .i .i64 k] = some [.i .i64 k', .sl b0, .sl b2] ∧ k ≤ k' ∧ k' ≤ k + 64 * (tl t : Int) := by
 obtain ⟨a0, a1, a2, a3, rfl, q0, q1, q2⟩ := fit_MMbScEibEiMiiiEb hf
 obtain ⟨k1, b0, m1, u1, v1⟩ := mo34 hlf (d := 4) (by omega) (t := T.st [T.sl a0]) (show fitE true csfit_MMbScEibE (T.st [T.sl a0]) from ⟨q0, trivial⟩) (by simp only [tl, tls] at ht ⊢; omega) k (by omega) (by simp only [tl, tls] at ht hk ⊢; omega)
 simp only [tl, tls] at v1
 obtain ⟨k2, b2, m2, u2, v2⟩ := mk35 hlf (d := 4) (by omega) a2 q2 (by simp only [tl, tls] at ht ⊢; omega) k1 (by omega) (by simp only [tl, tls] at hk ⊢; omega)
 simp only [tl] at v2
 refine ⟨k2, b0, b2, Cc_le hd _ _ _ ?_, by omega, by simp only [tl, tls]; omega⟩
 refine (f22_eq (Cc lf 4) lf a0 a1 a2 a3 k).trans ?_
 unfold f22 f22_t
 simp only [m1, m2, Option.bind_some, nth0, nthS, asI_i, asL_l, asB_b, asS_s, cell0, cellS, cond_false, cond_true]
theorem mo10 (hlf : 33554432 ≤ lf) {d : Nat} (hd : 6 ≤ d) {t : T} (hf : fitE true csfit_MMbScEibEiMiiiEbi t) (ht : tl t ≤ 16777216) (k : Int) (h0 : 0 ≤ k) (hk : k + 64 * (tl t : Int) ≤ 1152921504606846976) : ∃ (k' : Int) (b0 : List T) (b2 : List T), Cc lf d 10 [t, .i .i64 k] = some [.i .i64 k', .sl b0, .sl b2] ∧ k ≤ k' ∧ k' ≤ k + 64 * (tl t : Int) := by
 obtain ⟨a0, a1, a2, a3, a4, rfl, q0, q1, q2, q4⟩ := fit_MMbScEibEiMiiiEbi hf
 obtain ⟨k1, b0, b2, m1, u1, v1⟩ := mo22 hlf (d := 5) (by omega) (t := T.st [T.sl a0, T.i .i64 a1, T.sl a2, T.b a3]) (show fitE true csfit_MMbScEibEiMiiiEb (T.st [T.sl a0, T.i .i64 a1, T.sl a2, T.b a3]) from ⟨q0, ⟨rfl, q1⟩, q2, trivial, trivial⟩) (by simp only [tl, tls] at ht ⊢; omega) k (by omega) (by simp only [tl, tls] at ht hk ⊢; omega)
 simp only [tl, tls] at v1
 refine ⟨k1, b0, b2, Cc_le hd _ _ _ ?_, by omega, by simp only [tl, tls]; omega⟩
 refine (f10_eq (Cc lf 5) lf a0 a1 a2 a3 a4 k).trans ?_
 unfold f10 f10_t
 simp only [m1, Option.bind_some, nth0, nthS, asI_i, asL_l, asB_b, asS_s, cell0, cellS, cond_false, cond_true]
theorem mh11 (hlf : 33554432 ≤ lf) {d : Nat} (hd : 1 ≤ d) : MH1 (Cc lf d) 11 12 false [.i .i64] := by
 refine MH1.le (Cc_le hd) (mh_slice1 (c' := Cc lf 1) hlf (M := fun n k i l => f11_0 (Cc lf 0) lf n k i l) (H := fun l n k i => f12_0 (Cc lf 0) lf l n k i) (fun l k => f11_eq (Cc lf 0) lf l k) (fun l k => f12_eq (Cc lf 0) lf l k) (fun n k l => ?_) (fun l n k => ?_) ?_)
 ·show f11_0_s (Cc lf 0) lf _ _ _ _ = _
  unfold f11_0_s
  rw [iLt_f (by omega), cond_false]
 ·show f12_0_s (Cc lf 0) lf _ _ _ _ = _
  unfold f12_0_s
  rw [iLt_f (by omega), cond_false]
 ·intro e0 j len hf ht hj hlen k h0 h1
  clear hf
  refine ⟨(k + 1), T.i .i64 k, by omega, by omega, fun n l hl he => ?_, fun n l hl he => ?_⟩
  all_goals subst hl
  all_goals have g := getD_at he
  all_goals have hb : (j : Int) < (l.length : Int) := by omega
  all_goals have hr := inR_nat hj
  ·show f11_0_s (Cc lf 0) lf _ _ _ _ = _
   unfold f11_0_s
   simp (disch := omega) only [iLt_t hb, hr, cond_true, cond_false, Option.bind_some, nth0, nthS, asI_i, asB_b, asS_s, asL_l, Int.toNat_natCast, List.length_set, List.set_set, getD_set hj, T.setc, cell0, cellS, List.set_cons_zero, List.set_cons_succ, ne_f, beq_self_eq_true, Bool.not_true, Bool.not_false, Int.add_assoc, Int.reduceAdd, bne_self_eq_false, g, wrap_next hj, wrapK]
   first | done | rfl
  ·show f12_0_s (Cc lf 0) lf _ _ _ _ = _
   unfold f12_0_s
   simp (disch := omega) only [iLt_t hb, hr, cond_true, cond_false, Option.bind_some, nth0, nthS, asI_i, asB_b, asS_s, asL_l, Int.toNat_natCast, List.length_set, List.set_set, getD_set hj, T.setc, cell0, cellS, List.set_cons_zero, List.set_cons_succ, ne_f, beq_self_eq_true, Bool.not_true, Bool.not_false, Int.add_assoc, Int.reduceAdd, bne_self_eq_false, g, wrap_next hj, wrapK]
   first | done | rfl
end
end Go.Proofs.Ytmjahclmjgllbaa.T
