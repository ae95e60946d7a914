/- What functions of the law FnExactWrite come to, in trees; no condition. -/
import Derived.Test.YtdclnhlpifahpaaRows
import Derived.Test.YtdclnhlpifahpaaX1
set_option linter.unusedVariables false
set_option linter.constructorNameAsVariable false
set_option linter.unusedSimpArgs false
set_option linter.unnecessarySimpa false
namespace Go.Proofs.Ytdclnhlpifahpaa.T
open Go Go.Proofs.YtdclnhlpifahpaaV
set_option maxRecDepth 100000
/-- The functions, by depth. -/
noncomputable abbrev Cc (lf d : Nat) : Orc := orc X env lf 6 d
theorem Cc_le {lf d d' : Nat} (h : d ≤ d') : OLe (Cc lf d) (Cc lf d') := fun _ _ _ g => orc_le h g
section
variable {lf : Nat}
theorem sz259 (hlf : 33554432 ≤ lf) {d : Nat} (hd : 1 ≤ d) : SZ1 (Cc lf d) 259 (fitC (.sl false [.i .u8])) := by
  exact SZ1.le (Cc_le hd) (sz_flat1 (c := Cc lf 1) rfl fun l x => f259_eq (Cc lf 0) lf l x)
abbrev csfit_bSc : List CT := [.b, .sl false [.i .u8]]
theorem fit_bSc {t : T} (h : fitE true csfit_bSc t) : ∃ (a0 : Bool) (a1 : List T), t = .st [.b a0, .sl a1] ∧ fitC (.sl false [.i .u8]) (.sl a1) := by
  obtain ⟨l, rfl, h⟩ := fitE_st h
  obtain ⟨x0, l0, rfl, h0, h⟩ := fitCs_cons h
  obtain ⟨x1, l1, rfl, h1, h⟩ := fitCs_cons h
  obtain rfl := fitCs_nil h
  obtain ⟨a0, rfl⟩ := fitC_b h0
  obtain ⟨a1, rfl, q1⟩ := fitC_sl h1
  exact ⟨a0, a1, rfl, q1⟩
theorem sz252 (hlf : 33554432 ≤ lf) {d : Nat} (hd : 2 ≤ d) : SZ1 (Cc lf d) 252 (fitE true csfit_bSc) := by
  refine SZ1.le (Cc_le hd) ?_
  intro t ht x h0 h1
  obtain ⟨a0, a1, rfl, q1⟩ := fit_bSc ht
  have hcall : Cc lf 2 252 [T.st [T.b a0, T.sl a1], T.i .i64 x] = f252_t (Cc lf 1) lf a0 a1 x := f252_eq (Cc lf 1) lf a0 a1 x
  rw [hcall]
  unfold f252_t
  have s1 := sz259 hlf (d := 1) (by omega) (T.sl a1) q1 x (by omega) (by omega)
  rcases s1 with e | ⟨y1, e, p1, z1⟩
  · left
    rw [e]
    rfl
  rw [e]
  simp only [Option.bind_some, nth0, asI_i]
  rw [iLt_f (show ¬ (y1 < 0) by omega), cond_false]
  simp only [tl, tls] at z1
  refine .inr ⟨y1, rfl, by omega, ?_⟩
  simp only [tl, tls]
  omega
theorem sz242 (hlf : 33554432 ≤ lf) {d : Nat} (hd : 3 ≤ d) : SZ1 (Cc lf d) 242 (fitC (.sl true [.b, .sl false [.i .u8]])) := by
  exact SZ1.le (Cc_le hd) (sz_slice1 (c := Cc lf 2) (c' := Cc lf 3) hlf (sz252 hlf (Nat.le_refl _)) (F := fun l n x i => f242_0 (Cc lf 2) lf l n x i) (G := fun l i x => Cc lf 2 252 [T.st [T.b (asB (T.cell (l.getD i.toNat T.u) 0)), T.sl (asL (T.cell (l.getD i.toNat T.u) 1))], T.i .i64 x])
    (fun l x => f242_eq (Cc lf 2) lf l x) (fun l n x i => rfl) (fun l j x h hf => by
      obtain ⟨a0, a1, e, _⟩ := fit_bSc hf
      simp only [getD_nat h, e]
      rfl))
abbrev csfit_MbScEib : List CT := [.sl true [.b, .sl false [.i .u8]], .i .i64, .b]
theorem fit_MbScEib {t : T} (h : fitE true csfit_MbScEib t) : ∃ (a0 : List T) (a1 : Int) (a2 : Bool), t = .st [.sl a0, .i .i64 a1, .b a2] ∧ fitC (.sl true [.b, .sl false [.i .u8]]) (.sl a0) ∧ (Lit.int .i64 a1).wf = true := by
  obtain ⟨l, rfl, h⟩ := fitE_st h
  obtain ⟨x0, l0, rfl, h0, h⟩ := fitCs_cons h
  obtain ⟨x1, l1, rfl, h1, h⟩ := fitCs_cons h
  obtain ⟨x2, l2, rfl, h2, h⟩ := fitCs_cons h
  obtain rfl := fitCs_nil h
  obtain ⟨a0, rfl, q0⟩ := fitC_sl h0
  obtain ⟨a1, rfl, q1⟩ := fitC_i h1
  obtain ⟨a2, rfl⟩ := fitC_b h2
  exact ⟨a0, a1, a2, rfl, q0, q1⟩
theorem sz219 (hlf : 33554432 ≤ lf) {d : Nat} (hd : 4 ≤ d) : SZ1 (Cc lf d) 219 (fitE true csfit_MbScEib) := by
  refine SZ1.le (Cc_le hd) ?_
  intro t ht x h0 h1
  obtain ⟨a0, a1, a2, rfl, q0, q1⟩ := fit_MbScEib ht
  have hcall : Cc lf 4 219 [T.st [T.sl a0, T.i .i64 a1, T.b a2], T.i .i64 x] = f219_t (Cc lf 3) lf a0 a1 a2 x := f219_eq (Cc lf 3) lf a0 a1 a2 x
  rw [hcall]
  unfold f219_t
  have s1 := sz242 hlf (d := 3) (by omega) (T.sl a0) q0 x (by omega) (by omega)
  rcases s1 with e | ⟨y1, e, p1, z1⟩
  · left
    rw [e]
    rfl
  rw [e]
  simp only [Option.bind_some, nth0, asI_i]
  rw [iLt_f (show ¬ (y1 < 0) by omega), cond_false]
  simp only [tl, tls] at z1
  refine .inr ⟨y1, rfl, by omega, ?_⟩
  simp only [tl, tls]
  omega
theorem sz175 (hlf : 33554432 ≤ lf) {d : Nat} (hd : 5 ≤ d) : SZ1 (Cc lf d) 175 (fitC (.sl true [.sl true [.b, .sl false [.i .u8]], .i .i64, .b])) := by
  exact SZ1.le (Cc_le hd) (sz_slice1 (c := Cc lf 4) (c' := Cc lf 5) hlf (sz219 hlf (Nat.le_refl _)) (F := fun l n x i => f175_0 (Cc lf 4) lf l n x i) (G := fun l i x => Cc lf 4 219 [T.st [T.sl (asL (T.cell (l.getD i.toNat T.u) 0)), T.i .i64 (asI (T.cell (l.getD i.toNat T.u) 1)), T.b (asB (T.cell (l.getD i.toNat T.u) 2))], T.i .i64 x])
    (fun l x => f175_eq (Cc lf 4) lf l x) (fun l n x i => rfl) (fun l j x h hf => by
      obtain ⟨a0, a1, a2, e, _⟩ := fit_MbScEib hf
      simp only [getD_nat h, e]
      rfl))
abbrev csfit_MMbScEibE : List CT := [.sl true [.sl true [.b, .sl false [.i .u8]], .i .i64, .b]]
theorem fit_MMbScEibE {t : T} (h : fitE true csfit_MMbScEibE t) : ∃ (a0 : List T), t = .st [.sl a0] ∧ fitC (.sl true [.sl true [.b, .sl false [.i .u8]], .i .i64, .b]) (.sl a0) := by
  obtain ⟨l, rfl, h⟩ := fitE_st h
  obtain ⟨x0, l0, rfl, h0, h⟩ := fitCs_cons h
  obtain rfl := fitCs_nil h
  obtain ⟨a0, rfl, q0⟩ := fitC_sl h0
  exact ⟨a0, rfl, q0⟩
theorem sz122 (hlf : 33554432 ≤ lf) {d : Nat} (hd : 6 ≤ d) : SZ1 (Cc lf d) 122 (fitE true csfit_MMbScEibE) := by
  refine SZ1.le (Cc_le hd) ?_
  intro t ht x h0 h1
  obtain ⟨a0, rfl, q0⟩ := fit_MMbScEibE ht
  have hcall : Cc lf 6 122 [T.st [T.sl a0], T.i .i64 x] = f122_t (Cc lf 5) lf a0 x := f122_eq (Cc lf 5) lf a0 x
  rw [hcall]
  unfold f122_t
  have s1 := sz175 hlf (d := 5) (by omega) (T.sl a0) q0 x (by omega) (by omega)
  rcases s1 with e | ⟨y1, e, p1, z1⟩
  · left
    rw [e]
    rfl
  rw [e]
  simp only [Option.bind_some, nth0, asI_i]
  rw [iLt_f (show ¬ (y1 < 0) by omega), cond_false]
  simp only [tl, tls] at z1
  refine .inr ⟨y1, rfl, by omega, ?_⟩
  simp only [tl, tls]
  omega
theorem sz123 (hlf : 33554432 ≤ lf) {d : Nat} (hd : 1 ≤ d) : SZ1 (Cc lf d) 123 (fitC (.sl true [.i .i64, .i .i64, .i .i64])) := by
  exact SZ1.le (Cc_le hd) (sz_flat1 (c := Cc lf 1) rfl fun l x => f123_eq (Cc lf 0) lf l x)
abbrev csfit_MMbScEibEiMiiiEb : List CT := [.sl true [.sl true [.b, .sl false [.i .u8]], .i .i64, .b], .i .i64, .sl true [.i .i64, .i .i64, .i .i64], .b]
theorem fit_MMbScEibEiMiiiEb {t : T} (h : fitE true csfit_MMbScEibEiMiiiEb t) : ∃ (a0 : List T) (a1 : Int) (a2 : List T) (a3 : Bool), t = .st [.sl a0, .i .i64 a1, .sl a2, .b a3] ∧ fitC (.sl true [.sl true [.b, .sl false [.i .u8]], .i .i64, .b]) (.sl a0) ∧ (Lit.int .i64 a1).wf = true ∧ fitC (.sl true [.i .i64, .i .i64, .i .i64]) (.sl a2) := by
  obtain ⟨l, rfl, h⟩ := fitE_st h
  obtain ⟨x0, l0, rfl, h0, h⟩ := fitCs_cons h
  obtain ⟨x1, l1, rfl, h1, h⟩ := fitCs_cons h
  obtain ⟨x2, l2, rfl, h2, h⟩ := fitCs_cons h
  obtain ⟨x3, l3, rfl, h3, h⟩ := fitCs_cons h
  obtain rfl := fitCs_nil h
  obtain ⟨a0, rfl, q0⟩ := fitC_sl h0
  obtain ⟨a1, rfl, q1⟩ := fitC_i h1
  obtain ⟨a2, rfl, q2⟩ := fitC_sl h2
  obtain ⟨a3, rfl⟩ := fitC_b h3
  exact ⟨a0, a1, a2, a3, rfl, q0, q1, q2⟩
theorem sz69 (hlf : 33554432 ≤ lf) {d : Nat} (hd : 7 ≤ d) : SZ1 (Cc lf d) 69 (fitE true csfit_MMbScEibEiMiiiEb) := by
  refine SZ1.le (Cc_le hd) ?_
  intro t ht x h0 h1
  obtain ⟨a0, a1, a2, a3, rfl, q0, q1, q2⟩ := fit_MMbScEibEiMiiiEb ht
  have hcall : Cc lf 7 69 [T.st [T.sl a0, T.i .i64 a1, T.sl a2, T.b a3], T.i .i64 x] = f69_t (Cc lf 6) lf a0 a1 a2 a3 x := f69_eq (Cc lf 6) lf a0 a1 a2 a3 x
  rw [hcall]
  unfold f69_t
  have s1 := sz122 hlf (d := 6) (by omega) (T.st [T.sl a0]) (show fitE true csfit_MMbScEibE (T.st [T.sl a0]) from ⟨q0, trivial⟩) x (by omega) (by omega)
  rcases s1 with e | ⟨y1, e, p1, z1⟩
  · left
    rw [e]
    rfl
  rw [e]
  simp only [Option.bind_some, nth0, asI_i]
  rw [iLt_f (show ¬ (y1 < 0) by omega), cond_false]
  simp only [tl, tls] at z1
  have s2 := sz123 hlf (d := 6) (by omega) (T.sl a2) q2 y1 (by omega) (by omega)
  rcases s2 with e | ⟨y2, e, p2, z2⟩
  · left
    rw [e]
    rfl
  rw [e]
  simp only [Option.bind_some, nth0, asI_i]
  rw [iLt_f (show ¬ (y2 < 0) by omega), cond_false]
  simp only [tl, tls] at z2
  refine .inr ⟨y2, rfl, by omega, ?_⟩
  simp only [tl, tls]
  omega
abbrev csfit_MMbScEibEiMiiiEbi : List CT := [.sl true [.sl true [.b, .sl false [.i .u8]], .i .i64, .b], .i .i64, .sl true [.i .i64, .i .i64, .i .i64], .b, .i .i64]
theorem fit_MMbScEibEiMiiiEbi {t : T} (h : fitE true csfit_MMbScEibEiMiiiEbi t) : ∃ (a0 : List T) (a1 : Int) (a2 : List T) (a3 : Bool) (a4 : Int), t = .st [.sl a0, .i .i64 a1, .sl a2, .b a3, .i .i64 a4] ∧ fitC (.sl true [.sl true [.b, .sl false [.i .u8]], .i .i64, .b]) (.sl a0) ∧ (Lit.int .i64 a1).wf = true ∧ fitC (.sl true [.i .i64, .i .i64, .i .i64]) (.sl a2) ∧ (Lit.int .i64 a4).wf = true := by
  obtain ⟨l, rfl, h⟩ := fitE_st h
  obtain ⟨x0, l0, rfl, h0, h⟩ := fitCs_cons h
  obtain ⟨x1, l1, rfl, h1, h⟩ := fitCs_cons h
  obtain ⟨x2, l2, rfl, h2, h⟩ := fitCs_cons h
  obtain ⟨x3, l3, rfl, h3, h⟩ := fitCs_cons h
  obtain ⟨x4, l4, rfl, h4, h⟩ := fitCs_cons h
  obtain rfl := fitCs_nil h
  obtain ⟨a0, rfl, q0⟩ := fitC_sl h0
  obtain ⟨a1, rfl, q1⟩ := fitC_i h1
  obtain ⟨a2, rfl, q2⟩ := fitC_sl h2
  obtain ⟨a3, rfl⟩ := fitC_b h3
  obtain ⟨a4, rfl, q4⟩ := fitC_i h4
  exact ⟨a0, a1, a2, a3, a4, rfl, q0, q1, q2, q4⟩
theorem sz18 (hlf : 33554432 ≤ lf) {d : Nat} (hd : 8 ≤ d) : SZ1 (Cc lf d) 18 (fitE true csfit_MMbScEibEiMiiiEbi) := by
  refine SZ1.le (Cc_le hd) ?_
  intro t ht x h0 h1
  obtain ⟨a0, a1, a2, a3, a4, rfl, q0, q1, q2, q4⟩ := fit_MMbScEibEiMiiiEbi ht
  have hcall : Cc lf 8 18 [T.st [T.sl a0, T.i .i64 a1, T.sl a2, T.b a3, T.i .i64 a4], T.i .i64 x] = f18_t (Cc lf 7) lf a0 a1 a2 a3 a4 x := f18_eq (Cc lf 7) lf a0 a1 a2 a3 a4 x
  rw [hcall]
  unfold f18_t
  have s1 := sz69 hlf (d := 7) (by omega) (T.st [T.sl a0, T.i .i64 a1, T.sl a2, T.b a3]) (show fitE true csfit_MMbScEibEiMiiiEb (T.st [T.sl a0, T.i .i64 a1, T.sl a2, T.b a3]) from ⟨q0, ⟨rfl, q1⟩, q2, trivial, trivial⟩) x (by omega) (by omega)
  rcases s1 with e | ⟨y1, e, p1, z1⟩
  · left
    rw [e]
    rfl
  rw [e]
  simp only [Option.bind_some, nth0, asI_i]
  rw [iLt_f (show ¬ (y1 < 0) by omega), cond_false]
  simp only [tl, tls] at z1
  refine .inr ⟨y1, rfl, by omega, ?_⟩
  simp only [tl, tls]
  omega
theorem to47 (hlf : 33554432 ≤ lf) {d : Nat} (hd : 1 ≤ d) : TO1 (Cc lf d) 47 (fitC (.sl false [.i .u8])) := by
  exact TO1.le (Cc_le hd) (to_slice1 (c' := Cc lf 1) hlf (m := false) (F := fun l n i out => f47_0 (Cc lf 0) lf l n i out) (G := fun _ _ => some []) (V := fun l i _ => T.i .u8 (asI (l.getD i.toNat T.u))) (fun l => f47_eq (Cc lf 0) lf l) (fun l n i out => rfl) (fun l j h hf _ => by
    refine ⟨[], rfl, ?_⟩
    have hf : fitC (.i .u8) l[j] := hf
    obtain ⟨v, e, _⟩ := fitC_i hf
    simp only [getD_nat h, e]
    rfl))
theorem to253 (hlf : 33554432 ≤ lf) {d : Nat} (hd : 2 ≤ d) : TO1 (Cc lf d) 253 (fitE true csfit_bSc) := by
  refine TO1.le (Cc_le hd) ?_
  intro t ht hs
  obtain ⟨a0, a1, rfl, q1⟩ := fit_bSc ht
  simp only [tl, tls] at hs
  have hcall : Cc lf 2 253 [T.st [T.b a0, T.sl a1]] = f253_t (Cc lf 1) lf a0 a1 := f253_eq (Cc lf 1) lf a0 a1
  rw [hcall]
  unfold f253_t
  have e1 := to47 hlf (d := 1) (by omega) (T.sl a1) q1 (by simp only [tl, tls]; omega)
  simp only [e1, Option.bind_some, nth0, asL_l, asI_i, asB_b, asS_s, cell0, cellS]
theorem to243 (hlf : 33554432 ≤ lf) {d : Nat} (hd : 3 ≤ d) : TO1 (Cc lf d) 243 (fitC (.sl true [.b, .sl false [.i .u8]])) := by
  exact TO1.le (Cc_le hd) (to_slice1 (c' := Cc lf 3) hlf (F := fun l n i out => f243_0 (Cc lf 2) lf l n i out) (G := fun l i => Cc lf 2 253 [T.st [T.b (asB (T.cell (l.getD i.toNat T.u) 0)), T.sl (asL (T.cell (l.getD i.toNat T.u) 1))]]) (V := fun _ _ r => T.st [T.b (asB (T.cell (nth r 0) 0)), T.sl (asL (T.cell (nth r 0) 1))]) (fun l => f243_eq (Cc lf 2) lf l) (fun l n i out => rfl) (fun l j h hf hs => by
    have hto := to253 hlf (d := 2) (by omega) _ hf hs
    obtain ⟨a0, a1, e, _⟩ := fit_bSc hf
    rw [e] at hto
    simp only [getD_nat h, e]
    exact ⟨_, hto, rfl⟩))
theorem to220 (hlf : 33554432 ≤ lf) {d : Nat} (hd : 4 ≤ d) : TO1 (Cc lf d) 220 (fitE true csfit_MbScEib) := by
  refine TO1.le (Cc_le hd) ?_
  intro t ht hs
  obtain ⟨a0, a1, a2, rfl, q0, q1⟩ := fit_MbScEib ht
  simp only [tl, tls] at hs
  have hcall : Cc lf 4 220 [T.st [T.sl a0, T.i .i64 a1, T.b a2]] = f220_t (Cc lf 3) lf a0 a1 a2 := f220_eq (Cc lf 3) lf a0 a1 a2
  rw [hcall]
  unfold f220_t
  have e1 := to243 hlf (d := 3) (by omega) (T.sl a0) q0 (by simp only [tl, tls]; omega)
  simp only [e1, Option.bind_some, nth0, asL_l, asI_i, asB_b, asS_s, cell0, cellS]
theorem to177 (hlf : 33554432 ≤ lf) {d : Nat} (hd : 5 ≤ d) : TO1 (Cc lf d) 177 (fitC (.sl true [.sl true [.b, .sl false [.i .u8]], .i .i64, .b])) := by
  exact TO1.le (Cc_le hd) (to_slice1 (c' := Cc lf 5) hlf (F := fun l n i out => f177_0 (Cc lf 4) lf l n i out) (G := fun l i => Cc lf 4 220 [T.st [T.sl (asL (T.cell (l.getD i.toNat T.u) 0)), T.i .i64 (asI (T.cell (l.getD i.toNat T.u) 1)), T.b (asB (T.cell (l.getD i.toNat T.u) 2))]]) (V := fun _ _ r => T.st [T.sl (asL (T.cell (nth r 0) 0)), T.i .i64 (asI (T.cell (nth r 0) 1)), T.b (asB (T.cell (nth r 0) 2))]) (fun l => f177_eq (Cc lf 4) lf l) (fun l n i out => rfl) (fun l j h hf hs => by
    have hto := to220 hlf (d := 4) (by omega) _ hf hs
    obtain ⟨a0, a1, a2, e, _⟩ := fit_MbScEib hf
    rw [e] at hto
    simp only [getD_nat h, e]
    exact ⟨_, hto, rfl⟩))
theorem to126 (hlf : 33554432 ≤ lf) {d : Nat} (hd : 6 ≤ d) : TO1 (Cc lf d) 126 (fitE true csfit_MMbScEibE) := by
  refine TO1.le (Cc_le hd) ?_
  intro t ht hs
  obtain ⟨a0, rfl, q0⟩ := fit_MMbScEibE ht
  simp only [tl, tls] at hs
  have hcall : Cc lf 6 126 [T.st [T.sl a0]] = f126_t (Cc lf 5) lf a0 := f126_eq (Cc lf 5) lf a0
  rw [hcall]
  unfold f126_t
  have e1 := to177 hlf (d := 5) (by omega) (T.sl a0) q0 (by simp only [tl, tls]; omega)
  simp only [e1, Option.bind_some, nth0, asL_l, asI_i, asB_b, asS_s, cell0, cellS]
abbrev csfit_iii : List CT := [.i .i64, .i .i64, .i .i64]
theorem fit_iii {t : T} (h : fitE true csfit_iii t) : ∃ (a0 : Int) (a1 : Int) (a2 : Int), t = .st [.i .i64 a0, .i .i64 a1, .i .i64 a2] ∧ (Lit.int .i64 a0).wf = true ∧ (Lit.int .i64 a1).wf = true ∧ (Lit.int .i64 a2).wf = true := by
  obtain ⟨l, rfl, h⟩ := fitE_st h
  obtain ⟨x0, l0, rfl, h0, h⟩ := fitCs_cons h
  obtain ⟨x1, l1, rfl, h1, h⟩ := fitCs_cons h
  obtain ⟨x2, l2, rfl, h2, h⟩ := fitCs_cons h
  obtain rfl := fitCs_nil h
  obtain ⟨a0, rfl, q0⟩ := fitC_i h0
  obtain ⟨a1, rfl, q1⟩ := fitC_i h1
  obtain ⟨a2, rfl, q2⟩ := fitC_i h2
  exact ⟨a0, a1, a2, rfl, q0, q1, q2⟩
theorem to178 (hlf : 33554432 ≤ lf) {d : Nat} (hd : 1 ≤ d) : TO1 (Cc lf d) 178 (fitE true csfit_iii) := by
  refine TO1.le (Cc_le hd) ?_
  intro t ht hs
  obtain ⟨a0, a1, a2, rfl, q0, q1, q2⟩ := fit_iii ht
  simp only [tl, tls] at hs
  have hcall : Cc lf 1 178 [T.st [T.i .i64 a0, T.i .i64 a1, T.i .i64 a2]] = f178_t (Cc lf 0) lf a0 a1 a2 := f178_eq (Cc lf 0) lf a0 a1 a2
  rw [hcall]
  unfold f178_t
  rfl
theorem to127 (hlf : 33554432 ≤ lf) {d : Nat} (hd : 2 ≤ d) : TO1 (Cc lf d) 127 (fitC (.sl true [.i .i64, .i .i64, .i .i64])) := by
  exact TO1.le (Cc_le hd) (to_slice1 (c' := Cc lf 2) hlf (F := fun l n i out => f127_0 (Cc lf 1) lf l n i out) (G := fun l i => Cc lf 1 178 [T.st [T.i .i64 (asI (T.cell (l.getD i.toNat T.u) 0)), T.i .i64 (asI (T.cell (l.getD i.toNat T.u) 1)), T.i .i64 (asI (T.cell (l.getD i.toNat T.u) 2))]]) (V := fun _ _ r => T.st [T.i .i64 (asI (T.cell (nth r 0) 0)), T.i .i64 (asI (T.cell (nth r 0) 1)), T.i .i64 (asI (T.cell (nth r 0) 2))]) (fun l => f127_eq (Cc lf 1) lf l) (fun l n i out => rfl) (fun l j h hf hs => by
    have hto := to178 hlf (d := 1) (by omega) _ hf hs
    obtain ⟨a0, a1, a2, e, _⟩ := fit_iii hf
    rw [e] at hto
    simp only [getD_nat h, e]
    exact ⟨_, hto, rfl⟩))
theorem to73 (hlf : 33554432 ≤ lf) {d : Nat} (hd : 7 ≤ d) : TO1 (Cc lf d) 73 (fitE true csfit_MMbScEibEiMiiiEb) := by
  refine TO1.le (Cc_le hd) ?_
  intro t ht hs
  obtain ⟨a0, a1, a2, a3, rfl, q0, q1, q2⟩ := fit_MMbScEibEiMiiiEb ht
  simp only [tl, tls] at hs
  have hcall : Cc lf 7 73 [T.st [T.sl a0, T.i .i64 a1, T.sl a2, T.b a3]] = f73_t (Cc lf 6) lf a0 a1 a2 a3 := f73_eq (Cc lf 6) lf a0 a1 a2 a3
  rw [hcall]
  unfold f73_t
  have e1 := to126 hlf (d := 6) (by omega) (T.st [T.sl a0]) (show fitE true csfit_MMbScEibE (T.st [T.sl a0]) from ⟨q0, trivial⟩) (by simp only [tl, tls]; omega)
  have e2 := to127 hlf (d := 6) (by omega) (T.sl a2) q2 (by simp only [tl, tls]; omega)
  simp only [e1, e2, Option.bind_some, nth0, asL_l, asI_i, asB_b, asS_s, cell0, cellS]
theorem to20 (hlf : 33554432 ≤ lf) {d : Nat} (hd : 8 ≤ d) : TO1 (Cc lf d) 20 (fitE true csfit_MMbScEibEiMiiiEbi) := by
  refine TO1.le (Cc_le hd) ?_
  intro t ht hs
  obtain ⟨a0, a1, a2, a3, a4, rfl, q0, q1, q2, q4⟩ := fit_MMbScEibEiMiiiEbi ht
  simp only [tl, tls] at hs
  have hcall : Cc lf 8 20 [T.st [T.sl a0, T.i .i64 a1, T.sl a2, T.b a3, T.i .i64 a4]] = f20_t (Cc lf 7) lf a0 a1 a2 a3 a4 := f20_eq (Cc lf 7) lf a0 a1 a2 a3 a4
  rw [hcall]
  unfold f20_t
  have e1 := to73 hlf (d := 7) (by omega) (T.st [T.sl a0, T.i .i64 a1, T.sl a2, T.b a3]) (show fitE true csfit_MMbScEibEiMiiiEb (T.st [T.sl a0, T.i .i64 a1, T.sl a2, T.b a3]) from ⟨q0, ⟨rfl, q1⟩, q2, trivial, trivial⟩) (by simp only [tl, tls]; omega)
  simp only [e1, Option.bind_some, nth0, asL_l, asI_i, asB_b, asS_s, cell0, cellS]
theorem eq48 (hlf : 33554432 ≤ lf) {d : Nat} (hd : 1 ≤ d) : EQ1 (Cc lf d) 48 (fitC (.sl false [.i .u8])) := by
  exact EQ1.le (Cc_le hd) (eq_flat1 (c' := Cc lf 1) hlf (F := fun l l' n i => f48_0 (Cc lf 0) lf l l' n i) (N := fun l l' i => (asI (l.getD i.toNat T.u)) != (asI (l'.getD i.toNat T.u))) (fun l l' => f48_eq (Cc lf 0) lf l l') (fun l l' n i => rfl) (fun l i => by simp))
theorem eq254 (hlf : 33554432 ≤ lf) {d : Nat} (hd : 2 ≤ d) : EQ1 (Cc lf d) 254 (fitE true csfit_bSc) := by
  refine EQ1.le (Cc_le hd) ?_
  intro t ht hs
  obtain ⟨a0, a1, rfl, q1⟩ := fit_bSc ht
  simp only [tl, tls] at hs
  have hcall : Cc lf 2 254 [T.st [T.b a0, T.sl a1], T.st [T.b a0, T.sl a1]] = f254_t (Cc lf 1) lf a0 a1 a0 a1 := f254_eq (Cc lf 1) lf a0 a1 a0 a1
  rw [hcall]
  unfold f254_t
  have e1 := eq48 hlf (d := 1) (by omega) (T.sl a1) q1 (by simp only [tl, tls]; omega)
  simp only [e1, Option.bind_some, nth0, asB_b, Bool.not_true, cond_false, ne_f, beq_self_eq_true]
theorem eq244 (hlf : 33554432 ≤ lf) {d : Nat} (hd : 3 ≤ d) : EQ1 (Cc lf d) 244 (fitC (.sl true [.b, .sl false [.i .u8]])) := by
  exact EQ1.le (Cc_le hd) (eq_slice1 (c' := Cc lf 3) hlf (F := fun l l' n i => f244_0 (Cc lf 2) lf l l' n i) (G := fun l l' i => Cc lf 2 254 [T.st [T.b (asB (T.cell (l.getD i.toNat T.u) 0)), T.sl (asL (T.cell (l.getD i.toNat T.u) 1))], T.st [T.b (asB (T.cell (l'.getD i.toNat T.u) 0)), T.sl (asL (T.cell (l'.getD i.toNat T.u) 1))]]) (fun l l' => f244_eq (Cc lf 2) lf l l') (fun l l' n i => rfl) (fun l j h hf hs => by
    have heq := eq254 hlf (d := 2) (by omega) _ hf hs
    obtain ⟨a0, a1, e, _⟩ := fit_bSc hf
    rw [e] at heq
    simp only [getD_nat h, e]
    exact heq))
theorem eq221 (hlf : 33554432 ≤ lf) {d : Nat} (hd : 4 ≤ d) : EQ1 (Cc lf d) 221 (fitE true csfit_MbScEib) := by
  refine EQ1.le (Cc_le hd) ?_
  intro t ht hs
  obtain ⟨a0, a1, a2, rfl, q0, q1⟩ := fit_MbScEib ht
  simp only [tl, tls] at hs
  have hcall : Cc lf 4 221 [T.st [T.sl a0, T.i .i64 a1, T.b a2], T.st [T.sl a0, T.i .i64 a1, T.b a2]] = f221_t (Cc lf 3) lf a0 a1 a2 a0 a1 a2 := f221_eq (Cc lf 3) lf a0 a1 a2 a0 a1 a2
  rw [hcall]
  unfold f221_t
  have e1 := eq244 hlf (d := 3) (by omega) (T.sl a0) q0 (by simp only [tl, tls]; omega)
  simp only [e1, Option.bind_some, nth0, asB_b, Bool.not_true, cond_false, ne_f, beq_self_eq_true]
theorem eq179 (hlf : 33554432 ≤ lf) {d : Nat} (hd : 5 ≤ d) : EQ1 (Cc lf d) 179 (fitC (.sl true [.sl true [.b, .sl false [.i .u8]], .i .i64, .b])) := by
  exact EQ1.le (Cc_le hd) (eq_slice1 (c' := Cc lf 5) hlf (F := fun l l' n i => f179_0 (Cc lf 4) lf l l' n i) (G := fun l l' i => Cc lf 4 221 [T.st [T.sl (asL (T.cell (l.getD i.toNat T.u) 0)), T.i .i64 (asI (T.cell (l.getD i.toNat T.u) 1)), T.b (asB (T.cell (l.getD i.toNat T.u) 2))], T.st [T.sl (asL (T.cell (l'.getD i.toNat T.u) 0)), T.i .i64 (asI (T.cell (l'.getD i.toNat T.u) 1)), T.b (asB (T.cell (l'.getD i.toNat T.u) 2))]]) (fun l l' => f179_eq (Cc lf 4) lf l l') (fun l l' n i => rfl) (fun l j h hf hs => by
    have heq := eq221 hlf (d := 4) (by omega) _ hf hs
    obtain ⟨a0, a1, a2, e, _⟩ := fit_MbScEib hf
    rw [e] at heq
    simp only [getD_nat h, e]
    exact heq))
theorem eq129 (hlf : 33554432 ≤ lf) {d : Nat} (hd : 6 ≤ d) : EQ1 (Cc lf d) 129 (fitE true csfit_MMbScEibE) := by
  refine EQ1.le (Cc_le hd) ?_
  intro t ht hs
  obtain ⟨a0, rfl, q0⟩ := fit_MMbScEibE ht
  simp only [tl, tls] at hs
  have hcall : Cc lf 6 129 [T.st [T.sl a0], T.st [T.sl a0]] = f129_t (Cc lf 5) lf a0 a0 := f129_eq (Cc lf 5) lf a0 a0
  rw [hcall]
  unfold f129_t
  have e1 := eq179 hlf (d := 5) (by omega) (T.sl a0) q0 (by simp only [tl, tls]; omega)
  simp only [e1, Option.bind_some, nth0, asB_b, Bool.not_true, cond_false, ne_f, beq_self_eq_true]
theorem eq180 (hlf : 33554432 ≤ lf) {d : Nat} (hd : 1 ≤ d) : EQ1 (Cc lf d) 180 (fitE true csfit_iii) := by
  refine EQ1.le (Cc_le hd) ?_
  intro t ht hs
  obtain ⟨a0, a1, a2, rfl, q0, q1, q2⟩ := fit_iii ht
  simp only [tl, tls] at hs
  have hcall : Cc lf 1 180 [T.st [T.i .i64 a0, T.i .i64 a1, T.i .i64 a2], T.st [T.i .i64 a0, T.i .i64 a1, T.i .i64 a2]] = f180_t (Cc lf 0) lf a0 a1 a2 a0 a1 a2 := f180_eq (Cc lf 0) lf a0 a1 a2 a0 a1 a2
  rw [hcall]
  unfold f180_t
  simp only [Option.bind_some, nth0, asB_b, Bool.not_true, cond_false, ne_f, beq_self_eq_true]
theorem eq130 (hlf : 33554432 ≤ lf) {d : Nat} (hd : 2 ≤ d) : EQ1 (Cc lf d) 130 (fitC (.sl true [.i .i64, .i .i64, .i .i64])) := by
  exact EQ1.le (Cc_le hd) (eq_slice1 (c' := Cc lf 2) hlf (F := fun l l' n i => f130_0 (Cc lf 1) lf l l' n i) (G := fun l l' i => Cc lf 1 180 [T.st [T.i .i64 (asI (T.cell (l.getD i.toNat T.u) 0)), T.i .i64 (asI (T.cell (l.getD i.toNat T.u) 1)), T.i .i64 (asI (T.cell (l.getD i.toNat T.u) 2))], T.st [T.i .i64 (asI (T.cell (l'.getD i.toNat T.u) 0)), T.i .i64 (asI (T.cell (l'.getD i.toNat T.u) 1)), T.i .i64 (asI (T.cell (l'.getD i.toNat T.u) 2))]]) (fun l l' => f130_eq (Cc lf 1) lf l l') (fun l l' n i => rfl) (fun l j h hf hs => by
    have heq := eq180 hlf (d := 1) (by omega) _ hf hs
    obtain ⟨a0, a1, a2, e, _⟩ := fit_iii hf
    rw [e] at heq
    simp only [getD_nat h, e]
    exact heq))
theorem eq78 (hlf : 33554432 ≤ lf) {d : Nat} (hd : 7 ≤ d) : EQ1 (Cc lf d) 78 (fitE true csfit_MMbScEibEiMiiiEb) := by
  refine EQ1.le (Cc_le hd) ?_
  intro t ht hs
  obtain ⟨a0, a1, a2, a3, rfl, q0, q1, q2⟩ := fit_MMbScEibEiMiiiEb ht
  simp only [tl, tls] at hs
  have hcall : Cc lf 7 78 [T.st [T.sl a0, T.i .i64 a1, T.sl a2, T.b a3], T.st [T.sl a0, T.i .i64 a1, T.sl a2, T.b a3]] = f78_t (Cc lf 6) lf a0 a1 a2 a3 a0 a1 a2 a3 := f78_eq (Cc lf 6) lf a0 a1 a2 a3 a0 a1 a2 a3
  rw [hcall]
  unfold f78_t
  have e1 := eq129 hlf (d := 6) (by omega) (T.st [T.sl a0]) (show fitE true csfit_MMbScEibE (T.st [T.sl a0]) from ⟨q0, trivial⟩) (by simp only [tl, tls]; omega)
  have e2 := eq130 hlf (d := 6) (by omega) (T.sl a2) q2 (by simp only [tl, tls]; omega)
  simp only [e1, e2, Option.bind_some, nth0, asB_b, Bool.not_true, cond_false, ne_f, beq_self_eq_true]
theorem eq22 (hlf : 33554432 ≤ lf) {d : Nat} (hd : 8 ≤ d) : EQ1 (Cc lf d) 22 (fitE true csfit_MMbScEibEiMiiiEbi) := by
  refine EQ1.le (Cc_le hd) ?_
  intro t ht hs
  obtain ⟨a0, a1, a2, a3, a4, rfl, q0, q1, q2, q4⟩ := fit_MMbScEibEiMiiiEbi ht
  simp only [tl, tls] at hs
  have hcall : Cc lf 8 22 [T.st [T.sl a0, T.i .i64 a1, T.sl a2, T.b a3, T.i .i64 a4], T.st [T.sl a0, T.i .i64 a1, T.sl a2, T.b a3, T.i .i64 a4]] = f22_t (Cc lf 7) lf a0 a1 a2 a3 a4 a0 a1 a2 a3 a4 := f22_eq (Cc lf 7) lf a0 a1 a2 a3 a4 a0 a1 a2 a3 a4
  rw [hcall]
  unfold f22_t
  have e1 := eq78 hlf (d := 7) (by omega) (T.st [T.sl a0, T.i .i64 a1, T.sl a2, T.b a3]) (show fitE true csfit_MMbScEibEiMiiiEb (T.st [T.sl a0, T.i .i64 a1, T.sl a2, T.b a3]) from ⟨q0, ⟨rfl, q1⟩, q2, trivial, trivial⟩) (by simp only [tl, tls]; omega)
  simp only [e1, Option.bind_some, nth0, asB_b, Bool.not_true, cond_false, ne_f, beq_self_eq_true]
theorem mh49 (hlf : 33554432 ≤ lf) {d : Nat} (hd : 1 ≤ d) : MH1 (Cc lf d) 49 83 false [.i .u8] := by
  refine MH1.le (Cc_le hd) (mh_slice1 (c' := Cc lf 1) hlf (M := fun n k i l => f49_0 (Cc lf 0) lf n k i l) (H := fun l n k i => f83_0 (Cc lf 0) lf l n k i) (fun l k => f49_eq (Cc lf 0) lf l k) (fun l k => f83_eq (Cc lf 0) lf l k) (fun n k l => ?_) (fun l n k => ?_) ?_)
  · show f49_0_s (Cc lf 0) lf _ _ _ _ = _
    unfold f49_0_s
    rw [iLt_f (by omega), cond_false]
  · show f83_0_s (Cc lf 0) lf _ _ _ _ = _
    unfold f83_0_s
    rw [iLt_f (by omega), cond_false]
  · intro e0 j len hf ht hj hlen k h0 h1
    clear hf

    refine ⟨(k + 1), T.i .u8 (IntKind.wrap .u8 k), by omega, by omega, fun n l hl he => ?_, fun n l hl he => ?_⟩
    all_goals subst hl
    all_goals have g := getD_at he
    all_goals have hb : (j : Int) < (l.length : Int) := by omega
    all_goals have hr := inR_nat hj
    · show f49_0_s (Cc lf 0) lf _ _ _ _ = _
      unfold f49_0_s
      simp (disch := omega) only [iLt_t hb, hr, cond_true, cond_false, Option.bind_some, nth0, nthS, asI_i, asB_b, asS_s, asL_l, Int.toNat_natCast, List.length_set, List.set_set, getD_set hj, T.setc, cell0, cellS, List.set_cons_zero, List.set_cons_succ, ne_f, beq_self_eq_true, Bool.not_true, Bool.not_false, Int.add_assoc, Int.reduceAdd, bne_self_eq_false, g, wrap_next hj, wrapK]
      first | done | rfl
    · show f83_0_s (Cc lf 0) lf _ _ _ _ = _
      unfold f83_0_s
      simp (disch := omega) only [iLt_t hb, hr, cond_true, cond_false, Option.bind_some, nth0, nthS, asI_i, asB_b, asS_s, asL_l, Int.toNat_natCast, List.length_set, List.set_set, getD_set hj, T.setc, cell0, cellS, List.set_cons_zero, List.set_cons_succ, ne_f, beq_self_eq_true, Bool.not_true, Bool.not_false, Int.add_assoc, Int.reduceAdd, bne_self_eq_false, g, wrap_next hj, wrapK]
      first | done | rfl
theorem mk49 (hlf : 33554432 ≤ lf) {d : Nat} (hd : 1 ≤ d) : MK1 (Cc lf d) 49 false [.i .u8] := fun l hl hs k h0 h1 => by
  obtain ⟨k', l', g1, _, g3⟩ := mh49 hlf hd l hl hs k h0 h1
  exact ⟨k', l', g1, g3⟩
theorem mh224 (hlf : 33554432 ≤ lf) {d : Nat} (hd : 2 ≤ d) : MH1 (Cc lf d) 224 230 true [.b, .sl false [.i .u8]] := by
  refine MH1.le (Cc_le hd) (mh_slice1 (c' := Cc lf 2) hlf (M := fun n k i l => f224_0 (Cc lf 1) lf n k i l) (H := fun l n k i => f230_0 (Cc lf 1) lf l n k i) (fun l k => f224_eq (Cc lf 1) lf l k) (fun l k => f230_eq (Cc lf 1) lf l k) (fun n k l => ?_) (fun l n k => ?_) ?_)
  · show f224_0_s (Cc lf 1) lf _ _ _ _ = _
    unfold f224_0_s
    rw [iLt_f (by omega), cond_false]
  · show f230_0_s (Cc lf 1) lf _ _ _ _ = _
    unfold f230_0_s
    rw [iLt_f (by omega), cond_false]
  · intro e0 j len hf ht hj hlen k h0 h1
    obtain ⟨a0, a1, rfl, q1⟩ := fit_bSc hf
    obtain ⟨k1, b1, m1, o1, u1, v1⟩ := mh49 hlf (d := 1) (by omega) a1 q1 (by simp only [tl, tls] at ht ⊢; omega) (k + 1) (by omega) (by simp only [tl, tls] at h1 ⊢; omega)
    simp only [tl] at v1
    refine ⟨k1, T.st [T.b ((k.tmod 3) == 0), T.sl b1], by omega, by simp only [tl, tls]; omega, fun n l hl he => ?_, fun n l hl he => ?_⟩
    all_goals subst hl
    all_goals have g := getD_at he
    all_goals have hb : (j : Int) < (l.length : Int) := by omega
    all_goals have hr := inR_nat hj
    · show f224_0_s (Cc lf 1) lf _ _ _ _ = _
      unfold f224_0_s
      simp (disch := (simp only [tl, tls] at ht; omega)) only [iLt_t hb, hr, cond_true, cond_false, Option.bind_some, nth0, nthS, asI_i, asB_b, asS_s, asL_l, Int.toNat_natCast, List.length_set, List.set_set, getD_set hj, T.setc, cell0, cellS, List.set_cons_zero, List.set_cons_succ, ne_f, beq_self_eq_true, Bool.not_true, Bool.not_false, Int.add_assoc, Int.reduceAdd, bne_self_eq_false, m1, g, wrap_next hj, wrapK]
      first | done | rfl
    · show f230_0_s (Cc lf 1) lf _ _ _ _ = _
      unfold f230_0_s
      simp (disch := (simp only [tl, tls] at ht; omega)) only [iLt_t hb, hr, cond_true, cond_false, Option.bind_some, nth0, nthS, asI_i, asB_b, asS_s, asL_l, Int.toNat_natCast, List.length_set, List.set_set, getD_set hj, T.setc, cell0, cellS, List.set_cons_zero, List.set_cons_succ, ne_f, beq_self_eq_true, Bool.not_true, Bool.not_false, Int.add_assoc, Int.reduceAdd, bne_self_eq_false, o1, iLt_f (show ¬ (k1 < 0) by omega), g, wrap_next hj, wrapK]
      first | done | rfl
theorem mk224 (hlf : 33554432 ≤ lf) {d : Nat} (hd : 2 ≤ d) : MK1 (Cc lf d) 224 true [.b, .sl false [.i .u8]] := fun l hl hs k h0 h1 => by
  obtain ⟨k', l', g1, _, g3⟩ := mh224 hlf hd l hl hs k h0 h1
  exact ⟨k', l', g1, g3⟩
theorem mh187 (hlf : 33554432 ≤ lf) {d : Nat} (hd : 3 ≤ d) : MH1 (Cc lf d) 187 203 true [.sl true [.b, .sl false [.i .u8]], .i .i64, .b] := by
  refine MH1.le (Cc_le hd) (mh_slice1 (c' := Cc lf 3) hlf (M := fun n k i l => f187_0 (Cc lf 2) lf n k i l) (H := fun l n k i => f203_0 (Cc lf 2) lf l n k i) (fun l k => f187_eq (Cc lf 2) lf l k) (fun l k => f203_eq (Cc lf 2) lf l k) (fun n k l => ?_) (fun l n k => ?_) ?_)
  · show f187_0_s (Cc lf 2) lf _ _ _ _ = _
    unfold f187_0_s
    rw [iLt_f (by omega), cond_false]
  · show f203_0_s (Cc lf 2) lf _ _ _ _ = _
    unfold f203_0_s
    rw [iLt_f (by omega), cond_false]
  · intro e0 j len hf ht hj hlen k h0 h1
    obtain ⟨a0, a1, a2, rfl, q0, q1⟩ := fit_MbScEib hf
    obtain ⟨k1, b1, m1, o1, u1, v1⟩ := mh224 hlf (d := 2) (by omega) a0 q0 (by simp only [tl, tls] at ht ⊢; omega) k (by omega) (by simp only [tl, tls] at h1 ⊢; omega)
    simp only [tl] at v1
    refine ⟨(k1 + 2), T.st [T.sl b1, T.i .i64 k1, T.b (((k1 + 1).tmod 3) == 0)], by omega, by simp only [tl, tls]; omega, fun n l hl he => ?_, fun n l hl he => ?_⟩
    all_goals subst hl
    all_goals have g := getD_at he
    all_goals have hb : (j : Int) < (l.length : Int) := by omega
    all_goals have hr := inR_nat hj
    · show f187_0_s (Cc lf 2) lf _ _ _ _ = _
      unfold f187_0_s
      simp (disch := (simp only [tl, tls] at ht; omega)) only [iLt_t hb, hr, cond_true, cond_false, Option.bind_some, nth0, nthS, asI_i, asB_b, asS_s, asL_l, Int.toNat_natCast, List.length_set, List.set_set, getD_set hj, T.setc, cell0, cellS, List.set_cons_zero, List.set_cons_succ, ne_f, beq_self_eq_true, Bool.not_true, Bool.not_false, Int.add_assoc, Int.reduceAdd, bne_self_eq_false, m1, g, wrap_next hj, wrapK]
      first | done | rfl
    · show f203_0_s (Cc lf 2) lf _ _ _ _ = _
      unfold f203_0_s
      simp (disch := (simp only [tl, tls] at ht; omega)) only [iLt_t hb, hr, cond_true, cond_false, Option.bind_some, nth0, nthS, asI_i, asB_b, asS_s, asL_l, Int.toNat_natCast, List.length_set, List.set_set, getD_set hj, T.setc, cell0, cellS, List.set_cons_zero, List.set_cons_succ, ne_f, beq_self_eq_true, Bool.not_true, Bool.not_false, Int.add_assoc, Int.reduceAdd, bne_self_eq_false, o1, iLt_f (show ¬ (k1 < 0) by omega), g, wrap_next hj, wrapK]
      first | done | rfl
theorem mk187 (hlf : 33554432 ≤ lf) {d : Nat} (hd : 3 ≤ d) : MK1 (Cc lf d) 187 true [.sl true [.b, .sl false [.i .u8]], .i .i64, .b] := fun l hl hs k h0 h1 => by
  obtain ⟨k', l', g1, _, g3⟩ := mh187 hlf hd l hl hs k h0 h1
  exact ⟨k', l', g1, g3⟩
theorem ms136 (hlf : 33554432 ≤ lf) {d : Nat} (hd : 4 ≤ d) {t : T} (hf : fitE true csfit_MMbScEibE t) (ht : tl t ≤ 16777216) (k : Int) (h0 : 0 ≤ k) (hk : k + 64 * (tl t : Int) ≤ 1152921504606846976) : ∃ (k' : Int) (b0 : List T), Cc lf d 136 [t, .i .i64 k] = some [.i .i64 k', .sl b0] ∧ Cc lf d 157 [T.st [T.sl b0], .i .i64 k] = some [.i .i64 k'] ∧ k ≤ k' ∧ k' ≤ k + 64 * (tl t : Int) := by
  obtain ⟨a0, rfl, q0⟩ := fit_MMbScEibE hf
  obtain ⟨k1, b0, m1, o1, u1, v1⟩ := mh187 hlf (d := 3) (by omega) a0 q0 (by simp only [tl, tls] at ht ⊢; omega) k (by omega) (by simp only [tl, tls] at hk ⊢; omega)
  simp only [tl] at v1
  refine ⟨k1, b0, Cc_le hd _ _ _ ?_, Cc_le hd _ _ _ ?_, by omega, by simp only [tl, tls]; omega⟩
  · refine (f136_eq (Cc lf 3) lf a0 k).trans ?_
    unfold f136 f136_t
    simp only [m1, Option.bind_some, nth0, nthS, asI_i, asL_l, asB_b, asS_s, cell0, cellS, cond_false, cond_true]
  · try simp only [T.cell, List.getD_cons_zero, List.getD_cons_succ]
    refine (f157_eq (Cc lf 3) lf b0 k).trans ?_
    unfold f157 f157_t
    simp only [o1, iLt_f (show ¬ (k1 < 0) by omega), Option.bind_some, nth0, nthS, asI_i, asL_l, asB_b, asS_s, cell0, cellS, cond_false, cond_true]
theorem mo136 (hlf : 33554432 ≤ lf) {d : Nat} (hd : 4 ≤ d) {t : T} (hf : fitE true csfit_MMbScEibE t) (ht : tl t ≤ 16777216) (k : Int) (h0 : 0 ≤ k) (hk : k + 64 * (tl t : Int) ≤ 1152921504606846976) : ∃ (k' : Int) (b0 : List T), Cc lf d 136 [t, .i .i64 k] = some [.i .i64 k', .sl b0] ∧ k ≤ k' ∧ k' ≤ k + 64 * (tl t : Int) := by
  obtain ⟨k, b0, g1, _, g3⟩ := ms136 hlf hd hf ht k h0 hk
  exact ⟨k, b0, g1, g3⟩
theorem mh137 (hlf : 33554432 ≤ lf) {d : Nat} (hd : 1 ≤ d) : MH1 (Cc lf d) 137 158 true [.i .i64, .i .i64, .i .i64] := by
  refine MH1.le (Cc_le hd) (mh_slice1 (c' := Cc lf 1) hlf (M := fun n k i l => f137_0 (Cc lf 0) lf n k i l) (H := fun l n k i => f158_0 (Cc lf 0) lf l n k i) (fun l k => f137_eq (Cc lf 0) lf l k) (fun l k => f158_eq (Cc lf 0) lf l k) (fun n k l => ?_) (fun l n k => ?_) ?_)
  · show f137_0_s (Cc lf 0) lf _ _ _ _ = _
    unfold f137_0_s
    rw [iLt_f (by omega), cond_false]
  · show f158_0_s (Cc lf 0) lf _ _ _ _ = _
    unfold f158_0_s
    rw [iLt_f (by omega), cond_false]
  · intro e0 j len hf ht hj hlen k h0 h1
    obtain ⟨a0, a1, a2, rfl, q0, q1, q2⟩ := fit_iii hf

    refine ⟨(k + 3), T.st [T.i .i64 k, T.i .i64 (k + 1), T.i .i64 (k + 2)], by omega, by simp only [tl, tls]; omega, fun n l hl he => ?_, fun n l hl he => ?_⟩
    all_goals subst hl
    all_goals have g := getD_at he
    all_goals have hb : (j : Int) < (l.length : Int) := by omega
    all_goals have hr := inR_nat hj
    · show f137_0_s (Cc lf 0) lf _ _ _ _ = _
      unfold f137_0_s
      simp (disch := (simp only [tl, tls] at ht; omega)) only [iLt_t hb, hr, cond_true, cond_false, Option.bind_some, nth0, nthS, asI_i, asB_b, asS_s, asL_l, Int.toNat_natCast, List.length_set, List.set_set, getD_set hj, T.setc, cell0, cellS, List.set_cons_zero, List.set_cons_succ, ne_f, beq_self_eq_true, Bool.not_true, Bool.not_false, Int.add_assoc, Int.reduceAdd, bne_self_eq_false, g, wrap_next hj, wrapK]
      first | done | rfl
    · show f158_0_s (Cc lf 0) lf _ _ _ _ = _
      unfold f158_0_s
      simp (disch := (simp only [tl, tls] at ht; omega)) only [iLt_t hb, hr, cond_true, cond_false, Option.bind_some, nth0, nthS, asI_i, asB_b, asS_s, asL_l, Int.toNat_natCast, List.length_set, List.set_set, getD_set hj, T.setc, cell0, cellS, List.set_cons_zero, List.set_cons_succ, ne_f, beq_self_eq_true, Bool.not_true, Bool.not_false, Int.add_assoc, Int.reduceAdd, bne_self_eq_false, g, wrap_next hj, wrapK]
      first | done | rfl
theorem mk137 (hlf : 33554432 ≤ lf) {d : Nat} (hd : 1 ≤ d) : MK1 (Cc lf d) 137 true [.i .i64, .i .i64, .i .i64] := fun l hl hs k h0 h1 => by
  obtain ⟨k', l', g1, _, g3⟩ := mh137 hlf hd l hl hs k h0 h1
  exact ⟨k', l', g1, g3⟩
theorem ms82 (hlf : 33554432 ≤ lf) {d : Nat} (hd : 5 ≤ d) {t : T} (hf : fitE true csfit_MMbScEibEiMiiiEb t) (ht : tl t ≤ 16777216) (k : Int) (h0 : 0 ≤ k) (hk : k + 64 * (tl t : Int) ≤ 1152921504606846976) : ∃ (k' : Int) (b0 : List T) (b2 : List T), Cc lf d 82 [t, .i .i64 k] = some [.i .i64 k', .sl b0, .sl b2] ∧ Cc lf d 105 [T.st [T.sl b0, (T.cell t 1), T.sl b2, (T.cell t 3)], .i .i64 k] = some [.i .i64 k'] ∧ k ≤ k' ∧ k' ≤ k + 64 * (tl t : Int) := by
  obtain ⟨a0, a1, a2, a3, rfl, q0, q1, q2⟩ := fit_MMbScEibEiMiiiEb hf
  obtain ⟨k1, b0, m1, o1, u1, v1⟩ := ms136 hlf (d := 4) (by omega) (t := T.st [T.sl a0]) (show fitE true csfit_MMbScEibE (T.st [T.sl a0]) from ⟨q0, trivial⟩) (by simp only [tl, tls] at ht ⊢; omega) k (by omega) (by simp only [tl, tls] at ht hk ⊢; omega)
  simp only [tl, tls] at v1
  try simp only [T.cell, List.getD_cons_zero, List.getD_cons_succ] at o1
  obtain ⟨k2, b2, m2, o2, u2, v2⟩ := mh137 hlf (d := 4) (by omega) a2 q2 (by simp only [tl, tls] at ht ⊢; omega) k1 (by omega) (by simp only [tl, tls] at hk ⊢; omega)
  simp only [tl] at v2
  refine ⟨k2, b0, b2, Cc_le hd _ _ _ ?_, Cc_le hd _ _ _ ?_, by omega, by simp only [tl, tls]; omega⟩
  · refine (f82_eq (Cc lf 4) lf a0 a1 a2 a3 k).trans ?_
    unfold f82 f82_t
    simp only [m1, m2, Option.bind_some, nth0, nthS, asI_i, asL_l, asB_b, asS_s, cell0, cellS, cond_false, cond_true]
  · try simp only [T.cell, List.getD_cons_zero, List.getD_cons_succ]
    refine (f105_eq (Cc lf 4) lf b0 a1 b2 a3 k).trans ?_
    unfold f105 f105_t
    simp only [o1, o2, iLt_f (show ¬ (k1 < 0) by omega), iLt_f (show ¬ (k2 < 0) by omega), Option.bind_some, nth0, nthS, asI_i, asL_l, asB_b, asS_s, cell0, cellS, cond_false, cond_true]
theorem mo82 (hlf : 33554432 ≤ lf) {d : Nat} (hd : 5 ≤ d) {t : T} (hf : fitE true csfit_MMbScEibEiMiiiEb t) (ht : tl t ≤ 16777216) (k : Int) (h0 : 0 ≤ k) (hk : k + 64 * (tl t : Int) ≤ 1152921504606846976) : ∃ (k' : Int) (b0 : List T) (b2 : List T), Cc lf d 82 [t, .i .i64 k] = some [.i .i64 k', .sl b0, .sl b2] ∧ k ≤ k' ∧ k' ≤ k + 64 * (tl t : Int) := by
  obtain ⟨k, b0, b2, g1, _, g3⟩ := ms82 hlf hd hf ht k h0 hk
  exact ⟨k, b0, b2, g1, g3⟩
theorem ms26 (hlf : 33554432 ≤ lf) {d : Nat} (hd : 6 ≤ d) {t : T} (hf : fitE true csfit_MMbScEibEiMiiiEbi t) (ht : tl t ≤ 16777216) (k : Int) (h0 : 0 ≤ k) (hk : k + 64 * (tl t : Int) ≤ 1152921504606846976) : ∃ (k' : Int) (b0 : List T) (b2 : List T), Cc lf d 26 [t, .i .i64 k] = some [.i .i64 k', .sl b0, .sl b2] ∧ Cc lf d 50 [T.st [T.sl b0, (T.cell t 1), T.sl b2, (T.cell t 3), (T.cell t 4)], .i .i64 k] = some [.i .i64 k'] ∧ k ≤ k' ∧ k' ≤ k + 64 * (tl t : Int) := by
  obtain ⟨a0, a1, a2, a3, a4, rfl, q0, q1, q2, q4⟩ := fit_MMbScEibEiMiiiEbi hf
  obtain ⟨k1, b0, b2, m1, o1, u1, v1⟩ := ms82 hlf (d := 5) (by omega) (t := T.st [T.sl a0, T.i .i64 a1, T.sl a2, T.b a3]) (show fitE true csfit_MMbScEibEiMiiiEb (T.st [T.sl a0, T.i .i64 a1, T.sl a2, T.b a3]) from ⟨q0, ⟨rfl, q1⟩, q2, trivial, trivial⟩) (by simp only [tl, tls] at ht ⊢; omega) k (by omega) (by simp only [tl, tls] at ht hk ⊢; omega)
  simp only [tl, tls] at v1
  try simp only [T.cell, List.getD_cons_zero, List.getD_cons_succ] at o1
  refine ⟨k1, b0, b2, Cc_le hd _ _ _ ?_, Cc_le hd _ _ _ ?_, by omega, by simp only [tl, tls]; omega⟩
  · refine (f26_eq (Cc lf 5) lf a0 a1 a2 a3 a4 k).trans ?_
    unfold f26 f26_t
    simp only [m1, Option.bind_some, nth0, nthS, asI_i, asL_l, asB_b, asS_s, cell0, cellS, cond_false, cond_true]
  · try simp only [T.cell, List.getD_cons_zero, List.getD_cons_succ]
    refine (f50_eq (Cc lf 5) lf b0 a1 b2 a3 a4 k).trans ?_
    unfold f50 f50_t
    simp only [o1, iLt_f (show ¬ (k1 < 0) by omega), Option.bind_some, nth0, nthS, asI_i, asL_l, asB_b, asS_s, cell0, cellS, cond_false, cond_true]
theorem mo26 (hlf : 33554432 ≤ lf) {d : Nat} (hd : 6 ≤ d) {t : T} (hf : fitE true csfit_MMbScEibEiMiiiEbi t) (ht : tl t ≤ 16777216) (k : Int) (h0 : 0 ≤ k) (hk : k + 64 * (tl t : Int) ≤ 1152921504606846976) : ∃ (k' : Int) (b0 : List T) (b2 : List T), Cc lf d 26 [t, .i .i64 k] = some [.i .i64 k', .sl b0, .sl b2] ∧ k ≤ k' ∧ k' ≤ k + 64 * (tl t : Int) := by
  obtain ⟨k, b0, b2, g1, _, g3⟩ := ms26 hlf hd hf ht k h0 hk
  exact ⟨k, b0, b2, g1, g3⟩
end
end Go.Proofs.Ytdclnhlpifahpaa.T
