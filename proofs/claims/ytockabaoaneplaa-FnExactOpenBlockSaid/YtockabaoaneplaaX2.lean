/- What functions of the law FnExactOpenBlock come to, in trees; no condition. -/
import Derived.Test.YtockabaoaneplaaRows
import Derived.Test.YtockabaoaneplaaX1
set_option linter.unusedVariables false
set_option linter.constructorNameAsVariable false
set_option linter.unusedSimpArgs false
set_option linter.unnecessarySimpa false
namespace Go.Proofs.Ytockabaoaneplaa.T
open Go Go.Proofs.YtockabaoaneplaaV
set_option maxRecDepth 100000
/-- The functions, by depth. -/
noncomputable abbrev Cc (lf d : Nat) : Orc := orc X env lf 6 d
theorem Cc_le {lf d d' : Nat} (h : d ≤ d') : OLe (Cc lf d) (Cc lf d') := fun _ _ _ g => orc_le h g
section
variable {lf : Nat}
theorem sz189 (hlf : 33554432 ≤ lf) {d : Nat} (hd : 1 ≤ d) : SZ1 (Cc lf d) 189 (fitC (.sl false [.i .u8])) := by
  exact SZ1.le (Cc_le hd) (sz_flat1 (c := Cc lf 1) rfl fun l x => f189_eq (Cc lf 0) lf l x)
abbrev csfit_bSc : List CT := [.b, .sl false [.i .u8]]
theorem fit_bSc {t : T} (h : fitE true csfit_bSc t) : ∃ (a0 : Bool) (a1 : List T), t = .st [.b a0, .sl a1] ∧ fitC (.sl false [.i .u8]) (.sl a1) := by
  obtain ⟨l, rfl, h⟩ := fitE_st h
  obtain ⟨x0, l0, rfl, h0, h⟩ := fitCs_cons h
  obtain ⟨x1, l1, rfl, h1, h⟩ := fitCs_cons h
  obtain rfl := fitCs_nil h
  obtain ⟨a0, rfl⟩ := fitC_b h0
  obtain ⟨a1, rfl, q1⟩ := fitC_sl h1
  exact ⟨a0, a1, rfl, q1⟩
theorem sz182 (hlf : 33554432 ≤ lf) {d : Nat} (hd : 2 ≤ d) : SZ1 (Cc lf d) 182 (fitE true csfit_bSc) := by
  refine SZ1.le (Cc_le hd) ?_
  intro t ht x h0 h1
  obtain ⟨a0, a1, rfl, q1⟩ := fit_bSc ht
  have hcall : Cc lf 2 182 [T.st [T.b a0, T.sl a1], T.i .i64 x] = f182_t (Cc lf 1) lf a0 a1 x := f182_eq (Cc lf 1) lf a0 a1 x
  rw [hcall]
  unfold f182_t
  have s1 := sz189 hlf (d := 1) (by omega) (T.sl a1) q1 x (by omega) (by omega)
  rcases s1 with e | ⟨y1, e, p1, z1⟩
  · left
    rw [e]
    rfl
  rw [e]
  simp only [Option.bind_some, nth0, asI_i]
  rw [iLt_f (show ¬ (y1 < 0) by omega), cond_false]
  simp only [tl, tls] at z1
  refine .inr ⟨y1, rfl, by omega, ?_⟩
  simp only [tl, tls]
  omega
theorem sz168 (hlf : 33554432 ≤ lf) {d : Nat} (hd : 3 ≤ d) : SZ1 (Cc lf d) 168 (fitC (.sl true [.b, .sl false [.i .u8]])) := by
  exact SZ1.le (Cc_le hd) (sz_slice1 (c := Cc lf 2) (c' := Cc lf 3) hlf (sz182 hlf (Nat.le_refl _)) (F := fun l n x i => f168_0 (Cc lf 2) lf l n x i) (G := fun l i x => Cc lf 2 182 [T.st [T.b (asB (T.cell (l.getD i.toNat T.u) 0)), T.sl (asL (T.cell (l.getD i.toNat T.u) 1))], T.i .i64 x])
    (fun l x => f168_eq (Cc lf 2) lf l x) (fun l n x i => rfl) (fun l j x h hf => by
      obtain ⟨a0, a1, e, _⟩ := fit_bSc hf
      simp only [getD_nat h, e]
      rfl))
abbrev csfit_MbScEib : List CT := [.sl true [.b, .sl false [.i .u8]], .i .i64, .b]
theorem fit_MbScEib {t : T} (h : fitE true csfit_MbScEib t) : ∃ (a0 : List T) (a1 : Int) (a2 : Bool), t = .st [.sl a0, .i .i64 a1, .b a2] ∧ fitC (.sl true [.b, .sl false [.i .u8]]) (.sl a0) ∧ (Lit.int .i64 a1).wf = true := by
  obtain ⟨l, rfl, h⟩ := fitE_st h
  obtain ⟨x0, l0, rfl, h0, h⟩ := fitCs_cons h
  obtain ⟨x1, l1, rfl, h1, h⟩ := fitCs_cons h
  obtain ⟨x2, l2, rfl, h2, h⟩ := fitCs_cons h
  obtain rfl := fitCs_nil h
  obtain ⟨a0, rfl, q0⟩ := fitC_sl h0
  obtain ⟨a1, rfl, q1⟩ := fitC_i h1
  obtain ⟨a2, rfl⟩ := fitC_b h2
  exact ⟨a0, a1, a2, rfl, q0, q1⟩
theorem sz157 (hlf : 33554432 ≤ lf) {d : Nat} (hd : 4 ≤ d) : SZ1 (Cc lf d) 157 (fitE true csfit_MbScEib) := by
  refine SZ1.le (Cc_le hd) ?_
  intro t ht x h0 h1
  obtain ⟨a0, a1, a2, rfl, q0, q1⟩ := fit_MbScEib ht
  have hcall : Cc lf 4 157 [T.st [T.sl a0, T.i .i64 a1, T.b a2], T.i .i64 x] = f157_t (Cc lf 3) lf a0 a1 a2 x := f157_eq (Cc lf 3) lf a0 a1 a2 x
  rw [hcall]
  unfold f157_t
  have s1 := sz168 hlf (d := 3) (by omega) (T.sl a0) q0 x (by omega) (by omega)
  rcases s1 with e | ⟨y1, e, p1, z1⟩
  · left
    rw [e]
    rfl
  rw [e]
  simp only [Option.bind_some, nth0, asI_i]
  rw [iLt_f (show ¬ (y1 < 0) by omega), cond_false]
  simp only [tl, tls] at z1
  refine .inr ⟨y1, rfl, by omega, ?_⟩
  simp only [tl, tls]
  omega
theorem sz146 (hlf : 33554432 ≤ lf) {d : Nat} (hd : 5 ≤ d) : SZ1 (Cc lf d) 146 (fitC (.sl true [.sl true [.b, .sl false [.i .u8]], .i .i64, .b])) := by
  exact SZ1.le (Cc_le hd) (sz_slice1 (c := Cc lf 4) (c' := Cc lf 5) hlf (sz157 hlf (Nat.le_refl _)) (F := fun l n x i => f146_0 (Cc lf 4) lf l n x i) (G := fun l i x => Cc lf 4 157 [T.st [T.sl (asL (T.cell (l.getD i.toNat T.u) 0)), T.i .i64 (asI (T.cell (l.getD i.toNat T.u) 1)), T.b (asB (T.cell (l.getD i.toNat T.u) 2))], T.i .i64 x])
    (fun l x => f146_eq (Cc lf 4) lf l x) (fun l n x i => rfl) (fun l j x h hf => by
      obtain ⟨a0, a1, a2, e, _⟩ := fit_MbScEib hf
      simp only [getD_nat h, e]
      rfl))
abbrev csfit_MMbScEibE : List CT := [.sl true [.sl true [.b, .sl false [.i .u8]], .i .i64, .b]]
theorem fit_MMbScEibE {t : T} (h : fitE true csfit_MMbScEibE t) : ∃ (a0 : List T), t = .st [.sl a0] ∧ fitC (.sl true [.sl true [.b, .sl false [.i .u8]], .i .i64, .b]) (.sl a0) := by
  obtain ⟨l, rfl, h⟩ := fitE_st h
  obtain ⟨x0, l0, rfl, h0, h⟩ := fitCs_cons h
  obtain rfl := fitCs_nil h
  obtain ⟨a0, rfl, q0⟩ := fitC_sl h0
  exact ⟨a0, rfl, q0⟩
theorem sz133 (hlf : 33554432 ≤ lf) {d : Nat} (hd : 6 ≤ d) : SZ1 (Cc lf d) 133 (fitE true csfit_MMbScEibE) := by
  refine SZ1.le (Cc_le hd) ?_
  intro t ht x h0 h1
  obtain ⟨a0, rfl, q0⟩ := fit_MMbScEibE ht
  have hcall : Cc lf 6 133 [T.st [T.sl a0], T.i .i64 x] = f133_t (Cc lf 5) lf a0 x := f133_eq (Cc lf 5) lf a0 x
  rw [hcall]
  unfold f133_t
  have s1 := sz146 hlf (d := 5) (by omega) (T.sl a0) q0 x (by omega) (by omega)
  rcases s1 with e | ⟨y1, e, p1, z1⟩
  · left
    rw [e]
    rfl
  rw [e]
  simp only [Option.bind_some, nth0, asI_i]
  rw [iLt_f (show ¬ (y1 < 0) by omega), cond_false]
  simp only [tl, tls] at z1
  refine .inr ⟨y1, rfl, by omega, ?_⟩
  simp only [tl, tls]
  omega
theorem sz134 (hlf : 33554432 ≤ lf) {d : Nat} (hd : 1 ≤ d) : SZ1 (Cc lf d) 134 (fitC (.sl true [.i .i64, .i .i64, .i .i64])) := by
  exact SZ1.le (Cc_le hd) (sz_flat1 (c := Cc lf 1) rfl fun l x => f134_eq (Cc lf 0) lf l x)
abbrev csfit_MMbScEibEiMiiiEb : List CT := [.sl true [.sl true [.b, .sl false [.i .u8]], .i .i64, .b], .i .i64, .sl true [.i .i64, .i .i64, .i .i64], .b]
theorem fit_MMbScEibEiMiiiEb {t : T} (h : fitE true csfit_MMbScEibEiMiiiEb t) : ∃ (a0 : List T) (a1 : Int) (a2 : List T) (a3 : Bool), t = .st [.sl a0, .i .i64 a1, .sl a2, .b a3] ∧ fitC (.sl true [.sl true [.b, .sl false [.i .u8]], .i .i64, .b]) (.sl a0) ∧ (Lit.int .i64 a1).wf = true ∧ fitC (.sl true [.i .i64, .i .i64, .i .i64]) (.sl a2) := by
  obtain ⟨l, rfl, h⟩ := fitE_st h
  obtain ⟨x0, l0, rfl, h0, h⟩ := fitCs_cons h
  obtain ⟨x1, l1, rfl, h1, h⟩ := fitCs_cons h
  obtain ⟨x2, l2, rfl, h2, h⟩ := fitCs_cons h
  obtain ⟨x3, l3, rfl, h3, h⟩ := fitCs_cons h
  obtain rfl := fitCs_nil h
  obtain ⟨a0, rfl, q0⟩ := fitC_sl h0
  obtain ⟨a1, rfl, q1⟩ := fitC_i h1
  obtain ⟨a2, rfl, q2⟩ := fitC_sl h2
  obtain ⟨a3, rfl⟩ := fitC_b h3
  exact ⟨a0, a1, a2, a3, rfl, q0, q1, q2⟩
theorem sz96 (hlf : 33554432 ≤ lf) {d : Nat} (hd : 7 ≤ d) : SZ1 (Cc lf d) 96 (fitE true csfit_MMbScEibEiMiiiEb) := by
  refine SZ1.le (Cc_le hd) ?_
  intro t ht x h0 h1
  obtain ⟨a0, a1, a2, a3, rfl, q0, q1, q2⟩ := fit_MMbScEibEiMiiiEb ht
  have hcall : Cc lf 7 96 [T.st [T.sl a0, T.i .i64 a1, T.sl a2, T.b a3], T.i .i64 x] = f96_t (Cc lf 6) lf a0 a1 a2 a3 x := f96_eq (Cc lf 6) lf a0 a1 a2 a3 x
  rw [hcall]
  unfold f96_t
  have s1 := sz133 hlf (d := 6) (by omega) (T.st [T.sl a0]) (show fitE true csfit_MMbScEibE (T.st [T.sl a0]) from ⟨q0, trivial⟩) x (by omega) (by omega)
  rcases s1 with e | ⟨y1, e, p1, z1⟩
  · left
    rw [e]
    rfl
  rw [e]
  simp only [Option.bind_some, nth0, asI_i]
  rw [iLt_f (show ¬ (y1 < 0) by omega), cond_false]
  simp only [tl, tls] at z1
  have s2 := sz134 hlf (d := 6) (by omega) (T.sl a2) q2 y1 (by omega) (by omega)
  rcases s2 with e | ⟨y2, e, p2, z2⟩
  · left
    rw [e]
    rfl
  rw [e]
  simp only [Option.bind_some, nth0, asI_i]
  rw [iLt_f (show ¬ (y2 < 0) by omega), cond_false]
  simp only [tl, tls] at z2
  refine .inr ⟨y2, rfl, by omega, ?_⟩
  simp only [tl, tls]
  omega
abbrev csfit_MMbScEibEiMiiiEbi : List CT := [.sl true [.sl true [.b, .sl false [.i .u8]], .i .i64, .b], .i .i64, .sl true [.i .i64, .i .i64, .i .i64], .b, .i .i64]
theorem fit_MMbScEibEiMiiiEbi {t : T} (h : fitE true csfit_MMbScEibEiMiiiEbi t) : ∃ (a0 : List T) (a1 : Int) (a2 : List T) (a3 : Bool) (a4 : Int), t = .st [.sl a0, .i .i64 a1, .sl a2, .b a3, .i .i64 a4] ∧ fitC (.sl true [.sl true [.b, .sl false [.i .u8]], .i .i64, .b]) (.sl a0) ∧ (Lit.int .i64 a1).wf = true ∧ fitC (.sl true [.i .i64, .i .i64, .i .i64]) (.sl a2) ∧ (Lit.int .i64 a4).wf = true := by
  obtain ⟨l, rfl, h⟩ := fitE_st h
  obtain ⟨x0, l0, rfl, h0, h⟩ := fitCs_cons h
  obtain ⟨x1, l1, rfl, h1, h⟩ := fitCs_cons h
  obtain ⟨x2, l2, rfl, h2, h⟩ := fitCs_cons h
  obtain ⟨x3, l3, rfl, h3, h⟩ := fitCs_cons h
  obtain ⟨x4, l4, rfl, h4, h⟩ := fitCs_cons h
  obtain rfl := fitCs_nil h
  obtain ⟨a0, rfl, q0⟩ := fitC_sl h0
  obtain ⟨a1, rfl, q1⟩ := fitC_i h1
  obtain ⟨a2, rfl, q2⟩ := fitC_sl h2
  obtain ⟨a3, rfl⟩ := fitC_b h3
  obtain ⟨a4, rfl, q4⟩ := fitC_i h4
  exact ⟨a0, a1, a2, a3, a4, rfl, q0, q1, q2, q4⟩
theorem sz39 (hlf : 33554432 ≤ lf) {d : Nat} (hd : 8 ≤ d) : SZ1 (Cc lf d) 39 (fitE true csfit_MMbScEibEiMiiiEbi) := by
  refine SZ1.le (Cc_le hd) ?_
  intro t ht x h0 h1
  obtain ⟨a0, a1, a2, a3, a4, rfl, q0, q1, q2, q4⟩ := fit_MMbScEibEiMiiiEbi ht
  have hcall : Cc lf 8 39 [T.st [T.sl a0, T.i .i64 a1, T.sl a2, T.b a3, T.i .i64 a4], T.i .i64 x] = f39_t (Cc lf 7) lf a0 a1 a2 a3 a4 x := f39_eq (Cc lf 7) lf a0 a1 a2 a3 a4 x
  rw [hcall]
  unfold f39_t
  have s1 := sz96 hlf (d := 7) (by omega) (T.st [T.sl a0, T.i .i64 a1, T.sl a2, T.b a3]) (show fitE true csfit_MMbScEibEiMiiiEb (T.st [T.sl a0, T.i .i64 a1, T.sl a2, T.b a3]) from ⟨q0, ⟨rfl, q1⟩, q2, trivial, trivial⟩) x (by omega) (by omega)
  rcases s1 with e | ⟨y1, e, p1, z1⟩
  · left
    rw [e]
    rfl
  rw [e]
  simp only [Option.bind_some, nth0, asI_i]
  rw [iLt_f (show ¬ (y1 < 0) by omega), cond_false]
  simp only [tl, tls] at z1
  refine .inr ⟨y1, rfl, by omega, ?_⟩
  simp only [tl, tls]
  omega
theorem to45 (hlf : 33554432 ≤ lf) {d : Nat} (hd : 1 ≤ d) : TO1 (Cc lf d) 45 (fitC (.sl false [.i .u8])) := by
  exact TO1.le (Cc_le hd) (to_slice1 (c' := Cc lf 1) hlf (m := false) (F := fun l n i out => f45_0 (Cc lf 0) lf l n i out) (G := fun _ _ => some []) (V := fun l i _ => T.i .u8 (asI (l.getD i.toNat T.u))) (fun l => f45_eq (Cc lf 0) lf l) (fun l n i out => rfl) (fun l j h hf _ => by
    refine ⟨[], rfl, ?_⟩
    have hf : fitC (.i .u8) l[j] := hf
    obtain ⟨v, e, _⟩ := fitC_i hf
    simp only [getD_nat h, e]
    rfl))
theorem to183 (hlf : 33554432 ≤ lf) {d : Nat} (hd : 2 ≤ d) : TO1 (Cc lf d) 183 (fitE true csfit_bSc) := by
  refine TO1.le (Cc_le hd) ?_
  intro t ht hs
  obtain ⟨a0, a1, rfl, q1⟩ := fit_bSc ht
  simp only [tl, tls] at hs
  have hcall : Cc lf 2 183 [T.st [T.b a0, T.sl a1]] = f183_t (Cc lf 1) lf a0 a1 := f183_eq (Cc lf 1) lf a0 a1
  rw [hcall]
  unfold f183_t
  have e1 := to45 hlf (d := 1) (by omega) (T.sl a1) q1 (by simp only [tl, tls]; omega)
  simp only [e1, Option.bind_some, nth0, asL_l, asI_i, asB_b, asS_s, cell0, cellS]
theorem to169 (hlf : 33554432 ≤ lf) {d : Nat} (hd : 3 ≤ d) : TO1 (Cc lf d) 169 (fitC (.sl true [.b, .sl false [.i .u8]])) := by
  exact TO1.le (Cc_le hd) (to_slice1 (c' := Cc lf 3) hlf (F := fun l n i out => f169_0 (Cc lf 2) lf l n i out) (G := fun l i => Cc lf 2 183 [T.st [T.b (asB (T.cell (l.getD i.toNat T.u) 0)), T.sl (asL (T.cell (l.getD i.toNat T.u) 1))]]) (V := fun _ _ r => T.st [T.b (asB (T.cell (nth r 0) 0)), T.sl (asL (T.cell (nth r 0) 1))]) (fun l => f169_eq (Cc lf 2) lf l) (fun l n i out => rfl) (fun l j h hf hs => by
    have hto := to183 hlf (d := 2) (by omega) _ hf hs
    obtain ⟨a0, a1, e, _⟩ := fit_bSc hf
    rw [e] at hto
    simp only [getD_nat h, e]
    exact ⟨_, hto, rfl⟩))
theorem to158 (hlf : 33554432 ≤ lf) {d : Nat} (hd : 4 ≤ d) : TO1 (Cc lf d) 158 (fitE true csfit_MbScEib) := by
  refine TO1.le (Cc_le hd) ?_
  intro t ht hs
  obtain ⟨a0, a1, a2, rfl, q0, q1⟩ := fit_MbScEib ht
  simp only [tl, tls] at hs
  have hcall : Cc lf 4 158 [T.st [T.sl a0, T.i .i64 a1, T.b a2]] = f158_t (Cc lf 3) lf a0 a1 a2 := f158_eq (Cc lf 3) lf a0 a1 a2
  rw [hcall]
  unfold f158_t
  have e1 := to169 hlf (d := 3) (by omega) (T.sl a0) q0 (by simp only [tl, tls]; omega)
  simp only [e1, Option.bind_some, nth0, asL_l, asI_i, asB_b, asS_s, cell0, cellS]
theorem to147 (hlf : 33554432 ≤ lf) {d : Nat} (hd : 5 ≤ d) : TO1 (Cc lf d) 147 (fitC (.sl true [.sl true [.b, .sl false [.i .u8]], .i .i64, .b])) := by
  exact TO1.le (Cc_le hd) (to_slice1 (c' := Cc lf 5) hlf (F := fun l n i out => f147_0 (Cc lf 4) lf l n i out) (G := fun l i => Cc lf 4 158 [T.st [T.sl (asL (T.cell (l.getD i.toNat T.u) 0)), T.i .i64 (asI (T.cell (l.getD i.toNat T.u) 1)), T.b (asB (T.cell (l.getD i.toNat T.u) 2))]]) (V := fun _ _ r => T.st [T.sl (asL (T.cell (nth r 0) 0)), T.i .i64 (asI (T.cell (nth r 0) 1)), T.b (asB (T.cell (nth r 0) 2))]) (fun l => f147_eq (Cc lf 4) lf l) (fun l n i out => rfl) (fun l j h hf hs => by
    have hto := to158 hlf (d := 4) (by omega) _ hf hs
    obtain ⟨a0, a1, a2, e, _⟩ := fit_MbScEib hf
    rw [e] at hto
    simp only [getD_nat h, e]
    exact ⟨_, hto, rfl⟩))
theorem to135 (hlf : 33554432 ≤ lf) {d : Nat} (hd : 6 ≤ d) : TO1 (Cc lf d) 135 (fitE true csfit_MMbScEibE) := by
  refine TO1.le (Cc_le hd) ?_
  intro t ht hs
  obtain ⟨a0, rfl, q0⟩ := fit_MMbScEibE ht
  simp only [tl, tls] at hs
  have hcall : Cc lf 6 135 [T.st [T.sl a0]] = f135_t (Cc lf 5) lf a0 := f135_eq (Cc lf 5) lf a0
  rw [hcall]
  unfold f135_t
  have e1 := to147 hlf (d := 5) (by omega) (T.sl a0) q0 (by simp only [tl, tls]; omega)
  simp only [e1, Option.bind_some, nth0, asL_l, asI_i, asB_b, asS_s, cell0, cellS]
abbrev csfit_iii : List CT := [.i .i64, .i .i64, .i .i64]
theorem fit_iii {t : T} (h : fitE true csfit_iii t) : ∃ (a0 : Int) (a1 : Int) (a2 : Int), t = .st [.i .i64 a0, .i .i64 a1, .i .i64 a2] ∧ (Lit.int .i64 a0).wf = true ∧ (Lit.int .i64 a1).wf = true ∧ (Lit.int .i64 a2).wf = true := by
  obtain ⟨l, rfl, h⟩ := fitE_st h
  obtain ⟨x0, l0, rfl, h0, h⟩ := fitCs_cons h
  obtain ⟨x1, l1, rfl, h1, h⟩ := fitCs_cons h
  obtain ⟨x2, l2, rfl, h2, h⟩ := fitCs_cons h
  obtain rfl := fitCs_nil h
  obtain ⟨a0, rfl, q0⟩ := fitC_i h0
  obtain ⟨a1, rfl, q1⟩ := fitC_i h1
  obtain ⟨a2, rfl, q2⟩ := fitC_i h2
  exact ⟨a0, a1, a2, rfl, q0, q1, q2⟩
theorem to148 (hlf : 33554432 ≤ lf) {d : Nat} (hd : 1 ≤ d) : TO1 (Cc lf d) 148 (fitE true csfit_iii) := by
  refine TO1.le (Cc_le hd) ?_
  intro t ht hs
  obtain ⟨a0, a1, a2, rfl, q0, q1, q2⟩ := fit_iii ht
  simp only [tl, tls] at hs
  have hcall : Cc lf 1 148 [T.st [T.i .i64 a0, T.i .i64 a1, T.i .i64 a2]] = f148_t (Cc lf 0) lf a0 a1 a2 := f148_eq (Cc lf 0) lf a0 a1 a2
  rw [hcall]
  unfold f148_t
  rfl
theorem to136 (hlf : 33554432 ≤ lf) {d : Nat} (hd : 2 ≤ d) : TO1 (Cc lf d) 136 (fitC (.sl true [.i .i64, .i .i64, .i .i64])) := by
  exact TO1.le (Cc_le hd) (to_slice1 (c' := Cc lf 2) hlf (F := fun l n i out => f136_0 (Cc lf 1) lf l n i out) (G := fun l i => Cc lf 1 148 [T.st [T.i .i64 (asI (T.cell (l.getD i.toNat T.u) 0)), T.i .i64 (asI (T.cell (l.getD i.toNat T.u) 1)), T.i .i64 (asI (T.cell (l.getD i.toNat T.u) 2))]]) (V := fun _ _ r => T.st [T.i .i64 (asI (T.cell (nth r 0) 0)), T.i .i64 (asI (T.cell (nth r 0) 1)), T.i .i64 (asI (T.cell (nth r 0) 2))]) (fun l => f136_eq (Cc lf 1) lf l) (fun l n i out => rfl) (fun l j h hf hs => by
    have hto := to148 hlf (d := 1) (by omega) _ hf hs
    obtain ⟨a0, a1, a2, e, _⟩ := fit_iii hf
    rw [e] at hto
    simp only [getD_nat h, e]
    exact ⟨_, hto, rfl⟩))
theorem to98 (hlf : 33554432 ≤ lf) {d : Nat} (hd : 7 ≤ d) : TO1 (Cc lf d) 98 (fitE true csfit_MMbScEibEiMiiiEb) := by
  refine TO1.le (Cc_le hd) ?_
  intro t ht hs
  obtain ⟨a0, a1, a2, a3, rfl, q0, q1, q2⟩ := fit_MMbScEibEiMiiiEb ht
  simp only [tl, tls] at hs
  have hcall : Cc lf 7 98 [T.st [T.sl a0, T.i .i64 a1, T.sl a2, T.b a3]] = f98_t (Cc lf 6) lf a0 a1 a2 a3 := f98_eq (Cc lf 6) lf a0 a1 a2 a3
  rw [hcall]
  unfold f98_t
  have e1 := to135 hlf (d := 6) (by omega) (T.st [T.sl a0]) (show fitE true csfit_MMbScEibE (T.st [T.sl a0]) from ⟨q0, trivial⟩) (by simp only [tl, tls]; omega)
  have e2 := to136 hlf (d := 6) (by omega) (T.sl a2) q2 (by simp only [tl, tls]; omega)
  simp only [e1, e2, Option.bind_some, nth0, asL_l, asI_i, asB_b, asS_s, cell0, cellS]
theorem to41 (hlf : 33554432 ≤ lf) {d : Nat} (hd : 8 ≤ d) : TO1 (Cc lf d) 41 (fitE true csfit_MMbScEibEiMiiiEbi) := by
  refine TO1.le (Cc_le hd) ?_
  intro t ht hs
  obtain ⟨a0, a1, a2, a3, a4, rfl, q0, q1, q2, q4⟩ := fit_MMbScEibEiMiiiEbi ht
  simp only [tl, tls] at hs
  have hcall : Cc lf 8 41 [T.st [T.sl a0, T.i .i64 a1, T.sl a2, T.b a3, T.i .i64 a4]] = f41_t (Cc lf 7) lf a0 a1 a2 a3 a4 := f41_eq (Cc lf 7) lf a0 a1 a2 a3 a4
  rw [hcall]
  unfold f41_t
  have e1 := to98 hlf (d := 7) (by omega) (T.st [T.sl a0, T.i .i64 a1, T.sl a2, T.b a3]) (show fitE true csfit_MMbScEibEiMiiiEb (T.st [T.sl a0, T.i .i64 a1, T.sl a2, T.b a3]) from ⟨q0, ⟨rfl, q1⟩, q2, trivial, trivial⟩) (by simp only [tl, tls]; omega)
  simp only [e1, Option.bind_some, nth0, asL_l, asI_i, asB_b, asS_s, cell0, cellS]
theorem eq27 (hlf : 33554432 ≤ lf) {d : Nat} (hd : 1 ≤ d) : EQ1 (Cc lf d) 27 (fitC (.sl false [.i .u8])) := by
  exact EQ1.le (Cc_le hd) (eq_flat1 (c' := Cc lf 1) hlf (F := fun l l' n i => f27_0 (Cc lf 0) lf l l' n i) (N := fun l l' i => (asI (l.getD i.toNat T.u)) != (asI (l'.getD i.toNat T.u))) (fun l l' => f27_eq (Cc lf 0) lf l l') (fun l l' n i => rfl) (fun l i => by simp))
theorem eq184 (hlf : 33554432 ≤ lf) {d : Nat} (hd : 2 ≤ d) : EQ1 (Cc lf d) 184 (fitE true csfit_bSc) := by
  refine EQ1.le (Cc_le hd) ?_
  intro t ht hs
  obtain ⟨a0, a1, rfl, q1⟩ := fit_bSc ht
  simp only [tl, tls] at hs
  have hcall : Cc lf 2 184 [T.st [T.b a0, T.sl a1], T.st [T.b a0, T.sl a1]] = f184_t (Cc lf 1) lf a0 a1 a0 a1 := f184_eq (Cc lf 1) lf a0 a1 a0 a1
  rw [hcall]
  unfold f184_t
  have e1 := eq27 hlf (d := 1) (by omega) (T.sl a1) q1 (by simp only [tl, tls]; omega)
  simp only [e1, Option.bind_some, nth0, asB_b, Bool.not_true, cond_false, ne_f, beq_self_eq_true]
theorem eq170 (hlf : 33554432 ≤ lf) {d : Nat} (hd : 3 ≤ d) : EQ1 (Cc lf d) 170 (fitC (.sl true [.b, .sl false [.i .u8]])) := by
  exact EQ1.le (Cc_le hd) (eq_slice1 (c' := Cc lf 3) hlf (F := fun l l' n i => f170_0 (Cc lf 2) lf l l' n i) (G := fun l l' i => Cc lf 2 184 [T.st [T.b (asB (T.cell (l.getD i.toNat T.u) 0)), T.sl (asL (T.cell (l.getD i.toNat T.u) 1))], T.st [T.b (asB (T.cell (l'.getD i.toNat T.u) 0)), T.sl (asL (T.cell (l'.getD i.toNat T.u) 1))]]) (fun l l' => f170_eq (Cc lf 2) lf l l') (fun l l' n i => rfl) (fun l j h hf hs => by
    have heq := eq184 hlf (d := 2) (by omega) _ hf hs
    obtain ⟨a0, a1, e, _⟩ := fit_bSc hf
    rw [e] at heq
    simp only [getD_nat h, e]
    exact heq))
theorem eq159 (hlf : 33554432 ≤ lf) {d : Nat} (hd : 4 ≤ d) : EQ1 (Cc lf d) 159 (fitE true csfit_MbScEib) := by
  refine EQ1.le (Cc_le hd) ?_
  intro t ht hs
  obtain ⟨a0, a1, a2, rfl, q0, q1⟩ := fit_MbScEib ht
  simp only [tl, tls] at hs
  have hcall : Cc lf 4 159 [T.st [T.sl a0, T.i .i64 a1, T.b a2], T.st [T.sl a0, T.i .i64 a1, T.b a2]] = f159_t (Cc lf 3) lf a0 a1 a2 a0 a1 a2 := f159_eq (Cc lf 3) lf a0 a1 a2 a0 a1 a2
  rw [hcall]
  unfold f159_t
  have e1 := eq170 hlf (d := 3) (by omega) (T.sl a0) q0 (by simp only [tl, tls]; omega)
  simp only [e1, Option.bind_some, nth0, asB_b, Bool.not_true, cond_false, ne_f, beq_self_eq_true]
theorem eq149 (hlf : 33554432 ≤ lf) {d : Nat} (hd : 5 ≤ d) : EQ1 (Cc lf d) 149 (fitC (.sl true [.sl true [.b, .sl false [.i .u8]], .i .i64, .b])) := by
  exact EQ1.le (Cc_le hd) (eq_slice1 (c' := Cc lf 5) hlf (F := fun l l' n i => f149_0 (Cc lf 4) lf l l' n i) (G := fun l l' i => Cc lf 4 159 [T.st [T.sl (asL (T.cell (l.getD i.toNat T.u) 0)), T.i .i64 (asI (T.cell (l.getD i.toNat T.u) 1)), T.b (asB (T.cell (l.getD i.toNat T.u) 2))], T.st [T.sl (asL (T.cell (l'.getD i.toNat T.u) 0)), T.i .i64 (asI (T.cell (l'.getD i.toNat T.u) 1)), T.b (asB (T.cell (l'.getD i.toNat T.u) 2))]]) (fun l l' => f149_eq (Cc lf 4) lf l l') (fun l l' n i => rfl) (fun l j h hf hs => by
    have heq := eq159 hlf (d := 4) (by omega) _ hf hs
    obtain ⟨a0, a1, a2, e, _⟩ := fit_MbScEib hf
    rw [e] at heq
    simp only [getD_nat h, e]
    exact heq))
theorem eq137 (hlf : 33554432 ≤ lf) {d : Nat} (hd : 6 ≤ d) : EQ1 (Cc lf d) 137 (fitE true csfit_MMbScEibE) := by
  refine EQ1.le (Cc_le hd) ?_
  intro t ht hs
  obtain ⟨a0, rfl, q0⟩ := fit_MMbScEibE ht
  simp only [tl, tls] at hs
  have hcall : Cc lf 6 137 [T.st [T.sl a0], T.st [T.sl a0]] = f137_t (Cc lf 5) lf a0 a0 := f137_eq (Cc lf 5) lf a0 a0
  rw [hcall]
  unfold f137_t
  have e1 := eq149 hlf (d := 5) (by omega) (T.sl a0) q0 (by simp only [tl, tls]; omega)
  simp only [e1, Option.bind_some, nth0, asB_b, Bool.not_true, cond_false, ne_f, beq_self_eq_true]
theorem eq150 (hlf : 33554432 ≤ lf) {d : Nat} (hd : 1 ≤ d) : EQ1 (Cc lf d) 150 (fitE true csfit_iii) := by
  refine EQ1.le (Cc_le hd) ?_
  intro t ht hs
  obtain ⟨a0, a1, a2, rfl, q0, q1, q2⟩ := fit_iii ht
  simp only [tl, tls] at hs
  have hcall : Cc lf 1 150 [T.st [T.i .i64 a0, T.i .i64 a1, T.i .i64 a2], T.st [T.i .i64 a0, T.i .i64 a1, T.i .i64 a2]] = f150_t (Cc lf 0) lf a0 a1 a2 a0 a1 a2 := f150_eq (Cc lf 0) lf a0 a1 a2 a0 a1 a2
  rw [hcall]
  unfold f150_t
  simp only [Option.bind_some, nth0, asB_b, Bool.not_true, cond_false, ne_f, beq_self_eq_true]
theorem eq138 (hlf : 33554432 ≤ lf) {d : Nat} (hd : 2 ≤ d) : EQ1 (Cc lf d) 138 (fitC (.sl true [.i .i64, .i .i64, .i .i64])) := by
  exact EQ1.le (Cc_le hd) (eq_slice1 (c' := Cc lf 2) hlf (F := fun l l' n i => f138_0 (Cc lf 1) lf l l' n i) (G := fun l l' i => Cc lf 1 150 [T.st [T.i .i64 (asI (T.cell (l.getD i.toNat T.u) 0)), T.i .i64 (asI (T.cell (l.getD i.toNat T.u) 1)), T.i .i64 (asI (T.cell (l.getD i.toNat T.u) 2))], T.st [T.i .i64 (asI (T.cell (l'.getD i.toNat T.u) 0)), T.i .i64 (asI (T.cell (l'.getD i.toNat T.u) 1)), T.i .i64 (asI (T.cell (l'.getD i.toNat T.u) 2))]]) (fun l l' => f138_eq (Cc lf 1) lf l l') (fun l l' n i => rfl) (fun l j h hf hs => by
    have heq := eq150 hlf (d := 1) (by omega) _ hf hs
    obtain ⟨a0, a1, a2, e, _⟩ := fit_iii hf
    rw [e] at heq
    simp only [getD_nat h, e]
    exact heq))
theorem eq100 (hlf : 33554432 ≤ lf) {d : Nat} (hd : 7 ≤ d) : EQ1 (Cc lf d) 100 (fitE true csfit_MMbScEibEiMiiiEb) := by
  refine EQ1.le (Cc_le hd) ?_
  intro t ht hs
  obtain ⟨a0, a1, a2, a3, rfl, q0, q1, q2⟩ := fit_MMbScEibEiMiiiEb ht
  simp only [tl, tls] at hs
  have hcall : Cc lf 7 100 [T.st [T.sl a0, T.i .i64 a1, T.sl a2, T.b a3], T.st [T.sl a0, T.i .i64 a1, T.sl a2, T.b a3]] = f100_t (Cc lf 6) lf a0 a1 a2 a3 a0 a1 a2 a3 := f100_eq (Cc lf 6) lf a0 a1 a2 a3 a0 a1 a2 a3
  rw [hcall]
  unfold f100_t
  have e1 := eq137 hlf (d := 6) (by omega) (T.st [T.sl a0]) (show fitE true csfit_MMbScEibE (T.st [T.sl a0]) from ⟨q0, trivial⟩) (by simp only [tl, tls]; omega)
  have e2 := eq138 hlf (d := 6) (by omega) (T.sl a2) q2 (by simp only [tl, tls]; omega)
  simp only [e1, e2, Option.bind_some, nth0, asB_b, Bool.not_true, cond_false, ne_f, beq_self_eq_true]
theorem eq43 (hlf : 33554432 ≤ lf) {d : Nat} (hd : 8 ≤ d) : EQ1 (Cc lf d) 43 (fitE true csfit_MMbScEibEiMiiiEbi) := by
  refine EQ1.le (Cc_le hd) ?_
  intro t ht hs
  obtain ⟨a0, a1, a2, a3, a4, rfl, q0, q1, q2, q4⟩ := fit_MMbScEibEiMiiiEbi ht
  simp only [tl, tls] at hs
  have hcall : Cc lf 8 43 [T.st [T.sl a0, T.i .i64 a1, T.sl a2, T.b a3, T.i .i64 a4], T.st [T.sl a0, T.i .i64 a1, T.sl a2, T.b a3, T.i .i64 a4]] = f43_t (Cc lf 7) lf a0 a1 a2 a3 a4 a0 a1 a2 a3 a4 := f43_eq (Cc lf 7) lf a0 a1 a2 a3 a4 a0 a1 a2 a3 a4
  rw [hcall]
  unfold f43_t
  have e1 := eq100 hlf (d := 7) (by omega) (T.st [T.sl a0, T.i .i64 a1, T.sl a2, T.b a3]) (show fitE true csfit_MMbScEibEiMiiiEb (T.st [T.sl a0, T.i .i64 a1, T.sl a2, T.b a3]) from ⟨q0, ⟨rfl, q1⟩, q2, trivial, trivial⟩) (by simp only [tl, tls]; omega)
  simp only [e1, Option.bind_some, nth0, asB_b, Bool.not_true, cond_false, ne_f, beq_self_eq_true]
end
end Go.Proofs.Ytockabaoaneplaa.T
