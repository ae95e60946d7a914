/- What functions of the law FnExactVictim come to, in trees; no condition. -/
import Derived.Test.YtnakbpjofkdabaaGreatRows
import Derived.Test.YtnakbpjofkdabaaGreatX1
set_option linter.unusedVariables false
set_option linter.constructorNameAsVariable false
set_option linter.unusedSimpArgs false
set_option linter.unnecessarySimpa false
namespace Go.Proofs.YtnakbpjofkdabaaGreat.T
open Go Go.Proofs.YtnakbpjofkdabaaGreatV
set_option maxRecDepth 100000
noncomputable abbrev Cc (lf d : Nat) : Orc := orc X env lf 6 d
theorem Cc_le {lf d d' : Nat} (h : d ≤ d') : OLe (Cc lf d) (Cc lf d') := fun _ _ _ g => orc_le h g
section
variable {lf : Nat}
theorem sz132 (hlf : 33554432 ≤ lf) {d : Nat} (hd : 1 ≤ d) : SZ1 (Cc lf d) 132 (fitC (.sl false [.i .u8])) := by
 exact SZ1.le (Cc_le hd) (sz_flat1 (c := Cc lf 1) rfl fun l x => f132_eq (Cc lf 0) lf l x)
abbrev csfit_bSc : List CT := [.b, .sl false [.i .u8]]
theorem fit_bSc {t : T} (h : fitE true csfit_bSc t) : ∃ (a0 : Bool) (a1 : List T), t = .st [.b a0, .sl a1] ∧ fitC (.sl false [.i .u8]) (.sl a1) := by
 obtain ⟨l, rfl, h⟩ := fitE_st h
 obtain ⟨x0, l0, rfl, h0, h⟩ := fitCs_cons h
 obtain ⟨x1, l1, rfl, h1, h⟩ := fitCs_cons h
 obtain rfl := fitCs_nil h
 obtain ⟨a0, rfl⟩ := fitC_b h0
 obtain ⟨a1, rfl, q1⟩ := fitC_sl h1
 exact ⟨a0, a1, rfl, q1⟩
theorem sz129 (hlf : 33554432 ≤ lf) {d : Nat} (hd : 2 ≤ d) : SZ1 (Cc lf d) 129 (fitE true csfit_bSc) := by
 refine SZ1.le (Cc_le hd) ?_
 intro t ht x h0 h1
 obtain ⟨a0, a1, rfl, q1⟩ := fit_bSc ht
 have hcall : Cc lf 2 129 [T.st [T.b a0, T.sl a1], T.i .i64 x] = f129_t (Cc lf 1) lf a0 a1 x := f129_eq (Cc lf 1) lf a0 a1 x
 rw [hcall]
 unfold f129_t
 have s1 := sz132 hlf (d := 1) (by omega) (T.sl a1) q1 x (by omega) (by omega)
 rcases s1 with e | ⟨y1, e, p1, z1⟩
 ·left
  rw [e]
  rfl
 rw [e]
 simp only [Option.bind_some, nth0, asI_i]
 rw [iLt_f (show ¬ (y1 < 0) by omega), cond_false]
 simp only [tl, tls] at z1
 refine .inr ⟨y1, rfl, by omega, ?_⟩
 simp only [tl, tls]
 omega
theorem sz123 (hlf : 33554432 ≤ lf) {d : Nat} (hd : 3 ≤ d) : SZ1 (Cc lf d) 123 (fitC (.sl true [.b, .sl false [.i .u8]])) := by
 exact SZ1.le (Cc_le hd) (sz_slice1 (c := Cc lf 2) (c' := Cc lf 3) hlf (sz129 hlf (Nat.le_refl _)) (F := fun l n x i => f123_0 (Cc lf 2) lf l n x i) (G := fun l i x => Cc lf 2 129 [T.st [T.b (asB (T.cell (l.getD i.toNat T.u) 0)), T.sl (asL (T.cell (l.getD i.toNat T.u) 1))], T.i .i64 x])
  (fun l x => f123_eq (Cc lf 2) lf l x) (fun l n x i => rfl) (fun l j x h hf => by
   obtain ⟨a0, a1, e, _⟩ := fit_bSc hf
   simp only [getD_nat h, e]
   rfl))
abbrev csfit_MbScEib : List CT := [.sl true [.b, .sl false [.i .u8]], .i .i64, .b]
theorem fit_MbScEib {t : T} (h : fitE true csfit_MbScEib t) : ∃ (a0 : List T) (a1 : Int) (a2 : Bool), t = .st [.sl a0, .i .i64 a1, .b a2] ∧ fitC (.sl true [.b, .sl false [.i .u8]]) (.sl a0) ∧ (Lit.int .i64 a1).wf = true := by
 obtain ⟨l, rfl, h⟩ := fitE_st h
 obtain ⟨x0, l0, rfl, h0, h⟩ := fitCs_cons h
 obtain ⟨x1, l1, rfl, h1, h⟩ := fitCs_cons h
 obtain ⟨x2, l2, rfl, h2, h⟩ := fitCs_cons h
 obtain rfl := fitCs_nil h
 obtain ⟨a0, rfl, q0⟩ := fitC_sl h0
 obtain ⟨a1, rfl, q1⟩ := fitC_i h1
 obtain ⟨a2, rfl⟩ := fitC_b h2
 exact ⟨a0, a1, a2, rfl, q0, q1⟩
theorem sz116 (hlf : 33554432 ≤ lf) {d : Nat} (hd : 4 ≤ d) : SZ1 (Cc lf d) 116 (fitE true csfit_MbScEib) := by
 refine SZ1.le (Cc_le hd) ?_
 intro t ht x h0 h1
 obtain ⟨a0, a1, a2, rfl, q0, q1⟩ := fit_MbScEib ht
 have hcall : Cc lf 4 116 [T.st [T.sl a0, T.i .i64 a1, T.b a2], T.i .i64 x] = f116_t (Cc lf 3) lf a0 a1 a2 x := f116_eq (Cc lf 3) lf a0 a1 a2 x
 rw [hcall]
 unfold f116_t
 have s1 := sz123 hlf (d := 3) (by omega) (T.sl a0) q0 x (by omega) (by omega)
 rcases s1 with e | ⟨y1, e, p1, z1⟩
 ·left
  rw [e]
  rfl
 rw [e]
 simp only [Option.bind_some, nth0, asI_i]
 rw [iLt_f (show ¬ (y1 < 0) by omega), cond_false]
 simp only [tl, tls] at z1
 refine .inr ⟨y1, rfl, by omega, ?_⟩
 simp only [tl, tls]
 omega
theorem sz97 (hlf : 33554432 ≤ lf) {d : Nat} (hd : 5 ≤ d) : SZ1 (Cc lf d) 97 (fitC (.sl true [.sl true [.b, .sl false [.i .u8]], .i .i64, .b])) := by
 exact SZ1.le (Cc_le hd) (sz_slice1 (c := Cc lf 4) (c' := Cc lf 5) hlf (sz116 hlf (Nat.le_refl _)) (F := fun l n x i => f97_0 (Cc lf 4) lf l n x i) (G := fun l i x => Cc lf 4 116 [T.st [T.sl (asL (T.cell (l.getD i.toNat T.u) 0)), T.i .i64 (asI (T.cell (l.getD i.toNat T.u) 1)), T.b (asB (T.cell (l.getD i.toNat T.u) 2))], T.i .i64 x])
  (fun l x => f97_eq (Cc lf 4) lf l x) (fun l n x i => rfl) (fun l j x h hf => by
   obtain ⟨a0, a1, a2, e, _⟩ := fit_MbScEib hf
   simp only [getD_nat h, e]
   rfl))
abbrev csfit_MMbScEibE : List CT := [.sl true [.sl true [.b, .sl false [.i .u8]], .i .i64, .b]]
theorem fit_MMbScEibE {t : T} (h : fitE true csfit_MMbScEibE t) : ∃ (a0 : List T), t = .st [.sl a0] ∧ fitC (.sl true [.sl true [.b, .sl false [.i .u8]], .i .i64, .b]) (.sl a0) := by
 obtain ⟨l, rfl, h⟩ := fitE_st h
 obtain ⟨x0, l0, rfl, h0, h⟩ := fitCs_cons h
 obtain rfl := fitCs_nil h
 obtain ⟨a0, rfl, q0⟩ := fitC_sl h0
 exact ⟨a0, rfl, q0⟩
theorem sz66 (hlf : 33554432 ≤ lf) {d : Nat} (hd : 6 ≤ d) : SZ1 (Cc lf d) 66 (fitE true csfit_MMbScEibE) := by
 refine SZ1.le (Cc_le hd) ?_
 intro t ht x h0 h1
 obtain ⟨a0, rfl, q0⟩ := fit_MMbScEibE ht
 have hcall : Cc lf 6 66 [T.st [T.sl a0], T.i .i64 x] = f66_t (Cc lf 5) lf a0 x := f66_eq (Cc lf 5) lf a0 x
 rw [hcall]
 unfold f66_t
 have s1 := sz97 hlf (d := 5) (by omega) (T.sl a0) q0 x (by omega) (by omega)
 rcases s1 with e | ⟨y1, e, p1, z1⟩
 ·left
  rw [e]
  rfl
 rw [e]
 simp only [Option.bind_some, nth0, asI_i]
 rw [iLt_f (show ¬ (y1 < 0) by omega), cond_false]
 simp only [tl, tls] at z1
 refine .inr ⟨y1, rfl, by omega, ?_⟩
 simp only [tl, tls]
 omega
theorem sz67 (hlf : 33554432 ≤ lf) {d : Nat} (hd : 1 ≤ d) : SZ1 (Cc lf d) 67 (fitC (.sl true [.i .i64, .i .i64, .i .i64])) := by
 exact SZ1.le (Cc_le hd) (sz_flat1 (c := Cc lf 1) rfl fun l x => f67_eq (Cc lf 0) lf l x)
abbrev csfit_MMbScEibEiMiiiEb : List CT := [.sl true [.sl true [.b, .sl false [.i .u8]], .i .i64, .b], .i .i64, .sl true [.i .i64, .i .i64, .i .i64], .b]
theorem fit_MMbScEibEiMiiiEb {t : T} (h : fitE true csfit_MMbScEibEiMiiiEb t) : ∃ (a0 : List T) (a1 : Int) (a2 : List T) (a3 : Bool), t = .st [.sl a0, .i .i64 a1, .sl a2, .b a3] ∧ fitC (.sl true [.sl true [.b, .sl false [.i .u8]], .i .i64, .b]) (.sl a0) ∧ (Lit.int .i64 a1).wf = true ∧ fitC (.sl true [.i .i64, .i .i64, .i .i64]) (.sl a2) := by
 obtain ⟨l, rfl, h⟩ := fitE_st h
 obtain ⟨x0, l0, rfl, h0, h⟩ := fitCs_cons h
 obtain ⟨x1, l1, rfl, h1, h⟩ := fitCs_cons h
 obtain ⟨x2, l2, rfl, h2, h⟩ := fitCs_cons h
 obtain ⟨x3, l3, rfl, h3, h⟩ := fitCs_cons h
 obtain rfl := fitCs_nil h
 obtain ⟨a0, rfl, q0⟩ := fitC_sl h0
 obtain ⟨a1, rfl, q1⟩ := fitC_i h1
 obtain ⟨a2, rfl, q2⟩ := fitC_sl h2
 obtain ⟨a3, rfl⟩ := fitC_b h3
 exact ⟨a0, a1, a2, a3, rfl, q0, q1, q2⟩
theorem sz41 (hlf : 33554432 ≤ lf) {d : Nat} (hd : 7 ≤ d) : SZ1 (Cc lf d) 41 (fitE true csfit_MMbScEibEiMiiiEb) := by
 refine SZ1.le (Cc_le hd) ?_
 intro t ht x h0 h1
 obtain ⟨a0, a1, a2, a3, rfl, q0, q1, q2⟩ := fit_MMbScEibEiMiiiEb ht
 have hcall : Cc lf 7 41 [T.st [T.sl a0, T.i .i64 a1, T.sl a2, T.b a3], T.i .i64 x] = f41_t (Cc lf 6) lf a0 a1 a2 a3 x := f41_eq (Cc lf 6) lf a0 a1 a2 a3 x
 rw [hcall]
 unfold f41_t
 have s1 := sz66 hlf (d := 6) (by omega) (T.st [T.sl a0]) (show fitE true csfit_MMbScEibE (T.st [T.sl a0]) from ⟨q0, trivial⟩) x (by omega) (by omega)
 rcases s1 with e | ⟨y1, e, p1, z1⟩
 ·left
  rw [e]
  rfl
 rw [e]
 simp only [Option.bind_some, nth0, asI_i]
 rw [iLt_f (show ¬ (y1 < 0) by omega), cond_false]
 simp only [tl, tls] at z1
 have s2 := sz67 hlf (d := 6) (by omega) (T.sl a2) q2 y1 (by omega) (by omega)
 rcases s2 with e | ⟨y2, e, p2, z2⟩
 ·left
  rw [e]
  rfl
 rw [e]
 simp only [Option.bind_some, nth0, asI_i]
 rw [iLt_f (show ¬ (y2 < 0) by omega), cond_false]
 simp only [tl, tls] at z2
 refine .inr ⟨y2, rfl, by omega, ?_⟩
 simp only [tl, tls]
 omega
abbrev csfit_MMbScEibEiMiiiEbi : List CT := [.sl true [.sl true [.b, .sl false [.i .u8]], .i .i64, .b], .i .i64, .sl true [.i .i64, .i .i64, .i .i64], .b, .i .i64]
theorem fit_MMbScEibEiMiiiEbi {t : T} (h : fitE true csfit_MMbScEibEiMiiiEbi t) : ∃ (a0 : List T) (a1 : Int) (a2 : List T) (a3 : Bool) (a4 : Int), t = .st [.sl a0, .i .i64 a1, .sl a2, .b a3, .i .i64 a4] ∧ fitC (.sl true [.sl true [.b, .sl false [.i .u8]], .i .i64, .b]) (.sl a0) ∧ (Lit.int .i64 a1).wf = true ∧ fitC (.sl true [.i .i64, .i .i64, .i .i64]) (.sl a2) ∧ (Lit.int .i64 a4).wf = true := by
 obtain ⟨l, rfl, h⟩ := fitE_st h
 obtain ⟨x0, l0, rfl, h0, h⟩ := fitCs_cons h
 obtain ⟨x1, l1, rfl, h1, h⟩ := fitCs_cons h
 obtain ⟨x2, l2, rfl, h2, h⟩ := fitCs_cons h
 obtain ⟨x3, l3, rfl, h3, h⟩ := fitCs_cons h
 obtain ⟨x4, l4, rfl, h4, h⟩ := fitCs_cons h
 obtain rfl := fitCs_nil h
 obtain ⟨a0, rfl, q0⟩ := fitC_sl h0
 obtain ⟨a1, rfl, q1⟩ := fitC_i h1
 obtain ⟨a2, rfl, q2⟩ := fitC_sl h2
 obtain ⟨a3, rfl⟩ := fitC_b h3
 obtain ⟨a4, rfl, q4⟩ := fitC_i h4
 exact ⟨a0, a1, a2, a3, a4, rfl, q0, q1, q2, q4⟩
theorem sz15 (hlf : 33554432 ≤ lf) {d : Nat} (hd : 8 ≤ d) : SZ1 (Cc lf d) 15 (fitE true csfit_MMbScEibEiMiiiEbi) := by
 refine SZ1.le (Cc_le hd) ?_
 intro t ht x h0 h1
 obtain ⟨a0, a1, a2, a3, a4, rfl, q0, q1, q2, q4⟩ := fit_MMbScEibEiMiiiEbi ht
 have hcall : Cc lf 8 15 [T.st [T.sl a0, T.i .i64 a1, T.sl a2, T.b a3, T.i .i64 a4], T.i .i64 x] = f15_t (Cc lf 7) lf a0 a1 a2 a3 a4 x := f15_eq (Cc lf 7) lf a0 a1 a2 a3 a4 x
 rw [hcall]
 unfold f15_t
 have s1 := sz41 hlf (d := 7) (by omega) (T.st [T.sl a0, T.i .i64 a1, T.sl a2, T.b a3]) (show fitE true csfit_MMbScEibEiMiiiEb (T.st [T.sl a0, T.i .i64 a1, T.sl a2, T.b a3]) from ⟨q0, ⟨rfl, q1⟩, q2, trivial, trivial⟩) x (by omega) (by omega)
 rcases s1 with e | ⟨y1, e, p1, z1⟩
 ·left
  rw [e]
  rfl
 rw [e]
 simp only [Option.bind_some, nth0, asI_i]
 rw [iLt_f (show ¬ (y1 < 0) by omega), cond_false]
 simp only [tl, tls] at z1
 refine .inr ⟨y1, rfl, by omega, ?_⟩
 simp only [tl, tls]
 omega
abbrev csfit_si : List CT := [.s, .i .i64]
theorem fit_si {t : T} (h : fitE true csfit_si t) : ∃ (a0 : ByteArray) (a1 : Int), t = .st [.s a0, .i .i64 a1] ∧ a0.size ≤ maxLen ∧ (Lit.int .i64 a1).wf = true := by
 obtain ⟨l, rfl, h⟩ := fitE_st h
 obtain ⟨x0, l0, rfl, h0, h⟩ := fitCs_cons h
 obtain ⟨x1, l1, rfl, h1, h⟩ := fitCs_cons h
 obtain rfl := fitCs_nil h
 obtain ⟨a0, rfl, q0⟩ := fitC_s h0
 obtain ⟨a1, rfl, q1⟩ := fitC_i h1
 exact ⟨a0, a1, rfl, q0, q1⟩
theorem sz141 (hlf : 33554432 ≤ lf) {d : Nat} (hd : 1 ≤ d) : SZ1 (Cc lf d) 141 (fitE true csfit_si) := by
 refine SZ1.le (Cc_le hd) ?_
 intro t ht x h0 h1
 obtain ⟨a0, a1, rfl, q0, q1⟩ := fit_si ht
 have hcall : Cc lf 1 141 [T.st [T.s a0, T.i .i64 a1], T.i .i64 x] = f141_t (Cc lf 0) lf a0 a1 x := f141_eq (Cc lf 0) lf a0 a1 x
 rw [hcall]
 unfold f141_t
 have w1 := sub_in (x := x) (n := a0.size) (by omega) (by omega) q0
 rw [w1]
 by_cases p1 : x - (a0.size : Int) < 0
 ·left
  rw [iLt_t p1, cond_true]
 rw [iLt_f p1, cond_false]
 obtain ⟨y1, e1⟩ : ∃ y, y = x - (a0.size : Int) := ⟨_, rfl⟩
 rw [← e1]
 refine .inr ⟨y1, rfl, by omega, ?_⟩
 simp only [tl, tls]
 omega
theorem sz133 (hlf : 33554432 ≤ lf) {d : Nat} (hd : 2 ≤ d) : SZ1 (Cc lf d) 133 (fitC (.sl true [.s, .i .i64])) := by
 exact SZ1.le (Cc_le hd) (sz_slice1 (c := Cc lf 1) (c' := Cc lf 2) hlf (sz141 hlf (Nat.le_refl _)) (F := fun l n x i => f133_0 (Cc lf 1) lf l n x i) (G := fun l i x => Cc lf 1 141 [T.st [T.s (asS (T.cell (l.getD i.toNat T.u) 0)), T.i .i64 (asI (T.cell (l.getD i.toNat T.u) 1))], T.i .i64 x])
  (fun l x => f133_eq (Cc lf 1) lf l x) (fun l n x i => rfl) (fun l j x h hf => by
   obtain ⟨a0, a1, e, _⟩ := fit_si hf
   simp only [getD_nat h, e]
   rfl))
abbrev csfit_ss : List CT := [.s, .s]
theorem fit_ss {t : T} (h : fitE true csfit_ss t) : ∃ (a0 : ByteArray) (a1 : ByteArray), t = .st [.s a0, .s a1] ∧ a0.size ≤ maxLen ∧ a1.size ≤ maxLen := by
 obtain ⟨l, rfl, h⟩ := fitE_st h
 obtain ⟨x0, l0, rfl, h0, h⟩ := fitCs_cons h
 obtain ⟨x1, l1, rfl, h1, h⟩ := fitCs_cons h
 obtain rfl := fitCs_nil h
 obtain ⟨a0, rfl, q0⟩ := fitC_s h0
 obtain ⟨a1, rfl, q1⟩ := fitC_s h1
 exact ⟨a0, a1, rfl, q0, q1⟩
theorem sz142 (hlf : 33554432 ≤ lf) {d : Nat} (hd : 1 ≤ d) : SZ1 (Cc lf d) 142 (fitE true csfit_ss) := by
 refine SZ1.le (Cc_le hd) ?_
 intro t ht x h0 h1
 obtain ⟨a0, a1, rfl, q0, q1⟩ := fit_ss ht
 have hcall : Cc lf 1 142 [T.st [T.s a0, T.s a1], T.i .i64 x] = f142_t (Cc lf 0) lf a0 a1 x := f142_eq (Cc lf 0) lf a0 a1 x
 rw [hcall]
 unfold f142_t
 have w1 := sub_in (x := x) (n := a0.size) (by omega) (by omega) q0
 rw [w1]
 by_cases p1 : x - (a0.size : Int) < 0
 ·left
  rw [iLt_t p1, cond_true]
 rw [iLt_f p1, cond_false]
 obtain ⟨y1, e1⟩ : ∃ y, y = x - (a0.size : Int) := ⟨_, rfl⟩
 rw [← e1]
 have w2 := sub_in (x := y1) (n := a1.size) (by omega) (by omega) q1
 rw [w2]
 by_cases p2 : y1 - (a1.size : Int) < 0
 ·left
  rw [iLt_t p2, cond_true]
 rw [iLt_f p2, cond_false]
 obtain ⟨y2, e2⟩ : ∃ y, y = y1 - (a1.size : Int) := ⟨_, rfl⟩
 rw [← e2]
 refine .inr ⟨y2, rfl, by omega, ?_⟩
 simp only [tl, tls]
 omega
theorem sz134 (hlf : 33554432 ≤ lf) {d : Nat} (hd : 2 ≤ d) : SZ1 (Cc lf d) 134 (fitC (.sl true [.s, .s])) := by
 exact SZ1.le (Cc_le hd) (sz_slice1 (c := Cc lf 1) (c' := Cc lf 2) hlf (sz142 hlf (Nat.le_refl _)) (F := fun l n x i => f134_0 (Cc lf 1) lf l n x i) (G := fun l i x => Cc lf 1 142 [T.st [T.s (asS (T.cell (l.getD i.toNat T.u) 0)), T.s (asS (T.cell (l.getD i.toNat T.u) 1))], T.i .i64 x])
  (fun l x => f134_eq (Cc lf 1) lf l x) (fun l n x i => rfl) (fun l j x h hf => by
   obtain ⟨a0, a1, e, _⟩ := fit_ss hf
   simp only [getD_nat h, e]
   rfl))
abbrev csfit_iiiScMsiEMssE : List CT := [.i .i64, .i .i64, .i .i64, .sl false [.i .u8], .sl true [.s, .i .i64], .sl true [.s, .s]]
theorem fit_iiiScMsiEMssE {t : T} (h : fitE true csfit_iiiScMsiEMssE t) : ∃ (a0 : Int) (a1 : Int) (a2 : Int) (a3 : List T) (a4 : List T) (a5 : List T), t = .st [.i .i64 a0, .i .i64 a1, .i .i64 a2, .sl a3, .sl a4, .sl a5] ∧ (Lit.int .i64 a0).wf = true ∧ (Lit.int .i64 a1).wf = true ∧ (Lit.int .i64 a2).wf = true ∧ fitC (.sl false [.i .u8]) (.sl a3) ∧ fitC (.sl true [.s, .i .i64]) (.sl a4) ∧ fitC (.sl true [.s, .s]) (.sl a5) := by
 obtain ⟨l, rfl, h⟩ := fitE_st h
 obtain ⟨x0, l0, rfl, h0, h⟩ := fitCs_cons h
 obtain ⟨x1, l1, rfl, h1, h⟩ := fitCs_cons h
 obtain ⟨x2, l2, rfl, h2, h⟩ := fitCs_cons h
 obtain ⟨x3, l3, rfl, h3, h⟩ := fitCs_cons h
 obtain ⟨x4, l4, rfl, h4, h⟩ := fitCs_cons h
 obtain ⟨x5, l5, rfl, h5, h⟩ := fitCs_cons h
 obtain rfl := fitCs_nil h
 obtain ⟨a0, rfl, q0⟩ := fitC_i h0
 obtain ⟨a1, rfl, q1⟩ := fitC_i h1
 obtain ⟨a2, rfl, q2⟩ := fitC_i h2
 obtain ⟨a3, rfl, q3⟩ := fitC_sl h3
 obtain ⟨a4, rfl, q4⟩ := fitC_sl h4
 obtain ⟨a5, rfl, q5⟩ := fitC_sl h5
 exact ⟨a0, a1, a2, a3, a4, a5, rfl, q0, q1, q2, q3, q4, q5⟩
theorem sz126 (hlf : 33554432 ≤ lf) {d : Nat} (hd : 3 ≤ d) : SZ1 (Cc lf d) 126 (fitE true csfit_iiiScMsiEMssE) := by
 refine SZ1.le (Cc_le hd) ?_
 intro t ht x h0 h1
 obtain ⟨a0, a1, a2, a3, a4, a5, rfl, q0, q1, q2, q3, q4, q5⟩ := fit_iiiScMsiEMssE ht
 have hcall : Cc lf 3 126 [T.st [T.i .i64 a0, T.i .i64 a1, T.i .i64 a2, T.sl a3, T.sl a4, T.sl a5], T.i .i64 x] = f126_t (Cc lf 2) lf a0 a1 a2 a3 a4 a5 x := f126_eq (Cc lf 2) lf a0 a1 a2 a3 a4 a5 x
 rw [hcall]
 unfold f126_t
 have s1 := sz132 hlf (d := 2) (by omega) (T.sl a3) q3 x (by omega) (by omega)
 rcases s1 with e | ⟨y1, e, p1, z1⟩
 ·left
  rw [e]
  rfl
 rw [e]
 simp only [Option.bind_some, nth0, asI_i]
 rw [iLt_f (show ¬ (y1 < 0) by omega), cond_false]
 simp only [tl, tls] at z1
 have s2 := sz133 hlf (d := 2) (by omega) (T.sl a4) q4 y1 (by omega) (by omega)
 rcases s2 with e | ⟨y2, e, p2, z2⟩
 ·left
  rw [e]
  rfl
 rw [e]
 simp only [Option.bind_some, nth0, asI_i]
 rw [iLt_f (show ¬ (y2 < 0) by omega), cond_false]
 simp only [tl, tls] at z2
 have s3 := sz134 hlf (d := 2) (by omega) (T.sl a5) q5 y2 (by omega) (by omega)
 rcases s3 with e | ⟨y3, e, p3, z3⟩
 ·left
  rw [e]
  rfl
 rw [e]
 simp only [Option.bind_some, nth0, asI_i]
 rw [iLt_f (show ¬ (y3 < 0) by omega), cond_false]
 simp only [tl, tls] at z3
 refine .inr ⟨y3, rfl, by omega, ?_⟩
 simp only [tl, tls]
 omega
theorem sz119 (hlf : 33554432 ≤ lf) {d : Nat} (hd : 4 ≤ d) : SZ1 (Cc lf d) 119 (fitC (.sl true [.i .i64, .i .i64, .i .i64, .sl false [.i .u8], .sl true [.s, .i .i64], .sl true [.s, .s]])) := by
 exact SZ1.le (Cc_le hd) (sz_slice1 (c := Cc lf 3) (c' := Cc lf 4) hlf (sz126 hlf (Nat.le_refl _)) (F := fun l n x i => f119_0 (Cc lf 3) lf l n x i) (G := fun l i x => Cc lf 3 126 [T.st [T.i .i64 (asI (T.cell (l.getD i.toNat T.u) 0)), T.i .i64 (asI (T.cell (l.getD i.toNat T.u) 1)), T.i .i64 (asI (T.cell (l.getD i.toNat T.u) 2)), T.sl (asL (T.cell (l.getD i.toNat T.u) 3)), T.sl (asL (T.cell (l.getD i.toNat T.u) 4)), T.sl (asL (T.cell (l.getD i.toNat T.u) 5))], T.i .i64 x])
  (fun l x => f119_eq (Cc lf 3) lf l x) (fun l n x i => rfl) (fun l j x h hf => by
   obtain ⟨a0, a1, a2, a3, a4, a5, e, _⟩ := fit_iiiScMsiEMssE hf
   simp only [getD_nat h, e]
   rfl))
abbrev csfit_MiiiScMsiEMssEEi : List CT := [.sl true [.i .i64, .i .i64, .i .i64, .sl false [.i .u8], .sl true [.s, .i .i64], .sl true [.s, .s]], .i .i64]
theorem fit_MiiiScMsiEMssEEi {t : T} (h : fitE true csfit_MiiiScMsiEMssEEi t) : ∃ (a0 : List T) (a1 : Int), t = .st [.sl a0, .i .i64 a1] ∧ fitC (.sl true [.i .i64, .i .i64, .i .i64, .sl false [.i .u8], .sl true [.s, .i .i64], .sl true [.s, .s]]) (.sl a0) ∧ (Lit.int .i64 a1).wf = true := by
 obtain ⟨l, rfl, h⟩ := fitE_st h
 obtain ⟨x0, l0, rfl, h0, h⟩ := fitCs_cons h
 obtain ⟨x1, l1, rfl, h1, h⟩ := fitCs_cons h
 obtain rfl := fitCs_nil h
 obtain ⟨a0, rfl, q0⟩ := fitC_sl h0
 obtain ⟨a1, rfl, q1⟩ := fitC_i h1
 exact ⟨a0, a1, rfl, q0, q1⟩
theorem sz102 (hlf : 33554432 ≤ lf) {d : Nat} (hd : 5 ≤ d) : SZ1 (Cc lf d) 102 (fitE true csfit_MiiiScMsiEMssEEi) := by
 refine SZ1.le (Cc_le hd) ?_
 intro t ht x h0 h1
 obtain ⟨a0, a1, rfl, q0, q1⟩ := fit_MiiiScMsiEMssEEi ht
 have hcall : Cc lf 5 102 [T.st [T.sl a0, T.i .i64 a1], T.i .i64 x] = f102_t (Cc lf 4) lf a0 a1 x := f102_eq (Cc lf 4) lf a0 a1 x
 rw [hcall]
 unfold f102_t
 have s1 := sz119 hlf (d := 4) (by omega) (T.sl a0) q0 x (by omega) (by omega)
 rcases s1 with e | ⟨y1, e, p1, z1⟩
 ·left
  rw [e]
  rfl
 rw [e]
 simp only [Option.bind_some, nth0, asI_i]
 rw [iLt_f (show ¬ (y1 < 0) by omega), cond_false]
 simp only [tl, tls] at z1
 refine .inr ⟨y1, rfl, by omega, ?_⟩
 simp only [tl, tls]
 omega
abbrev csfit_isbiMiiiScMsiEMssEEi : List CT := [.i .i64, .s, .b, .i .i64, .sl true [.i .i64, .i .i64, .i .i64, .sl false [.i .u8], .sl true [.s, .i .i64], .sl true [.s, .s]], .i .i64]
theorem fit_isbiMiiiScMsiEMssEEi {t : T} (h : fitE true csfit_isbiMiiiScMsiEMssEEi t) : ∃ (a0 : Int) (a1 : ByteArray) (a2 : Bool) (a3 : Int) (a4 : List T) (a5 : Int), t = .st [.i .i64 a0, .s a1, .b a2, .i .i64 a3, .sl a4, .i .i64 a5] ∧ (Lit.int .i64 a0).wf = true ∧ a1.size ≤ maxLen ∧ (Lit.int .i64 a3).wf = true ∧ fitC (.sl true [.i .i64, .i .i64, .i .i64, .sl false [.i .u8], .sl true [.s, .i .i64], .sl true [.s, .s]]) (.sl a4) ∧ (Lit.int .i64 a5).wf = true := by
 obtain ⟨l, rfl, h⟩ := fitE_st h
 obtain ⟨x0, l0, rfl, h0, h⟩ := fitCs_cons h
 obtain ⟨x1, l1, rfl, h1, h⟩ := fitCs_cons h
 obtain ⟨x2, l2, rfl, h2, h⟩ := fitCs_cons h
 obtain ⟨x3, l3, rfl, h3, h⟩ := fitCs_cons h
 obtain ⟨x4, l4, rfl, h4, h⟩ := fitCs_cons h
 obtain ⟨x5, l5, rfl, h5, h⟩ := fitCs_cons h
 obtain rfl := fitCs_nil h
 obtain ⟨a0, rfl, q0⟩ := fitC_i h0
 obtain ⟨a1, rfl, q1⟩ := fitC_s h1
 obtain ⟨a2, rfl⟩ := fitC_b h2
 obtain ⟨a3, rfl, q3⟩ := fitC_i h3
 obtain ⟨a4, rfl, q4⟩ := fitC_sl h4
 obtain ⟨a5, rfl, q5⟩ := fitC_i h5
 exact ⟨a0, a1, a2, a3, a4, a5, rfl, q0, q1, q3, q4, q5⟩
theorem sz75 (hlf : 33554432 ≤ lf) {d : Nat} (hd : 6 ≤ d) : SZ1 (Cc lf d) 75 (fitE true csfit_isbiMiiiScMsiEMssEEi) := by
 refine SZ1.le (Cc_le hd) ?_
 intro t ht x h0 h1
 obtain ⟨a0, a1, a2, a3, a4, a5, rfl, q0, q1, q3, q4, q5⟩ := fit_isbiMiiiScMsiEMssEEi ht
 have hcall : Cc lf 6 75 [T.st [T.i .i64 a0, T.s a1, T.b a2, T.i .i64 a3, T.sl a4, T.i .i64 a5], T.i .i64 x] = f75_t (Cc lf 5) lf a0 a1 a2 a3 a4 a5 x := f75_eq (Cc lf 5) lf a0 a1 a2 a3 a4 a5 x
 rw [hcall]
 unfold f75_t
 have w1 := sub_in (x := x) (n := a1.size) (by omega) (by omega) q1
 rw [w1]
 by_cases p1 : x - (a1.size : Int) < 0
 ·left
  rw [iLt_t p1, cond_true]
 rw [iLt_f p1, cond_false]
 obtain ⟨y1, e1⟩ : ∃ y, y = x - (a1.size : Int) := ⟨_, rfl⟩
 rw [← e1]
 have s2 := sz102 hlf (d := 5) (by omega) (T.st [T.sl a4, T.i .i64 a5]) (show fitE true csfit_MiiiScMsiEMssEEi (T.st [T.sl a4, T.i .i64 a5]) from ⟨q4, ⟨rfl, q5⟩, trivial⟩) y1 (by omega) (by omega)
 rcases s2 with e | ⟨y2, e, p2, z2⟩
 ·left
  rw [e]
  rfl
 rw [e]
 simp only [Option.bind_some, nth0, asI_i]
 rw [iLt_f (show ¬ (y2 < 0) by omega), cond_false]
 simp only [tl, tls] at z2
 refine .inr ⟨y2, rfl, by omega, ?_⟩
 simp only [tl, tls]
 omega
theorem sz49 (hlf : 33554432 ≤ lf) {d : Nat} (hd : 7 ≤ d) : SZ1 (Cc lf d) 49 (fitC (.sl true [.i .i64, .s, .b, .i .i64, .sl true [.i .i64, .i .i64, .i .i64, .sl false [.i .u8], .sl true [.s, .i .i64], .sl true [.s, .s]], .i .i64])) := by
 exact SZ1.le (Cc_le hd) (sz_slice1 (c := Cc lf 6) (c' := Cc lf 7) hlf (sz75 hlf (Nat.le_refl _)) (F := fun l n x i => f49_0 (Cc lf 6) lf l n x i) (G := fun l i x => Cc lf 6 75 [T.st [T.i .i64 (asI (T.cell (l.getD i.toNat T.u) 0)), T.s (asS (T.cell (l.getD i.toNat T.u) 1)), T.b (asB (T.cell (l.getD i.toNat T.u) 2)), T.i .i64 (asI (T.cell (l.getD i.toNat T.u) 3)), T.sl (asL (T.cell (l.getD i.toNat T.u) 4)), T.i .i64 (asI (T.cell (l.getD i.toNat T.u) 5))], T.i .i64 x])
  (fun l x => f49_eq (Cc lf 6) lf l x) (fun l n x i => rfl) (fun l j x h hf => by
   obtain ⟨a0, a1, a2, a3, a4, a5, e, _⟩ := fit_isbiMiiiScMsiEMssEEi hf
   simp only [getD_nat h, e]
   rfl))
abbrev csfit_MisbiMiiiScMsiEMssEEiEi : List CT := [.sl true [.i .i64, .s, .b, .i .i64, .sl true [.i .i64, .i .i64, .i .i64, .sl false [.i .u8], .sl true [.s, .i .i64], .sl true [.s, .s]], .i .i64], .i .i64]
theorem fit_MisbiMiiiScMsiEMssEEiEi {t : T} (h : fitE true csfit_MisbiMiiiScMsiEMssEEiEi t) : ∃ (a0 : List T) (a1 : Int), t = .st [.sl a0, .i .i64 a1] ∧ fitC (.sl true [.i .i64, .s, .b, .i .i64, .sl true [.i .i64, .i .i64, .i .i64, .sl false [.i .u8], .sl true [.s, .i .i64], .sl true [.s, .s]], .i .i64]) (.sl a0) ∧ (Lit.int .i64 a1).wf = true := by
 obtain ⟨l, rfl, h⟩ := fitE_st h
 obtain ⟨x0, l0, rfl, h0, h⟩ := fitCs_cons h
 obtain ⟨x1, l1, rfl, h1, h⟩ := fitCs_cons h
 obtain rfl := fitCs_nil h
 obtain ⟨a0, rfl, q0⟩ := fitC_sl h0
 obtain ⟨a1, rfl, q1⟩ := fitC_i h1
 exact ⟨a0, a1, rfl, q0, q1⟩
theorem sz22 (hlf : 33554432 ≤ lf) {d : Nat} (hd : 8 ≤ d) : SZ1 (Cc lf d) 22 (fitE true csfit_MisbiMiiiScMsiEMssEEiEi) := by
 refine SZ1.le (Cc_le hd) ?_
 intro t ht x h0 h1
 obtain ⟨a0, a1, rfl, q0, q1⟩ := fit_MisbiMiiiScMsiEMssEEiEi ht
 have hcall : Cc lf 8 22 [T.st [T.sl a0, T.i .i64 a1], T.i .i64 x] = f22_t (Cc lf 7) lf a0 a1 x := f22_eq (Cc lf 7) lf a0 a1 x
 rw [hcall]
 unfold f22_t
 have s1 := sz49 hlf (d := 7) (by omega) (T.sl a0) q0 x (by omega) (by omega)
 rcases s1 with e | ⟨y1, e, p1, z1⟩
 ·left
  rw [e]
  rfl
 rw [e]
 simp only [Option.bind_some, nth0, asI_i]
 rw [iLt_f (show ¬ (y1 < 0) by omega), cond_false]
 simp only [tl, tls] at z1
 refine .inr ⟨y1, rfl, by omega, ?_⟩
 simp only [tl, tls]
 omega
abbrev csfit_isbii : List CT := [.i .i64, .s, .b, .i .i64, .i .i64]
theorem fit_isbii {t : T} (h : fitE true csfit_isbii t) : ∃ (a0 : Int) (a1 : ByteArray) (a2 : Bool) (a3 : Int) (a4 : Int), t = .st [.i .i64 a0, .s a1, .b a2, .i .i64 a3, .i .i64 a4] ∧ (Lit.int .i64 a0).wf = true ∧ a1.size ≤ maxLen ∧ (Lit.int .i64 a3).wf = true ∧ (Lit.int .i64 a4).wf = true := by
 obtain ⟨l, rfl, h⟩ := fitE_st h
 obtain ⟨x0, l0, rfl, h0, h⟩ := fitCs_cons h
 obtain ⟨x1, l1, rfl, h1, h⟩ := fitCs_cons h
 obtain ⟨x2, l2, rfl, h2, h⟩ := fitCs_cons h
 obtain ⟨x3, l3, rfl, h3, h⟩ := fitCs_cons h
 obtain ⟨x4, l4, rfl, h4, h⟩ := fitCs_cons h
 obtain rfl := fitCs_nil h
 obtain ⟨a0, rfl, q0⟩ := fitC_i h0
 obtain ⟨a1, rfl, q1⟩ := fitC_s h1
 obtain ⟨a2, rfl⟩ := fitC_b h2
 obtain ⟨a3, rfl, q3⟩ := fitC_i h3
 obtain ⟨a4, rfl, q4⟩ := fitC_i h4
 exact ⟨a0, a1, a2, a3, a4, rfl, q0, q1, q3, q4⟩
theorem sz76 (hlf : 33554432 ≤ lf) {d : Nat} (hd : 1 ≤ d) : SZ1 (Cc lf d) 76 (fitE true csfit_isbii) := by
 refine SZ1.le (Cc_le hd) ?_
 intro t ht x h0 h1
 obtain ⟨a0, a1, a2, a3, a4, rfl, q0, q1, q3, q4⟩ := fit_isbii ht
 have hcall : Cc lf 1 76 [T.st [T.i .i64 a0, T.s a1, T.b a2, T.i .i64 a3, T.i .i64 a4], T.i .i64 x] = f76_t (Cc lf 0) lf a0 a1 a2 a3 a4 x := f76_eq (Cc lf 0) lf a0 a1 a2 a3 a4 x
 rw [hcall]
 unfold f76_t
 have w1 := sub_in (x := x) (n := a1.size) (by omega) (by omega) q1
 rw [w1]
 by_cases p1 : x - (a1.size : Int) < 0
 ·left
  rw [iLt_t p1, cond_true]
 rw [iLt_f p1, cond_false]
 obtain ⟨y1, e1⟩ : ∃ y, y = x - (a1.size : Int) := ⟨_, rfl⟩
 rw [← e1]
 refine .inr ⟨y1, rfl, by omega, ?_⟩
 simp only [tl, tls]
 omega
theorem sz50 (hlf : 33554432 ≤ lf) {d : Nat} (hd : 2 ≤ d) : SZ1 (Cc lf d) 50 (fitC (.sl true [.i .i64, .s, .b, .i .i64, .i .i64])) := by
 exact SZ1.le (Cc_le hd) (sz_slice1 (c := Cc lf 1) (c' := Cc lf 2) hlf (sz76 hlf (Nat.le_refl _)) (F := fun l n x i => f50_0 (Cc lf 1) lf l n x i) (G := fun l i x => Cc lf 1 76 [T.st [T.i .i64 (asI (T.cell (l.getD i.toNat T.u) 0)), T.s (asS (T.cell (l.getD i.toNat T.u) 1)), T.b (asB (T.cell (l.getD i.toNat T.u) 2)), T.i .i64 (asI (T.cell (l.getD i.toNat T.u) 3)), T.i .i64 (asI (T.cell (l.getD i.toNat T.u) 4))], T.i .i64 x])
  (fun l x => f50_eq (Cc lf 1) lf l x) (fun l n x i => rfl) (fun l j x h hf => by
   obtain ⟨a0, a1, a2, a3, a4, e, _⟩ := fit_isbii hf
   simp only [getD_nat h, e]
   rfl))
abbrev csfit_iMisbiiE : List CT := [.i .i64, .sl true [.i .i64, .s, .b, .i .i64, .i .i64]]
theorem fit_iMisbiiE {t : T} (h : fitE true csfit_iMisbiiE t) : ∃ (a0 : Int) (a1 : List T), t = .st [.i .i64 a0, .sl a1] ∧ (Lit.int .i64 a0).wf = true ∧ fitC (.sl true [.i .i64, .s, .b, .i .i64, .i .i64]) (.sl a1) := by
 obtain ⟨l, rfl, h⟩ := fitE_st h
 obtain ⟨x0, l0, rfl, h0, h⟩ := fitCs_cons h
 obtain ⟨x1, l1, rfl, h1, h⟩ := fitCs_cons h
 obtain rfl := fitCs_nil h
 obtain ⟨a0, rfl, q0⟩ := fitC_i h0
 obtain ⟨a1, rfl, q1⟩ := fitC_sl h1
 exact ⟨a0, a1, rfl, q0, q1⟩
theorem sz23 (hlf : 33554432 ≤ lf) {d : Nat} (hd : 3 ≤ d) : SZ1 (Cc lf d) 23 (fitE true csfit_iMisbiiE) := by
 refine SZ1.le (Cc_le hd) ?_
 intro t ht x h0 h1
 obtain ⟨a0, a1, rfl, q0, q1⟩ := fit_iMisbiiE ht
 have hcall : Cc lf 3 23 [T.st [T.i .i64 a0, T.sl a1], T.i .i64 x] = f23_t (Cc lf 2) lf a0 a1 x := f23_eq (Cc lf 2) lf a0 a1 x
 rw [hcall]
 unfold f23_t
 have s1 := sz50 hlf (d := 2) (by omega) (T.sl a1) q1 x (by omega) (by omega)
 rcases s1 with e | ⟨y1, e, p1, z1⟩
 ·left
  rw [e]
  rfl
 rw [e]
 simp only [Option.bind_some, nth0, asI_i]
 rw [iLt_f (show ¬ (y1 < 0) by omega), cond_false]
 simp only [tl, tls] at z1
 refine .inr ⟨y1, rfl, by omega, ?_⟩
 simp only [tl, tls]
 omega
theorem sz77 (hlf : 33554432 ≤ lf) {d : Nat} (hd : 1 ≤ d) : SZ1 (Cc lf d) 77 (fitC (.sl true [.i .i64, .i .i64])) := by
 exact SZ1.le (Cc_le hd) (sz_flat1 (c := Cc lf 1) rfl fun l x => f77_eq (Cc lf 0) lf l x)
abbrev csfit_iMiiE : List CT := [.i .i64, .sl true [.i .i64, .i .i64]]
theorem fit_iMiiE {t : T} (h : fitE true csfit_iMiiE t) : ∃ (a0 : Int) (a1 : List T), t = .st [.i .i64 a0, .sl a1] ∧ (Lit.int .i64 a0).wf = true ∧ fitC (.sl true [.i .i64, .i .i64]) (.sl a1) := by
 obtain ⟨l, rfl, h⟩ := fitE_st h
 obtain ⟨x0, l0, rfl, h0, h⟩ := fitCs_cons h
 obtain ⟨x1, l1, rfl, h1, h⟩ := fitCs_cons h
 obtain rfl := fitCs_nil h
 obtain ⟨a0, rfl, q0⟩ := fitC_i h0
 obtain ⟨a1, rfl, q1⟩ := fitC_sl h1
 exact ⟨a0, a1, rfl, q0, q1⟩
theorem sz51 (hlf : 33554432 ≤ lf) {d : Nat} (hd : 2 ≤ d) : SZ1 (Cc lf d) 51 (fitE true csfit_iMiiE) := by
 refine SZ1.le (Cc_le hd) ?_
 intro t ht x h0 h1
 obtain ⟨a0, a1, rfl, q0, q1⟩ := fit_iMiiE ht
 have hcall : Cc lf 2 51 [T.st [T.i .i64 a0, T.sl a1], T.i .i64 x] = f51_t (Cc lf 1) lf a0 a1 x := f51_eq (Cc lf 1) lf a0 a1 x
 rw [hcall]
 unfold f51_t
 have s1 := sz77 hlf (d := 1) (by omega) (T.sl a1) q1 x (by omega) (by omega)
 rcases s1 with e | ⟨y1, e, p1, z1⟩
 ·left
  rw [e]
  rfl
 rw [e]
 simp only [Option.bind_some, nth0, asI_i]
 rw [iLt_f (show ¬ (y1 < 0) by omega), cond_false]
 simp only [tl, tls] at z1
 refine .inr ⟨y1, rfl, by omega, ?_⟩
 simp only [tl, tls]
 omega
theorem sz24 (hlf : 33554432 ≤ lf) {d : Nat} (hd : 3 ≤ d) : SZ1 (Cc lf d) 24 (fitC (.sl true [.i .i64, .sl true [.i .i64, .i .i64]])) := by
 exact SZ1.le (Cc_le hd) (sz_slice1 (c := Cc lf 2) (c' := Cc lf 3) hlf (sz51 hlf (Nat.le_refl _)) (F := fun l n x i => f24_0 (Cc lf 2) lf l n x i) (G := fun l i x => Cc lf 2 51 [T.st [T.i .i64 (asI (T.cell (l.getD i.toNat T.u) 0)), T.sl (asL (T.cell (l.getD i.toNat T.u) 1))], T.i .i64 x])
  (fun l x => f24_eq (Cc lf 2) lf l x) (fun l n x i => rfl) (fun l j x h hf => by
   obtain ⟨a0, a1, e, _⟩ := fit_iMiiE hf
   simp only [getD_nat h, e]
   rfl))
abbrev csfit_MisbiMiiiScMsiEMssEEiEiiMisbiiEMiMiiEEii : List CT := [.sl true [.i .i64, .s, .b, .i .i64, .sl true [.i .i64, .i .i64, .i .i64, .sl false [.i .u8], .sl true [.s, .i .i64], .sl true [.s, .s]], .i .i64], .i .i64, .i .i64, .sl true [.i .i64, .s, .b, .i .i64, .i .i64], .sl true [.i .i64, .sl true [.i .i64, .i .i64]], .i .i64, .i .i64]
theorem fit_MisbiMiiiScMsiEMssEEiEiiMisbiiEMiMiiEEii {t : T} (h : fitE true csfit_MisbiMiiiScMsiEMssEEiEiiMisbiiEMiMiiEEii t) : ∃ (a0 : List T) (a1 : Int) (a2 : Int) (a3 : List T) (a4 : List T) (a5 : Int) (a6 : Int), t = .st [.sl a0, .i .i64 a1, .i .i64 a2, .sl a3, .sl a4, .i .i64 a5, .i .i64 a6] ∧ fitC (.sl true [.i .i64, .s, .b, .i .i64, .sl true [.i .i64, .i .i64, .i .i64, .sl false [.i .u8], .sl true [.s, .i .i64], .sl true [.s, .s]], .i .i64]) (.sl a0) ∧ (Lit.int .i64 a1).wf = true ∧ (Lit.int .i64 a2).wf = true ∧ fitC (.sl true [.i .i64, .s, .b, .i .i64, .i .i64]) (.sl a3) ∧ fitC (.sl true [.i .i64, .sl true [.i .i64, .i .i64]]) (.sl a4) ∧ (Lit.int .i64 a5).wf = true ∧ (Lit.int .i64 a6).wf = true := by
 obtain ⟨l, rfl, h⟩ := fitE_st h
 obtain ⟨x0, l0, rfl, h0, h⟩ := fitCs_cons h
 obtain ⟨x1, l1, rfl, h1, h⟩ := fitCs_cons h
 obtain ⟨x2, l2, rfl, h2, h⟩ := fitCs_cons h
 obtain ⟨x3, l3, rfl, h3, h⟩ := fitCs_cons h
 obtain ⟨x4, l4, rfl, h4, h⟩ := fitCs_cons h
 obtain ⟨x5, l5, rfl, h5, h⟩ := fitCs_cons h
 obtain ⟨x6, l6, rfl, h6, h⟩ := fitCs_cons h
 obtain rfl := fitCs_nil h
 obtain ⟨a0, rfl, q0⟩ := fitC_sl h0
 obtain ⟨a1, rfl, q1⟩ := fitC_i h1
 obtain ⟨a2, rfl, q2⟩ := fitC_i h2
 obtain ⟨a3, rfl, q3⟩ := fitC_sl h3
 obtain ⟨a4, rfl, q4⟩ := fitC_sl h4
 obtain ⟨a5, rfl, q5⟩ := fitC_i h5
 obtain ⟨a6, rfl, q6⟩ := fitC_i h6
 exact ⟨a0, a1, a2, a3, a4, a5, a6, rfl, q0, q1, q2, q3, q4, q5, q6⟩
theorem sz6 (hlf : 33554432 ≤ lf) {d : Nat} (hd : 9 ≤ d) : SZ1 (Cc lf d) 6 (fitE true csfit_MisbiMiiiScMsiEMssEEiEiiMisbiiEMiMiiEEii) := by
 refine SZ1.le (Cc_le hd) ?_
 intro t ht x h0 h1
 obtain ⟨a0, a1, a2, a3, a4, a5, a6, rfl, q0, q1, q2, q3, q4, q5, q6⟩ := fit_MisbiMiiiScMsiEMssEEiEiiMisbiiEMiMiiEEii ht
 have hcall : Cc lf 9 6 [T.st [T.sl a0, T.i .i64 a1, T.i .i64 a2, T.sl a3, T.sl a4, T.i .i64 a5, T.i .i64 a6], T.i .i64 x] = f6_t (Cc lf 8) lf a0 a1 a2 a3 a4 a5 a6 x := f6_eq (Cc lf 8) lf a0 a1 a2 a3 a4 a5 a6 x
 rw [hcall]
 unfold f6_t
 have s1 := sz22 hlf (d := 8) (by omega) (T.st [T.sl a0, T.i .i64 a1]) (show fitE true csfit_MisbiMiiiScMsiEMssEEiEi (T.st [T.sl a0, T.i .i64 a1]) from ⟨q0, ⟨rfl, q1⟩, trivial⟩) x (by omega) (by omega)
 rcases s1 with e | ⟨y1, e, p1, z1⟩
 ·left
  rw [e]
  rfl
 rw [e]
 simp only [Option.bind_some, nth0, asI_i]
 rw [iLt_f (show ¬ (y1 < 0) by omega), cond_false]
 simp only [tl, tls] at z1
 have s2 := sz23 hlf (d := 8) (by omega) (T.st [T.i .i64 a2, T.sl a3]) (show fitE true csfit_iMisbiiE (T.st [T.i .i64 a2, T.sl a3]) from ⟨⟨rfl, q2⟩, q3, trivial⟩) y1 (by omega) (by omega)
 rcases s2 with e | ⟨y2, e, p2, z2⟩
 ·left
  rw [e]
  rfl
 rw [e]
 simp only [Option.bind_some, nth0, asI_i]
 rw [iLt_f (show ¬ (y2 < 0) by omega), cond_false]
 simp only [tl, tls] at z2
 have s3 := sz24 hlf (d := 8) (by omega) (T.sl a4) q4 y2 (by omega) (by omega)
 rcases s3 with e | ⟨y3, e, p3, z3⟩
 ·left
  rw [e]
  rfl
 rw [e]
 simp only [Option.bind_some, nth0, asI_i]
 rw [iLt_f (show ¬ (y3 < 0) by omega), cond_false]
 simp only [tl, tls] at z3
 refine .inr ⟨y3, rfl, by omega, ?_⟩
 simp only [tl, tls]
 omega
theorem to135 (hlf : 33554432 ≤ lf) {d : Nat} (hd : 1 ≤ d) : TO1 (Cc lf d) 135 (fitC (.sl false [.i .u8])) := by
 exact TO1.le (Cc_le hd) (to_slice1 (c' := Cc lf 1) hlf (m := false) (F := fun l n i out => f135_0 (Cc lf 0) lf l n i out) (G := fun _ _ => some []) (V := fun l i _ => T.i .u8 (asI (l.getD i.toNat T.u))) (fun l => f135_eq (Cc lf 0) lf l) (fun l n i out => rfl) (fun l j h hf _ => by
  refine ⟨[], rfl, ?_⟩
  have hf : fitC (.i .u8) l[j] := hf
  obtain ⟨v, e, _⟩ := fitC_i hf
  simp only [getD_nat h, e]
  rfl))
theorem to130 (hlf : 33554432 ≤ lf) {d : Nat} (hd : 2 ≤ d) : TO1 (Cc lf d) 130 (fitE true csfit_bSc) := by
 refine TO1.le (Cc_le hd) ?_
 intro t ht hs
 obtain ⟨a0, a1, rfl, q1⟩ := fit_bSc ht
 simp only [tl, tls] at hs
 have hcall : Cc lf 2 130 [T.st [T.b a0, T.sl a1]] = f130_t (Cc lf 1) lf a0 a1 := f130_eq (Cc lf 1) lf a0 a1
 rw [hcall]
 unfold f130_t
 have e1 := to135 hlf (d := 1) (by omega) (T.sl a1) q1 (by simp only [tl, tls]; omega)
 simp only [e1, Option.bind_some, nth0, asL_l, asI_i, asB_b, asS_s, cell0, cellS]
theorem to124 (hlf : 33554432 ≤ lf) {d : Nat} (hd : 3 ≤ d) : TO1 (Cc lf d) 124 (fitC (.sl true [.b, .sl false [.i .u8]])) := by
 exact TO1.le (Cc_le hd) (to_slice1 (c' := Cc lf 3) hlf (F := fun l n i out => f124_0 (Cc lf 2) lf l n i out) (G := fun l i => Cc lf 2 130 [T.st [T.b (asB (T.cell (l.getD i.toNat T.u) 0)), T.sl (asL (T.cell (l.getD i.toNat T.u) 1))]]) (V := fun _ _ r => T.st [T.b (asB (T.cell (nth r 0) 0)), T.sl (asL (T.cell (nth r 0) 1))]) (fun l => f124_eq (Cc lf 2) lf l) (fun l n i out => rfl) (fun l j h hf hs => by
  have hto := to130 hlf (d := 2) (by omega) _ hf hs
  obtain ⟨a0, a1, e, _⟩ := fit_bSc hf
  rw [e] at hto
  simp only [getD_nat h, e]
  exact ⟨_, hto, rfl⟩))
theorem to117 (hlf : 33554432 ≤ lf) {d : Nat} (hd : 4 ≤ d) : TO1 (Cc lf d) 117 (fitE true csfit_MbScEib) := by
 refine TO1.le (Cc_le hd) ?_
 intro t ht hs
 obtain ⟨a0, a1, a2, rfl, q0, q1⟩ := fit_MbScEib ht
 simp only [tl, tls] at hs
 have hcall : Cc lf 4 117 [T.st [T.sl a0, T.i .i64 a1, T.b a2]] = f117_t (Cc lf 3) lf a0 a1 a2 := f117_eq (Cc lf 3) lf a0 a1 a2
 rw [hcall]
 unfold f117_t
 have e1 := to124 hlf (d := 3) (by omega) (T.sl a0) q0 (by simp only [tl, tls]; omega)
 simp only [e1, Option.bind_some, nth0, asL_l, asI_i, asB_b, asS_s, cell0, cellS]
theorem to98 (hlf : 33554432 ≤ lf) {d : Nat} (hd : 5 ≤ d) : TO1 (Cc lf d) 98 (fitC (.sl true [.sl true [.b, .sl false [.i .u8]], .i .i64, .b])) := by
 exact TO1.le (Cc_le hd) (to_slice1 (c' := Cc lf 5) hlf (F := fun l n i out => f98_0 (Cc lf 4) lf l n i out) (G := fun l i => Cc lf 4 117 [T.st [T.sl (asL (T.cell (l.getD i.toNat T.u) 0)), T.i .i64 (asI (T.cell (l.getD i.toNat T.u) 1)), T.b (asB (T.cell (l.getD i.toNat T.u) 2))]]) (V := fun _ _ r => T.st [T.sl (asL (T.cell (nth r 0) 0)), T.i .i64 (asI (T.cell (nth r 0) 1)), T.b (asB (T.cell (nth r 0) 2))]) (fun l => f98_eq (Cc lf 4) lf l) (fun l n i out => rfl) (fun l j h hf hs => by
  have hto := to117 hlf (d := 4) (by omega) _ hf hs
  obtain ⟨a0, a1, a2, e, _⟩ := fit_MbScEib hf
  rw [e] at hto
  simp only [getD_nat h, e]
  exact ⟨_, hto, rfl⟩))
theorem to68 (hlf : 33554432 ≤ lf) {d : Nat} (hd : 6 ≤ d) : TO1 (Cc lf d) 68 (fitE true csfit_MMbScEibE) := by
 refine TO1.le (Cc_le hd) ?_
 intro t ht hs
 obtain ⟨a0, rfl, q0⟩ := fit_MMbScEibE ht
 simp only [tl, tls] at hs
 have hcall : Cc lf 6 68 [T.st [T.sl a0]] = f68_t (Cc lf 5) lf a0 := f68_eq (Cc lf 5) lf a0
 rw [hcall]
 unfold f68_t
 have e1 := to98 hlf (d := 5) (by omega) (T.sl a0) q0 (by simp only [tl, tls]; omega)
 simp only [e1, Option.bind_some, nth0, asL_l, asI_i, asB_b, asS_s, cell0, cellS]
abbrev csfit_iii : List CT := [.i .i64, .i .i64, .i .i64]
theorem fit_iii {t : T} (h : fitE true csfit_iii t) : ∃ (a0 : Int) (a1 : Int) (a2 : Int), t = .st [.i .i64 a0, .i .i64 a1, .i .i64 a2] ∧ (Lit.int .i64 a0).wf = true ∧ (Lit.int .i64 a1).wf = true ∧ (Lit.int .i64 a2).wf = true := by
 obtain ⟨l, rfl, h⟩ := fitE_st h
 obtain ⟨x0, l0, rfl, h0, h⟩ := fitCs_cons h
 obtain ⟨x1, l1, rfl, h1, h⟩ := fitCs_cons h
 obtain ⟨x2, l2, rfl, h2, h⟩ := fitCs_cons h
 obtain rfl := fitCs_nil h
 obtain ⟨a0, rfl, q0⟩ := fitC_i h0
 obtain ⟨a1, rfl, q1⟩ := fitC_i h1
 obtain ⟨a2, rfl, q2⟩ := fitC_i h2
 exact ⟨a0, a1, a2, rfl, q0, q1, q2⟩
theorem to99 (hlf : 33554432 ≤ lf) {d : Nat} (hd : 1 ≤ d) : TO1 (Cc lf d) 99 (fitE true csfit_iii) := by
 refine TO1.le (Cc_le hd) ?_
 intro t ht hs
 obtain ⟨a0, a1, a2, rfl, q0, q1, q2⟩ := fit_iii ht
 simp only [tl, tls] at hs
 have hcall : Cc lf 1 99 [T.st [T.i .i64 a0, T.i .i64 a1, T.i .i64 a2]] = f99_t (Cc lf 0) lf a0 a1 a2 := f99_eq (Cc lf 0) lf a0 a1 a2
 rw [hcall]
 unfold f99_t
 rfl
theorem to69 (hlf : 33554432 ≤ lf) {d : Nat} (hd : 2 ≤ d) : TO1 (Cc lf d) 69 (fitC (.sl true [.i .i64, .i .i64, .i .i64])) := by
 exact TO1.le (Cc_le hd) (to_slice1 (c' := Cc lf 2) hlf (F := fun l n i out => f69_0 (Cc lf 1) lf l n i out) (G := fun l i => Cc lf 1 99 [T.st [T.i .i64 (asI (T.cell (l.getD i.toNat T.u) 0)), T.i .i64 (asI (T.cell (l.getD i.toNat T.u) 1)), T.i .i64 (asI (T.cell (l.getD i.toNat T.u) 2))]]) (V := fun _ _ r => T.st [T.i .i64 (asI (T.cell (nth r 0) 0)), T.i .i64 (asI (T.cell (nth r 0) 1)), T.i .i64 (asI (T.cell (nth r 0) 2))]) (fun l => f69_eq (Cc lf 1) lf l) (fun l n i out => rfl) (fun l j h hf hs => by
  have hto := to99 hlf (d := 1) (by omega) _ hf hs
  obtain ⟨a0, a1, a2, e, _⟩ := fit_iii hf
  rw [e] at hto
  simp only [getD_nat h, e]
  exact ⟨_, hto, rfl⟩))
theorem to43 (hlf : 33554432 ≤ lf) {d : Nat} (hd : 7 ≤ d) : TO1 (Cc lf d) 43 (fitE true csfit_MMbScEibEiMiiiEb) := by
 refine TO1.le (Cc_le hd) ?_
 intro t ht hs
 obtain ⟨a0, a1, a2, a3, rfl, q0, q1, q2⟩ := fit_MMbScEibEiMiiiEb ht
 simp only [tl, tls] at hs
 have hcall : Cc lf 7 43 [T.st [T.sl a0, T.i .i64 a1, T.sl a2, T.b a3]] = f43_t (Cc lf 6) lf a0 a1 a2 a3 := f43_eq (Cc lf 6) lf a0 a1 a2 a3
 rw [hcall]
 unfold f43_t
 have e1 := to68 hlf (d := 6) (by omega) (T.st [T.sl a0]) (show fitE true csfit_MMbScEibE (T.st [T.sl a0]) from ⟨q0, trivial⟩) (by simp only [tl, tls]; omega)
 have e2 := to69 hlf (d := 6) (by omega) (T.sl a2) q2 (by simp only [tl, tls]; omega)
 simp only [e1, e2, Option.bind_some, nth0, asL_l, asI_i, asB_b, asS_s, cell0, cellS]
theorem to17 (hlf : 33554432 ≤ lf) {d : Nat} (hd : 8 ≤ d) : TO1 (Cc lf d) 17 (fitE true csfit_MMbScEibEiMiiiEbi) := by
 refine TO1.le (Cc_le hd) ?_
 intro t ht hs
 obtain ⟨a0, a1, a2, a3, a4, rfl, q0, q1, q2, q4⟩ := fit_MMbScEibEiMiiiEbi ht
 simp only [tl, tls] at hs
 have hcall : Cc lf 8 17 [T.st [T.sl a0, T.i .i64 a1, T.sl a2, T.b a3, T.i .i64 a4]] = f17_t (Cc lf 7) lf a0 a1 a2 a3 a4 := f17_eq (Cc lf 7) lf a0 a1 a2 a3 a4
 rw [hcall]
 unfold f17_t
 have e1 := to43 hlf (d := 7) (by omega) (T.st [T.sl a0, T.i .i64 a1, T.sl a2, T.b a3]) (show fitE true csfit_MMbScEibEiMiiiEb (T.st [T.sl a0, T.i .i64 a1, T.sl a2, T.b a3]) from ⟨q0, ⟨rfl, q1⟩, q2, trivial, trivial⟩) (by simp only [tl, tls]; omega)
 simp only [e1, Option.bind_some, nth0, asL_l, asI_i, asB_b, asS_s, cell0, cellS]
theorem to143 (hlf : 33554432 ≤ lf) {d : Nat} (hd : 1 ≤ d) : TO1 (Cc lf d) 143 (fitE true csfit_si) := by
 refine TO1.le (Cc_le hd) ?_
 intro t ht hs
 obtain ⟨a0, a1, rfl, q0, q1⟩ := fit_si ht
 simp only [tl, tls] at hs
 have hcall : Cc lf 1 143 [T.st [T.s a0, T.i .i64 a1]] = f143_t (Cc lf 0) lf a0 a1 := f143_eq (Cc lf 0) lf a0 a1
 rw [hcall]
 unfold f143_t
 rfl
theorem to136 (hlf : 33554432 ≤ lf) {d : Nat} (hd : 2 ≤ d) : TO1 (Cc lf d) 136 (fitC (.sl true [.s, .i .i64])) := by
 exact TO1.le (Cc_le hd) (to_slice1 (c' := Cc lf 2) hlf (F := fun l n i out => f136_0 (Cc lf 1) lf l n i out) (G := fun l i => Cc lf 1 143 [T.st [T.s (asS (T.cell (l.getD i.toNat T.u) 0)), T.i .i64 (asI (T.cell (l.getD i.toNat T.u) 1))]]) (V := fun _ _ r => T.st [T.s (asS (T.cell (nth r 0) 0)), T.i .i64 (asI (T.cell (nth r 0) 1))]) (fun l => f136_eq (Cc lf 1) lf l) (fun l n i out => rfl) (fun l j h hf hs => by
  have hto := to143 hlf (d := 1) (by omega) _ hf hs
  obtain ⟨a0, a1, e, _⟩ := fit_si hf
  rw [e] at hto
  simp only [getD_nat h, e]
  exact ⟨_, hto, rfl⟩))
theorem to144 (hlf : 33554432 ≤ lf) {d : Nat} (hd : 1 ≤ d) : TO1 (Cc lf d) 144 (fitE true csfit_ss) := by
 refine TO1.le (Cc_le hd) ?_
 intro t ht hs
 obtain ⟨a0, a1, rfl, q0, q1⟩ := fit_ss ht
 simp only [tl, tls] at hs
 have hcall : Cc lf 1 144 [T.st [T.s a0, T.s a1]] = f144_t (Cc lf 0) lf a0 a1 := f144_eq (Cc lf 0) lf a0 a1
 rw [hcall]
 unfold f144_t
 rfl
theorem to137 (hlf : 33554432 ≤ lf) {d : Nat} (hd : 2 ≤ d) : TO1 (Cc lf d) 137 (fitC (.sl true [.s, .s])) := by
 exact TO1.le (Cc_le hd) (to_slice1 (c' := Cc lf 2) hlf (F := fun l n i out => f137_0 (Cc lf 1) lf l n i out) (G := fun l i => Cc lf 1 144 [T.st [T.s (asS (T.cell (l.getD i.toNat T.u) 0)), T.s (asS (T.cell (l.getD i.toNat T.u) 1))]]) (V := fun _ _ r => T.st [T.s (asS (T.cell (nth r 0) 0)), T.s (asS (T.cell (nth r 0) 1))]) (fun l => f137_eq (Cc lf 1) lf l) (fun l n i out => rfl) (fun l j h hf hs => by
  have hto := to144 hlf (d := 1) (by omega) _ hf hs
  obtain ⟨a0, a1, e, _⟩ := fit_ss hf
  rw [e] at hto
  simp only [getD_nat h, e]
  exact ⟨_, hto, rfl⟩))
theorem to127 (hlf : 33554432 ≤ lf) {d : Nat} (hd : 3 ≤ d) : TO1 (Cc lf d) 127 (fitE true csfit_iiiScMsiEMssE) := by
 refine TO1.le (Cc_le hd) ?_
 intro t ht hs
 obtain ⟨a0, a1, a2, a3, a4, a5, rfl, q0, q1, q2, q3, q4, q5⟩ := fit_iiiScMsiEMssE ht
 simp only [tl, tls] at hs
 have hcall : Cc lf 3 127 [T.st [T.i .i64 a0, T.i .i64 a1, T.i .i64 a2, T.sl a3, T.sl a4, T.sl a5]] = f127_t (Cc lf 2) lf a0 a1 a2 a3 a4 a5 := f127_eq (Cc lf 2) lf a0 a1 a2 a3 a4 a5
 rw [hcall]
 unfold f127_t
 have e1 := to135 hlf (d := 2) (by omega) (T.sl a3) q3 (by simp only [tl, tls]; omega)
 have e2 := to136 hlf (d := 2) (by omega) (T.sl a4) q4 (by simp only [tl, tls]; omega)
 have e3 := to137 hlf (d := 2) (by omega) (T.sl a5) q5 (by simp only [tl, tls]; omega)
 simp only [e1, e2, e3, Option.bind_some, nth0, asL_l, asI_i, asB_b, asS_s, cell0, cellS]
theorem to120 (hlf : 33554432 ≤ lf) {d : Nat} (hd : 4 ≤ d) : TO1 (Cc lf d) 120 (fitC (.sl true [.i .i64, .i .i64, .i .i64, .sl false [.i .u8], .sl true [.s, .i .i64], .sl true [.s, .s]])) := by
 exact TO1.le (Cc_le hd) (to_slice1 (c' := Cc lf 4) hlf (F := fun l n i out => f120_0 (Cc lf 3) lf l n i out) (G := fun l i => Cc lf 3 127 [T.st [T.i .i64 (asI (T.cell (l.getD i.toNat T.u) 0)), T.i .i64 (asI (T.cell (l.getD i.toNat T.u) 1)), T.i .i64 (asI (T.cell (l.getD i.toNat T.u) 2)), T.sl (asL (T.cell (l.getD i.toNat T.u) 3)), T.sl (asL (T.cell (l.getD i.toNat T.u) 4)), T.sl (asL (T.cell (l.getD i.toNat T.u) 5))]]) (V := fun _ _ r => T.st [T.i .i64 (asI (T.cell (nth r 0) 0)), T.i .i64 (asI (T.cell (nth r 0) 1)), T.i .i64 (asI (T.cell (nth r 0) 2)), T.sl (asL (T.cell (nth r 0) 3)), T.sl (asL (T.cell (nth r 0) 4)), T.sl (asL (T.cell (nth r 0) 5))]) (fun l => f120_eq (Cc lf 3) lf l) (fun l n i out => rfl) (fun l j h hf hs => by
  have hto := to127 hlf (d := 3) (by omega) _ hf hs
  obtain ⟨a0, a1, a2, a3, a4, a5, e, _⟩ := fit_iiiScMsiEMssE hf
  rw [e] at hto
  simp only [getD_nat h, e]
  exact ⟨_, hto, rfl⟩))
theorem to103 (hlf : 33554432 ≤ lf) {d : Nat} (hd : 5 ≤ d) : TO1 (Cc lf d) 103 (fitE true csfit_MiiiScMsiEMssEEi) := by
 refine TO1.le (Cc_le hd) ?_
 intro t ht hs
 obtain ⟨a0, a1, rfl, q0, q1⟩ := fit_MiiiScMsiEMssEEi ht
 simp only [tl, tls] at hs
 have hcall : Cc lf 5 103 [T.st [T.sl a0, T.i .i64 a1]] = f103_t (Cc lf 4) lf a0 a1 := f103_eq (Cc lf 4) lf a0 a1
 rw [hcall]
 unfold f103_t
 have e1 := to120 hlf (d := 4) (by omega) (T.sl a0) q0 (by simp only [tl, tls]; omega)
 simp only [e1, Option.bind_some, nth0, asL_l, asI_i, asB_b, asS_s, cell0, cellS]
theorem to78 (hlf : 33554432 ≤ lf) {d : Nat} (hd : 6 ≤ d) : TO1 (Cc lf d) 78 (fitE true csfit_isbiMiiiScMsiEMssEEi) := by
 refine TO1.le (Cc_le hd) ?_
 intro t ht hs
 obtain ⟨a0, a1, a2, a3, a4, a5, rfl, q0, q1, q3, q4, q5⟩ := fit_isbiMiiiScMsiEMssEEi ht
 simp only [tl, tls] at hs
 have hcall : Cc lf 6 78 [T.st [T.i .i64 a0, T.s a1, T.b a2, T.i .i64 a3, T.sl a4, T.i .i64 a5]] = f78_t (Cc lf 5) lf a0 a1 a2 a3 a4 a5 := f78_eq (Cc lf 5) lf a0 a1 a2 a3 a4 a5
 rw [hcall]
 unfold f78_t
 have e1 := to103 hlf (d := 5) (by omega) (T.st [T.sl a4, T.i .i64 a5]) (show fitE true csfit_MiiiScMsiEMssEEi (T.st [T.sl a4, T.i .i64 a5]) from ⟨q4, ⟨rfl, q5⟩, trivial⟩) (by simp only [tl, tls]; omega)
 simp only [e1, Option.bind_some, nth0, asL_l, asI_i, asB_b, asS_s, cell0, cellS]
theorem to53 (hlf : 33554432 ≤ lf) {d : Nat} (hd : 7 ≤ d) : TO1 (Cc lf d) 53 (fitC (.sl true [.i .i64, .s, .b, .i .i64, .sl true [.i .i64, .i .i64, .i .i64, .sl false [.i .u8], .sl true [.s, .i .i64], .sl true [.s, .s]], .i .i64])) := by
 exact TO1.le (Cc_le hd) (to_slice1 (c' := Cc lf 7) hlf (F := fun l n i out => f53_0 (Cc lf 6) lf l n i out) (G := fun l i => Cc lf 6 78 [T.st [T.i .i64 (asI (T.cell (l.getD i.toNat T.u) 0)), T.s (asS (T.cell (l.getD i.toNat T.u) 1)), T.b (asB (T.cell (l.getD i.toNat T.u) 2)), T.i .i64 (asI (T.cell (l.getD i.toNat T.u) 3)), T.sl (asL (T.cell (l.getD i.toNat T.u) 4)), T.i .i64 (asI (T.cell (l.getD i.toNat T.u) 5))]]) (V := fun _ _ r => T.st [T.i .i64 (asI (T.cell (nth r 0) 0)), T.s (asS (T.cell (nth r 0) 1)), T.b (asB (T.cell (nth r 0) 2)), T.i .i64 (asI (T.cell (nth r 0) 3)), T.sl (asL (T.cell (nth r 0) 4)), T.i .i64 (asI (T.cell (nth r 0) 5))]) (fun l => f53_eq (Cc lf 6) lf l) (fun l n i out => rfl) (fun l j h hf hs => by
  have hto := to78 hlf (d := 6) (by omega) _ hf hs
  obtain ⟨a0, a1, a2, a3, a4, a5, e, _⟩ := fit_isbiMiiiScMsiEMssEEi hf
  rw [e] at hto
  simp only [getD_nat h, e]
  exact ⟨_, hto, rfl⟩))
theorem to26 (hlf : 33554432 ≤ lf) {d : Nat} (hd : 8 ≤ d) : TO1 (Cc lf d) 26 (fitE true csfit_MisbiMiiiScMsiEMssEEiEi) := by
 refine TO1.le (Cc_le hd) ?_
 intro t ht hs
 obtain ⟨a0, a1, rfl, q0, q1⟩ := fit_MisbiMiiiScMsiEMssEEiEi ht
 simp only [tl, tls] at hs
 have hcall : Cc lf 8 26 [T.st [T.sl a0, T.i .i64 a1]] = f26_t (Cc lf 7) lf a0 a1 := f26_eq (Cc lf 7) lf a0 a1
 rw [hcall]
 unfold f26_t
 have e1 := to53 hlf (d := 7) (by omega) (T.sl a0) q0 (by simp only [tl, tls]; omega)
 simp only [e1, Option.bind_some, nth0, asL_l, asI_i, asB_b, asS_s, cell0, cellS]
theorem to79 (hlf : 33554432 ≤ lf) {d : Nat} (hd : 1 ≤ d) : TO1 (Cc lf d) 79 (fitE true csfit_isbii) := by
 refine TO1.le (Cc_le hd) ?_
 intro t ht hs
 obtain ⟨a0, a1, a2, a3, a4, rfl, q0, q1, q3, q4⟩ := fit_isbii ht
 simp only [tl, tls] at hs
 have hcall : Cc lf 1 79 [T.st [T.i .i64 a0, T.s a1, T.b a2, T.i .i64 a3, T.i .i64 a4]] = f79_t (Cc lf 0) lf a0 a1 a2 a3 a4 := f79_eq (Cc lf 0) lf a0 a1 a2 a3 a4
 rw [hcall]
 unfold f79_t
 rfl
theorem to54 (hlf : 33554432 ≤ lf) {d : Nat} (hd : 2 ≤ d) : TO1 (Cc lf d) 54 (fitC (.sl true [.i .i64, .s, .b, .i .i64, .i .i64])) := by
 exact TO1.le (Cc_le hd) (to_slice1 (c' := Cc lf 2) hlf (F := fun l n i out => f54_0 (Cc lf 1) lf l n i out) (G := fun l i => Cc lf 1 79 [T.st [T.i .i64 (asI (T.cell (l.getD i.toNat T.u) 0)), T.s (asS (T.cell (l.getD i.toNat T.u) 1)), T.b (asB (T.cell (l.getD i.toNat T.u) 2)), T.i .i64 (asI (T.cell (l.getD i.toNat T.u) 3)), T.i .i64 (asI (T.cell (l.getD i.toNat T.u) 4))]]) (V := fun _ _ r => T.st [T.i .i64 (asI (T.cell (nth r 0) 0)), T.s (asS (T.cell (nth r 0) 1)), T.b (asB (T.cell (nth r 0) 2)), T.i .i64 (asI (T.cell (nth r 0) 3)), T.i .i64 (asI (T.cell (nth r 0) 4))]) (fun l => f54_eq (Cc lf 1) lf l) (fun l n i out => rfl) (fun l j h hf hs => by
  have hto := to79 hlf (d := 1) (by omega) _ hf hs
  obtain ⟨a0, a1, a2, a3, a4, e, _⟩ := fit_isbii hf
  rw [e] at hto
  simp only [getD_nat h, e]
  exact ⟨_, hto, rfl⟩))
theorem to27 (hlf : 33554432 ≤ lf) {d : Nat} (hd : 3 ≤ d) : TO1 (Cc lf d) 27 (fitE true csfit_iMisbiiE) := by
 refine TO1.le (Cc_le hd) ?_
 intro t ht hs
 obtain ⟨a0, a1, rfl, q0, q1⟩ := fit_iMisbiiE ht
 simp only [tl, tls] at hs
 have hcall : Cc lf 3 27 [T.st [T.i .i64 a0, T.sl a1]] = f27_t (Cc lf 2) lf a0 a1 := f27_eq (Cc lf 2) lf a0 a1
 rw [hcall]
 unfold f27_t
 have e1 := to54 hlf (d := 2) (by omega) (T.sl a1) q1 (by simp only [tl, tls]; omega)
 simp only [e1, Option.bind_some, nth0, asL_l, asI_i, asB_b, asS_s, cell0, cellS]
abbrev csfit_ii : List CT := [.i .i64, .i .i64]
theorem fit_ii {t : T} (h : fitE true csfit_ii t) : ∃ (a0 : Int) (a1 : Int), t = .st [.i .i64 a0, .i .i64 a1] ∧ (Lit.int .i64 a0).wf = true ∧ (Lit.int .i64 a1).wf = true := by
 obtain ⟨l, rfl, h⟩ := fitE_st h
 obtain ⟨x0, l0, rfl, h0, h⟩ := fitCs_cons h
 obtain ⟨x1, l1, rfl, h1, h⟩ := fitCs_cons h
 obtain rfl := fitCs_nil h
 obtain ⟨a0, rfl, q0⟩ := fitC_i h0
 obtain ⟨a1, rfl, q1⟩ := fitC_i h1
 exact ⟨a0, a1, rfl, q0, q1⟩
theorem to104 (hlf : 33554432 ≤ lf) {d : Nat} (hd : 1 ≤ d) : TO1 (Cc lf d) 104 (fitE true csfit_ii) := by
 refine TO1.le (Cc_le hd) ?_
 intro t ht hs
 obtain ⟨a0, a1, rfl, q0, q1⟩ := fit_ii ht
 simp only [tl, tls] at hs
 have hcall : Cc lf 1 104 [T.st [T.i .i64 a0, T.i .i64 a1]] = f104_t (Cc lf 0) lf a0 a1 := f104_eq (Cc lf 0) lf a0 a1
 rw [hcall]
 unfold f104_t
 rfl
theorem to80 (hlf : 33554432 ≤ lf) {d : Nat} (hd : 2 ≤ d) : TO1 (Cc lf d) 80 (fitC (.sl true [.i .i64, .i .i64])) := by
 exact TO1.le (Cc_le hd) (to_slice1 (c' := Cc lf 2) hlf (F := fun l n i out => f80_0 (Cc lf 1) lf l n i out) (G := fun l i => Cc lf 1 104 [T.st [T.i .i64 (asI (T.cell (l.getD i.toNat T.u) 0)), T.i .i64 (asI (T.cell (l.getD i.toNat T.u) 1))]]) (V := fun _ _ r => T.st [T.i .i64 (asI (T.cell (nth r 0) 0)), T.i .i64 (asI (T.cell (nth r 0) 1))]) (fun l => f80_eq (Cc lf 1) lf l) (fun l n i out => rfl) (fun l j h hf hs => by
  have hto := to104 hlf (d := 1) (by omega) _ hf hs
  obtain ⟨a0, a1, e, _⟩ := fit_ii hf
  rw [e] at hto
  simp only [getD_nat h, e]
  exact ⟨_, hto, rfl⟩))
theorem to55 (hlf : 33554432 ≤ lf) {d : Nat} (hd : 3 ≤ d) : TO1 (Cc lf d) 55 (fitE true csfit_iMiiE) := by
 refine TO1.le (Cc_le hd) ?_
 intro t ht hs
 obtain ⟨a0, a1, rfl, q0, q1⟩ := fit_iMiiE ht
 simp only [tl, tls] at hs
 have hcall : Cc lf 3 55 [T.st [T.i .i64 a0, T.sl a1]] = f55_t (Cc lf 2) lf a0 a1 := f55_eq (Cc lf 2) lf a0 a1
 rw [hcall]
 unfold f55_t
 have e1 := to80 hlf (d := 2) (by omega) (T.sl a1) q1 (by simp only [tl, tls]; omega)
 simp only [e1, Option.bind_some, nth0, asL_l, asI_i, asB_b, asS_s, cell0, cellS]
theorem to28 (hlf : 33554432 ≤ lf) {d : Nat} (hd : 4 ≤ d) : TO1 (Cc lf d) 28 (fitC (.sl true [.i .i64, .sl true [.i .i64, .i .i64]])) := by
 exact TO1.le (Cc_le hd) (to_slice1 (c' := Cc lf 4) hlf (F := fun l n i out => f28_0 (Cc lf 3) lf l n i out) (G := fun l i => Cc lf 3 55 [T.st [T.i .i64 (asI (T.cell (l.getD i.toNat T.u) 0)), T.sl (asL (T.cell (l.getD i.toNat T.u) 1))]]) (V := fun _ _ r => T.st [T.i .i64 (asI (T.cell (nth r 0) 0)), T.sl (asL (T.cell (nth r 0) 1))]) (fun l => f28_eq (Cc lf 3) lf l) (fun l n i out => rfl) (fun l j h hf hs => by
  have hto := to55 hlf (d := 3) (by omega) _ hf hs
  obtain ⟨a0, a1, e, _⟩ := fit_iMiiE hf
  rw [e] at hto
  simp only [getD_nat h, e]
  exact ⟨_, hto, rfl⟩))
theorem to8 (hlf : 33554432 ≤ lf) {d : Nat} (hd : 9 ≤ d) : TO1 (Cc lf d) 8 (fitE true csfit_MisbiMiiiScMsiEMssEEiEiiMisbiiEMiMiiEEii) := by
 refine TO1.le (Cc_le hd) ?_
 intro t ht hs
 obtain ⟨a0, a1, a2, a3, a4, a5, a6, rfl, q0, q1, q2, q3, q4, q5, q6⟩ := fit_MisbiMiiiScMsiEMssEEiEiiMisbiiEMiMiiEEii ht
 simp only [tl, tls] at hs
 have hcall : Cc lf 9 8 [T.st [T.sl a0, T.i .i64 a1, T.i .i64 a2, T.sl a3, T.sl a4, T.i .i64 a5, T.i .i64 a6]] = f8_t (Cc lf 8) lf a0 a1 a2 a3 a4 a5 a6 := f8_eq (Cc lf 8) lf a0 a1 a2 a3 a4 a5 a6
 rw [hcall]
 unfold f8_t
 have e1 := to26 hlf (d := 8) (by omega) (T.st [T.sl a0, T.i .i64 a1]) (show fitE true csfit_MisbiMiiiScMsiEMssEEiEi (T.st [T.sl a0, T.i .i64 a1]) from ⟨q0, ⟨rfl, q1⟩, trivial⟩) (by simp only [tl, tls]; omega)
 have e2 := to27 hlf (d := 8) (by omega) (T.st [T.i .i64 a2, T.sl a3]) (show fitE true csfit_iMisbiiE (T.st [T.i .i64 a2, T.sl a3]) from ⟨⟨rfl, q2⟩, q3, trivial⟩) (by simp only [tl, tls]; omega)
 have e3 := to28 hlf (d := 8) (by omega) (T.sl a4) q4 (by simp only [tl, tls]; omega)
 simp only [e1, e2, e3, Option.bind_some, nth0, asL_l, asI_i, asB_b, asS_s, cell0, cellS]
theorem eq138 (hlf : 33554432 ≤ lf) {d : Nat} (hd : 1 ≤ d) : EQ1 (Cc lf d) 138 (fitC (.sl false [.i .u8])) := by
 exact EQ1.le (Cc_le hd) (eq_flat1 (c' := Cc lf 1) hlf (F := fun l l' n i => f138_0 (Cc lf 0) lf l l' n i) (N := fun l l' i => (asI (l.getD i.toNat T.u)) != (asI (l'.getD i.toNat T.u))) (fun l l' => f138_eq (Cc lf 0) lf l l') (fun l l' n i => rfl) (fun l i => by simp))
theorem eq131 (hlf : 33554432 ≤ lf) {d : Nat} (hd : 2 ≤ d) : EQ1 (Cc lf d) 131 (fitE true csfit_bSc) := by
 refine EQ1.le (Cc_le hd) ?_
 intro t ht hs
 obtain ⟨a0, a1, rfl, q1⟩ := fit_bSc ht
 simp only [tl, tls] at hs
 have hcall : Cc lf 2 131 [T.st [T.b a0, T.sl a1], T.st [T.b a0, T.sl a1]] = f131_t (Cc lf 1) lf a0 a1 a0 a1 := f131_eq (Cc lf 1) lf a0 a1 a0 a1
 rw [hcall]
 unfold f131_t
 have e1 := eq138 hlf (d := 1) (by omega) (T.sl a1) q1 (by simp only [tl, tls]; omega)
 simp only [e1, Option.bind_some, nth0, asB_b, Bool.not_true, cond_false, ne_f, beq_self_eq_true]
theorem eq125 (hlf : 33554432 ≤ lf) {d : Nat} (hd : 3 ≤ d) : EQ1 (Cc lf d) 125 (fitC (.sl true [.b, .sl false [.i .u8]])) := by
 exact EQ1.le (Cc_le hd) (eq_slice1 (c' := Cc lf 3) hlf (F := fun l l' n i => f125_0 (Cc lf 2) lf l l' n i) (G := fun l l' i => Cc lf 2 131 [T.st [T.b (asB (T.cell (l.getD i.toNat T.u) 0)), T.sl (asL (T.cell (l.getD i.toNat T.u) 1))], T.st [T.b (asB (T.cell (l'.getD i.toNat T.u) 0)), T.sl (asL (T.cell (l'.getD i.toNat T.u) 1))]]) (fun l l' => f125_eq (Cc lf 2) lf l l') (fun l l' n i => rfl) (fun l j h hf hs => by
  have heq := eq131 hlf (d := 2) (by omega) _ hf hs
  obtain ⟨a0, a1, e, _⟩ := fit_bSc hf
  rw [e] at heq
  simp only [getD_nat h, e]
  exact heq))
theorem eq118 (hlf : 33554432 ≤ lf) {d : Nat} (hd : 4 ≤ d) : EQ1 (Cc lf d) 118 (fitE true csfit_MbScEib) := by
 refine EQ1.le (Cc_le hd) ?_
 intro t ht hs
 obtain ⟨a0, a1, a2, rfl, q0, q1⟩ := fit_MbScEib ht
 simp only [tl, tls] at hs
 have hcall : Cc lf 4 118 [T.st [T.sl a0, T.i .i64 a1, T.b a2], T.st [T.sl a0, T.i .i64 a1, T.b a2]] = f118_t (Cc lf 3) lf a0 a1 a2 a0 a1 a2 := f118_eq (Cc lf 3) lf a0 a1 a2 a0 a1 a2
 rw [hcall]
 unfold f118_t
 have e1 := eq125 hlf (d := 3) (by omega) (T.sl a0) q0 (by simp only [tl, tls]; omega)
 simp only [e1, Option.bind_some, nth0, asB_b, Bool.not_true, cond_false, ne_f, beq_self_eq_true]
theorem eq100 (hlf : 33554432 ≤ lf) {d : Nat} (hd : 5 ≤ d) : EQ1 (Cc lf d) 100 (fitC (.sl true [.sl true [.b, .sl false [.i .u8]], .i .i64, .b])) := by
 exact EQ1.le (Cc_le hd) (eq_slice1 (c' := Cc lf 5) hlf (F := fun l l' n i => f100_0 (Cc lf 4) lf l l' n i) (G := fun l l' i => Cc lf 4 118 [T.st [T.sl (asL (T.cell (l.getD i.toNat T.u) 0)), T.i .i64 (asI (T.cell (l.getD i.toNat T.u) 1)), T.b (asB (T.cell (l.getD i.toNat T.u) 2))], T.st [T.sl (asL (T.cell (l'.getD i.toNat T.u) 0)), T.i .i64 (asI (T.cell (l'.getD i.toNat T.u) 1)), T.b (asB (T.cell (l'.getD i.toNat T.u) 2))]]) (fun l l' => f100_eq (Cc lf 4) lf l l') (fun l l' n i => rfl) (fun l j h hf hs => by
  have heq := eq118 hlf (d := 4) (by omega) _ hf hs
  obtain ⟨a0, a1, a2, e, _⟩ := fit_MbScEib hf
  rw [e] at heq
  simp only [getD_nat h, e]
  exact heq))
theorem eq72 (hlf : 33554432 ≤ lf) {d : Nat} (hd : 6 ≤ d) : EQ1 (Cc lf d) 72 (fitE true csfit_MMbScEibE) := by
 refine EQ1.le (Cc_le hd) ?_
 intro t ht hs
 obtain ⟨a0, rfl, q0⟩ := fit_MMbScEibE ht
 simp only [tl, tls] at hs
 have hcall : Cc lf 6 72 [T.st [T.sl a0], T.st [T.sl a0]] = f72_t (Cc lf 5) lf a0 a0 := f72_eq (Cc lf 5) lf a0 a0
 rw [hcall]
 unfold f72_t
 have e1 := eq100 hlf (d := 5) (by omega) (T.sl a0) q0 (by simp only [tl, tls]; omega)
 simp only [e1, Option.bind_some, nth0, asB_b, Bool.not_true, cond_false, ne_f, beq_self_eq_true]
theorem eq101 (hlf : 33554432 ≤ lf) {d : Nat} (hd : 1 ≤ d) : EQ1 (Cc lf d) 101 (fitE true csfit_iii) := by
 refine EQ1.le (Cc_le hd) ?_
 intro t ht hs
 obtain ⟨a0, a1, a2, rfl, q0, q1, q2⟩ := fit_iii ht
 simp only [tl, tls] at hs
 have hcall : Cc lf 1 101 [T.st [T.i .i64 a0, T.i .i64 a1, T.i .i64 a2], T.st [T.i .i64 a0, T.i .i64 a1, T.i .i64 a2]] = f101_t (Cc lf 0) lf a0 a1 a2 a0 a1 a2 := f101_eq (Cc lf 0) lf a0 a1 a2 a0 a1 a2
 rw [hcall]
 unfold f101_t
 simp only [Option.bind_some, nth0, asB_b, Bool.not_true, cond_false, ne_f, beq_self_eq_true]
theorem eq73 (hlf : 33554432 ≤ lf) {d : Nat} (hd : 2 ≤ d) : EQ1 (Cc lf d) 73 (fitC (.sl true [.i .i64, .i .i64, .i .i64])) := by
 exact EQ1.le (Cc_le hd) (eq_slice1 (c' := Cc lf 2) hlf (F := fun l l' n i => f73_0 (Cc lf 1) lf l l' n i) (G := fun l l' i => Cc lf 1 101 [T.st [T.i .i64 (asI (T.cell (l.getD i.toNat T.u) 0)), T.i .i64 (asI (T.cell (l.getD i.toNat T.u) 1)), T.i .i64 (asI (T.cell (l.getD i.toNat T.u) 2))], T.st [T.i .i64 (asI (T.cell (l'.getD i.toNat T.u) 0)), T.i .i64 (asI (T.cell (l'.getD i.toNat T.u) 1)), T.i .i64 (asI (T.cell (l'.getD i.toNat T.u) 2))]]) (fun l l' => f73_eq (Cc lf 1) lf l l') (fun l l' n i => rfl) (fun l j h hf hs => by
  have heq := eq101 hlf (d := 1) (by omega) _ hf hs
  obtain ⟨a0, a1, a2, e, _⟩ := fit_iii hf
  rw [e] at heq
  simp only [getD_nat h, e]
  exact heq))
theorem eq46 (hlf : 33554432 ≤ lf) {d : Nat} (hd : 7 ≤ d) : EQ1 (Cc lf d) 46 (fitE true csfit_MMbScEibEiMiiiEb) := by
 refine EQ1.le (Cc_le hd) ?_
 intro t ht hs
 obtain ⟨a0, a1, a2, a3, rfl, q0, q1, q2⟩ := fit_MMbScEibEiMiiiEb ht
 simp only [tl, tls] at hs
 have hcall : Cc lf 7 46 [T.st [T.sl a0, T.i .i64 a1, T.sl a2, T.b a3], T.st [T.sl a0, T.i .i64 a1, T.sl a2, T.b a3]] = f46_t (Cc lf 6) lf a0 a1 a2 a3 a0 a1 a2 a3 := f46_eq (Cc lf 6) lf a0 a1 a2 a3 a0 a1 a2 a3
 rw [hcall]
 unfold f46_t
 have e1 := eq72 hlf (d := 6) (by omega) (T.st [T.sl a0]) (show fitE true csfit_MMbScEibE (T.st [T.sl a0]) from ⟨q0, trivial⟩) (by simp only [tl, tls]; omega)
 have e2 := eq73 hlf (d := 6) (by omega) (T.sl a2) q2 (by simp only [tl, tls]; omega)
 simp only [e1, e2, Option.bind_some, nth0, asB_b, Bool.not_true, cond_false, ne_f, beq_self_eq_true]
theorem eq19 (hlf : 33554432 ≤ lf) {d : Nat} (hd : 8 ≤ d) : EQ1 (Cc lf d) 19 (fitE true csfit_MMbScEibEiMiiiEbi) := by
 refine EQ1.le (Cc_le hd) ?_
 intro t ht hs
 obtain ⟨a0, a1, a2, a3, a4, rfl, q0, q1, q2, q4⟩ := fit_MMbScEibEiMiiiEbi ht
 simp only [tl, tls] at hs
 have hcall : Cc lf 8 19 [T.st [T.sl a0, T.i .i64 a1, T.sl a2, T.b a3, T.i .i64 a4], T.st [T.sl a0, T.i .i64 a1, T.sl a2, T.b a3, T.i .i64 a4]] = f19_t (Cc lf 7) lf a0 a1 a2 a3 a4 a0 a1 a2 a3 a4 := f19_eq (Cc lf 7) lf a0 a1 a2 a3 a4 a0 a1 a2 a3 a4
 rw [hcall]
 unfold f19_t
 have e1 := eq46 hlf (d := 7) (by omega) (T.st [T.sl a0, T.i .i64 a1, T.sl a2, T.b a3]) (show fitE true csfit_MMbScEibEiMiiiEb (T.st [T.sl a0, T.i .i64 a1, T.sl a2, T.b a3]) from ⟨q0, ⟨rfl, q1⟩, q2, trivial, trivial⟩) (by simp only [tl, tls]; omega)
 simp only [e1, Option.bind_some, nth0, asB_b, Bool.not_true, cond_false, ne_f, beq_self_eq_true]
theorem eq145 (hlf : 33554432 ≤ lf) {d : Nat} (hd : 1 ≤ d) : EQ1 (Cc lf d) 145 (fitE true csfit_si) := by
 refine EQ1.le (Cc_le hd) ?_
 intro t ht hs
 obtain ⟨a0, a1, rfl, q0, q1⟩ := fit_si ht
 simp only [tl, tls] at hs
 have hcall : Cc lf 1 145 [T.st [T.s a0, T.i .i64 a1], T.st [T.s a0, T.i .i64 a1]] = f145_t (Cc lf 0) lf a0 a1 a0 a1 := f145_eq (Cc lf 0) lf a0 a1 a0 a1
 rw [hcall]
 unfold f145_t
 simp only [Option.bind_some, nth0, asB_b, Bool.not_true, cond_false, ne_f, beq_self_eq_true]
theorem eq139 (hlf : 33554432 ≤ lf) {d : Nat} (hd : 2 ≤ d) : EQ1 (Cc lf d) 139 (fitC (.sl true [.s, .i .i64])) := by
 exact EQ1.le (Cc_le hd) (eq_slice1 (c' := Cc lf 2) hlf (F := fun l l' n i => f139_0 (Cc lf 1) lf l l' n i) (G := fun l l' i => Cc lf 1 145 [T.st [T.s (asS (T.cell (l.getD i.toNat T.u) 0)), T.i .i64 (asI (T.cell (l.getD i.toNat T.u) 1))], T.st [T.s (asS (T.cell (l'.getD i.toNat T.u) 0)), T.i .i64 (asI (T.cell (l'.getD i.toNat T.u) 1))]]) (fun l l' => f139_eq (Cc lf 1) lf l l') (fun l l' n i => rfl) (fun l j h hf hs => by
  have heq := eq145 hlf (d := 1) (by omega) _ hf hs
  obtain ⟨a0, a1, e, _⟩ := fit_si hf
  rw [e] at heq
  simp only [getD_nat h, e]
  exact heq))
theorem eq146 (hlf : 33554432 ≤ lf) {d : Nat} (hd : 1 ≤ d) : EQ1 (Cc lf d) 146 (fitE true csfit_ss) := by
 refine EQ1.le (Cc_le hd) ?_
 intro t ht hs
 obtain ⟨a0, a1, rfl, q0, q1⟩ := fit_ss ht
 simp only [tl, tls] at hs
 have hcall : Cc lf 1 146 [T.st [T.s a0, T.s a1], T.st [T.s a0, T.s a1]] = f146_t (Cc lf 0) lf a0 a1 a0 a1 := f146_eq (Cc lf 0) lf a0 a1 a0 a1
 rw [hcall]
 unfold f146_t
 simp only [Option.bind_some, nth0, asB_b, Bool.not_true, cond_false, ne_f, beq_self_eq_true]
theorem eq140 (hlf : 33554432 ≤ lf) {d : Nat} (hd : 2 ≤ d) : EQ1 (Cc lf d) 140 (fitC (.sl true [.s, .s])) := by
 exact EQ1.le (Cc_le hd) (eq_slice1 (c' := Cc lf 2) hlf (F := fun l l' n i => f140_0 (Cc lf 1) lf l l' n i) (G := fun l l' i => Cc lf 1 146 [T.st [T.s (asS (T.cell (l.getD i.toNat T.u) 0)), T.s (asS (T.cell (l.getD i.toNat T.u) 1))], T.st [T.s (asS (T.cell (l'.getD i.toNat T.u) 0)), T.s (asS (T.cell (l'.getD i.toNat T.u) 1))]]) (fun l l' => f140_eq (Cc lf 1) lf l l') (fun l l' n i => rfl) (fun l j h hf hs => by
  have heq := eq146 hlf (d := 1) (by omega) _ hf hs
  obtain ⟨a0, a1, e, _⟩ := fit_ss hf
  rw [e] at heq
  simp only [getD_nat h, e]
  exact heq))
theorem eq128 (hlf : 33554432 ≤ lf) {d : Nat} (hd : 3 ≤ d) : EQ1 (Cc lf d) 128 (fitE true csfit_iiiScMsiEMssE) := by
 refine EQ1.le (Cc_le hd) ?_
 intro t ht hs
 obtain ⟨a0, a1, a2, a3, a4, a5, rfl, q0, q1, q2, q3, q4, q5⟩ := fit_iiiScMsiEMssE ht
 simp only [tl, tls] at hs
 have hcall : Cc lf 3 128 [T.st [T.i .i64 a0, T.i .i64 a1, T.i .i64 a2, T.sl a3, T.sl a4, T.sl a5], T.st [T.i .i64 a0, T.i .i64 a1, T.i .i64 a2, T.sl a3, T.sl a4, T.sl a5]] = f128_t (Cc lf 2) lf a0 a1 a2 a3 a4 a5 a0 a1 a2 a3 a4 a5 := f128_eq (Cc lf 2) lf a0 a1 a2 a3 a4 a5 a0 a1 a2 a3 a4 a5
 rw [hcall]
 unfold f128_t
 have e1 := eq138 hlf (d := 2) (by omega) (T.sl a3) q3 (by simp only [tl, tls]; omega)
 have e2 := eq139 hlf (d := 2) (by omega) (T.sl a4) q4 (by simp only [tl, tls]; omega)
 have e3 := eq140 hlf (d := 2) (by omega) (T.sl a5) q5 (by simp only [tl, tls]; omega)
 simp only [e1, e2, e3, Option.bind_some, nth0, asB_b, Bool.not_true, cond_false, ne_f, beq_self_eq_true]
theorem eq122 (hlf : 33554432 ≤ lf) {d : Nat} (hd : 4 ≤ d) : EQ1 (Cc lf d) 122 (fitC (.sl true [.i .i64, .i .i64, .i .i64, .sl false [.i .u8], .sl true [.s, .i .i64], .sl true [.s, .s]])) := by
 exact EQ1.le (Cc_le hd) (eq_slice1 (c' := Cc lf 4) hlf (F := fun l l' n i => f122_0 (Cc lf 3) lf l l' n i) (G := fun l l' i => Cc lf 3 128 [T.st [T.i .i64 (asI (T.cell (l.getD i.toNat T.u) 0)), T.i .i64 (asI (T.cell (l.getD i.toNat T.u) 1)), T.i .i64 (asI (T.cell (l.getD i.toNat T.u) 2)), T.sl (asL (T.cell (l.getD i.toNat T.u) 3)), T.sl (asL (T.cell (l.getD i.toNat T.u) 4)), T.sl (asL (T.cell (l.getD i.toNat T.u) 5))], T.st [T.i .i64 (asI (T.cell (l'.getD i.toNat T.u) 0)), T.i .i64 (asI (T.cell (l'.getD i.toNat T.u) 1)), T.i .i64 (asI (T.cell (l'.getD i.toNat T.u) 2)), T.sl (asL (T.cell (l'.getD i.toNat T.u) 3)), T.sl (asL (T.cell (l'.getD i.toNat T.u) 4)), T.sl (asL (T.cell (l'.getD i.toNat T.u) 5))]]) (fun l l' => f122_eq (Cc lf 3) lf l l') (fun l l' n i => rfl) (fun l j h hf hs => by
  have heq := eq128 hlf (d := 3) (by omega) _ hf hs
  obtain ⟨a0, a1, a2, a3, a4, a5, e, _⟩ := fit_iiiScMsiEMssE hf
  rw [e] at heq
  simp only [getD_nat h, e]
  exact heq))
theorem eq111 (hlf : 33554432 ≤ lf) {d : Nat} (hd : 5 ≤ d) : EQ1 (Cc lf d) 111 (fitE true csfit_MiiiScMsiEMssEEi) := by
 refine EQ1.le (Cc_le hd) ?_
 intro t ht hs
 obtain ⟨a0, a1, rfl, q0, q1⟩ := fit_MiiiScMsiEMssEEi ht
 simp only [tl, tls] at hs
 have hcall : Cc lf 5 111 [T.st [T.sl a0, T.i .i64 a1], T.st [T.sl a0, T.i .i64 a1]] = f111_t (Cc lf 4) lf a0 a1 a0 a1 := f111_eq (Cc lf 4) lf a0 a1 a0 a1
 rw [hcall]
 unfold f111_t
 have e1 := eq122 hlf (d := 4) (by omega) (T.sl a0) q0 (by simp only [tl, tls]; omega)
 simp only [e1, Option.bind_some, nth0, asB_b, Bool.not_true, cond_false, ne_f, beq_self_eq_true]
theorem eq92 (hlf : 33554432 ≤ lf) {d : Nat} (hd : 6 ≤ d) : EQ1 (Cc lf d) 92 (fitE true csfit_isbiMiiiScMsiEMssEEi) := by
 refine EQ1.le (Cc_le hd) ?_
 intro t ht hs
 obtain ⟨a0, a1, a2, a3, a4, a5, rfl, q0, q1, q3, q4, q5⟩ := fit_isbiMiiiScMsiEMssEEi ht
 simp only [tl, tls] at hs
 have hcall : Cc lf 6 92 [T.st [T.i .i64 a0, T.s a1, T.b a2, T.i .i64 a3, T.sl a4, T.i .i64 a5], T.st [T.i .i64 a0, T.s a1, T.b a2, T.i .i64 a3, T.sl a4, T.i .i64 a5]] = f92_t (Cc lf 5) lf a0 a1 a2 a3 a4 a5 a0 a1 a2 a3 a4 a5 := f92_eq (Cc lf 5) lf a0 a1 a2 a3 a4 a5 a0 a1 a2 a3 a4 a5
 rw [hcall]
 unfold f92_t
 have e1 := eq111 hlf (d := 5) (by omega) (T.st [T.sl a4, T.i .i64 a5]) (show fitE true csfit_MiiiScMsiEMssEEi (T.st [T.sl a4, T.i .i64 a5]) from ⟨q4, ⟨rfl, q5⟩, trivial⟩) (by simp only [tl, tls]; omega)
 simp only [e1, Option.bind_some, nth0, asB_b, Bool.not_true, cond_false, ne_f, beq_self_eq_true]
theorem eq60 (hlf : 33554432 ≤ lf) {d : Nat} (hd : 7 ≤ d) : EQ1 (Cc lf d) 60 (fitC (.sl true [.i .i64, .s, .b, .i .i64, .sl true [.i .i64, .i .i64, .i .i64, .sl false [.i .u8], .sl true [.s, .i .i64], .sl true [.s, .s]], .i .i64])) := by
 exact EQ1.le (Cc_le hd) (eq_slice1 (c' := Cc lf 7) hlf (F := fun l l' n i => f60_0 (Cc lf 6) lf l l' n i) (G := fun l l' i => Cc lf 6 92 [T.st [T.i .i64 (asI (T.cell (l.getD i.toNat T.u) 0)), T.s (asS (T.cell (l.getD i.toNat T.u) 1)), T.b (asB (T.cell (l.getD i.toNat T.u) 2)), T.i .i64 (asI (T.cell (l.getD i.toNat T.u) 3)), T.sl (asL (T.cell (l.getD i.toNat T.u) 4)), T.i .i64 (asI (T.cell (l.getD i.toNat T.u) 5))], T.st [T.i .i64 (asI (T.cell (l'.getD i.toNat T.u) 0)), T.s (asS (T.cell (l'.getD i.toNat T.u) 1)), T.b (asB (T.cell (l'.getD i.toNat T.u) 2)), T.i .i64 (asI (T.cell (l'.getD i.toNat T.u) 3)), T.sl (asL (T.cell (l'.getD i.toNat T.u) 4)), T.i .i64 (asI (T.cell (l'.getD i.toNat T.u) 5))]]) (fun l l' => f60_eq (Cc lf 6) lf l l') (fun l l' n i => rfl) (fun l j h hf hs => by
  have heq := eq92 hlf (d := 6) (by omega) _ hf hs
  obtain ⟨a0, a1, a2, a3, a4, a5, e, _⟩ := fit_isbiMiiiScMsiEMssEEi hf
  rw [e] at heq
  simp only [getD_nat h, e]
  exact heq))
theorem eq35 (hlf : 33554432 ≤ lf) {d : Nat} (hd : 8 ≤ d) : EQ1 (Cc lf d) 35 (fitE true csfit_MisbiMiiiScMsiEMssEEiEi) := by
 refine EQ1.le (Cc_le hd) ?_
 intro t ht hs
 obtain ⟨a0, a1, rfl, q0, q1⟩ := fit_MisbiMiiiScMsiEMssEEiEi ht
 simp only [tl, tls] at hs
 have hcall : Cc lf 8 35 [T.st [T.sl a0, T.i .i64 a1], T.st [T.sl a0, T.i .i64 a1]] = f35_t (Cc lf 7) lf a0 a1 a0 a1 := f35_eq (Cc lf 7) lf a0 a1 a0 a1
 rw [hcall]
 unfold f35_t
 have e1 := eq60 hlf (d := 7) (by omega) (T.sl a0) q0 (by simp only [tl, tls]; omega)
 simp only [e1, Option.bind_some, nth0, asB_b, Bool.not_true, cond_false, ne_f, beq_self_eq_true]
theorem eq93 (hlf : 33554432 ≤ lf) {d : Nat} (hd : 1 ≤ d) : EQ1 (Cc lf d) 93 (fitE true csfit_isbii) := by
 refine EQ1.le (Cc_le hd) ?_
 intro t ht hs
 obtain ⟨a0, a1, a2, a3, a4, rfl, q0, q1, q3, q4⟩ := fit_isbii ht
 simp only [tl, tls] at hs
 have hcall : Cc lf 1 93 [T.st [T.i .i64 a0, T.s a1, T.b a2, T.i .i64 a3, T.i .i64 a4], T.st [T.i .i64 a0, T.s a1, T.b a2, T.i .i64 a3, T.i .i64 a4]] = f93_t (Cc lf 0) lf a0 a1 a2 a3 a4 a0 a1 a2 a3 a4 := f93_eq (Cc lf 0) lf a0 a1 a2 a3 a4 a0 a1 a2 a3 a4
 rw [hcall]
 unfold f93_t
 simp only [Option.bind_some, nth0, asB_b, Bool.not_true, cond_false, ne_f, beq_self_eq_true]
theorem eq61 (hlf : 33554432 ≤ lf) {d : Nat} (hd : 2 ≤ d) : EQ1 (Cc lf d) 61 (fitC (.sl true [.i .i64, .s, .b, .i .i64, .i .i64])) := by
 exact EQ1.le (Cc_le hd) (eq_slice1 (c' := Cc lf 2) hlf (F := fun l l' n i => f61_0 (Cc lf 1) lf l l' n i) (G := fun l l' i => Cc lf 1 93 [T.st [T.i .i64 (asI (T.cell (l.getD i.toNat T.u) 0)), T.s (asS (T.cell (l.getD i.toNat T.u) 1)), T.b (asB (T.cell (l.getD i.toNat T.u) 2)), T.i .i64 (asI (T.cell (l.getD i.toNat T.u) 3)), T.i .i64 (asI (T.cell (l.getD i.toNat T.u) 4))], T.st [T.i .i64 (asI (T.cell (l'.getD i.toNat T.u) 0)), T.s (asS (T.cell (l'.getD i.toNat T.u) 1)), T.b (asB (T.cell (l'.getD i.toNat T.u) 2)), T.i .i64 (asI (T.cell (l'.getD i.toNat T.u) 3)), T.i .i64 (asI (T.cell (l'.getD i.toNat T.u) 4))]]) (fun l l' => f61_eq (Cc lf 1) lf l l') (fun l l' n i => rfl) (fun l j h hf hs => by
  have heq := eq93 hlf (d := 1) (by omega) _ hf hs
  obtain ⟨a0, a1, a2, a3, a4, e, _⟩ := fit_isbii hf
  rw [e] at heq
  simp only [getD_nat h, e]
  exact heq))
theorem eq36 (hlf : 33554432 ≤ lf) {d : Nat} (hd : 3 ≤ d) : EQ1 (Cc lf d) 36 (fitE true csfit_iMisbiiE) := by
 refine EQ1.le (Cc_le hd) ?_
 intro t ht hs
 obtain ⟨a0, a1, rfl, q0, q1⟩ := fit_iMisbiiE ht
 simp only [tl, tls] at hs
 have hcall : Cc lf 3 36 [T.st [T.i .i64 a0, T.sl a1], T.st [T.i .i64 a0, T.sl a1]] = f36_t (Cc lf 2) lf a0 a1 a0 a1 := f36_eq (Cc lf 2) lf a0 a1 a0 a1
 rw [hcall]
 unfold f36_t
 have e1 := eq61 hlf (d := 2) (by omega) (T.sl a1) q1 (by simp only [tl, tls]; omega)
 simp only [e1, Option.bind_some, nth0, asB_b, Bool.not_true, cond_false, ne_f, beq_self_eq_true]
theorem eq112 (hlf : 33554432 ≤ lf) {d : Nat} (hd : 1 ≤ d) : EQ1 (Cc lf d) 112 (fitE true csfit_ii) := by
 refine EQ1.le (Cc_le hd) ?_
 intro t ht hs
 obtain ⟨a0, a1, rfl, q0, q1⟩ := fit_ii ht
 simp only [tl, tls] at hs
 have hcall : Cc lf 1 112 [T.st [T.i .i64 a0, T.i .i64 a1], T.st [T.i .i64 a0, T.i .i64 a1]] = f112_t (Cc lf 0) lf a0 a1 a0 a1 := f112_eq (Cc lf 0) lf a0 a1 a0 a1
 rw [hcall]
 unfold f112_t
 simp only [Option.bind_some, nth0, asB_b, Bool.not_true, cond_false, ne_f, beq_self_eq_true]
theorem eq94 (hlf : 33554432 ≤ lf) {d : Nat} (hd : 2 ≤ d) : EQ1 (Cc lf d) 94 (fitC (.sl true [.i .i64, .i .i64])) := by
 exact EQ1.le (Cc_le hd) (eq_slice1 (c' := Cc lf 2) hlf (F := fun l l' n i => f94_0 (Cc lf 1) lf l l' n i) (G := fun l l' i => Cc lf 1 112 [T.st [T.i .i64 (asI (T.cell (l.getD i.toNat T.u) 0)), T.i .i64 (asI (T.cell (l.getD i.toNat T.u) 1))], T.st [T.i .i64 (asI (T.cell (l'.getD i.toNat T.u) 0)), T.i .i64 (asI (T.cell (l'.getD i.toNat T.u) 1))]]) (fun l l' => f94_eq (Cc lf 1) lf l l') (fun l l' n i => rfl) (fun l j h hf hs => by
  have heq := eq112 hlf (d := 1) (by omega) _ hf hs
  obtain ⟨a0, a1, e, _⟩ := fit_ii hf
  rw [e] at heq
  simp only [getD_nat h, e]
  exact heq))
theorem eq62 (hlf : 33554432 ≤ lf) {d : Nat} (hd : 3 ≤ d) : EQ1 (Cc lf d) 62 (fitE true csfit_iMiiE) := by
 refine EQ1.le (Cc_le hd) ?_
 intro t ht hs
 obtain ⟨a0, a1, rfl, q0, q1⟩ := fit_iMiiE ht
 simp only [tl, tls] at hs
 have hcall : Cc lf 3 62 [T.st [T.i .i64 a0, T.sl a1], T.st [T.i .i64 a0, T.sl a1]] = f62_t (Cc lf 2) lf a0 a1 a0 a1 := f62_eq (Cc lf 2) lf a0 a1 a0 a1
 rw [hcall]
 unfold f62_t
 have e1 := eq94 hlf (d := 2) (by omega) (T.sl a1) q1 (by simp only [tl, tls]; omega)
 simp only [e1, Option.bind_some, nth0, asB_b, Bool.not_true, cond_false, ne_f, beq_self_eq_true]
theorem eq37 (hlf : 33554432 ≤ lf) {d : Nat} (hd : 4 ≤ d) : EQ1 (Cc lf d) 37 (fitC (.sl true [.i .i64, .sl true [.i .i64, .i .i64]])) := by
 exact EQ1.le (Cc_le hd) (eq_slice1 (c' := Cc lf 4) hlf (F := fun l l' n i => f37_0 (Cc lf 3) lf l l' n i) (G := fun l l' i => Cc lf 3 62 [T.st [T.i .i64 (asI (T.cell (l.getD i.toNat T.u) 0)), T.sl (asL (T.cell (l.getD i.toNat T.u) 1))], T.st [T.i .i64 (asI (T.cell (l'.getD i.toNat T.u) 0)), T.sl (asL (T.cell (l'.getD i.toNat T.u) 1))]]) (fun l l' => f37_eq (Cc lf 3) lf l l') (fun l l' n i => rfl) (fun l j h hf hs => by
  have heq := eq62 hlf (d := 3) (by omega) _ hf hs
  obtain ⟨a0, a1, e, _⟩ := fit_iMiiE hf
  rw [e] at heq
  simp only [getD_nat h, e]
  exact heq))
theorem eq11 (hlf : 33554432 ≤ lf) {d : Nat} (hd : 9 ≤ d) : EQ1 (Cc lf d) 11 (fitE true csfit_MisbiMiiiScMsiEMssEEiEiiMisbiiEMiMiiEEii) := by
 refine EQ1.le (Cc_le hd) ?_
 intro t ht hs
 obtain ⟨a0, a1, a2, a3, a4, a5, a6, rfl, q0, q1, q2, q3, q4, q5, q6⟩ := fit_MisbiMiiiScMsiEMssEEiEiiMisbiiEMiMiiEEii ht
 simp only [tl, tls] at hs
 have hcall : Cc lf 9 11 [T.st [T.sl a0, T.i .i64 a1, T.i .i64 a2, T.sl a3, T.sl a4, T.i .i64 a5, T.i .i64 a6], T.st [T.sl a0, T.i .i64 a1, T.i .i64 a2, T.sl a3, T.sl a4, T.i .i64 a5, T.i .i64 a6]] = f11_t (Cc lf 8) lf a0 a1 a2 a3 a4 a5 a6 a0 a1 a2 a3 a4 a5 a6 := f11_eq (Cc lf 8) lf a0 a1 a2 a3 a4 a5 a6 a0 a1 a2 a3 a4 a5 a6
 rw [hcall]
 unfold f11_t
 have e1 := eq35 hlf (d := 8) (by omega) (T.st [T.sl a0, T.i .i64 a1]) (show fitE true csfit_MisbiMiiiScMsiEMssEEiEi (T.st [T.sl a0, T.i .i64 a1]) from ⟨q0, ⟨rfl, q1⟩, trivial⟩) (by simp only [tl, tls]; omega)
 have e2 := eq36 hlf (d := 8) (by omega) (T.st [T.i .i64 a2, T.sl a3]) (show fitE true csfit_iMisbiiE (T.st [T.i .i64 a2, T.sl a3]) from ⟨⟨rfl, q2⟩, q3, trivial⟩) (by simp only [tl, tls]; omega)
 have e3 := eq37 hlf (d := 8) (by omega) (T.sl a4) q4 (by simp only [tl, tls]; omega)
 simp only [e1, e2, e3, Option.bind_some, nth0, asB_b, Bool.not_true, cond_false, ne_f, beq_self_eq_true]
end
end Go.Proofs.YtnakbpjofkdabaaGreat.T
