/- What functions of the law FnExactSameTree come to, in trees; no condition. -/
import Derived.Test.YtncfoonahkieoaaGreatDoorRows
import Derived.Test.YtncfoonahkieoaaGreatDoorX2
set_option linter.unusedVariables false
set_option linter.constructorNameAsVariable false
set_option linter.unusedSimpArgs false
set_option linter.unnecessarySimpa false
namespace Go.Proofs.YtncfoonahkieoaaGreatDoor.T
open Go Go.Proofs.YtncfoonahkieoaaGreatDoorV
set_option maxRecDepth 100000
noncomputable abbrev Cc (lf d : Nat) : Orc := orc X env lf 6 d
theorem Cc_le {lf d d' : Nat} (h : d ≤ d') : OLe (Cc lf d) (Cc lf d') := fun _ _ _ g => qyk h g
section
variable {lf : Nat}
theorem sz66 (hlf : 33554432 ≤ lf) {d : Nat} (hd : 1 ≤ d) : SZ1 (Cc lf d) 66 (fitC (.sl false [.i .u8])) := by
 exact SZ1.le (Cc_le hd) (qv1 (c := Cc lf 1) rfl fun l x => f66_eq (Cc lf 0) lf l x)
abbrev qhj : List CT := [.s, .i .i64]
theorem qk3 {t : T} (h : fitE true qhj t) : ∃ (a0 : ByteArray) (a1 : Int), t = .st [.s a0, .i .i64 a1] ∧ a0.size ≤ maxLen ∧ (Lit.int .i64 a1).wf = true := by
 obtain ⟨l, rfl, h⟩ := ql6 h
 obtain ⟨x0, l0, rfl, h0, h⟩ := qat h
 obtain ⟨x1, l1, rfl, h1, h⟩ := qat h
 obtain rfl := qfo h
 obtain ⟨a0, rfl, q0⟩ := qtn h0
 obtain ⟨a1, rfl, q1⟩ := qk4 h1
 exact ⟨a0, a1, rfl, q0, q1⟩
theorem sz93 (hlf : 33554432 ≤ lf) {d : Nat} (hd : 1 ≤ d) : SZ1 (Cc lf d) 93 (fitE true qhj) := by
 refine SZ1.le (Cc_le hd) ?_
 intro t ht x h0 h1
 obtain ⟨a0, a1, rfl, q0, q1⟩ := qk3 ht
 have hcall : Cc lf 1 93 [T.st [T.s a0, T.i .i64 a1], T.i .i64 x] = f93_t (Cc lf 0) lf a0 a1 x := f93_eq (Cc lf 0) lf a0 a1 x
 rw [hcall]
 unfold f93_t
 have w1 := qlk (x := x) (n := a0.size) (by omega) (by omega) q0
 rw [w1]
 by_cases p1 : x - (a0.size : Int) < 0
 ·left
  rw [iLt_t p1, cond_true]
 rw [iLt_f p1, cond_false]
 obtain ⟨y1, e1⟩ : ∃ y, y = x - (a0.size : Int) := ⟨_, rfl⟩
 rw [← e1]
 refine .inr ⟨y1, rfl, by omega, ?_⟩
 simp only [tl, tls]
 omega
theorem sz67 (hlf : 33554432 ≤ lf) {d : Nat} (hd : 2 ≤ d) : SZ1 (Cc lf d) 67 (fitC (.sl true [.s, .i .i64])) := by
 exact SZ1.le (Cc_le hd) (qhq (c := Cc lf 1) (c' := Cc lf 2) hlf (sz93 hlf (Nat.le_refl _)) (F := fun l n x i => f67_0 (Cc lf 1) lf l n x i) (G := fun l i x => Cc lf 1 93 [T.st [T.s (asS (T.cell (l.getD i.toNat T.u) 0)), T.i .i64 (asI (T.cell (l.getD i.toNat T.u) 1))], T.i .i64 x])
  (fun l x => f67_eq (Cc lf 1) lf l x) (fun l n x i => rfl) (fun l j x h hf => by
   obtain ⟨a0, a1, e, _⟩ := qk3 hf
   simp only [qbs h, e]
   rfl))
abbrev qhi : List CT := [.s, .s]
theorem qk2 {t : T} (h : fitE true qhi t) : ∃ (a0 : ByteArray) (a1 : ByteArray), t = .st [.s a0, .s a1] ∧ a0.size ≤ maxLen ∧ a1.size ≤ maxLen := by
 obtain ⟨l, rfl, h⟩ := ql6 h
 obtain ⟨x0, l0, rfl, h0, h⟩ := qat h
 obtain ⟨x1, l1, rfl, h1, h⟩ := qat h
 obtain rfl := qfo h
 obtain ⟨a0, rfl, q0⟩ := qtn h0
 obtain ⟨a1, rfl, q1⟩ := qtn h1
 exact ⟨a0, a1, rfl, q0, q1⟩
theorem sz94 (hlf : 33554432 ≤ lf) {d : Nat} (hd : 1 ≤ d) : SZ1 (Cc lf d) 94 (fitE true qhi) := by
 refine SZ1.le (Cc_le hd) ?_
 intro t ht x h0 h1
 obtain ⟨a0, a1, rfl, q0, q1⟩ := qk2 ht
 have hcall : Cc lf 1 94 [T.st [T.s a0, T.s a1], T.i .i64 x] = f94_t (Cc lf 0) lf a0 a1 x := f94_eq (Cc lf 0) lf a0 a1 x
 rw [hcall]
 unfold f94_t
 have w1 := qlk (x := x) (n := a0.size) (by omega) (by omega) q0
 rw [w1]
 by_cases p1 : x - (a0.size : Int) < 0
 ·left
  rw [iLt_t p1, cond_true]
 rw [iLt_f p1, cond_false]
 obtain ⟨y1, e1⟩ : ∃ y, y = x - (a0.size : Int) := ⟨_, rfl⟩
 rw [← e1]
 have w2 := qlk (x := y1) (n := a1.size) (by omega) (by omega) q1
 rw [w2]
 by_cases p2 : y1 - (a1.size : Int) < 0
 ·left
  rw [iLt_t p2, cond_true]
 rw [iLt_f p2, cond_false]
 obtain ⟨y2, e2⟩ : ∃ y, y = y1 - (a1.size : Int) := ⟨_, rfl⟩
 rw [← e2]
 refine .inr ⟨y2, rfl, by omega, ?_⟩
 simp only [tl, tls]
 omega
theorem sz68 (hlf : 33554432 ≤ lf) {d : Nat} (hd : 2 ≤ d) : SZ1 (Cc lf d) 68 (fitC (.sl true [.s, .s])) := by
 exact SZ1.le (Cc_le hd) (qhq (c := Cc lf 1) (c' := Cc lf 2) hlf (sz94 hlf (Nat.le_refl _)) (F := fun l n x i => f68_0 (Cc lf 1) lf l n x i) (G := fun l i x => Cc lf 1 94 [T.st [T.s (asS (T.cell (l.getD i.toNat T.u) 0)), T.s (asS (T.cell (l.getD i.toNat T.u) 1))], T.i .i64 x])
  (fun l x => f68_eq (Cc lf 1) lf l x) (fun l n x i => rfl) (fun l j x h hf => by
   obtain ⟨a0, a1, e, _⟩ := qk2 hf
   simp only [qbs h, e]
   rfl))
abbrev qb0 : List CT := [.i .i64, .i .i64, .i .i64, .sl false [.i .u8], .sl true [.s, .i .i64], .sl true [.s, .s]]
theorem qan {t : T} (h : fitE true qb0 t) : ∃ (a0 : Int) (a1 : Int) (a2 : Int) (a3 : List T) (a4 : List T) (a5 : List T), t = .st [.i .i64 a0, .i .i64 a1, .i .i64 a2, .sl a3, .sl a4, .sl a5] ∧ (Lit.int .i64 a0).wf = true ∧ (Lit.int .i64 a1).wf = true ∧ (Lit.int .i64 a2).wf = true ∧ fitC (.sl false [.i .u8]) (.sl a3) ∧ fitC (.sl true [.s, .i .i64]) (.sl a4) ∧ fitC (.sl true [.s, .s]) (.sl a5) := by
 obtain ⟨l, rfl, h⟩ := ql6 h
 obtain ⟨x0, l0, rfl, h0, h⟩ := qat h
 obtain ⟨x1, l1, rfl, h1, h⟩ := qat h
 obtain ⟨x2, l2, rfl, h2, h⟩ := qat h
 obtain ⟨x3, l3, rfl, h3, h⟩ := qat h
 obtain ⟨x4, l4, rfl, h4, h⟩ := qat h
 obtain ⟨x5, l5, rfl, h5, h⟩ := qat h
 obtain rfl := qfo h
 obtain ⟨a0, rfl, q0⟩ := qk4 h0
 obtain ⟨a1, rfl, q1⟩ := qk4 h1
 obtain ⟨a2, rfl, q2⟩ := qk4 h2
 obtain ⟨a3, rfl, q3⟩ := ql7 h3
 obtain ⟨a4, rfl, q4⟩ := ql7 h4
 obtain ⟨a5, rfl, q5⟩ := ql7 h5
 exact ⟨a0, a1, a2, a3, a4, a5, rfl, q0, q1, q2, q3, q4, q5⟩
theorem sz41 (hlf : 33554432 ≤ lf) {d : Nat} (hd : 3 ≤ d) : SZ1 (Cc lf d) 41 (fitE true qb0) := by
 refine SZ1.le (Cc_le hd) ?_
 intro t ht x h0 h1
 obtain ⟨a0, a1, a2, a3, a4, a5, rfl, q0, q1, q2, q3, q4, q5⟩ := qan ht
 have hcall : Cc lf 3 41 [T.st [T.i .i64 a0, T.i .i64 a1, T.i .i64 a2, T.sl a3, T.sl a4, T.sl a5], T.i .i64 x] = f41_t (Cc lf 2) lf a0 a1 a2 a3 a4 a5 x := f41_eq (Cc lf 2) lf a0 a1 a2 a3 a4 a5 x
 rw [hcall]
 unfold f41_t
 have s1 := sz66 hlf (d := 2) (by omega) (T.sl a3) q3 x (by omega) (by omega)
 rcases s1 with e | ⟨y1, e, p1, z1⟩
 ·left
  rw [e]
  rfl
 rw [e]
 simp only [Option.bind_some, nth0, asI_i]
 rw [iLt_f (show ¬ (y1 < 0) by omega), cond_false]
 simp only [tl, tls] at z1
 have s2 := sz67 hlf (d := 2) (by omega) (T.sl a4) q4 y1 (by omega) (by omega)
 rcases s2 with e | ⟨y2, e, p2, z2⟩
 ·left
  rw [e]
  rfl
 rw [e]
 simp only [Option.bind_some, nth0, asI_i]
 rw [iLt_f (show ¬ (y2 < 0) by omega), cond_false]
 simp only [tl, tls] at z2
 have s3 := sz68 hlf (d := 2) (by omega) (T.sl a5) q5 y2 (by omega) (by omega)
 rcases s3 with e | ⟨y3, e, p3, z3⟩
 ·left
  rw [e]
  rfl
 rw [e]
 simp only [Option.bind_some, nth0, asI_i]
 rw [iLt_f (show ¬ (y3 < 0) by omega), cond_false]
 simp only [tl, tls] at z3
 refine .inr ⟨y3, rfl, by omega, ?_⟩
 simp only [tl, tls]
 omega
theorem sz16 (hlf : 33554432 ≤ lf) {d : Nat} (hd : 4 ≤ d) : SZ1 (Cc lf d) 16 (fitC (.sl true [.i .i64, .i .i64, .i .i64, .sl false [.i .u8], .sl true [.s, .i .i64], .sl true [.s, .s]])) := by
 exact SZ1.le (Cc_le hd) (qhq (c := Cc lf 3) (c' := Cc lf 4) hlf (sz41 hlf (Nat.le_refl _)) (F := fun l n x i => f16_0 (Cc lf 3) lf l n x i) (G := fun l i x => Cc lf 3 41 [T.st [T.i .i64 (asI (T.cell (l.getD i.toNat T.u) 0)), T.i .i64 (asI (T.cell (l.getD i.toNat T.u) 1)), T.i .i64 (asI (T.cell (l.getD i.toNat T.u) 2)), T.sl (asL (T.cell (l.getD i.toNat T.u) 3)), T.sl (asL (T.cell (l.getD i.toNat T.u) 4)), T.sl (asL (T.cell (l.getD i.toNat T.u) 5))], T.i .i64 x])
  (fun l x => f16_eq (Cc lf 3) lf l x) (fun l n x i => rfl) (fun l j x h hf => by
   obtain ⟨a0, a1, a2, a3, a4, a5, e, _⟩ := qan hf
   simp only [qbs h, e]
   rfl))
abbrev qa9 : List CT := [.sl true [.i .i64, .i .i64, .i .i64, .sl false [.i .u8], .sl true [.s, .i .i64], .sl true [.s, .s]], .i .i64]
theorem qak {t : T} (h : fitE true qa9 t) : ∃ (a0 : List T) (a1 : Int), t = .st [.sl a0, .i .i64 a1] ∧ fitC (.sl true [.i .i64, .i .i64, .i .i64, .sl false [.i .u8], .sl true [.s, .i .i64], .sl true [.s, .s]]) (.sl a0) ∧ (Lit.int .i64 a1).wf = true := by
 obtain ⟨l, rfl, h⟩ := ql6 h
 obtain ⟨x0, l0, rfl, h0, h⟩ := qat h
 obtain ⟨x1, l1, rfl, h1, h⟩ := qat h
 obtain rfl := qfo h
 obtain ⟨a0, rfl, q0⟩ := ql7 h0
 obtain ⟨a1, rfl, q1⟩ := qk4 h1
 exact ⟨a0, a1, rfl, q0, q1⟩
theorem sz5 (hlf : 33554432 ≤ lf) {d : Nat} (hd : 5 ≤ d) : SZ1 (Cc lf d) 5 (fitE true qa9) := by
 refine SZ1.le (Cc_le hd) ?_
 intro t ht x h0 h1
 obtain ⟨a0, a1, rfl, q0, q1⟩ := qak ht
 have hcall : Cc lf 5 5 [T.st [T.sl a0, T.i .i64 a1], T.i .i64 x] = f5_t (Cc lf 4) lf a0 a1 x := f5_eq (Cc lf 4) lf a0 a1 x
 rw [hcall]
 unfold f5_t
 have s1 := sz16 hlf (d := 4) (by omega) (T.sl a0) q0 x (by omega) (by omega)
 rcases s1 with e | ⟨y1, e, p1, z1⟩
 ·left
  rw [e]
  rfl
 rw [e]
 simp only [Option.bind_some, nth0, asI_i]
 rw [iLt_f (show ¬ (y1 < 0) by omega), cond_false]
 simp only [tl, tls] at z1
 refine .inr ⟨y1, rfl, by omega, ?_⟩
 simp only [tl, tls]
 omega
theorem to73 (hlf : 33554432 ≤ lf) {d : Nat} (hd : 1 ≤ d) : TO1 (Cc lf d) 73 (fitC (.sl false [.i .u8])) := by
 exact TO1.le (Cc_le hd) (qf8 (c' := Cc lf 1) hlf (m := false) (F := fun l n i out => f73_0 (Cc lf 0) lf l n i out) (G := fun _ _ => some []) (V := fun l i _ => T.i .u8 (asI (l.getD i.toNat T.u))) (fun l => f73_eq (Cc lf 0) lf l) (fun l n i out => rfl) (fun l j h hf _ => by
  refine ⟨[], rfl, ?_⟩
  have hf : fitC (.i .u8) l[j] := hf
  obtain ⟨v, e, _⟩ := qk4 hf
  simp only [qbs h, e]
  rfl))
theorem to98 (hlf : 33554432 ≤ lf) {d : Nat} (hd : 1 ≤ d) : TO1 (Cc lf d) 98 (fitE true qhj) := by
 refine TO1.le (Cc_le hd) ?_
 intro t ht hs
 obtain ⟨a0, a1, rfl, q0, q1⟩ := qk3 ht
 simp only [tl, tls] at hs
 have hcall : Cc lf 1 98 [T.st [T.s a0, T.i .i64 a1]] = f98_t (Cc lf 0) lf a0 a1 := f98_eq (Cc lf 0) lf a0 a1
 rw [hcall]
 unfold f98_t
 rfl
theorem to74 (hlf : 33554432 ≤ lf) {d : Nat} (hd : 2 ≤ d) : TO1 (Cc lf d) 74 (fitC (.sl true [.s, .i .i64])) := by
 exact TO1.le (Cc_le hd) (qf8 (c' := Cc lf 2) hlf (F := fun l n i out => f74_0 (Cc lf 1) lf l n i out) (G := fun l i => Cc lf 1 98 [T.st [T.s (asS (T.cell (l.getD i.toNat T.u) 0)), T.i .i64 (asI (T.cell (l.getD i.toNat T.u) 1))]]) (V := fun _ _ r => T.st [T.s (asS (T.cell (nth r 0) 0)), T.i .i64 (asI (T.cell (nth r 0) 1))]) (fun l => f74_eq (Cc lf 1) lf l) (fun l n i out => rfl) (fun l j h hf hs => by
  have hto := to98 hlf (d := 1) (by omega) _ hf hs
  obtain ⟨a0, a1, e, _⟩ := qk3 hf
  rw [e] at hto
  simp only [qbs h, e]
  exact ⟨_, hto, rfl⟩))
theorem to99 (hlf : 33554432 ≤ lf) {d : Nat} (hd : 1 ≤ d) : TO1 (Cc lf d) 99 (fitE true qhi) := by
 refine TO1.le (Cc_le hd) ?_
 intro t ht hs
 obtain ⟨a0, a1, rfl, q0, q1⟩ := qk2 ht
 simp only [tl, tls] at hs
 have hcall : Cc lf 1 99 [T.st [T.s a0, T.s a1]] = f99_t (Cc lf 0) lf a0 a1 := f99_eq (Cc lf 0) lf a0 a1
 rw [hcall]
 unfold f99_t
 rfl
theorem to75 (hlf : 33554432 ≤ lf) {d : Nat} (hd : 2 ≤ d) : TO1 (Cc lf d) 75 (fitC (.sl true [.s, .s])) := by
 exact TO1.le (Cc_le hd) (qf8 (c' := Cc lf 2) hlf (F := fun l n i out => f75_0 (Cc lf 1) lf l n i out) (G := fun l i => Cc lf 1 99 [T.st [T.s (asS (T.cell (l.getD i.toNat T.u) 0)), T.s (asS (T.cell (l.getD i.toNat T.u) 1))]]) (V := fun _ _ r => T.st [T.s (asS (T.cell (nth r 0) 0)), T.s (asS (T.cell (nth r 0) 1))]) (fun l => f75_eq (Cc lf 1) lf l) (fun l n i out => rfl) (fun l j h hf hs => by
  have hto := to99 hlf (d := 1) (by omega) _ hf hs
  obtain ⟨a0, a1, e, _⟩ := qk2 hf
  rw [e] at hto
  simp only [qbs h, e]
  exact ⟨_, hto, rfl⟩))
theorem to48 (hlf : 33554432 ≤ lf) {d : Nat} (hd : 3 ≤ d) : TO1 (Cc lf d) 48 (fitE true qb0) := by
 refine TO1.le (Cc_le hd) ?_
 intro t ht hs
 obtain ⟨a0, a1, a2, a3, a4, a5, rfl, q0, q1, q2, q3, q4, q5⟩ := qan ht
 simp only [tl, tls] at hs
 have hcall : Cc lf 3 48 [T.st [T.i .i64 a0, T.i .i64 a1, T.i .i64 a2, T.sl a3, T.sl a4, T.sl a5]] = f48_t (Cc lf 2) lf a0 a1 a2 a3 a4 a5 := f48_eq (Cc lf 2) lf a0 a1 a2 a3 a4 a5
 rw [hcall]
 unfold f48_t
 have e1 := to73 hlf (d := 2) (by omega) (T.sl a3) q3 (by simp only [tl, tls]; omega)
 have e2 := to74 hlf (d := 2) (by omega) (T.sl a4) q4 (by simp only [tl, tls]; omega)
 have e3 := to75 hlf (d := 2) (by omega) (T.sl a5) q5 (by simp only [tl, tls]; omega)
 simp only [e1, e2, e3, Option.bind_some, nth0, asL_l, asI_i, asB_b, asS_s, cell0, cellS]
theorem to21 (hlf : 33554432 ≤ lf) {d : Nat} (hd : 4 ≤ d) : TO1 (Cc lf d) 21 (fitC (.sl true [.i .i64, .i .i64, .i .i64, .sl false [.i .u8], .sl true [.s, .i .i64], .sl true [.s, .s]])) := by
 exact TO1.le (Cc_le hd) (qf8 (c' := Cc lf 4) hlf (F := fun l n i out => f21_0 (Cc lf 3) lf l n i out) (G := fun l i => Cc lf 3 48 [T.st [T.i .i64 (asI (T.cell (l.getD i.toNat T.u) 0)), T.i .i64 (asI (T.cell (l.getD i.toNat T.u) 1)), T.i .i64 (asI (T.cell (l.getD i.toNat T.u) 2)), T.sl (asL (T.cell (l.getD i.toNat T.u) 3)), T.sl (asL (T.cell (l.getD i.toNat T.u) 4)), T.sl (asL (T.cell (l.getD i.toNat T.u) 5))]]) (V := fun _ _ r => T.st [T.i .i64 (asI (T.cell (nth r 0) 0)), T.i .i64 (asI (T.cell (nth r 0) 1)), T.i .i64 (asI (T.cell (nth r 0) 2)), T.sl (asL (T.cell (nth r 0) 3)), T.sl (asL (T.cell (nth r 0) 4)), T.sl (asL (T.cell (nth r 0) 5))]) (fun l => f21_eq (Cc lf 3) lf l) (fun l n i out => rfl) (fun l j h hf hs => by
  have hto := to48 hlf (d := 3) (by omega) _ hf hs
  obtain ⟨a0, a1, a2, a3, a4, a5, e, _⟩ := qan hf
  rw [e] at hto
  simp only [qbs h, e]
  exact ⟨_, hto, rfl⟩))
theorem to7 (hlf : 33554432 ≤ lf) {d : Nat} (hd : 5 ≤ d) : TO1 (Cc lf d) 7 (fitE true qa9) := by
 refine TO1.le (Cc_le hd) ?_
 intro t ht hs
 obtain ⟨a0, a1, rfl, q0, q1⟩ := qak ht
 simp only [tl, tls] at hs
 have hcall : Cc lf 5 7 [T.st [T.sl a0, T.i .i64 a1]] = f7_t (Cc lf 4) lf a0 a1 := f7_eq (Cc lf 4) lf a0 a1
 rw [hcall]
 unfold f7_t
 have e1 := to21 hlf (d := 4) (by omega) (T.sl a0) q0 (by simp only [tl, tls]; omega)
 simp only [e1, Option.bind_some, nth0, asL_l, asI_i, asB_b, asS_s, cell0, cellS]
theorem eq63 (hlf : 33554432 ≤ lf) {d : Nat} (hd : 1 ≤ d) : EQ1 (Cc lf d) 63 (fitC (.sl false [.i .u8])) := by
 exact EQ1.le (Cc_le hd) (qvr (c' := Cc lf 1) hlf (F := fun l l' n i => f63_0 (Cc lf 0) lf l l' n i) (N := fun l l' i => (asI (l.getD i.toNat T.u)) != (asI (l'.getD i.toNat T.u))) (fun l l' => f63_eq (Cc lf 0) lf l l') (fun l l' n i => rfl) (fun l i => by simp))
theorem eq104 (hlf : 33554432 ≤ lf) {d : Nat} (hd : 1 ≤ d) : EQ1 (Cc lf d) 104 (fitE true qhj) := by
 refine EQ1.le (Cc_le hd) ?_
 intro t ht hs
 obtain ⟨a0, a1, rfl, q0, q1⟩ := qk3 ht
 simp only [tl, tls] at hs
 have hcall : Cc lf 1 104 [T.st [T.s a0, T.i .i64 a1], T.st [T.s a0, T.i .i64 a1]] = f104_t (Cc lf 0) lf a0 a1 a0 a1 := f104_eq (Cc lf 0) lf a0 a1 a0 a1
 rw [hcall]
 unfold f104_t
 simp only [Option.bind_some, nth0, asB_b, Bool.not_true, cond_false, ne_f, beq_self_eq_true]
theorem eq85 (hlf : 33554432 ≤ lf) {d : Nat} (hd : 2 ≤ d) : EQ1 (Cc lf d) 85 (fitC (.sl true [.s, .i .i64])) := by
 exact EQ1.le (Cc_le hd) (qfs (c' := Cc lf 2) hlf (F := fun l l' n i => f85_0 (Cc lf 1) lf l l' n i) (G := fun l l' i => Cc lf 1 104 [T.st [T.s (asS (T.cell (l.getD i.toNat T.u) 0)), T.i .i64 (asI (T.cell (l.getD i.toNat T.u) 1))], T.st [T.s (asS (T.cell (l'.getD i.toNat T.u) 0)), T.i .i64 (asI (T.cell (l'.getD i.toNat T.u) 1))]]) (fun l l' => f85_eq (Cc lf 1) lf l l') (fun l l' n i => rfl) (fun l j h hf hs => by
  have heq := eq104 hlf (d := 1) (by omega) _ hf hs
  obtain ⟨a0, a1, e, _⟩ := qk3 hf
  rw [e] at heq
  simp only [qbs h, e]
  exact heq))
theorem eq92 (hlf : 33554432 ≤ lf) {d : Nat} (hd : 1 ≤ d) : EQ1 (Cc lf d) 92 (fitE true qhi) := by
 refine EQ1.le (Cc_le hd) ?_
 intro t ht hs
 obtain ⟨a0, a1, rfl, q0, q1⟩ := qk2 ht
 simp only [tl, tls] at hs
 have hcall : Cc lf 1 92 [T.st [T.s a0, T.s a1], T.st [T.s a0, T.s a1]] = f92_t (Cc lf 0) lf a0 a1 a0 a1 := f92_eq (Cc lf 0) lf a0 a1 a0 a1
 rw [hcall]
 unfold f92_t
 simp only [Option.bind_some, nth0, asB_b, Bool.not_true, cond_false, ne_f, beq_self_eq_true]
theorem eq64 (hlf : 33554432 ≤ lf) {d : Nat} (hd : 2 ≤ d) : EQ1 (Cc lf d) 64 (fitC (.sl true [.s, .s])) := by
 exact EQ1.le (Cc_le hd) (qfs (c' := Cc lf 2) hlf (F := fun l l' n i => f64_0 (Cc lf 1) lf l l' n i) (G := fun l l' i => Cc lf 1 92 [T.st [T.s (asS (T.cell (l.getD i.toNat T.u) 0)), T.s (asS (T.cell (l.getD i.toNat T.u) 1))], T.st [T.s (asS (T.cell (l'.getD i.toNat T.u) 0)), T.s (asS (T.cell (l'.getD i.toNat T.u) 1))]]) (fun l l' => f64_eq (Cc lf 1) lf l l') (fun l l' n i => rfl) (fun l j h hf hs => by
  have heq := eq92 hlf (d := 1) (by omega) _ hf hs
  obtain ⟨a0, a1, e, _⟩ := qk2 hf
  rw [e] at heq
  simp only [qbs h, e]
  exact heq))
theorem eq55 (hlf : 33554432 ≤ lf) {d : Nat} (hd : 3 ≤ d) : EQ1 (Cc lf d) 55 (fitE true qb0) := by
 refine EQ1.le (Cc_le hd) ?_
 intro t ht hs
 obtain ⟨a0, a1, a2, a3, a4, a5, rfl, q0, q1, q2, q3, q4, q5⟩ := qan ht
 simp only [tl, tls] at hs
 have hcall : Cc lf 3 55 [T.st [T.i .i64 a0, T.i .i64 a1, T.i .i64 a2, T.sl a3, T.sl a4, T.sl a5], T.st [T.i .i64 a0, T.i .i64 a1, T.i .i64 a2, T.sl a3, T.sl a4, T.sl a5]] = f55_t (Cc lf 2) lf a0 a1 a2 a3 a4 a5 a0 a1 a2 a3 a4 a5 := f55_eq (Cc lf 2) lf a0 a1 a2 a3 a4 a5 a0 a1 a2 a3 a4 a5
 rw [hcall]
 unfold f55_t
 have e1 := eq63 hlf (d := 2) (by omega) (T.sl a3) q3 (by simp only [tl, tls]; omega)
 have e2 := eq85 hlf (d := 2) (by omega) (T.sl a4) q4 (by simp only [tl, tls]; omega)
 have e3 := eq64 hlf (d := 2) (by omega) (T.sl a5) q5 (by simp only [tl, tls]; omega)
 simp only [e1, e2, e3, Option.bind_some, nth0, asB_b, Bool.not_true, cond_false, ne_f, beq_self_eq_true]
theorem eq27 (hlf : 33554432 ≤ lf) {d : Nat} (hd : 4 ≤ d) : EQ1 (Cc lf d) 27 (fitC (.sl true [.i .i64, .i .i64, .i .i64, .sl false [.i .u8], .sl true [.s, .i .i64], .sl true [.s, .s]])) := by
 exact EQ1.le (Cc_le hd) (qfs (c' := Cc lf 4) hlf (F := fun l l' n i => f27_0 (Cc lf 3) lf l l' n i) (G := fun l l' i => Cc lf 3 55 [T.st [T.i .i64 (asI (T.cell (l.getD i.toNat T.u) 0)), T.i .i64 (asI (T.cell (l.getD i.toNat T.u) 1)), T.i .i64 (asI (T.cell (l.getD i.toNat T.u) 2)), T.sl (asL (T.cell (l.getD i.toNat T.u) 3)), T.sl (asL (T.cell (l.getD i.toNat T.u) 4)), T.sl (asL (T.cell (l.getD i.toNat T.u) 5))], T.st [T.i .i64 (asI (T.cell (l'.getD i.toNat T.u) 0)), T.i .i64 (asI (T.cell (l'.getD i.toNat T.u) 1)), T.i .i64 (asI (T.cell (l'.getD i.toNat T.u) 2)), T.sl (asL (T.cell (l'.getD i.toNat T.u) 3)), T.sl (asL (T.cell (l'.getD i.toNat T.u) 4)), T.sl (asL (T.cell (l'.getD i.toNat T.u) 5))]]) (fun l l' => f27_eq (Cc lf 3) lf l l') (fun l l' n i => rfl) (fun l j h hf hs => by
  have heq := eq55 hlf (d := 3) (by omega) _ hf hs
  obtain ⟨a0, a1, a2, a3, a4, a5, e, _⟩ := qan hf
  rw [e] at heq
  simp only [qbs h, e]
  exact heq))
theorem eq9 (hlf : 33554432 ≤ lf) {d : Nat} (hd : 5 ≤ d) : EQ1 (Cc lf d) 9 (fitE true qa9) := by
 refine EQ1.le (Cc_le hd) ?_
 intro t ht hs
 obtain ⟨a0, a1, rfl, q0, q1⟩ := qak ht
 simp only [tl, tls] at hs
 have hcall : Cc lf 5 9 [T.st [T.sl a0, T.i .i64 a1], T.st [T.sl a0, T.i .i64 a1]] = f9_t (Cc lf 4) lf a0 a1 a0 a1 := f9_eq (Cc lf 4) lf a0 a1 a0 a1
 rw [hcall]
 unfold f9_t
 have e1 := eq27 hlf (d := 4) (by omega) (T.sl a0) q0 (by simp only [tl, tls]; omega)
 simp only [e1, Option.bind_some, nth0, asB_b, Bool.not_true, cond_false, ne_f, beq_self_eq_true]
end
end Go.Proofs.YtncfoonahkieoaaGreatDoor.T
