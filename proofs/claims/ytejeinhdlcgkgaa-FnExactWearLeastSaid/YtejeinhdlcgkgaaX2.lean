/- What functions of the law FnExactWearLeast come to, in trees; no condition. -/
import Derived.Test.YtejeinhdlcgkgaaRows
import Derived.Test.YtejeinhdlcgkgaaX1
set_option linter.unusedVariables false
set_option linter.constructorNameAsVariable false
set_option linter.unusedSimpArgs false
set_option linter.unnecessarySimpa false
namespace Go.Proofs.Ytejeinhdlcgkgaa.T
open Go Go.Proofs.YtejeinhdlcgkgaaV

/-- The functions, by depth. -/
noncomputable abbrev Cc (lf d : Nat) : Orc := orc (fun _ => none) env lf 0 d

def csP : List CT := [.b, .sl false [.i .u8]]
def csB : List CT := [.sl true csP, .i .i64, .b]
theorem fitP {t : T} (h : fitE true csP t) : ∃ b l, t = .st [.b b, .sl l] ∧ fitC (.sl false [.i .u8]) (.sl l) := by
  match t, h with
  | .st [x, y], h =>
    obtain ⟨h1, h2, _⟩ := (h : fitC .b x ∧ fitC (.sl false [.i .u8]) y ∧ True)
    cases x <;> first | exact h1.elim | skip
    cases y <;> first | exact h2.elim | skip
    exact ⟨_, _, rfl, h2⟩
  | .st [], h => exact (show False from h).elim
  | .st [_], h => exact (show _ ∧ False from h).2.elim
  | .st (_ :: _ :: _ :: _), h => exact (show _ ∧ _ ∧ False from h).2.2.elim
theorem fitB {t : T} (h : fitE true csB t) : ∃ l n b, t = .st [.sl l, .i .i64 n, .b b] ∧ fitC (.sl true csP) (.sl l) := by
  match t, h with
  | .st [x, y, z], h =>
    obtain ⟨h1, h2, h3, _⟩ := (h : fitC (.sl true csP) x ∧ fitC (.i .i64) y ∧ fitC .b z ∧ True)
    cases x <;> first | exact h1.elim | skip
    cases y <;> first | exact h2.elim | skip
    cases z <;> first | exact h3.elim | skip
    obtain ⟨rfl, _⟩ := h2
    exact ⟨_, _, _, rfl, h1⟩
  | .st [], h => exact (show False from h).elim
  | .st [_], h => exact (show _ ∧ False from h).2.elim
  | .st [_, _], h => exact (show _ ∧ _ ∧ False from h).2.2.elim
  | .st (_ :: _ :: _ :: _ :: _), h => exact (show _ ∧ _ ∧ _ ∧ False from h).2.2.2.elim

section
variable {lf : Nat} (hlf : 2097152 ≤ lf)

theorem neg_tell {r : Int} (h : 0 ≤ r) : decide (asI (nth [T.i .i64 r] 0) < 0) = false := by simp [nth, asI]; omega

theorem sz_bytes : SZ (Cc lf) 1 81 (fitC (.sl false [.i .u8])) := sz_flat fun d l x => f81_eq (Cc lf d) lf l x
theorem sz_page : SZ (Cc lf) 2 78 (fitE true csP) := by
  intro t ht x h0 h1
  obtain ⟨b, l, rfl, hl⟩ := fitP ht
  have hcall : ∀ d, Cc lf (d + 1) 78 [.st [.b b, .sl l], .i .i64 x] = f78_t (Cc lf d) lf b l x := fun d => f78_eq (Cc lf d) lf b l x
  rcases sz_bytes (lf := lf) _ hl x h0 h1 with h | ⟨r, h, h2, h3, h4⟩
  · exact .inl (says_of fun d hd => by rw [hcall]; unfold f78_t; rw [h d hd]; rfl)
  · exact .inr ⟨r, says_of fun d hd => by rw [hcall]; unfold f78_t; rw [h d hd]; simp only [Option.bind_some, neg_tell h2, cond_false]; rfl, h2, h3, trivial, h4, trivial⟩
include hlf in
theorem sz_pages : SZ (Cc lf) 3 75 (fitC (.sl true csP)) :=
  sz_slice hlf sz_page (F := fun c l n x i => f75_0 c lf l n x i) (G := fun c l i x => c 78 [T.st [T.b (asB (T.cell (l.getD i.toNat T.u) 0)), T.sl (asL (T.cell (l.getD i.toNat T.u) 1))], T.i .i64 x])
    (fun d l x => f75_eq (Cc lf d) lf l x) (fun c l n x i => rfl) (fun c l j x h hf => by
      obtain ⟨b, q, e, _⟩ := fitP hf
      simp only [getD_nat h, e]
      rfl)
include hlf in
theorem sz_block : SZ (Cc lf) 4 69 (fitE true csB) := by
  intro t ht x h0 h1
  obtain ⟨l, n, b, rfl, hl⟩ := fitB ht
  have hcall : ∀ d, Cc lf (d + 1) 69 [.st [.sl l, .i .i64 n, .b b], .i .i64 x] = f69_t (Cc lf d) lf l n b x := fun d => f69_eq (Cc lf d) lf l n b x
  rcases sz_pages hlf _ hl x h0 h1 with h | ⟨r, h, h2, h3, h4⟩
  · exact .inl (says_of fun d hd => by rw [hcall]; unfold f69_t; rw [h d hd]; rfl)
  · exact .inr ⟨r, says_of fun d hd => by rw [hcall]; unfold f69_t; rw [h d hd]; simp only [Option.bind_some, neg_tell h2, cond_false]; rfl, h2, h3, h4, trivial, trivial, trivial⟩
include hlf in
theorem sz_blocks : SZ (Cc lf) 5 52 (fitC (.sl true csB)) :=
  sz_slice hlf (sz_block hlf) (F := fun c l n x i => f52_0 c lf l n x i) (G := fun c l i x => c 69 [T.st [T.sl (asL (T.cell (l.getD i.toNat T.u) 0)), T.i .i64 (asI (T.cell (l.getD i.toNat T.u) 1)), T.b (asB (T.cell (l.getD i.toNat T.u) 2))], T.i .i64 x])
    (fun d l x => f52_eq (Cc lf d) lf l x) (fun c l n x i => rfl) (fun c l j x h hf => by
      obtain ⟨q, n, b, e, _⟩ := fitB hf
      simp only [getD_nat h, e]
      rfl)

theorem asI_i {k : IntKind} {n : Int} : asI (.i k n) = n := rfl
include hlf in
theorem to_bytes : TO (Cc lf) 1 36 (fitC (.sl false [.i .u8])) :=
  to_slice hlf (k := 0) (m := false) (F := fun c l n i out => f36_0 c lf l n i out) (G := fun _ _ _ => some []) (V := fun l i _ => T.i .u8 (asI (l.getD i.toNat T.u))) (fun d l => f36_eq (Cc lf d) lf l) (fun c l n i out => rfl) (fun d l j h _ hf _ => by
    refine ⟨[], rfl, ?_⟩
    simp only [getD_nat h]
    have hf : fitC (.i .u8) l[j] := hf
    cases e : l[j] <;> rw [e] at hf <;> first | exact hf.elim | skip
    obtain ⟨rfl, _⟩ := hf
    rfl)
include hlf in
theorem to_page : TO (Cc lf) 2 79 (fitE true csP) := by
  intro t ht hsm
  obtain ⟨b, l, rfl, hl⟩ := fitP ht
  have hcall : ∀ d, Cc lf (d + 1) 79 [.st [.b b, .sl l]] = f79_t (Cc lf d) lf b l := fun d => f79_eq (Cc lf d) lf b l
  exact says_of fun d hd => by rw [hcall]; unfold f79_t; rw [to_bytes hlf _ hl hsm.2.1 d hd]; rfl
include hlf in
theorem to_pages : TO (Cc lf) 3 76 (fitC (.sl true csP)) :=
  to_slice hlf (k := 2) (F := fun c l n i out => f76_0 c lf l n i out) (G := fun c l i => c 79 [T.st [T.b (asB (T.cell (l.getD i.toNat T.u) 0)), T.sl (asL (T.cell (l.getD i.toNat T.u) 1))]])
    (V := fun _ _ r => T.st [T.b (asB (T.cell (nth r 0) 0)), T.sl (asL (T.cell (nth r 0) 1))]) (fun d l => f76_eq (Cc lf d) lf l) (fun c l n i out => rfl) (fun d l j h hd hf hsm => by
      have hto := to_page hlf _ hf hsm d hd
      obtain ⟨b, q, e, _⟩ := fitP hf
      rw [e] at hto
      simp only [getD_nat h, e]
      exact ⟨_, hto, rfl⟩)
include hlf in
theorem to_block : TO (Cc lf) 4 70 (fitE true csB) := by
  intro t ht hsm
  obtain ⟨l, n, b, rfl, hl⟩ := fitB ht
  have hcall : ∀ d, Cc lf (d + 1) 70 [.st [.sl l, .i .i64 n, .b b]] = f70_t (Cc lf d) lf l n b := fun d => f70_eq (Cc lf d) lf l n b
  exact says_of fun d hd => by rw [hcall]; unfold f70_t; rw [to_pages hlf _ hl hsm.1 d hd]; rfl
include hlf in
theorem to_blocks : TO (Cc lf) 5 53 (fitC (.sl true csB)) :=
  to_slice hlf (k := 4) (F := fun c l n i out => f53_0 c lf l n i out) (G := fun c l i => c 70 [T.st [T.sl (asL (T.cell (l.getD i.toNat T.u) 0)), T.i .i64 (asI (T.cell (l.getD i.toNat T.u) 1)), T.b (asB (T.cell (l.getD i.toNat T.u) 2))]])
    (V := fun _ _ r => T.st [T.sl (asL (T.cell (nth r 0) 0)), T.i .i64 (asI (T.cell (nth r 0) 1)), T.b (asB (T.cell (nth r 0) 2))]) (fun d l => f53_eq (Cc lf d) lf l) (fun c l n i out => rfl) (fun d l j h hd hf hsm => by
      have hto := to_block hlf _ hf hsm d hd
      obtain ⟨q, n, b, e, _⟩ := fitB hf
      rw [e] at hto
      simp only [getD_nat h, e]
      exact ⟨_, hto, rfl⟩)

include hlf in
theorem eq_bytes : EQ (Cc lf) 1 29 (fitC (.sl false [.i .u8])) :=
  eq_flat hlf (F := fun c l l' n i => f29_0 c lf l l' n i) (N := fun l l' i => (asI (l.getD i.toNat T.u)) != (asI (l'.getD i.toNat T.u))) (fun d l l' => f29_eq (Cc lf d) lf l l') (fun c l l' n i => rfl) (fun l i => by simp)
include hlf in
theorem eq_page : EQ (Cc lf) 2 80 (fitE true csP) := by
  intro t ht hsm
  obtain ⟨b, l, rfl, hl⟩ := fitP ht
  have hcall : ∀ d, Cc lf (d + 1) 80 [.st [.b b, .sl l], .st [.b b, .sl l]] = f80_t (Cc lf d) lf b l b l := fun d => f80_eq (Cc lf d) lf b l b l
  exact says_of fun d hd => by rw [hcall]; unfold f80_t; rw [eq_bytes hlf _ hl hsm.2.1 d hd]; cases b <;> rfl
include hlf in
theorem eq_pages : EQ (Cc lf) 3 77 (fitC (.sl true csP)) :=
  eq_slice hlf (eq_page hlf) (F := fun c l l' n i => f77_0 c lf l l' n i) (G := fun c l l' i => c 80 [T.st [T.b (asB (T.cell (l.getD i.toNat T.u) 0)), T.sl (asL (T.cell (l.getD i.toNat T.u) 1))], T.st [T.b (asB (T.cell (l'.getD i.toNat T.u) 0)), T.sl (asL (T.cell (l'.getD i.toNat T.u) 1))]])
    (fun d l l' => f77_eq (Cc lf d) lf l l') (fun c l l' n i => rfl) (fun c l j h hf => by
      obtain ⟨b, q, e, _⟩ := fitP hf
      simp only [getD_nat h, e]
      rfl)
include hlf in
theorem eq_block : EQ (Cc lf) 4 71 (fitE true csB) := by
  intro t ht hsm
  obtain ⟨l, n, b, rfl, hl⟩ := fitB ht
  have hcall : ∀ d, Cc lf (d + 1) 71 [.st [.sl l, .i .i64 n, .b b], .st [.sl l, .i .i64 n, .b b]] = f71_t (Cc lf d) lf l n b l n b := fun d => f71_eq (Cc lf d) lf l n b l n b
  exact says_of fun d hd => by
    rw [hcall]
    unfold f71_t
    rw [eq_pages hlf _ hl hsm.1 d hd]
    have hn : (n != n) = false := by simp
    simp only [Option.bind_some, hn, cond_false]
    cases b <;> rfl
include hlf in
theorem eq_blocks : EQ (Cc lf) 5 54 (fitC (.sl true csB)) :=
  eq_slice hlf (eq_block hlf) (F := fun c l l' n i => f54_0 c lf l l' n i) (G := fun c l l' i => c 71 [T.st [T.sl (asL (T.cell (l.getD i.toNat T.u) 0)), T.i .i64 (asI (T.cell (l.getD i.toNat T.u) 1)), T.b (asB (T.cell (l.getD i.toNat T.u) 2))], T.st [T.sl (asL (T.cell (l'.getD i.toNat T.u) 0)), T.i .i64 (asI (T.cell (l'.getD i.toNat T.u) 1)), T.b (asB (T.cell (l'.getD i.toNat T.u) 2))]])
    (fun d l l' => f54_eq (Cc lf d) lf l l') (fun c l l' n i => rfl) (fun c l j h hf => by
      obtain ⟨q, n, b, e, _⟩ := fitB hf
      simp only [getD_nat h, e]
      rfl)

end

end Go.Proofs.Ytejeinhdlcgkgaa.T
