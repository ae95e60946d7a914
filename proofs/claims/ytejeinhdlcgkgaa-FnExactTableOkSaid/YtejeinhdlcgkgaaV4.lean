/- A part of an evaluator of loaded Go code over values, with its soundness; no condition of its own. -/
import Derived.Test.YtejeinhdlcgkgaaV3
set_option linter.unusedVariables false
set_option linter.constructorNameAsVariable false
set_option linter.unusedSimpArgs false
set_option linter.unnecessarySimpa false
namespace Go.Proofs.YtejeinhdlcgkgaaV

/-- Deeper. -/
def OLe (c c' : Orc) : Prop := ∀ f ts r, c f ts = some r → c' f ts = some r

/-! ### how much there is -/
mutual
def tl : T → Nat
  | .s x => x.size
  | .sl l => l.length + tls l
  | .st l => tls l
  | _ => 0
def tls : List T → Nat
  | [] => 0
  | x :: l => tl x + tls l
end
theorem tl_mem {x : T} : ∀ {l : List T}, x ∈ l → tl x ≤ tls l
  | [], h => by cases h
  | y :: l, h => by
    simp only [tls]
    rcases List.mem_cons.1 h with rfl | h
    · omega
    · have := tl_mem h; omega
theorem tls_drop {l : List T} {j : Nat} (h : j < l.length) : tls (l.drop j) = tl l[j] + tls (l.drop (j + 1)) := by
  rw [List.drop_eq_getElem_cons h]
  rfl
theorem tls_app : ∀ {l l' : List T}, tls (l ++ l') = tls l + tls l'
  | [], l' => by simp [tls]
  | x :: l, l' => by simp only [List.cons_append, tls, tls_app (l := l)]; omega

theorem nth0 (x : T) (l : List T) : nth (x :: l) 0 = x := rfl
theorem nthS (x : T) (l : List T) (i : Nat) : nth (x :: l) (i + 1) = nth l i := rfl
theorem asI_i (k : IntKind) (n : Int) : asI (.i k n) = n := rfl
theorem asB_b (x : Bool) : asB (.b x) = x := rfl
theorem asS_s (x : ByteArray) : asS (.s x) = x := rfl
theorem asL_l (x : List T) : asL (.sl x) = x := rfl
theorem cell0 (x : T) (l : List T) : T.cell (.st (x :: l)) 0 = x := rfl
theorem cellS (x : T) (l : List T) (i : Nat) : T.cell (.st (x :: l)) (i + 1) = T.cell (.st l) i := rfl
theorem neg_f {r : Int} (h : 0 ≤ r) : decide (r < 0) = false := by simp; omega
theorem dcond_t {p : Prop} {i : Decidable p} (h : p) {α : Type} (a b : α) : (bif decide p then a else b) = a := by rw [decide_eq_true h]; rfl
theorem dcond_f {p : Prop} {i : Decidable p} (h : ¬ p) {α : Type} (a b : α) : (bif decide p then a else b) = b := by rw [decide_eq_false h]; rfl
theorem ne_f (r : Int) : (r != r) = false := by simp

section
variable {c c' : Orc} {lf : Nat}

/-- What a size function says. -/
def SZ1 (c : Orc) (f : Nat) (Fit : T → Prop) : Prop := ∀ t, Fit t → ∀ x : Int, 0 ≤ x → x ≤ 1048576 → c f [t, .i .i64 x] = some [.i .i64 (-1)] ∨ ∃ r : Int, c f [t, .i .i64 x] = some [.i .i64 r] ∧ 0 ≤ r ∧ (tl t : Int) + r ≤ x
/-- What a copying function says. -/
def TO1 (c : Orc) (f : Nat) (Fit : T → Prop) : Prop := ∀ t, Fit t → tl t ≤ 16777216 → c f [t] = some [t]
/-- What an equality says of the same. -/
def EQ1 (c : Orc) (f : Nat) (Fit : T → Prop) : Prop := ∀ t, Fit t → tl t ≤ 16777216 → c f [t, t] = some [.b true]
theorem SZ1.le {f : Nat} {Fit : T → Prop} (h : OLe c c') (H : SZ1 c f Fit) : SZ1 c' f Fit := fun t ht x h0 h1 => (H t ht x h0 h1).imp (h _ _ _) fun ⟨r, g1, g2⟩ => ⟨r, h _ _ _ g1, g2⟩
theorem TO1.le {f : Nat} {Fit : T → Prop} (h : OLe c c') (H : TO1 c f Fit) : TO1 c' f Fit := fun t ht hs => h _ _ _ (H t ht hs)
theorem EQ1.le {f : Nat} {Fit : T → Prop} (h : OLe c c') (H : EQ1 c f Fit) : EQ1 c' f Fit := fun t ht hs => h _ _ _ (H t ht hs)

theorem sub_in {x : Int} {n : Nat} (h0 : 0 ≤ x) (h1 : x ≤ 1048576) (hn : n ≤ maxLen) : IntKind.wrap .i64 (x - (n : Int)) = x - (n : Int) := by
  have : maxLen = 9223372036854775807 := by decide
  exact wrap_in (by omega) (by omega)

/-- No text and no slice is in it. -/
def noTl : List CT → Bool
  | [] => true
  | .b :: cs => noTl cs
  | .i _ :: cs => noTl cs
  | _ => false
theorem tls_fit : ∀ {cs : List CT} {xs : List T}, noTl cs = true → fitCs cs xs → tls xs = 0
  | [], [], _, _ => rfl
  | [], _ :: _, _, h => h.elim
  | _ :: _, [], _, h => by simp [fitCs] at h
  | c :: cs, x :: xs, hn, h => by
    have hx : tl x = 0 ∧ noTl cs = true := by
      cases c with
      | b => refine ⟨?_, hn⟩; cases x <;> first | rfl | exact h.1.elim
      | i k => refine ⟨?_, hn⟩; cases x <;> first | rfl | exact h.1.elim
      | s => cases hn
      | sl _ _ => cases hn
      | o => cases hn
    simp only [tls, hx.1, tls_fit hx.2 h.2]
theorem tl_fit {m : Bool} {cs : List CT} {x : T} (hn : noTl cs = true) (h : fitE m cs x) : tl x = 0 := by
  cases m with
  | true =>
    cases x <;> first | exact h.elim | skip
    exact tls_fit hn h
  | false =>
    match cs, hn, h with
    | [c], hn, h => have := tls_fit (cs := [c]) (xs := [x]) hn ⟨h, trivial⟩; simpa [tls] using this
    | [], _, h => simp [fitE] at h
    | _ :: _ :: _, _, h => simp [fitE] at h
theorem tls_zero {l : List T} (h : ∀ x ∈ l, tl x = 0) : tls l = 0 := by
  induction l with
  | nil => rfl
  | cons x l ih => simp only [tls, h x (List.mem_cons_self ..), ih fun y hy => h y (List.mem_cons_of_mem _ hy)]

/-- A slice of what has no size of its own: its size. -/
theorem sz_flat1 {m : Bool} {cs : List CT} (hn : noTl cs = true) {f : Nat} (hcall : ∀ l x, c f [.sl l, .i .i64 x] = bif decide (IntKind.wrap .i64 (x - (l.length : Int)) < 0) then some [T.i .i64 (-1)] else some [T.i .i64 (IntKind.wrap .i64 (x - (l.length : Int)))]) : SZ1 c f (fitC (.sl m cs)) := by
  intro t ht x h0 h1
  cases t <;> first | exact ht.elim | skip
  rename_i l
  have hs := sub_in h0 h1 ht.1
  have hz : tls l = 0 := tls_zero fun y hy => tl_fit hn (fitL_all.1 ht.2 y hy)
  by_cases h : x - (l.length : Int) < 0
  · left
    rw [hcall, hs]
    simp [h]
  · right
    refine ⟨x - (l.length : Int), ?_, by omega, ?_⟩
    · rw [hcall, hs]
      simp [h]
    · simp only [tl, hz]
      omega

/-- A slice of structs: its size. -/
theorem sz_slice1 (hlf : 33554432 ≤ lf) {m : Bool} {cs : List CT} {f g : Nat} {F : List T → Nat → Int → Int → Option (List T)} {G : List T → Int → Int → Option (List T)} (hg : SZ1 c g (fitE m cs))
    (hcall : ∀ l x, c' f [.sl l, .i .i64 x] = bif decide (IntKind.wrap .i64 (x - (l.length : Int)) < 0) then some [T.i .i64 (-1)] else (F l lf (IntKind.wrap .i64 (x - (l.length : Int))) 0).bind fun r => bif asI (nth r 0) == 0 then some [T.i .i64 (asI (nth r 1))] else some [T.i .i64 (asI (nth r 1))])
    (hF : ∀ l n x i, F l (n + 1) x i = bif decide (i < (l.length : Int)) then bif inR i l.length then (G l i x).bind fun r => bif decide (asI (nth r 0) < 0) then some [T.i .i64 0, T.i .i64 (-1)] else F l n (asI (nth r 0)) (IntKind.wrap .i64 (i + 1)) else none else some [T.i .i64 1, T.i .i64 x])
    (hG : ∀ l (j : Nat) x (h : j < l.length), fitE m cs l[j] → G l j x = c g [l[j], .i .i64 x]) : SZ1 c' f (fitC (.sl m cs)) := by
  intro t ht x h0 h1
  cases t <;> first | exact ht.elim | skip
  rename_i l
  have hs := sub_in h0 h1 ht.1
  have hfit := fitL_all.1 ht.2
  by_cases h : x - (l.length : Int) < 0
  · left
    rw [hcall, hs]
    simp [h]
  · have hl : l.length ≤ 1048576 := by omega
    have hd0 : decide (x - (l.length : Int) < 0) = false := by simp; omega
    have all : ∀ (m j : Nat) (n : Nat) (y : Int), j + m = l.length → m < n → 0 ≤ y → y ≤ 1048576 → F l n y j = some [T.i .i64 0, T.i .i64 (-1)] ∨ ∃ r, F l n y j = some [T.i .i64 1, T.i .i64 r] ∧ 0 ≤ r ∧ (tls (l.drop j) : Int) + r ≤ y := by
      intro m
      induction m with
      | zero =>
        intro j n y hj hn g0 g1
        obtain ⟨n, rfl⟩ : ∃ m, n = m + 1 := ⟨n - 1, by omega⟩
        right
        have hb : decide ((j : Int) < (l.length : Int)) = false := by simp; omega
        refine ⟨y, by rw [hF, hb]; rfl, g0, ?_⟩
        rw [List.drop_eq_nil_of_le (by omega)]
        simp [tls]
      | succ m ih =>
        intro j n y hj hn g0 g1
        obtain ⟨n, rfl⟩ : ∃ m, n = m + 1 := ⟨n - 1, by omega⟩
        have hjl : j < l.length := by omega
        have hb : decide ((j : Int) < (l.length : Int)) = true := by simp; omega
        have hf := hfit l[j] (List.getElem_mem hjl)
        rcases hg _ hf y g0 g1 with q | ⟨r, q, q2, q3⟩
        · left
          rw [hF, hb, inR_nat hjl, hG _ _ _ hjl hf, q]
          rfl
        · have hr : decide (asI (nth [T.i .i64 r] 0) < 0) = false := by simp [nth, asI]; omega
          have step : F l (n + 1) y j = F l n r ((j + 1 : Nat) : Int) := by
            rw [hF, hb, inR_nat hjl, hG _ _ _ hjl hf, q]
            simp only [cond_true, Option.bind_some, hr, cond_false]
            rw [wrap_next hjl (by omega)]
            rfl
          rcases ih (j + 1) n r (by omega) (by omega) q2 (by omega) with p | ⟨r', p, p2, p3⟩
          · exact .inl (by rw [step]; exact p)
          · refine .inr ⟨r', by rw [step]; exact p, p2, ?_⟩
            rw [tls_drop hjl]
            omega
    rcases all l.length 0 lf (x - (l.length : Int)) (by omega) (by omega) (by omega) (by omega) with p | ⟨r, p, p2, p3⟩
    · left
      rw [hcall, hs, hd0]
      rw [show ((0 : Nat) : Int) = 0 from rfl] at p
      rw [p]
      rfl
    · right
      refine ⟨r, ?_, p2, ?_⟩
      · rw [hcall, hs, hd0]
        rw [show ((0 : Nat) : Int) = 0 from rfl] at p
        rw [p]
        rfl
      · simp only [tl, List.drop_zero] at p3 ⊢
        omega

theorem len_ok' {n : Nat} (h : n ≤ 16777216) : (decide (0 ≤ (n : Int)) && decide ((n : Int) ≤ (LIM : Int)) && decide ((n : Int) = (n : Int))) = true := by
  unfold LIM
  simp
  omega

/-- A copy, element by element. -/
theorem to_loop1 {F : Nat → Int → List T → Option (List T)} {G : Int → Option (List T)} {V : Int → List T → T} {l : List T} (hlen : l.length ≤ 16777216)
    (hF : ∀ n i out, F (n + 1) i out = bif decide (i < (l.length : Int)) then bif inR i l.length then (G i).bind fun r => bif inR i out.length then F n (IntKind.wrap .i64 (i + 1)) (out.set i.toNat (V i r)) else none else none else some [T.i .i64 0, T.sl out])
    (hG : ∀ (j : Nat) (h : j < l.length), ∃ r, G j = some r ∧ V j r = l[j]) :
    ∀ (k j n : Nat) (out : List T), j + k = l.length → k < n → out.length = l.length → (∀ i, i < j → out[i]? = l[i]?) → F n j out = some [T.i .i64 0, T.sl l]
  | 0, j, n, out, hj, hn, ho, he => by
    obtain ⟨n, rfl⟩ : ∃ m, n = m + 1 := ⟨n - 1, by omega⟩
    have hb : decide ((j : Int) < (l.length : Int)) = false := by simp; omega
    rw [hF, hb]
    have : out = l := List.ext_getElem? fun i => by
      by_cases hi : i < j
      · exact he i hi
      · rw [List.getElem?_eq_none (by omega), List.getElem?_eq_none (by omega)]
    rw [this]
    rfl
  | k + 1, j, n, out, hj, hn, ho, he => by
    obtain ⟨n, rfl⟩ : ∃ m, n = m + 1 := ⟨n - 1, by omega⟩
    have hjl : j < l.length := by omega
    have hb : decide ((j : Int) < (l.length : Int)) = true := by simp; omega
    obtain ⟨r, h1, h2⟩ := hG j hjl
    rw [hF, hb, inR_nat hjl, h1]
    simp only [cond_true, Option.bind_some]
    rw [inR_nat (show j < out.length by omega), cond_true, wrap_next hjl (by omega), h2]
    refine to_loop1 hlen hF hG k (j + 1) n _ (by omega) (by omega) (by simpa using ho) fun i hi => ?_
    by_cases e : i = j
    · subst e
      rw [show ((i : Int)).toNat = i from rfl, List.getElem?_set_self (by omega), List.getElem?_eq_getElem hjl]
    · rw [show ((j : Int)).toNat = j from rfl, List.getElem?_set_ne (Ne.symm e)]
      exact he i (by omega)
theorem to_slice1 (hlf : 33554432 ≤ lf) {m : Bool} {cs : List CT} {f : Nat} {z : T} {F : List T → Nat → Int → List T → Option (List T)} {G : List T → Int → Option (List T)} {V : List T → Int → List T → T}
    (hcall : ∀ l, c' f [.sl l] = bif decide (0 ≤ (l.length : Int)) && decide ((l.length : Int) ≤ (LIM : Int)) && decide ((l.length : Int) = (l.length : Int)) then (F l lf 0 (List.replicate (l.length : Int).toNat z)).bind fun r => some [T.sl (asL (nth r 1))] else none)
    (hF : ∀ l n i out, F l (n + 1) i out = bif decide (i < (l.length : Int)) then bif inR i l.length then (G l i).bind fun r => bif inR i out.length then F l n (IntKind.wrap .i64 (i + 1)) (out.set i.toNat (V l i r)) else none else none else some [T.i .i64 0, T.sl out])
    (hG : ∀ l (j : Nat) (h : j < l.length), fitE m cs l[j] → tl l[j] ≤ 16777216 → ∃ r, G l j = some r ∧ V l j r = l[j]) : TO1 c' f (fitC (.sl m cs)) := by
  intro t ht hsm
  cases t <;> first | exact ht.elim | skip
  rename_i l
  have hfit := fitL_all.1 ht.2
  simp only [tl] at hsm
  rw [hcall, len_ok' (by omega), cond_true]
  have := to_loop1 (F := F l) (G := G l) (V := V l) (l := l) (by omega) (fun n i out => hF l n i out) (fun j h => hG l j h (hfit _ (List.getElem_mem h)) (by have := tl_mem (List.getElem_mem h); omega)) l.length 0 lf (List.replicate (l.length : Int).toNat z) (by omega) (by omega) (by simp) (fun i hi => by omega)
  rw [show ((0 : Nat) : Int) = 0 from rfl] at this
  rw [this]
  rfl

/-- Is all the same? -/
theorem eq_loop1 {F : Nat → Int → Option (List T)} {G : Int → Option (List T)} {len : Nat} (hlen : len ≤ 16777216)
    (hF : ∀ n i, F (n + 1) i = bif decide (i < (len : Int)) then bif inR i len then bif inR i len then (G i).bind fun r => bif !(asB (nth r 0)) then some [T.i .i64 0, T.b false] else F n (IntKind.wrap .i64 (i + 1)) else none else none else some [T.i .i64 1])
    (hG : ∀ j : Nat, j < len → G j = some [T.b true]) : ∀ (k j n : Nat), j + k = len → k < n → F n j = some [T.i .i64 1]
  | 0, j, n, hj, hn => by
    obtain ⟨n, rfl⟩ : ∃ m, n = m + 1 := ⟨n - 1, by omega⟩
    have hb : decide ((j : Int) < (len : Int)) = false := by simp; omega
    rw [hF, hb]
    rfl
  | k + 1, j, n, hj, hn => by
    obtain ⟨n, rfl⟩ : ∃ m, n = m + 1 := ⟨n - 1, by omega⟩
    have hb : decide ((j : Int) < (len : Int)) = true := by simp; omega
    rw [hF, hb, inR_nat (by omega), hG j (by omega)]
    simp only [cond_true, Option.bind_some]
    rw [wrap_next (show j < len by omega) (by omega)]
    exact eq_loop1 hlen hF hG k (j + 1) n (by omega) (by omega)
theorem eq_slice1 (hlf : 33554432 ≤ lf) {m : Bool} {cs : List CT} {f : Nat} {F : List T → List T → Nat → Int → Option (List T)} {G : List T → List T → Int → Option (List T)}
    (hcall : ∀ l l', c' f [.sl l, .sl l'] = bif (l.length : Int) != (l'.length : Int) then some [T.b false] else (F l l' lf 0).bind fun r => bif asI (nth r 0) == 0 then some [T.b (asB (nth r 1))] else some [T.b true])
    (hF : ∀ l l' n i, F l l' (n + 1) i = bif decide (i < (l.length : Int)) then bif inR i l.length then bif inR i l'.length then (G l l' i).bind fun r => bif !(asB (nth r 0)) then some [T.i .i64 0, T.b false] else F l l' n (IntKind.wrap .i64 (i + 1)) else none else none else some [T.i .i64 1])
    (hG : ∀ l (j : Nat) (h : j < l.length), fitE m cs l[j] → tl l[j] ≤ 16777216 → G l l j = some [T.b true]) : EQ1 c' f (fitC (.sl m cs)) := by
  intro t ht hsm
  cases t <;> first | exact ht.elim | skip
  rename_i l
  have hfit := fitL_all.1 ht.2
  simp only [tl] at hsm
  rw [hcall, ne_f, cond_false]
  have := eq_loop1 (F := F l l) (G := G l l) (len := l.length) (by omega) (fun n i => hF l l n i) (fun j h => hG l j h (hfit _ (List.getElem_mem h)) (by have := tl_mem (List.getElem_mem h); omega)) l.length 0 lf (by omega) (by omega)
  rw [show ((0 : Nat) : Int) = 0 from rfl] at this
  rw [this]
  rfl

/-- Marks are set, and are found again. -/
def MH1 (c : Orc) (mk hd : Nat) (m : Bool) (cs : List CT) : Prop := ∀ l, fitC (.sl m cs) (.sl l) → tl (.sl l) ≤ 16777216 → ∀ k : Int, 0 ≤ k → k ≤ 1152921504606846976 → ∃ (k' : Int) (l' : List T), c mk [.sl l, .i .i64 k] = some [.i .i64 k', .sl l'] ∧ c hd [.sl l', .i .i64 k] = some [.i .i64 k'] ∧ k ≤ k' ∧ k' ≤ k + 64 * tl (.sl l)
theorem MH1.le {mk hd : Nat} {m : Bool} {cs : List CT} (h : OLe c c') (H : MH1 c mk hd m cs) : MH1 c' mk hd m cs := fun l hl hs k h0 h1 => by
  obtain ⟨k', l', g1, g2, g3⟩ := H l hl hs k h0 h1
  exact ⟨k', l', h _ _ _ g1, h _ _ _ g2, g3⟩

theorem getD_set {l : List T} {j : Nat} (h : j < l.length) (v : T) : (l.set j v).getD j .u = v := by
  rw [List.getD_eq_getElem?_getD, List.getElem?_set_self h]
  rfl
theorem getD_at {l : List T} {j : Nat} {v : T} (h : l[j]? = some v) : l.getD j .u = v := by
  rw [List.getD_eq_getElem?_getD, h]
  rfl

/-- The two loops. -/
theorem mh_loop {M : Nat → Int → Int → List T → Option (List T)} {H : List T → Nat → Int → Int → Option (List T)} {l0 : List T} (hlen : l0.length ≤ 16777216)
    (hM0 : ∀ n k (l : List T), M (n + 1) k (l.length : Int) l = some [T.i .i64 0, T.i .i64 k, T.sl l]) (hH0 : ∀ l n k, H l (n + 1) k (l.length : Int) = some [T.i .i64 1, T.i .i64 k])
    (hS : ∀ (j : Nat) (h : j < l0.length) (k : Int), 0 ≤ k → k ≤ 1152921504606846976 + 64 * 16777216 → ∃ (k' : Int) (e : T), k ≤ k' ∧ k' ≤ k + 64 * (1 + tl l0[j]) ∧ (∀ n (l : List T), l.length = l0.length → l[j]? = some l0[j] → M (n + 1) k j l = M n k' ((j + 1 : Nat) : Int) (l.set j e)) ∧
      (∀ n (l : List T), l.length = l0.length → l[j]? = some e → H l (n + 1) k j = H l n k' ((j + 1 : Nat) : Int))) (htl : l0.length + tls l0 ≤ 16777216) :
    ∀ (d j : Nat) (l : List T) (k : Int), j + d = l0.length → l.length = l0.length → (∀ i, j ≤ i → l[i]? = l0[i]?) → 0 ≤ k → k + 64 * ((d : Int) + tls (l0.drop j)) ≤ 1152921504606846976 + 64 * 16777216 →
      ∃ (k' : Int) (l' : List T), (∀ n, d < n → M n k j l = some [T.i .i64 0, T.i .i64 k', T.sl l']) ∧ (∀ n, d < n → H l' n k j = some [T.i .i64 1, T.i .i64 k']) ∧ l'.length = l0.length ∧ (∀ i, i < j → l'[i]? = l[i]?) ∧ k ≤ k' ∧ k' ≤ k + 64 * ((d : Int) + tls (l0.drop j))
  | 0, j, l, k, hj, hl, he, h0, h1 => by
    have e : (j : Int) = (l.length : Int) := by omega
    refine ⟨k, l, fun n hn => ?_, fun n hn => ?_, hl, fun _ _ => rfl, Int.le_refl _, by omega⟩
    · obtain ⟨n, rfl⟩ : ∃ m, n = m + 1 := ⟨n - 1, by omega⟩
      rw [e, hM0]
    · obtain ⟨n, rfl⟩ : ∃ m, n = m + 1 := ⟨n - 1, by omega⟩
      rw [e, hH0]
  | d + 1, j, l, k, hj, hl, he, h0, h1 => by
    have hjl : j < l0.length := by omega
    rw [tls_drop hjl] at h1 ⊢
    obtain ⟨k1, e, g1, g2, g3, g4⟩ := hS j hjl k h0 (by omega)
    obtain ⟨k', l', p1, p2, p3, p4, p5, p6⟩ := mh_loop hlen hM0 hH0 hS htl d (j + 1) (l.set j e) k1 (by omega) (by simpa using hl) (fun i hi => by
      rw [List.getElem?_set_ne (by omega)]
      exact he i (by omega)) (by omega) (by omega)
    have hlj : l[j]? = some l0[j] := by rw [he j (Nat.le_refl _), List.getElem?_eq_getElem hjl]
    refine ⟨k', l', fun n hn => ?_, fun n hn => ?_, p3, fun i hi => ?_, by omega, by omega⟩
    · obtain ⟨n, rfl⟩ : ∃ m, n = m + 1 := ⟨n - 1, by omega⟩
      rw [g3 n l hl hlj]
      exact p1 n (by omega)
    · obtain ⟨n, rfl⟩ : ∃ m, n = m + 1 := ⟨n - 1, by omega⟩
      rw [g4 n l' p3 (by rw [p4 j (by omega), List.getElem?_set_self (by omega)])]
      exact p2 n (by omega)
    · rw [p4 i (by omega), List.getElem?_set_ne (by omega)]

theorem mh_slice1 (hlf : 33554432 ≤ lf) {m : Bool} {cs : List CT} {mk hd : Nat} {M : Nat → Int → Int → List T → Option (List T)} {H : List T → Nat → Int → Int → Option (List T)}
    (hmk : ∀ l k, c' mk [.sl l, .i .i64 k] = (M lf k 0 l).bind fun r => some [T.i .i64 (asI (nth r 1)), T.sl (asL (nth r 2))])
    (hhd : ∀ l k, c' hd [.sl l, .i .i64 k] = (H l lf k 0).bind fun r => bif asI (nth r 0) == 0 then some [T.i .i64 (asI (nth r 1))] else some [T.i .i64 (asI (nth r 1))])
    (hM0 : ∀ n k (l : List T), M (n + 1) k (l.length : Int) l = some [T.i .i64 0, T.i .i64 k, T.sl l]) (hH0 : ∀ l n k, H l (n + 1) k (l.length : Int) = some [T.i .i64 1, T.i .i64 k])
    (hS : ∀ (e0 : T) (j len : Nat), fitE m cs e0 → tl e0 ≤ 16777216 → j < len → len ≤ 16777216 → ∀ (k : Int), 0 ≤ k → k ≤ 1152921504606846976 + 64 * 16777216 → ∃ (k' : Int) (e : T), k ≤ k' ∧ k' ≤ k + 64 * (1 + tl e0) ∧ (∀ n (l : List T), l.length = len → l[j]? = some e0 → M (n + 1) k j l = M n k' ((j + 1 : Nat) : Int) (l.set j e)) ∧
      (∀ n (l : List T), l.length = len → l[j]? = some e → H l (n + 1) k j = H l n k' ((j + 1 : Nat) : Int))) : MH1 c' mk hd m cs := by
  intro l hl hs k h0 h1
  have hfit := fitL_all.1 hl.2
  simp only [tl] at hs
  obtain ⟨k', l', p1, p2, p3, p4, p5, p6⟩ := mh_loop (M := M) (H := H) (l0 := l) (by omega) hM0 hH0 (fun j h k q0 q1 => hS l[j] j l.length (hfit _ (List.getElem_mem h)) (by have := tl_mem (List.getElem_mem h); omega) h (by omega) k q0 q1) hs l.length 0 l k (by omega) rfl (fun _ _ => rfl) h0 (by rw [List.drop_zero]; omega)
  rw [List.drop_zero] at p6
  refine ⟨k', l', ?_, ?_, p5, by simp only [tl]; omega⟩
  · rw [hmk]
    have := p1 lf (by omega)
    rw [show ((0 : Nat) : Int) = 0 from rfl] at this
    rw [this]
    rfl
  · rw [hhd]
    have := p2 lf (by omega)
    rw [show ((0 : Nat) : Int) = 0 from rfl] at this
    rw [this]
    rfl

/-- Two loops side by side. -/
theorem sim {S S' : Type} {F : Nat → S → Option (List T)} {F' : Nat → S' → Option (List T)} (R : S → S' → Prop) (Q : List T → List T → Prop) (m : S → Nat)
    (step : ∀ n n' s s', R s s' → (∃ x x', F (n + 1) s = some x ∧ F' (n' + 1) s' = some x' ∧ Q x x') ∨ (∃ t t', F (n + 1) s = F n t ∧ F' (n' + 1) s' = F' n' t' ∧ R t t' ∧ m t < m s)) :
    ∀ (n n' : Nat) (s : S) (s' : S'), R s s' → m s < n → m s < n' → ∃ x x', F n s = some x ∧ F' n' s' = some x' ∧ Q x x'
  | 0, _, _, _, _, h, _ => by omega
  | _ + 1, 0, _, _, _, _, h => by omega
  | n + 1, n' + 1, s, s', hR, h, h' => by
    rcases step n n' s s' hR with ⟨x, x', h1, h2, h3⟩ | ⟨t, t', h1, h2, h3, h4⟩
    · exact ⟨x, x', h1, h2, h3⟩
    · rw [h1, h2]
      exact sim R Q m step n n' t t' h3 (by omega) (by omega)
/-- A loop by itself. -/
theorem runs {S : Type} {F : Nat → S → Option (List T)} (R : S → Prop) (Q : List T → Prop) (m : S → Nat)
    (step : ∀ n s, R s → (∃ x, F (n + 1) s = some x ∧ Q x) ∨ (∃ t, F (n + 1) s = F n t ∧ R t ∧ m t < m s)) :
    ∀ (n : Nat) (s : S), R s → m s < n → ∃ x, F n s = some x ∧ Q x
  | 0, _, _, h => by omega
  | n + 1, s, hR, h => by
    rcases step n s hR with ⟨x, h1, h2⟩ | ⟨t, h1, h2, h3⟩
    · exact ⟨x, h1, h2⟩
    · rw [h1]
      exact runs R Q m step n t h2 (by omega)

end

end Go.Proofs.YtejeinhdlcgkgaaV
namespace Go.Proofs.YtejeinhdlcgkgaaV
theorem fitCs_cons {c : CT} {cs : List CT} {l : List T} (h : fitCs (c :: cs) l) : ∃ x l', l = x :: l' ∧ fitC c x ∧ fitCs cs l' := by
  cases l with
  | nil => exact h.elim
  | cons x l => exact ⟨x, l, rfl, h.1, h.2⟩
theorem fitCs_nil {l : List T} (h : fitCs [] l) : l = [] := by
  cases l with
  | nil => rfl
  | cons x l => exact h.elim
theorem fitE_st {cs : List CT} {t : T} (h : fitE true cs t) : ∃ l, t = .st l ∧ fitCs cs l := by
  cases t <;> first | exact h.elim | skip
  exact ⟨_, rfl, h⟩
theorem fitC_i {k : IntKind} {t : T} (h : fitC (.i k) t) : ∃ n, t = .i k n ∧ (Lit.int k n).wf = true := by
  cases t <;> first | exact h.elim | skip
  obtain ⟨rfl, h⟩ := h
  exact ⟨_, rfl, h⟩
theorem fitC_b {t : T} (h : fitC .b t) : ∃ b, t = .b b := by
  cases t <;> first | exact h.elim | skip
  exact ⟨_, rfl⟩
theorem fitC_s {t : T} (h : fitC .s t) : ∃ b, t = .s b ∧ b.size ≤ maxLen := by
  cases t <;> first | exact h.elim | skip
  exact ⟨_, rfl, h⟩
theorem fitC_sl {m : Bool} {cs : List CT} {t : T} (h : fitC (.sl m cs) t) : ∃ l, t = .sl l ∧ fitC (.sl m cs) (.sl l) := by
  cases t <;> first | exact h.elim | skip
  exact ⟨_, rfl, h⟩
theorem wrapK {x : Int} (h : -1152921504606846976 * 4 ≤ x ∧ x ≤ 1152921504606846976 * 4) : IntKind.wrap .i64 x = x := wrap_in (by omega) (by omega)

section
variable {c c' : Orc} {lf : Nat}
/-- A slice of numbers, truths or texts: is it the same? -/
theorem eq_flat1 (hlf : 33554432 ≤ lf) {m : Bool} {cs : List CT} {f : Nat} {F : List T → List T → Nat → Int → Option (List T)} {N : List T → List T → Int → Bool}
    (hcall : ∀ l l', c' f [.sl l, .sl l'] = bif (l.length : Int) != (l'.length : Int) then some [T.b false] else (F l l' lf 0).bind fun r => bif asI (nth r 0) == 0 then some [T.b (asB (nth r 1))] else some [T.b true])
    (hF : ∀ l l' n i, F l l' (n + 1) i = bif decide (i < (l.length : Int)) then bif inR i l.length then bif inR i l'.length then bif N l l' i then some [T.i .i64 0, T.b false] else F l l' n (IntKind.wrap .i64 (i + 1)) else none else none else some [T.i .i64 1])
    (hN : ∀ l i, N l l i = false) : EQ1 c' f (fitC (.sl m cs)) := by
  refine eq_slice1 hlf (F := fun l l' n i => F l l' n i) (G := fun l l' i => some [T.b (!N l l' i)]) hcall (fun l l' n i => ?_) (fun l j h _ _ => by rw [hN]; rfl)
  rw [hF]
  simp only [Option.bind_some, nth0, asB_b, Bool.not_not]
/-- Texts are marked. -/
def TX1 (c : Orc) (f : Nat) : Prop := ∀ k : Int, 0 ≤ k → k ≤ 1152921504606846976 * 2 → ∃ x, c f [.i .i64 k] = some [.s x]
theorem TX1.le {f : Nat} (h : OLe c c') (H : TX1 c f) : TX1 c' f := fun k h0 h1 => (H k h0 h1).imp fun _ g => h _ _ _ g
theorem tx_mk (hlf : 33554432 ≤ lf) {f : Nat} {F : Nat → Int → ByteArray → Option (List T)}
    (hcall : ∀ k, c' f [.i .i64 k] = bif iLe k 0 then some [T.s (⟨#[109, 48]⟩ : ByteArray)] else (F lf k (⟨#[]⟩ : ByteArray)).bind fun r => bif nLe ((⟨#[109]⟩ : ByteArray).size + (asS (nth r 1)).size) LIM then some [T.s ((⟨#[109]⟩ : ByteArray) ++ (asS (nth r 1)))] else none)
    (hF : ∀ n k s, F (n + 1) k s = bif iLt 0 k then bif nLe ((bytesOf ([T.i .u8 (IntKind.wrap .u8 (IntKind.wrap .i64 (48 + (k.tmod 10))))] : List T)).size + s.size) LIM then F n (IntKind.wrap .i64 (k.tdiv 10)) ((bytesOf ([T.i .u8 (IntKind.wrap .u8 (IntKind.wrap .i64 (48 + (k.tmod 10))))] : List T)) ++ s) else none else some [T.i .i64 0, T.s s]) : TX1 c' f := by
  intro k h0 h1
  rw [hcall]
  by_cases hk : k ≤ 0
  · rw [iLe_t hk]
    exact ⟨_, rfl⟩
  · rw [iLe_f hk, cond_false]
    have all : ∀ (e : Nat) (k : Int) (s : ByteArray) (n : Nat), e ≤ 62 → 0 ≤ k → k < 2 ^ e → e < n → s.size + e ≤ 100 → ∃ s', F n k s = some [T.i .i64 0, T.s s'] ∧ s'.size ≤ 100 := by
      intro e
      induction e with
      | zero =>
        intro k s n ge g0 g1 hn hs
        obtain ⟨n, rfl⟩ : ∃ m, n = m + 1 := ⟨n - 1, by omega⟩
        exact ⟨s, by rw [hF, iLt_f (by omega)]; rfl, by omega⟩
      | succ e ih =>
        intro k s n ge g0 g1 hn hs
        obtain ⟨n, rfl⟩ : ∃ m, n = m + 1 := ⟨n - 1, by omega⟩
        by_cases hk : k > 0
        · have hb : (bytesOf ([T.i .u8 (IntKind.wrap .u8 (IntKind.wrap .i64 (48 + (k.tmod 10))))] : List T)).size = 1 := rfl
          have hq : k.tdiv 10 = k / 10 := Int.tdiv_eq_ediv_of_nonneg g0
          have hw : IntKind.wrap .i64 (k.tdiv 10) = k / 10 := by
            rw [hq]
            have h2 : (2 : Int) ^ (e + 1) ≤ 2 ^ 62 := by
              have : (2 : Nat) ^ (e + 1) ≤ 2 ^ 62 := Nat.pow_le_pow_right (by omega) (by omega)
              exact_mod_cast this
            exact wrap_in (by omega) (by omega)
          have h2 : k / 10 < 2 ^ e := by
            have : (2 : Int) ^ (e + 1) = 2 * 2 ^ e := by rw [Int.pow_succ]; omega
            omega
          obtain ⟨s', p1, p2⟩ := ih (k / 10) (bytesOf ([T.i .u8 (IntKind.wrap .u8 (IntKind.wrap .i64 (48 + (k.tmod 10))))] : List T) ++ s) n (by omega) (by omega) h2 (by omega) (by rw [ByteArray.size_append, hb]; omega)
          refine ⟨s', ?_, p2⟩
          have hl : (bytesOf ([T.i .u8 (IntKind.wrap .u8 (IntKind.wrap .i64 (48 + (k.tmod 10))))] : List T)).size + s.size ≤ LIM := by
            rw [hb]
            unfold LIM
            omega
          rw [hF, iLt_t hk, nLe_t hl, hw]
          exact p1
        · refine ⟨s, ?_, by omega⟩
          rw [hF, iLt_f hk]
          rfl
    obtain ⟨s', p1, p2⟩ := all 62 k ⟨#[]⟩ lf (by omega) h0 (by omega) (by omega) (by show (0 : Nat) + 62 ≤ 100; omega)
    rw [p1]
    have hl : (⟨#[109]⟩ : ByteArray).size + s'.size ≤ LIM := by
      unfold LIM
      have : (⟨#[109]⟩ : ByteArray).size = 1 := rfl
      omega
    refine ⟨(⟨#[109]⟩ : ByteArray) ++ s', ?_⟩
    simp only [Option.bind_some, nth0, nthS, asS_s]
    rw [nLe_t hl, cond_true]
end
end Go.Proofs.YtejeinhdlcgkgaaV
namespace Go.Proofs.YtejeinhdlcgkgaaV

theorem cond_and {α : Type} (a b : Bool) (x y : α) : (bif a && b then x else y) = bif a then (bif b then x else y) else y := by cases a <;> rfl
theorem cond_or {α : Type} (a b : Bool) (x y : α) : (bif a || b then x else y) = bif a then x else (bif b then x else y) := by cases a <;> rfl
theorem cond_not {α : Type} (a : Bool) (x y : α) : (bif !a then x else y) = bif a then y else x := by cases a <;> rfl
theorem cond_t {α : Type} (x y : α) : (bif true then x else y) = x := rfl
theorem cond_f {α : Type} (x y : α) : (bif false then x else y) = y := rfl
theorem cond_same {α : Type} (a : Bool) (x : α) : (bif a then x else x) = x := by cases a <;> rfl
theorem cond_b (a : Bool) (b : Bool) : (bif a then some [T.b b] else some [T.b false]) = some [T.b (a && b)] := by cases a <;> rfl
theorem cond_bt (a : Bool) (b : Bool) : (bif a then some [T.b false] else some [T.b b]) = some [T.b (!a && b)] := by cases a <;> rfl
theorem iLt_le (a b : Int) : iLt a b = !iLe b a := by
  by_cases h : a < b
  · rw [iLt_t h, iLe_f (by omega)]; rfl
  · rw [iLt_f h, iLe_t (by omega)]; rfl
theorem bne_not (a b : Int) : (a != b) = !(a == b) := rfl

/-- All of 0 .. n-1. -/
def allB (P : Nat → Bool) : Nat → Bool
  | 0 => true
  | n + 1 => allB P n && P n
theorem allB_iff {P : Nat → Bool} : ∀ {n : Nat}, allB P n = true ↔ ∀ j, j < n → P j = true
  | 0 => by simp [allB]
  | n + 1 => by
    simp only [allB, Bool.and_eq_true, allB_iff (n := n)]
    constructor
    · rintro ⟨h1, h2⟩ j hj
      by_cases e : j = n
      · subst e; exact h2
      · exact h1 j (by omega)
    · exact fun h => ⟨fun j hj => h j (by omega), h n (by omega)⟩
theorem allB_congr {P Q : Nat → Bool} {n : Nat} (h : ∀ j, j < n → P j = Q j) : allB P n = allB Q n := by
  induction n with
  | zero => rfl
  | succ n ih => simp only [allB, ih fun j hj => h j (by omega), h n (by omega)]

/-- A loop that goes on while something holds. -/
theorem find_loop {F : Nat → Int → Option (List T)} {P : Nat → Bool} {X : Nat → Option (List T)} {Y : Option (List T)} {len : Nat} (hF : ∀ n (j : Nat), j < len → F (n + 1) j = bif P j then F n ((j + 1 : Nat) : Int) else X j) (hE : ∀ n, F (n + 1) (len : Int) = Y) {n : Nat} (hn : len < n) :
    (allB P len = true ∧ F n 0 = Y) ∨ (allB P len = false ∧ ∃ j, j < len ∧ P j = false ∧ F n 0 = X j) := by
  have key : ∀ (k j n : Nat), j + k = len → k < n → (∀ i, i < j → P i = true) → (allB P len = true ∧ F n (j : Int) = Y) ∨ (allB P len = false ∧ ∃ i, i < len ∧ P i = false ∧ F n (j : Int) = X i) := by
    intro k
    induction k with
    | zero =>
      intro j n hj hn hP
      obtain ⟨n, rfl⟩ : ∃ m, n = m + 1 := ⟨n - 1, by omega⟩
      have e : j = len := by omega
      subst e
      exact .inl ⟨allB_iff.2 hP, hE n⟩
    | succ k ih =>
      intro j n hj hn hP
      obtain ⟨n, rfl⟩ : ∃ m, n = m + 1 := ⟨n - 1, by omega⟩
      rw [hF n j (by omega)]
      cases hp : P j with
      | true =>
        rw [cond_t]
        exact ih (j + 1) n (by omega) (by omega) fun i hi => by
          by_cases e : i = j
          · subst e; exact hp
          · exact hP i (by omega)
      | false =>
        refine .inr ⟨?_, j, by omega, hp, rfl⟩
        cases e : allB P len with
        | false => rfl
        | true => have := allB_iff.1 e j (by omega); rw [hp] at this; cases this
  exact key len 0 n (by omega) hn (fun i hi => by omega)
/-- .. and says the same wherever it ends. -/
theorem all_loop {F : Nat → Int → Option (List T)} {P : Nat → Bool} {X Y : Option (List T)} {len : Nat} (hF : ∀ n (j : Nat), j < len → F (n + 1) j = bif P j then F n ((j + 1 : Nat) : Int) else X) (hE : ∀ n, F (n + 1) (len : Int) = Y) {n : Nat} (hn : len < n) : F n 0 = bif allB P len then Y else X := by
  rcases find_loop (X := fun _ => X) hF hE hn with ⟨h1, h2⟩ | ⟨h1, _, _, _, h2⟩
  · rw [h1, h2]; rfl
  · rw [h1, h2]; rfl

theorem byteAt_in (s : ByteArray) (i : Int) : 0 ≤ byteAt s i ∧ byteAt s i ≤ 255 := by
  unfold byteAt
  have := (s.toList.getD i.toNat 0).toNat_lt
  omega
theorem inR_t {j : Int} {n : Nat} (h0 : 0 ≤ j) (h1 : j < n) : inR j n = true := by
  unfold inR
  simp [h0, h1]
theorem toNat_pred {j : Nat} (h : 0 < j) : IntKind.wrap .i64 ((j : Int) - 1) = ((j - 1 : Nat) : Int) ∨ 9223372036854775807 < j := by
  by_cases h2 : j ≤ 9223372036854775807
  · left
    rw [wrap_in (by omega) (by omega)]
    omega
  · right; omega
theorem wrap_pred {j : Nat} (h : 0 < j) (h2 : j ≤ 16777216) : IntKind.wrap .i64 ((j : Int) - 1) = ((j - 1 : Nat) : Int) := by
  rw [wrap_in (by omega) (by omega)]
  omega

/-- A name's letters. -/
def chB (x : Int) : Bool := (iLe 97 x && iLe x 122) || ((iLe 48 x && iLe x 57) || ((x == 95) || ((x == 45) || (x == 46))))
def nameB (s : ByteArray) : Bool := allB (fun j => chB (byteAt s j)) s.size && ((iLe 1 (s.size : Int) && iLe (s.size : Int) 14) && (!(s.toList == (⟨#[46]⟩ : ByteArray).toList) && !(s.toList == (⟨#[46, 46]⟩ : ByteArray).toList)))
end Go.Proofs.YtejeinhdlcgkgaaV
