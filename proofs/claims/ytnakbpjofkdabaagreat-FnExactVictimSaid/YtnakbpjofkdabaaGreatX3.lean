/- What functions of the law FnExactVictim come to, in trees; no condition. -/
import Derived.Test.YtnakbpjofkdabaaGreatRows
import Derived.Test.YtnakbpjofkdabaaGreatX2
set_option linter.unusedVariables false
set_option linter.constructorNameAsVariable false
set_option linter.unusedSimpArgs false
set_option linter.unnecessarySimpa false
namespace Go.Proofs.YtnakbpjofkdabaaGreat.T
open Go Go.Proofs.YtnakbpjofkdabaaGreatV
set_option maxRecDepth 100000
theorem c_from {lf d : Nat} (a lo hi : Int) : Cc lf (d + 1) 70 [.i .i64 a, .i .i64 lo, .i .i64 hi] = some [.b (iLe lo a && iLe a hi)] := by
 refine (f70_eq (Cc lf d) lf a lo hi).trans ?_
 unfold f70 f70_t
 exact cond_b _ _
def pageU (ps : List T) (j : Nat) : Bool := asB (T.cell (ps.getD j T.u) 0)
def usedN (ps : List T) : Nat := cntB (pageU ps) ps.length
theorem cellL_le {l : List T} {j : Nat} (k : Nat) : (asL (T.cell (l.getD j T.u) k)).length + tls (asL (T.cell (l.getD j T.u) k)) ≤ tls l := by
 by_cases h : j < l.length
 ·have h1 := tl_mem (List.getElem_mem h)
  rw [List.getD_eq_getElem?_getD, List.getElem?_eq_getElem h]
  show (asL (T.cell l[j] k)).length + tls (asL (T.cell l[j] k)) ≤ _
  cases e : l[j] <;> try (simp only [T.cell, asL, tls]; exact Nat.zero_le _)
  rename_i xs
  rw [e] at h1
  simp only [T.cell, tl] at h1 ⊢
  cases e2 : xs[k]? with
  | none => rw [List.getD_eq_getElem?_getD, e2]; exact Nat.zero_le _
  | some x =>
   rw [List.getD_eq_getElem?_getD, e2]
   have h3 := tl_mem (List.mem_of_getElem? e2)
   show (asL x).length + tls (asL x) ≤ _
   cases x <;> try (exact Nat.zero_le _)
   simp only [tl, asL] at h3 ⊢
   omega
 ·rw [List.getD_eq_getElem?_getD, List.getElem?_eq_none (by omega)]
  exact Nat.zero_le _
theorem c_sNext {lf d : Nat} (hlf : 33554432 ≤ lf) (ps : List T) (w : Int) (bad : Bool) (hs : ps.length ≤ 16777216) : Cc lf (d + 1) 47 [.st [.sl ps, .i .i64 w, .b bad]] = some [.i .i64 (usedN ps : Nat)] := by
 refine (f47_eq (Cc lf d) lf ps w bad).trans ?_
 unfold f47 f47_t
 dsimp only
 have L := cnt_loop (F := fun n x j => f47_0 (Cc lf d) lf bad ps w n x j) (P := pageU ps) (Y := fun x => some [T.i .i64 0, T.i .i64 x]) (len := ps.length) (by omega) (fun n x j hj hx => by
  rw [f47_0_u]
  unfold f47_0_s
  rw [iLt_t (by omega), inR_nat hj, wrap_next hj (by omega)]
  rfl) (fun n x => by
  rw [f47_0_u]
  unfold f47_0_s
  rw [iLt_f (by omega)]
  rfl) (n := lf) (by omega)
 rw [L]
 rfl
theorem c_isBlock {lf d : Nat} (l : List T) (n : Int) (hs : l.length ≤ 16777216) : Cc lf (d + 2) 44 [.st [.sl l], .i .i64 n] = some [.b (iLe 0 n && iLt n (l.length : Int))] := by
 refine (f44_eq (Cc lf (d + 1)) lf l n).trans ?_
 unfold f44 f44_t
 rw [wrap_in (by omega) (by omega), c_from]
 have : iLe n ((l.length : Int) - 1) = iLt n (l.length : Int) := by
  by_cases h : n < (l.length : Int)
  ·rw [iLt_t h, iLe_t (by omega)]
  ·rw [iLt_f h, iLe_f (by omega)]
 rw [this]
 rfl
theorem c_iNext {lf d : Nat} (hlf : 33554432 ≤ lf) (l : List T) (j : Nat) (hj : j < l.length) (hs : l.length + tls l ≤ 16777216) : Cc lf (d + 3) 74 [.st [.sl l], .i .i64 (j : Int)] = some [.i .i64 (usedN (asL (T.cell (l.getD j T.u) 0)) : Nat)] := by
 refine (f74_eq (Cc lf (d + 2)) lf l j).trans ?_
 unfold f74 f74_t
 dsimp only
 have hp := cellL_le (l := l) (j := j) 0
 have L := cnt_loop (F := fun n x k => f74_0 (Cc lf (d + 2)) lf l j n x k) (P := pageU (asL (T.cell (l.getD j T.u) 0))) (Y := fun x => some [T.i .i64 0, T.i .i64 x]) (len := (asL (T.cell (l.getD j T.u) 0)).length) (by omega) (fun n x k hk hx => by
  rw [f74_0_u]
  unfold f74_0_s
  rw [Int.toNat_natCast, iLt_t (by omega), inR_nat hk, wrap_next hk (by omega)]
  rfl) (fun n x => by
  rw [f74_0_u]
  unfold f74_0_s
  rw [Int.toNat_natCast, iLt_f (by omega)]
  rfl) (n := lf) (by omega)
 rw [c_isBlock l j (by omega), iLe_t (by omega), iLt_t (by omega), inR_nat hj]
 simp only [Option.bind_some, nth0, asB_b, Bool.and_self, Bool.not_true, cond_f, cond_t]
 rw [L]
 rfl
abbrev IL (ns : List Int) : List T := ns.map (T.i .i64)
theorem IL_at {ns : List Int} {j : Nat} (h : j < ns.length) : (IL ns).getD j T.u = .i .i64 (ns.getD j 0) := by
 rw [List.getD_eq_getElem?_getD, List.getElem?_map, List.getElem?_eq_getElem h, List.getD_eq_getElem?_getD, List.getElem?_eq_getElem h]
 rfl
theorem IL_len (ns : List Int) : (IL ns).length = ns.length := List.length_map ..
theorem IL_app (a b : List Int) : IL a ++ IL b = IL (a ++ b) := (List.map_append ..).symm
theorem IL_asI (ns : List Int) : (IL ns).map asI = ns := by
 rw [List.map_map]
 exact (List.map_congr_left fun x _ => rfl).trans (List.map_id _)
theorem IL_set (ns : List Int) (j : Nat) (x : Int) : (IL ns).set j (.i .i64 x) = IL (ns.set j x) := List.map_set.symm
def Rise (l : List Int) : Prop := l.Pairwise (· < ·)
theorem rise_uniq : ∀ {a b : List Int}, Rise a → Rise b → (∀ x, x ∈ a ↔ x ∈ b) → a = b
 | [], [], _, _, _ => rfl
 | [], y :: b, _, _, h => by have := (h y).2 (List.mem_cons_self ..); cases this
 | x :: a, [], _, _, h => by have := (h x).1 (List.mem_cons_self ..); cases this
 | x :: a, y :: b, ha, hb, h => by
  obtain ⟨ha1, ha2⟩ := List.pairwise_cons.1 ha
  obtain ⟨hb1, hb2⟩ := List.pairwise_cons.1 hb
  have e : x = y := by
   rcases List.mem_cons.1 ((h x).1 (List.mem_cons_self ..)) with e | e
   ·exact e
   ·rcases List.mem_cons.1 ((h y).2 (List.mem_cons_self ..)) with e2 | e2
    ·exact e2.symm
    ·have := hb1 x e
     have := ha1 y e2
     omega
  subst e
  have : a = b := rise_uniq ha2 hb2 fun z => ⟨fun hz => by
   rcases List.mem_cons.1 ((h z).1 (List.mem_cons_of_mem _ hz)) with e | e
   ·have := ha1 z hz; omega
   ·exact e, fun hz => by
   rcases List.mem_cons.1 ((h z).2 (List.mem_cons_of_mem _ hz)) with e | e
   ·have := hb1 z hz; omega
   ·exact e⟩
  rw [this]
theorem rise_app {a : List Int} {x : Int} (h : Rise a) (hx : ∀ y ∈ a, y < x) : Rise (a ++ [x]) := by
 refine List.pairwise_append.2 ⟨h, List.pairwise_singleton _ _, fun y hy z hz => ?_⟩
 rw [List.mem_singleton.1 hz]
 exact hx y hy
theorem rise_ins {a : List Int} {k : Nat} {n : Int} (h : Rise a) (h1 : ∀ y ∈ a.take k, y < n) (h2 : ∀ y ∈ a.drop k, n < y) : Rise (a.take k ++ n :: a.drop k) := by
 have hs := List.take_append_drop k a ▸ h
 obtain ⟨p1, p2, p3⟩ := List.pairwise_append.1 hs
 refine List.pairwise_append.2 ⟨p1, List.pairwise_cons.2 ⟨h2, p2⟩, fun y hy z hz => ?_⟩
 rcases List.mem_cons.1 hz with rfl | hz
 ·exact h1 y hy
 ·exact p3 y hy z hz
theorem mem_ins {a : List Int} {k : Nat} {n x : Int} : x ∈ a.take k ++ n :: a.drop k ↔ x ∈ a ∨ x = n := by
 have : x ∈ a ↔ x ∈ a.take k ∨ x ∈ a.drop k := by
  conv => lhs; rw [← List.take_append_drop k a]
  exact List.mem_append
 rw [this, List.mem_append, List.mem_cons]
 constructor
 ·rintro (h | h | h)
  ·exact .inl (.inl h)
  ·exact .inr h
  ·exact .inl (.inr h)
 ·rintro ((h | h) | h)
  ·exact .inl h
  ·exact .inr (.inr h)
  ·exact .inr (.inl h)
theorem getD_of {l : List Int} {j : Nat} (h : j < l.length) : l.getD j 0 = l[j] := by
 rw [List.getD_eq_getElem?_getD, List.getElem?_eq_getElem h]
 rfl
theorem take_succ {l : List Int} {j : Nat} (h : j < l.length) : l.take (j + 1) = l.take j ++ [l.getD j 0] := by
 rw [getD_of h, List.take_add_one, List.getElem?_eq_getElem h]
 rfl
theorem set_take {l : List Int} {j : Nat} (x : Int) (h : j < l.length) : (l.set j x).take (j + 1) = l.take j ++ [x] := by
 rw [List.take_add_one, List.getElem?_set_self h, List.take_set_of_le (Nat.le_refl _)]
 rfl
theorem set_at {l : List Int} {j p : Nat} (x : Int) (h : j < p) : (l.set j x).getD p 0 = l.getD p 0 := by
 rw [List.getD_eq_getElem?_getD, List.getD_eq_getElem?_getD, List.getElem?_set_ne (by omega)]
theorem c_has {lf d : Nat} (hlf : 33554432 ≤ lf) (ns : List Int) (n : Int) (hs : ns.length ≤ 16777216) : Cc lf (d + 1) 42 [.sl (IL ns), .i .i64 n] = some [.b (decide (n ∈ ns))] := by
 refine (f42_eq (Cc lf d) lf (IL ns) n).trans ?_
 unfold f42 f42_t
 dsimp only
 have L := all_loop (F := fun m j => f42_0 (Cc lf d) lf (IL ns) n m j) (P := fun j => !(ns.getD j 0 == n)) (X := some [T.i .i64 0, T.b true]) (Y := some [T.i .i64 1]) (len := ns.length) (fun m j hj => by
  rw [f42_0_u]
  unfold f42_0_s
  rw [iLt_t (by rw [IL_len]; omega), inR_nat (by rw [IL_len]; exact hj), Int.toNat_natCast, IL_at hj, wrap_next hj (by omega)]
  simp only [asI_i, cond_t]
  cases ns.getD j 0 == n <;> rfl) (fun m => by
  rw [f42_0_u]
  unfold f42_0_s
  rw [iLt_f (by rw [IL_len]; omega)]
  rfl) (n := lf) (by omega)
 rw [L]
 by_cases h : n ∈ ns
 ·have : allB (fun j => !(ns.getD j 0 == n)) ns.length = false := by
   obtain ⟨j, hj, e⟩ := List.getElem_of_mem h
   cases e2 : allB (fun j => !(ns.getD j 0 == n)) ns.length with
   | false => rfl
   | true =>
    have := allB_iff.1 e2 j hj
    rw [getD_of hj, e] at this
    simp at this
  rw [this, decide_eq_true h]
  rfl
 ·have : allB (fun j => !(ns.getD j 0 == n)) ns.length = true := allB_iff.2 fun j hj => by
   rw [getD_of hj]
   cases e : ns[j] == n with
   | false => rfl
   | true => exact absurd ((beq_iff_eq.1 e) ▸ List.getElem_mem hj) h
  rw [this, decide_eq_false h]
  rfl
theorem c_l7Put {lf d : Nat} (hlf : 33554432 ≤ lf) (ns : List Int) (n : Int) (hs : ns.length ≤ 16000000) (hr : Rise ns) : ∃ ns', Cc lf (d + 2) 52 [.sl (IL ns), .i .i64 n] = some [.sl (IL ns')] ∧ Rise ns' ∧ (∀ x, x ∈ ns' ↔ x ∈ ns ∨ x = n) ∧ ns'.length ≤ ns.length + 1 := by
 have E := f52_eq (Cc lf (d + 1)) lf (IL ns) n
 unfold f52 f52_t at E
 dsimp only at E
 rw [c_has (d := d) hlf ns n (by omega)] at E
 simp only [Option.bind_some, nth0, asB_b] at E
 by_cases h : n ∈ ns
 ·rw [decide_eq_true h] at E
  exact ⟨ns, E, hr, fun x => ⟨.inl, fun hx => by rcases hx with hx | rfl; exact hx; exact h⟩, by omega⟩
 ·rw [decide_eq_false h, cond_f, nLe_t (by rw [IL_len]; unfold LIM; simp only [List.length_nil]; omega), nLe_app (by rw [List.nil_append, IL_len]; omega)] at E
  simp only [cond_t, List.nil_append] at E
  have L : ∀ (k m : Nat) (ls : List Int), k ≤ ns.length → k < m → ls.length = ns.length + 1 → ls.take k = ns.take k → ls.drop (k + 1) = ns.drop k → (∀ y ∈ ns.drop k, n < y) → ∃ k' ls', f52_0 (Cc lf (d + 1)) lf n m (k : Int) (IL ls) = some [T.i .i64 0, T.i .i64 n, T.i .i64 ((k' : Nat) : Int), T.sl (IL ls')] ∧ k' ≤ ns.length ∧ ls'.length = ns.length + 1 ∧ ls'.take k' = ns.take k' ∧ ls'.drop (k' + 1) = ns.drop k' ∧ (∀ y ∈ ns.drop k', n < y) ∧ (∀ y ∈ ns.take k', y ≤ n) := by
   intro k
   induction k with
   | zero =>
    intro m ls hk hm h1 h2 h3 h4
    obtain ⟨m, rfl⟩ : ∃ z, m = z + 1 := ⟨m - 1, by omega⟩
    refine ⟨0, ls, ?_, by omega, h1, h2, h3, h4, fun y hy => by rw [List.take_zero] at hy; cases hy⟩
    rw [f52_0_u]
    unfold f52_0_s
    rw [iLt_f (by omega)]
    rfl
   | succ k ih =>
    intro m ls hk hm h1 h2 h3 h4
    obtain ⟨m, rfl⟩ : ∃ z, m = z + 1 := ⟨m - 1, by omega⟩
    have hkl : k < ns.length := by omega
    have e1 : ls.getD k 0 = ns.getD k 0 := by
     have := congrArg (fun l => l.getD k 0) h2
     simp only [List.getD_eq_getElem?_getD, List.getElem?_take_of_lt (Nat.lt_succ_self k)] at this
     rw [List.getD_eq_getElem?_getD, List.getD_eq_getElem?_getD]
     exact this
    rw [f52_0_u]
    unfold f52_0_s
    rw [iLt_t (by omega), wrap_in (x := ((k + 1 : Nat) : Int) - 1) (by omega) (by omega), show ((k + 1 : Nat) : Int) - 1 = (k : Int) by omega, inR_nat (by rw [IL_len]; omega), inR_nat (by rw [IL_len]; omega), Int.toNat_natCast, Int.toNat_natCast, IL_at (by omega), e1]
    simp only [cond_t, asI_i]
    by_cases c : n < ns.getD k 0
    ·rw [iLt_t c, cond_t, IL_set]
     refine ih m (ls.set (k + 1) (ns.getD k 0)) (by omega) (by omega) (by rw [List.length_set]; exact h1) ?_ ?_ fun y hy => ?_
     ·rw [List.take_set_of_le (by omega)]
      have := congrArg (List.take k) h2
      rw [List.take_take, List.take_take, Nat.min_eq_left (by omega)] at this
      exact this
     ·rw [List.drop_eq_getElem_cons (by rw [List.length_set]; omega), List.getElem_set_self, List.drop_set_of_lt (by omega), h3, getD_of hkl, ← List.drop_eq_getElem_cons hkl]
     ·rw [List.drop_eq_getElem_cons hkl] at hy
      rcases List.mem_cons.1 hy with rfl | hy
      ·rw [← getD_of hkl]; exact c
      ·exact h4 y hy
    ·rw [iLt_f c, cond_f]
     refine ⟨k + 1, ls, rfl, hk, h1, h2, h3, h4, fun y hy => ?_⟩
     rw [take_succ hkl] at hy
     rcases List.mem_append.1 hy with hy | hy
     ·obtain ⟨i, hi, e⟩ := List.getElem_of_mem hy
      rw [List.length_take] at hi
      have := List.pairwise_iff_getElem.1 hr i k (by omega) hkl (by omega)
      rw [List.getElem_take] at e
      rw [← getD_of hkl] at this
      omega
     ·rw [List.mem_singleton.1 hy]; omega
  have e0 : (((IL ns) ++ ([T.i .i64 n] : List T)).length : Int) - 1 = (ns.length : Int) := by
   rw [List.length_append, IL_len, List.length_singleton]; omega
  rw [e0, wrap_in (by omega) (by omega), show IL ns ++ ([T.i .i64 n] : List T) = IL (ns ++ [n]) from IL_app ns [n]] at E
  obtain ⟨k', ls', e, q1, q2, q3, q4, q5, q6⟩ := L ns.length lf (ns ++ [n]) (Nat.le_refl _) (by omega) (by simp) (by rw [List.take_left, List.take_length]) (by rw [List.drop_eq_nil_of_le (by simp), List.drop_length]) (fun y hy => by rw [List.drop_length] at hy; cases hy)
  rw [e] at E
  simp only [Option.bind_some, nth0, nthS, asI_i, asL_l] at E
  rw [inR_nat (by rw [IL_len]; omega), Int.toNat_natCast, IL_set] at E
  have hset : ls'.set k' n = ns.take k' ++ n :: ns.drop k' := by
   rw [← q3, ← q4, List.set_eq_take_append_cons_drop, if_pos (by omega)]
  rw [hset] at E
  have hlt : ∀ y ∈ ns.take k', y < n := fun y hy => by
   have := q6 y hy
   rcases Int.lt_or_lt_of_ne (show y ≠ n from fun e => h (e ▸ List.mem_of_mem_take hy)) with h | h
   ·exact h
   ·omega
  exact ⟨_, E, rise_ins hr hlt q5, fun x => mem_ins, by rw [List.length_append, List.length_cons, List.length_take, List.length_drop]; omega⟩
theorem c_l18Put {lf d : Nat} (hlf : 33554432 ≤ lf) (ns : List Int) (n : Int) (hs : ns.length ≤ 16000000) (hr : Rise ns) : ∃ ns', Cc lf (d + 3) 25 [.sl (IL ns), .i .i64 n] = some [.sl (IL ns')] ∧ Rise ns' ∧ (∀ x, x ∈ ns' ↔ x ∈ ns ∨ (0 ≤ x ∧ x = n)) ∧ ns'.length ≤ ns.length + 1 := by
 have E := f25_eq (Cc lf (d + 2)) lf (IL ns) n
 unfold f25 f25_t at E
 by_cases h : n < 0
 ·rw [iLt_t h] at E
  exact ⟨ns, E, hr, fun x => ⟨.inl, fun hx => by rcases hx with hx | hx; exact hx; omega⟩, by omega⟩
 ·rw [iLt_f h, cond_f] at E
  obtain ⟨ns', e, h1, h2, h3⟩ := c_l7Put (lf := lf) (d := d) hlf ns n hs hr
  rw [e] at E
  exact ⟨ns', E, h1, fun x => by rw [h2]; constructor <;> (rintro (h | h); exact .inl h; first | exact .inr ⟨by omega, h⟩ | exact .inr h.2), h3⟩
def leadTo (rows maps : List T) (at_ root x : Int) : Prop := x = root ∨ x = at_ ∨ (∃ j, j < rows.length ∧ x = asI (T.cell (rows.getD j T.u) 4)) ∨ ∃ i k, i < maps.length ∧ k < (asL (T.cell (maps.getD i T.u) 1)).length ∧ x = asI (T.cell ((asL (T.cell (maps.getD i T.u) 1)).getD k T.u) 1)
theorem c_sLiveOf {lf d : Nat} (hlf : 33554432 ≤ lf) (l0 : List T) (n1 n2 : Int) (rows maps : List T) (n5 n6 : Int) (hr : rows.length ≤ 1048576) (hm : maps.length + tls maps ≤ 1048576) : ∃ S, Cc lf (d + 4) 7 [.st [.sl l0, .i .i64 n1, .i .i64 n2, .sl rows, .sl maps, .i .i64 n5, .i .i64 n6]] = some [.sl (IL S)] ∧ Rise S ∧ (∀ x, x ∈ S ↔ 0 ≤ x ∧ leadTo rows maps n5 n6 x) ∧ S.length ≤ 4194304 := by
 have E := f7_eq (Cc lf (d + 3)) lf l0 n1 n2 rows maps n5 n6
 unfold f7 f7_t at E
 dsimp only at E
 obtain ⟨s1, e1, r1, m1, b1⟩ := c_l18Put (lf := lf) (d := d) hlf [] n6 (by simp) List.Pairwise.nil
 rw [show IL [] = ([] : List T) from rfl] at e1
 rw [e1] at E
 simp only [Option.bind_some, nth0, asL_l] at E
 simp only [List.length_nil] at b1
 obtain ⟨s2, e2, r2, m2, b2⟩ := c_l18Put (lf := lf) (d := d) hlf s1 n5 (by omega) r1
 rw [e2] at E
 simp only [Option.bind_some, nth0, asL_l] at E
 have L0 : ∀ (k j n : Nat) (s : List Int), j + k = rows.length → k < n → Rise s → s.length ≤ 2 + j → ∃ s', f7_0 (Cc lf (d + 3)) lf l0 rows maps n1 n2 n5 n6 n (IL s) j = some [T.i .i64 0, T.sl (IL s'), T.sl l0, T.i .i64 n1, T.i .i64 n2, T.sl rows, T.sl maps, T.i .i64 n5, T.i .i64 n6] ∧ Rise s' ∧ (∀ x, x ∈ s' ↔ x ∈ s ∨ (0 ≤ x ∧ ∃ i, j ≤ i ∧ i < rows.length ∧ x = asI (T.cell (rows.getD i T.u) 4))) ∧ s'.length ≤ 2 + rows.length := by
  intro k
  induction k with
  | zero =>
   intro j n s hj hn hs hl
   obtain ⟨n, rfl⟩ : ∃ z, n = z + 1 := ⟨n - 1, by omega⟩
   refine ⟨s, ?_, hs, fun x => ⟨.inl, fun h => ?_⟩, by omega⟩
   ·rw [f7_0_u]
    unfold f7_0_s
    rw [iLt_f (by omega)]
    rfl
   ·rcases h with h | ⟨_, i, hi, hi2, _⟩
    ·exact h
    ·omega
  | succ k ih =>
   intro j n s hj hn hs hl
   obtain ⟨n, rfl⟩ : ∃ z, n = z + 1 := ⟨n - 1, by omega⟩
   have hjl : j < rows.length := by omega
   rw [f7_0_u]
   unfold f7_0_s
   obtain ⟨s1, e1, r1, m1, b1⟩ := c_l18Put (lf := lf) (d := d) hlf s (asI (T.cell (rows.getD j T.u) 4)) (by omega) hs
   rw [iLt_t (by omega), inR_nat hjl, Int.toNat_natCast, e1, wrap_next hjl (by omega)]
   simp only [cond_t, Option.bind_some, nth0, asL_l]
   obtain ⟨s', e2, r2, m2, b2⟩ := ih (j + 1) n s1 (by omega) (by omega) r1 (by omega)
   refine ⟨s', e2, r2, fun x => ?_, b2⟩
   rw [m2, m1]
   constructor
   ·rintro ((h | ⟨h1, h2⟩) | ⟨h0, i, h1, h2, h3⟩)
    ·exact .inl h
    ·exact .inr ⟨h1, j, Nat.le_refl _, hjl, h2⟩
    ·exact .inr ⟨h0, i, by omega, h2, h3⟩
   ·rintro (h | ⟨h0, i, h1, h2, h3⟩)
    ·exact .inl (.inl h)
    ·by_cases e : i = j
     ·subst e; exact .inl (.inr ⟨h0, h3⟩)
     ·exact .inr ⟨h0, i, by omega, h2, h3⟩
 have b2' : s2.length ≤ 2 := by omega
 obtain ⟨s3, e3, r3, m3, b3⟩ := L0 rows.length 0 lf s2 (by omega) (by omega) r2 (by omega)
 rw [show ((0 : Nat) : Int) = 0 from rfl] at e3
 rw [e3] at E
 simp only [Option.bind_some, nth0, nthS, asI_i, asL_l] at E
 have In : ∀ (i : Nat), i < maps.length → ∀ (k q n : Nat) (s : List Int), q + k = (asL (T.cell (maps.getD i T.u) 1)).length → k < n → Rise s → s.length + k ≤ 4194304 → ∃ s', f7_2 (Cc lf (d + 3)) lf (i : Int) l0 n1 n2 rows maps n5 n6 n (IL s) q = some [T.i .i64 0, T.sl (IL s'), T.i .i64 (i : Int), T.sl l0, T.i .i64 n1, T.i .i64 n2, T.sl rows, T.sl maps, T.i .i64 n5, T.i .i64 n6] ∧ Rise s' ∧ (∀ x, x ∈ s' ↔ x ∈ s ∨ (0 ≤ x ∧ ∃ z, q ≤ z ∧ z < (asL (T.cell (maps.getD i T.u) 1)).length ∧ x = asI (T.cell ((asL (T.cell (maps.getD i T.u) 1)).getD z T.u) 1))) ∧ s'.length ≤ s.length + k := by
  intro i hi k
  induction k with
  | zero =>
   intro q n s hj hn hs hl
   obtain ⟨n, rfl⟩ : ∃ z, n = z + 1 := ⟨n - 1, by omega⟩
   refine ⟨s, ?_, hs, fun x => ⟨.inl, fun h => ?_⟩, by omega⟩
   ·rw [f7_2_u]
    unfold f7_2_s
    rw [inR_nat hi, Int.toNat_natCast, iLt_f (by omega)]
    rfl
   ·rcases h with h | ⟨_, z, hz, hz2, _⟩
    ·exact h
    ·omega
  | succ k ih =>
   intro q n s hj hn hs hl
   obtain ⟨n, rfl⟩ : ∃ z, n = z + 1 := ⟨n - 1, by omega⟩
   have hql : q < (asL (T.cell (maps.getD i T.u) 1)).length := by omega
   have hcl := cellL_le (l := maps) (j := i) 1
   rw [f7_2_u]
   unfold f7_2_s
   obtain ⟨s1, e1, r1, m1, b1⟩ := c_l18Put (lf := lf) (d := d) hlf s (asI (T.cell ((asL (T.cell (maps.getD i T.u) 1)).getD q T.u) 1)) (by omega) hs
   rw [inR_nat hi, Int.toNat_natCast, iLt_t (by omega), inR_nat hql, Int.toNat_natCast, e1, wrap_next hql (by omega)]
   simp only [cond_t, Option.bind_some, nth0, asL_l]
   obtain ⟨s', e2, r2, m2, b2⟩ := ih (q + 1) n s1 (by omega) (by omega) r1 (by omega)
   refine ⟨s', e2, r2, fun x => ?_, by omega⟩
   rw [m2, m1]
   constructor
   ·rintro ((h | ⟨h1, h2⟩) | ⟨h0, i, h1, h2, h3⟩)
    ·exact .inl h
    ·exact .inr ⟨h1, q, Nat.le_refl _, hql, h2⟩
    ·exact .inr ⟨h0, i, by omega, h2, h3⟩
   ·rintro (h | ⟨h0, z, h1, h2, h3⟩)
    ·exact .inl (.inl h)
    ·by_cases e : z = q
     ·subst e; exact .inl (.inr ⟨h0, h3⟩)
     ·exact .inr ⟨h0, z, by omega, h2, h3⟩
 have cnt : ∀ j : Nat, j < maps.length → tls (maps.drop j) ≥ (asL (T.cell (maps.getD j T.u) 1)).length + tls (maps.drop (j + 1)) := fun j hj => by
  rw [List.drop_eq_getElem_cons hj]
  have := cellL_le (l := [maps[j]]) (j := 0) 1
  have e : ([maps[j]] : List T).getD 0 T.u = maps.getD j T.u := by
   rw [List.getD_eq_getElem?_getD, List.getD_eq_getElem?_getD, List.getElem?_eq_getElem hj]; rfl
  rw [e] at this
  simp only [tls] at this ⊢
  omega
 have L1 : ∀ (k i n : Nat) (s : List Int), i + k = maps.length → k < n → Rise s → s.length + tls (maps.drop i) ≤ 4194304 → ∃ s', f7_1 (Cc lf (d + 3)) lf n (IL s) i l0 n1 n2 rows maps n5 n6 = some [T.i .i64 0, T.sl (IL s')] ∧ Rise s' ∧ (∀ x, x ∈ s' ↔ x ∈ s ∨ (0 ≤ x ∧ ∃ z q, i ≤ z ∧ z < maps.length ∧ q < (asL (T.cell (maps.getD z T.u) 1)).length ∧ x = asI (T.cell ((asL (T.cell (maps.getD z T.u) 1)).getD q T.u) 1))) ∧ s'.length ≤ 4194304 := by
  intro k
  induction k with
  | zero =>
   intro i n s hj hn hs hl
   obtain ⟨n, rfl⟩ : ∃ z, n = z + 1 := ⟨n - 1, by omega⟩
   refine ⟨s, ?_, hs, fun x => ⟨.inl, fun h => ?_⟩, by omega⟩
   ·rw [f7_1_u]
    unfold f7_1_s
    rw [iLt_f (by omega)]
    rfl
   ·rcases h with h | ⟨_, z, q, hz, hz2, _⟩
    ·exact h
    ·omega
  | succ k ih =>
   intro i n s hj hn hs hl
   obtain ⟨n, rfl⟩ : ∃ z, n = z + 1 := ⟨n - 1, by omega⟩
   have hil : i < maps.length := by omega
   have hc := cnt i hil
   have hcl := cellL_le (l := maps) (j := i) 1
   rw [f7_1_u]
   unfold f7_1_s
   dsimp only
   obtain ⟨s1, e1, r1, m1, b1⟩ := In i hil (asL (T.cell (maps.getD i T.u) 1)).length 0 lf s (by omega) (by omega) hs (by omega)
   rw [show ((0 : Nat) : Int) = 0 from rfl] at e1
   rw [iLt_t (by omega), e1]
   simp only [cond_t, Option.bind_some, nth0, nthS, asI_i, asL_l]
   rw [wrap_next hil (by omega)]
   obtain ⟨s', e2, r2, m2, b2⟩ := ih (i + 1) n s1 (by omega) (by omega) r1 (by omega)
   refine ⟨s', e2, r2, fun x => ?_, b2⟩
   rw [m2, m1]
   constructor
   ·rintro ((h | ⟨h1, z, _, h2, h3⟩) | ⟨h0, z, q, h1, h2, h3, h4⟩)
    ·exact .inl h
    ·exact .inr ⟨h1, i, z, Nat.le_refl _, hil, h2, h3⟩
    ·exact .inr ⟨h0, z, q, by omega, h2, h3, h4⟩
   ·rintro (h | ⟨h0, z, q, h1, h2, h3, h4⟩)
    ·exact .inl (.inl h)
    ·by_cases e : z = i
     ·subst e; exact .inl (.inr ⟨h0, q, Nat.zero_le _, h3, h4⟩)
     ·exact .inr ⟨h0, z, q, by omega, h2, h3, h4⟩
 obtain ⟨s4, e4, r4, m4, b4⟩ := L1 maps.length 0 lf s3 (by omega) (by omega) r3 (by rw [List.drop_zero]; omega)
 rw [show ((0 : Nat) : Int) = 0 from rfl] at e4
 rw [e4] at E
 refine ⟨s4, E, r4, fun x => ?_, b4⟩
 rw [m4, m3, m2, m1]
 unfold leadTo
 constructor
 ·rintro ((((h | ⟨h1, h2⟩) | ⟨h1, h2⟩) | ⟨h0, j, _, h1, h2⟩) | ⟨h0, z, q, _, h1, h2, h3⟩)
  ·cases h
  ·exact ⟨h1, .inl h2⟩
  ·exact ⟨h1, .inr (.inl h2)⟩
  ·exact ⟨h0, .inr (.inr (.inl ⟨j, h1, h2⟩))⟩
  ·exact ⟨h0, .inr (.inr (.inr ⟨z, q, h1, h2, h3⟩))⟩
 ·rintro ⟨h0, h | h | ⟨j, h1, h2⟩ | ⟨z, q, h1, h2, h3⟩⟩
  ·exact .inl (.inl (.inl (.inr ⟨h0, h⟩)))
  ·exact .inl (.inl (.inr ⟨h0, h⟩))
  ·exact .inl (.inr ⟨h0, j, Nat.zero_le _, h1, h2⟩)
  ·exact .inr ⟨h0, z, q, Nat.zero_le _, h1, h2, h3⟩
abbrev LL (L : List (List Int)) : List T := L.map fun ns => T.sl (IL ns)
theorem LL_len (L : List (List Int)) : (LL L).length = L.length := List.length_map ..
theorem LL_at {L : List (List Int)} {j : Nat} (h : j < L.length) : (LL L).getD j T.u = .sl (IL (L.getD j [])) := by
 rw [List.getD_eq_getElem?_getD, List.getElem?_map, List.getElem?_eq_getElem h, List.getD_eq_getElem?_getD, List.getElem?_eq_getElem h]
 rfl
theorem LL_set (L : List (List Int)) (j : Nat) (ns : List Int) : (LL L).set j (.sl (IL ns)) = LL (L.set j ns) := List.map_set.symm
theorem intsOk (ns : List Int) : okC (.sl false [.i .i64]) (.sl (IL ns)) = true := by
 show okL false [.i .i64] _ = true
 rw [okL_all, List.all_eq_true]
 intro x hx
 obtain ⟨n, _, rfl⟩ := List.mem_map.1 hx
 rfl
theorem LL_ok (L : List (List Int)) : okL false [.sl false [.i .i64]] (LL L) = true := by
 rw [okL_all, List.all_eq_true]
 intro x hx
 obtain ⟨ns, _, rfl⟩ := List.mem_map.1 hx
 exact intsOk ns
def addA (L : List (List Int)) (j : Nat) (a : Int) : List (List Int) := L.set j (L.getD j [] ++ [a])
theorem LL_add {L : List (List Int)} {j : Nat} (h : j < L.length) (a : Int) : ((LL L).set j T.u).set j (T.sl ((asL ((LL L).getD j T.u)) ++ [T.i .i64 a])) = LL (addA L j a) := by
 rw [List.set_set, LL_at h]
 show (LL L).set j (T.sl (IL (L.getD j []) ++ [T.i .i64 a])) = _
 rw [show IL (L.getD j []) ++ [T.i .i64 a] = IL (L.getD j [] ++ [a]) from IL_app _ [a], LL_set]
 rfl
theorem addA_len (L : List (List Int)) (j : Nat) (a : Int) : (addA L j a).length = L.length := List.length_set ..
theorem addA_mem {L : List (List Int)} {j : Nat} (h : j < L.length) (a x : Int) : x ∈ (addA L j a).flatten ↔ x ∈ L.flatten ∨ x = a := by
 have hs : addA L j a = L.take j ++ (L.getD j [] ++ [a]) :: L.drop (j + 1) := by
  unfold addA
  rw [List.set_eq_take_append_cons_drop, if_pos h]
 have ho : L = L.take j ++ L.getD j [] :: L.drop (j + 1) := by
  conv => lhs; rw [← List.take_append_drop j L, List.drop_eq_getElem_cons h]
  rw [List.getD_eq_getElem?_getD, List.getElem?_eq_getElem h]
  rfl
 rw [hs]
 conv => rhs; rw [ho]
 simp only [List.flatten_append, List.flatten_cons, List.mem_append, List.mem_singleton]
 constructor
 ·rintro (h | (h | h) | h)
  ·exact .inl (.inl h)
  ·exact .inl (.inr (.inl h))
  ·exact .inr h
  ·exact .inl (.inr (.inr h))
 ·rintro ((h | h | h) | h)
  ·exact .inl h
  ·exact .inr (.inl (.inl h))
  ·exact .inr (.inr h)
  ·exact .inr (.inl (.inr h))
theorem addA_tot {L : List (List Int)} {j : Nat} (h : j < L.length) (a : Int) : (addA L j a).flatten.length = L.flatten.length + 1 := by
 have hs : addA L j a = L.take j ++ (L.getD j [] ++ [a]) :: L.drop (j + 1) := by
  unfold addA
  rw [List.set_eq_take_append_cons_drop, if_pos h]
 have ho : L = L.take j ++ L.getD j [] :: L.drop (j + 1) := by
  conv => lhs; rw [← List.take_append_drop j L, List.drop_eq_getElem_cons h]
  rw [List.getD_eq_getElem?_getD, List.getElem?_eq_getElem h]
  rfl
 rw [hs]
 conv => rhs; rw [ho]
 simp only [List.flatten_append, List.flatten_cons, List.length_append, List.length_singleton]
 omega
theorem inner_le {L : List (List Int)} {j : Nat} (h : j < L.length) : (L.getD j []).length ≤ L.flatten.length := by
 rw [List.getD_eq_getElem?_getD, List.getElem?_eq_getElem h]
 show L[j].length ≤ _
 have := List.getElem_mem h
 generalize L[j] = x at this
 clear h
 induction L with
 | nil => cases this
 | cons y L ih =>
  rw [List.flatten_cons, List.length_append]
  rcases List.mem_cons.1 this with rfl | h
  ·omega
  ·have := ih h; omega
theorem c_leads {lf d : Nat} (hlf : 33554432 ≤ lf) (l0 : List T) (n1 n2 : Int) (rows maps : List T) (n5 n6 : Int) (hr : rows.length ≤ 1048576) (hm : maps.length + tls maps ≤ 1048576) : ∃ L, Cc lf (d + 1) 30 [.st [.sl l0, .i .i64 n1, .i .i64 n2, .sl rows, .sl maps, .i .i64 n5, .i .i64 n6]] = some [.sl (LL L)] ∧ (∀ x, x ∈ L.flatten ↔ (∃ j, j < rows.length ∧ x = asI (T.cell (rows.getD j T.u) 4)) ∨ ∃ i k, i < maps.length ∧ k < (asL (T.cell (maps.getD i T.u) 1)).length ∧ x = asI (T.cell ((asL (T.cell (maps.getD i T.u) 1)).getD k T.u) 1)) ∧ L.length ≤ 1048576 ∧ L.flatten.length ≤ 4194304 := by
 have E := f30_eq (Cc lf d) lf l0 n1 n2 rows maps n5 n6
 unfold f30 f30_t at E
 dsimp only at E
 obtain ⟨N, hN, hN1, hN2, hN3⟩ : ∃ N : Nat, imax (rows.length : Int) (maps.length : Int) = (N : Int) ∧ rows.length ≤ N ∧ maps.length ≤ N ∧ N ≤ 1048576 := by
  unfold imax
  split
  ·exact ⟨maps.length, rfl, by omega, by omega, by omega⟩
  ·exact ⟨rows.length, rfl, by omega, by omega, by omega⟩
 rw [hN, iLe_t (by omega), iLe_t (show (N : Int) ≤ (LIM : Int) by unfold LIM; omega), beq_self_eq_true, Int.toNat_natCast, show List.replicate N (T.sl []) = LL (List.replicate N []) from (List.map_replicate (f := fun ns : List Int => T.sl (IL ns)) (n := N) (a := [])).symm] at E
 simp only [Bool.and_self, cond_t] at E
 have L0 : ∀ (k j n : Nat) (L : List (List Int)), j + k = rows.length → k < n → L.length = N → L.flatten.length = j → ∃ L', f30_0 (Cc lf d) lf l0 rows maps n1 n2 n5 n6 n j (LL L) = some [T.i .i64 0, T.sl l0, T.i .i64 n1, T.i .i64 n2, T.sl rows, T.sl maps, T.i .i64 n5, T.i .i64 n6, T.sl (LL L')] ∧ L'.length = N ∧ L'.flatten.length = rows.length ∧ (∀ x, x ∈ L'.flatten ↔ x ∈ L.flatten ∨ ∃ i, j ≤ i ∧ i < rows.length ∧ x = asI (T.cell (rows.getD i T.u) 4)) := by
  intro k
  induction k with
  | zero =>
   intro j n L hj hn h1 h2
   obtain ⟨n, rfl⟩ : ∃ z, n = z + 1 := ⟨n - 1, by omega⟩
   refine ⟨L, ?_, h1, by omega, fun x => ⟨.inl, fun h => ?_⟩⟩
   ·rw [f30_0_u]
    unfold f30_0_s
    rw [iLt_f (by omega)]
    rfl
   ·rcases h with h | ⟨i, hi, hi2, _⟩
    ·exact h
    ·omega
  | succ k ih =>
   intro j n L hj hn h1 h2
   obtain ⟨n, rfl⟩ : ∃ z, n = z + 1 := ⟨n - 1, by omega⟩
   have hjl : j < rows.length := by omega
   have hjL : j < L.length := by omega
   have hin := inner_le hjL
   rw [f30_0_u]
   unfold f30_0_s
   rw [iLt_t (by omega), inR_nat hjl, inR_nat (by rw [LL_len]; exact hjL), Int.toNat_natCast, LL_add hjL, LL_at hjL, intsOk, wrap_next hjl (by omega), nLe_app (by show (IL (L.getD j [])).length ≤ _; rw [IL_len]; omega), inR_nat (by rw [List.length_set, LL_len]; exact hjL)]
   simp only [cond_t, Bool.and_self]
   obtain ⟨L', e, q1, q2, q3⟩ := ih (j + 1) n (addA L j (asI (T.cell (rows.getD j T.u) 4))) (by omega) (by omega) (by rw [addA_len]; exact h1) (by rw [addA_tot hjL]; omega)
   refine ⟨L', e, q1, q2, fun x => ?_⟩
   rw [q3, addA_mem hjL]
   constructor
   ·rintro ((h | h) | ⟨i, a, b, c⟩)
    ·exact .inl h
    ·exact .inr ⟨j, Nat.le_refl _, hjl, h⟩
    ·exact .inr ⟨i, by omega, b, c⟩
   ·rintro (h | ⟨i, a, b, c⟩)
    ·exact .inl (.inl h)
    ·by_cases e : i = j
     ·subst e; exact .inl (.inr c)
     ·exact .inr ⟨i, by omega, b, c⟩
 obtain ⟨L1, e1, a1, a2, a3⟩ := L0 rows.length 0 lf (List.replicate N []) (by omega) (by omega) (by rw [List.length_replicate]) (by simp)
 rw [show ((0 : Nat) : Int) = 0 from rfl] at e1
 rw [e1] at E
 simp only [Option.bind_some, nth0, nthS, asI_i, asL_l] at E
 have cnt : ∀ j : Nat, j < maps.length → tls (maps.drop j) ≥ (asL (T.cell (maps.getD j T.u) 1)).length + tls (maps.drop (j + 1)) := fun j hj => by
  rw [List.drop_eq_getElem_cons hj]
  have := cellL_le (l := [maps[j]]) (j := 0) 1
  have e : ([maps[j]] : List T).getD 0 T.u = maps.getD j T.u := by
   rw [List.getD_eq_getElem?_getD, List.getD_eq_getElem?_getD, List.getElem?_eq_getElem hj]; rfl
  rw [e] at this
  simp only [tls] at this ⊢
  omega
 have In : ∀ (i : Nat), i < maps.length → ∀ (k q n : Nat) (L : List (List Int)), q + k = (asL (T.cell (maps.getD i T.u) 1)).length → k < n → L.length = N → L.flatten.length + k ≤ 4194304 → ∃ L', f30_2 (Cc lf d) lf maps (maps.length : Int) (i : Int) n q (LL L) = some [T.i .i64 0, T.sl maps, T.i .i64 (maps.length : Int), T.i .i64 (i : Int), T.sl (LL L')] ∧ L'.length = N ∧ L'.flatten.length = L.flatten.length + k ∧ (∀ x, x ∈ L'.flatten ↔ x ∈ L.flatten ∨ ∃ z, q ≤ z ∧ z < (asL (T.cell (maps.getD i T.u) 1)).length ∧ x = asI (T.cell ((asL (T.cell (maps.getD i T.u) 1)).getD z T.u) 1)) := by
  intro i hi k
  induction k with
  | zero =>
   intro q n L hj hn h1 h2
   obtain ⟨n, rfl⟩ : ∃ z, n = z + 1 := ⟨n - 1, by omega⟩
   refine ⟨L, ?_, h1, by omega, fun x => ⟨.inl, fun h => ?_⟩⟩
   ·rw [f30_2_u]
    unfold f30_2_s
    rw [Int.toNat_natCast, iLt_f (by omega)]
    rfl
   ·rcases h with h | ⟨z, hz, hz2, _⟩
    ·exact h
    ·omega
  | succ k ih =>
   intro q n L hj hn h1 h2
   obtain ⟨n, rfl⟩ : ∃ z, n = z + 1 := ⟨n - 1, by omega⟩
   have hql : q < (asL (T.cell (maps.getD i T.u) 1)).length := by omega
   have hiL : i < L.length := by omega
   have hin := inner_le hiL
   have hcl := cellL_le (l := maps) (j := i) 1
   rw [f30_2_u]
   unfold f30_2_s
   rw [Int.toNat_natCast, Int.toNat_natCast, iLt_t (by omega), inR_nat hql, inR_nat (by rw [LL_len]; exact hiL), LL_add hiL, LL_at hiL, intsOk, wrap_next hql (by omega), nLe_app (by show (IL (L.getD i [])).length ≤ _; rw [IL_len]; omega), inR_nat (by rw [List.length_set, LL_len]; exact hiL)]
   simp only [cond_t, Bool.and_self]
   obtain ⟨L', e, q1, q2, q3⟩ := ih (q + 1) n (addA L i (asI (T.cell ((asL (T.cell (maps.getD i T.u) 1)).getD q T.u) 1))) (by omega) (by omega) (by rw [addA_len]; exact h1) (by rw [addA_tot hiL]; omega)
   refine ⟨L', e, q1, by rw [q2, addA_tot hiL]; omega, fun x => ?_⟩
   rw [q3, addA_mem hiL]
   constructor
   ·rintro ((h | h) | ⟨i, a, b, c⟩)
    ·exact .inl h
    ·exact .inr ⟨q, Nat.le_refl _, hql, h⟩
    ·exact .inr ⟨i, by omega, b, c⟩
   ·rintro (h | ⟨z, a, b, c⟩)
    ·exact .inl (.inl h)
    ·by_cases e : z = q
     ·subst e; exact .inl (.inr c)
     ·exact .inr ⟨z, by omega, b, c⟩
 have L1f : ∀ (k i n : Nat) (L : List (List Int)), i + k = maps.length → k < n → L.length = N → L.flatten.length + tls (maps.drop i) ≤ 4194304 → ∃ L', f30_1 (Cc lf d) lf n maps (maps.length : Int) i (LL L) = some [T.i .i64 0, T.sl (LL L')] ∧ L'.length = N ∧ L'.flatten.length ≤ 4194304 ∧ (∀ x, x ∈ L'.flatten ↔ x ∈ L.flatten ∨ ∃ z q, i ≤ z ∧ z < maps.length ∧ q < (asL (T.cell (maps.getD z T.u) 1)).length ∧ x = asI (T.cell ((asL (T.cell (maps.getD z T.u) 1)).getD q T.u) 1)) := by
  intro k
  induction k with
  | zero =>
   intro i n L hj hn h1 h2
   obtain ⟨n, rfl⟩ : ∃ z, n = z + 1 := ⟨n - 1, by omega⟩
   refine ⟨L, ?_, h1, by omega, fun x => ⟨.inl, fun h => ?_⟩⟩
   ·rw [f30_1_u]
    unfold f30_1_s
    rw [iLt_f (by omega)]
    rfl
   ·rcases h with h | ⟨z, q, hz, hz2, _⟩
    ·exact h
    ·omega
  | succ k ih =>
   intro i n L hj hn h1 h2
   obtain ⟨n, rfl⟩ : ∃ z, n = z + 1 := ⟨n - 1, by omega⟩
   have hil : i < maps.length := by omega
   have hc := cnt i hil
   have hcl := cellL_le (l := maps) (j := i) 1
   rw [f30_1_u]
   unfold f30_1_s
   dsimp only
   obtain ⟨L1, e1, b1, b2, b3⟩ := In i hil (asL (T.cell (maps.getD i T.u) 1)).length 0 lf L (by omega) (by omega) h1 (by omega)
   rw [show ((0 : Nat) : Int) = 0 from rfl] at e1
   rw [iLt_t (by omega), inR_nat hil, e1]
   simp only [cond_t, Option.bind_some, nth0, nthS, asI_i, asL_l]
   rw [wrap_next hil (by omega)]
   obtain ⟨L', e, q1, q2, q3⟩ := ih (i + 1) n L1 (by omega) (by omega) b1 (by omega)
   refine ⟨L', e, q1, q2, fun x => ?_⟩
   rw [q3, b3]
   constructor
   ·rintro ((h | ⟨z, _, h2, h3⟩) | ⟨z, q, h1, h2, h3, h4⟩)
    ·exact .inl h
    ·exact .inr ⟨i, z, Nat.le_refl _, hil, h2, h3⟩
    ·exact .inr ⟨z, q, by omega, h2, h3, h4⟩
   ·rintro (h | ⟨z, q, h1, h2, h3, h4⟩)
    ·exact .inl (.inl h)
    ·by_cases e : z = i
     ·subst e; exact .inl (.inr ⟨q, Nat.zero_le _, h3, h4⟩)
     ·exact .inr ⟨z, q, by omega, h2, h3, h4⟩
 obtain ⟨L2, e2, c1, c2, c3⟩ := L1f maps.length 0 lf L1 (by omega) (by omega) a1 (by rw [List.drop_zero]; omega)
 rw [show ((0 : Nat) : Int) = 0 from rfl] at e2
 rw [e2] at E
 simp only [Option.bind_some, nth0, nthS, asL_l] at E
 rw [LL_ok] at E
 refine ⟨L2, E, fun x => ?_, by omega, c2⟩
 rw [c3, a3]
 have hno : x ∉ (List.replicate N ([] : List Int)).flatten := by simp
 constructor
 ·rintro ((h | ⟨i, _, h1, h2⟩) | ⟨z, q, _, h2, h3, h4⟩)
  ·exact absurd h hno
  ·exact .inl ⟨i, h1, h2⟩
  ·exact .inr ⟨z, q, h2, h3, h4⟩
 ·rintro (⟨i, h1, h2⟩ | ⟨z, q, h2, h3, h4⟩)
  ·exact .inl (.inr ⟨i, Nat.zero_le _, h1, h2⟩)
  ·exact .inr ⟨z, q, Nat.zero_le _, h2, h3, h4⟩
theorem c_concat {lf d : Nat} (hlf : 33554432 ≤ lf) (L : List (List Int)) (h1 : 1 ≤ L.flatten.length) (h2 : L.flatten.length ≤ 16777216) (h3 : L.length ≤ 16777216) : Cc lf (d + 1) 29 [.sl (LL L)] = some [.sl (IL L.flatten)] := by
 refine (f29_eq (Cc lf d) lf (LL L)).trans ?_
 unfold f29 f29_t
 dsimp only
 have step : ∀ j, j < L.length → L.drop j = L.getD j [] :: L.drop (j + 1) := fun j hj => by
  rw [List.drop_eq_getElem_cons hj, List.getD_eq_getElem?_getD, List.getElem?_eq_getElem hj]
  rfl
 have L0 : ∀ (k j n s : Nat), j + k = L.length → k < n → s + (L.drop j).flatten.length ≤ 16777216 → f29_0 (Cc lf d) lf (LL L) n s j = some [T.i .i64 0, T.sl (LL L), T.i .i64 ((s + (L.drop j).flatten.length : Nat) : Int)] := by
  intro k
  induction k with
  | zero =>
   intro j n s hj hn hs
   obtain ⟨n, rfl⟩ : ∃ z, n = z + 1 := ⟨n - 1, by omega⟩
   rw [f29_0_u]
   unfold f29_0_s
   rw [iLt_f (by rw [LL_len]; omega), List.drop_eq_nil_of_le (by omega)]
   rfl
  | succ k ih =>
   intro j n s hj hn hs
   obtain ⟨n, rfl⟩ : ∃ z, n = z + 1 := ⟨n - 1, by omega⟩
   have hjl : j < L.length := by omega
   rw [step j hjl, List.flatten_cons, List.length_append] at hs ⊢
   rw [f29_0_u]
   unfold f29_0_s
   rw [iLt_t (by rw [LL_len]; omega), inR_nat (by rw [LL_len]; exact hjl), Int.toNat_natCast, LL_at hjl]
   show (bif true then bif true then bif iLt (IntKind.wrap .i64 ((s : Int) + ((IL (L.getD j [])).length : Int))) 0 then none else f29_0 (Cc lf d) lf (LL L) n (IntKind.wrap .i64 ((s : Int) + ((IL (L.getD j [])).length : Int))) (IntKind.wrap .i64 ((j : Int) + 1)) else none else some [T.i .i64 0, T.sl (LL L), T.i .i64 (s : Int)]) = _
   rw [IL_len, wrap_in (x := (s : Int) + ((L.getD j []).length : Int)) (by omega) (by omega), iLt_f (by omega), wrap_next hjl (by omega)]
   simp only [cond_t, cond_f]
   have := ih (j + 1) n (s + (L.getD j []).length) (by omega) (by omega) (by omega)
   rw [show ((s + (L.getD j []).length : Nat) : Int) = (s : Int) + ((L.getD j []).length : Int) by omega] at this
   rw [this, Nat.add_assoc]
 have e0 := L0 L.length 0 lf 0 (by omega) (by omega) (by rw [List.drop_zero]; omega)
 rw [show ((0 : Nat) : Int) = 0 from rfl, List.drop_zero, Nat.zero_add] at e0
 rw [e0]
 simp only [Option.bind_some, nth0, nthS, asI_i, asL_l]
 rw [iLt_f (by omega), wrap_in (x := (L.flatten.length : Int) - 0) (by omega) (by omega), iLt_t (by omega), iLe_t (by omega), iLe_t (show (L.flatten.length : Int) - 0 ≤ (LIM : Int) by unfold LIM; omega), iLe_t (show (0 : Int) ≤ 0 by omega), iLe_t (show (0 : Int) ≤ ((List.replicate ((L.flatten.length : Int) - 0).toNat (T.i .i64 0)).length : Int) by omega)]
 simp only [cond_t, cond_f, Bool.and_self]
 have L1 : ∀ (k j n : Nat) (x4 : Nat) (x6 : List T) (pre : List Int), j + k = L.length → k < n → (x6.drop 0).take x4 = IL pre → pre.length + (L.drop j).flatten.length ≤ 16777216 → ∃ x4' x6', f29_1 (Cc lf d) lf [T.i .i64 0, T.sl (LL L), T.i .i64 (L.flatten.length : Int)] n x4 j x6 = some [T.i .i64 0, T.i .i64 (0 : Int), T.i .i64 ((x4' : Nat) : Int), T.sl x6'] ∧ (x6'.drop 0).take x4' = IL (pre ++ (L.drop j).flatten) := by
  intro k
  induction k with
  | zero =>
   intro j n x4 x6 pre hj hn hp hs
   obtain ⟨n, rfl⟩ : ∃ z, n = z + 1 := ⟨n - 1, by omega⟩
   refine ⟨x4, x6, ?_, by rw [hp, List.drop_eq_nil_of_le (show L.length ≤ j by omega), List.flatten_nil, List.append_nil]⟩
   rw [f29_1_u]
   unfold f29_1_s
   simp only [nth0, nthS, asL_l]
   rw [iLt_f (by rw [LL_len]; omega)]
   rfl
  | succ k ih =>
   intro j n x4 x6 pre hj hn hp hs
   obtain ⟨n, rfl⟩ : ∃ z, n = z + 1 := ⟨n - 1, by omega⟩
   have hjl : j < L.length := by omega
   rw [step j hjl, List.flatten_cons, List.length_append] at hs
   rw [f29_1_u]
   unfold f29_1_s
   simp only [nth0, nthS, asL_l]
   rw [iLt_t (by rw [LL_len]; omega), inR_nat (by rw [LL_len]; exact hjl), Int.toNat_natCast, LL_at hjl, hp, wrap_next hjl (by omega)]
   simp only [asL_l, cond_t]
   rw [nLe_t (by rw [IL_len, IL_len]; unfold LIM; omega), IL_app]
   simp only [cond_t]
   obtain ⟨x4', x6', e, q⟩ := ih (j + 1) n (IL (pre ++ L.getD j [])).length (IL (pre ++ L.getD j [])) (pre ++ L.getD j []) (by omega) (by omega) (by rw [List.drop_zero, List.take_length]) (by rw [List.length_append]; omega)
   exact ⟨x4', x6', e, by rw [q, step j hjl, List.flatten_cons, List.append_assoc]⟩
 obtain ⟨x4', x6', e, q⟩ := L1 L.length 0 lf (0 - 0) (List.replicate ((L.flatten.length : Int) - 0).toNat (T.i .i64 0)) [] (by omega) (by omega) (by rw [List.drop_zero]; rfl) (by rw [List.drop_zero]; simp only [List.length_nil]; omega)
 rw [show ((0 : Nat) : Int) = 0 from rfl] at e
 rw [e]
 simp only [Option.bind_some, nth0, nthS, asI_i, asL_l, Int.toNat_natCast]
 rw [show ((0 : Int).toNat) = 0 from rfl, q, List.nil_append, List.drop_zero]
theorem c_sort {lf d : Nat} (ns : List Int) (h : ns.length ≤ 16777216) : Cc lf (d + 1) 31 [.sl (IL ns)] = some [.sl (IL (ns.mergeSort fun x y => decide (x ≤ y)))] := by
 show (bif nLe (IL ns).length LIM then some [T.sl (sortI (IL ns))] else none) = _
 rw [nLe_t (by rw [IL_len]; unfold LIM; omega)]
 show some [T.sl ((((IL ns).map asI).mergeSort fun x y => decide (x ≤ y)).map (T.i .i64))] = _
 rw [IL_asI]
abbrev Sorted (l : List Int) : Prop := l.Pairwise (· ≤ ·)
theorem sort_le {l : List Int} (h : Sorted l) {i j : Nat} (hij : i ≤ j) (hj : j < l.length) : l.getD i 0 ≤ l.getD j 0 := by
 rw [getD_of hj, getD_of (show i < l.length by omega)]
 rcases Nat.lt_or_ge i j with h1 | h1
 ·exact List.pairwise_iff_getElem.1 h i j (by omega) hj h1
 ·have : i = j := by omega
  subst this; exact Int.le_refl _
theorem mem_take {l : List Int} {q : Nat} {x : Int} (h : x ∈ l.take q) : ∃ i, i < q ∧ i < l.length ∧ x = l.getD i 0 := by
 obtain ⟨i, hi, e⟩ := List.mem_iff_getElem.1 h
 rw [List.length_take] at hi
 rw [List.getElem_take] at e
 exact ⟨i, by omega, by omega, by rw [getD_of (by omega)]; exact e.symm⟩
theorem take_mem {l : List Int} {i q : Nat} (h : i < q) (hq : q ≤ l.length) : l.getD i 0 ∈ l.take q := by
 rw [getD_of (by omega)]
 exact List.mem_iff_getElem.2 ⟨i, by rw [List.length_take]; omega, List.getElem_take⟩
theorem i_ne {a b : Int} (h : a ≠ b) : (a != b) = true := by simp [h]
theorem i_nn {a b : Int} (h : a = b) : (a != b) = false := by simp [h]
theorem i_eq {a b : Int} (h : a = b) : (a == b) = true := by simp [h]
theorem i_nq {a b : Int} (h : a ≠ b) : (a == b) = false := by simp [h]
theorem splice_take (l v : List T) (k : Nat) (h : k ≤ l.length) : (splice l k v).take k = l.take k := by
 unfold splice
 rw [List.append_assoc, List.take_append_of_le_length (by rw [List.length_take]; omega), List.take_take, Nat.min_self]
set_option maxHeartbeats 2000000 in
theorem c_compact {lf d : Nat} (hlf : 33554432 ≤ lf) (ns : List Int) (hs : Sorted ns) (h2 : ns.length ≤ 16777216) : ∃ ns', Cc lf (d + 1) 33 [.sl (IL ns)] = some [.sl (IL ns')] ∧ Rise ns' ∧ (∀ x, x ∈ ns' ↔ x ∈ ns) ∧ ns'.length ≤ ns.length := by
 have E := f33_eq (Cc lf d) lf (IL ns)
 unfold f33 f33_t at E
 dsimp only at E
 by_cases hlen : ns.length < 2
 ·rw [iLt_t (by rw [IL_len]; omega), cond_t] at E
  refine ⟨ns, E, ?_, fun x => Iff.rfl, Nat.le_refl _⟩
  match ns, hlen with
  | [], _ => exact List.Pairwise.nil
  | [a], _ => exact List.pairwise_singleton _ _
 rw [iLt_f (by rw [IL_len]; omega), cond_f] at E
 have Inn : ∀ (k0 : Nat) (w k k2 n : Nat) (cur : List Int), 1 ≤ k0 → 1 ≤ k2 → k0 + k2 + w = ns.length → w < n → cur.length = ns.length → 1 ≤ k → k + 1 ≤ k0 + k2 → (∀ p, k ≤ p → cur.getD p 0 = ns.getD p 0) → Rise (cur.take k) → (∀ x, x ∈ cur.take k ↔ x ∈ ns.take (k0 + k2)) → ∃ k' cur', f33_1 (Cc lf d) lf (IL ns) (k0 : Int) n (k : Int) (k2 : Int) (IL cur) = some [T.i .i64 0, T.i .i64 ((k' : Nat) : Int), T.sl (IL cur')] ∧ cur'.length = ns.length ∧ k' < ns.length ∧ Rise (cur'.take k') ∧ (∀ x, x ∈ cur'.take k' ↔ x ∈ ns) := by
  intro k0 w
  induction w with
  | zero =>
   intro k k2 n cur h0 h1 hw hn hc hk hk2 hp hr hm
   obtain ⟨n, rfl⟩ : ∃ z, n = z + 1 := ⟨n - 1, by omega⟩
   refine ⟨k, cur, ?_, hc, by omega, hr, fun x => ?_⟩
   ·rw [f33_1_u]
    unfold f33_1_s
    rw [Int.toNat_natCast, Int.toNat_natCast, IL_len, iLt_f (by omega)]
    rfl
   ·rw [hm x, List.take_of_length_le (by omega)]
  | succ w ih =>
   intro k k2 n cur h0 h1 hw hn hc hk hk2 hp hr hm
   obtain ⟨n, rfl⟩ : ∃ z, n = z + 1 := ⟨n - 1, by omega⟩
   have hq : k0 + k2 < ns.length := by omega
   have hd : (k2 : Int) - 1 = ((k2 - 1 : Nat) : Int) := by omega
   rw [f33_1_u]
   unfold f33_1_s
   rw [Int.toNat_natCast, Int.toNat_natCast, Int.toNat_natCast, Int.toNat_natCast, IL_len, IL_len, iLt_t (by omega), inR_nat (by omega), wrap_in (x := (k2 : Int) - 1) (by omega) (by omega), hd, Int.toNat_natCast, inR_nat (show k2 - 1 < ns.length - k0 by omega), inR_nat (show k < cur.length by omega), wrap_next (show k2 < ns.length by omega) (by omega), wrap_next (show k < ns.length by omega) (by omega), IL_at (show k0 + k2 < cur.length by omega), IL_at (show k0 + (k2 - 1) < cur.length by omega), IL_set]
   simp only [cond_t, asI_i]
   rw [hp (k0 + k2) (by omega), hp (k0 + (k2 - 1)) (by omega)]
   have hle := sort_le hs (show k0 + (k2 - 1) ≤ k0 + k2 by omega) hq
   have hall : ∀ y ∈ ns.take (k0 + k2), y ≤ ns.getD (k0 + (k2 - 1)) 0 := fun y hy => by
    obtain ⟨i, hi, hi2, rfl⟩ := mem_take hy
    exact sort_le hs (by omega) (by omega)
   by_cases e : ns.getD (k0 + k2) 0 = ns.getD (k0 + (k2 - 1)) 0
   ·rw [i_nn e, cond_f]
    refine ih k (k2 + 1) n cur h0 (by omega) (by omega) (by omega) hc hk (by omega) hp hr fun x => ?_
    rw [hm x, show k0 + (k2 + 1) = k0 + k2 + 1 by omega, take_succ hq, List.mem_append, List.mem_singleton]
    constructor
    ·exact .inl
    ·rintro (h | h)
     ·exact h
     ·rw [h, e]; exact take_mem (by omega) (by omega)
   ·rw [i_ne e, cond_t]
    refine ih (k + 1) (k2 + 1) n (cur.set k (ns.getD (k0 + k2) 0)) h0 (by omega) (by omega) (by omega) (by rw [List.length_set]; exact hc) (by omega) (by omega) (fun p h => by rw [set_at _ (by omega)]; exact hp p (by omega)) ?_ fun x => ?_
    ·rw [set_take _ (by omega)]
     refine rise_app hr fun y hy => ?_
     have := hall y ((hm y).1 hy)
     omega
    ·rw [set_take _ (by omega), show k0 + (k2 + 1) = k0 + k2 + 1 by omega, take_succ hq, List.mem_append, List.mem_append, hm x]
 have Out : ∀ (w j n : Nat), 1 ≤ j → j + w = ns.length → w < n → Rise (ns.take j) → (f33_0 (Cc lf d) lf (IL ns) n (j : Int) = some [T.i .i64 1, T.sl (IL ns)] ∧ Rise ns) ∨ ∃ (k' : Nat) (L' : List T) (ns' : List Int), f33_0 (Cc lf d) lf (IL ns) n (j : Int) = some [T.i .i64 0, T.i .i64 0, T.i .i64 ((k' - 0 : Nat) : Int), T.sl L'] ∧ L'.take k' = IL ns' ∧ Rise ns' ∧ (∀ x, x ∈ ns' ↔ x ∈ ns) ∧ ns'.length ≤ ns.length := by
  intro w
  induction w with
  | zero =>
   intro j n h1 hj hn hr
   obtain ⟨n, rfl⟩ : ∃ z, n = z + 1 := ⟨n - 1, by omega⟩
   refine .inl ⟨?_, ?_⟩
   ·rw [f33_0_u]
    unfold f33_0_s
    rw [IL_len, iLt_f (by omega)]
    rfl
   ·rw [List.take_of_length_le (by omega)] at hr
    exact hr
  | succ w ih =>
   intro j n h1 hj hn hr
   obtain ⟨n, rfl⟩ : ∃ z, n = z + 1 := ⟨n - 1, by omega⟩
   have hq : j < ns.length := by omega
   have hd : (j : Int) - 1 = ((j - 1 : Nat) : Int) := by omega
   have hle := sort_le hs (show j - 1 ≤ j by omega) hq
   have hall : ∀ y ∈ ns.take j, y ≤ ns.getD (j - 1) 0 := fun y hy => by
    obtain ⟨i, hi, hi2, rfl⟩ := mem_take hy
    exact sort_le hs (by omega) (by omega)
   have hX : f33_0 (Cc lf d) lf (IL ns) (n + 1) (j : Int) = f33_0_s (Cc lf d) lf (IL ns) (f33_0 (Cc lf d) lf (IL ns) n) (fun (l0 : List T) (x322 : Int) (x323 : Int) (x324 : Int) (x325 : List T) => f33_1 (Cc lf d) lf l0 x322 lf x323 x324 x325) (j : Int) := f33_0_u ..
   unfold f33_0_s at hX
   rw [IL_len, iLt_t (by omega), inR_nat hq, wrap_in (x := (j : Int) - 1) (by omega) (by omega), hd, Int.toNat_natCast, Int.toNat_natCast, inR_nat (show j - 1 < ns.length by omega), IL_at hq, IL_at (show j - 1 < ns.length by omega), wrap_next hq (by omega)] at hX
   simp only [cond_t, asI_i] at hX
   by_cases e : ns.getD j 0 = ns.getD (j - 1) 0
   ·right
    rw [i_eq e, cond_t, iLe_t (by omega), iLe_t (by omega), iLe_t (by omega)] at hX
    obtain ⟨k', cur', e1, b1, b2, b3, b4⟩ := Inn j (ns.length - j - 1) j 1 lf ns h1 (by omega) (by omega) (by omega) rfl h1 (by omega) (fun p _ => rfl) hr (fun x => by
     rw [take_succ hq, List.mem_append, List.mem_singleton]
     constructor
     ·exact .inl
     ·rintro (h | h)
      ·exact h
      ·rw [h, e]; exact take_mem (by omega) (by omega))
    rw [show ((1 : Nat) : Int) = 1 from rfl] at e1
    rw [e1] at hX
    simp only [Option.bind_some, nth0, nthS, asI_i, asL_l, Bool.and_self, cond_t, Int.toNat_natCast] at hX
    rw [IL_len, iLe_t (by omega), iLe_t (by omega), iLe_t (by omega), iLe_t (by omega)] at hX
    simp only [Bool.and_self, Bool.true_and, cond_t] at hX
    have hsl : (splice (IL cur') k' (List.replicate (List.take (cur'.length - k') (List.drop k' (IL cur'))).length (T.i .i64 0))).length = cur'.length := by
     unfold splice
     simp only [List.length_append, List.length_take, List.length_drop, List.length_replicate, List.length_map]
     omega
    rw [hsl, iLe_t (by omega), cond_t] at hX
    exact ⟨k', _, cur'.take k', hX, by rw [splice_take _ _ _ (by rw [IL_len]; omega)]; exact List.map_take.symm, b3, b4, by rw [List.length_take]; omega⟩
   ·rw [i_nq e, cond_f] at hX
    have := ih (j + 1) n (by omega) (by omega) (by omega) (by
     rw [take_succ hq]
     refine rise_app hr fun y hy => ?_
     have := hall y hy
     omega)
    rw [hX]
    exact this
 rcases Out (ns.length - 1) 1 lf (by omega) (by omega) (by omega) (by
  rw [take_succ (show 0 < ns.length by omega)]
  exact List.pairwise_singleton _ _) with ⟨e, hr⟩ | ⟨k', L', ns', e, e2, hr, hm⟩
 ·rw [show ((1 : Nat) : Int) = 1 from rfl] at e
  rw [e] at E
  exact ⟨ns, E, hr, fun x => Iff.rfl, Nat.le_refl _⟩
 ·rw [show ((1 : Nat) : Int) = 1 from rfl] at e
  rw [e] at E
  simp only [Option.bind_some, nth0, nthS, asI_i, asL_l, Int.toNat_natCast, Nat.sub_zero] at E
  rw [show ((0 : Int).toNat) = 0 from rfl, List.drop_zero, e2] at E
  exact ⟨ns', E, hr, hm⟩
theorem filt_succ {l : List Int} {j : Nat} (h : j < l.length) : (l.take (j + 1)).filter (fun x => decide (0 ≤ x)) = (l.take j).filter (fun x => decide (0 ≤ x)) ++ (if 0 ≤ l.getD j 0 then [l.getD j 0] else []) := by
 rw [take_succ h, List.filter_append]
 generalize l.getD j 0 = x
 by_cases h : 0 ≤ x <;> simp [h]
theorem c_drop {lf d : Nat} (n : Int) : Cc lf (d + 1) 34 [.i .i64 n] = some [.b (iLt n 0)] := by
 refine (f34_eq (Cc lf d) lf n).trans ?_
 rfl
set_option maxHeartbeats 2000000 in
theorem c_iLiveOf {lf d : Nat} (hlf : 33554432 ≤ lf) (l0 : List T) (n1 n2 : Int) (rows maps : List T) (n5 n6 : Int) (hr : rows.length ≤ 1048576) (hm : maps.length + tls maps ≤ 1048576) : ∃ S, Cc lf (d + 3) 9 [.st [.sl l0, .i .i64 n1, .i .i64 n2, .sl rows, .sl maps, .i .i64 n5, .i .i64 n6]] = some [.sl (IL S)] ∧ Rise S ∧ (∀ x, x ∈ S ↔ 0 ≤ x ∧ leadTo rows maps n5 n6 x) := by
 have E := f9_eq (Cc lf (d + 2)) lf l0 n1 n2 rows maps n5 n6
 unfold f9 f9_t at E
 dsimp only at E
 obtain ⟨L, eL, mL, hL1, hL2⟩ := c_leads (d := d + 1) hlf l0 n1 n2 rows maps n5 n6 hr hm
 rw [eL] at E
 simp only [Option.bind_some, nth0, nthS, asL_l] at E
 have eA : LL L ++ ([T.sl ([T.i .i64 n6, T.i .i64 n5] : List T)] : List T) = LL (L ++ [[n6, n5]]) := by
  show _ = (L ++ [[n6, n5]]).map _
  rw [List.map_append]
  rfl
 have hfl : (L ++ [[n6, n5]]).flatten.length = L.flatten.length + 2 := by
  rw [List.flatten_append, List.length_append]; rfl
 rw [eA, nLe_t (by rw [LL_len]; show L.length + 1 ≤ _; unfold LIM; omega), cond_t, c_concat (d := d + 1) hlf _ (by omega) (by omega) (by rw [List.length_append]; show L.length + 1 ≤ _; omega)] at E
 simp only [Option.bind_some, nth0, nthS, asL_l] at E
 rw [c_sort (d := d + 1) _ (by omega)] at E
 simp only [Option.bind_some, nth0, nthS, asL_l] at E
 have hso : Sorted ((L ++ [[n6, n5]]).flatten.mergeSort fun x y => decide (x ≤ y)) := by
  have := List.pairwise_mergeSort (le := fun x y : Int => decide (x ≤ y)) (fun a b c h1 h2 => by simp at *; omega) (fun a b => by simp; omega) (L ++ [[n6, n5]]).flatten
  exact this.imp fun h => by simpa using h
 have hsl := List.length_mergeSort (le := fun x y : Int => decide (x ≤ y)) (L ++ [[n6, n5]]).flatten
 obtain ⟨ns, eC, rC, mC, lC⟩ := c_compact (d := d + 1) hlf _ hso (by omega)
 rw [eC] at E
 simp only [Option.bind_some, nth0, nthS, asL_l] at E
 have hnl : ns.length ≤ 8388608 := by omega
 have hmem : ∀ x, x ∈ ns ↔ leadTo rows maps n5 n6 x := fun x => by
  rw [mC x, List.mem_mergeSort, List.flatten_append, List.mem_append, mL x]
  unfold leadTo
  simp only [List.flatten_cons, List.flatten_nil, List.append_nil, List.mem_cons, List.not_mem_nil, or_false]
  constructor
  ·rintro ((⟨j, h1, h2⟩ | ⟨z, q, h1, h2, h3⟩) | h | h)
   ·exact .inr (.inr (.inl ⟨j, h1, h2⟩))
   ·exact .inr (.inr (.inr ⟨z, q, h1, h2, h3⟩))
   ·exact .inl h
   ·exact .inr (.inl h)
  ·rintro (h | h | ⟨j, h1, h2⟩ | ⟨z, q, h1, h2, h3⟩)
   ·exact .inr (.inl h)
   ·exact .inr (.inr h)
   ·exact .inl (.inl ⟨j, h1, h2⟩)
   ·exact .inl (.inr ⟨z, q, h1, h2, h3⟩)
 have fin : ∀ S : List Int, S = ns.filter (fun x => decide (0 ≤ x)) → Rise S ∧ (∀ x, x ∈ S ↔ 0 ≤ x ∧ leadTo rows maps n5 n6 x) := fun S h => by
  subst h
  refine ⟨List.Pairwise.filter _ rC, fun x => ?_⟩
  rw [List.mem_filter, hmem x, decide_eq_true_eq, and_comm]
 have I0 : ∀ (w j n : Nat), j + w = ns.length → w < n → (ns.take j).filter (fun x => decide (0 ≤ x)) = ns.take j → (f9_0 (Cc lf (d + 2)) lf [T.sl (IL ns)] n (j : Int) = some [T.i .i64 1, T.sl (IL ns)] ∧ ns.filter (fun x => decide (0 ≤ x)) = ns) ∨ ∃ i : Nat, f9_0 (Cc lf (d + 2)) lf [T.sl (IL ns)] n (j : Int) = some [T.i .i64 0, T.i .i64 (i : Int), T.sl (IL ns)] ∧ i < ns.length ∧ (ns.take (i + 1)).filter (fun x => decide (0 ≤ x)) = ns.take i := by
  intro w
  induction w with
  | zero =>
   intro j n hj hn hf
   obtain ⟨n, rfl⟩ : ∃ z, n = z + 1 := ⟨n - 1, by omega⟩
   refine .inl ⟨?_, ?_⟩
   ·rw [f9_0_u]
    unfold f9_0_s
    simp only [nth0, asL_l]
    rw [IL_len, iLt_f (by omega)]
    rfl
   ·rw [List.take_of_length_le (by omega)] at hf
    exact hf
  | succ w ih =>
   intro j n hj hn hf
   obtain ⟨n, rfl⟩ : ∃ z, n = z + 1 := ⟨n - 1, by omega⟩
   have hq : j < ns.length := by omega
   have hX : f9_0 (Cc lf (d + 2)) lf [T.sl (IL ns)] (n + 1) (j : Int) = _ := f9_0_u ..
   unfold f9_0_s at hX
   simp only [nth0, asL_l] at hX
   rw [IL_len, iLt_t (by omega), inR_nat hq, Int.toNat_natCast, IL_at hq, asI_i, c_drop (d := d + 1), wrap_next hq (by omega)] at hX
   simp only [cond_t, Option.bind_some, nth0, asB_b] at hX
   have hs := filt_succ hq
   by_cases h : ns.getD j 0 < 0
   ·right
    rw [iLt_t h, cond_t] at hX
    refine ⟨j, hX, hq, ?_⟩
    rw [hs, if_neg (by omega), hf, List.append_nil]
   ·rw [iLt_f h, cond_f] at hX
    rw [hX]
    exact ih (j + 1) n (by omega) (by omega) (by rw [hs, if_pos (by omega), hf, take_succ hq])
 have I1 : ∀ (w i j n : Nat) (cur : List Int), j + w = ns.length → w < n → i < j → cur.length = ns.length → (∀ p, j ≤ p → cur.getD p 0 = ns.getD p 0) → cur.take i = (ns.take j).filter (fun x => decide (0 ≤ x)) → ∃ (i' : Nat) (cur' : List Int), f9_1 (Cc lf (d + 2)) lf n (i : Int) (j : Int) (IL cur) = some [T.i .i64 0, T.i .i64 (i' : Int), T.sl (IL cur')] ∧ i' ≤ ns.length ∧ cur'.length = ns.length ∧ cur'.take i' = ns.filter (fun x => decide (0 ≤ x)) := by
  intro w
  induction w with
  | zero =>
   intro i j n cur hj hn hij hc hp hf
   obtain ⟨n, rfl⟩ : ∃ z, n = z + 1 := ⟨n - 1, by omega⟩
   refine ⟨i, cur, ?_, by omega, hc, ?_⟩
   ·rw [f9_1_u]
    unfold f9_1_s
    rw [IL_len, iLt_f (by omega)]
    rfl
   ·rw [List.take_of_length_le (i := j) (by omega)] at hf
    exact hf
  | succ w ih =>
   intro i j n cur hj hn hij hc hp hf
   obtain ⟨n, rfl⟩ : ∃ z, n = z + 1 := ⟨n - 1, by omega⟩
   have hq : j < ns.length := by omega
   have hs := filt_succ hq
   rw [f9_1_u]
   unfold f9_1_s
   rw [IL_len, iLt_t (by omega), inR_nat (by omega), Int.toNat_natCast, Int.toNat_natCast, IL_at (show j < cur.length by omega), asI_i, c_drop (d := d + 1), wrap_next hq (by omega), wrap_next (show i < ns.length by omega) (by omega), inR_nat (show i < cur.length by omega), IL_set]
   simp only [cond_t, Option.bind_some, nth0, asB_b]
   rw [hp j (Nat.le_refl _)]
   by_cases h : ns.getD j 0 < 0
   ·rw [iLt_t h]
    exact ih i (j + 1) n cur (by omega) (by omega) (by omega) hc (fun p h => hp p (by omega)) (by rw [hs, if_neg (by omega), List.append_nil, hf])
   ·rw [iLt_f h]
    exact ih (i + 1) (j + 1) n (cur.set i (ns.getD j 0)) (by omega) (by omega) (by omega) (by rw [List.length_set]; exact hc) (fun p h => by rw [set_at _ (by omega)]; exact hp p (by omega)) (by rw [set_take _ (by omega), hs, if_pos (by omega), hf])
 rcases I0 ns.length 0 lf (by omega) (by omega) rfl with ⟨e, hf⟩ | ⟨i, e, hi, hf⟩
 ·rw [show ((0 : Nat) : Int) = 0 from rfl] at e
  rw [e] at E
  exact ⟨ns, E, fin ns hf.symm⟩
 ·rw [show ((0 : Nat) : Int) = 0 from rfl] at e
  rw [e] at E
  simp only [Option.bind_some, nth0, nthS, asI_i, asL_l] at E
  rw [show (T.i .i64 0 : T) = T.i .i64 0 from rfl, i_eq rfl, cond_t, i_nq (by omega), cond_f, wrap_next hi (by omega)] at E
  obtain ⟨i', cur', e1, h1, h2, h3⟩ := I1 (ns.length - (i + 1)) i (i + 1) lf ns (by omega) (by omega) (by omega) rfl (fun p _ => rfl) hf.symm
  rw [e1] at E
  simp only [Option.bind_some, nth0, nthS, asI_i, asL_l, Int.toNat_natCast] at E
  rw [IL_len, iLe_t (by omega), iLe_t (by omega), iLe_t (by omega), iLe_t (by omega)] at E
  simp only [Bool.and_self, Bool.true_and, cond_t] at E
  have hsl : (splice (IL cur') i' (List.replicate (List.take (cur'.length - i') (List.drop i' (IL cur'))).length (T.i .i64 0))).length = cur'.length := by
   unfold splice
   simp only [List.length_append, List.length_take, List.length_drop, List.length_replicate, List.length_map]
   omega
  rw [hsl, iLe_t (by omega), cond_t, List.drop_zero, Nat.sub_zero, splice_take _ _ _ (by rw [IL_len]; omega), show (IL cur').take i' = IL (cur'.take i') from List.map_take.symm] at E
  exact ⟨_, E, fin _ h3⟩
theorem liveImg {l0 : List T} {n1 n2 : Int} {rows maps : List T} {n5 n6 : Int} (z : tl (.st [.sl l0, .i .i64 n1, .i .i64 n2, .sl rows, .sl maps, .i .i64 n5, .i .i64 n6]) ≤ 1048576) : rows.length ≤ 1048576 ∧ maps.length + tls maps ≤ 1048576 := by
 simp only [tl, tls] at z
 omega
theorem c_index {lf d : Nat} (hlf : 33554432 ≤ lf) (ns : List Int) (n : Int) (hs : ns.length ≤ 16777216) : ∃ r, Cc lf (d + 1) 71 [.sl (IL ns), .i .i64 n] = some [.i .i64 r] ∧ iLe 0 r = decide (n ∈ ns) := by
 have E := f71_eq (Cc lf d) lf (IL ns) n
 unfold f71 f71_t at E
 dsimp only at E
 rcases find_loop (F := fun m j => f71_0 (Cc lf d) lf (IL ns) n m j) (P := fun j => !(n == ns.getD j 0)) (X := fun j => some [T.i .i64 0, T.i .i64 (j : Int)]) (Y := some [T.i .i64 1]) (len := ns.length) (fun m j hj => by
  rw [f71_0_u]
  unfold f71_0_s
  rw [iLt_t (by rw [IL_len]; omega), inR_nat (by rw [IL_len]; exact hj), Int.toNat_natCast, IL_at hj, wrap_next hj (by omega)]
  simp only [asI_i, cond_t]
  cases n == ns.getD j 0 <;> rfl) (fun m => by
  rw [f71_0_u]
  unfold f71_0_s
  rw [iLt_f (by rw [IL_len]; omega)]
  rfl) (n := lf) (by omega) with ⟨h, e⟩ | ⟨_, j, hj, h, e⟩
 ·rw [e] at E
  refine ⟨-1, E, ?_⟩
  rw [iLe_f (by omega)]
  symm
  refine decide_eq_false fun hm => ?_
  obtain ⟨j, hj, e⟩ := List.getElem_of_mem hm
  have := allB_iff.1 h j hj
  rw [getD_of hj, e] at this
  simp at this
 ·rw [e] at E
  refine ⟨(j : Int), E, ?_⟩
  rw [iLe_t (by omega)]
  symm
  refine decide_eq_true ?_
  rw [getD_of hj] at h
  cases e : n == ns[j] with
  | false => rw [e] at h; cases h
  | true => rw [beq_iff_eq.1 e]; exact List.getElem_mem hj
theorem c_contains {lf d : Nat} (hlf : 33554432 ≤ lf) (ns : List Int) (n : Int) (hs : ns.length ≤ 16777216) : Cc lf (d + 2) 45 [.sl (IL ns), .i .i64 n] = some [.b (decide (n ∈ ns))] := by
 refine (f45_eq (Cc lf (d + 1)) lf (IL ns) n).trans ?_
 unfold f45 f45_t
 obtain ⟨r, e, h⟩ := c_index (d := d) hlf ns n hs
 rw [e]
 show some [T.b (iLe 0 r)] = _
 rw [h]
def deadP (S : List Int) (ps : List T) (b : Int) (j : Nat) : Bool := pageU ps j && !(decide (IntKind.wrap .i64 (IntKind.wrap .i64 (b * 8) + (j : Int)) ∈ S))
def deadN (S : List Int) (ps : List T) (b : Int) : Nat := cntB (deadP S ps b) ps.length
def deadV (S : List Int) (l : List T) (b : Int) : Nat := bif iLe 0 b && iLt b (l.length : Int) then deadN S (asL (T.cell (l.getD b.toNat T.u) 0)) b else 0
theorem deadV_at {S : List Int} {l : List T} {j : Nat} (hj : j < l.length) : deadV S l (j : Int) = deadN S (asL (T.cell (l.getD j T.u) 0)) (j : Int) := by
 unfold deadV
 rw [iLe_t (by omega), iLt_t (by omega), Int.toNat_natCast]
 rfl
theorem blk_no {l : List T} {n : Int} (hn : ¬ (0 ≤ n ∧ n < (l.length : Int))) : (iLe 0 n && iLt n (l.length : Int)) = false := by
 by_cases h : 0 ≤ n
 ·rw [iLe_t h, iLt_f (by omega)]; rfl
 ·rw [iLe_f h]; rfl
theorem c_sDeadIn {lf d : Nat} (hlf : 33554432 ≤ lf) (l : List T) (ops : Int) (fs : List T) (dn : Bool) (sq : Int) (l0 : List T) (n1 n2 : Int) (rows maps : List T) (n5 n6 : Int) (b : Int) (hs : l.length + tls l ≤ 16777216) {S : List Int} (hS : S.length ≤ 16777216) (eS : Cc lf (d + 1) 7 [.st [.sl l0, .i .i64 n1, .i .i64 n2, .sl rows, .sl maps, .i .i64 n5, .i .i64 n6]] = some [.sl (IL S)]) :
 Cc lf (d + 2) 16 [.st [.sl l, .i .i64 ops, .sl fs, .b dn, .i .i64 sq], .st [.sl l0, .i .i64 n1, .i .i64 n2, .sl rows, .sl maps, .i .i64 n5, .i .i64 n6], .i .i64 b] = some [.i .i64 (deadV S l b : Nat)] := by
 refine (f16_eq (Cc lf (d + 1)) lf l ops fs dn sq l0 n1 n2 rows maps n5 n6 b).trans ?_
 unfold f16 f16_t
 dsimp only
 rw [eS]
 simp only [Option.bind_some]
 by_cases hb : 0 ≤ b ∧ b < (l.length : Int)
 ·obtain ⟨j, rfl⟩ : ∃ j : Nat, b = (j : Int) := ⟨b.toNat, by omega⟩
  have hj : j < l.length := by omega
  have hp := cellL_le (l := l) (j := j) 0
  have L := cnt_loop (F := fun n x k => f16_0 (Cc lf (d + 1)) lf dn l fs (j : Int) ops sq [T.sl (IL S)] n x k) (P := deadP S (asL (T.cell (l.getD j T.u) 0)) (j : Int)) (Y := fun x => some [T.i .i64 0, T.i .i64 x]) (len := (asL (T.cell (l.getD j T.u) 0)).length) (by omega) (fun n x k hk hx => by
   rw [f16_0_u]
   unfold f16_0_s
   simp only [nth0, asL_l]
   rw [iLe_t (by omega), iLt_t (by omega), inR_nat hj, Int.toNat_natCast, iLt_t (by omega), inR_nat hk, wrap_next hk (by omega), Int.toNat_natCast, c_has (d := d) hlf S _ hS]
   simp only [cond_t, Option.bind_some, nth0, asB_b]
   unfold deadP pageU
   cases asB (T.cell ((asL (T.cell (l.getD j T.u) 0)).getD k T.u) 0) with
   | false => rfl
   | true => cases decide (IntKind.wrap .i64 (IntKind.wrap .i64 ((j : Int) * 8) + (k : Int)) ∈ S) <;> rfl) (fun n x => by
   rw [f16_0_u]
   unfold f16_0_s
   rw [iLe_t (by omega), iLt_t (by omega), inR_nat hj, Int.toNat_natCast, iLt_f (by omega)]
   rfl) (n := lf) (by omega)
  rw [L, deadV_at hj]
  rfl
 ·obtain ⟨n, rfl⟩ : ∃ z, lf = z + 1 := ⟨lf - 1, by omega⟩
  rw [f16_0_u]
  unfold f16_0_s deadV
  rw [blk_no hb]
  by_cases h : 0 ≤ b
  ·rw [iLe_t h, iLt_f (by omega)]; rfl
  ·rw [iLe_f h]; rfl
theorem c_iDeadIn {lf d : Nat} (hlf : 33554432 ≤ lf) (l : List T) (ops : Int) (fs : List T) (dn : Bool) (sq : Int) (l0 : List T) (n1 n2 : Int) (rows maps : List T) (n5 n6 : Int) (b : Int) (hs : l.length + tls l ≤ 16777216) {S : List Int} (hS : S.length ≤ 16777216) (eS : Cc lf (d + 2) 9 [.st [.sl l0, .i .i64 n1, .i .i64 n2, .sl rows, .sl maps, .i .i64 n5, .i .i64 n6]] = some [.sl (IL S)]) :
 Cc lf (d + 3) 18 [.st [.sl l, .i .i64 ops, .sl fs, .b dn, .i .i64 sq], .st [.sl l0, .i .i64 n1, .i .i64 n2, .sl rows, .sl maps, .i .i64 n5, .i .i64 n6], .i .i64 b] = some [.i .i64 (deadV S l b : Nat)] := by
 refine (f18_eq (Cc lf (d + 2)) lf l ops fs dn sq l0 n1 n2 rows maps n5 n6 b).trans ?_
 unfold f18 f18_t
 dsimp only
 rw [eS, c_isBlock (d := d) l b (by omega)]
 simp only [Option.bind_some, nth0, asB_b]
 by_cases hb : 0 ≤ b ∧ b < (l.length : Int)
 ·obtain ⟨j, rfl⟩ : ∃ j : Nat, b = (j : Int) := ⟨b.toNat, by omega⟩
  have hj : j < l.length := by omega
  have hp := cellL_le (l := l) (j := j) 0
  have L := cnt_loop (F := fun n x k => f18_0 (Cc lf (d + 2)) lf l (j : Int) [T.sl (IL S)] n x k) (P := deadP S (asL (T.cell (l.getD j T.u) 0)) (j : Int)) (Y := fun x => some [T.i .i64 0, T.i .i64 x]) (len := (asL (T.cell (l.getD j T.u) 0)).length) (by omega) (fun n x k hk hx => by
   rw [f18_0_u]
   unfold f18_0_s
   simp only [nth0, asL_l]
   rw [Int.toNat_natCast, iLt_t (by omega), inR_nat hk, wrap_next hk (by omega), Int.toNat_natCast, c_contains (d := d) hlf S _ hS]
   simp only [cond_t, Option.bind_some, nth0, asB_b]
   unfold deadP pageU
   cases asB (T.cell ((asL (T.cell (l.getD j T.u) 0)).getD k T.u) 0) with
   | false => rfl
   | true => cases decide (IntKind.wrap .i64 (IntKind.wrap .i64 ((j : Int) * 8) + (k : Int)) ∈ S) <;> rfl) (fun n x => by
   rw [f18_0_u]
   unfold f18_0_s
   rw [Int.toNat_natCast, iLt_f (by omega)]
   rfl) (n := lf) (by omega)
  rw [iLe_t (by omega), iLt_t (by omega), inR_nat hj, deadV_at hj]
  simp only [Bool.and_self, Bool.not_true, cond_f, cond_t]
  rw [L]
  rfl
 ·unfold deadV
  rw [blk_no hb]
  rfl
def wholeB (l : List T) (j : Nat) : Bool := !(asB (T.cell (l.getD j T.u) 2)) && ((usedN (asL (T.cell (l.getD j T.u) 0)) : Nat) : Int) == 8
theorem c_whole {lf d : Nat} (hlf : 33554432 ≤ lf) (l : List T) (ops : Int) (fs : List T) (dn : Bool) (sq : Int) (j : Nat) (hj : j < l.length) (hs : l.length + tls l ≤ 16777216) :
 Cc lf (d + 4) 48 [.st [.sl l, .i .i64 ops, .sl fs, .b dn, .i .i64 sq], .i .i64 (j : Int)] = some [.b (wholeB l j)] := by
 refine (f48_eq (Cc lf (d + 3)) lf l ops fs dn sq j).trans ?_
 unfold f48 f48_t
 rw [c_isBlock l j (by omega), iLe_t (by omega), iLt_t (by omega), inR_nat hj, c_iNext hlf l j hj hs]
 simp only [Option.bind_some, nth0, asB_b, asI_i, Bool.and_self, cond_t, Int.toNat_natCast]
 unfold wholeB
 cases asB (T.cell (l.getD j T.u) 2) <;> rfl
def vicG (S : List Int) (l : List T) (s : Int × Int) (j : Nat) : Int × Int := bif wholeB l j && iLt s.2 ((deadV S l (j : Int) : Nat) : Int) then ((j : Int), ((deadV S l (j : Int) : Nat) : Int)) else s
def vicB (S : List Int) (l : List T) : Int := (foldN (vicG S l) ((-1 : Int), (0 : Int)) l.length).1
theorem vicG_in {S : List Int} {l : List T} {s : Int × Int} {j : Nat} (h : s.1 < j ∧ -1 ≤ s.1) : (vicG S l s j).1 < ((j + 1 : Nat) : Int) ∧ -1 ≤ (vicG S l s j).1 := by
 unfold vicG
 cases wholeB l j && iLt s.2 ((deadV S l (j : Int) : Nat) : Int) <;> simp only [cond_t, cond_f] <;> omega
theorem c_sVictim {lf d : Nat} (hlf : 33554432 ≤ lf) (l : List T) (ops : Int) (fs : List T) (dn : Bool) (sq : Int) (l0 : List T) (n1 n2 : Int) (rows maps : List T) (n5 n6 : Int) (hs : l.length + tls l ≤ 16777216) {S : List Int} (hS : S.length ≤ 16777216) (eS : Cc lf (d + 1) 7 [.st [.sl l0, .i .i64 n1, .i .i64 n2, .sl rows, .sl maps, .i .i64 n5, .i .i64 n6]] = some [.sl (IL S)]) :
 Cc lf (d + 3) 20 [.st [.sl l, .i .i64 ops, .sl fs, .b dn, .i .i64 sq], .st [.sl l0, .i .i64 n1, .i .i64 n2, .sl rows, .sl maps, .i .i64 n5, .i .i64 n6]] = some [.i .i64 (vicB S l)] ∧ vicB S l < (l.length : Int) ∧ -1 ≤ vicB S l := by
 have L := fold_loop (S := Int × Int) (F := fun n s j => f20_0 (Cc lf (d + 2)) lf dn l fs l0 rows maps ops sq n1 n2 n5 n6 n s.1 s.2 j) (g := vicG S l) (I := fun s j => s.1 < (j : Int) ∧ -1 ≤ s.1) (Y := fun s => some [T.i .i64 0, T.i .i64 s.1]) (len := l.length) (fun n s j hj hi => by
  have hp := cellL_le (l := l) (j := j) 0
  show f20_0 (Cc lf (d + 2)) lf dn l fs l0 rows maps ops sq n1 n2 n5 n6 (n + 1) s.1 s.2 j = f20_0 (Cc lf (d + 2)) lf dn l fs l0 rows maps ops sq n1 n2 n5 n6 n (vicG S l s j).1 (vicG S l s j).2 ((j + 1 : Nat) : Int)
  rw [f20_0_u]
  unfold f20_0_s
  rw [iLt_t (by omega), inR_nat hj, wrap_next hj (by omega), Int.toNat_natCast, c_sNext hlf _ _ _ (by omega), c_sDeadIn (d := d) hlf l ops fs dn sq l0 n1 n2 rows maps n5 n6 (j : Int) hs hS eS]
  simp only [Option.bind_some, nth0, asI_i, cond_t, vicG, wholeB]
  cases asB (T.cell (l.getD j T.u) 2) with
  | true => rfl
  | false =>
   simp only [cond_f, Bool.not_false, Bool.true_and]
   cases e : ((usedN (asL (T.cell (l.getD j T.u) 0)) : Nat) : Int) == 8 with
   | false => simp only [bne, e, Bool.not_false, cond_t, Bool.false_and, cond_f]
   | true =>
    simp only [bne, e, Bool.not_true, cond_f, Bool.true_and]
    cases iLt s.2 ((deadV S l (j : Int) : Nat) : Int) <;> rfl) (fun s j hj hi => vicG_in hi) (fun n s hi => by
  show f20_0 (Cc lf (d + 2)) lf dn l fs l0 rows maps ops sq n1 n2 n5 n6 (n + 1) s.1 s.2 (l.length : Int) = _
  rw [f20_0_u]
  unfold f20_0_s
  rw [iLt_f (by omega)]
  rfl) (n := lf) (by omega) (s := ((-1 : Int), (0 : Int))) ⟨by show (-1 : Int) < 0; omega, by show (-1 : Int) ≤ -1; omega⟩
 refine ⟨?_, L.2⟩
 refine (f20_eq (Cc lf (d + 2)) lf l ops fs dn sq l0 n1 n2 rows maps n5 n6).trans ?_
 unfold f20 f20_t
 dsimp only
 have L1 := L.1
 dsimp only at L1
 rw [L1]
 rfl
theorem c_iVictim {lf d : Nat} (hlf : 33554432 ≤ lf) (l : List T) (ops : Int) (fs : List T) (dn : Bool) (sq : Int) (l0 : List T) (n1 n2 : Int) (rows maps : List T) (n5 n6 : Int) (hs : l.length + tls l ≤ 16777216) {S : List Int} (hS : S.length ≤ 16777216) (eS : Cc lf (d + 3) 9 [.st [.sl l0, .i .i64 n1, .i .i64 n2, .sl rows, .sl maps, .i .i64 n5, .i .i64 n6]] = some [.sl (IL S)]) :
 Cc lf (d + 5) 21 [.st [.sl l, .i .i64 ops, .sl fs, .b dn, .i .i64 sq], .st [.sl l0, .i .i64 n1, .i .i64 n2, .sl rows, .sl maps, .i .i64 n5, .i .i64 n6]] = some [.i .i64 (vicB S l)] := by
 have L := fold_loop (S := Int × Int) (F := fun n s j => f21_0 (Cc lf (d + 4)) lf dn l fs l0 rows maps ops sq n1 n2 n5 n6 n s.1 s.2 j) (g := vicG S l) (I := fun s j => s.1 < (j : Int) ∧ -1 ≤ s.1) (Y := fun s => some [T.i .i64 0, T.i .i64 s.1]) (len := l.length) (fun n s j hj hi => by
  have hp := cellL_le (l := l) (j := j) 0
  show f21_0 (Cc lf (d + 4)) lf dn l fs l0 rows maps ops sq n1 n2 n5 n6 (n + 1) s.1 s.2 j = f21_0 (Cc lf (d + 4)) lf dn l fs l0 rows maps ops sq n1 n2 n5 n6 n (vicG S l s j).1 (vicG S l s j).2 ((j + 1 : Nat) : Int)
  rw [f21_0_u]
  unfold f21_0_s
  rw [iLt_t (by omega), wrap_next hj (by omega), c_whole (d := d) hlf l ops fs dn sq j hj hs, c_iDeadIn (d := d + 1) hlf l ops fs dn sq l0 n1 n2 rows maps n5 n6 (j : Int) hs hS eS]
  simp only [Option.bind_some, nth0, asI_i, asB_b, cond_t, vicG]
  cases wholeB l j with
  | false => rfl
  | true =>
   simp only [cond_t, Bool.true_and]
   cases iLt s.2 ((deadV S l (j : Int) : Nat) : Int) <;> rfl) (fun s j hj hi => vicG_in hi) (fun n s hi => by
  show f21_0 (Cc lf (d + 4)) lf dn l fs l0 rows maps ops sq n1 n2 n5 n6 (n + 1) s.1 s.2 (l.length : Int) = _
  rw [f21_0_u]
  unfold f21_0_s
  rw [iLt_f (by omega)]
  rfl) (n := lf) (by omega) (s := ((-1 : Int), (0 : Int))) ⟨by show (-1 : Int) < 0; omega, by show (-1 : Int) ≤ -1; omega⟩
 refine (f21_eq (Cc lf (d + 4)) lf l ops fs dn sq l0 n1 n2 rows maps n5 n6).trans ?_
 unfold f21 f21_t
 dsimp only
 have L1 := L.1
 dsimp only at L1
 rw [L1]
 rfl
theorem same {lf : Nat} (hlf : 33554432 ≤ lf) (l : List T) (ops : Int) (fs : List T) (dn : Bool) (sq : Int) {cs0 : List CT} (hf0 : fitE true cs0 (.st [.sl l, .i .i64 ops, .sl fs, .b dn, .i .i64 sq])) (z0 : tl (.st [.sl l, .i .i64 ops, .sl fs, .b dn, .i .i64 sq]) ≤ 1048576) (l0 : List T) (n1 n2 : Int) (rows maps : List T) (n5 n6 : Int) {cs : List CT} (hf : fitE true cs (.st [.sl l0, .i .i64 n1, .i .i64 n2, .sl rows, .sl maps, .i .i64 n5, .i .i64 n6])) (z : tl (.st [.sl l0, .i .i64 n1, .i .i64 n2, .sl rows, .sl maps, .i .i64 n5, .i .i64 n6]) ≤ 1048576) :
 ∃ r, Cc lf 13 20 [.st [.sl l, .i .i64 ops, .sl fs, .b dn, .i .i64 sq], .st [.sl l0, .i .i64 n1, .i .i64 n2, .sl rows, .sl maps, .i .i64 n5, .i .i64 n6]] = some [r] ∧ Cc lf 13 21 [.st [.sl l, .i .i64 ops, .sl fs, .b dn, .i .i64 sq], .st [.sl l0, .i .i64 n1, .i .i64 n2, .sl rows, .sl maps, .i .i64 n5, .i .i64 n6]] = some [r] ∧ (fitC (.i .i64) r ∧ tl r ≤ 16777216) ∧ True := by
 obtain ⟨hr, hm⟩ := liveImg z
 obtain ⟨S, eS, rS, mS, lS⟩ := c_sLiveOf (d := 7) hlf l0 n1 n2 rows maps n5 n6 hr hm
 obtain ⟨S', eI, rI, mI⟩ := c_iLiveOf (d := 8) hlf l0 n1 n2 rows maps n5 n6 hr hm
 obtain rfl : S = S' := rise_uniq rS rI fun x => (mS x).trans (mI x).symm
 simp only [tl, tls] at z0
 obtain ⟨h1, h2, h3⟩ := c_sVictim (d := 10) hlf l ops fs dn sq l0 n1 n2 rows maps n5 n6 (by omega) (by omega) eS
 exact ⟨_, h1, c_iVictim (d := 8) hlf l ops fs dn sq l0 n1 n2 rows maps n5 n6 (by omega) (by omega) eI, ⟨⟨rfl, wf64 (by omega) (by omega)⟩, Nat.zero_le _⟩, trivial⟩
theorem lawB {lf : Nat} (hlf : 33554432 ≤ lf) {t0 : T} (ht0 : fitE true csfit_MMbScEibEiMiiiEbi t0) {t1 : T} (ht1 : fitE true csfit_MisbiMiiiScMsiEMssEEiEiiMisbiiEMiMiiEEii t1) : Cc lf 14 5 [t0, t1] = some [.b true] := by
 have hf0 := ht0
 obtain ⟨p0_0, p0_1, p0_2, p0_3, p0_4, rfl, w0_0, w0_1, w0_2, w0_4⟩ := fit_MMbScEibEiMiiiEbi ht0
 have hf1 := ht1
 obtain ⟨p1_0, p1_1, p1_2, p1_3, p1_4, p1_5, p1_6, rfl, w1_0, w1_1, w1_2, w1_3, w1_4, w1_5, w1_6⟩ := fit_MisbiMiiiScMsiEMssEEiEiiMisbiiEMiMiiEEii ht1
 refine (f5_eq (Cc lf 13) lf p0_0 p0_1 p0_2 p0_3 p0_4 p1_0 p1_1 p1_2 p1_3 p1_4 p1_5 p1_6).trans ?_
 unfold f5 f5_t
 rcases sz15 hlf (d := 13) (by omega) _ hf0 1048576 (by omega) (by omega) with e | ⟨y1, e1, g1, zz0⟩
 ·rw [e]; rfl
 rw [e1]
 simp only [Option.bind_some, nth0, asI_i]
 rw [iLt_f (show ¬ y1 < 0 by omega), cond_f]
 have z0 : tl (T.st [T.sl p0_0, T.i .i64 p0_1, T.sl p0_2, T.b p0_3, T.i .i64 p0_4]) ≤ 1048576 := by omega
 rcases sz6 hlf (d := 13) (by omega) _ hf1 y1 (by omega) (by omega) with e | ⟨y2, e2, g2, zz1⟩
 ·rw [e]; rfl
 rw [e2]
 simp only [Option.bind_some, nth0, asI_i]
 rw [iLt_f (show ¬ y2 < 0 by omega), cond_f]
 have z1 : tl (T.st [T.sl p1_0, T.i .i64 p1_1, T.i .i64 p1_2, T.sl p1_3, T.sl p1_4, T.i .i64 p1_5, T.i .i64 p1_6]) ≤ 1048576 := by omega
 have eT0 := to17 hlf (d := 13) (by omega) _ hf0 (by omega)
 have eT1 := to8 hlf (d := 13) (by omega) _ hf1 (by omega)
 obtain ⟨r0, eS, eI, ⟨hr0, zr0⟩, _⟩ := same hlf p0_0 p0_1 p0_2 p0_3 p0_4 hf0 z0 p1_0 p1_1 p1_2 p1_3 p1_4 p1_5 p1_6 hf1 z1
 have hR0 := hr0
 obtain ⟨R0_0, rfl, W0_0⟩ := fitC_i hr0
 have eX0 := eq19 hlf (d := 13) (by omega) _ hf0 (by omega)
 have eX1 := eq11 hlf (d := 13) (by omega) _ hf1 (by omega)
 simp only [eT0, eT1, eS, eI, eX0, eX1, Option.bind_some, nth0, nthS, asI_i, asL_l, asB_b, asS_s, cell0, cellS, beq_self_eq_true, bne_self_eq_false, Bool.not_true, Bool.and_true, cond_f, cond_t]
end Go.Proofs.YtnakbpjofkdabaaGreat.T
