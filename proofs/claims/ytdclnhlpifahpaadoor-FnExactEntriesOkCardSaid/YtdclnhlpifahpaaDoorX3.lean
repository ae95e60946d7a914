/- What functions of the law FnExactEntriesOk come to, in trees; no condition. -/
import Derived.Test.YtdclnhlpifahpaaDoorRows
import Derived.Test.YtdclnhlpifahpaaDoorX2
set_option linter.unusedVariables false
set_option linter.constructorNameAsVariable false
set_option linter.unusedSimpArgs false
set_option linter.unnecessarySimpa false
namespace Go.Proofs.YtdclnhlpifahpaaDoor.T
open Go Go.Proofs.YtdclnhlpifahpaaDoorV
set_option maxRecDepth 100000
theorem c_l1In {lf d : Nat} (a lo hi : Int) : Cc lf (d + 1) 25 [.i .i64 a, .i .i64 lo, .i .i64 hi] = some [.b (iLe lo a && iLe a hi)] := by
 refine (f25_eq (Cc lf d) lf a lo hi).trans ?_
 unfold f25 f25_t
 exact cond_b _ _
theorem c_from {lf d : Nat} (a lo hi : Int) : Cc lf (d + 1) 30 [.i .i64 a, .i .i64 lo, .i .i64 hi] = some [.b (iLe lo a && iLe a hi)] := by
 refine (f30_eq (Cc lf d) lf a lo hi).trans ?_
 unfold f30 f30_t
 exact cond_b _ _
theorem c_sName {lf d : Nat} (hlf : 33554432 ≤ lf) (s : ByteArray) (hs : s.size ≤ 16777216) : Cc lf (d + 2) 38 [.s s] = some [.b (nameB s)] := by
 refine (f38_eq (Cc lf (d + 1)) lf s).trans ?_
 unfold f38 f38_t
 have L := all_loop (F := fun n j => f38_0 (Cc lf (d + 1)) lf s n j) (P := fun j => chB (byteAt s j)) (X := some [T.i .i64 0, T.b false]) (Y := some [T.i .i64 1, T.s s]) (len := s.size) (fun n j hj => by
  show f38_0_s (Cc lf (d + 1)) lf s _ _ = _
  unfold f38_0_s
  obtain ⟨b0, b1⟩ := byteAt_in s j
  rw [iLt_t (by omega), inR_nat hj, wrapK (x := byteAt s j) (by omega), wrap_next hj (by omega)]
  simp only [c_l1In, Option.bind_some, nth0, asB_b, chB, bne_not, cond_not, cond_and, cond_or, cond_t]) (fun n => by
  show f38_0_s (Cc lf (d + 1)) lf s _ _ = _
  unfold f38_0_s
  rw [iLt_f (by omega)]
  rfl) (n := lf) (by omega)
 simp only at L ⊢
 rw [L]
 unfold nameB
 cases allB (fun j => chB (byteAt s j)) s.size with
 | false => rfl
 | true =>
  simp only [cond_t, Option.bind_some, nth0, nthS, asI_i, asB_b, asS_s, c_l1In, cond_not]
  rw [show ((1 : Int) == 0) = false from rfl, cond_f]
  cases iLe 1 (s.size : Int) <;> cases iLe (s.size : Int) 14 <;> cases (s.toList == (⟨#[46]⟩ : ByteArray).toList) <;> cases (s.toList == (⟨#[46, 46]⟩ : ByteArray).toList) <;> rfl
theorem c_iName {lf d : Nat} (hlf : 33554432 ≤ lf) (s : ByteArray) (hs : s.size ≤ 16777216) : Cc lf (d + 2) 41 [.s s] = some [.b (nameB s)] := by
 refine (f41_eq (Cc lf (d + 1)) lf s).trans ?_
 unfold f41 f41_t
 have L := all_loop (F := fun n j => f41_0 (Cc lf (d + 1)) lf s n j) (P := fun j => chB (byteAt s j)) (X := some [T.i .i64 0, T.b false]) (Y := some [T.i .i64 1, T.s s]) (len := s.size) (fun n j hj => by
  show f41_0_s (Cc lf (d + 1)) lf s _ _ = _
  unfold f41_0_s
  rw [iLt_t (by omega), inR_nat hj, wrap_next hj (by omega)]
  simp only [iLt_le, chB, bne_not, cond_not, cond_and, cond_or, cond_t]) (fun n => by
  show f41_0_s (Cc lf (d + 1)) lf s _ _ = _
  unfold f41_0_s
  rw [iLt_f (by omega)]
  rfl) (n := lf) (by omega)
 simp only at L ⊢
 rw [L]
 unfold nameB
 cases allB (fun j => chB (byteAt s j)) s.size with
 | false => rfl
 | true =>
  simp only [cond_t, Option.bind_some, nth0, nthS, asI_i, asB_b, asS_s, cond_not]
  rw [show ((1 : Int) == 0) = false from rfl, cond_f]
  cases iLe 1 (s.size : Int) <;> cases iLe (s.size : Int) 14 <;> cases (s.toList == (⟨#[46]⟩ : ByteArray).toList) <;> cases (s.toList == (⟨#[46, 46]⟩ : ByteArray).toList) <;> rfl
def bsOf (l : List UInt8) : ByteArray := ⟨l.toArray⟩
abbrev SL (L : List (List UInt8)) : List T := L.map fun x => T.s (bsOf x)
theorem bs_of (s : ByteArray) : bsOf s.data.toList = s := by cases s; rfl
theorem bs_size (l : List UInt8) : (bsOf l).size = l.length := rfl
theorem bs_list (l : List UInt8) : (bsOf l).toList = l := Lib.toList_data _
theorem bs_cut (l : List UInt8) (i j : Nat) : (bsOf l).extract i j = bsOf ((l.take j).drop i) := by
 have : ((bsOf l).extract i j).data = (bsOf ((l.take j).drop i)).data := by
  rw [ByteArray.data_extract]
  apply Array.ext'
  rw [Array.toList_extract]
  show List.extract l i j = (l.take j).drop i
  rw [List.extract_eq_take_drop, List.drop_take]
 exact ByteArray.ext this
theorem byteAt_bs {l : List UInt8} {j : Nat} : byteAt (bsOf l) (j : Int) = ((l.getD j 0).toNat : Int) := by
 unfold byteAt
 rw [bs_list]
 rfl
def cutL : List UInt8 → List (List UInt8)
 | [] => [[]]
 | c :: l => if c = 47 then [] :: cutL l else (c :: (cutL l).headD []) :: (cutL l).tail
theorem cutL_len : ∀ l : List UInt8, (cutL l).length = l.count 47 + 1
 | [] => rfl
 | c :: l => by
  have h := cutL_len l
  unfold cutL
  by_cases e : c = 47
  ·subst e; rw [if_pos rfl, List.count_cons_self, List.length_cons, h]
  ·rw [if_neg e, List.length_cons, List.length_tail, h, List.count_cons_of_ne (by simpa using e)]; omega
theorem cut_miss : ∀ {l : List UInt8}, 47 ∉ l → cutL l = [l]
 | [], _ => rfl
 | c :: l, h => by
  unfold cutL
  rw [if_neg (fun e => h (by rw [e]; exact List.mem_cons_self ..)), cut_miss (fun hm => h (List.mem_cons_of_mem _ hm))]
  rfl
theorem cut_hit : ∀ {a b : List UInt8}, 47 ∉ a → cutL (a ++ 47 :: b) = a :: cutL b
 | [], b, _ => by rw [List.nil_append, cutL, if_pos rfl]
 | c :: a, b, h => by
  rw [List.cons_append, cutL, if_neg (fun e => h (by rw [e]; exact List.mem_cons_self ..)), cut_hit (fun hm => h (List.mem_cons_of_mem _ hm))]
  rfl
theorem idx_cases : ∀ l : List UInt8, (47 ∉ l ∧ idxL l 47 = -1) ∨ ∃ a b, l = a ++ 47 :: b ∧ 47 ∉ a ∧ idxL l 47 = (a.length : Int)
 | [] => .inl ⟨List.not_mem_nil, rfl⟩
 | c :: l => by
  by_cases e : c = 47
  ·subst e; exact .inr ⟨[], l, rfl, List.not_mem_nil, rfl⟩
  ·have e2 : (c == 47) = false := beq_eq_false_iff_ne.2 e
   rcases idx_cases l with ⟨h1, h2⟩ | ⟨a, b, h1, h2, h3⟩
   ·refine .inl ⟨fun hm => ?_, by simp [idxL, e2, h2]⟩
    rcases List.mem_cons.1 hm with h | h
    ·exact e h.symm
    ·exact h1 h
   ·refine .inr ⟨c :: a, b, by rw [h1]; rfl, fun hm => ?_, ?_⟩
    ·rcases List.mem_cons.1 hm with h | h
     ·exact e h.symm
     ·exact h2 h
    ·have : (idxL l 47 == -1) = false := beq_eq_false_iff_ne.2 (by omega)
     simp only [idxL, e2, this, h3, List.length_cons]
     simp
theorem setT_take {l : List T} {j : Nat} (x : T) (h : j < l.length) : (l.set j x).take (j + 1) = l.take j ++ [x] := by
 rw [List.take_add_one, List.getElem?_set_self h, List.take_set_of_le (Nat.le_refl _)]
 rfl
theorem getD_u8 {l : List UInt8} {j : Nat} (h : j < l.length) : l.getD j 0 = l[j] := by
 rw [List.getD_eq_getElem?_getD, List.getElem?_eq_getElem h]
 rfl
theorem drop_at {l : List UInt8} {j : Nat} (h : j < l.length) : l.drop j = l.getD j 0 :: l.drop (j + 1) := by
 rw [List.drop_eq_getElem_cons h, getD_u8 h]
theorem cut_ext {l : List UInt8} {f i : Nat} (h : f ≤ i) (hi : i < l.length) : (l.take (i + 1)).drop f = (l.take i).drop f ++ [l.getD i 0] := by
 rw [List.take_add_one, List.getElem?_eq_getElem hi, List.drop_append_of_le_length (by rw [List.length_take]; omega), getD_u8 hi]
 rfl
theorem drop_parts {l : List UInt8} {f i : Nat} (h : f ≤ i) : l.drop f = (l.take i).drop f ++ l.drop i := by
 by_cases hi : i ≤ l.length
 ·conv => lhs; rw [← List.take_append_drop i l]
  rw [List.drop_append_of_le_length (by rw [List.length_take]; omega)]
 ·rw [List.drop_eq_nil_of_le (show l.length ≤ i by omega), List.take_of_length_le (by omega), List.append_nil]
set_option maxHeartbeats 2000000 in
theorem c_genSplit {lf d : Nat} (hlf : 33554432 ≤ lf) (l : List UInt8) (hs : l.length ≤ 1048576) : Cc lf (d + 2) 45 [.s (bsOf l), .s ⟨#[47]⟩, .i .i64 0, .i .i64 (-1)] = some [.sl (SL (cutL l))] := by
 have E := f45_eq (Cc lf (d + 1)) lf (bsOf l) ⟨#[47]⟩ 0 (-1)
 unfold f45 f45_t at E
 dsimp only at E
 have hcl : l.count 47 ≤ l.length := List.count_le_length
 have eC : Cc lf (d + 1) 49 [.s (bsOf l), .s ⟨#[47]⟩] = some [.i .i64 (l.count 47 : Nat)] := rfl
 have e1 : imin (IntKind.wrap .i64 ((l.count 47 : Nat) + 1)) (IntKind.wrap .i64 (((bsOf l).size : Int) + 1)) = ((l.count 47 + 1 : Nat) : Int) := by
  rw [bs_size, wrap_in (x := ((l.count 47 : Nat) : Int) + 1) (by omega) (by omega), wrap_in (x := (l.length : Int) + 1) (by omega) (by omega)]
  unfold imin
  split <;> omega
 rw [show ((-1 : Int) == 0) = false from rfl, cond_f, show ((⟨#[47]⟩ : ByteArray).toList == (⟨#[]⟩ : ByteArray).toList) = false from by rw [Lib.toList_data, Lib.toList_data]; rfl, cond_f, iLt_t (by omega), cond_t, eC] at E
 simp only [Option.bind_some, nth0, asI_i] at E
 rw [e1, iLe_t (by omega), iLe_t (show ((l.count 47 + 1 : Nat) : Int) ≤ (LIM : Int) by unfold LIM; omega), beq_self_eq_true, Int.toNat_natCast] at E
 simp only [Bool.and_self, cond_t] at E
 have Lp : ∀ (k i n : Nat) (R : List UInt8) (cur : List T), i + k = l.count 47 → k < n → R.length ≤ l.length → R.count 47 = k → cur.length = l.count 47 + 1 → cur.take i ++ SL (cutL R) = SL (cutL l) → ∃ R' cur', f45_0 (Cc lf (d + 1)) lf 0 [T.i .i64 ((l.count 47 : Nat) : Int)] (bsOf l) ⟨#[47]⟩ n (bsOf R) (i : Int) cur = some [T.i .i64 0, T.s (bsOf R'), T.i .i64 ((l.count 47 : Nat) : Int), T.sl cur'] ∧ cur'.length = l.count 47 + 1 ∧ cur'.take (l.count 47) ++ [T.s (bsOf R')] = SL (cutL l) := by
  intro k
  induction k with
  | zero =>
   intro i n R cur hi hn hR hc hl hp
   obtain ⟨n, rfl⟩ : ∃ z, n = z + 1 := ⟨n - 1, by omega⟩
   refine ⟨R, cur, ?_, hl, ?_⟩
   ·rw [f45_0_u]
    unfold f45_0_s
    simp only [nth0, asI_i]
    rw [e1, wrap_in (x := ((l.count 47 + 1 : Nat) : Int) - 1) (by omega) (by omega), iLt_f (by omega), show i = l.count 47 by omega]
    rfl
   ·rw [cut_miss (fun hm => by have := List.count_pos_iff.2 hm; omega)] at hp
    rw [← hp, show i = l.count 47 by omega]
    rfl
  | succ k ih =>
   intro i n R cur hi hn hR hc hl hp
   obtain ⟨n, rfl⟩ : ∃ z, n = z + 1 := ⟨n - 1, by omega⟩
   rcases idx_cases R with ⟨h1, _⟩ | ⟨a, b, hab, h2, h3⟩
   ·exact absurd (List.count_pos_iff.1 (by omega)) h1
   ·have hla : R.length = a.length + (b.length + 1) := by rw [hab, List.length_append, List.length_cons]
    have eI : Cc lf (d + 1) 50 [.s (bsOf R), .s ⟨#[47]⟩] = some [.i .i64 (idxL R 47)] := rfl
    rw [f45_0_u]
    unfold f45_0_s
    simp only [nth0, asI_i]
    rw [e1, wrap_in (x := ((l.count 47 + 1 : Nat) : Int) - 1) (by omega) (by omega), iLt_t (by omega), eI, h3]
    simp only [Option.bind_some, nth0, asI_i, cond_t]
    rw [iLt_f (by omega), show ((⟨#[47]⟩ : ByteArray).size : Int) = 1 from rfl, wrap_in (x := (a.length : Int) + 0) (by omega) (by omega), wrap_in (x := (a.length : Int) + 1) (by omega) (by omega), bs_size, wrap_next (show i < l.length by omega) (by omega), inR_nat (show i < cur.length by omega), iLe_t (show (0 : Int) ≤ 0 by omega), iLe_t (show (0 : Int) ≤ (a.length : Int) + 0 by omega), iLe_t (show (a.length : Int) + 0 ≤ (R.length : Int) by omega), iLe_t (show (0 : Int) ≤ (a.length : Int) + 1 by omega), iLe_t (show (a.length : Int) + 1 ≤ (R.length : Int) by omega), iLe_t (show (R.length : Int) ≤ (R.length : Int) by omega), Int.toNat_natCast, Int.toNat_natCast, show ((a.length : Int) + 1).toNat = a.length + 1 by omega, show ((a.length : Int) + 0).toNat = a.length by omega, bs_cut, bs_cut]
    simp only [Bool.and_self, cond_t, cond_f]
    have e2 : (R.take R.length).drop (a.length + 1) = b := by
     rw [List.take_length, hab, show a ++ 47 :: b = (a ++ [47]) ++ b by simp, List.drop_left' (by simp)]
    have e3 : (R.take a.length).drop 0 = a := by
     rw [List.drop_zero, hab, List.take_left' rfl]
    rw [e2, e3]
    have hcR : R.count 47 = b.count 47 + 1 := by
     rw [hab, List.count_append, List.count_cons_self, List.count_eq_zero_of_not_mem h2]; omega
    refine ih (i + 1) n b (cur.set i (.s (bsOf a))) (by omega) (by omega) (by omega) (by omega) (by rw [List.length_set]; exact hl) ?_
    rw [setT_take _ (by omega), ← hp, hab, cut_hit h2]
    simp
 have hrep : ∀ n : Nat, (List.replicate n (T.s (⟨#[]⟩ : ByteArray))).length = n := fun n => List.length_replicate
 obtain ⟨R', cur', e, hl, hp⟩ := Lp (l.count 47) 0 lf l (List.replicate (l.count 47 + 1) (T.s ⟨#[]⟩)) (by omega) (by omega) (Nat.le_refl _) rfl (hrep _) (by rw [List.take_zero, List.nil_append])
 rw [show ((0 : Nat) : Int) = 0 from rfl] at e
 rw [e] at E
 simp only [Option.bind_some, nth0, nthS, asI_i, asL_l, asS_s] at E
 rw [inR_nat (by omega), wrap_in (x := ((l.count 47 : Nat) : Int) + 1) (by omega) (by omega), List.length_set, iLe_t (show (0 : Int) ≤ 0 by omega), iLe_t (by omega), iLe_t (by omega), Int.toNat_natCast, List.drop_zero, show (((l.count 47 : Nat) : Int) + 1).toNat - 0 = l.count 47 + 1 by omega, setT_take _ (by omega), hp] at E
 exact E
theorem c_split {lf d : Nat} (hlf : 33554432 ≤ lf) (l : List UInt8) (hs : l.length ≤ 1048576) : Cc lf (d + 3) 43 [.s (bsOf l), .s ⟨#[47]⟩] = some [.sl (SL (cutL l))] := by
 refine (f43_eq (Cc lf (d + 2)) lf (bsOf l) ⟨#[47]⟩).trans ?_
 unfold f43 f43_t
 rw [c_genSplit hlf l hs]
 rfl
def namesB (Q : List (List UInt8)) : Bool := Q.all fun x => nameB (bsOf x)
def okP (l : List UInt8) : Bool := ((cutL l).headD [] == []) && (decide (2 ≤ (cutL l).length) && (decide ((cutL l).tail.length ≤ 30) && namesB (cutL l).tail))
theorem cut_ne (l : List UInt8) : cutL l ≠ [] := fun h => by
 have := cutL_len l
 rw [h] at this
 cases this
theorem slash_eq (l : List UInt8) : ((bsOf l).toList == (⟨#[47]⟩ : ByteArray).toList) = (l == [47]) := by
 rw [bs_list, Lib.toList_data]
theorem okP_slash : okP [47] = false := by
 have : cutL [47] = [[], []] := by decide
 unfold okP
 rw [this]
 decide
theorem b47 {l : List UInt8} {j : Nat} (h : l.getD j 0 = 47) : (byteAt (bsOf l) (j : Int) != 47) = false := by rw [byteAt_bs, h]; rfl
theorem b47n {l : List UInt8} {j : Nat} (h : l.getD j 0 ≠ 47) : (byteAt (bsOf l) (j : Int) != 47) = true := by
 rw [byteAt_bs, bne_iff_ne]
 intro e
 refine h (UInt8.toNat_inj.1 ?_)
 show (l.getD j 0).toNat = 47
 omega
set_option maxHeartbeats 2000000 in
theorem c_sSplit {lf d : Nat} (hlf : 33554432 ≤ lf) (l : List UInt8) (hs : l.length ≤ 1048576) : Cc lf (d + 3) 36 [.s (bsOf l)] = some (bif l == [47] then [.sl [], .b true] else bif okP l then [.sl (SL (cutL l).tail), .b true] else [.sl [], .b false]) := by
 have E := f36_eq (Cc lf (d + 2)) lf (bsOf l)
 unfold f36 f36_t at E
 dsimp only at E
 rw [slash_eq] at E
 by_cases hsl : l = [47]
 ·subst hsl; exact E
 have hb : (l == [47]) = false := beq_eq_false_iff_ne.2 hsl
 rw [hb, cond_f] at E ⊢
 have Lp : ∀ (k f i n : Nat) (out : List (List UInt8)), i + k = l.length + 1 → k < n → 1 ≤ i → f ≤ i → (i ≤ l.length → 47 ∉ (l.take i).drop f) → (l.length < i → f = i) → out.length ≤ 30 → f36_0 (Cc lf (d + 2)) lf (bsOf l) n (f : Int) (i : Int) (SL out) = bif (bif decide (i ≤ l.length) then namesB (cutL (l.drop f)) && decide (out.length + (cutL (l.drop f)).length ≤ 30) else true) then some [T.i .i64 0, T.s (bsOf l), T.sl (SL (bif decide (i ≤ l.length) then out ++ cutL (l.drop f) else out))] else some [T.i .i64 1, T.b false, T.sl []] := by
  intro k
  induction k with
  | zero =>
   intro f i n out hi hn h1 hf hno hend ho
   obtain ⟨n, rfl⟩ : ∃ z, n = z + 1 := ⟨n - 1, by omega⟩
   rw [f36_0_u]
   unfold f36_0_s
   rw [bs_size, iLe_f (by omega), decide_eq_false (by omega)]
   rfl
  | succ k ih =>
   intro f i n out hi hn h1 hf hno hend ho
   obtain ⟨n, rfl⟩ : ∃ z, n = z + 1 := ⟨n - 1, by omega⟩
   have hil : i ≤ l.length := by omega
   have hno := hno hil
   have hw : IntKind.wrap .i64 ((i : Int) + 1) = ((i + 1 : Nat) : Int) := wrap_in (by omega) (by omega)
   have hseg : ((l.take i).drop f).length ≤ 16777216 := by simp only [List.length_drop, List.length_take]; omega
   have fin : ∀ rest, cutL (l.drop f) = (l.take i).drop f :: rest → (rest = bif decide (i + 1 ≤ l.length) then cutL (l.drop (i + 1)) else []) → (bif iLe 0 (f : Int) && iLe (f : Int) (i : Int) && true then
    (Cc lf (d + 2) 38 [T.s ((bsOf l).extract (f : Int).toNat (i : Int).toNat)]).bind fun r78 =>
    bif !(asB (nth r78 0)) then some [T.i .i64 1, T.b false, T.sl ([] : List T)]
    else bif ((SL out).length : Int) == 30 then some [T.i .i64 1, T.b false, T.sl ([] : List T)]
     else bif nLe ((SL out).length + ([T.s ((bsOf l).extract (f : Int).toNat (i : Int).toNat)] : List T).length) LIM then
      f36_0 (Cc lf (d + 2)) lf (bsOf l) n (IntKind.wrap .i64 ((i : Int) + 1)) (IntKind.wrap .i64 ((i : Int) + 1)) (SL out ++ ([T.s ((bsOf l).extract (f : Int).toNat (i : Int).toNat)] : List T))
      else none
    else none) = bif (namesB (cutL (l.drop f)) && decide (out.length + (cutL (l.drop f)).length ≤ 30)) then some [T.i .i64 0, T.s (bsOf l), T.sl (SL (out ++ cutL (l.drop f)))] else some [T.i .i64 1, T.b false, T.sl []] := by
    intro rest hq hrest
    rw [iLe_t (by omega), iLe_t (by omega), Int.toNat_natCast, Int.toNat_natCast, bs_cut, c_sName (d := d) hlf _ (by rw [bs_size]; exact hseg), hw]
    simp only [Bool.and_self, cond_t, Option.bind_some, nth0, asB_b]
    rw [hq]
    have hn2 : namesB ((l.take i).drop f :: rest) = (nameB (bsOf ((l.take i).drop f)) && namesB rest) := rfl
    rw [hn2]
    cases hnm : nameB (bsOf ((l.take i).drop f)) with
    | false => rfl
    | true =>
     simp only [Bool.not_true, cond_f, Bool.true_and]
     have hsl : (SL out).length = out.length := List.length_map ..
     rw [hsl]
     by_cases h30 : out.length = 30
     ·rw [show ((out.length : Int) == 30) = true from beq_iff_eq.2 (by omega), decide_eq_false (p := out.length + _ ≤ 30) (by rw [List.length_cons]; omega), Bool.and_false]
      rfl
     ·rw [show ((out.length : Int) == 30) = false from beq_eq_false_iff_ne.2 (by omega), cond_f, nLe_t (by show out.length + 1 ≤ LIM; unfold LIM; omega), cond_t, show SL out ++ [T.s (bsOf ((l.take i).drop f))] = SL (out ++ [(l.take i).drop f]) from by
       show _ = (out ++ [(l.take i).drop f]).map _
       rw [List.map_append]
       rfl]
      rw [ih (i + 1) (i + 1) n (out ++ [(l.take i).drop f]) (by omega) (by omega) (by omega) (Nat.le_refl _) (fun _ => by rw [List.drop_eq_nil_of_le (by rw [List.length_take]; omega)]; exact List.not_mem_nil) (fun _ => rfl) (by rw [List.length_append]; show out.length + 1 ≤ 30; omega), hrest]
      cases decide (i + 1 ≤ l.length) with
      | true =>
       simp only [cond_t, List.length_append, List.length_cons, List.length_nil, Nat.zero_add, List.append_assoc, List.singleton_append]
       rw [show out.length + 1 + (cutL (l.drop (i + 1))).length = out.length + ((cutL (l.drop (i + 1))).length + 1) by omega]
      | false =>
       simp only [cond_f, cond_t, List.length_cons, List.length_nil, Nat.zero_add]
       rw [decide_eq_true (p := out.length + 1 ≤ 30) (by omega)]
       rfl
   rw [f36_0_u]
   unfold f36_0_s
   rw [decide_eq_true hil, cond_t, cond_t, bs_size, iLe_t (by omega), cond_t, iLt_t (show (0 : Int) < (i : Int) by omega), cond_t]
   by_cases hlt : i < l.length
   ·rw [iLt_t (by omega), inR_nat hlt]
    simp only [cond_t]
    by_cases hc : l.getD i 0 = 47
    ·rw [b47 hc, cond_f]
     refine fin (cutL (l.drop (i + 1))) ?_ (by rw [decide_eq_true (by omega)]; rfl)
     rw [drop_parts hf, drop_at hlt, hc, cut_hit hno]
    ·rw [b47n hc, cond_t, hw, ih f (i + 1) n out (by omega) (by omega) (by omega) (by omega) (fun h => by
      rw [cut_ext hf hlt, List.mem_append, List.mem_singleton]
      rintro (h | h)
      ·exact hno h
      ·exact hc h.symm) (fun h => by omega) ho, decide_eq_true (by omega)]
     rfl
   ·rw [iLt_f (by omega), cond_f]
    refine fin [] ?_ (by rw [decide_eq_false (by omega)]; rfl)
    rw [drop_parts hf, List.drop_eq_nil_of_le (show l.length ≤ i by omega), List.append_nil, cut_miss hno]
 obtain ⟨n, rfl⟩ : ∃ z, lf = z + 1 := ⟨lf - 1, by omega⟩
 have E0 := f36_0_u (Cc (n + 1) (d + 2)) (n + 1) (bsOf l) n 0 0 []
 unfold f36_0_s at E0
 rw [bs_size, iLe_t (by omega), cond_t, iLt_f (show ¬ (0 : Int) < 0 by omega), cond_f, show IntKind.wrap .i64 ((0 : Int) + 1) = ((1 : Nat) : Int) from wrap_in (by omega) (by omega)] at E0
 cases l with
 | nil =>
  rw [iLt_f (by simp), cond_f] at E0
  have := Lp 0 1 1 n [] rfl (by omega) (Nat.le_refl _) (Nat.le_refl _) (fun h => by simp at h) (fun _ => rfl) (Nat.zero_le _)
  rw [show SL [] = ([] : List T) from rfl] at this
  rw [this] at E0
  rw [E0] at E
  exact E
 | cons c l' =>
  rw [iLt_t (show (0 : Int) < ((c :: l').length : Int) by rw [List.length_cons]; omega), cond_t, show inR 0 (c :: l').length = true from inR_nat (j := 0) (by simp), cond_t] at E0
  by_cases hc : c = 47
  ·subst hc
   have h0 : (byteAt (bsOf (47 :: l')) 0 != 47) = false := b47 (j := 0) rfl
   rw [h0, cond_f] at E0
   have hl' : l' ≠ [] := fun h => hsl (by rw [h])
   have hlen : 1 ≤ l'.length := by cases l' with
    | nil => exact absurd rfl hl'
    | cons _ _ => simp
   have := Lp (l'.length + 1) 1 1 n [] (by simp; omega) (by simp at hs; omega) (Nat.le_refl _) (Nat.le_refl _) (fun h => by simp) (fun _ => rfl) (Nat.zero_le _)
   rw [show SL [] = ([] : List T) from rfl, decide_eq_true (p := 1 ≤ (47 :: l').length) (by simp)] at this
   rw [this] at E0
   rw [E0] at E
   have hcut : cutL (47 :: l') = [] :: cutL l' := by rw [cutL, if_pos rfl]
   have hok : okP (47 :: l') = (namesB (cutL l') && decide ((cutL l').length ≤ 30)) := by
    unfold okP
    rw [hcut]
    have h2 : decide (2 ≤ ([] :: cutL l').length) = true := decide_eq_true (by rw [List.length_cons, cutL_len]; omega)
    rw [h2]
    show ((([] : List UInt8) == []) && (true && (decide ((cutL l').length ≤ 30) && namesB (cutL l')))) = _
    rw [show (([] : List UInt8) == []) = true from rfl, Bool.true_and, Bool.true_and, Bool.and_comm]
   rw [hok, hcut, List.tail_cons]
   simp only [cond_t, List.drop_succ_cons, List.drop_zero, List.length_nil, Nat.zero_add, List.nil_append] at E
   cases hh : namesB (cutL l') && decide ((cutL l').length ≤ 30) with
   | true =>
    rw [hh] at E
    simp only [cond_t, Option.bind_some, nth0, nthS, asI_i, asL_l, asS_s] at E
    rw [show ((0 : Int) == 0) = true from rfl, cond_t, bs_size, show (((47 :: l').length : Int) == 0) = false from beq_eq_false_iff_ne.2 (by simp; omega), cond_f, show inR 0 (47 :: l').length = true from inR_nat (j := 0) (by simp), cond_t, h0, cond_f] at E
    exact E
   | false =>
    rw [hh] at E
    exact E
  ·have h0 : (byteAt (bsOf (c :: l')) 0 != 47) = true := b47n (j := 0) hc
   rw [h0, cond_t] at E0
   have := Lp (l'.length + 1) 0 1 n [] (by simp; omega) (by simp at hs; omega) (Nat.le_refl _) (Nat.zero_le _) (fun h => by simp; exact fun e => hc e.symm) (fun h => by simp at h) (Nat.zero_le _)
   rw [show SL [] = ([] : List T) from rfl, show ((0 : Nat) : Int) = 0 from rfl, decide_eq_true (p := 1 ≤ (c :: l').length) (by simp)] at this
   rw [this] at E0
   rw [E0] at E
   have hok : okP (c :: l') = false := by
    unfold okP
    rw [cutL, if_neg hc]
    rfl
   rw [hok]
   simp only [cond_t, List.drop_zero, List.length_nil, Nat.zero_add, List.nil_append] at E
   cases hh : namesB (cutL (c :: l')) && decide ((cutL (c :: l')).length ≤ 30) with
   | true =>
    rw [hh] at E
    simp only [cond_t, Option.bind_some, nth0, nthS, asI_i, asL_l, asS_s] at E
    rw [show ((0 : Int) == 0) = true from rfl, cond_t, bs_size, show (((c :: l').length : Int) == 0) = false from beq_eq_false_iff_ne.2 (by simp; omega), cond_f, show inR 0 (c :: l').length = true from inR_nat (j := 0) (by simp), cond_t, h0, cond_t] at E
    exact E
   | false =>
    rw [hh] at E
    exact E
theorem SL_len (L : List (List UInt8)) : (SL L).length = L.length := List.length_map ..
theorem SL_at {L : List (List UInt8)} {j : Nat} (h : j < L.length) : (SL L).getD j T.u = .s (bsOf (L.getD j [])) := by
 rw [List.getD_eq_getElem?_getD, List.getElem?_map, List.getElem?_eq_getElem h, List.getD_eq_getElem?_getD, List.getElem?_eq_getElem h]
 rfl
theorem names_all (L : List (List UInt8)) : allB (fun j => nameB (bsOf (L.getD j []))) L.length = namesB L := by
 cases h : namesB L with
 | true =>
  refine allB_iff.2 fun j hj => ?_
  rw [List.getD_eq_getElem?_getD, List.getElem?_eq_getElem hj]
  exact List.all_eq_true.1 h _ (List.getElem_mem hj)
 | false =>
  cases e : allB (fun j => nameB (bsOf (L.getD j []))) L.length with
  | false => rfl
  | true =>
   have : namesB L = true := List.all_eq_true.2 fun x hx => by
    obtain ⟨j, hj, rfl⟩ := List.getElem_of_mem hx
    have := allB_iff.1 e j hj
    rw [List.getD_eq_getElem?_getD, List.getElem?_eq_getElem hj] at this
    exact this
   rw [h] at this
   cases this
theorem cut_small : ∀ {l : List UInt8} {x : List UInt8}, x ∈ cutL l → x.length ≤ l.length
 | [], x, h => by rw [List.mem_singleton.1 h]; exact Nat.le_refl _
 | c :: l, x, h => by
  unfold cutL at h
  by_cases e : c = 47
  ·rw [if_pos e] at h
   rcases List.mem_cons.1 h with rfl | h
   ·exact Nat.zero_le _
   ·have := cut_small h; rw [List.length_cons]; omega
  ·rw [if_neg e] at h
   rcases List.mem_cons.1 h with rfl | h
   ·have : (cutL l).headD [] ∈ cutL l := by
     cases e2 : cutL l with
     | nil => exact absurd e2 (cut_ne l)
     | cons a t => exact List.mem_cons_self ..
    have := cut_small this
    rw [List.length_cons, List.length_cons]; omega
   ·have := cut_small (List.mem_of_mem_tail h); rw [List.length_cons]; omega
theorem c_namesOk1 {lf d : Nat} (hlf : 33554432 ≤ lf) (s : ByteArray) (hs : s.size ≤ 16777216) : Cc lf (d + 3) 47 [.s s] = some [.b (!nameB s)] := by
 refine (f47_eq (Cc lf (d + 2)) lf s).trans ?_
 unfold f47 f47_t
 rw [c_iName (d := d) hlf s hs]
 rfl
theorem c_namesOk {lf d : Nat} (hlf : 33554432 ≤ lf) (L : List (List UInt8)) (hs : ∀ x ∈ L, x.length ≤ 16777216) : Cc lf (d + 4) 44 [.sl (SL L)] = some [.b (decide (L.length ≤ 30) && namesB L)] := by
 refine (f44_eq (Cc lf (d + 3)) lf (SL L)).trans ?_
 unfold f44 f44_t
 dsimp only
 rw [SL_len]
 by_cases h : L.length ≤ 30
 ·rw [iLe_t (by omega), decide_eq_true h, ← names_all L]
  simp only [cond_t, Bool.true_and]
  rcases find_loop (F := fun n j => f44_0 (Cc lf (d + 3)) lf (SL L) n j) (P := fun j => nameB (bsOf (L.getD j []))) (X := fun j => some [T.i .i64 0, T.i .i64 (j : Int)]) (Y := some [T.i .i64 1]) (len := L.length) (fun n j hj => by
   have hx : (L.getD j []).length ≤ 16777216 := by
    rw [List.getD_eq_getElem?_getD, List.getElem?_eq_getElem hj]
    exact hs _ (List.getElem_mem hj)
   rw [f44_0_u]
   unfold f44_0_s
   rw [SL_len, iLt_t (by omega), inR_nat hj, Int.toNat_natCast, SL_at hj, asS_s, c_namesOk1 hlf _ (by rw [bs_size]; exact hx), wrap_next hj (by omega)]
   simp only [cond_t, Option.bind_some, nth0, asB_b]
   cases nameB (bsOf (L.getD j [])) <;> rfl) (fun n => by
   rw [f44_0_u]
   unfold f44_0_s
   rw [SL_len, iLt_f (by omega)]
   rfl) (n := lf) (by omega) with ⟨h1, e⟩ | ⟨h1, j, hj, _, e⟩
  ·rw [e, h1]; rfl
  ·rw [e, h1]
   show some [T.b (!(iLe 0 (j : Int)))] = _
   rw [iLe_t (by omega)]
   rfl
 ·rw [iLe_f (by omega), decide_eq_false h]
  rfl
theorem c_iSplit {lf d : Nat} (hlf : 33554432 ≤ lf) (l : List UInt8) (hs : l.length ≤ 1048576) : Cc lf (d + 5) 40 [.s (bsOf l)] = some (bif l == [47] then [.sl [], .b true] else bif okP l then [.sl (SL (cutL l).tail), .b true] else [.sl [], .b false]) := by
 refine (f40_eq (Cc lf (d + 4)) lf (bsOf l)).trans ?_
 unfold f40 f40_t
 rw [slash_eq, c_split (d := d + 1) hlf l hs]
 cases hb : l == [47] with
 | true => rfl
 | false =>
  simp only [cond_f, Option.bind_some, nth0, asL_l]
  rw [SL_len]
  have hne := cut_ne l
  have hsm : ∀ x ∈ (cutL l).tail, x.length ≤ 16777216 := fun x hx => by
   have := cut_small (List.mem_of_mem_tail hx)
   omega
  unfold okP
  generalize cutL l = P at hne hsm ⊢
  cases P with
  | nil => exact absurd rfl hne
  | cons a Q =>
   rw [show inR 0 (a :: Q).length = true from inR_nat (j := 0) (by simp), cond_t, show asS ((SL (a :: Q)).getD 0 T.u) = bsOf a from rfl, bs_list, show (⟨#[]⟩ : ByteArray).toList = [] from by rw [Lib.toList_data], List.headD_cons, List.tail_cons]
   cases ha : a == [] with
   | false => rfl
   | true =>
    simp only [Bool.not_true, cond_f, Bool.true_and]
    by_cases h2 : 2 ≤ (a :: Q).length
    ·rw [iLt_f (by omega), decide_eq_true h2, iLe_t (show (0 : Int) ≤ 1 by omega), iLe_t (show (1 : Int) ≤ ((a :: Q).length : Int) by omega), iLe_t (show ((a :: Q).length : Int) ≤ ((a :: Q).length : Int) by omega), Int.toNat_natCast, show (SL (a :: Q)).drop 1 = SL Q from rfl, List.take_of_length_le (by rw [SL_len, List.length_cons]; omega), c_namesOk (d := d) hlf Q hsm]
     simp only [cond_f, cond_t, Bool.and_self, Bool.true_and, Option.bind_some, nth0, asB_b]
     cases decide (Q.length ≤ 30) && namesB Q <;> rfl
    ·rw [iLt_t (by omega), decide_eq_false h2]
     rfl
theorem tail_pos {l : List UInt8} (h : okP l = true) : 0 < (cutL l).tail.length := by
 unfold okP at h
 simp only [Bool.and_eq_true, decide_eq_true_eq] at h
 have := h.2.1
 rw [List.length_tail]
 omega
theorem c_inner {lf d : Nat} (hlf : 33554432 ≤ lf) (l : List UInt8) (hs : l.length ≤ 1048576) : Cc lf (d + 6) 29 [.s (bsOf l)] = some [.b (okP l)] := by
 refine (f29_eq (Cc lf (d + 5)) lf (bsOf l)).trans ?_
 unfold f29 f29_t
 rw [c_iSplit (d := d) hlf l hs]
 cases hb : l == [47] with
 | true =>
  rw [beq_iff_eq.1 hb, okP_slash]
  rfl
 | false =>
  cases ho : okP l with
  | true =>
   have := tail_pos ho
   show some [T.b (iLt 0 ((SL (cutL l).tail).length : Int))] = _
   rw [SL_len, iLt_t (by omega)]
  | false => rfl
theorem name_small {s : ByteArray} (h : nameB s = true) : s.size ≤ 14 := by
 unfold nameB at h
 simp only [Bool.and_eq_true, iLe_iff] at h
 omega
theorem c_join {lf d : Nat} (hlf : 33554432 ≤ lf) (L : List (List UInt8)) (hL : L.length ≤ 30) (hn : namesB L = true) : ∃ r, Cc lf (d + 3) 37 [.sl (SL L)] = some [.s r] := by
 have E := f37_eq (Cc lf (d + 2)) lf (SL L)
 unfold f37 f37_t at E
 dsimp only at E
 have Lp : ∀ (k j n : Nat) (s : ByteArray), j + k = L.length → k < n → s.size ≤ 15 * j → ∃ q r, f37_0 (Cc lf (d + 2)) lf (SL L) n s (j : Int) = some [T.i .i64 q, T.s r] := by
  intro k
  induction k with
  | zero =>
   intro j n s hj hk hs
   obtain ⟨n, rfl⟩ : ∃ z, n = z + 1 := ⟨n - 1, by omega⟩
   refine ⟨1, s, ?_⟩
   rw [f37_0_u]
   unfold f37_0_s
   rw [SL_len, iLt_f (by omega)]
   rfl
  | succ k ih =>
   intro j n s hj hk hs
   obtain ⟨n, rfl⟩ : ∃ z, n = z + 1 := ⟨n - 1, by omega⟩
   have hjl : j < L.length := by omega
   have hx : nameB (bsOf (L.getD j [])) = true := by
    rw [List.getD_eq_getElem?_getD, List.getElem?_eq_getElem hjl]
    exact List.all_eq_true.1 hn _ (List.getElem_mem hjl)
   have hz := name_small hx
   have h1 : (s ++ (⟨#[47]⟩ : ByteArray)).size = s.size + 1 := by rw [ByteArray.size_append]; rfl
   have h2 : ((s ++ (⟨#[47]⟩ : ByteArray)) ++ bsOf (L.getD j [])).size = s.size + 1 + (bsOf (L.getD j [])).size := by rw [ByteArray.size_append, h1]
   obtain ⟨q, r, e⟩ := ih (j + 1) n ((s ++ (⟨#[47]⟩ : ByteArray)) ++ bsOf (L.getD j [])) (by omega) (by omega) (by omega)
   refine ⟨q, r, ?_⟩
   rw [f37_0_u]
   unfold f37_0_s
   rw [SL_len, iLt_t (by omega), inR_nat hjl, Int.toNat_natCast, SL_at hjl, asS_s, c_sName (d := d) hlf _ (by omega), hx, iLt_f (by omega), wrap_next hjl (by omega), h1, nLe_t (show s.size + (⟨#[47]⟩ : ByteArray).size ≤ LIM by show s.size + 1 ≤ LIM; unfold LIM; omega), nLe_t (show s.size + 1 + (bsOf (L.getD j [])).size ≤ LIM by unfold LIM; omega)]
   simp only [cond_t, cond_f, Option.bind_some, nth0, asB_b, Bool.not_true]
   exact e
 cases h0 : ((SL L).length : Int) == 0 with
 | true => rw [h0, cond_t] at E; exact ⟨_, E⟩
 | false =>
  rw [h0, cond_f] at E
  obtain ⟨q, r, e⟩ := Lp L.length 0 lf ⟨#[]⟩ (by omega) (by omega) (by show 0 ≤ 15 * 0; omega)
  rw [show ((0 : Nat) : Int) = 0 from rfl] at e
  rw [e] at E
  refine ⟨r, E.trans ?_⟩
  simp only [Option.bind_some, nth0, nthS, asI_i, asS_s]
  cases q == 0 <;> rfl
theorem c_parent {lf d : Nat} (hlf : 33554432 ≤ lf) (l : List UInt8) (hs : l.length ≤ 1048576) : ∃ r0 r1, Cc lf (d + 4) 24 [.s (bsOf l)] = some [.s r0, .s r1, .b (okP l)] := by
 have E := f24_eq (Cc lf (d + 3)) lf (bsOf l)
 unfold f24 f24_t at E
 rw [c_sSplit (d := d) hlf l hs] at E
 cases hb : l == [47] with
 | true =>
  rw [hb] at E
  rw [beq_iff_eq.1 hb, okP_slash]
  rw [beq_iff_eq.1 hb] at E
  exact ⟨_, _, E⟩
 | false =>
  rw [hb, cond_f] at E
  cases ho : okP l with
  | false => rw [ho] at E; exact ⟨_, _, E⟩
  | true =>
   have hp := tail_pos ho
   rw [ho] at E
   unfold okP at ho
   simp only [Bool.and_eq_true, decide_eq_true_eq] at ho
   obtain ⟨_, _, h30, hnm⟩ := ho
   generalize (cutL l).tail = Q at E hp h30 hnm
   have hdl : (Q.take (Q.length - 1)).length ≤ 30 := by rw [List.length_take]; omega
   have hdn : namesB (Q.take (Q.length - 1)) = true := List.all_eq_true.2 fun x hx => List.all_eq_true.1 hnm x (List.mem_of_mem_take hx)
   obtain ⟨r, er⟩ := c_join (d := d) hlf (Q.take (Q.length - 1)) hdl hdn
   simp only [cond_t, Option.bind_some, nth0, nthS, asB_b, asL_l, Bool.not_true, cond_f] at E
   have hw : IntKind.wrap .i64 ((Q.length : Int) - 1) = ((Q.length - 1 : Nat) : Int) := by rw [wrap_in (by omega) (by omega)]; omega
   rw [SL_len, show ((Q.length : Int) == 0) = false from beq_eq_false_iff_ne.2 (by omega), cond_f, hw, iLe_t (show (0 : Int) ≤ 0 by omega), iLe_t (by omega), iLe_t (by omega), Int.toNat_natCast, List.drop_zero, Nat.sub_zero, show (SL Q).take (Q.length - 1) = SL (Q.take (Q.length - 1)) from List.map_take.symm, er, inR_nat (by omega)] at E
   exact ⟨_, _, E⟩
theorem cellL_le {l : List T} {j : Nat} (k : Nat) : (asL (T.cell (l.getD j T.u) k)).length + tls (asL (T.cell (l.getD j T.u) k)) ≤ tls l := by
 by_cases h : j < l.length
 ·have h1 := tl_mem (List.getElem_mem h)
  rw [List.getD_eq_getElem?_getD, List.getElem?_eq_getElem h]
  show (asL (T.cell l[j] k)).length + tls (asL (T.cell l[j] k)) ≤ _
  cases e : l[j] <;> try (simp only [T.cell, asL, tls]; exact Nat.zero_le _)
  rename_i xs
  rw [e] at h1
  simp only [T.cell, tl] at h1 ⊢
  cases e2 : xs[k]? with
  | none => rw [List.getD_eq_getElem?_getD, e2]; exact Nat.zero_le _
  | some x =>
   rw [List.getD_eq_getElem?_getD, e2]
   have h3 := tl_mem (List.mem_of_getElem? e2)
   show (asL x).length + tls (asL x) ≤ _
   cases x <;> try (exact Nat.zero_le _)
   simp only [tl, asL] at h3 ⊢
   omega
 ·rw [List.getD_eq_getElem?_getD, List.getElem?_eq_none (by omega)]
  exact Nat.zero_le _
def lessB (l : List T) (j : Nat) : Bool := !iLt 0 (j : Int) || Op.bytesLess (asS (T.cell (l.getD (j - 1) T.u) 0)).toList (asS (T.cell (l.getD j T.u) 0)).toList
def attrB (l : List T) (j : Nat) : Bool := nameB (asS (T.cell (l.getD j T.u) 0)) && ((iLe 1 ((asS (T.cell (l.getD j T.u) 1)).size : Int) && iLe ((asS (T.cell (l.getD j T.u) 1)).size : Int) 16) && lessB l j)
def attrsB (l : List T) : Bool := allB (attrB l) l.length && iLe (l.length : Int) 4
theorem c_sAttrs {lf d : Nat} (hlf : 33554432 ≤ lf) (l : List T) (hs : l.length + tls l ≤ 16777216) : Cc lf (d + 3) 26 [.sl l] = some [.b (attrsB l)] := by
 refine (f26_eq (Cc lf (d + 2)) lf l).trans ?_
 unfold f26 f26_t
 dsimp only
 have L := all_loop (F := fun n j => f26_0 (Cc lf (d + 2)) lf l n j) (P := attrB l) (X := some [T.i .i64 0, T.b false]) (Y := some [T.i .i64 1, T.sl l]) (len := l.length) (fun n j hj => by
  have hn := cellS_le (l := l) (j := j) 0
  rw [f26_0_u]
  unfold f26_0_s
  rw [iLt_t (by omega), inR_nat hj, wrap_next hj (by omega)]
  simp only [Int.toNat_natCast, c_sName hlf _ (show (asS (T.cell (l.getD j T.u) 0)).size ≤ 16777216 by omega), c_l1In, Option.bind_some, nth0, asB_b, attrB, lessB, cond_not, cond_and, cond_or, cond_t]
  cases h0 : iLt 0 (j : Int) with
  | true =>
   have hj0 : 0 < j := by have := iLt_iff.1 h0; omega
   rw [wrap_pred hj0 (by omega), inR_nat (by omega)]
   simp only [cond_t, Int.toNat_natCast]
  | false => rfl) (fun n => by
  rw [f26_0_u]
  unfold f26_0_s
  rw [iLt_f (by omega)]
  rfl) (n := lf) (by omega)
 rw [L]
 unfold attrsB
 cases allB (attrB l) l.length <;> rfl
theorem c_iAttrs {lf d : Nat} (hlf : 33554432 ≤ lf) (l : List T) (hs : l.length + tls l ≤ 16777216) : Cc lf (d + 3) 31 [.sl l] = some [.b (attrsB l)] := by
 refine (f31_eq (Cc lf (d + 2)) lf l).trans ?_
 unfold f31 f31_t
 dsimp only
 have L := all_loop (F := fun n j => f31_0 (Cc lf (d + 2)) lf l n j) (P := attrB l) (X := some [T.i .i64 0, T.b false]) (Y := some [T.i .i64 1, T.sl l]) (len := l.length) (fun n j hj => by
  have hn := cellS_le (l := l) (j := j) 0
  rw [f31_0_u]
  unfold f31_0_s
  rw [iLt_t (by omega), inR_nat hj, wrap_next hj (by omega)]
  simp only [Int.toNat_natCast, c_iName hlf _ (show (asS (T.cell (l.getD j T.u) 0)).size ≤ 16777216 by omega), c_from, Option.bind_some, nth0, asB_b, attrB, lessB, cond_not, cond_and, cond_or, cond_t]
  cases h0 : iLt 0 (j : Int) with
  | true =>
   have hj0 : 0 < j := by have := iLt_iff.1 h0; omega
   rw [wrap_pred hj0 (by omega), inR_nat (by omega)]
   simp only [cond_t, Int.toNat_natCast]
  | false => rfl) (fun n => by
  rw [f31_0_u]
  unfold f31_0_s
  rw [iLt_f (by omega)]
  rfl) (n := lf) (by omega)
 rw [L]
 unfold attrsB
 cases allB (attrB l) l.length <;> rfl
def sameB (P : Nat → Bool) (l0 l1 : List T) : Bool := ((l0.length : Int) == (l1.length : Int)) && allB P l0.length
def byteE (l0 l1 : List T) (j : Nat) : Bool := asI (l0.getD j T.u) == asI (l1.getD j T.u)
def attrE (l0 l1 : List T) (j : Nat) : Bool := (asS (T.cell (l0.getD j T.u) 0) == asS (T.cell (l1.getD j T.u) 0)) && ((asS (T.cell (l0.getD j T.u) 1) == asS (T.cell (l1.getD j T.u) 1)) && true)
theorem len_eq {l0 l1 : List T} (h : l0.length = l1.length) : ((l0.length : Int) == (l1.length : Int)) = true := by rw [beq_iff_eq]; omega
theorem len_ne {l0 l1 : List T} (h : ¬ l0.length = l1.length) : ((l0.length : Int) == (l1.length : Int)) = false := by rw [beq_eq_false_iff_ne, ne_eq]; omega
theorem c_sBytesEq {lf d : Nat} (hlf : 33554432 ≤ lf) (l0 l1 : List T) (hs : l0.length ≤ 16777216) : Cc lf (d + 1) 12 [.sl l0, .sl l1] = some [.b (sameB (byteE l0 l1) l0 l1)] := by
 refine (f12_eq (Cc lf d) lf l0 l1).trans ?_
 unfold f12 f12_t sameB
 dsimp only
 by_cases h : l0.length = l1.length
 ·have L := all_loop (F := fun n j => f12_0 (Cc lf d) lf l0 l1 n j) (P := byteE l0 l1) (X := some [T.i .i64 0, T.b false]) (Y := some [T.i .i64 1]) (len := l0.length) (fun n j hj => by
   rw [f12_0_u]
   unfold f12_0_s byteE
   rw [iLt_t (by omega), inR_nat hj, inR_nat (show j < l1.length by omega), wrap_next hj (by omega)]
   simp only [cond_t, Int.toNat_natCast, bne, cond_not]) (fun n => by
   rw [f12_0_u]
   unfold f12_0_s
   rw [iLt_f (by omega)]
   rfl) (n := lf) (by omega)
  simp only [bne, len_eq h, Bool.not_true, cond_f, Bool.true_and]
  rw [L]
  cases allB (byteE l0 l1) l0.length <;> rfl
 ·simp only [bne, len_ne h]
  rfl
theorem c_iBytesEq {lf d : Nat} (hlf : 33554432 ≤ lf) (l0 l1 : List T) (hs : l0.length ≤ 16777216) : Cc lf (d + 1) 18 [.sl l0, .sl l1] = some [.b (sameB (byteE l0 l1) l0 l1)] := by
 refine (f18_eq (Cc lf d) lf l0 l1).trans ?_
 unfold f18 f18_t sameB
 dsimp only
 by_cases h : l0.length = l1.length
 ·have L := all_loop (F := fun n j => f18_0 (Cc lf d) lf l0 l1 n j) (P := byteE l0 l1) (X := some [T.i .i64 0, T.b false]) (Y := some [T.i .i64 1]) (len := l0.length) (fun n j hj => by
   rw [f18_0_u]
   unfold f18_0_s byteE
   rw [iLt_t (by omega), inR_nat hj, inR_nat (show j < l1.length by omega), wrap_next hj (by omega)]
   simp only [cond_t, Int.toNat_natCast, bne, cond_not]) (fun n => by
   rw [f18_0_u]
   unfold f18_0_s
   rw [iLt_f (by omega)]
   rfl) (n := lf) (by omega)
  simp only [bne, len_eq h, Bool.not_true, cond_f, Bool.true_and]
  rw [L]
  cases allB (byteE l0 l1) l0.length <;> rfl
 ·simp only [bne, len_ne h]
  rfl
theorem c_iAttrsEq {lf d : Nat} (hlf : 33554432 ≤ lf) (l0 l1 : List T) (hs : l0.length ≤ 16777216) : Cc lf (d + 1) 19 [.sl l0, .sl l1] = some [.b (sameB (attrE l0 l1) l0 l1)] := by
 refine (f19_eq (Cc lf d) lf l0 l1).trans ?_
 unfold f19 f19_t sameB
 dsimp only
 by_cases h : l0.length = l1.length
 ·have L := all_loop (F := fun n j => f19_0 (Cc lf d) lf l0 l1 n j) (P := attrE l0 l1) (X := some [T.i .i64 0, T.b false]) (Y := some [T.i .i64 1]) (len := l0.length) (fun n j hj => by
   rw [f19_0_u]
   unfold f19_0_s attrE
   rw [iLt_t (by omega), inR_nat hj, inR_nat (show j < l1.length by omega), wrap_next hj (by omega)]
   simp only [cond_t, Int.toNat_natCast, bne, cond_not]) (fun n => by
   rw [f19_0_u]
   unfold f19_0_s
   rw [iLt_f (by omega)]
   rfl) (n := lf) (by omega)
  simp only [bne, len_eq h, Bool.not_true, cond_f, Bool.true_and]
  rw [L]
  cases allB (attrE l0 l1) l0.length <;> rfl
 ·simp only [bne, len_ne h]
  rfl
theorem less_irr : ∀ x : List UInt8, Op.bytesLess x x = false
 | [] => rfl
 | a :: x => by
  have := less_irr x
  simp only [Op.bytesLess, this, Bool.and_false, Bool.or_false, decide_eq_false_iff_not]
  exact UInt8.lt_irrefl a
theorem less_trans : ∀ x y z : List UInt8, Op.bytesLess x y = true → Op.bytesLess y z = true → Op.bytesLess x z = true
 | [], [], z, h, _ => by cases h
 | [], b :: y, [], _, h => by cases h
 | [], b :: y, c :: z, _, _ => rfl
 | a :: x, [], z, h, _ => by cases h
 | a :: x, b :: y, [], _, h => by cases h
 | a :: x, b :: y, c :: z, h1, h2 => by
  simp only [Op.bytesLess, Bool.or_eq_true, decide_eq_true_eq, Bool.and_eq_true, beq_iff_eq] at h1 h2 ⊢
  rcases h1 with h1 | ⟨rfl, h1⟩
  ·rcases h2 with h2 | ⟨rfl, h2⟩
   ·exact .inl (UInt8.lt_trans h1 h2)
   ·exact .inl h1
  ·rcases h2 with h2 | ⟨rfl, h2⟩
   ·exact .inl h2
   ·exact .inr ⟨rfl, less_trans x y z h1 h2⟩
theorem all_loop2 {F : Nat → Int → Option (List T)} {P : Nat → Bool} {X Y : Option (List T)} {len : Nat} (hF : ∀ n (j : Nat), j < len → (∀ i, i < j → P i = true) → F (n + 1) j = bif P j then F n ((j + 1 : Nat) : Int) else X) (hE : ∀ n, F (n + 1) (len : Int) = Y) : ∀ (k s n : Nat), s + k = len → k < n → (∀ i, i < s → P i = true) → F n (s : Int) = bif allB P len then Y else X := by
 intro k
 induction k with
 | zero =>
  intro s n hs hn h0
  obtain ⟨n, rfl⟩ : ∃ z, n = z + 1 := ⟨n - 1, by omega⟩
  have e : s = len := by omega
  subst e
  rw [hE, allB_iff.2 fun i hi => h0 i hi]
  rfl
 | succ k ih =>
  intro s n hs hn h0
  obtain ⟨n, rfl⟩ : ∃ z, n = z + 1 := ⟨n - 1, by omega⟩
  rw [hF n s (by omega) h0]
  cases h : P s with
  | true =>
   rw [cond_t]
   exact ih (s + 1) n (by omega) (by omega) fun i hi => by
    by_cases e : i = s
    ·rw [e]; exact h
    ·exact h0 i (by omega)
  | false =>
   rw [cond_f]
   cases e : allB P len with
   | false => rfl
   | true => have := allB_iff.1 e s (by omega); rw [h] at this; cases this
def pathO (l : List T) (j : Nat) : ByteArray := asS (T.cell (l.getD j T.u) 0)
def kindO (l : List T) (j : Nat) : Int := asI (T.cell (l.getD j T.u) 1)
def dataO (l : List T) (j : Nat) : List T := asL (T.cell (l.getD j T.u) 2)
def attrO (l : List T) (j : Nat) : List T := asL (T.cell (l.getD j T.u) 3)
def frstO (l : List T) (j : Nat) : ByteArray := asS (T.cell (l.getD j T.u) 4)
def entryB (p : ByteArray) (k : Int) (dt ats : List T) (f : ByteArray) : Bool := okP p.data.toList && ((iLe 1 k && iLe k 2) && (!(iLt 100 (dt.length : Int)) && (attrsB ats && ((Op.bytesLess f.toList p.toList || f.toList == p.toList) && (bif k == 1 then true else bif (dt.length : Int) == 0 then f.toList == p.toList else false)))))
def eB (l : List T) (j : Nat) : Bool := entryB (pathO l j) (kindO l j) (dataO l j) (attrO l j) (frstO l j)
def refC (l : List T) (j i : Nat) : Bool := ((pathO l i).toList == (frstO l j).toList) && (((frstO l i).toList == (pathO l i).toList) && ((kindO l i == 1) && (sameB (byteE (dataO l i) (dataO l j)) (dataO l i) (dataO l j) && sameB (attrE (attrO l i) (attrO l j)) (attrO l i) (attrO l j))))
def refB (l : List T) (j : Nat) : Bool := ((frstO l j).toList == (pathO l j).toList) || !allB (fun i => !refC l j i) j
theorem c_sEntry {lf d : Nat} (hlf : 33554432 ≤ lf) (p : ByteArray) (k : Int) (dt ats : List T) (f : ByteArray) (hp : p.size ≤ 1048576) (ha : ats.length + tls ats ≤ 16777216) : Cc lf (d + 5) 10 [.st [.s p, .i .i64 k, .sl dt, .sl ats, .s f]] = some [.b (entryB p k dt ats f)] := by
 refine (f10_eq (Cc lf (d + 4)) lf p k dt ats f).trans ?_
 unfold f10 f10_t entryB
 obtain ⟨r0, r1, e⟩ := c_parent (d := d) hlf p.data.toList (by exact hp)
 rw [bs_of] at e
 rw [e, c_l1In, c_sAttrs (d := d + 1) hlf ats ha]
 simp only [Option.bind_some, nth0, nthS, asB_b]
 cases okP p.data.toList <;> cases (iLe 1 k && iLe k 2) <;> cases iLt 100 (dt.length : Int) <;> cases attrsB ats <;> cases (Op.bytesLess f.toList p.toList || f.toList == p.toList) <;> cases k == 1 <;> cases (dt.length : Int) == 0 <;> rfl
theorem c_iEntry {lf d : Nat} (hlf : 33554432 ≤ lf) (p : ByteArray) (k : Int) (dt ats : List T) (f : ByteArray) (hp : p.size ≤ 1048576) (ha : ats.length + tls ats ≤ 16777216) : Cc lf (d + 7) 15 [.st [.s p, .i .i64 k, .sl dt, .sl ats, .s f]] = some [.b (entryB p k dt ats f)] := by
 refine (f15_eq (Cc lf (d + 6)) lf p k dt ats f).trans ?_
 unfold f15 f15_t entryB
 have e := c_inner (d := d) hlf p.data.toList (by exact hp)
 rw [bs_of] at e
 rw [e, c_from, c_iAttrs (d := d + 3) hlf ats ha]
 simp only [Option.bind_some, nth0, nthS, asB_b]
 cases okP p.data.toList <;> cases (iLe 1 k && iLe k 2) <;> cases iLt 100 (dt.length : Int) <;> cases attrsB ats <;> cases (Op.bytesLess f.toList p.toList || f.toList == p.toList) <;> cases k == 1 <;> cases (dt.length : Int) == 0 <;> rfl
theorem takeT_at {l : List T} {i j : Nat} (h : i < j) : (l.take j).getD i T.u = l.getD i T.u := by
 rw [List.getD_eq_getElem?_getD, List.getD_eq_getElem?_getD, List.getElem?_take_of_lt h]
theorem c_find {lf d : Nat} (hlf : 33554432 ≤ lf) (l : List T) (j : Nat) (hj : j ≤ l.length) (s : ByteArray) (hs : l.length ≤ 16777216) : ((∀ i, i < j → ((pathO l i).toList == s.toList) = false) ∧ Cc lf (d + 1) 11 [.sl (l.take j), .s s] = some [.i .i64 (-1)]) ∨ ∃ k, k < j ∧ ((pathO l k).toList == s.toList) = true ∧ Cc lf (d + 1) 11 [.sl (l.take j), .s s] = some [.i .i64 (k : Int)] := by
 have E := f11_eq (Cc lf d) lf (l.take j) s
 unfold f11 f11_t at E
 dsimp only at E
 have hlen : (l.take j).length = j := by rw [List.length_take]; omega
 rcases find_loop (F := fun n i => f11_0 (Cc lf d) lf (l.take j) s n i) (P := fun i => !((pathO l i).toList == s.toList)) (X := fun i => some [T.i .i64 0, T.i .i64 (i : Int)]) (Y := some [T.i .i64 1]) (len := j) (fun n i hi => by
  rw [f11_0_u]
  unfold f11_0_s
  rw [hlen, iLt_t (by omega), inR_nat hi, Int.toNat_natCast, takeT_at hi, wrap_next hi (by omega)]
  simp only [cond_t]
  show (bif (pathO l i).toList == s.toList then _ else _) = _
  cases (pathO l i).toList == s.toList <;> rfl) (fun n => by
  rw [f11_0_u]
  unfold f11_0_s
  rw [hlen, iLt_f (by omega)]
  rfl) (n := lf) (by omega) with ⟨h1, e⟩ | ⟨_, k, hk, h1, e⟩
 ·rw [e] at E
  refine .inl ⟨fun i hi => ?_, E⟩
  have := allB_iff.1 h1 i hi
  simpa using this
 ·rw [e] at E
  exact .inr ⟨k, hk, by simpa using h1, E⟩
theorem rise_lt {l : List T} {m : Nat} (h : ∀ i, i < m → lessB l i = true) : ∀ (k i : Nat), i + k < m → 0 < k → Op.bytesLess (pathO l i).toList (pathO l (i + k)).toList = true
 | 0, i, _, h0 => absurd h0 (Nat.lt_irrefl _)
 | k + 1, i, hk, _ => by
  have h1 := h (i + (k + 1)) hk
  unfold lessB at h1
  rw [iLt_t (by omega), show i + (k + 1) - 1 = i + k by omega] at h1
  have h1 : Op.bytesLess (pathO l (i + k)).toList (pathO l (i + (k + 1))).toList = true := h1
  by_cases c : k = 0
  ·subst c; exact h1
  ·exact less_trans _ _ _ (rise_lt h k i (by omega) (by omega)) h1
theorem rise_ne {l : List T} {m : Nat} (h : ∀ i, i < m → lessB l i = true) {i k : Nat} (hi : i < m) (hk : k < m) (e : (pathO l i).toList = (pathO l k).toList) : i = k := by
 rcases Nat.lt_trichotomy i k with c | c | c
 ·have := rise_lt h (k - i) i (by omega) (by omega)
  rw [show i + (k - i) = k by omega, e, less_irr] at this
  cases this
 ·exact c
 ·have := rise_lt h (i - k) k (by omega) (by omega)
  rw [show k + (i - k) = i by omega, e, less_irr] at this
  cases this
theorem ref_none {l : List T} {j : Nat} (h : ∀ i, i < j → ((pathO l i).toList == (frstO l j).toList) = false) : allB (fun i => !refC l j i) j = true := allB_iff.2 fun i hi => by
 unfold refC
 rw [h i hi]
 rfl
theorem ref_one {l : List T} {j k : Nat} (hr : ∀ i, i < j → lessB l i = true) (hk : k < j) (h : ((pathO l k).toList == (frstO l j).toList) = true) : allB (fun i => !refC l j i) j = !refC l j k := by
 cases e : refC l j k with
 | true =>
  cases e2 : allB (fun i => !refC l j i) j with
  | false => rfl
  | true => have := allB_iff.1 e2 k hk; rw [e] at this; cases this
 | false =>
  refine allB_iff.2 fun i hi => ?_
  by_cases c : i = k
  ·rw [c, e]; rfl
  ·have : ((pathO l i).toList == (frstO l j).toList) = false := by
    cases e3 : (pathO l i).toList == (frstO l j).toList with
    | false => rfl
    | true => exact absurd (rise_ne hr hi hk ((beq_iff_eq.1 e3).trans (beq_iff_eq.1 h).symm)) c
   unfold refC
   rw [this]
   rfl
def sP (l : List T) (j : Nat) : Bool := eB l j && (lessB l j && refB l j)
def iP (l : List T) (j : Nat) : Bool := eB l j && refB l j
theorem c_sAttrsSame {lf d : Nat} (hlf : 33554432 ≤ lf) (l0 l1 : List T) (hs : l0.length ≤ 16777216) : Cc lf (d + 1) 13 [.sl l0, .sl l1] = some [.b (sameB (attrE l0 l1) l0 l1)] := by
 refine (f13_eq (Cc lf d) lf l0 l1).trans ?_
 unfold f13 f13_t sameB
 dsimp only
 by_cases h : l0.length = l1.length
 ·have L := all_loop (F := fun n j => f13_0 (Cc lf d) lf l0 l1 n j) (P := attrE l0 l1) (X := some [T.i .i64 0, T.b false]) (Y := some [T.i .i64 1]) (len := l0.length) (fun n j hj => by
   rw [f13_0_u]
   unfold f13_0_s attrE
   rw [iLt_t (by omega), inR_nat hj, inR_nat (show j < l1.length by omega), wrap_next hj (by omega)]
   simp only [cond_t, Int.toNat_natCast, cond_not]) (fun n => by
   rw [f13_0_u]
   unfold f13_0_s
   rw [iLt_f (by omega)]
   rfl) (n := lf) (by omega)
  simp only [bne, len_eq h, Bool.not_true, cond_f, Bool.true_and]
  rw [L]
  cases allB (attrE l0 l1) l0.length <;> rfl
 ·simp only [bne, len_ne h]
  rfl
theorem entSz {l : List T} {j : Nat} (hs : l.length + tls l ≤ 1048576) : (pathO l j).size ≤ 1048576 ∧ (attrO l j).length + tls (attrO l j) ≤ 16777216 ∧ (dataO l j).length ≤ 16777216 ∧ (attrO l j).length ≤ 16777216 := by
 have h1 := cellS_le (l := l) (j := j) 0
 have h2 := cellL_le (l := l) (j := j) 3
 have h3 := cellL_le (l := l) (j := j) 2
 unfold pathO attrO dataO
 omega
set_option maxHeartbeats 1000000 in
theorem c_sEntries {lf d : Nat} (hlf : 33554432 ≤ lf) (l : List T) (hs : l.length + tls l ≤ 1048576) : Cc lf (d + 6) 5 [.sl l] = some [.b (allB (sP l) l.length && iLe (l.length : Int) 200)] := by
 refine (f5_eq (Cc lf (d + 5)) lf l).trans ?_
 unfold f5 f5_t
 dsimp only
 have L := all_loop2 (F := fun n j => f5_0 (Cc lf (d + 5)) lf l n j) (P := sP l) (X := some [T.i .i64 0, T.b false]) (Y := some [T.i .i64 1, T.sl l]) (len := l.length) (fun n j hj hprev => by
  obtain ⟨z1, z2, z3, z4⟩ := entSz (j := j) hs
  have hE := c_sEntry (d := d) hlf (pathO l j) (kindO l j) (dataO l j) (attrO l j) (frstO l j) z1 z2
  have hr : ∀ i, i < j → lessB l i = true := fun i hi => by
   have := hprev i hi
   unfold sP at this
   simp only [Bool.and_eq_true] at this
   exact this.2.1
  rw [f5_0_u]
  unfold f5_0_s
  simp only [Int.toNat_natCast]
  have core : ∀ (Q : Option (List T)), (bif (frstO l j).toList == (pathO l j).toList then Q else bif true then (Cc lf (d + 5) 11 [T.sl (l.take j), T.s (frstO l j)]).bind fun r139 =>
   bif iLt (asI (nth r139 0)) 0 then some [T.i .i64 0, T.b false] else
   bif inR (asI (nth r139 0)) l.length then
   bif (asI (T.cell (l.getD ((asI (nth r139 0)).toNat) T.u) 1)) != 1 then some [T.i .i64 0, T.b false] else
   bif inR (asI (nth r139 0)) l.length then
   bif !((asS (T.cell (l.getD ((asI (nth r139 0)).toNat) T.u) 4)).toList == (frstO l j).toList) then some [T.i .i64 0, T.b false] else
   bif inR (asI (nth r139 0)) l.length then
   (Cc lf (d + 5) 12 [T.sl (asL (T.cell (l.getD ((asI (nth r139 0)).toNat) T.u) 2)), T.sl (dataO l j)]).bind fun r140 =>
   bif !(asB (nth r140 0)) then some [T.i .i64 0, T.b false] else
   bif inR (asI (nth r139 0)) l.length then
   (Cc lf (d + 5) 13 [T.sl (asL (T.cell (l.getD ((asI (nth r139 0)).toNat) T.u) 3)), T.sl (attrO l j)]).bind fun r141 =>
   bif !(asB (nth r141 0)) then some [T.i .i64 0, T.b false] else Q
   else none else none else none else none else none) = bif refB l j then Q else some [T.i .i64 0, T.b false] := by
   intro Q
   unfold refB
   cases hf : (frstO l j).toList == (pathO l j).toList with
   | true => rfl
   | false =>
    simp only [cond_f, cond_t, Bool.false_or]
    rcases c_find (d := d + 4) hlf l j (by omega) (frstO l j) (by omega) with ⟨h1, e⟩ | ⟨k, hk, h1, e⟩
    ·rw [e, ref_none h1]
     rfl
    ·obtain ⟨_, _, y3, y4⟩ := entSz (j := k) hs
     rw [e, ref_one hr hk h1]
     simp only [Option.bind_some, nth0, asI_i]
     rw [iLt_f (by omega), inR_nat (by omega), Int.toNat_natCast]
     simp only [cond_f, cond_t]
     rw [c_sBytesEq (d := d + 4) hlf _ _ (show (asL (T.cell (l.getD k T.u) 2)).length ≤ 16777216 from y3), c_sAttrsSame (d := d + 4) hlf _ _ (show (asL (T.cell (l.getD k T.u) 3)).length ≤ 16777216 from y4)]
     simp only [Option.bind_some, nth0, asB_b]
     unfold refC
     rw [h1]
     have e4 : ((asS (T.cell (l.getD k T.u) 4)).toList == (frstO l j).toList) = ((frstO l k).toList == (pathO l k).toList) := by
      rw [beq_iff_eq.1 h1]
      rfl
     rw [e4]
     show (bif kindO l k != 1 then _ else _) = _
     show (bif kindO l k != 1 then _ else bif !((frstO l k).toList == (pathO l k).toList) then _ else bif !(sameB (byteE (dataO l k) (dataO l j)) (dataO l k) (dataO l j)) then _ else bif !(sameB (attrE (attrO l k) (attrO l j)) (attrO l k) (attrO l j)) then _ else Q) = _
     unfold bne
     generalize (kindO l k == 1) = b1
     generalize ((frstO l k).toList == (pathO l k).toList) = b2
     generalize sameB (byteE (dataO l k) (dataO l j)) (dataO l k) (dataO l j) = b3
     generalize sameB (attrE (attrO l k) (attrO l j)) (attrO l k) (attrO l j) = b4
     cases b1 <;> cases b2 <;> cases b3 <;> cases b4 <;> rfl
  have hE' : Cc lf (d + 5) 10 [T.st [T.s (asS (T.cell (l.getD j T.u) 0)), T.i .i64 (asI (T.cell (l.getD j T.u) 1)), T.sl (asL (T.cell (l.getD j T.u) 2)), T.sl (asL (T.cell (l.getD j T.u) 3)), T.s (asS (T.cell (l.getD j T.u) 4))]] = some [.b (eB l j)] := hE
  rw [iLt_t (by omega), inR_nat hj, hE', wrap_next hj (by omega), iLe_t (show (0 : Int) ≤ (j : Int) by omega), iLe_t (show (j : Int) ≤ (l.length : Int) by omega)]
  simp only [cond_t, Option.bind_some, nth0, asB_b, Bool.and_self]
  have hc := core (f5_0 (Cc lf (d + 5)) lf l n ((j + 1 : Nat) : Int))
  unfold sP
  cases eB l j with
  | false => rfl
  | true =>
   simp only [Bool.not_true, cond_f, Bool.true_and]
   unfold lessB
   cases h0 : iLt 0 (j : Int) with
   | true =>
    have hj0 : 0 < j := by have := iLt_iff.1 h0; omega
    rw [wrap_pred hj0 (by omega), inR_nat (by omega), Int.toNat_natCast]
    simp only [cond_t, Bool.not_true, Bool.false_or]
    cases Op.bytesLess (asS (T.cell (l.getD (j - 1) T.u) 0)).toList (asS (T.cell (l.getD j T.u) 0)).toList with
    | false => rfl
    | true =>
     simp only [Bool.not_true, cond_f, Bool.true_and]
     exact hc
   | false =>
    simp only [cond_f, Bool.not_false, Bool.true_or, Bool.true_and]
    exact hc) (fun n => by
  rw [f5_0_u]
  unfold f5_0_s
  rw [iLt_f (by omega)]
  rfl) l.length 0 lf (by omega) (by omega) (fun i hi => by omega)
 rw [show ((0 : Nat) : Int) = 0 from rfl] at L
 rw [L]
 cases allB (sP l) l.length <;> rfl
theorem c_rising {lf d : Nat} (hlf : 33554432 ≤ lf) (l : List T) (hs : l.length ≤ 1048576) : Cc lf (d + 1) 20 [.sl l] = some [.b (allB (lessB l) l.length && iLe (l.length : Int) 200)] := by
 refine (f20_eq (Cc lf d) lf l).trans ?_
 unfold f20 f20_t
 dsimp only
 by_cases h0 : l.length = 0
 ·obtain ⟨n, rfl⟩ : ∃ z, lf = z + 1 := ⟨lf - 1, by omega⟩
  rw [f20_0_u]
  unfold f20_0_s
  rw [iLt_f (by omega), h0]
  show some [T.b (iLe (l.length : Int) 200)] = _
  rw [h0]
  rfl
 ·have L := all_loop2 (F := fun n j => bif decide (j = 0) then f20_0 (Cc lf d) lf l (n - 1) 1 else f20_0 (Cc lf d) lf l n j) (P := lessB l) (X := some [T.i .i64 0, T.b false]) (Y := some [T.i .i64 1, T.sl l]) (len := l.length) (fun n j hj _ => by
   by_cases hj0 : j = 0
   ·subst hj0
    rfl
   ·rw [decide_eq_false (show ¬ (j : Int) = 0 by omega), decide_eq_false (show ¬ ((j + 1 : Nat) : Int) = 0 by omega), cond_f, cond_f, f20_0_u]
    unfold f20_0_s lessB
    rw [iLt_t (by omega), iLt_t (by omega), wrap_pred (by omega) (by omega), inR_nat (by omega), inR_nat hj, Int.toNat_natCast, Int.toNat_natCast, wrap_next hj (by omega)]
    simp only [cond_t, Bool.not_true, Bool.false_or]
    cases Op.bytesLess (asS (T.cell (l.getD (j - 1) T.u) 0)).toList (asS (T.cell (l.getD j T.u) 0)).toList <;> rfl) (fun n => by
   rw [decide_eq_false (show ¬ (l.length : Int) = 0 by omega), cond_f, f20_0_u]
   unfold f20_0_s
   rw [iLt_f (by omega)]
   rfl) (l.length - 1) 1 lf (by omega) (by omega) (fun i hi => by rw [show i = 0 by omega]; rfl)
  rw [show decide (((1 : Nat) : Int) = 0) = false from rfl, cond_f, show ((1 : Nat) : Int) = 1 from rfl] at L
  rw [L]
  cases allB (lessB l) l.length <;> rfl
set_option maxHeartbeats 1000000 in
theorem c_iEntries {lf d : Nat} (hlf : 33554432 ≤ lf) (l : List T) (hs : l.length + tls l ≤ 1048576) : Cc lf (d + 8) 7 [.sl l] = some [.b (allB (iP l) l.length && (allB (lessB l) l.length && iLe (l.length : Int) 200))] := by
 refine (f7_eq (Cc lf (d + 7)) lf l).trans ?_
 unfold f7 f7_t
 dsimp only
 have L := all_loop (F := fun n j => f7_0 (Cc lf (d + 7)) lf l n j) (P := iP l) (X := some [T.i .i64 0, T.b false]) (Y := some [T.i .i64 1, T.sl l]) (len := l.length) (fun n j hj => by
  obtain ⟨z1, z2, z3, z4⟩ := entSz (j := j) hs
  have hE := c_iEntry (d := d) hlf (pathO l j) (kindO l j) (dataO l j) (attrO l j) (frstO l j) z1 z2
  have hE' : Cc lf (d + 7) 15 [T.st [T.s (asS (T.cell (l.getD j T.u) 0)), T.i .i64 (asI (T.cell (l.getD j T.u) 1)), T.sl (asL (T.cell (l.getD j T.u) 2)), T.sl (asL (T.cell (l.getD j T.u) 3)), T.s (asS (T.cell (l.getD j T.u) 4))]] = some [.b (eB l j)] := hE
  have hlen : (l.take j).length = j := by rw [List.length_take]; omega
  have hI : (allB (fun i => !refC l j i) j = true ∧ ∃ v, f7_1 (Cc lf (d + 7)) lf l (j : Int) lf 0 = some (T.i .i64 1 :: v)) ∨ (allB (fun i => !refC l j i) j = false ∧ ∃ (i : Nat) (v : List T), f7_1 (Cc lf (d + 7)) lf l (j : Int) lf 0 = some (T.i .i64 0 :: T.i .i64 (i : Int) :: v)) := by
   rcases find_loop (F := fun n i => f7_1 (Cc lf (d + 7)) lf l (j : Int) n i) (P := fun i => !refC l j i) (X := fun i => some [T.i .i64 0, T.i .i64 (i : Int), T.s (asS (T.cell (l.getD j T.u) 0)), T.i .i64 (asI (T.cell (l.getD j T.u) 1)), T.sl (asL (T.cell (l.getD j T.u) 2)), T.sl (asL (T.cell (l.getD j T.u) 3)), T.s (asS (T.cell (l.getD j T.u) 4))]) (Y := some [T.i .i64 1, T.s (asS (T.cell (l.getD j T.u) 0)), T.i .i64 (asI (T.cell (l.getD j T.u) 1)), T.sl (asL (T.cell (l.getD j T.u) 2)), T.sl (asL (T.cell (l.getD j T.u) 3)), T.s (asS (T.cell (l.getD j T.u) 4))]) (len := j) (fun n i hi => by
    obtain ⟨_, _, y3, y4⟩ := entSz (j := i) hs
    rw [f7_1_u]
    unfold f7_1_s
    simp only [Int.toNat_natCast]
    rw [hlen, iLt_t (by omega), inR_nat hi, takeT_at hi, wrap_next hi (by omega), c_iBytesEq (d := d + 6) hlf _ _ (show (asL (T.cell (l.getD i T.u) 2)).length ≤ 16777216 from y3), c_iAttrsEq (d := d + 6) hlf _ _ (show (asL (T.cell (l.getD i T.u) 3)).length ≤ 16777216 from y4)]
    simp only [Option.bind_some, nth0, asB_b, cond_t]
    show (bif (pathO l i).toList == (frstO l j).toList then bif (frstO l i).toList == (pathO l i).toList then bif kindO l i == 1 then bif sameB (byteE (dataO l i) (dataO l j)) (dataO l i) (dataO l j) then bif sameB (attrE (attrO l i) (attrO l j)) (attrO l i) (attrO l j) then _ else _ else _ else _ else _ else _) = _
    unfold refC
    generalize ((pathO l i).toList == (frstO l j).toList) = b0
    generalize ((frstO l i).toList == (pathO l i).toList) = b2
    generalize (kindO l i == 1) = b1
    generalize sameB (byteE (dataO l i) (dataO l j)) (dataO l i) (dataO l j) = b3
    generalize sameB (attrE (attrO l i) (attrO l j)) (attrO l i) (attrO l j) = b4
    cases b0 <;> cases b1 <;> cases b2 <;> cases b3 <;> cases b4 <;> rfl) (fun n => by
    rw [f7_1_u]
    unfold f7_1_s
    simp only [Int.toNat_natCast]
    rw [hlen, iLt_f (by omega)]
    rfl) (n := lf) (by omega) with ⟨h, e⟩ | ⟨h, i, _, _, e⟩
   ·exact .inl ⟨h, _, e⟩
   ·exact .inr ⟨h, i, _, e⟩
  rw [f7_0_u]
  unfold f7_0_s
  simp only [Int.toNat_natCast]
  rw [iLt_t (by omega), inR_nat hj, hE', wrap_next hj (by omega), iLe_t (show (0 : Int) ≤ (j : Int) by omega), iLe_t (show (j : Int) ≤ (l.length : Int) by omega)]
  simp only [cond_t, Option.bind_some, nth0, asB_b, Bool.and_self]
  unfold iP refB
  cases eB l j with
  | false => rfl
  | true =>
   simp only [Bool.not_true, cond_f, Bool.true_and]
   show (bif (frstO l j).toList == (pathO l j).toList then _ else _) = _
   cases (frstO l j).toList == (pathO l j).toList with
   | true => rfl
   | false =>
    simp only [cond_f, Bool.false_or]
    rcases hI with ⟨h, v, e⟩ | ⟨h, i, v, e⟩
    ·rw [e, h]
     rfl
    ·rw [e, h]
     simp only [Option.bind_some, nth0, nthS, asI_i]
     rw [iLe_t (by omega)]
     rfl) (fun n => by
  rw [f7_0_u]
  unfold f7_0_s
  rw [iLt_f (by omega)]
  rfl) (n := lf) (by omega)
 rw [L]
 cases allB (iP l) l.length with
 | false => rfl
 | true =>
  simp only [cond_t, Option.bind_some, nth0, nthS, asI_i, asL_l]
  rw [show ((1 : Int) == 0) = false from rfl, cond_f, c_rising (d := d + 6) hlf l (by omega)]
  rfl
theorem all_and (l : List T) : allB (sP l) l.length = (allB (iP l) l.length && allB (lessB l) l.length) := by
 cases h1 : allB (iP l) l.length && allB (lessB l) l.length with
 | true =>
  simp only [Bool.and_eq_true] at h1
  refine allB_iff.2 fun j hj => ?_
  have a := allB_iff.1 h1.1 j hj
  have b := allB_iff.1 h1.2 j hj
  unfold iP at a
  unfold sP
  simp only [Bool.and_eq_true] at a ⊢
  exact ⟨a.1, b, a.2⟩
 | false =>
  cases h2 : allB (sP l) l.length with
  | false => rfl
  | true =>
   have a : allB (iP l) l.length = true := allB_iff.2 fun j hj => by
    have := allB_iff.1 h2 j hj
    unfold sP at this
    unfold iP
    simp only [Bool.and_eq_true] at this ⊢
    exact ⟨this.1, this.2.2⟩
   have b : allB (lessB l) l.length = true := allB_iff.2 fun j hj => by
    have := allB_iff.1 h2 j hj
    unfold sP at this
    simp only [Bool.and_eq_true] at this
    exact this.2.1
   rw [a, b] at h1
   cases h1
theorem same {lf : Nat} (hlf : 33554432 ≤ lf) (l : List T) {c : CT} (hf : fitC c (.sl l)) (z : tl (.sl l) ≤ 1048576) :
 ∃ r, Cc lf 11 5 [.sl l] = some [r] ∧ Cc lf 11 7 [.sl l] = some [r] ∧ (fitC .b r ∧ tl r ≤ 16777216) ∧ True := by
 simp only [tl] at z
 refine ⟨_, c_sEntries (d := 5) hlf l z, ?_, ⟨trivial, Nat.zero_le _⟩, trivial⟩
 rw [c_iEntries (d := 3) hlf l z, all_and, Bool.and_assoc]
theorem lawB {lf : Nat} (hlf : 33554432 ≤ lf) {t0 : T} (ht0 : fitC (.sl true [.s, .i .i64, .sl false [.i .u8], .sl true [.s, .s], .s]) t0) : Cc lf 12 3 [t0] = some [.b true] := by
 have hf0 := ht0
 obtain ⟨p0_0, rfl, w0_0⟩ := fitC_sl ht0
 refine (f3_eq (Cc lf 11) lf p0_0).trans ?_
 unfold f3 f3_t
 rcases sz4 hlf (d := 11) (by omega) _ hf0 1048576 (by omega) (by omega) with e | ⟨y1, e1, g1, zz0⟩
 ·rw [e]; rfl
 rw [e1]
 simp only [Option.bind_some, nth0, asI_i]
 rw [iLt_f (show ¬ y1 < 0 by omega), cond_f]
 have z0 : tl (T.sl p0_0) ≤ 1048576 := by omega
 have eT0 := to6 hlf (d := 11) (by omega) _ hf0 (by omega)
 obtain ⟨r0, eS, eI, ⟨hr0, zr0⟩, _⟩ := same hlf p0_0 hf0 z0
 have hR0 := hr0
 obtain ⟨R0_0, rfl⟩ := fitC_b hr0
 have eX0 := eq8 hlf (d := 11) (by omega) _ hf0 (by omega)
 simp only [eT0, eS, eI, eX0, Option.bind_some, nth0, nthS, asI_i, asL_l, asB_b, asS_s, cell0, cellS, beq_self_eq_true, bne_self_eq_false, Bool.not_true, Bool.and_true, cond_f, cond_t]
end Go.Proofs.YtdclnhlpifahpaaDoor.T
