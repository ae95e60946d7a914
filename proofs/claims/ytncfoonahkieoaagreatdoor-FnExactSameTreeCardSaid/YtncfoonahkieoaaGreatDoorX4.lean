/- What functions of the law FnExactSameTree come to, in trees; no condition. -/
import Derived.Test.YtncfoonahkieoaaGreatDoorRows
import Derived.Test.YtncfoonahkieoaaGreatDoorX3
set_option linter.unusedVariables false
set_option linter.constructorNameAsVariable false
set_option linter.unusedSimpArgs false
set_option linter.unnecessarySimpa false
namespace Go.Proofs.YtncfoonahkieoaaGreatDoor.T
open Go Go.Proofs.YtncfoonahkieoaaGreatDoorV
set_option maxRecDepth 100000
theorem qiw {lf d : Nat} (a lo hi : Int) : Cc lf (d + 1) 69 [.i .i64 a, .i .i64 lo, .i .i64 hi] = some [.b (iLe lo a && iLe a hi)] := by
 refine (f69_eq (Cc lf d) lf a lo hi).trans ?_
 unfold f69 f69_t
 exact qx1 _ _
theorem qmw {lf d : Nat} (a lo hi : Int) : Cc lf (d + 1) 76 [.i .i64 a, .i .i64 lo, .i .i64 hi] = some [.b (iLe lo a && iLe a hi)] := by
 refine (f76_eq (Cc lf d) lf a lo hi).trans ?_
 unfold f76 f76_t
 exact qx1 _ _
theorem qo8 {lf d : Nat} (hlf : 33554432 ≤ lf) (s : ByteArray) (hs : s.size ≤ 16777216) : Cc lf (d + 2) 105 [.s s] = some [.b (nameB s)] := by
 refine (f105_eq (Cc lf (d + 1)) lf s).trans ?_
 unfold f105 f105_t
 have L := qav (F := fun n j => f105_0 (Cc lf (d + 1)) lf s n j) (P := fun j => chB (qad s j)) (X := some [T.i .i64 0, T.b false]) (Y := some [T.i .i64 1, T.s s]) (len := s.size) (fun n j hj => by
  show f105_0_s (Cc lf (d + 1)) lf s _ _ = _
  unfold f105_0_s
  obtain ⟨b0, b1⟩ := qub s j
  rw [iLt_t (by omega), qa1 hj, wrapK (x := qad s j) (by omega), qa4 hj (by omega)]
  simp only [qiw, Option.bind_some, nth0, asB_b, chB, qug, qbg, qei, qgo, qa0]) (fun n => by
  show f105_0_s (Cc lf (d + 1)) lf s _ _ = _
  unfold f105_0_s
  rw [iLt_f (by omega)]
  rfl) (n := lf) (by omega)
 simp only at L ⊢
 rw [L]
 unfold nameB
 cases allB (fun j => chB (qad s j)) s.size with
 | false => rfl
 | true =>
  simp only [qa0, Option.bind_some, nth0, nthS, asI_i, asB_b, asS_s, qiw, qbg]
  rw [show ((1 : Int) == 0) = false from rfl, qa6]
  cases iLe 1 (s.size : Int) <;> cases iLe (s.size : Int) 14 <;> cases (s.toList == (⟨#[46]⟩ : ByteArray).toList) <;> cases (s.toList == (⟨#[46, 46]⟩ : ByteArray).toList) <;> rfl
theorem qo9 {lf d : Nat} (hlf : 33554432 ≤ lf) (s : ByteArray) (hs : s.size ≤ 16777216) : Cc lf (d + 2) 101 [.s s] = some [.b (nameB s)] := by
 refine (f101_eq (Cc lf (d + 1)) lf s).trans ?_
 unfold f101 f101_t
 have L := qav (F := fun n j => f101_0 (Cc lf (d + 1)) lf s n j) (P := fun j => chB (qad s j)) (X := some [T.i .i64 0, T.b false]) (Y := some [T.i .i64 1, T.s s]) (len := s.size) (fun n j hj => by
  show f101_0_s (Cc lf (d + 1)) lf s _ _ = _
  unfold f101_0_s
  rw [iLt_t (by omega), qa1 hj, qa4 hj (by omega)]
  simp only [qwx, chB, qug, qbg, qei, qgo, qa0]) (fun n => by
  show f101_0_s (Cc lf (d + 1)) lf s _ _ = _
  unfold f101_0_s
  rw [iLt_f (by omega)]
  rfl) (n := lf) (by omega)
 simp only at L ⊢
 rw [L]
 unfold nameB
 cases allB (fun j => chB (qad s j)) s.size with
 | false => rfl
 | true =>
  simp only [qa0, Option.bind_some, nth0, nthS, asI_i, asB_b, asS_s, qbg]
  rw [show ((1 : Int) == 0) = false from rfl, qa6]
  cases iLe 1 (s.size : Int) <;> cases iLe (s.size : Int) 14 <;> cases (s.toList == (⟨#[46]⟩ : ByteArray).toList) <;> cases (s.toList == (⟨#[46, 46]⟩ : ByteArray).toList) <;> rfl
theorem qy8 {lf d : Nat} {l : List T} (h : l.length ≤ 1073741830) : Cc lf (d + 1) 82 [.sl l] = some [.sl l] := by
 show (bif nLe (0 + l.length) LIM then some [T.sl l] else none) = _
 rw [nLe_t (by unfold LIM; omega)]
 rfl
def bsOf (l : List UInt8) : ByteArray := ⟨l.toArray⟩
abbrev SL (L : List (List UInt8)) : List T := L.map fun x => T.s (bsOf x)
theorem bs_of (s : ByteArray) : bsOf s.data.toList = s := by cases s; rfl
theorem qds (l : List UInt8) : (bsOf l).size = l.length := rfl
theorem qix (l : List UInt8) : (bsOf l).toList = l := Lib.toList_data _
theorem que (l : List UInt8) (i j : Nat) : (bsOf l).extract i j = bsOf ((l.take j).drop i) := by
 have : ((bsOf l).extract i j).data = (bsOf ((l.take j).drop i)).data := by
  rw [ByteArray.data_extract]
  apply Array.ext'
  rw [Array.toList_extract]
  show List.extract l i j = (l.take j).drop i
  rw [List.extract_eq_take_drop, List.drop_take]
 exact ByteArray.ext this
theorem qmx {l : List UInt8} {j : Nat} : qad (bsOf l) (j : Int) = ((l.getD j 0).toNat : Int) := by
 unfold qad
 rw [qix]
 rfl
def cutL : List UInt8 → List (List UInt8)
 | [] => [[]]
 | c :: l => if c = 47 then [] :: cutL l else (c :: (cutL l).headD []) :: (cutL l).tail
theorem qhh : ∀ l : List UInt8, (cutL l).length = l.count 47 + 1
 | [] => rfl
 | c :: l => by
  have h := qhh l
  unfold cutL
  by_cases e : c = 47
  ·subst e; rw [if_pos rfl, List.count_cons_self, List.length_cons, h]
  ·rw [if_neg e, List.length_cons, List.length_tail, h, List.count_cons_of_ne (by simpa using e)]; omega
theorem qla : ∀ {l : List UInt8}, 47 ∉ l → cutL l = [l]
 | [], _ => rfl
 | c :: l, h => by
  unfold cutL
  rw [if_neg (fun e => h (by rw [e]; exact List.mem_cons_self ..)), qla (fun hm => h (List.mem_cons_of_mem _ hm))]
  rfl
theorem qo0 : ∀ {a b : List UInt8}, 47 ∉ a → cutL (a ++ 47 :: b) = a :: cutL b
 | [], b, _ => by rw [List.nil_append, cutL, if_pos rfl]
 | c :: a, b, h => by
  rw [List.cons_append, cutL, if_neg (fun e => h (by rw [e]; exact List.mem_cons_self ..)), qo0 (fun hm => h (List.mem_cons_of_mem _ hm))]
  rfl
theorem qmc : ∀ l : List UInt8, (47 ∉ l ∧ idxL l 47 = -1) ∨ ∃ a b, l = a ++ 47 :: b ∧ 47 ∉ a ∧ idxL l 47 = (a.length : Int)
 | [] => .inl ⟨List.not_mem_nil, rfl⟩
 | c :: l => by
  by_cases e : c = 47
  ·subst e; exact .inr ⟨[], l, rfl, List.not_mem_nil, rfl⟩
  ·have e2 : (c == 47) = false := beq_eq_false_iff_ne.2 e
   rcases qmc l with ⟨h1, h2⟩ | ⟨a, b, h1, h2, h3⟩
   ·refine .inl ⟨fun hm => ?_, by simp [idxL, e2, h2]⟩
    rcases List.mem_cons.1 hm with h | h
    ·exact e h.symm
    ·exact h1 h
   ·refine .inr ⟨c :: a, b, by rw [h1]; rfl, fun hm => ?_, ?_⟩
    ·rcases List.mem_cons.1 hm with h | h
     ·exact e h.symm
     ·exact h2 h
    ·have : (idxL l 47 == -1) = false := beq_eq_false_iff_ne.2 (by omega)
     simp only [idxL, e2, this, h3, List.length_cons]
     simp
theorem qls {l : List T} {j : Nat} (x : T) (h : j < l.length) : (l.set j x).take (j + 1) = l.take j ++ [x] := by
 rw [List.take_add_one, List.getElem?_set_self h, List.take_set_of_le (Nat.le_refl _)]
 rfl
theorem qth {l : List UInt8} {j : Nat} (h : j < l.length) : l.getD j 0 = l[j] := by
 rw [List.getD_eq_getElem?_getD, List.getElem?_eq_getElem h]
 rfl
theorem drop_at {l : List UInt8} {j : Nat} (h : j < l.length) : l.drop j = l.getD j 0 :: l.drop (j + 1) := by
 rw [List.drop_eq_getElem_cons h, qth h]
theorem qxu {l : List UInt8} {f i : Nat} (h : f ≤ i) (hi : i < l.length) : (l.take (i + 1)).drop f = (l.take i).drop f ++ [l.getD i 0] := by
 rw [List.take_add_one, List.getElem?_eq_getElem hi, List.drop_append_of_le_length (by rw [List.length_take]; omega), qth hi]
 rfl
theorem qk6 {l : List UInt8} {f i : Nat} (h : f ≤ i) : l.drop f = (l.take i).drop f ++ l.drop i := by
 by_cases hi : i ≤ l.length
 ·conv => lhs; rw [← List.take_append_drop i l]
  rw [List.drop_append_of_le_length (by rw [List.length_take]; omega)]
 ·rw [List.drop_eq_nil_of_le (show l.length ≤ i by omega), List.take_of_length_le (by omega), List.append_nil]
set_option maxHeartbeats 2000000 in
theorem qrl {lf d : Nat} (hlf : 33554432 ≤ lf) (l : List UInt8) (hs : l.length ≤ 1048576) : Cc lf (d + 2) 118 [.s (bsOf l), .s ⟨#[47]⟩, .i .i64 0, .i .i64 (-1)] = some [.sl (SL (cutL l))] := by
 have E := f118_eq (Cc lf (d + 1)) lf (bsOf l) ⟨#[47]⟩ 0 (-1)
 unfold f118 f118_t at E
 dsimp only at E
 have hcl : l.count 47 ≤ l.length := List.count_le_length
 have eC : Cc lf (d + 1) 138 [.s (bsOf l), .s ⟨#[47]⟩] = some [.i .i64 (l.count 47 : Nat)] := rfl
 have e1 : imin (IntKind.wrap .i64 ((l.count 47 : Nat) + 1)) (IntKind.wrap .i64 (((bsOf l).size : Int) + 1)) = ((l.count 47 + 1 : Nat) : Int) := by
  rw [qds, qaw (x := ((l.count 47 : Nat) : Int) + 1) (by omega) (by omega), qaw (x := (l.length : Int) + 1) (by omega) (by omega)]
  unfold imin
  split <;> omega
 rw [show ((-1 : Int) == 0) = false from rfl, qa6, show ((⟨#[47]⟩ : ByteArray).toList == (⟨#[]⟩ : ByteArray).toList) = false from by rw [Lib.toList_data, Lib.toList_data]; rfl, qa6, iLt_t (by omega), qa0, eC] at E
 simp only [Option.bind_some, nth0, asI_i] at E
 rw [e1, iLe_t (by omega), iLe_t (show ((l.count 47 + 1 : Nat) : Int) ≤ (LIM : Int) by unfold LIM; omega), beq_self_eq_true, Int.toNat_natCast] at E
 simp only [Bool.and_self, qa0] at E
 have Lp : ∀ (k i n : Nat) (R : List UInt8) (cur : List T), i + k = l.count 47 → k < n → R.length ≤ l.length → R.count 47 = k → cur.length = l.count 47 + 1 → cur.take i ++ SL (cutL R) = SL (cutL l) → ∃ R' cur', f118_0 (Cc lf (d + 1)) lf 0 [T.i .i64 ((l.count 47 : Nat) : Int)] (bsOf l) ⟨#[47]⟩ n (bsOf R) (i : Int) cur = some [T.i .i64 0, T.s (bsOf R'), T.i .i64 ((l.count 47 : Nat) : Int), T.sl cur'] ∧ cur'.length = l.count 47 + 1 ∧ cur'.take (l.count 47) ++ [T.s (bsOf R')] = SL (cutL l) := by
  intro k
  induction k with
  | zero =>
   intro i n R cur hi hn hR hc hl hp
   obtain ⟨n, rfl⟩ : ∃ z, n = z + 1 := ⟨n - 1, by omega⟩
   refine ⟨R, cur, ?_, hl, ?_⟩
   ·rw [f118_0_u]
    unfold f118_0_s
    simp only [nth0, asI_i]
    rw [e1, qaw (x := ((l.count 47 + 1 : Nat) : Int) - 1) (by omega) (by omega), iLt_f (by omega), show i = l.count 47 by omega]
    rfl
   ·rw [qla (fun hm => by have := List.count_pos_iff.2 hm; omega)] at hp
    rw [← hp, show i = l.count 47 by omega]
    rfl
  | succ k ih =>
   intro i n R cur hi hn hR hc hl hp
   obtain ⟨n, rfl⟩ : ∃ z, n = z + 1 := ⟨n - 1, by omega⟩
   rcases qmc R with ⟨h1, _⟩ | ⟨a, b, hab, h2, h3⟩
   ·exact absurd (List.count_pos_iff.1 (by omega)) h1
   ·have hla : R.length = a.length + (b.length + 1) := by rw [hab, List.length_append, List.length_cons]
    have eI : Cc lf (d + 1) 139 [.s (bsOf R), .s ⟨#[47]⟩] = some [.i .i64 (idxL R 47)] := rfl
    rw [f118_0_u]
    unfold f118_0_s
    simp only [nth0, asI_i]
    rw [e1, qaw (x := ((l.count 47 + 1 : Nat) : Int) - 1) (by omega) (by omega), iLt_t (by omega), eI, h3]
    simp only [Option.bind_some, nth0, asI_i, qa0]
    rw [iLt_f (by omega), show ((⟨#[47]⟩ : ByteArray).size : Int) = 1 from rfl, qaw (x := (a.length : Int) + 0) (by omega) (by omega), qaw (x := (a.length : Int) + 1) (by omega) (by omega), qds, qa4 (show i < l.length by omega) (by omega), qa1 (show i < cur.length by omega), iLe_t (show (0 : Int) ≤ 0 by omega), iLe_t (show (0 : Int) ≤ (a.length : Int) + 0 by omega), iLe_t (show (a.length : Int) + 0 ≤ (R.length : Int) by omega), iLe_t (show (0 : Int) ≤ (a.length : Int) + 1 by omega), iLe_t (show (a.length : Int) + 1 ≤ (R.length : Int) by omega), iLe_t (show (R.length : Int) ≤ (R.length : Int) by omega), Int.toNat_natCast, Int.toNat_natCast, show ((a.length : Int) + 1).toNat = a.length + 1 by omega, show ((a.length : Int) + 0).toNat = a.length by omega, que, que]
    simp only [Bool.and_self, qa0, qa6]
    have e2 : (R.take R.length).drop (a.length + 1) = b := by
     rw [List.take_length, hab, show a ++ 47 :: b = (a ++ [47]) ++ b by simp, List.drop_left' (by simp)]
    have e3 : (R.take a.length).drop 0 = a := by
     rw [List.drop_zero, hab, List.take_left' rfl]
    rw [e2, e3]
    have hcR : R.count 47 = b.count 47 + 1 := by
     rw [hab, List.count_append, List.count_cons_self, List.count_eq_zero_of_not_mem h2]; omega
    refine ih (i + 1) n b (cur.set i (.s (bsOf a))) (by omega) (by omega) (by omega) (by omega) (by rw [List.length_set]; exact hl) ?_
    rw [qls _ (by omega), ← hp, hab, qo0 h2]
    simp
 have hrep : ∀ n : Nat, (List.replicate n (T.s (⟨#[]⟩ : ByteArray))).length = n := fun n => List.length_replicate
 obtain ⟨R', cur', e, hl, hp⟩ := Lp (l.count 47) 0 lf l (List.replicate (l.count 47 + 1) (T.s ⟨#[]⟩)) (by omega) (by omega) (Nat.le_refl _) rfl (hrep _) (by rw [List.take_zero, List.nil_append])
 rw [show ((0 : Nat) : Int) = 0 from rfl] at e
 rw [e] at E
 simp only [Option.bind_some, nth0, nthS, asI_i, asL_l, asS_s] at E
 rw [qa1 (by omega), qaw (x := ((l.count 47 : Nat) : Int) + 1) (by omega) (by omega), List.length_set, iLe_t (show (0 : Int) ≤ 0 by omega), iLe_t (by omega), iLe_t (by omega), Int.toNat_natCast, List.drop_zero, show (((l.count 47 : Nat) : Int) + 1).toNat - 0 = l.count 47 + 1 by omega, qls _ (by omega), hp] at E
 exact E
theorem qy2 {lf d : Nat} (hlf : 33554432 ≤ lf) (l : List UInt8) (hs : l.length ≤ 1048576) : Cc lf (d + 3) 90 [.s (bsOf l), .s ⟨#[47]⟩] = some [.sl (SL (cutL l))] := by
 refine (f90_eq (Cc lf (d + 2)) lf (bsOf l) ⟨#[47]⟩).trans ?_
 unfold f90 f90_t
 rw [qrl hlf l hs]
 rfl
def qcs (Q : List (List UInt8)) : Bool := Q.all fun x => nameB (bsOf x)
def okP (l : List UInt8) : Bool := ((cutL l).headD [] == []) && (decide (2 ≤ (cutL l).length) && (decide ((cutL l).tail.length ≤ 30) && qcs (cutL l).tail))
theorem qx0 (l : List UInt8) : cutL l ≠ [] := fun h => by
 have := qhh l
 rw [h] at this
 cases this
theorem qou (l : List UInt8) : ((bsOf l).toList == (⟨#[47]⟩ : ByteArray).toList) = (l == [47]) := by
 rw [qix, Lib.toList_data]
theorem b47 {l : List UInt8} {j : Nat} (h : l.getD j 0 = 47) : (qad (bsOf l) (j : Int) != 47) = false := by rw [qmx, h]; rfl
theorem b47n {l : List UInt8} {j : Nat} (h : l.getD j 0 ≠ 47) : (qad (bsOf l) (j : Int) != 47) = true := by
 rw [qmx, bne_iff_ne]
 intro e
 refine h (UInt8.toNat_inj.1 ?_)
 show (l.getD j 0).toNat = 47
 omega
set_option maxHeartbeats 2000000 in
theorem qw1 {lf d : Nat} (hlf : 33554432 ≤ lf) (l : List UInt8) (hs : l.length ≤ 1048576) : Cc lf (d + 3) 86 [.s (bsOf l)] = some (bif l == [47] then [.sl [], .b true] else bif okP l then [.sl (SL (cutL l).tail), .b true] else [.sl [], .b false]) := by
 have E := f86_eq (Cc lf (d + 2)) lf (bsOf l)
 unfold f86 f86_t at E
 dsimp only at E
 rw [qou] at E
 by_cases hsl : l = [47]
 ·subst hsl; exact E
 have hb : (l == [47]) = false := beq_eq_false_iff_ne.2 hsl
 rw [hb, qa6] at E ⊢
 have Lp : ∀ (k f i n : Nat) (out : List (List UInt8)), i + k = l.length + 1 → k < n → 1 ≤ i → f ≤ i → (i ≤ l.length → 47 ∉ (l.take i).drop f) → (l.length < i → f = i) → out.length ≤ 30 → f86_0 (Cc lf (d + 2)) lf (bsOf l) n (f : Int) (i : Int) (SL out) = bif (bif decide (i ≤ l.length) then qcs (cutL (l.drop f)) && decide (out.length + (cutL (l.drop f)).length ≤ 30) else true) then some [T.i .i64 0, T.s (bsOf l), T.sl (SL (bif decide (i ≤ l.length) then out ++ cutL (l.drop f) else out))] else some [T.i .i64 1, T.b false, T.sl []] := by
  intro k
  induction k with
  | zero =>
   intro f i n out hi hn h1 hf hno hend ho
   obtain ⟨n, rfl⟩ : ∃ z, n = z + 1 := ⟨n - 1, by omega⟩
   rw [f86_0_u]
   unfold f86_0_s
   rw [qds, iLe_f (by omega), decide_eq_false (by omega)]
   rfl
  | succ k ih =>
   intro f i n out hi hn h1 hf hno hend ho
   obtain ⟨n, rfl⟩ : ∃ z, n = z + 1 := ⟨n - 1, by omega⟩
   have hil : i ≤ l.length := by omega
   have hno := hno hil
   have hw : IntKind.wrap .i64 ((i : Int) + 1) = ((i + 1 : Nat) : Int) := qaw (by omega) (by omega)
   have hseg : ((l.take i).drop f).length ≤ 16777216 := by simp only [List.length_drop, List.length_take]; omega
   have fin : ∀ rest, cutL (l.drop f) = (l.take i).drop f :: rest → (rest = bif decide (i + 1 ≤ l.length) then cutL (l.drop (i + 1)) else []) → (bif iLe 0 (f : Int) && iLe (f : Int) (i : Int) && true then
    (Cc lf (d + 2) 105 [T.s ((bsOf l).extract (f : Int).toNat (i : Int).toNat)]).bind fun r78 =>
    bif !(asB (nth r78 0)) then some [T.i .i64 1, T.b false, T.sl ([] : List T)]
    else bif ((SL out).length : Int) == 30 then some [T.i .i64 1, T.b false, T.sl ([] : List T)]
     else bif nLe ((SL out).length + ([T.s ((bsOf l).extract (f : Int).toNat (i : Int).toNat)] : List T).length) LIM then
      f86_0 (Cc lf (d + 2)) lf (bsOf l) n (IntKind.wrap .i64 ((i : Int) + 1)) (IntKind.wrap .i64 ((i : Int) + 1)) (SL out ++ ([T.s ((bsOf l).extract (f : Int).toNat (i : Int).toNat)] : List T))
      else none
    else none) = bif (qcs (cutL (l.drop f)) && decide (out.length + (cutL (l.drop f)).length ≤ 30)) then some [T.i .i64 0, T.s (bsOf l), T.sl (SL (out ++ cutL (l.drop f)))] else some [T.i .i64 1, T.b false, T.sl []] := by
    intro rest hq hrest
    rw [iLe_t (by omega), iLe_t (by omega), Int.toNat_natCast, Int.toNat_natCast, que, qo8 (d := d) hlf _ (by rw [qds]; exact hseg), hw]
    simp only [Bool.and_self, qa0, Option.bind_some, nth0, asB_b]
    rw [hq]
    have hn2 : qcs ((l.take i).drop f :: rest) = (nameB (bsOf ((l.take i).drop f)) && qcs rest) := rfl
    rw [hn2]
    cases hnm : nameB (bsOf ((l.take i).drop f)) with
    | false => rfl
    | true =>
     simp only [Bool.not_true, qa6, Bool.true_and]
     have hsl : (SL out).length = out.length := List.length_map ..
     rw [hsl]
     by_cases h30 : out.length = 30
     ·rw [show ((out.length : Int) == 30) = true from beq_iff_eq.2 (by omega), decide_eq_false (p := out.length + _ ≤ 30) (by rw [List.length_cons]; omega), Bool.and_false]
      rfl
     ·rw [show ((out.length : Int) == 30) = false from beq_eq_false_iff_ne.2 (by omega), qa6, nLe_t (by show out.length + 1 ≤ LIM; unfold LIM; omega), qa0, show SL out ++ [T.s (bsOf ((l.take i).drop f))] = SL (out ++ [(l.take i).drop f]) from by
       show _ = (out ++ [(l.take i).drop f]).map _
       rw [List.map_append]
       rfl]
      rw [ih (i + 1) (i + 1) n (out ++ [(l.take i).drop f]) (by omega) (by omega) (by omega) (Nat.le_refl _) (fun _ => by rw [List.drop_eq_nil_of_le (by rw [List.length_take]; omega)]; exact List.not_mem_nil) (fun _ => rfl) (by rw [List.length_append]; show out.length + 1 ≤ 30; omega), hrest]
      cases decide (i + 1 ≤ l.length) with
      | true =>
       simp only [qa0, List.length_append, List.length_cons, List.length_nil, Nat.zero_add, List.append_assoc, List.singleton_append]
       rw [show out.length + 1 + (cutL (l.drop (i + 1))).length = out.length + ((cutL (l.drop (i + 1))).length + 1) by omega]
      | false =>
       simp only [qa6, qa0, List.length_cons, List.length_nil, Nat.zero_add]
       rw [decide_eq_true (p := out.length + 1 ≤ 30) (by omega)]
       rfl
   rw [f86_0_u]
   unfold f86_0_s
   rw [decide_eq_true hil, qa0, qa0, qds, iLe_t (by omega), qa0, iLt_t (show (0 : Int) < (i : Int) by omega), qa0]
   by_cases hlt : i < l.length
   ·rw [iLt_t (by omega), qa1 hlt]
    simp only [qa0]
    by_cases hc : l.getD i 0 = 47
    ·rw [b47 hc, qa6]
     refine fin (cutL (l.drop (i + 1))) ?_ (by rw [decide_eq_true (by omega)]; rfl)
     rw [qk6 hf, drop_at hlt, hc, qo0 hno]
    ·rw [b47n hc, qa0, hw, ih f (i + 1) n out (by omega) (by omega) (by omega) (by omega) (fun h => by
      rw [qxu hf hlt, List.mem_append, List.mem_singleton]
      rintro (h | h)
      ·exact hno h
      ·exact hc h.symm) (fun h => by omega) ho, decide_eq_true (by omega)]
     rfl
   ·rw [iLt_f (by omega), qa6]
    refine fin [] ?_ (by rw [decide_eq_false (by omega)]; rfl)
    rw [qk6 hf, List.drop_eq_nil_of_le (show l.length ≤ i by omega), List.append_nil, qla hno]
 obtain ⟨n, rfl⟩ : ∃ z, lf = z + 1 := ⟨lf - 1, by omega⟩
 have E0 := f86_0_u (Cc (n + 1) (d + 2)) (n + 1) (bsOf l) n 0 0 []
 unfold f86_0_s at E0
 rw [qds, iLe_t (by omega), qa0, iLt_f (show ¬ (0 : Int) < 0 by omega), qa6, show IntKind.wrap .i64 ((0 : Int) + 1) = ((1 : Nat) : Int) from qaw (by omega) (by omega)] at E0
 cases l with
 | nil =>
  rw [iLt_f (by simp), qa6] at E0
  have := Lp 0 1 1 n [] rfl (by omega) (Nat.le_refl _) (Nat.le_refl _) (fun h => by simp at h) (fun _ => rfl) (Nat.zero_le _)
  rw [show SL [] = ([] : List T) from rfl] at this
  rw [this] at E0
  rw [E0] at E
  exact E
 | cons c l' =>
  rw [iLt_t (show (0 : Int) < ((c :: l').length : Int) by rw [List.length_cons]; omega), qa0, show inR 0 (c :: l').length = true from qa1 (j := 0) (by simp), qa0] at E0
  by_cases hc : c = 47
  ·subst hc
   have h0 : (qad (bsOf (47 :: l')) 0 != 47) = false := b47 (j := 0) rfl
   rw [h0, qa6] at E0
   have hl' : l' ≠ [] := fun h => hsl (by rw [h])
   have hlen : 1 ≤ l'.length := by cases l' with
    | nil => exact absurd rfl hl'
    | cons _ _ => simp
   have := Lp (l'.length + 1) 1 1 n [] (by simp; omega) (by simp at hs; omega) (Nat.le_refl _) (Nat.le_refl _) (fun h => by simp) (fun _ => rfl) (Nat.zero_le _)
   rw [show SL [] = ([] : List T) from rfl, decide_eq_true (p := 1 ≤ (47 :: l').length) (by simp)] at this
   rw [this] at E0
   rw [E0] at E
   have hcut : cutL (47 :: l') = [] :: cutL l' := by rw [cutL, if_pos rfl]
   have hok : okP (47 :: l') = (qcs (cutL l') && decide ((cutL l').length ≤ 30)) := by
    unfold okP
    rw [hcut]
    have h2 : decide (2 ≤ ([] :: cutL l').length) = true := decide_eq_true (by rw [List.length_cons, qhh]; omega)
    rw [h2]
    show ((([] : List UInt8) == []) && (true && (decide ((cutL l').length ≤ 30) && qcs (cutL l')))) = _
    rw [show (([] : List UInt8) == []) = true from rfl, Bool.true_and, Bool.true_and, Bool.and_comm]
   rw [hok, hcut, List.tail_cons]
   simp only [qa0, List.drop_succ_cons, List.drop_zero, List.length_nil, Nat.zero_add, List.nil_append] at E
   cases hh : qcs (cutL l') && decide ((cutL l').length ≤ 30) with
   | true =>
    rw [hh] at E
    simp only [qa0, Option.bind_some, nth0, nthS, asI_i, asL_l, asS_s] at E
    rw [show ((0 : Int) == 0) = true from rfl, qa0, qds, show (((47 :: l').length : Int) == 0) = false from beq_eq_false_iff_ne.2 (by simp; omega), qa6, show inR 0 (47 :: l').length = true from qa1 (j := 0) (by simp), qa0, h0, qa6] at E
    exact E
   | false =>
    rw [hh] at E
    exact E
  ·have h0 : (qad (bsOf (c :: l')) 0 != 47) = true := b47n (j := 0) hc
   rw [h0, qa0] at E0
   have := Lp (l'.length + 1) 0 1 n [] (by simp; omega) (by simp at hs; omega) (Nat.le_refl _) (Nat.zero_le _) (fun h => by simp; exact fun e => hc e.symm) (fun h => by simp at h) (Nat.zero_le _)
   rw [show SL [] = ([] : List T) from rfl, show ((0 : Nat) : Int) = 0 from rfl, decide_eq_true (p := 1 ≤ (c :: l').length) (by simp)] at this
   rw [this] at E0
   rw [E0] at E
   have hok : okP (c :: l') = false := by
    unfold okP
    rw [cutL, if_neg hc]
    rfl
   rw [hok]
   simp only [qa0, List.drop_zero, List.length_nil, Nat.zero_add, List.nil_append] at E
   cases hh : qcs (cutL (c :: l')) && decide ((cutL (c :: l')).length ≤ 30) with
   | true =>
    rw [hh] at E
    simp only [qa0, Option.bind_some, nth0, nthS, asI_i, asL_l, asS_s] at E
    rw [show ((0 : Int) == 0) = true from rfl, qa0, qds, show (((c :: l').length : Int) == 0) = false from beq_eq_false_iff_ne.2 (by simp; omega), qa6, show inR 0 (c :: l').length = true from qa1 (j := 0) (by simp), qa0, h0, qa0] at E
    exact E
   | false =>
    rw [hh] at E
    exact E
theorem qax (L : List (List UInt8)) : (SL L).length = L.length := List.length_map ..
theorem SL_at {L : List (List UInt8)} {j : Nat} (h : j < L.length) : (SL L).getD j T.u = .s (bsOf (L.getD j [])) := by
 rw [List.getD_eq_getElem?_getD, List.getElem?_map, List.getElem?_eq_getElem h, List.getD_eq_getElem?_getD, List.getElem?_eq_getElem h]
 rfl
theorem qsq (L : List (List UInt8)) : allB (fun j => nameB (bsOf (L.getD j []))) L.length = qcs L := by
 cases h : qcs L with
 | true =>
  refine qb9.2 fun j hj => ?_
  rw [List.getD_eq_getElem?_getD, List.getElem?_eq_getElem hj]
  exact List.all_eq_true.1 h _ (List.getElem_mem hj)
 | false =>
  cases e : allB (fun j => nameB (bsOf (L.getD j []))) L.length with
  | false => rfl
  | true =>
   have : qcs L = true := List.all_eq_true.2 fun x hx => by
    obtain ⟨j, hj, rfl⟩ := List.getElem_of_mem hx
    have := qb9.1 e j hj
    rw [List.getD_eq_getElem?_getD, List.getElem?_eq_getElem hj] at this
    exact this
   rw [h] at this
   cases this
theorem qfw : ∀ {l : List UInt8} {x : List UInt8}, x ∈ cutL l → x.length ≤ l.length
 | [], x, h => by rw [List.mem_singleton.1 h]; exact Nat.le_refl _
 | c :: l, x, h => by
  unfold cutL at h
  by_cases e : c = 47
  ·rw [if_pos e] at h
   rcases List.mem_cons.1 h with rfl | h
   ·exact Nat.zero_le _
   ·have := qfw h; rw [List.length_cons]; omega
  ·rw [if_neg e] at h
   rcases List.mem_cons.1 h with rfl | h
   ·have : (cutL l).headD [] ∈ cutL l := by
     cases e2 : cutL l with
     | nil => exact absurd e2 (qx0 l)
     | cons a t => exact List.mem_cons_self ..
    have := qfw this
    rw [List.length_cons, List.length_cons]; omega
   ·have := qfw (List.mem_of_mem_tail h); rw [List.length_cons]; omega
theorem qrf {lf d : Nat} (hlf : 33554432 ≤ lf) (s : ByteArray) (hs : s.size ≤ 16777216) : Cc lf (d + 3) 120 [.s s] = some [.b (!nameB s)] := by
 refine (f120_eq (Cc lf (d + 2)) lf s).trans ?_
 unfold f120 f120_t
 rw [qo9 (d := d) hlf s hs]
 rfl
theorem qu7 {lf d : Nat} (hlf : 33554432 ≤ lf) (L : List (List UInt8)) (hs : ∀ x ∈ L, x.length ≤ 16777216) : Cc lf (d + 4) 91 [.sl (SL L)] = some [.b (decide (L.length ≤ 30) && qcs L)] := by
 refine (f91_eq (Cc lf (d + 3)) lf (SL L)).trans ?_
 unfold f91 f91_t
 dsimp only
 rw [qax]
 by_cases h : L.length ≤ 30
 ·rw [iLe_t (by omega), decide_eq_true h, ← qsq L]
  simp only [qa0, Bool.true_and]
  rcases qfq (F := fun n j => f91_0 (Cc lf (d + 3)) lf (SL L) n j) (P := fun j => nameB (bsOf (L.getD j []))) (X := fun j => some [T.i .i64 0, T.i .i64 (j : Int)]) (Y := some [T.i .i64 1]) (len := L.length) (fun n j hj => by
   have hx : (L.getD j []).length ≤ 16777216 := by
    rw [List.getD_eq_getElem?_getD, List.getElem?_eq_getElem hj]
    exact hs _ (List.getElem_mem hj)
   rw [f91_0_u]
   unfold f91_0_s
   rw [qax, iLt_t (by omega), qa1 hj, Int.toNat_natCast, SL_at hj, asS_s, qrf hlf _ (by rw [qds]; exact hx), qa4 hj (by omega)]
   simp only [qa0, Option.bind_some, nth0, asB_b]
   cases nameB (bsOf (L.getD j [])) <;> rfl) (fun n => by
   rw [f91_0_u]
   unfold f91_0_s
   rw [qax, iLt_f (by omega)]
   rfl) (n := lf) (by omega) with ⟨h1, e⟩ | ⟨h1, j, hj, _, e⟩
  ·rw [e, h1]; rfl
  ·rw [e, h1]
   show some [T.b (!(iLe 0 (j : Int)))] = _
   rw [iLe_t (by omega)]
   rfl
 ·rw [iLe_f (by omega), decide_eq_false h]
  rfl
theorem qw9 {lf d : Nat} (hlf : 33554432 ≤ lf) (l : List UInt8) (hs : l.length ≤ 1048576) : Cc lf (d + 5) 61 [.s (bsOf l)] = some (bif l == [47] then [.sl [], .b true] else bif okP l then [.sl (SL (cutL l).tail), .b true] else [.sl [], .b false]) := by
 refine (f61_eq (Cc lf (d + 4)) lf (bsOf l)).trans ?_
 unfold f61 f61_t
 rw [qou, qy2 (d := d + 1) hlf l hs]
 cases hb : l == [47] with
 | true => rfl
 | false =>
  simp only [qa6, Option.bind_some, nth0, asL_l]
  rw [qax]
  have hne := qx0 l
  have hsm : ∀ x ∈ (cutL l).tail, x.length ≤ 16777216 := fun x hx => by
   have := qfw (List.mem_of_mem_tail hx)
   omega
  unfold okP
  generalize cutL l = P at hne hsm ⊢
  cases P with
  | nil => exact absurd rfl hne
  | cons a Q =>
   rw [show inR 0 (a :: Q).length = true from qa1 (j := 0) (by simp), qa0, show asS ((SL (a :: Q)).getD 0 T.u) = bsOf a from rfl, qix, show (⟨#[]⟩ : ByteArray).toList = [] from by rw [Lib.toList_data], List.headD_cons, List.tail_cons]
   cases ha : a == [] with
   | false => rfl
   | true =>
    simp only [Bool.not_true, qa6, Bool.true_and]
    by_cases h2 : 2 ≤ (a :: Q).length
    ·rw [iLt_f (by omega), decide_eq_true h2, iLe_t (show (0 : Int) ≤ 1 by omega), iLe_t (show (1 : Int) ≤ ((a :: Q).length : Int) by omega), iLe_t (show ((a :: Q).length : Int) ≤ ((a :: Q).length : Int) by omega), Int.toNat_natCast, show (SL (a :: Q)).drop 1 = SL Q from rfl, List.take_of_length_le (by rw [qax, List.length_cons]; omega), qu7 (d := d) hlf Q hsm]
     simp only [qa6, qa0, Bool.and_self, Bool.true_and, Option.bind_some, nth0, asB_b]
     cases decide (Q.length ≤ 30) && qcs Q <;> rfl
    ·rw [iLt_t (by omega), decide_eq_false h2]
     rfl
abbrev IL (ns : List Int) : List T := ns.map (T.i .i64)
theorem IL_at {ns : List Int} {j : Nat} (h : j < ns.length) : (IL ns).getD j T.u = .i .i64 (ns.getD j 0) := by
 rw [List.getD_eq_getElem?_getD, List.getElem?_map, List.getElem?_eq_getElem h, List.getD_eq_getElem?_getD, List.getElem?_eq_getElem h]
 rfl
theorem qbk (ns : List Int) : (IL ns).length = ns.length := List.length_map ..
theorem qyv (ns : List Int) : (IL ns).map asI = ns := by
 rw [List.map_map]
 exact (List.map_congr_left fun x _ => rfl).trans (List.map_id _)
theorem qx4 (ns : List Int) (j : Nat) (x : Int) : (IL ns).set j (.i .i64 x) = IL (ns.set j x) := List.map_set.symm
theorem qti {l : List Int} {j : Nat} (h : j < l.length) : l.getD j 0 = l[j] := by
 rw [List.getD_eq_getElem?_getD, List.getElem?_eq_getElem h]
 rfl
theorem qbt {l : List T} {j : Nat} (k : Nat) : (asL (T.cell (l.getD j T.u) k)).length + tls (asL (T.cell (l.getD j T.u) k)) ≤ tls l := by
 by_cases h : j < l.length
 ·have h1 := qho (List.getElem_mem h)
  rw [List.getD_eq_getElem?_getD, List.getElem?_eq_getElem h]
  show (asL (T.cell l[j] k)).length + tls (asL (T.cell l[j] k)) ≤ _
  cases e : l[j] <;> try (simp only [T.cell, asL, tls]; exact Nat.zero_le _)
  rename_i xs
  rw [e] at h1
  simp only [T.cell, tl] at h1 ⊢
  cases e2 : xs[k]? with
  | none => rw [List.getD_eq_getElem?_getD, e2]; exact Nat.zero_le _
  | some x =>
   rw [List.getD_eq_getElem?_getD, e2]
   have h3 := qho (List.mem_of_getElem? e2)
   show (asL x).length + tls (asL x) ≤ _
   cases x <;> try (exact Nat.zero_le _)
   simp only [tl, asL] at h3 ⊢
   omega
 ·rw [List.getD_eq_getElem?_getD, List.getElem?_eq_none (by omega)]
  exact Nat.zero_le _
def lessB (l : List T) (j : Nat) : Bool := !iLt 0 (j : Int) || Op.bytesLess (asS (T.cell (l.getD (j - 1) T.u) 0)).toList (asS (T.cell (l.getD j T.u) 0)).toList
def entB (l : List T) (j : Nat) : Bool := nameB (asS (T.cell (l.getD j T.u) 0)) && ((iLe 2 (asI (T.cell (l.getD j T.u) 1)) && iLe (asI (T.cell (l.getD j T.u) 1)) 1000) && lessB l j)
def attrB (l : List T) (j : Nat) : Bool := nameB (asS (T.cell (l.getD j T.u) 0)) && ((iLe 1 ((asS (T.cell (l.getD j T.u) 1)).size : Int) && iLe ((asS (T.cell (l.getD j T.u) 1)).size : Int) 16) && lessB l j)
def entsB (l : List T) : Bool := allB (entB l) l.length && iLe (l.length : Int) 10
def qh3 (l : List T) : Bool := allB (attrB l) l.length && iLe (l.length : Int) 4
def qgy (ino kind links : Int) (data ents attrs : List T) : Bool :=
 (iLe 1 ino && iLe ino 1000) && ((iLe 0 links && iLe links 1000) && (((links == 0) == (ino == 1)) && (!iLt 100 (data.length : Int) && (entsB ents && (qh3 attrs &&
  bif kind == 1 then ((ents.length : Int) == 0) else bif kind == 2 then ((data.length : Int) == 0) && iLe links 1 else false)))))
theorem qy5 {lf d : Nat} (hlf : 33554432 ≤ lf) (l : List T) (hs : l.length + tls l ≤ 16777216) : Cc lf (d + 3) 95 [.sl l] = some [.b (entsB l)] := by
 refine (f95_eq (Cc lf (d + 2)) lf l).trans ?_
 unfold f95 f95_t
 dsimp only
 have L := qav (F := fun n j => f95_0 (Cc lf (d + 2)) lf l n j) (P := entB l) (X := some [T.i .i64 0, T.b false]) (Y := some [T.i .i64 1, T.sl l]) (len := l.length) (fun n j hj => by
  have hn := qfy (l := l) (j := j) 0
  rw [f95_0_u]
  unfold f95_0_s
  rw [iLt_t (by omega), qa1 hj, qa4 hj (by omega)]
  simp only [Int.toNat_natCast, qo8 hlf _ (show (asS (T.cell (l.getD j T.u) 0)).size ≤ 16777216 by omega), qiw, Option.bind_some, nth0, asB_b, entB, lessB, qbg, qei, qgo, qa0]
  cases h0 : iLt 0 (j : Int) with
  | true =>
   have hj0 : 0 < j := by have := ql4.1 h0; omega
   rw [qf7 hj0 (by omega), qa1 (by omega)]
   simp only [qa0, Int.toNat_natCast]
  | false => rfl) (fun n => by
  rw [f95_0_u]
  unfold f95_0_s
  rw [iLt_f (by omega)]
  rfl) (n := lf) (by omega)
 rw [show ((0 : Int)) = 0 from rfl] at L
 rw [L]
 unfold entsB
 cases allB (entB l) l.length <;> rfl
theorem qw7 {lf d : Nat} (hlf : 33554432 ≤ lf) (l : List T) (hs : l.length + tls l ≤ 16777216) : Cc lf (d + 3) 96 [.sl l] = some [.b (qh3 l)] := by
 refine (f96_eq (Cc lf (d + 2)) lf l).trans ?_
 unfold f96 f96_t
 dsimp only
 have L := qav (F := fun n j => f96_0 (Cc lf (d + 2)) lf l n j) (P := attrB l) (X := some [T.i .i64 0, T.b false]) (Y := some [T.i .i64 1, T.sl l]) (len := l.length) (fun n j hj => by
  have hn := qfy (l := l) (j := j) 0
  rw [f96_0_u]
  unfold f96_0_s
  rw [iLt_t (by omega), qa1 hj, qa4 hj (by omega)]
  simp only [Int.toNat_natCast, qo8 hlf _ (show (asS (T.cell (l.getD j T.u) 0)).size ≤ 16777216 by omega), qiw, Option.bind_some, nth0, asB_b, attrB, lessB, qbg, qei, qgo, qa0]
  cases h0 : iLt 0 (j : Int) with
  | true =>
   have hj0 : 0 < j := by have := ql4.1 h0; omega
   rw [qf7 hj0 (by omega), qa1 (by omega)]
   simp only [qa0, Int.toNat_natCast]
  | false => rfl) (fun n => by
  rw [f96_0_u]
  unfold f96_0_s
  rw [iLt_f (by omega)]
  rfl) (n := lf) (by omega)
 rw [L]
 unfold qh3
 cases allB (attrB l) l.length <;> rfl
theorem qq6 {lf d : Nat} (hlf : 33554432 ≤ lf) (l : List T) (hs : l.length + tls l ≤ 16777216) : Cc lf (d + 3) 100 [.sl l] = some [.b (qh3 l)] := by
 refine (f100_eq (Cc lf (d + 2)) lf l).trans ?_
 unfold f100 f100_t
 dsimp only
 have L := qav (F := fun n j => f100_0 (Cc lf (d + 2)) lf l n j) (P := attrB l) (X := some [T.i .i64 0, T.b false]) (Y := some [T.i .i64 1, T.sl l]) (len := l.length) (fun n j hj => by
  have hn := qfy (l := l) (j := j) 0
  rw [f100_0_u]
  unfold f100_0_s
  rw [iLt_t (by omega), qa1 hj, qa4 hj (by omega)]
  simp only [Int.toNat_natCast, qo9 hlf _ (show (asS (T.cell (l.getD j T.u) 0)).size ≤ 16777216 by omega), qmw, Option.bind_some, nth0, asB_b, attrB, lessB, qbg, qei, qgo, qa0]
  cases h0 : iLt 0 (j : Int) with
  | true =>
   have hj0 : 0 < j := by have := ql4.1 h0; omega
   rw [qf7 hj0 (by omega), qa1 (by omega)]
   simp only [qa0, Int.toNat_natCast]
  | false => rfl) (fun n => by
  rw [f100_0_u]
  unfold f100_0_s
  rw [iLt_f (by omega)]
  rfl) (n := lf) (by omega)
 rw [L]
 unfold qh3
 cases allB (attrB l) l.length <;> rfl
theorem qrc {lf d : Nat} (hlf : 33554432 ≤ lf) (ino kind links : Int) (data ents attrs : List T) (he : ents.length + tls ents ≤ 16777216) (ha : attrs.length + tls attrs ≤ 16777216) :
 Cc lf (d + 4) 70 [.st [.i .i64 ino, .i .i64 kind, .i .i64 links, .sl data, .sl ents, .sl attrs]] = some [.b (qgy ino kind links data ents attrs)] := by
 refine (f70_eq (Cc lf (d + 3)) lf ino kind links data ents attrs).trans ?_
 unfold f70 f70_t
 simp only [qiw, qy5 hlf ents he, qw7 hlf attrs ha, Option.bind_some, nth0, asB_b, qo6]
 refine congrArg (fun b => some [T.b b]) ?_
 unfold qgy
 generalize (iLe 1 ino && iLe ino 1000) = b1
 generalize (iLe 0 links && iLe links 1000) = b2
 generalize ((links == 0) == (ino == 1)) = b3
 generalize iLt 100 (data.length : Int) = b4
 generalize entsB ents = b5
 generalize qh3 attrs = b6
 generalize (kind == 1) = b7
 generalize (kind == 2) = b8
 generalize ((data.length : Int) == 0) = b9
 generalize ((ents.length : Int) == 0) = b10
 generalize iLe links 1 = b11
 cases b1 <;> cases b2 <;> cases b3 <;> cases b4 <;> cases b5 <;> cases b6 <;> first | rfl | (cases b7 <;> cases b8 <;> cases b9 <;> rfl)
theorem qri {lf d : Nat} (hlf : 33554432 ≤ lf) (ino kind links : Int) (data ents attrs : List T) (he : ents.length + tls ents ≤ 16777216) (ha : attrs.length + tls attrs ≤ 16777216) :
 Cc lf (d + 4) 77 [.st [.i .i64 ino, .i .i64 kind, .i .i64 links, .sl data, .sl ents, .sl attrs]] = some [.b (qgy ino kind links data ents attrs)] := by
 refine (f77_eq (Cc lf (d + 3)) lf ino kind links data ents attrs).trans ?_
 unfold f77 f77_t
 dsimp only
 have L := qav (F := fun n j => f77_0 (Cc lf (d + 3)) lf data ents attrs ino kind links n j) (P := entB ents) (X := some [T.i .i64 0, T.b false]) (Y := some [T.i .i64 1, T.i .i64 ino, T.i .i64 kind, T.i .i64 links, T.sl data, T.sl ents, T.sl attrs]) (len := ents.length) (fun n j hj => by
  have hn := qfy (l := ents) (j := j) 0
  rw [f77_0_u]
  unfold f77_0_s
  rw [iLt_t (by omega), qa1 hj, qa4 hj (by omega)]
  simp only [Int.toNat_natCast, qo9 hlf _ (show (asS (T.cell (ents.getD j T.u) 0)).size ≤ 16777216 by omega), qmw, Option.bind_some, nth0, asB_b, entB, lessB, qbg, qei, qgo, qa0]
  cases h0 : iLt 0 (j : Int) with
  | true =>
   have hj0 : 0 < j := by have := ql4.1 h0; omega
   rw [qf7 hj0 (by omega), qa1 (by omega)]
   simp only [qa0, Int.toNat_natCast]
  | false => rfl) (fun n => by
  rw [f77_0_u]
  unfold f77_0_s
  rw [iLt_f (by omega)]
  rfl) (n := lf) (by omega)
 rw [L]
 have h10 : iLt 10 (ents.length : Int) = !iLe (ents.length : Int) 10 := qwx _ _
 unfold qgy entsB
 cases allB (entB ents) ents.length with
 | false =>
  simp only [qmw, qq6 hlf attrs ha, Option.bind_some, nth0, nthS, asB_b, asI_i, qa6, qo6, h10]
  rw [show ((0 : Int) == 0) = true from rfl]
  refine congrArg (fun b => some [T.b b]) ?_
  generalize (iLe 1 ino && iLe ino 1000) = b1
  generalize (iLe 0 links && iLe links 1000) = b2
  generalize ((links == 0) == (ino == 1)) = b3
  generalize iLt 100 (data.length : Int) = b4
  generalize iLe (ents.length : Int) 10 = b5
  generalize qh3 attrs = b6
  cases b1 <;> cases b2 <;> cases b3 <;> cases b4 <;> cases b5 <;> cases b6 <;> rfl
 | true =>
  simp only [qmw, qq6 hlf attrs ha, Option.bind_some, nth0, nthS, asB_b, asI_i, asL_l, qa0, qo6, h10]
  rw [show ((1 : Int) == 0) = false from rfl]
  refine congrArg (fun b => some [T.b b]) ?_
  generalize (iLe 1 ino && iLe ino 1000) = b1
  generalize (iLe 0 links && iLe links 1000) = b2
  generalize ((links == 0) == (ino == 1)) = b3
  generalize iLt 100 (data.length : Int) = b4
  generalize iLe (ents.length : Int) 10 = b5
  generalize qh3 attrs = b6
  generalize (kind == 1) = b7
  generalize (kind == 2) = b8
  generalize ((data.length : Int) == 0) = b9
  generalize ((ents.length : Int) == 0) = b10
  generalize iLe links 1 = b11
  cases b1 <;> cases b2 <;> cases b3 <;> cases b4 <;> cases b5 <;> cases b6 <;> first | rfl | (cases b7 <;> cases b8 <;> cases b9 <;> rfl)
theorem qy6 {lf d : Nat} (hlf : 33554432 ≤ lf) (ns : List Int) (n : Int) (hs : ns.length ≤ 16777216) : ∃ r, Cc lf (d + 1) 102 [.sl (IL ns), .i .i64 n] = some [.i .i64 r] ∧ iLe 0 r = decide (n ∈ ns) := by
 have E := f102_eq (Cc lf d) lf (IL ns) n
 unfold f102 f102_t at E
 dsimp only at E
 rcases qfq (F := fun m j => f102_0 (Cc lf d) lf (IL ns) n m j) (P := fun j => !(n == ns.getD j 0)) (X := fun j => some [T.i .i64 0, T.i .i64 (j : Int)]) (Y := some [T.i .i64 1]) (len := ns.length) (fun m j hj => by
  rw [f102_0_u]
  unfold f102_0_s
  rw [iLt_t (by rw [qbk]; omega), qa1 (by rw [qbk]; exact hj), Int.toNat_natCast, IL_at hj, qa4 hj (by omega)]
  simp only [asI_i, qa0]
  cases n == ns.getD j 0 <;> rfl) (fun m => by
  rw [f102_0_u]
  unfold f102_0_s
  rw [iLt_f (by rw [qbk]; omega)]
  rfl) (n := lf) (by omega) with ⟨h, e⟩ | ⟨_, j, hj, h, e⟩
 ·rw [e] at E
  refine ⟨-1, E, ?_⟩
  rw [iLe_f (by omega)]
  symm
  refine decide_eq_false fun hm => ?_
  obtain ⟨j, hj, e⟩ := List.getElem_of_mem hm
  have := qb9.1 h j hj
  rw [qti hj, e] at this
  simp at this
 ·rw [e] at E
  refine ⟨(j : Int), E, ?_⟩
  rw [iLe_t (by omega)]
  symm
  refine decide_eq_true ?_
  rw [qti hj] at h
  cases e : n == ns[j] with
  | false => rw [e] at h; cases h
  | true => rw [beq_iff_eq.1 e]; exact List.getElem_mem hj
theorem qrm {lf d : Nat} (hlf : 33554432 ≤ lf) (ns : List Int) (n : Int) (hs : ns.length ≤ 16777216) : Cc lf (d + 2) 78 [.sl (IL ns), .i .i64 n] = some [.b (decide (n ∈ ns))] := by
 refine (f78_eq (Cc lf (d + 1)) lf (IL ns) n).trans ?_
 unfold f78 f78_t
 obtain ⟨r, e, h⟩ := qy6 (d := d) hlf ns n hs
 rw [e]
 show some [T.b (iLe 0 r)] = _
 rw [h]
def fstI (p : Nat → Bool) (n : Nat) : Option Nat := (List.range n).find? p
theorem qe5 {p : Nat → Bool} {n i : Nat} : fstI p n = some i ↔ p i = true ∧ i < n ∧ ∀ j, j < i → p j = false := by
 unfold fstI
 rw [List.find?_range_eq_some]
 simp
theorem qe6 {p : Nat → Bool} {n : Nat} : fstI p n = none ↔ ∀ j, j < n → p j = false := by
 unfold fstI
 simp
theorem qc4 {F : Nat → Int → Option (List T)} {p : Nat → Bool} {X : Nat → Option (List T)} {Y : Option (List T)} {len : Nat}
 (hF : ∀ n (j : Nat), j < len → F (n + 1) (j : Int) = bif p j then X j else F n ((j + 1 : Nat) : Int)) (hE : ∀ n, F (n + 1) (len : Int) = Y) {n : Nat} (hn : len < n) :
 F n 0 = match fstI p len with | some j => X j | none => Y := by
 have key : ∀ (k j n : Nat), j + k = len → k < n → (∀ i, i < j → p i = false) → F n (j : Int) = match fstI p len with | some j => X j | none => Y := by
  intro k
  induction k with
  | zero =>
   intro j n hj hn h
   obtain ⟨n, rfl⟩ : ∃ z, n = z + 1 := ⟨n - 1, by omega⟩
   obtain rfl : j = len := by omega
   rw [hE, qe6.2 h]
  | succ k ih =>
   intro j n hj hn h
   obtain ⟨n, rfl⟩ : ∃ z, n = z + 1 := ⟨n - 1, by omega⟩
   rw [hF n j (by omega)]
   cases e : p j with
   | true => rw [qe5.2 ⟨e, by omega, h⟩]; rfl
   | false =>
    refine ih (j + 1) n (by omega) (by omega) fun i hi => ?_
    by_cases c : i = j
    ·rw [c]; exact e
    ·exact h i (by omega)
 exact key len 0 n (by omega) hn (fun i hi => by omega)
def inoA (l : List T) (i : Nat) : Int := asI (T.cell (l.getD i T.u) 0)
def kndA (l : List T) (i : Nat) : Int := asI (T.cell (l.getD i T.u) 1)
def lnkA (l : List T) (i : Nat) : Int := asI (T.cell (l.getD i T.u) 2)
def datA (l : List T) (i : Nat) : List T := asL (T.cell (l.getD i T.u) 3)
def entA (l : List T) (i : Nat) : List T := asL (T.cell (l.getD i T.u) 4)
def atrA (l : List T) (i : Nat) : List T := asL (T.cell (l.getD i T.u) 5)
def inoT (l : List T) (i : Nat) : T := .st [.i .i64 (inoA l i), .i .i64 (kndA l i), .i .i64 (lnkA l i), .sl (datA l i), .sl (entA l i), .sl (atrA l i)]
def inoZ : T := .st [.i .i64 0, .i .i64 0, .i .i64 0, .sl [], .sl [], .sl []]
def plc (l : List T) (n : Int) : Option Nat := fstI (fun i => inoA l i == n) l.length
def plcI : Option Nat → Int | some j => (j : Int) | none => -1
def inoR : List T → Option Nat → List T
 | l, some j => [inoT l j, .b true]
 | _, none => [inoZ, .b false]
theorem qbo {l : List T} {n : Int} {j : Nat} (h : plc l n = some j) : j < l.length ∧ inoA l j = n := by
 have := qe5.1 h
 exact ⟨this.2.1, by simpa using this.1⟩
theorem c_sAt {lf d : Nat} (hlf : 33554432 ≤ lf) (l : List T) (nx n : Int) (hs : l.length ≤ 16777216) : Cc lf (d + 1) 45 [.st [.sl l, .i .i64 nx], .i .i64 n] = some [.i .i64 (plcI (plc l n))] := by
 have E := f45_eq (Cc lf d) lf l nx n
 unfold f45 f45_t at E
 dsimp only at E
 rw [qc4 (F := fun m j => f45_0 (Cc lf d) lf l n nx m j) (p := fun i => inoA l i == n) (X := fun j => some [.i .i64 0, .i .i64 (j : Int)]) (Y := some [.i .i64 1]) (len := l.length) (fun m j hj => by
  rw [f45_0_u]
  unfold f45_0_s inoA
  rw [iLt_t (by omega), qa1 hj, qa4 hj (by omega)]
  simp only [qa0, Int.toNat_natCast]) (fun m => by
  rw [f45_0_u]
  unfold f45_0_s
  rw [iLt_f (by omega)]
  rfl) (n := lf) (by omega)] at E
 unfold plc
 cases e : fstI (fun i => inoA l i == n) l.length with
 | none => rw [e] at E; exact E
 | some j => rw [e] at E; exact E
theorem qq4 {lf d : Nat} (hlf : 33554432 ≤ lf) (l : List T) (nx n : Int) (hs : l.length ≤ 16777216) : Cc lf (d + 1) 52 [.st [.sl l, .i .i64 nx], .i .i64 n] = some [.i .i64 (plcI (plc l n))] := by
 have E := f52_eq (Cc lf d) lf l nx n
 unfold f52 f52_t at E
 dsimp only at E
 rw [qc4 (F := fun m j => f52_0 (Cc lf d) lf l n m j) (p := fun i => inoA l i == n) (X := fun j => some [.i .i64 0, .i .i64 (j : Int), .i .i64 n]) (Y := some [.i .i64 1, .i .i64 n]) (len := l.length) (fun m j hj => by
  rw [f52_0_u]
  unfold f52_0_s inoA
  rw [iLt_t (by omega), qa1 hj, qa4 hj (by omega)]
  simp only [qa0, Int.toNat_natCast]) (fun m => by
  rw [f52_0_u]
  unfold f52_0_s
  rw [iLt_f (by omega)]
  rfl) (n := lf) (by omega)] at E
 unfold plc
 cases e : fstI (fun i => inoA l i == n) l.length with
 | none => rw [e] at E; exact E
 | some j => rw [e] at E; exact E
theorem qwe {lf d : Nat} {l : List T} (h : l.length ≤ 1073741830) : Cc lf (d + 1) 83 [.sl l] = some [.sl l] := by
 show (bif nLe (0 + l.length) LIM then some [T.sl l] else none) = _
 rw [nLe_t (by unfold LIM; omega)]
 rfl
theorem qwf {lf d : Nat} {l : List T} (h : l.length ≤ 1073741830) : Cc lf (d + 1) 84 [.sl l] = some [.sl l] := by
 show (bif nLe (0 + l.length) LIM then some [T.sl l] else none) = _
 rw [nLe_t (by unfold LIM; omega)]
 rfl
theorem qrj {lf d : Nat} (a b c : Int) (x y z : List T) (hx : x.length ≤ 16777216) (hy : y.length ≤ 16777216) (hz : z.length ≤ 16777216) : Cc lf (d + 2) 53 [.st [.i .i64 a, .i .i64 b, .i .i64 c, .sl x, .sl y, .sl z]] = some [.st [.i .i64 a, .i .i64 b, .i .i64 c, .sl x, .sl y, .sl z]] := by
 refine (f53_eq (Cc lf (d + 1)) lf a b c x y z).trans ?_
 unfold f53 f53_t
 rw [qy8 (by omega), qwe (by omega), qwf (by omega)]
 rfl
theorem qrd {lf d : Nat} (a b c : Int) (x y z : List T) (hx : x.length ≤ 16777216) (hy : y.length ≤ 16777216) (hz : z.length ≤ 16777216) : Cc lf (d + 1) 72 [.st [.i .i64 a, .i .i64 b, .i .i64 c, .sl x, .sl y, .sl z]] = some [.st [.i .i64 a, .i .i64 b, .i .i64 c, .sl x, .sl y, .sl z]] := by
 refine (f72_eq (Cc lf d) lf a b c x y z).trans ?_
 unfold f72 f72_t
 rw [nLe_t (by unfold LIM; simp; omega), nLe_t (by unfold LIM; simp; omega), nLe_t (by unfold LIM; simp; omega)]
 rfl
theorem qd2 {l : List T} (hs : l.length + tls l ≤ 16777216) (j k : Nat) : (asL (T.cell (l.getD j T.u) k)).length ≤ 16777216 := by
 have := qbt (l := l) (j := j) k
 omega
theorem qfd (o : Option Nat) : iLt (plcI o) 0 = o.isNone := by
 cases o with
 | none => rfl
 | some j => exact iLt_f (by simp only [plcI]; omega)
theorem qv8 (o : Option Nat) : iLe 0 (plcI o) = o.isSome := by
 cases o with
 | none => rfl
 | some j => exact iLe_t (by simp only [plcI]; omega)
theorem qek {lf d : Nat} (hlf : 33554432 ≤ lf) (l : List T) (nx n : Int) (hs : l.length + tls l ≤ 16777216) : Cc lf (d + 2) 46 [.st [.sl l, .i .i64 nx], .i .i64 n] = some (inoR l (plc l n)) := by
 have E := f46_eq (Cc lf (d + 1)) lf l nx n
 unfold f46 f46_t at E
 rw [c_sAt hlf l nx n (by omega)] at E
 simp only [Option.bind_some, nth0, asI_i] at E
 rw [qfd] at E
 cases e : plc l n with
 | none => rw [e] at E; exact E
 | some j =>
  rw [e] at E
  obtain ⟨hj, _⟩ := qbo e
  simp only [Option.isNone_some, qa6, plcI, Int.toNat_natCast] at E
  rw [qa1 hj, qrd _ _ _ _ _ _ (qd2 hs _ _) (qd2 hs _ _) (qd2 hs _ _)] at E
  exact E
theorem qbq {lf d : Nat} (hlf : 33554432 ≤ lf) (l : List T) (nx n : Int) (hs : l.length + tls l ≤ 16777216) : Cc lf (d + 3) 23 [.st [.sl l, .i .i64 nx], .i .i64 n] = some (inoR l (plc l n)) := by
 have E := f23_eq (Cc lf (d + 2)) lf l nx n
 unfold f23 f23_t at E
 rw [qq4 (d := d + 1) hlf l nx n (by omega)] at E
 simp only [Option.bind_some, nth0, asI_i] at E
 rw [qfd] at E
 cases e : plc l n with
 | none => rw [e] at E; exact E
 | some j =>
  rw [e] at E
  obtain ⟨hj, _⟩ := qbo e
  simp only [Option.isNone_some, qa6, plcI, Int.toNat_natCast] at E
  rw [qa1 hj, qrj _ _ _ _ _ _ (qd2 hs _ _) (qd2 hs _ _) (qd2 hs _ _)] at E
  exact E
def qdt (l : List T) (i : Nat) : Bool := qgy (inoA l i) (kndA l i) (lnkA l i) (datA l i) (entA l i) (atrA l i)
def tbE (l : List T) (nx : Int) (i : Nat) : Bool := qdt l i && (!iLe nx (inoA l i) && (!iLt 0 (i : Int) || !iLe (inoA l i) (inoA l (i - 1))))
def tabB (l : List T) (nx : Int) : Bool := (iLe 1 (l.length : Int) && iLe (l.length : Int) 30) && ((iLe 2 nx && iLe nx 1000) && (allB (tbE l nx) l.length && (inoA l 0 == 1 && kndA l 0 == 2)))
theorem qh9 {l : List T} {nx : Int} (h : allB (tbE l nx) l.length = true) : ∀ (k i : Nat), i + k < l.length → 0 < k → inoA l i < inoA l (i + k)
 | 0, i, _, h0 => by omega
 | k + 1, i, hi, _ => by
  have e := qb9.1 h (i + (k + 1)) hi
  unfold tbE at e
  simp only [Bool.and_eq_true, Bool.or_eq_true, Bool.not_eq_true'] at e
  have e2 : inoA l (i + k) < inoA l (i + (k + 1)) := by
   rcases e.2.2 with c | c
   ·rw [iLt_t (by omega)] at c; cases c
   ·have := mt qe2.2 (by rw [c]; simp)
    simpa using this
  by_cases c : k = 0
  ·subst c; exact e2
  ·have := qh9 h k i (by omega) (by omega); omega
theorem qrz {l : List T} {nx : Int} (h : allB (tbE l nx) l.length = true) {i j : Nat} (hi : i < l.length) (hj : j < l.length) (e : inoA l i = inoA l j) : i = j := by
 rcases Nat.lt_trichotomy i j with c | c | c
 ·have := qh9 h (j - i) i (by omega) (by omega); rw [show i + (j - i) = j by omega] at this; omega
 ·exact c
 ·have := qh9 h (i - j) j (by omega) (by omega); rw [show j + (i - j) = i by omega] at this; omega
theorem qxn {l : List T} {i : Nat} (h : qdt l i = true) : 1 ≤ inoA l i ∧ inoA l i ≤ 1000 := by
 unfold qdt qgy at h
 simp only [Bool.and_eq_true, qe2] at h
 exact h.1
theorem qry {l : List T} {nx : Int} (h : allB (tbE l nx) l.length = true) {i : Nat} (hi : i < l.length) : qdt l i = true := by
 have e := qb9.1 h i hi
 unfold tbE at e
 rw [Bool.and_eq_true] at e
 exact e.1
theorem qhp {l : List T} {nx : Int} (h : allB (tbE l nx) l.length = true) {i : Nat} (hi : i < l.length) : plc l (inoA l i) = some i := by
 cases e : plc l (inoA l i) with
 | none => have := qe6.1 e i hi; simp at this
 | some j => obtain ⟨h1, h2⟩ := qbo e; rw [qrz h h1 hi h2]
theorem qop {C : Orc} {g : Nat} {F : Nat → Int → Option (List T)} {l : List T} {nx : Int} (hC : ∀ i, i < l.length → C g [inoT l i] = some [.b (qdt l i)])
 (hF : ∀ n (j : Nat), j < l.length → F (n + 1) (j : Int) = ((C g [inoT l j]).bind fun r => bif !(asB (nth r 0)) then some [T.i .i64 0, T.b false] else bif iLe nx (inoA l j) then some [T.i .i64 0, T.b false] else
  bif iLt 0 (j : Int) then bif inR (IntKind.wrap .i64 ((j : Int) - 1)) l.length then bif iLe (inoA l j) (inoA l (IntKind.wrap .i64 ((j : Int) - 1)).toNat) then some [T.i .i64 0, T.b false] else F n (IntKind.wrap .i64 ((j : Int) + 1)) else none else F n (IntKind.wrap .i64 ((j : Int) + 1))))
 (hE : ∀ n, F (n + 1) (l.length : Int) = some [T.i .i64 1, T.sl l, T.i .i64 nx]) (hs : l.length ≤ 16777216) {n : Nat} (hn : l.length < n) :
 F n 0 = bif allB (tbE l nx) l.length then some [T.i .i64 1, T.sl l, T.i .i64 nx] else some [T.i .i64 0, T.b false] :=
 qav (fun n j hj => by
  rw [hF n j hj, hC j hj, qa4 hj (by omega)]
  simp only [Option.bind_some, nth0, asB_b]
  unfold tbE
  cases qdt l j with
  | false => rfl
  | true =>
   cases iLe nx (inoA l j) with
   | true => rfl
   | false =>
    by_cases c : 0 < j
    ·rw [iLt_t (by omega), qaw (x := (j : Int) - 1) (by omega) (by omega), show ((j : Int) - 1) = ((j - 1 : Nat) : Int) by omega, qa1 (show j - 1 < l.length by omega), Int.toNat_natCast]
     cases iLe (inoA l j) (inoA l (j - 1)) <;> rfl
    ·rw [iLt_f (by omega)]
     rfl) hE hn
theorem qs6 (C : Orc) {lf : Nat} (hlf : 33554432 ≤ lf) (l : List T) (nx : Int) (hs : l.length ≤ 16777216) (hC : ∀ i, i < l.length → C 70 [inoT l i] = some [.b (qdt l i)]) :
 f42_0 C lf l nx lf 0 = bif allB (tbE l nx) l.length then some [T.i .i64 1, T.sl l, T.i .i64 nx] else some [T.i .i64 0, T.b false] :=
 qop (F := fun n j => f42_0 C lf l nx n j) hC (fun n j hj => by
  rw [f42_0_u]
  unfold f42_0_s
  rw [iLt_t (by omega), qa1 hj]
  simp only [Int.toNat_natCast]
  rfl) (fun n => by
  rw [f42_0_u]
  unfold f42_0_s
  rw [iLt_f (by omega)]
  rfl) hs (show l.length < lf by omega)
theorem qw0 {lf d : Nat} (hlf : 33554432 ≤ lf) (l : List T) (nx : Int) (hs : l.length + tls l ≤ 16777216) : Cc lf (d + 5) 42 [.st [.sl l, .i .i64 nx]] = some [.b (tabB l nx)] := by
 have hC : ∀ i, i < l.length → Cc lf (d + 4) 70 [inoT l i] = some [.b (qdt l i)] := fun i _ => qrc hlf _ _ _ _ _ _ (by have := qbt (l := l) (j := i) 4; unfold entA; omega) (by have := qbt (l := l) (j := i) 5; unfold atrA; omega)
 have E := f42_eq (Cc lf (d + 4)) lf l nx
 unfold f42 f42_t at E
 rw [qiw, qiw] at E
 simp only [Option.bind_some, nth0, asB_b] at E
 rw [qs6 (Cc lf (d + 4)) hlf l nx (by omega) hC] at E
 refine E.trans ?_
 unfold tabB
 by_cases c : 1 ≤ l.length
 ·rw [iLe_t (show (1 : Int) ≤ (l.length : Int) by omega)]
  generalize iLe (l.length : Int) 30 = b1
  generalize (iLe 2 nx && iLe nx 1000) = b2
  cases allB (tbE l nx) l.length with
  | false => cases b1 <;> cases b2 <;> rfl
  | true =>
   simp only [qa0, Option.bind_some, nth0, nthS, asI_i, asL_l]
   have h0 := qa1 (show 0 < l.length from c)
   rw [show ((0 : Nat) : Int) = 0 from rfl] at h0
   rw [h0]
   unfold inoA kndA
   cases (asI (T.cell (l.getD 0 T.u) 0) == 1) <;> cases b1 <;> cases b2 <;> rfl
 ·rw [iLe_f (show ¬ (1 : Int) ≤ (l.length : Int) by omega)]
  rfl
theorem qtf (C : Orc) {lf : Nat} (hlf : 33554432 ≤ lf) (l : List T) (nx : Int) (hs : l.length ≤ 16777216) (hC : ∀ i, i < l.length → C 77 [inoT l i] = some [.b (qdt l i)]) :
 f49_0 C lf l nx lf 0 = bif allB (tbE l nx) l.length then some [T.i .i64 1, T.sl l, T.i .i64 nx] else some [T.i .i64 0, T.b false] :=
 qop (F := fun n j => f49_0 C lf l nx n j) hC (fun n j hj => by
  rw [f49_0_u]
  unfold f49_0_s
  rw [iLt_t (by omega), qa1 hj]
  simp only [Int.toNat_natCast]
  rfl) (fun n => by
  rw [f49_0_u]
  unfold f49_0_s
  rw [iLt_f (by omega)]
  rfl) hs (show l.length < lf by omega)
theorem qw8 {lf d : Nat} (hlf : 33554432 ≤ lf) (l : List T) (nx : Int) (hs : l.length + tls l ≤ 16777216) : Cc lf (d + 5) 49 [.st [.sl l, .i .i64 nx]] = some [.b (tabB l nx)] := by
 have hC : ∀ i, i < l.length → Cc lf (d + 4) 77 [inoT l i] = some [.b (qdt l i)] := fun i _ => qri hlf _ _ _ _ _ _ (by have := qbt (l := l) (j := i) 4; unfold entA; omega) (by have := qbt (l := l) (j := i) 5; unfold atrA; omega)
 have E := f49_eq (Cc lf (d + 4)) lf l nx
 unfold f49 f49_t at E
 rw [qmw] at E
 simp only [Option.bind_some, nth0, asB_b] at E
 rw [qtf (Cc lf (d + 4)) hlf l nx (by omega) hC] at E
 refine E.trans ?_
 unfold tabB
 by_cases c3 : l.length ≤ 30
 case neg =>
  rw [iLt_t (show (30 : Int) < (l.length : Int) by omega), iLe_f (show ¬ (l.length : Int) ≤ 30 by omega), Bool.and_false]
  rfl
 rw [iLt_f (show ¬ (30 : Int) < (l.length : Int) by omega), iLe_t (show (l.length : Int) ≤ 30 by omega)]
 generalize (iLe 2 nx && iLe nx 1000) = b2
 cases hA : allB (tbE l nx) l.length with
 | false => cases b2 <;> cases iLe 1 (l.length : Int) <;> rfl
 | true =>
  simp only [qa0, qa6, Option.bind_some, nth0, nthS, asI_i, asL_l]
  rw [qbq (d := d + 1) hlf l nx 1 hs]
  by_cases c : 1 ≤ l.length
  ·rw [iLe_t (show (1 : Int) ≤ (l.length : Int) by omega)]
   cases e : plc l 1 with
   | none =>
    have := qe6.1 e 0 (by omega)
    rw [show (inoA l 0 == 1) = false from this]
    cases b2 <;> rfl
   | some j =>
    obtain ⟨hj, hj1⟩ := qbo e
    have hj0 : j = 0 := by
     by_cases c2 : j = 0
     ·exact c2
     ·have h1 := qh9 hA j 0 (by omega) (by omega)
      rw [Nat.zero_add] at h1
      have h2 := qxn (qry hA (show 0 < l.length by omega))
      omega
    subst hj0
    rw [hj1]
    simp only [inoR, Option.bind_some, nthS, nth0, asB_b, qa0]
    cases b2 <;> rfl
  ·rw [iLe_f (show ¬ (1 : Int) ≤ (l.length : Int) by omega)]
   have : plc l 1 = none := qe6.2 fun j hj => by omega
   rw [this]
   cases b2 <;> rfl
def entI (E : List T) (k : Nat) : Int := asI (T.cell (E.getD k T.u) 1)
def entN (E : List T) (k : Nat) : ByteArray := asS (T.cell (E.getD k T.u) 0)
def isN (l : List T) (x : Int) : Prop := ∃ j, plc l x = some j
def ed (l : List T) (x y : Int) : Prop := ∃ j, plc l x = some j ∧ kndA l j = 2 ∧ ∃ k, k < (entA l j).length ∧ entI (entA l j) k = y
inductive Rch (l : List T) : Int → Prop
 | root (h : isN l 1) : Rch l 1
 | step (x y : Int) (h : Rch l x) (e : ed l x y) (hy : isN l y) : Rch l y
theorem Rch.node {l : List T} {x : Int} (h : Rch l x) : isN l x := by
 cases h with
 | root h => exact h
 | step x y h e hy => exact hy
theorem qee : ∀ (A : List Int) {B : List Int}, A.Nodup → (∀ x ∈ A, x ∈ B) → A.length ≤ B.length
 | [], _, _, _ => Nat.zero_le _
 | a :: A, B, hn, h => by
  have hn' := List.nodup_cons.1 hn
  have := qee A (B := B.erase a) hn'.2 fun x hx => by
   have hxa : x ≠ a := fun e => hn'.1 (e ▸ hx)
   exact (List.mem_erase_of_ne hxa).2 (h x (by simp [hx]))
  have e := List.length_erase_of_mem (h a (by simp))
  have : 0 < B.length := List.length_pos_of_mem (h a (by simp))
  simp only [List.length_cons]
  omega
def inos (l : List T) : List Int := (List.range l.length).map (inoA l)
theorem qpl {l : List T} {x : Int} (h : isN l x) : x ∈ inos l := by
 obtain ⟨j, h⟩ := h
 obtain ⟨h1, h2⟩ := qbo h
 exact List.mem_map.2 ⟨j, List.mem_range.2 h1, h2⟩
theorem qbp {l : List T} {O : List Int} (hn : O.Nodup) (h : ∀ x ∈ O, isN l x) : O.length ≤ l.length := by
 have := qee O hn (B := inos l) fun x hx => qpl (h x hx)
 simpa [inos] using this
theorem qv7 {l : List T} {x : Int} : (plc l x).isSome = true ↔ isN l x := by
 unfold isN
 cases plc l x with
 | none => simp
 | some j => simp
theorem qyt {lf d : Nat} (hlf : 33554432 ≤ lf) (ns : List Int) (n : Int) (hs : ns.length ≤ 16777216) : Cc lf (d + 1) 121 [.sl (IL ns), .i .i64 n] = some [.b (decide (n ∈ ns))] := by
 have E := f121_eq (Cc lf d) lf (IL ns) n
 unfold f121 f121_t at E
 dsimp only at E
 refine E.trans ?_
 rcases qfq (F := fun m j => f121_0 (Cc lf d) lf (IL ns) n m j) (P := fun j => !(ns.getD j 0 == n)) (X := fun j => some [T.i .i64 0, T.b true]) (Y := some [T.i .i64 1]) (len := ns.length) (fun m j hj => by
  rw [f121_0_u]
  unfold f121_0_s
  rw [iLt_t (by rw [qbk]; omega), qa1 (by rw [qbk]; exact hj), Int.toNat_natCast, IL_at hj, qa4 hj (by omega)]
  simp only [asI_i, qa0]
  cases ns.getD j 0 == n <;> rfl) (fun m => by
  rw [f121_0_u]
  unfold f121_0_s
  rw [iLt_f (by rw [qbk]; omega)]
  rfl) (n := lf) (by omega) with ⟨h, e⟩ | ⟨_, j, hj, h, e⟩
 ·rw [e]
  have : ¬ n ∈ ns := fun hm => by
   obtain ⟨j, hj, e⟩ := List.getElem_of_mem hm
   have := qb9.1 h j hj
   rw [List.getD_eq_getElem?_getD, List.getElem?_eq_getElem hj] at this
   simp [e] at this
  rw [decide_eq_false this]
  rfl
 ·rw [e]
  have : n ∈ ns := by
   rw [List.getD_eq_getElem?_getD, List.getElem?_eq_getElem hj] at h
   have : ns[j] = n := by simpa using h
   rw [← this]; exact List.getElem_mem hj
  rw [decide_eq_true this]
  rfl
theorem qsd {S : List Int} {k : Nat} (hk : k ≤ S.length) (j x : Int) : (S.take k ++ j :: S.drop k).set k x = S.take k ++ x :: S.drop k := by
 rw [List.set_append_right _ _ (by rw [List.length_take]; omega)]
 rw [List.length_take, Nat.min_eq_left hk, Nat.sub_self]
 rfl
theorem qfb {S : List Int} {k : Nat} (hk : k < S.length) : S.take (k + 1) ++ S.getD k 0 :: S.drop (k + 1) = S.take k ++ S.getD k 0 :: S.drop k := by
 rw [List.getD_eq_getElem?_getD, List.getElem?_eq_getElem hk]
 simp only [Option.getD_some]
 have e := List.drop_eq_getElem_cons hk
 rw [List.take_succ_eq_append_getElem hk, e, List.append_assoc]
 rfl
theorem qyj {S : List Int} {k : Nat} (hk : k < S.length) (j : Int) : (S.take (k + 1) ++ j :: S.drop (k + 1)).getD k 0 = S.getD k 0 := by
 rw [List.getD_eq_getElem?_getD, List.getElem?_append_left (by rw [List.length_take]; omega), List.getElem?_take, if_pos (by omega), ← List.getD_eq_getElem?_getD]
theorem qse {S : List Int} {k : Nat} (hk : k ≤ S.length) (j : Int) : (S.take k ++ j :: S.drop k).length = S.length + 1 := by
 simp; omega
theorem qys {lf d : Nat} (hlf : 33554432 ≤ lf) (S : List Int) (n : Int) (hs : S.length ≤ 1048576) : ∃ S', Cc lf (d + 2) 97 [.sl (IL S), .i .i64 n] = some [.sl (IL S')] ∧ (S.Nodup → S'.Nodup) ∧ ∀ x, x ∈ S' ↔ x ∈ S ∨ x = n := by
 have E := f97_eq (Cc lf (d + 1)) lf (IL S) n
 unfold f97 f97_t at E
 rw [qyt hlf S n (by omega)] at E
 simp only [Option.bind_some, nth0, asB_b] at E
 by_cases hm : n ∈ S
 ·rw [decide_eq_true hm] at E
  exact ⟨S, E, id, fun x => ⟨.inl, fun h => h.elim id fun h => h ▸ hm⟩⟩
 ·rw [decide_eq_false hm] at E
  simp only [qa6, List.nil_append, List.length_nil, Nat.zero_add] at E
  rw [qbk, nLe_t (show S.length ≤ LIM by unfold LIM; omega), qf0 (by omega)] at E
  simp only [qa0] at E
  have L : ∀ (k m : Nat) (j : Int), k ≤ S.length → k < m → ∃ (k' : Nat) (j' : Int), k' ≤ S.length ∧ f97_0 (Cc lf (d + 1)) lf n m (k : Int) (IL (S.take k ++ j :: S.drop k)) = some [T.i .i64 0, T.i .i64 n, T.i .i64 (k' : Int), T.sl (IL (S.take k' ++ j' :: S.drop k'))] := by
   intro k
   induction k with
   | zero =>
    intro m j hk hmm
    obtain ⟨m, rfl⟩ : ∃ z, m = z + 1 := ⟨m - 1, by omega⟩
    rw [f97_0_u]
    unfold f97_0_s
    rw [iLt_f (by omega)]
    exact ⟨0, j, hk, rfl⟩
   | succ k ih =>
    intro m j hk hmm
    obtain ⟨m, rfl⟩ : ∃ z, m = z + 1 := ⟨m - 1, by omega⟩
    have hl := qse hk j
    rw [f97_0_u]
    unfold f97_0_s
    rw [iLt_t (by omega), qaw (x := ((k + 1 : Nat) : Int) - 1) (by omega) (by omega), show ((k + 1 : Nat) : Int) - 1 = (k : Int) by omega, qa1 (show k < _ by rw [qbk, hl]; omega), qa1 (show k + 1 < _ by rw [qbk, hl]; omega)]
    simp only [Int.toNat_natCast]
    rw [IL_at (show k < _ by rw [hl]; omega), qyj (by omega), qx4, asI_i, qsd hk]
    simp only [qa0]
    cases iLt n (S.getD k 0) with
    | true =>
     rw [qa0, qfb (by omega)]
     exact ih m _ (by omega) (by omega)
    | false => exact ⟨k + 1, j, hk, rfl⟩
  obtain ⟨k', j', hk', e⟩ := L S.length lf n (Nat.le_refl _) (by omega)
  have e0 : IL S ++ [T.i .i64 n] = IL (S.take S.length ++ n :: S.drop S.length) := by simp
  have e1 : IntKind.wrap .i64 ((((IL S ++ [T.i .i64 n]).length : Nat) : Int) - 1) = (S.length : Int) := by
   rw [List.length_append, qbk, List.length_singleton, qaw (by omega) (by omega)]; omega
  rw [e1, e0, e] at E
  simp only [Option.bind_some, nth0, nthS, asI_i, asL_l, Int.toNat_natCast] at E
  rw [qa1 (show k' < _ by rw [qbk, qse hk']; omega), qx4, qsd hk', qa0] at E
  refine ⟨_, E, fun hn => ?_, fun x => ?_⟩
  ·have hn' : (S.take k' ++ S.drop k').Nodup := by rw [List.take_append_drop]; exact hn
   have hp : (S.take k' ++ n :: S.drop k').Perm (n :: (S.take k' ++ S.drop k')) := List.perm_middle
   refine hp.nodup_iff.2 (List.nodup_cons.2 ⟨?_, hn'⟩)
   rw [List.take_append_drop]; exact hm
  ·have hp : (S.take k' ++ n :: S.drop k').Perm (n :: (S.take k' ++ S.drop k')) := List.perm_middle
   rw [hp.mem_iff, List.take_append_drop, List.mem_cons]
   exact or_comm
theorem qw3 {lf d : Nat} (hlf : 33554432 ≤ lf) (l : List T) (nx : Int) (hs : l.length + tls l ≤ 16777216) (hl : l.length ≤ 30) (S : List Int) (hn : S.Nodup) (hS : ∀ x ∈ S, isN l x) :
 ∃ S', Cc lf (d + 3) 71 [.st [.sl l, .i .i64 nx], .sl (IL S)] = some [.sl (IL S')] ∧ S'.Nodup ∧ ∀ z, z ∈ S' ↔ z ∈ S ∨ (isN l z ∧ ∃ x ∈ S, ed l x z) := by
 have E := f71_eq (Cc lf (d + 2)) lf l nx (IL S)
 unfold f71 f71_t at E
 dsimp only at E
 have hSl := qbp hn hS
 have hInn : ∀ (C : Orc), (∀ x, C 45 [.st [.sl l, .i .i64 nx], .i .i64 x] = some [.i .i64 (plcI (plc l x))]) → (∀ (O : List Int) (x : Int), O.length ≤ 1048576 → ∃ O', C 97 [.sl (IL O), .i .i64 x] = some [.sl (IL O')] ∧ (O.Nodup → O'.Nodup) ∧ ∀ z, z ∈ O' ↔ z ∈ O ∨ z = x) →
  ∀ (j : Nat) (x5 : Int), kndA l j = 2 → (entA l j).length ≤ 16777216 → ∀ (k i m : Nat) (O : List Int), i + k = (entA l j).length → k < m → O.Nodup → (∀ x ∈ O, isN l x) → ∃ O', f71_1 C lf [inoT l j, .b true] (IL S) x5 l nx m (IL O) (i : Int) = some [T.i .i64 0, T.sl (IL S), T.sl (IL O'), T.i .i64 x5, T.sl l, T.i .i64 nx] ∧
   O'.Nodup ∧ ∀ z, z ∈ O' ↔ z ∈ O ∨ (isN l z ∧ ∃ t, i ≤ t ∧ t < (entA l j).length ∧ entI (entA l j) t = z) := by
  intro C hA hP j x5 hk hle k
  induction k with
  | zero =>
   intro i m O hi hm hO hON
   obtain ⟨m, rfl⟩ : ∃ z, m = z + 1 := ⟨m - 1, by omega⟩
   rw [f71_1_u]
   unfold f71_1_s
   rw [show asL (T.cell (nth [inoT l j, T.b true] 0) 4) = entA l j from rfl, iLt_f (by omega)]
   exact ⟨O, rfl, hO, fun z => ⟨.inl, fun h => h.elim id fun ⟨_, t, h1, h2, _⟩ => by omega⟩⟩
  | succ k ih =>
   intro i m O hi hm hO hON
   obtain ⟨m, rfl⟩ : ∃ z, m = z + 1 := ⟨m - 1, by omega⟩
   rw [f71_1_u]
   unfold f71_1_s
   rw [show asL (T.cell (nth [inoT l j, T.b true] 0) 4) = entA l j from rfl, show asB (nth [inoT l j, T.b true] 1) = true from rfl, show asI (T.cell (nth [inoT l j, T.b true] 0) 1) = kndA l j from rfl, hk, iLt_t (by omega), qa1 (show i < (entA l j).length by omega), hA,
    qa4 (show i < (entA l j).length by omega) (by omega)]
   simp only [Int.toNat_natCast, qa0, Option.bind_some, nth0, asI_i, beq_self_eq_true]
   rw [qv8, show asI (T.cell ((entA l j).getD i T.u) 1) = entI (entA l j) i from rfl]
   cases hp : plc l (entI (entA l j) i) with
   | none =>
    obtain ⟨O', e, a1, a2⟩ := ih (i + 1) m O (by omega) (by omega) hO hON
    refine ⟨O', e, a1, fun z => ?_⟩
    rw [a2]
    constructor
    ·rintro (h | ⟨h0, t, h1, h2, h3⟩)
     ·exact .inl h
     ·exact .inr ⟨h0, t, by omega, h2, h3⟩
    ·rintro (h | ⟨h0, t, h1, h2, h3⟩)
     ·exact .inl h
     ·by_cases c : t = i
      ·subst c
       rw [h3] at hp
       obtain ⟨q, hq⟩ := h0
       rw [hq] at hp; cases hp
      ·exact .inr ⟨h0, t, by omega, h2, h3⟩
   | some q =>
    have hOl := qbp hO hON
    obtain ⟨O1, e1, b1, b2⟩ := hP O (entI (entA l j) i) (by omega)
    rw [e1]
    simp only [Option.isSome_some, qa0, Option.bind_some, nth0, asL_l]
    obtain ⟨O', e, a1, a2⟩ := ih (i + 1) m O1 (by omega) (by omega) (b1 hO) (fun x hx => by
     rcases (b2 x).1 hx with h | h
     ·exact hON x h
     ·rw [h]; exact ⟨q, hp⟩)
    refine ⟨O', e, a1, fun z => ?_⟩
    rw [a2, b2]
    constructor
    ·rintro ((h | h) | ⟨h0, t, h1, h2, h3⟩)
     ·exact .inl h
     ·exact .inr ⟨by rw [h]; exact ⟨q, hp⟩, i, Nat.le_refl _, by omega, h.symm⟩
     ·exact .inr ⟨h0, t, by omega, h2, h3⟩
    ·rintro (h | ⟨h0, t, h1, h2, h3⟩)
     ·exact .inl (.inl h)
     ·by_cases c : t = i
      ·subst c; exact .inl (.inr h3.symm)
      ·exact .inr ⟨h0, t, by omega, h2, h3⟩
 have hOut : ∀ (C : Orc), (∀ x, C 45 [.st [.sl l, .i .i64 nx], .i .i64 x] = some [.i .i64 (plcI (plc l x))]) → (∀ (O : List Int) (x : Int), O.length ≤ 1048576 → ∃ O', C 97 [.sl (IL O), .i .i64 x] = some [.sl (IL O')] ∧ (O.Nodup → O'.Nodup) ∧ ∀ z, z ∈ O' ↔ z ∈ O ∨ z = x) →
  (∀ x, C 46 [.st [.sl l, .i .i64 nx], .i .i64 x] = some (inoR l (plc l x))) → ∀ (k i m : Nat) (O : List Int), i + k = S.length → k < m → O.Nodup → (∀ x ∈ O, isN l x) → ∃ O', f71_0 C lf m (IL S) (IL O) (i : Int) l nx = some [T.i .i64 0, T.sl (IL O')] ∧
   O'.Nodup ∧ ∀ z, z ∈ O' ↔ z ∈ O ∨ (isN l z ∧ ∃ t, i ≤ t ∧ t < S.length ∧ ed l (S.getD t 0) z) := by
  intro C hA hP hI k
  induction k with
  | zero =>
   intro i m O hi hm hO hON
   obtain ⟨m, rfl⟩ : ∃ z, m = z + 1 := ⟨m - 1, by omega⟩
   rw [f71_0_u]
   unfold f71_0_s
   rw [iLt_f (by rw [qbk]; omega)]
   exact ⟨O, rfl, hO, fun z => ⟨.inl, fun h => h.elim id fun ⟨_, t, h1, h2, _⟩ => by omega⟩⟩
  | succ k ih =>
   intro i m O hi hm hO hON
   obtain ⟨m, rfl⟩ : ∃ z, m = z + 1 := ⟨m - 1, by omega⟩
   rw [f71_0_u]
   unfold f71_0_s
   rw [iLt_t (by rw [qbk]; omega), qa1 (show i < (IL S).length by rw [qbk]; omega), Int.toNat_natCast, IL_at (show i < S.length by omega), asI_i, hI]
   simp only [qa0, Option.bind_some]
   obtain ⟨O1, e1, b1, b2⟩ : ∃ O1, f71_1 C lf (inoR l (plc l (S.getD i 0))) (IL S) (i : Int) l nx lf (IL O) 0 = some [T.i .i64 0, T.sl (IL S), T.sl (IL O1), T.i .i64 (i : Int), T.sl l, T.i .i64 nx] ∧ O1.Nodup ∧ ∀ z, z ∈ O1 ↔ z ∈ O ∨ (isN l z ∧ ed l (S.getD i 0) z) := by
    obtain ⟨m2, hm2⟩ : ∃ z, lf = z + 1 := ⟨lf - 1, by omega⟩
    cases hp : plc l (S.getD i 0) with
    | none =>
     refine ⟨O, ?_, hO, fun z => ⟨.inl, fun h => h.elim id fun ⟨_, j, h1, _⟩ => by rw [hp] at h1; cases h1⟩⟩
     have : ∀ m2, f71_1 C lf (inoR l none) (IL S) (i : Int) l nx (m2 + 1) (IL O) 0 = some [T.i .i64 0, T.sl (IL S), T.sl (IL O), T.i .i64 (i : Int), T.sl l, T.i .i64 nx] := fun m2 => by
      rw [f71_1_u]
      rfl
     have h := this m2
     rw [← hm2] at h
     exact h
    | some j =>
     by_cases hk : kndA l j = 2
     ·have hle := qbt (l := l) (j := j) 4
      obtain ⟨O1, e1, b1, b2⟩ := hInn C hA hP j (i : Int) hk (by unfold entA; omega) (entA l j).length 0 lf O (by omega) (by unfold entA; omega) hO hON
      refine ⟨O1, e1, b1, fun z => ?_⟩
      rw [b2]
      constructor
      ·rintro (h | ⟨h0, t, _, h2, h3⟩)
       ·exact .inl h
       ·exact .inr ⟨h0, j, hp, hk, t, h2, h3⟩
      ·rintro (h | ⟨h0, j', h1, _, t, h2, h3⟩)
       ·exact .inl h
       ·rw [hp] at h1
        cases h1
        exact .inr ⟨h0, t, Nat.zero_le _, h2, h3⟩
     ·refine ⟨O, ?_, hO, fun z => ⟨.inl, fun h => h.elim id fun ⟨_, j', h1, h2, _⟩ => by rw [hp] at h1; cases h1; exact absurd h2 hk⟩⟩
      have : ∀ m2, f71_1 C lf (inoR l (some j)) (IL S) (i : Int) l nx (m2 + 1) (IL O) 0 = some [T.i .i64 0, T.sl (IL S), T.sl (IL O), T.i .i64 (i : Int), T.sl l, T.i .i64 nx] := fun m2 => by
       rw [f71_1_u]
       unfold f71_1_s
       rw [show asI (T.cell (nth (inoR l (some j)) 0) 1) = kndA l j from rfl, show asB (nth (inoR l (some j)) 1) = true from rfl, show (kndA l j == 2) = false by simpa using hk, qa6, qa0, qmr]
      have h := this m2
      rw [← hm2] at h
      exact h
   rw [e1]
   simp only [Option.bind_some, nth0, nthS, asI_i, asL_l]
   rw [qa4 (show i < S.length by omega) (by omega)]
   obtain ⟨O', e, a1, a2⟩ := ih (i + 1) m O1 (by omega) (by omega) b1 (fun x hx => by
    rcases (b2 x).1 hx with h | h
    ·exact hON x h
    ·exact h.1)
   refine ⟨O', e, a1, fun z => ?_⟩
   rw [a2, b2]
   constructor
   ·rintro ((h | ⟨h0, h⟩) | ⟨h0, t, h1, h2, h3⟩)
    ·exact .inl h
    ·exact .inr ⟨h0, i, Nat.le_refl _, by omega, h⟩
    ·exact .inr ⟨h0, t, by omega, h2, h3⟩
   ·rintro (h | ⟨h0, t, h1, h2, h3⟩)
    ·exact .inl (.inl h)
    ·by_cases c : t = i
     ·subst c; exact .inl (.inr ⟨h0, h3⟩)
     ·exact .inr ⟨h0, t, by omega, h2, h3⟩
 obtain ⟨O', e, a1, a2⟩ := hOut (Cc lf (d + 2)) (fun x => c_sAt (d := d + 1) hlf l nx x (by omega)) (fun O x h => qys (d := d) hlf O x h) (fun x => qek (d := d) hlf l nx x hs) S.length 0 lf S (by omega) (by omega) hn hS
 rw [show ((0 : Nat) : Int) = 0 from rfl] at e
 rw [e] at E
 refine ⟨O', E, a1, fun z => ?_⟩
 rw [a2]
 constructor
 ·rintro (h | ⟨h0, t, _, h2, h3⟩)
  ·exact .inl h
  ·refine .inr ⟨h0, S.getD t 0, ?_, h3⟩
   rw [List.getD_eq_getElem?_getD, List.getElem?_eq_getElem h2]
   exact List.getElem_mem h2
 ·rintro (h | ⟨h0, x, hx, h3⟩)
  ·exact .inl h
  ·obtain ⟨t, ht, e⟩ := List.getElem_of_mem hx
   refine .inr ⟨h0, t, Nat.zero_le _, ht, ?_⟩
   rw [List.getD_eq_getElem?_getD, List.getElem?_eq_getElem ht]
   rw [← e] at h3
   exact h3
theorem Rch.one {l : List T} {x : Int} (h : Rch l x) : isN l 1 := by
 induction h with
 | root h => exact h
 | step x y h e hy ih => exact ih
def qle (l : List T) (S : List Int) : Prop := ∀ x ∈ S, ∀ z, ed l x z → isN l z → z ∈ S
theorem qgi {l : List T} {S : List Int} (h1 : 1 ∈ S) (hc : qle l S) {x : Int} (h : Rch l x) : x ∈ S := by
 induction h with
 | root h => exact h1
 | step x y h e hy ih => exact hc x ih y e hy
open Classical in
theorem qra {lf d : Nat} (hlf : 33554432 ≤ lf) (l : List T) (nx : Int) (hs : l.length + tls l ≤ 16777216) (hl : l.length ≤ 30) :
 ∃ S, Cc lf (d + 4) 43 [.st [.sl l, .i .i64 nx]] = some [.sl (IL S)] ∧ S.Nodup ∧ ∀ x, x ∈ S ↔ Rch l x := by
 have E := f43_eq (Cc lf (d + 3)) lf l nx
 unfold f43 f43_t at E
 rw [c_sAt (d := d + 2) hlf l nx 1 (by omega)] at E
 simp only [Option.bind_some, nth0, asI_i] at E
 rw [qfd] at E
 cases hp : plc l 1 with
 | none =>
  rw [hp] at E
  exact ⟨[], E, List.nodup_nil, fun x => ⟨fun h => (by cases h), fun h => by obtain ⟨j, hj⟩ := h.one; rw [hp] at hj; cases hj⟩⟩
 | some j0 =>
  rw [hp] at E
  simp only [Option.isNone_some, qa6, List.nil_append] at E
  rw [nLe_t (by unfold LIM; simp), qa0] at E
  have h1 : isN l 1 := ⟨j0, hp⟩
  have L : ∀ (C : Orc), (∀ S : List Int, S.Nodup → (∀ x ∈ S, isN l x) → ∃ S', C 71 [.st [.sl l, .i .i64 nx], .sl (IL S)] = some [.sl (IL S')] ∧ S'.Nodup ∧ ∀ z, z ∈ S' ↔ z ∈ S ∨ (isN l z ∧ ∃ x ∈ S, ed l x z)) →
   ∀ (k i m : Nat) (S : List Int), i + k = l.length → k < m → S.Nodup → (∀ x ∈ S, Rch l x) → 1 ∈ S → (qle l S ∨ i + 1 ≤ S.length) → ∃ S', f43_0 C lf l nx m (IL S) (i : Int) = some [T.i .i64 0, T.sl (IL S')] ∧ S'.Nodup ∧ ∀ x, x ∈ S' ↔ Rch l x := by
   intro C hC k
   induction k with
   | zero =>
    intro i m S hi hm hn hR h1S hc
    obtain ⟨m, rfl⟩ : ∃ z, m = z + 1 := ⟨m - 1, by omega⟩
    rw [f43_0_u]
    unfold f43_0_s
    rw [iLt_f (by omega)]
    have hcl : qle l S := by
     rcases hc with h | h
     ·exact h
     ·have := qbp hn fun x hx => (hR x hx).node
      omega
    exact ⟨S, rfl, hn, fun x => ⟨hR x, qgi h1S hcl⟩⟩
   | succ k ih =>
    intro i m S hi hm hn hR h1S hc
    obtain ⟨m, rfl⟩ : ∃ z, m = z + 1 := ⟨m - 1, by omega⟩
    rw [f43_0_u]
    unfold f43_0_s
    obtain ⟨S', e, a1, a2⟩ := hC S hn fun x hx => (hR x hx).node
    rw [iLt_t (by omega), e, qa4 (show i < l.length by omega) (by omega)]
    simp only [qa0, Option.bind_some, nth0, asL_l]
    refine ih (i + 1) m S' (by omega) (by omega) a1 (fun z hz => ?_) ((a2 1).2 (.inl h1S)) ?_
    ·rcases (a2 z).1 hz with h | ⟨h0, x, hx, he⟩
     ·exact hR z h
     ·exact .step x z (hR x hx) he h0
    ·by_cases hcl : qle l S
     ·refine .inl fun x hx z he h0 => (a2 z).2 (.inl ?_)
      have hxS : x ∈ S := by
       rcases (a2 x).1 hx with h | ⟨h0', y, hy, he'⟩
       ·exact h
       ·exact hcl y hy x he' h0'
      exact hcl x hxS z he h0
     ·have hlen : i + 1 ≤ S.length := hc.resolve_left hcl
      obtain ⟨x, hx, z, he, h0, hz⟩ : ∃ x, x ∈ S ∧ ∃ z, ed l x z ∧ isN l z ∧ ¬ z ∈ S := by
       refine Classical.byContradiction fun hno => hcl fun x hx z he h0 => Classical.byContradiction fun hz => hno ⟨x, hx, z, he, h0, hz⟩
      have := qee (z :: S) (B := S') (List.nodup_cons.2 ⟨hz, hn⟩) fun y hy => by
       rcases List.mem_cons.1 hy with h | h
       ·rw [h]; exact (a2 z).2 (.inr ⟨h0, x, hx, he⟩)
       ·exact (a2 y).2 (.inl h)
      simp only [List.length_cons] at this
      exact .inr (by omega)
  obtain ⟨S', e, a1, a2⟩ := L (Cc lf (d + 3)) (fun S hn hS => qw3 (d := d) hlf l nx hs hl S hn hS) l.length 0 lf [1] (by omega) (by omega) (by simp) (fun x hx => by
   obtain rfl : x = 1 := by simpa using hx
   exact .root h1) (by simp) (.inr (by simp))
  rw [show ((0 : Nat) : Int) = 0 from rfl] at e
  have e' : f43_0 (Cc lf (d + 3)) lf l nx lf [T.i .i64 1] 0 = some [T.i .i64 0, T.sl (IL S')] := e
  rw [e'] at E
  exact ⟨S', E, a1, a2⟩
def vw (Q : List Int) (o n : Nat) : List Int := (Q.drop o).take n
theorem vw_IL (Q : List Int) (o n : Nat) : ((IL Q).drop o).take n = IL (vw Q o n) := by
 unfold vw
 rw [← List.map_drop, ← List.map_take]
theorem qom {Q : List Int} {o n : Nat} (h : o + n ≤ Q.length) : (vw Q o n).length = n := by
 unfold vw
 rw [List.length_take, List.length_drop]
 omega
theorem qx7 {Q : List Int} {o n : Nat} (h : o + (n + 1) ≤ Q.length) : vw Q o (n + 1) = Q.getD o 0 :: vw Q (o + 1) n := by
 unfold vw
 rw [List.drop_eq_getElem_cons (show o < Q.length by omega), List.take_succ_cons, List.getD_eq_getElem?_getD, List.getElem?_eq_getElem (show o < Q.length by omega)]
 rfl
theorem qwq (Q : List Int) : vw Q 0 Q.length = Q := by simp [vw]
def entIs (E : List T) (i : Nat) : List Int := (List.range (E.length - i)).map fun t => entI E (i + t)
theorem qr7 {E : List T} {i : Nat} (h : i < E.length) : entIs E i = entI E i :: entIs E (i + 1) := by
 unfold entIs
 rw [show E.length - i = (E.length - (i + 1)) + 1 by omega, List.range_succ_eq_map, List.map_cons, List.map_map]
 congr 1
 exact List.map_congr_left fun t _ => by show entI E (i + (t + 1)) = entI E (i + 1 + t); rw [show i + (t + 1) = i + 1 + t by omega]
theorem qtt {E : List T} {i : Nat} (h : E.length ≤ i) : entIs E i = [] := by
 unfold entIs
 rw [show E.length - i = 0 by omega]
 rfl
theorem qml {E : List T} {z : Int} : z ∈ entIs E 0 ↔ ∃ k, k < E.length ∧ entI E k = z := by
 unfold entIs
 simp [List.mem_map]
theorem qts (E : List T) : (entIs E 0).length = E.length := by simp [entIs]
theorem qwa (C : Orc) {lf : Nat} (l : List T) (nx : Int) (j : Nat) (hE : (entA l j).length ≤ 10) (o0 : Nat) (O : List T) (Q0 : List T) : ∀ (k i m o n : Nat) (Q : List Int), i + k = (entA l j).length → k < m → o + n ≤ Q.length → Q.length ≤ 1048576 + i →
 ∃ (o' n' : Nat) (Q' : List Int), f50_1 C lf [inoT l j, .b true] o0 l nx O Q0 m o n (i : Int) (IL Q) = some [T.i .i64 0, T.i .i64 (o' : Int), T.i .i64 (n' : Int), T.sl l, T.i .i64 nx, T.sl (O ++ [T.i .i64 (asI (Q0.getD (o0 + 0) T.u))]), T.sl (IL Q')] ∧ o' + n' ≤ Q'.length ∧ vw Q' o' n' = vw Q o n ++ entIs (entA l j) i ∧ (Q'.length ≤ Q.length ∨ Q'.length ≤ n') := by
 intro k
 induction k with
 | zero =>
  intro i m o n Q hi hm hq hl
  obtain ⟨m, rfl⟩ : ∃ z, m = z + 1 := ⟨m - 1, by omega⟩
  rw [f50_1_u]
  unfold f50_1_s
  rw [show asL (T.cell (nth [inoT l j, T.b true] 0) 4) = entA l j from rfl, iLt_f (by omega)]
  exact ⟨o, n, Q, rfl, hq, by rw [qtt (by omega), List.append_nil], .inl (Nat.le_refl _)⟩
 | succ k ih =>
  intro i m o n Q hi hm hq hl
  obtain ⟨m, rfl⟩ : ∃ z, m = z + 1 := ⟨m - 1, by omega⟩
  rw [f50_1_u]
  unfold f50_1_s
  have hv := qom hq
  rw [show asL (T.cell (nth [inoT l j, T.b true] 0) 4) = entA l j from rfl, iLt_t (by omega), qa1 (show i < (entA l j).length by omega), vw_IL, qf0 (by rw [qbk, hv]; omega), qa4 (show i < (entA l j).length by omega) (by omega)]
  simp only [Int.toNat_natCast, qa0]
  rw [show asI (T.cell ((entA l j).getD i T.u) 1) = entI (entA l j) i from rfl, show IL (vw Q o n) ++ [T.i .i64 (entI (entA l j) i)] = IL (vw Q o n ++ [entI (entA l j) i]) by simp, qbk]
  obtain ⟨o', n', Q', e, a1, a2, a3⟩ := ih (i + 1) m 0 (vw Q o n ++ [entI (entA l j) i]).length (vw Q o n ++ [entI (entA l j) i]) (by omega) (by omega) (by omega) (by rw [List.length_append, hv]; simp only [List.length_singleton]; omega)
  refine ⟨o', n', Q', e, a1, ?_, .inr ?_⟩
  ·rw [a2, qwq, qr7 (show i < (entA l j).length by omega), List.append_assoc]
   rfl
  ·have h1 := qom a1
   rw [a2, qwq, List.length_append] at h1
   rcases a3 with h | h
   ·omega
   ·exact h
structure Bfs (l : List T) (O V : List Int) : Prop where
 nd : O.Nodup
 ro : ∀ x ∈ O, Rch l x
 rv : ∀ x ∈ V, isN l x → Rch l x
 cl : ∀ x ∈ O, ∀ z, ed l x z → isN l z → z ∈ O ∨ z ∈ V
 on : isN l 1 → 1 ∈ O ∨ 1 ∈ V
theorem Bfs.skip {l : List T} {O V : List Int} {x : Int} (B : Bfs l O (x :: V)) (h : ¬ isN l x ∨ x ∈ O) : Bfs l O V := by
 have key : ∀ z, isN l z → z ∈ O ∨ z ∈ x :: V → z ∈ O ∨ z ∈ V := fun z hz hh => by
  rcases hh with hh | hh
  ·exact .inl hh
  ·rcases List.mem_cons.1 hh with e | e
   ·subst e
    rcases h with h | h
    ·exact absurd hz h
    ·exact .inl h
   ·exact .inr e
 exact ⟨B.nd, B.ro, fun y hy hN => B.rv y (by simp [hy]) hN, fun y hy z he hN => key z hN (B.cl y hy z he hN), fun h1 => key 1 h1 (B.on h1)⟩
theorem Bfs.push {l : List T} {O V W : List Int} {x : Int} (B : Bfs l O (x :: V)) (hN : isN l x) (hx : ¬ x ∈ O) (hW : ∀ z, ed l x z → z ∈ W) (hW' : ∀ z ∈ W, ed l x z) : Bfs l (O ++ [x]) (V ++ W) := by
 have hR : Rch l x := B.rv x (by simp) hN
 have up : ∀ z, z ∈ O ∨ z ∈ x :: V → z ∈ O ++ [x] ∨ z ∈ V ++ W := fun z hh => by
  rcases hh with hh | hh
  ·exact .inl (by simp [hh])
  ·rcases List.mem_cons.1 hh with e | e
   ·exact .inl (by simp [e])
   ·exact .inr (by simp [e])
 refine ⟨?_, fun y hy => ?_, fun y hy hy' => ?_, fun y hy z he hz => ?_, fun h1 => up 1 (B.on h1)⟩
 ·have hp : (O ++ [x]).Perm (x :: O) := List.perm_append_comm
  exact hp.nodup_iff.2 (List.nodup_cons.2 ⟨hx, B.nd⟩)
 ·rcases List.mem_append.1 hy with h | h
  ·exact B.ro y h
  ·obtain rfl : y = x := by simpa using h
   exact hR
 ·rcases List.mem_append.1 hy with h | h
  ·exact B.rv y (by simp [h]) hy'
  ·exact .step x y hR (hW' y h) hy'
 ·rcases List.mem_append.1 hy with h | h
  ·exact up z (B.cl y h z he hz)
  ·obtain rfl : y = x := by simpa using h
   exact .inr (by simp [hW z he])
theorem qrg {lf d : Nat} (hlf : 33554432 ≤ lf) (l : List T) (nx : Int) (hs : l.length + tls l ≤ 16777216) (hl : l.length ≤ 30) (hE : ∀ j, (entA l j).length ≤ 10) :
 ∃ S, Cc lf (d + 4) 50 [.st [.sl l, .i .i64 nx]] = some [.sl (IL S)] ∧ S.Nodup ∧ ∀ x, x ∈ S ↔ Rch l x := by
 have E := f50_eq (Cc lf (d + 3)) lf l nx
 unfold f50 f50_t at E
 dsimp only at E
 have L : ∀ (C : Orc), (∀ x, C 23 [.st [.sl l, .i .i64 nx], .i .i64 x] = some (inoR l (plc l x))) → (∀ (O : List Int) (x : Int), O.length ≤ 16777216 → C 78 [.sl (IL O), .i .i64 x] = some [.b (decide (x ∈ O))]) →
  ∀ (M m o n : Nat) (O Q : List Int), n + 11 * (30 - O.length) ≤ M → M < m → o + n ≤ Q.length → n ≤ 1 + 10 * O.length → Q.length ≤ 100000 → Bfs l O (vw Q o n) → ∃ S, f50_0 C lf m o n l nx (IL O) (IL Q) = some [T.i .i64 0, T.sl (IL S)] ∧ S.Nodup ∧ ∀ x, x ∈ S ↔ Rch l x := by
  intro C hI hCo M
  induction M with
  | zero =>
   intro m o n O Q hM hm hq hn hQl B
   obtain ⟨m, rfl⟩ : ∃ z, m = z + 1 := ⟨m - 1, by omega⟩
   obtain rfl : n = 0 := by omega
   rw [f50_0_u]
   unfold f50_0_s
   rw [iLt_f (by omega)]
   have hv : vw Q o 0 = [] := by simp [vw]
   rw [hv] at B
   exact ⟨O, rfl, B.nd, fun x => ⟨B.ro x, fun h => qgi ((B.on h.one).resolve_right (by simp)) (fun y hy z he hz => (B.cl y hy z he hz).resolve_right (by simp)) h⟩⟩
  | succ M ih =>
   intro m o n O Q hM hm hq hn hQl B
   obtain ⟨m, rfl⟩ : ∃ z, m = z + 1 := ⟨m - 1, by omega⟩
   rw [f50_0_u]
   unfold f50_0_s
   have hOl := qbp B.nd fun x hx => (B.ro x hx).node
   cases n with
   | zero =>
    rw [iLt_f (by omega)]
    have hv : vw Q o 0 = [] := by simp [vw]
    rw [hv] at B
    exact ⟨O, rfl, B.nd, fun x => ⟨B.ro x, fun h => qgi ((B.on h.one).resolve_right (by simp)) (fun y hy z he hz => (B.cl y hy z he hz).resolve_right (by simp)) h⟩⟩
   | succ n =>
    rw [qx7 hq] at B
    have h0 := qa1 (show 0 < n + 1 by omega)
    rw [show ((0 : Nat) : Int) = 0 from rfl] at h0
    rw [iLt_t (by omega), h0, iLe_t (show (0 : Int) ≤ 1 by omega), iLe_t (show (1 : Int) ≤ ((n + 1 : Nat) : Int) by omega), iLe_t (show ((n + 1 : Nat) : Int) ≤ ((n + 1 : Nat) : Int) by omega)]
    simp only [Int.toNat_natCast, Nat.add_zero, Nat.add_sub_cancel, qa0, Bool.and_true]
    rw [IL_at (show o < Q.length by omega), asI_i, hI]
    simp only [Option.bind_some]
    cases hp : plc l (Q.getD o 0) with
    | none =>
     have hNo : ¬ isN l (Q.getD o 0) := fun ⟨j, hj⟩ => by rw [hp] at hj; cases hj
     exact ih m (o + 1) n O Q (by omega) (by omega) (by omega) (by omega) hQl (B.skip (.inl hNo))
    | some j =>
     have hN : isN l (Q.getD o 0) := ⟨j, hp⟩
     rw [hCo O _ (by omega)]
     simp only [inoR, nthS, nth0, asB_b, Bool.not_true, qa6, Option.bind_some]
     by_cases hm' : Q.getD o 0 ∈ O
     ·rw [decide_eq_true hm', qa0]
      exact ih m (o + 1) n O Q (by omega) (by omega) (by omega) (by omega) hQl (B.skip (.inr hm'))
     ·rw [decide_eq_false hm', qa6, qf0 (by rw [qbk]; omega), qa0, show asI (T.cell (inoT l j) 1) = kndA l j from rfl]
      have eO : IL O ++ [T.i .i64 (Q.getD o 0)] = IL (O ++ [Q.getD o 0]) := by simp
      by_cases hk : kndA l j = 2
      ·rw [hk]
       simp only [beq_self_eq_true, qa0]
       have B' := B.push hN hm' (W := entIs (entA l j) 0) (fun z hz => by
        obtain ⟨j', h1, _, h3⟩ := hz
        rw [hp] at h1; cases h1
        exact qml.2 h3) (fun z hz => ⟨j, hp, hk, qml.1 hz⟩)
       have hO' := qbp B'.nd fun x hx => (B'.ro x hx).node
       rw [List.length_append, List.length_singleton] at hO'
       obtain ⟨o', n', Q', e, a1, a2, a3⟩ := qwa C (lf := lf) l nx j (hE j) o (IL O) (IL Q) (entA l j).length 0 lf (o + 1) n Q (by omega) (by have := hE j; omega) (by omega) (by omega)
       simp only [Nat.add_zero] at e
       rw [show ((0 : Nat) : Int) = 0 from rfl, IL_at (show o < Q.length by omega), asI_i, eO] at e
       rw [e]
       simp only [Option.bind_some, nth0, nthS, asI_i, asL_l, Int.toNat_natCast]
       rw [← a2] at B'
       have hn' : n' = n + (entA l j).length := by
        have h1 := qom a1
        rw [a2, List.length_append, qom (show o + 1 + n ≤ Q.length by omega), qts] at h1
        omega
       have h10 := hE j
       exact ih m o' n' (O ++ [Q.getD o 0]) Q' (by rw [List.length_append, List.length_singleton]; omega) (by omega) a1 (by rw [List.length_append, List.length_singleton]; omega) (by omega) B'
      ·rw [show (kndA l j == 2) = false by simpa using hk, qa6, eO]
       have B' := B.push hN hm' (W := []) (fun z hz => by
        obtain ⟨j', h1, h2, _⟩ := hz
        rw [hp] at h1; cases h1
        exact absurd h2 hk) (fun z hz => by cases hz)
       have hO' := qbp B'.nd fun x hx => (B'.ro x hx).node
       rw [List.length_append, List.length_singleton] at hO'
       rw [List.append_nil] at B'
       exact ih m (o + 1) n (O ++ [Q.getD o 0]) Q (by rw [List.length_append, List.length_singleton]; omega) (by omega) (by omega) (by rw [List.length_append, List.length_singleton]; omega) hQl B'
 obtain ⟨S, e, a1, a2⟩ := L (Cc lf (d + 3)) (fun x => qbq (d := d) hlf l nx x hs) (fun O x h => qrm (d := d + 1) hlf O x h) 331 lf 0 1 [] [1] (by simp) (by omega) (by simp) (by simp) (by simp)
  ⟨List.nodup_nil, fun x hx => (by cases hx), fun x hx hN => (by
   obtain rfl : x = 1 := by simpa [vw] using hx
   exact .root hN), fun x hx => (by cases hx), fun _ => .inr (by simp [vw])⟩
 have e' : f50_0 (Cc lf (d + 3)) lf lf 0 ([T.i .i64 1] : List T).length l nx [] [T.i .i64 1] = some [T.i .i64 0, T.sl (IL S)] := e
 rw [e'] at E
 simp only [Option.bind_some, nth0, nthS, asL_l] at E
 have hS := qbp a1 fun x hx => ((a2 x).1 hx).node
 have e2 : Cc lf (d + 3) 79 [.sl (IL S)] = some [.sl (IL (S.mergeSort fun x y => decide (x ≤ y)))] := by
  show (bif nLe (IL S).length LIM then some [T.sl (sortI (IL S))] else none) = _
  rw [nLe_t (by rw [qbk]; unfold LIM; omega), qa0]
  unfold sortI
  rw [qyv]
 rw [e2] at E
 have hp := List.mergeSort_perm S fun x y => decide (x ≤ y)
 exact ⟨_, E, hp.nodup_iff.2 a1, fun x => hp.mem_iff.trans (a2 x)⟩
def sumTo (f : Nat → Nat) : Nat → Nat
 | 0 => 0
 | k + 1 => sumTo f k + f k
theorem sumTo_le {f : Nat → Nat} {c : Nat} (h : ∀ j, f j ≤ c) : ∀ n, sumTo f n ≤ c * n
 | 0 => Nat.zero_le _
 | n + 1 => by have := sumTo_le h n; have := h n; simp only [sumTo, Nat.mul_succ]; omega
def lnkJ (l : List T) (n : Int) (j : Nat) : Nat := if kndA l j = 2 then cntB (fun k => entI (entA l j) k == n) (entA l j).length else 0
def lnk (l : List T) (n : Int) : Nat := sumTo (lnkJ l n) l.length
theorem qt1 {l : List T} {n : Int} (hE : ∀ j, (entA l j).length ≤ 10) (j : Nat) : lnkJ l n j ≤ 10 := by
 unfold lnkJ
 split
 ·exact Nat.le_trans (qlc _ _) (hE j)
 ·omega
theorem qyh (C : Orc) {lf : Nat} (l : List T) (nx n : Int) (j : Nat) (hj : j < l.length) (hk : kndA l j = 2) (hE : (entA l j).length ≤ 10) (c0 : Nat) (hc : c0 ≤ 1000) : ∀ (k i m : Nat), i + k = (entA l j).length → k < m →
 f44_1 C lf n (j : Int) l nx m ((c0 + cntB (fun k => entI (entA l j) k == n) i : Nat) : Int) (i : Int) = some [T.i .i64 0, T.i .i64 n, T.i .i64 ((c0 + cntB (fun k => entI (entA l j) k == n) (entA l j).length : Nat) : Int), T.i .i64 (j : Int), T.sl l, T.i .i64 nx] := by
 intro k
 induction k with
 | zero =>
  intro i m hi hm
  obtain ⟨m, rfl⟩ : ∃ z, m = z + 1 := ⟨m - 1, by omega⟩
  rw [f44_1_u]
  unfold f44_1_s
  simp only [Int.toNat_natCast]
  rw [qa1 hj, show asL (T.cell (l.getD j T.u) 4) = entA l j from rfl, iLt_f (by omega), show i = (entA l j).length by omega]
  rfl
 | succ k ih =>
  intro i m hi hm
  obtain ⟨m, rfl⟩ : ∃ z, m = z + 1 := ⟨m - 1, by omega⟩
  rw [f44_1_u]
  unfold f44_1_s
  simp only [Int.toNat_natCast]
  have hcn := qlc (fun k => entI (entA l j) k == n) i
  rw [qa1 hj, show asL (T.cell (l.getD j T.u) 4) = entA l j from rfl, iLt_t (by omega), show asI (T.cell (l.getD j T.u) 1) = kndA l j from rfl, hk, qa1 (show i < (entA l j).length by omega), show asI (T.cell ((entA l j).getD i T.u) 1) = entI (entA l j) i from rfl, qa4 (show i < (entA l j).length by omega) (by omega)]
  simp only [qa0, beq_self_eq_true]
  have I := ih (i + 1) m (by omega) (by omega)
  have e : cntB (fun k => entI (entA l j) k == n) (i + 1) = bif entI (entA l j) i == n then cntB (fun k => entI (entA l j) k == n) i + 1 else cntB (fun k => entI (entA l j) k == n) i := rfl
  rw [e] at I
  cases hq : entI (entA l j) i == n with
  | true =>
   rw [hq, qa0] at I
   rw [qa0, qaw (x := ((c0 + cntB (fun k => entI (entA l j) k == n) i : Nat) : Int) + 1) (by omega) (by omega), show (((c0 + cntB (fun k => entI (entA l j) k == n) i : Nat) : Int) + 1) = ((c0 + (cntB (fun k => entI (entA l j) k == n) i + 1) : Nat) : Int) by omega]
   exact I
  | false =>
   rw [hq, qa6] at I
   rw [qa6]
   exact I
theorem qyo (C : Orc) {lf : Nat} (l : List T) (ln n : Int) (j : Nat) (hE : (entA l j).length ≤ 10) (c0 : Nat) (hc : c0 ≤ 1000) : ∀ (k i m : Nat), i + k = (entA l j).length → k < m →
 f51_1 C lf (j : Int) n l ln m ((c0 + cntB (fun k => entI (entA l j) k == n) i : Nat) : Int) (i : Int) = some [T.i .i64 0, T.i .i64 n, T.i .i64 ((c0 + cntB (fun k => entI (entA l j) k == n) (entA l j).length : Nat) : Int), T.sl l, T.i .i64 ln, T.i .i64 (j : Int)] := by
 intro k
 induction k with
 | zero =>
  intro i m hi hm
  obtain ⟨m, rfl⟩ : ∃ z, m = z + 1 := ⟨m - 1, by omega⟩
  rw [f51_1_u]
  unfold f51_1_s
  simp only [Int.toNat_natCast]
  rw [show asL (T.cell (l.getD j T.u) 4) = entA l j from rfl, iLt_f (by omega), show i = (entA l j).length by omega]
  rfl
 | succ k ih =>
  intro i m hi hm
  obtain ⟨m, rfl⟩ : ∃ z, m = z + 1 := ⟨m - 1, by omega⟩
  rw [f51_1_u]
  unfold f51_1_s
  simp only [Int.toNat_natCast]
  have hcn := qlc (fun k => entI (entA l j) k == n) i
  rw [show asL (T.cell (l.getD j T.u) 4) = entA l j from rfl, iLt_t (by omega), qa1 (show i < (entA l j).length by omega), show asI (T.cell ((entA l j).getD i T.u) 1) = entI (entA l j) i from rfl, qa4 (show i < (entA l j).length by omega) (by omega)]
  simp only [qa0]
  have I := ih (i + 1) m (by omega) (by omega)
  have e : cntB (fun k => entI (entA l j) k == n) (i + 1) = bif entI (entA l j) i == n then cntB (fun k => entI (entA l j) k == n) i + 1 else cntB (fun k => entI (entA l j) k == n) i := rfl
  rw [e] at I
  cases hq : entI (entA l j) i == n with
  | true =>
   rw [hq, qa0] at I
   rw [qa0, qaw (x := ((c0 + cntB (fun k => entI (entA l j) k == n) i : Nat) : Int) + 1) (by omega) (by omega), show (((c0 + cntB (fun k => entI (entA l j) k == n) i : Nat) : Int) + 1) = ((c0 + (cntB (fun k => entI (entA l j) k == n) i + 1) : Nat) : Int) by omega]
   exact I
  | false =>
   rw [hq, qa6] at I
   rw [qa6]
   exact I
theorem qw4 {lf d : Nat} (hlf : 33554432 ≤ lf) (l : List T) (nx n : Int) (hl : l.length ≤ 30) (hE : ∀ j, (entA l j).length ≤ 10) : Cc lf (d + 1) 44 [.st [.sl l, .i .i64 nx], .i .i64 n] = some [.i .i64 ((lnk l n : Nat) : Int)] := by
 have E := f44_eq (Cc lf d) lf l nx n
 unfold f44 f44_t at E
 dsimp only at E
 have L : ∀ (C : Orc) (k i m : Nat), i + k = l.length → k < m → f44_0 C lf m n ((sumTo (lnkJ l n) i : Nat) : Int) (i : Int) l nx = some [T.i .i64 0, T.i .i64 ((lnk l n : Nat) : Int)] := by
  intro C k
  induction k with
  | zero =>
   intro i m hi hm
   obtain ⟨m, rfl⟩ : ∃ z, m = z + 1 := ⟨m - 1, by omega⟩
   rw [f44_0_u]
   unfold f44_0_s
   rw [iLt_f (by omega), show i = l.length by omega]
   rfl
  | succ k ih =>
   intro i m hi hm
   obtain ⟨m, rfl⟩ : ∃ z, m = z + 1 := ⟨m - 1, by omega⟩
   rw [f44_0_u]
   unfold f44_0_s
   have hsum := sumTo_le (qt1 (n := n) hE) i
   have e1 : f44_1 C lf n (i : Int) l nx lf ((sumTo (lnkJ l n) i : Nat) : Int) 0 = some [T.i .i64 0, T.i .i64 n, T.i .i64 ((sumTo (lnkJ l n) (i + 1) : Nat) : Int), T.i .i64 (i : Int), T.sl l, T.i .i64 nx] := by
    simp only [sumTo]
    unfold lnkJ
    by_cases hk : kndA l i = 2
    ·rw [if_pos hk]
     exact qyh C (lf := lf) l nx n i (by omega) hk (hE i) _ (by unfold lnkJ at hsum; omega) (entA l i).length 0 lf (by omega) (by have := hE i; omega)
    ·rw [if_neg hk]
     obtain ⟨m2, hm2⟩ : ∃ z, lf = z + 1 := ⟨lf - 1, by omega⟩
     have : ∀ (x : Int) m2, f44_1 C lf n (i : Int) l nx (m2 + 1) x 0 = some [T.i .i64 0, T.i .i64 n, T.i .i64 x, T.i .i64 (i : Int), T.sl l, T.i .i64 nx] := fun x m2 => by
      rw [f44_1_u]
      unfold f44_1_s
      simp only [Int.toNat_natCast]
      rw [qa1 (show i < l.length by omega), show asI (T.cell (l.getD i T.u) 1) = kndA l i from rfl, show (kndA l i == 2) = false by simpa using hk, qa6, qa0, qa0, qmr]
     have h := this ((sumTo (fun j => if kndA l j = 2 then cntB (fun k => entI (entA l j) k == n) (entA l j).length else 0) i : Nat) : Int) m2
     rw [← hm2] at h
     exact h
   rw [iLt_t (by omega)]
   dsimp only
   rw [e1]
   simp only [qa0, Option.bind_some, nth0, nthS, asI_i, asL_l]
   rw [qa4 (show i < l.length by omega) (by omega)]
   exact ih (i + 1) m (by omega) (by omega)
 have h := L (Cc lf d) l.length 0 lf (by omega) (by omega)
 rw [show ((sumTo (lnkJ l n) 0 : Nat) : Int) = 0 from rfl, show ((0 : Nat) : Int) = 0 from rfl] at h
 rw [h] at E
 exact E
theorem qwb {lf d : Nat} (hlf : 33554432 ≤ lf) (l : List T) (nx n : Int) (hl : l.length ≤ 30) (hE : ∀ j, (entA l j).length ≤ 10) : Cc lf (d + 1) 51 [.st [.sl l, .i .i64 nx], .i .i64 n] = some [.i .i64 ((lnk l n : Nat) : Int)] := by
 have E := f51_eq (Cc lf d) lf l nx n
 unfold f51 f51_t at E
 dsimp only at E
 have L : ∀ (C : Orc) (k i m : Nat), i + k = l.length → k < m → f51_0 C lf m n ((sumTo (lnkJ l n) i : Nat) : Int) l (l.length : Int) (i : Int) = some [T.i .i64 0, T.i .i64 ((lnk l n : Nat) : Int)] := by
  intro C k
  induction k with
  | zero =>
   intro i m hi hm
   obtain ⟨m, rfl⟩ : ∃ z, m = z + 1 := ⟨m - 1, by omega⟩
   rw [f51_0_u]
   unfold f51_0_s
   rw [iLt_f (by omega), show i = l.length by omega]
   rfl
  | succ k ih =>
   intro i m hi hm
   obtain ⟨m, rfl⟩ : ∃ z, m = z + 1 := ⟨m - 1, by omega⟩
   rw [f51_0_u]
   unfold f51_0_s
   have hsum := sumTo_le (qt1 (n := n) hE) i
   have I := ih (i + 1) m (by omega) (by omega)
   simp only [Int.toNat_natCast]
   rw [iLt_t (by omega), qa1 (show i < l.length by omega), show asI (T.cell (l.getD i T.u) 1) = kndA l i from rfl, qa4 (show i < l.length by omega) (by omega)]
   simp only [qa0]
   by_cases hk : kndA l i = 2
   ·rw [show (kndA l i != 2) = false by simpa using hk, qa6]
    have e1 := qyo C (lf := lf) l (l.length : Int) n i (hE i) (sumTo (lnkJ l n) i) (by omega) (entA l i).length 0 lf (by omega) (by have := hE i; omega)
    rw [show ((0 : Nat) : Int) = 0 from rfl, show cntB (fun k => entI (entA l i) k == n) 0 = 0 from rfl, Nat.add_zero] at e1
    rw [e1]
    simp only [Option.bind_some, nth0, nthS, asI_i, asL_l]
    rw [qa4 (show i < l.length by omega) (by omega)]
    simp only [sumTo] at I
    rw [show lnkJ l n i = cntB (fun k => entI (entA l i) k == n) (entA l i).length by unfold lnkJ; rw [if_pos hk]] at I
    exact I
   ·rw [show (kndA l i != 2) = true by simpa using hk, qa0]
    simp only [sumTo] at I
    rw [show lnkJ l n i = 0 by unfold lnkJ; rw [if_neg hk], Nat.add_zero] at I
    exact I
 have h := L (Cc lf d) l.length 0 lf (by omega) (by omega)
 rw [show ((sumTo (lnkJ l n) 0 : Nat) : Int) = 0 from rfl, show ((0 : Nat) : Int) = 0 from rfl] at h
 rw [h] at E
 exact E
open Classical in
noncomputable def allR (l : List T) : Bool := decide (∀ j, j < l.length → Rch l (inoA l j))
open Classical in
theorem qqb {l : List T} {nx : Int} (h : allB (tbE l nx) l.length = true) {S : List Int} (hn : S.Nodup) (hS : ∀ x, x ∈ S ↔ Rch l x) : (((S.length : Nat) : Int) != ((l.length : Nat) : Int)) = !allR l := by
 have hle := qbp hn fun x hx => ((hS x).1 hx).node
 have hin : (inos l).Nodup := by
  unfold inos List.Nodup
  rw [List.pairwise_map]
  refine List.pairwise_iff_getElem.2 fun i j h1 h2 h3 e => ?_
  simp only [List.length_range] at h1 h2
  simp only [List.getElem_range] at e
  have := qrz h h1 h2 e
  omega
 by_cases c : ∀ j, j < l.length → Rch l (inoA l j)
 ·have : (inos l).length ≤ S.length := qee (inos l) hin fun x hx => by
   obtain ⟨j, hj, rfl⟩ := List.mem_map.1 hx
   exact (hS _).2 (c j (List.mem_range.1 hj))
  have e : S.length = l.length := by
   have : (inos l).length = l.length := by simp [inos]
   omega
  have hA : allR l = true := decide_eq_true c
  rw [e, hA]
  simp
 ·have hA : allR l = false := decide_eq_false c
  have : S.length ≠ l.length := fun e => c fun j hj => Classical.byContradiction fun hno => by
   have := qee (inoA l j :: S) (B := inos l) (List.nodup_cons.2 ⟨fun hm => hno ((hS _).1 hm), hn⟩) fun y hy => by
    rcases List.mem_cons.1 hy with h1 | h1
    ·rw [h1]; exact List.mem_map.2 ⟨j, List.mem_range.2 hj, rfl⟩
    ·exact qpl ((hS y).1 h1).node
   simp [inos] at this
   omega
  rw [hA]
  simp
  omega
def treeE (l : List T) (j : Nat) : Bool := lnkA l j == ((lnk l (inoA l j) : Nat) : Int) && allB (fun k => (plc l (entI (entA l j) k)).isSome) (entA l j).length
noncomputable def treeB (l : List T) (nx : Int) : Bool := tabB l nx && (allR l && allB (treeE l) l.length)
theorem qkh {l : List T} {nx : Int} (h : tabB l nx = true) : l.length ≤ 30 ∧ allB (tbE l nx) l.length = true ∧ ∀ j, (entA l j).length ≤ 10 := by
 unfold tabB at h
 simp only [Bool.and_eq_true, qe2] at h
 refine ⟨by omega, h.2.2.1, fun j => ?_⟩
 by_cases hj : j < l.length
 ·have := qry h.2.2.1 hj
  unfold qdt qgy entsB at this
  simp only [Bool.and_eq_true, qe2] at this
  omega
 ·unfold entA
  rw [List.getD_eq_getElem?_getD, List.getElem?_eq_none (by omega)]
  exact Nat.zero_le _
theorem qp7 (C : Orc) (g lf : Nat) {F : Nat → Int → Option (List T)} {l : List T} {nx : Int} {j : Nat} {Y : Option (List T)} (hle : (entA l j).length ≤ 10) (hC : ∀ x, C g [.st [.sl l, .i .i64 nx], .i .i64 x] = some [.i .i64 (plcI (plc l x))])
 (hF : ∀ n (k : Nat), k < (entA l j).length → F (n + 1) (k : Int) = (C g [.st [.sl l, .i .i64 nx], .i .i64 (entI (entA l j) k)]).bind fun r => bif iLt (asI (nth r 0)) 0 then some [T.i .i64 0, T.b false] else F n (IntKind.wrap .i64 ((k : Int) + 1)))
 (hE : ∀ n, F (n + 1) ((entA l j).length : Int) = Y) (hlf : 33554432 ≤ lf) : F lf 0 = bif allB (fun k => (plc l (entI (entA l j) k)).isSome) (entA l j).length then Y else some [T.i .i64 0, T.b false] :=
 qav (fun n k hk => by
  rw [hF n k hk, hC, qa4 hk (by omega)]
  simp only [Option.bind_some, nth0, asI_i]
  rw [qfd]
  cases plc l (entI (entA l j) k) <;> rfl) hE (by omega)
theorem qqp (C : Orc) {lf : Nat} (hlf : 33554432 ≤ lf) (l : List T) (nx : Int) (hl : l.length ≤ 30) (hE : ∀ j, (entA l j).length ≤ 10) (hC : ∀ x, C 45 [.st [.sl l, .i .i64 nx], .i .i64 x] = some [.i .i64 (plcI (plc l x))])
 (hL : ∀ n, C 44 [.st [.sl l, .i .i64 nx], .i .i64 n] = some [.i .i64 ((lnk l n : Nat) : Int)]) : f17_0 C lf lf 0 l nx = bif allB (treeE l) l.length then some [T.i .i64 1] else some [T.i .i64 0, T.b false] :=
 qav (F := fun n j => f17_0 C lf n j l nx) (fun n j hj => by
  rw [f17_0_u]
  unfold f17_0_s
  dsimp only
  have e := qp7 (F := fun n k => f17_1 C lf (j : Int) l nx n k) C 45 lf (l := l) (nx := nx) (j := j) (Y := some [T.i .i64 1, T.i .i64 (j : Int), T.sl l, T.i .i64 nx]) (hE j) hC (fun n k hk => by
   rw [f17_1_u]
   unfold f17_1_s
   simp only [Int.toNat_natCast]
   rw [show asL (T.cell (l.getD j T.u) 4) = entA l j from rfl, iLt_t (by omega), qa1 hk]
   rfl) (fun n => by
   rw [f17_1_u]
   unfold f17_1_s
   simp only [Int.toNat_natCast]
   rw [show asL (T.cell (l.getD j T.u) 4) = entA l j from rfl, iLt_f (by omega)]
   rfl) hlf
  rw [iLt_t (by omega), qa1 hj, hL, e]
  simp only [Int.toNat_natCast, qa0, Option.bind_some, nth0, asI_i]
  unfold treeE
  rw [show asI (T.cell (l.getD j T.u) 0) = inoA l j from rfl, show asI (T.cell (l.getD j T.u) 2) = lnkA l j from rfl]
  by_cases c : lnkA l j = ((lnk l (inoA l j) : Nat) : Int)
  ·rw [c]
   simp only [bne_self_eq_false, qa6, beq_self_eq_true, Bool.true_and]
   cases allB (fun k => (plc l (entI (entA l j) k)).isSome) (entA l j).length with
   | true =>
    simp only [qa0, Option.bind_some, nth0, nthS, asI_i, asL_l]
    rw [qa4 hj (by omega)]
    rfl
   | false => rfl
  ·rw [show (((lnk l (inoA l j) : Nat) : Int) != lnkA l j) = true by simpa using Ne.symm c, show (lnkA l j == ((lnk l (inoA l j) : Nat) : Int)) = false by simpa using c]
   rfl) (fun n => by
  rw [f17_0_u]
  unfold f17_0_s
  rw [iLt_f (by omega)]
  rfl) (by omega)
theorem qr5 (C : Orc) {lf : Nat} (hlf : 33554432 ≤ lf) (l : List T) (nx : Int) (hl : l.length ≤ 30) (hE : ∀ j, (entA l j).length ≤ 10) (hC : ∀ x, C 52 [.st [.sl l, .i .i64 nx], .i .i64 x] = some [.i .i64 (plcI (plc l x))])
 (hL : ∀ n, C 51 [.st [.sl l, .i .i64 nx], .i .i64 n] = some [.i .i64 ((lnk l n : Nat) : Int)]) : f22_0 C lf lf l (l.length : Int) 0 l nx = bif allB (treeE l) l.length then some [T.i .i64 1] else some [T.i .i64 0, T.b false] :=
 qav (F := fun n j => f22_0 C lf n l (l.length : Int) j l nx) (fun n j hj => by
  rw [f22_0_u]
  unfold f22_0_s
  dsimp only
  have e := qp7 (F := fun n k => f22_1 C lf l (l.length : Int) (j : Int) l nx n k) C 52 lf (l := l) (nx := nx) (j := j) (Y := some [T.i .i64 1, T.sl l, T.i .i64 (l.length : Int), T.i .i64 (j : Int), T.sl l, T.i .i64 nx]) (hE j) hC (fun n k hk => by
   rw [f22_1_u]
   unfold f22_1_s
   simp only [Int.toNat_natCast]
   rw [show asL (T.cell (l.getD j T.u) 4) = entA l j from rfl, iLt_t (by omega), qa1 hk]
   rfl) (fun n => by
   rw [f22_1_u]
   unfold f22_1_s
   simp only [Int.toNat_natCast]
   rw [show asL (T.cell (l.getD j T.u) 4) = entA l j from rfl, iLt_f (by omega)]
   rfl) hlf
  rw [iLt_t (by omega), qa1 hj, hL, e]
  simp only [Int.toNat_natCast, qa0, Option.bind_some, nth0, asI_i]
  unfold treeE
  rw [show asI (T.cell (l.getD j T.u) 0) = inoA l j from rfl, show asI (T.cell (l.getD j T.u) 2) = lnkA l j from rfl]
  by_cases c : lnkA l j = ((lnk l (inoA l j) : Nat) : Int)
  ·rw [c]
   simp only [bne_self_eq_false, qa6, beq_self_eq_true, Bool.true_and]
   cases allB (fun k => (plc l (entI (entA l j) k)).isSome) (entA l j).length with
   | true =>
    simp only [qa0, Option.bind_some, nth0, nthS, asI_i, asL_l]
    rw [qa4 hj (by omega)]
    rfl
   | false => rfl
  ·rw [show (lnkA l j != ((lnk l (inoA l j) : Nat) : Int)) = true by simpa using c, show (lnkA l j == ((lnk l (inoA l j) : Nat) : Int)) = false by simpa using c]
   rfl) (fun n => by
  rw [f22_0_u]
  unfold f22_0_s
  rw [iLt_f (by omega)]
  rfl) (by omega)
theorem qmu {lf d : Nat} (hlf : 33554432 ≤ lf) (l : List T) (nx : Int) (hs : l.length + tls l ≤ 16777216) : Cc lf (d + 6) 17 [.st [.sl l, .i .i64 nx]] = some [.b (treeB l nx)] := by
 have E := f17_eq (Cc lf (d + 5)) lf l nx
 unfold f17 f17_t at E
 dsimp only at E
 rw [qw0 (d := d) hlf l nx hs] at E
 simp only [Option.bind_some, nth0, asB_b] at E
 refine E.trans ?_
 unfold treeB
 cases hT : tabB l nx with
 | false => rfl
 | true =>
  obtain ⟨hl, hA, hE⟩ := qkh hT
  obtain ⟨S, eS, hn, hS⟩ := qra (d := d + 1) hlf l nx hs hl
  rw [eS, qqp (Cc lf (d + 5)) hlf l nx hl hE (fun x => c_sAt (d := d + 4) hlf l nx x (by omega)) (fun n => qw4 (d := d + 4) hlf l nx n hl hE)]
  simp only [Option.bind_some, nth0, asL_l, Bool.not_true, qa6, qbk]
  rw [qqb hA hn hS]
  cases allR l with
  | false => rfl
  | true => cases allB (treeE l) l.length <;> rfl
theorem qmv {lf d : Nat} (hlf : 33554432 ≤ lf) (l : List T) (nx : Int) (hs : l.length + tls l ≤ 16777216) : Cc lf (d + 6) 22 [.st [.sl l, .i .i64 nx]] = some [.b (treeB l nx)] := by
 have E := f22_eq (Cc lf (d + 5)) lf l nx
 unfold f22 f22_t at E
 dsimp only at E
 rw [qw8 (d := d) hlf l nx hs] at E
 simp only [Option.bind_some, nth0, asB_b] at E
 refine E.trans ?_
 unfold treeB
 cases hT : tabB l nx with
 | false => rfl
 | true =>
  obtain ⟨hl, hA, hE⟩ := qkh hT
  obtain ⟨S, eS, hn, hS⟩ := qrg (d := d + 1) hlf l nx hs hl hE
  rw [eS, qr5 (Cc lf (d + 5)) hlf l nx hl hE (fun x => qq4 (d := d + 4) hlf l nx x (by omega)) (fun n => qwb (d := d + 4) hlf l nx n hl hE)]
  simp only [Option.bind_some, nth0, asL_l, Bool.not_true, qa6, qbk]
  rw [qqb hA hn hS]
  cases allR l with
  | false => rfl
  | true => cases allB (treeE l) l.length <;> rfl
theorem qmt (P : Nat → Bool) (n : Nat) : cntB P (n + 1) = bif P n then cntB P n + 1 else cntB P n := rfl
theorem qld {P : Nat → Bool} {k : Nat} (hP : P k = true) : ∀ {n : Nat}, k < n → 1 ≤ cntB P n
 | 0, h => by omega
 | n + 1, h => by
  rw [qmt]
  by_cases c : k = n
  ·rw [← c, hP]; simp
  ·have := qld hP (n := n) (by omega)
   cases P n <;> simp <;> omega
theorem qq0 {P : Nat → Bool} {k k' : Nat} (hP : P k = true) (hP' : P k' = true) (hk : k < k') : ∀ {n : Nat}, k' < n → 2 ≤ cntB P n
 | 0, h => by omega
 | n + 1, h => by
  rw [qmt]
  by_cases c : k' = n
  ·rw [← c, hP']
   have := qld hP (n := k') hk
   simp; omega
  ·have := qq0 hP hP' hk (n := n) (by omega)
   cases P n <;> simp <;> omega
theorem qki {f : Nat → Nat} {i : Nat} : ∀ {n : Nat}, i < n → f i ≤ sumTo f n
 | 0, h => by omega
 | n + 1, h => by
  by_cases c : i = n
  ·rw [c]; simp only [sumTo]; omega
  ·have := qki (f := f) (i := i) (n := n) (by omega); simp only [sumTo]; omega
theorem qhr {f : Nat → Nat} {i j : Nat} (hij : i < j) : ∀ {n : Nat}, j < n → f i + f j ≤ sumTo f n
 | 0, h => by omega
 | n + 1, h => by
  by_cases c : j = n
  ·have := qki (f := f) (i := i) (n := n) (by omega); rw [c]; simp only [sumTo]; omega
  ·have := qhr (f := f) hij (n := n) (by omega); simp only [sumTo]; omega
structure Tre (l : List T) : Prop where
 hl : l.length ≤ 30
 h1 : 1 ≤ l.length
 nx : ∃ nx, allB (tbE l nx) l.length = true
 hE : ∀ j, (entA l j).length ≤ 10
 root : inoA l 0 = 1 ∧ kndA l 0 = 2
 ge2 : ∀ j k, j < l.length → k < (entA l j).length → 2 ≤ entI (entA l j) k
 leaf : ∀ j, j < l.length → kndA l j ≠ 2 → entA l j = []
 uniq : ∀ i k i' k' y, i < l.length → i' < l.length → y < l.length → kndA l i = 2 → kndA l i' = 2 → kndA l y = 2 → k < (entA l i).length → k' < (entA l i').length → entI (entA l i) k = inoA l y → entI (entA l i') k' = inoA l y → i = i' ∧ k = k'
 ent : ∀ j k, j < l.length → k < (entA l j).length → isN l (entI (entA l j) k)
 name : ∀ j k, j < l.length → k < (entA l j).length → (entN (entA l j) k).size ≤ 14
theorem qrw {l : List T} {nx : Int} (h : treeB l nx = true) : Tre l := by
 unfold treeB at h
 simp only [Bool.and_eq_true] at h
 obtain ⟨hT, _, hTE⟩ := h
 obtain ⟨hl, hA, hE⟩ := qkh hT
 unfold tabB at hT
 simp only [Bool.and_eq_true, qe2, beq_iff_eq] at hT
 have hI : ∀ j, j < l.length → ((lnkA l j == 0) = (inoA l j == 1)) ∧ (∀ k, k < (entA l j).length → entB (entA l j) k = true) ∧ (bif kndA l j == 1 then (((entA l j).length : Int) == 0) else bif kndA l j == 2 then (((datA l j).length : Int) == 0) && iLe (lnkA l j) 1 else false) = true := fun j hj => by
  have := qry hA hj
  unfold qdt qgy entsB at this
  simp only [Bool.and_eq_true] at this
  obtain ⟨_, _, a3, _, a5, _, a7⟩ := this
  exact ⟨by simpa using a3, qb9.1 a5.1, a7⟩
 refine ⟨hl, by omega, ⟨nx, hA⟩, hE, hT.2.2.2, fun j k hj hk => ?_, fun j hj hk => ?_, fun i k i' k' y hi hi' hy d1 d2 d3 hk hk' e e' => ?_, fun j k hj hk => ?_, fun j k hj hk => ?_⟩
 ·have := (hI j hj).2.1 k hk
  unfold entB at this
  simp only [Bool.and_eq_true, qe2] at this
  exact this.2.1.1
 ·have := (hI j hj).2.2
  cases c : kndA l j == 1 with
  | true =>
   rw [c, qa0] at this
   have h0 : ((entA l j).length : Int) = 0 := by simpa using this
   exact List.length_eq_zero_iff.1 (by omega)
  | false =>
   rw [c, qa6, show (kndA l j == 2) = false by simpa using hk] at this
   cases this
 ·have hy1 : lnk l (inoA l y) ≤ 1 := by
   have h1 := (hI y hy).2.2
   rw [show (kndA l y == 1) = false by rw [d3]; rfl, qa6, show (kndA l y == 2) = true by rw [d3]; rfl, qa0, Bool.and_eq_true, qe2] at h1
   have h2 := qb9.1 hTE y hy
   unfold treeE at h2
   rw [Bool.and_eq_true, beq_iff_eq] at h2
   omega
  have f1 : ∀ {i k : Nat}, kndA l i = 2 → k < (entA l i).length → entI (entA l i) k = inoA l y → 1 ≤ lnkJ l (inoA l y) i := fun {i k} d hk e => by
   unfold lnkJ
   rw [if_pos d]
   exact qld (k := k) (by simpa using e) hk
  unfold lnk at hy1
  have hii : i = i' := by
   rcases Nat.lt_trichotomy i i' with c | c | c
   ·have := qhr (f := lnkJ l (inoA l y)) c hi'
    have := f1 d1 hk e
    have := f1 d2 hk' e'
    omega
   ·exact c
   ·have := qhr (f := lnkJ l (inoA l y)) c hi
    have := f1 d1 hk e
    have := f1 d2 hk' e'
    omega
  subst hii
  refine ⟨rfl, ?_⟩
  have hs := qki (f := lnkJ l (inoA l y)) hi
  have g : ∀ {k k' : Nat}, k < k' → k' < (entA l i).length → entI (entA l i) k = inoA l y → entI (entA l i) k' = inoA l y → False := fun {k k'} c hk' e e' => by
   have : 2 ≤ lnkJ l (inoA l y) i := by
    unfold lnkJ
    rw [if_pos d1]
    exact qq0 (k := k) (k' := k') (by simpa using e) (by simpa using e') c hk'
   omega
  rcases Nat.lt_trichotomy k k' with c | c | c
  ·exact (g c hk' e e').elim
  ·exact c
  ·exact (g c hk e' e).elim
 ·have h2 := qb9.1 hTE j hj
  unfold treeE at h2
  rw [Bool.and_eq_true] at h2
  exact qv7.1 (qb9.1 h2.2 k hk)
 ·have := (hI j hj).2.1 k hk
  unfold entB at this
  rw [Bool.and_eq_true] at this
  have h1 := this.1
  unfold nameB at h1
  simp only [Bool.and_eq_true, qe2] at h1
  have h2 : (((entN (entA l j) k).size : Nat) : Int) ≤ 14 := h1.2.1.2
  omega
def entO (l : List T) (x : Int) : List T := match plc l x with | some j => entA l j | none => []
def isD (l : List T) (x : Int) : Bool := match plc l x with | some j => kndA l j == 2 | none => false
def slh : ByteArray := ⟨#[47]⟩
def pthG (rec : Int → ByteArray → Option (List ByteArray)) (E : List T) (p : ByteArray) : Nat → Nat → Option (List ByteArray)
 | 0, _ => some []
 | k + 1, i => match rec (entI E i) (p ++ slh ++ entN E i) with
  | none => none
  | some L => match pthG rec E p k (i + 1) with
   | none => none
   | some L' => some ((p ++ slh ++ entN E i) :: (L ++ L'))
def pthF (l : List T) : Nat → List T → ByteArray → Option (List ByteArray)
 | 0, _, _ => none
 | f + 1, E, p => pthG (fun x q => pthF l f (entO l x) q) E p E.length 0
def cntP (l : List T) : Nat → Int → Nat
 | 0, _ => 0
 | f + 1, x => ((List.range (entO l x).length).map fun k => 1 + cntP l f (entI (entO l x) k)).sum
theorem qp4 {rec : Int → ByteArray → Option (List ByteArray)} {g : Int → Nat} {E : List T} {p : ByteArray} (hr : ∀ x q L, rec x q = some L → L.length = g x) : ∀ {k i : Nat} {L : List ByteArray}, pthG rec E p k i = some L → L.length = ((List.range k).map fun t => 1 + g (entI E (i + t))).sum
 | 0, i, L, h => by cases h; rfl
 | k + 1, i, L, h => by
  simp only [pthG] at h
  cases e1 : rec (entI E i) (p ++ slh ++ entN E i) with
  | none => rw [e1] at h; cases h
  | some L1 =>
   rw [e1] at h
   simp only at h
   cases e2 : pthG rec E p k (i + 1) with
   | none => rw [e2] at h; cases h
   | some L2 =>
    rw [e2] at h
    cases h
    have h1 := hr _ _ _ e1
    have h2 := qp4 hr e2
    rw [List.range_succ_eq_map, List.map_cons, List.sum_cons, List.map_map]
    simp only [List.length_cons, List.length_append, Nat.add_zero]
    rw [h1, h2]
    have : ((List.range k).map fun t => 1 + g (entI E (i + 1 + t))) = (List.range k).map ((fun t => 1 + g (entI E (i + t))) ∘ Nat.succ) := List.map_congr_left fun t _ => by
     show 1 + g (entI E (i + 1 + t)) = 1 + g (entI E (i + (t + 1)))
     rw [show i + 1 + t = i + (t + 1) by omega]
    rw [this]
    omega
theorem qp5 (l : List T) : ∀ {f : Nat} {x : Int} {p : ByteArray} {L : List ByteArray}, pthF l f (entO l x) p = some L → L.length = cntP l f x
 | 0, x, p, L, h => by cases h
 | f + 1, x, p, L, h => by
  have := qp4 (g := cntP l f) (fun y q L' h' => qp5 l h') h
  rw [this]
  simp only [cntP, Nat.zero_add]
def chd (l : List T) (x : Int) : List Int := (List.range (entO l x).length).map (entI (entO l x))
theorem qvz (l : List T) (f : Nat) (x : Int) : cntP l (f + 1) x = (chd l x).length + ((chd l x).map (cntP l f)).sum := by
 simp only [cntP]
 unfold chd
 generalize (entO l x).length = n
 rw [List.length_map, List.length_range, List.map_map]
 induction n with
 | zero => rfl
 | succ n ih =>
  rw [List.range_succ, List.map_append, List.map_append, List.sum_append, List.sum_append, ih]
  simp
  omega
theorem qpr (l : List T) (f : Nat) : ∀ S : List Int, (S.map (cntP l (f + 1))).sum = (S.flatMap (chd l)).length + ((S.flatMap (chd l)).map (cntP l f)).sum
 | [] => rfl
 | x :: S => by
  rw [List.map_cons, List.sum_cons, qpr l f S, qvz, List.flatMap_cons, List.length_append, List.map_append, List.sum_append]
  omega
theorem qu1 {l : List T} (H : Tre l) (f : Nat) {x : Int} (h : isD l x = false) : cntP l f x = 0 := by
 cases f with
 | zero => rfl
 | succ f =>
  have : entO l x = [] := by
   unfold entO isD at *
   cases e : plc l x with
   | none => rfl
   | some j =>
    rw [e] at h
    exact H.leaf j (qbo e).1 (by simpa using h)
  simp only [cntP, this]
  rfl
theorem qk5 {l : List T} (H : Tre l) (f : Nat) : ∀ S : List Int, (S.map (cntP l f)).sum = ((S.filter (isD l)).map (cntP l f)).sum
 | [] => rfl
 | x :: S => by
  rw [List.map_cons, List.sum_cons, qk5 H f S]
  cases h : isD l x with
  | true => rw [List.filter_cons_of_pos h, List.map_cons, List.sum_cons]
  | false => rw [List.filter_cons_of_neg (by simp [h]), qu1 H f h, Nat.zero_add]
theorem qef {l : List T} {x : Int} (h : isD l x = true) : ∃ j, plc l x = some j ∧ kndA l j = 2 := by
 unfold isD at h
 cases e : plc l x with
 | none => rw [e] at h; cases h
 | some j => rw [e] at h; exact ⟨j, rfl, by simpa using h⟩
theorem qxy {l : List T} (H : Tre l) (x : Int) : (chd l x).length ≤ 10 := by
 unfold chd entO
 rw [List.length_map, List.length_range]
 cases plc l x with
 | none => exact Nat.zero_le _
 | some j => exact H.hE j
theorem qps {l : List T} (H : Tre l) : ∀ S : List Int, (S.flatMap (chd l)).length ≤ 10 * S.length
 | [] => Nat.zero_le _
 | x :: S => by
  have := qps H S
  have := qxy H x
  rw [List.flatMap_cons, List.length_append, List.length_cons]
  omega
theorem qu3 {l : List T} {x y : Int} {j : Nat} (e : plc l x = some j) (h : y ∈ chd l x) : ∃ k, k < (entA l j).length ∧ entI (entA l j) k = y := by
 unfold chd entO at h
 rw [e] at h
 obtain ⟨k, hk, e'⟩ := List.mem_map.1 h
 exact ⟨k, List.mem_range.1 hk, e'⟩
theorem qqt {l : List T} (H : Tre l) {S : List Int} (hn : S.Nodup) (hD : ∀ x ∈ S, isD l x = true) : ((S.flatMap (chd l)).filter (isD l)).Nodup := by
 obtain ⟨nx, hA⟩ := H.nx
 unfold List.Nodup
 rw [List.pairwise_filter, List.pairwise_flatMap]
 refine ⟨fun x hx => ?_, ?_⟩
 ·obtain ⟨j, hj, hk⟩ := qef (hD x hx)
  unfold chd entO
  rw [hj]
  simp only
  rw [List.pairwise_map]
  refine List.pairwise_iff_getElem.2 fun a b h1 h2 h3 d1 d2 e => ?_
  simp only [List.length_range] at h1 h2
  simp only [List.getElem_range] at e d1 d2
  obtain ⟨y, hy, hk2⟩ := qef d1
  obtain ⟨hy1, hy2⟩ := qbo hy
  have := (H.uniq j a j b y (qbo hj).1 (qbo hj).1 hy1 hk hk hk2 h1 h2 hy2.symm (by rw [← e]; exact hy2.symm)).2
  omega
 ·refine hn.imp_of_mem fun {x x'} hx hx' hne y hy y' hy' d1 d2 e => hne ?_
  subst e
  obtain ⟨j, hj, hk⟩ := qef (hD x hx)
  obtain ⟨j', hj', hk'⟩ := qef (hD x' hx')
  obtain ⟨k, h1, h2⟩ := qu3 hj hy
  obtain ⟨k', h1', h2'⟩ := qu3 hj' hy'
  obtain ⟨z, hz, hk2⟩ := qef d1
  obtain ⟨hz1, hz2⟩ := qbo hz
  have := (H.uniq j k j' k' z (qbo hj).1 (qbo hj').1 hz1 hk hk' hk2 h1 h1' (h2.trans hz2.symm) (h2'.trans hz2.symm)).1
  rw [← (qbo hj).2, ← (qbo hj').2, this]
theorem qms {l : List T} (H : Tre l) : ∀ (f : Nat) (S : List Int), S.Nodup → (∀ x ∈ S, isD l x = true) → (S.map (cntP l f)).sum ≤ 300 * f
 | 0, S, _, _ => by
  have : ∀ S : List Int, (S.map (cntP l 0)).sum = 0 := fun S => by
   induction S with
   | nil => rfl
   | cons x S ih => rw [List.map_cons, List.sum_cons, ih]; rfl
  rw [this]; omega
 | f + 1, S, hn, hD => by
  rw [qpr, qk5 H]
  have h1 := qms H f _ (qqt H hn hD) (fun x hx => (List.mem_filter.1 hx).2)
  have h2 := qps H S
  have h3 := qbp hn fun x hx => by obtain ⟨j, hj, _⟩ := qef (hD x hx); exact ⟨j, hj⟩
  have h4 := H.hl
  omega
inductive Stk (l : List T) : List Nat → Prop
 | root : Stk l [0]
 | push {x y k : Nat} {s : List Nat} (h : Stk l (x :: s)) (hx : x < l.length) (hd : kndA l x = 2) (hk : k < (entA l x).length) (e : entI (entA l x) k = inoA l y) : Stk l (y :: x :: s)
theorem qxa {l : List T} : ∀ {t : List Nat}, Stk l t → ∀ {y : Nat}, y ∈ t → y = 0 ∨ ∃ z k, z ∈ t.tail ∧ z < l.length ∧ kndA l z = 2 ∧ k < (entA l z).length ∧ entI (entA l z) k = inoA l y := by
 intro t h
 induction h with
 | root => intro y hy; exact .inl (by simpa using hy)
 | push h hx hd hk e ih =>
  rename_i x y' k s
  intro y hy
  rcases List.mem_cons.1 hy with c | c
  ·subst c; exact .inr ⟨x, k, by simp, hx, hd, hk, e⟩
  ·rcases ih c with c' | ⟨z, k', h1, h2⟩
   ·exact .inl c'
   ·exact .inr ⟨z, k', List.mem_of_mem_tail h1, h2⟩
theorem qm2 {A : List Nat} {n : Nat} (hn : A.Nodup) (h : ∀ x ∈ A, x < n) : A.length ≤ n := by
 have := qee (A.map fun x : Nat => (x : Int)) (B := (List.range n).map fun x : Nat => (x : Int)) (by
  unfold List.Nodup at *
  rw [List.pairwise_map]
  exact hn.imp fun h e => h (by omega)) fun y hy => by
   obtain ⟨x, hx, rfl⟩ := List.mem_map.1 hy
   exact List.mem_map.2 ⟨x, List.mem_range.2 (h x hx), rfl⟩
 simpa using this
theorem qlz {rec : Int → ByteArray → Option (List ByteArray)} {E : List T} {p : ByteArray} : ∀ {k i : Nat}, (∀ t, i ≤ t → t < i + k → ∀ q, ∃ L, rec (entI E t) q = some L) → ∃ L, pthG rec E p k i = some L
 | 0, i, _ => ⟨[], rfl⟩
 | k + 1, i, h => by
  obtain ⟨L, e⟩ := h i (Nat.le_refl _) (by omega) (p ++ slh ++ entN E i)
  obtain ⟨L', e'⟩ := qlz (rec := rec) (E := E) (p := p) (k := k) (i := i + 1) fun t h1 h2 => h t (by omega) (by omega)
  exact ⟨(p ++ slh ++ entN E i) :: (L ++ L'), by simp only [pthG, e, e']⟩
theorem qp2 {l : List T} (H : Tre l) : ∀ (f : Nat) (x : Nat) (s : List Nat) (p : ByteArray), Stk l (x :: s) → (x :: s).Nodup → (∀ y ∈ x :: s, y < l.length) → kndA l x = 2 → 32 ≤ f + (x :: s).length → ∃ L, pthF l f (entA l x) p = some L
 | 0, x, s, p, hS, hn, hlt, hd, hf => by
  have := qm2 hn hlt
  have := H.hl
  omega
 | f + 1, x, s, p, hS, hn, hlt, hd, hf => by
  have hx := hlt x (by simp)
  obtain ⟨nx, hA⟩ := H.nx
  refine qlz fun t _ ht q => ?_
  rw [Nat.zero_add] at ht
  obtain ⟨y, hy⟩ := H.ent x t hx ht
  obtain ⟨hy1, hy2⟩ := qbo hy
  have hlen := qm2 hn hlt
  have hle := H.hl
  have e1 : entO l (entI (entA l x) t) = entA l y := by unfold entO; rw [hy]
  rw [e1]
  by_cases hk : kndA l y = 2
  ·have hnot : ¬ y ∈ x :: s := fun hm => by
    rcases qxa hS hm with c | ⟨z, k, h1, h2, h3, h4, h5⟩
    ·subst c
     have := H.ge2 x t hx ht
     rw [← hy2, H.root.1] at this
     omega
    ·have := (H.uniq z k x t y h2 hx hy1 h3 hd hk h4 ht h5 hy2.symm).1
     subst this
     exact (List.nodup_cons.1 hn).1 h1
   exact qp2 H f y (x :: s) q (.push hS hx hd ht hy2.symm) (List.nodup_cons.2 ⟨hnot, hn⟩) (fun z hz => by
    rcases List.mem_cons.1 hz with c | c
    ·rw [c]; exact hy1
    ·exact hlt z c) hk (by simp only [List.length_cons] at hf ⊢; omega)
  ·rw [H.leaf y hy1 hk]
   obtain ⟨f, rfl⟩ : ∃ z, f = z + 1 := ⟨f - 1, by simp only [List.length_cons] at hf hlen; omega⟩
   exact ⟨[], rfl⟩
theorem qjc {l : List T} (H : Tre l) : ∃ L, pthF l 32 (entA l 0) ⟨#[]⟩ = some L ∧ L.length ≤ 9600 := by
 obtain ⟨nx, hA⟩ := H.nx
 have h0 : plc l 1 = some 0 := by rw [← H.root.1]; exact qhp hA (by have := H.h1; omega)
 obtain ⟨L, e⟩ := qp2 H 32 0 [] ⟨#[]⟩ .root (by simp) (fun y hy => by
  obtain rfl : y = 0 := by simpa using hy
  exact H.h1) H.root.2 (by simp)
 have e1 : entO l 1 = entA l 0 := by unfold entO; rw [h0]
 refine ⟨L, e, ?_⟩
 rw [← e1] at e
 rw [qp5 l e]
 have := qms H 32 [1] (by simp) (fun x hx => by
  obtain rfl : x = 1 := by simpa using hx
  unfold isD; rw [h0]; simp [H.root.2])
 simpa using this
abbrev TS (L : List ByteArray) : List T := L.map T.s
theorem qqc (L : List ByteArray) : (TS L).length = L.length := List.length_map ..
theorem qe9 (a b : ByteArray) : (a ++ b).size = a.size + b.size := ByteArray.size_append
theorem qsf {rec : Int → ByteArray → Option (List ByteArray)} {E : List T} {p : ByteArray} {k i : Nat} {L1 L2 : List ByteArray} (h : pthG rec E p (k + 1) i = some L2) (h1 : rec (entI E i) (p ++ slh ++ entN E i) = some L1) : ∃ L', pthG rec E p k (i + 1) = some L' ∧ L2 = (p ++ slh ++ entN E i) :: (L1 ++ L') := by
 simp only [pthG, h1] at h
 cases e : pthG rec E p k (i + 1) with
 | none => rw [e] at h; cases h
 | some L' => rw [e] at h; cases h; exact ⟨L', rfl, rfl⟩
theorem qks {rec : Int → ByteArray → Option (List ByteArray)} {E : List T} {p : ByteArray} {k i : Nat} {L2 : List ByteArray} (h : pthG rec E p (k + 1) i = some L2) : ∃ L1 L', rec (entI E i) (p ++ slh ++ entN E i) = some L1 ∧ pthG rec E p k (i + 1) = some L' ∧ L2 = (p ++ slh ++ entN E i) :: (L1 ++ L') := by
 cases e : rec (entI E i) (p ++ slh ++ entN E i) with
 | none => simp only [pthG, e] at h; cases h
 | some L1 => obtain ⟨L', h1, h2⟩ := qsf h e; exact ⟨L1, L', rfl, h1, h2⟩
theorem qmk {l : List T} (hs : l.length + tls l ≤ 16777216) {E : List T} (hE : ∃ x, E = entO l x) {i : Nat} (hi : i < E.length) : (entN E i).size ≤ 16777216 := by
 obtain ⟨x, rfl⟩ := hE
 unfold entO at *
 cases e : plc l x with
 | none => rw [e] at hi; exact absurd hi (by simp)
 | some j =>
  rw [e] at hi
  simp only at hi ⊢
  have h1 := qbt (l := l) (j := j) 4
  have h2 := qfy (l := entA l j) (j := i) 0
  unfold entA at h2 ⊢
  unfold entN
  omega
theorem qtq {l : List T} (hs : l.length + tls l ≤ 16777216) {E : List T} (hE : ∃ x, E = entO l x) : E.length ≤ 16777216 := by
 obtain ⟨x, rfl⟩ := hE
 unfold entO
 cases plc l x with
 | none => exact Nat.zero_le _
 | some j => have h1 := qbt (l := l) (j := j) 4; unfold entA; simp only; omega
theorem qfk (l : List T) (x : Int) : asL (T.cell (nth (inoR l (plc l x)) 0) 4) = entO l x := by
 unfold entO
 cases plc l x with
 | none => rfl
 | some j => rfl
theorem qq2 {lf : Nat} (hlf : 33554432 ≤ lf) (l : List T) (nx : Int) (hs : l.length + tls l ≤ 16777216) : ∀ (f d : Nat) (x : Int) (p : ByteArray) (O L : List ByteArray), pthF l f (entO l x) p = some L → p.size + 16777300 * f ≤ 1000000000 → O.length + L.length ≤ 1000000 →
 Cc lf (d + f + 2) 56 [.st [.sl l, .i .i64 nx], .i .i64 x, .s p, .st [.sl (TS O)]] = some [.st [.sl (TS (O ++ L))]]
 | 0, d, x, p, O, L, h, _, _ => by cases h
 | f + 1, d, x, p, O, L, h, hp, hO => by
  have hI := qek (lf := lf) (d := d + f) hlf l nx x hs
  have hR : ∀ (y : Int) (q : ByteArray) (O' L' : List ByteArray), pthF l f (entO l y) q = some L' → q.size + 16777300 * f ≤ 1000000000 → O'.length + L'.length ≤ 1000000 → Cc lf (d + f + 2) 56 [.st [.sl l, .i .i64 nx], .i .i64 y, .s q, .st [.sl (TS O')]] = some [.st [.sl (TS (O' ++ L'))]] := fun y q O' L' => qq2 hlf l nx hs f d y q O' L'
  show funK (Cc lf (d + f + 2)) env lf 6 fi56 [.st [.sl l, .i .i64 nx], .i .i64 x, .s p, .st [.sl (TS O)]] = _
  generalize Cc lf (d + f + 2) = C at hI hR
  rw [f56_eq]
  unfold f56 f56_t
  have hEl := qtq hs (E := entO l x) ⟨x, rfl⟩
  have W : ∀ (k i m : Nat) (O L : List ByteArray), i + k = (entO l x).length → k < m → pthG (fun y q => pthF l f (entO l y) q) (entO l x) p k i = some L → O.length + L.length ≤ 1000000 → f56_0 C lf l nx (inoR l (plc l x)) p m (i : Int) (TS O) = some [T.i .i64 0, T.sl (TS (O ++ L))] := by
   intro k
   induction k with
   | zero =>
    intro i m O L hi hm hL _
    obtain ⟨m, rfl⟩ : ∃ z, m = z + 1 := ⟨m - 1, by omega⟩
    cases hL
    rw [f56_0_u]
    unfold f56_0_s
    rw [qfk, iLt_f (by omega), List.append_nil]
    rfl
   | succ k ih =>
    intro i m O L hi hm hL hOl
    obtain ⟨m, rfl⟩ : ∃ z, m = z + 1 := ⟨m - 1, by omega⟩
    obtain ⟨L1, L', a1, a2, rfl⟩ := qks hL
    simp only [List.length_cons, List.length_append] at hOl
    have hns := qmk hs (E := entO l x) ⟨x, rfl⟩ (show i < (entO l x).length by omega)
    have hsl : slh.size = 1 := rfl
    rw [f56_0_u]
    unfold f56_0_s
    rw [qfk, iLt_t (by omega), qa1 (show i < (entO l x).length by omega)]
    simp only [Int.toNat_natCast, qa0]
    rw [show asS (T.cell ((entO l x).getD i T.u) 0) = entN (entO l x) i from rfl, show asI (T.cell ((entO l x).getD i T.u) 1) = entI (entO l x) i from rfl, show (⟨#[47]⟩ : ByteArray) = slh from rfl, qe9]
    rw [nLe_t (show p.size + slh.size ≤ LIM by unfold LIM; omega), nLe_t (show p.size + slh.size + (entN (entO l x) i).size ≤ LIM by unfold LIM; omega), qf0 (by rw [qqc]; omega)]
    have eO : TS O ++ [T.s (p ++ slh ++ entN (entO l x) i)] = TS (O ++ [p ++ slh ++ entN (entO l x) i]) := by simp
    rw [eO, hR _ _ (O ++ [p ++ slh ++ entN (entO l x) i]) L1 a1 (by rw [qe9, qe9]; omega) (by rw [List.length_append, List.length_singleton]; omega), qa4 (show i < (entO l x).length by omega) (by omega)]
    simp only [qa0, Option.bind_some, nth0, cell0, asL_l]
    have I := ih (i + 1) m (O ++ [p ++ slh ++ entN (entO l x) i] ++ L1) L' (by omega) (by omega) a2 (by simp only [List.length_append, List.length_singleton]; omega)
    rw [show O ++ [p ++ slh ++ entN (entO l x) i] ++ L1 ++ L' = O ++ ((p ++ slh ++ entN (entO l x) i) :: (L1 ++ L')) by simp] at I
    exact I
  have h0 := W (entO l x).length 0 lf O L (by omega) (by omega) h hO
  rw [show ((0 : Nat) : Int) = 0 from rfl] at h0
  dsimp only
  rw [hI]
  simp only [Option.bind_some]
  rw [h0]
  rfl
theorem qq5 {lf : Nat} (hlf : 33554432 ≤ lf) (l : List T) (nx : Int) (hs : l.length + tls l ≤ 16777216) : ∀ (f d : Nat) (x : Int) (a b c : Int) (dt at_ : List T) (p : ByteArray) (L : List ByteArray), pthF l f (entO l x) p = some L → p.size + 16777300 * f ≤ 1000000000 → L.length ≤ 1000000 →
 Cc lf (d + f + 3) 59 [.st [.sl l, .i .i64 nx], .st [.i .i64 a, .i .i64 b, .i .i64 c, .sl dt, .sl (entO l x), .sl at_], .s p] = some [.sl (TS L)]
 | 0, d, x, a, b, c, dt, at_, p, L, h, _, _ => by cases h
 | f + 1, d, x, a, b, c, dt, at_, p, L, h, hp, hO => by
  have hI := fun y => qbq (lf := lf) (d := d + f) hlf l nx y hs
  have hR : ∀ (y : Int) (a b c : Int) (dt at_ : List T) (q : ByteArray) (L' : List ByteArray), pthF l f (entO l y) q = some L' → q.size + 16777300 * f ≤ 1000000000 → L'.length ≤ 1000000 → Cc lf (d + f + 3) 59 [.st [.sl l, .i .i64 nx], .st [.i .i64 a, .i .i64 b, .i .i64 c, .sl dt, .sl (entO l y), .sl at_], .s q] = some [.sl (TS L')] := fun y a b c dt at_ q L' => qq5 hlf l nx hs f d y a b c dt at_ q L'
  show funK (Cc lf (d + f + 3)) env lf 6 fi59 [.st [.sl l, .i .i64 nx], .st [.i .i64 a, .i .i64 b, .i .i64 c, .sl dt, .sl (entO l x), .sl at_], .s p] = _
  generalize Cc lf (d + f + 3) = C at hI hR
  rw [f59_eq]
  unfold f59 f59_t
  have hEl := qtq hs (E := entO l x) ⟨x, rfl⟩
  have W : ∀ (k i m : Nat) (O L : List ByteArray), i + k = (entO l x).length → k < m → pthG (fun y q => pthF l f (entO l y) q) (entO l x) p k i = some L → O.length + L.length ≤ 1000000 → f59_0 C lf l (entO l x) nx p m (i : Int) (TS O) = some [T.i .i64 0, T.sl (TS (O ++ L))] := by
   intro k
   induction k with
   | zero =>
    intro i m O L hi hm hL _
    obtain ⟨m, rfl⟩ : ∃ z, m = z + 1 := ⟨m - 1, by omega⟩
    cases hL
    rw [f59_0_u]
    unfold f59_0_s
    rw [iLt_f (by omega), List.append_nil]
    rfl
   | succ k ih =>
    intro i m O L hi hm hL hOl
    obtain ⟨m, rfl⟩ : ∃ z, m = z + 1 := ⟨m - 1, by omega⟩
    obtain ⟨L1, L', a1, a2, rfl⟩ := qks hL
    simp only [List.length_cons, List.length_append] at hOl
    have hns := qmk hs (E := entO l x) ⟨x, rfl⟩ (show i < (entO l x).length by omega)
    have hsl : slh.size = 1 := rfl
    rw [f59_0_u]
    unfold f59_0_s
    rw [iLt_t (by omega), qa1 (show i < (entO l x).length by omega)]
    simp only [Int.toNat_natCast, qa0]
    rw [show asS (T.cell ((entO l x).getD i T.u) 0) = entN (entO l x) i from rfl, show asI (T.cell ((entO l x).getD i T.u) 1) = entI (entO l x) i from rfl, show (⟨#[47]⟩ : ByteArray) = slh from rfl, qe9]
    rw [nLe_t (show p.size + slh.size ≤ LIM by unfold LIM; omega), nLe_t (show p.size + slh.size + (entN (entO l x) i).size ≤ LIM by unfold LIM; omega), qf0 (by rw [qqc]; omega), hI]
    have eO : TS O ++ [T.s (p ++ slh ++ entN (entO l x) i)] = TS (O ++ [p ++ slh ++ entN (entO l x) i]) := by simp
    simp only [qa0, Option.bind_some]
    rw [qfk, eO, hR _ _ _ _ _ _ _ L1 a1 (by rw [qe9, qe9]; omega) (by omega), qa4 (show i < (entO l x).length by omega) (by omega)]
    simp only [Option.bind_some, nth0, asL_l]
    rw [nLe_t (by rw [qqc, qqc, List.length_append, List.length_singleton]; unfold LIM; omega), qa0]
    have I := ih (i + 1) m (O ++ [p ++ slh ++ entN (entO l x) i] ++ L1) L' (by omega) (by omega) a2 (by simp only [List.length_append, List.length_singleton]; omega)
    rw [show O ++ [p ++ slh ++ entN (entO l x) i] ++ L1 ++ L' = O ++ ((p ++ slh ++ entN (entO l x) i) :: (L1 ++ L')) by simp] at I
    rw [show TS (O ++ [p ++ slh ++ entN (entO l x) i]) ++ TS L1 = TS (O ++ [p ++ slh ++ entN (entO l x) i] ++ L1) by simp]
    exact I
  have h0 := W (entO l x).length 0 lf [] L (by omega) (by omega) h (by simpa using hO)
  rw [show ((0 : Nat) : Int) = 0 from rfl, List.nil_append] at h0
  dsimp only
  rw [show (TS ([] : List ByteArray)) = [] from rfl] at h0
  rw [h0]
  rfl
abbrev By := List UInt8
def le8 (x y : By) : Bool := decide (x ≤ y)
theorem qt4 {x y : By} : le8 x y = true ↔ ¬ y < x := decide_eq_true_iff
theorem qil (a b c : By) (h : le8 a b = true) (h' : le8 b c = true) : le8 a c = true := decide_eq_true (List.le_trans (of_decide_eq_true h) (of_decide_eq_true h'))
theorem qt3 (a b : By) : (le8 a b || le8 b a) = true := by
 rw [Bool.or_eq_true]
 exact (List.le_total a b).imp decide_eq_true decide_eq_true
theorem gt8 (a b : By) : (!(Op.bytesLess a b || a == b)) = decide (b < a) := by
 rw [Proofs.bytesLess_eq]
 by_cases c : b < a
 ·have h1 : ¬ a < b := List.lt_asymm c
  have h2 : a ≠ b := fun e => by subst e; exact h1 c
  simp [c, h1, h2]
 ·by_cases c2 : a < b
  ·simp [c, c2]
  ·have : a = b := List.le_antisymm c c2
   subst this
   simp [c]
theorem qs1 {A B : List By} (h : A.Perm B) (h1 : A.Pairwise fun x y => le8 x y = true) (h2 : B.Pairwise fun x y => le8 x y = true) : A = B :=
 List.Perm.eq_of_pairwise (le := fun x y => le8 x y = true) (fun a b _ _ x y => List.le_antisymm (of_decide_eq_true x) (of_decide_eq_true y)) h1 h2 h
theorem qx3 (M : List By) (j : Nat) (x : By) : (SL M).set j (.s (bsOf x)) = SL (M.set j x) := List.map_set.symm
theorem quv (L : List ByteArray) : TS L = SL (L.map fun s => s.data.toList) := by
 show List.map T.s L = List.map (fun x => T.s (bsOf x)) (List.map (fun s => s.data.toList) L)
 rw [List.map_map]
 exact List.map_congr_left fun s _ => by show T.s s = T.s (bsOf s.data.toList); rw [bs_of]
theorem qta {A R : List By} {k : Nat} (hk : k ≤ A.length) (j x : By) : (A.take k ++ j :: A.drop k ++ R).set k x = A.take k ++ x :: A.drop k ++ R := by
 rw [List.append_assoc, List.append_assoc, List.set_append_right _ _ (by rw [List.length_take]; omega), List.length_take, Nat.min_eq_left hk, Nat.sub_self]
 rfl
theorem qvk {A R : List By} {k : Nat} (hk : k < A.length) : A.take (k + 1) ++ A.getD k [] :: A.drop (k + 1) ++ R = A.take k ++ A.getD k [] :: A.drop k ++ R := by
 have e := List.drop_eq_getElem_cons hk
 rw [List.getD_eq_getElem?_getD, List.getElem?_eq_getElem hk, Option.getD_some, List.take_succ_eq_append_getElem hk, e, List.append_assoc (A.take k)]
 rfl
theorem qyn {A R : List By} {k : Nat} (hk : k < A.length) (j : By) : (A.take (k + 1) ++ j :: A.drop (k + 1) ++ R).getD k [] = A.getD k [] := by
 rw [List.append_assoc, List.getD_eq_getElem?_getD, List.getElem?_append_left (by rw [List.length_take]; omega), List.getElem?_take, if_pos (by omega), ← List.getD_eq_getElem?_getD]
theorem qtb {A R : List By} {k : Nat} (hk : k ≤ A.length) (j : By) : (A.take k ++ j :: A.drop k ++ R).length = A.length + 1 + R.length := by
 simp; omega
theorem qr2 {A : List By} {k : Nat} {x : By} (hA : A.Pairwise fun x y => le8 x y = true) (hk : k ≤ A.length) (h1 : k = 0 ∨ ¬ x < A.getD (k - 1) []) (h2 : ∀ t, k ≤ t → t < A.length → x < A.getD t []) : (A.take k ++ x :: A.drop k).Pairwise fun x y => le8 x y = true := by
 have lo : ∀ y ∈ A.take k, le8 y x = true := fun y hy => by
  obtain ⟨i, hi, e⟩ := List.getElem_of_mem hy
  rw [List.length_take] at hi
  rw [List.getElem_take] at e
  have hz : le8 (A.getD (k - 1) []) x = true := qt4.2 (h1.resolve_left (by omega))
  rw [List.getD_eq_getElem?_getD, List.getElem?_eq_getElem (show k - 1 < A.length by omega), Option.getD_some] at hz
  by_cases c : i = k - 1
  ·subst c; rw [← e]; exact hz
  ·have := List.pairwise_iff_getElem.1 hA i (k - 1) (by omega) (by omega) (by omega)
   rw [e] at this
   exact qil _ _ _ this hz
 have hi : ∀ y ∈ A.drop k, le8 x y = true := fun y hy => by
  obtain ⟨i, hi, e⟩ := List.getElem_of_mem hy
  rw [List.length_drop] at hi
  rw [List.getElem_drop] at e
  have := h2 (k + i) (by omega) (by omega)
  rw [List.getD_eq_getElem?_getD, List.getElem?_eq_getElem (show k + i < A.length by omega), Option.getD_some, e] at this
  exact qt4.2 (List.lt_asymm this)
 rw [List.pairwise_append, List.pairwise_cons]
 refine ⟨hA.sublist (List.take_sublist _ _), ⟨hi, hA.sublist (List.drop_sublist _ _)⟩, fun y hy z hz => ?_⟩
 rcases List.mem_cons.1 hz with c | c
 ·rw [c]; exact lo y hy
 ·exact qil _ _ _ (lo y hy) (hi z c)
theorem qw2 {lf d : Nat} (hlf : 33554432 ≤ lf) (M : List By) (hs : M.length ≤ 1048576) : Cc lf (d + 1) 57 [.sl (SL M)] = some [.sl (SL (M.mergeSort le8))] := by
 have E := f57_eq (Cc lf d) lf (SL M)
 unfold f57 f57_t at E
 dsimp only at E
 rw [List.nil_append, nLe_t (by rw [qax]; unfold LIM; simp; omega), qa0] at E
 have I : ∀ (C : Orc) (A R : List By) (x : By) (i : Nat) (X : List T), A.length + 1 + R.length ≤ 1048576 → asS (X.getD i T.u) = bsOf x → ∀ (k m : Nat) (j : By), k ≤ A.length → k < m → (∀ t, k ≤ t → t < A.length → x < A.getD t []) →
  ∃ (k' : Nat) (j' : By), k' ≤ A.length ∧ f57_1 C lf (i : Int) X m (k : Int) (SL (A.take k ++ j :: A.drop k ++ R)) = some [T.i .i64 0, T.i .i64 (i : Int), T.s (bsOf x), T.i .i64 (k' : Int), T.sl (SL (A.take k' ++ j' :: A.drop k' ++ R))] ∧ (k' = 0 ∨ ¬ x < A.getD (k' - 1) []) ∧ ∀ t, k' ≤ t → t < A.length → x < A.getD t [] := by
  intro C A R x i X hl hX k
  induction k with
  | zero =>
   intro m j hk hm h
   obtain ⟨m, rfl⟩ : ∃ z, m = z + 1 := ⟨m - 1, by omega⟩
   rw [f57_1_u]
   unfold f57_1_s
   simp only [Int.toNat_natCast]
   rw [iLt_f (by omega), hX]
   exact ⟨0, j, hk, rfl, .inl rfl, h⟩
  | succ k ih =>
   intro m j hk hm h
   obtain ⟨m, rfl⟩ : ∃ z, m = z + 1 := ⟨m - 1, by omega⟩
   have hlen := qtb (R := R) hk j
   rw [f57_1_u]
   unfold f57_1_s
   simp only [Int.toNat_natCast]
   rw [hX, iLt_t (by omega), qaw (x := ((k + 1 : Nat) : Int) - 1) (by omega) (by omega), show ((k + 1 : Nat) : Int) - 1 = (k : Int) by omega, qa1 (show k < _ by rw [qax, hlen]; omega), qa1 (show k + 1 < _ by rw [qax, hlen]; omega)]
   simp only [Int.toNat_natCast, qa0]
   rw [SL_at (show k < _ by rw [hlen]; omega), qyn (by omega)]
   simp only [asS_s]
   rw [qix, qix, gt8, qx3, qta hk]
   by_cases c : x < A.getD k []
   ·rw [decide_eq_true c, qa0, qvk (by omega)]
    exact ih m _ (by omega) (by omega) fun t h1 h2 => by
     by_cases e : t = k
     ·rw [e]; exact c
     ·exact h t (by omega) h2
   ·rw [decide_eq_false c, qa6]
    exact ⟨k + 1, j, hk, rfl, .inr c, h⟩
 have O : ∀ (C : Orc) (r m : Nat) (A R : List By), R.length = r → A.length + R.length ≤ 1048576 → r < m → A.Pairwise (fun x y => le8 x y = true) → ∃ M', f57_0 C lf m (A.length : Int) (SL (A ++ R)) = some [T.i .i64 0, T.sl (SL M')] ∧ M'.Perm (A ++ R) ∧ M'.Pairwise fun x y => le8 x y = true := by
  intro C r
  induction r with
  | zero =>
   intro m A R hr hl hm hA
   obtain ⟨m, rfl⟩ : ∃ z, m = z + 1 := ⟨m - 1, by omega⟩
   obtain rfl : R = [] := List.length_eq_zero_iff.1 hr
   rw [f57_0_u]
   unfold f57_0_s
   rw [iLt_f (by rw [qax, List.append_nil]; omega)]
   exact ⟨A, by rw [List.append_nil]; rfl, by rw [List.append_nil], hA⟩
  | succ r ih =>
   intro m A R hr hl hm hA
   obtain ⟨m, rfl⟩ : ∃ z, m = z + 1 := ⟨m - 1, by omega⟩
   obtain ⟨x, R, rfl⟩ : ∃ x R', R = x :: R' := by cases R with
    | nil => cases hr
    | cons x R => exact ⟨x, R, rfl⟩
   simp only [List.length_cons] at hr hl
   rw [f57_0_u]
   unfold f57_0_s
   have hx : asS ((SL (A ++ x :: R)).getD A.length T.u) = bsOf x := by
    have e : (A ++ x :: R).getD A.length [] = x := by rw [List.getD_eq_getElem?_getD, List.getElem?_append_right (Nat.le_refl _), Nat.sub_self]; rfl
    rw [SL_at (by simp), e]
    rfl
   obtain ⟨k', j', h1, e, h2, h3⟩ := I C A R x A.length (SL (A ++ x :: R)) (by omega) hx A.length lf x (Nat.le_refl _) (by omega) (fun t a b => by omega)
   have e0 : A.take A.length ++ x :: A.drop A.length ++ R = A ++ x :: R := by simp
   rw [e0] at e
   rw [iLt_t (by rw [qax, List.length_append, List.length_cons]; omega), qa1 (by rw [qax, List.length_append, List.length_cons]; omega)]
   dsimp only
   rw [e]
   simp only [qa0, Option.bind_some, nth0, nthS, asI_i, asL_l, asS_s, Int.toNat_natCast]
   have hlen := qtb (R := R) h1 j'
   rw [qa1 (by rw [qax, hlen]; omega), qx3, qta h1, show IntKind.wrap .i64 ((A.length : Int) + 1) = ((A.length + 1 : Nat) : Int) by rw [qaw (by omega) (by omega)]; omega]
   have hp : (A.take k' ++ x :: A.drop k').Perm (x :: A) := by
    have : (A.take k' ++ x :: A.drop k').Perm (x :: (A.take k' ++ A.drop k')) := List.perm_middle
    rwa [List.take_append_drop] at this
   have hl2 : (A.take k' ++ x :: A.drop k').length = A.length + 1 := hp.length_eq
   obtain ⟨M', e2, p2, s2⟩ := ih m (A.take k' ++ x :: A.drop k') R (by omega) (by omega) (by omega) (qr2 hA h1 h2 h3)
   rw [hl2] at e2
   refine ⟨M', e2, p2.trans ?_, s2⟩
   exact (hp.append_right R).trans (by simpa using List.perm_middle.symm)
 have fin : ∃ M', f57_0 (Cc lf d) lf lf 1 (SL M) = some [T.i .i64 0, T.sl (SL M')] ∧ M'.Perm M ∧ M'.Pairwise fun x y => le8 x y = true := by
  cases M with
  | nil =>
   obtain ⟨m, hm⟩ : ∃ z, lf = z + 1 := ⟨lf - 1, by omega⟩
   have : ∀ (C : Orc) m, f57_0 C lf (m + 1) 1 (SL []) = some [T.i .i64 0, T.sl (SL [])] := fun C m => by
    rw [f57_0_u]; rfl
   have h := this (Cc lf d) m
   rw [← hm] at h
   exact ⟨[], h, List.Perm.refl _, List.Pairwise.nil⟩
  | cons x R =>
   simp only [List.length_cons] at hs
   exact O (Cc lf d) R.length lf [x] R rfl (by simp only [List.length_singleton]; omega) (by omega) (List.pairwise_singleton _ _)
 obtain ⟨M', e, p, s⟩ := fin
 rw [e] at E
 have : M' = M.mergeSort le8 := qs1 (p.trans (List.mergeSort_perm M le8).symm) s (List.pairwise_mergeSort qil qt3 M)
 rw [← this]
 exact E
theorem qy3 {lf d : Nat} (M : List By) (hs : M.length ≤ 1048576) : Cc lf (d + 1) 60 [.sl (SL M)] = some [.sl (SL (M.mergeSort le8))] := by
 show (bif nLe (SL M).length LIM then some [T.sl (sortS (SL M))] else none) = _
 rw [nLe_t (by rw [qax]; unfold LIM; omega), qa0]
 unfold sortS
 rw [List.map_map, show ((fun x => (asS x).data.toList) ∘ fun x => T.s (bsOf x)) = (id : By → By) from rfl, List.map_id]
 rfl
def qbw (l : List T) (L : List ByteArray) : List By := (L.map fun s => s.data.toList).mergeSort le8
theorem qrb {lf k0 : Nat} (hk0 : 40 ≤ k0) (hlf : 33554432 ≤ lf) (l : List T) (nx : Int) (hs : l.length + tls l ≤ 16777216) : (treeB l nx = false ∧ Cc lf (k0 + 1) 28 [.st [.sl l, .i .i64 nx]] = some [.sl []]) ∨
 ∃ L, treeB l nx = true ∧ pthF l 32 (entA l 0) ⟨#[]⟩ = some L ∧ L.length ≤ 9600 ∧ Cc lf (k0 + 1) 28 [.st [.sl l, .i .i64 nx]] = some [.sl (SL (qbw l L))] := by
 have h1 := qmu (lf := lf) (d := k0 - 6) hlf l nx hs
 have h2 := fun M h => qw2 (lf := lf) (d := k0 - 1) hlf M h
 have h3 := fun x p O L => qq2 (lf := lf) hlf l nx hs 32 (k0 - 34) x p O L
 rw [show k0 - 6 + 6 = k0 by omega] at h1
 rw [show k0 - 1 + 1 = k0 by omega] at h2
 rw [show k0 - 34 + 32 + 2 = k0 by omega] at h3
 have key : ∀ C : Orc, C 17 [.st [.sl l, .i .i64 nx]] = some [.b (treeB l nx)] → (∀ M : List By, M.length ≤ 1048576 → C 57 [.sl (SL M)] = some [.sl (SL (M.mergeSort le8))]) →
  (∀ x p O L, pthF l 32 (entO l x) p = some L → p.size + 16777300 * 32 ≤ 1000000000 → O.length + L.length ≤ 1000000 → C 56 [.st [.sl l, .i .i64 nx], .i .i64 x, .s p, .st [.sl (TS O)]] = some [.st [.sl (TS (O ++ L))]]) →
  (treeB l nx = false ∧ f28 C lf l nx = some [.sl []]) ∨ ∃ L, treeB l nx = true ∧ pthF l 32 (entA l 0) ⟨#[]⟩ = some L ∧ L.length ≤ 9600 ∧ f28 C lf l nx = some [.sl (SL (qbw l L))] := by
  intro C h1 h2 h3
  unfold f28 f28_t
  rw [h1]
  simp only [Option.bind_some, nth0, asB_b]
  cases hT : treeB l nx with
  | false =>
   rw [qa6]
   have := h2 [] (by simp)
   simp only [List.map_nil, List.mergeSort_nil] at this
   rw [this]
   exact .inl ⟨by trivial, rfl⟩
  | true =>
   have H := qrw hT
   obtain ⟨L, e, hL⟩ := qjc H
   obtain ⟨nx', hA⟩ := H.nx
   have h0 : plc l 1 = some 0 := by rw [← H.root.1]; exact qhp hA (by have := H.h1; omega)
   have e1 : entO l 1 = entA l 0 := by unfold entO; rw [h0]
   have h4 := h3 1 ⟨#[]⟩ [] L (by rw [e1]; exact e) (by show 0 + 16777300 * 32 ≤ 1000000000; omega) (by simp only [List.length_nil]; omega)
   rw [show TS ([] : List ByteArray) = [] from rfl, List.nil_append] at h4
   rw [qa0, h4]
   simp only [Option.bind_some, nth0, cell0, asL_l]
   rw [quv, h2 _ (by rw [List.length_map]; omega)]
   exact .inr ⟨L, by trivial, e, hL, rfl⟩
 have fe := f28_eq (Cc lf k0) lf l nx
 rcases key (Cc lf k0) h1 h2 h3 with ⟨a, b⟩ | ⟨L, a, b, c, e⟩
 ·exact .inl ⟨a, fe.trans b⟩
 ·exact .inr ⟨L, a, b, c, fe.trans e⟩
theorem qrh {lf k0 : Nat} (hk0 : 40 ≤ k0) (hlf : 33554432 ≤ lf) (l : List T) (nx : Int) (hs : l.length + tls l ≤ 16777216) : (treeB l nx = false ∧ Cc lf (k0 + 1) 31 [.st [.sl l, .i .i64 nx]] = some [.sl []]) ∨
 ∃ L, treeB l nx = true ∧ pthF l 32 (entA l 0) ⟨#[]⟩ = some L ∧ L.length ≤ 9600 ∧ Cc lf (k0 + 1) 31 [.st [.sl l, .i .i64 nx]] = some [.sl (SL (qbw l L))] := by
 have h1 := qmv (lf := lf) (d := k0 - 6) hlf l nx hs
 have h2 := fun M h => qy3 (lf := lf) (d := k0 - 1) M h
 have h3 := fun x a b c dt at_ p L => qq5 (lf := lf) hlf l nx hs 32 (k0 - 35) x a b c dt at_ p L
 have h5 := qbq (lf := lf) (d := k0 - 3) hlf l nx 1 hs
 rw [show k0 - 6 + 6 = k0 by omega] at h1
 rw [show k0 - 1 + 1 = k0 by omega] at h2
 rw [show k0 - 35 + 32 + 3 = k0 by omega] at h3
 rw [show k0 - 3 + 3 = k0 by omega] at h5
 have key : ∀ C : Orc, C 22 [.st [.sl l, .i .i64 nx]] = some [.b (treeB l nx)] → (∀ M : List By, M.length ≤ 1048576 → C 60 [.sl (SL M)] = some [.sl (SL (M.mergeSort le8))]) →
  (∀ x a b c dt at_ p L, pthF l 32 (entO l x) p = some L → p.size + 16777300 * 32 ≤ 1000000000 → L.length ≤ 1000000 → C 59 [.st [.sl l, .i .i64 nx], .st [.i .i64 a, .i .i64 b, .i .i64 c, .sl dt, .sl (entO l x), .sl at_], .s p] = some [.sl (TS L)]) →
  C 23 [.st [.sl l, .i .i64 nx], .i .i64 1] = some (inoR l (plc l 1)) →
  (treeB l nx = false ∧ f31 C lf l nx = some [.sl []]) ∨ ∃ L, treeB l nx = true ∧ pthF l 32 (entA l 0) ⟨#[]⟩ = some L ∧ L.length ≤ 9600 ∧ f31 C lf l nx = some [.sl (SL (qbw l L))] := by
  intro C h1 h2 h3 h5
  unfold f31 f31_t
  rw [h1]
  simp only [Option.bind_some, nth0, asB_b]
  cases hT : treeB l nx with
  | false => exact .inl ⟨by trivial, rfl⟩
  | true =>
   have H := qrw hT
   obtain ⟨L, e, hL⟩ := qjc H
   obtain ⟨nx', hA⟩ := H.nx
   have h0 : plc l 1 = some 0 := by rw [← H.root.1]; exact qhp hA (by have := H.h1; omega)
   have e1 : entO l 1 = entA l 0 := by unfold entO; rw [h0]
   rw [Bool.not_true, qa6, h5]
   simp only [Option.bind_some]
   rw [qfk, h3 1 _ _ _ _ _ ⟨#[]⟩ L (by rw [e1]; exact e) (by show 0 + 16777300 * 32 ≤ 1000000000; omega) (by omega)]
   simp only [Option.bind_some, nth0, asL_l]
   rw [quv, h2 _ (by rw [List.length_map]; omega)]
   exact .inr ⟨L, by trivial, e, hL, rfl⟩
 have fe := f31_eq (Cc lf k0) lf l nx
 rcases key (Cc lf k0) h1 h2 h3 h5 with ⟨a, b⟩ | ⟨L, a, b, c, e⟩
 ·exact .inl ⟨a, fe.trans b⟩
 ·exact .inr ⟨L, a, b, c, fe.trans e⟩
def entF (E : List T) (s : ByteArray) : Int := match fstI (fun k => (entN E k).toList == s.toList) E.length with | some k => entI E k | none => 0
theorem qw6 {lf d : Nat} (hlf : 33554432 ≤ lf) (a b c : Int) (dt E at_ : List T) (s : ByteArray) (hs : E.length ≤ 16777216) : Cc lf (d + 1) 106 [.st [.i .i64 a, .i .i64 b, .i .i64 c, .sl dt, .sl E, .sl at_], .s s] = some [.i .i64 (entF E s)] := by
 have X := f106_eq (Cc lf d) lf a b c dt E at_ s
 unfold f106 f106_t at X
 dsimp only at X
 rw [qc4 (F := fun m j => f106_0 (Cc lf d) lf dt E at_ a b c s m j) (p := fun k => (entN E k).toList == s.toList) (X := fun k => some [.i .i64 0, .i .i64 (entI E k)]) (Y := some [.i .i64 1]) (len := E.length) (fun m j hj => by
  rw [f106_0_u]
  unfold f106_0_s entN entI
  rw [iLt_t (by omega), qa1 hj, qa4 hj (by omega)]
  simp only [qa0, Int.toNat_natCast]) (fun m => by
  rw [f106_0_u]
  unfold f106_0_s
  rw [iLt_f (by omega)]
  rfl) (n := lf) (by omega)] at X
 unfold entF
 cases e : fstI (fun k => (entN E k).toList == s.toList) E.length with
 | none => rw [e] at X; exact X
 | some j => rw [e] at X; exact X
theorem qwc {lf d : Nat} (hlf : 33554432 ≤ lf) (a b c : Int) (dt E at_ : List T) (s : ByteArray) (hs : E.length ≤ 16777216) : Cc lf (d + 1) 62 [.st [.i .i64 a, .i .i64 b, .i .i64 c, .sl dt, .sl E, .sl at_], .s s] = some [.i .i64 (entF E s)] := by
 have X := f62_eq (Cc lf d) lf a b c dt E at_ s
 unfold f62 f62_t at X
 dsimp only at X
 rw [qc4 (F := fun m j => f62_0 (Cc lf d) lf E s m j) (p := fun k => (entN E k).toList == s.toList) (X := fun k => some [.i .i64 0, .i .i64 (entI E k)]) (Y := some [.i .i64 1]) (len := E.length) (fun m j hj => by
  rw [f62_0_u]
  unfold f62_0_s entN entI
  rw [iLt_t (by omega), qa1 hj, qa4 hj (by omega)]
  simp only [qa0, Int.toNat_natCast]) (fun m => by
  rw [f62_0_u]
  unfold f62_0_s
  rw [iLt_f (by omega)]
  rfl) (n := lf) (by omega)] at X
 unfold entF
 cases e : fstI (fun k => (entN E k).toList == s.toList) E.length with
 | none => rw [e] at X; exact X
 | some j => rw [e] at X; exact X
def wlk (l : List T) : List By → Int → Int × Int
 | [], x => (x, 0)
 | s :: ss, x => match plc l x with
  | none => (0, 2)
  | some j => if kndA l j = 2 then (if entF (entA l j) (bsOf s) = 0 then (0, 2) else wlk l ss (entF (entA l j) (bsOf s))) else (0, 3)
def walkR (l : List T) (p : By) : Int × Int := bif p == [47] then (1, 0) else bif okP p then wlk l (cutL p).tail 1 else (0, 1)
theorem qok (l : List T) (N : List By) (i : Nat) (h : i < N.length) (x : Int) : wlk l (N.drop i) x = match plc l x with
 | none => (0, 2)
 | some j => if kndA l j = 2 then (if entF (entA l j) (bsOf (N.getD i [])) = 0 then (0, 2) else wlk l (N.drop (i + 1)) (entF (entA l j) (bsOf (N.getD i [])))) else (0, 3) := by
 rw [List.drop_eq_getElem_cons h, List.getD_eq_getElem?_getD, List.getElem?_eq_getElem h]
 rfl
theorem qqo (C : Orc) {lf : Nat} (l : List T) (nx : Int) (N : List By) (hN : N.length ≤ 16777216) (hA : ∀ x, C 45 [.st [.sl l, .i .i64 nx], .i .i64 x] = some [.i .i64 (plcI (plc l x))])
 (hE : ∀ j s, C 106 [inoT l j, .s s] = some [.i .i64 (entF (entA l j) s)]) : ∀ (k i m : Nat) (x : Int), i + k = N.length → k < m →
 ∃ r0 r1, f87_0 C lf (SL N) l nx m x (i : Int) = some (.i .i64 r0 :: .i .i64 r1 :: (if r0 = 0 then [.i .i64 (wlk l (N.drop i) x).2] else [])) ∧ ((r0 = 0 ∧ r1 = (wlk l (N.drop i) x).1) ∨ (r0 = 1 ∧ wlk l (N.drop i) x = (r1, 0))) := by
 intro k
 induction k with
 | zero =>
  intro i m x hi hm
  obtain ⟨m, rfl⟩ : ∃ z, m = z + 1 := ⟨m - 1, by omega⟩
  rw [f87_0_u]
  unfold f87_0_s
  rw [iLt_f (by rw [qax]; omega), List.drop_eq_nil_of_le (by omega)]
  exact ⟨1, x, rfl, .inr ⟨rfl, rfl⟩⟩
 | succ k ih =>
  intro i m x hi hm
  obtain ⟨m, rfl⟩ : ∃ z, m = z + 1 := ⟨m - 1, by omega⟩
  rw [f87_0_u]
  unfold f87_0_s
  rw [qok l N i (by omega), iLt_t (by rw [qax]; omega), hA]
  simp only [qa0, Option.bind_some, nth0, asI_i]
  rw [qfd]
  cases hp : plc l x with
  | none => exact ⟨0, 0, rfl, .inl ⟨rfl, rfl⟩⟩
  | some j =>
   obtain ⟨hj, _⟩ := qbo hp
   simp only [Option.isNone_some, qa6, plcI, Int.toNat_natCast]
   rw [qa1 hj, show asI (T.cell (l.getD j T.u) 1) = kndA l j from rfl]
   by_cases hk : kndA l j = 2
   ·have hE' : C 106 [T.st [T.i .i64 (asI (T.cell (l.getD j T.u) 0)), T.i .i64 (kndA l j), T.i .i64 (asI (T.cell (l.getD j T.u) 2)), T.sl (asL (T.cell (l.getD j T.u) 3)), T.sl (asL (T.cell (l.getD j T.u) 4)), T.sl (asL (T.cell (l.getD j T.u) 5))], T.s (bsOf (N.getD i []))] = _ := hE j (bsOf (N.getD i []))
    rw [show (kndA l j != 2) = false by simp [hk], qa1 (show i < (SL N).length by rw [qax]; omega), SL_at (by omega)]
    simp only [asS_s, qa6, qa0]
    rw [hE']
    simp only [Option.bind_some, nth0, asI_i, if_pos hk]
    by_cases h0 : entF (entA l j) (bsOf (N.getD i [])) = 0
    ·rw [h0]
     exact ⟨0, 0, rfl, .inl ⟨rfl, rfl⟩⟩
    ·rw [show (entF (entA l j) (bsOf (N.getD i [])) == 0) = false by simpa using h0, qa6, qa4 (show i < N.length by omega) (by omega), if_neg h0]
     exact ih (i + 1) m _ (by omega) (by omega)
   ·rw [show (kndA l j != 2) = true by simpa using hk, qa0]
    simp only [if_neg hk]
    exact ⟨0, 0, rfl, .inl ⟨rfl, rfl⟩⟩
theorem qr4 (C : Orc) {lf : Nat} (l : List T) (nx : Int) (N : List By) (b : T) (hN : N.length ≤ 16777216) (hA : ∀ x, C 23 [.st [.sl l, .i .i64 nx], .i .i64 x] = some (inoR l (plc l x)))
 (hE : ∀ j s, C 62 [inoT l j, .s s] = some [.i .i64 (entF (entA l j) s)]) : ∀ (k i m : Nat) (x : Int), i + k = N.length → k < m →
 ∃ r0 r1, f33_0 C lf l nx [.sl (SL N), b] m x (i : Int) = some (.i .i64 r0 :: .i .i64 r1 :: (if r0 = 0 then [.i .i64 (wlk l (N.drop i) x).2] else [])) ∧ ((r0 = 0 ∧ r1 = (wlk l (N.drop i) x).1) ∨ (r0 = 1 ∧ wlk l (N.drop i) x = (r1, 0))) := by
 intro k
 induction k with
 | zero =>
  intro i m x hi hm
  obtain ⟨m, rfl⟩ : ∃ z, m = z + 1 := ⟨m - 1, by omega⟩
  rw [f33_0_u]
  unfold f33_0_s
  simp only [nth0, asL_l]
  rw [iLt_f (by rw [qax]; omega), List.drop_eq_nil_of_le (by omega)]
  exact ⟨1, x, rfl, .inr ⟨rfl, rfl⟩⟩
 | succ k ih =>
  intro i m x hi hm
  obtain ⟨m, rfl⟩ : ∃ z, m = z + 1 := ⟨m - 1, by omega⟩
  rw [f33_0_u]
  unfold f33_0_s
  simp only [nth0, asL_l, Int.toNat_natCast]
  rw [qok l N i (by omega), iLt_t (by rw [qax]; omega), hA, qa1 (show i < (SL N).length by rw [qax]; omega), SL_at (by omega)]
  simp only [qa0, Option.bind_some, asS_s]
  cases hp : plc l x with
  | none => exact ⟨0, 0, rfl, .inl ⟨rfl, rfl⟩⟩
  | some j =>
   rw [show asB (nth (inoR l (some j)) 1) = true from rfl, show asI (T.cell (nth (inoR l (some j)) 0) 1) = kndA l j from rfl]
   simp only [Bool.not_true, qa6]
   by_cases hk : kndA l j = 2
   ·have hE' : C 62 [T.st [T.i .i64 (asI (T.cell (nth (inoR l (some j)) 0) 0)), T.i .i64 (kndA l j), T.i .i64 (asI (T.cell (nth (inoR l (some j)) 0) 2)), T.sl (asL (T.cell (nth (inoR l (some j)) 0) 3)), T.sl (asL (T.cell (nth (inoR l (some j)) 0) 4)), T.sl (asL (T.cell (nth (inoR l (some j)) 0) 5))], T.s (bsOf (N.getD i []))] = _ := hE j (bsOf (N.getD i []))
    rw [show (kndA l j != 2) = false by simp [hk], qa6, hE']
    simp only [Option.bind_some, nth0, asI_i, if_pos hk]
    by_cases h0 : entF (entA l j) (bsOf (N.getD i [])) = 0
    ·rw [h0]
     exact ⟨0, 0, rfl, .inl ⟨rfl, rfl⟩⟩
    ·rw [show (entF (entA l j) (bsOf (N.getD i [])) == 0) = false by simpa using h0, qa6, qa4 (show i < N.length by omega) (by omega), if_neg h0]
     exact ih (i + 1) m _ (by omega) (by omega)
   ·rw [show (kndA l j != 2) = true by simpa using hk, qa0]
    simp only [if_neg hk]
    exact ⟨0, 0, rfl, .inl ⟨rfl, rfl⟩⟩
theorem qtx (p : By) : (cutL p).length ≤ p.length + 1 := by
 rw [qhh]
 have := List.count_le_length (a := (47 : UInt8)) (l := p)
 omega
theorem qu5 {lf d : Nat} (hlf : 33554432 ≤ lf) (l : List T) (nx : Int) (hs : l.length + tls l ≤ 16777216) (p : By) (hp : p.length ≤ 1048576) : Cc lf (d + 5) 58 [.st [.sl l, .i .i64 nx], .s (bsOf p)] = some [.i .i64 (walkR l p).1, .i .i64 (walkR l p).2] := by
 have hW : ∀ N : List By, N.length ≤ 1048577 → Cc lf (d + 4) 87 [.st [.sl l, .i .i64 nx], .sl (SL N)] = some [.i .i64 (wlk l N 1).1, .i .i64 (wlk l N 1).2] := fun N hN => by
  have E := f87_eq (Cc lf (d + 3)) lf l nx (SL N)
  unfold f87 f87_t at E
  dsimp only at E
  obtain ⟨r0, r1, e, h⟩ := qqo (Cc lf (d + 3)) (lf := lf) l nx N (by omega) (fun x => c_sAt (d := d + 2) hlf l nx x (by omega)) (fun j s => qw6 (d := d + 2) hlf _ _ _ _ _ _ s (by have := qbt (l := l) (j := j) 4; unfold entA; omega)) N.length 0 lf 1 (by omega) (by omega)
  rw [show ((0 : Nat) : Int) = 0 from rfl] at e
  rw [List.drop_zero] at e h
  rw [e] at E
  refine E.trans ?_
  rcases h with ⟨h0, h1⟩ | ⟨h0, h1⟩
  ·subst h0; subst h1; rfl
  ·subst h0; rw [h1]; rfl
 have E := f58_eq (Cc lf (d + 4)) lf l nx (bsOf p)
 unfold f58 f58_t at E
 rw [qw1 (d := d + 1) hlf p hp] at E
 refine E.trans ?_
 unfold walkR
 cases p == [47] with
 | true =>
  simp only [qa0, Option.bind_some, nth0, nthS, asB_b, asL_l, Bool.not_true, qa6]
  have := hW [] (by simp)
  rw [show SL [] = [] from rfl] at this
  rw [this]
  rfl
 | false =>
  cases okP p with
  | true =>
   simp only [qa0, Option.bind_some, nth0, nthS, asB_b, asL_l, Bool.not_true, qa6]
   rw [hW _ (by rw [List.length_tail]; have := qtx p; omega)]
   rfl
  | false => rfl
theorem qu8 {lf d : Nat} (hlf : 33554432 ≤ lf) (l : List T) (nx : Int) (hs : l.length + tls l ≤ 16777216) (p : By) (hp : p.length ≤ 1048576) : Cc lf (d + 6) 33 [.st [.sl l, .i .i64 nx], .s (bsOf p)] = some [.i .i64 (walkR l p).1, .i .i64 (walkR l p).2] := by
 have E := f33_eq (Cc lf (d + 5)) lf l nx (bsOf p)
 unfold f33 f33_t at E
 dsimp only at E
 have hW : ∀ (N : List By), N.length ≤ 1048577 → ((f33_0 (Cc lf (d + 5)) lf l nx [.sl (SL N), .b true] lf 1 0).bind fun r => bif asI (nth r 0) == 0 then some [T.i .i64 (asI (nth r 1)), T.i .i64 (asI (nth r 2))] else some [T.i .i64 (asI (nth r 1)), T.i .i64 0]) = some [.i .i64 (wlk l N 1).1, .i .i64 (wlk l N 1).2] := fun N hN => by
  obtain ⟨r0, r1, e, h⟩ := qr4 (Cc lf (d + 5)) (lf := lf) l nx N (.b true) (by omega) (fun x => qbq (d := d + 2) hlf l nx x hs) (fun j s => qwc (d := d + 4) hlf _ _ _ _ _ _ s (by have := qbt (l := l) (j := j) 4; unfold entA; omega)) N.length 0 lf 1 (by omega) (by omega)
  rw [show ((0 : Nat) : Int) = 0 from rfl] at e
  rw [List.drop_zero] at e h
  rw [e]
  rcases h with ⟨h0, h1⟩ | ⟨h0, h1⟩
  ·subst h0; subst h1; rfl
  ·subst h0; rw [h1]; rfl
 rw [qw9 (d := d) hlf p hp] at E
 refine E.trans ?_
 unfold walkR
 cases p == [47] with
 | true =>
  simp only [qa0, Option.bind_some, nthS, nth0, asB_b, Bool.not_true, qa6]
  have := hW [] (by simp)
  rw [show SL [] = [] from rfl] at this
  exact this
 | false =>
  cases okP p with
  | true =>
   simp only [qa0, qa6, Option.bind_some, nthS, nth0, asB_b, Bool.not_true]
   exact hW _ (by rw [List.length_tail]; have := qtx p; omega)
  | false => rfl
def statO (l : List T) (p : By) : Option Nat := if (walkR l p).2 = 0 then plc l (walkR l p).1 else none
def statT (l : List T) (p : By) : T := match statO l p with | some j => inoT l j | none => inoZ
theorem qy4 {lf d : Nat} (hlf : 33554432 ≤ lf) (l : List T) (nx : Int) (hs : l.length + tls l ≤ 16777216) (p : By) (hp : p.length ≤ 1048576) : ∃ v, Cc lf (d + 6) 29 [.st [.sl l, .i .i64 nx], .s (bsOf p)] = some [statT l p, v] := by
 have E := f29_eq (Cc lf (d + 5)) lf l nx (bsOf p)
 unfold f29 f29_t at E
 rw [qu5 hlf l nx hs p hp] at E
 simp only [Option.bind_some, nth0, nthS, asI_i] at E
 unfold statT statO
 by_cases c : (walkR l p).2 = 0
 ·rw [show ((walkR l p).2 != 0) = false by simpa using c, qa6, qek (d := d + 3) hlf l nx _ hs] at E
  rw [if_pos c]
  cases e : plc l (walkR l p).1 with
  | none => rw [e] at E; exact ⟨_, E⟩
  | some j => rw [e] at E; exact ⟨_, E⟩
 ·rw [show ((walkR l p).2 != 0) = true by simpa using c, qa0] at E
  rw [if_neg c]
  exact ⟨_, E⟩
theorem qy7 {lf d : Nat} (hlf : 33554432 ≤ lf) (l : List T) (nx : Int) (hs : l.length + tls l ≤ 16777216) (p : By) (hp : p.length ≤ 1048576) : ∃ v, Cc lf (d + 7) 32 [.st [.sl l, .i .i64 nx], .s (bsOf p)] = some [statT l p, v] := by
 have E := f32_eq (Cc lf (d + 6)) lf l nx (bsOf p)
 unfold f32 f32_t at E
 rw [qu8 hlf l nx hs p hp] at E
 simp only [Option.bind_some, nth0, nthS, asI_i] at E
 unfold statT statO
 by_cases c : (walkR l p).2 = 0
 ·rw [show ((walkR l p).2 != 0) = false by simpa using c, qa6, qbq (d := d + 3) hlf l nx _ hs] at E
  rw [if_pos c]
  cases e : plc l (walkR l p).1 with
  | none => rw [e] at E; exact ⟨_, E⟩
  | some j => rw [e] at E; exact ⟨_, E⟩
 ·rw [show ((walkR l p).2 != 0) = true by simpa using c, qa0] at E
  rw [if_neg c]
  exact ⟨_, E⟩
def frs (l : List T) (P : List By) (x : Int) : By := match fstI (fun k => (walkR l (P.getD k [])).1 == x) P.length with | some k => P.getD k [] | none => []
def inoS (l : List T) (p : By) : Int := asI (T.cell (statT l p) 0)
def enT (l : List T) (P : List By) (i : Nat) : T := .st [.s (bsOf (P.getD i [])), .i .i64 (asI (T.cell (statT l (P.getD i [])) 1)), .sl (asL (T.cell (statT l (P.getD i [])) 3)), .sl (asL (T.cell (statT l (P.getD i [])) 5)), .s (bsOf (frs l P (inoS l (P.getD i []))))]
def DE (l : List T) (P : List By) (n : Nat) : List T := (List.range n).map (enT l P)
theorem qh8 (l : List T) (P : List By) (n : Nat) : (DE l P n).length = n := by simp [DE]
theorem DE_at {l : List T} {P : List By} {n k : Nat} (h : k < n) : (DE l P n).getD k T.u = enT l P k := by simp [DE, List.getD_eq_getElem?_getD, h]
theorem qx5 (l : List T) (P : List By) (n : Nat) : DE l P n ++ [enT l P n] = DE l P (n + 1) := by unfold DE; rw [List.range_succ, List.map_append]; rfl
theorem qw5 {lf d : Nat} (hlf : 33554432 ≤ lf) (l : List T) (nx x : Int) (hs : l.length + tls l ≤ 16777216) (P : List By) (hP : ∀ p ∈ P, p.length ≤ 1048576) (hl : P.length ≤ 1048576) : Cc lf (d + 6) 30 [.st [.sl l, .i .i64 nx], .sl (SL P), .i .i64 x] = some [.s (bsOf (frs l P x))] := by
 have hW := fun p h => qu5 (lf := lf) (d := d) hlf l nx hs p h
 have key : ∀ C : Orc, (∀ p : By, p.length ≤ 1048576 → C 58 [.st [.sl l, .i .i64 nx], .s (bsOf p)] = some [.i .i64 (walkR l p).1, .i .i64 (walkR l p).2]) → f30 C lf l nx (SL P) x = some [.s (bsOf (frs l P x))] := by
  intro C hC
  unfold f30 f30_t
  dsimp only
  rw [qc4 (F := fun m j => f30_0 C lf (SL P) l x nx m j) (p := fun k => (walkR l (P.getD k [])).1 == x) (X := fun k => some [.i .i64 0, .s (bsOf (P.getD k []))]) (Y := some [.i .i64 1]) (len := P.length) (fun m j hj => by
   have hm : P.getD j [] ∈ P := by rw [List.getD_eq_getElem?_getD, List.getElem?_eq_getElem hj]; exact List.getElem_mem hj
   rw [f30_0_u]
   unfold f30_0_s
   simp only [Int.toNat_natCast]
   rw [iLt_t (by rw [qax]; omega), qa1 (show j < (SL P).length by rw [qax]; exact hj), SL_at hj, asS_s, hC _ (hP _ hm), qa4 hj (by omega)]
   simp only [qa0, Option.bind_some, nth0, asI_i]) (fun m => by
   rw [f30_0_u]
   unfold f30_0_s
   rw [iLt_f (by rw [qax]; omega)]
   rfl) (n := lf) (by omega)]
  unfold frs
  cases fstI (fun k => (walkR l (P.getD k [])).1 == x) P.length <;> rfl
 exact (f30_eq (Cc lf (d + 5)) lf l nx (SL P) x).trans (key _ hW)
theorem qq3 (C : Orc) {lf : Nat} (l : List T) (nx : Int) (P : List By) (hP : ∀ p ∈ P, p.length ≤ 1048576) (hl : P.length ≤ 1048576)
 (hS : ∀ p : By, p.length ≤ 1048576 → ∃ v, C 29 [.st [.sl l, .i .i64 nx], .s (bsOf p)] = some [statT l p, v]) (hF : ∀ x, C 30 [.st [.sl l, .i .i64 nx], .sl (SL P), .i .i64 x] = some [.s (bsOf (frs l P x))]) : ∀ (k i m : Nat), i + k = P.length → k < m →
 f10_0 C lf l nx [.sl (SL P)] m (i : Int) (DE l P i) = some [T.i .i64 0, T.sl (DE l P P.length)] := by
 intro k
 induction k with
 | zero =>
  intro i m hi hm
  obtain ⟨m, rfl⟩ : ∃ z, m = z + 1 := ⟨m - 1, by omega⟩
  rw [f10_0_u]
  unfold f10_0_s
  simp only [nth0, asL_l]
  rw [iLt_f (by rw [qax]; omega), show i = P.length by omega]
  rfl
 | succ k ih =>
  intro i m hi hm
  obtain ⟨m, rfl⟩ : ∃ z, m = z + 1 := ⟨m - 1, by omega⟩
  have hm' : P.getD i [] ∈ P := by rw [List.getD_eq_getElem?_getD, List.getElem?_eq_getElem (show i < P.length by omega)]; exact List.getElem_mem _
  obtain ⟨v, e⟩ := hS _ (hP _ hm')
  rw [f10_0_u]
  unfold f10_0_s
  simp only [nth0, asL_l, Int.toNat_natCast]
  rw [iLt_t (by rw [qax]; omega), qa1 (show i < (SL P).length by rw [qax]; omega), SL_at (by omega), asS_s, e]
  simp only [qa0, Option.bind_some, nth0]
  rw [hF]
  simp only [Option.bind_some, nth0, asS_s]
  rw [qf0 (by rw [qh8]; omega), qa4 (show i < P.length by omega) (by omega)]
  have I := ih (i + 1) m (by omega) (by omega)
  rw [← qx5] at I
  exact I
theorem qoi (l : List T) : ∀ (N : List By) (x : Int), (wlk l N x).2 ≠ 0 → (wlk l N x).1 = 0
 | [], x, h => absurd rfl h
 | s :: ss, x, h => by
  simp only [wlk] at h ⊢
  cases e : plc l x with
  | none => rfl
  | some j =>
   rw [e] at h
   simp only at h ⊢
   split
   ·rename_i hk
    rw [if_pos hk] at h
    split
    ·rfl
    ·rename_i h0
     rw [if_neg h0] at h
     exact qoi l ss _ h
   ·rfl
theorem qoj {l : List T} (H : Tre l) : ∀ (N : List By) (x : Int), isN l x → (wlk l N x).2 = 0 → isN l (wlk l N x).1
 | [], x, hx, _ => hx
 | s :: ss, x, hx, h => by
  obtain ⟨j, e⟩ := hx
  simp only [wlk, e] at h ⊢
  by_cases hk : kndA l j = 2
  ·rw [if_pos hk] at h ⊢
   by_cases h0 : entF (entA l j) (bsOf s) = 0
   ·rw [if_pos h0] at h; cases h
   ·rw [if_neg h0] at h ⊢
    refine qoj H ss _ ?_ h
    unfold entF at h0 ⊢
    cases e2 : fstI (fun k => (entN (entA l j) k).toList == (bsOf s).toList) (entA l j).length with
    | none => rw [e2] at h0; exact absurd rfl h0
    | some k => exact H.ent j k (qbo e).1 (qe5.1 e2).2.1
  ·rw [if_neg hk] at h; cases h
theorem qol {l : List T} (H : Tre l) (p : By) : (walkR l p).1 = inoS l p := by
 have h1 : isN l 1 := by
  obtain ⟨nx, hA⟩ := H.nx
  exact ⟨0, by rw [← H.root.1]; exact qhp hA (by have := H.h1; omega)⟩
 have hn : (walkR l p).2 = 0 → isN l (walkR l p).1 := by
  unfold walkR
  cases p == [47] with
  | true => intro _; exact h1
  | false =>
   cases okP p with
   | true => exact qoj H _ _ h1
   | false => intro h; cases h
 have hz : (walkR l p).2 ≠ 0 → (walkR l p).1 = 0 := by
  unfold walkR
  cases p == [47] with
  | true => intro h; exact absurd rfl h
  | false =>
   cases okP p with
   | true => exact qoi l _ _
   | false => intro _; rfl
 unfold inoS statT statO
 by_cases c : (walkR l p).2 = 0
 ·rw [if_pos c]
  obtain ⟨j, hj⟩ := hn c
  rw [hj]
  exact (qbo hj).2.symm
 ·rw [if_neg c]
  exact hz c
theorem qxs {l : List T} (H : Tre l) {P : List By} {i : Nat} (hi : i < P.length) (h : fstI (fun k => (walkR l (P.getD k [])).1 == inoS l (P.getD i [])) i = none) : frs l P (inoS l (P.getD i [])) = P.getD i [] := by
 unfold frs
 have : fstI (fun k => (walkR l (P.getD k [])).1 == inoS l (P.getD i [])) P.length = some i := qe5.2 ⟨by rw [qol H]; simp, hi, qe6.1 h⟩
 rw [this]
theorem qwd (C : Orc) {lf : Nat} (hlf : 33554432 ≤ lf) {l : List T} (H : Tre l) (nx : Int) (P : List By) (hP : ∀ p ∈ P, p.length ≤ 1048576) (hl : P.length ≤ 1048576)
 (hS : ∀ p : By, p.length ≤ 1048576 → ∃ v, C 32 [.st [.sl l, .i .i64 nx], .s (bsOf p)] = some [statT l p, v]) (hW : ∀ p : By, p.length ≤ 1048576 → C 33 [.st [.sl l, .i .i64 nx], .s (bsOf p)] = some [.i .i64 (walkR l p).1, .i .i64 (walkR l p).2]) : ∀ (k i m : Nat), i + k = P.length → k < m →
 f11_0 C lf m (P.length : Int) (i : Int) l nx (DE l P i) (SL P) = some [T.i .i64 0, T.sl (DE l P P.length)] := by
 intro k
 have pm : ∀ i, i < P.length → (P.getD i []).length ≤ 1048576 := fun i hi => hP _ (by rw [List.getD_eq_getElem?_getD, List.getElem?_eq_getElem hi]; exact List.getElem_mem hi)
 induction k with
 | zero =>
  intro i m hi hm
  obtain ⟨m, rfl⟩ : ∃ z, m = z + 1 := ⟨m - 1, by omega⟩
  rw [f11_0_u]
  unfold f11_0_s
  rw [iLt_f (by omega), show i = P.length by omega]
  rfl
 | succ k ih =>
  intro i m hi hm
  obtain ⟨m, rfl⟩ : ∃ z, m = z + 1 := ⟨m - 1, by omega⟩
  obtain ⟨v, e⟩ := hS _ (pm i (by omega))
  rw [f11_0_u]
  unfold f11_0_s
  have R : ∀ s : By, (some [T.i .i64 0, T.s (bsOf (P.getD i [])), T.s (bsOf s), T.i .i64 (P.length : Int), T.i .i64 (i : Int), T.sl l, T.i .i64 nx, T.sl (DE l P i), T.i .i64 (asI (T.cell (statT l (P.getD i [])) 0)), T.i .i64 (asI (T.cell (statT l (P.getD i [])) 1)), T.i .i64 (asI (T.cell (statT l (P.getD i [])) 2)), T.sl (asL (T.cell (statT l (P.getD i [])) 3)), T.sl (asL (T.cell (statT l (P.getD i [])) 4)), T.sl (asL (T.cell (statT l (P.getD i [])) 5)), T.sl (SL P)] : Option (List T)) =
   some [T.i .i64 0, T.s (bsOf (P.getD i [])), T.s (bsOf s), T.i .i64 (P.length : Int), T.i .i64 (i : Int), T.sl l, T.i .i64 nx, T.sl (DE l P i), T.i .i64 (asI (T.cell (statT l (P.getD i [])) 0)), T.i .i64 (asI (T.cell (statT l (P.getD i [])) 1)), T.i .i64 (asI (T.cell (statT l (P.getD i [])) 2)), T.sl (asL (T.cell (statT l (P.getD i [])) 3)), T.sl (asL (T.cell (statT l (P.getD i [])) 4)), T.sl (asL (T.cell (statT l (P.getD i [])) 5)), T.sl (SL P)] := fun _ => rfl
  have e1 : f11_1 C lf [statT l (P.getD i []), v] (P.length : Int) (i : Int) l nx (DE l P i) (SL P) lf 0 = some [T.i .i64 0, T.s (bsOf (P.getD i [])), T.s (bsOf (frs l P (inoS l (P.getD i [])))), T.i .i64 (P.length : Int), T.i .i64 (i : Int), T.sl l, T.i .i64 nx, T.sl (DE l P i), T.i .i64 (asI (T.cell (statT l (P.getD i [])) 0)), T.i .i64 (asI (T.cell (statT l (P.getD i [])) 1)), T.i .i64 (asI (T.cell (statT l (P.getD i [])) 2)), T.sl (asL (T.cell (statT l (P.getD i [])) 3)), T.sl (asL (T.cell (statT l (P.getD i [])) 4)), T.sl (asL (T.cell (statT l (P.getD i [])) 5)), T.sl (SL P)] := by
   rw [qc4 (F := fun m j => f11_1 C lf [statT l (P.getD i []), v] (P.length : Int) (i : Int) l nx (DE l P i) (SL P) m j) (p := fun k => (walkR l (P.getD k [])).1 == inoS l (P.getD i []))
    (X := fun k => some [T.i .i64 0, T.s (bsOf (P.getD i [])), T.s (bsOf (frs l P (inoS l (P.getD k [])))), T.i .i64 (P.length : Int), T.i .i64 (i : Int), T.sl l, T.i .i64 nx, T.sl (DE l P i), T.i .i64 (asI (T.cell (statT l (P.getD i [])) 0)), T.i .i64 (asI (T.cell (statT l (P.getD i [])) 1)), T.i .i64 (asI (T.cell (statT l (P.getD i [])) 2)), T.sl (asL (T.cell (statT l (P.getD i [])) 3)), T.sl (asL (T.cell (statT l (P.getD i [])) 4)), T.sl (asL (T.cell (statT l (P.getD i [])) 5)), T.sl (SL P)])
    (Y := some [T.i .i64 0, T.s (bsOf (P.getD i [])), T.s (bsOf (P.getD i [])), T.i .i64 (P.length : Int), T.i .i64 (i : Int), T.sl l, T.i .i64 nx, T.sl (DE l P i), T.i .i64 (asI (T.cell (statT l (P.getD i [])) 0)), T.i .i64 (asI (T.cell (statT l (P.getD i [])) 1)), T.i .i64 (asI (T.cell (statT l (P.getD i [])) 2)), T.sl (asL (T.cell (statT l (P.getD i [])) 3)), T.sl (asL (T.cell (statT l (P.getD i [])) 4)), T.sl (asL (T.cell (statT l (P.getD i [])) 5)), T.sl (SL P)]) (len := i) (fun m j hj => by
     rw [f11_1_u]
     unfold f11_1_s
     simp only [Int.toNat_natCast, nth0]
     rw [iLt_t (by rw [qh8]; omega), qa1 (show j < (DE l P i).length by rw [qh8]; exact hj), DE_at hj, show asS (T.cell (enT l P j) 0) = bsOf (P.getD j []) from rfl, hW _ (pm j (by omega)), show asS (T.cell (enT l P j) 4) = bsOf (frs l P (inoS l (P.getD j []))) from rfl, SL_at (show i < P.length by omega), asS_s, qa4 hj (by omega)]
     simp only [qa0, Option.bind_some, nth0, asI_i]
     rfl) (fun m => by
     rw [f11_1_u]
     unfold f11_1_s
     simp only [Int.toNat_natCast, nth0]
     rw [iLt_f (by rw [qh8]; omega), SL_at (show i < P.length by omega), asS_s]
     rfl) (n := lf) (by omega)]
   cases e2 : fstI (fun k => (walkR l (P.getD k [])).1 == inoS l (P.getD i [])) i with
   | none => rw [qxs H (by omega) e2]
   | some k' =>
    have h2 := (qe5.1 e2).1
    rw [qol H, beq_iff_eq] at h2
    simp only
    rw [h2]
  rw [iLt_t (by omega), qa1 (show i < (SL P).length by rw [qax]; omega)]
  simp only [Int.toNat_natCast]
  rw [SL_at (by omega), asS_s, e]
  simp only [qa0, Option.bind_some]
  rw [e1]
  simp only [Option.bind_some, nth0, nthS, asI_i, asL_l, asS_s]
  rw [qf0 (by rw [qh8]; omega), qa4 (show i < P.length by omega) (by omega)]
  have I := ih (i + 1) m (by omega) (by omega)
  rw [← qx5] at I
  exact I
theorem qm0 {rec : Int → ByteArray → Option (List ByteArray)} {E : List T} {p : ByteArray} {c : Nat} (hE : ∀ k, k < E.length → (entN E k).size ≤ 14) (hr : ∀ x q L, rec x q = some L → ∀ s ∈ L, s.size ≤ q.size + c) : ∀ {k i : Nat} {L : List ByteArray}, i + k = E.length → pthG rec E p k i = some L → ∀ s ∈ L, s.size ≤ p.size + (c + 15)
 | 0, i, L, _, h, s, hs => by cases h; cases hs
 | k + 1, i, L, hi, h, s, hs => by
  obtain ⟨L1, L', a1, a2, rfl⟩ := qks h
  have hn := hE i (by omega)
  have hsz : (p ++ slh ++ entN E i).size ≤ p.size + 15 := by rw [qe9, qe9]; have : slh.size = 1 := rfl; omega
  rcases List.mem_cons.1 hs with e | e
  ·rw [e]; omega
  ·rcases List.mem_append.1 e with e | e
   ·have := hr _ _ _ a1 s e; omega
   ·exact qm0 hE hr (by omega) a2 s e
theorem qtr {l : List T} (H : Tre l) (x : Int) : ∀ k, k < (entO l x).length → (entN (entO l x) k).size ≤ 14 := by
 intro k hk
 unfold entO at *
 cases e : plc l x with
 | none => rw [e] at hk; exact absurd hk (by simp)
 | some j => rw [e] at hk; exact H.name j k (qbo e).1 hk
theorem qp3 {l : List T} (H : Tre l) : ∀ (f : Nat) (x : Int) (p : ByteArray) (L : List ByteArray), pthF l f (entO l x) p = some L → ∀ s ∈ L, s.size ≤ p.size + 15 * f
 | 0, _, _, _, h => by cases h
 | f + 1, x, p, L, h => fun s hs => by
  have := qm0 (c := 15 * f) (qtr H x) (fun y q L' h' => qp3 H f y q L' h') (Nat.zero_add _) h s hs
  omega
theorem qqr {l : List T} (H : Tre l) {L : List ByteArray} (h : pthF l 32 (entA l 0) ⟨#[]⟩ = some L) (hL : L.length ≤ 9600) : (qbw l L).length ≤ 9600 ∧ ∀ p ∈ qbw l L, p.length ≤ 480 := by
 obtain ⟨nx, hA⟩ := H.nx
 have h0 : plc l 1 = some 0 := by rw [← H.root.1]; exact qhp hA (by have := H.h1; omega)
 have e1 : entO l 1 = entA l 0 := by unfold entO; rw [h0]
 rw [← e1] at h
 have hp := List.mergeSort_perm (L.map fun s => s.data.toList) le8
 refine ⟨by unfold qbw; rw [hp.length_eq, List.length_map]; exact hL, fun p hp' => ?_⟩
 obtain ⟨s, hs, rfl⟩ := List.mem_map.1 (hp.mem_iff.1 hp')
 have h1 := qp3 H 32 1 ⟨#[]⟩ L h s hs
 have h2 : (⟨#[]⟩ : ByteArray).size = 0 := rfl
 have h3 : s.data.toList.length = s.size := rfl
 omega
theorem qmn {lf k0 : Nat} (hk0 : 40 ≤ k0) (hlf : 33554432 ≤ lf) (l : List T) (nx : Int) (hs : l.length + tls l ≤ 16777216) : ∃ P : List By, Cc lf (k0 + 2) 10 [.st [.sl l, .i .i64 nx]] = some [.sl (DE l P P.length)] ∧ Cc lf (k0 + 2) 11 [.st [.sl l, .i .i64 nx]] = some [.sl (DE l P P.length)] ∧
 (P = [] ∨ (Tre l ∧ P.length ≤ 9600 ∧ ∀ p ∈ P, p.length ≤ 480)) := by
 have sp := qrb (lf := lf) hk0 hlf l nx hs
 have ip := qrh (lf := lf) hk0 hlf l nx hs
 have s1 := fun p h => qy4 (lf := lf) (d := k0 - 5) hlf l nx hs p h
 have s2 := fun x P hP hl => qw5 (lf := lf) (d := k0 - 5) hlf l nx x hs P hP hl
 have i1 := fun p h => qy7 (lf := lf) (d := k0 - 6) hlf l nx hs p h
 have i2 := fun p h => qu8 (lf := lf) (d := k0 - 5) hlf l nx hs p h
 rw [show k0 - 5 + 6 = k0 + 1 by omega] at s1 s2 i2
 rw [show k0 - 6 + 7 = k0 + 1 by omega] at i1
 have key : ∀ C : Orc, ((treeB l nx = false ∧ C 28 [.st [.sl l, .i .i64 nx]] = some [.sl []]) ∨ ∃ L, treeB l nx = true ∧ pthF l 32 (entA l 0) ⟨#[]⟩ = some L ∧ L.length ≤ 9600 ∧ C 28 [.st [.sl l, .i .i64 nx]] = some [.sl (SL (qbw l L))]) →
  ((treeB l nx = false ∧ C 31 [.st [.sl l, .i .i64 nx]] = some [.sl []]) ∨ ∃ L, treeB l nx = true ∧ pthF l 32 (entA l 0) ⟨#[]⟩ = some L ∧ L.length ≤ 9600 ∧ C 31 [.st [.sl l, .i .i64 nx]] = some [.sl (SL (qbw l L))]) →
  (∀ p : By, p.length ≤ 1048576 → ∃ v, C 29 [.st [.sl l, .i .i64 nx], .s (bsOf p)] = some [statT l p, v]) →
  (∀ x (P : List By), (∀ p ∈ P, p.length ≤ 1048576) → P.length ≤ 1048576 → C 30 [.st [.sl l, .i .i64 nx], .sl (SL P), .i .i64 x] = some [.s (bsOf (frs l P x))]) →
  (∀ p : By, p.length ≤ 1048576 → ∃ v, C 32 [.st [.sl l, .i .i64 nx], .s (bsOf p)] = some [statT l p, v]) →
  (∀ p : By, p.length ≤ 1048576 → C 33 [.st [.sl l, .i .i64 nx], .s (bsOf p)] = some [.i .i64 (walkR l p).1, .i .i64 (walkR l p).2]) →
  ∃ P : List By, f10 C lf l nx = some [.sl (DE l P P.length)] ∧ f11 C lf l nx = some [.sl (DE l P P.length)] ∧ (P = [] ∨ (Tre l ∧ P.length ≤ 9600 ∧ ∀ p ∈ P, p.length ≤ 480)) := by
  intro C sp ip s1 s2 i1 i2
  unfold f10 f10_t f11 f11_t
  dsimp only
  rcases sp with ⟨hT, e1⟩ | ⟨L, hT, hL, hl, e1⟩
  ·rcases ip with ⟨_, e2⟩ | ⟨L', hT', _⟩
   ·refine ⟨[], ?_, ?_, .inl rfl⟩
    ·have := qq3 C (lf := lf) l nx [] (fun p hp => by cases hp) (by simp) s1 (fun x => s2 x [] (fun p hp => by cases hp) (by simp)) 0 0 lf rfl (by omega)
     rw [show ((0 : Nat) : Int) = 0 from rfl] at this
     rw [e1]
     simp only [Option.bind_some]
     rw [show f10_0 C lf l nx [T.sl []] lf 0 [] = _ from this]
     rfl
    ·rw [e2]
     simp only [Option.bind_some, nth0, asL_l]
     obtain ⟨m, hm⟩ : ∃ z, lf = z + 1 := ⟨lf - 1, by omega⟩
     have : ∀ m, f11_0 C lf (m + 1) (([] : List T).length : Int) 0 l nx [] [] = some [T.i .i64 0, T.sl []] := fun m => by
      rw [f11_0_u]; rfl
     have h := this m
     rw [← hm] at h
     rw [h]
     rfl
   ·rw [hT] at hT'; cases hT'
  ·rcases ip with ⟨hT', _⟩ | ⟨L', _, hL', _, e2⟩
   ·rw [hT] at hT'; cases hT'
   ·rw [hL] at hL'
    cases hL'
    have H := qrw hT
    obtain ⟨q1, q2⟩ := qqr H hL hl
    have q2' : ∀ p ∈ qbw l L, p.length ≤ 1048576 := fun p hp => by have := q2 p hp; omega
    refine ⟨qbw l L, ?_, ?_, .inr ⟨H, q1, q2⟩⟩
    ·have := qq3 C (lf := lf) l nx (qbw l L) q2' (by omega) s1 (fun x => s2 x _ q2' (by omega)) (qbw l L).length 0 lf (Nat.zero_add _) (by omega)
     rw [show ((0 : Nat) : Int) = 0 from rfl, show DE l (qbw l L) 0 = [] from rfl] at this
     rw [e1]
     simp only [Option.bind_some]
     rw [this]
     rfl
    ·have := qwd C hlf H nx (qbw l L) q2' (by omega) i1 i2 (qbw l L).length 0 lf (Nat.zero_add _) (by omega)
     rw [show ((0 : Nat) : Int) = 0 from rfl, show DE l (qbw l L) 0 = [] from rfl] at this
     rw [e2]
     simp only [Option.bind_some, nth0, asL_l]
     rw [qax, this]
     rfl
 obtain ⟨P, h1, h2, h3⟩ := key (Cc lf (k0 + 1)) sp ip s1 s2 i1 i2
 exact ⟨P, (f10_eq (Cc lf (k0 + 1)) lf l nx).trans h1, (f11_eq (Cc lf (k0 + 1)) lf l nx).trans h2, h3⟩
def sameB (P : Nat → Bool) (l0 l1 : List T) : Bool := ((l0.length : Int) == (l1.length : Int)) && allB P l0.length
def byteE (l0 l1 : List T) (j : Nat) : Bool := asI (l0.getD j T.u) == asI (l1.getD j T.u)
def attrE (l0 l1 : List T) (j : Nat) : Bool := (asS (T.cell (l0.getD j T.u) 0) == asS (T.cell (l1.getD j T.u) 0)) && ((asS (T.cell (l0.getD j T.u) 1) == asS (T.cell (l1.getD j T.u) 1)) && true)
theorem qjw {l0 l1 : List T} (h : l0.length = l1.length) : ((l0.length : Int) == (l1.length : Int)) = true := by rw [beq_iff_eq]; omega
theorem qjv {l0 l1 : List T} (h : ¬ l0.length = l1.length) : ((l0.length : Int) == (l1.length : Int)) = false := by rw [beq_eq_false_iff_ne, ne_eq]; omega
theorem qre {lf d : Nat} (hlf : 33554432 ≤ lf) (l0 l1 : List T) (hs : l0.length ≤ 16777216) : Cc lf (d + 1) 47 [.sl l0, .sl l1] = some [.b (sameB (byteE l0 l1) l0 l1)] := by
 refine (f47_eq (Cc lf d) lf l0 l1).trans ?_
 unfold f47 f47_t sameB
 dsimp only
 by_cases h : l0.length = l1.length
 ·have L := qav (F := fun n j => f47_0 (Cc lf d) lf l0 l1 n j) (P := byteE l0 l1) (X := some [T.i .i64 0, T.b false]) (Y := some [T.i .i64 1]) (len := l0.length) (fun n j hj => by
   rw [f47_0_u]
   unfold f47_0_s byteE
   rw [iLt_t (by omega), qa1 hj, qa1 (show j < l1.length by omega), qa4 hj (by omega)]
   simp only [qa0, Int.toNat_natCast, bne, qbg]) (fun n => by
   rw [f47_0_u]
   unfold f47_0_s
   rw [iLt_f (by omega)]
   rfl) (n := lf) (by omega)
  simp only [bne, qjw h, Bool.not_true, qa6, Bool.true_and]
  rw [L]
  cases allB (byteE l0 l1) l0.length <;> rfl
 ·simp only [bne, qjv h]
  rfl
theorem qrk {lf d : Nat} (hlf : 33554432 ≤ lf) (l0 l1 : List T) (hs : l0.length ≤ 16777216) : Cc lf (d + 1) 54 [.sl l0, .sl l1] = some [.b (sameB (byteE l0 l1) l0 l1)] := by
 refine (f54_eq (Cc lf d) lf l0 l1).trans ?_
 unfold f54 f54_t sameB
 dsimp only
 by_cases h : l0.length = l1.length
 ·have L := qav (F := fun n j => f54_0 (Cc lf d) lf l0 l1 n j) (P := byteE l0 l1) (X := some [T.i .i64 0, T.b false]) (Y := some [T.i .i64 1]) (len := l0.length) (fun n j hj => by
   rw [f54_0_u]
   unfold f54_0_s byteE
   rw [iLt_t (by omega), qa1 hj, qa1 (show j < l1.length by omega), qa4 hj (by omega)]
   simp only [qa0, Int.toNat_natCast, bne, qbg]) (fun n => by
   rw [f54_0_u]
   unfold f54_0_s
   rw [iLt_f (by omega)]
   rfl) (n := lf) (by omega)
  simp only [bne, qjw h, Bool.not_true, qa6, Bool.true_and]
  rw [L]
  cases allB (byteE l0 l1) l0.length <;> rfl
 ·simp only [bne, qjv h]
  rfl
theorem qkb {lf d : Nat} (hlf : 33554432 ≤ lf) (l0 l1 : List T) (hs : l0.length ≤ 16777216) : Cc lf (d + 1) 24 [.sl l0, .sl l1] = some [.b (sameB (attrE l0 l1) l0 l1)] := by
 refine (f24_eq (Cc lf d) lf l0 l1).trans ?_
 unfold f24 f24_t sameB
 dsimp only
 by_cases h : l0.length = l1.length
 ·have L := qav (F := fun n j => f24_0 (Cc lf d) lf l0 l1 n j) (P := attrE l0 l1) (X := some [T.i .i64 0, T.b false]) (Y := some [T.i .i64 1]) (len := l0.length) (fun n j hj => by
   rw [f24_0_u]
   unfold f24_0_s attrE
   rw [iLt_t (by omega), qa1 hj, qa1 (show j < l1.length by omega), qa4 hj (by omega)]
   simp only [qa0, Int.toNat_natCast, bne, qbg]) (fun n => by
   rw [f24_0_u]
   unfold f24_0_s
   rw [iLt_f (by omega)]
   rfl) (n := lf) (by omega)
  simp only [bne, qjw h, Bool.not_true, qa6, Bool.true_and]
  rw [L]
  cases allB (attrE l0 l1) l0.length <;> rfl
 ·simp only [bne, qjv h]
  rfl
theorem qka {lf d : Nat} (hlf : 33554432 ≤ lf) (l0 l1 : List T) (hs : l0.length ≤ 16777216) : Cc lf (d + 1) 18 [.sl l0, .sl l1] = some [.b (sameB (attrE l0 l1) l0 l1)] := by
 refine (f18_eq (Cc lf d) lf l0 l1).trans ?_
 unfold f18 f18_t sameB
 dsimp only
 by_cases h : l0.length = l1.length
 ·have L := qav (F := fun n j => f18_0 (Cc lf d) lf l0 l1 n j) (P := attrE l0 l1) (X := some [T.i .i64 0, T.b false]) (Y := some [T.i .i64 1]) (len := l0.length) (fun n j hj => by
   rw [f18_0_u]
   unfold f18_0_s attrE
   rw [iLt_t (by omega), qa1 hj, qa1 (show j < l1.length by omega), qa4 hj (by omega)]
   simp only [qa0, Int.toNat_natCast, bne, qbg]) (fun n => by
   rw [f18_0_u]
   unfold f18_0_s
   rw [iLt_f (by omega)]
   rfl) (n := lf) (by omega)
  simp only [bne, qjw h, Bool.not_true, qa6, Bool.true_and]
  rw [L]
  cases allB (attrE l0 l1) l0.length <;> rfl
 ·simp only [bne, qjv h]
  rfl
def etE (s0 : ByteArray) (n0 : Int) (d0 a0 : List T) (f0 : ByteArray) (s1 : ByteArray) (n1 : Int) (d1 a1 : List T) (f1 : ByteArray) : Bool := (s0.toList == s1.toList) && ((n0 == n1) && ((f0.toList == f1.toList) && (sameB (byteE d0 d1) d0 d1 && sameB (attrE a0 a1) a0 a1)))
def etA (D0 D1 : List T) (j : Nat) : Bool := etE (asS (T.cell (D0.getD j T.u) 0)) (asI (T.cell (D0.getD j T.u) 1)) (asL (T.cell (D0.getD j T.u) 2)) (asL (T.cell (D0.getD j T.u) 3)) (asS (T.cell (D0.getD j T.u) 4)) (asS (T.cell (D1.getD j T.u) 0)) (asI (T.cell (D1.getD j T.u) 1)) (asL (T.cell (D1.getD j T.u) 2)) (asL (T.cell (D1.getD j T.u) 3)) (asS (T.cell (D1.getD j T.u) 4))
theorem qu6 {lf d : Nat} (hlf : 33554432 ≤ lf) (s0 : ByteArray) (n0 : Int) (d0 a0 : List T) (f0 s1 : ByteArray) (n1 : Int) (d1 a1 : List T) (f1 : ByteArray) (h1 : d0.length ≤ 16777216) (h2 : a0.length ≤ 16777216) :
 Cc lf (d + 2) 20 [.st [.s s0, .i .i64 n0, .sl d0, .sl a0, .s f0], .st [.s s1, .i .i64 n1, .sl d1, .sl a1, .s f1]] = some [.b (etE s0 n0 d0 a0 f0 s1 n1 d1 a1 f1)] := by
 refine (f20_eq (Cc lf (d + 1)) lf s0 n0 d0 a0 f0 s1 n1 d1 a1 f1).trans ?_
 unfold f20 f20_t etE
 rw [qre hlf d0 d1 h1, qka hlf a0 a1 h2]
 simp only [Option.bind_some, nth0, asB_b]
 cases s0.toList == s1.toList <;> cases n0 == n1 <;> cases f0.toList == f1.toList <;> cases sameB (byteE d0 d1) d0 d1 <;> rfl
theorem qu9 {lf d : Nat} (hlf : 33554432 ≤ lf) (s0 : ByteArray) (n0 : Int) (d0 a0 : List T) (f0 s1 : ByteArray) (n1 : Int) (d1 a1 : List T) (f1 : ByteArray) (h1 : d0.length ≤ 16777216) (h2 : a0.length ≤ 16777216) :
 Cc lf (d + 2) 26 [.st [.s s0, .i .i64 n0, .sl d0, .sl a0, .s f0], .st [.s s1, .i .i64 n1, .sl d1, .sl a1, .s f1]] = some [.b (etE s0 n0 d0 a0 f0 s1 n1 d1 a1 f1)] := by
 refine (f26_eq (Cc lf (d + 1)) lf s0 n0 d0 a0 f0 s1 n1 d1 a1 f1).trans ?_
 unfold f26 f26_t etE
 rw [qrk hlf d0 d1 h1, qkb hlf a0 a1 h2]
 simp only [Option.bind_some, nth0, asB_b]
 cases s0.toList == s1.toList <;> cases n0 == n1 <;> cases f0.toList == f1.toList <;> cases sameB (byteE d0 d1) d0 d1 <;> rfl
theorem qoq {l : List T} (hs : l.length + tls l ≤ 16777216) (p : By) (k : Nat) : (asL (T.cell (statT l p) k)).length ≤ 16777216 := by
 unfold statT
 cases statO l p with
 | none =>
  simp only [inoZ, T.cell]
  rcases k with _ | _ | _ | _ | _ | _ | k <;> exact Nat.zero_le _
 | some j =>
  simp only [inoT, T.cell]
  rcases k with _ | _ | _ | _ | _ | _ | k
  ·exact Nat.zero_le _
  ·exact Nat.zero_le _
  ·exact Nat.zero_le _
  ·exact qd2 hs j 3
  ·exact qd2 hs j 4
  ·exact qd2 hs j 5
  ·exact Nat.zero_le _
theorem quw {l : List T} (hs : l.length + tls l ≤ 16777216) {P : List By} {n j : Nat} (h : j < n) : (asL (T.cell ((DE l P n).getD j T.u) 2)).length ≤ 16777216 ∧ (asL (T.cell ((DE l P n).getD j T.u) 3)).length ≤ 16777216 := by
 rw [DE_at h]
 exact ⟨qoq hs _ 3, qoq hs _ 5⟩
theorem qs7 (C : Orc) {lf : Nat} (hlf : 33554432 ≤ lf) (D0 D1 : List T) (hl : D0.length = D1.length) (h9 : D0.length ≤ 16777216) (hC : ∀ j, j < D0.length → C 20 [.st [.s (asS (T.cell (D0.getD j T.u) 0)), .i .i64 (asI (T.cell (D0.getD j T.u) 1)), .sl (asL (T.cell (D0.getD j T.u) 2)), .sl (asL (T.cell (D0.getD j T.u) 3)), .s (asS (T.cell (D0.getD j T.u) 4))], .st [.s (asS (T.cell (D1.getD j T.u) 0)), .i .i64 (asI (T.cell (D1.getD j T.u) 1)), .sl (asL (T.cell (D1.getD j T.u) 2)), .sl (asL (T.cell (D1.getD j T.u) 3)), .s (asS (T.cell (D1.getD j T.u) 4))]] = some [.b (etA D0 D1 j)]) :
 f6_0 C lf [.sl D0] [.sl D1] lf 0 = bif allB (etA D0 D1) D0.length then some [T.i .i64 1] else some [T.i .i64 0, T.b false] :=
 qav (F := fun n j => f6_0 C lf [.sl D0] [.sl D1] n j) (fun n j hj => by
  rw [f6_0_u]
  unfold f6_0_s
  simp only [nth0, asL_l, Int.toNat_natCast]
  rw [iLt_t (by omega), qa1 hj, qa1 (show j < D1.length by omega), hC j hj, qa4 hj (by omega)]
  simp only [qa0, Option.bind_some, nth0, asB_b]
  cases etA D0 D1 j <;> rfl) (fun n => by
  rw [f6_0_u]
  unfold f6_0_s
  simp only [nth0, asL_l]
  rw [iLt_f (by omega)]
  rfl) (by omega)
theorem qyu (C : Orc) {lf : Nat} (hlf : 33554432 ≤ lf) (D0 D1 : List T) (h9 : D0.length ≤ 16777216) (hC : ∀ j, j < D0.length → C 26 [.st [.s (asS (T.cell (D0.getD j T.u) 0)), .i .i64 (asI (T.cell (D0.getD j T.u) 1)), .sl (asL (T.cell (D0.getD j T.u) 2)), .sl (asL (T.cell (D0.getD j T.u) 3)), .s (asS (T.cell (D0.getD j T.u) 4))], .st [.s (asS (T.cell (D1.getD j T.u) 0)), .i .i64 (asI (T.cell (D1.getD j T.u) 1)), .sl (asL (T.cell (D1.getD j T.u) 2)), .sl (asL (T.cell (D1.getD j T.u) 3)), .s (asS (T.cell (D1.getD j T.u) 4))]] = some [.b (etA D0 D1 j)]) :
 f25 C lf D0 D1 = some [.b (sameB (etA D0 D1) D0 D1)] := by
 unfold f25 f25_t sameB
 dsimp only
 by_cases h : D0.length = D1.length
 ·have L := qav (F := fun n j => f25_0 C lf D0 D1 n j) (P := etA D0 D1) (X := some [T.i .i64 0, T.b false]) (Y := some [T.i .i64 1]) (len := D0.length) (fun n j hj => by
   rw [f25_0_u]
   unfold f25_0_s
   simp only [Int.toNat_natCast]
   rw [iLt_t (by omega), qa1 hj, qa1 (show j < D1.length by omega), hC j hj, qa4 hj (by omega)]
   simp only [qa0, Option.bind_some, nth0, asB_b]
   cases etA D0 D1 j <;> rfl) (fun n => by
   rw [f25_0_u]
   unfold f25_0_s
   rw [iLt_f (by omega)]
   rfl) (n := lf) (by omega)
  simp only [bne, qjw h, Bool.not_true, qa6, Bool.true_and]
  rw [L]
  cases allB (etA D0 D1) D0.length <;> rfl
 ·simp only [bne, qjv h]
  rfl
def atr1 (l : List T) : List T := asL (T.cell (nth (inoR l (plc l 1)) 0) 5)
theorem qq8 {l : List T} (hs : l.length + tls l ≤ 16777216) : (atr1 l).length ≤ 16777216 := by
 unfold atr1
 cases plc l 1 with
 | none => exact Nat.zero_le _
 | some j => exact qd2 hs j 5
theorem same {lf k0 : Nat} (hk0 : 40 ≤ k0) (hlf : 33554432 ≤ lf) (l : List T) (nx : Int) (hf : fitE true qa9 (.st [.sl l, .i .i64 nx])) (z : tl (.st [.sl l, .i .i64 nx]) ≤ 1048576) (l' : List T) (nx' : Int) (hf' : fitE true qa9 (.st [.sl l', .i .i64 nx'])) (z' : tl (.st [.sl l', .i .i64 nx']) ≤ 1048576) :
 ∃ r, Cc lf (k0 + 3) 6 [.st [.sl l, .i .i64 nx], .st [.sl l', .i .i64 nx']] = some [r] ∧ Cc lf (k0 + 3) 8 [.st [.sl l, .i .i64 nx], .st [.sl l', .i .i64 nx']] = some [r] ∧ (fitC .b r ∧ tl r ≤ 16777216) ∧ True := by
 simp only [tl, tls] at z z'
 have hs : l.length + tls l ≤ 16777216 := by omega
 have hs' : l'.length + tls l' ≤ 16777216 := by omega
 obtain ⟨P, p1, p2, _⟩ := qmn hk0 hlf l nx hs
 obtain ⟨P', p1', p2', _⟩ := qmn hk0 hlf l' nx' hs'
 have t1 := fun l nx hs => qmu (lf := lf) (d := k0 - 4) hlf l nx hs
 have t2 := fun l nx hs => qmv (lf := lf) (d := k0 - 4) hlf l nx hs
 have i1 := fun l nx x hs => qek (lf := lf) (d := k0 - 1) hlf l nx x hs
 have i2 := fun l nx x hs => qbq (lf := lf) (d := k0 - 1) hlf l nx x hs
 rw [show k0 - 4 + 6 = k0 + 2 by omega] at t1 t2
 rw [show k0 - 1 + 2 = k0 + 1 by omega] at i1
 rw [show k0 - 1 + 3 = k0 + 2 by omega] at i2
 have r1 : ∀ l nx, l.length + tls l ≤ 16777216 → Cc lf (k0 + 2) 19 [.st [.sl l, .i .i64 nx]] = some [.sl (atr1 l)] := fun l nx hs => by
  refine (f19_eq (Cc lf (k0 + 1)) lf l nx).trans ?_
  have h := i1 l nx 1 hs
  generalize Cc lf (k0 + 1) = C at h
  unfold f19 f19_t
  rw [h]
  rfl
 have q1 := qka (lf := lf) (d := k0 + 1) hlf (atr1 l) (atr1 l') (qq8 hs)
 have q2 := qkb (lf := lf) (d := k0 + 1) hlf (atr1 l) (atr1 l') (qq8 hs)
 have hP : (DE l P P.length).length ≤ 16777216 := by
  rename_i h1 _
  rcases h1 with h | h
  ·rw [h]; exact Nat.zero_le _
  ·rw [qh8]; omega
 have s1 : ∀ j, j < (DE l P P.length).length → Cc lf (k0 + 2) 20 [.st [.s (asS (T.cell ((DE l P P.length).getD j T.u) 0)), .i .i64 (asI (T.cell ((DE l P P.length).getD j T.u) 1)), .sl (asL (T.cell ((DE l P P.length).getD j T.u) 2)), .sl (asL (T.cell ((DE l P P.length).getD j T.u) 3)), .s (asS (T.cell ((DE l P P.length).getD j T.u) 4))], .st [.s (asS (T.cell ((DE l' P' P'.length).getD j T.u) 0)), .i .i64 (asI (T.cell ((DE l' P' P'.length).getD j T.u) 1)), .sl (asL (T.cell ((DE l' P' P'.length).getD j T.u) 2)), .sl (asL (T.cell ((DE l' P' P'.length).getD j T.u) 3)), .s (asS (T.cell ((DE l' P' P'.length).getD j T.u) 4))]] = some [.b (etA (DE l P P.length) (DE l' P' P'.length) j)] := fun j hj => by
  rw [qh8] at hj
  have h := quw (P := P) hs hj
  exact qu6 (d := k0) hlf _ _ _ _ _ _ _ _ _ _ h.1 h.2
 have s2 : ∀ j, j < (DE l P P.length).length → Cc lf (k0 + 1) 26 [.st [.s (asS (T.cell ((DE l P P.length).getD j T.u) 0)), .i .i64 (asI (T.cell ((DE l P P.length).getD j T.u) 1)), .sl (asL (T.cell ((DE l P P.length).getD j T.u) 2)), .sl (asL (T.cell ((DE l P P.length).getD j T.u) 3)), .s (asS (T.cell ((DE l P P.length).getD j T.u) 4))], .st [.s (asS (T.cell ((DE l' P' P'.length).getD j T.u) 0)), .i .i64 (asI (T.cell ((DE l' P' P'.length).getD j T.u) 1)), .sl (asL (T.cell ((DE l' P' P'.length).getD j T.u) 2)), .sl (asL (T.cell ((DE l' P' P'.length).getD j T.u) 3)), .s (asS (T.cell ((DE l' P' P'.length).getD j T.u) 4))]] = some [.b (etA (DE l P P.length) (DE l' P' P'.length) j)] := fun j hj => by
  rw [qh8] at hj
  have h := quw (P := P) hs hj
  have := qu9 (lf := lf) (d := k0 - 1) hlf (asS (T.cell ((DE l P P.length).getD j T.u) 0)) (asI (T.cell ((DE l P P.length).getD j T.u) 1)) _ _ (asS (T.cell ((DE l P P.length).getD j T.u) 4)) (asS (T.cell ((DE l' P' P'.length).getD j T.u) 0)) (asI (T.cell ((DE l' P' P'.length).getD j T.u) 1)) (asL (T.cell ((DE l' P' P'.length).getD j T.u) 2)) (asL (T.cell ((DE l' P' P'.length).getD j T.u) 3)) (asS (T.cell ((DE l' P' P'.length).getD j T.u) 4)) h.1 h.2
  rw [show k0 - 1 + 2 = k0 + 1 by omega] at this
  exact this
 have s3 : Cc lf (k0 + 2) 25 [.sl (DE l P P.length), .sl (DE l' P' P'.length), .u] = some [.b (sameB (etA (DE l P P.length) (DE l' P' P'.length)) (DE l P P.length) (DE l' P' P'.length))] := by
  show funK (Cc lf (k0 + 1)) env lf 6 fi25 [.sl (DE l P P.length), .sl (DE l' P' P'.length), .u] = _
  rw [f25_eq]
  exact qyu (Cc lf (k0 + 1)) hlf _ _ hP s2
 have key : ∀ C : Orc, (∀ l nx, l.length + tls l ≤ 16777216 → C 17 [.st [.sl l, .i .i64 nx]] = some [.b (treeB l nx)]) → (∀ l nx, l.length + tls l ≤ 16777216 → C 22 [.st [.sl l, .i .i64 nx]] = some [.b (treeB l nx)]) →
  (∀ l nx, l.length + tls l ≤ 16777216 → C 19 [.st [.sl l, .i .i64 nx]] = some [.sl (atr1 l)]) → (∀ l nx x, l.length + tls l ≤ 16777216 → C 23 [.st [.sl l, .i .i64 nx], .i .i64 x] = some (inoR l (plc l x))) →
  C 18 [.sl (atr1 l), .sl (atr1 l')] = some [.b (sameB (attrE (atr1 l) (atr1 l')) (atr1 l) (atr1 l'))] → C 24 [.sl (atr1 l), .sl (atr1 l')] = some [.b (sameB (attrE (atr1 l) (atr1 l')) (atr1 l) (atr1 l'))] →
  C 10 [.st [.sl l, .i .i64 nx]] = some [.sl (DE l P P.length)] → C 10 [.st [.sl l', .i .i64 nx']] = some [.sl (DE l' P' P'.length)] → C 11 [.st [.sl l, .i .i64 nx]] = some [.sl (DE l P P.length)] → C 11 [.st [.sl l', .i .i64 nx']] = some [.sl (DE l' P' P'.length)] →
  C 25 [.sl (DE l P P.length), .sl (DE l' P' P'.length), .u] = some [.b (sameB (etA (DE l P P.length) (DE l' P' P'.length)) (DE l P P.length) (DE l' P' P'.length))] →
  ((DE l P P.length).length = (DE l' P' P'.length).length → f6_0 C lf [.sl (DE l P P.length)] [.sl (DE l' P' P'.length)] lf 0 = bif allB (etA (DE l P P.length) (DE l' P' P'.length)) (DE l P P.length).length then some [T.i .i64 1] else some [T.i .i64 0, T.b false]) →
  ∃ b : Bool, f6 C lf l nx l' nx' = some [.b b] ∧ f8 C lf l nx l' nx' = some [.b b] := by
  intro C t1 t2 r1 i2 q1 q2 p1 p1' p2 p2' s3 s1
  refine ⟨treeB l nx && (treeB l' nx' && (sameB (attrE (atr1 l) (atr1 l')) (atr1 l) (atr1 l') && sameB (etA (DE l P P.length) (DE l' P' P'.length)) (DE l P P.length) (DE l' P' P'.length))), ?_, ?_⟩
  ·unfold f6 f6_t
   dsimp only
   rw [t1 l nx hs]
   simp only [Option.bind_some, nth0, asB_b]
   cases treeB l nx with
   | false => rfl
   | true =>
    rw [t1 l' nx' hs']
    simp only [Option.bind_some, nth0, asB_b, Bool.not_true, qa6]
    cases treeB l' nx' with
    | false => rfl
    | true =>
     rw [r1 l nx hs, r1 l' nx' hs']
     simp only [Option.bind_some, nth0, asL_l, Bool.not_true, qa6]
     rw [q1]
     simp only [Option.bind_some, nth0, asB_b]
     cases sameB (attrE (atr1 l) (atr1 l')) (atr1 l) (atr1 l') with
     | false => rfl
     | true =>
      rw [p1, p1']
      simp only [Option.bind_some, nth0, asL_l, Bool.not_true, qa6]
      unfold sameB
      by_cases h : (DE l P P.length).length = (DE l' P' P'.length).length
      ·rw [s1 h]
       simp only [bne, qjw h, Bool.not_true, qa6, Bool.true_and]
       cases allB (etA (DE l P P.length) (DE l' P' P'.length)) (DE l P P.length).length <;> rfl
      ·simp only [bne, qjv h]
       rfl
  ·unfold f8 f8_t
   rw [t2 l nx hs]
   simp only [Option.bind_some, nth0, asB_b]
   cases treeB l nx with
   | false => rfl
   | true =>
    rw [t2 l' nx' hs']
    simp only [Option.bind_some, nth0, asB_b, Bool.not_true, qa6]
    cases treeB l' nx' with
    | false => rfl
    | true =>
     rw [i2 l nx 1 hs, i2 l' nx' 1 hs']
     simp only [Option.bind_some, Bool.not_true, qa6]
     rw [show asL (T.cell (nth (inoR l (plc l 1)) 0) 5) = atr1 l from rfl, show asL (T.cell (nth (inoR l' (plc l' 1)) 0) 5) = atr1 l' from rfl, q2]
     simp only [Option.bind_some, nth0, asB_b]
     cases sameB (attrE (atr1 l) (atr1 l')) (atr1 l) (atr1 l') with
     | false => rfl
     | true =>
      rw [p2, p2']
      simp only [Option.bind_some, nth0, asL_l, qa0]
      rw [s3]
      rfl
 obtain ⟨b, e1, e2⟩ := key (Cc lf (k0 + 2)) t1 t2 r1 i2 q1 q2 p1 p1' p2 p2' s3 (fun h => qs7 (Cc lf (k0 + 2)) hlf _ _ h hP s1)
 exact ⟨.b b, (f6_eq (Cc lf (k0 + 2)) lf l nx l' nx').trans e1, (f8_eq (Cc lf (k0 + 2)) lf l nx l' nx').trans e2, ⟨trivial, Nat.zero_le _⟩, trivial⟩
theorem lawB {lf k0 : Nat} (hk0 : 40 ≤ k0) (hlf : 33554432 ≤ lf) {t0 : T} (ht0 : fitE true qa9 t0) {t1 : T} (ht1 : fitE true qa9 t1) : Cc lf (k0 + 4) 3 [t0, t1] = some [.b true] := by
 have hf0 := ht0
 obtain ⟨p0_0, p0_1, rfl, w0_0, w0_1⟩ := qak ht0
 have hf1 := ht1
 obtain ⟨p1_0, p1_1, rfl, w1_0, w1_1⟩ := qak ht1
 refine (f3_eq (Cc lf (k0 + 3)) lf p0_0 p0_1 p1_0 p1_1).trans ?_
 unfold f3 f3_t
 rcases sz5 hlf (d := (k0 + 3)) (by omega) _ hf0 1048576 (by omega) (by omega) with e | ⟨y1, e1, g1, zz0⟩
 ·rw [e]; rfl
 rw [e1]
 simp only [Option.bind_some, nth0, asI_i]
 rw [iLt_f (show ¬ y1 < 0 by omega), qa6]
 have z0 : tl (T.st [T.sl p0_0, T.i .i64 p0_1]) ≤ 1048576 := by omega
 rcases sz5 hlf (d := (k0 + 3)) (by omega) _ hf1 y1 (by omega) (by omega) with e | ⟨y2, e2, g2, zz1⟩
 ·rw [e]; rfl
 rw [e2]
 simp only [Option.bind_some, nth0, asI_i]
 rw [iLt_f (show ¬ y2 < 0 by omega), qa6]
 have z1 : tl (T.st [T.sl p1_0, T.i .i64 p1_1]) ≤ 1048576 := by omega
 have eT0 := to7 hlf (d := (k0 + 3)) (by omega) _ hf0 (by omega)
 have eT1 := to7 hlf (d := (k0 + 3)) (by omega) _ hf1 (by omega)
 obtain ⟨r0, eS, eI, ⟨hr0, zr0⟩, _⟩ := same hk0 hlf p0_0 p0_1 hf0 z0 p1_0 p1_1 hf1 z1
 have hR0 := hr0
 obtain ⟨R0_0, rfl⟩ := qyq hr0
 have eX0 := eq9 hlf (d := (k0 + 3)) (by omega) _ hf0 (by omega)
 have eX1 := eq9 hlf (d := (k0 + 3)) (by omega) _ hf1 (by omega)
 simp only [eT0, eT1, eS, eI, eX0, eX1, Option.bind_some, nth0, nthS, asI_i, asL_l, asB_b, asS_s, cell0, cellS, beq_self_eq_true, bne_self_eq_false, Bool.not_true, Bool.and_true, qa6, qa0]
end Go.Proofs.YtncfoonahkieoaaGreatDoor.T
