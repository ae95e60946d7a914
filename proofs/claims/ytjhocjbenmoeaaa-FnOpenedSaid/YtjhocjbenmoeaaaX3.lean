/- What functions of the law FnOpened come to, in trees; no condition. -/
import Derived.Test.YtjhocjbenmoeaaaRows
import Derived.Test.YtjhocjbenmoeaaaX2
set_option linter.unusedVariables false
set_option linter.constructorNameAsVariable false
set_option linter.unusedSimpArgs false
set_option linter.unnecessarySimpa false
namespace Go.Proofs.Ytjhocjbenmoeaaa.T
open Go Go.Proofs.YtjhocjbenmoeaaaV
set_option maxRecDepth 100000
theorem c_l1In {lf d : Nat} (a lo hi : Int) : Cc lf (d + 1) 37 [.i .i64 a, .i .i64 lo, .i .i64 hi] = some [.b (iLe lo a && iLe a hi)] := by
 refine (f37_eq (Cc lf d) lf a lo hi).trans ?_
 unfold f37 f37_t
 exact cond_b _ _
theorem c_from {lf d : Nat} (a lo hi : Int) : Cc lf (d + 1) 19 [.i .i64 a, .i .i64 lo, .i .i64 hi] = some [.b (iLe lo a && iLe a hi)] := by
 refine (f19_eq (Cc lf d) lf a lo hi).trans ?_
 unfold f19 f19_t
 exact cond_b _ _
theorem c_sPutNum {lf d : Nat} (hlf : 33554432 ≤ lf) (b : List T) (n : Int) (hb : b.length ≤ 1073741824) : Cc lf (d + 2) 52 [.sl b, .i .i64 n] = some [.sl (b ++ numT (clampN n))] := by
 refine (f52_eq (Cc lf (d + 1)) lf b n).trans ?_
 unfold f52 f52_t
 dsimp only
 have hc := clampN_in n
 have L : ∀ (n : Nat) (x : Int) (l : List T), 0 ≤ x → x ≤ 1000000 → l.length ≤ 1073741827 → f52_0 (Cc lf (d + 1)) lf (n + 1) x l = if 127 < x then f52_0 (Cc lf (d + 1)) lf n (x / 128) (l ++ [by8 (x % 128 + 128)]) else some [T.i .i64 0, T.i .i64 x, T.sl l] := fun n x l h0 h1 hl => by
  rw [f52_0_u]
  unfold f52_0_s
  by_cases h : 127 < x
  ·rw [iLt_t h, if_pos h, nLe_app (by omega), and_mod h0 (by omega), or128 (by omega) (by omega), wrap8 (by omega) (by omega), show (7 : Int) = ((7 : Nat) : Int) from rfl, shr_div (by omega) h0]
   rfl
  ·rw [iLt_f h, if_neg h]
   rfl
 have L2 : ∀ (n : Nat) (x : Int) (l : List T), 0 ≤ x → x ≤ 1000000 → l.length ≤ 1073741827 → f52_2 (Cc lf (d + 1)) lf (n + 1) x l = if 127 < x then f52_2 (Cc lf (d + 1)) lf n (x / 128) (l ++ [by8 (x % 128 + 128)]) else some [T.i .i64 0, T.i .i64 x, T.sl l] := fun n x l h0 h1 hl => by
  rw [f52_2_u]
  unfold f52_2_s
  by_cases h : 127 < x
  ·rw [iLt_t h, if_pos h, nLe_app (by omega), and_mod h0 (by omega), or128 (by omega) (by omega), wrap8 (by omega) (by omega), show (7 : Int) = ((7 : Nat) : Int) from rfl, shr_div (by omega) h0]
   rfl
  ·rw [iLt_f h, if_neg h]
   rfl
 rw [nLe_t (show ([] : List T).length + b.length ≤ LIM by unfold LIM; simp; omega), cond_true]
 by_cases hn : 1000000 < n
 ·obtain ⟨y, l', h1, h2, h3, h4, h5⟩ := put_loop (F := fun n x l => f52_0 (Cc lf (d + 1)) lf n x l) L (n := lf) (by omega) (x := 1000000) (l := b) (by omega) (by omega) hb
  rw [iLt_t hn, cond_true, List.nil_append, h1]
  simp only [Option.bind_some, nth0, nthS, asL_l, asI_i]
  rw [nLe_app (by omega), wrap8 h3 (by omega), show clampN n = 1000000 by unfold clampN; rw [if_neg (by omega), if_pos (by omega)], ← h2]
  rfl
 ·by_cases hm : n < 0
  ·rw [iLt_f hn, cond_false, iLt_t hm, cond_true]
   obtain ⟨m, rfl⟩ : ∃ m, lf = m + 1 := ⟨lf - 1, by omega⟩
   show ((some [T.i .i64 0, T.i .i64 0, T.sl (([] : List T) ++ b)] : Option (List T)).bind _) = _
   simp only [Option.bind_some, nth0, nthS, asL_l, asI_i, List.nil_append]
   rw [nLe_app (by omega), show clampN n = 0 by unfold clampN; rw [if_pos hm]]
   rfl
  ·obtain ⟨y, l', h1, h2, h3, h4, h5⟩ := put_loop (F := fun n x l => f52_2 (Cc lf (d + 1)) lf n x l) L2 (n := lf) (by omega) (x := n) (l := b) (by omega) (by omega) hb
   rw [iLt_f hn, cond_false, iLt_f hm, cond_false, List.nil_append, h1]
   simp only [Option.bind_some, nth0, nthS, asL_l, asI_i]
   rw [nLe_app (by omega), wrap8 h3 (by omega), clampN_id (by omega) (by omega), ← h2]
   rfl
theorem c_sPutText {lf d : Nat} (hlf : 33554432 ≤ lf) (b : List T) (s : ByteArray) (hb : b.length ≤ 1073741824) (hs : s.size ≤ 1073741824) : Cc lf (d + 3) 51 [.sl b, .s s] = some [.sl (b ++ textT s)] := by
 refine (f51_eq (Cc lf (d + 2)) lf b s).trans ?_
 unfold f51 f51_t
 have h1 := numT_len (clampN (s.size : Int))
 rw [c_sPutNum hlf _ _ hb, Option.bind_some, nth0, asL_l, nLe_t (by unfold LIM; rw [List.length_append, listOf_len]; omega), cond_t, List.append_assoc]
 rfl
theorem c_sCrc {lf d : Nat} (hlf : 33554432 ≤ lf) {b : List T} (hb : byt b) (hl : b.length ≤ 16777216) : Cc lf (d + 1) 53 [.sl b] = some [.i .i64 (crcN b : Nat)] := by
 refine (f53_eq (Cc lf d) lf b).trans ?_
 unfold f53 f53_t
 dsimp only
 have In : ∀ (x j : Nat), x < 4294967296 → f53_1 (Cc lf d) lf b j lf x 0 = some [T.i .i64 0, T.sl b, T.i .i64 (r8 x : Nat), T.i .i64 (j : Int)] := fun x j hx => by
  have := (fold_loop (S := Nat) (F := fun n s k => f53_1 (Cc lf d) lf b j n s k) (g := fun s _ => r1 s) (I := fun s _ => s < 4294967296) (Y := fun s => some [T.i .i64 0, T.sl b, T.i .i64 (s : Int), T.i .i64 (j : Int)]) (len := 8) (fun n s k hk hs => by
   rw [f53_1_u]
   unfold f53_1_s
   rw [iLt_t (by omega), and7 (by omega) (by omega), shr1_64, show (2197175160 : Int) = ((2197175160 : Nat) : Int) from rfl, xor64 (by omega) (by omega), wrap_in (x := (k : Int) + 1) (by omega) (by omega)]
   unfold r1
   by_cases c : s % 2 = 1
   ·rw [if_pos c, show ((s : Int) % 2 == 1) = true by simp only [beq_iff_eq]; omega]; rfl
   ·rw [if_neg c, show ((s : Int) % 2 == 1) = false by simp only [beq_eq_false_iff_ne, ne_eq]; omega]; rfl) (fun s k hk hs => r1_lt hs) (fun n s hs => by
   rw [f53_1_u]
   unfold f53_1_s
   rw [iLt_f (by omega)]
   rfl) (n := lf) (by omega) (s := x) hx).1
  exact this
 have L := (fold_loop (S := Nat) (F := fun n s j => f53_0 (Cc lf d) lf n b s j) (g := fun s j => r8 (s ^^^ (asI (b.getD j .u)).toNat)) (I := fun s _ => s < 4294967296) (Y := fun s => some [T.i .i64 0, T.i .i64 (s : Int)]) (len := b.length) (fun n s j hj hs => by
  have hB := byte_lt hb j
  rw [f53_0_u]
  unfold f53_0_s
  obtain ⟨v, hv⟩ := Int.eq_ofNat_of_zero_le hB.1
  rw [iLt_t (by omega), inR_nat hj, Int.toNat_natCast, hv, wrap_in (x := (v : Int)) (by omega) (by omega), xor64 hs (by omega)]
  dsimp only
  rw [In _ j (xor_lt hs (by omega))]
  simp only [cond_t, Option.bind_some, nth0, nthS, asI_i, asL_l]
  rw [wrap_in (x := (j : Int) + 1) (by omega) (by omega)]
  rfl) (fun s j hj hs => by
   have hB := byte_lt hb j
   exact r8_lt (xor_lt hs (by omega))) (fun n s hs => by
  rw [f53_0_u]
  unfold f53_0_s
  rw [iLt_f (by omega)]
  rfl) (n := lf) (by omega) (s := 4294967295) (by omega)).1
 rw [show ((4294967295 : Nat) : Int) = 4294967295 from rfl] at L
 rw [L]
 simp only [Option.bind_some, nth0, nthS, asI_i]
 have e : foldN (fun s j => r8 (s ^^^ (asI (b.getD j .u)).toNat)) 4294967295 b.length = crcS b b.length := rfl
 rw [e, show (4294967295 : Int) = ((4294967295 : Nat) : Int) from rfl, xor64 (crcS_lt hb b.length) (by omega)]
 rfl
def recB (k s : Int) (body : List T) : Bool := (iLe 1 k && iLe k 4) && ((iLe 0 s && iLe s 1000000) && iLe (body.length : Int) 380)
def recHead (x : List T) (s : Option Nat) : (Int × Int × ByteArray) × Option Nat := (((rd x s).1, (rd x (rd x s).2).1, (rdS x (rd x (rd x s).2).2).1), (rdS x (rd x (rd x s).2).2).2)
def getRecB (b : List T) : Option (Int × Int × List T) :=
 if b.length < 4 then none else
  bif sealB b && ((recHead (b.take (b.length - 4)) (some 0)).2 == some (b.length - 4) && recB (recHead (b.take (b.length - 4)) (some 0)).1.1 (recHead (b.take (b.length - 4)) (some 0)).1.2.1 (listOf (recHead (b.take (b.length - 4)) (some 0)).1.2.2)) then
   some ((recHead (b.take (b.length - 4)) (some 0)).1.1, (recHead (b.take (b.length - 4)) (some 0)).1.2.1, listOf (recHead (b.take (b.length - 4)) (some 0)).1.2.2) else none
theorem c_sRecOk {lf d : Nat} (k s : Int) (body : List T) : Cc lf (d + 2) 31 [.st [.i .i64 k, .i .i64 s, .sl body]] = some [.b (recB k s body)] := by
 refine (f31_eq (Cc lf (d + 1)) lf k s body).trans ?_
 unfold f31 f31_t
 simp only [c_l1In, Option.bind_some, nth0, asB_b, cond_st]
 unfold recB
 cases (iLe 1 k && iLe k 4) <;> cases (iLe 0 s && iLe s 1000000) <;> rfl
def pageU (ps : List T) (j : Nat) : Bool := asB (T.cell (ps.getD j T.u) 0)
def usedN (ps : List T) : Nat := cntB (pageU ps) ps.length
theorem usedN_le (ps : List T) : usedN ps ≤ ps.length := cntB_le _ _
theorem cellL_le {l : List T} {j : Nat} (k : Nat) : (asL (T.cell (l.getD j T.u) k)).length + tls (asL (T.cell (l.getD j T.u) k)) ≤ tls l := by
 by_cases h : j < l.length
 ·have h1 := tl_mem (List.getElem_mem h)
  rw [List.getD_eq_getElem?_getD, List.getElem?_eq_getElem h]
  show (asL (T.cell l[j] k)).length + tls (asL (T.cell l[j] k)) ≤ _
  cases e : l[j] <;> try (simp only [T.cell, asL, tls]; exact Nat.zero_le _)
  rename_i xs
  rw [e] at h1
  simp only [T.cell, tl] at h1 ⊢
  cases e2 : xs[k]? with
  | none => rw [List.getD_eq_getElem?_getD, e2]; exact Nat.zero_le _
  | some x =>
   rw [List.getD_eq_getElem?_getD, e2]
   have h3 := tl_mem (List.mem_of_getElem? e2)
   show (asL x).length + tls (asL x) ≤ _
   cases x <;> try (exact Nat.zero_le _)
   simp only [tl, asL] at h3 ⊢
   omega
 ·rw [List.getD_eq_getElem?_getD, List.getElem?_eq_none (by omega)]
  exact Nat.zero_le _
theorem c_sNext {lf d : Nat} (hlf : 33554432 ≤ lf) (ps : List T) (w : Int) (bad : Bool) (hs : ps.length ≤ 16777216) : Cc lf (d + 1) 14 [.st [.sl ps, .i .i64 w, .b bad]] = some [.i .i64 (usedN ps : Nat)] := by
 refine (f14_eq (Cc lf d) lf ps w bad).trans ?_
 unfold f14 f14_t
 dsimp only
 have L := cnt_loop (F := fun n x j => f14_0 (Cc lf d) lf bad ps w n x j) (P := pageU ps) (Y := fun x => some [T.i .i64 0, T.i .i64 x]) (len := ps.length) (by omega) (fun n x j hj hx => by
  rw [f14_0_u]
  unfold f14_0_s
  rw [iLt_t (by omega), inR_nat hj, wrap_next hj (by omega)]
  rfl) (fun n x => by
  rw [f14_0_u]
  unfold f14_0_s
  rw [iLt_f (by omega)]
  rfl) (n := lf) (by omega)
 rw [L]
 rfl
theorem c_isBlock {lf d : Nat} (l : List T) (n : Int) (hs : l.length ≤ 16777216) : Cc lf (d + 2) 15 [.st [.sl l], .i .i64 n] = some [.b (iLe 0 n && iLt n (l.length : Int))] := by
 refine (f15_eq (Cc lf (d + 1)) lf l n).trans ?_
 unfold f15 f15_t
 rw [wrap_in (by omega) (by omega), c_from]
 have : iLe n ((l.length : Int) - 1) = iLt n (l.length : Int) := by
  by_cases h : n < (l.length : Int)
  ·rw [iLt_t h, iLe_t (by omega)]
  ·rw [iLt_f h, iLe_f (by omega)]
 rw [this]
 rfl
theorem c_iNext {lf d : Nat} (hlf : 33554432 ≤ lf) (l : List T) (j : Nat) (hj : j < l.length) (hs : l.length + tls l ≤ 16777216) : Cc lf (d + 3) 10 [.st [.sl l], .i .i64 (j : Int)] = some [.i .i64 (usedN (asL (T.cell (l.getD j T.u) 0)) : Nat)] := by
 refine (f10_eq (Cc lf (d + 2)) lf l j).trans ?_
 unfold f10 f10_t
 dsimp only
 have hp := cellL_le (l := l) (j := j) 0
 have L := cnt_loop (F := fun n x k => f10_0 (Cc lf (d + 2)) lf l j n x k) (P := pageU (asL (T.cell (l.getD j T.u) 0))) (Y := fun x => some [T.i .i64 0, T.i .i64 x]) (len := (asL (T.cell (l.getD j T.u) 0)).length) (by omega) (fun n x k hk hx => by
  rw [f10_0_u]
  unfold f10_0_s
  rw [Int.toNat_natCast, iLt_t (by omega), inR_nat hk, wrap_next hk (by omega)]
  rfl) (fun n x => by
  rw [f10_0_u]
  unfold f10_0_s
  rw [Int.toNat_natCast, iLt_f (by omega)]
  rfl) (n := lf) (by omega)
 rw [c_isBlock l j (by omega), iLe_t (by omega), iLt_t (by omega), inR_nat hj]
 simp only [Option.bind_some, nth0, asB_b, Bool.and_self, Bool.not_true, cond_f, cond_t]
 rw [L]
 rfl
theorem c_iNextNo {lf d : Nat} (l : List T) (n : Int) (hn : ¬ (0 ≤ n ∧ n < (l.length : Int))) (hs : l.length + tls l ≤ 16777216) : Cc lf (d + 3) 10 [.st [.sl l], .i .i64 n] = some [.i .i64 (-1)] := by
 refine (f10_eq (Cc lf (d + 2)) lf l n).trans ?_
 unfold f10 f10_t
 rw [c_isBlock l n (by omega)]
 have : (iLe 0 n && iLt n (l.length : Int)) = false := by
  by_cases h : 0 ≤ n
  ·rw [iLe_t h, iLt_f (by omega)]; rfl
  ·rw [iLe_f h]; rfl
 rw [this]
 rfl
def freeB (l : List T) : Nat := cntB (fun j => !(asB (T.cell (l.getD j T.u) 2)) && ((usedN (asL (T.cell (l.getD j T.u) 0)) : Nat) : Int) == 0) l.length
theorem c_sFree {lf d : Nat} (hlf : 33554432 ≤ lf) (l : List T) (ops : Int) (fs : List T) (dn : Bool) (sq : Int) (hs : l.length + tls l ≤ 16777216) :
 Cc lf (d + 2) 9 [.st [.sl l, .i .i64 ops, .sl fs, .b dn, .i .i64 sq]] = some [.i .i64 (freeB l : Nat)] := by
 refine (f9_eq (Cc lf (d + 1)) lf l ops fs dn sq).trans ?_
 unfold f9 f9_t
 dsimp only
 have L := cnt_loop (F := fun n x j => f9_0 (Cc lf (d + 1)) lf dn l fs ops sq n x j) (P := fun j => !(asB (T.cell (l.getD j T.u) 2)) && ((usedN (asL (T.cell (l.getD j T.u) 0)) : Nat) : Int) == 0) (Y := fun x => some [T.i .i64 0, T.i .i64 x]) (len := l.length) (by omega) (fun n x j hj hx => by
  have hp := cellL_le (l := l) (j := j) 0
  rw [f9_0_u]
  unfold f9_0_s
  rw [iLt_t (by omega), inR_nat hj, wrap_next hj (by omega), Int.toNat_natCast, c_sNext hlf _ _ _ (by omega)]
  simp only [Option.bind_some, nth0, asI_i, cond_t, cond_and, cond_not]) (fun n x => by
  rw [f9_0_u]
  unfold f9_0_s
  rw [iLt_f (by omega)]
  rfl) (n := lf) (by omega)
 rw [L]
 rfl
theorem c_iFree {lf d : Nat} (hlf : 33554432 ≤ lf) (l : List T) (ops : Int) (fs : List T) (dn : Bool) (sq : Int) (hs : l.length + tls l ≤ 16777216) :
 Cc lf (d + 4) 7 [.st [.sl l, .i .i64 ops, .sl fs, .b dn, .i .i64 sq]] = some [.i .i64 (freeB l : Nat)] := by
 refine (f7_eq (Cc lf (d + 3)) lf l ops fs dn sq).trans ?_
 unfold f7 f7_t
 dsimp only
 have L := cnt_loop (F := fun n x j => f7_0 (Cc lf (d + 3)) lf dn l fs ops sq n x j) (P := fun j => !(asB (T.cell (l.getD j T.u) 2)) && ((usedN (asL (T.cell (l.getD j T.u) 0)) : Nat) : Int) == 0) (Y := fun x => some [T.i .i64 0, T.i .i64 x]) (len := l.length) (by omega) (fun n x j hj hx => by
  rw [f7_0_u]
  unfold f7_0_s
  rw [iLt_t (by omega), inR_nat hj, wrap_next hj (by omega), c_iNext hlf l j hj hs, Int.toNat_natCast]
  simp only [Option.bind_some, nth0, asI_i, cond_t, cond_and, cond_not]) (fun n x => by
  rw [f7_0_u]
  unfold f7_0_s
  rw [iLt_f (by omega)]
  rfl) (n := lf) (by omega)
 rw [L]
 rfl
def openG (l : List T) (s : Int) (j : Nat) : Nat ⊕ Int :=
 bif (asB (T.cell (l.getD j T.u) 2)) then .inr s else bif iLt 0 ((usedN (asL (T.cell (l.getD j T.u) 0)) : Nat) : Int) && iLt ((usedN (asL (T.cell (l.getD j T.u) 0)) : Nat) : Int) ((asL (T.cell (l.getD j T.u) 0)).length : Int) then .inl j else bif ((usedN (asL (T.cell (l.getD j T.u) 0)) : Nat) : Int) == 0 && iLt s 0 then .inr (j : Int) else .inr s
def openB (l : List T) (spare : Int) : Int := match foldX (openG l) (-1) l.length with | .inl j => (j : Int) | .inr s => bif iLt spare (freeB l : Nat) then s else -1
theorem c_sOpen {lf d : Nat} (hlf : 33554432 ≤ lf) (l : List T) (ops : Int) (fs : List T) (dn : Bool) (sq spare : Int) (hs : l.length + tls l ≤ 16777216) :
 Cc lf (d + 3) 8 [.st [.sl l, .i .i64 ops, .sl fs, .b dn, .i .i64 sq], .i .i64 spare] = some [.i .i64 (openB l spare)] := by
 refine (f8_eq (Cc lf (d + 2)) lf l ops fs dn sq spare).trans ?_
 unfold f8 f8_t
 dsimp only
 have L := foldX_loop (F := fun n s j => f8_0 (Cc lf (d + 2)) lf dn l fs spare ops sq n s j) (g := openG l) (I := fun _ _ => True) (X := fun j => some [T.i .i64 0, T.i .i64 (j : Int)]) (Y := fun s => some [T.i .i64 1, T.i .i64 spare, T.i .i64 s, T.sl l, T.i .i64 ops, T.sl fs, T.b dn, T.i .i64 sq]) (len := l.length) (fun n s j hj hi => by
  have hp := cellL_le (l := l) (j := j) 0
  rw [f8_0_u]
  unfold f8_0_s
  rw [iLt_t (by omega), inR_nat hj, wrap_next hj (by omega), Int.toNat_natCast, c_sNext hlf _ _ _ (by omega)]
  simp only [Option.bind_some, nth0, asI_i, cond_t, openG]
  generalize asB (T.cell (l.getD j T.u) 2) = b1
  generalize iLt 0 ((usedN (asL (T.cell (l.getD j T.u) 0)) : Nat) : Int) = b2
  generalize iLt ((usedN (asL (T.cell (l.getD j T.u) 0)) : Nat) : Int) ((asL (T.cell (l.getD j T.u) 0)).length : Int) = b3
  generalize (((usedN (asL (T.cell (l.getD j T.u) 0)) : Nat) : Int) == 0) = b4
  generalize iLt s 0 = b5
  cases b1 <;> cases b2 <;> cases b3 <;> cases b4 <;> cases b5 <;> first | exact .inl ⟨_, rfl, rfl⟩ | exact .inr ⟨_, rfl, rfl, trivial⟩) (fun n s hi => by
  rw [f8_0_u]
  unfold f8_0_s
  rw [iLt_f (by omega)]
  rfl) (n := lf) (by omega) (s := -1) trivial
 unfold openB
 rcases L with ⟨j, h1, h2⟩ | ⟨s, h1, h2, _⟩
 ·rw [h1, h2]; rfl
 ·rw [h1, h2]
  simp only [Option.bind_some, nth0, nthS, asI_i, asL_l, asB_b]
  rw [show ((1 : Int) == 0) = false from rfl, cond_f, c_sFree hlf l ops fs dn sq hs]
  simp only [Option.bind_some, nth0, asI_i]
  cases iLt spare (freeB l : Nat) <;> rfl
theorem c_iOpen {lf d : Nat} (hlf : 33554432 ≤ lf) (l : List T) (ops : Int) (fs : List T) (dn : Bool) (sq spare : Int) (hs : l.length + tls l ≤ 16777216) :
 Cc lf (d + 5) 6 [.st [.sl l, .i .i64 ops, .sl fs, .b dn, .i .i64 sq], .i .i64 spare] = some [.i .i64 (openB l spare)] := by
 refine (f6_eq (Cc lf (d + 4)) lf l ops fs dn sq spare).trans ?_
 unfold f6 f6_t
 dsimp only
 have L := foldX_loop (F := fun n s j => f6_0 (Cc lf (d + 4)) lf dn l fs spare ops sq n s j) (g := openG l) (I := fun _ _ => True) (X := fun j => some [T.i .i64 0, T.i .i64 (j : Int)]) (Y := fun s => some [T.i .i64 1, T.i .i64 spare, T.i .i64 s, T.sl l, T.i .i64 ops, T.sl fs, T.b dn, T.i .i64 sq]) (len := l.length) (fun n s j hj hi => by
  rw [f6_0_u]
  unfold f6_0_s
  rw [iLt_t (by omega), inR_nat hj, wrap_next hj (by omega), c_iNext hlf l j hj hs, Int.toNat_natCast]
  simp only [Option.bind_some, nth0, asI_i, cond_t, openG]
  generalize asB (T.cell (l.getD j T.u) 2) = b1
  generalize iLt 0 ((usedN (asL (T.cell (l.getD j T.u) 0)) : Nat) : Int) = b2
  generalize iLt ((usedN (asL (T.cell (l.getD j T.u) 0)) : Nat) : Int) ((asL (T.cell (l.getD j T.u) 0)).length : Int) = b3
  generalize (((usedN (asL (T.cell (l.getD j T.u) 0)) : Nat) : Int) == 0) = b4
  generalize iLt s 0 = b5
  cases b1 <;> cases b2 <;> cases b3 <;> cases b4 <;> cases b5 <;> first | exact .inl ⟨_, rfl, rfl⟩ | exact .inr ⟨_, rfl, rfl, trivial⟩) (fun n s hi => by
  rw [f6_0_u]
  unfold f6_0_s
  rw [iLt_f (by omega)]
  rfl) (n := lf) (by omega) (s := -1) trivial
 unfold openB
 rcases L with ⟨j, h1, h2⟩ | ⟨s, h1, h2, _⟩
 ·rw [h1, h2]; rfl
 ·rw [h1, h2]
  simp only [Option.bind_some, nth0, nthS, asI_i, asL_l, asB_b]
  rw [show ((1 : Int) == 0) = false from rfl, cond_f, c_iFree hlf l ops fs dn sq hs]
  simp only [Option.bind_some, nth0, asI_i]
  cases iLt spare (freeB l : Nat) <;> rfl
def pgs (l : List T) (n1 : Int) : List T := asL (T.cell (l.getD n1.toNat T.u) 0)
def pgb (l : List T) (n1 n2 : Int) : List T := asL (T.cell ((pgs l n1).getD n2.toNat T.u) 1)
def pgB (l : List T) (n1 n2 : Int) : Bool := (iLe 0 n1 && iLt n1 (l.length : Int)) && ((iLe 0 n2 && iLt n2 ((pgs l n1).length : Int)) && asB (T.cell ((pgs l n1).getD n2.toNat T.u) 0))
def pgR (l : List T) (n1 n2 : Int) : List T := bif pgB l n1 n2 then pgb l n1 n2 else []
theorem inR_le {n : Int} {k : Nat} (h0 : 0 ≤ n) (h1 : n < k) : inR n k = true := by
 obtain ⟨m, rfl⟩ := Int.eq_ofNat_of_zero_le h0
 exact inR_nat (by omega)
def recA (l : List T) (a : Int) : Option (Int × Int × List T) := bif !iLt a 0 then getRecB (pgR l (a.tdiv 8) (a.tmod 8)) else none
def pgsByt (l : List T) : Prop := ∀ n1 n2, byt (pgb l n1 n2)
theorem pgR_no {l : List T} {n1 n2 : Int} (h : pgB l n1 n2 = false) : getRecB (pgR l n1 n2) = none := by
 unfold pgR
 rw [h]
 rfl
def pageB (ps : List T) (j : Nat) : Bool := !iLt 400 ((asL (T.cell (ps.getD j T.u) 1)).length : Int) && ((pageU ps j || !iLt 0 ((asL (T.cell (ps.getD j T.u) 1)).length : Int)) && (!iLt 0 (j : Int) || (!pageU ps j || pageU ps (j - 1))))
def blockB (ps : List T) (w : Int) : Bool := ((ps.length : Int) == 8 && (iLe 0 w && iLe w 100000)) && allB (pageB ps) ps.length
def blocksB (l : List T) (j : Nat) : Bool := blockB (asL (T.cell (l.getD j T.u) 0)) (asI (T.cell (l.getD j T.u) 1))
def chipB (l : List T) : Bool := allB (blocksB l) l.length && (iLe 3 (l.length : Int) && iLe (l.length : Int) 24)
theorem c_sBlockOk {lf d : Nat} (hlf : 33554432 ≤ lf) (ps : List T) (w : Int) (bad : Bool) (hs : ps.length ≤ 16777216) : Cc lf (d + 2) 49 [.st [.sl ps, .i .i64 w, .b bad]] = some [.b (blockB ps w)] := by
 refine (f49_eq (Cc lf (d + 1)) lf ps w bad).trans ?_
 unfold f49 f49_t blockB
 dsimp only
 have L := all_loop (F := fun n j => f49_0 (Cc lf (d + 1)) lf bad ps w n j) (P := pageB ps) (X := some [T.i .i64 0, T.b false]) (Y := some [T.i .i64 1]) (len := ps.length) (fun n j hj => by
  rw [f49_0_u]
  unfold f49_0_s pageB pageU
  rw [iLt_t (by omega), inR_nat hj, wrap_next hj (by omega)]
  simp only [cond_t, Int.toNat_natCast]
  cases h0 : iLt 0 (j : Int) with
  | true =>
   have hj0 : 0 < j := by have := iLt_iff.1 h0; omega
   rw [wrap_pred hj0 (by omega), inR_nat (by omega)]
   simp only [cond_t, Int.toNat_natCast]
   cases iLt 400 ((asL (T.cell (ps.getD j T.u) 1)).length : Int) <;> cases asB (T.cell (ps.getD j T.u) 0) <;> cases iLt 0 ((asL (T.cell (ps.getD j T.u) 1)).length : Int) <;> cases asB (T.cell (ps.getD (j - 1) T.u) 0) <;> rfl
  | false =>
   cases iLt 400 ((asL (T.cell (ps.getD j T.u) 1)).length : Int) <;> cases asB (T.cell (ps.getD j T.u) 0) <;> cases iLt 0 ((asL (T.cell (ps.getD j T.u) 1)).length : Int) <;> rfl) (fun n => by
  rw [f49_0_u]
  unfold f49_0_s
  rw [iLt_f (by omega)]
  rfl) (n := lf) (by omega)
 rw [c_l1In, L]
 simp only [Option.bind_some, nth0, asB_b, bne]
 cases ((ps.length : Int) == 8) with
 | false => rfl
 | true =>
  cases (iLe 0 w && iLe w 100000) with
  | false => rfl
  | true => cases allB (pageB ps) ps.length <;> rfl
theorem c_sChipOk {lf d : Nat} (hlf : 33554432 ≤ lf) (l : List T) (hs : l.length + tls l ≤ 16777216) : Cc lf (d + 3) 38 [.st [.sl l]] = some [.b (chipB l)] := by
 refine (f38_eq (Cc lf (d + 2)) lf l).trans ?_
 unfold f38 f38_t chipB
 dsimp only
 have L := all_loop (F := fun n j => f38_0 (Cc lf (d + 2)) lf l n j) (P := blocksB l) (X := some [T.i .i64 0, T.b false]) (Y := some [T.i .i64 1, T.sl l]) (len := l.length) (fun n j hj => by
  have hp := cellL_le (l := l) (j := j) 0
  rw [f38_0_u]
  unfold f38_0_s blocksB
  rw [iLt_t (by omega), inR_nat hj, wrap_next hj (by omega), Int.toNat_natCast, c_sBlockOk hlf _ _ _ (by omega)]
  simp only [cond_t, Option.bind_some, nth0, asB_b]
  cases blockB (asL (T.cell (l.getD j T.u) 0)) (asI (T.cell (l.getD j T.u) 1)) <;> rfl) (fun n => by
  rw [f38_0_u]
  unfold f38_0_s
  rw [iLt_f (by omega)]
  rfl) (n := lf) (by omega)
 rw [L]
 cases allB (blocksB l) l.length with
 | false => rfl
 | true =>
  simp only [cond_t, Option.bind_some, nth0, nthS, asL_l, asI_i, c_l1In, asB_b]
  rfl
def faultB (l : List T) (j : Nat) : Bool :=
 (iLe 0 (asI (T.cell (l.getD j T.u) 0)) && iLe (asI (T.cell (l.getD j T.u) 0)) 100000) && ((iLe 1 (asI (T.cell (l.getD j T.u) 1)) && iLe (asI (T.cell (l.getD j T.u) 1)) 2) && ((iLe 0 (asI (T.cell (l.getD j T.u) 2)) && iLe (asI (T.cell (l.getD j T.u) 2)) 400) && (!iLt 0 (j : Int) || !iLe (asI (T.cell (l.getD j T.u) 0)) (asI (T.cell (l.getD (j - 1) T.u) 0)))))
def devB (l : List T) (ops : Int) (fs : List T) : Bool := allB (faultB fs) fs.length && (chipB l && ((iLe 0 ops && iLe ops 100000) && iLe (fs.length : Int) 20))
theorem c_sFaults {lf d : Nat} (hlf : 33554432 ≤ lf) (l : List T) (hs : l.length ≤ 16777216) : Cc lf (d + 2) 39 [.sl l] = some [.b (allB (faultB l) l.length && iLe (l.length : Int) 20)] := by
 refine (f39_eq (Cc lf (d + 1)) lf l).trans ?_
 unfold f39 f39_t
 dsimp only
 have L := all_loop (F := fun n j => f39_0 (Cc lf (d + 1)) lf l n j) (P := faultB l) (X := some [T.i .i64 0, T.b false]) (Y := some [T.i .i64 1, T.sl l]) (len := l.length) (fun n j hj => by
  rw [f39_0_u]
  unfold f39_0_s
  rw [iLt_t (by omega), inR_nat hj, wrap_next hj (by omega)]
  simp only [c_l1In, Option.bind_some, nth0, asB_b, faultB, cond_not, cond_and, cond_or, cond_t, Int.toNat_natCast]
  cases h0 : iLt 0 (j : Int) with
  | true =>
   have hj0 : 0 < j := by have := iLt_iff.1 h0; omega
   rw [wrap_pred hj0 (by omega), inR_nat (by omega)]
   simp only [cond_t, Int.toNat_natCast]
  | false => rfl) (fun n => by
  rw [f39_0_u]
  unfold f39_0_s
  rw [iLt_f (by omega)]
  rfl) (n := lf) (by omega)
 rw [L]
 cases allB (faultB l) l.length <;> rfl
theorem c_sDevOk {lf d : Nat} (hlf : 33554432 ≤ lf) (l : List T) (ops : Int) (fs : List T) (dn : Bool) (hs : l.length + tls l ≤ 16777216) (hs2 : fs.length ≤ 16777216) : Cc lf (d + 4) 29 [.st [.sl l, .i .i64 ops, .sl fs, .b dn]] = some [.b (devB l ops fs)] := by
 refine (f29_eq (Cc lf (d + 3)) lf l ops fs dn).trans ?_
 unfold f29 f29_t devB
 rw [c_sChipOk hlf l hs, c_l1In, c_sFaults (d := d + 1) hlf fs hs2]
 simp only [Option.bind_some, nth0, asB_b]
 generalize allB (faultB fs) fs.length = b1
 generalize iLe (fs.length : Int) 20 = b2
 cases chipB l <;> cases (iLe 0 ops && iLe ops 100000) <;> cases b1 <;> cases b2 <;> rfl
theorem foldN_le {g : Int → Nat → Int} {P : Nat → Prop} {q : Int} (h : ∀ s k, g s k ≤ q ↔ s ≤ q ∧ P k) (s : Int) : ∀ n, foldN g s n ≤ q ↔ s ≤ q ∧ ∀ k, k < n → P k
 | 0 => ⟨fun h => ⟨h, fun _ h => absurd h (Nat.not_lt_zero _)⟩, fun h => h.1⟩
 | n + 1 => by
  show g (foldN g s n) n ≤ q ↔ _
  rw [h, foldN_le h s n]
  constructor
  ·rintro ⟨⟨h1, h2⟩, h3⟩
   refine ⟨h1, fun k hk => ?_⟩
   by_cases e : k = n
   ·rw [e]; exact h3
   ·exact h2 k (by omega)
  ·rintro ⟨h1, h2⟩
   exact ⟨⟨h1, fun k hk => h2 k (by omega)⟩, h2 n (by omega)⟩
theorem getRecB_seq {b : List T} {r : Int × Int × List T} (h : getRecB b = some r) : recB r.1 r.2.1 r.2.2 = true := by
 unfold getRecB at h
 split at h
 ·cases h
 ·generalize sealB b = b1 at h
  generalize recHead (b.take (b.length - 4)) (some 0) = x at h
  generalize (x.2 == some (b.length - 4)) = b2 at h
  cases b1 <;> cases b2 <;> simp only [Bool.false_and, Bool.true_and, Bool.and_false, cond_f] at h
  ·cases h
  ·cases h
  ·cases h
  ·cases e : recB x.1.1 x.1.2.1 (listOf x.1.2.2) with
   | false => rw [e] at h; cases h
   | true =>
    rw [e] at h
    cases h
    exact e
theorem recB_in {k s : Int} {b : List T} (h : recB k s b = true) : (1 ≤ k ∧ k ≤ 4) ∧ (0 ≤ s ∧ s ≤ 1000000) ∧ b.length ≤ 380 := by
 unfold recB at h
 simp only [Bool.and_eq_true, iLe_iff] at h
 exact ⟨h.1, h.2.1, by omega⟩
def seqG (ps : List T) (s : Int) (k : Nat) : Int := match getRecB (asL (T.cell (ps.getD k T.u) 1)) with | some r => (bif iLe s r.2.1 then r.2.1 + 1 else s) | none => s
theorem seqG_le {ps : List T} {q s : Int} {k : Nat} : seqG ps s k ≤ q ↔ s ≤ q ∧ ∀ r, getRecB (asL (T.cell (ps.getD k T.u) 1)) = some r → r.2.1 < q := by
 unfold seqG
 cases e : getRecB (asL (T.cell (ps.getD k T.u) 1)) with
 | none => exact ⟨fun h => ⟨h, fun r hr => by cases hr⟩, fun h => h.1⟩
 | some r =>
  simp only
  by_cases c : s ≤ r.2.1
  ·rw [iLe_t c]
   simp only [cond_t]
   exact ⟨fun h => ⟨by omega, fun r' hr => by cases hr; omega⟩, fun h => by have := h.2 r rfl; omega⟩
  ·rw [iLe_f c]
   simp only [cond_f]
   exact ⟨fun h => ⟨h, fun r' hr => by cases hr; omega⟩, fun h => h.1⟩
def mostB (ps : List T) (s : Int) : Int := foldN (seqG ps) s ps.length
theorem mostB_le {ps : List T} {q s : Int} : mostB ps s ≤ q ↔ s ≤ q ∧ ∀ k, k < ps.length → ∀ r, getRecB (asL (T.cell (ps.getD k T.u) 1)) = some r → r.2.1 < q := by
 unfold mostB
 exact foldN_le (g := seqG ps) (P := fun k => ∀ r, getRecB (asL (T.cell (ps.getD k T.u) 1)) = some r → r.2.1 < q) (fun s k => seqG_le) s _
def mostL (l : List T) : Int := foldN (fun s i => mostB (pgs l (i : Nat)) s) 0 l.length
def logB (l : List T) (ops : Int) (fs : List T) (sq : Int) : Bool := devB l ops fs && ((iLe 0 sq && iLe sq 1000000) && iLe (mostL l) sq)
def seqOk (l : List T) (sq : Int) (a : Nat) : Bool := match recA l a with | some r => iLt r.2.1 sq | none => true
theorem recA_pages {l : List T} (hc : chipB l = true) {i k : Nat} (hi : i < l.length) (hk : k < 8) : recA l ((8 * i + k : Nat) : Int) = getRecB (asL (T.cell ((pgs l i).getD k T.u) 1)) ∧ (pgs l i).length = 8 := by
 have h1 := allB_iff.1 (Bool.and_eq_true _ _ ▸ hc).1 i hi
 unfold blocksB blockB at h1
 rw [Bool.and_eq_true, Bool.and_eq_true] at h1
 have h8 : (pgs l i).length = 8 := by
  have : (((pgs l i).length : Int) == 8) = true := h1.1.1
  rw [beq_iff_eq] at this
  omega
 refine ⟨?_, h8⟩
 have hd : ((8 * i + k : Nat) : Int).tdiv 8 = (i : Int) := by
  rw [Int.tdiv_eq_ediv_of_nonneg (by omega)]; omega
 have hm : ((8 * i + k : Nat) : Int).tmod 8 = (k : Int) := by
  rw [Int.tmod_eq_emod_of_nonneg (by omega)]; omega
 unfold recA
 rw [iLt_f (by omega), hd, hm]
 simp only [Bool.not_false, cond_t]
 have hp : pageB (pgs l i) k = true := allB_iff.1 h1.2 k (by show k < (pgs l i).length; omega)
 unfold pgR pgB
 rw [iLe_t (by omega), iLt_t (by omega), iLe_t (by omega), iLt_t (by omega), Int.toNat_natCast]
 simp only [Bool.and_self, Bool.true_and]
 cases e : asB (T.cell ((pgs l i).getD k T.u) 0) with
 | true => rfl
 | false =>
  unfold pageB pageU at hp
  rw [e] at hp
  simp only [Bool.and_eq_true, Bool.false_or, Bool.not_eq_true'] at hp
  have : ¬ (0 : Int) < ((asL (T.cell ((pgs l i).getD k T.u) 1)).length : Int) := fun h => by rw [iLt_t h] at hp; exact absurd hp.2.1 (by simp)
  have : asL (T.cell ((pgs l i).getD k T.u) 1) = [] := List.eq_nil_of_length_eq_zero (by omega)
  rw [this]
  rfl
theorem seq_same {l : List T} (hc : chipB l = true) (sq : Int) (h0 : 0 ≤ sq) : allB (seqOk l sq) (8 * l.length) = iLe (mostL l) sq := by
 have A : mostL l ≤ sq ↔ ∀ i, i < l.length → ∀ k, k < (pgs l i).length → ∀ r, getRecB (asL (T.cell ((pgs l i).getD k T.u) 1)) = some r → r.2.1 < sq := by
  have := foldN_le (g := fun s i => mostB (pgs l (i : Nat)) s) (P := fun i => ∀ k, k < (pgs l i).length → ∀ r, getRecB (asL (T.cell ((pgs l i).getD k T.u) 1)) = some r → r.2.1 < sq) (q := sq) (fun s i => mostB_le) 0 l.length
  exact ⟨fun h => (this.1 h).2, fun h => this.2 ⟨h0, h⟩⟩
 have B : allB (seqOk l sq) (8 * l.length) = true ↔ ∀ i, i < l.length → ∀ k, k < (pgs l i).length → ∀ r, getRecB (asL (T.cell ((pgs l i).getD k T.u) 1)) = some r → r.2.1 < sq := by
  rw [allB_iff]
  constructor
  ·intro h i hi k hk r hr
   have h8 := (recA_pages hc hi (show 0 < 8 by omega)).2
   have h2 := (recA_pages hc hi (show k < 8 by omega)).1
   have := h (8 * i + k) (by omega)
   unfold seqOk at this
   rw [h2, hr] at this
   exact iLt_iff.1 this
  ·intro h a ha
   have h2 := recA_pages hc (i := a / 8) (k := a % 8) (by omega) (by omega)
   rw [show 8 * (a / 8) + a % 8 = a by omega] at h2
   unfold seqOk
   rw [h2.1]
   cases e : getRecB (asL (T.cell ((pgs l (a / 8 : Nat)).getD (a % 8) T.u) 1)) with
   | none => rfl
   | some r => exact iLt_t (h (a / 8) (by omega) (a % 8) (by omega) r e)
 cases e : allB (seqOk l sq) (8 * l.length) with
 | true => rw [iLe_t (A.2 (B.1 e))]
 | false =>
  rw [iLe_f]
  intro h
  have := B.2 (A.1 h)
  rw [e] at this
  cases this
theorem cell_fit {cs : List CT} {l : List T} {j k : Nat} {c : CT} (h : fitC (.sl true cs) (.sl l)) (hj : j < l.length) (hk : cs[k]? = some c) : fitC c (T.cell (l.getD j .u) k) := by
 have h1 := fitL_all.1 h.2 l[j] (List.getElem_mem hj)
 rw [List.getD_eq_getElem?_getD, List.getElem?_eq_getElem hj]
 obtain ⟨xs, hx, h2⟩ := fitE_st h1
 show fitC c (T.cell l[j] k)
 rw [hx]
 have h3 := fitCs_get.1 h2
 have hk2 : k < cs.length := by
  rcases Nat.lt_or_ge k cs.length with h | h
  ·exact h
  ·rw [List.getElem?_eq_none h] at hk; cases hk
 have hx2 : xs[k]? = some (xs[k]'(by omega)) := List.getElem?_eq_getElem _
 have := h3.2 k c _ hk hx2
 simp only [T.cell]
 rw [List.getD_eq_getElem?_getD, hx2]
 exact this
theorem pgsByt_of {cs : List CT} {l : List T} (h : fitC (.sl true (.sl true [.b, .sl false [.i .u8]] :: cs)) (.sl l)) : pgsByt l := by
 intro n1 n2
 unfold pgb pgs
 by_cases h1 : n1.toNat < l.length
 ·obtain ⟨ps, e, q⟩ := fitC_sl (cell_fit (k := 0) h h1 rfl)
  rw [e]
  by_cases h2 : n2.toNat < ps.length
  ·obtain ⟨bs, e2, q2⟩ := fitC_sl (cell_fit (k := 1) q h2 rfl)
   show byt (asL (T.cell (ps.getD n2.toNat T.u) 1))
   rw [e2]
   exact byt_of q2
  ·show byt (asL (T.cell (ps.getD n2.toNat T.u) 1))
   rw [List.getD_eq_getElem?_getD, List.getElem?_eq_none (show ps.length ≤ n2.toNat by omega)]
   exact byt_nil
 ·have e : l.getD n1.toNat T.u = T.u := by
   rw [List.getD_eq_getElem?_getD, List.getElem?_eq_none (show l.length ≤ n1.toNat by omega)]
   rfl
  rw [e]
  exact byt_nil
theorem copy_loop {F : Nat → Int → List T → Option (List T)} {l : List T} {Y : Option (List T)} (hF : ∀ n (j : Nat), j < l.length → F (n + 1) j (l.take j) = F n ((j + 1 : Nat) : Int) (l.take j ++ [l.getD j T.u])) (hE : ∀ n, F (n + 1) (l.length : Int) l = Y) {n : Nat} (hn : l.length < n) : F n 0 [] = Y := by
 have key : ∀ (k j n : Nat), j + k = l.length → k < n → F n (j : Int) (l.take j) = Y := by
  intro k
  induction k with
  | zero =>
   intro j n hj hn
   obtain ⟨n, rfl⟩ : ∃ m, n = m + 1 := ⟨n - 1, by omega⟩
   rw [List.take_of_length_le (by omega), show (j : Int) = (l.length : Int) by omega, hE]
  | succ k ih =>
   intro j n hj hn
   obtain ⟨n, rfl⟩ : ∃ m, n = m + 1 := ⟨n - 1, by omega⟩
   have hjl : j < l.length := by omega
   have := ih (j + 1) n (by omega) (by omega)
   rw [List.take_succ_eq_append_getElem hjl] at this
   rw [hF n j hjl, List.getD_eq_getElem?_getD, List.getElem?_eq_getElem hjl, Option.getD_some]
   exact this
 exact key l.length 0 n (by omega) hn
def pgT (ps : List T) : Prop := ∀ p ∈ ps, ∃ u bs, p = .st [.b u, .sl bs]
def chT (l : List T) : Prop := ∀ x ∈ l, ∃ ps w bad, x = .st [.sl ps, .i .i64 w, .b bad] ∧ pgT ps
theorem getD_mem {l : List T} {j : Nat} (h : j < l.length) : l.getD j T.u ∈ l := by
 rw [List.getD_eq_getElem?_getD, List.getElem?_eq_getElem h]
 exact List.getElem_mem h
theorem chT_at {l : List T} (h : chT l) {j : Nat} (hj : j < l.length) : l.getD j T.u = .st [.sl (asL (T.cell (l.getD j T.u) 0)), .i .i64 (asI (T.cell (l.getD j T.u) 1)), .b (asB (T.cell (l.getD j T.u) 2))] ∧ pgT (asL (T.cell (l.getD j T.u) 0)) := by
 obtain ⟨ps, w, bad, e, hp⟩ := h _ (getD_mem hj)
 rw [e]
 exact ⟨rfl, hp⟩
theorem pgT_at {ps : List T} (h : pgT ps) {j : Nat} (hj : j < ps.length) : ps.getD j T.u = .st [.b (asB (T.cell (ps.getD j T.u) 0)), .sl (asL (T.cell (ps.getD j T.u) 1))] := by
 obtain ⟨u, bs, e⟩ := h _ (getD_mem hj)
 rw [e]
 rfl
theorem c_copyBlock {lf d : Nat} (hlf : 33554432 ≤ lf) (ps : List T) (w : Int) (bad : Bool) (hp : pgT ps) (hs : ps.length + tls ps ≤ 16777216) : Cc lf (d + 1) 55 [.st [.sl ps, .i .i64 w, .b bad]] = some [.st [.sl ps, .i .i64 w, .b bad]] := by
 refine (f55_eq (Cc lf d) lf ps w bad).trans ?_
 unfold f55 f55_t
 dsimp only
 have L := copy_loop (F := fun n j acc => f55_0 (Cc lf d) lf bad ps w n j acc) (l := ps) (Y := some [T.i .i64 0, T.i .i64 0, T.b false, T.sl ([] : List T), T.i .i64 w, T.b bad, T.sl ps]) (fun n j hj => by
  have h1 := cellL_le (l := ps) (j := j) 1
  rw [f55_0_u]
  unfold f55_0_s
  rw [iLt_t (by omega), inR_nat hj, wrap_next hj (by omega), Int.toNat_natCast, nLe_t (by unfold LIM; simp only [List.length_nil]; omega), nLe_app (by rw [List.length_take]; omega), List.nil_append, ← pgT_at hp hj]
  rfl) (fun n => by
  rw [f55_0_u]
  unfold f55_0_s
  rw [iLt_f (by omega)]
  rfl) (n := lf) (by omega)
 rw [L]
 rfl
theorem c_sCopyChip {lf d : Nat} (hlf : 33554432 ≤ lf) (l : List T) (hc : chT l) (hs : l.length + tls l ≤ 16777216) : Cc lf (d + 2) 50 [.st [.sl l]] = some [.st [.sl l]] := by
 refine (f50_eq (Cc lf (d + 1)) lf l).trans ?_
 unfold f50 f50_t
 dsimp only
 have L := copy_loop (F := fun n j acc => f50_0 (Cc lf (d + 1)) lf l n j acc) (l := l) (Y := some [T.i .i64 0, T.sl ([] : List T), T.sl l]) (fun n j hj => by
  have h1 := cellL_le (l := l) (j := j) 0
  obtain ⟨e, hp⟩ := chT_at hc hj
  rw [f50_0_u]
  unfold f50_0_s
  rw [iLt_t (by omega), inR_nat hj, wrap_next hj (by omega), Int.toNat_natCast, c_copyBlock hlf _ _ _ hp (by omega)]
  simp only [cond_t, Option.bind_some, nth0, asL_l, asI_i, asB_b, cell0, cellS]
  rw [nLe_app (by rw [List.length_take]; omega), ← e]
  rfl) (fun n => by
  rw [f50_0_u]
  unfold f50_0_s
  rw [iLt_f (by omega)]
  rfl) (n := lf) (by omega)
 rw [L]
 rfl
def inB (l : List T) (n : Int) : Bool := iLe 0 n && iLt n (l.length : Int)
def nextC (l : List T) (n : Int) : Int := bif inB l n then ((usedN (pgs l n) : Nat) : Int) else -1
def badAt (l : List T) (n : Int) : Bool := asB (T.cell (l.getD n.toNat T.u) 2)
def mayC (l : List T) (n : Int) (full : Bool) : Int := bif !(chipB l) then 1 else bif !(inB l n) then 1 else bif badAt l n then 2 else bif full then 5 else 0
def progC (l : List T) (n : Int) (b : List T) : Int := bif iLt 400 (b.length : Int) then 1 else mayC l n (nextC l n == 8)
def setPg (l : List T) (n : Int) (k : Nat) (p : T) : List T := l.set n.toNat (T.setc (l.getD n.toNat T.u) 0 (T.sl ((pgs l n).set k p)))
def progL (l : List T) (n : Int) (b : List T) : List T := bif progC l n b == 0 then setPg l n (usedN (pgs l n)) (T.st [T.b true, T.sl b]) else l
theorem inB_in {l : List T} {n : Int} (h : inB l n = true) : 0 ≤ n ∧ n < (l.length : Int) := by
 unfold inB at h
 rw [Bool.and_eq_true, iLe_iff, iLt_iff] at h
 exact h
theorem inB_no {l : List T} {n : Int} (h : inB l n = false) : ¬ (0 ≤ n ∧ n < (l.length : Int)) := fun e => by
 unfold inB at h
 rw [iLe_t e.1, iLt_t e.2] at h
 cases h
theorem c_sNextPage {lf d : Nat} (hlf : 33554432 ≤ lf) (l : List T) (n : Int) (hs : l.length + tls l ≤ 16777216) : Cc lf (d + 2) 42 [.st [.sl l], .i .i64 n] = some [.i .i64 (nextC l n)] := by
 refine (f42_eq (Cc lf (d + 1)) lf l n).trans ?_
 unfold f42 f42_t nextC inB
 have hp := cellL_le (l := l) (j := n.toNat) 0
 by_cases h0 : n < 0
 ·rw [iLt_t h0, iLe_f (show ¬ 0 ≤ n by omega)]; rfl
 ·by_cases h1 : (l.length : Int) ≤ n
  ·rw [iLt_f h0, iLe_t h1, iLe_t (show 0 ≤ n by omega), iLt_f (show ¬ n < (l.length : Int) by omega)]; rfl
  ·rw [iLt_f h0, iLe_f h1, iLe_t (show 0 ≤ n by omega), iLt_t (show n < (l.length : Int) by omega), inR_le (by omega) (by omega), c_sNext hlf _ _ _ (by omega)]
   rfl
theorem c_iNextPage {lf d : Nat} (hlf : 33554432 ≤ lf) (l : List T) (n : Int) (hs : l.length + tls l ≤ 16777216) : Cc lf (d + 3) 10 [.st [.sl l], .i .i64 n] = some [.i .i64 (nextC l n)] := by
 unfold nextC
 cases h : inB l n with
 | true =>
  have h2 := inB_in h
  obtain ⟨j, rfl⟩ := Int.eq_ofNat_of_zero_le h2.1
  exact c_iNext hlf l j (by omega) hs
 | false => exact c_iNextNo l n (inB_no h) hs
theorem c_sMay {lf d : Nat} (hlf : 33554432 ≤ lf) (l : List T) (n : Int) (full : Bool) (hs : l.length + tls l ≤ 16777216) : Cc lf (d + 4) 54 [.st [.sl l], .i .i64 n, .b full] = some [.i .i64 (mayC l n full)] := by
 refine (f54_eq (Cc lf (d + 3)) lf l n full).trans ?_
 unfold f54 f54_t mayC inB badAt
 rw [c_sChipOk (d := d) hlf l hs]
 simp only [Option.bind_some, nth0, asB_b]
 cases chipB l with
 | false => rfl
 | true =>
  by_cases h0 : n < 0
  ·rw [iLt_t h0, iLe_f (show ¬ 0 ≤ n by omega)]; rfl
  ·by_cases h1 : (l.length : Int) ≤ n
   ·rw [iLt_f h0, iLe_t h1, iLe_t (show 0 ≤ n by omega), iLt_f (show ¬ n < (l.length : Int) by omega)]; rfl
   ·rw [iLt_f h0, iLe_f h1, iLe_t (show 0 ≤ n by omega), iLt_t (show n < (l.length : Int) by omega), inR_le (by omega) (by omega)]
    cases asB (T.cell (l.getD n.toNat T.u) 2) <;> cases full <;> rfl
theorem c_sProgC {lf d : Nat} (hlf : 33554432 ≤ lf) (l : List T) (n : Int) (b : List T) (hs : l.length + tls l ≤ 16777216) : Cc lf (d + 5) 47 [.st [.sl l], .i .i64 n, .sl b] = some [.i .i64 (progC l n b)] := by
 refine (f47_eq (Cc lf (d + 4)) lf l n b).trans ?_
 unfold f47 f47_t progC
 rw [c_sNextPage (d := d + 2) hlf l n hs]
 simp only [Option.bind_some, nth0, asI_i]
 rw [c_sMay hlf l n _ hs]
 cases iLt 400 (b.length : Int) <;> rfl
theorem chipB_len {l : List T} (h : chipB l = true) : l.length ≤ 24 := by
 unfold chipB at h
 simp only [Bool.and_eq_true, iLe_iff] at h
 omega
theorem chipB_pages {l : List T} (h : chipB l = true) {n : Int} (hn : inB l n = true) : (pgs l n).length = 8 := by
 have h2 := inB_in hn
 obtain ⟨j, rfl⟩ := Int.eq_ofNat_of_zero_le h2.1
 exact (recA_pages h (i := j) (k := 0) (by omega) (by omega)).2
theorem progC_zero {l : List T} {n : Int} {b : List T} (h : progC l n b = 0) : chipB l = true ∧ inB l n = true ∧ badAt l n = false ∧ usedN (pgs l n) < 8 ∧ b.length ≤ 400 ∧ (pgs l n).length = 8 := by
 unfold progC mayC at h
 by_cases h4 : (400 : Int) < b.length
 ·rw [iLt_t h4] at h; cases h
 ·rw [iLt_f h4] at h
  cases hc : chipB l with
  | false => rw [hc] at h; cases h
  | true =>
   cases hi : inB l n with
   | false => rw [hc, hi] at h; cases h
   | true =>
    cases hb : badAt l n with
    | true => rw [hc, hi, hb] at h; cases h
    | false =>
     rw [hc, hi, hb] at h
     have h8 := chipB_pages hc hi
     have hu := usedN_le (pgs l n)
     unfold nextC at h
     rw [hi] at h
     refine ⟨rfl, rfl, rfl, ?_, by omega, h8⟩
     cases he : (((usedN (pgs l n) : Nat) : Int) == 8) with
     | true => rw [cond_t, he] at h; cases h
     | false =>
      have : ((usedN (pgs l n) : Nat) : Int) ≠ 8 := by simpa using he
      omega
theorem c_sProgram {lf d : Nat} (hlf : 33554432 ≤ lf) (l : List T) (n : Int) (b : List T) (hc : chT l) (hs : l.length + tls l ≤ 16777216) : Cc lf (d + 6) 48 [.st [.sl l], .i .i64 n, .sl b] = some [.st [.sl (progL l n b)], .i .i64 (progC l n b)] := by
 refine (f48_eq (Cc lf (d + 5)) lf l n b).trans ?_
 unfold f48 f48_t progL
 rw [c_sCopyChip (d := d + 3) hlf l hc hs, c_sProgC hlf l n b hs]
 simp only [Option.bind_some, nth0, nthS, asI_i, asL_l, cell0]
 cases h0 : progC l n b == 0 with
 | false => rfl
 | true =>
  obtain ⟨z1, z2, z3, z4, z5, z6⟩ := progC_zero (by simpa using h0)
  have hin := inB_in z2
  rw [inR_le (by omega) (by omega), c_sNextPage (d := d + 3) hlf l n hs]
  unfold nextC
  rw [z2]
  simp only [cond_t, Option.bind_some, nth0, asI_i]
  rw [nLe_t (by unfold LIM; simp only [List.length_nil]; omega), show (asL (T.cell (l.getD n.toNat T.u) 0)) = pgs l n from rfl, inR_nat (by omega), Int.toNat_natCast]
  rfl
def recX (k s : Int) (body : List T) : List T := numT (clampN k) ++ (numT (clampN s) ++ textT (bytesOf body))
def putRecT (k s : Int) (body : List T) : List T := bif recB k s body then recX k s body ++ four (crcN (recX k s body)) else []
theorem recX_byt (k s : Int) (body : List T) : byt (recX k s body) := byt_app (byt_num (clampN_in _).1 (clampN_in _).2) (byt_app (byt_num (clampN_in _).1 (clampN_in _).2) (byt_text _))
theorem recX_len (k s : Int) (body : List T) : (recX k s body).length ≤ body.length + 9 := by
 have h1 := numT_len (clampN k)
 have h2 := numT_len (clampN s)
 have h3 := textT_len (bytesOf body)
 rw [bytesOf_size] at h3
 simp only [recX, List.length_append]
 omega
theorem c_sPutRec {lf d : Nat} (hlf : 33554432 ≤ lf) (k s : Int) (body : List T) (hl : body.length ≤ 16000000) : Cc lf (d + 4) 41 [.st [.i .i64 k, .i .i64 s, .sl body]] = some [.sl (putRecT k s body)] := by
 refine (f41_eq (Cc lf (d + 3)) lf k s body).trans ?_
 unfold f41 f41_t putRecT
 rw [c_sRecOk (d := d + 1)]
 simp only [Option.bind_some, nth0, asB_b]
 cases recB k s body with
 | false => rfl
 | true =>
  have q1 := numT_len (clampN k)
  have q2 := numT_len (clampN s)
  have hx := recX_len k s body
  simp only [Bool.not_true, cond_f, cond_t]
  rw [c_sPutNum (d := d + 1) hlf _ _ (by simp)]
  simp only [Option.bind_some, nth0, asL_l, List.nil_append]
  rw [c_sPutNum (d := d + 1) hlf _ _ (by omega)]
  simp only [Option.bind_some, nth0, asL_l]
  rw [c_sPutText (d := d) hlf _ _ (by rw [List.length_append]; omega) (by rw [bytesOf_size]; omega)]
  simp only [Option.bind_some, nth0, asL_l]
  rw [show numT (clampN k) ++ numT (clampN s) ++ textT (bytesOf body) = recX k s body by unfold recX; rw [List.append_assoc], c_sCrc (d := d + 2) hlf (recX_byt k s body) (by omega)]
  simp only [Option.bind_some, nth0, asI_i]
  rw [four_sh (crcN_lt (recX_byt k s body)), nLe_t (by unfold LIM four; simp; omega)]
  rfl
def faultAt (ops : Int) : List T → Option (Int × Int × Int)
 | [] => none
 | x :: l => bif asI (T.cell x 0) == ops then some (asI (T.cell x 0), asI (T.cell x 1), asI (T.cell x 2)) else faultAt ops l
def faultR : Option (Int × Int × Int) → List T
 | some (a, k, e) => [T.st [T.i .i64 a, T.i .i64 k, T.i .i64 e], T.b true]
 | none => [T.st [T.i .i64 0, T.i .i64 0, T.i .i64 0], T.b false]
theorem faultAt_drop (ops : Int) {l : List T} {j : Nat} (h : j < l.length) : faultAt ops (l.drop j) = bif asI (T.cell (l.getD j T.u) 0) == ops then some (asI (T.cell (l.getD j T.u) 0), asI (T.cell (l.getD j T.u) 1), asI (T.cell (l.getD j T.u) 2)) else faultAt ops (l.drop (j + 1)) := by
 rw [List.drop_eq_getElem_cons h, List.getD_eq_getElem?_getD, List.getElem?_eq_getElem h]
 rfl
theorem c_sFaultAt {lf d : Nat} (hlf : 33554432 ≤ lf) (l : List T) (ops : Int) (fs : List T) (dn : Bool) (hs : fs.length ≤ 16777216) : Cc lf (d + 1) 45 [.st [.sl l, .i .i64 ops, .sl fs, .b dn]] = some (faultR (faultAt ops fs)) := by
 refine (f45_eq (Cc lf d) lf l ops fs dn).trans ?_
 unfold f45 f45_t
 dsimp only
 have L : ∀ (k j n : Nat), j + k = fs.length → k < n → f45_0 (Cc lf d) lf dn l fs ops n j = match faultAt ops (fs.drop j) with | some (a, k, e) => some [T.i .i64 0, T.b true, T.i .i64 a, T.i .i64 k, T.i .i64 e] | none => some [T.i .i64 1, T.i .i64 0, T.i .i64 0, T.i .i64 0] := by
  intro k
  induction k with
  | zero =>
   intro j n hj hn
   obtain ⟨n, rfl⟩ : ∃ m, n = m + 1 := ⟨n - 1, by omega⟩
   rw [f45_0_u, List.drop_eq_nil_of_le (by omega)]
   unfold f45_0_s
   rw [iLt_f (by omega)]
   rfl
  | succ k ih =>
   intro j n hj hn
   obtain ⟨n, rfl⟩ : ∃ m, n = m + 1 := ⟨n - 1, by omega⟩
   have hjl : j < fs.length := by omega
   rw [f45_0_u, faultAt_drop ops hjl]
   unfold f45_0_s
   rw [iLt_t (by omega), inR_nat hjl, wrap_next hjl (by omega), Int.toNat_natCast]
   cases asI (T.cell (fs.getD j T.u) 0) == ops with
   | true => rfl
   | false => exact ih (j + 1) n (by omega) (by omega)
 have L0 := L fs.length 0 lf (by omega) (by omega)
 rw [show ((0 : Nat) : Int) = 0 from rfl, List.drop_zero] at L0
 rw [L0]
 cases faultAt ops fs with
 | none => rfl
 | some x => obtain ⟨a, k, e⟩ := x; rfl
def devP (l : List T) (ops : Int) (fs : List T) (dn : Bool) (n : Int) (b : List T) : (List T × Int × Bool) × Int :=
 bif !(devB l ops fs) then ((l, ops, dn), 1) else bif dn then ((l, ops, dn), 10) else bif iLe 100000 ops then ((l, ops, dn), 10) else
 bif !(progC l n b == 0) then ((l, ops, dn), progC l n b) else
 match faultAt ops fs with
 | none => ((progL l n b, ops + 1, false), 0)
 | some (_, k, e) => bif k == 1 then ((l.set n.toNat (T.setc (l.getD n.toNat T.u) 2 (T.b true)), ops + 1, false), 2) else ((progL l n (b.take (imin e (b.length : Int)).toNat), ops + 1, true), 10)
def devT (fs : List T) (x : List T × Int × Bool) : T := .st [.sl x.1, .i .i64 x.2.1, .sl fs, .b x.2.2]
theorem faultAt_ok {ops : Int} {fs : List T} (h : allB (faultB fs) fs.length = true) {a k e : Int} (hf : faultAt ops fs = some (a, k, e)) : (1 ≤ k ∧ k ≤ 2) ∧ (0 ≤ e ∧ e ≤ 400) := by
 have key : ∀ (m j : Nat), j + m = fs.length → faultAt ops (fs.drop j) = some (a, k, e) → (1 ≤ k ∧ k ≤ 2) ∧ (0 ≤ e ∧ e ≤ 400) := by
  intro m
  induction m with
  | zero =>
   intro j hj hf
   rw [List.drop_eq_nil_of_le (by omega)] at hf
   cases hf
  | succ m ih =>
   intro j hj hf
   have hjl : j < fs.length := by omega
   rw [faultAt_drop ops hjl] at hf
   cases c : asI (T.cell (fs.getD j T.u) 0) == ops with
   | false => rw [c] at hf; exact ih (j + 1) (by omega) hf
   | true =>
    rw [c] at hf
    cases hf
    have := allB_iff.1 h j hjl
    unfold faultB at this
    simp only [Bool.and_eq_true, iLe_iff] at this
    exact ⟨this.2.1, this.2.2.1⟩
 exact key fs.length 0 (by omega) (by rw [List.drop_zero]; exact hf)
theorem devB_in {l : List T} {ops : Int} {fs : List T} (h : devB l ops fs = true) : allB (faultB fs) fs.length = true ∧ chipB l = true ∧ (0 ≤ ops ∧ ops ≤ 100000) ∧ fs.length ≤ 20 := by
 unfold devB at h
 simp only [Bool.and_eq_true, iLe_iff] at h
 exact ⟨h.1, h.2.1, h.2.2.1, by omega⟩
theorem c_sCopyDev {lf d : Nat} (hlf : 33554432 ≤ lf) (l : List T) (ops : Int) (fs : List T) (dn : Bool) (hc : chT l) (hs : l.length + tls l ≤ 16777216) (hs2 : fs.length ≤ 16777216) : Cc lf (d + 3) 40 [.st [.sl l, .i .i64 ops, .sl fs, .b dn]] = some [.st [.sl l, .i .i64 ops, .sl fs, .b dn]] := by
 refine (f40_eq (Cc lf (d + 2)) lf l ops fs dn).trans ?_
 unfold f40 f40_t
 rw [c_sCopyChip (d := d) hlf l hc hs, nLe_t (by unfold LIM; simp only [List.length_nil]; omega)]
 rfl
def dmayC (l : List T) (ops : Int) (fs : List T) (dn : Bool) (code : Int) : Int := bif !(devB l ops fs) then 1 else bif dn then 10 else bif iLe 100000 ops then 10 else code
theorem c_sDMay {lf d : Nat} (hlf : 33554432 ≤ lf) (l : List T) (ops : Int) (fs : List T) (dn : Bool) (code : Int) (hs : l.length + tls l ≤ 16777216) (hs2 : fs.length ≤ 16777216) : Cc lf (d + 5) 43 [.st [.sl l, .i .i64 ops, .sl fs, .b dn], .i .i64 code] = some [.i .i64 (dmayC l ops fs dn code)] := by
 refine (f43_eq (Cc lf (d + 4)) lf l ops fs dn code).trans ?_
 unfold f43 f43_t dmayC
 rw [c_sDevOk (d := d) hlf l ops fs dn hs hs2]
 simp only [Option.bind_some, nth0, asB_b]
 cases devB l ops fs <;> cases dn <;> cases iLe 100000 ops <;> rfl
theorem c_sDevProgram {lf d : Nat} (hlf : 33554432 ≤ lf) (l : List T) (ops : Int) (fs : List T) (dn : Bool) (n : Int) (b : List T) (hc : chT l) (hs : l.length + tls l ≤ 16777216) (hs2 : fs.length ≤ 16777216) : Cc lf (d + 7) 35 [.st [.sl l, .i .i64 ops, .sl fs, .b dn], .i .i64 n, .sl b] = some [devT fs (devP l ops fs dn n b).1, .i .i64 (devP l ops fs dn n b).2] := by
 refine (f35_eq (Cc lf (d + 6)) lf l ops fs dn n b).trans ?_
 unfold f35 f35_t devP
 rw [c_sCopyDev (d := d + 3) hlf l ops fs dn hc hs hs2, c_sProgC (d := d + 1) hlf l n b hs]
 simp only [Option.bind_some, nth0, nthS, asI_i, asL_l, asB_b, cell0, cellS]
 rw [c_sDMay (d := d + 1) hlf l ops fs dn _ hs hs2]
 simp only [Option.bind_some, nth0, asI_i]
 unfold dmayC
 cases h1 : devB l ops fs with
 | false => rfl
 | true =>
 obtain ⟨k1, k2, k3, k4⟩ := devB_in h1
 cases dn with
 | true => rfl
 | false =>
 cases h2 : iLe 100000 ops with
 | true => rfl
 | false =>
 have h2 : ¬ 100000 ≤ ops := fun e => by rw [iLe_t e] at h2; cases h2
 simp only [Bool.not_true, cond_f, bne]
 cases h3 : progC l n b == 0 with
 | false => rfl
 | true =>
 obtain ⟨z1, z2, z3, z4, z5, z6⟩ := progC_zero (by simpa using h3)
 have hin := inB_in z2
 rw [c_sFaultAt (d := d + 5) hlf l ops fs false hs2, wrap_in (by omega) (by omega)]
 simp only [Option.bind_some, Bool.not_true, cond_f]
 cases hf : faultAt ops fs with
 | none =>
  simp only [faultR, nth0, nthS, asB_b, cond_f]
  rw [iLe_t (show (0 : Int) ≤ (b.length : Int) by omega), iLe_t (Int.le_refl _), Int.toNat_natCast, List.take_length, c_sProgram (d := d) hlf l n b hc hs]
  rfl
 | some x =>
  obtain ⟨a, k, e⟩ := x
  obtain ⟨⟨r1, r2⟩, r3, r4⟩ := faultAt_ok k1 hf
  simp only [faultR, nth0, nthS, asB_b, asI_i, cell0, cellS, cond_t]
  cases hk : k == 1 with
  | true =>
   rw [inR_le (by omega) (by omega)]
   rfl
  | false =>
   simp only [cond_f]
   by_cases he : e < (b.length : Int)
   ·rw [iLt_t he, iLe_t r3, iLe_t (by omega), c_sProgram (d := d) hlf l n _ hc hs, show imin e (b.length : Int) = e by unfold imin; rw [if_neg (by omega)]]
    rfl
   ·rw [iLt_f he, cond_f, iLe_t (show (0 : Int) ≤ (b.length : Int) by omega), iLe_t (Int.le_refl _), c_sProgram (d := d) hlf l n _ hc hs, show imin e (b.length : Int) = (b.length : Int) by unfold imin; split <;> omega]
    rfl
theorem openB_ok (l : List T) (spare : Int) : openB l spare = -1 ∨ ∃ j : Nat, openB l spare = (j : Int) ∧ j < l.length ∧ asB (T.cell (l.getD j T.u) 2) = false := by
 have key : ∀ n : Nat, (match foldX (openG l) (-1) n with | .inl j => (j : Int) < n ∧ asB (T.cell (l.getD j T.u) 2) = false | .inr s => s = -1 ∨ ∃ j : Nat, s = (j : Int) ∧ j < n ∧ asB (T.cell (l.getD j T.u) 2) = false) := by
  intro n
  induction n with
  | zero => exact .inl rfl
  | succ n ih =>
   simp only [foldX]
   cases e : foldX (openG l) (-1) n with
   | inl j => rw [e] at ih; simp only at ih ⊢; exact ⟨by omega, ih.2⟩
   | inr s =>
    rw [e] at ih
    simp only at ih ⊢
    have old : s = -1 ∨ ∃ j : Nat, s = (j : Int) ∧ j < n + 1 ∧ asB (T.cell (l.getD j T.u) 2) = false := by
     rcases ih with h | ⟨j, h1, h2, h3⟩
     ·exact .inl h
     ·exact .inr ⟨j, h1, by omega, h3⟩
    unfold openG
    cases hb : asB (T.cell (l.getD n T.u) 2) with
    | true => exact old
    | false =>
     generalize iLt 0 ((usedN (asL (T.cell (l.getD n T.u) 0)) : Nat) : Int) = b2
     generalize iLt ((usedN (asL (T.cell (l.getD n T.u) 0)) : Nat) : Int) ((asL (T.cell (l.getD n T.u) 0)).length : Int) = b3
     generalize (((usedN (asL (T.cell (l.getD n T.u) 0)) : Nat) : Int) == 0) = b4
     generalize iLt s 0 = b5
     cases b2 <;> cases b3 <;> cases b4 <;> cases b5 <;> first | exact old | exact ⟨by omega, hb⟩ | exact .inr ⟨n, rfl, by omega, hb⟩
 have := key l.length
 unfold openB
 cases e : foldX (openG l) (-1) l.length with
 | inl j => rw [e] at this; simp only at this ⊢; exact .inr ⟨j, rfl, by omega, this.2⟩
 | inr s =>
  rw [e] at this
  simp only at this ⊢
  cases iLt spare (freeB l : Nat) with
  | false => exact .inl rfl
  | true => exact this
def nonBad (l : List T) : Nat := cntB (fun j => !asB (T.cell (l.getD j T.u) 2)) l.length
def setBad (l : List T) (n : Int) : List T := l.set n.toNat (T.setc (l.getD n.toNat T.u) 2 (T.b true))
theorem cntB_congr {P Q : Nat → Bool} : ∀ n, (∀ j, j < n → P j = Q j) → cntB P n = cntB Q n
 | 0, _ => rfl
 | n + 1, h => by
  show (bif P n then cntB P n + 1 else cntB P n) = (bif Q n then cntB Q n + 1 else cntB Q n)
  rw [cntB_congr n (fun j hj => h j (by omega)), h n (by omega)]
theorem cntB_drop {P Q : Nat → Bool} {k : Nat} (hP : P k = true) (hQ : Q k = false) : ∀ n, k < n → (∀ j, j < n → j ≠ k → P j = Q j) → cntB P n = cntB Q n + 1
 | 0, h, _ => absurd h (Nat.not_lt_zero _)
 | n + 1, h, hj => by
  show (bif P n then cntB P n + 1 else cntB P n) = (bif Q n then cntB Q n + 1 else cntB Q n) + 1
  by_cases e : n = k
  ·subst e
   rw [hP, hQ, cntB_congr n (fun j hjn => hj j (by omega) (by omega))]
   rfl
  ·rw [cntB_drop hP hQ n (by omega) (fun j hjn hjk => hj j (by omega) hjk), hj n (by omega) e]
   cases Q n <;> rfl
theorem setBad_len (l : List T) (n : Int) : (setBad l n).length = l.length := List.length_set ..
theorem getD_setne {l : List T} {i j : Nat} (v : T) (h : i ≠ j) : (l.set i v).getD j T.u = l.getD j T.u := by
 rw [List.getD_eq_getElem?_getD, List.getD_eq_getElem?_getD, List.getElem?_set_ne h]
theorem chT_bad {l : List T} (hc : chT l) (n : Int) (hn : n.toNat < l.length) : chT (setBad l n) ∧ ∃ ps w, l.getD n.toNat T.u = .st [.sl ps, .i .i64 w, .b (asB (T.cell (l.getD n.toNat T.u) 2))] ∧ T.setc (l.getD n.toNat T.u) 2 (T.b true) = .st [.sl ps, .i .i64 w, .b true] := by
 obtain ⟨e, hp⟩ := chT_at hc hn
 have e2 : T.setc (l.getD n.toNat T.u) 2 (T.b true) = .st [.sl (asL (T.cell (l.getD n.toNat T.u) 0)), .i .i64 (asI (T.cell (l.getD n.toNat T.u) 1)), .b true] := by rw [e]; rfl
 refine ⟨fun x hx => ?_, _, _, e, e2⟩
 rcases List.mem_or_eq_of_mem_set hx with hx | hx
 ·exact hc x hx
 ·rw [hx, e2]
  exact ⟨_, _, _, rfl, hp⟩
theorem tls_set : ∀ (l : List T) (j : Nat) (v : T), j < l.length → tl v ≤ tl (l.getD j T.u) → tls (l.set j v) ≤ tls l
 | [], _, _, h, _ => absurd h (Nat.not_lt_zero _)
 | x :: l, 0, v, _, hv => by
  have hv : tl v ≤ tl x := hv
  simp only [List.set_cons_zero, tls]
  omega
 | x :: l, j + 1, v, h, hv => by
  have := tls_set l j v (by simpa using h) hv
  simp only [List.set_cons_succ, tls]
  omega
theorem setBad_tls {l : List T} (hc : chT l) (n : Int) (hn : n.toNat < l.length) : tls (setBad l n) ≤ tls l := by
 obtain ⟨_, ps, w, e1, e2⟩ := chT_bad hc n hn
 refine tls_set l _ _ hn ?_
 rw [e2, e1]
 simp only [tl, tls]
 omega
theorem nonBad_set {l : List T} (hc : chT l) (k : Nat) (hk : k < l.length) (hb : asB (T.cell (l.getD k T.u) 2) = false) : nonBad l = nonBad (setBad l (k : Int)) + 1 := by
 unfold nonBad
 rw [setBad_len]
 obtain ⟨_, ps, w, e1, e2⟩ := chT_bad hc (k : Int) (by rw [Int.toNat_natCast]; exact hk)
 rw [Int.toNat_natCast] at e2
 refine cntB_drop (by rw [hb]; rfl) ?_ _ hk fun j hj hjk => ?_
 ·unfold setBad
  rw [Int.toNat_natCast, getD_set hk, e2]
  rfl
 ·unfold setBad
  rw [Int.toNat_natCast, getD_setne _ (by omega)]
theorem progC_two {l : List T} {n : Int} {b : List T} (hb : badAt l n = false) : progC l n b ≠ 2 := by
 unfold progC mayC
 rw [hb]
 generalize iLt 400 (b.length : Int) = b1
 generalize chipB l = b2
 generalize inB l n = b3
 generalize (nextC l n == 8) = b4
 revert b1 b2 b3 b4
 decide
theorem devP_two {l : List T} {ops : Int} {fs : List T} {n : Int} {b : List T} (h : (devP l ops fs false n b).2 = 2) (hb : badAt l n = false) : (devP l ops fs false n b).1 = (setBad l n, ops + 1, false) ∧ inB l n = true ∧ devB l ops fs = true := by
 unfold devP at h ⊢
 cases h1 : devB l ops fs with
 | false => rw [h1] at h; cases h
 | true =>
  rw [h1] at h
  cases h2 : iLe 100000 ops with
  | true => rw [h2] at h; cases h
  | false =>
   rw [h2] at h
   cases h3 : progC l n b == 0 with
   | false =>
    rw [h3] at h
    exact absurd h (progC_two hb)
   | true =>
    obtain ⟨z1, z2, _⟩ := progC_zero (by simpa using h3)
    rw [h3] at h
    cases hf : faultAt ops fs with
    | none => rw [hf] at h; cases h
    | some x =>
     obtain ⟨a, k, e⟩ := x
     rw [hf] at h
     cases hk : k == 1 with
     | false =>
      simp only [Bool.not_true, cond_f, hk] at h
      cases h
     | true =>
      refine ⟨?_, z2, rfl⟩
      simp only [Bool.not_true, cond_f, cond_t, hk]
      rfl
def wrR (fs : List T) (sq spare : Int) (b : List T) : Nat → List T → Int → (List T × Int × Bool) × Int × Int × Int
 | 0, l, ops => ((l, ops, false), sq, -1, 9)
 | m + 1, l, ops =>
  bif iLt (openB l spare) 0 then ((l, ops, false), sq, -1, 9) else
  bif (devP l ops fs false (openB l spare) b).2 == 0 then ((devP l ops fs false (openB l spare) b).1, sq + 1, openB l spare * 8 + nextC l (openB l spare), 0) else
  bif (devP l ops fs false (openB l spare) b).2 == 2 then wrR fs sq spare b m (devP l ops fs false (openB l spare) b).1.1 (devP l ops fs false (openB l spare) b).1.2.1 else
  ((devP l ops fs false (openB l spare) b).1, (bif (devP l ops fs false (openB l spare) b).1.2.2 then sq + 1 else sq), -1, 10)
def wrT (fs : List T) (r : (List T × Int × Bool) × Int × Int × Int) : List T := [T.i .i64 0, T.i .i64 r.2.2.1, T.i .i64 r.2.2.2, T.i .i64 r.1.2.1, T.b r.1.2.2, T.i .i64 r.2.1, T.sl r.1.1, T.sl fs]
theorem c_sWrLoop {lf d : Nat} (hlf : 33554432 ≤ lf) (fs : List T) (sq spare : Int) (b : List T) (hq : 0 ≤ sq ∧ sq < 1000000) (hs2 : fs.length ≤ 16777216) : ∀ (m n i : Nat) (l : List T) (ops : Int), nonBad l < m → m ≤ n → i + nonBad l ≤ l.length → chT l → l.length + tls l ≤ 16777216 → f32_0 (Cc lf (d + 8)) lf spare sq [T.sl b] n i ops false l fs = some (wrT fs (wrR fs sq spare b m l ops))
 | 0, _, _, _, _, h, _, _, _, _ => absurd h (Nat.not_lt_zero _)
 | m + 1, n, i, l, ops, hm, hn, hi, hc, hs => by
  obtain ⟨n, rfl⟩ : ∃ z, n = z + 1 := ⟨n - 1, by omega⟩
  rw [f32_0_u]
  unfold f32_0_s wrR
  rw [iLe_t (by omega), c_sOpen (d := d + 5) hlf l ops fs false sq spare hs]
  simp only [Option.bind_some, nth0, asI_i, asL_l, cond_f, cond_t]
  have ho := openB_ok l spare
  generalize openB l spare = o at *
  rcases ho with rfl | ⟨j, rfl, hj, hb⟩
  ·rfl
  ·rw [iLt_f (by omega)]
   have hnx : nextC l (j : Int) = ((usedN (pgs l (j : Int)) : Nat) : Int) := by unfold nextC inB; rw [iLe_t (by omega), iLt_t (by omega)]; rfl
   have hu := usedN_le (pgs l (j : Int))
   have hcl := cellL_le (l := l) (j := j) 0
   have hpg : (pgs l (j : Int)).length ≤ 16777216 := by unfold pgs; rw [Int.toNat_natCast]; omega
   simp only [cond_f]
   rw [c_sNextPage (d := d + 6) hlf l (j : Int) hs, c_sDevProgram (d := d + 1) hlf l ops fs false (j : Int) b hc hs hs2]
   simp only [Option.bind_some, nth0, nthS, asI_i]
   cases h0 : (devP l ops fs false (j : Int) b).2 == 0 with
   | true =>
    rw [wrap_in (x := (j : Int) * 8) (by omega) (by omega), wrap_in (x := (j : Int) * 8 + nextC l (j : Int)) (by omega) (by omega), wrap_in (x := sq + 1) (by omega) (by omega)]
    rfl
   | false =>
    cases h2 : (devP l ops fs false (j : Int) b).2 == 2 with
    | true =>
     obtain ⟨e, hi2, _⟩ := devP_two (by simpa using h2) (show badAt l (j : Int) = false by unfold badAt; rw [Int.toNat_natCast]; exact hb)
     simp only [cond_f, cond_t, bne, h2, Bool.not_true]
     rw [e, wrap_in (x := (i : Int) + 1) (by omega) (by omega)]
     have hnb := nonBad_set hc j hj hb
     have ht := setBad_tls hc (j : Int) (by rw [Int.toNat_natCast]; exact hj)
     exact c_sWrLoop hlf fs sq spare b hq hs2 m n (i + 1) (setBad l (j : Int)) (ops + 1) (by omega) (by omega) (by rw [setBad_len]; omega) (chT_bad hc (j : Int) (by rw [Int.toNat_natCast]; exact hj)).1 (by rw [setBad_len]; omega)
    | false =>
     simp only [cond_f, cond_t, bne, h2, Bool.not_false]
     obtain ⟨x, c⟩ := devP l ops fs false (j : Int) b
     obtain ⟨l', ops', dn'⟩ := x
     rw [wrap_in (x := sq + 1) (by omega) (by omega)]
     cases dn' <;> rfl
theorem c_sCopyLog {lf d : Nat} (hlf : 33554432 ≤ lf) (l : List T) (ops : Int) (fs : List T) (dn : Bool) (sq : Int) (hc : chT l) (hs : l.length + tls l ≤ 16777216) (hs2 : fs.length ≤ 16777216) : Cc lf (d + 4) 30 [.st [.sl l, .i .i64 ops, .sl fs, .b dn, .i .i64 sq]] = some [.st [.sl l, .i .i64 ops, .sl fs, .b dn, .i .i64 sq]] := by
 refine (f30_eq (Cc lf (d + 3)) lf l ops fs dn sq).trans ?_
 unfold f30 f30_t
 rw [c_sCopyDev (d := d) hlf l ops fs dn hc hs hs2]
 rfl
def writeR (l : List T) (ops : Int) (fs : List T) (dn : Bool) (sq k : Int) (body : List T) (spare : Int) : (List T × Int × Bool) × Int × Int × Int :=
 bif !(devB l ops fs) then ((l, ops, dn), sq, -1, 1) else bif !(recB k sq body) then ((l, ops, dn), sq, -1, 1) else bif iLe 1000000 sq then ((l, ops, dn), sq, -1, 1) else
 bif dn then ((l, ops, dn), sq, -1, 10) else wrR fs sq spare (putRecT k sq body) (nonBad l + 1) l ops
def writeT (fs : List T) (r : (List T × Int × Bool) × Int × Int × Int) : List T := [T.st [.sl r.1.1, .i .i64 r.1.2.1, .sl fs, .b r.1.2.2, .i .i64 r.2.1], T.i .i64 r.2.2.1, T.i .i64 r.2.2.2]
theorem nonBad_le (l : List T) : nonBad l ≤ l.length := cntB_le _ _
theorem c_sWrite {lf d : Nat} (hlf : 33554432 ≤ lf) (l : List T) (ops : Int) (fs : List T) (dn : Bool) (sq k : Int) (body : List T) (spare : Int) (hc : chT l) (hs : l.length + tls l ≤ 16777216) (hs2 : fs.length ≤ 16777216) (hbd : body.length ≤ 16000000) : Cc lf (d + 10) 22 [.st [.sl l, .i .i64 ops, .sl fs, .b dn, .i .i64 sq], .i .i64 k, .sl body, .i .i64 spare] = some (writeT fs (writeR l ops fs dn sq k body spare)) := by
 refine (f22_eq (Cc lf (d + 9)) lf l ops fs dn sq k body spare).trans ?_
 unfold f22 f22_t writeR
 rw [c_sCopyLog (d := d + 5) hlf l ops fs dn sq hc hs hs2, c_sRecOk (d := d + 7), c_sDevOk (d := d + 5) hlf l ops fs dn hs hs2]
 simp only [Option.bind_some, nth0, asI_i, asL_l, asB_b, cell0, cellS]
 cases hd : devB l ops fs with
 | false => rfl
 | true =>
  cases hr : recB k sq body with
  | false => rfl
  | true =>
   have hq := (recB_in hr).2.1
   by_cases h1 : 1000000 ≤ sq
   ·rw [iLe_t h1]; rfl
   ·rw [iLe_f h1]
    have hnb := nonBad_le l
    simp only [Bool.not_true, cond_f]
    have W : Cc lf (d + 9) 32 [.st [.sl l, .i .i64 ops, .sl fs, .b dn, .i .i64 sq], .i .i64 k, .sl body, .i .i64 spare] = some (writeT fs (bif dn then ((l, ops, dn), sq, -1, 10) else wrR fs sq spare (putRecT k sq body) (nonBad l + 1) l ops)) := by
     refine (f32_eq (Cc lf (d + 8)) lf l ops fs dn sq k body spare).trans ?_
     unfold f32 f32_t
     dsimp only
     rw [c_sPutRec (d := d + 4) hlf k sq body hbd]
     simp only [Option.bind_some]
     cases dn with
     | true =>
      obtain ⟨m, hm⟩ : ∃ m, lf = m + 1 := ⟨lf - 1, by omega⟩
      have : f32_0 (Cc lf (d + 8)) lf spare sq [T.sl (putRecT k sq body)] lf 0 ops true l fs = some [T.i .i64 0, T.i .i64 (-1), T.i .i64 10, T.i .i64 ops, T.b true, T.i .i64 sq, T.sl l, T.sl fs] := by
       conv => lhs; rw [hm]
       rw [f32_0_u]
       unfold f32_0_s
       rw [← hm, iLe_t (by omega), c_sOpen (d := d + 5) hlf l ops fs true sq spare hs]
       rfl
      rw [this]
      rfl
     | false =>
      have := c_sWrLoop (d := d) hlf fs sq spare (putRecT k sq body) (by omega) hs2 (nonBad l + 1) lf 0 l ops (by omega) (by omega) (by omega) hc hs
      rw [show ((0 : Nat) : Int) = 0 from rfl] at this
      rw [this]
      rfl
    rw [W]
    rfl
abbrev chCT : List CT := [.sl true [.b, .sl false [.i .u8]], .i .i64, .b]
theorem fitS_set {m : Bool} {cs : List CT} {l : List T} (h : fitC (.sl m cs) (.sl l)) (j : Nat) {v : T} (hv : fitE m cs v) : fitC (.sl m cs) (.sl (l.set j v)) := by
 refine ⟨by rw [List.length_set]; exact h.1, fitL_all.2 fun x hx => ?_⟩
 rcases List.mem_or_eq_of_mem_set hx with hx | rfl
 ·exact fitL_all.1 h.2 x hx
 ·exact hv
theorem ch_of {l : List T} (h : fitC (.sl true chCT) (.sl l)) : chT l := by
 intro x hx
 obtain ⟨l0, rfl, q⟩ := fitE_st (fitL_all.1 h.2 x hx)
 obtain ⟨x0, l1, rfl, q0, q⟩ := fitCs_cons q
 obtain ⟨x1, l2, rfl, q1, q⟩ := fitCs_cons q
 obtain ⟨x2, l3, rfl, q2, q⟩ := fitCs_cons q
 obtain rfl := fitCs_nil q
 obtain ⟨ps, rfl, qp⟩ := fitC_sl q0
 obtain ⟨w, rfl, _⟩ := fitC_i q1
 obtain ⟨bad, rfl⟩ := fitC_b q2
 refine ⟨ps, w, bad, rfl, fun p hp => ?_⟩
 obtain ⟨y, rfl, z⟩ := fitE_st (fitL_all.1 qp.2 p hp)
 obtain ⟨y0, y1, rfl, z0, z⟩ := fitCs_cons z
 obtain ⟨y2, y3, rfl, z2, z⟩ := fitCs_cons z
 obtain rfl := fitCs_nil z
 obtain ⟨u, rfl⟩ := fitC_b z0
 obtain ⟨bs, rfl, _⟩ := fitC_sl z2
 exact ⟨u, bs, rfl⟩
theorem fit_block {l : List T} (h : fitC (.sl true chCT) (.sl l)) {j : Nat} (hj : j < l.length) : fitC (.sl true [.b, .sl false [.i .u8]]) (.sl (asL (T.cell (l.getD j T.u) 0))) ∧ fitC (.i .i64) (.i .i64 (asI (T.cell (l.getD j T.u) 1))) := by
 obtain ⟨ps, e0, q0⟩ := fitC_sl (cell_fit (k := 0) h hj rfl)
 obtain ⟨w, e1, q1⟩ := fitC_i (cell_fit (k := 1) h hj rfl)
 rw [e0, e1]
 exact ⟨q0, rfl, q1⟩
theorem fit_setBad {l : List T} (h : fitC (.sl true chCT) (.sl l)) (n : Int) (hn : n.toNat < l.length) : fitC (.sl true chCT) (.sl (setBad l n)) := by
 obtain ⟨e, _⟩ := chT_at (ch_of h) hn
 obtain ⟨f0, f1⟩ := fit_block h hn
 refine fitS_set h _ ?_
 rw [e]
 exact ⟨f0, f1, trivial, trivial⟩
theorem fit_progL {l : List T} (h : fitC (.sl true chCT) (.sl l)) (n : Int) (b : List T) (hb : byt b) : fitC (.sl true chCT) (.sl (progL l n b)) := by
 unfold progL
 cases h0 : progC l n b == 0 with
 | false => exact h
 | true =>
  obtain ⟨z1, z2, z3, z4, z5, z6⟩ := progC_zero (by simpa using h0)
  have hin := inB_in z2
  have hn : n.toNat < l.length := by omega
  obtain ⟨e, _⟩ := chT_at (ch_of h) hn
  obtain ⟨f0, f1⟩ := fit_block h hn
  refine fitS_set h _ ?_
  rw [e]
  refine ⟨?_, f1, trivial, trivial⟩
  exact fitS_set f0 _ ⟨trivial, byt_fit hb (by unfold maxLen; omega), trivial⟩
theorem tls_setA : ∀ (l : List T) (j : Nat) (v : T) (c : Nat), j < l.length → tl v ≤ tl (l.getD j T.u) + c → tls (l.set j v) ≤ tls l + c
 | [], _, _, _, h, _ => absurd h (Nat.not_lt_zero _)
 | x :: l, 0, v, c, _, hv => by
  have hv : tl v ≤ tl x + c := hv
  simp only [List.set_cons_zero, tls]
  omega
 | x :: l, j + 1, v, c, h, hv => by
  have := tls_setA l j v c (by simpa using h) hv
  simp only [List.set_cons_succ, tls]
  omega
theorem progL_tls {l : List T} (hc : chT l) (n : Int) (b : List T) (hb : byt b) : (progL l n b).length = l.length ∧ tls (progL l n b) ≤ tls l + 400 := by
 unfold progL
 cases h0 : progC l n b == 0 with
 | false => exact ⟨rfl, by simp only [cond_f]; omega⟩
 | true =>
  obtain ⟨z1, z2, z3, z4, z5, z6⟩ := progC_zero (by simpa using h0)
  have hin := inB_in z2
  have hn : n.toNat < l.length := by omega
  obtain ⟨e, _⟩ := chT_at hc hn
  have hp := tls_setA (pgs l n) (usedN (pgs l n)) (T.st [T.b true, T.sl b]) 400 (by omega) (by have := byt_tls hb; simp only [tl, tls]; omega)
  have e2 : T.setc (l.getD n.toNat T.u) 0 (T.sl ((pgs l n).set (usedN (pgs l n)) (T.st [T.b true, T.sl b]))) = .st [T.sl ((pgs l n).set (usedN (pgs l n)) (T.st [T.b true, T.sl b])), .i .i64 (asI (T.cell (l.getD n.toNat T.u) 1)), .b (asB (T.cell (l.getD n.toNat T.u) 2))] := by
   rw [e]
   rfl
  have e3 : tl (l.getD n.toNat T.u) = (pgs l n).length + tls (pgs l n) := by
   conv => lhs; rw [e]
   show (pgs l n).length + tls (pgs l n) + (0 + (0 + 0)) = _
   omega
  refine ⟨List.length_set .., tls_setA l _ _ 400 hn ?_⟩
  rw [e2, e3]
  simp only [tl, tls, List.length_set]
  omega
def i64B (n : Int) : Prop := -9223372036854775808 ≤ n ∧ n ≤ 9223372036854775807
theorem devP_fit {l : List T} (h : fitC (.sl true chCT) (.sl l)) (ops : Int) (fs : List T) (dn : Bool) (n : Int) {b : List T} (hb : byt b) (ho : i64B ops) : fitC (.sl true chCT) (.sl (devP l ops fs dn n b).1.1) ∧ (devP l ops fs dn n b).1.1.length = l.length ∧ tls (devP l ops fs dn n b).1.1 ≤ tls l + 400 ∧ i64B (devP l ops fs dn n b).1.2.1 := by
 have same : fitC (.sl true chCT) (.sl l) ∧ l.length = l.length ∧ tls l ≤ tls l + 400 ∧ i64B ops := ⟨h, rfl, by omega, ho⟩
 unfold devP
 cases devB l ops fs with
 | false => exact same
 | true =>
  cases dn with
  | true => exact same
  | false =>
   by_cases h1 : 100000 ≤ ops
   ·rw [iLe_t h1]; exact same
   ·rw [iLe_f h1]
    have ho2 : i64B (ops + 1) := by unfold i64B at *; omega
    cases h3 : progC l n b == 0 with
    | false => exact same
    | true =>
     obtain ⟨z1, z2, _⟩ := progC_zero (by simpa using h3)
     have hin := inB_in z2
     have hn : n.toNat < l.length := by omega
     cases faultAt ops fs with
     | none => exact ⟨fit_progL h n b hb, (progL_tls (ch_of h) n b hb).1, (progL_tls (ch_of h) n b hb).2, ho2⟩
     | some x =>
      obtain ⟨a, k, e⟩ := x
      cases hk : k == 1 with
      | true =>
       simp only [Bool.not_true, cond_f, cond_t, hk]
       exact ⟨fit_setBad h n hn, setBad_len l n, Nat.le_trans (setBad_tls (ch_of h) n hn) (by omega), ho2⟩
      | false =>
       simp only [Bool.not_true, cond_f, cond_t, hk]
       exact ⟨fit_progL h n _ (byt_take hb _), (progL_tls (ch_of h) n _ (byt_take hb _)).1, (progL_tls (ch_of h) n _ (byt_take hb _)).2, ho2⟩
theorem i64B_c {n : Int} (h : -100 ≤ n ∧ n ≤ 100) : i64B n := ⟨by omega, by omega⟩
def wrG (K : Nat) (r : (List T × Int × Bool) × Int × Int × Int) : Prop := fitC (.sl true chCT) (.sl r.1.1) ∧ r.1.1.length + tls r.1.1 ≤ K + 400 ∧ i64B r.1.2.1 ∧ (0 ≤ r.2.1 ∧ r.2.1 ≤ 1000001) ∧ i64B r.2.2.1 ∧ i64B r.2.2.2
theorem wrG_no {K : Nat} {l : List T} {ops sq : Int} (h : fitC (.sl true chCT) (.sl l)) (hs : l.length + tls l ≤ K) (ho : i64B ops) (hq : 0 ≤ sq ∧ sq ≤ 1000000) (c : Int) (hc : -100 ≤ c ∧ c ≤ 100) : wrG K ((l, ops, false), sq, -1, c) := ⟨h, by show l.length + tls l ≤ _; omega, ho, ⟨hq.1, by show sq ≤ _; omega⟩, i64B_c (by show -100 ≤ (-1 : Int) ∧ (-1 : Int) ≤ 100; omega), i64B_c hc⟩
theorem wr_fit {fs : List T} {sq spare : Int} {b : List T} (hb : byt b) (hq : 0 ≤ sq ∧ sq ≤ 1000000) {K : Nat} (hK : K ≤ 16777216) : ∀ (m : Nat) (l : List T) (ops : Int), fitC (.sl true chCT) (.sl l) → l.length + tls l ≤ K → i64B ops → wrG K (wrR fs sq spare b m l ops)
 | 0, l, ops, h, hs, ho => wrG_no h hs ho hq 9 (by decide)
 | m + 1, l, ops, h, hs, ho => by
  have hc := ch_of h
  have hok := openB_ok l spare
  unfold wrR
  generalize openB l spare = o at *
  rcases hok with rfl | ⟨j, rfl, hj, hbd⟩
  ·exact wrG_no h hs ho hq 9 (by decide)
  ·rw [iLt_f (by omega)]
   simp only [cond_f]
   obtain ⟨f1, f2, f3, f4⟩ := devP_fit h ops fs false (j : Int) hb ho
   cases h0 : (devP l ops fs false (j : Int) b).2 == 0 with
   | true =>
    have hnx : nextC l (j : Int) = ((usedN (pgs l (j : Int)) : Nat) : Int) := by unfold nextC inB; rw [iLe_t (by omega), iLt_t (by omega)]; rfl
    have hu := usedN_le (pgs l (j : Int))
    have hcl := cellL_le (l := l) (j := j) 0
    have hpg : (pgs l (j : Int)).length ≤ 16777216 := by unfold pgs; rw [Int.toNat_natCast]; omega
    exact ⟨f1, by show (devP l ops fs false (j : Int) b).1.1.length + tls (devP l ops fs false (j : Int) b).1.1 ≤ K + 400; omega, f4, ⟨by show 0 ≤ sq + 1; omega, by show sq + 1 ≤ _; omega⟩, ⟨by show _ ≤ (j : Int) * 8 + nextC l (j : Int); omega, by show (j : Int) * 8 + nextC l (j : Int) ≤ _; omega⟩, i64B_c (n := 0) (by omega)⟩
   | false =>
    cases h2 : (devP l ops fs false (j : Int) b).2 == 2 with
    | true =>
     obtain ⟨e, hi, _⟩ := devP_two (by simpa using h2) (show badAt l (j : Int) = false by unfold badAt; rw [Int.toNat_natCast]; exact hbd)
     simp only [cond_f, cond_t]
     rw [e] at f1 f2 f3 f4
     rw [e]
     have ht := setBad_tls hc (j : Int) (by rw [Int.toNat_natCast]; exact hj)
     simp only at f1 f2 f3 f4
     exact wr_fit hb hq hK m (setBad l (j : Int)) (ops + 1) f1 (by rw [setBad_len]; omega) f4
    | false =>
     simp only [cond_f]
     refine ⟨f1, by show (devP l ops fs false (j : Int) b).1.1.length + tls (devP l ops fs false (j : Int) b).1.1 ≤ K + 400; omega, f4, ?_, i64B_c (n := -1) (by omega), i64B_c (n := 10) (by omega)⟩
     show 0 ≤ (bif (devP l ops fs false (j : Int) b).1.2.2 then sq + 1 else sq) ∧ (bif (devP l ops fs false (j : Int) b).1.2.2 then sq + 1 else sq) ≤ 1000001
     cases (devP l ops fs false (j : Int) b).1.2.2 with
     | true => simp only [cond_t]; omega
     | false => simp only [cond_f]; omega
theorem putRecT_byt (k s : Int) (body : List T) : byt (putRecT k s body) := by
 unfold putRecT
 cases recB k s body with
 | false => exact byt_nil
 | true => exact byt_app (recX_byt k s body) (byt_four (crcN_lt (recX_byt k s body)))
def wrF (K : Nat) (r : (List T × Int × Bool) × Int × Int × Int) : Prop := fitC (.sl true chCT) (.sl r.1.1) ∧ r.1.1.length + tls r.1.1 ≤ K + 400 ∧ i64B r.1.2.1 ∧ i64B r.2.1 ∧ i64B r.2.2.1 ∧ i64B r.2.2.2
theorem write_fit {l : List T} {ops : Int} (fs : List T) (dn : Bool) {sq : Int} (k : Int) (body : List T) (spare : Int) (h : fitC (.sl true chCT) (.sl l)) {K : Nat} (hK : K ≤ 16777216) (hs : l.length + tls l ≤ K) (ho : i64B ops) (hq : i64B sq) : wrF K (writeR l ops fs dn sq k body spare) := by
 have no : ∀ c : Int, i64B c → wrF K ((l, ops, dn), sq, -1, c) := fun c hc => ⟨h, by show l.length + tls l ≤ _; omega, ho, hq, i64B_c (n := -1) (by omega), hc⟩
 unfold writeR
 cases devB l ops fs with
 | false => exact no 1 (i64B_c (by omega))
 | true =>
  cases hr : recB k sq body with
  | false => exact no 1 (i64B_c (by omega))
  | true =>
   by_cases h1 : 1000000 ≤ sq
   ·rw [iLe_t h1]; exact no 1 (i64B_c (by omega))
   ·rw [iLe_f h1]
    cases dn with
    | true => exact no 10 (i64B_c (by omega))
    | false =>
     have hq2 := (recB_in hr).2.1
     obtain ⟨g1, g2, g3, g4, g5, g6⟩ := wr_fit (fs := fs) (spare := spare) (putRecT_byt k sq body) (by omega) hK (nonBad l + 1) l ops h hs ho
     exact ⟨g1, g2, g3, ⟨by have := g4.1; simp only [Bool.not_true, cond_f]; omega, by have := g4.2; simp only [Bool.not_true, cond_f]; omega⟩, g5, g6⟩
theorem numT_inj {a b : Int} {r r' : List T} (h : numT a ++ r = numT b ++ r') (ha : 0 ≤ a ∧ a ≤ 1000000) (hb : 0 ≤ b ∧ b ≤ 1000000) : a = b ∧ r = r' := by
 have h1 := getNum_put (b := numT a ++ r) (p := 0) (n := a) (rest := r) (List.drop_zero ..) ha.1 ha.2
 have h2 := getNum_put (b := numT a ++ r) (p := 0) (n := b) (rest := r') (by rw [List.drop_zero]; exact h) hb.1 hb.2
 rw [h1, Option.some.injEq, Prod.mk.injEq] at h2
 obtain ⟨rfl, _⟩ := h2
 exact ⟨rfl, List.append_cancel_left h⟩
theorem textT_inj {s t : ByteArray} {r r' : List T} (h : textT s ++ r = textT t ++ r') (hs : s.size ≤ 1000000) (ht : t.size ≤ 1000000) : s = t ∧ r = r' := by
 unfold textT at h
 rw [clampN_id (by omega) (by omega), clampN_id (by omega) (by omega), List.append_assoc, List.append_assoc] at h
 obtain ⟨e, h⟩ := numT_inj h (by omega) (by omega)
 have h2 := List.append_inj h (by rw [listOf_len, listOf_len]; omega)
 refine ⟨?_, h2.2⟩
 rw [← bytesOf_listOf s, ← bytesOf_listOf t, h2.1]
theorem getRecB_parts {b : List T} (hb : byt b) {r : Int × Int × List T} (h : getRecB b = some r) : ∃ t : ByteArray, 4 ≤ b.length ∧ b.take (b.length - 4) = numT r.1 ++ (numT r.2.1 ++ textT t) ∧ r.2.2 = listOf t ∧ recB r.1 r.2.1 r.2.2 = true := by
 have hrec := getRecB_seq h
 unfold getRecB at h
 split at h
 ·cases h
 ·rename_i h4
  have hbx := byt_take hb (b.length - 4)
  have hlx : (b.take (b.length - 4)).length = b.length - 4 := by rw [List.length_take]; omega
  generalize hx : b.take (b.length - 4) = x at *
  cases e : (sealB b && ((recHead x (some 0)).2 == some (b.length - 4) && recB (recHead x (some 0)).1.1 (recHead x (some 0)).1.2.1 (listOf (recHead x (some 0)).1.2.2))) with
  | false => rw [e] at h; cases h
  | true =>
   rw [e] at h
   cases h
   simp only [Bool.and_eq_true, beq_iff_eq] at e
   have e1 := e.2.1
   unfold recHead at e1
   simp only at e1
   have n3 : (rdS x (rd x (rd x (some 0)).2).2).2 ≠ none := by rw [e1]; intro h; cases h
   have n2 := rdS_back n3
   have n1 := rd_back n2
   obtain ⟨r1, q1, A1⟩ := rd_of hbx (at_zero x) n1
   obtain ⟨r2, q2, A2⟩ := rd_of hbx A1 n2
   obtain ⟨r3, q3, A3⟩ := rdS_of hbx A2 n3
   have q4 := (at_end A3).1 (by rw [e1, hlx]; exact beq_self_eq_true _)
   rw [q4, List.append_nil] at q3
   refine ⟨(rdS x (rd x (rd x (some 0)).2).2).1, by omega, ?_, rfl, hrec⟩
   show x = numT (rd x (some 0)).1 ++ (numT (rd x (rd x (some 0)).2).1 ++ textT (rdS x (rd x (rd x (some 0)).2).2).1)
   rw [← q3, ← q2, ← q1]
theorem be4_four {x : List T} {c : Nat} (h : c < 4294967296) : be4 (x ++ four c) x.length = (c : Int) := by
 have g : ∀ k, (x ++ four c).getD (x.length + k) .u = (four c).getD k .u := fun k => by
  rw [List.getD_eq_getElem?_getD, List.getD_eq_getElem?_getD, List.getElem?_append_right (by omega), show x.length + k - x.length = k by omega]
 have g0 := g 0
 rw [Nat.add_zero] at g0
 unfold be4
 rw [g0, g 1, g 2, g 3]
 show ((((c / 16777216 : Nat) : Int) * 256 + ((c / 65536 % 256 : Nat) : Int)) * 256 + ((c / 256 % 256 : Nat) : Int)) * 256 + ((c % 256 : Nat) : Int) = (c : Int)
 omega
theorem rec_round {k s : Int} {body : List T} (h : recB k s body = true) (hb : byt body) : getRecB (putRecT k s body) = some (k, s, body) := by
 obtain ⟨h1, h2, h3⟩ := recB_in h
 unfold putRecT
 rw [h, cond_t]
 have hx := recX_byt k s body
 have hc := crcN_lt hx
 have hX : recX k s body = numT k ++ (numT s ++ textT (bytesOf body)) := by unfold recX; rw [clampN_id (by omega) (by omega), clampN_id (by omega) (by omega)]
 have hl : (recX k s body ++ four (crcN (recX k s body))).length - 4 = (recX k s body).length := by rw [List.length_append]; show (recX k s body).length + 4 - 4 = _; omega
 have hh : recHead (recX k s body) (some 0) = ((k, s, bytesOf body), some (recX k s body).length) := by
  have A0 := at_zero (recX k s body)
  have e1 : At (recX k s body) (some 0) (numT k ++ (numT s ++ (textT (bytesOf body) ++ []))) := by rw [List.append_nil, ← hX]; exact A0
  obtain ⟨f1, A1⟩ := rd_put e1 (by omega) (by omega)
  obtain ⟨f2, A2⟩ := rd_put A1 (by omega) (by omega)
  obtain ⟨f3, A3⟩ := rdS_put A2 (by rw [bytesOf_size]; omega)
  unfold recHead
  rw [f1, f2, f3, beq_iff_eq.1 ((at_end A3).2 rfl)]
 unfold getRecB
 rw [if_neg (by rw [List.length_append]; show ¬ (recX k s body).length + 4 < 4; omega), hl, List.take_left, hh]
 have hs : sealB (recX k s body ++ four (crcN (recX k s body))) = true := by
  unfold sealB
  rw [hl, List.take_left, be4_four hc]
  exact beq_self_eq_true _
 rw [hs, beq_self_eq_true, listOf_bytesOf hb, h]
 rfl
theorem rec_torn {k s : Int} {body : List T} (h : recB k s body = true) {n : Nat} (hn : n < (putRecT k s body).length) : getRecB ((putRecT k s body).take n) = none := by
 have hby := putRecT_byt k s body
 cases e : getRecB ((putRecT k s body).take n) with
 | none => rfl
 | some r =>
  obtain ⟨t, h4, hp, ht, hr⟩ := getRecB_parts (byt_take hby n) e
  obtain ⟨h1, h2, h3⟩ := recB_in h
  obtain ⟨g1, g2, g3⟩ := recB_in hr
  rw [ht, listOf_len] at g3
  exfalso
  have hP : putRecT k s body = numT k ++ (numT s ++ (textT (bytesOf body) ++ four (crcN (recX k s body)))) := by
   have hX : recX k s body = numT k ++ (numT s ++ textT (bytesOf body)) := by unfold recX; rw [clampN_id (by omega) (by omega), clampN_id (by omega) (by omega)]
   unfold putRecT
   rw [h, cond_t]
   generalize four (crcN (recX k s body)) = c
   rw [hX, List.append_assoc, List.append_assoc]
  have hlt : ((putRecT k s body).take n).length = n := by rw [List.length_take]; omega
  rw [hlt, List.take_take, Nat.min_eq_left (by omega)] at hp
  have hs := (List.take_append_drop (n - 4) (putRecT k s body)).symm
  have hl := congrArg List.length hp
  rw [List.length_take] at hl
  rw [hp, hP] at hs
  rw [List.append_assoc, List.append_assoc] at hs
  obtain ⟨e1, hs⟩ := numT_inj hs (by omega) (by omega)
  obtain ⟨e2, hs⟩ := numT_inj hs (by omega) (by omega)
  obtain ⟨e3, hs⟩ := textT_inj hs (by rw [bytesOf_size]; omega) (by omega)
  have hd := congrArg List.length hs
  rw [List.length_drop] at hd
  have hf : (four (crcN (recX k s body))).length = 4 := rfl
  have hPl := congrArg List.length hP
  simp only [List.length_append] at hl hPl
  rw [← e1, ← e2, ← e3] at hl
  omega
theorem rec_take {k s : Int} {body : List T} (h : recB k s body = true) (hb : byt body) (n : Nat) : getRecB ((putRecT k s body).take n) = if (putRecT k s body).length ≤ n then some (k, s, body) else none := by
 by_cases c : (putRecT k s body).length ≤ n
 ·rw [if_pos c, List.take_of_length_le c, rec_round h hb]
 ·rw [if_neg c, rec_torn h (by omega)]
theorem iLtF_iff {x y : Int} : iLt x y = false ↔ ¬ x < y := decide_eq_false_iff_not
abbrev pgBy (ps : List T) (k : Nat) : List T := asL (T.cell (ps.getD k T.u) 1)
theorem blockB_in {ps : List T} {w : Int} (h : blockB ps w = true) : ps.length = 8 ∧ (0 ≤ w ∧ w ≤ 100000) ∧ ∀ k, k < 8 → (pgBy ps k).length ≤ 400 ∧ (pageU ps k = true ∨ pgBy ps k = []) ∧ (0 < k → pageU ps k = true → pageU ps (k - 1) = true) := by
 unfold blockB at h
 simp only [Bool.and_eq_true, beq_iff_eq, iLe_iff, allB_iff] at h
 have h8 : ps.length = 8 := by omega
 refine ⟨h8, h.1.2, fun k hk => ?_⟩
 have h1 := h.2 k (by omega)
 have hy : (pgBy ps k).length = (asL (T.cell (ps.getD k T.u) 1)).length := rfl
 unfold pageB at h1
 simp only [Bool.and_eq_true, Bool.or_eq_true, Bool.not_eq_true', iLtF_iff] at h1
 refine ⟨by omega, ?_, fun h0 hu => ?_⟩
 ·rcases h1.2.1 with h2 | h2
  ·exact .inl h2
  ·exact .inr (List.eq_nil_of_length_eq_zero (by omega))
 ·rcases h1.2.2 with h2 | h2 | h2
  ·omega
  ·rw [hu] at h2; cases h2
  ·exact h2
theorem blockB_of {ps : List T} {w : Int} (h8 : ps.length = 8) (hw : 0 ≤ w ∧ w ≤ 100000) (h : ∀ k, k < 8 → (pgBy ps k).length ≤ 400 ∧ (pageU ps k = true ∨ pgBy ps k = []) ∧ (0 < k → pageU ps k = true → pageU ps (k - 1) = true)) : blockB ps w = true := by
 unfold blockB
 simp only [Bool.and_eq_true, beq_iff_eq, iLe_iff, allB_iff]
 refine ⟨⟨by omega, hw⟩, fun k hk => ?_⟩
 obtain ⟨h1, h2, h3⟩ := h k (by omega)
 have hy : (pgBy ps k).length = (asL (T.cell (ps.getD k T.u) 1)).length := rfl
 unfold pageB
 simp only [Bool.and_eq_true, Bool.or_eq_true, Bool.not_eq_true', iLtF_iff]
 refine ⟨by omega, ?_, ?_⟩
 ·rcases h2 with h2 | h2
  ·exact .inl h2
  ·exact .inr (by have := congrArg List.length h2; simp only [List.length_nil] at this; omega)
 ·by_cases h0 : 0 < k
  ·cases hu : pageU ps k with
   | false => exact .inr (.inl rfl)
   | true => exact .inr (.inr (h3 h0 hu))
  ·exact .inl (by omega)
theorem cntB_down {P : Nat → Bool} : ∀ n, (∀ j, 0 < j → j < n → P j = true → P (j - 1) = true) → ∀ j, j < n → (P j = true ↔ j < cntB P n)
 | 0, _, _, hj => absurd hj (Nat.not_lt_zero _)
 | n + 1, h, j, hj => by
  have ih := cntB_down n (fun j h0 hj => h j h0 (by omega))
  have hle := cntB_le P n
  have e : cntB P (n + 1) = (bif P n then cntB P n + 1 else cntB P n) := rfl
  rw [e]
  cases hp : P n with
  | true =>
   have full : cntB P n = n := by
    rcases Nat.eq_zero_or_pos n with h0 | h0
    ·omega
    ·have := (ih (n - 1) (by omega)).1 (h n h0 (by omega) hp)
     omega
   simp only [cond_t]
   constructor
   ·intro _; omega
   ·intro _
    by_cases hj2 : j = n
    ·rw [hj2]; exact hp
    ·exact (ih j (by omega)).2 (by omega)
  | false =>
   simp only [cond_f]
   by_cases hj2 : j = n
   ·rw [hj2, hp]
    exact ⟨fun h => (by cases h), fun h => by omega⟩
   ·exact ih j (by omega)
theorem pages_used {ps : List T} {w : Int} (h : blockB ps w = true) {k : Nat} (hk : k < 8) : pageU ps k = true ↔ k < usedN ps := by
 obtain ⟨h8, _, h3⟩ := blockB_in h
 have := cntB_down (P := pageU ps) 8 (fun j h0 hj => (h3 j hj).2.2 h0) k hk
 unfold usedN
 rw [h8]
 exact this
theorem chipB_in {l : List T} (h : chipB l = true) : (3 ≤ l.length ∧ l.length ≤ 24) ∧ ∀ i : Nat, i < l.length → blockB (pgs l i) (asI (T.cell (l.getD i T.u) 1)) = true := by
 unfold chipB at h
 simp only [Bool.and_eq_true, iLe_iff, allB_iff] at h
 exact ⟨by omega, fun i hi => h.1 i hi⟩
theorem chipB_of {l : List T} (hl : 3 ≤ l.length ∧ l.length ≤ 24) (h : ∀ i : Nat, i < l.length → blockB (pgs l i) (asI (T.cell (l.getD i T.u) 1)) = true) : chipB l = true := by
 unfold chipB
 simp only [Bool.and_eq_true, iLe_iff, allB_iff]
 exact ⟨fun i hi => h i hi, by omega⟩
theorem setPg_at {l : List T} (hc : chT l) {j : Nat} (hj : j < l.length) (u : Nat) (p : T) : (setPg l (j : Int) u p).getD j T.u = .st [.sl ((pgs l (j : Int)).set u p), .i .i64 (asI (T.cell (l.getD j T.u) 1)), .b (asB (T.cell (l.getD j T.u) 2))] := by
 obtain ⟨e, _⟩ := chT_at hc hj
 unfold setPg
 rw [Int.toNat_natCast, getD_set hj]
 conv => lhs; rw [e]
 rfl
theorem setPg_ne {l : List T} {i j : Nat} (h : i ≠ j) (u : Nat) (p : T) : (setPg l (j : Int) u p).getD i T.u = l.getD i T.u := by
 unfold setPg
 rw [Int.toNat_natCast]
 exact getD_setne _ (by omega)
theorem setPg_len (l : List T) (n : Int) (u : Nat) (p : T) : (setPg l n u p).length = l.length := List.length_set ..
theorem setPg_pgs {l : List T} (hc : chT l) {j : Nat} (hj : j < l.length) (u : Nat) (p : T) : pgs (setPg l (j : Int) u p) (j : Int) = (pgs l (j : Int)).set u p := by
 show asL (T.cell ((setPg l (j : Int) u p).getD j T.u) 0) = _
 rw [setPg_at hc hj]
 rfl
theorem setPg_pgsne {l : List T} {i j : Nat} (h : i ≠ j) (u : Nat) (p : T) : pgs (setPg l (j : Int) u p) (i : Int) = pgs l (i : Int) := by
 show asL (T.cell ((setPg l (j : Int) u p).getD i T.u) 0) = _
 rw [setPg_ne h]
 rfl
theorem prog_block {ps : List T} {w : Int} (h : blockB ps w = true) {b : List T} (hb : b.length ≤ 400) (hu : usedN ps < 8) : blockB (ps.set (usedN ps) (T.st [T.b true, T.sl b])) w = true ∧ usedN (ps.set (usedN ps) (T.st [T.b true, T.sl b])) = usedN ps + 1 ∧ pgBy ps (usedN ps) = [] ∧ (∀ k, pgBy (ps.set (usedN ps) (T.st [T.b true, T.sl b])) k = if k = usedN ps then b else pgBy ps k) := by
 obtain ⟨h8, h2, h3⟩ := blockB_in h
 have hU : ∀ k, k < 8 → (pageU ps k = true ↔ k < usedN ps) := fun k hk => pages_used h hk
 generalize usedN ps = u at *
 have G : ∀ k, (ps.set u (T.st [T.b true, T.sl b])).getD k T.u = if k = u then T.st [T.b true, T.sl b] else ps.getD k T.u := fun k => by
  by_cases e : k = u
  ·rw [if_pos e, e, getD_set (by omega)]
  ·rw [if_neg e]; exact getD_setne _ (by omega)
 have P : ∀ k, k < 8 → (pageU (ps.set u (T.st [T.b true, T.sl b])) k = true ↔ k < u + 1) := fun k hk => by
  unfold pageU
  rw [G]
  by_cases e : k = u
  ·rw [if_pos e]; exact ⟨fun _ => by omega, fun _ => rfl⟩
  ·rw [if_neg e]
   exact (hU k hk).trans ⟨fun h => by omega, fun h => by omega⟩
 have Y : ∀ k, pgBy (ps.set u (T.st [T.b true, T.sl b])) k = if k = u then b else pgBy ps k := fun k => by
  unfold pgBy
  rw [G]
  by_cases e : k = u
  ·rw [if_pos e, if_pos e]; rfl
  ·rw [if_neg e, if_neg e]
 have B : blockB (ps.set u (T.st [T.b true, T.sl b])) w = true := blockB_of (by rw [List.length_set]; exact h8) h2 fun k hk => by
  obtain ⟨q1, q2, q3⟩ := h3 k hk
  rw [Y]
  refine ⟨?_, ?_, fun h0 hp => ?_⟩
  ·by_cases e : k = u
   ·rw [if_pos e]; exact hb
   ·rw [if_neg e]; exact q1
  ·by_cases e : k = u
   ·exact .inl ((P k hk).2 (by omega))
   ·rw [if_neg e]
    rcases q2 with q2 | q2
    ·exact .inl ((P k hk).2 (by have := (hU k hk).1 q2; omega))
    ·exact .inr q2
  ·have := (P k hk).1 hp
   exact (P (k - 1) (by omega)).2 (by omega)
 refine ⟨B, ?_, ?_, Y⟩
 ·have a1 := (pages_used B hu).1 ((P u hu).2 (by omega))
  by_cases h7 : u + 1 < 8
  ·have a2 : ¬ u + 1 < usedN (ps.set u (T.st [T.b true, T.sl b])) := fun h => by have := (P (u + 1) h7).1 ((pages_used B h7).2 h); omega
   omega
  ·have := usedN_le (ps.set u (T.st [T.b true, T.sl b]))
   rw [List.length_set] at this
   omega
 ·rcases (h3 u hu).2.1 with h | h
  ·have := (hU u hu).1 h; omega
  ·exact h
theorem prog_chip {l : List T} (hc : chT l) (hb : chipB l = true) {j : Nat} (hj : j < l.length) {b : List T} (hl : b.length ≤ 400) (hu : usedN (pgs l (j : Int)) < 8) : chipB (setPg l (j : Int) (usedN (pgs l (j : Int))) (T.st [T.b true, T.sl b])) = true := by
 obtain ⟨h1, h2⟩ := chipB_in hb
 refine chipB_of (by rw [setPg_len]; exact h1) fun i hi => ?_
 rw [setPg_len] at hi
 by_cases e : i = j
 ·subst e
  rw [setPg_pgs hc hi, setPg_at hc hi]
  exact (prog_block (h2 i hi) hl hu).1
 ·rw [setPg_pgsne e, setPg_ne e]
  exact h2 i hi
theorem recA_nat {l : List T} {n : Nat} (hn : ¬ n / 8 < l.length) : recA l (n : Int) = none := by
 unfold recA
 rw [iLt_f (by omega)]
 simp only [Bool.not_false, cond_t]
 refine pgR_no ?_
 unfold pgB
 rw [iLt_f (show ¬ (n : Int).tdiv 8 < (l.length : Int) by rw [Int.tdiv_eq_ediv_of_nonneg (by omega)]; omega), Bool.and_false, Bool.false_and]
theorem recA_at {l : List T} (hb : chipB l = true) {n : Nat} (hn : n / 8 < l.length) : recA l (n : Int) = getRecB (pgBy (pgs l ((n / 8 : Nat) : Int)) (n % 8)) := by
 have := (recA_pages hb hn (show n % 8 < 8 by omega)).1
 rw [show 8 * (n / 8) + n % 8 = n by omega] at this
 exact this
theorem recA_neg {l : List T} {a : Int} (h : a < 0) : recA l a = none := by
 unfold recA
 rw [iLt_t h]
 rfl
theorem recA_congr {l l' : List T} (hl : l'.length = l.length) (hp : ∀ n, pgs l' n = pgs l n) (a : Int) : recA l' a = recA l a := by
 unfold recA pgR pgB pgb
 simp only [hl, hp]
theorem prog_rec {l : List T} (hc : chT l) (hb : chipB l = true) {j : Nat} (hj : j < l.length) {b : List T} (hl : b.length ≤ 400) (hu : usedN (pgs l (j : Int)) < 8) (a : Int) : recA (setPg l (j : Int) (usedN (pgs l (j : Int))) (T.st [T.b true, T.sl b])) a = if a = ((8 * j + usedN (pgs l (j : Int)) : Nat) : Int) then getRecB b else recA l a := by
 have hb' := prog_chip hc hb hj hl hu
 have Y := (prog_block ((chipB_in hb).2 j hj) hl hu).2.2.2
 by_cases h0 : a < 0
 ·rw [recA_neg h0, recA_neg h0, if_neg (by omega)]
 ·obtain ⟨n, rfl⟩ := Int.eq_ofNat_of_zero_le (show 0 ≤ a by omega)
  by_cases hn : n / 8 < l.length
  ·rw [recA_at hb' (by rw [setPg_len]; exact hn), recA_at hb hn]
   by_cases e : n / 8 = j
   ·rw [e, setPg_pgs hc hj, Y]
    by_cases e2 : n % 8 = usedN (pgs l (j : Int))
    ·rw [if_pos e2, if_pos (by omega)]
    ·rw [if_neg e2, if_neg (by omega)]
   ·rw [setPg_pgsne e, if_neg (by omega)]
  ·rw [recA_nat (by rw [setPg_len]; exact hn), recA_nat hn, if_neg (by omega)]
theorem prog_free {l : List T} (hb : chipB l = true) {j : Nat} (hj : j < l.length) (hu : usedN (pgs l (j : Int)) < 8) : recA l ((8 * j + usedN (pgs l (j : Int)) : Nat) : Int) = none := by
 have Y := (prog_block ((chipB_in hb).2 j hj) (b := []) (Nat.zero_le _) hu).2.2.1
 rw [(recA_pages hb hj hu).1]
 show getRecB (pgBy (pgs l (j : Int)) (usedN (pgs l (j : Int)))) = none
 rw [Y]
 rfl
theorem setBad_cells {l : List T} (hc : chT l) (j : Nat) (hj : j < l.length) (i : Nat) : T.cell ((setBad l (j : Int)).getD i T.u) 0 = T.cell (l.getD i T.u) 0 ∧ T.cell ((setBad l (j : Int)).getD i T.u) 1 = T.cell (l.getD i T.u) 1 := by
 by_cases e : i = j
 ·subst e
  obtain ⟨_, ps, w, e1, e2⟩ := chT_bad hc (i : Int) (by rw [Int.toNat_natCast]; exact hj)
  rw [Int.toNat_natCast] at e1 e2
  unfold setBad
  rw [Int.toNat_natCast, getD_set hj, e2, e1]
  exact ⟨rfl, rfl⟩
 ·unfold setBad
  rw [Int.toNat_natCast, getD_setne _ (by omega)]
  exact ⟨rfl, rfl⟩
theorem setBad_pgs {l : List T} (hc : chT l) (j : Nat) (hj : j < l.length) (n : Int) : pgs (setBad l (j : Int)) n = pgs l n := by
 unfold pgs
 rw [(setBad_cells hc j hj n.toNat).1]
theorem setBad_chip {l : List T} (hc : chT l) (hb : chipB l = true) (j : Nat) (hj : j < l.length) : chipB (setBad l (j : Int)) = true := by
 obtain ⟨h1, h2⟩ := chipB_in hb
 refine chipB_of (by rw [setBad_len]; exact h1) fun i hi => ?_
 rw [setBad_len] at hi
 rw [setBad_pgs hc j hj, (setBad_cells hc j hj i).2]
 exact h2 i hi
theorem setBad_rec {l : List T} (hc : chT l) (j : Nat) (hj : j < l.length) (a : Int) : recA (setBad l (j : Int)) a = recA l a := recA_congr (setBad_len l _) (setBad_pgs hc j hj) a
theorem openB_spec (l : List T) (spare : Int) : (openB l spare = -1 ∧ ((freeB l : Int) ≤ spare ∨ freeB l = 0)) ∨ ∃ j : Nat, openB l spare = (j : Int) ∧ j < l.length ∧ asB (T.cell (l.getD j T.u) 2) = false ∧ ((0 < usedN (pgs l (j : Int)) ∧ usedN (pgs l (j : Int)) < (pgs l (j : Int)).length) ∨ (usedN (pgs l (j : Int)) = 0 ∧ spare < (freeB l : Int))) := by
 have key : ∀ n : Nat, (match foldX (openG l) (-1) n with | .inl j => j < n ∧ asB (T.cell (l.getD j T.u) 2) = false ∧ (0 < usedN (pgs l (j : Int)) ∧ usedN (pgs l (j : Int)) < (pgs l (j : Int)).length) | .inr s => (s = -1 ∧ cntB (fun j => !(asB (T.cell (l.getD j T.u) 2)) && ((usedN (asL (T.cell (l.getD j T.u) 0)) : Nat) : Int) == 0) n = 0) ∨ ∃ j : Nat, s = (j : Int) ∧ j < n ∧ asB (T.cell (l.getD j T.u) 2) = false ∧ usedN (pgs l (j : Int)) = 0) := by
  intro n
  induction n with
  | zero => exact .inl ⟨rfl, rfl⟩
  | succ n ih =>
   simp only [foldX]
   cases e : foldX (openG l) (-1) n with
   | inl j => rw [e] at ih; simp only at ih ⊢; exact ⟨by omega, ih.2⟩
   | inr s =>
    rw [e] at ih
    simp only at ih ⊢
    have hcnt : cntB (fun j => !(asB (T.cell (l.getD j T.u) 2)) && ((usedN (asL (T.cell (l.getD j T.u) 0)) : Nat) : Int) == 0) (n + 1) = (bif (!(asB (T.cell (l.getD n T.u) 2)) && ((usedN (asL (T.cell (l.getD n T.u) 0)) : Nat) : Int) == 0) then cntB (fun j => !(asB (T.cell (l.getD j T.u) 2)) && ((usedN (asL (T.cell (l.getD j T.u) 0)) : Nat) : Int) == 0) n + 1 else cntB (fun j => !(asB (T.cell (l.getD j T.u) 2)) && ((usedN (asL (T.cell (l.getD j T.u) 0)) : Nat) : Int) == 0) n) := rfl
    rw [hcnt]
    have hpg : pgs l (n : Int) = asL (T.cell (l.getD n T.u) 0) := rfl
    unfold openG
    rw [← hpg]
    generalize hu : usedN (pgs l (n : Int)) = u
    generalize hL : (pgs l (n : Int)).length = L
    generalize cntB (fun j => !(asB (T.cell (l.getD j T.u) 2)) && ((usedN (asL (T.cell (l.getD j T.u) 0)) : Nat) : Int) == 0) n = cn at *
    have far : ∀ {s : Int}, (∃ j : Nat, s = (j : Int) ∧ j < n ∧ asB (T.cell (l.getD j T.u) 2) = false ∧ usedN (pgs l (j : Int)) = 0) → ∃ j : Nat, s = (j : Int) ∧ j < n + 1 ∧ asB (T.cell (l.getD j T.u) 2) = false ∧ usedN (pgs l (j : Int)) = 0 := fun ⟨j, a, b, c⟩ => ⟨j, a, by omega, c⟩
    cases hb : asB (T.cell (l.getD n T.u) 2) with
    | true =>
     simp only [cond_t, cond_f, Bool.not_true, Bool.false_and]
     rcases ih with h | h
     ·exact .inl h
     ·exact .inr (far h)
    | false =>
     simp only [cond_f, Bool.not_false, Bool.true_and]
     by_cases c0 : u = 0
     ·rw [c0, iLt_f (by omega), show ((((0 : Nat) : Int)) == 0) = true from rfl, Bool.false_and, Bool.true_and, cond_f]
      rcases ih with ⟨h1, h2⟩ | h
      ·rw [h1, iLt_t (by omega), cond_t]
       exact .inr ⟨n, rfl, by omega, hb, by rw [hu, c0]⟩
      ·have h' := h
       obtain ⟨j, hj, _⟩ := h'
       rw [iLt_f (by omega), cond_f]
       exact .inr (far h)
     ·rw [iLt_t (by omega), show (((u : Nat) : Int) == 0) = false by simp only [beq_eq_false_iff_ne, ne_eq]; omega, Bool.true_and, Bool.false_and, cond_f, cond_f]
      by_cases c1 : (u : Int) < (L : Int)
      ·rw [iLt_t c1, cond_t]
       exact ⟨by omega, hb, by omega, by omega⟩
      ·rw [iLt_f c1, cond_f]
       rcases ih with h | h
       ·exact .inl h
       ·exact .inr (far h)
 have := key l.length
 unfold openB
 cases e : foldX (openG l) (-1) l.length with
 | inl j => rw [e] at this; simp only at this ⊢; exact .inr ⟨j, rfl, this.1, this.2.1, .inl this.2.2⟩
 | inr s =>
  rw [e] at this
  simp only at this ⊢
  have hf : freeB l = cntB (fun j => !(asB (T.cell (l.getD j T.u) 2)) && ((usedN (asL (T.cell (l.getD j T.u) 0)) : Nat) : Int) == 0) l.length := rfl
  by_cases c : spare < (freeB l : Int)
  ·rw [iLt_t c, cond_t]
   rcases this with ⟨h1, h2⟩ | ⟨j, h1, h2, h3, h4⟩
   ·exact .inl ⟨h1, .inr (by rw [hf]; exact h2)⟩
   ·exact .inr ⟨j, h1, h2, h3, .inr ⟨h4, c⟩⟩
  ·rw [iLt_f c, cond_f]
   exact .inl ⟨rfl, .inl (by omega)⟩
theorem tls_bound {M : Nat} : ∀ {l : List T}, (∀ x ∈ l, tl x ≤ M) → tls l ≤ M * l.length
 | [], _ => Nat.zero_le _
 | x :: l, h => by
  have h1 := h x (List.mem_cons_self ..)
  have h2 := tls_bound fun y hy => h y (List.mem_cons_of_mem _ hy)
  simp only [tls, List.length_cons, Nat.mul_add]
  omega
theorem chip_small1 {l : List T} (hb : chipB l = true) (hf : fitC (.sl true chCT) (.sl l)) : l.length + tls l ≤ 100000 := by
 obtain ⟨h1, h2⟩ := chipB_in hb
 have hc := ch_of hf
 have := tls_bound (M := 3300) (l := l) fun x hx => by
  obtain ⟨i, hi, rfl⟩ := List.getElem_of_mem hx
  have e : l.getD i T.u = l[i] := by rw [List.getD_eq_getElem?_getD, List.getElem?_eq_getElem hi]; rfl
  obtain ⟨e1, _⟩ := chT_at hc hi
  obtain ⟨p8, _, pk⟩ := blockB_in (h2 i hi)
  have hq := tls_bound (M := 400) (l := pgs l (i : Int)) fun p hp => by
   obtain ⟨k, hk, rfl⟩ := List.getElem_of_mem hp
   have e3 : (pgs l (i : Int)).getD k T.u = (pgs l (i : Int))[k] := by rw [List.getD_eq_getElem?_getD, List.getElem?_eq_getElem hk]; rfl
   have hbs : byt (pgBy (pgs l (i : Int)) k) := pgsByt_of hf (i : Int) (k : Int)
   have e4 := pgT_at (chT_at hc hi).2 (show k < (asL (T.cell (l.getD i T.u) 0)).length from hk)
   have e5 : (asL (T.cell (l.getD i T.u) 0)).getD k T.u = (pgs l (i : Int))[k] := e3
   rw [← e5, e4]
   have h400 := (pk k (by omega)).1
   have ht := byt_tls hbs
   show tl (.st [.b _, .sl (pgBy (pgs l (i : Int)) k)]) ≤ 400
   simp only [tl, tls, ht]
   omega
  rw [← e, e1]
  show tl (.st [.sl (pgs l (i : Int)), .i .i64 _, .b _]) ≤ 3300
  simp only [tl, tls]
  omega
 omega
theorem chip_small {l : List T} (hb : chipB l = true) (hf : fitC (.sl true chCT) (.sl l)) : l.length + tls l ≤ 16777216 := Nat.le_trans (chip_small1 hb hf) (by omega)
theorem progC_len {l : List T} {n : Int} {b b' : List T} (h : progC l n b = 0) (hb : b'.length ≤ 400) : progC l n b' = 0 := by
 obtain ⟨_, _, _, _, h5, _⟩ := progC_zero h
 unfold progC at h ⊢
 rw [iLt_f (by omega), cond_f] at h
 rw [iLt_f (by omega), cond_f]
 exact h
theorem progL_set {l : List T} {n : Int} {b : List T} (h : progC l n b = 0) : progL l n b = setPg l n (usedN (pgs l n)) (T.st [T.b true, T.sl b]) := by
 unfold progL
 rw [h]
 rfl
theorem devB_of {l l' : List T} {ops ops' : Int} {fs : List T} (h : devB l ops fs = true) (hc : chipB l' = true) (ho : 0 ≤ ops' ∧ ops' ≤ 100000) : devB l' ops' fs = true := by
 unfold devB at h ⊢
 simp only [Bool.and_eq_true, iLe_iff] at h ⊢
 exact ⟨h.1, hc, ho, h.2.2.2⟩
theorem nextC_nat {l : List T} {j : Nat} (hj : j < l.length) : nextC l (j : Int) = ((usedN (pgs l (j : Int)) : Nat) : Int) := by
 unfold nextC inB
 rw [iLe_t (by omega), iLt_t (by omega)]
 rfl
theorem prog_main {l : List T} (hc : chT l) (hb : chipB l = true) {j : Nat} (hj : j < l.length) {b b' : List T} (h0 : progC l (j : Int) b = 0) (hl : b'.length ≤ 400) : chipB (progL l (j : Int) b') = true ∧ (progL l (j : Int) b').length = l.length ∧ recA l ((8 * j + usedN (pgs l (j : Int)) : Nat) : Int) = none ∧ ∀ a, recA (progL l (j : Int) b') a = if a = ((8 * j + usedN (pgs l (j : Int)) : Nat) : Int) then getRecB b' else recA l a := by
 obtain ⟨_, _, _, hu, _, _⟩ := progC_zero h0
 rw [progL_set (progC_len h0 hl)]
 exact ⟨prog_chip hc hb hj hl hu, setPg_len .., prog_free hb hj hu, prog_rec hc hb hj hl hu⟩
def wrP (fs : List T) (k sq : Int) (body : List T) (l : List T) (ops : Int) (m : Nat) (r : (List T × Int × Bool) × Int × Int × Int) : Prop :=
 devB r.1.1 r.1.2.1 fs = true ∧ (ops ≤ r.1.2.1 ∧ r.1.2.1 ≤ ops + m) ∧ r.1.1.length = l.length ∧ (∀ a x, recA l a = some x → recA r.1.1 a = some x) ∧ (∀ a x, recA r.1.1 a = some x → recA l a = some x ∨ (x = (k, sq, body) ∧ r.2.1 = sq + 1)) ∧ (sq ≤ r.2.1 ∧ r.2.1 ≤ sq + 1) ∧ ((r.2.2.2 = 0 ∧ r.2.1 = sq + 1 ∧ recA r.1.1 r.2.2.1 = some (k, sq, body)) ∨ (r.2.2.2 ≠ 0 ∧ r.2.2.1 = -1))
theorem wrP_no {fs : List T} {k sq : Int} {body l : List T} {ops : Int} (hd : devB l ops fs = true) (m : Nat) {dn : Bool} {c : Int} (hc : c ≠ 0) : wrP fs k sq body l ops m ((l, ops, dn), sq, -1, c) :=
 ⟨hd, ⟨Int.le_refl _, by show ops ≤ ops + m; omega⟩, rfl, fun _ _ h => h, fun _ _ h => .inl h, ⟨Int.le_refl _, by show sq ≤ sq + 1; omega⟩, .inr ⟨hc, rfl⟩⟩
theorem wr_main {fs : List T} {k sq : Int} {body : List T} (spare : Int) (hr : recB k sq body = true) (hby : byt body) : ∀ (m : Nat) (l : List T) (ops : Int), devB l ops fs = true → fitC (.sl true chCT) (.sl l) → wrP fs k sq body l ops m (wrR fs sq spare (putRecT k sq body) m l ops)
 | 0, l, ops, hd, hf => wrP_no hd 0 (by decide)
 | m + 1, l, ops, hd, hf => by
  have hc := ch_of hf
  obtain ⟨d1, d2, d3, d4⟩ := devB_in hd
  have hok := openB_ok l spare
  unfold wrR
  generalize openB l spare = o at *
  rcases hok with rfl | ⟨j, rfl, hj, hbd⟩
  ·exact wrP_no hd _ (by decide)
  ·rw [iLt_f (by omega)]
   simp only [cond_f]
   unfold devP
   rw [hd]
   simp only [Bool.not_true, cond_f]
   by_cases h1 : 100000 ≤ ops
   ·rw [iLe_t h1]; exact wrP_no hd _ (by decide)
   ·rw [iLe_f h1]
    simp only [cond_f]
    cases h3 : progC l (j : Int) (putRecT k sq body) == 0 with
    | false =>
     have h2 : (progC l (j : Int) (putRecT k sq body) == 2) = false := by simpa using progC_two (b := putRecT k sq body) (show badAt l (j : Int) = false by unfold badAt; rw [Int.toNat_natCast]; exact hbd)
     simp only [Bool.not_false, cond_t, h3, h2, cond_f]
     exact wrP_no hd _ (by decide)
    | true =>
     have h0 : progC l (j : Int) (putRecT k sq body) = 0 := by simpa using h3
     have hbl := (progC_zero h0).2.2.2.2.1
     simp only [Bool.not_true, cond_f]
     cases hfa : faultAt ops fs with
     | none =>
      obtain ⟨p1, p2, p3, p4⟩ := prog_main hc d2 hj h0 hbl
      simp only [show ((0 : Int) == 0) = true from rfl, cond_t]
      refine ⟨devB_of hd p1 (by show 0 ≤ ops + 1 ∧ ops + 1 ≤ 100000; omega), ⟨by show ops ≤ ops + 1; omega, by show ops + 1 ≤ ops + ((m + 1 : Nat) : Int); omega⟩, p2, fun a x hx => ?_, fun a x hx => ?_, ⟨by show sq ≤ sq + 1; omega, Int.le_refl _⟩, .inl ⟨rfl, rfl, ?_⟩⟩
      ·show recA (progL l (j : Int) (putRecT k sq body)) a = some x
       rw [p4]
       by_cases e : a = ((8 * j + usedN (pgs l (j : Int)) : Nat) : Int)
       ·rw [e, p3] at hx; cases hx
       ·rw [if_neg e]; exact hx
      ·have hx : recA (progL l (j : Int) (putRecT k sq body)) a = some x := hx
       rw [p4] at hx
       by_cases e : a = ((8 * j + usedN (pgs l (j : Int)) : Nat) : Int)
       ·rw [if_pos e, rec_round hr hby] at hx
        cases hx
        exact .inr ⟨rfl, rfl⟩
       ·rw [if_neg e] at hx; exact .inl hx
      ·show recA (progL l (j : Int) (putRecT k sq body)) ((j : Int) * 8 + nextC l (j : Int)) = _
       rw [p4, nextC_nat hj, if_pos (by omega), rec_round hr hby]
     | some x =>
      obtain ⟨a, kk, e⟩ := x
      cases hk : kk == 1 with
      | true =>
       have ih := wr_main (fs := fs) (k := k) (sq := sq) (body := body) spare hr hby m (setBad l (j : Int)) (ops + 1) (devB_of hd (setBad_chip hc d2 j hj) (by omega)) (fit_setBad hf _ (by rw [Int.toNat_natCast]; exact hj))
       simp only [hk, cond_t, show ((2 : Int) == 0) = false from rfl, show ((2 : Int) == 2) = true from rfl, cond_f]
       have es : l.set (j : Int).toNat (T.setc (l.getD (j : Int).toNat T.u) 2 (T.b true)) = setBad l (j : Int) := rfl
       rw [es]
       generalize wrR fs sq spare (putRecT k sq body) m (setBad l (j : Int)) (ops + 1) = r at *
       obtain ⟨i1, i2, i3, i4, i5, i6, i7⟩ := ih
       exact ⟨i1, by omega, by rw [i3, setBad_len], fun a x hx => i4 a x (by rw [setBad_rec hc j hj]; exact hx), fun a x hx => by have := i5 a x hx; rw [setBad_rec hc j hj] at this; exact this, i6, i7⟩
      | false =>
       have htl : ((putRecT k sq body).take (imin e ((putRecT k sq body).length : Int)).toNat).length ≤ 400 := by rw [List.length_take]; omega
       obtain ⟨p1, p2, p3, p4⟩ := prog_main hc d2 hj h0 htl
       simp only [hk, cond_f, show ((10 : Int) == 0) = false from rfl, show ((10 : Int) == 2) = false from rfl, cond_t]
       refine ⟨devB_of hd p1 (by show 0 ≤ ops + 1 ∧ ops + 1 ≤ 100000; omega), ⟨by show ops ≤ ops + 1; omega, by show ops + 1 ≤ ops + ((m + 1 : Nat) : Int); omega⟩, p2, fun a x hx => ?_, fun a x hx => ?_, ⟨by show sq ≤ sq + 1; omega, Int.le_refl _⟩, .inr ⟨by show (10 : Int) ≠ 0; decide, rfl⟩⟩
       ·show recA (progL l (j : Int) _) a = some x
        rw [p4]
        by_cases e : a = ((8 * j + usedN (pgs l (j : Int)) : Nat) : Int)
        ·rw [e, p3] at hx; cases hx
        ·rw [if_neg e]; exact hx
       ·have hx : recA (progL l (j : Int) _) a = some x := hx
        rw [p4] at hx
        by_cases e : a = ((8 * j + usedN (pgs l (j : Int)) : Nat) : Int)
        ·rw [if_pos e, rec_take hr hby] at hx
         split at hx
         ·cases hx; exact .inr ⟨rfl, rfl⟩
         ·cases hx
        ·rw [if_neg e] at hx; exact .inl hx
theorem logB_in {l : List T} {ops : Int} {fs : List T} {sq : Int} (h : logB l ops fs sq = true) : devB l ops fs = true ∧ (0 ≤ sq ∧ sq ≤ 1000000) ∧ ∀ a x, recA l a = some x → x.2.1 < sq := by
 unfold logB at h
 simp only [Bool.and_eq_true, iLe_iff] at h
 obtain ⟨h1, h2, h3⟩ := h
 obtain ⟨_, d2, _, _⟩ := devB_in h1
 refine ⟨h1, h2, fun a x hx => ?_⟩
 have hs := seq_same d2 sq h2.1
 rw [iLe_t h3, allB_iff] at hs
 by_cases h0 : a < 0
 ·rw [recA_neg h0] at hx; cases hx
 ·obtain ⟨n, rfl⟩ := Int.eq_ofNat_of_zero_le (show 0 ≤ a by omega)
  by_cases hn : n / 8 < l.length
  ·have := hs n (by omega)
   unfold seqOk at this
   rw [hx] at this
   exact iLt_iff.1 this
  ·rw [recA_nat hn] at hx; cases hx
theorem logB_of {l : List T} {ops : Int} {fs : List T} {sq : Int} (h1 : devB l ops fs = true) (h2 : 0 ≤ sq ∧ sq ≤ 1000000) (h3 : ∀ a x, recA l a = some x → x.2.1 < sq) : logB l ops fs sq = true := by
 obtain ⟨_, d2, _, _⟩ := devB_in h1
 have hs := seq_same d2 sq h2.1
 have : allB (seqOk l sq) (8 * l.length) = true := allB_iff.2 fun n hn => by
  unfold seqOk
  cases e : recA l (n : Int) with
  | none => rfl
  | some x => exact iLt_t (h3 _ _ e)
 rw [this] at hs
 unfold logB
 rw [h1, ← hs, iLe_t h2.1, iLe_t h2.2]
 rfl
theorem log_wr {fs : List T} {k sq : Int} {body l : List T} {ops : Int} {m : Nat} {r : (List T × Int × Bool) × Int × Int × Int} (h : logB l ops fs sq = true) (hs : sq < 1000000) (w : wrP fs k sq body l ops m r) : logB r.1.1 r.1.2.1 fs r.2.1 = true := by
 obtain ⟨_, h2, h3⟩ := logB_in h
 obtain ⟨w1, w2, w3, w4, w5, w6, w7⟩ := w
 refine logB_of w1 (by omega) fun a x hx => ?_
 rcases w5 a x hx with g | ⟨rfl, g⟩
 ·have := h3 a x g; omega
 ·show sq < r.2.1
  omega
theorem write_main {l : List T} {ops : Int} (fs : List T) (dn : Bool) {sq : Int} (k : Int) {body : List T} (spare : Int) (hf : fitC (.sl true chCT) (.sl l)) (hby : byt body) : ((writeR l ops fs dn sq k body spare).1.1 = l ∧ (writeR l ops fs dn sq k body spare).1.2.1 = ops ∧ (writeR l ops fs dn sq k body spare).2.1 = sq ∧ (writeR l ops fs dn sq k body spare).2.2.1 = -1 ∧ (writeR l ops fs dn sq k body spare).2.2.2 ≠ 0) ∨ (sq < 1000000 ∧ recB k sq body = true ∧ wrP fs k sq body l ops (nonBad l + 1) (writeR l ops fs dn sq k body spare)) := by
 unfold writeR
 cases hd : devB l ops fs with
 | false => exact .inl ⟨rfl, rfl, rfl, rfl, by simp only [Bool.not_false, cond_t]; decide⟩
 | true =>
  cases hr : recB k sq body with
  | false => exact .inl ⟨rfl, rfl, rfl, rfl, by simp only [Bool.not_true, Bool.not_false, cond_t, cond_f]; decide⟩
  | true =>
   by_cases h1 : 1000000 ≤ sq
   ·rw [iLe_t h1]; exact .inl ⟨rfl, rfl, rfl, rfl, by simp only [Bool.not_true, cond_t, cond_f]; decide⟩
   ·rw [iLe_f h1]
    cases dn with
    | true => exact .inl ⟨rfl, rfl, rfl, rfl, by simp only [Bool.not_true, cond_t, cond_f]; decide⟩
    | false => exact .inr ⟨by omega, rfl, wr_main spare hr hby _ l ops hd hf⟩
theorem nonBad_chip {l : List T} (h : chipB l = true) : nonBad l ≤ 24 := Nat.le_trans (nonBad_le l) (chipB_len h)
def drawnL (l : List T) (ops : Int) (fs : List T) (sq : Int) (j : Nat) : Prop := logB l ops fs sq = true ∧ fitC (.sl true chCT) (.sl l) ∧ (0 ≤ ops ∧ ops ≤ 25 * j) ∧ (0 ≤ sq ∧ sq ≤ j)
theorem drawnL_wr {l : List T} {ops : Int} {fs : List T} {sq : Int} {j : Nat} (h : drawnL l ops fs sq j) (dn : Bool) (k : Int) {body : List T} (hby : byt body) (spare : Int) : drawnL (writeR l ops fs dn sq k body spare).1.1 (writeR l ops fs dn sq k body spare).1.2.1 fs (writeR l ops fs dn sq k body spare).2.1 (j + 1) := by
 obtain ⟨h1, h2, h3, h4⟩ := h
 have hd := (logB_in h1).1
 have hchip := (devB_in hd).2.1
 have hnb := nonBad_chip hchip
 have hfit := (write_fit (l := l) (ops := ops) fs dn (sq := sq) k body spare h2 (K := 16777216) (Nat.le_refl _) (chip_small hchip h2) (by have := (devB_in hd).2.2.1; unfold i64B; omega) (by have := (logB_in h1).2.1; unfold i64B; omega)).1
 rcases write_main (ops := ops) fs dn (sq := sq) k spare h2 hby with ⟨e1, e2, e3, _⟩ | ⟨g1, g2, g3⟩
 ·refine ⟨by rw [e1, e2, e3]; exact h1, hfit, by rw [e2]; omega, by rw [e3]; omega⟩
 ·have hlog := log_wr h1 g1 g3
  obtain ⟨w1, w2, w3, w4, w5, w6, w7⟩ := g3
  exact ⟨hlog, hfit, by omega, by omega⟩
theorem and_255 (x : Int) : 0 ≤ intBits .and .i64 x 255 ∧ intBits .and .i64 x 255 ≤ 255 := by
 have h : intBits .and .i64 x 255 = IntKind.wrap .i64 (((BitVec.ofInt 64 x &&& BitVec.ofInt 64 255).toNat : Nat) : Int) := rfl
 have h2 : (BitVec.ofInt 64 x &&& BitVec.ofInt 64 255).toNat ≤ 255 := by
  rw [BitVec.toNat_and, toNat_ofInt64 (x := 255) (by omega) (by omega)]
  exact Nat.and_le_right
 rw [h, wrap_in (by omega) (by omega)]
 omega
theorem c_new {lf d : Nat} (hlf : 33554432 ≤ lf) {b : List T} (hl : b.length ≤ 1048576) : ∃ h, Cc lf (d + 1) 11 [.sl b] = some [.st [.sl b, .i .i64 0, .i .i64 h]] := by
 have E := f11_eq (Cc lf d) lf b
 unfold f11 f11_t at E
 dsimp only at E
 have L : ∀ (k j n : Nat) (h : Int), j + k = b.length → k < n → ∃ h', f11_0 (Cc lf d) lf b n h j = some [T.i .i64 0, T.sl b, T.i .i64 h'] := by
  intro k
  induction k with
  | zero =>
   intro j n h hj hn
   obtain ⟨n, rfl⟩ : ∃ m, n = m + 1 := ⟨n - 1, by omega⟩
   refine ⟨h, ?_⟩
   rw [f11_0_u]
   unfold f11_0_s
   rw [iLt_f (by omega)]
   rfl
  | succ k ih =>
   intro j n h hj hn
   obtain ⟨n, rfl⟩ : ∃ m, n = m + 1 := ⟨n - 1, by omega⟩
   rw [f11_0_u]
   unfold f11_0_s
   rw [iLt_t (show (j : Int) < (b.length : Int) by omega), inR_nat (by omega), wrap_next (show j < b.length by omega) (by omega)]
   simp only [cond_t]
   cases iLt (j : Int) 4000 with
   | false => exact ⟨h, rfl⟩
   | true => exact ih (j + 1) n _ (by omega) (by omega)
 obtain ⟨h', e⟩ := L b.length 0 lf (IntKind.wrap .i64 (351351 + (b.length : Int))) (by omega) (by omega)
 rw [show ((0 : Nat) : Int) = 0 from rfl] at e
 rw [e] at E
 exact ⟨h', E⟩
theorem c_byte {lf d : Nat} {b : List T} (hl : b.length ≤ 1048576) (i h : Int) (hi : 0 ≤ i ∧ i ≤ b.length) : ∃ x i' h', Cc lf (d + 1) 25 [.st [.sl b, .i .i64 i, .i .i64 h]] = some [.i .i64 x, .st [.sl b, .i .i64 i', .i .i64 h']] ∧ (0 ≤ x ∧ x ≤ 255) ∧ (0 ≤ i' ∧ i' ≤ b.length) := by
 have E := f25_eq (Cc lf d) lf b i h
 unfold f25 f25_t at E
 obtain ⟨k, rfl⟩ := Int.eq_ofNat_of_zero_le hi.1
 by_cases c : k < b.length
 ·rw [iLt_t (by omega), inR_nat c, wrap_in (x := (k : Int) + 1) (by omega) (by omega)] at E
  exact ⟨_, _, _, E, and_255 _, by omega⟩
 ·rw [iLt_f (by omega)] at E
  exact ⟨_, _, _, E, and_255 _, by omega⟩
theorem c_below {lf d : Nat} {b : List T} (hl : b.length ≤ 1048576) (i h : Int) (hi : 0 ≤ i ∧ i ≤ b.length) (n : Int) : ∃ x i' h', Cc lf (d + 2) 17 [.st [.sl b, .i .i64 i, .i .i64 h], .i .i64 n] = some [.i .i64 x, .st [.sl b, .i .i64 i', .i .i64 h']] ∧ (0 ≤ x ∧ (x < n ∨ n ≤ 0 ∧ x = 0)) ∧ (0 ≤ i' ∧ i' ≤ b.length) := by
 have E := f17_eq (Cc lf (d + 1)) lf b i h n
 unfold f17 f17_t at E
 by_cases c : n ≤ 0
 ·rw [iLe_t c] at E
  exact ⟨0, i, h, E, ⟨Int.le_refl _, .inr ⟨c, rfl⟩⟩, hi⟩
 ·rw [iLe_f c] at E
  have hne : (n != 0) = true := by rw [bne_iff_ne]; omega
  obtain ⟨x, i1, h1, e1, r1, q1⟩ := c_byte (lf := lf) (d := d) hl i h hi
  rw [e1, hne] at E
  simp only [cond_f, cond_t, Option.bind_some, nth0, nthS, asI_i, cell0, cellS] at E
  by_cases c2 : n ≤ 256
  ·rw [iLe_t c2] at E
   exact ⟨_, _, _, E, ⟨Int.tmod_nonneg _ r1.1, .inl (Int.tmod_lt_of_pos _ (by omega))⟩, q1⟩
  ·rw [iLe_f c2] at E
   obtain ⟨y, i2, h2, e2, r2, q2⟩ := c_byte (lf := lf) (d := d) hl i1 h1 q1
   obtain ⟨z, i3, h3, e3, r3, q3⟩ := c_byte (lf := lf) (d := d) hl i2 h2 q2
   rw [e2] at E
   simp only [cond_f, cond_t, Option.bind_some, nth0, nthS, asI_i, cell0, cellS] at E
   rw [e3] at E
   simp only [cond_f, cond_t, Option.bind_some, nth0, nthS, asI_i, cell0, cellS] at E
   rw [wrap_in (x := x * 65536) (by omega) (by omega), wrap_in (x := y * 256) (by omega) (by omega), wrap_in (x := x * 65536 + y * 256) (by omega) (by omega), wrap_in (x := x * 65536 + y * 256 + z) (by omega) (by omega)] at E
   exact ⟨_, _, _, E, ⟨Int.tmod_nonneg _ (by omega), .inl (Int.tmod_lt_of_pos _ (by omega))⟩, q3⟩
theorem c_once {lf d : Nat} {b : List T} (hl : b.length ≤ 1048576) (i h : Int) (hi : 0 ≤ i ∧ i ≤ b.length) (n : Int) : ∃ (x : Bool) (i' h' : Int), Cc lf (d + 3) 24 [.st [.sl b, .i .i64 i, .i .i64 h], .i .i64 n] = some [.b x, .st [.sl b, .i .i64 i', .i .i64 h']] ∧ (0 ≤ i' ∧ i' ≤ b.length) := by
 have E := f24_eq (Cc lf (d + 2)) lf b i h n
 unfold f24 f24_t at E
 obtain ⟨x, i1, h1, e1, _, q1⟩ := c_below (lf := lf) (d := d) hl i h hi n
 rw [e1] at E
 exact ⟨_, _, _, E, q1⟩
theorem c_int {lf d : Nat} {b : List T} (hl : b.length ≤ 1048576) (i h : Int) (hi : 0 ≤ i ∧ i ≤ b.length) (l : List T) (h0 : 0 < l.length) : ∃ (k : Nat) (i' h' : Int), k < l.length ∧ Cc lf (d + 3) 13 [.st [.sl b, .i .i64 i, .i .i64 h], .sl l] = some [.i .i64 (asI (l.getD k T.u)), .st [.sl b, .i .i64 i', .i .i64 h']] ∧ (0 ≤ i' ∧ i' ≤ b.length) := by
 have E := f13_eq (Cc lf (d + 2)) lf b i h l
 unfold f13 f13_t at E
 obtain ⟨x, i1, h1, e1, r1, q1⟩ := c_below (lf := lf) (d := d) hl i h hi (l.length : Int)
 obtain ⟨k, rfl⟩ := Int.eq_ofNat_of_zero_le r1.1
 rw [e1] at E
 simp only [Option.bind_some, nth0, nthS, asI_i, cell0, cellS] at E
 rw [inR_nat (by omega)] at E
 exact ⟨k, i1, h1, by omega, E, q1⟩
theorem c_big {lf d : Nat} (b : List T) : Cc lf (d + 1) 4 [.sl b] = some [.b (iLt 1048576 (b.length : Int))] := by
 refine (f4_eq (Cc lf d) lf b).trans ?_
 rfl
theorem getD_app (l : List T) (x : T) : (l ++ [x]).getD l.length T.u = x := by
 rw [List.getD_eq_getElem?_getD, List.getElem?_append_right (Nat.le_refl _), Nat.sub_self]
 rfl
theorem getD_app_lt {l : List T} {i : Nat} (x : T) (h : i < l.length) : (l ++ [x]).getD i T.u = l.getD i T.u := by
 rw [List.getD_eq_getElem?_getD, List.getD_eq_getElem?_getD, List.getElem?_append_left h]
theorem c_bytes {lf d : Nat} (hlf : 33554432 ≤ lf) {b : List T} (hl : b.length ≤ 1048576) (i h : Int) (hi : 0 ≤ i ∧ i ≤ b.length) (m : Nat) (hm : m ≤ 1000) : ∃ (o : List T) (i' h' : Int), Cc lf (d + 2) 33 [.st [.sl b, .i .i64 i, .i .i64 h], .i .i64 (m : Int)] = some [.sl o, .st [.sl b, .i .i64 i', .i .i64 h']] ∧ byt o ∧ o.length = m ∧ (0 ≤ i' ∧ i' ≤ b.length) := by
 have E := f33_eq (Cc lf (d + 1)) lf b i h m
 unfold f33 f33_t at E
 dsimp only at E
 have L : ∀ (k n : Nat) (i h : Int) (l : List T), l.length + k = m → k < n → byt l → (0 ≤ i ∧ i ≤ b.length) → ∃ l' i' h', f33_0 (Cc lf (d + 1)) lf b m n (l.length : Int) i h l = some [T.i .i64 0, T.sl b, T.i .i64 i', T.i .i64 h', T.sl l'] ∧ byt l' ∧ l'.length = m ∧ (0 ≤ i' ∧ i' ≤ b.length) := by
  intro k
  induction k with
  | zero =>
   intro n i h l hj hn hg hi
   obtain ⟨n, rfl⟩ : ∃ m, n = m + 1 := ⟨n - 1, by omega⟩
   refine ⟨l, i, h, ?_, hg, by omega, hi⟩
   rw [f33_0_u]
   unfold f33_0_s
   rw [iLt_f (by omega)]
   rfl
  | succ k ih =>
   intro n i h l hj hn hg hi
   obtain ⟨n, rfl⟩ : ∃ m, n = m + 1 := ⟨n - 1, by omega⟩
   rw [f33_0_u]
   unfold f33_0_s
   obtain ⟨x, i1, h1, e1, r1, q1⟩ := c_byte (lf := lf) (d := d) hl i h hi
   rw [iLt_t (by omega), e1]
   simp only [cond_t, Option.bind_some, nth0, nthS, asI_i, cell0, cellS]
   rw [nLe_app (by omega), wrap8 r1.1 (by omega), wrap_in (x := (l.length : Int) + 1) (by omega) (by omega)]
   have := ih n i1 h1 (l ++ [T.i .u8 x]) (by rw [List.length_append, List.length_singleton]; omega) (by omega) (byt_app hg fun y hy => ⟨x, List.mem_singleton.1 hy, r1.1, by omega⟩) q1
   rw [List.length_append, List.length_singleton] at this
   exact this
 obtain ⟨l', i', h', e, g1, g2, g3⟩ := L m lf i h [] (by simp) (by omega) byt_nil hi
 rw [show ((([] : List T).length : Nat) : Int) = 0 from rfl] at e
 rw [e] at E
 exact ⟨l', i', h', E, g1, g2, g3⟩
theorem c_some {lf d : Nat} (hlf : 33554432 ≤ lf) {b : List T} (hl : b.length ≤ 1048576) (i h : Int) (hi : 0 ≤ i ∧ i ≤ b.length) : ∃ (o : List T) (i' h' : Int), Cc lf (d + 4) 23 [.st [.sl b, .i .i64 i, .i .i64 h]] = some [.sl o, .st [.sl b, .i .i64 i', .i .i64 h']] ∧ byt o ∧ o.length ≤ 9 ∧ (0 ≤ i' ∧ i' ≤ b.length) := by
 have E := f23_eq (Cc lf (d + 3)) lf b i h
 unfold f23 f23_t at E
 obtain ⟨z, i1, h1, hz, e1, q1⟩ := c_int (lf := lf) (d := d) hl i h hi [T.i .i64 0, T.i .i64 1, T.i .i64 2, T.i .i64 5, T.i .i64 9] (by simp)
 obtain ⟨m, hm, hm9⟩ : ∃ m : Nat, asI ([T.i .i64 0, T.i .i64 1, T.i .i64 2, T.i .i64 5, T.i .i64 9].getD z T.u) = (m : Int) ∧ m ≤ 9 := by
  rcases z with _ | _ | _ | _ | _ | z
  ·exact ⟨0, rfl, by omega⟩
  ·exact ⟨1, rfl, by omega⟩
  ·exact ⟨2, rfl, by omega⟩
  ·exact ⟨5, rfl, by omega⟩
  ·exact ⟨9, rfl, by omega⟩
  ·simp only [List.length_cons, List.length_nil] at hz; omega
 rw [e1, hm] at E
 simp only [Option.bind_some, nth0, nthS, asI_i, asL_l, cell0, cellS] at E
 obtain ⟨o, i2, h2, e2, hb, ho, q2⟩ := c_bytes (lf := lf) (d := d + 1) hlf hl i1 h1 q1 m (by omega)
 rw [e2] at E
 exact ⟨o, i2, h2, E, hb, by omega, q2⟩
def blk0 : T := .st [.sl [T.st [T.b false, T.sl []], T.st [T.b false, T.sl []], T.st [T.b false, T.sl []], T.st [T.b false, T.sl []], T.st [T.b false, T.sl []], T.st [T.b false, T.sl []], T.st [T.b false, T.sl []], T.st [T.b false, T.sl []]], .i .i64 0, .b false]
theorem rep_at {n i : Nat} (h : i < n) : (List.replicate n blk0).getD i T.u = blk0 := by
 rw [List.getD_eq_getElem?_getD, List.getElem?_replicate, if_pos h]
 rfl
theorem rep_chip {n : Nat} (h : 3 ≤ n ∧ n ≤ 24) : chipB (List.replicate n blk0) = true := by
 refine chipB_of (by rw [List.length_replicate]; exact h) fun i hi => ?_
 rw [List.length_replicate] at hi
 show blockB (asL (T.cell ((List.replicate n blk0).getD i T.u) 0)) (asI (T.cell ((List.replicate n blk0).getD i T.u) 1)) = true
 rw [rep_at hi]
 rfl
theorem rep_rec {n : Nat} (h : 3 ≤ n ∧ n ≤ 24) (a : Int) : recA (List.replicate n blk0) a = none := by
 by_cases h0 : a < 0
 ·exact recA_neg h0
 ·obtain ⟨m, rfl⟩ := Int.eq_ofNat_of_zero_le (show 0 ≤ a by omega)
  by_cases hm : m / 8 < (List.replicate n blk0).length
  ·rw [recA_at (rep_chip h) hm]
   rw [List.length_replicate] at hm
   show getRecB (asL (T.cell ((asL (T.cell ((List.replicate n blk0).getD (m / 8) T.u) 0)).getD (m % 8) T.u) 1)) = none
   rw [rep_at hm]
   have : ∀ k, k < 8 → getRecB (asL (T.cell ((asL (T.cell blk0 0)).getD k T.u) 1)) = none := by
    intro k hk
    rcases k with _ | _ | _ | _ | _ | _ | _ | _ | k <;> first | rfl | omega
   exact this _ (by omega)
  ·exact recA_nat hm
theorem rep_fit {n : Nat} (h : n ≤ 24) : fitC (.sl true chCT) (.sl (List.replicate n blk0)) := by
 refine ⟨by rw [List.length_replicate]; unfold maxLen; omega, fitL_all.2 fun x hx => ?_⟩
 rw [List.eq_of_mem_replicate hx]
 refine ⟨⟨by show (8 : Nat) ≤ maxLen; unfold maxLen; omega, fitL_all.2 fun p hp => ?_⟩, ⟨rfl, wf64 (by omega) (by omega)⟩, trivial, trivial⟩
 simp only [List.mem_cons, List.not_mem_nil, or_false, or_self] at hp
 rw [hp]
 exact ⟨trivial, ⟨Nat.zero_le _, trivial⟩, trivial⟩
theorem c_chipNew {lf d : Nat} (hlf : 33554432 ≤ lf) {n : Nat} (h : 3 ≤ n ∧ n ≤ 24) : Cc lf (d + 2) 28 [.i .i64 (n : Int)] = some [.st [.sl (List.replicate n blk0)]] := by
 refine (f28_eq (Cc lf (d + 1)) lf n).trans ?_
 unfold f28 f28_t
 dsimp only
 have L : ∀ (k j m : Nat), j + k = n → k < m → f28_0 (Cc lf (d + 1)) lf n m j (List.replicate j blk0) = some [T.i .i64 0, T.sl ([] : List T), T.sl (List.replicate n blk0)] := by
  intro k
  induction k with
  | zero =>
   intro j m hj hm
   obtain ⟨m, rfl⟩ : ∃ z, m = z + 1 := ⟨m - 1, by omega⟩
   rw [f28_0_u]
   unfold f28_0_s
   rw [iLt_f (by omega), show j = n by omega]
   rfl
  | succ k ih =>
   intro j m hj hm
   obtain ⟨m, rfl⟩ : ∃ z, m = z + 1 := ⟨m - 1, by omega⟩
   rw [f28_0_u]
   unfold f28_0_s
   rw [iLt_t (by omega), c_l1In, iLe_t (by omega), iLe_t (by omega), wrap_in (x := (j : Int) + 1) (by omega) (by omega), nLe_t (by rw [List.length_replicate]; unfold LIM; simp only [List.length_cons, List.length_nil]; omega)]
   have e := ih (j + 1) m (by omega) (by omega)
   rw [List.replicate_succ'] at e
   exact e
 have := L n 0 lf (by omega) (by omega)
 rw [show ((0 : Nat) : Int) = 0 from rfl, show List.replicate 0 blk0 = [] from rfl] at this
 rw [this]
 rfl
def goodF (l : List T) (at_ : Int) : Prop := ∀ i, i < l.length → ∃ a k e, l.getD i T.u = .st [.i .i64 a, .i .i64 k, .i .i64 e] ∧ (0 ≤ a ∧ a < at_) ∧ (1 ≤ k ∧ k ≤ 2) ∧ (0 ≤ e ∧ e ≤ 400) ∧ (0 < i → asI (T.cell (l.getD (i - 1) T.u) 0) < a)
theorem goodF_app {l : List T} {at_ a k e : Int} (h : goodF l at_) (ha : 0 ≤ a ∧ at_ ≤ a) (hk : 1 ≤ k ∧ k ≤ 2) (he : 0 ≤ e ∧ e ≤ 400) : goodF (l ++ [.st [.i .i64 a, .i .i64 k, .i .i64 e]]) (a + 1) := fun i hi => by
 rw [List.length_append, List.length_singleton] at hi
 by_cases c : i = l.length
 ·subst c
  refine ⟨a, k, e, getD_app l _, by omega, hk, he, fun h0 => ?_⟩
  rw [getD_app_lt _ (by omega)]
  obtain ⟨a', k', e', g1, g2, _⟩ := h (l.length - 1) (by omega)
  rw [g1]
  show a' < a
  omega
 ·obtain ⟨a', k', e', g1, g2, g3, g4, g5⟩ := h i (by omega)
  refine ⟨a', k', e', by rw [getD_app_lt _ (by omega)]; exact g1, by omega, g3, g4, fun h0 => ?_⟩
  rw [getD_app_lt _ (by omega)]
  exact g5 h0
theorem goodF_B {l : List T} {at_ : Int} (h : goodF l at_) (hat : at_ ≤ 100000) : allB (faultB l) l.length = true := allB_iff.2 fun j hj => by
 obtain ⟨a, k, e, g1, g2, g3, g4, g5⟩ := h j hj
 unfold faultB
 rw [g1]
 simp only [cell0, cellS, asI_i]
 rw [iLe_t (by omega), iLe_t (by omega), iLe_t (by omega), iLe_t (by omega), iLe_t (by omega), iLe_t (by omega)]
 by_cases h0 : 0 < j
 ·have := g5 h0
  rw [iLe_f (show ¬ a ≤ asI (T.cell (l.getD (j - 1) T.u) 0) by omega)]
  cases iLt 0 (j : Int) <;> rfl
 ·rw [iLt_f (by omega)]; rfl
theorem goodF_fit {l : List T} {at_ : Int} (h : goodF l at_) (hat : at_ ≤ 100000) (hl : l.length ≤ 100) : fitC (.sl true [.i .i64, .i .i64, .i .i64]) (.sl l) ∧ tls l = 0 := by
 have key : ∀ x ∈ l, ∃ a k e, x = .st [.i .i64 a, .i .i64 k, .i .i64 e] ∧ (0 ≤ a ∧ a < at_) ∧ (1 ≤ k ∧ k ≤ 2) ∧ (0 ≤ e ∧ e ≤ 400) := fun x hx => by
  obtain ⟨i, hi, rfl⟩ := List.getElem_of_mem hx
  obtain ⟨a, k, e, g1, g2, g3, g4, _⟩ := h i hi
  rw [List.getD_eq_getElem?_getD, List.getElem?_eq_getElem hi] at g1
  exact ⟨a, k, e, g1, g2, g3, g4⟩
 refine ⟨⟨by unfold maxLen; omega, fitL_all.2 fun x hx => ?_⟩, ?_⟩
 ·obtain ⟨a, k, e, rfl, g2, g3, g4⟩ := key x hx
  exact ⟨⟨rfl, wf64 (by omega) (by omega)⟩, ⟨rfl, wf64 (by omega) (by omega)⟩, ⟨rfl, wf64 (by omega) (by omega)⟩, trivial⟩
 ·have := tls_bound (M := 0) (l := l) fun x hx => by
   obtain ⟨a, k, e, rfl, _⟩ := key x hx
   simp only [tl, tls]
   omega
  omega
theorem c_faults {lf d : Nat} (hlf : 33554432 ≤ lf) {b : List T} (hl : b.length ≤ 1048576) (i h : Int) (hi : 0 ≤ i ∧ i ≤ b.length) : ∃ fs at_ i' h', Cc lf (d + 4) 21 [.st [.sl b, .i .i64 i, .i .i64 h]] = some [.sl fs, .st [.sl b, .i .i64 i', .i .i64 h']] ∧ goodF fs at_ ∧ at_ ≤ 100 ∧ fs.length ≤ 3 ∧ (0 ≤ i' ∧ i' ≤ b.length) := by
 have E := f21_eq (Cc lf (d + 3)) lf b i h
 unfold f21 f21_t at E
 dsimp only at E
 have L : ∀ (k n : Nat) (i h at_ : Int) (l : List T), k < n → goodF l at_ → (0 ≤ at_ ∧ at_ ≤ 20 * (l.length : Int)) → l.length + k ≤ 3 → (0 ≤ i ∧ i ≤ b.length) → ∃ l' at' i' h', f21_0 (Cc lf (d + 3)) lf b n at_ k i h l = some [T.i .i64 0, T.sl b, T.i .i64 i', T.i .i64 h', T.sl l'] ∧ goodF l' at' ∧ at' ≤ 100 ∧ l'.length ≤ 3 ∧ (0 ≤ i' ∧ i' ≤ b.length) := by
  intro k
  induction k with
  | zero =>
   intro n i h at_ l hn hg hat hlen hi
   obtain ⟨n, rfl⟩ : ∃ m, n = m + 1 := ⟨n - 1, by omega⟩
   refine ⟨l, at_, i, h, ?_, hg, by omega, by omega, hi⟩
   rw [f21_0_u]
   unfold f21_0_s
   rw [iLt_f (by omega)]
   rfl
  | succ k ih =>
   intro n i h at_ l hn hg hat hlen hi
   obtain ⟨n, rfl⟩ : ∃ m, n = m + 1 := ⟨n - 1, by omega⟩
   rw [f21_0_u]
   unfold f21_0_s
   obtain ⟨x, i1, h1, e1, r1, q1⟩ := c_below (lf := lf) (d := d + 1) hl i h hi 12
   rw [iLt_t (by omega), e1]
   simp only [cond_t, Option.bind_some, nth0, nthS, asB_b, asI_i, cell0, cellS]
   obtain ⟨y, i2, h2, e2, r2, q2⟩ := c_below (lf := lf) (d := d + 1) hl i1 h1 q1 2
   rw [e2]
   simp only [cond_t, Option.bind_some, nth0, nthS, asB_b, asI_i, cell0, cellS]
   obtain ⟨z, i3, h3, hz, e3, q3⟩ := c_int (lf := lf) (d := d) hl i2 h2 q2 [T.i .i64 0, T.i .i64 1, T.i .i64 5, T.i .i64 8, T.i .i64 400] (by simp)
   have hv : 0 ≤ asI ([T.i .i64 0, T.i .i64 1, T.i .i64 5, T.i .i64 8, T.i .i64 400].getD z T.u) ∧ asI ([T.i .i64 0, T.i .i64 1, T.i .i64 5, T.i .i64 8, T.i .i64 400].getD z T.u) ≤ 400 := by
    rcases z with _ | _ | _ | _ | _ | z <;> first | decide | (simp only [List.length_cons, List.length_nil] at hz; omega)
   rw [e3]
   simp only [cond_t, Option.bind_some, nth0, nthS, asB_b, asI_i, cell0, cellS]
   rw [nLe_app (by omega), wrap_in (x := at_ + x) (by omega) (by omega), wrap_in (x := 1 + y) (by omega) (by omega), wrap_in (x := at_ + x + 1) (by omega) (by omega), wrap_in (x := ((k + 1 : Nat) : Int) - 1) (by omega) (by omega), show ((k + 1 : Nat) : Int) - 1 = (k : Int) by omega]
   exact ih n i3 h3 (at_ + x + 1) _ (by omega) (goodF_app hg (by omega) (by omega) hv) (by rw [List.length_append, List.length_singleton]; omega) (by rw [List.length_append, List.length_singleton]; omega) q3
 obtain ⟨x, i1, h1, e1, r1, q1⟩ := c_below (lf := lf) (d := d + 1) hl i h hi 4
 obtain ⟨k, rfl⟩ := Int.eq_ofNat_of_zero_le r1.1
 rw [e1] at E
 simp only [Option.bind_some, nth0, nthS, asB_b, asI_i, cell0, cellS] at E
 obtain ⟨l', at', i', h', e, g1, g2, g3, g4⟩ := L k lf i1 h1 0 [] (by omega) (fun i hi => absurd hi (Nat.not_lt_zero _)) (by simp) (by simp only [List.length_nil]; omega) q1
 rw [e] at E
 exact ⟨l', at', i', h', E, g1, g2, g3, g4⟩
theorem c_devNew {lf d : Nat} (hlf : 33554432 ≤ lf) {n : Nat} (h : 3 ≤ n ∧ n ≤ 24) {fs : List T} {at_ : Int} (hg : goodF fs at_) (hat : at_ ≤ 100000) (hl : fs.length ≤ 20) : Cc lf (d + 5) 20 [.i .i64 (n : Int), .sl fs] = some [.st [.sl (List.replicate n blk0), .i .i64 0, .sl fs, .b false]] ∧ devB (List.replicate n blk0) 0 fs = true := by
 have hd : devB (List.replicate n blk0) 0 fs = true := by
  unfold devB
  rw [goodF_B hg hat, rep_chip h, iLe_t (show (fs.length : Int) ≤ 20 by omega)]
  rfl
 refine ⟨(f20_eq (Cc lf (d + 4)) lf n fs).trans ?_, hd⟩
 unfold f20 f20_t
 rw [c_chipNew (d := d + 2) hlf h]
 simp only [Option.bind_some, nth0, asL_l, cell0, List.nil_append]
 rw [nLe_t (by unfold LIM; simp only [List.length_nil]; omega), cond_t, c_sDevOk (d := d) hlf _ 0 fs false (chip_small (rep_chip h) (rep_fit h.2)) (by omega), hd]
 rfl
theorem drawnL_new {n : Nat} (h : 3 ≤ n ∧ n ≤ 24) {fs : List T} (hd : devB (List.replicate n blk0) 0 fs = true) : drawnL (List.replicate n blk0) 0 fs 0 0 :=
 ⟨logB_of hd (by omega) (fun a x hx => by rw [rep_rec h] at hx; cases hx), rep_fit h.2, by omega, by omega⟩
theorem drawnL_fs {l : List T} {ops : Int} {fs : List T} {sq : Int} {j : Nat} (h : drawnL l ops fs sq j) : fs.length ≤ 20 ∧ l.length + tls l ≤ 100000 ∧ chT l := by
 obtain ⟨_, d2, _, d4⟩ := devB_in (logB_in h.1).1
 exact ⟨d4, chip_small1 d2 h.2.1, ch_of h.2.1⟩
theorem c_l13Draw {lf d : Nat} (hlf : 33554432 ≤ lf) {b : List T} (hl : b.length ≤ 1048576) (i h : Int) (hi : 0 ≤ i ∧ i ≤ b.length) : ∃ l ops fs dn sq j at_ i' h', Cc lf (d + 11) 16 [.st [.sl b, .i .i64 i, .i .i64 h]] = some [.st [.sl l, .i .i64 ops, .sl fs, .b dn, .i .i64 sq], .st [.sl b, .i .i64 i', .i .i64 h']] ∧ drawnL l ops fs sq j ∧ j ≤ 19 ∧ goodF fs at_ ∧ at_ ≤ 100 ∧ fs.length ≤ 3 ∧ (0 ≤ i' ∧ i' ≤ b.length) := by
 have E := f16_eq (Cc lf (d + 10)) lf b i h
 unfold f16 f16_t at E
 dsimp only at E
 have L : ∀ (fs : List T) (k n j : Nat) (i h ops : Int) (dn : Bool) (sq : Int) (l : List T), k ≤ 100 → k < n → drawnL l ops fs sq j → (0 ≤ i ∧ i ≤ b.length) → ∃ l' ops' dn' sq' i' h', f16_0 (Cc lf (d + 10)) lf b n k i h ops dn sq l fs = some [T.i .i64 0, T.sl b, T.i .i64 i', T.i .i64 h', T.i .i64 0, T.b false, T.i .i64 0, T.sl ([] : List T), T.sl ([] : List T), T.i .i64 ops', T.b dn', T.i .i64 sq', T.sl l', T.sl fs] ∧ drawnL l' ops' fs sq' (j + k) ∧ (0 ≤ i' ∧ i' ≤ b.length) := by
  intro fs k
  induction k with
  | zero =>
   intro n j i h ops dn sq l hk hn hg hi
   obtain ⟨n, rfl⟩ : ∃ m, n = m + 1 := ⟨n - 1, by omega⟩
   refine ⟨l, ops, dn, sq, i, h, ?_, hg, hi⟩
   rw [f16_0_u]
   unfold f16_0_s
   rw [iLt_f (by omega)]
   rfl
  | succ k ih =>
   intro n j i h ops dn sq l hk hn hg hi
   obtain ⟨n, rfl⟩ : ∃ m, n = m + 1 := ⟨n - 1, by omega⟩
   rw [f16_0_u]
   unfold f16_0_s
   obtain ⟨x, i1, h1, e1, r1, q1⟩ := c_below (lf := lf) (d := d + 8) hl i h hi 4
   rw [iLt_t (by omega), e1]
   simp only [cond_t, Option.bind_some, nth0, nthS, asB_b, asI_i, asL_l, cell0, cellS]
   obtain ⟨o, i2, h2, e2, hby, ho, q2⟩ := c_some (lf := lf) (d := d + 6) hlf hl i1 h1 q1
   rw [e2]
   simp only [cond_t, Option.bind_some, nth0, nthS, asB_b, asI_i, asL_l, cell0, cellS]
   obtain ⟨y, i3, h3, e3, r3, q3⟩ := c_below (lf := lf) (d := d + 8) hl i2 h2 q2 2
   rw [e3]
   simp only [cond_t, Option.bind_some, nth0, nthS, asB_b, asI_i, asL_l, cell0, cellS]
   obtain ⟨f1, f2, f3⟩ := drawnL_fs hg
   rw [c_sWrite (d := d) hlf l ops fs dn sq _ o y f3 (by omega) (by omega) (by omega)]
   have hw := drawnL_wr hg dn (IntKind.wrap .i64 (1 + x)) hby y
   simp only [writeT, cond_t, Option.bind_some, nth0, nthS, asB_b, asI_i, asL_l, cell0, cellS]
   generalize writeR l ops fs dn sq (IntKind.wrap .i64 (1 + x)) o y = r at *
   obtain ⟨⟨l', ops', dn'⟩, sq', a', c'⟩ := r
   rw [wrap_in (x := ((k + 1 : Nat) : Int) - 1) (by omega) (by omega), show ((k + 1 : Nat) : Int) - 1 = (k : Int) by omega, show j + (k + 1) = j + 1 + k by omega]
   cases dn' with
   | false => exact ih n (j + 1) i3 h3 ops' false sq' l' (by omega) (by omega) hw q3
   | true =>
    obtain ⟨z, i4, h4, e4, q4⟩ := c_once (lf := lf) (d := d + 7) hl i3 h3 q3 3
    simp only [cond_t]
    rw [e4]
    simp only [cond_t, Option.bind_some, nth0, nthS, asB_b, asI_i, asL_l, cell0, cellS]
    cases z with
    | true => exact ih n (j + 1) i4 h4 ops' false sq' l' (by omega) (by omega) hw q4
    | false => exact ih n (j + 1) i4 h4 ops' true sq' l' (by omega) (by omega) hw q4
 obtain ⟨x, i1, h1, e1, r1, q1⟩ := c_below (lf := lf) (d := d + 8) hl i h hi 3
 obtain ⟨m, rfl⟩ := Int.eq_ofNat_of_zero_le r1.1
 rw [e1] at E
 simp only [Option.bind_some, nth0, nthS, asB_b, asI_i, asL_l, cell0, cellS] at E
 obtain ⟨fs, at_, i2, h2, e2, g1, g2, g3, q2⟩ := c_faults (lf := lf) (d := d + 6) hlf hl i1 h1 q1
 rw [e2] at E
 simp only [Option.bind_some, nth0, nthS, asB_b, asI_i, asL_l, cell0, cellS] at E
 obtain ⟨e3, hd⟩ := c_devNew (lf := lf) (d := d + 5) hlf (n := 3 + m) (by omega) g1 (by omega) (by omega)
 rw [wrap_in (x := 3 + (m : Int)) (by omega) (by omega), show 3 + (m : Int) = ((3 + m : Nat) : Int) by omega, e3] at E
 simp only [Option.bind_some, nth0, nthS, asB_b, asI_i, asL_l, cell0, cellS] at E
 obtain ⟨x, i4, h4, e4, r4, q4⟩ := c_below (lf := lf) (d := d + 8) hl i2 h2 q2 20
 obtain ⟨k, rfl⟩ := Int.eq_ofNat_of_zero_le r4.1
 rw [e4] at E
 simp only [Option.bind_some, nth0, nthS, asB_b, asI_i, asL_l, cell0, cellS] at E
 obtain ⟨l', ops', dn', sq', i', h', e5, k1, k2⟩ := L fs k lf 0 i4 h4 0 false 0 (List.replicate (3 + m) blk0) (by omega) (by omega) (drawnL_new (by omega) hd) q4
 rw [e5] at E
 exact ⟨l', ops', fs, dn', sq', 0 + k, at_, i', h', E, k1, by omega, g1, g2, g3, k2⟩
def anyC (l : List T) : Prop := fitC (.sl true chCT) (.sl l) ∧ l.length + tls l ≤ 200000 ∧ ∀ i : Nat, i < l.length → 0 < (pgs l (i : Int)).length
theorem anyC_of {l : List T} (hb : chipB l = true) (hf : fitC (.sl true chCT) (.sl l)) : anyC l := ⟨hf, by have := chip_small1 hb hf; omega, fun i hi => by have := (blockB_in ((chipB_in hb).2 i hi)).1; omega⟩
theorem blk_set {l : List T} (hb : chipB l = true) (hf : fitC (.sl true chCT) (.sl l)) {j : Nat} (hj : j < l.length) {ps : List T} {w : Int} {bad : Bool} (hps : fitC (.sl true [.b, .sl false [.i .u8]]) (.sl ps)) (hw : i64B w) (hsz : ps.length + tls ps ≤ 5000) (h0 : 0 < ps.length) : anyC (l.set j (.st [.sl ps, .i .i64 w, .b bad])) := by
 have hsm := chip_small1 hb hf
 refine ⟨fitS_set hf j ⟨hps, ⟨rfl, wf64 hw.1 hw.2⟩, trivial, trivial⟩, ?_, fun i hi => ?_⟩
 ·have := tls_setA l j (.st [.sl ps, .i .i64 w, .b bad]) 5000 hj (by simp only [tl, tls]; omega)
  rw [List.length_set]
  omega
 ·rw [List.length_set] at hi
  unfold pgs
  rw [Int.toNat_natCast]
  by_cases e : i = j
  ·rw [e, getD_set hj]; exact h0
  ·rw [getD_setne _ (by omega)]
   have := (blockB_in ((chipB_in hb).2 i hi)).1
   show 0 < (pgs l (i : Int)).length
   omega
theorem blk_facts {l : List T} (hb : chipB l = true) (hf : fitC (.sl true chCT) (.sl l)) {j : Nat} (hj : j < l.length) : ∃ ps w bad, l.getD j T.u = .st [.sl ps, .i .i64 w, .b bad] ∧ ps.length = 8 ∧ pgs l (j : Int) = ps ∧ fitC (.sl true [.b, .sl false [.i .u8]]) (.sl ps) ∧ blockB ps w = true ∧ ps.length + tls ps ≤ 3300 ∧ (0 ≤ w ∧ w ≤ 100000) := by
 obtain ⟨e, _⟩ := chT_at (ch_of hf) hj
 obtain ⟨f0, f1⟩ := fit_block hf hj
 have hB := (chipB_in hb).2 j hj
 obtain ⟨h8, hw, hk⟩ := blockB_in hB
 refine ⟨_, _, _, e, h8, rfl, f0, hB, ?_, hw⟩
 have hq := tls_bound (M := 400) (l := pgs l (j : Int)) fun p hp => by
  obtain ⟨k, hk2, rfl⟩ := List.getElem_of_mem hp
  have e3 : (pgs l (j : Int)).getD k T.u = (pgs l (j : Int))[k] := by rw [List.getD_eq_getElem?_getD, List.getElem?_eq_getElem hk2]; rfl
  have hbs : byt (pgBy (pgs l (j : Int)) k) := pgsByt_of hf (j : Int) (k : Int)
  have e4 := pgT_at (chT_at (ch_of hf) hj).2 (show k < (asL (T.cell (l.getD j T.u) 0)).length from hk2)
  have e5 : (asL (T.cell (l.getD j T.u) 0)).getD k T.u = (pgs l (j : Int))[k] := e3
  rw [← e5, e4]
  have h400 := (hk k (by omega)).1
  have ht := byt_tls hbs
  show tl (.st [.b _, .sl (pgBy (pgs l (j : Int)) k)]) ≤ 400
  simp only [tl, tls, ht]
  omega
 show (pgs l (j : Int)).length + tls (pgs l (j : Int)) ≤ 3300
 omega
theorem fit_setPg {l : List T} (hb : chipB l = true) (hf : fitC (.sl true chCT) (.sl l)) {j : Nat} (hj : j < l.length) (u : Nat) {b : List T} (hby : byt b) (hl : b.length ≤ 400) : fitC (.sl true chCT) (.sl (setPg l (j : Int) u (T.st [T.b true, T.sl b]))) := by
 obtain ⟨ps, w, bad, e, h8, e2, f0, _, _, hw⟩ := blk_facts hb hf hj
 refine fitS_set hf _ ?_
 rw [Int.toNat_natCast, e, e2]
 exact ⟨fitS_set f0 _ ⟨trivial, byt_fit hby (by unfold maxLen; omega), trivial⟩, ⟨rfl, wf64 (by omega) (by omega)⟩, trivial, trivial⟩
def okC (l : List T) (n : Nat) : Prop := chipB l = true ∧ fitC (.sl true chCT) (.sl l) ∧ l.length = n
theorem okC_small {l : List T} {n : Nat} (h : okC l n) : l.length + tls l ≤ 16777216 ∧ chT l ∧ 3 ≤ n ∧ n ≤ 24 := by
 obtain ⟨h1, h2, h3⟩ := h
 have := (chipB_in h1).1
 exact ⟨chip_small h1 h2, ch_of h2, by omega, by omega⟩
theorem okC_bad {l : List T} {n j : Nat} (h : okC l n) (hj : j < n) : okC (setBad l (j : Int)) n := by
 obtain ⟨h1, h2, h3⟩ := h
 exact ⟨setBad_chip (ch_of h2) h1 j (by omega), fit_setBad h2 _ (by rw [Int.toNat_natCast]; omega), by rw [setBad_len]; exact h3⟩
theorem okC_prog {l : List T} {n j : Nat} (h : okC l n) (hj : j < n) {b : List T} (hby : byt b) : okC (progL l (j : Int) b) n := by
 obtain ⟨h1, h2, h3⟩ := h
 refine ⟨?_, fit_progL h2 _ b hby, by rw [(progL_tls (ch_of h2) _ b hby).1]; exact h3⟩
 unfold progL
 cases h0 : progC l (j : Int) b == 0 with
 | false => exact h1
 | true =>
  obtain ⟨_, _, _, z4, z5, _⟩ := progC_zero (by simpa using h0)
  exact prog_chip (ch_of h2) h1 (by omega) z5 z4
theorem okC_setPg {l : List T} {n j : Nat} (h : okC l n) (hj : j < n) {b : List T} (hby : byt b) (hl : b.length ≤ 400) (hu : usedN (pgs l (j : Int)) < 8) : okC (setPg l (j : Int) (usedN (pgs l (j : Int))) (T.st [T.b true, T.sl b])) n := by
 obtain ⟨h1, h2, h3⟩ := h
 exact ⟨prog_chip (ch_of h2) h1 (by omega) hl hu, fit_setPg h1 h2 (by omega) _ hby hl, by rw [setPg_len]; exact h3⟩
def pg8 : List T := [T.st [T.b false, T.sl []], T.st [T.b false, T.sl []], T.st [T.b false, T.sl []], T.st [T.b false, T.sl []], T.st [T.b false, T.sl []], T.st [T.b false, T.sl []], T.st [T.b false, T.sl []], T.st [T.b false, T.sl []]]
theorem pg8_fit : fitC (.sl true [.b, .sl false [.i .u8]]) (.sl pg8) := by
 refine ⟨by show (8 : Nat) ≤ maxLen; unfold maxLen; omega, fitL_all.2 fun p hp => ?_⟩
 simp only [pg8, List.mem_cons, List.not_mem_nil, or_false, or_self] at hp
 rw [hp]
 exact ⟨trivial, ⟨Nat.zero_le _, trivial⟩, trivial⟩
def eraL (l : List T) (j : Nat) : List T := l.set j (.st [.sl pg8, .i .i64 (asI (T.cell (l.getD j T.u) 1) + 1), .b (asB (T.cell (l.getD j T.u) 2))])
def eraC (l : List T) (j : Nat) : Int := mayC l (j : Int) (iLe 100000 (asI (T.cell (l.getD j T.u) 1)))
theorem eraC_zero {l : List T} {j : Nat} (h : eraC l j = 0) : asI (T.cell (l.getD j T.u) 1) < 100000 := by
 unfold eraC mayC at h
 by_cases c : 100000 ≤ asI (T.cell (l.getD j T.u) 1)
 ·rw [iLe_t c] at h
  revert h
  generalize chipB l = b1
  generalize inB l (j : Int) = b2
  generalize badAt l (j : Int) = b3
  cases b1 <;> cases b2 <;> cases b3 <;> exact fun h => absurd h (by decide)
 ·omega
theorem okC_era {l : List T} {n j : Nat} (h : okC l n) (hj : j < n) (hc : eraC l j = 0) : okC (eraL l j) n ∧ usedN (pgs (eraL l j) (j : Int)) = 0 := by
 obtain ⟨h1, h2, h3⟩ := h
 have hjl : j < l.length := by omega
 obtain ⟨ps, w, bad, e, h8, e2, f0, hB, hsz, hw⟩ := blk_facts h1 h2 hjl
 have hw2 := eraC_zero hc
 have ew : asI (T.cell (l.getD j T.u) 1) = w := by rw [e]; rfl
 have hat : (eraL l j).getD j T.u = .st [.sl pg8, .i .i64 (w + 1), .b (asB (T.cell (l.getD j T.u) 2))] := by
  unfold eraL
  rw [getD_set hjl, ew]
 have hp : pgs (eraL l j) (j : Int) = pg8 := by
  show asL (T.cell ((eraL l j).getD j T.u) 0) = _
  rw [hat]
  rfl
 refine ⟨⟨chipB_of (by unfold eraL; rw [List.length_set]; exact (chipB_in h1).1) fun i hi => ?_, ?_, by unfold eraL; rw [List.length_set]; exact h3⟩, by rw [hp]; rfl⟩
 ·by_cases ei : i = j
  ·subst ei
   rw [hp, hat]
   show blockB pg8 (w + 1) = true
   have : blockB pg8 (w + 1) = (iLe 0 (w + 1) && iLe (w + 1) 100000) := by
    show ((true && (iLe 0 (w + 1) && iLe (w + 1) 100000)) && true) = _
    rw [Bool.true_and, Bool.and_true]
   rw [this, iLe_t (by omega), iLe_t (by omega)]
   rfl
  ·unfold eraL at hi ⊢
   rw [List.length_set] at hi
   have := (chipB_in h1).2 i hi
   unfold pgs at this ⊢
   rw [Int.toNat_natCast] at this ⊢
   rw [getD_setne _ (by omega)]
   exact this
 ·unfold eraL
  exact fitS_set h2 j ⟨pg8_fit, ⟨rfl, wf64 (by omega) (by omega)⟩, trivial, trivial⟩
theorem c_sEraC {lf d : Nat} (hlf : 33554432 ≤ lf) (l : List T) (j : Nat) (hj : j < l.length) (hs : l.length + tls l ≤ 16777216) : Cc lf (d + 5) 44 [.st [.sl l], .i .i64 (j : Int)] = some [.i .i64 (eraC l j)] := by
 refine (f44_eq (Cc lf (d + 4)) lf l j).trans ?_
 unfold f44 f44_t eraC
 rw [iLe_t (by omega), iLt_t (by omega), inR_nat hj, Int.toNat_natCast, c_sMay (d := d) hlf l (j : Int) _ hs]
 rfl
theorem c_sErase {lf d : Nat} (hlf : 33554432 ≤ lf) {l : List T} {n : Nat} (h : okC l n) (j : Nat) (hj : j < n) : Cc lf (d + 6) 46 [.st [.sl l], .i .i64 (j : Int)] = some [.st [.sl (bif eraC l j == 0 then eraL l j else l)], .i .i64 (eraC l j)] := by
 obtain ⟨hs, hc, h3, h24⟩ := okC_small h
 have hjl : j < l.length := by have := h.2.2; omega
 refine (f46_eq (Cc lf (d + 5)) lf l j).trans ?_
 unfold f46 f46_t
 rw [c_sCopyChip (d := d + 3) hlf l hc hs, c_sEraC (d := d) hlf l j hjl hs]
 simp only [Option.bind_some, nth0, nthS, asI_i, asL_l, cell0]
 cases h0 : eraC l j == 0 with
 | false => rfl
 | true =>
  obtain ⟨ps, w, bad, e, h8, e2, f0, hB, hsz, hw⟩ := blk_facts h.1 h.2.1 hjl
  have hw2 := eraC_zero (by simpa using h0)
  have ew : asI (T.cell (l.getD j T.u) 1) = w := by rw [e]; rfl
  have hat : ∀ v, (l.set j v).getD j T.u = v := fun v => getD_set hjl v
  rw [inR_nat hjl, inR_nat (by rw [Int.toNat_natCast, List.length_set]; exact hjl), Int.toNat_natCast]
  simp only [hat, List.set_set, ew]
  rw [wrap_in (by omega) (by omega), e]
  unfold eraL
  rw [e]
  rfl
theorem c_l10Draw {lf d : Nat} (hlf : 33554432 ≤ lf) {b : List T} (hl : b.length ≤ 1048576) (i h : Int) (hi : 0 ≤ i ∧ i ≤ b.length) : ∃ l n i' h', Cc lf (d + 7) 36 [.st [.sl b, .i .i64 i, .i .i64 h]] = some [.st [.sl l], .st [.sl b, .i .i64 i', .i .i64 h']] ∧ okC l n ∧ (0 ≤ i' ∧ i' ≤ b.length) := by
 have E := f36_eq (Cc lf (d + 6)) lf b i h
 unfold f36 f36_t at E
 dsimp only at E
 have L : ∀ (z k n : Nat) (i h : Int) (l : List T), k ≤ 100 → k < n → okC l z → (0 ≤ i ∧ i ≤ b.length) → ∃ l' i' h', f36_0 (Cc lf (d + 6)) lf b n k i h l = some [T.i .i64 0, T.sl b, T.i .i64 i', T.i .i64 h', T.sl ([] : List T), T.sl l'] ∧ okC l' z ∧ (0 ≤ i' ∧ i' ≤ b.length) := by
  intro z k
  induction k with
  | zero =>
   intro n i h l hk hn hg hi
   obtain ⟨n, rfl⟩ : ∃ m, n = m + 1 := ⟨n - 1, by omega⟩
   refine ⟨l, i, h, ?_, hg, hi⟩
   rw [f36_0_u]
   unfold f36_0_s
   rw [iLt_f (by omega)]
   rfl
  | succ k ih =>
   intro n i h l hk hn hg hi
   obtain ⟨n, rfl⟩ : ∃ m, n = m + 1 := ⟨n - 1, by omega⟩
   obtain ⟨hs, hc, h3, h24⟩ := okC_small hg
   have hlz := hg.2.2
   rw [f36_0_u]
   unfold f36_0_s
   obtain ⟨x, i1, h1, e1, r1, q1⟩ := c_below (lf := lf) (d := d + 4) hl i h hi (l.length : Int)
   rw [iLt_t (by omega), e1]
   simp only [cond_t, Option.bind_some, nth0, nthS, asB_b, asI_i, asL_l, cell0, cellS]
   obtain ⟨j, rfl⟩ := Int.eq_ofNat_of_zero_le r1.1
   have hj : j < z := by omega
   obtain ⟨y, i2, h2, e2, q2⟩ := c_once (lf := lf) (d := d + 3) hl i1 h1 q1 6
   rw [e2, wrap_in (x := ((k + 1 : Nat) : Int) - 1) (by omega) (by omega), show ((k + 1 : Nat) : Int) - 1 = (k : Int) by omega]
   simp only [cond_t, Option.bind_some, nth0, nthS, asB_b, asI_i, asL_l, cell0, cellS]
   cases y with
   | true =>
    simp only [cond_t]
    rw [c_sErase (d := d) hlf hg j hj]
    simp only [Option.bind_some, nth0, asL_l, cell0]
    cases h0 : eraC l j == 0 with
    | true => exact ih n i2 h2 _ (by omega) (by omega) (okC_era hg hj (by simpa using h0)).1 q2
    | false => exact ih n i2 h2 _ (by omega) (by omega) hg q2
   | false =>
    simp only [cond_f]
    obtain ⟨o, i3, h3', e3, hby, ho, q3⟩ := c_some (lf := lf) (d := d + 2) hlf hl i2 h2 q2
    rw [e3]
    simp only [Option.bind_some, nth0, nthS, asI_i, asL_l, cell0, cellS]
    rw [c_sProgram (d := d) hlf l (j : Int) o hc hs]
    simp only [Option.bind_some, nth0, asL_l, cell0]
    exact ih n i3 h3' _ (by omega) (by omega) (okC_prog hg hj hby) q3
 obtain ⟨x, i1, h1, e1, r1, q1⟩ := c_below (lf := lf) (d := d + 4) hl i h hi 3
 obtain ⟨m, rfl⟩ := Int.eq_ofNat_of_zero_le r1.1
 rw [e1] at E
 simp only [Option.bind_some, nth0, nthS, asB_b, asI_i, asL_l, cell0, cellS] at E
 rw [wrap_in (x := 3 + (m : Int)) (by omega) (by omega), show 3 + (m : Int) = ((3 + m : Nat) : Int) by omega, c_chipNew (d := d + 4) hlf (n := 3 + m) (by omega)] at E
 simp only [Option.bind_some, nth0, nthS, asB_b, asI_i, asL_l, cell0, cellS] at E
 obtain ⟨x, i2, h2, e2, r2, q2⟩ := c_below (lf := lf) (d := d + 4) hl i1 h1 q1 20
 obtain ⟨k, rfl⟩ := Int.eq_ofNat_of_zero_le r2.1
 rw [e2] at E
 simp only [Option.bind_some, nth0, nthS, asB_b, asI_i, asL_l, cell0, cellS] at E
 obtain ⟨l, i3, h3, e3, g3, q3⟩ := L (3 + m) k lf i2 h2 (List.replicate (3 + m) blk0) (by omega) (by omega) ⟨rep_chip (by omega), rep_fit (by omega), List.length_replicate ..⟩ q2
 rw [e3] at E
 simp only [Option.bind_some, nth0, nthS, asB_b, asI_i, asL_l, cell0, cellS] at E
 obtain ⟨y, i4, h4, e4, q4⟩ := c_once (lf := lf) (d := d + 3) hl i3 h3 q3 3
 rw [e4] at E
 simp only [Option.bind_some, nth0, nthS, asB_b, asI_i, asL_l, cell0, cellS] at E
 cases y with
 | true =>
  obtain ⟨x, i5, h5, e5, r5, q5⟩ := c_below (lf := lf) (d := d + 4) hl i4 h4 q4 (l.length : Int)
  obtain ⟨j, rfl⟩ := Int.eq_ofNat_of_zero_le r5.1
  simp only [cond_t] at E
  rw [e5] at E
  simp only [Option.bind_some, nth0, nthS, asB_b, asI_i, asL_l, cell0, cellS] at E
  have hlz := g3.2.2
  have hj : j < l.length := by omega
  rw [inR_nat hj] at E
  exact ⟨_, _, _, _, E, okC_bad g3 (by omega), q5⟩
 | false => exact ⟨_, _, _, _, E, g3, q4⟩
theorem setc_0 {l : List T} {j : Nat} {ps : List T} {w : Int} {bad : Bool} (e : l.getD j T.u = .st [.sl ps, .i .i64 w, .b bad]) (v : T) : T.setc (l.getD j T.u) 0 v = .st [v, .i .i64 w, .b bad] := by rw [e]; rfl
theorem setc_1 {l : List T} {j : Nat} {ps : List T} {w : Int} {bad : Bool} (e : l.getD j T.u = .st [.sl ps, .i .i64 w, .b bad]) (v : T) : T.setc (l.getD j T.u) 1 v = .st [.sl ps, v, .b bad] := by rw [e]; rfl
theorem fit_take {m : Bool} {cs : List CT} {l : List T} (h : fitC (.sl m cs) (.sl l)) (k : Nat) : fitC (.sl m cs) (.sl (l.take k)) := ⟨by rw [List.length_take]; have := h.1; omega, fitL_all.2 fun x hx => fitL_all.1 h.2 x (List.mem_of_mem_take hx)⟩
theorem fit_drop {m : Bool} {cs : List CT} {l : List T} (h : fitC (.sl m cs) (.sl l)) (k : Nat) : fitC (.sl m cs) (.sl (l.drop k)) := ⟨by rw [List.length_drop]; have := h.1; omega, fitL_all.2 fun x hx => fitL_all.1 h.2 x (List.mem_of_mem_drop hx)⟩
theorem tls_take : ∀ (l : List T) (k : Nat), tls (l.take k) ≤ tls l
 | [], k => by rw [List.take_nil]; exact Nat.le_refl _
 | x :: l, 0 => by rw [List.take_zero]; exact Nat.zero_le _
 | x :: l, k + 1 => by
  have := tls_take l k
  simp only [List.take_succ_cons, tls]
  omega
theorem tls_dropA : ∀ (l : List T) (k : Nat), tls (l.drop k) ≤ tls l
 | [], k => by rw [List.drop_nil]; exact Nat.le_refl _
 | x :: l, 0 => Nat.le_refl _
 | x :: l, k + 1 => by
  have := tls_dropA l k
  simp only [List.drop_succ_cons, tls]
  omega
theorem c_l10Any {lf d : Nat} (hlf : 33554432 ≤ lf) {b : List T} (hl : b.length ≤ 1048576) (i h : Int) (hi : 0 ≤ i ∧ i ≤ b.length) : ∃ l i' h', Cc lf (d + 8) 27 [.st [.sl b, .i .i64 i, .i .i64 h]] = some [.st [.sl l], .st [.sl b, .i .i64 i', .i .i64 h']] ∧ anyC l ∧ (0 ≤ i' ∧ i' ≤ b.length) := by
 have E := f27_eq (Cc lf (d + 7)) lf b i h
 unfold f27 f27_t at E
 obtain ⟨l, n, i1, h1, e1, g1, q1⟩ := c_l10Draw (lf := lf) (d := d) hlf hl i h hi
 rw [e1] at E
 simp only [Option.bind_some, nth0, nthS, asB_b, asI_i, asL_l, cell0, cellS] at E
 obtain ⟨hs, hc, h3n, h24⟩ := okC_small g1
 have hln := g1.2.2
 obtain ⟨x, i2, h2, e2, r2, q2⟩ := c_below (lf := lf) (d := d + 5) hl i1 h1 q1 (l.length : Int)
 obtain ⟨j, rfl⟩ := Int.eq_ofNat_of_zero_le r2.1
 have hj : j < l.length := by omega
 rw [e2] at E
 simp only [Option.bind_some, nth0, nthS, asB_b, asI_i, asL_l, cell0, cellS] at E
 obtain ⟨x, i3, h3, e3, r3, q3⟩ := c_below (lf := lf) (d := d + 5) hl i2 h2 q2 16
 rw [e3] at E
 simp only [Option.bind_some, nth0, nthS, asB_b, asI_i, asL_l, cell0, cellS] at E
 obtain ⟨ps, w, bad, eb, h8, ep, f0, hB, hsz, hw⟩ := blk_facts g1.1 g1.2.1 hj
 have hcell : asL (T.cell (l.getD j T.u) 0) = ps := by rw [eb]; rfl
 rw [inR_nat hj] at E
 simp only [Int.toNat_natCast] at E
 cases c0 : x == 0 with
 | true =>
  rw [c0] at E
  obtain ⟨z, i4, h4, hz, e4, q4⟩ := c_int (lf := lf) (d := d + 4) hl i3 h3 q3 [T.i .i64 (-1), T.i .i64 100000, T.i .i64 100001] (by simp)
  have hv : i64B (asI ([T.i .i64 (-1), T.i .i64 100000, T.i .i64 100001].getD z T.u)) := by
   rcases z with _ | _ | _ | z <;> first | exact ⟨by decide, by decide⟩ | (simp only [List.length_cons, List.length_nil] at hz; omega)
  rw [e4] at E
  simp only [cond_t, Option.bind_some, nth0, nthS, asB_b, asI_i, asL_l, cell0, cellS] at E
  rw [setc_1 eb] at E
  exact ⟨_, _, _, E, blk_set g1.1 g1.2.1 hj f0 hv (by omega) (by omega), q4⟩
 | false =>
 cases c1 : x == 1 with
 | true =>
  rw [c0, c1] at E
  simp only [cond_t, cond_f] at E
  rw [hcell, inR_le (show (0 : Int) ≤ 7 by omega) (by omega), setc_0 eb] at E
  refine ⟨_, _, _, E, blk_set g1.1 g1.2.1 hj (fitS_set f0 7 ?_) ⟨by omega, by omega⟩ ?_ (by rw [List.length_set]; omega), q3⟩
  ·have := pgT_at (chT_at hc hj).2 (show 7 < (asL (T.cell (l.getD j T.u) 0)).length by rw [hcell]; omega)
   rw [hcell] at this
   rw [this]
   have hbs : byt (asL (T.cell (ps.getD 7 T.u) 1)) := by have := pgsByt_of g1.2.1 (j : Int) 7; unfold pgb at this; rw [ep] at this; exact this
   have := ((blockB_in hB).2.2 7 (by omega)).1
   exact ⟨trivial, byt_fit hbs (by unfold maxLen; show (pgBy ps 7).length ≤ _; omega), trivial⟩
  ·have := pgT_at (chT_at hc hj).2 (show 7 < (asL (T.cell (l.getD j T.u) 0)).length by rw [hcell]; omega)
   rw [hcell] at this
   have ht := tls_setA ps 7 (T.setc (ps.getD 7 T.u) 0 (T.b true)) 0 (by omega) (by rw [this]; show tl (T.st [T.b true, _]) ≤ _; simp only [tl, tls]; omega)
   rw [List.length_set]
   omega
 | false =>
 cases c2 : x == 2 with
 | true =>
  rw [c0, c1, c2] at E
  simp only [cond_t, cond_f] at E
  rw [hcell, inR_le (show (0 : Int) ≤ 7 by omega) (by omega), setc_0 eb] at E
  have hp7 := pgT_at (chT_at hc hj).2 (show 7 < (asL (T.cell (l.getD j T.u) 0)).length by rw [hcell]; omega)
  rw [hcell] at hp7
  have hone : byt [T.i .u8 1] := fun x hx => ⟨1, List.mem_singleton.1 hx, by omega, by omega⟩
  refine ⟨_, _, _, E, blk_set g1.1 g1.2.1 hj (fitS_set f0 7 ?_) ⟨by omega, by omega⟩ ?_ (by rw [List.length_set]; omega), q3⟩
  ·rw [hp7]
   exact ⟨trivial, byt_fit hone (by unfold maxLen; simp only [List.length_cons, List.length_nil]; omega), trivial⟩
  ·have ht := tls_setA ps 7 (T.setc (ps.getD 7 T.u) 1 (T.sl [T.i .u8 1])) 1 (by omega) (by rw [hp7]; show tl (T.st [_, T.sl [T.i .u8 1]]) ≤ _; simp only [tl, tls, List.length_cons, List.length_nil]; omega)
   rw [List.length_set]
   omega
 | false =>
 cases c3 : x == 3 with
 | true =>
  rw [c0, c1, c2, c3] at E
  simp only [cond_t, cond_f] at E
  have hat : ∀ v, (l.set j v).getD j T.u = v := fun v => getD_set hj v
  simp only [hcell, hat, List.set_set, setc_0 eb] at E
  have hsub : (ps.drop 1).take (ps.length - 1) = ps.drop 1 := by
   exact List.take_of_length_le (by rw [List.length_drop]; omega)
  rw [hsub, iLe_t (show (0 : Int) ≤ 1 by omega), iLe_t (show (1 : Int) ≤ (ps.length : Int) by omega), iLe_t (Int.le_refl _)] at E
  have hany := blk_set (bad := bad) g1.1 g1.2.1 hj (fit_drop f0 1) (w := w) ⟨by omega, by omega⟩ (by have := tls_dropA ps 1; rw [List.length_drop]; omega) (by rw [List.length_drop]; omega)
  have hok := fitL_ok _ _ _ hany.1.2
  have e5 : T.setc (T.st [T.u, T.i .i64 w, T.b bad]) 0 (T.sl (ps.drop 1)) = .st [.sl (ps.drop 1), .i .i64 w, .b bad] := rfl
  rw [e5, hok] at E
  exact ⟨_, _, _, E, hany, q3⟩
 | false =>
 cases c4 : x == 4 with
 | true =>
  rw [c0, c1, c2, c3, c4] at E
  simp only [cond_t, cond_f] at E
  rw [iLe_t (show (0 : Int) ≤ 0 by omega), iLe_t (show (0 : Int) ≤ 2 by omega), iLe_t (show (2 : Int) ≤ (l.length : Int) by omega)] at E
  refine ⟨_, _, _, E, ⟨fit_take (fit_drop g1.2.1 0) _, ?_, fun i hi => ?_⟩, q3⟩
  ·have := chip_small1 g1.1 g1.2.1
   have t1 := tls_take (l.drop 0) (2 - 0)
   rw [List.drop_zero] at t1 ⊢
   rw [List.length_take]
   omega
  ·rw [List.drop_zero] at hi ⊢
   rw [List.length_take] at hi
   have := (blockB_in ((chipB_in g1.1).2 i (by omega))).1
   unfold pgs at this ⊢
   rw [Int.toNat_natCast] at this ⊢
   rw [List.getD_eq_getElem?_getD, List.getElem?_take_of_lt (by omega), ← List.getD_eq_getElem?_getD]
   omega
 | false =>
  rw [c0, c1, c2, c3, c4] at E
  exact ⟨_, _, _, E, anyC_of g1.1 g1.2.1, q3⟩
theorem devP_ok {l : List T} {ops : Int} {fs : List T} {n j : Nat} (h : okC l n) (hd : devB l ops fs = true) (dn : Bool) (hj : j < n) {b : List T} (hby : byt b) : okC (devP l ops fs dn (j : Int) b).1.1 n ∧ devB (devP l ops fs dn (j : Int) b).1.1 (devP l ops fs dn (j : Int) b).1.2.1 fs = true := by
 have ho := (devB_in hd).2.2.1
 unfold devP
 rw [hd]
 cases dn with
 | true => exact ⟨h, hd⟩
 | false =>
  by_cases h1 : 100000 ≤ ops
  ·rw [iLe_t h1]; exact ⟨h, hd⟩
  ·rw [iLe_f h1]
   cases h3 : progC l (j : Int) b == 0 with
   | false => exact ⟨h, hd⟩
   | true =>
    cases faultAt ops fs with
    | none =>
     have g := okC_prog h hj hby
     exact ⟨g, devB_of hd g.1 (by show 0 ≤ ops + 1 ∧ ops + 1 ≤ 100000; omega)⟩
    | some x =>
     obtain ⟨a, k, e⟩ := x
     cases hk : k == 1 with
     | true =>
      have g := okC_bad h hj
      simp only [Bool.not_true, cond_f, cond_t, hk]
      exact ⟨g, devB_of hd g.1 (by omega)⟩
     | false =>
      have g := okC_prog h hj (byt_take hby (imin e (b.length : Int)).toNat)
      simp only [Bool.not_true, cond_f, cond_t, hk]
      exact ⟨g, devB_of hd g.1 (by omega)⟩
theorem c_sDevErase {lf d : Nat} (hlf : 33554432 ≤ lf) {l : List T} {n : Nat} (h : okC l n) {ops : Int} {fs : List T} (hd : devB l ops fs = true) (dn : Bool) (j : Nat) (hj : j < n) : ∃ l' ops' dn' c, Cc lf (d + 7) 34 [.st [.sl l, .i .i64 ops, .sl fs, .b dn], .i .i64 (j : Int)] = some [.st [.sl l', .i .i64 ops', .sl fs, .b dn'], .i .i64 c] ∧ okC l' n ∧ devB l' ops' fs = true := by
 obtain ⟨hs, hc, h3, h24⟩ := okC_small h
 obtain ⟨k1, k2, k3, k4⟩ := devB_in hd
 have hjl : j < l.length := by have := h.2.2; omega
 have E := f34_eq (Cc lf (d + 6)) lf l ops fs dn j
 unfold f34 f34_t at E
 dsimp only at E
 rw [c_sCopyDev (d := d + 3) hlf l ops fs dn hc hs (by omega), c_sEraC (d := d + 1) hlf l j hjl hs] at E
 simp only [Option.bind_some, nth0, nthS, asI_i, asL_l, asB_b, cell0, cellS] at E
 rw [c_sDMay (d := d + 1) hlf l ops fs dn _ hs (by omega)] at E
 simp only [Option.bind_some, nth0, asI_i] at E
 unfold dmayC at E
 rw [hd] at E
 cases dn with
 | true => exact ⟨_, _, _, _, E, h, hd⟩
 | false =>
 by_cases h2 : 100000 ≤ ops
 ·rw [iLe_t h2] at E
  exact ⟨_, _, _, _, E, h, hd⟩
 ·rw [iLe_f h2] at E
  simp only [Bool.not_true, cond_f, bne] at E
  cases h0 : eraC l j == 0 with
  | false =>
   rw [h0] at E
   exact ⟨_, _, _, _, E, h, hd⟩
  | true =>
   obtain ⟨g1, g2⟩ := okC_era h hj (by simpa using h0)
   have hd2 : devB (eraL l j) (ops + 1) fs = true := devB_of hd g1.1 (by omega)
   rw [h0, c_sFaultAt (d := d + 5) hlf l ops fs false (by omega), wrap_in (by omega) (by omega)] at E
   simp only [Option.bind_some, Bool.not_true, cond_f] at E
   rw [c_sErase (d := d) hlf h j hj, h0] at E
   cases hf : faultAt ops fs with
   | none =>
    rw [hf] at E
    simp only [faultR, nth0, nthS, asB_b, cond_f, cond_t, Option.bind_some, Bool.not_false, asL_l, cell0] at E
    exact ⟨_, _, _, _, E, g1, hd2⟩
   | some x =>
    obtain ⟨a, k, e⟩ := x
    obtain ⟨⟨r1, r2⟩, r3, r4⟩ := faultAt_ok k1 hf
    rw [hf] at E
    simp only [faultR, nth0, nthS, asB_b, asI_i, cell0, cellS, cond_t] at E
    cases hk : k == 1 with
    | true =>
     rw [hk, inR_nat hjl] at E
     have g := okC_bad h hj
     exact ⟨_, _, _, _, E, g, devB_of hd g.1 (by omega)⟩
    | false =>
     rw [hk] at E
     simp only [cond_f, Option.bind_some, Bool.not_true, asL_l, asB_b, nth0, cell0, cond_t] at E
     have L : ∀ (q x m : Nat) (l2 : List T), x + q = 8 → q < m → okC l2 n → usedN (pgs l2 (j : Int)) = x → ∃ l3, f34_0 (Cc lf (d + 6)) lf (j : Int) ops [T.st [T.sl l, T.i .i64 ops, T.sl fs, T.b false]] [T.st [T.i .i64 a, T.i .i64 k, T.i .i64 e], T.b true] m x l2 = some [T.i .i64 0, T.i .i64 0, T.b false, T.sl ([] : List T), T.sl ([] : List T), T.i .i64 (ops + 1), T.b false, T.sl l3, T.sl fs] ∧ okC l3 n := by
      intro q
      induction q with
      | zero =>
       intro x m l2 hx hm g hu
       obtain ⟨m, rfl⟩ : ∃ z, m = z + 1 := ⟨m - 1, by omega⟩
       rw [f34_0_u]
       unfold f34_0_s
       rw [iLt_f (by omega), wrap_in (x := ops + 1) (by omega) (by omega)]
       exact ⟨l2, rfl, g⟩
      | succ q ih =>
       intro x m l2 hx hm g hu
       obtain ⟨m, rfl⟩ : ∃ z, m = z + 1 := ⟨m - 1, by omega⟩
       have hl2 := g.2.2
       have hp8 := (blockB_in ((chipB_in g.1).2 j (by omega))).1
       rw [f34_0_u]
       unfold f34_0_s
       rw [iLt_t (by omega)]
       simp only [nth0, asI_i, cell0, cellS, cond_t]
       by_cases he : (x : Int) < e
       ·rw [iLt_t he, inR_nat (show j < l2.length by omega), inR_nat (show x < (asL (T.cell (l2.getD (j : Int).toNat T.u) 0)).length by show x < (pgs l2 (j : Int)).length; omega), wrap_in (x := (x : Int) + 1) (by omega) (by omega)]
        have g2 := okC_setPg g hj (b := []) byt_nil (Nat.zero_le _) (by omega)
        have hu2 := (prog_block ((chipB_in g.1).2 j (by omega)) (b := []) (Nat.zero_le _) (by omega)).2.1
        rw [hu] at g2 hu2
        have hpp := setPg_pgs (ch_of g.2.1) (show j < l2.length by omega) x (T.st [T.b true, T.sl []])
        exact ih (x + 1) m _ (by omega) (by omega) g2 (by show usedN (pgs (setPg l2 (j : Int) x (T.st [T.b true, T.sl []])) (j : Int)) = x + 1; rw [hpp]; exact hu2)
       ·rw [iLt_f he, wrap_in (x := ops + 1) (by omega) (by omega)]
        exact ⟨l2, rfl, g⟩
     obtain ⟨l3, e3, g3⟩ := L 8 0 lf (eraL l j) (by omega) (by omega) g1 g2
     rw [show ((0 : Nat) : Int) = 0 from rfl] at e3
     rw [e3] at E
     exact ⟨l3, ops + 1, true, 10, E, g3, devB_of hd g3.1 (by omega)⟩
theorem c_l11Draw {lf d : Nat} (hlf : 33554432 ≤ lf) {b : List T} (hl : b.length ≤ 1048576) (i h : Int) (hi : 0 ≤ i ∧ i ≤ b.length) : ∃ l n ops fs dn at_ i' h', Cc lf (d + 8) 26 [.st [.sl b, .i .i64 i, .i .i64 h]] = some [.st [.sl l, .i .i64 ops, .sl fs, .b dn], .st [.sl b, .i .i64 i', .i .i64 h']] ∧ okC l n ∧ devB l ops fs = true ∧ goodF fs at_ ∧ at_ ≤ 100 ∧ fs.length ≤ 3 ∧ (0 ≤ i' ∧ i' ≤ b.length) := by
 have E := f26_eq (Cc lf (d + 7)) lf b i h
 unfold f26 f26_t at E
 dsimp only at E
 have L : ∀ (fs : List T) (z k n : Nat) (i h ops : Int) (dn : Bool) (l : List T), fs.length ≤ 3 → k ≤ 100 → k < n → okC l z → devB l ops fs = true → (0 ≤ i ∧ i ≤ b.length) → ∃ l' ops' dn' i' h', f26_0 (Cc lf (d + 7)) lf b n k i h ops dn l fs = some [T.i .i64 0, T.sl b, T.i .i64 i', T.i .i64 h', T.i .i64 0, T.b false, T.sl ([] : List T), T.sl ([] : List T), T.i .i64 ops', T.b dn', T.sl l', T.sl fs] ∧ okC l' z ∧ devB l' ops' fs = true ∧ (0 ≤ i' ∧ i' ≤ b.length) := by
  intro fs z k
  induction k with
  | zero =>
   intro n i h ops dn l hfs hk hn hg hd hi
   obtain ⟨n, rfl⟩ : ∃ m, n = m + 1 := ⟨n - 1, by omega⟩
   refine ⟨l, ops, dn, i, h, ?_, hg, hd, hi⟩
   rw [f26_0_u]
   unfold f26_0_s
   rw [iLt_f (by omega)]
   rfl
  | succ k ih =>
   intro n i h ops dn l hfs hk hn hg hd hi
   obtain ⟨n, rfl⟩ : ∃ m, n = m + 1 := ⟨n - 1, by omega⟩
   obtain ⟨hs, hc, h3, h24⟩ := okC_small hg
   have hlz := hg.2.2
   rw [f26_0_u]
   unfold f26_0_s
   obtain ⟨x, i1, h1, e1, r1, q1⟩ := c_below (lf := lf) (d := d + 5) hl i h hi (l.length : Int)
   rw [iLt_t (by omega), e1]
   simp only [cond_t, Option.bind_some, nth0, nthS, asB_b, asI_i, asL_l, cell0, cellS]
   obtain ⟨j, rfl⟩ := Int.eq_ofNat_of_zero_le r1.1
   have hj : j < z := by omega
   obtain ⟨y, i2, h2, e2, r2, q2⟩ := c_below (lf := lf) (d := d + 5) hl i1 h1 q1 8
   rw [e2, wrap_in (x := ((k + 1 : Nat) : Int) - 1) (by omega) (by omega), show ((k + 1 : Nat) : Int) - 1 = (k : Int) by omega]
   simp only [cond_t, Option.bind_some, nth0, nthS, asB_b, asI_i, asL_l, cell0, cellS]
   cases c0 : y == 0 with
   | true =>
    simp only [cond_t]
    obtain ⟨l', ops', dn', c, e3, g3, g4⟩ := c_sDevErase (lf := lf) (d := d) hlf hg hd dn j hj
    rw [e3]
    simp only [Option.bind_some, nth0, asL_l, asI_i, asB_b, cell0, cellS]
    exact ih n i2 h2 ops' dn' l' hfs (by omega) (by omega) g3 g4 q2
   | false =>
    cases c1 : y == 1 with
    | true => exact ih n i2 h2 ops false l hfs (by omega) (by omega) hg hd q2
    | false =>
     simp only [cond_f]
     obtain ⟨o, i3, h3', e3, hby, ho, q3⟩ := c_some (lf := lf) (d := d + 3) hlf hl i2 h2 q2
     rw [e3]
     simp only [Option.bind_some, nth0, nthS, asI_i, asL_l, cell0, cellS]
     rw [c_sDevProgram (d := d) hlf l ops fs dn (j : Int) o hc hs (by omega)]
     have g := devP_ok hg hd dn hj hby
     generalize devP l ops fs dn (j : Int) o = r at *
     obtain ⟨⟨l', ops', dn'⟩, c⟩ := r
     simp only [devT, Option.bind_some, nth0, nthS, asI_i, asL_l, asB_b, cell0, cellS]
     exact ih n i3 h3' ops' dn' l' hfs (by omega) (by omega) g.1 g.2 q3
 obtain ⟨x, i1, h1, e1, r1, q1⟩ := c_below (lf := lf) (d := d + 5) hl i h hi 3
 obtain ⟨m, rfl⟩ := Int.eq_ofNat_of_zero_le r1.1
 rw [e1] at E
 simp only [Option.bind_some, nth0, nthS, asB_b, asI_i, asL_l, cell0, cellS] at E
 obtain ⟨fs, at_, i2, h2, e2, g1, g2, g3, q2⟩ := c_faults (lf := lf) (d := d + 3) hlf hl i1 h1 q1
 rw [e2] at E
 simp only [Option.bind_some, nth0, nthS, asB_b, asI_i, asL_l, cell0, cellS] at E
 obtain ⟨e3, hd⟩ := c_devNew (lf := lf) (d := d + 2) hlf (n := 3 + m) (by omega) g1 (by omega) (by omega)
 rw [wrap_in (x := 3 + (m : Int)) (by omega) (by omega), show 3 + (m : Int) = ((3 + m : Nat) : Int) by omega, e3] at E
 simp only [Option.bind_some, nth0, nthS, asB_b, asI_i, asL_l, cell0, cellS] at E
 obtain ⟨x, i4, h4, e4, r4, q4⟩ := c_below (lf := lf) (d := d + 5) hl i2 h2 q2 16
 obtain ⟨k, rfl⟩ := Int.eq_ofNat_of_zero_le r4.1
 rw [e4] at E
 simp only [Option.bind_some, nth0, nthS, asB_b, asI_i, asL_l, cell0, cellS] at E
 obtain ⟨l', ops', dn', i', h', e5, k1, k2, k3⟩ := L fs (3 + m) k lf i4 h4 0 false (List.replicate (3 + m) blk0) (by omega) (by omega) (by omega) ⟨rep_chip (by omega), rep_fit (by omega), List.length_replicate ..⟩ hd q4
 rw [e5] at E
 exact ⟨l', 3 + m, ops', fs, dn', at_, i', h', E, k1, k2, g1, g2, g3, k3⟩
def anyD (l : List T) (ops : Int) (fs : List T) : Prop := anyC l ∧ (-1 ≤ ops ∧ ops ≤ 100001) ∧ fitC (.sl true [.i .i64, .i .i64, .i .i64]) (.sl fs) ∧ fs.length ≤ 20 ∧ tls fs = 0
theorem fit_app {m : Bool} {cs : List CT} {l : List T} (h : fitC (.sl m cs) (.sl l)) {v : T} (hv : fitE m cs v) (hl : l.length ≤ 1000) : fitC (.sl m cs) (.sl (l ++ [v])) := ⟨by rw [List.length_append, List.length_singleton]; unfold maxLen; omega, fitL_all.2 fun x hx => by
 rcases List.mem_append.1 hx with hx | hx
 ·exact fitL_all.1 h.2 x hx
 ·rw [List.mem_singleton.1 hx]; exact hv⟩
theorem tls_app1 : ∀ (l : List T) (v : T), tls (l ++ [v]) = tls l + tl v
 | [], v => by simp only [List.nil_append, tls]; omega
 | x :: l, v => by
  have := tls_app1 l v
  simp only [List.cons_append, tls]
  omega
theorem c_l11Any {lf d : Nat} (hlf : 33554432 ≤ lf) {b : List T} (hl : b.length ≤ 1048576) (i h : Int) (hi : 0 ≤ i ∧ i ≤ b.length) : ∃ l ops fs dn i' h', Cc lf (d + 9) 18 [.st [.sl b, .i .i64 i, .i .i64 h]] = some [.st [.sl l, .i .i64 ops, .sl fs, .b dn], .st [.sl b, .i .i64 i', .i .i64 h']] ∧ anyD l ops fs ∧ (0 ≤ i' ∧ i' ≤ b.length) := by
 have E := f18_eq (Cc lf (d + 8)) lf b i h
 unfold f18 f18_t at E
 obtain ⟨l, n, ops, fs, dn, at_, i1, h1, e1, g1, g2, g3, g4, g5, q1⟩ := c_l11Draw (lf := lf) (d := d) hlf hl i h hi
 rw [e1] at E
 simp only [Option.bind_some, nth0, nthS, asB_b, asI_i, asL_l, cell0, cellS] at E
 have hops := (devB_in g2).2.2.1
 have hany := anyC_of g1.1 g1.2.1
 obtain ⟨hff, htl⟩ := goodF_fit g3 (by omega) (by omega)
 obtain ⟨x, i2, h2, e2, r2, q2⟩ := c_below (lf := lf) (d := d + 6) hl i1 h1 q1 16
 rw [e2] at E
 simp only [Option.bind_some, nth0, nthS, asB_b, asI_i, asL_l, cell0, cellS] at E
 cases c0 : x == 0 with
 | true =>
  rw [c0] at E
  obtain ⟨z, i4, h4, hz, e4, q4⟩ := c_int (lf := lf) (d := d + 5) hl i2 h2 q2 [T.i .i64 (-1), T.i .i64 100000, T.i .i64 100001] (by simp)
  have hv : -1 ≤ asI ([T.i .i64 (-1), T.i .i64 100000, T.i .i64 100001].getD z T.u) ∧ asI ([T.i .i64 (-1), T.i .i64 100000, T.i .i64 100001].getD z T.u) ≤ 100001 := by
   rcases z with _ | _ | _ | z <;> first | exact ⟨by decide, by decide⟩ | (simp only [List.length_cons, List.length_nil] at hz; omega)
  rw [e4] at E
  exact ⟨_, _, _, _, _, _, E, ⟨hany, hv, hff, by omega, htl⟩, q4⟩
 | false =>
 cases c1 : x == 1 with
 | true =>
  rw [c0, c1] at E
  simp only [cond_t, cond_f] at E
  obtain ⟨z, i3, h3, hz, e3, q3⟩ := c_int (lf := lf) (d := d + 5) hl i2 h2 q2 [T.i .i64 0, T.i .i64 100000, T.i .i64 100001] (by simp)
  have hv : i64B (asI ([T.i .i64 0, T.i .i64 100000, T.i .i64 100001].getD z T.u)) := by
   rcases z with _ | _ | _ | z <;> first | exact ⟨by decide, by decide⟩ | (simp only [List.length_cons, List.length_nil] at hz; omega)
  rw [e3] at E
  simp only [Option.bind_some, nth0, nthS, asB_b, asI_i, asL_l, cell0, cellS] at E
  obtain ⟨y, i4, h4, e4, r4, q4⟩ := c_below (lf := lf) (d := d + 6) hl i3 h3 q3 4
  rw [e4] at E
  simp only [Option.bind_some, nth0, nthS, asB_b, asI_i, asL_l, cell0, cellS] at E
  obtain ⟨w, i5, h5, hw, e5, q5⟩ := c_int (lf := lf) (d := d + 5) hl i4 h4 q4 [T.i .i64 (-1), T.i .i64 0, T.i .i64 401] (by simp)
  have hv2 : i64B (asI ([T.i .i64 (-1), T.i .i64 0, T.i .i64 401].getD w T.u)) := by
   rcases w with _ | _ | _ | w <;> first | exact ⟨by decide, by decide⟩ | (simp only [List.length_cons, List.length_nil] at hw; omega)
  rw [e5] at E
  simp only [Option.bind_some, nth0, nthS, asB_b, asI_i, asL_l, cell0, cellS] at E
  rw [nLe_app (by omega)] at E
  exact ⟨_, _, _, _, _, _, E, ⟨hany, by omega, fit_app hff ⟨⟨rfl, wf64 hv.1 hv.2⟩, ⟨rfl, wf64 (by omega) (by omega)⟩, ⟨rfl, wf64 hv2.1 hv2.2⟩, trivial⟩ (by omega), by rw [List.length_append, List.length_singleton]; omega, by rw [tls_app1, htl]; simp only [tl, tls]⟩, q5⟩
 | false =>
 cases c2 : x == 2 with
 | true =>
  rw [c0, c1, c2] at E
  simp only [cond_t, cond_f] at E
  obtain ⟨l2, i3, h3, e3, g6, q3⟩ := c_l10Any (lf := lf) (d := d) hlf hl i2 h2 q2
  rw [e3] at E
  exact ⟨_, _, _, _, _, _, E, ⟨g6, by omega, hff, by omega, htl⟩, q3⟩
 | false =>
  rw [c0, c1, c2] at E
  exact ⟨_, _, _, _, _, _, E, ⟨hany, by omega, hff, by omega, htl⟩, q2⟩
theorem c_l13Any {lf d : Nat} (hlf : 33554432 ≤ lf) {b : List T} (hl : b.length ≤ 1048576) (i h : Int) (hi : 0 ≤ i ∧ i ≤ b.length) : ∃ l ops fs dn sq i' h', Cc lf (d + 12) 12 [.st [.sl b, .i .i64 i, .i .i64 h]] = some [.st [.sl l, .i .i64 ops, .sl fs, .b dn, .i .i64 sq], .st [.sl b, .i .i64 i', .i .i64 h']] ∧ anyD l ops fs ∧ (-1 ≤ sq ∧ sq ≤ 1000001) ∧ (0 ≤ i' ∧ i' ≤ b.length) := by
 have E := f12_eq (Cc lf (d + 11)) lf b i h
 unfold f12 f12_t at E
 obtain ⟨l, ops, fs, dn, sq, j, at_, i1, h1, e1, g1, g2, g3, g4, g5, q1⟩ := c_l13Draw (lf := lf) (d := d) hlf hl i h hi
 rw [e1] at E
 simp only [Option.bind_some, nth0, nthS, asB_b, asI_i, asL_l, cell0, cellS] at E
 have hchip := (devB_in (logB_in g1.1).1).2.1
 obtain ⟨hff, htl⟩ := goodF_fit g3 (by omega) (by omega)
 have hD : anyD l ops fs := ⟨anyC_of hchip g1.2.1, by have := g1.2.2.1; omega, hff, by omega, htl⟩
 have hsq := g1.2.2.2
 obtain ⟨x, i2, h2, e2, r2, q2⟩ := c_below (lf := lf) (d := d + 9) hl i1 h1 q1 12
 rw [e2] at E
 simp only [Option.bind_some, nth0, nthS, asB_b, asI_i, asL_l, cell0, cellS] at E
 cases c0 : x == 0 with
 | true =>
  rw [c0] at E
  obtain ⟨z, i4, h4, hz, e4, q4⟩ := c_int (lf := lf) (d := d + 8) hl i2 h2 q2 [T.i .i64 (-1), T.i .i64 0, T.i .i64 1000000, T.i .i64 1000001] (by simp)
  have hv : -1 ≤ asI ([T.i .i64 (-1), T.i .i64 0, T.i .i64 1000000, T.i .i64 1000001].getD z T.u) ∧ asI ([T.i .i64 (-1), T.i .i64 0, T.i .i64 1000000, T.i .i64 1000001].getD z T.u) ≤ 1000001 := by
   rcases z with _ | _ | _ | _ | z <;> first | exact ⟨by decide, by decide⟩ | (simp only [List.length_cons, List.length_nil] at hz; omega)
  rw [e4] at E
  exact ⟨_, _, _, _, _, _, _, E, hD, hv, q4⟩
 | false =>
 cases c1 : x == 1 with
 | true =>
  rw [c0, c1] at E
  simp only [cond_t, cond_f] at E
  obtain ⟨l2, ops2, fs2, dn2, i3, h3, e3, g6, q3⟩ := c_l11Any (lf := lf) (d := d + 2) hlf hl i2 h2 q2
  rw [e3] at E
  exact ⟨_, _, _, _, _, _, _, E, g6, by omega, q3⟩
 | false =>
  rw [c0, c1] at E
  exact ⟨_, _, _, _, _, _, _, E, hD, by omega, q2⟩
theorem anyD_small {l : List T} {ops : Int} {fs : List T} (h : anyD l ops fs) : l.length + tls l ≤ 200000 ∧ fs.length ≤ 20 ∧ chT l ∧ pgsByt l := ⟨h.1.2.1, h.2.2.2.1, ch_of h.1.1, pgsByt_of h.1.1⟩
theorem c_drawOpenBlock {lf d : Nat} (hlf : 33554432 ≤ lf) {b : List T} (hl : b.length ≤ 1048576) : ∃ l ops fs dn sq a, Cc lf (d + 13) 5 [.sl b] = some [.st [.sl l, .i .i64 ops, .sl fs, .b dn, .i .i64 sq], .i .i64 a] ∧ anyD l ops fs := by
 have E := f5_eq (Cc lf (d + 12)) lf b
 unfold f5 f5_t at E
 obtain ⟨h, e⟩ := c_new (d := d + 11) hlf hl
 rw [e] at E
 simp only [Option.bind_some, nth0, nthS, asI_i, asL_l, asB_b, cell0, cellS] at E
 obtain ⟨l, ops, fs, dn, sq, i1, h1, e1, g1, g2, q1⟩ := c_l13Any (d := d) hlf hl 0 h (by omega)
 rw [e1] at E
 simp only [Option.bind_some, nth0, nthS, asI_i, asL_l, asB_b, cell0, cellS] at E
 obtain ⟨z, i2, h2, hz, e2, q2⟩ := c_int (lf := lf) (d := d + 9) hl i1 h1 q1 [T.i .i64 0, T.i .i64 1, T.i .i64 2, T.i .i64 (-1)] (by simp)
 rw [e2] at E
 exact ⟨l, ops, fs, dn, sq, _, E, g1⟩
theorem lawB {lf : Nat} (hlf : 33554432 ≤ lf) {t0 : T} (ht0 : fitC (.sl false [.i .u8]) t0) : Cc lf 14 3 [t0] = some [.b true] := by
 obtain ⟨b, rfl, _⟩ := fitC_sl ht0
 refine (f3_eq (Cc lf 13) lf b).trans ?_
 unfold f3 f3_t
 rw [c_big (d := 12)]
 simp only [Option.bind_some, nth0, asB_b]
 by_cases hl : b.length ≤ 1048576
 case neg => rw [iLt_t (by omega)]; rfl
 rw [iLt_f (by omega), cond_f]
 obtain ⟨l, ops, fs, dn, sq, spare, e1, g1⟩ := c_drawOpenBlock (lf := lf) (d := 0) hlf hl
 obtain ⟨s1, s2, s3, s4⟩ := anyD_small g1
 rw [e1]
 simp only [Option.bind_some, nth0, nthS, asI_i, asL_l, asB_b, cell0, cellS]
 rw [c_iOpen (d := 8) hlf l ops fs dn sq spare (by omega), c_iFree (d := 9) hlf l ops fs dn sq (by omega), c_sOpen (d := 10) hlf l ops fs dn sq spare (by omega)]
 simp only [Option.bind_some, nth0, asI_i, bne_self_eq_false, cond_f]
 rw [c_sFree (d := 11) hlf l ops fs dn sq (by omega)]
 simp only [Option.bind_some, nth0, asI_i, bne_self_eq_false, cond_f]
 rcases openB_spec l spare with ⟨e, h⟩ | ⟨j, e, h1, h2, h3⟩
 ·rw [e, show ((-1 : Int) == -1) = true from rfl, cond_t]
  by_cases c : ((freeB l : Nat) : Int) ≤ spare
  ·rw [iLe_t c]; rfl
  ·rw [iLe_f c]
   rcases h with h | h
   ·exact absurd h c
   ·rw [h]; rfl
 ·have hp := g1.1.2.2 j h1
  rw [e, show (((j : Nat) : Int) == -1) = false by simp only [beq_eq_false_iff_ne, ne_eq]; omega, cond_f, c_iNextPage (d := 10) hlf l (j : Int) (by omega), nextC_nat h1, inR_nat h1]
  simp only [Option.bind_some, nth0, asI_i, cond_t, Int.toNat_natCast, h2, Bool.not_false]
  have hpg : asL (T.cell (l.getD j T.u) 0) = pgs l (j : Int) := rfl
  rw [hpg, iLe_t (by omega)]
  rcases h3 with h3 | h3
  ·rw [iLt_t (by omega), iLt_t (by omega)]; rfl
  ·rw [h3.1, iLt_t (by omega), iLt_f (by omega), iLt_t h3.2]; rfl
end Go.Proofs.Ytjhocjbenmoeaaa.T
