/- What functions of the law FnExactWrite come to, in trees; no condition. -/
import Derived.Test.YtdclnhlpifahpaaRows
import Derived.Test.YtdclnhlpifahpaaX2
set_option linter.unusedVariables false
set_option linter.constructorNameAsVariable false
set_option linter.unusedSimpArgs false
set_option linter.unnecessarySimpa false
namespace Go.Proofs.Ytdclnhlpifahpaa.T
open Go Go.Proofs.YtdclnhlpifahpaaV
set_option maxRecDepth 100000
theorem c_l1In {lf d : Nat} (a lo hi : Int) : Cc lf (d + 1) 71 [.i .i64 a, .i .i64 lo, .i .i64 hi] = some [.b (iLe lo a && iLe a hi)] := by
  refine (f71_eq (Cc lf d) lf a lo hi).trans ?_
  unfold f71 f71_t
  exact cond_b _ _
theorem c_from {lf d : Nat} (a lo hi : Int) : Cc lf (d + 1) 75 [.i .i64 a, .i .i64 lo, .i .i64 hi] = some [.b (iLe lo a && iLe a hi)] := by
  refine (f75_eq (Cc lf d) lf a lo hi).trans ?_
  unfold f75 f75_t
  exact cond_b _ _
theorem c_clone {lf d : Nat} {l : List T} (h : l.length ≤ 1073741830) : Cc lf (d + 1) 147 [.sl l] = some [.sl l] := by
  show (bif nLe (0 + l.length) LIM then some [T.sl l] else none) = _
  rw [nLe_t (by unfold LIM; omega)]
  rfl
theorem c_iPutNum {lf d : Nat} (hlf : 33554432 ≤ lf) (b : List T) (n : Int) (hb : b.length ≤ 1073741824) : Cc lf (d + 2) 93 [.sl b, .i .i64 n] = some [.sl (b ++ numT (clampN n))] := by
  refine (f93_eq (Cc lf (d + 1)) lf b n).trans ?_
  unfold f93 f93_t
  dsimp only
  have hc := clampN_in n
  obtain ⟨y, l', h1, h2, h3, h4, h5⟩ := put_loop (F := fun n x l => f93_0 (Cc lf (d + 1)) lf n x l) (fun n x l h0 h1 hl => by
    rw [f93_0_u]
    unfold f93_0_s
    by_cases h : 127 < x
    · rw [iLe_t (by omega), if_pos h, nLe_app (by omega), Int.tdiv_eq_ediv_of_nonneg h0, Int.tmod_eq_emod_of_nonneg h0, wrap_in (x := x / 128) (by omega) (by omega), wrap_in (by omega) (by omega), wrap8 (by omega) (by omega)]
      rfl
    · rw [iLe_f (by omega), if_neg h]
      rfl) (n := lf) (by omega) (x := clampN n) (l := b) hc.1 hc.2 hb
  rw [c_clone (by omega), Option.bind_some, nth0, asL_l, show imax 0 (imin n 1000000) = clampN n by unfold imax imin clampN; split <;> split <;> (try split) <;> omega, h1]
  simp only [Option.bind_some, nth0, nthS, asL_l, asI_i]
  rw [nLe_app (by omega), wrap8 h3 (by omega), ← h2]
  rfl
theorem c_sPutNum {lf d : Nat} (hlf : 33554432 ≤ lf) (b : List T) (n : Int) (hb : b.length ≤ 1073741824) : Cc lf (d + 2) 196 [.sl b, .i .i64 n] = some [.sl (b ++ numT (clampN n))] := by
  refine (f196_eq (Cc lf (d + 1)) lf b n).trans ?_
  unfold f196 f196_t
  dsimp only
  have hc := clampN_in n
  have L : ∀ (n : Nat) (x : Int) (l : List T), 0 ≤ x → x ≤ 1000000 → l.length ≤ 1073741827 → f196_0 (Cc lf (d + 1)) lf (n + 1) x l = if 127 < x then f196_0 (Cc lf (d + 1)) lf n (x / 128) (l ++ [by8 (x % 128 + 128)]) else some [T.i .i64 0, T.i .i64 x, T.sl l] := fun n x l h0 h1 hl => by
    rw [f196_0_u]
    unfold f196_0_s
    by_cases h : 127 < x
    · rw [iLt_t h, if_pos h, nLe_app (by omega), and_mod h0 (by omega), or128 (by omega) (by omega), wrap8 (by omega) (by omega), show (7 : Int) = ((7 : Nat) : Int) from rfl, shr_div (by omega) h0]
      rfl
    · rw [iLt_f h, if_neg h]
      rfl
  have L2 : ∀ (n : Nat) (x : Int) (l : List T), 0 ≤ x → x ≤ 1000000 → l.length ≤ 1073741827 → f196_2 (Cc lf (d + 1)) lf (n + 1) x l = if 127 < x then f196_2 (Cc lf (d + 1)) lf n (x / 128) (l ++ [by8 (x % 128 + 128)]) else some [T.i .i64 0, T.i .i64 x, T.sl l] := fun n x l h0 h1 hl => by
    rw [f196_2_u]
    unfold f196_2_s
    by_cases h : 127 < x
    · rw [iLt_t h, if_pos h, nLe_app (by omega), and_mod h0 (by omega), or128 (by omega) (by omega), wrap8 (by omega) (by omega), show (7 : Int) = ((7 : Nat) : Int) from rfl, shr_div (by omega) h0]
      rfl
    · rw [iLt_f h, if_neg h]
      rfl
  rw [nLe_t (show ([] : List T).length + b.length ≤ LIM by unfold LIM; simp; omega), cond_true]
  by_cases hn : 1000000 < n
  · obtain ⟨y, l', h1, h2, h3, h4, h5⟩ := put_loop (F := fun n x l => f196_0 (Cc lf (d + 1)) lf n x l) L (n := lf) (by omega) (x := 1000000) (l := b) (by omega) (by omega) hb
    rw [iLt_t hn, cond_true, List.nil_append, h1]
    simp only [Option.bind_some, nth0, nthS, asL_l, asI_i]
    rw [nLe_app (by omega), wrap8 h3 (by omega), show clampN n = 1000000 by unfold clampN; rw [if_neg (by omega), if_pos (by omega)], ← h2]
    rfl
  · by_cases hm : n < 0
    · rw [iLt_f hn, cond_false, iLt_t hm, cond_true]
      obtain ⟨m, rfl⟩ : ∃ m, lf = m + 1 := ⟨lf - 1, by omega⟩
      show ((some [T.i .i64 0, T.i .i64 0, T.sl (([] : List T) ++ b)] : Option (List T)).bind _) = _
      simp only [Option.bind_some, nth0, nthS, asL_l, asI_i, List.nil_append]
      rw [nLe_app (by omega), show clampN n = 0 by unfold clampN; rw [if_pos hm]]
      rfl
    · obtain ⟨y, l', h1, h2, h3, h4, h5⟩ := put_loop (F := fun n x l => f196_2 (Cc lf (d + 1)) lf n x l) L2 (n := lf) (by omega) (x := n) (l := b) (by omega) (by omega) hb
      rw [iLt_f hn, cond_false, iLt_f hm, cond_false, List.nil_append, h1]
      simp only [Option.bind_some, nth0, nthS, asL_l, asI_i]
      rw [nLe_app (by omega), wrap8 h3 (by omega), clampN_id (by omega) (by omega), ← h2]
      rfl
theorem c_iPutText {lf d : Nat} (hlf : 33554432 ≤ lf) (b : List T) (s : ByteArray) (hb : b.length ≤ 1073741824) (hs : s.size ≤ 1073741824) : Cc lf (d + 3) 92 [.sl b, .s s] = some [.sl (b ++ textT s)] := by
  refine (f92_eq (Cc lf (d + 2)) lf b s).trans ?_
  unfold f92 f92_t
  have h1 := numT_len (clampN (s.size : Int))
  rw [c_iPutNum hlf _ _ hb, Option.bind_some, nth0, asL_l, nLe_t (by unfold LIM; rw [List.length_append, listOf_len]; omega), cond_t, List.append_assoc]
  rfl
theorem c_sPutText {lf d : Nat} (hlf : 33554432 ≤ lf) (b : List T) (s : ByteArray) (hb : b.length ≤ 1073741824) (hs : s.size ≤ 1073741824) : Cc lf (d + 3) 195 [.sl b, .s s] = some [.sl (b ++ textT s)] := by
  refine (f195_eq (Cc lf (d + 2)) lf b s).trans ?_
  unfold f195 f195_t
  have h1 := numT_len (clampN (s.size : Int))
  rw [c_sPutNum hlf _ _ hb, Option.bind_some, nth0, asL_l, nLe_t (by unfold LIM; rw [List.length_append, listOf_len]; omega), cond_t, List.append_assoc]
  rfl
/-- What reading a text answers. -/
def getTR : ByteArray × Option Nat → List T
  | (s, some q) => [.s s, .i .i64 (q : Int), .b true]
  | (_, none) => [.s ⟨#[]⟩, .i .i64 0, .b false]
theorem getText_aux {b : List T} (hb : byt b) (hl : b.length ≤ 1073741824) (p : Nat) : ((some (getR (getNum b p)) : Option (List T)).bind fun r =>
  bif !(asB (nth r 2)) then
    some [T.s (⟨#[]⟩ : ByteArray), T.i .i64 0, T.b false]
  else
    bif iLt (IntKind.wrap .i64 ((b.length : Int) - (asI (nth r 1)))) (asI (nth r 0)) then
      some [T.s (⟨#[]⟩ : ByteArray), T.i .i64 0, T.b false]
    else
      bif iLe 0 (asI (nth r 1)) && iLe (asI (nth r 1)) (IntKind.wrap .i64 ((asI (nth r 1)) + (asI (nth r 0)))) && iLe (IntKind.wrap .i64 ((asI (nth r 1)) + (asI (nth r 0)))) (b.length : Int) then
      some [T.s (bytesOf ((b.drop ((asI (nth r 1)).toNat)).take (((IntKind.wrap .i64 ((asI (nth r 1)) + (asI (nth r 0)))).toNat) - ((asI (nth r 1)).toNat)))), T.i .i64 (IntKind.wrap .i64 ((asI (nth r 1)) + (asI (nth r 0)))), T.b true]
      else none) = some (getTR (rdS b (some p))) := by
  unfold rdS
  simp only [rd]
  cases e : getNum b p with
  | none => rfl
  | some x =>
    obtain ⟨n, q⟩ := x
    obtain ⟨h0, h1, h2, h3⟩ := getNum_in hb e
    simp only [getR, Option.bind_some, nth0, nthS, asI_i, asB_b, Bool.not_true, cond_f]
    rw [wrap_in (x := (b.length : Int) - q) (by omega) (by omega), wrap_in (x := (q : Int) + n) (by omega) (by omega)]
    by_cases c : n > (b.length : Int) - q
    · rw [iLt_t c, if_pos c]; rfl
    · rw [iLt_f c, if_neg c, cond_f, iLe_t (by omega), iLe_t (by omega), iLe_t (by omega)]
      rw [show ((q : Int)).toNat = q from rfl, show ((q : Int) + n).toNat - q = n.toNat by omega, show (q : Int) + n = ((q + n.toNat : Nat) : Int) by omega]
      rfl
theorem c_sCrc {lf d : Nat} (hlf : 33554432 ≤ lf) {b : List T} (hb : byt b) (hl : b.length ≤ 16777216) : Cc lf (d + 1) 133 [.sl b] = some [.i .i64 (crcN b : Nat)] := by
  refine (f133_eq (Cc lf d) lf b).trans ?_
  unfold f133 f133_t
  dsimp only
  have In : ∀ (x j : Nat), x < 4294967296 → f133_1 (Cc lf d) lf b j lf x 0 = some [T.i .i64 0, T.sl b, T.i .i64 (r8 x : Nat), T.i .i64 (j : Int)] := fun x j hx => by
    have := (fold_loop (S := Nat) (F := fun n s k => f133_1 (Cc lf d) lf b j n s k) (g := fun s _ => r1 s) (I := fun s _ => s < 4294967296) (Y := fun s => some [T.i .i64 0, T.sl b, T.i .i64 (s : Int), T.i .i64 (j : Int)]) (len := 8) (fun n s k hk hs => by
      rw [f133_1_u]
      unfold f133_1_s
      rw [iLt_t (by omega), and7 (by omega) (by omega), shr1_64, show (2197175160 : Int) = ((2197175160 : Nat) : Int) from rfl, xor64 (by omega) (by omega), wrap_in (x := (k : Int) + 1) (by omega) (by omega)]
      unfold r1
      by_cases c : s % 2 = 1
      · rw [if_pos c, show ((s : Int) % 2 == 1) = true by simp only [beq_iff_eq]; omega]; rfl
      · rw [if_neg c, show ((s : Int) % 2 == 1) = false by simp only [beq_eq_false_iff_ne, ne_eq]; omega]; rfl) (fun s k hk hs => r1_lt hs) (fun n s hs => by
      rw [f133_1_u]
      unfold f133_1_s
      rw [iLt_f (by omega)]
      rfl) (n := lf) (by omega) (s := x) hx).1
    exact this
  have L := (fold_loop (S := Nat) (F := fun n s j => f133_0 (Cc lf d) lf n b s j) (g := fun s j => r8 (s ^^^ (asI (b.getD j .u)).toNat)) (I := fun s _ => s < 4294967296) (Y := fun s => some [T.i .i64 0, T.i .i64 (s : Int)]) (len := b.length) (fun n s j hj hs => by
    have hB := byte_lt hb j
    rw [f133_0_u]
    unfold f133_0_s
    obtain ⟨v, hv⟩ := Int.eq_ofNat_of_zero_le hB.1
    rw [iLt_t (by omega), inR_nat hj, Int.toNat_natCast, hv, wrap_in (x := (v : Int)) (by omega) (by omega), xor64 hs (by omega)]
    dsimp only
    rw [In _ j (xor_lt hs (by omega))]
    simp only [cond_t, Option.bind_some, nth0, nthS, asI_i, asL_l]
    rw [wrap_in (x := (j : Int) + 1) (by omega) (by omega)]
    rfl) (fun s j hj hs => by
      have hB := byte_lt hb j
      exact r8_lt (xor_lt hs (by omega))) (fun n s hs => by
    rw [f133_0_u]
    unfold f133_0_s
    rw [iLt_f (by omega)]
    rfl) (n := lf) (by omega) (s := 4294967295) (by omega)).1
  rw [show ((4294967295 : Nat) : Int) = 4294967295 from rfl] at L
  rw [L]
  simp only [Option.bind_some, nth0, nthS, asI_i]
  have e : foldN (fun s j => r8 (s ^^^ (asI (b.getD j .u)).toNat)) 4294967295 b.length = crcS b b.length := rfl
  rw [e, show (4294967295 : Int) = ((4294967295 : Nat) : Int) from rfl, xor64 (crcS_lt hb b.length) (by omega)]
  rfl
theorem c_iCrc {lf d : Nat} (hlf : 33554432 ≤ lf) {b : List T} (hb : byt b) (hl : b.length ≤ 16777216) : Cc lf (d + 1) 146 [.sl b] = some [.i .i64 (crcN b : Nat)] := by
  refine (f146_eq (Cc lf d) lf b).trans ?_
  unfold f146 f146_t
  dsimp only
  have In : ∀ (x j : Nat), x < 4294967296 → f146_1 (Cc lf d) lf b (b.length : Int) j lf x 0 = some [T.i .i64 0, T.i .u32 (r8 x : Nat), T.sl b, T.i .i64 (b.length : Int), T.i .i64 (j : Int)] := fun x j hx => by
    have := (fold_loop (S := Nat) (F := fun n s k => f146_1 (Cc lf d) lf b (b.length : Int) j n s k) (g := fun s _ => r1 s) (I := fun s _ => s < 4294967296) (Y := fun s => some [T.i .i64 0, T.i .u32 (s : Int), T.sl b, T.i .i64 (b.length : Int), T.i .i64 (j : Int)]) (len := 8) (fun n s k hk hs => by
      rw [f146_1_u]
      unfold f146_1_s
      rw [iLt_t (by omega), and32 hs, shr1_32, show (2197175160 : Int) = ((2197175160 : Nat) : Int) from rfl, xor32 (by omega) (by omega), wrap_in (x := (k : Int) + 1) (by omega) (by omega)]
      unfold r1
      by_cases c : s % 2 = 1
      · rw [if_pos c, show (((s % 2 : Nat) : Int) == 1) = true by simp only [beq_iff_eq]; omega]; rfl
      · rw [if_neg c, show (((s % 2 : Nat) : Int) == 1) = false by simp only [beq_eq_false_iff_ne, ne_eq]; omega]; rfl) (fun s k hk hs => r1_lt hs) (fun n s hs => by
      rw [f146_1_u]
      unfold f146_1_s
      rw [iLt_f (by omega)]
      rfl) (n := lf) (by omega) (s := x) hx).1
    exact this
  have L := (fold_loop (S := Nat) (F := fun n s j => f146_0 (Cc lf d) lf n s b (b.length : Int) j) (g := fun s j => r8 (s ^^^ (asI (b.getD j .u)).toNat)) (I := fun s _ => s < 4294967296) (Y := fun s => some [T.i .i64 0, T.i .u32 (s : Int)]) (len := b.length) (fun n s j hj hs => by
    have hB := byte_lt hb j
    rw [f146_0_u]
    unfold f146_0_s
    obtain ⟨v, hv⟩ := Int.eq_ofNat_of_zero_le hB.1
    rw [iLt_t (by omega), inR_nat hj, Int.toNat_natCast, hv, wrap32 (x := (v : Int)) (by omega) (by omega), xor32 hs (by omega)]
    dsimp only
    rw [In _ j (xor_lt hs (by omega))]
    simp only [cond_t, Option.bind_some, nth0, nthS, asI_i, asL_l]
    rw [wrap_in (x := (j : Int) + 1) (by omega) (by omega)]
    rfl) (fun s j hj hs => by
      have hB := byte_lt hb j
      exact r8_lt (xor_lt hs (by omega))) (fun n s hs => by
    rw [f146_0_u]
    unfold f146_0_s
    rw [iLt_f (by omega)]
    rfl) (n := lf) (by omega) (s := 4294967295) (by omega)).1
  rw [show ((4294967295 : Nat) : Int) = 4294967295 from rfl] at L
  rw [L]
  simp only [Option.bind_some, nth0, nthS, asI_i]
  have hc := crcN_lt hb
  have e : foldN (fun s j => r8 (s ^^^ (asI (b.getD j .u)).toNat)) 4294967295 b.length = crcS b b.length := rfl
  rw [e, show (4294967295 : Int) = ((4294967295 : Nat) : Int) from rfl, xor32 (show 4294967295 < 4294967296 by omega) (crcS_lt hb b.length), Nat.xor_comm, show crcS b b.length ^^^ 4294967295 = crcN b from rfl, wrap_in (by omega) (by omega)]
def recB (k s : Int) (body : List T) : Bool := (iLe 1 k && iLe k 4) && ((iLe 0 s && iLe s 1000000) && iLe (body.length : Int) 380)
def recHead (x : List T) (s : Option Nat) : (Int × Int × ByteArray) × Option Nat := (((rd x s).1, (rd x (rd x s).2).1, (rdS x (rd x (rd x s).2).2).1), (rdS x (rd x (rd x s).2).2).2)
/-- The record that bytes are. -/
def getRecB (b : List T) : Option (Int × Int × List T) :=
  if b.length < 4 then none else
    bif sealB b && ((recHead (b.take (b.length - 4)) (some 0)).2 == some (b.length - 4) && recB (recHead (b.take (b.length - 4)) (some 0)).1.1 (recHead (b.take (b.length - 4)) (some 0)).1.2.1 (listOf (recHead (b.take (b.length - 4)) (some 0)).1.2.2)) then
      some ((recHead (b.take (b.length - 4)) (some 0)).1.1, (recHead (b.take (b.length - 4)) (some 0)).1.2.1, listOf (recHead (b.take (b.length - 4)) (some 0)).1.2.2) else none
def recT : Option (Int × Int × List T) → T
  | some (k, s, d) => .st [.i .i64 k, .i .i64 s, .sl d]
  | none => .st [.i .i64 0, .i .i64 0, .sl []]
def getRecR (r : Option (Int × Int × List T)) : List T := [recT r, .b r.isSome]
theorem c_iRecOk {lf d : Nat} (k s : Int) (body : List T) : Cc lf (d + 2) 89 [.st [.i .i64 k, .i .i64 s, .sl body]] = some [.b (recB k s body)] := by
  refine (f89_eq (Cc lf (d + 1)) lf k s body).trans ?_
  unfold f89 f89_t
  simp only [c_from, Option.bind_some, nth0, asB_b, cond_st]
  unfold recB
  cases (iLe 1 k && iLe k 4) <;> cases (iLe 0 s && iLe s 1000000) <;> rfl
theorem c_sRecOk {lf d : Nat} (k s : Int) (body : List T) : Cc lf (d + 2) 103 [.st [.i .i64 k, .i .i64 s, .sl body]] = some [.b (recB k s body)] := by
  refine (f103_eq (Cc lf (d + 1)) lf k s body).trans ?_
  unfold f103 f103_t
  simp only [c_l1In, Option.bind_some, nth0, asB_b, cond_st]
  unfold recB
  cases (iLe 1 k && iLe k 4) <;> cases (iLe 0 s && iLe s 1000000) <;> rfl
theorem c_sealed {lf d : Nat} (hlf : 33554432 ≤ lf) {b : List T} (hb : byt b) (hl : b.length ≤ 16777216) : Cc lf (d + 2) 91 [.sl b] = some [.sl (b ++ four (crcN b))] := by
  refine (f91_eq (Cc lf (d + 1)) lf b).trans ?_
  unfold f91 f91_t
  rw [c_iCrc hlf hb hl]
  simp only [Option.bind_some, nth0, asI_i]
  rw [c_clone (by omega), four_sh (crcN_lt hb)]
  simp only [Option.bind_some, nth0, asL_l]
  rw [nLe_t (by unfold LIM four; simp; omega)]
  rfl
def pageU (ps : List T) (j : Nat) : Bool := asB (T.cell (ps.getD j T.u) 0)
/-- How many pages of a block are written. -/
def usedN (ps : List T) : Nat := cntB (pageU ps) ps.length
theorem usedN_le (ps : List T) : usedN ps ≤ ps.length := cntB_le _ _
theorem cellL_le {l : List T} {j : Nat} (k : Nat) : (asL (T.cell (l.getD j T.u) k)).length + tls (asL (T.cell (l.getD j T.u) k)) ≤ tls l := by
  by_cases h : j < l.length
  · have h1 := tl_mem (List.getElem_mem h)
    rw [List.getD_eq_getElem?_getD, List.getElem?_eq_getElem h]
    show (asL (T.cell l[j] k)).length + tls (asL (T.cell l[j] k)) ≤ _
    cases e : l[j] <;> try (simp only [T.cell, asL, tls]; exact Nat.zero_le _)
    rename_i xs
    rw [e] at h1
    simp only [T.cell, tl] at h1 ⊢
    cases e2 : xs[k]? with
    | none => rw [List.getD_eq_getElem?_getD, e2]; exact Nat.zero_le _
    | some x =>
      rw [List.getD_eq_getElem?_getD, e2]
      have h3 := tl_mem (List.mem_of_getElem? e2)
      show (asL x).length + tls (asL x) ≤ _
      cases x <;> try (exact Nat.zero_le _)
      simp only [tl, asL] at h3 ⊢
      omega
  · rw [List.getD_eq_getElem?_getD, List.getElem?_eq_none (by omega)]
    exact Nat.zero_le _
theorem c_sNext {lf d : Nat} (hlf : 33554432 ≤ lf) (ps : List T) (w : Int) (bad : Bool) (hs : ps.length ≤ 16777216) : Cc lf (d + 1) 197 [.st [.sl ps, .i .i64 w, .b bad]] = some [.i .i64 (usedN ps : Nat)] := by
  refine (f197_eq (Cc lf d) lf ps w bad).trans ?_
  unfold f197 f197_t
  dsimp only
  have L := cnt_loop (F := fun n x j => f197_0 (Cc lf d) lf bad ps w n x j) (P := pageU ps) (Y := fun x => some [T.i .i64 0, T.i .i64 x]) (len := ps.length) (by omega) (fun n x j hj hx => by
    rw [f197_0_u]
    unfold f197_0_s
    rw [iLt_t (by omega), inR_nat hj, wrap_next hj (by omega)]
    rfl) (fun n x => by
    rw [f197_0_u]
    unfold f197_0_s
    rw [iLt_f (by omega)]
    rfl) (n := lf) (by omega)
  rw [L]
  rfl
theorem c_isBlock {lf d : Nat} (l : List T) (n : Int) (hs : l.length ≤ 16777216) : Cc lf (d + 2) 94 [.st [.sl l], .i .i64 n] = some [.b (iLe 0 n && iLt n (l.length : Int))] := by
  refine (f94_eq (Cc lf (d + 1)) lf l n).trans ?_
  unfold f94 f94_t
  rw [wrap_in (by omega) (by omega), c_from]
  have : iLe n ((l.length : Int) - 1) = iLt n (l.length : Int) := by
    by_cases h : n < (l.length : Int)
    · rw [iLt_t h, iLe_t (by omega)]
    · rw [iLt_f h, iLe_f (by omega)]
  rw [this]
  rfl
theorem c_iNext {lf d : Nat} (hlf : 33554432 ≤ lf) (l : List T) (j : Nat) (hj : j < l.length) (hs : l.length + tls l ≤ 16777216) : Cc lf (d + 3) 38 [.st [.sl l], .i .i64 (j : Int)] = some [.i .i64 (usedN (asL (T.cell (l.getD j T.u) 0)) : Nat)] := by
  refine (f38_eq (Cc lf (d + 2)) lf l j).trans ?_
  unfold f38 f38_t
  dsimp only
  have hp := cellL_le (l := l) (j := j) 0
  have L := cnt_loop (F := fun n x k => f38_0 (Cc lf (d + 2)) lf l j n x k) (P := pageU (asL (T.cell (l.getD j T.u) 0))) (Y := fun x => some [T.i .i64 0, T.i .i64 x]) (len := (asL (T.cell (l.getD j T.u) 0)).length) (by omega) (fun n x k hk hx => by
    rw [f38_0_u]
    unfold f38_0_s
    rw [Int.toNat_natCast, iLt_t (by omega), inR_nat hk, wrap_next hk (by omega)]
    rfl) (fun n x => by
    rw [f38_0_u]
    unfold f38_0_s
    rw [Int.toNat_natCast, iLt_f (by omega)]
    rfl) (n := lf) (by omega)
  rw [c_isBlock l j (by omega), iLe_t (by omega), iLt_t (by omega), inR_nat hj]
  simp only [Option.bind_some, nth0, asB_b, Bool.and_self, Bool.not_true, cond_f, cond_t]
  rw [L]
  rfl
theorem c_iNextNo {lf d : Nat} (l : List T) (n : Int) (hn : ¬ (0 ≤ n ∧ n < (l.length : Int))) (hs : l.length + tls l ≤ 16777216) : Cc lf (d + 3) 38 [.st [.sl l], .i .i64 n] = some [.i .i64 (-1)] := by
  refine (f38_eq (Cc lf (d + 2)) lf l n).trans ?_
  unfold f38 f38_t
  rw [c_isBlock l n (by omega)]
  have : (iLe 0 n && iLt n (l.length : Int)) = false := by
    by_cases h : 0 ≤ n
    · rw [iLe_t h, iLt_f (by omega)]; rfl
    · rw [iLe_f h]; rfl
  rw [this]
  rfl
def freeB (l : List T) : Nat := cntB (fun j => !(asB (T.cell (l.getD j T.u) 2)) && ((usedN (asL (T.cell (l.getD j T.u) 0)) : Nat) : Int) == 0) l.length
theorem c_sFree {lf d : Nat} (hlf : 33554432 ≤ lf) (l : List T) (ops : Int) (fs : List T) (dn : Bool) (sq : Int) (hs : l.length + tls l ≤ 16777216) :
    Cc lf (d + 2) 198 [.st [.sl l, .i .i64 ops, .sl fs, .b dn, .i .i64 sq]] = some [.i .i64 (freeB l : Nat)] := by
  refine (f198_eq (Cc lf (d + 1)) lf l ops fs dn sq).trans ?_
  unfold f198 f198_t
  dsimp only
  have L := cnt_loop (F := fun n x j => f198_0 (Cc lf (d + 1)) lf dn l fs ops sq n x j) (P := fun j => !(asB (T.cell (l.getD j T.u) 2)) && ((usedN (asL (T.cell (l.getD j T.u) 0)) : Nat) : Int) == 0) (Y := fun x => some [T.i .i64 0, T.i .i64 x]) (len := l.length) (by omega) (fun n x j hj hx => by
    have hp := cellL_le (l := l) (j := j) 0
    rw [f198_0_u]
    unfold f198_0_s
    rw [iLt_t (by omega), inR_nat hj, wrap_next hj (by omega), Int.toNat_natCast, c_sNext hlf _ _ _ (by omega)]
    simp only [Option.bind_some, nth0, asI_i, cond_t, cond_and, cond_not]) (fun n x => by
    rw [f198_0_u]
    unfold f198_0_s
    rw [iLt_f (by omega)]
    rfl) (n := lf) (by omega)
  rw [L]
  rfl
theorem c_iFree {lf d : Nat} (hlf : 33554432 ≤ lf) (l : List T) (ops : Int) (fs : List T) (dn : Bool) (sq : Int) (hs : l.length + tls l ≤ 16777216) :
    Cc lf (d + 4) 34 [.st [.sl l, .i .i64 ops, .sl fs, .b dn, .i .i64 sq]] = some [.i .i64 (freeB l : Nat)] := by
  refine (f34_eq (Cc lf (d + 3)) lf l ops fs dn sq).trans ?_
  unfold f34 f34_t
  dsimp only
  have L := cnt_loop (F := fun n x j => f34_0 (Cc lf (d + 3)) lf dn l fs ops sq n x j) (P := fun j => !(asB (T.cell (l.getD j T.u) 2)) && ((usedN (asL (T.cell (l.getD j T.u) 0)) : Nat) : Int) == 0) (Y := fun x => some [T.i .i64 0, T.i .i64 x]) (len := l.length) (by omega) (fun n x j hj hx => by
    rw [f34_0_u]
    unfold f34_0_s
    rw [iLt_t (by omega), inR_nat hj, wrap_next hj (by omega), c_iNext hlf l j hj hs, Int.toNat_natCast]
    simp only [Option.bind_some, nth0, asI_i, cond_t, cond_and, cond_not]) (fun n x => by
    rw [f34_0_u]
    unfold f34_0_s
    rw [iLt_f (by omega)]
    rfl) (n := lf) (by omega)
  rw [L]
  rfl
def openG (l : List T) (s : Int) (j : Nat) : Nat ⊕ Int :=
  bif (asB (T.cell (l.getD j T.u) 2)) then .inr s else bif iLt 0 ((usedN (asL (T.cell (l.getD j T.u) 0)) : Nat) : Int) && iLt ((usedN (asL (T.cell (l.getD j T.u) 0)) : Nat) : Int) ((asL (T.cell (l.getD j T.u) 0)).length : Int) then .inl j else bif ((usedN (asL (T.cell (l.getD j T.u) 0)) : Nat) : Int) == 0 && iLt s 0 then .inr (j : Int) else .inr s
/-- The block that is written to next. -/
def openB (l : List T) (spare : Int) : Int := match foldX (openG l) (-1) l.length with | .inl j => (j : Int) | .inr s => bif iLt spare (freeB l : Nat) then s else -1
theorem c_sOpen {lf d : Nat} (hlf : 33554432 ≤ lf) (l : List T) (ops : Int) (fs : List T) (dn : Bool) (sq spare : Int) (hs : l.length + tls l ≤ 16777216) :
    Cc lf (d + 3) 154 [.st [.sl l, .i .i64 ops, .sl fs, .b dn, .i .i64 sq], .i .i64 spare] = some [.i .i64 (openB l spare)] := by
  refine (f154_eq (Cc lf (d + 2)) lf l ops fs dn sq spare).trans ?_
  unfold f154 f154_t
  dsimp only
  have L := foldX_loop (F := fun n s j => f154_0 (Cc lf (d + 2)) lf dn l fs spare ops sq n s j) (g := openG l) (I := fun _ _ => True) (X := fun j => some [T.i .i64 0, T.i .i64 (j : Int)]) (Y := fun s => some [T.i .i64 1, T.i .i64 spare, T.i .i64 s, T.sl l, T.i .i64 ops, T.sl fs, T.b dn, T.i .i64 sq]) (len := l.length) (fun n s j hj hi => by
    have hp := cellL_le (l := l) (j := j) 0
    rw [f154_0_u]
    unfold f154_0_s
    rw [iLt_t (by omega), inR_nat hj, wrap_next hj (by omega), Int.toNat_natCast, c_sNext hlf _ _ _ (by omega)]
    simp only [Option.bind_some, nth0, asI_i, cond_t, openG]
    generalize asB (T.cell (l.getD j T.u) 2) = b1
    generalize iLt 0 ((usedN (asL (T.cell (l.getD j T.u) 0)) : Nat) : Int) = b2
    generalize iLt ((usedN (asL (T.cell (l.getD j T.u) 0)) : Nat) : Int) ((asL (T.cell (l.getD j T.u) 0)).length : Int) = b3
    generalize (((usedN (asL (T.cell (l.getD j T.u) 0)) : Nat) : Int) == 0) = b4
    generalize iLt s 0 = b5
    cases b1 <;> cases b2 <;> cases b3 <;> cases b4 <;> cases b5 <;> first | exact .inl ⟨_, rfl, rfl⟩ | exact .inr ⟨_, rfl, rfl, trivial⟩) (fun n s hi => by
    rw [f154_0_u]
    unfold f154_0_s
    rw [iLt_f (by omega)]
    rfl) (n := lf) (by omega) (s := -1) trivial
  unfold openB
  rcases L with ⟨j, h1, h2⟩ | ⟨s, h1, h2, _⟩
  · rw [h1, h2]; rfl
  · rw [h1, h2]
    simp only [Option.bind_some, nth0, nthS, asI_i, asL_l, asB_b]
    rw [show ((1 : Int) == 0) = false from rfl, cond_f, c_sFree hlf l ops fs dn sq hs]
    simp only [Option.bind_some, nth0, asI_i]
    cases iLt spare (freeB l : Nat) <;> rfl
theorem c_iOpen {lf d : Nat} (hlf : 33554432 ≤ lf) (l : List T) (ops : Int) (fs : List T) (dn : Bool) (sq spare : Int) (hs : l.length + tls l ≤ 16777216) :
    Cc lf (d + 5) 35 [.st [.sl l, .i .i64 ops, .sl fs, .b dn, .i .i64 sq], .i .i64 spare] = some [.i .i64 (openB l spare)] := by
  refine (f35_eq (Cc lf (d + 4)) lf l ops fs dn sq spare).trans ?_
  unfold f35 f35_t
  dsimp only
  have L := foldX_loop (F := fun n s j => f35_0 (Cc lf (d + 4)) lf dn l fs spare ops sq n s j) (g := openG l) (I := fun _ _ => True) (X := fun j => some [T.i .i64 0, T.i .i64 (j : Int)]) (Y := fun s => some [T.i .i64 1, T.i .i64 spare, T.i .i64 s, T.sl l, T.i .i64 ops, T.sl fs, T.b dn, T.i .i64 sq]) (len := l.length) (fun n s j hj hi => by
    rw [f35_0_u]
    unfold f35_0_s
    rw [iLt_t (by omega), inR_nat hj, wrap_next hj (by omega), c_iNext hlf l j hj hs, Int.toNat_natCast]
    simp only [Option.bind_some, nth0, asI_i, cond_t, openG]
    generalize asB (T.cell (l.getD j T.u) 2) = b1
    generalize iLt 0 ((usedN (asL (T.cell (l.getD j T.u) 0)) : Nat) : Int) = b2
    generalize iLt ((usedN (asL (T.cell (l.getD j T.u) 0)) : Nat) : Int) ((asL (T.cell (l.getD j T.u) 0)).length : Int) = b3
    generalize (((usedN (asL (T.cell (l.getD j T.u) 0)) : Nat) : Int) == 0) = b4
    generalize iLt s 0 = b5
    cases b1 <;> cases b2 <;> cases b3 <;> cases b4 <;> cases b5 <;> first | exact .inl ⟨_, rfl, rfl⟩ | exact .inr ⟨_, rfl, rfl, trivial⟩) (fun n s hi => by
    rw [f35_0_u]
    unfold f35_0_s
    rw [iLt_f (by omega)]
    rfl) (n := lf) (by omega) (s := -1) trivial
  unfold openB
  rcases L with ⟨j, h1, h2⟩ | ⟨s, h1, h2, _⟩
  · rw [h1, h2]; rfl
  · rw [h1, h2]
    simp only [Option.bind_some, nth0, nthS, asI_i, asL_l, asB_b]
    rw [show ((1 : Int) == 0) = false from rfl, cond_f, c_iFree hlf l ops fs dn sq hs]
    simp only [Option.bind_some, nth0, asI_i]
    cases iLt spare (freeB l : Nat) <;> rfl
theorem wf64_in {n : Int} (h : (Lit.int .i64 n).wf = true) : -9223372036854775808 ≤ n ∧ n ≤ 9223372036854775807 := by
  have h1 : (decide (-9223372036854775808 ≤ n) && decide (n ≤ 9223372036854775807)) = true := h
  rw [Bool.and_eq_true] at h1
  exact ⟨of_decide_eq_true h1.1, of_decide_eq_true h1.2⟩
def pgs (l : List T) (n1 : Int) : List T := asL (T.cell (l.getD n1.toNat T.u) 0)
def pgb (l : List T) (n1 n2 : Int) : List T := asL (T.cell ((pgs l n1).getD n2.toNat T.u) 1)
/-- Is this page there, and written? -/
def pgB (l : List T) (n1 n2 : Int) : Bool := (iLe 0 n1 && iLt n1 (l.length : Int)) && ((iLe 0 n2 && iLt n2 ((pgs l n1).length : Int)) && asB (T.cell ((pgs l n1).getD n2.toNat T.u) 0))
def pgR (l : List T) (n1 n2 : Int) : List T := bif pgB l n1 n2 then pgb l n1 n2 else []
theorem pgb_len (l : List T) (n1 n2 : Int) : (pgb l n1 n2).length ≤ tls l := by
  have h1 := cellL_le (l := l) (j := n1.toNat) 0
  have h2 := cellL_le (l := pgs l n1) (j := n2.toNat) 1
  unfold pgb
  have : (pgs l n1).length + tls (pgs l n1) ≤ tls l := h1
  omega
theorem inR_le {n : Int} {k : Nat} (h0 : 0 ≤ n) (h1 : n < k) : inR n k = true := by
  obtain ⟨m, rfl⟩ := Int.eq_ofNat_of_zero_le h0
  exact inR_nat (by omega)
/-- The record at an address. -/
def recA (l : List T) (a : Int) : Option (Int × Int × List T) := bif !iLt a 0 then getRecB (pgR l (a.tdiv 8) (a.tmod 8)) else none
def pgsByt (l : List T) : Prop := ∀ n1 n2, byt (pgb l n1 n2)
theorem pgR_byt {l : List T} (h : pgsByt l) (n1 n2 : Int) : byt (pgR l n1 n2) := by
  unfold pgR
  cases pgB l n1 n2
  · exact byt_nil
  · exact h n1 n2
theorem pgR_len (l : List T) (n1 n2 : Int) : (pgR l n1 n2).length ≤ tls l := by
  unfold pgR
  cases pgB l n1 n2
  · exact Nat.zero_le _
  · exact pgb_len l n1 n2
theorem pgR_no {l : List T} {n1 n2 : Int} (h : pgB l n1 n2 = false) : getRecB (pgR l n1 n2) = none := by
  unfold pgR
  rw [h]
  rfl
theorem wrap_div {a : Int} (h : (Lit.int .i64 a).wf = true) (h0 : 0 ≤ a) : IntKind.wrap .i64 (a.tdiv 8) = a.tdiv 8 := by
  have h2 : a ≤ 9223372036854775807 := (wf64_in h).2
  have : 0 ≤ a.tdiv 8 := Int.tdiv_nonneg h0 (by omega)
  have : a.tdiv 8 ≤ a := Int.tdiv_le_self _ h0
  exact wrap_in (by omega) (by omega)
def readAtR (l : List T) (a k : Int) : List T := match recA l a with
  | none => [recT none, .b false]
  | some r => bif r.1 == k then [recT (some r), .b true] else [recT none, .b false]
def pageB (ps : List T) (j : Nat) : Bool := !iLt 400 ((asL (T.cell (ps.getD j T.u) 1)).length : Int) && ((pageU ps j || !iLt 0 ((asL (T.cell (ps.getD j T.u) 1)).length : Int)) && (!iLt 0 (j : Int) || (!pageU ps j || pageU ps (j - 1))))
def blockB (ps : List T) (w : Int) : Bool := ((ps.length : Int) == 8 && (iLe 0 w && iLe w 100000)) && allB (pageB ps) ps.length
def blocksB (l : List T) (j : Nat) : Bool := blockB (asL (T.cell (l.getD j T.u) 0)) (asI (T.cell (l.getD j T.u) 1))
def chipB (l : List T) : Bool := allB (blocksB l) l.length && (iLe 3 (l.length : Int) && iLe (l.length : Int) 24)
theorem c_sBlockOk {lf d : Nat} (hlf : 33554432 ≤ lf) (ps : List T) (w : Int) (bad : Bool) (hs : ps.length ≤ 16777216) : Cc lf (d + 2) 176 [.st [.sl ps, .i .i64 w, .b bad]] = some [.b (blockB ps w)] := by
  refine (f176_eq (Cc lf (d + 1)) lf ps w bad).trans ?_
  unfold f176 f176_t blockB
  dsimp only
  have L := all_loop (F := fun n j => f176_0 (Cc lf (d + 1)) lf bad ps w n j) (P := pageB ps) (X := some [T.i .i64 0, T.b false]) (Y := some [T.i .i64 1]) (len := ps.length) (fun n j hj => by
    rw [f176_0_u]
    unfold f176_0_s pageB pageU
    rw [iLt_t (by omega), inR_nat hj, wrap_next hj (by omega)]
    simp only [cond_t, Int.toNat_natCast]
    cases h0 : iLt 0 (j : Int) with
    | true =>
      have hj0 : 0 < j := by have := iLt_iff.1 h0; omega
      rw [wrap_pred hj0 (by omega), inR_nat (by omega)]
      simp only [cond_t, Int.toNat_natCast]
      cases iLt 400 ((asL (T.cell (ps.getD j T.u) 1)).length : Int) <;> cases asB (T.cell (ps.getD j T.u) 0) <;> cases iLt 0 ((asL (T.cell (ps.getD j T.u) 1)).length : Int) <;> cases asB (T.cell (ps.getD (j - 1) T.u) 0) <;> rfl
    | false =>
      cases iLt 400 ((asL (T.cell (ps.getD j T.u) 1)).length : Int) <;> cases asB (T.cell (ps.getD j T.u) 0) <;> cases iLt 0 ((asL (T.cell (ps.getD j T.u) 1)).length : Int) <;> rfl) (fun n => by
    rw [f176_0_u]
    unfold f176_0_s
    rw [iLt_f (by omega)]
    rfl) (n := lf) (by omega)
  rw [c_l1In, L]
  simp only [Option.bind_some, nth0, asB_b, bne]
  cases ((ps.length : Int) == 8) with
  | false => rfl
  | true =>
    cases (iLe 0 w && iLe w 100000) with
    | false => rfl
    | true => cases allB (pageB ps) ps.length <;> rfl
theorem c_sChipOk {lf d : Nat} (hlf : 33554432 ≤ lf) (l : List T) (hs : l.length + tls l ≤ 16777216) : Cc lf (d + 3) 124 [.st [.sl l]] = some [.b (chipB l)] := by
  refine (f124_eq (Cc lf (d + 2)) lf l).trans ?_
  unfold f124 f124_t chipB
  dsimp only
  have L := all_loop (F := fun n j => f124_0 (Cc lf (d + 2)) lf l n j) (P := blocksB l) (X := some [T.i .i64 0, T.b false]) (Y := some [T.i .i64 1, T.sl l]) (len := l.length) (fun n j hj => by
    have hp := cellL_le (l := l) (j := j) 0
    rw [f124_0_u]
    unfold f124_0_s blocksB
    rw [iLt_t (by omega), inR_nat hj, wrap_next hj (by omega), Int.toNat_natCast, c_sBlockOk hlf _ _ _ (by omega)]
    simp only [cond_t, Option.bind_some, nth0, asB_b]
    cases blockB (asL (T.cell (l.getD j T.u) 0)) (asI (T.cell (l.getD j T.u) 1)) <;> rfl) (fun n => by
    rw [f124_0_u]
    unfold f124_0_s
    rw [iLt_f (by omega)]
    rfl) (n := lf) (by omega)
  rw [L]
  cases allB (blocksB l) l.length with
  | false => rfl
  | true =>
    simp only [cond_t, Option.bind_some, nth0, nthS, asL_l, asI_i, c_l1In, asB_b]
    rfl
theorem c_iChipOk {lf d : Nat} (hlf : 33554432 ≤ lf) (l : List T) (hs : l.length + tls l ≤ 16777216) : Cc lf (d + 2) 128 [.st [.sl l]] = some [.b (chipB l)] := by
  refine (f128_eq (Cc lf (d + 1)) lf l).trans ?_
  unfold f128 f128_t chipB
  dsimp only
  have In : ∀ (i : Nat), f128_1 (Cc lf (d + 1)) lf l (l.length : Int) (i : Int) l lf 0 = bif allB (pageB (asL (T.cell (l.getD i T.u) 0))) (asL (T.cell (l.getD i T.u) 0)).length then some [T.i .i64 1, T.sl l, T.i .i64 (l.length : Int), T.i .i64 (i : Int), T.sl l] else some [T.i .i64 0, T.b false] := fun i => by
    have hp := cellL_le (l := l) (j := i) 0
    obtain ⟨ps, hps⟩ : ∃ ps, ps = asL (T.cell (l.getD i T.u) 0) := ⟨_, rfl⟩
    rw [← hps] at hp ⊢
    exact all_loop (F := fun n j => f128_1 (Cc lf (d + 1)) lf l (l.length : Int) (i : Int) l n j) (P := pageB ps) (X := some [T.i .i64 0, T.b false]) (Y := some [T.i .i64 1, T.sl l, T.i .i64 (l.length : Int), T.i .i64 (i : Int), T.sl l]) (len := ps.length) (fun n j hj => by
      rw [f128_1_u]
      unfold f128_1_s pageB pageU
      rw [Int.toNat_natCast, ← hps, iLt_t (by omega), inR_nat hj, wrap_next hj (by omega)]
      simp only [cond_t, Int.toNat_natCast]
      cases h0 : iLt 0 (j : Int) with
      | true =>
        have hj0 : 0 < j := by have := iLt_iff.1 h0; omega
        rw [wrap_pred hj0 (by omega), inR_nat (by omega)]
        simp only [cond_t, Int.toNat_natCast]
        cases iLt 400 ((asL (T.cell (ps.getD j T.u) 1)).length : Int) <;> cases asB (T.cell (ps.getD j T.u) 0) <;> cases iLt 0 ((asL (T.cell (ps.getD j T.u) 1)).length : Int) <;> cases asB (T.cell (ps.getD (j - 1) T.u) 0) <;> rfl
      | false =>
        cases iLt 400 ((asL (T.cell (ps.getD j T.u) 1)).length : Int) <;> cases asB (T.cell (ps.getD j T.u) 0) <;> cases iLt 0 ((asL (T.cell (ps.getD j T.u) 1)).length : Int) <;> rfl) (fun n => by
      rw [f128_1_u]
      unfold f128_1_s
      rw [Int.toNat_natCast, ← hps, iLt_f (by omega)]
      rfl) (n := lf) (by omega)
  have L := all_loop (F := fun n j => f128_0 (Cc lf (d + 1)) lf n l (l.length : Int) j l) (P := blocksB l) (X := some [T.i .i64 0, T.b false]) (Y := some [T.i .i64 1, T.sl l]) (len := l.length) (fun n j hj => by
    rw [f128_0_u]
    unfold f128_0_s blocksB blockB
    rw [iLt_t (by omega), inR_nat hj, c_from]
    dsimp only
    rw [In]
    simp only [cond_t, Option.bind_some, nth0, asB_b, bne, Int.toNat_natCast]
    cases (((asL (T.cell (l.getD j T.u) 0)).length : Int) == 8) with
    | false => rfl
    | true =>
      cases (iLe 0 (asI (T.cell (l.getD j T.u) 1)) && iLe (asI (T.cell (l.getD j T.u) 1)) 100000) with
      | false => rfl
      | true =>
        cases allB (pageB (asL (T.cell (l.getD j T.u) 0))) (asL (T.cell (l.getD j T.u) 0)).length with
        | false => rfl
        | true =>
          simp only [cond_t, Option.bind_some, nth0, nthS, asL_l, asI_i]
          rw [wrap_next hj (by omega)]
          rfl) (fun n => by
    rw [f128_0_u]
    unfold f128_0_s
    rw [iLt_f (by omega)]
    rfl) (n := lf) (by omega)
  rw [L]
  cases allB (blocksB l) l.length with
  | false => rfl
  | true =>
    simp only [cond_t, Option.bind_some, nth0, nthS, asL_l, asI_i, c_from, asB_b]
    rfl
def faultB (l : List T) (j : Nat) : Bool :=
  (iLe 0 (asI (T.cell (l.getD j T.u) 0)) && iLe (asI (T.cell (l.getD j T.u) 0)) 100000) && ((iLe 1 (asI (T.cell (l.getD j T.u) 1)) && iLe (asI (T.cell (l.getD j T.u) 1)) 2) && ((iLe 0 (asI (T.cell (l.getD j T.u) 2)) && iLe (asI (T.cell (l.getD j T.u) 2)) 400) && (!iLt 0 (j : Int) || !iLe (asI (T.cell (l.getD j T.u) 0)) (asI (T.cell (l.getD (j - 1) T.u) 0)))))
def devB (l : List T) (ops : Int) (fs : List T) : Bool := allB (faultB fs) fs.length && (chipB l && ((iLe 0 ops && iLe ops 100000) && iLe (fs.length : Int) 20))
theorem c_sFaults {lf d : Nat} (hlf : 33554432 ≤ lf) (l : List T) (hs : l.length ≤ 16777216) : Cc lf (d + 2) 125 [.sl l] = some [.b (allB (faultB l) l.length && iLe (l.length : Int) 20)] := by
  refine (f125_eq (Cc lf (d + 1)) lf l).trans ?_
  unfold f125 f125_t
  dsimp only
  have L := all_loop (F := fun n j => f125_0 (Cc lf (d + 1)) lf l n j) (P := faultB l) (X := some [T.i .i64 0, T.b false]) (Y := some [T.i .i64 1, T.sl l]) (len := l.length) (fun n j hj => by
    rw [f125_0_u]
    unfold f125_0_s
    rw [iLt_t (by omega), inR_nat hj, wrap_next hj (by omega)]
    simp only [c_l1In, Option.bind_some, nth0, asB_b, faultB, cond_not, cond_and, cond_or, cond_t, Int.toNat_natCast]
    cases h0 : iLt 0 (j : Int) with
    | true =>
      have hj0 : 0 < j := by have := iLt_iff.1 h0; omega
      rw [wrap_pred hj0 (by omega), inR_nat (by omega)]
      simp only [cond_t, Int.toNat_natCast]
    | false => rfl) (fun n => by
    rw [f125_0_u]
    unfold f125_0_s
    rw [iLt_f (by omega)]
    rfl) (n := lf) (by omega)
  rw [L]
  cases allB (faultB l) l.length <;> rfl
theorem c_sDevOk {lf d : Nat} (hlf : 33554432 ≤ lf) (l : List T) (ops : Int) (fs : List T) (dn : Bool) (hs : l.length + tls l ≤ 16777216) (hs2 : fs.length ≤ 16777216) : Cc lf (d + 4) 70 [.st [.sl l, .i .i64 ops, .sl fs, .b dn]] = some [.b (devB l ops fs)] := by
  refine (f70_eq (Cc lf (d + 3)) lf l ops fs dn).trans ?_
  unfold f70 f70_t devB
  rw [c_sChipOk hlf l hs, c_l1In, c_sFaults (d := d + 1) hlf fs hs2]
  simp only [Option.bind_some, nth0, asB_b]
  generalize allB (faultB fs) fs.length = b1
  generalize iLe (fs.length : Int) 20 = b2
  cases chipB l <;> cases (iLe 0 ops && iLe ops 100000) <;> cases b1 <;> cases b2 <;> rfl
theorem c_iDevOk {lf d : Nat} (hlf : 33554432 ≤ lf) (l : List T) (ops : Int) (fs : List T) (dn : Bool) (hs : l.length + tls l ≤ 16777216) (hs2 : fs.length ≤ 16777216) : Cc lf (d + 3) 74 [.st [.sl l, .i .i64 ops, .sl fs, .b dn]] = some [.b (devB l ops fs)] := by
  refine (f74_eq (Cc lf (d + 2)) lf l ops fs dn).trans ?_
  unfold f74 f74_t devB
  dsimp only
  have L := all_loop (F := fun n j => f74_0 (Cc lf (d + 2)) lf dn l fs ops n j) (P := faultB fs) (X := some [T.i .i64 0, T.b false]) (Y := some [T.i .i64 1, T.sl l, T.i .i64 ops, T.sl fs, T.b dn]) (len := fs.length) (fun n j hj => by
    rw [f74_0_u]
    unfold f74_0_s
    rw [iLt_t (by omega), inR_nat hj, wrap_next hj (by omega)]
    simp only [c_from, Option.bind_some, nth0, asB_b, faultB, cond_not, cond_and, cond_or, cond_t, Int.toNat_natCast]
    cases h0 : iLt 0 (j : Int) with
    | true =>
      have hj0 : 0 < j := by have := iLt_iff.1 h0; omega
      rw [wrap_pred hj0 (by omega), inR_nat (by omega)]
      simp only [cond_t, Int.toNat_natCast]
    | false => rfl) (fun n => by
    rw [f74_0_u]
    unfold f74_0_s
    rw [iLt_f (by omega)]
    rfl) (n := lf) (by omega)
  rw [L]
  cases allB (faultB fs) fs.length with
  | false => rfl
  | true =>
    simp only [cond_t, Option.bind_some, nth0, nthS, asL_l, asI_i]
    rw [c_iChipOk hlf l hs, c_from]
    simp only [Option.bind_some, nth0, asB_b]
    generalize iLe (fs.length : Int) 20 = b2
    cases chipB l <;> cases (iLe 0 ops && iLe ops 100000) <;> cases b2 <;> rfl
theorem foldN_and {P : Nat → Bool} (b : Bool) : ∀ n, foldN (fun s j => s && P j) b n = (b && allB P n)
  | 0 => by cases b <;> rfl
  | n + 1 => by
    show (foldN (fun s j => s && P j) b n && P n) = (b && (allB P n && P n))
    rw [foldN_and b n, Bool.and_assoc]
theorem foldN_le {g : Int → Nat → Int} {P : Nat → Prop} {q : Int} (h : ∀ s k, g s k ≤ q ↔ s ≤ q ∧ P k) (s : Int) : ∀ n, foldN g s n ≤ q ↔ s ≤ q ∧ ∀ k, k < n → P k
  | 0 => ⟨fun h => ⟨h, fun _ h => absurd h (Nat.not_lt_zero _)⟩, fun h => h.1⟩
  | n + 1 => by
    show g (foldN g s n) n ≤ q ↔ _
    rw [h, foldN_le h s n]
    constructor
    · rintro ⟨⟨h1, h2⟩, h3⟩
      refine ⟨h1, fun k hk => ?_⟩
      by_cases e : k = n
      · rw [e]; exact h3
      · exact h2 k (by omega)
    · rintro ⟨h1, h2⟩
      exact ⟨⟨h1, fun k hk => h2 k (by omega)⟩, h2 n (by omega)⟩
theorem getRecB_seq {b : List T} {r : Int × Int × List T} (h : getRecB b = some r) : recB r.1 r.2.1 r.2.2 = true := by
  unfold getRecB at h
  split at h
  · cases h
  · generalize sealB b = b1 at h
    generalize recHead (b.take (b.length - 4)) (some 0) = x at h
    generalize (x.2 == some (b.length - 4)) = b2 at h
    cases b1 <;> cases b2 <;> simp only [Bool.false_and, Bool.true_and, Bool.and_false, cond_f] at h
    · cases h
    · cases h
    · cases h
    · cases e : recB x.1.1 x.1.2.1 (listOf x.1.2.2) with
      | false => rw [e] at h; cases h
      | true =>
        rw [e] at h
        cases h
        exact e
theorem recB_in {k s : Int} {b : List T} (h : recB k s b = true) : (1 ≤ k ∧ k ≤ 4) ∧ (0 ≤ s ∧ s ≤ 1000000) ∧ b.length ≤ 380 := by
  unfold recB at h
  simp only [Bool.and_eq_true, iLe_iff] at h
  exact ⟨h.1, h.2.1, by omega⟩
def seqG (ps : List T) (s : Int) (k : Nat) : Int := match getRecB (asL (T.cell (ps.getD k T.u) 1)) with | some r => (bif iLe s r.2.1 then r.2.1 + 1 else s) | none => s
theorem seqG_in {ps : List T} {s : Int} {k : Nat} (h : 0 ≤ s ∧ s ≤ 1000001) : 0 ≤ seqG ps s k ∧ seqG ps s k ≤ 1000001 := by
  unfold seqG
  cases e : getRecB (asL (T.cell (ps.getD k T.u) 1)) with
  | none => exact h
  | some r =>
    have := (recB_in (getRecB_seq e)).2.1
    simp only
    cases iLe s r.2.1 <;> simp only [cond_t, cond_f] <;> omega
theorem seqG_le {ps : List T} {q s : Int} {k : Nat} : seqG ps s k ≤ q ↔ s ≤ q ∧ ∀ r, getRecB (asL (T.cell (ps.getD k T.u) 1)) = some r → r.2.1 < q := by
  unfold seqG
  cases e : getRecB (asL (T.cell (ps.getD k T.u) 1)) with
  | none => exact ⟨fun h => ⟨h, fun r hr => by cases hr⟩, fun h => h.1⟩
  | some r =>
    simp only
    by_cases c : s ≤ r.2.1
    · rw [iLe_t c]
      simp only [cond_t]
      exact ⟨fun h => ⟨by omega, fun r' hr => by cases hr; omega⟩, fun h => by have := h.2 r rfl; omega⟩
    · rw [iLe_f c]
      simp only [cond_f]
      exact ⟨fun h => ⟨h, fun r' hr => by cases hr; omega⟩, fun h => h.1⟩
def mostB (ps : List T) (s : Int) : Int := foldN (seqG ps) s ps.length
theorem mostB_le {ps : List T} {q s : Int} : mostB ps s ≤ q ↔ s ≤ q ∧ ∀ k, k < ps.length → ∀ r, getRecB (asL (T.cell (ps.getD k T.u) 1)) = some r → r.2.1 < q := by
  unfold mostB
  exact foldN_le (g := seqG ps) (P := fun k => ∀ r, getRecB (asL (T.cell (ps.getD k T.u) 1)) = some r → r.2.1 < q) (fun s k => seqG_le) s _
def mostL (l : List T) : Int := foldN (fun s i => mostB (pgs l (i : Nat)) s) 0 l.length
theorem mostB_in {ps : List T} {s : Int} (h : 0 ≤ s ∧ s ≤ 1000001) : 0 ≤ mostB ps s ∧ mostB ps s ≤ 1000001 := by
  have : ∀ n, 0 ≤ foldN (seqG ps) s n ∧ foldN (seqG ps) s n ≤ 1000001 := fun n => by
    induction n with
    | zero => exact h
    | succ n ih => exact seqG_in ih
  exact this _
/-- Is a log right? -/
def logB (l : List T) (ops : Int) (fs : List T) (sq : Int) : Bool := devB l ops fs && ((iLe 0 sq && iLe sq 1000000) && iLe (mostL l) sq)
def seqOk (l : List T) (sq : Int) (a : Nat) : Bool := match recA l a with | some r => iLt r.2.1 sq | none => true
theorem recA_pages {l : List T} (hc : chipB l = true) {i k : Nat} (hi : i < l.length) (hk : k < 8) : recA l ((8 * i + k : Nat) : Int) = getRecB (asL (T.cell ((pgs l i).getD k T.u) 1)) ∧ (pgs l i).length = 8 := by
  have h1 := allB_iff.1 (Bool.and_eq_true _ _ ▸ hc).1 i hi
  unfold blocksB blockB at h1
  rw [Bool.and_eq_true, Bool.and_eq_true] at h1
  have h8 : (pgs l i).length = 8 := by
    have : (((pgs l i).length : Int) == 8) = true := h1.1.1
    rw [beq_iff_eq] at this
    omega
  refine ⟨?_, h8⟩
  have hd : ((8 * i + k : Nat) : Int).tdiv 8 = (i : Int) := by
    rw [Int.tdiv_eq_ediv_of_nonneg (by omega)]; omega
  have hm : ((8 * i + k : Nat) : Int).tmod 8 = (k : Int) := by
    rw [Int.tmod_eq_emod_of_nonneg (by omega)]; omega
  unfold recA
  rw [iLt_f (by omega), hd, hm]
  simp only [Bool.not_false, cond_t]
  have hp : pageB (pgs l i) k = true := allB_iff.1 h1.2 k (by show k < (pgs l i).length; omega)
  unfold pgR pgB
  rw [iLe_t (by omega), iLt_t (by omega), iLe_t (by omega), iLt_t (by omega), Int.toNat_natCast]
  simp only [Bool.and_self, Bool.true_and]
  cases e : asB (T.cell ((pgs l i).getD k T.u) 0) with
  | true => rfl
  | false =>
    unfold pageB pageU at hp
    rw [e] at hp
    simp only [Bool.and_eq_true, Bool.false_or, Bool.not_eq_true'] at hp
    have : ¬ (0 : Int) < ((asL (T.cell ((pgs l i).getD k T.u) 1)).length : Int) := fun h => by rw [iLt_t h] at hp; exact absurd hp.2.1 (by simp)
    have : asL (T.cell ((pgs l i).getD k T.u) 1) = [] := List.eq_nil_of_length_eq_zero (by omega)
    rw [this]
    rfl
theorem seq_same {l : List T} (hc : chipB l = true) (sq : Int) (h0 : 0 ≤ sq) : allB (seqOk l sq) (8 * l.length) = iLe (mostL l) sq := by
  have A : mostL l ≤ sq ↔ ∀ i, i < l.length → ∀ k, k < (pgs l i).length → ∀ r, getRecB (asL (T.cell ((pgs l i).getD k T.u) 1)) = some r → r.2.1 < sq := by
    have := foldN_le (g := fun s i => mostB (pgs l (i : Nat)) s) (P := fun i => ∀ k, k < (pgs l i).length → ∀ r, getRecB (asL (T.cell ((pgs l i).getD k T.u) 1)) = some r → r.2.1 < sq) (q := sq) (fun s i => mostB_le) 0 l.length
    exact ⟨fun h => (this.1 h).2, fun h => this.2 ⟨h0, h⟩⟩
  have B : allB (seqOk l sq) (8 * l.length) = true ↔ ∀ i, i < l.length → ∀ k, k < (pgs l i).length → ∀ r, getRecB (asL (T.cell ((pgs l i).getD k T.u) 1)) = some r → r.2.1 < sq := by
    rw [allB_iff]
    constructor
    · intro h i hi k hk r hr
      have h8 := (recA_pages hc hi (show 0 < 8 by omega)).2
      have h2 := (recA_pages hc hi (show k < 8 by omega)).1
      have := h (8 * i + k) (by omega)
      unfold seqOk at this
      rw [h2, hr] at this
      exact iLt_iff.1 this
    · intro h a ha
      have h2 := recA_pages hc (i := a / 8) (k := a % 8) (by omega) (by omega)
      rw [show 8 * (a / 8) + a % 8 = a by omega] at h2
      unfold seqOk
      rw [h2.1]
      cases e : getRecB (asL (T.cell ((pgs l (a / 8 : Nat)).getD (a % 8) T.u) 1)) with
      | none => rfl
      | some r => exact iLt_t (h (a / 8) (by omega) (a % 8) (by omega) r e)
  cases e : allB (seqOk l sq) (8 * l.length) with
  | true => rw [iLe_t (A.2 (B.1 e))]
  | false =>
    rw [iLe_f]
    intro h
    have := B.2 (A.1 h)
    rw [e] at this
    cases this
theorem cell_fit {cs : List CT} {l : List T} {j k : Nat} {c : CT} (h : fitC (.sl true cs) (.sl l)) (hj : j < l.length) (hk : cs[k]? = some c) : fitC c (T.cell (l.getD j .u) k) := by
  have h1 := fitL_all.1 h.2 l[j] (List.getElem_mem hj)
  rw [List.getD_eq_getElem?_getD, List.getElem?_eq_getElem hj]
  obtain ⟨xs, hx, h2⟩ := fitE_st h1
  show fitC c (T.cell l[j] k)
  rw [hx]
  have h3 := fitCs_get.1 h2
  have hk2 : k < cs.length := by
    rcases Nat.lt_or_ge k cs.length with h | h
    · exact h
    · rw [List.getElem?_eq_none h] at hk; cases hk
  have hx2 : xs[k]? = some (xs[k]'(by omega)) := List.getElem?_eq_getElem _
  have := h3.2 k c _ hk hx2
  simp only [T.cell]
  rw [List.getD_eq_getElem?_getD, hx2]
  exact this
theorem pgsByt_of {cs : List CT} {l : List T} (h : fitC (.sl true (.sl true [.b, .sl false [.i .u8]] :: cs)) (.sl l)) : pgsByt l := by
  intro n1 n2
  unfold pgb pgs
  by_cases h1 : n1.toNat < l.length
  · obtain ⟨ps, e, q⟩ := fitC_sl (cell_fit (k := 0) h h1 rfl)
    rw [e]
    by_cases h2 : n2.toNat < ps.length
    · obtain ⟨bs, e2, q2⟩ := fitC_sl (cell_fit (k := 1) q h2 rfl)
      show byt (asL (T.cell (ps.getD n2.toNat T.u) 1))
      rw [e2]
      exact byt_of q2
    · show byt (asL (T.cell (ps.getD n2.toNat T.u) 1))
      rw [List.getD_eq_getElem?_getD, List.getElem?_eq_none (show ps.length ≤ n2.toNat by omega)]
      exact byt_nil
  · have e : l.getD n1.toNat T.u = T.u := by
      rw [List.getD_eq_getElem?_getD, List.getElem?_eq_none (show l.length ≤ n1.toNat by omega)]
      rfl
    rw [e]
    exact byt_nil
theorem copy_loop {F : Nat → Int → List T → Option (List T)} {l : List T} {Y : Option (List T)} (hF : ∀ n (j : Nat), j < l.length → F (n + 1) j (l.take j) = F n ((j + 1 : Nat) : Int) (l.take j ++ [l.getD j T.u])) (hE : ∀ n, F (n + 1) (l.length : Int) l = Y) {n : Nat} (hn : l.length < n) : F n 0 [] = Y := by
  have key : ∀ (k j n : Nat), j + k = l.length → k < n → F n (j : Int) (l.take j) = Y := by
    intro k
    induction k with
    | zero =>
      intro j n hj hn
      obtain ⟨n, rfl⟩ : ∃ m, n = m + 1 := ⟨n - 1, by omega⟩
      rw [List.take_of_length_le (by omega), show (j : Int) = (l.length : Int) by omega, hE]
    | succ k ih =>
      intro j n hj hn
      obtain ⟨n, rfl⟩ : ∃ m, n = m + 1 := ⟨n - 1, by omega⟩
      have hjl : j < l.length := by omega
      have := ih (j + 1) n (by omega) (by omega)
      rw [List.take_succ_eq_append_getElem hjl] at this
      rw [hF n j hjl, List.getD_eq_getElem?_getD, List.getElem?_eq_getElem hjl, Option.getD_some]
      exact this
  exact key l.length 0 n (by omega) hn
/-- Pages, as trees. -/
def pgT (ps : List T) : Prop := ∀ p ∈ ps, ∃ u bs, p = .st [.b u, .sl bs]
/-- A chip's blocks, as trees. -/
def chT (l : List T) : Prop := ∀ x ∈ l, ∃ ps w bad, x = .st [.sl ps, .i .i64 w, .b bad] ∧ pgT ps
theorem getD_mem {l : List T} {j : Nat} (h : j < l.length) : l.getD j T.u ∈ l := by
  rw [List.getD_eq_getElem?_getD, List.getElem?_eq_getElem h]
  exact List.getElem_mem h
theorem chT_at {l : List T} (h : chT l) {j : Nat} (hj : j < l.length) : l.getD j T.u = .st [.sl (asL (T.cell (l.getD j T.u) 0)), .i .i64 (asI (T.cell (l.getD j T.u) 1)), .b (asB (T.cell (l.getD j T.u) 2))] ∧ pgT (asL (T.cell (l.getD j T.u) 0)) := by
  obtain ⟨ps, w, bad, e, hp⟩ := h _ (getD_mem hj)
  rw [e]
  exact ⟨rfl, hp⟩
theorem pgT_at {ps : List T} (h : pgT ps) {j : Nat} (hj : j < ps.length) : ps.getD j T.u = .st [.b (asB (T.cell (ps.getD j T.u) 0)), .sl (asL (T.cell (ps.getD j T.u) 1))] := by
  obtain ⟨u, bs, e⟩ := h _ (getD_mem hj)
  rw [e]
  rfl
theorem c_copyBlock {lf d : Nat} (hlf : 33554432 ≤ lf) (ps : List T) (w : Int) (bad : Bool) (hp : pgT ps) (hs : ps.length + tls ps ≤ 16777216) : Cc lf (d + 1) 228 [.st [.sl ps, .i .i64 w, .b bad]] = some [.st [.sl ps, .i .i64 w, .b bad]] := by
  refine (f228_eq (Cc lf d) lf ps w bad).trans ?_
  unfold f228 f228_t
  dsimp only
  have L := copy_loop (F := fun n j acc => f228_0 (Cc lf d) lf bad ps w n j acc) (l := ps) (Y := some [T.i .i64 0, T.i .i64 0, T.b false, T.sl ([] : List T), T.i .i64 w, T.b bad, T.sl ps]) (fun n j hj => by
    have h1 := cellL_le (l := ps) (j := j) 1
    rw [f228_0_u]
    unfold f228_0_s
    rw [iLt_t (by omega), inR_nat hj, wrap_next hj (by omega), Int.toNat_natCast, nLe_t (by unfold LIM; simp only [List.length_nil]; omega), nLe_app (by rw [List.length_take]; omega), List.nil_append, ← pgT_at hp hj]
    rfl) (fun n => by
    rw [f228_0_u]
    unfold f228_0_s
    rw [iLt_f (by omega)]
    rfl) (n := lf) (by omega)
  rw [L]
  rfl
theorem c_sCopyChip {lf d : Nat} (hlf : 33554432 ≤ lf) (l : List T) (hc : chT l) (hs : l.length + tls l ≤ 16777216) : Cc lf (d + 2) 194 [.st [.sl l]] = some [.st [.sl l]] := by
  refine (f194_eq (Cc lf (d + 1)) lf l).trans ?_
  unfold f194 f194_t
  dsimp only
  have L := copy_loop (F := fun n j acc => f194_0 (Cc lf (d + 1)) lf l n j acc) (l := l) (Y := some [T.i .i64 0, T.sl ([] : List T), T.sl l]) (fun n j hj => by
    have h1 := cellL_le (l := l) (j := j) 0
    obtain ⟨e, hp⟩ := chT_at hc hj
    rw [f194_0_u]
    unfold f194_0_s
    rw [iLt_t (by omega), inR_nat hj, wrap_next hj (by omega), Int.toNat_natCast, c_copyBlock hlf _ _ _ hp (by omega)]
    simp only [cond_t, Option.bind_some, nth0, asL_l, asI_i, asB_b, cell0, cellS]
    rw [nLe_app (by rw [List.length_take]; omega), ← e]
    rfl) (fun n => by
    rw [f194_0_u]
    unfold f194_0_s
    rw [iLt_f (by omega)]
    rfl) (n := lf) (by omega)
  rw [L]
  rfl
theorem c_iCopyChip {lf d : Nat} (hlf : 33554432 ≤ lf) (l : List T) (hc : chT l) (hs : l.length + tls l ≤ 16777216) : Cc lf (d + 2) 141 [.st [.sl l]] = some [.st [.sl l]] := by
  refine (f141_eq (Cc lf (d + 1)) lf l).trans ?_
  unfold f141 f141_t
  dsimp only
  have In : ∀ (i : Nat) (z acc : List T), i < l.length → f141_1 (Cc lf (d + 1)) lf l (l.length : Int) (i : Int) z acc lf 0 [] = some [T.i .i64 0, T.sl l, T.i .i64 (l.length : Int), T.i .i64 (i : Int), T.sl z, T.sl acc, T.sl (asL (T.cell (l.getD i T.u) 0)), T.i .i64 (asI (T.cell (l.getD i T.u) 1)), T.b (asB (T.cell (l.getD i T.u) 2)), T.sl (asL (T.cell (l.getD i T.u) 0))] := fun i z acc hi => by
    have h1 := cellL_le (l := l) (j := i) 0
    have hp := (chT_at hc hi).2
    obtain ⟨ps, hps⟩ : ∃ ps, ps = asL (T.cell (l.getD i T.u) 0) := ⟨_, rfl⟩
    rw [← hps] at h1 hp ⊢
    exact copy_loop (F := fun n j acc2 => f141_1 (Cc lf (d + 1)) lf l (l.length : Int) (i : Int) z acc n j acc2) (l := ps) (Y := some [T.i .i64 0, T.sl l, T.i .i64 (l.length : Int), T.i .i64 (i : Int), T.sl z, T.sl acc, T.sl ps, T.i .i64 (asI (T.cell (l.getD i T.u) 1)), T.b (asB (T.cell (l.getD i T.u) 2)), T.sl ps]) (fun n j hj => by
      have h2 := cellL_le (l := ps) (j := j) 1
      rw [f141_1_u]
      unfold f141_1_s
      rw [Int.toNat_natCast, ← hps, iLt_t (by omega), inR_nat hj, wrap_next hj (by omega), Int.toNat_natCast, c_clone (by omega)]
      simp only [cond_t, Option.bind_some, nth0, asL_l]
      rw [nLe_app (by rw [List.length_take]; omega), ← pgT_at hp hj]
      rfl) (fun n => by
      rw [f141_1_u]
      unfold f141_1_s
      rw [Int.toNat_natCast, ← hps, iLt_f (by omega)]
      rfl) (n := lf) (by omega)
  have L := copy_loop (F := fun n j acc => f141_0 (Cc lf (d + 1)) lf n l (l.length : Int) j ([] : List T) acc) (l := l) (Y := some [T.i .i64 0, T.sl ([] : List T), T.sl l]) (fun n j hj => by
    obtain ⟨e, hp⟩ := chT_at hc hj
    rw [f141_0_u]
    unfold f141_0_s
    rw [iLt_t (by omega), inR_nat hj]
    dsimp only
    rw [In j _ _ hj]
    simp only [cond_t, Option.bind_some, nth0, nthS, asL_l, asI_i, asB_b]
    rw [nLe_app (by rw [List.length_take]; omega), wrap_next hj (by omega), ← e]
    rfl) (fun n => by
    rw [f141_0_u]
    unfold f141_0_s
    rw [iLt_f (by omega)]
    rfl) (n := lf) (by omega)
  rw [L]
  rfl
def inB (l : List T) (n : Int) : Bool := iLe 0 n && iLt n (l.length : Int)
def nextC (l : List T) (n : Int) : Int := bif inB l n then ((usedN (pgs l n) : Nat) : Int) else -1
def badAt (l : List T) (n : Int) : Bool := asB (T.cell (l.getD n.toNat T.u) 2)
def mayC (l : List T) (n : Int) (full : Bool) : Int := bif !(chipB l) then 1 else bif !(inB l n) then 1 else bif badAt l n then 2 else bif full then 5 else 0
/-- The code of a program. -/
def progC (l : List T) (n : Int) (b : List T) : Int := bif iLt 400 (b.length : Int) then 1 else mayC l n (nextC l n == 8)
def setPg (l : List T) (n : Int) (k : Nat) (p : T) : List T := l.set n.toNat (T.setc (l.getD n.toNat T.u) 0 (T.sl ((pgs l n).set k p)))
def progL (l : List T) (n : Int) (b : List T) : List T := bif progC l n b == 0 then setPg l n (usedN (pgs l n)) (T.st [T.b true, T.sl b]) else l
theorem inB_in {l : List T} {n : Int} (h : inB l n = true) : 0 ≤ n ∧ n < (l.length : Int) := by
  unfold inB at h
  rw [Bool.and_eq_true, iLe_iff, iLt_iff] at h
  exact h
theorem inB_no {l : List T} {n : Int} (h : inB l n = false) : ¬ (0 ≤ n ∧ n < (l.length : Int)) := fun e => by
  unfold inB at h
  rw [iLe_t e.1, iLt_t e.2] at h
  cases h
theorem c_sNextPage {lf d : Nat} (hlf : 33554432 ≤ lf) (l : List T) (n : Int) (hs : l.length + tls l ≤ 16777216) : Cc lf (d + 2) 155 [.st [.sl l], .i .i64 n] = some [.i .i64 (nextC l n)] := by
  refine (f155_eq (Cc lf (d + 1)) lf l n).trans ?_
  unfold f155 f155_t nextC inB
  have hp := cellL_le (l := l) (j := n.toNat) 0
  by_cases h0 : n < 0
  · rw [iLt_t h0, iLe_f (show ¬ 0 ≤ n by omega)]; rfl
  · by_cases h1 : (l.length : Int) ≤ n
    · rw [iLt_f h0, iLe_t h1, iLe_t (show 0 ≤ n by omega), iLt_f (show ¬ n < (l.length : Int) by omega)]; rfl
    · rw [iLt_f h0, iLe_f h1, iLe_t (show 0 ≤ n by omega), iLt_t (show n < (l.length : Int) by omega), inR_le (by omega) (by omega), c_sNext hlf _ _ _ (by omega)]
      rfl
theorem c_iNextPage {lf d : Nat} (hlf : 33554432 ≤ lf) (l : List T) (n : Int) (hs : l.length + tls l ≤ 16777216) : Cc lf (d + 3) 38 [.st [.sl l], .i .i64 n] = some [.i .i64 (nextC l n)] := by
  unfold nextC
  cases h : inB l n with
  | true =>
    have h2 := inB_in h
    obtain ⟨j, rfl⟩ := Int.eq_ofNat_of_zero_le h2.1
    exact c_iNext hlf l j (by omega) hs
  | false => exact c_iNextNo l n (inB_no h) hs
theorem c_sMay {lf d : Nat} (hlf : 33554432 ≤ lf) (l : List T) (n : Int) (full : Bool) (hs : l.length + tls l ≤ 16777216) : Cc lf (d + 4) 229 [.st [.sl l], .i .i64 n, .b full] = some [.i .i64 (mayC l n full)] := by
  refine (f229_eq (Cc lf (d + 3)) lf l n full).trans ?_
  unfold f229 f229_t mayC inB badAt
  rw [c_sChipOk (d := d) hlf l hs]
  simp only [Option.bind_some, nth0, asB_b]
  cases chipB l with
  | false => rfl
  | true =>
    by_cases h0 : n < 0
    · rw [iLt_t h0, iLe_f (show ¬ 0 ≤ n by omega)]; rfl
    · by_cases h1 : (l.length : Int) ≤ n
      · rw [iLt_f h0, iLe_t h1, iLe_t (show 0 ≤ n by omega), iLt_f (show ¬ n < (l.length : Int) by omega)]; rfl
      · rw [iLt_f h0, iLe_f h1, iLe_t (show 0 ≤ n by omega), iLt_t (show n < (l.length : Int) by omega), inR_le (by omega) (by omega)]
        cases asB (T.cell (l.getD n.toNat T.u) 2) <;> cases full <;> rfl
theorem c_sProgC {lf d : Nat} (hlf : 33554432 ≤ lf) (l : List T) (n : Int) (b : List T) (hs : l.length + tls l ≤ 16777216) : Cc lf (d + 5) 200 [.st [.sl l], .i .i64 n, .sl b] = some [.i .i64 (progC l n b)] := by
  refine (f200_eq (Cc lf (d + 4)) lf l n b).trans ?_
  unfold f200 f200_t progC
  rw [c_sNextPage (d := d + 2) hlf l n hs]
  simp only [Option.bind_some, nth0, asI_i]
  rw [c_sMay hlf l n _ hs]
  cases iLt 400 (b.length : Int) <;> rfl
theorem chipB_len {l : List T} (h : chipB l = true) : l.length ≤ 24 := by
  unfold chipB at h
  simp only [Bool.and_eq_true, iLe_iff] at h
  omega
theorem chipB_pages {l : List T} (h : chipB l = true) {n : Int} (hn : inB l n = true) : (pgs l n).length = 8 := by
  have h2 := inB_in hn
  obtain ⟨j, rfl⟩ := Int.eq_ofNat_of_zero_le h2.1
  exact (recA_pages h (i := j) (k := 0) (by omega) (by omega)).2
/-- What holds where something is programmed. -/
theorem progC_zero {l : List T} {n : Int} {b : List T} (h : progC l n b = 0) : chipB l = true ∧ inB l n = true ∧ badAt l n = false ∧ usedN (pgs l n) < 8 ∧ b.length ≤ 400 ∧ (pgs l n).length = 8 := by
  unfold progC mayC at h
  by_cases h4 : (400 : Int) < b.length
  · rw [iLt_t h4] at h; cases h
  · rw [iLt_f h4] at h
    cases hc : chipB l with
    | false => rw [hc] at h; cases h
    | true =>
      cases hi : inB l n with
      | false => rw [hc, hi] at h; cases h
      | true =>
        cases hb : badAt l n with
        | true => rw [hc, hi, hb] at h; cases h
        | false =>
          rw [hc, hi, hb] at h
          have h8 := chipB_pages hc hi
          have hu := usedN_le (pgs l n)
          unfold nextC at h
          rw [hi] at h
          refine ⟨rfl, rfl, rfl, ?_, by omega, h8⟩
          cases he : (((usedN (pgs l n) : Nat) : Int) == 8) with
          | true => rw [cond_t, he] at h; cases h
          | false =>
            have : ((usedN (pgs l n) : Nat) : Int) ≠ 8 := by simpa using he
            omega
theorem c_sProgram {lf d : Nat} (hlf : 33554432 ≤ lf) (l : List T) (n : Int) (b : List T) (hc : chT l) (hs : l.length + tls l ≤ 16777216) : Cc lf (d + 6) 202 [.st [.sl l], .i .i64 n, .sl b] = some [.st [.sl (progL l n b)], .i .i64 (progC l n b)] := by
  refine (f202_eq (Cc lf (d + 5)) lf l n b).trans ?_
  unfold f202 f202_t progL
  rw [c_sCopyChip (d := d + 3) hlf l hc hs, c_sProgC hlf l n b hs]
  simp only [Option.bind_some, nth0, nthS, asI_i, asL_l, cell0]
  cases h0 : progC l n b == 0 with
  | false => rfl
  | true =>
    obtain ⟨z1, z2, z3, z4, z5, z6⟩ := progC_zero (by simpa using h0)
    have hin := inB_in z2
    rw [inR_le (by omega) (by omega), c_sNextPage (d := d + 3) hlf l n hs]
    unfold nextC
    rw [z2]
    simp only [cond_t, Option.bind_some, nth0, asI_i]
    rw [nLe_t (by unfold LIM; simp only [List.length_nil]; omega), show (asL (T.cell (l.getD n.toNat T.u) 0)) = pgs l n from rfl, inR_nat (by omega), Int.toNat_natCast]
    rfl
theorem c_iProgram {lf d : Nat} (hlf : 33554432 ≤ lf) (l : List T) (n : Int) (b : List T) (hc : chT l) (hs : l.length + tls l ≤ 16777216) (hb : b.length ≤ 16777216) : Cc lf (d + 4) 143 [.st [.sl l], .i .i64 n, .sl b] = some [.st [.sl (progL l n b)], .i .i64 (progC l n b)] := by
  refine (f143_eq (Cc lf (d + 3)) lf l n b).trans ?_
  unfold f143 f143_t progL
  rw [c_iCopyChip (d := d + 1) hlf l hc hs]
  simp only [Option.bind_some, nth0, nthS, asI_i, asL_l, cell0]
  rw [c_iChipOk (d := d + 1) hlf l hs, c_isBlock (d := d + 1) l n (by omega), c_iNextPage (d := d) hlf l n hs, c_clone (by omega)]
  simp only [Option.bind_some, nth0, nthS, asI_i, asL_l, asB_b]
  rw [show (iLe 0 n && iLt n (l.length : Int)) = inB l n from rfl]
  cases hk : chipB l with
  | false =>
    have : progC l n b = 1 := by unfold progC mayC; rw [hk]; cases iLt 400 (b.length : Int) <;> rfl
    rw [this]; rfl
  | true =>
    cases hi : inB l n with
    | false =>
      have : progC l n b = 1 := by unfold progC mayC; rw [hk, hi]; cases iLt 400 (b.length : Int) <;> rfl
      rw [this]; rfl
    | true =>
      have hin := inB_in hi
      rw [inR_le (by omega) (by omega)]
      unfold progC mayC
      rw [hk, hi]
      cases h4 : iLt 400 (b.length : Int) with
      | true => rfl
      | false =>
        rw [show badAt l n = asB (T.cell (l.getD n.toNat T.u) 2) from rfl]
        cases hb2 : asB (T.cell (l.getD n.toNat T.u) 2) with
        | true => rfl
        | false =>
          cases h8 : (nextC l n == 8) with
          | true => rfl
          | false =>
            have hz : progC l n b = 0 := by
              unfold progC mayC
              rw [h4, hk, hi, show badAt l n = asB (T.cell (l.getD n.toNat T.u) 2) from rfl, hb2, h8]
              rfl
            obtain ⟨z1, z2, z3, z4, z5, z6⟩ := progC_zero hz
            have hnx : nextC l n = ((usedN (pgs l n) : Nat) : Int) := by unfold nextC; rw [hi]; rfl
            rw [hnx, show (asL (T.cell (l.getD n.toNat T.u) 0)) = pgs l n from rfl, inR_nat (by omega), Int.toNat_natCast]
            rfl
/-- A record's bytes. -/
def recX (k s : Int) (body : List T) : List T := numT (clampN k) ++ (numT (clampN s) ++ textT (bytesOf body))
def putRecT (k s : Int) (body : List T) : List T := bif recB k s body then recX k s body ++ four (crcN (recX k s body)) else []
theorem recX_byt (k s : Int) (body : List T) : byt (recX k s body) := byt_app (byt_num (clampN_in _).1 (clampN_in _).2) (byt_app (byt_num (clampN_in _).1 (clampN_in _).2) (byt_text _))
theorem recX_len (k s : Int) (body : List T) : (recX k s body).length ≤ body.length + 9 := by
  have h1 := numT_len (clampN k)
  have h2 := numT_len (clampN s)
  have h3 := textT_len (bytesOf body)
  rw [bytesOf_size] at h3
  simp only [recX, List.length_append]
  omega
theorem c_sPutRec {lf d : Nat} (hlf : 33554432 ≤ lf) (k s : Int) (body : List T) (hl : body.length ≤ 16000000) : Cc lf (d + 4) 153 [.st [.i .i64 k, .i .i64 s, .sl body]] = some [.sl (putRecT k s body)] := by
  refine (f153_eq (Cc lf (d + 3)) lf k s body).trans ?_
  unfold f153 f153_t putRecT
  rw [c_sRecOk (d := d + 1)]
  simp only [Option.bind_some, nth0, asB_b]
  cases recB k s body with
  | false => rfl
  | true =>
    have q1 := numT_len (clampN k)
    have q2 := numT_len (clampN s)
    have hx := recX_len k s body
    simp only [Bool.not_true, cond_f, cond_t]
    rw [c_sPutNum (d := d + 1) hlf _ _ (by simp)]
    simp only [Option.bind_some, nth0, asL_l, List.nil_append]
    rw [c_sPutNum (d := d + 1) hlf _ _ (by omega)]
    simp only [Option.bind_some, nth0, asL_l]
    rw [c_sPutText (d := d) hlf _ _ (by rw [List.length_append]; omega) (by rw [bytesOf_size]; omega)]
    simp only [Option.bind_some, nth0, asL_l]
    rw [show numT (clampN k) ++ numT (clampN s) ++ textT (bytesOf body) = recX k s body by unfold recX; rw [List.append_assoc], c_sCrc (d := d + 2) hlf (recX_byt k s body) (by omega)]
    simp only [Option.bind_some, nth0, asI_i]
    rw [four_sh (crcN_lt (recX_byt k s body)), nLe_t (by unfold LIM four; simp; omega)]
    rfl
theorem c_iPutRec {lf d : Nat} (hlf : 33554432 ≤ lf) (k s : Int) (body : List T) (hl : body.length ≤ 16000000) : Cc lf (d + 4) 37 [.st [.i .i64 k, .i .i64 s, .sl body]] = some [.sl (putRecT k s body)] := by
  refine (f37_eq (Cc lf (d + 3)) lf k s body).trans ?_
  unfold f37 f37_t putRecT
  rw [c_iRecOk (d := d + 1)]
  simp only [Option.bind_some, nth0, asB_b]
  cases recB k s body with
  | false => rfl
  | true =>
    have q1 := numT_len (clampN k)
    have q2 := numT_len (clampN s)
    have hx := recX_len k s body
    simp only [Bool.not_true, cond_f, cond_t]
    rw [c_iPutNum (d := d + 1) hlf _ _ (by simp)]
    simp only [Option.bind_some, nth0, asL_l, List.nil_append]
    rw [c_iPutNum (d := d + 1) hlf _ _ (by omega)]
    simp only [Option.bind_some, nth0, asL_l]
    rw [c_iPutText (d := d) hlf _ _ (by rw [List.length_append]; omega) (by rw [bytesOf_size]; omega)]
    simp only [Option.bind_some, nth0, asL_l]
    rw [show numT (clampN k) ++ numT (clampN s) ++ textT (bytesOf body) = recX k s body by unfold recX; rw [List.append_assoc], c_sealed (d := d + 1) hlf (recX_byt k s body) (by omega)]
    rfl
/-- The fault of an operation. -/
def faultAt (ops : Int) : List T → Option (Int × Int × Int)
  | [] => none
  | x :: l => bif asI (T.cell x 0) == ops then some (asI (T.cell x 0), asI (T.cell x 1), asI (T.cell x 2)) else faultAt ops l
def faultR : Option (Int × Int × Int) → List T
  | some (a, k, e) => [T.st [T.i .i64 a, T.i .i64 k, T.i .i64 e], T.b true]
  | none => [T.st [T.i .i64 0, T.i .i64 0, T.i .i64 0], T.b false]
theorem faultAt_drop (ops : Int) {l : List T} {j : Nat} (h : j < l.length) : faultAt ops (l.drop j) = bif asI (T.cell (l.getD j T.u) 0) == ops then some (asI (T.cell (l.getD j T.u) 0), asI (T.cell (l.getD j T.u) 1), asI (T.cell (l.getD j T.u) 2)) else faultAt ops (l.drop (j + 1)) := by
  rw [List.drop_eq_getElem_cons h, List.getD_eq_getElem?_getD, List.getElem?_eq_getElem h]
  rfl
theorem c_sFaultAt {lf d : Nat} (hlf : 33554432 ≤ lf) (l : List T) (ops : Int) (fs : List T) (dn : Bool) (hs : fs.length ≤ 16777216) : Cc lf (d + 1) 201 [.st [.sl l, .i .i64 ops, .sl fs, .b dn]] = some (faultR (faultAt ops fs)) := by
  refine (f201_eq (Cc lf d) lf l ops fs dn).trans ?_
  unfold f201 f201_t
  dsimp only
  have L : ∀ (k j n : Nat), j + k = fs.length → k < n → f201_0 (Cc lf d) lf dn l fs ops n j = match faultAt ops (fs.drop j) with | some (a, k, e) => some [T.i .i64 0, T.b true, T.i .i64 a, T.i .i64 k, T.i .i64 e] | none => some [T.i .i64 1, T.i .i64 0, T.i .i64 0, T.i .i64 0] := by
    intro k
    induction k with
    | zero =>
      intro j n hj hn
      obtain ⟨n, rfl⟩ : ∃ m, n = m + 1 := ⟨n - 1, by omega⟩
      rw [f201_0_u, List.drop_eq_nil_of_le (by omega)]
      unfold f201_0_s
      rw [iLt_f (by omega)]
      rfl
    | succ k ih =>
      intro j n hj hn
      obtain ⟨n, rfl⟩ : ∃ m, n = m + 1 := ⟨n - 1, by omega⟩
      have hjl : j < fs.length := by omega
      rw [f201_0_u, faultAt_drop ops hjl]
      unfold f201_0_s
      rw [iLt_t (by omega), inR_nat hjl, wrap_next hjl (by omega), Int.toNat_natCast]
      cases asI (T.cell (fs.getD j T.u) 0) == ops with
      | true => rfl
      | false => exact ih (j + 1) n (by omega) (by omega)
  have L0 := L fs.length 0 lf (by omega) (by omega)
  rw [show ((0 : Nat) : Int) = 0 from rfl, List.drop_zero] at L0
  rw [L0]
  cases faultAt ops fs with
  | none => rfl
  | some x => obtain ⟨a, k, e⟩ := x; rfl
theorem c_iFaultAt {lf d : Nat} (hlf : 33554432 ≤ lf) (l : List T) (ops : Int) (fs : List T) (dn : Bool) (hs : fs.length ≤ 16777216) : Cc lf (d + 1) 189 [.st [.sl l, .i .i64 ops, .sl fs, .b dn]] = some (faultR (faultAt ops fs)) := by
  refine (f189_eq (Cc lf d) lf l ops fs dn).trans ?_
  unfold f189 f189_t
  dsimp only
  have L : ∀ (k j n : Nat), j + k = fs.length → k < n → f189_0 (Cc lf d) lf dn l fs ops n j = match faultAt ops (fs.drop j) with | some (a, k, e) => some [T.i .i64 0, T.b true, T.i .i64 a, T.i .i64 k, T.i .i64 e] | none => some [T.i .i64 1, T.i .i64 0, T.i .i64 0, T.i .i64 0] := by
    intro k
    induction k with
    | zero =>
      intro j n hj hn
      obtain ⟨n, rfl⟩ : ∃ m, n = m + 1 := ⟨n - 1, by omega⟩
      rw [f189_0_u, List.drop_eq_nil_of_le (by omega)]
      unfold f189_0_s
      rw [iLt_f (by omega)]
      rfl
    | succ k ih =>
      intro j n hj hn
      obtain ⟨n, rfl⟩ : ∃ m, n = m + 1 := ⟨n - 1, by omega⟩
      have hjl : j < fs.length := by omega
      rw [f189_0_u, faultAt_drop ops hjl]
      unfold f189_0_s
      rw [iLt_t (by omega), inR_nat hjl, wrap_next hjl (by omega), Int.toNat_natCast]
      cases asI (T.cell (fs.getD j T.u) 0) == ops with
      | true => rfl
      | false => exact ih (j + 1) n (by omega) (by omega)
  have L0 := L fs.length 0 lf (by omega) (by omega)
  rw [show ((0 : Nat) : Int) = 0 from rfl, List.drop_zero] at L0
  rw [L0]
  cases faultAt ops fs with
  | none => rfl
  | some x => obtain ⟨a, k, e⟩ := x; rfl
def devP (l : List T) (ops : Int) (fs : List T) (dn : Bool) (n : Int) (b : List T) : (List T × Int × Bool) × Int :=
  bif !(devB l ops fs) then ((l, ops, dn), 1) else bif dn then ((l, ops, dn), 10) else bif iLe 100000 ops then ((l, ops, dn), 10) else
  bif !(progC l n b == 0) then ((l, ops, dn), progC l n b) else
  match faultAt ops fs with
  | none => ((progL l n b, ops + 1, false), 0)
  | some (_, k, e) => bif k == 1 then ((l.set n.toNat (T.setc (l.getD n.toNat T.u) 2 (T.b true)), ops + 1, false), 2) else ((progL l n (b.take (imin e (b.length : Int)).toNat), ops + 1, true), 10)
def devT (fs : List T) (x : List T × Int × Bool) : T := .st [.sl x.1, .i .i64 x.2.1, .sl fs, .b x.2.2]
theorem faultAt_ok {ops : Int} {fs : List T} (h : allB (faultB fs) fs.length = true) {a k e : Int} (hf : faultAt ops fs = some (a, k, e)) : (1 ≤ k ∧ k ≤ 2) ∧ (0 ≤ e ∧ e ≤ 400) := by
  have key : ∀ (m j : Nat), j + m = fs.length → faultAt ops (fs.drop j) = some (a, k, e) → (1 ≤ k ∧ k ≤ 2) ∧ (0 ≤ e ∧ e ≤ 400) := by
    intro m
    induction m with
    | zero =>
      intro j hj hf
      rw [List.drop_eq_nil_of_le (by omega)] at hf
      cases hf
    | succ m ih =>
      intro j hj hf
      have hjl : j < fs.length := by omega
      rw [faultAt_drop ops hjl] at hf
      cases c : asI (T.cell (fs.getD j T.u) 0) == ops with
      | false => rw [c] at hf; exact ih (j + 1) (by omega) hf
      | true =>
        rw [c] at hf
        cases hf
        have := allB_iff.1 h j hjl
        unfold faultB at this
        simp only [Bool.and_eq_true, iLe_iff] at this
        exact ⟨this.2.1, this.2.2.1⟩
  exact key fs.length 0 (by omega) (by rw [List.drop_zero]; exact hf)
theorem devB_in {l : List T} {ops : Int} {fs : List T} (h : devB l ops fs = true) : allB (faultB fs) fs.length = true ∧ chipB l = true ∧ (0 ≤ ops ∧ ops ≤ 100000) ∧ fs.length ≤ 20 := by
  unfold devB at h
  simp only [Bool.and_eq_true, iLe_iff] at h
  exact ⟨h.1, h.2.1, h.2.2.1, by omega⟩
theorem c_sCopyDev {lf d : Nat} (hlf : 33554432 ≤ lf) (l : List T) (ops : Int) (fs : List T) (dn : Bool) (hc : chT l) (hs : l.length + tls l ≤ 16777216) (hs2 : fs.length ≤ 16777216) : Cc lf (d + 3) 152 [.st [.sl l, .i .i64 ops, .sl fs, .b dn]] = some [.st [.sl l, .i .i64 ops, .sl fs, .b dn]] := by
  refine (f152_eq (Cc lf (d + 2)) lf l ops fs dn).trans ?_
  unfold f152 f152_t
  rw [c_sCopyChip (d := d) hlf l hc hs, nLe_t (by unfold LIM; simp only [List.length_nil]; omega)]
  rfl
theorem c_cloneF {lf d : Nat} {l : List T} (h : l.length ≤ 1073741830) : Cc lf (d + 1) 142 [.sl l] = some [.sl l] := by
  show (bif nLe (0 + l.length) LIM then some [T.sl l] else none) = _
  rw [nLe_t (by unfold LIM; omega)]
  rfl
theorem c_iCopyDev {lf d : Nat} (hlf : 33554432 ≤ lf) (l : List T) (ops : Int) (fs : List T) (dn : Bool) (hc : chT l) (hs : l.length + tls l ≤ 16777216) (hs2 : fs.length ≤ 16777216) : Cc lf (d + 3) 87 [.st [.sl l, .i .i64 ops, .sl fs, .b dn]] = some [.st [.sl l, .i .i64 ops, .sl fs, .b dn]] := by
  refine (f87_eq (Cc lf (d + 2)) lf l ops fs dn).trans ?_
  unfold f87 f87_t
  rw [c_iCopyChip (d := d) hlf l hc hs, c_cloneF (by omega)]
  rfl
def dmayC (l : List T) (ops : Int) (fs : List T) (dn : Bool) (code : Int) : Int := bif !(devB l ops fs) then 1 else bif dn then 10 else bif iLe 100000 ops then 10 else code
theorem c_sDMay {lf d : Nat} (hlf : 33554432 ≤ lf) (l : List T) (ops : Int) (fs : List T) (dn : Bool) (code : Int) (hs : l.length + tls l ≤ 16777216) (hs2 : fs.length ≤ 16777216) : Cc lf (d + 5) 199 [.st [.sl l, .i .i64 ops, .sl fs, .b dn], .i .i64 code] = some [.i .i64 (dmayC l ops fs dn code)] := by
  refine (f199_eq (Cc lf (d + 4)) lf l ops fs dn code).trans ?_
  unfold f199 f199_t dmayC
  rw [c_sDevOk (d := d) hlf l ops fs dn hs hs2]
  simp only [Option.bind_some, nth0, asB_b]
  cases devB l ops fs <;> cases dn <;> cases iLe 100000 ops <;> rfl
theorem c_sDevProgram {lf d : Nat} (hlf : 33554432 ≤ lf) (l : List T) (ops : Int) (fs : List T) (dn : Bool) (n : Int) (b : List T) (hc : chT l) (hs : l.length + tls l ≤ 16777216) (hs2 : fs.length ≤ 16777216) : Cc lf (d + 7) 156 [.st [.sl l, .i .i64 ops, .sl fs, .b dn], .i .i64 n, .sl b] = some [devT fs (devP l ops fs dn n b).1, .i .i64 (devP l ops fs dn n b).2] := by
  refine (f156_eq (Cc lf (d + 6)) lf l ops fs dn n b).trans ?_
  unfold f156 f156_t devP
  rw [c_sCopyDev (d := d + 3) hlf l ops fs dn hc hs hs2, c_sProgC (d := d + 1) hlf l n b hs]
  simp only [Option.bind_some, nth0, nthS, asI_i, asL_l, asB_b, cell0, cellS]
  rw [c_sDMay (d := d + 1) hlf l ops fs dn _ hs hs2]
  simp only [Option.bind_some, nth0, asI_i]
  unfold dmayC
  cases h1 : devB l ops fs with
  | false => rfl
  | true =>
  obtain ⟨k1, k2, k3, k4⟩ := devB_in h1
  cases dn with
  | true => rfl
  | false =>
  cases h2 : iLe 100000 ops with
  | true => rfl
  | false =>
  have h2 : ¬ 100000 ≤ ops := fun e => by rw [iLe_t e] at h2; cases h2
  simp only [Bool.not_true, cond_f, bne]
  cases h3 : progC l n b == 0 with
  | false => rfl
  | true =>
  obtain ⟨z1, z2, z3, z4, z5, z6⟩ := progC_zero (by simpa using h3)
  have hin := inB_in z2
  rw [c_sFaultAt (d := d + 5) hlf l ops fs false hs2, wrap_in (by omega) (by omega)]
  simp only [Option.bind_some, Bool.not_true, cond_f]
  cases hf : faultAt ops fs with
  | none =>
    simp only [faultR, nth0, nthS, asB_b, cond_f]
    rw [iLe_t (show (0 : Int) ≤ (b.length : Int) by omega), iLe_t (Int.le_refl _), Int.toNat_natCast, List.take_length, c_sProgram (d := d) hlf l n b hc hs]
    rfl
  | some x =>
    obtain ⟨a, k, e⟩ := x
    obtain ⟨⟨r1, r2⟩, r3, r4⟩ := faultAt_ok k1 hf
    simp only [faultR, nth0, nthS, asB_b, asI_i, cell0, cellS, cond_t]
    cases hk : k == 1 with
    | true =>
      rw [inR_le (by omega) (by omega)]
      rfl
    | false =>
      simp only [cond_f]
      by_cases he : e < (b.length : Int)
      · rw [iLt_t he, iLe_t r3, iLe_t (by omega), c_sProgram (d := d) hlf l n _ hc hs, show imin e (b.length : Int) = e by unfold imin; rw [if_neg (by omega)]]
        rfl
      · rw [iLt_f he, cond_f, iLe_t (show (0 : Int) ≤ (b.length : Int) by omega), iLe_t (Int.le_refl _), c_sProgram (d := d) hlf l n _ hc hs, show imin e (b.length : Int) = (b.length : Int) by unfold imin; split <;> omega]
        rfl
theorem c_iDevProgram {lf d : Nat} (hlf : 33554432 ≤ lf) (l : List T) (ops : Int) (fs : List T) (dn : Bool) (n : Int) (b : List T) (hc : chT l) (hs : l.length + tls l ≤ 16777216) (hs2 : fs.length ≤ 16777216) (hb : b.length ≤ 16777216) : Cc lf (d + 5) 90 [.st [.sl l, .i .i64 ops, .sl fs, .b dn], .i .i64 n, .sl b] = some [devT fs (devP l ops fs dn n b).1, .i .i64 (devP l ops fs dn n b).2] := by
  refine (f90_eq (Cc lf (d + 4)) lf l ops fs dn n b).trans ?_
  unfold f90 f90_t devP
  rw [c_iCopyDev (d := d + 1) hlf l ops fs dn hc hs hs2]
  simp only [Option.bind_some, nth0, nthS, asI_i, asL_l, asB_b, cell0, cellS]
  rw [c_iDevOk (d := d + 1) hlf l ops fs dn hs hs2]
  simp only [Option.bind_some, nth0, asB_b]
  cases h1 : devB l ops fs with
  | false => rfl
  | true =>
  obtain ⟨k1, k2, k3, k4⟩ := devB_in h1
  cases dn with
  | true => rfl
  | false =>
  by_cases h2 : ops = 100000
  · rw [iLe_t (by omega), show (ops == 100000) = true by simpa using h2]; rfl
  rw [iLe_f (by omega), show (ops == 100000) = false by simpa using h2]
  simp only [Bool.not_true, cond_f, bne]
  rw [c_iProgram (d := d) hlf l n b hc hs hb]
  simp only [Option.bind_some, nth0, nthS, asI_i, asL_l, cell0]
  cases h3 : progC l n b == 0 with
  | false => rfl
  | true =>
  obtain ⟨z1, z2, z3, z4, z5, z6⟩ := progC_zero (by simpa using h3)
  have hin := inB_in z2
  rw [c_iFaultAt (d := d + 3) hlf l ops fs false hs2, wrap_in (by omega) (by omega)]
  simp only [Option.bind_some, Bool.not_true, cond_f]
  cases hf : faultAt ops fs with
  | none => rfl
  | some x =>
    obtain ⟨a, k, e⟩ := x
    obtain ⟨⟨r1, r2⟩, r3, r4⟩ := faultAt_ok k1 hf
    simp only [faultR, nth0, nthS, asB_b, asI_i, cell0, cellS, Bool.not_true, cond_f]
    cases hk : k == 1 with
    | true =>
      rw [inR_le (by omega) (by omega)]
      rfl
    | false =>
      have him : 0 ≤ imin e (b.length : Int) ∧ imin e (b.length : Int) ≤ (b.length : Int) := by unfold imin; split <;> omega
      simp only [cond_f]
      rw [iLe_t him.1, iLe_t him.2, c_iProgram (d := d) hlf l n _ hc hs (by rw [List.length_take]; omega)]
      rfl
theorem openB_ok (l : List T) (spare : Int) : openB l spare = -1 ∨ ∃ j : Nat, openB l spare = (j : Int) ∧ j < l.length ∧ asB (T.cell (l.getD j T.u) 2) = false := by
  have key : ∀ n : Nat, (match foldX (openG l) (-1) n with | .inl j => (j : Int) < n ∧ asB (T.cell (l.getD j T.u) 2) = false | .inr s => s = -1 ∨ ∃ j : Nat, s = (j : Int) ∧ j < n ∧ asB (T.cell (l.getD j T.u) 2) = false) := by
    intro n
    induction n with
    | zero => exact .inl rfl
    | succ n ih =>
      simp only [foldX]
      cases e : foldX (openG l) (-1) n with
      | inl j => rw [e] at ih; simp only at ih ⊢; exact ⟨by omega, ih.2⟩
      | inr s =>
        rw [e] at ih
        simp only at ih ⊢
        have old : s = -1 ∨ ∃ j : Nat, s = (j : Int) ∧ j < n + 1 ∧ asB (T.cell (l.getD j T.u) 2) = false := by
          rcases ih with h | ⟨j, h1, h2, h3⟩
          · exact .inl h
          · exact .inr ⟨j, h1, by omega, h3⟩
        unfold openG
        cases hb : asB (T.cell (l.getD n T.u) 2) with
        | true => exact old
        | false =>
          generalize iLt 0 ((usedN (asL (T.cell (l.getD n T.u) 0)) : Nat) : Int) = b2
          generalize iLt ((usedN (asL (T.cell (l.getD n T.u) 0)) : Nat) : Int) ((asL (T.cell (l.getD n T.u) 0)).length : Int) = b3
          generalize (((usedN (asL (T.cell (l.getD n T.u) 0)) : Nat) : Int) == 0) = b4
          generalize iLt s 0 = b5
          cases b2 <;> cases b3 <;> cases b4 <;> cases b5 <;> first | exact old | exact ⟨by omega, hb⟩ | exact .inr ⟨n, rfl, by omega, hb⟩
  have := key l.length
  unfold openB
  cases e : foldX (openG l) (-1) l.length with
  | inl j => rw [e] at this; simp only at this ⊢; exact .inr ⟨j, rfl, by omega, this.2⟩
  | inr s =>
    rw [e] at this
    simp only at this ⊢
    cases iLt spare (freeB l : Nat) with
    | false => exact .inl rfl
    | true => exact this
def nonBad (l : List T) : Nat := cntB (fun j => !asB (T.cell (l.getD j T.u) 2)) l.length
def setBad (l : List T) (n : Int) : List T := l.set n.toNat (T.setc (l.getD n.toNat T.u) 2 (T.b true))
theorem cntB_congr {P Q : Nat → Bool} : ∀ n, (∀ j, j < n → P j = Q j) → cntB P n = cntB Q n
  | 0, _ => rfl
  | n + 1, h => by
    show (bif P n then cntB P n + 1 else cntB P n) = (bif Q n then cntB Q n + 1 else cntB Q n)
    rw [cntB_congr n (fun j hj => h j (by omega)), h n (by omega)]
theorem cntB_drop {P Q : Nat → Bool} {k : Nat} (hP : P k = true) (hQ : Q k = false) : ∀ n, k < n → (∀ j, j < n → j ≠ k → P j = Q j) → cntB P n = cntB Q n + 1
  | 0, h, _ => absurd h (Nat.not_lt_zero _)
  | n + 1, h, hj => by
    show (bif P n then cntB P n + 1 else cntB P n) = (bif Q n then cntB Q n + 1 else cntB Q n) + 1
    by_cases e : n = k
    · subst e
      rw [hP, hQ, cntB_congr n (fun j hjn => hj j (by omega) (by omega))]
      rfl
    · rw [cntB_drop hP hQ n (by omega) (fun j hjn hjk => hj j (by omega) hjk), hj n (by omega) e]
      cases Q n <;> rfl
theorem setBad_len (l : List T) (n : Int) : (setBad l n).length = l.length := List.length_set ..
theorem getD_setne {l : List T} {i j : Nat} (v : T) (h : i ≠ j) : (l.set i v).getD j T.u = l.getD j T.u := by
  rw [List.getD_eq_getElem?_getD, List.getD_eq_getElem?_getD, List.getElem?_set_ne h]
theorem chT_bad {l : List T} (hc : chT l) (n : Int) (hn : n.toNat < l.length) : chT (setBad l n) ∧ ∃ ps w, l.getD n.toNat T.u = .st [.sl ps, .i .i64 w, .b (asB (T.cell (l.getD n.toNat T.u) 2))] ∧ T.setc (l.getD n.toNat T.u) 2 (T.b true) = .st [.sl ps, .i .i64 w, .b true] := by
  obtain ⟨e, hp⟩ := chT_at hc hn
  have e2 : T.setc (l.getD n.toNat T.u) 2 (T.b true) = .st [.sl (asL (T.cell (l.getD n.toNat T.u) 0)), .i .i64 (asI (T.cell (l.getD n.toNat T.u) 1)), .b true] := by rw [e]; rfl
  refine ⟨fun x hx => ?_, _, _, e, e2⟩
  rcases List.mem_or_eq_of_mem_set hx with hx | hx
  · exact hc x hx
  · rw [hx, e2]
    exact ⟨_, _, _, rfl, hp⟩
theorem tls_set : ∀ (l : List T) (j : Nat) (v : T), j < l.length → tl v ≤ tl (l.getD j T.u) → tls (l.set j v) ≤ tls l
  | [], _, _, h, _ => absurd h (Nat.not_lt_zero _)
  | x :: l, 0, v, _, hv => by
    have hv : tl v ≤ tl x := hv
    simp only [List.set_cons_zero, tls]
    omega
  | x :: l, j + 1, v, h, hv => by
    have := tls_set l j v (by simpa using h) hv
    simp only [List.set_cons_succ, tls]
    omega
theorem setBad_tls {l : List T} (hc : chT l) (n : Int) (hn : n.toNat < l.length) : tls (setBad l n) ≤ tls l := by
  obtain ⟨_, ps, w, e1, e2⟩ := chT_bad hc n hn
  refine tls_set l _ _ hn ?_
  rw [e2, e1]
  simp only [tl, tls]
  omega
theorem nonBad_set {l : List T} (hc : chT l) (k : Nat) (hk : k < l.length) (hb : asB (T.cell (l.getD k T.u) 2) = false) : nonBad l = nonBad (setBad l (k : Int)) + 1 := by
  unfold nonBad
  rw [setBad_len]
  obtain ⟨_, ps, w, e1, e2⟩ := chT_bad hc (k : Int) (by rw [Int.toNat_natCast]; exact hk)
  rw [Int.toNat_natCast] at e2
  refine cntB_drop (by rw [hb]; rfl) ?_ _ hk fun j hj hjk => ?_
  · unfold setBad
    rw [Int.toNat_natCast, getD_set hk, e2]
    rfl
  · unfold setBad
    rw [Int.toNat_natCast, getD_setne _ (by omega)]
theorem progC_two {l : List T} {n : Int} {b : List T} (hb : badAt l n = false) : progC l n b ≠ 2 := by
  unfold progC mayC
  rw [hb]
  generalize iLt 400 (b.length : Int) = b1
  generalize chipB l = b2
  generalize inB l n = b3
  generalize (nextC l n == 8) = b4
  revert b1 b2 b3 b4
  decide
/-- A round that goes on: the block was made bad. -/
theorem devP_two {l : List T} {ops : Int} {fs : List T} {n : Int} {b : List T} (h : (devP l ops fs false n b).2 = 2) (hb : badAt l n = false) : (devP l ops fs false n b).1 = (setBad l n, ops + 1, false) ∧ inB l n = true ∧ devB l ops fs = true := by
  unfold devP at h ⊢
  cases h1 : devB l ops fs with
  | false => rw [h1] at h; cases h
  | true =>
    rw [h1] at h
    cases h2 : iLe 100000 ops with
    | true => rw [h2] at h; cases h
    | false =>
      rw [h2] at h
      cases h3 : progC l n b == 0 with
      | false =>
        rw [h3] at h
        exact absurd h (progC_two hb)
      | true =>
        obtain ⟨z1, z2, _⟩ := progC_zero (by simpa using h3)
        rw [h3] at h
        cases hf : faultAt ops fs with
        | none => rw [hf] at h; cases h
        | some x =>
          obtain ⟨a, k, e⟩ := x
          rw [hf] at h
          cases hk : k == 1 with
          | false =>
            simp only [Bool.not_true, cond_f, hk] at h
            cases h
          | true =>
            refine ⟨?_, z2, rfl⟩
            simp only [Bool.not_true, cond_f, cond_t, hk]
            rfl
/-- What a log comes to that is written to; its device is not down. -/
def wrR (fs : List T) (sq spare : Int) (b : List T) : Nat → List T → Int → (List T × Int × Bool) × Int × Int × Int
  | 0, l, ops => ((l, ops, false), sq, -1, 9)
  | m + 1, l, ops =>
    bif iLt (openB l spare) 0 then ((l, ops, false), sq, -1, 9) else
    bif (devP l ops fs false (openB l spare) b).2 == 0 then ((devP l ops fs false (openB l spare) b).1, sq + 1, openB l spare * 8 + nextC l (openB l spare), 0) else
    bif (devP l ops fs false (openB l spare) b).2 == 2 then wrR fs sq spare b m (devP l ops fs false (openB l spare) b).1.1 (devP l ops fs false (openB l spare) b).1.2.1 else
    ((devP l ops fs false (openB l spare) b).1, (bif (devP l ops fs false (openB l spare) b).1.2.2 then sq + 1 else sq), -1, 10)
def wrT (fs : List T) (r : (List T × Int × Bool) × Int × Int × Int) : List T := [T.i .i64 0, T.i .i64 r.2.2.1, T.i .i64 r.2.2.2, T.i .i64 r.1.2.1, T.b r.1.2.2, T.i .i64 r.2.1, T.sl r.1.1, T.sl fs]
theorem c_iWrLoop {lf d : Nat} (hlf : 33554432 ≤ lf) (fs : List T) (k sq spare : Int) (body : List T) (c0 c1 c2 c3 : T) (hq : 0 ≤ sq ∧ sq < 1000000) (hbd : body.length ≤ 16000000) (hs2 : fs.length ≤ 16777216) : ∀ (m n : Nat) (l : List T) (ops : Int), nonBad l < m → m ≤ n → chT l → l.length + tls l ≤ 16777216 → f32_0 (Cc lf (d + 6)) lf body k spare [T.st [c0, c1, c2, c3, T.i .i64 sq]] n ops false l fs = some (wrT fs (wrR fs sq spare (putRecT k sq body) m l ops))
  | 0, _, _, _, h, _, _, _ => absurd h (Nat.not_lt_zero _)
  | m + 1, n, l, ops, hm, hn, hc, hs => by
    obtain ⟨n, rfl⟩ : ∃ z, n = z + 1 := ⟨n - 1, by omega⟩
    rw [f32_0_u]
    unfold f32_0_s wrR
    simp only [nth0, asI_i, cell0, cellS]
    rw [c_iOpen (d := d + 1) hlf l ops fs false sq spare hs]
    simp only [Option.bind_some, nth0, asI_i, cond_f]
    have ho := openB_ok l spare
    have hpl : (putRecT k sq body).length ≤ 16777216 := by
      have := recX_len k sq body
      unfold putRecT
      cases recB k sq body with
      | false => exact Nat.zero_le _
      | true => simp only [cond_t, List.length_append, four, List.length_cons, List.length_nil]; omega
    generalize openB l spare = o at *
    rcases ho with rfl | ⟨j, rfl, hj, hb⟩
    · rfl
    · rw [iLt_f (by omega)]
      have hnx : nextC l (j : Int) = ((usedN (pgs l (j : Int)) : Nat) : Int) := by unfold nextC inB; rw [iLe_t (by omega), iLt_t (by omega)]; rfl
      have hu := usedN_le (pgs l (j : Int))
      have hcl := cellL_le (l := l) (j := j) 0
      have hpg : (pgs l (j : Int)).length ≤ 16777216 := by unfold pgs; rw [Int.toNat_natCast]; omega
      simp only [cond_f]
      rw [c_iNextPage (d := d + 3) hlf l (j : Int) hs, c_iPutRec (d := d + 2) hlf k sq body hbd]
      simp only [Option.bind_some, nth0, asI_i, asL_l]
      rw [c_iDevProgram (d := d + 1) hlf l ops fs false (j : Int) (putRecT k sq body) hc hs hs2 hpl]
      simp only [Option.bind_some, nth0, nthS, asI_i]
      cases h0 : (devP l ops fs false (j : Int) (putRecT k sq body)).2 == 0 with
      | true =>
        rw [wrap_in (x := (j : Int) * 8) (by omega) (by omega), wrap_in (x := (j : Int) * 8 + nextC l (j : Int)) (by omega) (by omega), wrap_in (x := sq + 1) (by omega) (by omega)]
        rfl
      | false =>
        cases h2 : (devP l ops fs false (j : Int) (putRecT k sq body)).2 == 2 with
        | true =>
          obtain ⟨e, hi, _⟩ := devP_two (by simpa using h2) (show badAt l (j : Int) = false by unfold badAt; rw [Int.toNat_natCast]; exact hb)
          simp only [cond_f, cond_t]
          rw [e]
          have hnb := nonBad_set hc j hj hb
          have ht := setBad_tls hc (j : Int) (by rw [Int.toNat_natCast]; exact hj)
          exact c_iWrLoop hlf fs k sq spare body c0 c1 c2 c3 hq hbd hs2 m n (setBad l (j : Int)) (ops + 1) (by omega) (by omega) (chT_bad hc (j : Int) (by rw [Int.toNat_natCast]; exact hj)).1 (by rw [setBad_len]; omega)
        | false =>
          simp only [cond_f]
          obtain ⟨x, c⟩ := devP l ops fs false (j : Int) (putRecT k sq body)
          obtain ⟨l', ops', dn'⟩ := x
          rw [wrap_in (x := sq + 1) (by omega) (by omega)]
          cases dn' <;> rfl
theorem c_sWrLoop {lf d : Nat} (hlf : 33554432 ≤ lf) (fs : List T) (sq spare : Int) (b : List T) (hq : 0 ≤ sq ∧ sq < 1000000) (hs2 : fs.length ≤ 16777216) : ∀ (m n i : Nat) (l : List T) (ops : Int), nonBad l < m → m ≤ n → i + nonBad l ≤ l.length → chT l → l.length + tls l ≤ 16777216 → f104_0 (Cc lf (d + 8)) lf spare sq [T.sl b] n i ops false l fs = some (wrT fs (wrR fs sq spare b m l ops))
  | 0, _, _, _, _, h, _, _, _, _ => absurd h (Nat.not_lt_zero _)
  | m + 1, n, i, l, ops, hm, hn, hi, hc, hs => by
    obtain ⟨n, rfl⟩ : ∃ z, n = z + 1 := ⟨n - 1, by omega⟩
    rw [f104_0_u]
    unfold f104_0_s wrR
    rw [iLe_t (by omega), c_sOpen (d := d + 5) hlf l ops fs false sq spare hs]
    simp only [Option.bind_some, nth0, asI_i, asL_l, cond_f, cond_t]
    have ho := openB_ok l spare
    generalize openB l spare = o at *
    rcases ho with rfl | ⟨j, rfl, hj, hb⟩
    · rfl
    · rw [iLt_f (by omega)]
      have hnx : nextC l (j : Int) = ((usedN (pgs l (j : Int)) : Nat) : Int) := by unfold nextC inB; rw [iLe_t (by omega), iLt_t (by omega)]; rfl
      have hu := usedN_le (pgs l (j : Int))
      have hcl := cellL_le (l := l) (j := j) 0
      have hpg : (pgs l (j : Int)).length ≤ 16777216 := by unfold pgs; rw [Int.toNat_natCast]; omega
      simp only [cond_f]
      rw [c_sNextPage (d := d + 6) hlf l (j : Int) hs, c_sDevProgram (d := d + 1) hlf l ops fs false (j : Int) b hc hs hs2]
      simp only [Option.bind_some, nth0, nthS, asI_i]
      cases h0 : (devP l ops fs false (j : Int) b).2 == 0 with
      | true =>
        rw [wrap_in (x := (j : Int) * 8) (by omega) (by omega), wrap_in (x := (j : Int) * 8 + nextC l (j : Int)) (by omega) (by omega), wrap_in (x := sq + 1) (by omega) (by omega)]
        rfl
      | false =>
        cases h2 : (devP l ops fs false (j : Int) b).2 == 2 with
        | true =>
          obtain ⟨e, hi2, _⟩ := devP_two (by simpa using h2) (show badAt l (j : Int) = false by unfold badAt; rw [Int.toNat_natCast]; exact hb)
          simp only [cond_f, cond_t, bne, h2, Bool.not_true]
          rw [e, wrap_in (x := (i : Int) + 1) (by omega) (by omega)]
          have hnb := nonBad_set hc j hj hb
          have ht := setBad_tls hc (j : Int) (by rw [Int.toNat_natCast]; exact hj)
          exact c_sWrLoop hlf fs sq spare b hq hs2 m n (i + 1) (setBad l (j : Int)) (ops + 1) (by omega) (by omega) (by rw [setBad_len]; omega) (chT_bad hc (j : Int) (by rw [Int.toNat_natCast]; exact hj)).1 (by rw [setBad_len]; omega)
        | false =>
          simp only [cond_f, cond_t, bne, h2, Bool.not_false]
          obtain ⟨x, c⟩ := devP l ops fs false (j : Int) b
          obtain ⟨l', ops', dn'⟩ := x
          rw [wrap_in (x := sq + 1) (by omega) (by omega)]
          cases dn' <;> rfl
theorem c_sCopyLog {lf d : Nat} (hlf : 33554432 ≤ lf) (l : List T) (ops : Int) (fs : List T) (dn : Bool) (sq : Int) (hc : chT l) (hs : l.length + tls l ≤ 16777216) (hs2 : fs.length ≤ 16777216) : Cc lf (d + 4) 102 [.st [.sl l, .i .i64 ops, .sl fs, .b dn, .i .i64 sq]] = some [.st [.sl l, .i .i64 ops, .sl fs, .b dn, .i .i64 sq]] := by
  refine (f102_eq (Cc lf (d + 3)) lf l ops fs dn sq).trans ?_
  unfold f102 f102_t
  rw [c_sCopyDev (d := d) hlf l ops fs dn hc hs hs2]
  rfl
theorem c_iCopyLog {lf d : Nat} (hlf : 33554432 ≤ lf) (l : List T) (ops : Int) (fs : List T) (dn : Bool) (sq : Int) (hc : chT l) (hs : l.length + tls l ≤ 16777216) (hs2 : fs.length ≤ 16777216) : Cc lf (d + 4) 88 [.st [.sl l, .i .i64 ops, .sl fs, .b dn, .i .i64 sq]] = some [.st [.sl l, .i .i64 ops, .sl fs, .b dn, .i .i64 sq]] := by
  refine (f88_eq (Cc lf (d + 3)) lf l ops fs dn sq).trans ?_
  unfold f88 f88_t
  rw [c_iCopyDev (d := d) hlf l ops fs dn hc hs hs2]
  rfl
/-- What a log comes to that is written to. -/
def writeR (l : List T) (ops : Int) (fs : List T) (dn : Bool) (sq k : Int) (body : List T) (spare : Int) : (List T × Int × Bool) × Int × Int × Int :=
  bif !(devB l ops fs) then ((l, ops, dn), sq, -1, 1) else bif !(recB k sq body) then ((l, ops, dn), sq, -1, 1) else bif iLe 1000000 sq then ((l, ops, dn), sq, -1, 1) else
  bif dn then ((l, ops, dn), sq, -1, 10) else wrR fs sq spare (putRecT k sq body) (nonBad l + 1) l ops
def writeT (fs : List T) (r : (List T × Int × Bool) × Int × Int × Int) : List T := [T.st [.sl r.1.1, .i .i64 r.1.2.1, .sl fs, .b r.1.2.2, .i .i64 r.2.1], T.i .i64 r.2.2.1, T.i .i64 r.2.2.2]
theorem nonBad_le (l : List T) : nonBad l ≤ l.length := cntB_le _ _
theorem c_iWrite {lf d : Nat} (hlf : 33554432 ≤ lf) (l : List T) (ops : Int) (fs : List T) (dn : Bool) (sq k : Int) (body : List T) (spare : Int) (hc : chT l) (hs : l.length + tls l ≤ 16777216) (hs2 : fs.length ≤ 16777216) (hbd : body.length ≤ 16000000) : Cc lf (d + 7) 32 [.st [.sl l, .i .i64 ops, .sl fs, .b dn, .i .i64 sq], .i .i64 k, .sl body, .i .i64 spare] = some (writeT fs (writeR l ops fs dn sq k body spare)) := by
  refine (f32_eq (Cc lf (d + 6)) lf l ops fs dn sq k body spare).trans ?_
  unfold f32 f32_t writeR
  dsimp only
  rw [c_iCopyLog (d := d + 2) hlf l ops fs dn sq hc hs hs2]
  simp only [Option.bind_some, nth0, asI_i, asL_l, asB_b, cell0, cellS]
  rw [c_iRecOk (d := d + 4), c_iDevOk (d := d + 3) hlf l ops fs dn hs hs2]
  simp only [Option.bind_some, nth0, asB_b]
  cases hr : recB k sq body with
  | false => cases devB l ops fs <;> rfl
  | true =>
    cases hd : devB l ops fs with
    | false => rfl
    | true =>
      have hq := (recB_in hr).2.1
      by_cases h1 : sq = 1000000
      · rw [iLe_t (by omega), show (sq == 1000000) = true by simpa using h1]; rfl
      · rw [iLe_f (by omega), show (sq == 1000000) = false by simpa using h1]
        have hnb := nonBad_le l
        cases dn with
        | true =>
          obtain ⟨m, hm⟩ : ∃ m, lf = m + 1 := ⟨lf - 1, by omega⟩
          have : f32_0 (Cc lf (d + 6)) lf body k spare [T.st [T.sl l, T.i .i64 ops, T.sl fs, T.b true, T.i .i64 sq]] lf ops true l fs = some [T.i .i64 0, T.i .i64 (-1), T.i .i64 10, T.i .i64 ops, T.b true, T.i .i64 sq, T.sl l, T.sl fs] := by
            conv => lhs; rw [hm]
            rw [f32_0_u]
            unfold f32_0_s
            simp only [nth0, asI_i, cell0, cellS]
            rw [← hm, c_iOpen (d := d + 1) hlf l ops fs true sq spare hs]
            rfl
          simp only [Bool.not_true, cond_f, cond_t]
          rw [this]
          rfl
        | false =>
          simp only [Bool.not_true, cond_f, cond_t]
          rw [c_iWrLoop (d := d) hlf fs k sq spare body _ _ _ _ (by omega) hbd hs2 (nonBad l + 1) lf l ops (by omega) (by omega) hc hs]
          rfl
theorem c_sWrite {lf d : Nat} (hlf : 33554432 ≤ lf) (l : List T) (ops : Int) (fs : List T) (dn : Bool) (sq k : Int) (body : List T) (spare : Int) (hc : chT l) (hs : l.length + tls l ≤ 16777216) (hs2 : fs.length ≤ 16777216) (hbd : body.length ≤ 16000000) : Cc lf (d + 10) 46 [.st [.sl l, .i .i64 ops, .sl fs, .b dn, .i .i64 sq], .i .i64 k, .sl body, .i .i64 spare] = some (writeT fs (writeR l ops fs dn sq k body spare)) := by
  refine (f46_eq (Cc lf (d + 9)) lf l ops fs dn sq k body spare).trans ?_
  unfold f46 f46_t writeR
  rw [c_sCopyLog (d := d + 5) hlf l ops fs dn sq hc hs hs2, c_sRecOk (d := d + 7), c_sDevOk (d := d + 5) hlf l ops fs dn hs hs2]
  simp only [Option.bind_some, nth0, asI_i, asL_l, asB_b, cell0, cellS]
  cases hd : devB l ops fs with
  | false => rfl
  | true =>
    cases hr : recB k sq body with
    | false => rfl
    | true =>
      have hq := (recB_in hr).2.1
      by_cases h1 : 1000000 ≤ sq
      · rw [iLe_t h1]; rfl
      · rw [iLe_f h1]
        have hnb := nonBad_le l
        simp only [Bool.not_true, cond_f]
        have W : Cc lf (d + 9) 104 [.st [.sl l, .i .i64 ops, .sl fs, .b dn, .i .i64 sq], .i .i64 k, .sl body, .i .i64 spare] = some (writeT fs (bif dn then ((l, ops, dn), sq, -1, 10) else wrR fs sq spare (putRecT k sq body) (nonBad l + 1) l ops)) := by
          refine (f104_eq (Cc lf (d + 8)) lf l ops fs dn sq k body spare).trans ?_
          unfold f104 f104_t
          dsimp only
          rw [c_sPutRec (d := d + 4) hlf k sq body hbd]
          simp only [Option.bind_some]
          cases dn with
          | true =>
            obtain ⟨m, hm⟩ : ∃ m, lf = m + 1 := ⟨lf - 1, by omega⟩
            have : f104_0 (Cc lf (d + 8)) lf spare sq [T.sl (putRecT k sq body)] lf 0 ops true l fs = some [T.i .i64 0, T.i .i64 (-1), T.i .i64 10, T.i .i64 ops, T.b true, T.i .i64 sq, T.sl l, T.sl fs] := by
              conv => lhs; rw [hm]
              rw [f104_0_u]
              unfold f104_0_s
              rw [← hm, iLe_t (by omega), c_sOpen (d := d + 5) hlf l ops fs true sq spare hs]
              rfl
            rw [this]
            rfl
          | false =>
            have := c_sWrLoop (d := d) hlf fs sq spare (putRecT k sq body) (by omega) hs2 (nonBad l + 1) lf 0 l ops (by omega) (by omega) (by omega) hc hs
            rw [show ((0 : Nat) : Int) = 0 from rfl] at this
            rw [this]
            rfl
        rw [W]
        rfl
abbrev chCT : List CT := [.sl true [.b, .sl false [.i .u8]], .i .i64, .b]
theorem fitS_set {m : Bool} {cs : List CT} {l : List T} (h : fitC (.sl m cs) (.sl l)) (j : Nat) {v : T} (hv : fitE m cs v) : fitC (.sl m cs) (.sl (l.set j v)) := by
  refine ⟨by rw [List.length_set]; exact h.1, fitL_all.2 fun x hx => ?_⟩
  rcases List.mem_or_eq_of_mem_set hx with hx | rfl
  · exact fitL_all.1 h.2 x hx
  · exact hv
theorem ch_of {l : List T} (h : fitC (.sl true chCT) (.sl l)) : chT l := by
  intro x hx
  obtain ⟨l0, rfl, q⟩ := fitE_st (fitL_all.1 h.2 x hx)
  obtain ⟨x0, l1, rfl, q0, q⟩ := fitCs_cons q
  obtain ⟨x1, l2, rfl, q1, q⟩ := fitCs_cons q
  obtain ⟨x2, l3, rfl, q2, q⟩ := fitCs_cons q
  obtain rfl := fitCs_nil q
  obtain ⟨ps, rfl, qp⟩ := fitC_sl q0
  obtain ⟨w, rfl, _⟩ := fitC_i q1
  obtain ⟨bad, rfl⟩ := fitC_b q2
  refine ⟨ps, w, bad, rfl, fun p hp => ?_⟩
  obtain ⟨y, rfl, z⟩ := fitE_st (fitL_all.1 qp.2 p hp)
  obtain ⟨y0, y1, rfl, z0, z⟩ := fitCs_cons z
  obtain ⟨y2, y3, rfl, z2, z⟩ := fitCs_cons z
  obtain rfl := fitCs_nil z
  obtain ⟨u, rfl⟩ := fitC_b z0
  obtain ⟨bs, rfl, _⟩ := fitC_sl z2
  exact ⟨u, bs, rfl⟩
theorem fit_block {l : List T} (h : fitC (.sl true chCT) (.sl l)) {j : Nat} (hj : j < l.length) : fitC (.sl true [.b, .sl false [.i .u8]]) (.sl (asL (T.cell (l.getD j T.u) 0))) ∧ fitC (.i .i64) (.i .i64 (asI (T.cell (l.getD j T.u) 1))) := by
  obtain ⟨ps, e0, q0⟩ := fitC_sl (cell_fit (k := 0) h hj rfl)
  obtain ⟨w, e1, q1⟩ := fitC_i (cell_fit (k := 1) h hj rfl)
  rw [e0, e1]
  exact ⟨q0, rfl, q1⟩
theorem fit_setBad {l : List T} (h : fitC (.sl true chCT) (.sl l)) (n : Int) (hn : n.toNat < l.length) : fitC (.sl true chCT) (.sl (setBad l n)) := by
  obtain ⟨e, _⟩ := chT_at (ch_of h) hn
  obtain ⟨f0, f1⟩ := fit_block h hn
  refine fitS_set h _ ?_
  rw [e]
  exact ⟨f0, f1, trivial, trivial⟩
theorem fit_progL {l : List T} (h : fitC (.sl true chCT) (.sl l)) (n : Int) (b : List T) (hb : byt b) : fitC (.sl true chCT) (.sl (progL l n b)) := by
  unfold progL
  cases h0 : progC l n b == 0 with
  | false => exact h
  | true =>
    obtain ⟨z1, z2, z3, z4, z5, z6⟩ := progC_zero (by simpa using h0)
    have hin := inB_in z2
    have hn : n.toNat < l.length := by omega
    obtain ⟨e, _⟩ := chT_at (ch_of h) hn
    obtain ⟨f0, f1⟩ := fit_block h hn
    refine fitS_set h _ ?_
    rw [e]
    refine ⟨?_, f1, trivial, trivial⟩
    exact fitS_set f0 _ ⟨trivial, byt_fit hb (by unfold maxLen; omega), trivial⟩
theorem tls_setA : ∀ (l : List T) (j : Nat) (v : T) (c : Nat), j < l.length → tl v ≤ tl (l.getD j T.u) + c → tls (l.set j v) ≤ tls l + c
  | [], _, _, _, h, _ => absurd h (Nat.not_lt_zero _)
  | x :: l, 0, v, c, _, hv => by
    have hv : tl v ≤ tl x + c := hv
    simp only [List.set_cons_zero, tls]
    omega
  | x :: l, j + 1, v, c, h, hv => by
    have := tls_setA l j v c (by simpa using h) hv
    simp only [List.set_cons_succ, tls]
    omega
theorem progL_tls {l : List T} (hc : chT l) (n : Int) (b : List T) (hb : byt b) : (progL l n b).length = l.length ∧ tls (progL l n b) ≤ tls l + 400 := by
  unfold progL
  cases h0 : progC l n b == 0 with
  | false => exact ⟨rfl, by simp only [cond_f]; omega⟩
  | true =>
    obtain ⟨z1, z2, z3, z4, z5, z6⟩ := progC_zero (by simpa using h0)
    have hin := inB_in z2
    have hn : n.toNat < l.length := by omega
    obtain ⟨e, _⟩ := chT_at hc hn
    have hp := tls_setA (pgs l n) (usedN (pgs l n)) (T.st [T.b true, T.sl b]) 400 (by omega) (by have := byt_tls hb; simp only [tl, tls]; omega)
    have e2 : T.setc (l.getD n.toNat T.u) 0 (T.sl ((pgs l n).set (usedN (pgs l n)) (T.st [T.b true, T.sl b]))) = .st [T.sl ((pgs l n).set (usedN (pgs l n)) (T.st [T.b true, T.sl b])), .i .i64 (asI (T.cell (l.getD n.toNat T.u) 1)), .b (asB (T.cell (l.getD n.toNat T.u) 2))] := by
      rw [e]
      rfl
    have e3 : tl (l.getD n.toNat T.u) = (pgs l n).length + tls (pgs l n) := by
      conv => lhs; rw [e]
      show (pgs l n).length + tls (pgs l n) + (0 + (0 + 0)) = _
      omega
    refine ⟨List.length_set .., tls_setA l _ _ 400 hn ?_⟩
    rw [e2, e3]
    simp only [tl, tls, List.length_set]
    omega
def i64B (n : Int) : Prop := -9223372036854775808 ≤ n ∧ n ≤ 9223372036854775807
/-- What a device is behind a program. -/
theorem devP_fit {l : List T} (h : fitC (.sl true chCT) (.sl l)) (ops : Int) (fs : List T) (dn : Bool) (n : Int) {b : List T} (hb : byt b) (ho : i64B ops) : fitC (.sl true chCT) (.sl (devP l ops fs dn n b).1.1) ∧ (devP l ops fs dn n b).1.1.length = l.length ∧ tls (devP l ops fs dn n b).1.1 ≤ tls l + 400 ∧ i64B (devP l ops fs dn n b).1.2.1 := by
  have same : fitC (.sl true chCT) (.sl l) ∧ l.length = l.length ∧ tls l ≤ tls l + 400 ∧ i64B ops := ⟨h, rfl, by omega, ho⟩
  unfold devP
  cases devB l ops fs with
  | false => exact same
  | true =>
    cases dn with
    | true => exact same
    | false =>
      by_cases h1 : 100000 ≤ ops
      · rw [iLe_t h1]; exact same
      · rw [iLe_f h1]
        have ho2 : i64B (ops + 1) := by unfold i64B at *; omega
        cases h3 : progC l n b == 0 with
        | false => exact same
        | true =>
          obtain ⟨z1, z2, _⟩ := progC_zero (by simpa using h3)
          have hin := inB_in z2
          have hn : n.toNat < l.length := by omega
          cases faultAt ops fs with
          | none => exact ⟨fit_progL h n b hb, (progL_tls (ch_of h) n b hb).1, (progL_tls (ch_of h) n b hb).2, ho2⟩
          | some x =>
            obtain ⟨a, k, e⟩ := x
            cases hk : k == 1 with
            | true =>
              simp only [Bool.not_true, cond_f, cond_t, hk]
              exact ⟨fit_setBad h n hn, setBad_len l n, Nat.le_trans (setBad_tls (ch_of h) n hn) (by omega), ho2⟩
            | false =>
              simp only [Bool.not_true, cond_f, cond_t, hk]
              exact ⟨fit_progL h n _ (byt_take hb _), (progL_tls (ch_of h) n _ (byt_take hb _)).1, (progL_tls (ch_of h) n _ (byt_take hb _)).2, ho2⟩
theorem i64B_c {n : Int} (h : -100 ≤ n ∧ n ≤ 100) : i64B n := ⟨by omega, by omega⟩
def wrG (K : Nat) (r : (List T × Int × Bool) × Int × Int × Int) : Prop := fitC (.sl true chCT) (.sl r.1.1) ∧ r.1.1.length + tls r.1.1 ≤ K + 400 ∧ i64B r.1.2.1 ∧ (0 ≤ r.2.1 ∧ r.2.1 ≤ 1000001) ∧ i64B r.2.2.1 ∧ i64B r.2.2.2
theorem wrG_no {K : Nat} {l : List T} {ops sq : Int} (h : fitC (.sl true chCT) (.sl l)) (hs : l.length + tls l ≤ K) (ho : i64B ops) (hq : 0 ≤ sq ∧ sq ≤ 1000000) (c : Int) (hc : -100 ≤ c ∧ c ≤ 100) : wrG K ((l, ops, false), sq, -1, c) := ⟨h, by show l.length + tls l ≤ _; omega, ho, ⟨hq.1, by show sq ≤ _; omega⟩, i64B_c (by show -100 ≤ (-1 : Int) ∧ (-1 : Int) ≤ 100; omega), i64B_c hc⟩
theorem wr_fit {fs : List T} {sq spare : Int} {b : List T} (hb : byt b) (hq : 0 ≤ sq ∧ sq ≤ 1000000) {K : Nat} (hK : K ≤ 16777216) : ∀ (m : Nat) (l : List T) (ops : Int), fitC (.sl true chCT) (.sl l) → l.length + tls l ≤ K → i64B ops → wrG K (wrR fs sq spare b m l ops)
  | 0, l, ops, h, hs, ho => wrG_no h hs ho hq 9 (by decide)
  | m + 1, l, ops, h, hs, ho => by
    have hc := ch_of h
    have hok := openB_ok l spare
    unfold wrR
    generalize openB l spare = o at *
    rcases hok with rfl | ⟨j, rfl, hj, hbd⟩
    · exact wrG_no h hs ho hq 9 (by decide)
    · rw [iLt_f (by omega)]
      simp only [cond_f]
      obtain ⟨f1, f2, f3, f4⟩ := devP_fit h ops fs false (j : Int) hb ho
      cases h0 : (devP l ops fs false (j : Int) b).2 == 0 with
      | true =>
        have hnx : nextC l (j : Int) = ((usedN (pgs l (j : Int)) : Nat) : Int) := by unfold nextC inB; rw [iLe_t (by omega), iLt_t (by omega)]; rfl
        have hu := usedN_le (pgs l (j : Int))
        have hcl := cellL_le (l := l) (j := j) 0
        have hpg : (pgs l (j : Int)).length ≤ 16777216 := by unfold pgs; rw [Int.toNat_natCast]; omega
        exact ⟨f1, by show (devP l ops fs false (j : Int) b).1.1.length + tls (devP l ops fs false (j : Int) b).1.1 ≤ K + 400; omega, f4, ⟨by show 0 ≤ sq + 1; omega, by show sq + 1 ≤ _; omega⟩, ⟨by show _ ≤ (j : Int) * 8 + nextC l (j : Int); omega, by show (j : Int) * 8 + nextC l (j : Int) ≤ _; omega⟩, i64B_c (n := 0) (by omega)⟩
      | false =>
        cases h2 : (devP l ops fs false (j : Int) b).2 == 2 with
        | true =>
          obtain ⟨e, hi, _⟩ := devP_two (by simpa using h2) (show badAt l (j : Int) = false by unfold badAt; rw [Int.toNat_natCast]; exact hbd)
          simp only [cond_f, cond_t]
          rw [e] at f1 f2 f3 f4
          rw [e]
          have ht := setBad_tls hc (j : Int) (by rw [Int.toNat_natCast]; exact hj)
          simp only at f1 f2 f3 f4
          exact wr_fit hb hq hK m (setBad l (j : Int)) (ops + 1) f1 (by rw [setBad_len]; omega) f4
        | false =>
          simp only [cond_f]
          refine ⟨f1, by show (devP l ops fs false (j : Int) b).1.1.length + tls (devP l ops fs false (j : Int) b).1.1 ≤ K + 400; omega, f4, ?_, i64B_c (n := -1) (by omega), i64B_c (n := 10) (by omega)⟩
          show 0 ≤ (bif (devP l ops fs false (j : Int) b).1.2.2 then sq + 1 else sq) ∧ (bif (devP l ops fs false (j : Int) b).1.2.2 then sq + 1 else sq) ≤ 1000001
          cases (devP l ops fs false (j : Int) b).1.2.2 with
          | true => simp only [cond_t]; omega
          | false => simp only [cond_f]; omega
theorem putRecT_byt (k s : Int) (body : List T) : byt (putRecT k s body) := by
  unfold putRecT
  cases recB k s body with
  | false => exact byt_nil
  | true => exact byt_app (recX_byt k s body) (byt_four (crcN_lt (recX_byt k s body)))
def wrF (K : Nat) (r : (List T × Int × Bool) × Int × Int × Int) : Prop := fitC (.sl true chCT) (.sl r.1.1) ∧ r.1.1.length + tls r.1.1 ≤ K + 400 ∧ i64B r.1.2.1 ∧ i64B r.2.1 ∧ i64B r.2.2.1 ∧ i64B r.2.2.2
theorem write_fit {l : List T} {ops : Int} (fs : List T) (dn : Bool) {sq : Int} (k : Int) (body : List T) (spare : Int) (h : fitC (.sl true chCT) (.sl l)) {K : Nat} (hK : K ≤ 16777216) (hs : l.length + tls l ≤ K) (ho : i64B ops) (hq : i64B sq) : wrF K (writeR l ops fs dn sq k body spare) := by
  have no : ∀ c : Int, i64B c → wrF K ((l, ops, dn), sq, -1, c) := fun c hc => ⟨h, by show l.length + tls l ≤ _; omega, ho, hq, i64B_c (n := -1) (by omega), hc⟩
  unfold writeR
  cases devB l ops fs with
  | false => exact no 1 (i64B_c (by omega))
  | true =>
    cases hr : recB k sq body with
    | false => exact no 1 (i64B_c (by omega))
    | true =>
      by_cases h1 : 1000000 ≤ sq
      · rw [iLe_t h1]; exact no 1 (i64B_c (by omega))
      · rw [iLe_f h1]
        cases dn with
        | true => exact no 10 (i64B_c (by omega))
        | false =>
          have hq2 := (recB_in hr).2.1
          obtain ⟨g1, g2, g3, g4, g5, g6⟩ := wr_fit (fs := fs) (spare := spare) (putRecT_byt k sq body) (by omega) hK (nonBad l + 1) l ops h hs ho
          exact ⟨g1, g2, g3, ⟨by have := g4.1; simp only [Bool.not_true, cond_f]; omega, by have := g4.2; simp only [Bool.not_true, cond_f]; omega⟩, g5, g6⟩
theorem i64_of {n : Int} (h : fitC (.i .i64) (.i .i64 n)) : i64B n := by
  exact wf64_in h.2
theorem same {lf : Nat} (hlf : 33554432 ≤ lf) (l : List T) (ops : Int) (fs : List T) (dn : Bool) (sq : Int) (hf : fitE true [.sl true [.sl true [.b, .sl false [.i .u8]], .i .i64, .b], .i .i64, .sl true [.i .i64, .i .i64, .i .i64], .b, .i .i64] (.st [.sl l, .i .i64 ops, .sl fs, .b dn, .i .i64 sq])) (z : tl (.st [.sl l, .i .i64 ops, .sl fs, .b dn, .i .i64 sq]) ≤ 1048576) (k : Int) (hf1 : fitC (.i .i64) (.i .i64 k)) (z1 : tl (.i .i64 k) ≤ 1048576) (body : List T) (hf2 : fitC (.sl false [.i .u8]) (.sl body)) (z2 : tl (.sl body) ≤ 1048576) (spare : Int) (hf3 : fitC (.i .i64) (.i .i64 spare)) (z3 : tl (.i .i64 spare) ≤ 1048576) :
    ∃ r0 r1 r2, Cc lf 13 46 [.st [.sl l, .i .i64 ops, .sl fs, .b dn, .i .i64 sq], .i .i64 k, .sl body, .i .i64 spare] = some [r0, r1, r2] ∧ Cc lf 13 32 [.st [.sl l, .i .i64 ops, .sl fs, .b dn, .i .i64 sq], .i .i64 k, .sl body, .i .i64 spare] = some [r0, r1, r2] ∧ (fitE true [.sl true [.sl true [.b, .sl false [.i .u8]], .i .i64, .b], .i .i64, .sl true [.i .i64, .i .i64, .i .i64], .b, .i .i64] r0 ∧ tl r0 ≤ 16777216) ∧ (fitC (.i .i64) r1 ∧ tl r1 ≤ 16777216) ∧ (fitC (.i .i64) r2 ∧ tl r2 ≤ 16777216) ∧ True := by
  simp only [tl, tls] at z z2
  obtain ⟨f0, f1, f2, f3, f4, _⟩ := hf
  obtain ⟨g1, g2, g3, g4, g5, g6⟩ := write_fit (l := l) (ops := ops) fs dn (sq := sq) k body spare f0 (K := 1048576) (by omega) (by omega) (i64_of f1) (i64_of f4)
  refine ⟨_, _, _, c_sWrite (d := 3) hlf l ops fs dn sq k body spare (ch_of f0) (by omega) (by omega) (by omega), c_iWrite (d := 6) hlf l ops fs dn sq k body spare (ch_of f0) (by omega) (by omega) (by omega), ⟨⟨g1, ⟨rfl, wf64 g3.1 g3.2⟩, f2, trivial, ⟨rfl, wf64 g4.1 g4.2⟩, trivial⟩, ?_⟩, ⟨⟨rfl, wf64 g5.1 g5.2⟩, Nat.zero_le _⟩, ⟨⟨rfl, wf64 g6.1 g6.2⟩, Nat.zero_le _⟩, trivial⟩
  simp only [tl, tls]
  omega
/-- The law answers true. -/
theorem lawB {lf : Nat} (hlf : 33554432 ≤ lf) {t0 : T} (ht0 : fitE true csfit_MMbScEibEiMiiiEbi t0) {t1 : T} (ht1 : fitC (.i .i64) t1) {t2 : T} (ht2 : fitC (.sl false [.i .u8]) t2) {t3 : T} (ht3 : fitC (.i .i64) t3) : Cc lf 14 10 [t0, t1, t2, t3] = some [.b true] := by
  have hf0 := ht0
  obtain ⟨p0_0, p0_1, p0_2, p0_3, p0_4, rfl, w0_0, w0_1, w0_2, w0_4⟩ := fit_MMbScEibEiMiiiEbi ht0
  have hf1 := ht1
  obtain ⟨p1_0, rfl, w1_0⟩ := fitC_i ht1
  have hf2 := ht2
  obtain ⟨p2_0, rfl, w2_0⟩ := fitC_sl ht2
  have hf3 := ht3
  obtain ⟨p3_0, rfl, w3_0⟩ := fitC_i ht3
  refine (f10_eq (Cc lf 13) lf p0_0 p0_1 p0_2 p0_3 p0_4 p1_0 p2_0 p3_0).trans ?_
  unfold f10 f10_t
  by_cases l2 : (1048576 : Int) < (p2_0.length : Int)
  · rw [iLt_t l2]; rfl
  rw [iLt_f l2, cond_f]
  have z2 : tl (T.sl p2_0) ≤ 1048576 := by have := tls_flat hf2 rfl; simp only [tl]; omega
  rcases sz18 hlf (d := 13) (by omega) _ hf0 1048576 (by omega) (by omega) with e | ⟨y1, e1, g1, zz0⟩
  · rw [e]; rfl
  rw [e1]
  simp only [Option.bind_some, nth0, asI_i]
  rw [iLt_f (show ¬ y1 < 0 by omega), cond_f]
  have z0 : tl (T.st [T.sl p0_0, T.i .i64 p0_1, T.sl p0_2, T.b p0_3, T.i .i64 p0_4]) ≤ 1048576 := by omega
  have z1 : tl (T.i .i64 p1_0) ≤ 1048576 := Nat.zero_le _
  have z3 : tl (T.i .i64 p3_0) ≤ 1048576 := Nat.zero_le _
  have eT0 := to20 hlf (d := 13) (by omega) _ hf0 (by omega)
  have eT2 := to47 hlf (d := 13) (by omega) _ hf2 (by omega)
  obtain ⟨r0, r1, r2, eS, eI, ⟨hr0, zr0⟩, ⟨hr1, zr1⟩, ⟨hr2, zr2⟩, _⟩ := same hlf p0_0 p0_1 p0_2 p0_3 p0_4 hf0 z0 p1_0 hf1 z1 p2_0 hf2 z2 p3_0 hf3 z3
  have hR0 := hr0
  obtain ⟨R0_0, R0_1, R0_2, R0_3, R0_4, rfl, W0_0, W0_1, W0_2, W0_4⟩ := fit_MMbScEibEiMiiiEbi hr0
  have eQ0 := eq22 hlf (d := 13) (by omega) _ hR0 zr0
  have hR1 := hr1
  obtain ⟨R1_0, rfl, W1_0⟩ := fitC_i hr1
  have hR2 := hr2
  obtain ⟨R2_0, rfl, W2_0⟩ := fitC_i hr2
  have eX0 := eq22 hlf (d := 13) (by omega) _ hf0 (by omega)
  have eX2 := eq48 hlf (d := 13) (by omega) _ hf2 (by omega)
  obtain ⟨K1, bK1_0, bK1_1, eK1, uK1, vK1⟩ := mo26 hlf (d := 13) (by omega) hf0 (by omega) 1 (by omega) (by omega)
  obtain ⟨K2, bK2_0, eK2, uK2, vK2⟩ := mk49 hlf (d := 13) (by omega) _ hf2 (by omega) K1 (by omega) (by omega)
  obtain ⟨M1, bM1_0, bM1_1, eM1, eH1, uM1, vM1⟩ := ms26 hlf (d := 13) (by omega) hR0 zr0 1 (by omega) (by omega)
  simp only [T.cell, List.getD_cons_zero, List.getD_cons_succ] at eH1
  simp only [eT0, eT2, eQ0, eS, eI, eX0, eX2, eK1, eK2, eM1, eH1, Option.bind_some, nth0, nthS, asI_i, asL_l, asB_b, asS_s, cell0, cellS, beq_self_eq_true, bne_self_eq_false, Bool.not_true, Bool.and_true, cond_f, cond_t, iLt_f (show ¬ (K1 < 0) by omega), iLt_f (show ¬ (K2 < 0) by omega), iLt_f (show ¬ (M1 < 0) by omega)]
end Go.Proofs.Ytdclnhlpifahpaa.T
