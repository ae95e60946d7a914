/- What functions of the law FnExactPutMap come to, in trees; no condition. -/
import Derived.Test.YtejeinhdlcgkgaaRows
import Derived.Test.YtejeinhdlcgkgaaX2
set_option linter.unusedVariables false
set_option linter.constructorNameAsVariable false
set_option linter.unusedSimpArgs false
set_option linter.unnecessarySimpa false
namespace Go.Proofs.Ytejeinhdlcgkgaa.T
open Go Go.Proofs.YtejeinhdlcgkgaaV
set_option maxRecDepth 100000
theorem c_l1In {lf d : Nat} (a lo hi : Int) : Cc lf (d + 1) 42 [.i .i64 a, .i .i64 lo, .i .i64 hi] = some [.b (iLe lo a && iLe a hi)] := by
  refine (f42_eq (Cc lf d) lf a lo hi).trans ?_
  unfold f42 f42_t
  exact cond_b _ _
theorem c_from {lf d : Nat} (a lo hi : Int) : Cc lf (d + 1) 43 [.i .i64 a, .i .i64 lo, .i .i64 hi] = some [.b (iLe lo a && iLe a hi)] := by
  refine (f43_eq (Cc lf d) lf a lo hi).trans ?_
  unfold f43 f43_t
  exact cond_b _ _

theorem c_clone {lf d : Nat} {l : List T} (h : l.length ≤ 1073741830) : Cc lf (d + 1) 72 [.sl l] = some [.sl l] := by
  show (bif nLe (0 + l.length) LIM then some [T.sl l] else none) = _
  rw [nLe_t (by unfold LIM; omega)]
  rfl
theorem c_iPutNum {lf d : Nat} (hlf : 33554432 ≤ lf) (b : List T) (n : Int) (hb : b.length ≤ 1073741824) : Cc lf (d + 2) 56 [.sl b, .i .i64 n] = some [.sl (b ++ numT (clampN n))] := by
  refine (f56_eq (Cc lf (d + 1)) lf b n).trans ?_
  unfold f56 f56_t
  dsimp only
  have hc := clampN_in n
  obtain ⟨y, l', h1, h2, h3, h4, h5⟩ := put_loop (F := fun n x l => f56_0 (Cc lf (d + 1)) lf n x l) (fun n x l h0 h1 hl => by
    rw [f56_0_u]
    unfold f56_0_s
    by_cases h : 127 < x
    · rw [iLe_t (by omega), if_pos h, nLe_app (by omega), Int.tdiv_eq_ediv_of_nonneg h0, Int.tmod_eq_emod_of_nonneg h0, wrap_in (x := x / 128) (by omega) (by omega), wrap_in (by omega) (by omega), wrap8 (by omega) (by omega)]
      rfl
    · rw [iLe_f (by omega), if_neg h]
      rfl) (n := lf) (by omega) (x := clampN n) (l := b) hc.1 hc.2 hb
  rw [c_clone (by omega), Option.bind_some, nth0, asL_l, show imax 0 (imin n 1000000) = clampN n by unfold imax imin clampN; split <;> split <;> (try split) <;> omega, h1]
  simp only [Option.bind_some, nth0, nthS, asL_l, asI_i]
  rw [nLe_app (by omega), wrap8 h3 (by omega), ← h2]
  rfl
theorem c_sPutNum {lf d : Nat} (hlf : 33554432 ≤ lf) (b : List T) (n : Int) (hb : b.length ≤ 1073741824) : Cc lf (d + 2) 55 [.sl b, .i .i64 n] = some [.sl (b ++ numT (clampN n))] := by
  refine (f55_eq (Cc lf (d + 1)) lf b n).trans ?_
  unfold f55 f55_t
  dsimp only
  have hc := clampN_in n
  have L : ∀ (n : Nat) (x : Int) (l : List T), 0 ≤ x → x ≤ 1000000 → l.length ≤ 1073741827 → f55_0 (Cc lf (d + 1)) lf (n + 1) x l = if 127 < x then f55_0 (Cc lf (d + 1)) lf n (x / 128) (l ++ [by8 (x % 128 + 128)]) else some [T.i .i64 0, T.i .i64 x, T.sl l] := fun n x l h0 h1 hl => by
    rw [f55_0_u]
    unfold f55_0_s
    by_cases h : 127 < x
    · rw [iLt_t h, if_pos h, nLe_app (by omega), and_mod h0 (by omega), or128 (by omega) (by omega), wrap8 (by omega) (by omega), show (7 : Int) = ((7 : Nat) : Int) from rfl, shr_div (by omega) h0]
      rfl
    · rw [iLt_f h, if_neg h]
      rfl
  have L2 : ∀ (n : Nat) (x : Int) (l : List T), 0 ≤ x → x ≤ 1000000 → l.length ≤ 1073741827 → f55_2 (Cc lf (d + 1)) lf (n + 1) x l = if 127 < x then f55_2 (Cc lf (d + 1)) lf n (x / 128) (l ++ [by8 (x % 128 + 128)]) else some [T.i .i64 0, T.i .i64 x, T.sl l] := fun n x l h0 h1 hl => by
    rw [f55_2_u]
    unfold f55_2_s
    by_cases h : 127 < x
    · rw [iLt_t h, if_pos h, nLe_app (by omega), and_mod h0 (by omega), or128 (by omega) (by omega), wrap8 (by omega) (by omega), show (7 : Int) = ((7 : Nat) : Int) from rfl, shr_div (by omega) h0]
      rfl
    · rw [iLt_f h, if_neg h]
      rfl
  rw [nLe_t (show ([] : List T).length + b.length ≤ LIM by unfold LIM; simp; omega), cond_true]
  by_cases hn : 1000000 < n
  · obtain ⟨y, l', h1, h2, h3, h4, h5⟩ := put_loop (F := fun n x l => f55_0 (Cc lf (d + 1)) lf n x l) L (n := lf) (by omega) (x := 1000000) (l := b) (by omega) (by omega) hb
    rw [iLt_t hn, cond_true, List.nil_append, h1]
    simp only [Option.bind_some, nth0, nthS, asL_l, asI_i]
    rw [nLe_app (by omega), wrap8 h3 (by omega), show clampN n = 1000000 by unfold clampN; rw [if_neg (by omega), if_pos (by omega)], ← h2]
    rfl
  · by_cases hm : n < 0
    · rw [iLt_f hn, cond_false, iLt_t hm, cond_true]
      obtain ⟨m, rfl⟩ : ∃ m, lf = m + 1 := ⟨lf - 1, by omega⟩
      show ((some [T.i .i64 0, T.i .i64 0, T.sl (([] : List T) ++ b)] : Option (List T)).bind _) = _
      simp only [Option.bind_some, nth0, nthS, asL_l, asI_i, List.nil_append]
      rw [nLe_app (by omega), show clampN n = 0 by unfold clampN; rw [if_pos hm]]
      rfl
    · obtain ⟨y, l', h1, h2, h3, h4, h5⟩ := put_loop (F := fun n x l => f55_2 (Cc lf (d + 1)) lf n x l) L2 (n := lf) (by omega) (x := n) (l := b) (by omega) (by omega) hb
      rw [iLt_f hn, cond_false, iLt_f hm, cond_false, List.nil_append, h1]
      simp only [Option.bind_some, nth0, nthS, asL_l, asI_i]
      rw [nLe_app (by omega), wrap8 h3 (by omega), clampN_id (by omega) (by omega), ← h2]
      rfl

/-- Is place j right? -/
def placeB (nx : Int) (l : List T) (j : Nat) : Bool :=
  !iLt (asI (T.cell (l.getD j T.u) 0)) 1 && (!iLe nx (asI (T.cell (l.getD j T.u) 0)) && ((iLe 0 (asI (T.cell (l.getD j T.u) 1)) && iLe (asI (T.cell (l.getD j T.u) 1)) 191) && (!iLt 0 (j : Int) || !iLe (asI (T.cell (l.getD j T.u) 0)) (asI (T.cell (l.getD (j - 1) T.u) 0)))))
def mapB (nx : Int) (l : List T) : Bool := allB (placeB nx l) l.length && (iLe (l.length : Int) 30 && (iLe 2 nx && iLe nx 1000))
theorem c_sMapOk {lf d : Nat} (hlf : 33554432 ≤ lf) (nx : Int) (l : List T) (hs : l.length ≤ 16777216) : Cc lf (d + 2) 15 [.st [.i .i64 nx, .sl l]] = some [.b (mapB nx l)] := by
  refine (f15_eq (Cc lf (d + 1)) lf nx l).trans ?_
  unfold f15 f15_t
  dsimp only
  have L := all_loop (F := fun n j => f15_0 (Cc lf (d + 1)) lf l nx n j) (P := placeB nx l) (X := some [T.i .i64 0, T.b false]) (Y := some [T.i .i64 1, T.i .i64 nx, T.sl l]) (len := l.length) (fun n j hj => by
    rw [f15_0_u]
    unfold f15_0_s
    rw [iLt_t (by omega), inR_nat hj, wrap_next hj (by omega)]
    simp only [c_l1In, Option.bind_some, nth0, asB_b, placeB, cond_not, cond_and, cond_or, cond_t, Int.toNat_natCast]
    cases h0 : iLt 0 (j : Int) with
    | true =>
      have hj0 : 0 < j := by have := iLt_iff.1 h0; omega
      rw [wrap_pred hj0 (by omega), inR_nat (by omega)]
      simp only [cond_t, Int.toNat_natCast]
    | false => rfl) (fun n => by
    rw [f15_0_u]
    unfold f15_0_s
    rw [iLt_f (by omega)]
    rfl) (n := lf) (by omega)
  rw [L]
  unfold mapB
  cases allB (placeB nx l) l.length with
  | false => rfl
  | true =>
    simp only [cond_t, Option.bind_some, nth0, nthS, asI_i, asB_b, asL_l, c_l1In]
    rw [show ((1 : Int) == 0) = false from rfl, cond_f]
    cases iLe (l.length : Int) 30 <;> rfl
theorem c_iMapOk {lf d : Nat} (hlf : 33554432 ≤ lf) (nx : Int) (l : List T) (hs : l.length ≤ 16777216) : Cc lf (d + 2) 16 [.st [.i .i64 nx, .sl l]] = some [.b (mapB nx l)] := by
  refine (f16_eq (Cc lf (d + 1)) lf nx l).trans ?_
  unfold f16 f16_t
  dsimp only
  have L := all_loop (F := fun n j => f16_0 (Cc lf (d + 1)) lf l nx n j) (P := placeB nx l) (X := some [T.i .i64 0, T.b false]) (Y := some [T.i .i64 1, T.i .i64 nx, T.sl l]) (len := l.length) (fun n j hj => by
    rw [f16_0_u]
    unfold f16_0_s
    rw [iLt_t (by omega), inR_nat hj, wrap_next hj (by omega)]
    simp only [c_from, Option.bind_some, nth0, asB_b, placeB, cond_not, cond_and, cond_or, cond_t, Int.toNat_natCast]
    cases h0 : iLt 0 (j : Int) with
    | true =>
      have hj0 : 0 < j := by have := iLt_iff.1 h0; omega
      rw [wrap_pred hj0 (by omega), inR_nat (by omega)]
      simp only [cond_t, Int.toNat_natCast]
    | false => rfl) (fun n => by
    rw [f16_0_u]
    unfold f16_0_s
    rw [iLt_f (by omega)]
    rfl) (n := lf) (by omega)
  rw [L]
  unfold mapB
  cases allB (placeB nx l) l.length with
  | false => rfl
  | true =>
    simp only [cond_t, Option.bind_some, nth0, nthS, asI_i, asB_b, asL_l, c_from]
    rw [show ((1 : Int) == 0) = false from rfl, cond_f]
    cases iLe (l.length : Int) 30 <;> cases iLe 2 nx <;> cases iLe nx 1000 <;> rfl

def putPlaces : List T → List T → List T
  | b, [] => b
  | b, x :: l => putPlaces (b ++ numT (clampN (asI (T.cell x 0))) ++ numT (clampN (asI (T.cell x 1)))) l
def putMapT (nx : Int) (l : List T) : List T := putPlaces (numT (clampN nx) ++ numT (clampN (l.length : Int))) l
theorem putPlaces_len : ∀ (l : List T) (b : List T), (putPlaces b l).length ≤ b.length + 6 * l.length
  | [], b => by simp [putPlaces]
  | x :: l, b => by
    have := putPlaces_len l (b ++ numT (clampN (asI (T.cell x 0))) ++ numT (clampN (asI (T.cell x 1))))
    have h1 := numT_len (clampN (asI (T.cell x 0)))
    have h2 := numT_len (clampN (asI (T.cell x 1)))
    simp only [putPlaces, List.length_append, List.length_cons] at this ⊢
    omega
theorem putPlaces_byt : ∀ (l : List T) (b : List T), byt b → byt (putPlaces b l)
  | [], b, h => h
  | x :: l, b, h => putPlaces_byt l _ (byt_app (byt_app h (byt_num (clampN_in _).1 (clampN_in _).2)) (byt_num (clampN_in _).1 (clampN_in _).2))
theorem putPlaces_drop {l : List T} {j : Nat} (h : j < l.length) (b : List T) : putPlaces b (l.drop j) = putPlaces (b ++ numT (clampN (asI (T.cell (l.getD j .u) 0))) ++ numT (clampN (asI (T.cell (l.getD j .u) 1)))) (l.drop (j + 1)) := by
  rw [List.drop_eq_getElem_cons h, List.getD_eq_getElem?_getD, List.getElem?_eq_getElem h]
  rfl
theorem c_sPutMap {lf d : Nat} (hlf : 33554432 ≤ lf) (nx : Int) (l : List T) (hs : l.length ≤ 16777216) : Cc lf (d + 3) 27 [.st [.i .i64 nx, .sl l]] = some [.sl (bif mapB nx l then putMapT nx l else [])] := by
  refine (f27_eq (Cc lf (d + 2)) lf nx l).trans ?_
  unfold f27 f27_t
  dsimp only
  rw [c_sMapOk hlf nx l hs]
  simp only [Option.bind_some, nth0, asB_b]
  cases hm : mapB nx l with
  | false => rfl
  | true =>
    have hl : l.length ≤ 30 := by
      unfold mapB at hm
      simp only [Bool.and_eq_true, iLe_iff] at hm
      omega
    have q1 := numT_len (clampN nx)
    have q2 := numT_len (clampN (l.length : Int))
    have L : ∀ (k j n : Nat) (b : List T), j + k = l.length → k < n → b.length ≤ 1000 + 6 * j → f27_0 (Cc lf (d + 2)) lf l nx n j b = some [T.i .i64 0, T.sl (putPlaces b (l.drop j))] := by
      intro k
      induction k with
      | zero =>
        intro j n b hj hn hb
        obtain ⟨n, rfl⟩ : ∃ m, n = m + 1 := ⟨n - 1, by omega⟩
        rw [f27_0_u]
        unfold f27_0_s
        rw [iLt_f (by omega), List.drop_eq_nil_of_le (by omega)]
        rfl
      | succ k ih =>
        intro j n b hj hn hb
        obtain ⟨n, rfl⟩ : ∃ m, n = m + 1 := ⟨n - 1, by omega⟩
        have hj' : j < l.length := by omega
        rw [f27_0_u]
        unfold f27_0_s
        have r1 := numT_len (clampN (asI (T.cell (l.getD j .u) 0)))
        have r2 := numT_len (clampN (asI (T.cell (l.getD j .u) 1)))
        rw [iLt_t (by omega), inR_nat hj', wrap_next hj' (by omega), putPlaces_drop hj']
        simp only [cond_t, Int.toNat_natCast]
        rw [c_sPutNum hlf _ _ (by omega)]
        simp only [Option.bind_some, nth0, asL_l]
        rw [c_sPutNum hlf _ _ (by rw [List.length_append]; omega)]
        simp only [Option.bind_some, nth0, asL_l]
        exact ih (j + 1) n _ (by omega) (by omega) (by simp only [List.length_append]; omega)
    have L0 := L l.length 0 lf (numT (clampN nx) ++ numT (clampN (l.length : Int))) (by omega) (by omega) (by simp only [List.length_append]; omega)
    simp only [Bool.not_true, cond_f, cond_t]
    rw [c_sPutNum hlf _ _ (by simp)]
    simp only [Option.bind_some, nth0, asL_l, List.nil_append]
    rw [c_sPutNum hlf _ _ (by omega)]
    simp only [Option.bind_some, nth0, asL_l]
    rw [show ((0 : Nat) : Int) = 0 from rfl] at L0
    rw [L0]
    rfl
theorem c_iPutMap {lf d : Nat} (hlf : 33554432 ≤ lf) (nx : Int) (l : List T) (hs : l.length ≤ 16777216) : Cc lf (d + 3) 28 [.st [.i .i64 nx, .sl l]] = some [.sl (bif mapB nx l then putMapT nx l else [])] := by
  refine (f28_eq (Cc lf (d + 2)) lf nx l).trans ?_
  unfold f28 f28_t
  dsimp only
  rw [c_iMapOk hlf nx l hs]
  simp only [Option.bind_some, nth0, asB_b]
  cases hm : mapB nx l with
  | false => rfl
  | true =>
    have hl : l.length ≤ 30 := by
      unfold mapB at hm
      simp only [Bool.and_eq_true, iLe_iff] at hm
      omega
    have q1 := numT_len (clampN nx)
    have q2 := numT_len (clampN (l.length : Int))
    have L : ∀ (k j n : Nat) (b : List T), j + k = l.length → k < n → b.length ≤ 1000 + 6 * j → f28_0 (Cc lf (d + 2)) lf l n j b = some [T.i .i64 0, T.sl (putPlaces b (l.drop j))] := by
      intro k
      induction k with
      | zero =>
        intro j n b hj hn hb
        obtain ⟨n, rfl⟩ : ∃ m, n = m + 1 := ⟨n - 1, by omega⟩
        rw [f28_0_u]
        unfold f28_0_s
        rw [iLt_f (by omega), List.drop_eq_nil_of_le (by omega)]
        rfl
      | succ k ih =>
        intro j n b hj hn hb
        obtain ⟨n, rfl⟩ : ∃ m, n = m + 1 := ⟨n - 1, by omega⟩
        have hj' : j < l.length := by omega
        rw [f28_0_u]
        unfold f28_0_s
        have r1 := numT_len (clampN (asI (T.cell (l.getD j .u) 0)))
        have r2 := numT_len (clampN (asI (T.cell (l.getD j .u) 1)))
        rw [iLt_t (by omega), inR_nat hj', wrap_next hj' (by omega), putPlaces_drop hj']
        simp only [cond_t, Int.toNat_natCast]
        rw [c_iPutNum hlf _ _ (by omega)]
        simp only [Option.bind_some, nth0, asL_l]
        rw [c_iPutNum hlf _ _ (by rw [List.length_append]; omega)]
        simp only [Option.bind_some, nth0, asL_l]
        exact ih (j + 1) n _ (by omega) (by omega) (by simp only [List.length_append]; omega)
    have L0 := L l.length 0 lf (numT (clampN nx) ++ numT (clampN (l.length : Int))) (by omega) (by omega) (by simp only [List.length_append]; omega)
    simp only [Bool.not_true, cond_f, cond_t]
    rw [c_iPutNum hlf _ _ (by simp)]
    simp only [Option.bind_some, nth0, asL_l, List.nil_append]
    rw [c_iPutNum hlf _ _ (by omega)]
    simp only [Option.bind_some, nth0, asL_l]
    rw [show ((0 : Nat) : Int) = 0 from rfl] at L0
    rw [L0]
    rfl

theorem same {lf : Nat} (hlf : 33554432 ≤ lf) (nx : Int) (l : List T) (hf : fitE true csfit_iMiiE (.st [.i .i64 nx, .sl l])) (z : tl (.st [.i .i64 nx, .sl l]) ≤ 1048576) :
    ∃ r, Cc lf 5 27 [.st [.i .i64 nx, .sl l]] = some [r] ∧ Cc lf 5 28 [.st [.i .i64 nx, .sl l]] = some [r] ∧ (fitC (.sl false [.i .u8]) r ∧ tl r ≤ 16777216) ∧ True := by
  simp only [tl, tls] at z
  have hb : byt (bif mapB nx l then putMapT nx l else []) := by
    cases mapB nx l with
    | false => exact byt_nil
    | true => exact putPlaces_byt _ _ (byt_app (byt_num (clampN_in _).1 (clampN_in _).2) (byt_num (clampN_in _).1 (clampN_in _).2))
  have hl : (bif mapB nx l then putMapT nx l else []).length ≤ 16000000 := by
    cases mapB nx l with
    | false => simp
    | true =>
      have := putPlaces_len l (numT (clampN nx) ++ numT (clampN (l.length : Int)))
      have h1 := numT_len (clampN nx)
      have h2 := numT_len (clampN (l.length : Int))
      simp only [List.length_append] at this
      simp only [cond_t, putMapT]
      omega
  exact ⟨_, c_sPutMap (d := 2) hlf nx l (by omega), c_iPutMap (d := 2) hlf nx l (by omega), ⟨byt_fit hb (by unfold maxLen; omega), by simp only [tl, byt_tls hb]; omega⟩, trivial⟩

/-- The law answers true. -/
theorem lawB {lf : Nat} (hlf : 33554432 ≤ lf) {t0 : T} (ht0 : fitE true csfit_iMiiE t0) : Cc lf 6 7 [t0] = some [.b true] := by
  have hf0 := ht0
  obtain ⟨p0_0, p0_1, rfl, w0_0, w0_1⟩ := fit_iMiiE ht0
  refine (f7_eq (Cc lf 5) lf p0_0 p0_1).trans ?_
  unfold f7 f7_t
  rcases sz10 hlf (d := 5) (by omega) _ hf0 1048576 (by omega) (by omega) with e | ⟨y1, e1, g1, zz0⟩
  · rw [e]; rfl
  rw [e1]
  simp only [Option.bind_some, nth0, asI_i]
  rw [iLt_f (show ¬ y1 < 0 by omega), cond_f]
  have z0 : tl (T.st [T.i .i64 p0_0, T.sl p0_1]) ≤ 1048576 := by omega
  have eT0 := to12 hlf (d := 5) (by omega) _ hf0 (by omega)
  obtain ⟨r0, eS, eI, ⟨hr0, zr0⟩, _⟩ := same hlf p0_0 p0_1 hf0 z0
  have hR0 := hr0
  obtain ⟨R0_0, rfl, W0_0⟩ := fitC_sl hr0
  have eQ0 := eq29 hlf (d := 5) (by omega) _ hR0 zr0
  have eX0 := eq14 hlf (d := 5) (by omega) _ hf0 (by omega)
  obtain ⟨K1, bK1_0, eK1, uK1, vK1⟩ := mo30 hlf (d := 5) (by omega) hf0 (by omega) 1 (by omega) (by omega)
  obtain ⟨M1, bM1_0, eM1, eH1, uM1, vM1⟩ := mh31 hlf (d := 5) (by omega) _ hR0 zr0 1 (by omega) (by omega)
  simp only [eT0, eQ0, eS, eI, eX0, eK1, eM1, eH1, Option.bind_some, nth0, nthS, asI_i, asL_l, asB_b, asS_s, cell0, cellS, beq_self_eq_true, bne_self_eq_false, Bool.not_true, Bool.and_true, cond_f, cond_t, iLt_f (show ¬ (K1 < 0) by omega), iLt_f (show ¬ (M1 < 0) by omega)]
end Go.Proofs.Ytejeinhdlcgkgaa.T
