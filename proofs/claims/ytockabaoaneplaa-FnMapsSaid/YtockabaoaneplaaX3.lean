/- What functions of the law FnMaps come to, in trees; no condition. -/
import Derived.Test.YtockabaoaneplaaRows
import Derived.Test.YtockabaoaneplaaX2
set_option linter.unusedVariables false
set_option linter.constructorNameAsVariable false
set_option linter.unusedSimpArgs false
set_option linter.unnecessarySimpa false
namespace Go.Proofs.Ytockabaoaneplaa.T
open Go Go.Proofs.YtockabaoaneplaaV
set_option maxRecDepth 100000
theorem c_l1In {lf d : Nat} (a lo hi : Int) : Cc lf (d + 1) 77 [.i .i64 a, .i .i64 lo, .i .i64 hi] = some [.b (iLe lo a && iLe a hi)] := by
  refine (f77_eq (Cc lf d) lf a lo hi).trans ?_
  unfold f77 f77_t
  exact cond_b _ _
theorem c_from {lf d : Nat} (a lo hi : Int) : Cc lf (d + 1) 76 [.i .i64 a, .i .i64 lo, .i .i64 hi] = some [.b (iLe lo a && iLe a hi)] := by
  refine (f76_eq (Cc lf d) lf a lo hi).trans ?_
  unfold f76 f76_t
  exact cond_b _ _
theorem c_clone {lf d : Nat} {l : List T} (h : l.length ≤ 1073741830) : Cc lf (d + 1) 123 [.sl l] = some [.sl l] := by
  show (bif nLe (0 + l.length) LIM then some [T.sl l] else none) = _
  rw [nLe_t (by unfold LIM; omega)]
  rfl
theorem c_iPutNum {lf d : Nat} (hlf : 33554432 ≤ lf) (b : List T) (n : Int) (hb : b.length ≤ 1073741824) : Cc lf (d + 2) 67 [.sl b, .i .i64 n] = some [.sl (b ++ numT (clampN n))] := by
  refine (f67_eq (Cc lf (d + 1)) lf b n).trans ?_
  unfold f67 f67_t
  dsimp only
  have hc := clampN_in n
  obtain ⟨y, l', h1, h2, h3, h4, h5⟩ := put_loop (F := fun n x l => f67_0 (Cc lf (d + 1)) lf n x l) (fun n x l h0 h1 hl => by
    rw [f67_0_u]
    unfold f67_0_s
    by_cases h : 127 < x
    · rw [iLe_t (by omega), if_pos h, nLe_app (by omega), Int.tdiv_eq_ediv_of_nonneg h0, Int.tmod_eq_emod_of_nonneg h0, wrap_in (x := x / 128) (by omega) (by omega), wrap_in (by omega) (by omega), wrap8 (by omega) (by omega)]
      rfl
    · rw [iLe_f (by omega), if_neg h]
      rfl) (n := lf) (by omega) (x := clampN n) (l := b) hc.1 hc.2 hb
  rw [c_clone (by omega), Option.bind_some, nth0, asL_l, show imax 0 (imin n 1000000) = clampN n by unfold imax imin clampN; split <;> split <;> (try split) <;> omega, h1]
  simp only [Option.bind_some, nth0, nthS, asL_l, asI_i]
  rw [nLe_app (by omega), wrap8 h3 (by omega), ← h2]
  rfl
theorem c_sPutNum {lf d : Nat} (hlf : 33554432 ≤ lf) (b : List T) (n : Int) (hb : b.length ≤ 1073741824) : Cc lf (d + 2) 79 [.sl b, .i .i64 n] = some [.sl (b ++ numT (clampN n))] := by
  refine (f79_eq (Cc lf (d + 1)) lf b n).trans ?_
  unfold f79 f79_t
  dsimp only
  have hc := clampN_in n
  have L : ∀ (n : Nat) (x : Int) (l : List T), 0 ≤ x → x ≤ 1000000 → l.length ≤ 1073741827 → f79_0 (Cc lf (d + 1)) lf (n + 1) x l = if 127 < x then f79_0 (Cc lf (d + 1)) lf n (x / 128) (l ++ [by8 (x % 128 + 128)]) else some [T.i .i64 0, T.i .i64 x, T.sl l] := fun n x l h0 h1 hl => by
    rw [f79_0_u]
    unfold f79_0_s
    by_cases h : 127 < x
    · rw [iLt_t h, if_pos h, nLe_app (by omega), and_mod h0 (by omega), or128 (by omega) (by omega), wrap8 (by omega) (by omega), show (7 : Int) = ((7 : Nat) : Int) from rfl, shr_div (by omega) h0]
      rfl
    · rw [iLt_f h, if_neg h]
      rfl
  have L2 : ∀ (n : Nat) (x : Int) (l : List T), 0 ≤ x → x ≤ 1000000 → l.length ≤ 1073741827 → f79_2 (Cc lf (d + 1)) lf (n + 1) x l = if 127 < x then f79_2 (Cc lf (d + 1)) lf n (x / 128) (l ++ [by8 (x % 128 + 128)]) else some [T.i .i64 0, T.i .i64 x, T.sl l] := fun n x l h0 h1 hl => by
    rw [f79_2_u]
    unfold f79_2_s
    by_cases h : 127 < x
    · rw [iLt_t h, if_pos h, nLe_app (by omega), and_mod h0 (by omega), or128 (by omega) (by omega), wrap8 (by omega) (by omega), show (7 : Int) = ((7 : Nat) : Int) from rfl, shr_div (by omega) h0]
      rfl
    · rw [iLt_f h, if_neg h]
      rfl
  rw [nLe_t (show ([] : List T).length + b.length ≤ LIM by unfold LIM; simp; omega), cond_true]
  by_cases hn : 1000000 < n
  · obtain ⟨y, l', h1, h2, h3, h4, h5⟩ := put_loop (F := fun n x l => f79_0 (Cc lf (d + 1)) lf n x l) L (n := lf) (by omega) (x := 1000000) (l := b) (by omega) (by omega) hb
    rw [iLt_t hn, cond_true, List.nil_append, h1]
    simp only [Option.bind_some, nth0, nthS, asL_l, asI_i]
    rw [nLe_app (by omega), wrap8 h3 (by omega), show clampN n = 1000000 by unfold clampN; rw [if_neg (by omega), if_pos (by omega)], ← h2]
    rfl
  · by_cases hm : n < 0
    · rw [iLt_f hn, cond_false, iLt_t hm, cond_true]
      obtain ⟨m, rfl⟩ : ∃ m, lf = m + 1 := ⟨lf - 1, by omega⟩
      show ((some [T.i .i64 0, T.i .i64 0, T.sl (([] : List T) ++ b)] : Option (List T)).bind _) = _
      simp only [Option.bind_some, nth0, nthS, asL_l, asI_i, List.nil_append]
      rw [nLe_app (by omega), show clampN n = 0 by unfold clampN; rw [if_pos hm]]
      rfl
    · obtain ⟨y, l', h1, h2, h3, h4, h5⟩ := put_loop (F := fun n x l => f79_2 (Cc lf (d + 1)) lf n x l) L2 (n := lf) (by omega) (x := n) (l := b) (by omega) (by omega) hb
      rw [iLt_f hn, cond_false, iLt_f hm, cond_false, List.nil_append, h1]
      simp only [Option.bind_some, nth0, nthS, asL_l, asI_i]
      rw [nLe_app (by omega), wrap8 h3 (by omega), clampN_id (by omega) (by omega), ← h2]
      rfl
/-- Is place j right? -/
def placeB (nx : Int) (l : List T) (j : Nat) : Bool :=
  !iLt (asI (T.cell (l.getD j T.u) 0)) 1 && (!iLe nx (asI (T.cell (l.getD j T.u) 0)) && ((iLe 0 (asI (T.cell (l.getD j T.u) 1)) && iLe (asI (T.cell (l.getD j T.u) 1)) 191) && (!iLt 0 (j : Int) || !iLe (asI (T.cell (l.getD j T.u) 0)) (asI (T.cell (l.getD (j - 1) T.u) 0)))))
def mapB (nx : Int) (l : List T) : Bool := allB (placeB nx l) l.length && (iLe (l.length : Int) 30 && (iLe 2 nx && iLe nx 1000))
theorem c_sMapOk {lf d : Nat} (hlf : 33554432 ≤ lf) (nx : Int) (l : List T) (hs : l.length ≤ 16777216) : Cc lf (d + 2) 21 [.st [.i .i64 nx, .sl l]] = some [.b (mapB nx l)] := by
  refine (f21_eq (Cc lf (d + 1)) lf nx l).trans ?_
  unfold f21 f21_t
  dsimp only
  have L := all_loop (F := fun n j => f21_0 (Cc lf (d + 1)) lf l nx n j) (P := placeB nx l) (X := some [T.i .i64 0, T.b false]) (Y := some [T.i .i64 1, T.i .i64 nx, T.sl l]) (len := l.length) (fun n j hj => by
    rw [f21_0_u]
    unfold f21_0_s
    rw [iLt_t (by omega), inR_nat hj, wrap_next hj (by omega)]
    simp only [c_l1In, Option.bind_some, nth0, asB_b, placeB, cond_not, cond_and, cond_or, cond_t, Int.toNat_natCast]
    cases h0 : iLt 0 (j : Int) with
    | true =>
      have hj0 : 0 < j := by have := iLt_iff.1 h0; omega
      rw [wrap_pred hj0 (by omega), inR_nat (by omega)]
      simp only [cond_t, Int.toNat_natCast]
    | false => rfl) (fun n => by
    rw [f21_0_u]
    unfold f21_0_s
    rw [iLt_f (by omega)]
    rfl) (n := lf) (by omega)
  rw [L]
  unfold mapB
  cases allB (placeB nx l) l.length with
  | false => rfl
  | true =>
    simp only [cond_t, Option.bind_some, nth0, nthS, asI_i, asB_b, asL_l, c_l1In]
    rw [show ((1 : Int) == 0) = false from rfl, cond_f]
    cases iLe (l.length : Int) 30 <;> rfl
theorem c_iMapOk {lf d : Nat} (hlf : 33554432 ≤ lf) (nx : Int) (l : List T) (hs : l.length ≤ 16777216) : Cc lf (d + 2) 19 [.st [.i .i64 nx, .sl l]] = some [.b (mapB nx l)] := by
  refine (f19_eq (Cc lf (d + 1)) lf nx l).trans ?_
  unfold f19 f19_t
  dsimp only
  have L := all_loop (F := fun n j => f19_0 (Cc lf (d + 1)) lf l nx n j) (P := placeB nx l) (X := some [T.i .i64 0, T.b false]) (Y := some [T.i .i64 1, T.i .i64 nx, T.sl l]) (len := l.length) (fun n j hj => by
    rw [f19_0_u]
    unfold f19_0_s
    rw [iLt_t (by omega), inR_nat hj, wrap_next hj (by omega)]
    simp only [c_from, Option.bind_some, nth0, asB_b, placeB, cond_not, cond_and, cond_or, cond_t, Int.toNat_natCast]
    cases h0 : iLt 0 (j : Int) with
    | true =>
      have hj0 : 0 < j := by have := iLt_iff.1 h0; omega
      rw [wrap_pred hj0 (by omega), inR_nat (by omega)]
      simp only [cond_t, Int.toNat_natCast]
    | false => rfl) (fun n => by
    rw [f19_0_u]
    unfold f19_0_s
    rw [iLt_f (by omega)]
    rfl) (n := lf) (by omega)
  rw [L]
  unfold mapB
  cases allB (placeB nx l) l.length with
  | false => rfl
  | true =>
    simp only [cond_t, Option.bind_some, nth0, nthS, asI_i, asB_b, asL_l, c_from]
    rw [show ((1 : Int) == 0) = false from rfl, cond_f]
    cases iLe (l.length : Int) 30 <;> cases iLe 2 nx <;> cases iLe nx 1000 <;> rfl
def putPlaces : List T → List T → List T
  | b, [] => b
  | b, x :: l => putPlaces (b ++ numT (clampN (asI (T.cell x 0))) ++ numT (clampN (asI (T.cell x 1)))) l
def putMapT (nx : Int) (l : List T) : List T := putPlaces (numT (clampN nx) ++ numT (clampN (l.length : Int))) l
theorem putPlaces_len : ∀ (l : List T) (b : List T), (putPlaces b l).length ≤ b.length + 6 * l.length
  | [], b => by simp [putPlaces]
  | x :: l, b => by
    have := putPlaces_len l (b ++ numT (clampN (asI (T.cell x 0))) ++ numT (clampN (asI (T.cell x 1))))
    have h1 := numT_len (clampN (asI (T.cell x 0)))
    have h2 := numT_len (clampN (asI (T.cell x 1)))
    simp only [putPlaces, List.length_append, List.length_cons] at this ⊢
    omega
theorem putPlaces_byt : ∀ (l : List T) (b : List T), byt b → byt (putPlaces b l)
  | [], b, h => h
  | x :: l, b, h => putPlaces_byt l _ (byt_app (byt_app h (byt_num (clampN_in _).1 (clampN_in _).2)) (byt_num (clampN_in _).1 (clampN_in _).2))
theorem putPlaces_drop {l : List T} {j : Nat} (h : j < l.length) (b : List T) : putPlaces b (l.drop j) = putPlaces (b ++ numT (clampN (asI (T.cell (l.getD j .u) 0))) ++ numT (clampN (asI (T.cell (l.getD j .u) 1)))) (l.drop (j + 1)) := by
  rw [List.drop_eq_getElem_cons h, List.getD_eq_getElem?_getD, List.getElem?_eq_getElem h]
  rfl
theorem c_sPutMap {lf d : Nat} (hlf : 33554432 ≤ lf) (nx : Int) (l : List T) (hs : l.length ≤ 16777216) : Cc lf (d + 3) 68 [.st [.i .i64 nx, .sl l]] = some [.sl (bif mapB nx l then putMapT nx l else [])] := by
  refine (f68_eq (Cc lf (d + 2)) lf nx l).trans ?_
  unfold f68 f68_t
  dsimp only
  rw [c_sMapOk hlf nx l hs]
  simp only [Option.bind_some, nth0, asB_b]
  cases hm : mapB nx l with
  | false => rfl
  | true =>
    have hl : l.length ≤ 30 := by
      unfold mapB at hm
      simp only [Bool.and_eq_true, iLe_iff] at hm
      omega
    have q1 := numT_len (clampN nx)
    have q2 := numT_len (clampN (l.length : Int))
    have L : ∀ (k j n : Nat) (b : List T), j + k = l.length → k < n → b.length ≤ 1000 + 6 * j → f68_0 (Cc lf (d + 2)) lf l nx n j b = some [T.i .i64 0, T.sl (putPlaces b (l.drop j))] := by
      intro k
      induction k with
      | zero =>
        intro j n b hj hn hb
        obtain ⟨n, rfl⟩ : ∃ m, n = m + 1 := ⟨n - 1, by omega⟩
        rw [f68_0_u]
        unfold f68_0_s
        rw [iLt_f (by omega), List.drop_eq_nil_of_le (by omega)]
        rfl
      | succ k ih =>
        intro j n b hj hn hb
        obtain ⟨n, rfl⟩ : ∃ m, n = m + 1 := ⟨n - 1, by omega⟩
        have hj' : j < l.length := by omega
        rw [f68_0_u]
        unfold f68_0_s
        have r1 := numT_len (clampN (asI (T.cell (l.getD j .u) 0)))
        have r2 := numT_len (clampN (asI (T.cell (l.getD j .u) 1)))
        rw [iLt_t (by omega), inR_nat hj', wrap_next hj' (by omega), putPlaces_drop hj']
        simp only [cond_t, Int.toNat_natCast]
        rw [c_sPutNum hlf _ _ (by omega)]
        simp only [Option.bind_some, nth0, asL_l]
        rw [c_sPutNum hlf _ _ (by rw [List.length_append]; omega)]
        simp only [Option.bind_some, nth0, asL_l]
        exact ih (j + 1) n _ (by omega) (by omega) (by simp only [List.length_append]; omega)
    have L0 := L l.length 0 lf (numT (clampN nx) ++ numT (clampN (l.length : Int))) (by omega) (by omega) (by simp only [List.length_append]; omega)
    simp only [Bool.not_true, cond_f, cond_t]
    rw [c_sPutNum hlf _ _ (by simp)]
    simp only [Option.bind_some, nth0, asL_l, List.nil_append]
    rw [c_sPutNum hlf _ _ (by omega)]
    simp only [Option.bind_some, nth0, asL_l]
    rw [show ((0 : Nat) : Int) = 0 from rfl] at L0
    rw [L0]
    rfl
theorem c_iPutMap {lf d : Nat} (hlf : 33554432 ≤ lf) (nx : Int) (l : List T) (hs : l.length ≤ 16777216) : Cc lf (d + 3) 15 [.st [.i .i64 nx, .sl l]] = some [.sl (bif mapB nx l then putMapT nx l else [])] := by
  refine (f15_eq (Cc lf (d + 2)) lf nx l).trans ?_
  unfold f15 f15_t
  dsimp only
  rw [c_iMapOk hlf nx l hs]
  simp only [Option.bind_some, nth0, asB_b]
  cases hm : mapB nx l with
  | false => rfl
  | true =>
    have hl : l.length ≤ 30 := by
      unfold mapB at hm
      simp only [Bool.and_eq_true, iLe_iff] at hm
      omega
    have q1 := numT_len (clampN nx)
    have q2 := numT_len (clampN (l.length : Int))
    have L : ∀ (k j n : Nat) (b : List T), j + k = l.length → k < n → b.length ≤ 1000 + 6 * j → f15_0 (Cc lf (d + 2)) lf l n j b = some [T.i .i64 0, T.sl (putPlaces b (l.drop j))] := by
      intro k
      induction k with
      | zero =>
        intro j n b hj hn hb
        obtain ⟨n, rfl⟩ : ∃ m, n = m + 1 := ⟨n - 1, by omega⟩
        rw [f15_0_u]
        unfold f15_0_s
        rw [iLt_f (by omega), List.drop_eq_nil_of_le (by omega)]
        rfl
      | succ k ih =>
        intro j n b hj hn hb
        obtain ⟨n, rfl⟩ : ∃ m, n = m + 1 := ⟨n - 1, by omega⟩
        have hj' : j < l.length := by omega
        rw [f15_0_u]
        unfold f15_0_s
        have r1 := numT_len (clampN (asI (T.cell (l.getD j .u) 0)))
        have r2 := numT_len (clampN (asI (T.cell (l.getD j .u) 1)))
        rw [iLt_t (by omega), inR_nat hj', wrap_next hj' (by omega), putPlaces_drop hj']
        simp only [cond_t, Int.toNat_natCast]
        rw [c_iPutNum hlf _ _ (by omega)]
        simp only [Option.bind_some, nth0, asL_l]
        rw [c_iPutNum hlf _ _ (by rw [List.length_append]; omega)]
        simp only [Option.bind_some, nth0, asL_l]
        exact ih (j + 1) n _ (by omega) (by omega) (by simp only [List.length_append]; omega)
    have L0 := L l.length 0 lf (numT (clampN nx) ++ numT (clampN (l.length : Int))) (by omega) (by omega) (by simp only [List.length_append]; omega)
    simp only [Bool.not_true, cond_f, cond_t]
    rw [c_iPutNum hlf _ _ (by simp)]
    simp only [Option.bind_some, nth0, asL_l, List.nil_append]
    rw [c_iPutNum hlf _ _ (by omega)]
    simp only [Option.bind_some, nth0, asL_l]
    rw [show ((0 : Nat) : Int) = 0 from rfl] at L0
    rw [L0]
    rfl
theorem c_sGetNum {lf d : Nat} (hlf : 33554432 ≤ lf) {b : List T} (hb : byt b) (hl : b.length ≤ 1073741824) (p : Nat) (hp : p ≤ 1073741824) : Cc lf (d + 1) 126 [.sl b, .i .i64 (p : Int)] = some (getR (getNum b p)) := by
  refine (f126_eq (Cc lf d) lf b p).trans ?_
  unfold f126 f126_t
  dsimp only
  have B : ∀ j, j < b.length → 0 ≤ asI (b.getD j .u) ∧ asI (b.getD j .u) < 256 := fun j hj => by
    obtain ⟨n, e, h⟩ := byt_at hb hj
    rw [e]; exact h
  have L := getNum_loop (b := b) (p := p) (F := fun n x k => f126_0 (Cc lf d) lf b p n x k) (X := some [T.i .i64 0, T.i .i64 0, T.i .i64 0, T.b false]) (Z := some [T.i .i64 1]) (Y := fun v q => some [T.i .i64 0, T.i .i64 v, T.i .i64 (q : Int), T.b true]) hb (fun n x k hk hpk h0 h1 => by
    have hc := B _ hpk
    have hw : IntKind.wrap .u64 (IntKind.wrap .i64 (7 * (k : Int))) = ((7 * k : Nat) : Int) := by
      rcases (by omega : k = 0 ∨ k = 1 ∨ k = 2) with rfl | rfl | rfl <;> rfl
    have hpw : ((2 ^ (7 * k) : Nat) : Int) = 128 ^ k := by
      rcases (by omega : k = 0 ∨ k = 1 ∨ k = 2) with rfl | rfl | rfl <;> rfl
    rw [f126_0_u]
    unfold f126_0_s
    rw [iLt_t (by omega), iLe_t (by omega), iLt_t (by omega), wrap_in (x := (p : Int) + (k : Int)) (by omega) (by omega), iLt_t (by omega), inR_t (by omega) (by omega), hw, iLe_t (by omega), show ((p : Int) + (k : Int)).toNat = p + k by omega, wrap_in (x := asI (b.getD (p + k) .u)) (by omega) (by omega), and_mod hc.1 (by omega),
      shl_mul (by omega) (by omega) (by omega), or_add (k := 7 * k) h0 (by rw [hpw]; exact h1) (by omega) (by omega) (by omega), hpw, wrap_in (x := (k : Int) + 1) (by omega) (by omega), wrap_in (x := (p : Int) + (k : Int) + 1) (by omega) (by omega)]
    simp only [cond_t]
    by_cases c0 : 128 ≤ asI (b.getD (p + k) .u)
    · rw [iLt_t (by omega), if_pos c0]
      rfl
    · rw [iLt_f (by omega), if_neg c0, Int.emod_eq_of_lt hc.1 (by omega)]
      simp only [cond_f]
      by_cases k0 : k = 0
      · subst k0
        rw [iLt_f (by omega)]
        by_cases m : 1000000 < x + asI (b.getD (p + 0) .u) * 128 ^ 0
        · rw [iLt_t m, if_pos (.inr m)]; rfl
        · rw [iLt_f m, if_neg (by omega)]; rfl
      · rw [iLt_t (by omega)]
        by_cases z : asI (b.getD (p + k) .u) = 0
        · rw [if_pos (.inl ⟨k0, z⟩), z]; rfl
        · rw [show (asI (b.getD (p + k) .u) == 0) = false from by simpa using z]
          by_cases m : 1000000 < x + asI (b.getD (p + k) .u) * 128 ^ k
          · rw [iLt_t m, if_pos (.inr m)]; rfl
          · rw [iLt_f m, if_neg (by rintro (h | h); exact z h.2; exact m h)]; rfl) (fun n x k hk3 hk => by
    rw [f126_0_u]
    unfold f126_0_s
    by_cases k3 : k < 3
    · rw [iLt_t (by omega), iLe_t (by omega)]
      by_cases h : p < b.length
      · rw [iLt_t (by omega), wrap_in (x := (p : Int) + (k : Int)) (by omega) (by omega), iLt_f (by omega)]; rfl
      · rw [iLt_f (by omega)]; rfl
    · rw [iLt_f (by omega)]; rfl) (n := lf) (by omega)
  rcases L with ⟨h1, h2 | h2⟩ | ⟨v, q, h1, h2⟩
  · rw [show ((0 : Nat) : Int) = 0 from rfl] at h2; rw [h1, h2]; rfl
  · rw [show ((0 : Nat) : Int) = 0 from rfl] at h2; rw [h1, h2]; rfl
  · rw [show ((0 : Nat) : Int) = 0 from rfl] at h2; rw [h1, h2]; rfl
theorem c_iGetNum {lf d : Nat} (hlf : 33554432 ≤ lf) {b : List T} (hb : byt b) (hl : b.length ≤ 1073741824) (p : Nat) (hp : p ≤ 1073741824) : Cc lf (d + 1) 125 [.sl b, .i .i64 (p : Int)] = some (getR (getNum b p)) := by
  refine (f125_eq (Cc lf d) lf b p).trans ?_
  unfold f125 f125_t
  dsimp only
  have B : ∀ j, j < b.length → 0 ≤ asI (b.getD j .u) ∧ asI (b.getD j .u) < 256 := fun j hj => by
    obtain ⟨n, e, h⟩ := byt_at hb hj
    rw [e]; exact h
  have L := getNum_loop (b := b) (p := p) (F := fun n x k => f125_0 (Cc lf d) lf b p n x (128 ^ k) k) (X := some [T.i .i64 0]) (Z := some [T.i .i64 0]) (Y := fun v q => some [T.i .i64 1, T.i .i64 v, T.i .i64 (q : Int), T.b true]) hb (fun n x k hk hpk h0 h1 => by
    have hc := B _ hpk
    have hm := Int.emod_nonneg (asI (b.getD (p + k) .u)) (show (128 : Int) ≠ 0 by omega)
    have hm2 := Int.emod_lt_of_pos (asI (b.getD (p + k) .u)) (show (0 : Int) < 128 by omega)
    have hk3 : k = 0 ∨ k = 1 ∨ k = 2 := by omega
    have hpw : 1 ≤ (128 : Int) ^ k ∧ (128 : Int) ^ k ≤ 16384 ∧ (128 : Int) ^ k * 128 = 128 ^ (k + 1) ∧ 0 ≤ asI (b.getD (p + k) .u) % 128 * 128 ^ k ∧ asI (b.getD (p + k) .u) % 128 * 128 ^ k ≤ 2097152 := by
      rcases hk3 with rfl | rfl | rfl
      · refine ⟨by decide, by decide, by decide, ?_, ?_⟩ <;> rw [Int.pow_zero] <;> omega
      · refine ⟨by decide, by decide, by decide, ?_, ?_⟩ <;> rw [Int.pow_one] <;> omega
      · have e : (128 : Int) ^ 2 = 16384 := rfl
        refine ⟨by decide, by decide, by decide, ?_, ?_⟩ <;> rw [e] <;> omega
    rw [f125_0_u]
    unfold f125_0_s
    rw [iLt_t (by omega), wrap_in (x := (b.length : Int) - (k : Int)) (by omega) (by omega), iLt_t (by omega), wrap_in (x := (p : Int) + (k : Int)) (by omega) (by omega), inR_t (by omega) (by omega), show ((p : Int) + (k : Int)).toNat = p + k by omega, wrap_in (x := asI (b.getD (p + k) .u)) (by omega) (by omega), Int.tmod_eq_emod_of_nonneg hc.1,
      wrap_in (x := asI (b.getD (p + k) .u) % 128 * 128 ^ k) (by omega) (by omega), wrap_in (x := x + asI (b.getD (p + k) .u) % 128 * 128 ^ k) (by omega) (by omega), wrap_in (x := (128 : Int) ^ k * 128) (by omega) (by omega), hpw.2.2.1, wrap_in (x := (k : Int) + 1) (by omega) (by omega), wrap_in (x := (p : Int) + (k : Int) + 1) (by omega) (by omega)]
    simp only [cond_t]
    by_cases c0 : 128 ≤ asI (b.getD (p + k) .u)
    · rw [iLe_t c0, if_pos c0]
      rfl
    · rw [iLe_f c0, if_neg c0, Int.emod_eq_of_lt hc.1 (by omega)]
      simp only [cond_f]
      by_cases m : 1000000 < x + asI (b.getD (p + k) .u) * 128 ^ k
      · rw [iLt_t m, if_pos (.inr m)]; rfl
      · rw [iLt_f m]
        by_cases z : asI (b.getD (p + k) .u) = 0
        · by_cases k0 : k = 0
          · subst k0
            rw [if_neg (by omega), iLt_f (by omega), show (asI (b.getD (p + 0) .u) == 0) = true by rw [z]; rfl]; rfl
          · rw [if_pos (.inl ⟨k0, z⟩), iLt_t (by omega), show (asI (b.getD (p + k) .u) == 0) = true by rw [z]; rfl]; rfl
        · rw [if_neg (by rintro (h | h); exact z h.2; exact m h), show (asI (b.getD (p + k) .u) == 0) = false from by simpa using z]; rfl) (fun n x k hk3 hk => by
    rw [f125_0_u]
    unfold f125_0_s
    by_cases k3 : k < 3
    · rw [iLt_t (by omega), wrap_in (x := (b.length : Int) - (k : Int)) (by omega) (by omega), iLt_f (by omega)]; rfl
    · rw [iLt_f (by omega)]; rfl) (n := lf) (by omega)
  rw [iLt_f (by omega), cond_f]
  rcases L with ⟨h1, h2 | h2⟩ | ⟨v, q, h1, h2⟩
  · rw [Int.pow_zero, show ((0 : Nat) : Int) = 0 from rfl] at h2; rw [h1, h2]; rfl
  · rw [Int.pow_zero, show ((0 : Nat) : Int) = 0 from rfl] at h2; rw [h1, h2]; rfl
  · rw [Int.pow_zero, show ((0 : Nat) : Int) = 0 from rfl] at h2; rw [h1, h2]; rfl
theorem c_iNum {lf d : Nat} (hlf : 33554432 ≤ lf) {b : List T} (hb : byt b) (hl : b.length ≤ 1073741824) {s : Option Nat} {p : Int} {ok : Bool} (h : RI b s p ok) :
    ∃ p' ok', Cc lf (d + 2) 72 [.st [.sl b, .i .i64 p, .b ok]] = some [.i .i64 (rd b s).1, .st [.sl b, .i .i64 p', .b ok']] ∧ RI b (rd b s).2 p' ok' := by
  have E := f72_eq (Cc lf (d + 1)) lf b p ok
  unfold f72 f72_t at E
  obtain ⟨rfl, h2⟩ := h
  cases s with
  | none => exact ⟨p, false, E, rfl, fun q hq => by cases hq⟩
  | some q =>
    obtain ⟨rfl, hq⟩ := h2 q rfl
    rw [c_iGetNum hlf hb hl q (by omega)] at E
    simp only [rd]
    cases e : getNum b q with
    | none => rw [e] at E; exact ⟨0, false, E, rfl, fun q hq => by cases hq⟩
    | some x =>
      obtain ⟨n, q2⟩ := x
      rw [e] at E
      exact ⟨q2, true, E, rfl, fun q hq => by cases hq; exact ⟨rfl, (getNum_in hb e).2.2.2⟩⟩
theorem c_sNum {lf d : Nat} (hlf : 33554432 ≤ lf) {b : List T} (hb : byt b) (hl : b.length ≤ 1073741824) {s : Option Nat} {p : Int} {bad : Bool} (h : RS b s p bad) :
    ∃ p' bad', Cc lf (d + 2) 75 [.st [.sl b, .i .i64 p, .b bad]] = some [.i .i64 (rd b s).1, .st [.sl b, .i .i64 p', .b bad']] ∧ RS b (rd b s).2 p' bad' := by
  have E := f75_eq (Cc lf (d + 1)) lf b p bad
  unfold f75 f75_t at E
  obtain ⟨rfl, h2, q0, rfl, hq0⟩ := h
  rw [c_sGetNum hlf hb hl q0 (by omega)] at E
  cases s with
  | none => exact ⟨q0, true, E, rfl, (fun q hq => by cases hq), q0, rfl, hq0⟩
  | some q =>
    have e0 : q0 = q := by have := h2 q rfl; omega
    subst e0
    simp only [rd]
    cases e : getNum b q0 with
    | none => rw [e] at E; exact ⟨q0, true, E, rfl, (fun q hq => by cases hq), q0, rfl, hq0⟩
    | some x =>
      obtain ⟨n, q2⟩ := x
      rw [e] at E
      exact ⟨q2, false, E, rfl, (fun q hq => by cases hq; rfl), q2, rfl, (getNum_in hb e).2.2.2⟩
theorem c_iCount {lf d : Nat} (hlf : 33554432 ≤ lf) {b : List T} (hb : byt b) (hl : b.length ≤ 1073741824) {s : Option Nat} {p : Int} {ok : Bool} (h : RI b s p ok) :
    ∃ p' ok', Cc lf (d + 3) 73 [.st [.sl b, .i .i64 p, .b ok]] = some [.i .i64 (rdC b s).1, .st [.sl b, .i .i64 p', .b ok']] ∧ RI b (rdC b s).2 p' ok' := by
  have E := f73_eq (Cc lf (d + 2)) lf b p ok
  unfold f73 f73_t at E
  obtain ⟨p', ok', h1, h2⟩ := c_iNum (d := d) hlf hb hl h
  rw [h1] at E
  simp only [Option.bind_some, nth0, nthS, asI_i, asB_b, cell0, cellS] at E
  obtain ⟨rfl, h3⟩ := h2
  have hz := @rd_zero b s
  unfold rdC
  generalize hr : rd b s = r at *
  obtain ⟨n, s'⟩ := r
  cases s' with
  | none =>
    have : n = 0 := hz rfl
    subst this
    cases c : iLt (IntKind.wrap .i64 ((b.length : Int) - p')) 0 with
    | true => rw [c] at E; exact ⟨p', false, E, rfl, fun q hq => by cases hq⟩
    | false => rw [c] at E; exact ⟨p', false, E, rfl, fun q hq => by cases hq⟩
  | some q =>
    obtain ⟨rfl, hq⟩ := h3 q rfl
    rw [wrap_in (by omega) (by omega)] at E
    simp only
    by_cases c : n > (b.length : Int) - q
    · rw [iLt_t c] at E
      rw [if_pos c]
      exact ⟨q, false, E, rfl, fun q hq => by cases hq⟩
    · rw [iLt_f c] at E
      rw [if_neg c]
      exact ⟨q, true, E, rfl, fun q2 hq2 => by cases hq2; exact ⟨rfl, hq⟩⟩
theorem c_iDone {lf d : Nat} {b : List T} {s : Option Nat} {p : Int} {ok : Bool} (h : RI b s p ok) :
    ∃ t, Cc lf (d + 1) 74 [.st [.sl b, .i .i64 p, .b ok]] = some [.b (s == some b.length), t] := by
  have E := f74_eq (Cc lf d) lf b p ok
  unfold f74 f74_t at E
  obtain ⟨rfl, h2⟩ := h
  cases s with
  | none => exact ⟨_, E⟩
  | some q =>
    obtain ⟨rfl, _⟩ := h2 q rfl
    have e : ((q : Int) == (b.length : Int)) = (some q == some b.length) := by
      rw [Bool.eq_iff_iff]
      simp
      omega
    exact ⟨_, by rw [← e]; exact E⟩
def gPlace (b : List T) (s : Option Nat) : T × Option Nat := (.st [.i .i64 (rd b s).1, .i .i64 (rd b (rd b s).2).1], (rd b (rd b s).2).2)
theorem gPlace_next {b : List T} (hb : byt b) (p q : Nat) (h : (gPlace b (some p)).2 = some q) : p < q ∧ q ≤ b.length := by
  unfold gPlace at h
  obtain ⟨p1, e1, h1, h2, _⟩ := rd_next hb h
  obtain ⟨p2, e2, h3, h4, _⟩ := rd_next hb e1
  cases e2
  omega
/-- The map that bytes are. -/
def getMapB (b : List T) : Option (Int × List T) :=
  match (rdC b (rd b (some 0)).2) with
  | (n, s) => match itemsI (gPlace b) n.toNat s with
    | (ps, s3) => bif s3 == some b.length && mapB (rd b (some 0)).1 ps then some ((rd b (some 0)).1, ps) else none
def getMapR : Option (Int × List T) → List T
  | some (n, ps) => [.st [.i .i64 n, .sl ps], .b true]
  | none => [.st [.i .i64 0, .sl []], .b false]
theorem mapB_len {n : Int} {l : List T} (h : mapB n l = true) : l.length ≤ 30 := by
  unfold mapB at h
  simp only [Bool.and_eq_true, iLe_iff] at h
  omega
theorem c_iGetMap {lf d : Nat} (hlf : 33554432 ≤ lf) {b : List T} (hb : byt b) (hl : b.length ≤ 1073741824) : Cc lf (d + 4) 17 [.sl b] = some (getMapR (getMapB b)) := by
  refine (f17_eq (Cc lf (d + 3)) lf b).trans ?_
  unfold f17 f17_t
  dsimp only
  obtain ⟨p1, ok1, e1, R1⟩ := c_iNum (d := d + 1) (s := some 0) (p := 0) (ok := true) hlf hb hl ⟨rfl, fun q hq => by cases hq; exact ⟨rfl, Nat.zero_le _⟩⟩
  obtain ⟨p2, ok2, e2, R2⟩ := c_iCount (d := d) hlf hb hl R1
  rw [e1]
  simp only [Option.bind_some, nth0, nthS, asI_i, asB_b, cell0, cellS]
  rw [e2]
  simp only [Option.bind_some, nth0, nthS, asI_i, asB_b, cell0, cellS]
  have hc := rdC_in hb (rd b (some 0)).2
  obtain ⟨N, hN⟩ := Int.eq_ofNat_of_zero_le hc.1
  obtain ⟨p3, ok3, e3, R3⟩ := loopI (g := gPlace b) (b := b) (N := N) (F := fun n j p ok acc => f17_0 (Cc lf (d + 3)) lf b [T.i .i64 (rd b (some 0)).1, T.st [T.sl b, T.i .i64 p1, T.b ok1]] [T.i .i64 (rdC b (rd b (some 0)).2).1, T.st [T.sl b, T.i .i64 p2, T.b ok2]] n j p ok acc)
    (Y := fun p ok acc => some [T.i .i64 0, T.i .i64 0, T.sl ([] : List T), T.sl b, T.i .i64 p, T.b ok, T.i .i64 (rd b (some 0)).1, T.sl acc]) (by omega) (fun n j p ok acc s hj hR ha => by
      obtain ⟨p', ok', q1, Q1⟩ := c_iNum (d := d + 1) hlf hb hl hR
      obtain ⟨p'', ok'', q2, Q2⟩ := c_iNum (d := d + 1) hlf hb hl Q1
      refine ⟨p'', ok'', ?_, Q2⟩
      rw [f17_0_u]
      unfold f17_0_s
      rw [nth0, asI_i, hN, iLt_t (by omega), q1]
      simp only [cond_t, Option.bind_some, nth0, nthS, asI_i, asB_b, cell0, cellS]
      rw [q2]
      simp only [cond_t, Option.bind_some, nth0, nthS, asI_i, asB_b, cell0, cellS]
      rw [nLe_app (by omega), cond_t, wrap_in (by omega) (by omega)]
      rfl) (fun n p ok acc => by
      rw [f17_0_u]
      unfold f17_0_s
      rw [nth0, asI_i, hN, iLt_f (by omega)]
      rfl) (n := lf) (by omega) R2
  rw [e3]
  simp only [Option.bind_some, nth0, nthS, asI_i, asB_b, asL_l, cell0, cellS]
  obtain ⟨t, e4⟩ := c_iDone (lf := lf) (d := d + 2) R3
  rw [e4]
  simp only [Option.bind_some, nth0, nthS, asI_i, asB_b]
  have hlen := itemsI_len (g := gPlace b) N (rdC b (rd b (some 0)).2).2
  rw [c_iMapOk (d := d + 1) hlf _ _ (by omega)]
  simp only [Option.bind_some, nth0, asB_b]
  unfold getMapB
  simp only [hN, Int.toNat_natCast]
  cases (itemsI (gPlace b) N (rdC b (rd b (some 0)).2).2).2 == some b.length with
  | false => rfl
  | true =>
    cases mapB (rd b (some 0)).1 (itemsI (gPlace b) N (rdC b (rd b (some 0)).2).2).1 with
    | false => rfl
    | true => rfl
theorem c_sGetMap {lf d : Nat} (hlf : 33554432 ≤ lf) {b : List T} (hb : byt b) (hl : b.length ≤ 1073741824) : Cc lf (d + 4) 18 [.sl b] = some (getMapR (getMapB b)) := by
  refine (f18_eq (Cc lf (d + 3)) lf b).trans ?_
  unfold f18 f18_t
  dsimp only
  obtain ⟨p1, ok1, e1, R1⟩ := c_sNum (d := d + 1) (s := some 0) (p := 0) (bad := false) hlf hb hl ⟨rfl, (fun q hq => by cases hq; rfl), 0, rfl, Nat.zero_le _⟩
  obtain ⟨p2, ok2, e2, R2⟩ := c_sNum (d := d + 1) hlf hb hl R1
  rw [e1]
  simp only [Option.bind_some, nth0, nthS, asI_i, asB_b, cell0, cellS]
  rw [e2]
  simp only [Option.bind_some, nth0, nthS, asI_i, asB_b, cell0, cellS]
  have hc := rd_in hb (rd b (some 0)).2
  obtain ⟨N, hN⟩ := Int.eq_ofNat_of_zero_le hc.1
  obtain ⟨p3, ok3, e3, R3⟩ := loopS (g := gPlace b) (b := b) (K := min N (30 + 1)) (F := fun n j p bad acc => f18_0 (Cc lf (d + 3)) lf b [T.i .i64 (rd b (some 0)).1, T.st [T.sl b, T.i .i64 p1, T.b ok1]] [T.i .i64 (rd b (rd b (some 0)).2).1, T.st [T.sl b, T.i .i64 p2, T.b ok2]] n j p bad acc)
    (Y := fun p bad acc => some [T.i .i64 0, T.sl b, T.i .i64 (N : Int), T.i .i64 0, T.sl ([] : List T), T.sl b, T.i .i64 p, T.b bad, T.i .i64 (rd b (some 0)).1, T.sl acc]) (by omega) (fun n j p bad acc s hj hR ha => by
      obtain ⟨p', ok', q1, Q1⟩ := c_sNum (d := d + 1) hlf hb hl hR
      obtain ⟨p'', ok'', q2, Q2⟩ := c_sNum (d := d + 1) hlf hb hl Q1
      refine ⟨p'', ok'', ?_, Q2⟩
      have hbad : bad = false := hR.1
      subst hbad
      rw [f18_0_u]
      unfold f18_0_s
      rw [nth0, asI_i, hN, iLt_t (by omega), iLe_t (by omega), q1]
      simp only [cond_t, cond_f, Bool.not_false, Option.bind_some, nth0, nthS, asI_i, asB_b, cell0, cellS]
      rw [q2]
      simp only [cond_t, Option.bind_some, nth0, nthS, asI_i, asB_b, cell0, cellS]
      rw [nLe_app (by omega), cond_t, wrap_in (by omega) (by omega)]
      rfl) (fun n j p bad acc s hj hR hx => by
      rw [f18_0_u]
      unfold f18_0_s
      rw [nth0, asI_i, hN]
      by_cases c1 : j < N
      · rw [iLt_t (by omega)]
        by_cases c2 : j ≤ 30
        · have hs : s = none := by rcases hx with h | h; omega; exact h
          have hbad : bad = true := by rw [hR.1, hs]; rfl
          subst hbad
          rw [iLe_t (by omega)]
          rfl
        · rw [iLe_f (by omega)]; rfl
      · rw [iLt_f (by omega)]; rfl) (n := lf) (by omega) R2
  rw [e3]
  simp only [Option.bind_some, nth0, nthS, asI_i, asB_b, asL_l, cell0, cellS]
  have hlen := itemsS_len (g := gPlace b) (min N (30 + 1)) (rd b (rd b (some 0)).2).2
  rw [c_sMapOk (d := d + 1) hlf _ _ (by omega)]
  simp only [Option.bind_some, nth0, asB_b]
  -- the two readers
  have hno : (gPlace b none).2 = none := rfl
  obtain ⟨hbad, hat, q3, hq3, hq3l⟩ := R3
  unfold getMapB
  cases hs2 : (rd b (rd b (some 0)).2).2 with
  | none =>
    have hcnt : rdC b (rd b (some 0)).2 = (0, none) := by
      unfold rdC
      generalize hr : rd b (rd b (some 0)).2 = r at *
      obtain ⟨n, s'⟩ := r
      simp only at hs2
      subst hs2
      rfl
    have hS : (itemsS (gPlace b) (min N (30 + 1)) none).2 = none := by cases min N (30 + 1) <;> rfl
    rw [hs2] at hbad
    rw [hS] at hbad
    rw [hcnt, hbad]
    rfl
  | some p =>
    obtain ⟨p0, hp0, _, hpl, _⟩ := rd_next hb hs2
    rw [hs2] at hbad hat
    have hrd : rd b (rd b (some 0)).2 = ((N : Int), some p) := by rw [← hN, ← hs2]
    rcases list_rel (g := gPlace b) (b := b) hno (gPlace_next hb) 30 N p hpl with ⟨ps, q, h1, h2, h3, h4, h5⟩ | ⟨h1, h2⟩
    · have hcnt : rdC b (rd b (some 0)).2 = ((N : Int), some p) := by
        unfold rdC
        rw [hrd]
        simp only
        rw [if_neg (by omega)]
      rw [h3] at hbad hat
      have hat := hat q rfl
      subst hat
      rw [hbad, h3, hcnt]
      simp only [Int.toNat_natCast, h2, Option.isNone_some, cond_f]
      have hne : ((N : Int) != (ps.length : Int)) = false := by rw [h4]; simp
      rw [hne]
      have e5 : (some q == some b.length) = ((q : Int) == (b.length : Int)) := by
        rw [Bool.eq_iff_iff]
        simp
        omega
      rw [e5]
      cases e6 : ((q : Int) == (b.length : Int)) with
      | false => simp only [bne, e6]; rfl
      | true =>
        simp only [bne, e6]
        cases mapB (rd b (some 0)).1 ps <;> rfl
    · have hI : (match rdC b (rd b (some 0)).2 with | (n, s) => match itemsI (gPlace b) n.toNat s with | (ps, s3) => bif s3 == some b.length && mapB (rd b (some 0)).1 ps then some ((rd b (some 0)).1, ps) else none) = none := by
        by_cases hc : (N : Int) > (b.length : Int) - p
        · have hcnt : rdC b (rd b (some 0)).2 = (0, none) := by
            unfold rdC
            rw [hrd]
            simp only
            rw [if_pos hc]
          rw [hcnt]
          rfl
        · have hcnt : rdC b (rd b (some 0)).2 = ((N : Int), some p) := by
            unfold rdC
            rw [hrd]
            simp only
            rw [if_neg hc]
          rw [hcnt]
          simp only [Int.toNat_natCast]
          rcases h1 with h1 | h1 | h1
          · omega
          · rw [h1]; rfl
          · cases hm : mapB (rd b (some 0)).1 (itemsI (gPlace b) N (some p)).1 with
            | true => have := mapB_len hm; omega
            | false => rw [Bool.and_false]; rfl
      rw [hI, hbad]
      rcases h2 with h2 | h2
      · rw [h2]; rfl
      · have hne : ((N : Int) != ((itemsS (gPlace b) (min N (30 + 1)) (some p)).1.length : Int)) = true := by
          simp only [bne_iff_ne, ne_eq]
          omega
        rw [hne]
        cases (itemsS (gPlace b) (min N (30 + 1)) (some p)).2.isNone with
        | true => rfl
        | false => cases (p3 != (b.length : Int)) <;> rfl
theorem and_255 (x : Int) : 0 ≤ intBits .and .i64 x 255 ∧ intBits .and .i64 x 255 ≤ 255 := by
  have h : intBits .and .i64 x 255 = IntKind.wrap .i64 (((BitVec.ofInt 64 x &&& BitVec.ofInt 64 255).toNat : Nat) : Int) := rfl
  have h2 : (BitVec.ofInt 64 x &&& BitVec.ofInt 64 255).toNat ≤ 255 := by
    rw [BitVec.toNat_and, toNat_ofInt64 (x := 255) (by omega) (by omega)]
    exact Nat.and_le_right
  rw [h, wrap_in (by omega) (by omega)]
  omega
theorem c_new {lf d : Nat} (hlf : 33554432 ≤ lf) {b : List T} (hl : b.length ≤ 1048576) : ∃ h, Cc lf (d + 1) 65 [.sl b] = some [.st [.sl b, .i .i64 0, .i .i64 h]] := by
  have E := f65_eq (Cc lf d) lf b
  unfold f65 f65_t at E
  dsimp only at E
  have L : ∀ (k j n : Nat) (h : Int), j + k = b.length → k < n → ∃ h', f65_0 (Cc lf d) lf b n h j = some [T.i .i64 0, T.sl b, T.i .i64 h'] := by
    intro k
    induction k with
    | zero =>
      intro j n h hj hn
      obtain ⟨n, rfl⟩ : ∃ m, n = m + 1 := ⟨n - 1, by omega⟩
      refine ⟨h, ?_⟩
      rw [f65_0_u]
      unfold f65_0_s
      rw [iLt_f (by omega)]
      rfl
    | succ k ih =>
      intro j n h hj hn
      obtain ⟨n, rfl⟩ : ∃ m, n = m + 1 := ⟨n - 1, by omega⟩
      rw [f65_0_u]
      unfold f65_0_s
      rw [iLt_t (show (j : Int) < (b.length : Int) by omega), inR_nat (by omega), wrap_next (show j < b.length by omega) (by omega)]
      simp only [cond_t]
      cases iLt (j : Int) 4000 with
      | false => exact ⟨h, rfl⟩
      | true => exact ih (j + 1) n _ (by omega) (by omega)
  obtain ⟨h', e⟩ := L b.length 0 lf (IntKind.wrap .i64 (351351 + (b.length : Int))) (by omega) (by omega)
  rw [show ((0 : Nat) : Int) = 0 from rfl] at e
  rw [e] at E
  exact ⟨h', E⟩
theorem c_byte {lf d : Nat} {b : List T} (hl : b.length ≤ 1048576) (i h : Int) (hi : 0 ≤ i ∧ i ≤ b.length) : ∃ x i' h', Cc lf (d + 1) 124 [.st [.sl b, .i .i64 i, .i .i64 h]] = some [.i .i64 x, .st [.sl b, .i .i64 i', .i .i64 h']] ∧ (0 ≤ x ∧ x ≤ 255) ∧ (0 ≤ i' ∧ i' ≤ b.length) := by
  have E := f124_eq (Cc lf d) lf b i h
  unfold f124 f124_t at E
  obtain ⟨k, rfl⟩ := Int.eq_ofNat_of_zero_le hi.1
  by_cases c : k < b.length
  · rw [iLt_t (by omega), inR_nat c, wrap_in (x := (k : Int) + 1) (by omega) (by omega)] at E
    exact ⟨_, _, _, E, and_255 _, by omega⟩
  · rw [iLt_f (by omega)] at E
    exact ⟨_, _, _, E, and_255 _, by omega⟩
theorem c_below {lf d : Nat} {b : List T} (hl : b.length ≤ 1048576) (i h : Int) (hi : 0 ≤ i ∧ i ≤ b.length) (n : Int) : ∃ x i' h', Cc lf (d + 2) 70 [.st [.sl b, .i .i64 i, .i .i64 h], .i .i64 n] = some [.i .i64 x, .st [.sl b, .i .i64 i', .i .i64 h']] ∧ (0 ≤ x ∧ (x < n ∨ n ≤ 0 ∧ x = 0)) ∧ (0 ≤ i' ∧ i' ≤ b.length) := by
  have E := f70_eq (Cc lf (d + 1)) lf b i h n
  unfold f70 f70_t at E
  by_cases c : n ≤ 0
  · rw [iLe_t c] at E
    exact ⟨0, i, h, E, ⟨Int.le_refl _, .inr ⟨c, rfl⟩⟩, hi⟩
  · rw [iLe_f c] at E
    have hne : (n != 0) = true := by rw [bne_iff_ne]; omega
    obtain ⟨x, i1, h1, e1, r1, q1⟩ := c_byte (lf := lf) (d := d) hl i h hi
    rw [e1, hne] at E
    simp only [cond_f, cond_t, Option.bind_some, nth0, nthS, asI_i, cell0, cellS] at E
    by_cases c2 : n ≤ 256
    · rw [iLe_t c2] at E
      exact ⟨_, _, _, E, ⟨Int.tmod_nonneg _ r1.1, .inl (Int.tmod_lt_of_pos _ (by omega))⟩, q1⟩
    · rw [iLe_f c2] at E
      obtain ⟨y, i2, h2, e2, r2, q2⟩ := c_byte (lf := lf) (d := d) hl i1 h1 q1
      obtain ⟨z, i3, h3, e3, r3, q3⟩ := c_byte (lf := lf) (d := d) hl i2 h2 q2
      rw [e2] at E
      simp only [cond_f, cond_t, Option.bind_some, nth0, nthS, asI_i, cell0, cellS] at E
      rw [e3] at E
      simp only [cond_f, cond_t, Option.bind_some, nth0, nthS, asI_i, cell0, cellS] at E
      rw [wrap_in (x := x * 65536) (by omega) (by omega), wrap_in (x := y * 256) (by omega) (by omega), wrap_in (x := x * 65536 + y * 256) (by omega) (by omega), wrap_in (x := x * 65536 + y * 256 + z) (by omega) (by omega)] at E
      exact ⟨_, _, _, E, ⟨Int.tmod_nonneg _ (by omega), .inl (Int.tmod_lt_of_pos _ (by omega))⟩, q3⟩
theorem c_once {lf d : Nat} {b : List T} (hl : b.length ≤ 1048576) (i h : Int) (hi : 0 ≤ i ∧ i ≤ b.length) (n : Int) : ∃ (x : Bool) (i' h' : Int), Cc lf (d + 3) 118 [.st [.sl b, .i .i64 i, .i .i64 h], .i .i64 n] = some [.b x, .st [.sl b, .i .i64 i', .i .i64 h']] ∧ (0 ≤ i' ∧ i' ≤ b.length) := by
  have E := f118_eq (Cc lf (d + 2)) lf b i h n
  unfold f118 f118_t at E
  obtain ⟨x, i1, h1, e1, _, q1⟩ := c_below (lf := lf) (d := d) hl i h hi n
  rw [e1] at E
  exact ⟨_, _, _, E, q1⟩
theorem c_int {lf d : Nat} {b : List T} (hl : b.length ≤ 1048576) (i h : Int) (hi : 0 ≤ i ∧ i ≤ b.length) (l : List T) (h0 : 0 < l.length) : ∃ (k : Nat) (i' h' : Int), k < l.length ∧ Cc lf (d + 3) 71 [.st [.sl b, .i .i64 i, .i .i64 h], .sl l] = some [.i .i64 (asI (l.getD k T.u)), .st [.sl b, .i .i64 i', .i .i64 h']] ∧ (0 ≤ i' ∧ i' ≤ b.length) := by
  have E := f71_eq (Cc lf (d + 2)) lf b i h l
  unfold f71 f71_t at E
  obtain ⟨x, i1, h1, e1, r1, q1⟩ := c_below (lf := lf) (d := d) hl i h hi (l.length : Int)
  obtain ⟨k, rfl⟩ := Int.eq_ofNat_of_zero_le r1.1
  rw [e1] at E
  simp only [Option.bind_some, nth0, nthS, asI_i, cell0, cellS] at E
  rw [inR_nat (by omega)] at E
  exact ⟨k, i1, h1, by omega, E, q1⟩
theorem byt_set {l : List T} (h : byt l) (k : Nat) (v : Int) : byt (l.set k (.i .u8 (IntKind.wrap .u8 v))) := by
  intro x hx
  rcases List.mem_or_eq_of_mem_set hx with hx | rfl
  · exact h x hx
  · refine ⟨_, rfl, ?_⟩
    rw [IntKind.wrap_u8]
    omega
theorem c_big {lf d : Nat} (b : List T) : Cc lf (d + 1) 13 [.sl b] = some [.b (iLt 1048576 (b.length : Int))] := by
  refine (f13_eq (Cc lf d) lf b).trans ?_
  rfl
def prPlace (x : T) : List T := numT (clampN (asI (T.cell x 0))) ++ numT (clampN (asI (T.cell x 1)))
theorem putPlaces_flat : ∀ (l b : List T), putPlaces b l = b ++ flatT prPlace l
  | [], b => by rw [putPlaces, flatT, List.append_nil]
  | x :: l, b => by rw [putPlaces, putPlaces_flat l, flatT, prPlace]; simp only [List.append_assoc]
/-- A map's places, as trees. -/
def plT (l : List T) : Prop := ∀ x ∈ l, ∃ a c, x = .st [.i .i64 a, .i .i64 c]
theorem placeB_in {nx : Int} {l : List T} {j : Nat} (h : placeB nx l j = true) : 1 ≤ asI (T.cell (l.getD j T.u) 0) ∧ asI (T.cell (l.getD j T.u) 0) < nx ∧ 0 ≤ asI (T.cell (l.getD j T.u) 1) ∧ asI (T.cell (l.getD j T.u) 1) ≤ 191 ∧ (0 < j → asI (T.cell (l.getD (j - 1) T.u) 0) < asI (T.cell (l.getD j T.u) 0)) := by
  unfold placeB at h
  simp only [Bool.and_eq_true, Bool.or_eq_true, Bool.not_eq_true', iLe_iff] at h
  obtain ⟨h1, h2, ⟨h3, h4⟩, h5⟩ := h
  have h1 : ¬ asI (T.cell (l.getD j T.u) 0) < 1 := fun e => by rw [iLt_t e] at h1; cases h1
  have h2 : ¬ nx ≤ asI (T.cell (l.getD j T.u) 0) := fun e => by rw [iLe_t e] at h2; cases h2
  refine ⟨by omega, by omega, h3, h4, fun hj => ?_⟩
  rcases h5 with h5 | h5
  · rw [iLt_t (show (0 : Int) < (j : Int) by omega)] at h5; cases h5
  · have : ¬ asI (T.cell (l.getD j T.u) 0) ≤ asI (T.cell (l.getD (j - 1) T.u) 0) := fun e => by rw [iLe_t e] at h5; cases h5
    omega
theorem mapB_in {nx : Int} {l : List T} (h : mapB nx l = true) : (∀ j, j < l.length → placeB nx l j = true) ∧ l.length ≤ 30 ∧ 2 ≤ nx ∧ nx ≤ 1000 := by
  unfold mapB at h
  simp only [Bool.and_eq_true, iLe_iff] at h
  exact ⟨allB_iff.1 h.1, by omega, h.2.2.1, h.2.2.2⟩
theorem flat_len : ∀ (l : List T), l.length ≤ (flatT prPlace l).length
  | [] => Nat.le_refl _
  | x :: l => by
    have h1 := numT_pos (clampN (asI (T.cell x 0)))
    have h2 := flat_len l
    simp only [flatT, prPlace, List.length_append, List.length_cons]
    omega
/-- A map that is right comes back of its bytes. -/
theorem map_put {nx : Int} {l : List T} (h : mapB nx l = true) (hp : plT l) : getMapB (putMapT nx l) = some (nx, l) := by
  obtain ⟨h1, h2, h3, h4⟩ := mapB_in h
  have hb0 : putMapT nx l = numT nx ++ (numT (l.length : Int) ++ (flatT prPlace l ++ [])) := by
    unfold putMapT
    rw [putPlaces_flat, clampN_id (by omega) (by omega), clampN_id (n := (l.length : Int)) (by omega) (by omega), List.append_nil, List.append_assoc]
  generalize hb : putMapT nx l = b at hb0 ⊢
  have A0 := at_zero b
  rw [hb0] at A0
  rw [← hb0] at A0
  have A0 : At b (some 0) (numT nx ++ (numT (l.length : Int) ++ (flatT prPlace l ++ []))) := by rw [← hb0]; exact at_zero b
  obtain ⟨e1, A1⟩ := rd_put A0 (by omega) (by omega)
  have hfl := flat_len l
  obtain ⟨e2, A2⟩ := rdC_put A1 (by omega) (by omega) (by rw [List.append_nil]; omega)
  obtain ⟨e3, A3⟩ := items_put (b := b) (g := gPlace b) (pr := prPlace) l _ [] (fun x hx s rest hA => by
    obtain ⟨j, hj, rfl⟩ := List.getElem_of_mem hx
    have hin := placeB_in (h1 j hj)
    have e : l.getD j T.u = l[j] := by rw [List.getD_eq_getElem?_getD, List.getElem?_eq_getElem hj]; rfl
    rw [e] at hin
    obtain ⟨a, c, hx2⟩ := hp _ hx
    rw [hx2] at hin hA ⊢
    simp only [T.cell, List.getD_cons_zero, List.getD_cons_succ, asI_i] at hin
    have hA : At b s (numT (clampN a) ++ numT (clampN c) ++ rest) := hA
    rw [clampN_id (by omega) (by omega), clampN_id (by omega) (by omega), List.append_assoc] at hA
    obtain ⟨f1, B1⟩ := rd_put hA (by omega) (by omega)
    obtain ⟨f2, B2⟩ := rd_put B1 (by omega) (by omega)
    unfold gPlace
    rw [f1, f2]
    exact ⟨rfl, B2⟩) A2
  unfold getMapB
  generalize hr : rdC b (rd b (some 0)).2 = r at *
  obtain ⟨N, s⟩ := r
  simp only at e2 A2 e3 A3 ⊢
  subst e2
  rw [Int.toNat_natCast]
  generalize hi : itemsI (gPlace b) l.length s = it at *
  obtain ⟨ps, s3⟩ := it
  simp only at e3 A3 ⊢
  subst e3
  rw [(at_end A3).2 rfl, e1, h]
  rfl
/-- What is read as a map has these bytes. -/
theorem map_of {b : List T} (hb : byt b) {nx : Int} {l : List T} (h : getMapB b = some (nx, l)) : mapB nx l = true ∧ putMapT nx l = b := by
  unfold getMapB at h
  have hn := rd_in hb (some 0)
  have hc := rdC_in hb (rd b (some 0)).2
  have A0 := at_zero b
  have hlen := itemsI_len (g := gPlace b) (rdC b (rd b (some 0)).2).1.toNat (rdC b (rd b (some 0)).2).2
  have R1 := @rd_of b hb (some 0) b A0
  have R2 := fun R hA => @rdC_of b hb (rd b (some 0)).2 R hA
  have hback := @rdC_back b (rd b (some 0)).2
  have hI := @items_of b (gPlace b) prPlace rfl (fun s R hA hne => by
    unfold gPlace at hne ⊢
    simp only at hne ⊢
    obtain ⟨r1, q1, B1⟩ := rd_of hb hA (rd_back hne)
    obtain ⟨r2, q2, B2⟩ := rd_of hb B1 hne
    have n1 := rd_in hb s
    have n2 := rd_in hb (rd b s).2
    refine ⟨r2, ?_, B2⟩
    show R = numT (clampN (rd b s).1) ++ numT (clampN (rd b (rd b s).2).1) ++ r2
    rw [clampN_id n1.1 n1.2, clampN_id n2.1 n2.2, List.append_assoc, ← q2, ← q1]) (rdC b (rd b (some 0)).2).1.toNat (rdC b (rd b (some 0)).2).2
  have hib := @items_back (gPlace b) rfl (rdC b (rd b (some 0)).2).1.toNat (rdC b (rd b (some 0)).2).2
  generalize hr : rdC b (rd b (some 0)).2 = r at *
  obtain ⟨N, s⟩ := r
  simp only at h hlen hc R2 hback hI hib
  generalize hi : itemsI (gPlace b) N.toNat s = it at *
  obtain ⟨ps, s3⟩ := it
  simp only at h hlen hI hib
  cases c1 : s3 == some b.length with
  | false => rw [c1] at h; cases h
  | true =>
    cases c2 : mapB (rd b (some 0)).1 ps with
    | false => rw [c1, c2] at h; cases h
    | true =>
      rw [c1, c2] at h
      cases h
      have z3 : s3 ≠ none := fun e => by rw [e] at c1; cases c1
      have z2 : s ≠ none := hib z3
      have z1 : (rd b (some 0)).2 ≠ none := rd_back (hback z2)
      obtain ⟨r1, q1, A1⟩ := R1 z1
      obtain ⟨r2, q2, A2⟩ := R2 r1 A1 z2
      obtain ⟨r3, q3, A3⟩ := hI r2 A2 z3
      have := (at_end A3).1 c1
      subst this
      refine ⟨c2, ?_⟩
      unfold putMapT
      have hN : ((l.length : Nat) : Int) = N := by omega
      rw [putPlaces_flat, clampN_id hn.1 hn.2, hN, clampN_id hc.1 hc.2, List.append_assoc]
      rw [List.append_nil] at q3
      rw [← q3, ← q2, ← q1]
theorem c_addr {lf d : Nat} (hlf : 33554432 ≤ lf) (nx : Int) (l : List T) (ino : Int) (hs : l.length ≤ 16777216) : (∃ j, j < l.length ∧ asI (T.cell (l.getD j T.u) 0) = ino ∧ Cc lf (d + 1) 22 [.st [.i .i64 nx, .sl l], .i .i64 ino] = some [.i .i64 (asI (T.cell (l.getD j T.u) 1))]) ∨ ((∀ j, j < l.length → asI (T.cell (l.getD j T.u) 0) ≠ ino) ∧ Cc lf (d + 1) 22 [.st [.i .i64 nx, .sl l], .i .i64 ino] = some [.i .i64 (-1)]) := by
  have E := f22_eq (Cc lf d) lf nx l ino
  unfold f22 f22_t at E
  dsimp only at E
  rcases find_loop (F := fun n j => f22_0 (Cc lf d) lf l ino n j) (P := fun j => !(asI (T.cell (l.getD j T.u) 0) == ino)) (X := fun j => some [T.i .i64 0, T.i .i64 (asI (T.cell (l.getD j T.u) 1))]) (Y := some [T.i .i64 1]) (len := l.length) (fun n j hj => by
    rw [f22_0_u]
    unfold f22_0_s
    rw [iLt_t (by omega), inR_nat hj, wrap_next hj (by omega)]
    simp only [cond_t, Int.toNat_natCast]
    cases asI (T.cell (l.getD j T.u) 0) == ino <;> rfl) (fun n => by
    rw [f22_0_u]
    unfold f22_0_s
    rw [iLt_f (by omega)]
    rfl) (n := lf) (by omega) with ⟨h1, h2⟩ | ⟨_, j, hj, h1, h2⟩
  · rw [h2] at E
    refine .inr ⟨fun j hj e => ?_, E⟩
    have := allB_iff.1 h1 j hj
    rw [e] at this
    simp at this
  · rw [h2] at E
    refine .inl ⟨j, hj, ?_, E⟩
    simpa using h1
theorem rising {nx : Int} {l : List T} (h : ∀ j, j < l.length → placeB nx l j = true) : ∀ (k i : Nat), i + k < l.length → 0 < k → asI (T.cell (l.getD i T.u) 0) < asI (T.cell (l.getD (i + k) T.u) 0)
  | 0, i, _, h0 => absurd h0 (Nat.lt_irrefl _)
  | k + 1, i, hk, _ => by
    have h1 := (placeB_in (h (i + (k + 1)) hk)).2.2.2.2 (by omega)
    rw [show i + (k + 1) - 1 = i + k by omega] at h1
    by_cases c : k = 0
    · subst c; exact h1
    · have := rising h k i (by omega) (by omega)
      omega
theorem c_addrAt {lf d : Nat} (hlf : 33554432 ≤ lf) {nx : Int} {l : List T} (h : mapB nx l = true) (j : Nat) (hj : j < l.length) : Cc lf (d + 1) 22 [.st [.i .i64 nx, .sl l], .i .i64 (asI (T.cell (l.getD j T.u) 0))] = some [.i .i64 (asI (T.cell (l.getD j T.u) 1))] := by
  obtain ⟨h1, h2, _⟩ := mapB_in h
  rcases c_addr (lf := lf) (d := d) hlf nx l (asI (T.cell (l.getD j T.u) 0)) (by omega) with ⟨i, hi, e, E⟩ | ⟨hno, _⟩
  · have : i = j := by
      rcases Nat.lt_trichotomy i j with c | c | c
      · have := rising h1 (j - i) i (by omega) (by omega)
        rw [show i + (j - i) = j by omega] at this
        omega
      · exact c
      · have := rising h1 (i - j) j (by omega) (by omega)
        rw [show j + (i - j) = i by omega] at this
        omega
    subst this
    exact E
  · exact absurd rfl (hno j hj)
theorem c_addrNo {lf d : Nat} (hlf : 33554432 ≤ lf) {nx : Int} {l : List T} (h : mapB nx l = true) : Cc lf (d + 1) 22 [.st [.i .i64 nx, .sl l], .i .i64 1001] = some [.i .i64 (-1)] := by
  obtain ⟨h1, h2, _, h4⟩ := mapB_in h
  rcases c_addr (lf := lf) (d := d) hlf nx l 1001 (by omega) with ⟨i, hi, e, _⟩ | ⟨_, E⟩
  · have := (placeB_in (h1 i hi)).2.1
    omega
  · exact E
def goodPl (l : List T) (j : Nat) : Prop := l.length < j ∧ ∀ i, i < l.length → ∃ a c, l.getD i T.u = .st [.i .i64 a, .i .i64 c] ∧ (1 ≤ a ∧ a < j) ∧ (0 ≤ c ∧ c ≤ 191) ∧ (0 < i → asI (T.cell (l.getD (i - 1) T.u) 0) < a)
theorem getD_app (l : List T) (x : T) : (l ++ [x]).getD l.length T.u = x := by
  rw [List.getD_eq_getElem?_getD, List.getElem?_append_right (Nat.le_refl _), Nat.sub_self]
  rfl
theorem getD_app_lt {l : List T} {i : Nat} (x : T) (h : i < l.length) : (l ++ [x]).getD i T.u = l.getD i T.u := by
  rw [List.getD_eq_getElem?_getD, List.getD_eq_getElem?_getD, List.getElem?_append_left h]
theorem goodPl_step {l : List T} {j : Nat} (h : goodPl l j) : goodPl l (j + 1) := ⟨by have := h.1; omega, fun i hi => by
  obtain ⟨a, c, e, h1, h2, h3⟩ := h.2 i hi
  exact ⟨a, c, e, by omega, h2, h3⟩⟩
theorem goodPl_app {l : List T} {j : Nat} (h : goodPl l j) (hj : 1 ≤ j) {c : Int} (hc : 0 ≤ c ∧ c ≤ 191) : goodPl (l ++ [.st [.i .i64 (j : Int), .i .i64 c]]) (j + 1) := by
  refine ⟨by have := h.1; rw [List.length_append, List.length_singleton]; omega, fun i hi => ?_⟩
  rw [List.length_append, List.length_singleton] at hi
  by_cases e : i = l.length
  · subst e
    refine ⟨_, _, getD_app l _, by omega, hc, fun h0 => ?_⟩
    rw [getD_app_lt _ (by omega)]
    obtain ⟨a, c', e, h1, _⟩ := h.2 (l.length - 1) (by omega)
    rw [e]
    exact h1.2
  · obtain ⟨a, c', e1, h1, h2, h3⟩ := h.2 i (by omega)
    refine ⟨a, c', by rw [getD_app_lt _ (by omega)]; exact e1, by omega, h2, fun h0 => ?_⟩
    rw [getD_app_lt _ (by omega)]
    exact h3 h0
theorem goodPl_map {l : List T} (h : goodPl l 12) : mapB 12 l = true ∧ plT l := by
  constructor
  · unfold mapB
    rw [Bool.and_eq_true, allB_iff]
    refine ⟨fun j hj => ?_, by rw [iLe_t (by have := h.1; omega)]; rfl⟩
    obtain ⟨a, c, e, h1, h2, h3⟩ := h.2 j hj
    unfold placeB
    rw [e]
    simp only [cell0, cellS, asI_i]
    rw [iLt_f (by omega), iLe_f (by omega), iLe_t (by omega), iLe_t (by omega)]
    by_cases h0 : 0 < j
    · have := h3 h0
      rw [iLe_f (show ¬ a ≤ asI (T.cell (l.getD (j - 1) T.u) 0) by omega)]
      cases iLt 0 (j : Int) <;> rfl
    · rw [iLt_f (by omega)]; rfl
  · intro x hx
    obtain ⟨j, hj, rfl⟩ := List.getElem_of_mem hx
    obtain ⟨a, c, e, _⟩ := h.2 j hj
    rw [List.getD_eq_getElem?_getD, List.getElem?_eq_getElem hj] at e
    exact ⟨a, c, e⟩
theorem c_drawM {lf d : Nat} (hlf : 33554432 ≤ lf) {b : List T} (hl : b.length ≤ 1048576) (i h : Int) (hi : 0 ≤ i ∧ i ≤ b.length) : ∃ l i' h', Cc lf (d + 4) 69 [.st [.sl b, .i .i64 i, .i .i64 h]] = some [.st [.i .i64 12, .sl l], .st [.sl b, .i .i64 i', .i .i64 h']] ∧ goodPl l 12 ∧ (0 ≤ i' ∧ i' ≤ b.length) := by
  have E := f69_eq (Cc lf (d + 3)) lf b i h
  unfold f69 f69_t at E
  dsimp only at E
  have L : ∀ (k j n : Nat) (i h : Int) (l : List T), j + k = 12 → k < n → 1 ≤ j → goodPl l j → (0 ≤ i ∧ i ≤ b.length) → ∃ l' i' h', f69_0 (Cc lf (d + 3)) lf b n j i h l = some [T.i .i64 0, T.sl b, T.i .i64 i', T.i .i64 h', T.i .i64 0, T.sl ([] : List T), T.i .i64 12, T.sl l'] ∧ goodPl l' 12 ∧ (0 ≤ i' ∧ i' ≤ b.length) := by
    intro k
    induction k with
    | zero =>
      intro j n i h l hj hn h1 hg hi
      obtain ⟨n, rfl⟩ : ∃ m, n = m + 1 := ⟨n - 1, by omega⟩
      refine ⟨l, i, h, ?_, by rw [show (12 : Nat) = j by omega]; exact hg, hi⟩
      rw [f69_0_u]
      unfold f69_0_s
      rw [iLt_f (by omega)]
      rfl
    | succ k ih =>
      intro j n i h l hj hn h1 hg hi
      obtain ⟨n, rfl⟩ : ∃ m, n = m + 1 := ⟨n - 1, by omega⟩
      rw [f69_0_u]
      unfold f69_0_s
      obtain ⟨x, i1, h1', e1, q1⟩ := c_once (lf := lf) (d := d) hl i h hi 2
      rw [iLt_t (by omega), e1, wrap_in (x := (j : Int) + 1) (by omega) (by omega)]
      simp only [cond_t, Option.bind_some, nth0, nthS, asB_b, asI_i, cell0, cellS]
      cases x with
      | false => exact ih (j + 1) n i1 h1' l (by omega) (by omega) (by omega) (goodPl_step hg) q1
      | true =>
        obtain ⟨z, i2, h2, hz, e2, q2⟩ := c_int (lf := lf) (d := d) hl i1 h1' q1 [T.i .i64 0, T.i .i64 5, T.i .i64 127, T.i .i64 128, T.i .i64 191] (by simp)
        have hv : 0 ≤ asI ([T.i .i64 0, T.i .i64 5, T.i .i64 127, T.i .i64 128, T.i .i64 191].getD z T.u) ∧ asI ([T.i .i64 0, T.i .i64 5, T.i .i64 127, T.i .i64 128, T.i .i64 191].getD z T.u) ≤ 191 := by
          rcases z with _ | _ | _ | _ | _ | z <;> first | decide | (simp only [List.length_cons, List.length_nil] at hz; omega)
        rw [e2]
        simp only [cond_t, Option.bind_some, nth0, nthS, asB_b, asI_i, cell0, cellS]
        have := hg.1
        rw [nLe_app (by omega)]
        exact ih (j + 1) n i2 h2 _ (by omega) (by omega) (by omega) (goodPl_app hg h1 hv) q2
  obtain ⟨l', i', h', e, g1, g2⟩ := L 11 1 lf i h [] (by omega) (by omega) (by omega) ⟨by simp, fun i hi => absurd hi (Nat.not_lt_zero _)⟩ hi
  rw [show ((1 : Nat) : Int) = 1 from rfl] at e
  rw [e] at E
  exact ⟨l', i', h', E, g1, g2⟩
theorem plT_app {l : List T} (h : plT l) (a c : Int) : plT (l ++ [.st [.i .i64 a, .i .i64 c]]) := by
  intro x hx
  rcases List.mem_append.1 hx with hx | hx
  · exact h x hx
  · exact ⟨a, c, List.mem_singleton.1 hx⟩
theorem c_anyM {lf d : Nat} (hlf : 33554432 ≤ lf) {b : List T} (hl : b.length ≤ 1048576) (i h : Int) (hi : 0 ≤ i ∧ i ≤ b.length) : ∃ nx l i' h', Cc lf (d + 5) 66 [.st [.sl b, .i .i64 i, .i .i64 h]] = some [.st [.i .i64 nx, .sl l], .st [.sl b, .i .i64 i', .i .i64 h']] ∧ plT l ∧ l.length ≤ 12 ∧ (0 ≤ i' ∧ i' ≤ b.length) := by
  have E := f66_eq (Cc lf (d + 4)) lf b i h
  unfold f66 f66_t at E
  obtain ⟨l, i1, h1, e1, g1, q1⟩ := c_drawM (d := d) hlf hl i h hi
  rw [e1] at E
  simp only [Option.bind_some, nth0, nthS, asB_b, asI_i, asL_l, cell0, cellS] at E
  obtain ⟨x, i2, h2, e2, _, q2⟩ := c_below (lf := lf) (d := d + 2) hl i1 h1 q1 8
  rw [e2] at E
  simp only [Option.bind_some, nth0, nthS, asB_b, asI_i, asL_l, cell0, cellS] at E
  have hp := (goodPl_map g1).2
  have hlen := g1.1
  cases c0 : x == 0 with
  | true =>
    rw [c0] at E
    obtain ⟨z, i3, h3, _, e3, q3⟩ := c_int (lf := lf) (d := d + 1) hl i2 h2 q2 [T.i .i64 1, T.i .i64 2, T.i .i64 1000, T.i .i64 1001] (by simp)
    rw [e3] at E
    exact ⟨_, _, _, _, E, hp, by omega, q3⟩
  | false =>
    rw [c0] at E
    cases c1 : x == 1 with
    | true =>
      rw [c1] at E
      obtain ⟨z, i3, h3, _, e3, q3⟩ := c_int (lf := lf) (d := d + 1) hl i2 h2 q2 [T.i .i64 0, T.i .i64 1, T.i .i64 11, T.i .i64 12] (by simp)
      rw [e3] at E
      simp only [cond_f, cond_t, Option.bind_some, nth0, nthS, asB_b, asI_i, asL_l, cell0, cellS] at E
      obtain ⟨z, i4, h4, _, e4, q4⟩ := c_int (lf := lf) (d := d + 1) hl i3 h3 q3 [T.i .i64 (-1), T.i .i64 0, T.i .i64 192] (by simp)
      rw [e4] at E
      simp only [cond_f, cond_t, Option.bind_some, nth0, nthS, asB_b, asI_i, asL_l, cell0, cellS] at E
      rw [nLe_app (by omega)] at E
      exact ⟨_, _, _, _, E, plT_app hp _ _, by rw [List.length_append, List.length_singleton]; omega, q4⟩
    | false =>
      rw [c1] at E
      exact ⟨_, _, _, _, E, hp, by omega, q2⟩
theorem c_drawPutMap {lf d : Nat} (hlf : 33554432 ≤ lf) {b : List T} (hl : b.length ≤ 1048576) : ∃ nx l, Cc lf (d + 6) 14 [.sl b] = some [.st [.i .i64 nx, .sl l]] ∧ plT l ∧ l.length ≤ 12 := by
  have E := f14_eq (Cc lf (d + 5)) lf b
  unfold f14 f14_t at E
  obtain ⟨h, e⟩ := c_new (d := d + 4) hlf hl
  rw [e] at E
  simp only [Option.bind_some, nth0, nthS, asI_i, asL_l, cell0, cellS] at E
  obtain ⟨nx, l, i', h', e2, h1, h2, _⟩ := c_anyM (d := d) hlf hl 0 h (by omega)
  rw [e2] at E
  exact ⟨nx, l, E, h1, h2⟩
theorem byt_app1 {l : List T} (h : byt l) : byt (l ++ [T.i .u8 0]) := byt_app h fun x hx => ⟨0, List.mem_singleton.1 hx, by omega, by omega⟩
theorem byt_take2 {l : List T} (h : byt l) (k : Nat) : byt (l.take k) := fun x hx => h x (List.mem_of_mem_take hx)
theorem c_drawGetMap {lf d : Nat} (hlf : 33554432 ≤ lf) {b : List T} (hl : b.length ≤ 1048576) : ∃ c, Cc lf (d + 6) 16 [.sl b] = some [.sl c] ∧ byt c ∧ c.length ≤ 1000 := by
  have E := f16_eq (Cc lf (d + 5)) lf b
  unfold f16 f16_t at E
  obtain ⟨h, e⟩ := c_new (d := d + 4) hlf hl
  rw [e] at E
  simp only [Option.bind_some, nth0, nthS, asI_i, asL_l, cell0, cellS] at E
  obtain ⟨l, i1, h1, e1, g1, q1⟩ := c_drawM (d := d + 1) hlf hl 0 h (by omega)
  rw [e1] at E
  simp only [Option.bind_some, nth0, nthS, asI_i, asL_l, cell0, cellS] at E
  have hm := (goodPl_map g1).1
  have hlen := g1.1
  rw [c_sPutMap (d := d + 2) hlf 12 l (by omega), hm] at E
  simp only [Option.bind_some, nth0, nthS, asI_i, asL_l, cell0, cellS, cond_t] at E
  have hb : byt (putMapT 12 l) := putPlaces_byt _ _ (byt_app (byt_num (clampN_in _).1 (clampN_in _).2) (byt_num (clampN_in _).1 (clampN_in _).2))
  have hpl : (putMapT 12 l).length ≤ 6 + 6 * l.length := by
    have h1 := putPlaces_len l (numT (clampN 12) ++ numT (clampN (l.length : Int)))
    have h2 := numT_len (clampN 12)
    have h3 := numT_len (clampN (l.length : Int))
    rw [List.length_append] at h1
    unfold putMapT
    omega
  have hpp : 0 < (putMapT 12 l).length := by
    unfold putMapT
    rw [putPlaces_flat]
    have h2 := numT_pos (clampN 12)
    simp only [List.length_append]
    omega
  generalize putMapT 12 l = p at *
  obtain ⟨x, i2, h2, e2, _, q2⟩ := c_below (lf := lf) (d := d + 3) hl i1 h1 q1 5
  rw [e2] at E
  simp only [Option.bind_some, nth0, nthS, asI_i, asL_l, cell0, cellS] at E
  cases c0 : x == 0 with
  | true =>
    rw [c0] at E
    obtain ⟨y, i3, h3, e3, r3, q3⟩ := c_below (lf := lf) (d := d + 3) hl i2 h2 q2 (p.length : Int)
    rw [e3] at E
    simp only [cond_t, Option.bind_some, nth0, nthS, asI_i, asL_l, cell0, cellS] at E
    obtain ⟨z, i4, h4, _, e4, q4⟩ := c_int (lf := lf) (d := d + 2) hl i3 h3 q3 [T.i .i64 0, T.i .i64 1, T.i .i64 2, T.i .i64 12, T.i .i64 128] (by simp)
    rw [e4] at E
    simp only [cond_t, Option.bind_some, nth0, nthS, asI_i, asL_l, cell0, cellS] at E
    obtain ⟨k, rfl⟩ := Int.eq_ofNat_of_zero_le r3.1
    rw [inR_nat (by omega)] at E
    exact ⟨_, E, byt_set hb _ _, by rw [List.length_set]; omega⟩
  | false =>
    rw [c0] at E
    cases c1 : x == 1 with
    | true =>
      rw [c1] at E
      obtain ⟨y, i3, h3, e3, r3, q3⟩ := c_below (lf := lf) (d := d + 3) hl i2 h2 q2 (p.length : Int)
      rw [e3] at E
      simp only [cond_f, cond_t, Option.bind_some, nth0, nthS, asI_i, asL_l, cell0, cellS] at E
      rw [iLe_t (show (0 : Int) ≤ 0 by omega), iLe_t (show 0 ≤ y by omega), iLe_t (show y ≤ (p.length : Int) by omega)] at E
      exact ⟨_, E, byt_take2 (by rw [List.drop_zero]; exact hb) _, by rw [List.length_take, List.drop_zero]; omega⟩
    | false =>
      rw [c1] at E
      cases c2 : x == 2 with
      | true =>
        rw [c2] at E
        rw [nLe_app (by omega)] at E
        exact ⟨_, E, byt_app1 hb, by rw [List.length_append, List.length_singleton]; omega⟩
      | false =>
        rw [c2] at E
        exact ⟨_, E, hb, by omega⟩
theorem c_sameBytes {lf d : Nat} (hlf : 33554432 ≤ lf) (l : List T) (hs : l.length ≤ 16777216) : Cc lf (d + 1) 20 [.sl l, .sl l] = some [.b true] := by
  refine (f20_eq (Cc lf d) lf l l).trans ?_
  unfold f20 f20_t
  dsimp only
  have L := all_loop (F := fun n j => f20_0 (Cc lf d) lf l l n j) (P := fun _ => true) (X := some [T.i .i64 0, T.b false]) (Y := some [T.i .i64 1]) (len := l.length) (fun n j hj => by
    rw [f20_0_u]
    unfold f20_0_s
    rw [iLt_t (by omega), inR_nat hj, wrap_next hj (by omega)]
    simp only [cond_t, bne_self_eq_false, cond_f]) (fun n => by
    rw [f20_0_u]
    unfold f20_0_s
    rw [iLt_f (by omega)]
    rfl) (n := lf) (by omega)
  have ht : allB (fun _ => true) l.length = true := allB_iff.2 fun _ _ => rfl
  rw [L, ht, bne_self_eq_false]
  rfl
theorem lawB {lf : Nat} (hlf : 33554432 ≤ lf) {t0 : T} (ht0 : fitC (.sl false [.i .u8]) t0) : Cc lf 12 3 [t0] = some [.b true] := by
  obtain ⟨b, rfl, _⟩ := fitC_sl ht0
  refine (f3_eq (Cc lf 11) lf b).trans ?_
  unfold f3 f3_t
  dsimp only
  rw [c_big (d := 10)]
  simp only [Option.bind_some, nth0, asB_b]
  by_cases hl : b.length ≤ 1048576
  case neg => rw [iLt_t (by omega)]; rfl
  rw [iLt_f (by omega), cond_f]
  obtain ⟨nx, l, e1, hp, hlen⟩ := c_drawPutMap (lf := lf) (d := 5) hlf hl
  obtain ⟨c, e2, hb, hc⟩ := c_drawGetMap (lf := lf) (d := 5) hlf hl
  rw [e1]
  simp only [Option.bind_some, nth0, nthS, asI_i, asL_l, cell0, cellS]
  rw [c_iPutMap (d := 8) hlf nx l (by omega), e2]
  simp only [Option.bind_some, nth0, nthS, asI_i, asL_l, cell0, cellS]
  rw [c_iGetMap (d := 7) hlf hb (by omega), c_sGetMap (d := 7) hlf hb (by omega)]
  simp only [Option.bind_some, beq_self_eq_true, Bool.not_true, cond_f]
  rw [c_sMapOk (d := 9) hlf nx l (by omega), c_iMapOk (d := 9) hlf nx l (by omega)]
  simp only [Option.bind_some, nth0, asB_b]
  -- what a map that is right comes to
  have L0 : mapB nx l = true → f3_0 (Cc lf 11) lf [T.st [T.i .i64 nx, T.sl l]] [T.sl (putMapT nx l)] [T.st [T.i .i64 nx, T.sl l], T.b true] lf 0 = some [T.i .i64 1, T.b true, T.i .i64 nx, T.sl l, T.sl (putMapT nx l), T.i .i64 nx, T.sl l] := fun hm => by
    have L := all_loop (F := fun n j => f3_0 (Cc lf 11) lf [T.st [T.i .i64 nx, T.sl l]] [T.sl (putMapT nx l)] [T.st [T.i .i64 nx, T.sl l], T.b true] n j) (P := fun _ => true) (X := some [T.i .i64 0, T.b false]) (Y := some [T.i .i64 1, T.b true, T.i .i64 nx, T.sl l, T.sl (putMapT nx l), T.i .i64 nx, T.sl l]) (len := l.length) (fun n j hj => by
      rw [f3_0_u]
      unfold f3_0_s
      simp only [nth0, nthS, asI_i, asL_l, cell0, cellS]
      rw [iLt_t (by omega), inR_nat hj, Int.toNat_natCast, c_addrAt (d := 10) hlf hm j hj, wrap_next hj (by omega)]
      simp only [cond_t, Option.bind_some, nth0, asI_i, bne_self_eq_false, cond_f]) (fun n => by
      rw [f3_0_u]
      unfold f3_0_s
      simp only [nth0, nthS, asI_i, asL_l, cell0, cellS]
      rw [iLt_f (by omega)]
      rfl) (n := lf) (by omega)
    have ht : allB (fun _ => true) l.length = true := allB_iff.2 fun _ _ => rfl
    rw [ht] at L
    exact L
  have L1 : mapB nx l = true → f3_1 (Cc lf 11) lf [T.st [T.i .i64 nx, T.sl l]] [T.sl (putMapT nx l)] [T.st [T.i .i64 nx, T.sl l], T.b true] lf 0 = some [T.i .i64 1, T.b true, T.i .i64 nx, T.sl l, T.sl (putMapT nx l), T.i .i64 nx, T.sl l] := fun hm => by
    have L := all_loop (F := fun n j => f3_1 (Cc lf 11) lf [T.st [T.i .i64 nx, T.sl l]] [T.sl (putMapT nx l)] [T.st [T.i .i64 nx, T.sl l], T.b true] n j) (P := fun _ => true) (X := some [T.i .i64 0, T.b false]) (Y := some [T.i .i64 1, T.b true, T.i .i64 nx, T.sl l, T.sl (putMapT nx l), T.i .i64 nx, T.sl l]) (len := l.length) (fun n j hj => by
      rw [f3_1_u]
      unfold f3_1_s
      simp only [nth0, nthS, asI_i, asL_l, cell0, cellS]
      rw [iLt_t (by omega), inR_nat hj, Int.toNat_natCast, c_addrAt (d := 10) hlf hm j hj, wrap_next hj (by omega)]
      simp only [cond_t, Option.bind_some, nth0, asI_i, bne_self_eq_false, cond_f]) (fun n => by
      rw [f3_1_u]
      unfold f3_1_s
      simp only [nth0, nthS, asI_i, asL_l, cell0, cellS]
      rw [iLt_f (by omega)]
      rfl) (n := lf) (by omega)
    have ht : allB (fun _ => true) l.length = true := allB_iff.2 fun _ _ => rfl
    rw [ht] at L
    exact L
  have hpb : byt (putMapT nx l) := putPlaces_byt _ _ (byt_app (byt_num (clampN_in _).1 (clampN_in _).2) (byt_num (clampN_in _).1 (clampN_in _).2))
  have hpl : (putMapT nx l).length ≤ 380 := by
    have h1 := putPlaces_len l (numT (clampN nx) ++ numT (clampN (l.length : Int)))
    have h2 := numT_len (clampN nx)
    have h3 := numT_len (clampN (l.length : Int))
    rw [List.length_append] at h1
    unfold putMapT
    omega
  have G : mapB nx l = true → Cc lf 11 17 [.sl (putMapT nx l)] = some [T.st [T.i .i64 nx, T.sl l], T.b true] := fun hm => by
    have := c_iGetMap (lf := lf) (d := 7) hlf hpb (by omega)
    rw [map_put hm hp] at this
    exact this
  cases hg : getMapB c with
  | none =>
    simp only [getMapR, nth0, nthS, asB_b, cond_f]
    cases hm : mapB nx l with
    | false => rfl
    | true =>
      simp only [cond_t, cond_f, Bool.not_true]
      rw [G hm]
      simp only [Option.bind_some]
      rw [L1 hm]
      simp only [Option.bind_some, nth0, nthS, asI_i, asL_l, asB_b, show ((1 : Int) == 0) = false from rfl, beq_self_eq_true, cond_t, cond_f]
      rw [iLe_t (by omega), c_addrNo (d := 10) hlf hm, c_iMapOk (d := 9) hlf nx l (by omega), hm]
      rfl
  | some r =>
    obtain ⟨n, ps⟩ := r
    obtain ⟨m1, m2⟩ := map_of hb hg
    have hps := (mapB_in m1).2.1
    simp only [getMapR, nth0, nthS, asB_b, asI_i, asL_l, cell0, cellS, cond_t]
    rw [c_iMapOk (d := 9) hlf n ps (by omega), m1, c_iPutMap (d := 8) hlf n ps (by omega), m1]
    simp only [Option.bind_some, nth0, asB_b, asL_l, Bool.not_true, cond_t, cond_f, m2]
    rw [c_sameBytes (d := 10) hlf c (by omega)]
    simp only [Option.bind_some, nth0, asB_b, Bool.not_true, cond_f]
    cases hm : mapB nx l with
    | false => rfl
    | true =>
      simp only [cond_t, cond_f, Bool.not_true]
      rw [G hm]
      simp only [Option.bind_some]
      rw [L0 hm]
      simp only [Option.bind_some, nth0, nthS, asI_i, asL_l, asB_b, show ((1 : Int) == 0) = false from rfl, beq_self_eq_true, cond_t, cond_f]
      rw [iLe_t (by omega), c_addrNo (d := 10) hlf hm, c_iMapOk (d := 9) hlf nx l (by omega), hm]
      rfl
end Go.Proofs.Ytockabaoaneplaa.T
