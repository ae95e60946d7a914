/- What the printed functions of the law FnExactMapOk answer: true, for every map. No condition but what the numbers of cells can be in memory. -/
import Derived.Test.YtejeinhdlcgkgaaPFnExactMapOkx
namespace Go.Proofs.Ytejeinhdlcgkgaa.PureMapOk
open Go.RowKit Go.Proofs.Ytejeinhdlcgkgaa.PFnExactMapOk Go.Proofs.YtejeinhdlcgkgaaW.PrintWords Go.Proofs.YtejeinhdlcgkgaaW.PrintLast

theorem wrap_next {i : Int} {n : Nat} (h0 : 0 ≤ i) (h : i < (n : Int)) (hn : n ≤ 1048576) : wrap64 (i + 1) = i + 1 := by
  unfold wrap64
  omega

theorem to_tells (l : List S98) (hn : l.length ≤ 1048576) (d : Nat) : ∀ (k : Nat) (acc : List S67) (i : Int), 0 ≤ i → i ≤ l.length → acc.length = l.length → (l.length : Int) - i = d → d < k →
    ∃ r, laws_toPlaceS.l0 k l acc i = some r ∧ r.length = l.length := by
  induction d with
  | zero =>
    intro k acc i h0 h1 ha hd hk
    obtain ⟨k, rfl⟩ : ∃ m, k = m + 1 := ⟨k - 1, by omega⟩
    exact ⟨acc, by simp only [laws_toPlaceS.l0]; rw [if_neg (by omega)], ha⟩
  | succ d ih =>
    intro k acc i h0 h1 ha hd hk
    obtain ⟨k, rfl⟩ : ∃ m, k = m + 1 := ⟨k - 1, by omega⟩
    have hlt : i < (l.length : Int) := by omega
    obtain ⟨r, hr, h⟩ := ih k (acc.set i.toNat ⟨(rd_T98 l i).f0, (rd_T98 l i).f1⟩) (i + 1) (by omega) (by omega) (by simpa using ha) (by omega) (by omega)
    refine ⟨r, ?_, h⟩
    simp only [laws_toPlaceS.l0, laws_toPlace.f]
    rw [if_pos hlt, if_pos h0]
    simp only [Option.bind_some]
    rw [if_pos (by omega), wrap_next h0 hlt hn]
    exact hr

theorem ok_tells (r : List S67) (a0 : Int) (hn : r.length ≤ 1048576) (d : Nat) : ∀ (k : Nat) (i : Int), 0 ≤ i → i ≤ r.length → (r.length : Int) - i = d → d < k →
    ∃ v, spec_MapOk.l0 k i a0 r = some v ∧ impl_MapOk.l0 k r (r.length : Int) i a0 r = some v := by
  induction d with
  | zero =>
    intro k i h0 h1 hd hk
    obtain ⟨k, rfl⟩ : ∃ m, k = m + 1 := ⟨k - 1, by omega⟩
    have hn' : ¬ i < (r.length : Int) := by omega
    simp only [spec_MapOk.l0, impl_MapOk.l0, spec_l1In.f, impl_from.f, if_neg hn']
    by_cases c1 : (r.length : Int) ≤ 30 <;> by_cases c2 : a0 ≥ 2 <;> by_cases c3 : a0 ≤ 1000 <;> simp only [c1, c2, c3, if_true, if_false, Option.bind_some, decide_true, decide_false, Option.some.injEq, exists_eq_left', Bool.false_eq_true]
  | succ d ih =>
    intro k i h0 h1 hd hk
    obtain ⟨k, rfl⟩ : ∃ m, k = m + 1 := ⟨k - 1, by omega⟩
    have hlt : i < (r.length : Int) := by omega
    obtain ⟨v, hs, hi⟩ := ih k (i + 1) (by omega) (by omega) (by omega) (by omega)
    have hw : wrap64 (i - 1) = i - 1 := by unfold wrap64; omega
    simp only [spec_MapOk.l0, impl_MapOk.l0, spec_l1In.f, impl_from.f, if_pos hlt, if_pos h0, wrap_next h0 hlt hn, hw, hs, hi]
    by_cases c1 : (rd_T67 r i).f0 < 1
    · exact ⟨false, by simp [c1]⟩
    by_cases c2 : (rd_T67 r i).f0 ≥ a0
    · exact ⟨false, by simp [c1, c2]⟩
    by_cases c3 : (rd_T67 r i).f1 ≥ 0 ∧ (rd_T67 r i).f1 ≤ 191
    · by_cases c4 : i > 0
      · have c5 : (1 : Int) ≤ i := by omega
        have c6 : i - 1 < (r.length : Int) := by omega
        by_cases c7 : (rd_T67 r (i - 1)).f0 ≥ (rd_T67 r i).f0
        · exact ⟨false, by simp [c1, c2, c3, c4, c5, c6, c7]⟩
        · exact ⟨v, by simp [c1, c2, c3, c4, c5, c6, c7]⟩
      · exact ⟨v, by simp [c1, c2, c3, c4]⟩
    · refine ⟨false, ?_⟩
      by_cases c4 : (rd_T67 r i).f1 ≥ 0
      · have c5 : ¬ (rd_T67 r i).f1 ≤ 191 := fun h => c3 ⟨c4, h⟩
        simp [c1, c2, c4, c5]
      · simp [c1, c2, c4]

theorem eq_tells (r : List S67) (hn : r.length ≤ 1048576) (d : Nat) : ∀ (k : Nat) (i : Int), 0 ≤ i → i ≤ r.length → (r.length : Int) - i = d → d < k → laws_eqPlaceS.l0 k r r i = some true := by
  induction d with
  | zero =>
    intro k i h0 h1 hd hk
    obtain ⟨k, rfl⟩ : ∃ m, k = m + 1 := ⟨k - 1, by omega⟩
    simp only [laws_eqPlaceS.l0]; rw [if_neg (by omega)]
  | succ d ih =>
    intro k i h0 h1 hd hk
    obtain ⟨k, rfl⟩ : ∃ m, k = m + 1 := ⟨k - 1, by omega⟩
    have hlt : i < (r.length : Int) := by omega
    simp only [laws_eqPlaceS.l0, laws_eqPlace.f, if_true, Option.bind_some, if_pos hlt, if_pos h0]
    rw [wrap_next h0 hlt hn]
    exact ih k (i + 1) (by omega) (by omega) (by omega) (by omega)

/-- The law's function answers true. -/
theorem law (a0 : Int) (l : List S98) (hl : l.length * 16 ≤ 140737488351232) : ∃ k, laws_FnExactMapOk.f k a0 l = some true := by
  refine ⟨l.length + 1, ?_⟩
  unfold laws_FnExactMapOk.f laws_szMap.f laws_szPlaceS.f
  have hw : wrap64 (1048576 - (l.length : Int)) = 1048576 - (l.length : Int) := by unfold wrap64; omega
  rw [hw]
  by_cases h : (1048576 - (l.length : Int)) < 0
  · rw [if_pos h]; rfl
  · rw [if_neg h]
    have hn : l.length ≤ 1048576 := by omega
    obtain ⟨r, hr, hrl⟩ := to_tells l hn l.length (l.length + 1) (List.replicate l.length z67) 0 (by omega) (by omega) (by simp) (by omega) (by omega)
    have hto : laws_toMap.f (l.length + 1) a0 l = some (a0, r) := by
      unfold laws_toMap.f laws_toPlaceS.f
      rw [if_pos (by omega), if_pos (by omega)]
      simp only [Int.toNat_natCast, hr, Option.bind_some]
    obtain ⟨v, hs, hi⟩ := ok_tells r a0 (by omega) l.length (l.length + 1) 0 (by omega) (by omega) (by omega) (by omega)
    have he := eq_tells r (by omega) l.length (l.length + 1) 0 (by omega) (by omega) (by omega) (by omega)
    simp [h, hto, spec_MapOk.f, impl_MapOk.f, hs, hi, laws_eqMap.f, laws_eqPlaceS.f, he]

end Go.Proofs.Ytejeinhdlcgkgaa.PureMapOk
