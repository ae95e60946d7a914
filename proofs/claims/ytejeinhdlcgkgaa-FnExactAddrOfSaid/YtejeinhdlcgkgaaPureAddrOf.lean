/- What the printed functions of the law FnExactAddrOf answer: true, for every map and number. No condition but what the numbers of cells can be in memory. -/
import Derived.Test.YtejeinhdlcgkgaaPFnExactAddrOfx2
namespace Go.Proofs.Ytejeinhdlcgkgaa.PureAddrOf
open Go.RowKit Go.Proofs.Ytejeinhdlcgkgaa.PFnExactAddrOf Go.Proofs.YtejeinhdlcgkgaaW.PrintWords Go.Proofs.YtejeinhdlcgkgaaW.PrintLast

theorem wrap_next {i : Int} {n : Nat} (h0 : 0 ≤ i) (h : i < (n : Int)) (hn : n ≤ 1048576) : wrap64 (i + 1) = i + 1 := by
  unfold wrap64
  omega

theorem to_tells (l : List S98) (hn : l.length ≤ 1048576) (d : Nat) : ∀ (k : Nat) (acc : List S67) (i : Int), 0 ≤ i → i ≤ l.length → acc.length = l.length → (l.length : Int) - i = d → d < k →
    ∃ r, laws_toPlaceS.l0 k l acc i = some r ∧ r.length = l.length := by
  induction d with
  | zero =>
    intro k acc i h0 h1 ha hd hk
    obtain ⟨k, rfl⟩ : ∃ m, k = m + 1 := ⟨k - 1, by omega⟩
    exact ⟨acc, by simp only [laws_toPlaceS.l0]; rw [if_neg (by omega)], ha⟩
  | succ d ih =>
    intro k acc i h0 h1 ha hd hk
    obtain ⟨k, rfl⟩ : ∃ m, k = m + 1 := ⟨k - 1, by omega⟩
    have hlt : i < (l.length : Int) := by omega
    obtain ⟨r, hr, h⟩ := ih k (acc.set i.toNat ⟨(rd_T98 l i).f0, (rd_T98 l i).f1⟩) (i + 1) (by omega) (by omega) (by simpa using ha) (by omega) (by omega)
    refine ⟨r, ?_, h⟩
    simp only [laws_toPlaceS.l0, laws_toPlace.f]
    rw [if_pos hlt, if_pos h0]
    simp only [Option.bind_some]
    rw [if_pos (by omega), wrap_next h0 hlt hn]
    exact hr

theorem addr_tells (r : List S67) (a0 a1 : Int) (hn : r.length ≤ 1048576) (d : Nat) : ∀ (k : Nat) (i : Int), 0 ≤ i → i ≤ r.length → (r.length : Int) - i = d → d < k →
    ∃ v, spec_AddrOf.l0 k a1 i a0 r = some v ∧ impl_AddrOf.l0 k a1 r (r.length : Int) i = some v := by
  induction d with
  | zero =>
    intro k i h0 h1 hd hk
    obtain ⟨k, rfl⟩ : ∃ m, k = m + 1 := ⟨k - 1, by omega⟩
    refine ⟨-1, ?_, ?_⟩
    · simp only [spec_AddrOf.l0]; rw [if_neg (by omega)]
    · simp only [impl_AddrOf.l0]; rw [if_neg (by omega)]
  | succ d ih =>
    intro k i h0 h1 hd hk
    obtain ⟨k, rfl⟩ : ∃ m, k = m + 1 := ⟨k - 1, by omega⟩
    have hlt : i < (r.length : Int) := by omega
    obtain ⟨v, hs, hi⟩ := ih k (i + 1) (by omega) (by omega) (by omega) (by omega)
    by_cases e : (rd_T67 r i).f0 = a1
    · refine ⟨(rd_T67 r i).f1, ?_, ?_⟩
      · simp only [spec_AddrOf.l0]; rw [if_pos hlt, if_pos h0, if_pos e]
      · simp only [impl_AddrOf.l0, if_pos hlt, if_pos h0, if_pos e]
    · refine ⟨v, ?_, ?_⟩
      · simp only [spec_AddrOf.l0]; rw [if_pos hlt, if_pos h0, if_neg e, wrap_next h0 hlt hn]; exact hs
      · simp only [impl_AddrOf.l0, if_pos hlt, if_pos h0, if_neg e]; rw [wrap_next h0 hlt hn]; exact hi

theorem eq_tells (r : List S67) (hn : r.length ≤ 1048576) (d : Nat) : ∀ (k : Nat) (i : Int), 0 ≤ i → i ≤ r.length → (r.length : Int) - i = d → d < k → laws_eqPlaceS.l0 k r r i = some true := by
  induction d with
  | zero =>
    intro k i h0 h1 hd hk
    obtain ⟨k, rfl⟩ : ∃ m, k = m + 1 := ⟨k - 1, by omega⟩
    simp only [laws_eqPlaceS.l0]; rw [if_neg (by omega)]
  | succ d ih =>
    intro k i h0 h1 hd hk
    obtain ⟨k, rfl⟩ : ∃ m, k = m + 1 := ⟨k - 1, by omega⟩
    have hlt : i < (r.length : Int) := by omega
    simp only [laws_eqPlaceS.l0, laws_eqPlace.f, if_true, Option.bind_some, if_pos hlt, if_pos h0]
    rw [wrap_next h0 hlt hn]
    exact ih k (i + 1) (by omega) (by omega) (by omega) (by omega)

/-- The law's function answers true. -/
theorem law (a0 : Int) (l : List S98) (a1 : Int) (hl : l.length * 16 ≤ 140737488351232) : ∃ k, laws_FnExactAddrOf.f k a0 l a1 = some true := by
  refine ⟨l.length + 1, ?_⟩
  unfold laws_FnExactAddrOf.f laws_szMap.f laws_szPlaceS.f
  have hw : wrap64 (1048576 - (l.length : Int)) = 1048576 - (l.length : Int) := by unfold wrap64; omega
  rw [hw]
  by_cases h : (1048576 - (l.length : Int)) < 0
  · rw [if_pos h]; rfl
  · rw [if_neg h]
    have hn : l.length ≤ 1048576 := by omega
    obtain ⟨r, hr, hrl⟩ := to_tells l hn l.length (l.length + 1) (List.replicate l.length z67) 0 (by omega) (by omega) (by simp) (by omega) (by omega)
    have hto : laws_toMap.f (l.length + 1) a0 l = some (a0, r) := by
      unfold laws_toMap.f laws_toPlaceS.f
      rw [if_pos (by omega), if_pos (by omega)]
      simp only [Int.toNat_natCast, hr, Option.bind_some]
    obtain ⟨v, hs, hi⟩ := addr_tells r a0 a1 (by omega) l.length (l.length + 1) 0 (by omega) (by omega) (by omega) (by omega)
    have he := eq_tells r (by omega) l.length (l.length + 1) 0 (by omega) (by omega) (by omega) (by omega)
    simp only [Option.bind_some, if_neg h, hto, spec_AddrOf.f, impl_AddrOf.f, hs, hi, laws_eqMap.f, laws_eqPlaceS.f, he, if_true]

end Go.Proofs.Ytejeinhdlcgkgaa.PureAddrOf
