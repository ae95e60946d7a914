/- What functions of the law FnExactImageNew come to, in trees; no condition. -/
import Derived.Test.YtdclnhlpifahpaaRows
import Derived.Test.YtdclnhlpifahpaaX2
set_option linter.unusedVariables false
set_option linter.constructorNameAsVariable false
set_option linter.unusedSimpArgs false
set_option linter.unnecessarySimpa false
namespace Go.Proofs.Ytdclnhlpifahpaa.T
open Go Go.Proofs.YtdclnhlpifahpaaV
set_option maxRecDepth 100000
def newT : T := T.st [T.sl [], T.i .i64 1, T.i .i64 1, T.sl [], T.sl [], T.i .i64 (-1), T.i .i64 (-1)]
theorem c_sFsNew {lf d : Nat} : Cc lf (d + 1) 58 [] = some [T.st [T.sl [], T.i .i64 1]] := by
  refine (f58_eq (Cc lf d) lf).trans ?_
  rfl
theorem c_iFsNew {lf d : Nat} : Cc lf (d + 1) 59 [] = some [T.st [T.sl [], T.i .i64 1]] := by
  refine (f59_eq (Cc lf d) lf).trans ?_
  rfl
theorem c_sImageNew {lf d : Nat} : Cc lf (d + 2) 13 [] = some [newT] := by
  refine (f13_eq (Cc lf (d + 1)) lf).trans ?_
  unfold f13 f13_t
  rw [c_sFsNew]
  rfl
theorem c_iImageNew {lf d : Nat} : Cc lf (d + 2) 14 [] = some [newT] := by
  refine (f14_eq (Cc lf (d + 1)) lf).trans ?_
  unfold f14 f14_t
  rw [c_iFsNew]
  rfl
theorem same {lf : Nat} (_ : 33554432 ≤ lf) :
    ∃ r0, Cc lf 11 13 [] = some [r0] ∧ Cc lf 11 14 [] = some [r0] ∧ (fitE true csfit_MisbiMiiiScMsiEMssEEiEiiMisbiiEMiMiiEEii r0 ∧ tl r0 ≤ 16777216) ∧ True := by
  exact ⟨_, c_sImageNew (d := 9), c_iImageNew (d := 9), ⟨⟨⟨Nat.zero_le _, trivial⟩, ⟨rfl, wf64 (by omega) (by omega)⟩, ⟨rfl, wf64 (by omega) (by omega)⟩, ⟨Nat.zero_le _, trivial⟩, ⟨Nat.zero_le _, trivial⟩, ⟨rfl, wf64 (by omega) (by omega)⟩, ⟨rfl, wf64 (by omega) (by omega)⟩, trivial⟩, Nat.zero_le _⟩, trivial⟩
/-- The law answers true. -/
theorem lawB {lf : Nat} (hlf : 33554432 ≤ lf)  : Cc lf 12 3 [] = some [.b true] := by
  refine (f3_eq (Cc lf 11) lf ).trans ?_
  unfold f3 f3_t
  obtain ⟨r0, eS, eI, ⟨hr0, zr0⟩, _⟩ := same hlf 
  have hR0 := hr0
  obtain ⟨R0_0, R0_1, R0_2, R0_3, R0_4, R0_5, R0_6, rfl, W0_0, W0_1, W0_2, W0_3, W0_4, W0_5, W0_6⟩ := fit_MisbiMiiiScMsiEMssEEiEiiMisbiiEMiMiiEEii hr0
  have eQ0 := eq15 hlf (d := 11) (by omega) _ hR0 zr0
  obtain ⟨M1, bM1_0, bM1_1, bM1_2, eM1, eH1, uM1, vM1⟩ := ms16 hlf (d := 11) (by omega) hR0 zr0 1 (by omega) (by omega)
  simp only [T.cell, List.getD_cons_zero, List.getD_cons_succ] at eH1
  simp only [eQ0, eS, eI, eM1, eH1, Option.bind_some, nth0, nthS, asI_i, asL_l, asB_b, asS_s, cell0, cellS, beq_self_eq_true, bne_self_eq_false, Bool.not_true, Bool.and_true, cond_f, cond_t, iLt_f (show ¬ (M1 < 0) by omega)]
end Go.Proofs.Ytdclnhlpifahpaa.T
