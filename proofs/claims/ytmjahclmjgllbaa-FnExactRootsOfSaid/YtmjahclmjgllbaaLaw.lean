/- The law FnExactRootsOf returns true for every input, and its arguments read afterwards as before; no condition. -/
import Derived.Test.YtmjahclmjgllbaaRows
import Derived.Test.YtmjahclmjgllbaaX3
import Derived.WalkKit
import Derived.ProofKit
import Derived.OpenShut
import Derived.ShutString
import Derived.ChangeOld
import Derived.ChangeSame
import Derived.Below
import Derived.SizedLaws
set_option linter.unusedVariables false
set_option linter.constructorNameAsVariable false
set_option linter.unusedSimpArgs false
set_option linter.unnecessarySimpa false
namespace Go.Proofs.Ytmjahclmjgllbaa.fnExactRootsOf
open Go.ChangeShapes Go.WideShapes Go.ChangeAt Go.RowKit Go.Proofs.YtmjahclmjgllbaaV Go.Proofs.Ytmjahclmjgllbaa.T
set_option linter.unusedVariables false
theorem own : ownKnob Try.prog.godebug = none := by kernel_rfl
theorem laidOut : laidOutB Try.prog = true := by kernel_rfl
set_option maxRecDepth 100000 in
theorem lifted (os : Os) (started : os.Started) (H : Type) (enc : TypeId × Value → H) :
 ReturnsInHanded {} Try.checked os 3 .any (Rows.fnExactRootsOfSpec.pre6 enc Try.prog Try.f3 Rows.fnExactRootsOfRow.domain false) (Rows.fnExactRootsOfSpec.post enc Try.prog Try.f3 false true false false) := by
 refine returnsInHanded_of_change_sized (C := Try.checked) own started (by kernel_rfl) Try.func3
  (ChangeSpec.witness6 (enc := enc) (C := Try.checked) false ⟨#[], #[.agg #[.slice none 0 0, .int .i64 0, .slice none 0 0, .bool false, .int .i64 0]], []⟩ 8 (by kernel_rfl) (by kernel_rfl) (by kernel_rfl) (by kernel_rfl)) ?_
 intro W base args ds gs before hval0 hW hcnd hsz0 _
 have hval : ∀ (j : Nat) t v, Try.f3.params[j]? = some t → args[j]? = some v → Value.okWide Try.prog W .any base t v := hval0
 have hW' := hW
 obtain ⟨p, q, hA0, hV, rfl, hfz, hnd⟩ := hW
 have hA : DataW.TrodAll enc Try.prog W 0 (fun _ => true) true Try.f3.params.toList args.toList ds p := hA0
 rw [Try.params3] at hA hval
 obtain ⟨v0, vs0, d0, ds0, p0, q0, hargs, rfl, rfl, h0, r0⟩ := trodAll_cons hA
 obtain ⟨rfl, rfl, rfl⟩ := trodAll_nil r0
 obtain rfl : args = #[v0] := by cases args; simp_all
 obtain ⟨rfl, rfl⟩ := trodVars_none hV
 have lt0 : ∀ x ∈ p0, x.block < W.heap.size := by obtain ⟨m, hm⟩ := h0; exact DataW.trod_lt m _ _ _ hm
 obtain ⟨x0, hx0, hf0⟩ := law_arg (K := 0) envOk lawTy (t := 29) (ti := ⟨true, [.sl true [.sl true [.b, .sl false [.i .u8]], .i .i64, .b], .i .i64, .sl true [.i .i64, .i .i64, .i .i64], .b, .i .i64], .st [(0, 27), (4, 3)]⟩) (by kernel_rfl) (by kernel_rfl) (hval 0 29 v0 rfl rfl) h0
 try clear hA0
 try clear hval0
 try clear hsz0
 obtain ⟨k0, hk0⟩ : ∃ k : Nat, 24 ≤ k := ⟨24, Nat.le_refl _⟩
 have hC := orc_snd (X := X) envOk xs forms 33554432 6 (k0 + 8) 3 fi3 rfl rfl
 have hcalls := law_true (W := W) hC rfl rfl (args := [v0]) (ts := [x0]) ⟨hx0, trivial⟩ (lawB hk0 (Nat.le_refl _) hf0) (owVals_law (tis := [⟨true, [.sl true [.sl true [.b, .sl false [.i .u8]], .i .i64, .b], .i .i64, .sl true [.i .i64, .i .i64, .i .i64], .b, .i .i64], .st [(0, 27), (4, 3)]⟩]))
 refine hcalls.mono fun e W' ⟨he, bel⟩ => ?_
 subst he
 exact ⟨_, rfl, _, _, _, [], _, [], hW', trodAll_mk1 (shut_bool Try.underlying4 _), (trodAll_cons_mk (Below.trod laidOut (by kernel_rfl) (of_decide_eq_true (by kernel_rfl)) h0 bel lt0) trodAll_mk0), rfl, bel.frame _, fun h => by cases h⟩
theorem laidOut' : laidOutB Try.pinned.checked.prog = true := laidOut
set_option maxRecDepth 100000 in
set_option maxHeartbeats 0 in
theorem facts : joinedFacts Try.pinned.checked.prog 3 Try.f3 Rows.fnExactRootsOfSpec Rows.fnExactRootsOfRow = true := by
 unfold joinedFacts
 simp only [Bool.and_eq_true]
 and_intros
 all_goals first | (with_reducible exact laidOut') | (as_aux_lemma => kernel_rfl)
theorem over : Rows.fnExactRootsOfRow.holds Try.pinned (OpenSpec.ofChange Rows.fnExactRootsOfSpec) :=
 OpenClaim.holds_of_wide 3 Try.f3 rfl rfl rfl rfl rfl rfl rfl ⟨rfl, rfl, rfl, rfl, rfl⟩ rfl rfl rfl rfl rfl (by kernel_rfl) Try.func3 facts
  (of_decide_eq_true (by kernel_rfl)) (by unfold Func.isWrapper; first | (rw [if_pos (by decide +kernel)]; kernel_rfl) | (rw [if_neg (by decide +kernel)]; exact ⟨rfl, rfl⟩))
  (fun os started H enc _ => lifted os started H enc)
theorem proved : Rows.FnExactRootsOfSaid := over
#print axioms proved
end Go.Proofs.Ytmjahclmjgllbaa.fnExactRootsOf
namespace Go.Proofs.Ytmjahclmjgllbaa
/-- The row, under a short name, for the claim. -/
theorem fnExactRootsOf_holds : Rows.FnExactRootsOfSaid := fnExactRootsOf.proved
end Go.Proofs.Ytmjahclmjgllbaa
