/- The law FnNothing returns true for every input, and its arguments read afterwards as before; no condition. -/
import Derived.Test.YtcippopaecnjhaaGreatRows
import Derived.Test.YtcippopaecnjhaaGreatX3
import Derived.WalkKit
import Derived.ProofKit
import Derived.OpenShut
import Derived.ShutString
import Derived.ChangeOld
import Derived.ChangeSame
import Derived.Below
import Derived.SizedLaws
set_option linter.unusedVariables false
set_option linter.constructorNameAsVariable false
set_option linter.unusedSimpArgs false
set_option linter.unnecessarySimpa false
namespace Go.Proofs.YtcippopaecnjhaaGreat.fnNothing
open Go.ChangeShapes Go.WideShapes Go.ChangeAt Go.RowKit Go.Proofs.YtcippopaecnjhaaGreatV Go.Proofs.YtcippopaecnjhaaGreat.T
set_option linter.unusedVariables false
theorem own : ownKnob Tryz.prog.godebug = none := by kernel_rfl
theorem laidOut : laidOutB Tryz.prog = true := by kernel_rfl
set_option maxRecDepth 100000 in
theorem lifted (os : Os) (started : os.Started) (H : Type) (enc : TypeId × Value → H) :
 ReturnsInHanded {} Tryz.checked os 4 .any (Rows.fnNothingSpec.pre6 enc Tryz.prog Tryz.f4 Rows.fnNothingRow.domain false) (Rows.fnNothingSpec.post enc Tryz.prog Tryz.f4 false true false false) := by
 refine returnsInHanded_of_change_sized (C := Tryz.checked) own started (by kernel_rfl) Tryz.func4
  (ChangeSpec.witness6 (enc := enc) (C := Tryz.checked) false ⟨#[], #[.slice none 0 0], []⟩ 8 (by kernel_rfl) (by kernel_rfl) (by kernel_rfl) (by kernel_rfl)) ?_
 intro W base args ds gs before hval0 hW hcnd hsz0 _
 have hval : ∀ (j : Nat) t v, Tryz.f4.params[j]? = some t → args[j]? = some v → Value.okWide Tryz.prog W .any base t v := hval0
 have hW' := hW
 obtain ⟨p, q, hA0, hV, rfl, hfz, hnd⟩ := hW
 have hA : DataW.TrodAll enc Tryz.prog W 0 (fun _ => true) true Tryz.f4.params.toList args.toList ds p := hA0
 rw [Tryz.params4] at hA hval
 obtain ⟨v0, vs0, d0, ds0, p0, q0, hargs, rfl, rfl, h0, r0⟩ := trodAll_cons hA
 obtain ⟨rfl, rfl, rfl⟩ := trodAll_nil r0
 obtain rfl : args = #[v0] := by cases args; simp_all
 obtain ⟨rfl, rfl⟩ := trodVars_none hV
 have lt0 : ∀ x ∈ p0, x.block < W.heap.size := by obtain ⟨m, hm⟩ := h0; exact DataW.trod_lt m _ _ _ hm
 obtain ⟨x0, hx0, hf0⟩ := law_arg (K := 0) envOk lawTy (t := 50) (ti := ⟨false, [.sl false [.i .u8]], .sl 5⟩) (by kernel_rfl) (by kernel_rfl) (hval 0 50 v0 rfl rfl) h0
 try clear hA0
 try clear hval0
 try clear hsz0
 have hC := orc_snd (X := X) envOk xs forms 33554432 6 14 4 fi4 rfl rfl
 have hcalls := law_true (W := W) hC rfl rfl (args := [v0]) (ts := [x0]) ⟨hx0, trivial⟩ (lawB (Nat.le_refl _) hf0) (owVals_law (tis := [⟨false, [.sl false [.i .u8]], .sl 5⟩]))
 refine hcalls.mono fun e W' ⟨he, bel⟩ => ?_
 subst he
 exact ⟨_, rfl, _, _, _, [], _, [], hW', trodAll_mk1 (shut_bool Tryz.underlying4 _), (trodAll_cons_mk (Below.trod laidOut (by kernel_rfl) (of_decide_eq_true (by kernel_rfl)) h0 bel lt0) trodAll_mk0), rfl, bel.frame _, fun h => by cases h⟩
theorem laidOut' : laidOutB Tryz.pinned.checked.prog = true := laidOut
set_option maxRecDepth 100000 in
set_option maxHeartbeats 0 in
theorem facts : joinedFacts Tryz.pinned.checked.prog 4 Tryz.f4 Rows.fnNothingSpec Rows.fnNothingRow = true := by
 unfold joinedFacts
 simp only [Bool.and_eq_true]
 and_intros
 all_goals first | (with_reducible exact laidOut') | (as_aux_lemma => kernel_rfl)
theorem over : Rows.fnNothingRow.holds Tryz.pinned (OpenSpec.ofChange Rows.fnNothingSpec) :=
 OpenClaim.holds_of_wide 4 Tryz.f4 rfl rfl rfl rfl rfl rfl rfl ⟨rfl, rfl, rfl, rfl, rfl⟩ rfl rfl rfl rfl rfl (by kernel_rfl) Tryz.func4 facts
  (of_decide_eq_true (by kernel_rfl)) (by unfold Func.isWrapper; first | (rw [if_pos (by decide +kernel)]; kernel_rfl) | (rw [if_neg (by decide +kernel)]; exact ⟨rfl, rfl⟩))
  (fun os started H enc _ => lifted os started H enc)
theorem proved : Rows.FnNothingSaid := over
#print axioms proved
end Go.Proofs.YtcippopaecnjhaaGreat.fnNothing
namespace Go.Proofs.YtcippopaecnjhaaGreat
/-- The row, under a short name, for the claim. -/
theorem fnNothing_holds : Rows.FnNothingSaid := fnNothing.proved
end Go.Proofs.YtcippopaecnjhaaGreat
