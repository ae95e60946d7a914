/- The law FnExactEntriesOk returns true for every input, and its arguments read afterwards as before; no condition. -/
import Derived.Test.YtdclnhlpifahpaaDoorRows
import Derived.Test.YtdclnhlpifahpaaDoorX3
import Derived.Test.YtdclnhlpifahpaaDoorTie
import Derived.Test.YtdclnhlpifahpaaDoorCards
import Derived.Lay
import Derived.LaidOnce
import Derived.SevenTiedAt
import Derived.Handed
import Derived.WalkKit
import Derived.ProofKit
import Derived.OpenShut
import Derived.ShutString
import Derived.ChangeOld
import Derived.ChangeSame
import Derived.Below
import Derived.SizedLaws
set_option linter.unusedVariables false
set_option linter.constructorNameAsVariable false
set_option linter.unusedSimpArgs false
set_option linter.unnecessarySimpa false
namespace Go.Proofs.YtdclnhlpifahpaaDoor.fnExactEntriesOk
open Go.ChangeShapes Go.WideShapes Go.ChangeAt Go.RowKit Go.Proofs.YtdclnhlpifahpaaDoorV Go.Proofs.YtdclnhlpifahpaaDoor.T
set_option linter.unusedVariables false
def laid : List (String × DataW Unit) := [("unicode/utf8.acceptRanges", Rows.laid_unicode_utf8_acceptRanges), ("unicode/utf8.first", Rows.laid_unicode_utf8_first)]
theorem own : ownKnob Tryd.prog.godebug = none := by kernel_rfl
theorem laidOut : laidOutB Tryd.prog = true := by kernel_rfl
set_option maxRecDepth 100000 in
theorem lifted (os : Os) (started : os.Started) (H : Type) (enc : TypeId × Value → H) :
 ReturnsInHanded {} Tryd.checked os 3 .any (fun w args => (Rows.fnExactEntriesOkSpec.pre enc Tryd.prog Tryd.f3 [] false w args ∧ laidMetH Tryd.prog laid w) ∧ sizedMet enc Tryd.prog Tryd.f3 (OpenSpec.ofChange Rows.fnExactEntriesOkSpec) false w args) (Rows.fnExactEntriesOkSpec.post enc Tryd.prog Tryd.f3 false true false false) := by
 refine returnsInHanded_of_change_and (C := Tryd.checked) (X := fun w _ => laidMetH Tryd.prog laid w) (fun _ _ _ hh h => h.of_heap hh) own started (by kernel_rfl) Tryd.func3
  (ChangeSpec.witness_shaped (enc := enc) (C := Tryd.checked) (os := os) (X := fun w _ => laidMetH Tryd.prog laid w) false (World.laidAll Tryd.prog os laid) #[.slice none 0 0] 8 (World.laidAll_os _ _ _)
   (World.shaped_of_ZipB (by kernel_rfl) (by kernel_rfl)) (by kernel_rfl) (by kernel_rfl) (by kernel_rfl)
   (by rw [MakeChecks.laidMetH_plain _ _ _ (by kernel_rfl)]; exact laidMet_laidAll _ (by kernel_rfl) (by kernel_rfl))) ?_
 intro W base args ds gs before hval0 hW hcnd hsz0 _ _
 have hval : ∀ (j : Nat) t v, Tryd.f3.params[j]? = some t → args[j]? = some v → Value.okWide Tryd.prog W .any base t v := hval0
 have hW' := hW
 obtain ⟨p, q, hA0, hV, rfl, hfz, hnd⟩ := hW
 have hA : DataW.TrodAll enc Tryd.prog W 0 (fun _ => true) true Tryd.f3.params.toList args.toList ds p := hA0
 rw [Tryd.params3] at hA hval
 obtain ⟨v0, vs0, d0, ds0, p0, q0, hargs, rfl, rfl, h0, r0⟩ := trodAll_cons hA
 obtain ⟨rfl, rfl, rfl⟩ := trodAll_nil r0
 obtain rfl : args = #[v0] := by cases args; simp_all
 obtain ⟨rfl, rfl⟩ := trodVars_none hV
 have lt0 : ∀ x ∈ p0, x.block < W.heap.size := by obtain ⟨m, hm⟩ := h0; exact DataW.trod_lt m _ _ _ hm
 obtain ⟨x0, hx0, hf0⟩ := law_arg (K := 0) envOk lawTy (t := 22) (ti := ⟨false, [.sl true [.s, .i .i64, .sl false [.i .u8], .sl true [.s, .s], .s]], .sl 33⟩) (by kernel_rfl) (by kernel_rfl) (hval 0 22 v0 rfl rfl) h0
 try clear hA0
 try clear hval0
 try clear hsz0
 have hC := orc_snd (X := X) envOk xs forms 33554432 6 12 3 fi3 rfl rfl
 have hcalls := law_true (W := W) hC rfl rfl (args := [v0]) (ts := [x0]) ⟨hx0, trivial⟩ (lawB (Nat.le_refl _) hf0) (owVals_law (tis := [⟨false, [.sl true [.s, .i .i64, .sl false [.i .u8], .sl true [.s, .s], .s]], .sl 33⟩]))
 refine hcalls.mono fun e W' ⟨he, bel⟩ => ?_
 subst he
 exact ⟨_, rfl, _, _, _, [], _, [], hW', trodAll_mk1 (shut_bool Tryd.underlying4 _), (trodAll_cons_mk (Below.trod laidOut (by kernel_rfl) (of_decide_eq_true (by kernel_rfl)) h0 bel lt0) trodAll_mk0), rfl, bel.frame _, fun h => by cases h⟩
theorem laidOut' : laidOutB Tryd.pinned.checked.prog = true := laidOut
set_option maxRecDepth 100000 in
set_option maxHeartbeats 0 in
theorem facts : joinedFacts Tryd.pinned.checked.prog 3 Tryd.f3 Rows.fnExactEntriesOkSpec Rows.fnExactEntriesOkRow = true := by
 unfold joinedFacts
 simp only [Bool.and_eq_true]
 and_intros
 all_goals first | (with_reducible exact laidOut') | (as_aux_lemma => kernel_rfl)
theorem over : Rows.fnExactEntriesOkRow.holds Tryd.pinned (OpenSpec.ofChange Rows.fnExactEntriesOkSpec) :=
 OpenClaim.holds_of_wide 3 Tryd.f3 rfl rfl rfl rfl rfl rfl rfl ⟨rfl, rfl, rfl, rfl, rfl⟩ rfl rfl rfl rfl rfl (by kernel_rfl) Tryd.func3 facts
  (of_decide_eq_true (by kernel_rfl)) (by unfold Func.isWrapper; first | (rw [if_pos (by decide +kernel)]; kernel_rfl) | (rw [if_neg (by decide +kernel)]; exact ⟨rfl, rfl⟩))
  (fun os started H enc _ => lifted os started H enc)
theorem proved : Rows.FnExactEntriesOkCardSaid :=
 Claim7.holds_tied_plain_at .later [] [.data, .pinned] true (true, "d21669ba3988ce535b8018e2cd13ef9e536cabdbfe239515c19bd476c560c2f1") false over (fun _ h => by cases h) (by kernel_rfl) (fun _ h => by cases h) fnExactEntriesOk_row_tie rfl ⟨rfl, rfl⟩ (by kernel_rfl) rfl
  (fun f fn hf hfn => by
   obtain rfl : f = 3 := Option.some.inj ((show Tryd.prog.funcNamed "loop.example/g00285/laws.FnExactEntriesOk" = some 3 by kernel_rfl).symm.trans hf) |>.symm
   obtain rfl : fn = Tryd.f3 := (Option.some.inj (Tryd.func3.symm.trans hfn)).symm
   exact ⟨by kernel_rfl, fun j t ht => by
    rw [Tryd.params3] at ht
    have hm : t ∈ [22] := by simpa using Array.mem_of_getElem? ht
    have hall : ([22].all fun u => !Tryd.prog.wantsStandIn u) = true := by kernel_rfl
    exact (show Tryd.prog.wantsStandIn t = false by simpa using List.all_eq_true.1 hall t hm)⟩)
  (by kernel_rfl)
#print axioms proved
end Go.Proofs.YtdclnhlpifahpaaDoor.fnExactEntriesOk
namespace Go.Proofs.YtdclnhlpifahpaaDoor
/-- The row, under a short name, for the claim. -/
theorem fnExactEntriesOk_holds : Rows.FnExactEntriesOkCardSaid := fnExactEntriesOk.proved
end Go.Proofs.YtdclnhlpifahpaaDoor
