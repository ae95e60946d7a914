/- The law FnExactSharedOf returns true for every input, and its arguments read afterwards as before; no condition. -/
import Derived.Test.YtgnnlojbjjejcaaRows
import Derived.Test.YtgnnlojbjjejcaaX4
import Derived.WalkKit
import Derived.ProofKit
import Derived.OpenShut
import Derived.ShutString
import Derived.ChangeOld
import Derived.ChangeSame
import Derived.Below
import Derived.SizedLaws
set_option linter.unusedVariables false
set_option linter.constructorNameAsVariable false
set_option linter.unusedSimpArgs false
set_option linter.unnecessarySimpa false
namespace Go.Proofs.Ytgnnlojbjjejcaa.fnExactSharedOf
open Go.ChangeShapes Go.WideShapes Go.ChangeAt Go.RowKit Go.Proofs.YtgnnlojbjjejcaaV Go.Proofs.Ytgnnlojbjjejcaa.T
set_option linter.unusedVariables false
theorem own:ownKnob Try.prog.godebug=none:=by kernel_rfl
theorem laidOut:laidOutB Try.prog=true:=by kernel_rfl
set_option maxRecDepth 100000 in
theorem lifted(os:Os)(started:os.Started)(H:Type)(enc:TypeId×Value->H):ReturnsInHanded {} Try.checked os 3 .any (Rows.fnExactSharedOfSpec.pre6 enc Try.prog Try.f3 Rows.fnExactSharedOfRow.domain false) (Rows.fnExactSharedOfSpec.post enc Try.prog Try.f3 false true false false):=by
 refine returnsInHanded_of_change_sized (C:=Try.checked) own started (by kernel_rfl) Try.func3 (ChangeSpec.witness6 (enc:=enc) (C:=Try.checked) false ⟨#[],#[.agg #[.slice none 0 0,.int .i64 0,.int .i64 0,.slice none 0 0,.slice none 0 0,.int .i64 0,.int .i64 0]],[]⟩ 8 (by kernel_rfl) (by kernel_rfl) (by kernel_rfl) (by kernel_rfl)) ?_;intro W base args ds gs before hval0 hW hcnd hsz0 _;have hval:∀(j:Nat) t v,Try.f3.params[j]? =some t->args[j]? =some v->Value.okWide Try.prog W .any base t v:=hval0;have hW':=hW;obtain⟨p,q,hA0,hV,rfl,hfz,hnd⟩:=hW;have hA:DataW.TrodAll enc Try.prog W 0 (λ_=>true) true Try.f3.params.toList args.toList ds p:=hA0;rw[Try.params3]at hA hval;obtain⟨v0,B,E,z,p0,F,hargs,rfl,rfl,h0,A⟩:=trodAll_cons hA;obtain⟨rfl,rfl,rfl⟩:=trodAll_nil A;obtain rfl:args=#[v0]:=by cases args;simp_all
 obtain⟨rfl,rfl⟩:=trodVars_none hV;have k:∀x∈p0,x.block<W.heap.size:=by obtain⟨m,hm⟩:=h0;exact DataW.trod_lt m _ _ _ hm
 obtain⟨D,g,c⟩:=law_arg (K:=0) envOk lawTy (t:=30) (ti:=⟨true,[.sl true [.i .i64,.s,.b,.i .i64,.sl true [.i .i64,.i .i64,.i .i64,.sl false [.i .u8],.sl true [.s,.i .i64],.sl true [.s,.s]],.i .i64],.i .i64,.i .i64,.sl true [.i .i64,.s,.b,.i .i64,.i .i64],.sl true [.i .i64,.sl true [.i .i64,.i .i64]],.i .i64,.i .i64],.st [(0,24),(2,27),(4,28),(5,3),(6,3)]⟩) (by kernel_rfl) (by kernel_rfl) (hval 0 30 v0 rfl rfl) h0;try clear hA0
 try clear hval0
 try clear hsz0
 have hC:=orc_snd (X:=X) envOk xs forms 33554432 6 14 3 fi3 rfl rfl;have hcalls:=law_true (W:=W) hC rfl rfl (args:=[v0]) (ts:=[D]) ⟨g,trivial⟩ (lawB (Nat.le_refl _) c) (owVals_law (tis:=[⟨true,[.sl true [.i .i64,.s,.b,.i .i64,.sl true [.i .i64,.i .i64,.i .i64,.sl false [.i .u8],.sl true [.s,.i .i64],.sl true [.s,.s]],.i .i64],.i .i64,.i .i64,.sl true [.i .i64,.s,.b,.i .i64,.i .i64],.sl true [.i .i64,.sl true [.i .i64,.i .i64]],.i .i64,.i .i64],.st [(0,24),(2,27),(4,28),(5,3),(6,3)]⟩]));refine hcalls.mono λe W'⟨he,bel⟩=>?_;subst he;exact⟨_,rfl,_,_,_,[],_,[],hW',trodAll_mk1 (shut_bool Try.underlying4 _),(trodAll_cons_mk (Below.trod laidOut (by kernel_rfl) (of_decide_eq_true (by kernel_rfl)) h0 bel k) trodAll_mk0),rfl,bel.frame _,λh=>by cases h⟩
theorem laidOut':laidOutB Try.pinned.checked.prog=true:=laidOut
set_option maxRecDepth 100000 in
set_option maxHeartbeats 0 in
theorem facts:joinedFacts Try.pinned.checked.prog 3 Try.f3 Rows.fnExactSharedOfSpec Rows.fnExactSharedOfRow=true:=by unfold joinedFacts;simp only[Bool.and_eq_true];and_intros;all_goals first|(with_reducible exact laidOut')|(as_aux_lemma=>kernel_rfl)
theorem over:Rows.fnExactSharedOfRow.holds Try.pinned (OpenSpec.ofChange Rows.fnExactSharedOfSpec):=OpenClaim.holds_of_wide 3 Try.f3 rfl rfl rfl rfl rfl rfl rfl ⟨rfl,rfl,rfl,rfl,rfl⟩ rfl rfl rfl rfl rfl (by kernel_rfl) Try.func3 facts (of_decide_eq_true (by kernel_rfl)) (by unfold Func.isWrapper;first|(rw[if_pos (by decide+kernel)];kernel_rfl)|(rw[if_neg (by decide+kernel)];exact⟨rfl,rfl⟩)) (λos started H enc _=>lifted os started H enc)
theorem proved:Rows.FnExactSharedOfSaid:=over
#print axioms proved
end Go.Proofs.Ytgnnlojbjjejcaa.fnExactSharedOf
namespace Go.Proofs.Ytgnnlojbjjejcaa
/-- The row, under a short name, for the claim. -/
theorem fnExactSharedOf_holds : Rows.FnExactSharedOfSaid := fnExactSharedOf.proved
end Go.Proofs.Ytgnnlojbjjejcaa
