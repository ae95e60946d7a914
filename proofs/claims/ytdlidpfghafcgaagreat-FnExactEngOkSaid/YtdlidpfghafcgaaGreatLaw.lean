/- The law FnExactEngOk returns true for every input, and its arguments read afterwards as before; no condition. -/
import Derived.Test.YtdlidpfghafcgaaGreatRows
import Derived.Test.YtdlidpfghafcgaaGreatX4
import Derived.WalkKit
import Derived.ProofKit
import Derived.OpenShut
import Derived.ShutString
import Derived.ChangeOld
import Derived.ChangeSame
import Derived.Below
import Derived.SizedLaws
set_option linter.unusedVariables false
set_option linter.constructorNameAsVariable false
set_option linter.unusedSimpArgs false
set_option linter.unnecessarySimpa false
namespace Go.Proofs.YtdlidpfghafcgaaGreat.fnExactEngOk
open Go.ChangeShapes Go.WideShapes Go.ChangeAt Go.RowKit Go.Proofs.YtdlidpfghafcgaaGreatV Go.Proofs.YtdlidpfghafcgaaGreat.T
set_option linter.unusedVariables false
theorem own:ownKnob Tryz.prog.godebug=none:=by kernel_rfl
theorem laidOut:laidOutB Tryz.prog=true:=by kernel_rfl
set_option maxRecDepth 100000 in
theorem lifted(os:Os)(started:os.Started)(H:Type)(enc:TypeId×Value->H):ReturnsInHanded {} Tryz.checked os 3 .any (Rows.fnExactEngOkSpec.pre6 enc Tryz.prog Tryz.f3 Rows.fnExactEngOkRow.domain false) (Rows.fnExactEngOkSpec.post enc Tryz.prog Tryz.f3 false true false false):=by
 refine returnsInHanded_of_change_sized (C:=Tryz.checked) own started (by kernel_rfl) Tryz.func3 (ChangeSpec.witness6 (enc:=enc) (C:=Tryz.checked) false ⟨#[],#[.agg #[.slice none 0 0,.int .i64 0,.slice none 0 0,.int .i64 0,.int .i64 0,.slice none 0 0,.slice none 0 0,.int .i64 0,.int .i64 0,.slice none 0 0,.int .i64 0,.slice none 0 0,.bool false,.int .i64 0]],[]⟩ 8 (by kernel_rfl) (by kernel_rfl) (by kernel_rfl) (by kernel_rfl)) ?_;intro W base args ds gs before hval0 hW hcnd hsz0 _;have hval:∀(j:Nat) t v,Tryz.f3.params[j]? =some t->args[j]? =some v->Value.okWide Tryz.prog W .any base t v:=hval0;have hW':=hW;obtain⟨p,q,hA0,hV,rfl,hfz,hnd⟩:=hW;have hA:DataW.TrodAll enc Tryz.prog W 0 (λ_=>true) true Tryz.f3.params.toList args.toList ds p:=hA0;rw[Tryz.params3]at hA hval;obtain⟨v0,D,F,z,A,G,hargs,rfl,rfl,h0,B⟩:=trodAll_cons hA;obtain⟨rfl,rfl,rfl⟩:=trodAll_nil B;obtain rfl:args=#[v0]:=by cases args;simp_all
 obtain⟨rfl,rfl⟩:=trodVars_none hV;have k:∀x∈A,x.block<W.heap.size:=by obtain⟨m,hm⟩:=h0;exact DataW.trod_lt m _ _ _ hm
 obtain⟨E,g,c⟩:=law_arg (K:=0) envOk lawTy (t:=40) (ti:=⟨true,[.sl true [.i .i64,.s,.b,.i .i64,.sl true [.i .i64,.i .i64,.i .i64,.sl false [.i .u8],.sl true [.s,.i .i64],.sl true [.s,.s]],.i .i64],.i .i64,.sl true [.i .i64,.s,.b,.i .i64,.sl true [.i .i64,.i .i64,.i .i64,.sl false [.i .u8],.sl true [.s,.i .i64],.sl true [.s,.s]],.i .i64],.i .i64,.i .i64,.sl true [.i .i64,.s,.b,.i .i64,.i .i64],.sl true [.i .i64,.sl true [.i .i64,.i .i64]],.i .i64,.i .i64,.sl true [.sl true [.b,.sl false [.i .u8]],.i .i64,.b],.i .i64,.sl true [.i .i64,.i .i64,.i .i64],.b,.i .i64],.st [(0,24),(2,30),(9,38)]⟩) (by kernel_rfl) (by kernel_rfl) (hval 0 40 v0 rfl rfl) h0;try clear hA0
 try clear hval0
 try clear hsz0
 have hC:=qv2 (X:=X) envOk xs forms 33554432 6 12 3 fi3 rfl rfl;have hcalls:=qy3 (W:=W) hC rfl rfl (args:=[v0]) (ts:=[E]) ⟨g,trivial⟩ (lawB (Nat.le_refl _) c) (qly (tis:=[⟨true,[.sl true [.i .i64,.s,.b,.i .i64,.sl true [.i .i64,.i .i64,.i .i64,.sl false [.i .u8],.sl true [.s,.i .i64],.sl true [.s,.s]],.i .i64],.i .i64,.sl true [.i .i64,.s,.b,.i .i64,.sl true [.i .i64,.i .i64,.i .i64,.sl false [.i .u8],.sl true [.s,.i .i64],.sl true [.s,.s]],.i .i64],.i .i64,.i .i64,.sl true [.i .i64,.s,.b,.i .i64,.i .i64],.sl true [.i .i64,.sl true [.i .i64,.i .i64]],.i .i64,.i .i64,.sl true [.sl true [.b,.sl false [.i .u8]],.i .i64,.b],.i .i64,.sl true [.i .i64,.i .i64,.i .i64],.b,.i .i64],.st [(0,24),(2,30),(9,38)]⟩]));refine hcalls.mono λe W'⟨he,bel⟩=>?_;subst he;exact⟨_,rfl,_,_,_,[],_,[],hW',trodAll_mk1 (shut_bool Tryz.underlying4 _),(trodAll_cons_mk (Below.trod laidOut (by kernel_rfl) (of_decide_eq_true (by kernel_rfl)) h0 bel k) trodAll_mk0),rfl,bel.frame _,λh=>by cases h⟩
theorem laidOut':laidOutB Tryz.pinned.checked.prog=true:=laidOut
set_option maxRecDepth 100000 in
set_option maxHeartbeats 0 in
theorem facts:joinedFacts Tryz.pinned.checked.prog 3 Tryz.f3 Rows.fnExactEngOkSpec Rows.fnExactEngOkRow=true:=by unfold joinedFacts;simp only[Bool.and_eq_true];and_intros;all_goals first|(with_reducible exact laidOut')|(as_aux_lemma=>kernel_rfl)
theorem over:Rows.fnExactEngOkRow.holds Tryz.pinned (OpenSpec.ofChange Rows.fnExactEngOkSpec):=OpenClaim.holds_of_wide 3 Tryz.f3 rfl rfl rfl rfl rfl rfl rfl ⟨rfl,rfl,rfl,rfl,rfl⟩ rfl rfl rfl rfl rfl (by kernel_rfl) Tryz.func3 facts (of_decide_eq_true (by kernel_rfl)) (by unfold Func.isWrapper;first|(rw[if_pos (by decide+kernel)];kernel_rfl)|(rw[if_neg (by decide+kernel)];exact⟨rfl,rfl⟩)) (λos started H enc _=>lifted os started H enc)
theorem proved:Rows.FnExactEngOkSaid:=over
#print axioms proved
end Go.Proofs.YtdlidpfghafcgaaGreat.fnExactEngOk
namespace Go.Proofs.YtdlidpfghafcgaaGreat
/-- The row, under a short name, for the claim. -/
theorem fnExactEngOk_holds : Rows.FnExactEngOkSaid := fnExactEngOk.proved
end Go.Proofs.YtdlidpfghafcgaaGreat
