/- The law FnExactBuild returns true for every input, and its arguments read afterwards as before; no condition. -/
import Derived.Test.YtcfpgocffglbhaaGreatDoorRows
import Derived.Test.YtcfpgocffglbhaaGreatDoorX4
import Derived.Test.YtcfpgocffglbhaaGreatDoorTie
import Derived.Test.YtcfpgocffglbhaaGreatDoorCards
import Derived.Lay
import Derived.LaidOnce
import Derived.SevenTiedAt
import Derived.Handed
import Derived.WalkKit
import Derived.ProofKit
import Derived.OpenShut
import Derived.ShutString
import Derived.ChangeOld
import Derived.ChangeSame
import Derived.Below
import Derived.SizedLaws
set_option linter.unusedVariables false
set_option linter.constructorNameAsVariable false
set_option linter.unusedSimpArgs false
set_option linter.unnecessarySimpa false
namespace Go.Proofs.YtcfpgocffglbhaaGreatDoor.fnExactBuild
open Go.ChangeShapes Go.WideShapes Go.ChangeAt Go.RowKit Go.Proofs.YtcfpgocffglbhaaGreatDoorV Go.Proofs.YtcfpgocffglbhaaGreatDoor.T
set_option linter.unusedVariables false
def laid:List (String×DataW Unit):=[("unicode/utf8.acceptRanges",Rows.laid_unicode_utf8_acceptRanges),("unicode/utf8.first",Rows.laid_unicode_utf8_first)]
theorem own:ownKnob Tryz.prog.godebug=none:=by kernel_rfl
theorem laidOut:laidOutB Tryz.prog=true:=by kernel_rfl
set_option maxRecDepth 100000 in
theorem lifted(os:Os)(started:os.Started)(H:Type)(enc:TypeId×Value->H):ReturnsInHanded {} Tryz.checked os 3 .any (λw args=>(Rows.fnExactBuildSpec.pre enc Tryz.prog Tryz.f3 [] false w args/\laidMetH Tryz.prog laid w)/\sizedMet enc Tryz.prog Tryz.f3 (OpenSpec.ofChange Rows.fnExactBuildSpec) false w args) (Rows.fnExactBuildSpec.post enc Tryz.prog Tryz.f3 false true false false):=by
 refine returnsInHanded_of_change_and (C:=Tryz.checked) (X:=λw _=>laidMetH Tryz.prog laid w) (λ_ _ _ hh h=>h.of_heap hh) own started (by kernel_rfl) Tryz.func3 (ChangeSpec.witness_shaped (enc:=enc) (C:=Tryz.checked) (os:=os) (X:=λw _=>laidMetH Tryz.prog laid w) false (World.laidAll Tryz.prog os laid) #[.slice none 0 0,.slice none 0 0] 8 (World.laidAll_os _ _ _) (World.shaped_of_ZipB (by kernel_rfl) (by kernel_rfl)) (by kernel_rfl) (by kernel_rfl) (by kernel_rfl) (by rw[MakeChecks.laidMetH_plain _ _ _ (by kernel_rfl)];exact laidMet_laidAll _ (by kernel_rfl) (by kernel_rfl))) ?_;intro W base args ds gs before hval0 hW hcnd hsz0 _ _;have hval:∀(j:Nat) t v,Tryz.f3.params[j]? =some t->args[j]? =some v->Value.okWide Tryz.prog W .any base t v:=hval0;have hW':=hW;obtain⟨p,q,hA0,hV,rfl,hfz,hnd⟩:=hW;have hA:DataW.TrodAll enc Tryz.prog W 0 (λ_=>true) true Tryz.f3.params.toList args.toList ds p:=hA0;rw[Tryz.params3]at hA hval;obtain⟨v0,M,Q,F,I,R,hargs,rfl,rfl,h0,L⟩:=trodAll_cons hA;obtain⟨E,N,d1,G,J,S,rfl,rfl,rfl,c,r1⟩:=trodAll_cons L;obtain⟨rfl,rfl,rfl⟩:=trodAll_nil r1;obtain rfl:args=#[v0,E]:=by cases args;simp_all
 obtain⟨rfl,rfl⟩:=trodVars_none hV;have B:∀x∈I,x.block<W.heap.size:=by obtain⟨m,hm⟩:=h0;exact DataW.trod_lt m _ _ _ hm
 have D:∀x∈J,x.block<W.heap.size:=by obtain⟨m,hm⟩:=c;exact DataW.trod_lt m _ _ _ hm
 obtain⟨O,z,g⟩:=quy (K:=0) envOk lawTy (t:=22) (ti:=⟨false,[.sl true [.s,.s]],.sl 44⟩) (by kernel_rfl) (by kernel_rfl) (hval 0 22 v0 rfl rfl) h0;obtain⟨P,A,k⟩:=quy (K:=_) envOk lawTy (t:=23) (ti:=⟨false,[.sl true [.s,.i .i64,.sl false [.i .u8],.sl true [.s,.s],.s]],.sl 48⟩) (by kernel_rfl) (by kernel_rfl) (hval 1 23 E rfl rfl) c;try clear hA0
 try clear hval0
 try clear hsz0
 have hC:=qu6 (X:=X) envOk xs forms 33554432 6 14 3 fi3 rfl rfl;have hcalls:=qxp (W:=W) hC rfl rfl (args:=[v0,E]) (ts:=[O,P]) ⟨z,A,trivial⟩ (lawB (Nat.le_refl _) g k) (ql1 (tis:=[⟨false,[.sl true [.s,.s]],.sl 44⟩,⟨false,[.sl true [.s,.i .i64,.sl false [.i .u8],.sl true [.s,.s],.s]],.sl 48⟩]));refine hcalls.mono λe W'⟨he,bel⟩=>?_;subst he;exact⟨_,rfl,_,_,_,[],_,[],hW',trodAll_mk1 (shut_bool Tryz.underlying4 _),(trodAll_cons_mk (Below.trod laidOut (by kernel_rfl) (of_decide_eq_true (by kernel_rfl)) h0 bel B) (trodAll_cons_mk (Below.trod laidOut (by kernel_rfl) (of_decide_eq_true (by kernel_rfl)) c bel D) trodAll_mk0)),rfl,bel.frame _,λh=>by cases h⟩
theorem laidOut':laidOutB Tryz.pinned.checked.prog=true:=laidOut
set_option maxRecDepth 100000 in
set_option maxHeartbeats 0 in
theorem facts:joinedFacts Tryz.pinned.checked.prog 3 Tryz.f3 Rows.fnExactBuildSpec Rows.fnExactBuildRow=true:=by unfold joinedFacts;simp only[Bool.and_eq_true];and_intros;all_goals first|(with_reducible exact laidOut')|(as_aux_lemma=>kernel_rfl)
theorem over:Rows.fnExactBuildRow.holds Tryz.pinned (OpenSpec.ofChange Rows.fnExactBuildSpec):=OpenClaim.holds_of_wide 3 Tryz.f3 rfl rfl rfl rfl rfl rfl rfl ⟨rfl,rfl,rfl,rfl,rfl⟩ rfl rfl rfl rfl rfl (by kernel_rfl) Tryz.func3 facts (of_decide_eq_true (by kernel_rfl)) (by unfold Func.isWrapper;first|(rw[if_pos (by decide+kernel)];kernel_rfl)|(rw[if_neg (by decide+kernel)];exact⟨rfl,rfl⟩)) (λos started H enc _=>lifted os started H enc)
theorem proved:Rows.FnExactBuildCardSaid:=
 Claim7.holds_tied_plain_at .later [] [.data,.pinned] true (true,"7033deea21ef6f974c74a1655ebbb1ea02430d50349661b1485a2556e0810684") false over (λ_ h=>by cases h) (by kernel_rfl) (λ_ h=>by cases h) fnExactBuild_row_tie rfl ⟨rfl,rfl⟩ (by kernel_rfl) rfl (λf fn hf hfn=>by
  obtain rfl:f=3:=Option.some.inj ((show Tryz.prog.funcNamed "loop.example/g00285/laws.FnExactBuild"=some 3 by kernel_rfl).symm.trans hf)|>.symm;obtain rfl:fn=Tryz.f3:=(Option.some.inj (Tryz.func3.symm.trans hfn)).symm;exact⟨by kernel_rfl,λj t ht=>by
   rw[Tryz.params3]at ht;have hm:t∈[22,23]:=by simpa using Array.mem_of_getElem? ht
   have hall:([22,23].all λu=>!Tryz.prog.wantsStandIn u)=true:=by kernel_rfl
   exact(show Tryz.prog.wantsStandIn t=false by simpa using List.all_eq_true.1 hall t hm)⟩)
  (by kernel_rfl)
#print axioms proved
end Go.Proofs.YtcfpgocffglbhaaGreatDoor.fnExactBuild
namespace Go.Proofs.YtcfpgocffglbhaaGreatDoor
/-- The row, under a short name, for the claim. -/
theorem fnExactBuild_holds : Rows.FnExactBuildCardSaid := fnExactBuild.proved
end Go.Proofs.YtcfpgocffglbhaaGreatDoor
