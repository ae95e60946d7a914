/- What functions of the law FnMaps come to, in trees; no condition. -/
import Derived.Test.YtockabaoaneplaaRows
import Derived.Test.YtockabaoaneplaaX0
import Derived.KernelRfl
set_option linter.unusedVariables false
set_option linter.constructorNameAsVariable false
set_option linter.unusedSimpArgs false
set_option linter.unnecessarySimpa false
namespace Go.Proofs.Ytockabaoaneplaa.T
open Go Go.Proofs.YtockabaoaneplaaV
theorem tys : (tyTab.all fun x => tyOkB Try.prog ⟨lookN fiTab, lookN tyTab⟩ x.1 x.2 && (!(x.2.agg && flatB x.2.cs) || eqTyB Try.prog x.1 x.2)) = true := by kernel_rfl
theorem fn13 : Try.prog.funcs[13]? = some fi13.fn ∧ fi13.fn.body.isSome = true ∧ (fi13.fn.name == "runtime.NumGoroutine") = false := ⟨Try.func13, by kernel_rfl, by kernel_rfl⟩
theorem fn65 : Try.prog.funcs[65]? = some fi65.fn ∧ fi65.fn.body.isSome = true ∧ (fi65.fn.name == "runtime.NumGoroutine") = false := ⟨Try.func65, by kernel_rfl, by kernel_rfl⟩
theorem fn124 : Try.prog.funcs[124]? = some fi124.fn ∧ fi124.fn.body.isSome = true ∧ (fi124.fn.name == "runtime.NumGoroutine") = false := ⟨Try.func124, by kernel_rfl, by kernel_rfl⟩
theorem fn70 : Try.prog.funcs[70]? = some fi70.fn ∧ fi70.fn.body.isSome = true ∧ (fi70.fn.name == "runtime.NumGoroutine") = false := ⟨Try.func70, by kernel_rfl, by kernel_rfl⟩
theorem fn118 : Try.prog.funcs[118]? = some fi118.fn ∧ fi118.fn.body.isSome = true ∧ (fi118.fn.name == "runtime.NumGoroutine") = false := ⟨Try.func118, by kernel_rfl, by kernel_rfl⟩
theorem fn71 : Try.prog.funcs[71]? = some fi71.fn ∧ fi71.fn.body.isSome = true ∧ (fi71.fn.name == "runtime.NumGoroutine") = false := ⟨Try.func71, by kernel_rfl, by kernel_rfl⟩
theorem fn69 : Try.prog.funcs[69]? = some fi69.fn ∧ fi69.fn.body.isSome = true ∧ (fi69.fn.name == "runtime.NumGoroutine") = false := ⟨Try.func69, by kernel_rfl, by kernel_rfl⟩
theorem fn66 : Try.prog.funcs[66]? = some fi66.fn ∧ fi66.fn.body.isSome = true ∧ (fi66.fn.name == "runtime.NumGoroutine") = false := ⟨Try.func66, by kernel_rfl, by kernel_rfl⟩
theorem fn14 : Try.prog.funcs[14]? = some fi14.fn ∧ fi14.fn.body.isSome = true ∧ (fi14.fn.name == "runtime.NumGoroutine") = false := ⟨Try.func14, by kernel_rfl, by kernel_rfl⟩
theorem fn76 : Try.prog.funcs[76]? = some fi76.fn ∧ fi76.fn.body.isSome = true ∧ (fi76.fn.name == "runtime.NumGoroutine") = false := ⟨Try.func76, by kernel_rfl, by kernel_rfl⟩
theorem fn19 : Try.prog.funcs[19]? = some fi19.fn ∧ fi19.fn.body.isSome = true ∧ (fi19.fn.name == "runtime.NumGoroutine") = false := ⟨Try.func19, by kernel_rfl, by kernel_rfl⟩
theorem fn123 : Try.prog.funcs[123]? = some fi123.fn ∧ fi123.fn.body.isSome = true ∧ (fi123.fn.name == "runtime.NumGoroutine") = false := ⟨Try.func123, by kernel_rfl, by kernel_rfl⟩
theorem fn67 : Try.prog.funcs[67]? = some fi67.fn ∧ fi67.fn.body.isSome = true ∧ (fi67.fn.name == "runtime.NumGoroutine") = false := ⟨Try.func67, by kernel_rfl, by kernel_rfl⟩
theorem fn15 : Try.prog.funcs[15]? = some fi15.fn ∧ fi15.fn.body.isSome = true ∧ (fi15.fn.name == "runtime.NumGoroutine") = false := ⟨Try.func15, by kernel_rfl, by kernel_rfl⟩
theorem fn77 : Try.prog.funcs[77]? = some fi77.fn ∧ fi77.fn.body.isSome = true ∧ (fi77.fn.name == "runtime.NumGoroutine") = false := ⟨Try.func77, by kernel_rfl, by kernel_rfl⟩
theorem fn21 : Try.prog.funcs[21]? = some fi21.fn ∧ fi21.fn.body.isSome = true ∧ (fi21.fn.name == "runtime.NumGoroutine") = false := ⟨Try.func21, by kernel_rfl, by kernel_rfl⟩
theorem fn79 : Try.prog.funcs[79]? = some fi79.fn ∧ fi79.fn.body.isSome = true ∧ (fi79.fn.name == "runtime.NumGoroutine") = false := ⟨Try.func79, by kernel_rfl, by kernel_rfl⟩
theorem fn68 : Try.prog.funcs[68]? = some fi68.fn ∧ fi68.fn.body.isSome = true ∧ (fi68.fn.name == "runtime.NumGoroutine") = false := ⟨Try.func68, by kernel_rfl, by kernel_rfl⟩
theorem fn16 : Try.prog.funcs[16]? = some fi16.fn ∧ fi16.fn.body.isSome = true ∧ (fi16.fn.name == "runtime.NumGoroutine") = false := ⟨Try.func16, by kernel_rfl, by kernel_rfl⟩
theorem fn125 : Try.prog.funcs[125]? = some fi125.fn ∧ fi125.fn.body.isSome = true ∧ (fi125.fn.name == "runtime.NumGoroutine") = false := ⟨Try.func125, by kernel_rfl, by kernel_rfl⟩
theorem fn72 : Try.prog.funcs[72]? = some fi72.fn ∧ fi72.fn.body.isSome = true ∧ (fi72.fn.name == "runtime.NumGoroutine") = false := ⟨Try.func72, by kernel_rfl, by kernel_rfl⟩
theorem fn73 : Try.prog.funcs[73]? = some fi73.fn ∧ fi73.fn.body.isSome = true ∧ (fi73.fn.name == "runtime.NumGoroutine") = false := ⟨Try.func73, by kernel_rfl, by kernel_rfl⟩
theorem fn74 : Try.prog.funcs[74]? = some fi74.fn ∧ fi74.fn.body.isSome = true ∧ (fi74.fn.name == "runtime.NumGoroutine") = false := ⟨Try.func74, by kernel_rfl, by kernel_rfl⟩
theorem fn17 : Try.prog.funcs[17]? = some fi17.fn ∧ fi17.fn.body.isSome = true ∧ (fi17.fn.name == "runtime.NumGoroutine") = false := ⟨Try.func17, by kernel_rfl, by kernel_rfl⟩
theorem fn126 : Try.prog.funcs[126]? = some fi126.fn ∧ fi126.fn.body.isSome = true ∧ (fi126.fn.name == "runtime.NumGoroutine") = false := ⟨Try.func126, by kernel_rfl, by kernel_rfl⟩
theorem fn75 : Try.prog.funcs[75]? = some fi75.fn ∧ fi75.fn.body.isSome = true ∧ (fi75.fn.name == "runtime.NumGoroutine") = false := ⟨Try.func75, by kernel_rfl, by kernel_rfl⟩
theorem fn18 : Try.prog.funcs[18]? = some fi18.fn ∧ fi18.fn.body.isSome = true ∧ (fi18.fn.name == "runtime.NumGoroutine") = false := ⟨Try.func18, by kernel_rfl, by kernel_rfl⟩
theorem fn20 : Try.prog.funcs[20]? = some fi20.fn ∧ fi20.fn.body.isSome = true ∧ (fi20.fn.name == "runtime.NumGoroutine") = false := ⟨Try.func20, by kernel_rfl, by kernel_rfl⟩
theorem fn22 : Try.prog.funcs[22]? = some fi22.fn ∧ fi22.fn.body.isSome = true ∧ (fi22.fn.name == "runtime.NumGoroutine") = false := ⟨Try.func22, by kernel_rfl, by kernel_rfl⟩
theorem fn3 : Try.prog.funcs[3]? = some fi3.fn ∧ fi3.fn.body.isSome = true ∧ (fi3.fn.name == "runtime.NumGoroutine") = false := ⟨Try.func3, by kernel_rfl, by kernel_rfl⟩
theorem fns : AllF (fun x : Nat × Fi => Try.prog.funcs[x.1]? = some x.2.fn ∧ x.2.fn.body.isSome = true ∧ (x.2.fn.name == "runtime.NumGoroutine") = false) fiTab := ⟨fn13, fn65, fn124, fn70, fn118, fn71, fn69, fn66, fn14, fn76, fn19, fn123, fn67, fn15, fn77, fn21, fn79, fn68, fn16, fn125, fn72, fn73, fn74, fn17, fn126, fn75, fn18, fn20, fn22, fn3, trivial⟩
theorem mixed : Try.prog.follows .mixedOrders = true := by kernel_rfl
theorem envOk : EnvOk Try.prog env := envOk_of tys fns mixed
theorem lawTy : ∀ t ti, env.ty t = some ti → lawTyB env ti = true := lawTy_of (by kernel_rfl)
theorem forms : ∀ f fi, env.fi f = some fi → fi.inl = false → fiB fi = true := fiB_of (by kernel_rfl)
theorem cl123 : CallSnd Try.prog fi123 123 cloneF := clone_snd envOk forms (f := 123) (fi := fi123) rfl rfl rfl (t := 22) (e := 5) Try.underlying22 rfl ⟨⟨rfl, rfl, rfl⟩, ⟨rfl, rfl, rfl⟩, ⟨⟨_, rfl⟩, rfl, rfl⟩⟩ (by kernel_rfl) (by kernel_rfl) (fun l => by kernel_rfl)
theorem xs : ∀ f g fi, X f = some g → env.fi f = some fi → CallSnd Try.prog fi f g := xs_of (P := Try.prog) (fiL := fiTab) (tyL := tyTab) (⟨fun fi h => (by have h : some fi123 = some fi := h; cases h; exact cl123), trivial⟩)
end Go.Proofs.Ytockabaoaneplaa.T
