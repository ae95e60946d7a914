/- What functions of the law FnExactPutMap come to, in trees; no condition. -/
import Derived.Test.YtejeinhdlcgkgaaRows
import Derived.Test.YtejeinhdlcgkgaaX0
import Derived.KernelRfl
set_option linter.unusedVariables false
set_option linter.constructorNameAsVariable false
set_option linter.unusedSimpArgs false
set_option linter.unnecessarySimpa false
namespace Go.Proofs.Ytejeinhdlcgkgaa.T
open Go Go.Proofs.YtejeinhdlcgkgaaV
theorem tys : (tyTab.all fun x => tyOkB Try.prog ⟨lookN fiTab, lookN tyTab⟩ x.1 x.2 && (!(x.2.agg && flatB x.2.cs) || eqTyB Try.prog x.1 x.2)) = true := by kernel_rfl
theorem fn39 : Try.prog.funcs[39]? = some fi39.fn ∧ fi39.fn.body.isSome = true ∧ (fi39.fn.name == "runtime.NumGoroutine") = false := ⟨Try.func39, by kernel_rfl, by kernel_rfl⟩
theorem fn10 : Try.prog.funcs[10]? = some fi10.fn ∧ fi10.fn.body.isSome = true ∧ (fi10.fn.name == "runtime.NumGoroutine") = false := ⟨Try.func10, by kernel_rfl, by kernel_rfl⟩
theorem fn63 : Try.prog.funcs[63]? = some fi63.fn ∧ fi63.fn.body.isSome = true ∧ (fi63.fn.name == "runtime.NumGoroutine") = false := ⟨Try.func63, by kernel_rfl, by kernel_rfl⟩
theorem fn40 : Try.prog.funcs[40]? = some fi40.fn ∧ fi40.fn.body.isSome = true ∧ (fi40.fn.name == "runtime.NumGoroutine") = false := ⟨Try.func40, by kernel_rfl, by kernel_rfl⟩
theorem fn12 : Try.prog.funcs[12]? = some fi12.fn ∧ fi12.fn.body.isSome = true ∧ (fi12.fn.name == "runtime.NumGoroutine") = false := ⟨Try.func12, by kernel_rfl, by kernel_rfl⟩
theorem fn42 : Try.prog.funcs[42]? = some fi42.fn ∧ fi42.fn.body.isSome = true ∧ (fi42.fn.name == "runtime.NumGoroutine") = false := ⟨Try.func42, by kernel_rfl, by kernel_rfl⟩
theorem fn15 : Try.prog.funcs[15]? = some fi15.fn ∧ fi15.fn.body.isSome = true ∧ (fi15.fn.name == "runtime.NumGoroutine") = false := ⟨Try.func15, by kernel_rfl, by kernel_rfl⟩
theorem fn55 : Try.prog.funcs[55]? = some fi55.fn ∧ fi55.fn.body.isSome = true ∧ (fi55.fn.name == "runtime.NumGoroutine") = false := ⟨Try.func55, by kernel_rfl, by kernel_rfl⟩
theorem fn27 : Try.prog.funcs[27]? = some fi27.fn ∧ fi27.fn.body.isSome = true ∧ (fi27.fn.name == "runtime.NumGoroutine") = false := ⟨Try.func27, by kernel_rfl, by kernel_rfl⟩
theorem fn43 : Try.prog.funcs[43]? = some fi43.fn ∧ fi43.fn.body.isSome = true ∧ (fi43.fn.name == "runtime.NumGoroutine") = false := ⟨Try.func43, by kernel_rfl, by kernel_rfl⟩
theorem fn16 : Try.prog.funcs[16]? = some fi16.fn ∧ fi16.fn.body.isSome = true ∧ (fi16.fn.name == "runtime.NumGoroutine") = false := ⟨Try.func16, by kernel_rfl, by kernel_rfl⟩
theorem fn72 : Try.prog.funcs[72]? = some fi72.fn ∧ fi72.fn.body.isSome = true ∧ (fi72.fn.name == "runtime.NumGoroutine") = false := ⟨Try.func72, by kernel_rfl, by kernel_rfl⟩
theorem fn56 : Try.prog.funcs[56]? = some fi56.fn ∧ fi56.fn.body.isSome = true ∧ (fi56.fn.name == "runtime.NumGoroutine") = false := ⟨Try.func56, by kernel_rfl, by kernel_rfl⟩
theorem fn28 : Try.prog.funcs[28]? = some fi28.fn ∧ fi28.fn.body.isSome = true ∧ (fi28.fn.name == "runtime.NumGoroutine") = false := ⟨Try.func28, by kernel_rfl, by kernel_rfl⟩
theorem fn29 : Try.prog.funcs[29]? = some fi29.fn ∧ fi29.fn.body.isSome = true ∧ (fi29.fn.name == "runtime.NumGoroutine") = false := ⟨Try.func29, by kernel_rfl, by kernel_rfl⟩
theorem fn64 : Try.prog.funcs[64]? = some fi64.fn ∧ fi64.fn.body.isSome = true ∧ (fi64.fn.name == "runtime.NumGoroutine") = false := ⟨Try.func64, by kernel_rfl, by kernel_rfl⟩
theorem fn41 : Try.prog.funcs[41]? = some fi41.fn ∧ fi41.fn.body.isSome = true ∧ (fi41.fn.name == "runtime.NumGoroutine") = false := ⟨Try.func41, by kernel_rfl, by kernel_rfl⟩
theorem fn14 : Try.prog.funcs[14]? = some fi14.fn ∧ fi14.fn.body.isSome = true ∧ (fi14.fn.name == "runtime.NumGoroutine") = false := ⟨Try.func14, by kernel_rfl, by kernel_rfl⟩
theorem fn57 : Try.prog.funcs[57]? = some fi57.fn ∧ fi57.fn.body.isSome = true ∧ (fi57.fn.name == "runtime.NumGoroutine") = false := ⟨Try.func57, by kernel_rfl, by kernel_rfl⟩
theorem fn30 : Try.prog.funcs[30]? = some fi30.fn ∧ fi30.fn.body.isSome = true ∧ (fi30.fn.name == "runtime.NumGoroutine") = false := ⟨Try.func30, by kernel_rfl, by kernel_rfl⟩
theorem fn31 : Try.prog.funcs[31]? = some fi31.fn ∧ fi31.fn.body.isSome = true ∧ (fi31.fn.name == "runtime.NumGoroutine") = false := ⟨Try.func31, by kernel_rfl, by kernel_rfl⟩
theorem fn32 : Try.prog.funcs[32]? = some fi32.fn ∧ fi32.fn.body.isSome = true ∧ (fi32.fn.name == "runtime.NumGoroutine") = false := ⟨Try.func32, by kernel_rfl, by kernel_rfl⟩
theorem fn7 : Try.prog.funcs[7]? = some fi7.fn ∧ fi7.fn.body.isSome = true ∧ (fi7.fn.name == "runtime.NumGoroutine") = false := ⟨Try.func7, by kernel_rfl, by kernel_rfl⟩
theorem fns : AllF (fun x : Nat × Fi => Try.prog.funcs[x.1]? = some x.2.fn ∧ x.2.fn.body.isSome = true ∧ (x.2.fn.name == "runtime.NumGoroutine") = false) fiTab := ⟨fn39, fn10, fn63, fn40, fn12, fn42, fn15, fn55, fn27, fn43, fn16, fn72, fn56, fn28, fn29, fn64, fn41, fn14, fn57, fn30, fn31, fn32, fn7, trivial⟩
theorem mixed : Try.prog.follows .mixedOrders = true := by kernel_rfl
theorem envOk : EnvOk Try.prog env := envOk_of tys fns mixed
theorem lawTy : ∀ t ti, env.ty t = some ti → lawTyB env ti = true := lawTy_of (by kernel_rfl)
theorem forms : ∀ f fi, env.fi f = some fi → fi.inl = false → fiB fi = true := fiB_of (by kernel_rfl)
theorem cl72 : CallSnd Try.prog fi72 72 cloneF := clone_snd envOk forms (f := 72) (fi := fi72) rfl rfl rfl (t := 57) (e := 5) Try.underlying57 rfl ⟨⟨rfl, rfl, rfl⟩, ⟨rfl, rfl, rfl⟩, ⟨⟨_, rfl⟩, rfl, rfl⟩⟩ (by kernel_rfl) (by kernel_rfl) (fun l => by kernel_rfl)
theorem xs : ∀ f g fi, X f = some g → env.fi f = some fi → CallSnd Try.prog fi f g := xs_of (P := Try.prog) (fiL := fiTab) (tyL := tyTab) (⟨fun fi h => (by have h : some fi72 = some fi := h; cases h; exact cl72), trivial⟩)
end Go.Proofs.Ytejeinhdlcgkgaa.T
