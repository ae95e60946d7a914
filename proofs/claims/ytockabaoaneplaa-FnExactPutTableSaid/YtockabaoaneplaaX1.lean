/- What functions of the law FnExactPutTable come to, in trees; no condition. -/
import Derived.Test.YtockabaoaneplaaRows
import Derived.Test.YtockabaoaneplaaX0
import Derived.KernelRfl
set_option linter.unusedVariables false
set_option linter.constructorNameAsVariable false
set_option linter.unusedSimpArgs false
set_option linter.unnecessarySimpa false
namespace Go.Proofs.Ytockabaoaneplaa.T
open Go Go.Proofs.YtockabaoaneplaaV
theorem tys : (tyTab.all fun x => tyOkB Try.prog ⟨lookN fiTab, lookN tyTab⟩ x.1 x.2 && (!(x.2.agg && flatB x.2.cs) || eqTyB Try.prog x.1 x.2)) = true := by kernel_rfl
theorem fn127 : Try.prog.funcs[127]? = some fi127.fn ∧ fi127.fn.body.isSome = true ∧ (fi127.fn.name == "runtime.NumGoroutine") = false := ⟨Try.func127, by kernel_rfl, by kernel_rfl⟩
theorem fn78 : Try.prog.funcs[78]? = some fi78.fn ∧ fi78.fn.body.isSome = true ∧ (fi78.fn.name == "runtime.NumGoroutine") = false := ⟨Try.func78, by kernel_rfl, by kernel_rfl⟩
theorem fn23 : Try.prog.funcs[23]? = some fi23.fn ∧ fi23.fn.body.isSome = true ∧ (fi23.fn.name == "runtime.NumGoroutine") = false := ⟨Try.func23, by kernel_rfl, by kernel_rfl⟩
theorem fn128 : Try.prog.funcs[128]? = some fi128.fn ∧ fi128.fn.body.isSome = true ∧ (fi128.fn.name == "runtime.NumGoroutine") = false := ⟨Try.func128, by kernel_rfl, by kernel_rfl⟩
theorem fn81 : Try.prog.funcs[81]? = some fi81.fn ∧ fi81.fn.body.isSome = true ∧ (fi81.fn.name == "runtime.NumGoroutine") = false := ⟨Try.func81, by kernel_rfl, by kernel_rfl⟩
theorem fn25 : Try.prog.funcs[25]? = some fi25.fn ∧ fi25.fn.body.isSome = true ∧ (fi25.fn.name == "runtime.NumGoroutine") = false := ⟨Try.func25, by kernel_rfl, by kernel_rfl⟩
theorem fn77 : Try.prog.funcs[77]? = some fi77.fn ∧ fi77.fn.body.isSome = true ∧ (fi77.fn.name == "runtime.NumGoroutine") = false := ⟨Try.func77, by kernel_rfl, by kernel_rfl⟩
theorem fn109 : Try.prog.funcs[109]? = some fi109.fn ∧ fi109.fn.body.isSome = true ∧ (fi109.fn.name == "runtime.NumGoroutine") = false := ⟨Try.func109, by kernel_rfl, by kernel_rfl⟩
theorem fn53 : Try.prog.funcs[53]? = some fi53.fn ∧ fi53.fn.body.isSome = true ∧ (fi53.fn.name == "runtime.NumGoroutine") = false := ⟨Try.func53, by kernel_rfl, by kernel_rfl⟩
theorem fn79 : Try.prog.funcs[79]? = some fi79.fn ∧ fi79.fn.body.isSome = true ∧ (fi79.fn.name == "runtime.NumGoroutine") = false := ⟨Try.func79, by kernel_rfl, by kernel_rfl⟩
theorem fn80 : Try.prog.funcs[80]? = some fi80.fn ∧ fi80.fn.body.isSome = true ∧ (fi80.fn.name == "runtime.NumGoroutine") = false := ⟨Try.func80, by kernel_rfl, by kernel_rfl⟩
theorem fn24 : Try.prog.funcs[24]? = some fi24.fn ∧ fi24.fn.body.isSome = true ∧ (fi24.fn.name == "runtime.NumGoroutine") = false := ⟨Try.func24, by kernel_rfl, by kernel_rfl⟩
theorem fn90 : Try.prog.funcs[90]? = some fi90.fn ∧ fi90.fn.body.isSome = true ∧ (fi90.fn.name == "runtime.NumGoroutine") = false := ⟨Try.func90, by kernel_rfl, by kernel_rfl⟩
theorem fn76 : Try.prog.funcs[76]? = some fi76.fn ∧ fi76.fn.body.isSome = true ∧ (fi76.fn.name == "runtime.NumGoroutine") = false := ⟨Try.func76, by kernel_rfl, by kernel_rfl⟩
theorem fn106 : Try.prog.funcs[106]? = some fi106.fn ∧ fi106.fn.body.isSome = true ∧ (fi106.fn.name == "runtime.NumGoroutine") = false := ⟨Try.func106, by kernel_rfl, by kernel_rfl⟩
theorem fn108 : Try.prog.funcs[108]? = some fi108.fn ∧ fi108.fn.body.isSome = true ∧ (fi108.fn.name == "runtime.NumGoroutine") = false := ⟨Try.func108, by kernel_rfl, by kernel_rfl⟩
theorem fn140 : Try.prog.funcs[140]? = some fi140.fn ∧ fi140.fn.body.isSome = true ∧ (fi140.fn.name == "runtime.NumGoroutine") = false := ⟨Try.func140, by kernel_rfl, by kernel_rfl⟩
theorem fn107 : Try.prog.funcs[107]? = some fi107.fn ∧ fi107.fn.body.isSome = true ∧ (fi107.fn.name == "runtime.NumGoroutine") = false := ⟨Try.func107, by kernel_rfl, by kernel_rfl⟩
theorem fn52 : Try.prog.funcs[52]? = some fi52.fn ∧ fi52.fn.body.isSome = true ∧ (fi52.fn.name == "runtime.NumGoroutine") = false := ⟨Try.func52, by kernel_rfl, by kernel_rfl⟩
theorem fn123 : Try.prog.funcs[123]? = some fi123.fn ∧ fi123.fn.body.isSome = true ∧ (fi123.fn.name == "runtime.NumGoroutine") = false := ⟨Try.func123, by kernel_rfl, by kernel_rfl⟩
theorem fn67 : Try.prog.funcs[67]? = some fi67.fn ∧ fi67.fn.body.isSome = true ∧ (fi67.fn.name == "runtime.NumGoroutine") = false := ⟨Try.func67, by kernel_rfl, by kernel_rfl⟩
theorem fn82 : Try.prog.funcs[82]? = some fi82.fn ∧ fi82.fn.body.isSome = true ∧ (fi82.fn.name == "runtime.NumGoroutine") = false := ⟨Try.func82, by kernel_rfl, by kernel_rfl⟩
theorem fn26 : Try.prog.funcs[26]? = some fi26.fn ∧ fi26.fn.body.isSome = true ∧ (fi26.fn.name == "runtime.NumGoroutine") = false := ⟨Try.func26, by kernel_rfl, by kernel_rfl⟩
theorem fn27 : Try.prog.funcs[27]? = some fi27.fn ∧ fi27.fn.body.isSome = true ∧ (fi27.fn.name == "runtime.NumGoroutine") = false := ⟨Try.func27, by kernel_rfl, by kernel_rfl⟩
theorem fn129 : Try.prog.funcs[129]? = some fi129.fn ∧ fi129.fn.body.isSome = true ∧ (fi129.fn.name == "runtime.NumGoroutine") = false := ⟨Try.func129, by kernel_rfl, by kernel_rfl⟩
theorem fn83 : Try.prog.funcs[83]? = some fi83.fn ∧ fi83.fn.body.isSome = true ∧ (fi83.fn.name == "runtime.NumGoroutine") = false := ⟨Try.func83, by kernel_rfl, by kernel_rfl⟩
theorem fn28 : Try.prog.funcs[28]? = some fi28.fn ∧ fi28.fn.body.isSome = true ∧ (fi28.fn.name == "runtime.NumGoroutine") = false := ⟨Try.func28, by kernel_rfl, by kernel_rfl⟩
theorem fn130 : Try.prog.funcs[130]? = some fi130.fn ∧ fi130.fn.body.isSome = true ∧ (fi130.fn.name == "runtime.NumGoroutine") = false := ⟨Try.func130, by kernel_rfl, by kernel_rfl⟩
theorem fn84 : Try.prog.funcs[84]? = some fi84.fn ∧ fi84.fn.body.isSome = true ∧ (fi84.fn.name == "runtime.NumGoroutine") = false := ⟨Try.func84, by kernel_rfl, by kernel_rfl⟩
theorem fn29 : Try.prog.funcs[29]? = some fi29.fn ∧ fi29.fn.body.isSome = true ∧ (fi29.fn.name == "runtime.NumGoroutine") = false := ⟨Try.func29, by kernel_rfl, by kernel_rfl⟩
theorem fn30 : Try.prog.funcs[30]? = some fi30.fn ∧ fi30.fn.body.isSome = true ∧ (fi30.fn.name == "runtime.NumGoroutine") = false := ⟨Try.func30, by kernel_rfl, by kernel_rfl⟩
theorem fn31 : Try.prog.funcs[31]? = some fi31.fn ∧ fi31.fn.body.isSome = true ∧ (fi31.fn.name == "runtime.NumGoroutine") = false := ⟨Try.func31, by kernel_rfl, by kernel_rfl⟩
theorem fn4 : Try.prog.funcs[4]? = some fi4.fn ∧ fi4.fn.body.isSome = true ∧ (fi4.fn.name == "runtime.NumGoroutine") = false := ⟨Try.func4, by kernel_rfl, by kernel_rfl⟩
theorem fns : AllF (fun x : Nat × Fi => Try.prog.funcs[x.1]? = some x.2.fn ∧ x.2.fn.body.isSome = true ∧ (x.2.fn.name == "runtime.NumGoroutine") = false) fiTab := ⟨fn127, fn78, fn23, fn128, fn81, fn25, fn77, fn109, fn53, fn79, fn80, fn24, fn90, fn76, fn106, fn108, fn140, fn107, fn52, fn123, fn67, fn82, fn26, fn27, fn129, fn83, fn28, fn130, fn84, fn29, fn30, fn31, fn4, trivial⟩
theorem mixed : Try.prog.follows .mixedOrders = true := by kernel_rfl
theorem envOk : EnvOk Try.prog env := envOk_of tys fns mixed
theorem lawTy : ∀ t ti, env.ty t = some ti → lawTyB env ti = true := lawTy_of (by kernel_rfl)
theorem forms : ∀ f fi, env.fi f = some fi → fi.inl = false → fiB fi = true := fiB_of (by kernel_rfl)
theorem cl123 : CallSnd Try.prog fi123 123 cloneF := clone_snd envOk forms (f := 123) (fi := fi123) rfl rfl rfl (t := 22) (e := 5) Try.underlying22 rfl ⟨⟨rfl, rfl, rfl⟩, ⟨rfl, rfl, rfl⟩, ⟨⟨_, rfl⟩, rfl, rfl⟩⟩ (by kernel_rfl) (by kernel_rfl) (fun l => by kernel_rfl)
theorem xs : ∀ f g fi, X f = some g → env.fi f = some fi → CallSnd Try.prog fi f g := xs_of (P := Try.prog) (fiL := fiTab) (tyL := tyTab) (⟨fun fi h => (by have h : some fi123 = some fi := h; cases h; exact cl123), trivial⟩)
end Go.Proofs.Ytockabaoaneplaa.T
