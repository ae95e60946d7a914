/- What functions of the law FnExactOpenBlock come to, in trees; no condition. -/
import Derived.Test.YtockabaoaneplaaRows
import Derived.Test.YtockabaoaneplaaX0
import Derived.KernelRfl
set_option linter.unusedVariables false
set_option linter.constructorNameAsVariable false
set_option linter.unusedSimpArgs false
set_option linter.unnecessarySimpa false
namespace Go.Proofs.Ytockabaoaneplaa.T
open Go Go.Proofs.YtockabaoaneplaaV
theorem tys : (tyTab.all fun x => tyOkB Try.prog ⟨lookN fiTab, lookN tyTab⟩ x.1 x.2 && (!(x.2.agg && flatB x.2.cs) || eqTyB Try.prog x.1 x.2)) = true := by kernel_rfl
theorem fn189 : Try.prog.funcs[189]? = some fi189.fn ∧ fi189.fn.body.isSome = true ∧ (fi189.fn.name == "runtime.NumGoroutine") = false := ⟨Try.func189, by kernel_rfl, by kernel_rfl⟩
theorem fn182 : Try.prog.funcs[182]? = some fi182.fn ∧ fi182.fn.body.isSome = true ∧ (fi182.fn.name == "runtime.NumGoroutine") = false := ⟨Try.func182, by kernel_rfl, by kernel_rfl⟩
theorem fn168 : Try.prog.funcs[168]? = some fi168.fn ∧ fi168.fn.body.isSome = true ∧ (fi168.fn.name == "runtime.NumGoroutine") = false := ⟨Try.func168, by kernel_rfl, by kernel_rfl⟩
theorem fn157 : Try.prog.funcs[157]? = some fi157.fn ∧ fi157.fn.body.isSome = true ∧ (fi157.fn.name == "runtime.NumGoroutine") = false := ⟨Try.func157, by kernel_rfl, by kernel_rfl⟩
theorem fn146 : Try.prog.funcs[146]? = some fi146.fn ∧ fi146.fn.body.isSome = true ∧ (fi146.fn.name == "runtime.NumGoroutine") = false := ⟨Try.func146, by kernel_rfl, by kernel_rfl⟩
theorem fn133 : Try.prog.funcs[133]? = some fi133.fn ∧ fi133.fn.body.isSome = true ∧ (fi133.fn.name == "runtime.NumGoroutine") = false := ⟨Try.func133, by kernel_rfl, by kernel_rfl⟩
theorem fn134 : Try.prog.funcs[134]? = some fi134.fn ∧ fi134.fn.body.isSome = true ∧ (fi134.fn.name == "runtime.NumGoroutine") = false := ⟨Try.func134, by kernel_rfl, by kernel_rfl⟩
theorem fn96 : Try.prog.funcs[96]? = some fi96.fn ∧ fi96.fn.body.isSome = true ∧ (fi96.fn.name == "runtime.NumGoroutine") = false := ⟨Try.func96, by kernel_rfl, by kernel_rfl⟩
theorem fn39 : Try.prog.funcs[39]? = some fi39.fn ∧ fi39.fn.body.isSome = true ∧ (fi39.fn.name == "runtime.NumGoroutine") = false := ⟨Try.func39, by kernel_rfl, by kernel_rfl⟩
theorem fn45 : Try.prog.funcs[45]? = some fi45.fn ∧ fi45.fn.body.isSome = true ∧ (fi45.fn.name == "runtime.NumGoroutine") = false := ⟨Try.func45, by kernel_rfl, by kernel_rfl⟩
theorem fn183 : Try.prog.funcs[183]? = some fi183.fn ∧ fi183.fn.body.isSome = true ∧ (fi183.fn.name == "runtime.NumGoroutine") = false := ⟨Try.func183, by kernel_rfl, by kernel_rfl⟩
theorem fn169 : Try.prog.funcs[169]? = some fi169.fn ∧ fi169.fn.body.isSome = true ∧ (fi169.fn.name == "runtime.NumGoroutine") = false := ⟨Try.func169, by kernel_rfl, by kernel_rfl⟩
theorem fn158 : Try.prog.funcs[158]? = some fi158.fn ∧ fi158.fn.body.isSome = true ∧ (fi158.fn.name == "runtime.NumGoroutine") = false := ⟨Try.func158, by kernel_rfl, by kernel_rfl⟩
theorem fn147 : Try.prog.funcs[147]? = some fi147.fn ∧ fi147.fn.body.isSome = true ∧ (fi147.fn.name == "runtime.NumGoroutine") = false := ⟨Try.func147, by kernel_rfl, by kernel_rfl⟩
theorem fn135 : Try.prog.funcs[135]? = some fi135.fn ∧ fi135.fn.body.isSome = true ∧ (fi135.fn.name == "runtime.NumGoroutine") = false := ⟨Try.func135, by kernel_rfl, by kernel_rfl⟩
theorem fn148 : Try.prog.funcs[148]? = some fi148.fn ∧ fi148.fn.body.isSome = true ∧ (fi148.fn.name == "runtime.NumGoroutine") = false := ⟨Try.func148, by kernel_rfl, by kernel_rfl⟩
theorem fn136 : Try.prog.funcs[136]? = some fi136.fn ∧ fi136.fn.body.isSome = true ∧ (fi136.fn.name == "runtime.NumGoroutine") = false := ⟨Try.func136, by kernel_rfl, by kernel_rfl⟩
theorem fn98 : Try.prog.funcs[98]? = some fi98.fn ∧ fi98.fn.body.isSome = true ∧ (fi98.fn.name == "runtime.NumGoroutine") = false := ⟨Try.func98, by kernel_rfl, by kernel_rfl⟩
theorem fn41 : Try.prog.funcs[41]? = some fi41.fn ∧ fi41.fn.body.isSome = true ∧ (fi41.fn.name == "runtime.NumGoroutine") = false := ⟨Try.func41, by kernel_rfl, by kernel_rfl⟩
theorem fn97 : Try.prog.funcs[97]? = some fi97.fn ∧ fi97.fn.body.isSome = true ∧ (fi97.fn.name == "runtime.NumGoroutine") = false := ⟨Try.func97, by kernel_rfl, by kernel_rfl⟩
theorem fn63 : Try.prog.funcs[63]? = some fi63.fn ∧ fi63.fn.body.isSome = true ∧ (fi63.fn.name == "runtime.NumGoroutine") = false := ⟨Try.func63, by kernel_rfl, by kernel_rfl⟩
theorem fn48 : Try.prog.funcs[48]? = some fi48.fn ∧ fi48.fn.body.isSome = true ∧ (fi48.fn.name == "runtime.NumGoroutine") = false := ⟨Try.func48, by kernel_rfl, by kernel_rfl⟩
theorem fn76 : Try.prog.funcs[76]? = some fi76.fn ∧ fi76.fn.body.isSome = true ∧ (fi76.fn.name == "runtime.NumGoroutine") = false := ⟨Try.func76, by kernel_rfl, by kernel_rfl⟩
theorem fn122 : Try.prog.funcs[122]? = some fi122.fn ∧ fi122.fn.body.isSome = true ∧ (fi122.fn.name == "runtime.NumGoroutine") = false := ⟨Try.func122, by kernel_rfl, by kernel_rfl⟩
theorem fn64 : Try.prog.funcs[64]? = some fi64.fn ∧ fi64.fn.body.isSome = true ∧ (fi64.fn.name == "runtime.NumGoroutine") = false := ⟨Try.func64, by kernel_rfl, by kernel_rfl⟩
theorem fn62 : Try.prog.funcs[62]? = some fi62.fn ∧ fi62.fn.body.isSome = true ∧ (fi62.fn.name == "runtime.NumGoroutine") = false := ⟨Try.func62, by kernel_rfl, by kernel_rfl⟩
theorem fn49 : Try.prog.funcs[49]? = some fi49.fn ∧ fi49.fn.body.isSome = true ∧ (fi49.fn.name == "runtime.NumGoroutine") = false := ⟨Try.func49, by kernel_rfl, by kernel_rfl⟩
theorem fn27 : Try.prog.funcs[27]? = some fi27.fn ∧ fi27.fn.body.isSome = true ∧ (fi27.fn.name == "runtime.NumGoroutine") = false := ⟨Try.func27, by kernel_rfl, by kernel_rfl⟩
theorem fn184 : Try.prog.funcs[184]? = some fi184.fn ∧ fi184.fn.body.isSome = true ∧ (fi184.fn.name == "runtime.NumGoroutine") = false := ⟨Try.func184, by kernel_rfl, by kernel_rfl⟩
theorem fn170 : Try.prog.funcs[170]? = some fi170.fn ∧ fi170.fn.body.isSome = true ∧ (fi170.fn.name == "runtime.NumGoroutine") = false := ⟨Try.func170, by kernel_rfl, by kernel_rfl⟩
theorem fn159 : Try.prog.funcs[159]? = some fi159.fn ∧ fi159.fn.body.isSome = true ∧ (fi159.fn.name == "runtime.NumGoroutine") = false := ⟨Try.func159, by kernel_rfl, by kernel_rfl⟩
theorem fn149 : Try.prog.funcs[149]? = some fi149.fn ∧ fi149.fn.body.isSome = true ∧ (fi149.fn.name == "runtime.NumGoroutine") = false := ⟨Try.func149, by kernel_rfl, by kernel_rfl⟩
theorem fn137 : Try.prog.funcs[137]? = some fi137.fn ∧ fi137.fn.body.isSome = true ∧ (fi137.fn.name == "runtime.NumGoroutine") = false := ⟨Try.func137, by kernel_rfl, by kernel_rfl⟩
theorem fn150 : Try.prog.funcs[150]? = some fi150.fn ∧ fi150.fn.body.isSome = true ∧ (fi150.fn.name == "runtime.NumGoroutine") = false := ⟨Try.func150, by kernel_rfl, by kernel_rfl⟩
theorem fn138 : Try.prog.funcs[138]? = some fi138.fn ∧ fi138.fn.body.isSome = true ∧ (fi138.fn.name == "runtime.NumGoroutine") = false := ⟨Try.func138, by kernel_rfl, by kernel_rfl⟩
theorem fn100 : Try.prog.funcs[100]? = some fi100.fn ∧ fi100.fn.body.isSome = true ∧ (fi100.fn.name == "runtime.NumGoroutine") = false := ⟨Try.func100, by kernel_rfl, by kernel_rfl⟩
theorem fn43 : Try.prog.funcs[43]? = some fi43.fn ∧ fi43.fn.body.isSome = true ∧ (fi43.fn.name == "runtime.NumGoroutine") = false := ⟨Try.func43, by kernel_rfl, by kernel_rfl⟩
theorem fn8 : Try.prog.funcs[8]? = some fi8.fn ∧ fi8.fn.body.isSome = true ∧ (fi8.fn.name == "runtime.NumGoroutine") = false := ⟨Try.func8, by kernel_rfl, by kernel_rfl⟩
theorem fns : AllF (fun x : Nat × Fi => Try.prog.funcs[x.1]? = some x.2.fn ∧ x.2.fn.body.isSome = true ∧ (x.2.fn.name == "runtime.NumGoroutine") = false) fiTab := ⟨fn189, fn182, fn168, fn157, fn146, fn133, fn134, fn96, fn39, fn45, fn183, fn169, fn158, fn147, fn135, fn148, fn136, fn98, fn41, fn97, fn63, fn48, fn76, fn122, fn64, fn62, fn49, fn27, fn184, fn170, fn159, fn149, fn137, fn150, fn138, fn100, fn43, fn8, trivial⟩
theorem mixed : Try.prog.follows .mixedOrders = true := by kernel_rfl
theorem envOk : EnvOk Try.prog env := envOk_of tys fns mixed
theorem lawTy : ∀ t ti, env.ty t = some ti → lawTyB env ti = true := lawTy_of (by kernel_rfl)
theorem forms : ∀ f fi, env.fi f = some fi → fi.inl = false → fiB fi = true := fiB_of (by kernel_rfl)
theorem xs : ∀ f g fi, X f = some g → env.fi f = some fi → CallSnd Try.prog fi f g := xs_of (P := Try.prog) (fiL := fiTab) (tyL := tyTab) (trivial)
end Go.Proofs.Ytockabaoaneplaa.T
