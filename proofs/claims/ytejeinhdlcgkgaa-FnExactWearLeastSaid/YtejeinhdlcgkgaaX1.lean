/- What functions of the law FnExactWearLeast come to, in trees; no condition. -/
import Derived.Test.YtejeinhdlcgkgaaRows
import Derived.Test.YtejeinhdlcgkgaaX0
import Derived.KernelRfl
set_option linter.unusedVariables false
set_option linter.constructorNameAsVariable false
set_option linter.unusedSimpArgs false
set_option linter.unnecessarySimpa false
namespace Go.Proofs.Ytejeinhdlcgkgaa.T
open Go Go.Proofs.YtejeinhdlcgkgaaV
theorem tys : (tyTab.all fun x => tyOkB Try.prog ⟨lookN fiTab, lookN tyTab⟩ x.1 x.2 && (!(x.2.agg && flatB x.2.cs) || eqTyB Try.prog x.1 x.2)) = true := by kernel_rfl
theorem fn81 : Try.prog.funcs[81]? = some fi81.fn ∧ fi81.fn.body.isSome = true ∧ (fi81.fn.name == "runtime.NumGoroutine") = false := ⟨Try.func81, by kernel_rfl, by kernel_rfl⟩
theorem fn78 : Try.prog.funcs[78]? = some fi78.fn ∧ fi78.fn.body.isSome = true ∧ (fi78.fn.name == "runtime.NumGoroutine") = false := ⟨Try.func78, by kernel_rfl, by kernel_rfl⟩
theorem fn75 : Try.prog.funcs[75]? = some fi75.fn ∧ fi75.fn.body.isSome = true ∧ (fi75.fn.name == "runtime.NumGoroutine") = false := ⟨Try.func75, by kernel_rfl, by kernel_rfl⟩
theorem fn69 : Try.prog.funcs[69]? = some fi69.fn ∧ fi69.fn.body.isSome = true ∧ (fi69.fn.name == "runtime.NumGoroutine") = false := ⟨Try.func69, by kernel_rfl, by kernel_rfl⟩
theorem fn52 : Try.prog.funcs[52]? = some fi52.fn ∧ fi52.fn.body.isSome = true ∧ (fi52.fn.name == "runtime.NumGoroutine") = false := ⟨Try.func52, by kernel_rfl, by kernel_rfl⟩
theorem fn22 : Try.prog.funcs[22]? = some fi22.fn ∧ fi22.fn.body.isSome = true ∧ (fi22.fn.name == "runtime.NumGoroutine") = false := ⟨Try.func22, by kernel_rfl, by kernel_rfl⟩
theorem fn36 : Try.prog.funcs[36]? = some fi36.fn ∧ fi36.fn.body.isSome = true ∧ (fi36.fn.name == "runtime.NumGoroutine") = false := ⟨Try.func36, by kernel_rfl, by kernel_rfl⟩
theorem fn79 : Try.prog.funcs[79]? = some fi79.fn ∧ fi79.fn.body.isSome = true ∧ (fi79.fn.name == "runtime.NumGoroutine") = false := ⟨Try.func79, by kernel_rfl, by kernel_rfl⟩
theorem fn76 : Try.prog.funcs[76]? = some fi76.fn ∧ fi76.fn.body.isSome = true ∧ (fi76.fn.name == "runtime.NumGoroutine") = false := ⟨Try.func76, by kernel_rfl, by kernel_rfl⟩
theorem fn70 : Try.prog.funcs[70]? = some fi70.fn ∧ fi70.fn.body.isSome = true ∧ (fi70.fn.name == "runtime.NumGoroutine") = false := ⟨Try.func70, by kernel_rfl, by kernel_rfl⟩
theorem fn53 : Try.prog.funcs[53]? = some fi53.fn ∧ fi53.fn.body.isSome = true ∧ (fi53.fn.name == "runtime.NumGoroutine") = false := ⟨Try.func53, by kernel_rfl, by kernel_rfl⟩
theorem fn24 : Try.prog.funcs[24]? = some fi24.fn ∧ fi24.fn.body.isSome = true ∧ (fi24.fn.name == "runtime.NumGoroutine") = false := ⟨Try.func24, by kernel_rfl, by kernel_rfl⟩
theorem fn23 : Try.prog.funcs[23]? = some fi23.fn ∧ fi23.fn.body.isSome = true ∧ (fi23.fn.name == "runtime.NumGoroutine") = false := ⟨Try.func23, by kernel_rfl, by kernel_rfl⟩
theorem fn25 : Try.prog.funcs[25]? = some fi25.fn ∧ fi25.fn.body.isSome = true ∧ (fi25.fn.name == "runtime.NumGoroutine") = false := ⟨Try.func25, by kernel_rfl, by kernel_rfl⟩
theorem fn29 : Try.prog.funcs[29]? = some fi29.fn ∧ fi29.fn.body.isSome = true ∧ (fi29.fn.name == "runtime.NumGoroutine") = false := ⟨Try.func29, by kernel_rfl, by kernel_rfl⟩
theorem fn80 : Try.prog.funcs[80]? = some fi80.fn ∧ fi80.fn.body.isSome = true ∧ (fi80.fn.name == "runtime.NumGoroutine") = false := ⟨Try.func80, by kernel_rfl, by kernel_rfl⟩
theorem fn77 : Try.prog.funcs[77]? = some fi77.fn ∧ fi77.fn.body.isSome = true ∧ (fi77.fn.name == "runtime.NumGoroutine") = false := ⟨Try.func77, by kernel_rfl, by kernel_rfl⟩
theorem fn71 : Try.prog.funcs[71]? = some fi71.fn ∧ fi71.fn.body.isSome = true ∧ (fi71.fn.name == "runtime.NumGoroutine") = false := ⟨Try.func71, by kernel_rfl, by kernel_rfl⟩
theorem fn54 : Try.prog.funcs[54]? = some fi54.fn ∧ fi54.fn.body.isSome = true ∧ (fi54.fn.name == "runtime.NumGoroutine") = false := ⟨Try.func54, by kernel_rfl, by kernel_rfl⟩
theorem fn26 : Try.prog.funcs[26]? = some fi26.fn ∧ fi26.fn.body.isSome = true ∧ (fi26.fn.name == "runtime.NumGoroutine") = false := ⟨Try.func26, by kernel_rfl, by kernel_rfl⟩
theorem fn6 : Try.prog.funcs[6]? = some fi6.fn ∧ fi6.fn.body.isSome = true ∧ (fi6.fn.name == "runtime.NumGoroutine") = false := ⟨Try.func6, by kernel_rfl, by kernel_rfl⟩
theorem fn33 : Try.prog.funcs[33]? = some fi33.fn ∧ fi33.fn.body.isSome = true ∧ (fi33.fn.name == "runtime.NumGoroutine") = false := ⟨Try.func33, by kernel_rfl, by kernel_rfl⟩
theorem fn34 : Try.prog.funcs[34]? = some fi34.fn ∧ fi34.fn.body.isSome = true ∧ (fi34.fn.name == "runtime.NumGoroutine") = false := ⟨Try.func34, by kernel_rfl, by kernel_rfl⟩
theorem fn8 : Try.prog.funcs[8]? = some fi8.fn ∧ fi8.fn.body.isSome = true ∧ (fi8.fn.name == "runtime.NumGoroutine") = false := ⟨Try.func8, by kernel_rfl, by kernel_rfl⟩
theorem fns : AllF (fun x : Nat × Fi => Try.prog.funcs[x.1]? = some x.2.fn ∧ x.2.fn.body.isSome = true ∧ (x.2.fn.name == "runtime.NumGoroutine") = false) fiTab := ⟨fn81, fn78, fn75, fn69, fn52, fn22, fn36, fn79, fn76, fn70, fn53, fn24, fn23, fn25, fn29, fn80, fn77, fn71, fn54, fn26, fn6, fn33, fn34, fn8, trivial⟩
theorem mixed : Try.prog.follows .mixedOrders = true := by kernel_rfl
theorem envOk : EnvOk Try.prog env := envOk_of tys fns mixed
theorem lawTy : ∀ t ti, env.ty t = some ti → lawTyB env ti = true := lawTy_of (by kernel_rfl)
theorem forms : ∀ f fi, env.fi f = some fi → fi.inl = false → fiB fi = true := fiB_of (by kernel_rfl)
end Go.Proofs.Ytejeinhdlcgkgaa.T
