/- What functions of the law FnTables come to, in trees; no condition. -/
import Derived.Test.YtockabaoaneplaaRows
import Derived.Test.YtockabaoaneplaaX0
import Derived.KernelRfl
set_option linter.unusedVariables false
set_option linter.constructorNameAsVariable false
set_option linter.unusedSimpArgs false
set_option linter.unnecessarySimpa false
namespace Go.Proofs.Ytockabaoaneplaa.T
open Go Go.Proofs.YtockabaoaneplaaV
theorem tys : (tyTab.all fun x => tyOkB Try.prog ⟨lookN fiTab, lookN tyTab⟩ x.1 x.2 && (!(x.2.agg && flatB x.2.cs) || eqTyB Try.prog x.1 x.2)) = true := by kernel_rfl
theorem fn13 : Try.prog.funcs[13]? = some fi13.fn ∧ fi13.fn.body.isSome = true ∧ (fi13.fn.name == "runtime.NumGoroutine") = false := ⟨Try.func13, by kernel_rfl, by kernel_rfl⟩
theorem fn65 : Try.prog.funcs[65]? = some fi65.fn ∧ fi65.fn.body.isSome = true ∧ (fi65.fn.name == "runtime.NumGoroutine") = false := ⟨Try.func65, by kernel_rfl, by kernel_rfl⟩
theorem fn124 : Try.prog.funcs[124]? = some fi124.fn ∧ fi124.fn.body.isSome = true ∧ (fi124.fn.name == "runtime.NumGoroutine") = false := ⟨Try.func124, by kernel_rfl, by kernel_rfl⟩
theorem fn70 : Try.prog.funcs[70]? = some fi70.fn ∧ fi70.fn.body.isSome = true ∧ (fi70.fn.name == "runtime.NumGoroutine") = false := ⟨Try.func70, by kernel_rfl, by kernel_rfl⟩
theorem fn118 : Try.prog.funcs[118]? = some fi118.fn ∧ fi118.fn.body.isSome = true ∧ (fi118.fn.name == "runtime.NumGoroutine") = false := ⟨Try.func118, by kernel_rfl, by kernel_rfl⟩
theorem fn71 : Try.prog.funcs[71]? = some fi71.fn ∧ fi71.fn.body.isSome = true ∧ (fi71.fn.name == "runtime.NumGoroutine") = false := ⟨Try.func71, by kernel_rfl, by kernel_rfl⟩
theorem fn105 : Try.prog.funcs[105]? = some fi105.fn ∧ fi105.fn.body.isSome = true ∧ (fi105.fn.name == "runtime.NumGoroutine") = false := ⟨Try.func105, by kernel_rfl, by kernel_rfl⟩
theorem fn131 : Try.prog.funcs[131]? = some fi131.fn ∧ fi131.fn.body.isSome = true ∧ (fi131.fn.name == "runtime.NumGoroutine") = false := ⟨Try.func131, by kernel_rfl, by kernel_rfl⟩
theorem fn104 : Try.prog.funcs[104]? = some fi104.fn ∧ fi104.fn.body.isSome = true ∧ (fi104.fn.name == "runtime.NumGoroutine") = false := ⟨Try.func104, by kernel_rfl, by kernel_rfl⟩
theorem fn50 : Try.prog.funcs[50]? = some fi50.fn ∧ fi50.fn.body.isSome = true ∧ (fi50.fn.name == "runtime.NumGoroutine") = false := ⟨Try.func50, by kernel_rfl, by kernel_rfl⟩
theorem fn90 : Try.prog.funcs[90]? = some fi90.fn ∧ fi90.fn.body.isSome = true ∧ (fi90.fn.name == "runtime.NumGoroutine") = false := ⟨Try.func90, by kernel_rfl, by kernel_rfl⟩
theorem fn76 : Try.prog.funcs[76]? = some fi76.fn ∧ fi76.fn.body.isSome = true ∧ (fi76.fn.name == "runtime.NumGoroutine") = false := ⟨Try.func76, by kernel_rfl, by kernel_rfl⟩
theorem fn106 : Try.prog.funcs[106]? = some fi106.fn ∧ fi106.fn.body.isSome = true ∧ (fi106.fn.name == "runtime.NumGoroutine") = false := ⟨Try.func106, by kernel_rfl, by kernel_rfl⟩
theorem fn108 : Try.prog.funcs[108]? = some fi108.fn ∧ fi108.fn.body.isSome = true ∧ (fi108.fn.name == "runtime.NumGoroutine") = false := ⟨Try.func108, by kernel_rfl, by kernel_rfl⟩
theorem fn140 : Try.prog.funcs[140]? = some fi140.fn ∧ fi140.fn.body.isSome = true ∧ (fi140.fn.name == "runtime.NumGoroutine") = false := ⟨Try.func140, by kernel_rfl, by kernel_rfl⟩
theorem fn107 : Try.prog.funcs[107]? = some fi107.fn ∧ fi107.fn.body.isSome = true ∧ (fi107.fn.name == "runtime.NumGoroutine") = false := ⟨Try.func107, by kernel_rfl, by kernel_rfl⟩
theorem fn52 : Try.prog.funcs[52]? = some fi52.fn ∧ fi52.fn.body.isSome = true ∧ (fi52.fn.name == "runtime.NumGoroutine") = false := ⟨Try.func52, by kernel_rfl, by kernel_rfl⟩
theorem fn123 : Try.prog.funcs[123]? = some fi123.fn ∧ fi123.fn.body.isSome = true ∧ (fi123.fn.name == "runtime.NumGoroutine") = false := ⟨Try.func123, by kernel_rfl, by kernel_rfl⟩
theorem fn67 : Try.prog.funcs[67]? = some fi67.fn ∧ fi67.fn.body.isSome = true ∧ (fi67.fn.name == "runtime.NumGoroutine") = false := ⟨Try.func67, by kernel_rfl, by kernel_rfl⟩
theorem fn82 : Try.prog.funcs[82]? = some fi82.fn ∧ fi82.fn.body.isSome = true ∧ (fi82.fn.name == "runtime.NumGoroutine") = false := ⟨Try.func82, by kernel_rfl, by kernel_rfl⟩
theorem fn26 : Try.prog.funcs[26]? = some fi26.fn ∧ fi26.fn.body.isSome = true ∧ (fi26.fn.name == "runtime.NumGoroutine") = false := ⟨Try.func26, by kernel_rfl, by kernel_rfl⟩
theorem fn77 : Try.prog.funcs[77]? = some fi77.fn ∧ fi77.fn.body.isSome = true ∧ (fi77.fn.name == "runtime.NumGoroutine") = false := ⟨Try.func77, by kernel_rfl, by kernel_rfl⟩
theorem fn109 : Try.prog.funcs[109]? = some fi109.fn ∧ fi109.fn.body.isSome = true ∧ (fi109.fn.name == "runtime.NumGoroutine") = false := ⟨Try.func109, by kernel_rfl, by kernel_rfl⟩
theorem fn53 : Try.prog.funcs[53]? = some fi53.fn ∧ fi53.fn.body.isSome = true ∧ (fi53.fn.name == "runtime.NumGoroutine") = false := ⟨Try.func53, by kernel_rfl, by kernel_rfl⟩
theorem fn79 : Try.prog.funcs[79]? = some fi79.fn ∧ fi79.fn.body.isSome = true ∧ (fi79.fn.name == "runtime.NumGoroutine") = false := ⟨Try.func79, by kernel_rfl, by kernel_rfl⟩
theorem fn80 : Try.prog.funcs[80]? = some fi80.fn ∧ fi80.fn.body.isSome = true ∧ (fi80.fn.name == "runtime.NumGoroutine") = false := ⟨Try.func80, by kernel_rfl, by kernel_rfl⟩
theorem fn24 : Try.prog.funcs[24]? = some fi24.fn ∧ fi24.fn.body.isSome = true ∧ (fi24.fn.name == "runtime.NumGoroutine") = false := ⟨Try.func24, by kernel_rfl, by kernel_rfl⟩
theorem fn51 : Try.prog.funcs[51]? = some fi51.fn ∧ fi51.fn.body.isSome = true ∧ (fi51.fn.name == "runtime.NumGoroutine") = false := ⟨Try.func51, by kernel_rfl, by kernel_rfl⟩
theorem fn125 : Try.prog.funcs[125]? = some fi125.fn ∧ fi125.fn.body.isSome = true ∧ (fi125.fn.name == "runtime.NumGoroutine") = false := ⟨Try.func125, by kernel_rfl, by kernel_rfl⟩
theorem fn72 : Try.prog.funcs[72]? = some fi72.fn ∧ fi72.fn.body.isSome = true ∧ (fi72.fn.name == "runtime.NumGoroutine") = false := ⟨Try.func72, by kernel_rfl, by kernel_rfl⟩
theorem fn73 : Try.prog.funcs[73]? = some fi73.fn ∧ fi73.fn.body.isSome = true ∧ (fi73.fn.name == "runtime.NumGoroutine") = false := ⟨Try.func73, by kernel_rfl, by kernel_rfl⟩
theorem fn132 : Try.prog.funcs[132]? = some fi132.fn ∧ fi132.fn.body.isSome = true ∧ (fi132.fn.name == "runtime.NumGoroutine") = false := ⟨Try.func132, by kernel_rfl, by kernel_rfl⟩
theorem fn91 : Try.prog.funcs[91]? = some fi91.fn ∧ fi91.fn.body.isSome = true ∧ (fi91.fn.name == "runtime.NumGoroutine") = false := ⟨Try.func91, by kernel_rfl, by kernel_rfl⟩
theorem fn102 : Try.prog.funcs[102]? = some fi102.fn ∧ fi102.fn.body.isSome = true ∧ (fi102.fn.name == "runtime.NumGoroutine") = false := ⟨Try.func102, by kernel_rfl, by kernel_rfl⟩
theorem fn74 : Try.prog.funcs[74]? = some fi74.fn ∧ fi74.fn.body.isSome = true ∧ (fi74.fn.name == "runtime.NumGoroutine") = false := ⟨Try.func74, by kernel_rfl, by kernel_rfl⟩
theorem fn46 : Try.prog.funcs[46]? = some fi46.fn ∧ fi46.fn.body.isSome = true ∧ (fi46.fn.name == "runtime.NumGoroutine") = false := ⟨Try.func46, by kernel_rfl, by kernel_rfl⟩
theorem fn126 : Try.prog.funcs[126]? = some fi126.fn ∧ fi126.fn.body.isSome = true ∧ (fi126.fn.name == "runtime.NumGoroutine") = false := ⟨Try.func126, by kernel_rfl, by kernel_rfl⟩
theorem fn75 : Try.prog.funcs[75]? = some fi75.fn ∧ fi75.fn.body.isSome = true ∧ (fi75.fn.name == "runtime.NumGoroutine") = false := ⟨Try.func75, by kernel_rfl, by kernel_rfl⟩
theorem fn139 : Try.prog.funcs[139]? = some fi139.fn ∧ fi139.fn.body.isSome = true ∧ (fi139.fn.name == "runtime.NumGoroutine") = false := ⟨Try.func139, by kernel_rfl, by kernel_rfl⟩
theorem fn101 : Try.prog.funcs[101]? = some fi101.fn ∧ fi101.fn.body.isSome = true ∧ (fi101.fn.name == "runtime.NumGoroutine") = false := ⟨Try.func101, by kernel_rfl, by kernel_rfl⟩
theorem fn44 : Try.prog.funcs[44]? = some fi44.fn ∧ fi44.fn.body.isSome = true ∧ (fi44.fn.name == "runtime.NumGoroutine") = false := ⟨Try.func44, by kernel_rfl, by kernel_rfl⟩
theorem fn20 : Try.prog.funcs[20]? = some fi20.fn ∧ fi20.fn.body.isSome = true ∧ (fi20.fn.name == "runtime.NumGoroutine") = false := ⟨Try.func20, by kernel_rfl, by kernel_rfl⟩
theorem fn9 : Try.prog.funcs[9]? = some fi9.fn ∧ fi9.fn.body.isSome = true ∧ (fi9.fn.name == "runtime.NumGoroutine") = false := ⟨Try.func9, by kernel_rfl, by kernel_rfl⟩
theorem fns : AllF (fun x : Nat × Fi => Try.prog.funcs[x.1]? = some x.2.fn ∧ x.2.fn.body.isSome = true ∧ (x.2.fn.name == "runtime.NumGoroutine") = false) fiTab := ⟨fn13, fn65, fn124, fn70, fn118, fn71, fn105, fn131, fn104, fn50, fn90, fn76, fn106, fn108, fn140, fn107, fn52, fn123, fn67, fn82, fn26, fn77, fn109, fn53, fn79, fn80, fn24, fn51, fn125, fn72, fn73, fn132, fn91, fn102, fn74, fn46, fn126, fn75, fn139, fn101, fn44, fn20, fn9, trivial⟩
theorem mixed : Try.prog.follows .mixedOrders = true := by kernel_rfl
theorem envOk : EnvOk Try.prog env := envOk_of tys fns mixed
theorem lawTy : ∀ t ti, env.ty t = some ti → lawTyB env ti = true := lawTy_of (by kernel_rfl)
theorem forms : ∀ f fi, env.fi f = some fi → fi.inl = false → fiB fi = true := fiB_of (by kernel_rfl)
theorem cl123 : CallSnd Try.prog fi123 123 cloneF := clone_snd envOk forms (f := 123) (fi := fi123) rfl rfl rfl (t := 22) (e := 5) Try.underlying22 rfl ⟨⟨rfl, rfl, rfl⟩, ⟨rfl, rfl, rfl⟩, ⟨⟨_, rfl⟩, rfl, rfl⟩⟩ (by kernel_rfl) (by kernel_rfl) (fun l => by kernel_rfl)
theorem xs : ∀ f g fi, X f = some g → env.fi f = some fi → CallSnd Try.prog fi f g := xs_of (P := Try.prog) (fiL := fiTab) (tyL := tyTab) (⟨fun fi h => (by have h : some fi123 = some fi := h; cases h; exact cl123), trivial⟩)
end Go.Proofs.Ytockabaoaneplaa.T
