/- What functions of the law FnExactRootsOf come to, in trees; no condition. -/
import Derived.Test.YtmjahclmjgllbaaRows
import Derived.Test.YtmjahclmjgllbaaX0
import Derived.KernelRfl
set_option linter.unusedVariables false
set_option linter.constructorNameAsVariable false
set_option linter.unusedSimpArgs false
set_option linter.unnecessarySimpa false
namespace Go.Proofs.Ytmjahclmjgllbaa.T
open Go Go.Proofs.YtmjahclmjgllbaaV
theorem tys : (tyTab.all fun x => tyOkB Try.prog ⟨lookN fiTab, lookN tyTab⟩ x.1 x.2 && (!(x.2.agg && flatB x.2.cs) || eqTyB Try.prog x.1 x.2)) = true := by kernel_rfl
theorem fn78 : Try.prog.funcs[78]? = some fi78.fn ∧ fi78.fn.body.isSome = true ∧ (fi78.fn.name == "runtime.NumGoroutine") = false := ⟨Try.func78, by kernel_rfl, by kernel_rfl⟩
theorem fn74 : Try.prog.funcs[74]? = some fi74.fn ∧ fi74.fn.body.isSome = true ∧ (fi74.fn.name == "runtime.NumGoroutine") = false := ⟨Try.func74, by kernel_rfl, by kernel_rfl⟩
theorem fn66 : Try.prog.funcs[66]? = some fi66.fn ∧ fi66.fn.body.isSome = true ∧ (fi66.fn.name == "runtime.NumGoroutine") = false := ⟨Try.func66, by kernel_rfl, by kernel_rfl⟩
theorem fn50 : Try.prog.funcs[50]? = some fi50.fn ∧ fi50.fn.body.isSome = true ∧ (fi50.fn.name == "runtime.NumGoroutine") = false := ⟨Try.func50, by kernel_rfl, by kernel_rfl⟩
theorem fn36 : Try.prog.funcs[36]? = some fi36.fn ∧ fi36.fn.body.isSome = true ∧ (fi36.fn.name == "runtime.NumGoroutine") = false := ⟨Try.func36, by kernel_rfl, by kernel_rfl⟩
theorem fn23 : Try.prog.funcs[23]? = some fi23.fn ∧ fi23.fn.body.isSome = true ∧ (fi23.fn.name == "runtime.NumGoroutine") = false := ⟨Try.func23, by kernel_rfl, by kernel_rfl⟩
theorem fn24 : Try.prog.funcs[24]? = some fi24.fn ∧ fi24.fn.body.isSome = true ∧ (fi24.fn.name == "runtime.NumGoroutine") = false := ⟨Try.func24, by kernel_rfl, by kernel_rfl⟩
theorem fn13 : Try.prog.funcs[13]? = some fi13.fn ∧ fi13.fn.body.isSome = true ∧ (fi13.fn.name == "runtime.NumGoroutine") = false := ⟨Try.func13, by kernel_rfl, by kernel_rfl⟩
theorem fn4 : Try.prog.funcs[4]? = some fi4.fn ∧ fi4.fn.body.isSome = true ∧ (fi4.fn.name == "runtime.NumGoroutine") = false := ⟨Try.func4, by kernel_rfl, by kernel_rfl⟩
theorem fn79 : Try.prog.funcs[79]? = some fi79.fn ∧ fi79.fn.body.isSome = true ∧ (fi79.fn.name == "runtime.NumGoroutine") = false := ⟨Try.func79, by kernel_rfl, by kernel_rfl⟩
theorem fn75 : Try.prog.funcs[75]? = some fi75.fn ∧ fi75.fn.body.isSome = true ∧ (fi75.fn.name == "runtime.NumGoroutine") = false := ⟨Try.func75, by kernel_rfl, by kernel_rfl⟩
theorem fn67 : Try.prog.funcs[67]? = some fi67.fn ∧ fi67.fn.body.isSome = true ∧ (fi67.fn.name == "runtime.NumGoroutine") = false := ⟨Try.func67, by kernel_rfl, by kernel_rfl⟩
theorem fn54 : Try.prog.funcs[54]? = some fi54.fn ∧ fi54.fn.body.isSome = true ∧ (fi54.fn.name == "runtime.NumGoroutine") = false := ⟨Try.func54, by kernel_rfl, by kernel_rfl⟩
theorem fn41 : Try.prog.funcs[41]? = some fi41.fn ∧ fi41.fn.body.isSome = true ∧ (fi41.fn.name == "runtime.NumGoroutine") = false := ⟨Try.func41, by kernel_rfl, by kernel_rfl⟩
theorem fn27 : Try.prog.funcs[27]? = some fi27.fn ∧ fi27.fn.body.isSome = true ∧ (fi27.fn.name == "runtime.NumGoroutine") = false := ⟨Try.func27, by kernel_rfl, by kernel_rfl⟩
theorem fn42 : Try.prog.funcs[42]? = some fi42.fn ∧ fi42.fn.body.isSome = true ∧ (fi42.fn.name == "runtime.NumGoroutine") = false := ⟨Try.func42, by kernel_rfl, by kernel_rfl⟩
theorem fn28 : Try.prog.funcs[28]? = some fi28.fn ∧ fi28.fn.body.isSome = true ∧ (fi28.fn.name == "runtime.NumGoroutine") = false := ⟨Try.func28, by kernel_rfl, by kernel_rfl⟩
theorem fn15 : Try.prog.funcs[15]? = some fi15.fn ∧ fi15.fn.body.isSome = true ∧ (fi15.fn.name == "runtime.NumGoroutine") = false := ⟨Try.func15, by kernel_rfl, by kernel_rfl⟩
theorem fn6 : Try.prog.funcs[6]? = some fi6.fn ∧ fi6.fn.body.isSome = true ∧ (fi6.fn.name == "runtime.NumGoroutine") = false := ⟨Try.func6, by kernel_rfl, by kernel_rfl⟩
theorem fn25 : Try.prog.funcs[25]? = some fi25.fn ∧ fi25.fn.body.isSome = true ∧ (fi25.fn.name == "runtime.NumGoroutine") = false := ⟨Try.func25, by kernel_rfl, by kernel_rfl⟩
theorem fn51 : Try.prog.funcs[51]? = some fi51.fn ∧ fi51.fn.body.isSome = true ∧ (fi51.fn.name == "runtime.NumGoroutine") = false := ⟨Try.func51, by kernel_rfl, by kernel_rfl⟩
theorem fn37 : Try.prog.funcs[37]? = some fi37.fn ∧ fi37.fn.body.isSome = true ∧ (fi37.fn.name == "runtime.NumGoroutine") = false := ⟨Try.func37, by kernel_rfl, by kernel_rfl⟩
theorem fn52 : Try.prog.funcs[52]? = some fi52.fn ∧ fi52.fn.body.isSome = true ∧ (fi52.fn.name == "runtime.NumGoroutine") = false := ⟨Try.func52, by kernel_rfl, by kernel_rfl⟩
theorem fn38 : Try.prog.funcs[38]? = some fi38.fn ∧ fi38.fn.body.isSome = true ∧ (fi38.fn.name == "runtime.NumGoroutine") = false := ⟨Try.func38, by kernel_rfl, by kernel_rfl⟩
theorem fn39 : Try.prog.funcs[39]? = some fi39.fn ∧ fi39.fn.body.isSome = true ∧ (fi39.fn.name == "runtime.NumGoroutine") = false := ⟨Try.func39, by kernel_rfl, by kernel_rfl⟩
theorem fn53 : Try.prog.funcs[53]? = some fi53.fn ∧ fi53.fn.body.isSome = true ∧ (fi53.fn.name == "runtime.NumGoroutine") = false := ⟨Try.func53, by kernel_rfl, by kernel_rfl⟩
theorem fn40 : Try.prog.funcs[40]? = some fi40.fn ∧ fi40.fn.body.isSome = true ∧ (fi40.fn.name == "runtime.NumGoroutine") = false := ⟨Try.func40, by kernel_rfl, by kernel_rfl⟩
theorem fn26 : Try.prog.funcs[26]? = some fi26.fn ∧ fi26.fn.body.isSome = true ∧ (fi26.fn.name == "runtime.NumGoroutine") = false := ⟨Try.func26, by kernel_rfl, by kernel_rfl⟩
theorem fn14 : Try.prog.funcs[14]? = some fi14.fn ∧ fi14.fn.body.isSome = true ∧ (fi14.fn.name == "runtime.NumGoroutine") = false := ⟨Try.func14, by kernel_rfl, by kernel_rfl⟩
theorem fn5 : Try.prog.funcs[5]? = some fi5.fn ∧ fi5.fn.body.isSome = true ∧ (fi5.fn.name == "runtime.NumGoroutine") = false := ⟨Try.func5, by kernel_rfl, by kernel_rfl⟩
theorem fn17 : Try.prog.funcs[17]? = some fi17.fn ∧ fi17.fn.body.isSome = true ∧ (fi17.fn.name == "runtime.NumGoroutine") = false := ⟨Try.func17, by kernel_rfl, by kernel_rfl⟩
theorem fn56 : Try.prog.funcs[56]? = some fi56.fn ∧ fi56.fn.body.isSome = true ∧ (fi56.fn.name == "runtime.NumGoroutine") = false := ⟨Try.func56, by kernel_rfl, by kernel_rfl⟩
theorem fn55 : Try.prog.funcs[55]? = some fi55.fn ∧ fi55.fn.body.isSome = true ∧ (fi55.fn.name == "runtime.NumGoroutine") = false := ⟨Try.func55, by kernel_rfl, by kernel_rfl⟩
theorem fn57 : Try.prog.funcs[57]? = some fi57.fn ∧ fi57.fn.body.isSome = true ∧ (fi57.fn.name == "runtime.NumGoroutine") = false := ⟨Try.func57, by kernel_rfl, by kernel_rfl⟩
theorem fn43 : Try.prog.funcs[43]? = some fi43.fn ∧ fi43.fn.body.isSome = true ∧ (fi43.fn.name == "runtime.NumGoroutine") = false := ⟨Try.func43, by kernel_rfl, by kernel_rfl⟩
theorem fn76 : Try.prog.funcs[76]? = some fi76.fn ∧ fi76.fn.body.isSome = true ∧ (fi76.fn.name == "runtime.NumGoroutine") = false := ⟨Try.func76, by kernel_rfl, by kernel_rfl⟩
theorem fn68 : Try.prog.funcs[68]? = some fi68.fn ∧ fi68.fn.body.isSome = true ∧ (fi68.fn.name == "runtime.NumGoroutine") = false := ⟨Try.func68, by kernel_rfl, by kernel_rfl⟩
theorem fn58 : Try.prog.funcs[58]? = some fi58.fn ∧ fi58.fn.body.isSome = true ∧ (fi58.fn.name == "runtime.NumGoroutine") = false := ⟨Try.func58, by kernel_rfl, by kernel_rfl⟩
theorem fn69 : Try.prog.funcs[69]? = some fi69.fn ∧ fi69.fn.body.isSome = true ∧ (fi69.fn.name == "runtime.NumGoroutine") = false := ⟨Try.func69, by kernel_rfl, by kernel_rfl⟩
theorem fn59 : Try.prog.funcs[59]? = some fi59.fn ∧ fi59.fn.body.isSome = true ∧ (fi59.fn.name == "runtime.NumGoroutine") = false := ⟨Try.func59, by kernel_rfl, by kernel_rfl⟩
theorem fn70 : Try.prog.funcs[70]? = some fi70.fn ∧ fi70.fn.body.isSome = true ∧ (fi70.fn.name == "runtime.NumGoroutine") = false := ⟨Try.func70, by kernel_rfl, by kernel_rfl⟩
theorem fn60 : Try.prog.funcs[60]? = some fi60.fn ∧ fi60.fn.body.isSome = true ∧ (fi60.fn.name == "runtime.NumGoroutine") = false := ⟨Try.func60, by kernel_rfl, by kernel_rfl⟩
theorem fn61 : Try.prog.funcs[61]? = some fi61.fn ∧ fi61.fn.body.isSome = true ∧ (fi61.fn.name == "runtime.NumGoroutine") = false := ⟨Try.func61, by kernel_rfl, by kernel_rfl⟩
theorem fn62 : Try.prog.funcs[62]? = some fi62.fn ∧ fi62.fn.body.isSome = true ∧ (fi62.fn.name == "runtime.NumGoroutine") = false := ⟨Try.func62, by kernel_rfl, by kernel_rfl⟩
theorem fn44 : Try.prog.funcs[44]? = some fi44.fn ∧ fi44.fn.body.isSome = true ∧ (fi44.fn.name == "runtime.NumGoroutine") = false := ⟨Try.func44, by kernel_rfl, by kernel_rfl⟩
theorem fn29 : Try.prog.funcs[29]? = some fi29.fn ∧ fi29.fn.body.isSome = true ∧ (fi29.fn.name == "runtime.NumGoroutine") = false := ⟨Try.func29, by kernel_rfl, by kernel_rfl⟩
theorem fn16 : Try.prog.funcs[16]? = some fi16.fn ∧ fi16.fn.body.isSome = true ∧ (fi16.fn.name == "runtime.NumGoroutine") = false := ⟨Try.func16, by kernel_rfl, by kernel_rfl⟩
theorem fn45 : Try.prog.funcs[45]? = some fi45.fn ∧ fi45.fn.body.isSome = true ∧ (fi45.fn.name == "runtime.NumGoroutine") = false := ⟨Try.func45, by kernel_rfl, by kernel_rfl⟩
theorem fn71 : Try.prog.funcs[71]? = some fi71.fn ∧ fi71.fn.body.isSome = true ∧ (fi71.fn.name == "runtime.NumGoroutine") = false := ⟨Try.func71, by kernel_rfl, by kernel_rfl⟩
theorem fn63 : Try.prog.funcs[63]? = some fi63.fn ∧ fi63.fn.body.isSome = true ∧ (fi63.fn.name == "runtime.NumGoroutine") = false := ⟨Try.func63, by kernel_rfl, by kernel_rfl⟩
theorem fn46 : Try.prog.funcs[46]? = some fi46.fn ∧ fi46.fn.body.isSome = true ∧ (fi46.fn.name == "runtime.NumGoroutine") = false := ⟨Try.func46, by kernel_rfl, by kernel_rfl⟩
theorem fn30 : Try.prog.funcs[30]? = some fi30.fn ∧ fi30.fn.body.isSome = true ∧ (fi30.fn.name == "runtime.NumGoroutine") = false := ⟨Try.func30, by kernel_rfl, by kernel_rfl⟩
theorem fn18 : Try.prog.funcs[18]? = some fi18.fn ∧ fi18.fn.body.isSome = true ∧ (fi18.fn.name == "runtime.NumGoroutine") = false := ⟨Try.func18, by kernel_rfl, by kernel_rfl⟩
theorem fn31 : Try.prog.funcs[31]? = some fi31.fn ∧ fi31.fn.body.isSome = true ∧ (fi31.fn.name == "runtime.NumGoroutine") = false := ⟨Try.func31, by kernel_rfl, by kernel_rfl⟩
theorem fn20 : Try.prog.funcs[20]? = some fi20.fn ∧ fi20.fn.body.isSome = true ∧ (fi20.fn.name == "runtime.NumGoroutine") = false := ⟨Try.func20, by kernel_rfl, by kernel_rfl⟩
theorem fn19 : Try.prog.funcs[19]? = some fi19.fn ∧ fi19.fn.body.isSome = true ∧ (fi19.fn.name == "runtime.NumGoroutine") = false := ⟨Try.func19, by kernel_rfl, by kernel_rfl⟩
theorem fn7 : Try.prog.funcs[7]? = some fi7.fn ∧ fi7.fn.body.isSome = true ∧ (fi7.fn.name == "runtime.NumGoroutine") = false := ⟨Try.func7, by kernel_rfl, by kernel_rfl⟩
theorem fn8 : Try.prog.funcs[8]? = some fi8.fn ∧ fi8.fn.body.isSome = true ∧ (fi8.fn.name == "runtime.NumGoroutine") = false := ⟨Try.func8, by kernel_rfl, by kernel_rfl⟩
theorem fn80 : Try.prog.funcs[80]? = some fi80.fn ∧ fi80.fn.body.isSome = true ∧ (fi80.fn.name == "runtime.NumGoroutine") = false := ⟨Try.func80, by kernel_rfl, by kernel_rfl⟩
theorem fn77 : Try.prog.funcs[77]? = some fi77.fn ∧ fi77.fn.body.isSome = true ∧ (fi77.fn.name == "runtime.NumGoroutine") = false := ⟨Try.func77, by kernel_rfl, by kernel_rfl⟩
theorem fn72 : Try.prog.funcs[72]? = some fi72.fn ∧ fi72.fn.body.isSome = true ∧ (fi72.fn.name == "runtime.NumGoroutine") = false := ⟨Try.func72, by kernel_rfl, by kernel_rfl⟩
theorem fn64 : Try.prog.funcs[64]? = some fi64.fn ∧ fi64.fn.body.isSome = true ∧ (fi64.fn.name == "runtime.NumGoroutine") = false := ⟨Try.func64, by kernel_rfl, by kernel_rfl⟩
theorem fn47 : Try.prog.funcs[47]? = some fi47.fn ∧ fi47.fn.body.isSome = true ∧ (fi47.fn.name == "runtime.NumGoroutine") = false := ⟨Try.func47, by kernel_rfl, by kernel_rfl⟩
theorem fn32 : Try.prog.funcs[32]? = some fi32.fn ∧ fi32.fn.body.isSome = true ∧ (fi32.fn.name == "runtime.NumGoroutine") = false := ⟨Try.func32, by kernel_rfl, by kernel_rfl⟩
theorem fn48 : Try.prog.funcs[48]? = some fi48.fn ∧ fi48.fn.body.isSome = true ∧ (fi48.fn.name == "runtime.NumGoroutine") = false := ⟨Try.func48, by kernel_rfl, by kernel_rfl⟩
theorem fn33 : Try.prog.funcs[33]? = some fi33.fn ∧ fi33.fn.body.isSome = true ∧ (fi33.fn.name == "runtime.NumGoroutine") = false := ⟨Try.func33, by kernel_rfl, by kernel_rfl⟩
theorem fn21 : Try.prog.funcs[21]? = some fi21.fn ∧ fi21.fn.body.isSome = true ∧ (fi21.fn.name == "runtime.NumGoroutine") = false := ⟨Try.func21, by kernel_rfl, by kernel_rfl⟩
theorem fn9 : Try.prog.funcs[9]? = some fi9.fn ∧ fi9.fn.body.isSome = true ∧ (fi9.fn.name == "runtime.NumGoroutine") = false := ⟨Try.func9, by kernel_rfl, by kernel_rfl⟩
theorem fn73 : Try.prog.funcs[73]? = some fi73.fn ∧ fi73.fn.body.isSome = true ∧ (fi73.fn.name == "runtime.NumGoroutine") = false := ⟨Try.func73, by kernel_rfl, by kernel_rfl⟩
theorem fn65 : Try.prog.funcs[65]? = some fi65.fn ∧ fi65.fn.body.isSome = true ∧ (fi65.fn.name == "runtime.NumGoroutine") = false := ⟨Try.func65, by kernel_rfl, by kernel_rfl⟩
theorem fn49 : Try.prog.funcs[49]? = some fi49.fn ∧ fi49.fn.body.isSome = true ∧ (fi49.fn.name == "runtime.NumGoroutine") = false := ⟨Try.func49, by kernel_rfl, by kernel_rfl⟩
theorem fn34 : Try.prog.funcs[34]? = some fi34.fn ∧ fi34.fn.body.isSome = true ∧ (fi34.fn.name == "runtime.NumGoroutine") = false := ⟨Try.func34, by kernel_rfl, by kernel_rfl⟩
theorem fn35 : Try.prog.funcs[35]? = some fi35.fn ∧ fi35.fn.body.isSome = true ∧ (fi35.fn.name == "runtime.NumGoroutine") = false := ⟨Try.func35, by kernel_rfl, by kernel_rfl⟩
theorem fn22 : Try.prog.funcs[22]? = some fi22.fn ∧ fi22.fn.body.isSome = true ∧ (fi22.fn.name == "runtime.NumGoroutine") = false := ⟨Try.func22, by kernel_rfl, by kernel_rfl⟩
theorem fn10 : Try.prog.funcs[10]? = some fi10.fn ∧ fi10.fn.body.isSome = true ∧ (fi10.fn.name == "runtime.NumGoroutine") = false := ⟨Try.func10, by kernel_rfl, by kernel_rfl⟩
theorem fn11 : Try.prog.funcs[11]? = some fi11.fn ∧ fi11.fn.body.isSome = true ∧ (fi11.fn.name == "runtime.NumGoroutine") = false := ⟨Try.func11, by kernel_rfl, by kernel_rfl⟩
theorem fn12 : Try.prog.funcs[12]? = some fi12.fn ∧ fi12.fn.body.isSome = true ∧ (fi12.fn.name == "runtime.NumGoroutine") = false := ⟨Try.func12, by kernel_rfl, by kernel_rfl⟩
theorem fn3 : Try.prog.funcs[3]? = some fi3.fn ∧ fi3.fn.body.isSome = true ∧ (fi3.fn.name == "runtime.NumGoroutine") = false := ⟨Try.func3, by kernel_rfl, by kernel_rfl⟩
theorem fns : AllF (fun x : Nat × Fi => Try.prog.funcs[x.1]? = some x.2.fn ∧ x.2.fn.body.isSome = true ∧ (x.2.fn.name == "runtime.NumGoroutine") = false) fiTab := ⟨fn78, fn74, fn66, fn50, fn36, fn23, fn24, fn13, fn4, fn79, fn75, fn67, fn54, fn41, fn27, fn42, fn28, fn15, fn6, fn25, fn51, fn37, fn52, fn38, fn39, fn53, fn40, fn26, fn14, fn5, fn17, fn56, fn55, fn57, fn43, fn76, fn68, fn58, fn69, fn59, fn70, fn60, fn61, fn62, fn44, fn29, fn16, fn45, fn71, fn63, fn46, fn30, fn18, fn31, fn20, fn19, fn7, fn8, fn80, fn77, fn72, fn64, fn47, fn32, fn48, fn33, fn21, fn9, fn73, fn65, fn49, fn34, fn35, fn22, fn10, fn11, fn12, fn3, trivial⟩
theorem mixed : Try.prog.follows .mixedOrders = true := by kernel_rfl
theorem envOk : EnvOk Try.prog env := envOk_of tys fns mixed
theorem lawTy : ∀ t ti, env.ty t = some ti → lawTyB env ti = true := lawTy_of (by kernel_rfl)
theorem forms : ∀ f fi, env.fi f = some fi → fi.inl = false → fiB fi = true := fiB_of (by kernel_rfl)
theorem cl57 : CallSnd Try.prog fi57 57 cloneF := clone_snd envOk forms (f := 57) (fi := fi57) rfl rfl rfl (t := 48) (e := 5) Try.underlying48 rfl ⟨⟨rfl, rfl, rfl⟩, ⟨rfl, rfl, rfl⟩, ⟨⟨_, rfl⟩, rfl, rfl⟩⟩ (by kernel_rfl) (by kernel_rfl) (fun l => by kernel_rfl)
theorem xs : ∀ f g fi, X f = some g → env.fi f = some fi → CallSnd Try.prog fi f g := xs_of (P := Try.prog) (fiL := fiTab) (tyL := tyTab) (⟨fun fi h => (by have h : some fi57 = some fi := h; cases h; exact cl57), trivial⟩)
end Go.Proofs.Ytmjahclmjgllbaa.T
