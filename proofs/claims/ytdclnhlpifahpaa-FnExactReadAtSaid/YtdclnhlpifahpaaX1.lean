/- What functions of the law FnExactReadAt come to, in trees; no condition. -/
import Derived.Test.YtdclnhlpifahpaaRows
import Derived.Test.YtdclnhlpifahpaaX0
import Derived.KernelRfl
set_option linter.unusedVariables false
set_option linter.constructorNameAsVariable false
set_option linter.unusedSimpArgs false
set_option linter.unnecessarySimpa false
namespace Go.Proofs.Ytdclnhlpifahpaa.T
open Go Go.Proofs.YtdclnhlpifahpaaV
theorem tys : (tyTab.all fun x => tyOkB Try.prog ⟨lookN fiTab, lookN tyTab⟩ x.1 x.2 && (!(x.2.agg && flatB x.2.cs) || eqTyB Try.prog x.1 x.2)) = true := by kernel_rfl
theorem fn259 : Try.prog.funcs[259]? = some fi259.fn ∧ fi259.fn.body.isSome = true ∧ (fi259.fn.name == "runtime.NumGoroutine") = false := ⟨Try.func259, by kernel_rfl, by kernel_rfl⟩
theorem fn252 : Try.prog.funcs[252]? = some fi252.fn ∧ fi252.fn.body.isSome = true ∧ (fi252.fn.name == "runtime.NumGoroutine") = false := ⟨Try.func252, by kernel_rfl, by kernel_rfl⟩
theorem fn242 : Try.prog.funcs[242]? = some fi242.fn ∧ fi242.fn.body.isSome = true ∧ (fi242.fn.name == "runtime.NumGoroutine") = false := ⟨Try.func242, by kernel_rfl, by kernel_rfl⟩
theorem fn219 : Try.prog.funcs[219]? = some fi219.fn ∧ fi219.fn.body.isSome = true ∧ (fi219.fn.name == "runtime.NumGoroutine") = false := ⟨Try.func219, by kernel_rfl, by kernel_rfl⟩
theorem fn175 : Try.prog.funcs[175]? = some fi175.fn ∧ fi175.fn.body.isSome = true ∧ (fi175.fn.name == "runtime.NumGoroutine") = false := ⟨Try.func175, by kernel_rfl, by kernel_rfl⟩
theorem fn122 : Try.prog.funcs[122]? = some fi122.fn ∧ fi122.fn.body.isSome = true ∧ (fi122.fn.name == "runtime.NumGoroutine") = false := ⟨Try.func122, by kernel_rfl, by kernel_rfl⟩
theorem fn123 : Try.prog.funcs[123]? = some fi123.fn ∧ fi123.fn.body.isSome = true ∧ (fi123.fn.name == "runtime.NumGoroutine") = false := ⟨Try.func123, by kernel_rfl, by kernel_rfl⟩
theorem fn69 : Try.prog.funcs[69]? = some fi69.fn ∧ fi69.fn.body.isSome = true ∧ (fi69.fn.name == "runtime.NumGoroutine") = false := ⟨Try.func69, by kernel_rfl, by kernel_rfl⟩
theorem fn18 : Try.prog.funcs[18]? = some fi18.fn ∧ fi18.fn.body.isSome = true ∧ (fi18.fn.name == "runtime.NumGoroutine") = false := ⟨Try.func18, by kernel_rfl, by kernel_rfl⟩
theorem fn47 : Try.prog.funcs[47]? = some fi47.fn ∧ fi47.fn.body.isSome = true ∧ (fi47.fn.name == "runtime.NumGoroutine") = false := ⟨Try.func47, by kernel_rfl, by kernel_rfl⟩
theorem fn253 : Try.prog.funcs[253]? = some fi253.fn ∧ fi253.fn.body.isSome = true ∧ (fi253.fn.name == "runtime.NumGoroutine") = false := ⟨Try.func253, by kernel_rfl, by kernel_rfl⟩
theorem fn243 : Try.prog.funcs[243]? = some fi243.fn ∧ fi243.fn.body.isSome = true ∧ (fi243.fn.name == "runtime.NumGoroutine") = false := ⟨Try.func243, by kernel_rfl, by kernel_rfl⟩
theorem fn220 : Try.prog.funcs[220]? = some fi220.fn ∧ fi220.fn.body.isSome = true ∧ (fi220.fn.name == "runtime.NumGoroutine") = false := ⟨Try.func220, by kernel_rfl, by kernel_rfl⟩
theorem fn177 : Try.prog.funcs[177]? = some fi177.fn ∧ fi177.fn.body.isSome = true ∧ (fi177.fn.name == "runtime.NumGoroutine") = false := ⟨Try.func177, by kernel_rfl, by kernel_rfl⟩
theorem fn126 : Try.prog.funcs[126]? = some fi126.fn ∧ fi126.fn.body.isSome = true ∧ (fi126.fn.name == "runtime.NumGoroutine") = false := ⟨Try.func126, by kernel_rfl, by kernel_rfl⟩
theorem fn178 : Try.prog.funcs[178]? = some fi178.fn ∧ fi178.fn.body.isSome = true ∧ (fi178.fn.name == "runtime.NumGoroutine") = false := ⟨Try.func178, by kernel_rfl, by kernel_rfl⟩
theorem fn127 : Try.prog.funcs[127]? = some fi127.fn ∧ fi127.fn.body.isSome = true ∧ (fi127.fn.name == "runtime.NumGoroutine") = false := ⟨Try.func127, by kernel_rfl, by kernel_rfl⟩
theorem fn73 : Try.prog.funcs[73]? = some fi73.fn ∧ fi73.fn.body.isSome = true ∧ (fi73.fn.name == "runtime.NumGoroutine") = false := ⟨Try.func73, by kernel_rfl, by kernel_rfl⟩
theorem fn20 : Try.prog.funcs[20]? = some fi20.fn ∧ fi20.fn.body.isSome = true ∧ (fi20.fn.name == "runtime.NumGoroutine") = false := ⟨Try.func20, by kernel_rfl, by kernel_rfl⟩
theorem fn79 : Try.prog.funcs[79]? = some fi79.fn ∧ fi79.fn.body.isSome = true ∧ (fi79.fn.name == "runtime.NumGoroutine") = false := ⟨Try.func79, by kernel_rfl, by kernel_rfl⟩
theorem fn181 : Try.prog.funcs[181]? = some fi181.fn ∧ fi181.fn.body.isSome = true ∧ (fi181.fn.name == "runtime.NumGoroutine") = false := ⟨Try.func181, by kernel_rfl, by kernel_rfl⟩
theorem fn131 : Try.prog.funcs[131]? = some fi131.fn ∧ fi131.fn.body.isSome = true ∧ (fi131.fn.name == "runtime.NumGoroutine") = false := ⟨Try.func131, by kernel_rfl, by kernel_rfl⟩
theorem fn182 : Try.prog.funcs[182]? = some fi182.fn ∧ fi182.fn.body.isSome = true ∧ (fi182.fn.name == "runtime.NumGoroutine") = false := ⟨Try.func182, by kernel_rfl, by kernel_rfl⟩
theorem fn132 : Try.prog.funcs[132]? = some fi132.fn ∧ fi132.fn.body.isSome = true ∧ (fi132.fn.name == "runtime.NumGoroutine") = false := ⟨Try.func132, by kernel_rfl, by kernel_rfl⟩
theorem fn133 : Try.prog.funcs[133]? = some fi133.fn ∧ fi133.fn.body.isSome = true ∧ (fi133.fn.name == "runtime.NumGoroutine") = false := ⟨Try.func133, by kernel_rfl, by kernel_rfl⟩
theorem fn71 : Try.prog.funcs[71]? = some fi71.fn ∧ fi71.fn.body.isSome = true ∧ (fi71.fn.name == "runtime.NumGoroutine") = false := ⟨Try.func71, by kernel_rfl, by kernel_rfl⟩
theorem fn103 : Try.prog.funcs[103]? = some fi103.fn ∧ fi103.fn.body.isSome = true ∧ (fi103.fn.name == "runtime.NumGoroutine") = false := ⟨Try.func103, by kernel_rfl, by kernel_rfl⟩
theorem fn80 : Try.prog.funcs[80]? = some fi80.fn ∧ fi80.fn.body.isSome = true ∧ (fi80.fn.name == "runtime.NumGoroutine") = false := ⟨Try.func80, by kernel_rfl, by kernel_rfl⟩
theorem fn23 : Try.prog.funcs[23]? = some fi23.fn ∧ fi23.fn.body.isSome = true ∧ (fi23.fn.name == "runtime.NumGoroutine") = false := ⟨Try.func23, by kernel_rfl, by kernel_rfl⟩
theorem fn75 : Try.prog.funcs[75]? = some fi75.fn ∧ fi75.fn.body.isSome = true ∧ (fi75.fn.name == "runtime.NumGoroutine") = false := ⟨Try.func75, by kernel_rfl, by kernel_rfl⟩
theorem fn94 : Try.prog.funcs[94]? = some fi94.fn ∧ fi94.fn.body.isSome = true ∧ (fi94.fn.name == "runtime.NumGoroutine") = false := ⟨Try.func94, by kernel_rfl, by kernel_rfl⟩
theorem fn147 : Try.prog.funcs[147]? = some fi147.fn ∧ fi147.fn.body.isSome = true ∧ (fi147.fn.name == "runtime.NumGoroutine") = false := ⟨Try.func147, by kernel_rfl, by kernel_rfl⟩
theorem fn134 : Try.prog.funcs[134]? = some fi134.fn ∧ fi134.fn.body.isSome = true ∧ (fi134.fn.name == "runtime.NumGoroutine") = false := ⟨Try.func134, by kernel_rfl, by kernel_rfl⟩
theorem fn146 : Try.prog.funcs[146]? = some fi146.fn ∧ fi146.fn.body.isSome = true ∧ (fi146.fn.name == "runtime.NumGoroutine") = false := ⟨Try.func146, by kernel_rfl, by kernel_rfl⟩
theorem fn91 : Try.prog.funcs[91]? = some fi91.fn ∧ fi91.fn.body.isSome = true ∧ (fi91.fn.name == "runtime.NumGoroutine") = false := ⟨Try.func91, by kernel_rfl, by kernel_rfl⟩
theorem fn183 : Try.prog.funcs[183]? = some fi183.fn ∧ fi183.fn.body.isSome = true ∧ (fi183.fn.name == "runtime.NumGoroutine") = false := ⟨Try.func183, by kernel_rfl, by kernel_rfl⟩
theorem fn222 : Try.prog.funcs[222]? = some fi222.fn ∧ fi222.fn.body.isSome = true ∧ (fi222.fn.name == "runtime.NumGoroutine") = false := ⟨Try.func222, by kernel_rfl, by kernel_rfl⟩
theorem fn184 : Try.prog.funcs[184]? = some fi184.fn ∧ fi184.fn.body.isSome = true ∧ (fi184.fn.name == "runtime.NumGoroutine") = false := ⟨Try.func184, by kernel_rfl, by kernel_rfl⟩
theorem fn223 : Try.prog.funcs[223]? = some fi223.fn ∧ fi223.fn.body.isSome = true ∧ (fi223.fn.name == "runtime.NumGoroutine") = false := ⟨Try.func223, by kernel_rfl, by kernel_rfl⟩
theorem fn185 : Try.prog.funcs[185]? = some fi185.fn ∧ fi185.fn.body.isSome = true ∧ (fi185.fn.name == "runtime.NumGoroutine") = false := ⟨Try.func185, by kernel_rfl, by kernel_rfl⟩
theorem fn186 : Try.prog.funcs[186]? = some fi186.fn ∧ fi186.fn.body.isSome = true ∧ (fi186.fn.name == "runtime.NumGoroutine") = false := ⟨Try.func186, by kernel_rfl, by kernel_rfl⟩
theorem fn89 : Try.prog.funcs[89]? = some fi89.fn ∧ fi89.fn.body.isSome = true ∧ (fi89.fn.name == "runtime.NumGoroutine") = false := ⟨Try.func89, by kernel_rfl, by kernel_rfl⟩
theorem fn135 : Try.prog.funcs[135]? = some fi135.fn ∧ fi135.fn.body.isSome = true ∧ (fi135.fn.name == "runtime.NumGoroutine") = false := ⟨Try.func135, by kernel_rfl, by kernel_rfl⟩
theorem fn81 : Try.prog.funcs[81]? = some fi81.fn ∧ fi81.fn.body.isSome = true ∧ (fi81.fn.name == "runtime.NumGoroutine") = false := ⟨Try.func81, by kernel_rfl, by kernel_rfl⟩
theorem fn24 : Try.prog.funcs[24]? = some fi24.fn ∧ fi24.fn.body.isSome = true ∧ (fi24.fn.name == "runtime.NumGoroutine") = false := ⟨Try.func24, by kernel_rfl, by kernel_rfl⟩
theorem fn48 : Try.prog.funcs[48]? = some fi48.fn ∧ fi48.fn.body.isSome = true ∧ (fi48.fn.name == "runtime.NumGoroutine") = false := ⟨Try.func48, by kernel_rfl, by kernel_rfl⟩
theorem fn25 : Try.prog.funcs[25]? = some fi25.fn ∧ fi25.fn.body.isSome = true ∧ (fi25.fn.name == "runtime.NumGoroutine") = false := ⟨Try.func25, by kernel_rfl, by kernel_rfl⟩
theorem fn254 : Try.prog.funcs[254]? = some fi254.fn ∧ fi254.fn.body.isSome = true ∧ (fi254.fn.name == "runtime.NumGoroutine") = false := ⟨Try.func254, by kernel_rfl, by kernel_rfl⟩
theorem fn244 : Try.prog.funcs[244]? = some fi244.fn ∧ fi244.fn.body.isSome = true ∧ (fi244.fn.name == "runtime.NumGoroutine") = false := ⟨Try.func244, by kernel_rfl, by kernel_rfl⟩
theorem fn221 : Try.prog.funcs[221]? = some fi221.fn ∧ fi221.fn.body.isSome = true ∧ (fi221.fn.name == "runtime.NumGoroutine") = false := ⟨Try.func221, by kernel_rfl, by kernel_rfl⟩
theorem fn179 : Try.prog.funcs[179]? = some fi179.fn ∧ fi179.fn.body.isSome = true ∧ (fi179.fn.name == "runtime.NumGoroutine") = false := ⟨Try.func179, by kernel_rfl, by kernel_rfl⟩
theorem fn129 : Try.prog.funcs[129]? = some fi129.fn ∧ fi129.fn.body.isSome = true ∧ (fi129.fn.name == "runtime.NumGoroutine") = false := ⟨Try.func129, by kernel_rfl, by kernel_rfl⟩
theorem fn180 : Try.prog.funcs[180]? = some fi180.fn ∧ fi180.fn.body.isSome = true ∧ (fi180.fn.name == "runtime.NumGoroutine") = false := ⟨Try.func180, by kernel_rfl, by kernel_rfl⟩
theorem fn130 : Try.prog.funcs[130]? = some fi130.fn ∧ fi130.fn.body.isSome = true ∧ (fi130.fn.name == "runtime.NumGoroutine") = false := ⟨Try.func130, by kernel_rfl, by kernel_rfl⟩
theorem fn78 : Try.prog.funcs[78]? = some fi78.fn ∧ fi78.fn.body.isSome = true ∧ (fi78.fn.name == "runtime.NumGoroutine") = false := ⟨Try.func78, by kernel_rfl, by kernel_rfl⟩
theorem fn22 : Try.prog.funcs[22]? = some fi22.fn ∧ fi22.fn.body.isSome = true ∧ (fi22.fn.name == "runtime.NumGoroutine") = false := ⟨Try.func22, by kernel_rfl, by kernel_rfl⟩
theorem fn49 : Try.prog.funcs[49]? = some fi49.fn ∧ fi49.fn.body.isSome = true ∧ (fi49.fn.name == "runtime.NumGoroutine") = false := ⟨Try.func49, by kernel_rfl, by kernel_rfl⟩
theorem fn224 : Try.prog.funcs[224]? = some fi224.fn ∧ fi224.fn.body.isSome = true ∧ (fi224.fn.name == "runtime.NumGoroutine") = false := ⟨Try.func224, by kernel_rfl, by kernel_rfl⟩
theorem fn187 : Try.prog.funcs[187]? = some fi187.fn ∧ fi187.fn.body.isSome = true ∧ (fi187.fn.name == "runtime.NumGoroutine") = false := ⟨Try.func187, by kernel_rfl, by kernel_rfl⟩
theorem fn136 : Try.prog.funcs[136]? = some fi136.fn ∧ fi136.fn.body.isSome = true ∧ (fi136.fn.name == "runtime.NumGoroutine") = false := ⟨Try.func136, by kernel_rfl, by kernel_rfl⟩
theorem fn137 : Try.prog.funcs[137]? = some fi137.fn ∧ fi137.fn.body.isSome = true ∧ (fi137.fn.name == "runtime.NumGoroutine") = false := ⟨Try.func137, by kernel_rfl, by kernel_rfl⟩
theorem fn82 : Try.prog.funcs[82]? = some fi82.fn ∧ fi82.fn.body.isSome = true ∧ (fi82.fn.name == "runtime.NumGoroutine") = false := ⟨Try.func82, by kernel_rfl, by kernel_rfl⟩
theorem fn26 : Try.prog.funcs[26]? = some fi26.fn ∧ fi26.fn.body.isSome = true ∧ (fi26.fn.name == "runtime.NumGoroutine") = false := ⟨Try.func26, by kernel_rfl, by kernel_rfl⟩
theorem fn27 : Try.prog.funcs[27]? = some fi27.fn ∧ fi27.fn.body.isSome = true ∧ (fi27.fn.name == "runtime.NumGoroutine") = false := ⟨Try.func27, by kernel_rfl, by kernel_rfl⟩
theorem fn83 : Try.prog.funcs[83]? = some fi83.fn ∧ fi83.fn.body.isSome = true ∧ (fi83.fn.name == "runtime.NumGoroutine") = false := ⟨Try.func83, by kernel_rfl, by kernel_rfl⟩
theorem fn28 : Try.prog.funcs[28]? = some fi28.fn ∧ fi28.fn.body.isSome = true ∧ (fi28.fn.name == "runtime.NumGoroutine") = false := ⟨Try.func28, by kernel_rfl, by kernel_rfl⟩
theorem fn5 : Try.prog.funcs[5]? = some fi5.fn ∧ fi5.fn.body.isSome = true ∧ (fi5.fn.name == "runtime.NumGoroutine") = false := ⟨Try.func5, by kernel_rfl, by kernel_rfl⟩
theorem fns : AllF (fun x : Nat × Fi => Try.prog.funcs[x.1]? = some x.2.fn ∧ x.2.fn.body.isSome = true ∧ (x.2.fn.name == "runtime.NumGoroutine") = false) fiTab := ⟨fn259, fn252, fn242, fn219, fn175, fn122, fn123, fn69, fn18, fn47, fn253, fn243, fn220, fn177, fn126, fn178, fn127, fn73, fn20, fn79, fn181, fn131, fn182, fn132, fn133, fn71, fn103, fn80, fn23, fn75, fn94, fn147, fn134, fn146, fn91, fn183, fn222, fn184, fn223, fn185, fn186, fn89, fn135, fn81, fn24, fn48, fn25, fn254, fn244, fn221, fn179, fn129, fn180, fn130, fn78, fn22, fn49, fn224, fn187, fn136, fn137, fn82, fn26, fn27, fn83, fn28, fn5, trivial⟩
theorem mixed : Try.prog.follows .mixedOrders = true := by kernel_rfl
theorem envOk : EnvOk Try.prog env := envOk_of tys fns mixed
theorem lawTy : ∀ t ti, env.ty t = some ti → lawTyB env ti = true := lawTy_of (by kernel_rfl)
theorem forms : ∀ f fi, env.fi f = some fi → fi.inl = false → fiB fi = true := fiB_of (by kernel_rfl)
theorem cl147 : CallSnd Try.prog fi147 147 cloneF := clone_snd envOk forms (f := 147) (fi := fi147) rfl rfl rfl (t := 56) (e := 5) Try.underlying56 rfl ⟨⟨rfl, rfl, rfl⟩, ⟨rfl, rfl, rfl⟩, ⟨⟨_, rfl⟩, rfl, rfl⟩⟩ (by kernel_rfl) (by kernel_rfl) (fun l => by kernel_rfl)
theorem xs : ∀ f g fi, X f = some g → env.fi f = some fi → CallSnd Try.prog fi f g := xs_of (P := Try.prog) (fiL := fiTab) (tyL := tyTab) (⟨fun fi h => (by have h : some fi147 = some fi := h; cases h; exact cl147), trivial⟩)
end Go.Proofs.Ytdclnhlpifahpaa.T
