/- What functions of the law FnExactEntriesOk come to, in trees; no condition. -/
import Derived.Test.YtdclnhlpifahpaaDoorRows
import Derived.Test.YtdclnhlpifahpaaDoorX0
import Derived.Shelf.Strings.Search3
import Derived.Shelf.Strings.Count
import Derived.KernelRfl
set_option linter.unusedVariables false
set_option linter.constructorNameAsVariable false
set_option linter.unusedSimpArgs false
set_option linter.unnecessarySimpa false
namespace Go.Proofs.YtdclnhlpifahpaaDoor.T
open Go Go.Proofs.YtdclnhlpifahpaaDoorV
theorem tys : (tyTab.all fun x => tyOkB Tryd.prog ⟨lookN fiTab, lookN tyTab⟩ x.1 x.2 && (!(x.2.agg && flatB x.2.cs) || eqTyB Tryd.prog x.1 x.2)) = true := by kernel_rfl
theorem fn22 : Tryd.prog.funcs[22]? = some fi22.fn ∧ fi22.fn.body.isSome = true ∧ (fi22.fn.name == "runtime.NumGoroutine") = false := ⟨Tryd.func22, by kernel_rfl, by kernel_rfl⟩
theorem fn35 : Tryd.prog.funcs[35]? = some fi35.fn ∧ fi35.fn.body.isSome = true ∧ (fi35.fn.name == "runtime.NumGoroutine") = false := ⟨Tryd.func35, by kernel_rfl, by kernel_rfl⟩
theorem fn23 : Tryd.prog.funcs[23]? = some fi23.fn ∧ fi23.fn.body.isSome = true ∧ (fi23.fn.name == "runtime.NumGoroutine") = false := ⟨Tryd.func23, by kernel_rfl, by kernel_rfl⟩
theorem fn9 : Tryd.prog.funcs[9]? = some fi9.fn ∧ fi9.fn.body.isSome = true ∧ (fi9.fn.name == "runtime.NumGoroutine") = false := ⟨Tryd.func9, by kernel_rfl, by kernel_rfl⟩
theorem fn4 : Tryd.prog.funcs[4]? = some fi4.fn ∧ fi4.fn.body.isSome = true ∧ (fi4.fn.name == "runtime.NumGoroutine") = false := ⟨Tryd.func4, by kernel_rfl, by kernel_rfl⟩
theorem fn27 : Tryd.prog.funcs[27]? = some fi27.fn ∧ fi27.fn.body.isSome = true ∧ (fi27.fn.name == "runtime.NumGoroutine") = false := ⟨Tryd.func27, by kernel_rfl, by kernel_rfl⟩
theorem fn39 : Tryd.prog.funcs[39]? = some fi39.fn ∧ fi39.fn.body.isSome = true ∧ (fi39.fn.name == "runtime.NumGoroutine") = false := ⟨Tryd.func39, by kernel_rfl, by kernel_rfl⟩
theorem fn28 : Tryd.prog.funcs[28]? = some fi28.fn ∧ fi28.fn.body.isSome = true ∧ (fi28.fn.name == "runtime.NumGoroutine") = false := ⟨Tryd.func28, by kernel_rfl, by kernel_rfl⟩
theorem fn14 : Tryd.prog.funcs[14]? = some fi14.fn ∧ fi14.fn.body.isSome = true ∧ (fi14.fn.name == "runtime.NumGoroutine") = false := ⟨Tryd.func14, by kernel_rfl, by kernel_rfl⟩
theorem fn6 : Tryd.prog.funcs[6]? = some fi6.fn ∧ fi6.fn.body.isSome = true ∧ (fi6.fn.name == "runtime.NumGoroutine") = false := ⟨Tryd.func6, by kernel_rfl, by kernel_rfl⟩
theorem fn25 : Tryd.prog.funcs[25]? = some fi25.fn ∧ fi25.fn.body.isSome = true ∧ (fi25.fn.name == "runtime.NumGoroutine") = false := ⟨Tryd.func25, by kernel_rfl, by kernel_rfl⟩
theorem fn38 : Tryd.prog.funcs[38]? = some fi38.fn ∧ fi38.fn.body.isSome = true ∧ (fi38.fn.name == "runtime.NumGoroutine") = false := ⟨Tryd.func38, by kernel_rfl, by kernel_rfl⟩
theorem fn36 : Tryd.prog.funcs[36]? = some fi36.fn ∧ fi36.fn.body.isSome = true ∧ (fi36.fn.name == "runtime.NumGoroutine") = false := ⟨Tryd.func36, by kernel_rfl, by kernel_rfl⟩
theorem fn37 : Tryd.prog.funcs[37]? = some fi37.fn ∧ fi37.fn.body.isSome = true ∧ (fi37.fn.name == "runtime.NumGoroutine") = false := ⟨Tryd.func37, by kernel_rfl, by kernel_rfl⟩
theorem fn24 : Tryd.prog.funcs[24]? = some fi24.fn ∧ fi24.fn.body.isSome = true ∧ (fi24.fn.name == "runtime.NumGoroutine") = false := ⟨Tryd.func24, by kernel_rfl, by kernel_rfl⟩
theorem fn26 : Tryd.prog.funcs[26]? = some fi26.fn ∧ fi26.fn.body.isSome = true ∧ (fi26.fn.name == "runtime.NumGoroutine") = false := ⟨Tryd.func26, by kernel_rfl, by kernel_rfl⟩
theorem fn10 : Tryd.prog.funcs[10]? = some fi10.fn ∧ fi10.fn.body.isSome = true ∧ (fi10.fn.name == "runtime.NumGoroutine") = false := ⟨Tryd.func10, by kernel_rfl, by kernel_rfl⟩
theorem fn11 : Tryd.prog.funcs[11]? = some fi11.fn ∧ fi11.fn.body.isSome = true ∧ (fi11.fn.name == "runtime.NumGoroutine") = false := ⟨Tryd.func11, by kernel_rfl, by kernel_rfl⟩
theorem fn12 : Tryd.prog.funcs[12]? = some fi12.fn ∧ fi12.fn.body.isSome = true ∧ (fi12.fn.name == "runtime.NumGoroutine") = false := ⟨Tryd.func12, by kernel_rfl, by kernel_rfl⟩
theorem fn13 : Tryd.prog.funcs[13]? = some fi13.fn ∧ fi13.fn.body.isSome = true ∧ (fi13.fn.name == "runtime.NumGoroutine") = false := ⟨Tryd.func13, by kernel_rfl, by kernel_rfl⟩
theorem fn5 : Tryd.prog.funcs[5]? = some fi5.fn ∧ fi5.fn.body.isSome = true ∧ (fi5.fn.name == "runtime.NumGoroutine") = false := ⟨Tryd.func5, by kernel_rfl, by kernel_rfl⟩
theorem fn48 : Tryd.prog.funcs[48]? = some fi48.fn ∧ fi48.fn.body.isSome = true ∧ (fi48.fn.name == "runtime.NumGoroutine") = false := ⟨Tryd.func48, by kernel_rfl, by kernel_rfl⟩
theorem fn49 : Tryd.prog.funcs[49]? = some fi49.fn ∧ fi49.fn.body.isSome = true ∧ (fi49.fn.name == "runtime.NumGoroutine") = false := ⟨Tryd.func49, by kernel_rfl, by kernel_rfl⟩
theorem fn50 : Tryd.prog.funcs[50]? = some fi50.fn ∧ fi50.fn.body.isSome = true ∧ (fi50.fn.name == "runtime.NumGoroutine") = false := ⟨Tryd.func50, by kernel_rfl, by kernel_rfl⟩
theorem fn45 : Tryd.prog.funcs[45]? = some fi45.fn ∧ fi45.fn.body.isSome = true ∧ (fi45.fn.name == "runtime.NumGoroutine") = false := ⟨Tryd.func45, by kernel_rfl, by kernel_rfl⟩
theorem fn43 : Tryd.prog.funcs[43]? = some fi43.fn ∧ fi43.fn.body.isSome = true ∧ (fi43.fn.name == "runtime.NumGoroutine") = false := ⟨Tryd.func43, by kernel_rfl, by kernel_rfl⟩
theorem fn51 : Tryd.prog.funcs[51]? = some fi51.fn ∧ fi51.fn.body.isSome = true ∧ (fi51.fn.name == "runtime.NumGoroutine") = false := ⟨Tryd.func51, by kernel_rfl, by kernel_rfl⟩
theorem fn46 : Tryd.prog.funcs[46]? = some fi46.fn ∧ fi46.fn.body.isSome = true ∧ (fi46.fn.name == "runtime.NumGoroutine") = false := ⟨Tryd.func46, by kernel_rfl, by kernel_rfl⟩
theorem fn41 : Tryd.prog.funcs[41]? = some fi41.fn ∧ fi41.fn.body.isSome = true ∧ (fi41.fn.name == "runtime.NumGoroutine") = false := ⟨Tryd.func41, by kernel_rfl, by kernel_rfl⟩
theorem fn47 : Tryd.prog.funcs[47]? = some fi47.fn ∧ fi47.fn.body.isSome = true ∧ (fi47.fn.name == "runtime.NumGoroutine") = false := ⟨Tryd.func47, by kernel_rfl, by kernel_rfl⟩
theorem fn44 : Tryd.prog.funcs[44]? = some fi44.fn ∧ fi44.fn.body.isSome = true ∧ (fi44.fn.name == "runtime.NumGoroutine") = false := ⟨Tryd.func44, by kernel_rfl, by kernel_rfl⟩
theorem fn40 : Tryd.prog.funcs[40]? = some fi40.fn ∧ fi40.fn.body.isSome = true ∧ (fi40.fn.name == "runtime.NumGoroutine") = false := ⟨Tryd.func40, by kernel_rfl, by kernel_rfl⟩
theorem fn29 : Tryd.prog.funcs[29]? = some fi29.fn ∧ fi29.fn.body.isSome = true ∧ (fi29.fn.name == "runtime.NumGoroutine") = false := ⟨Tryd.func29, by kernel_rfl, by kernel_rfl⟩
theorem fn30 : Tryd.prog.funcs[30]? = some fi30.fn ∧ fi30.fn.body.isSome = true ∧ (fi30.fn.name == "runtime.NumGoroutine") = false := ⟨Tryd.func30, by kernel_rfl, by kernel_rfl⟩
theorem fn31 : Tryd.prog.funcs[31]? = some fi31.fn ∧ fi31.fn.body.isSome = true ∧ (fi31.fn.name == "runtime.NumGoroutine") = false := ⟨Tryd.func31, by kernel_rfl, by kernel_rfl⟩
theorem fn15 : Tryd.prog.funcs[15]? = some fi15.fn ∧ fi15.fn.body.isSome = true ∧ (fi15.fn.name == "runtime.NumGoroutine") = false := ⟨Tryd.func15, by kernel_rfl, by kernel_rfl⟩
theorem fn18 : Tryd.prog.funcs[18]? = some fi18.fn ∧ fi18.fn.body.isSome = true ∧ (fi18.fn.name == "runtime.NumGoroutine") = false := ⟨Tryd.func18, by kernel_rfl, by kernel_rfl⟩
theorem fn19 : Tryd.prog.funcs[19]? = some fi19.fn ∧ fi19.fn.body.isSome = true ∧ (fi19.fn.name == "runtime.NumGoroutine") = false := ⟨Tryd.func19, by kernel_rfl, by kernel_rfl⟩
theorem fn17 : Tryd.prog.funcs[17]? = some fi17.fn ∧ fi17.fn.body.isSome = true ∧ (fi17.fn.name == "runtime.NumGoroutine") = false := ⟨Tryd.func17, by kernel_rfl, by kernel_rfl⟩
theorem fn32 : Tryd.prog.funcs[32]? = some fi32.fn ∧ fi32.fn.body.isSome = true ∧ (fi32.fn.name == "runtime.NumGoroutine") = false := ⟨Tryd.func32, by kernel_rfl, by kernel_rfl⟩
theorem fn16 : Tryd.prog.funcs[16]? = some fi16.fn ∧ fi16.fn.body.isSome = true ∧ (fi16.fn.name == "runtime.NumGoroutine") = false := ⟨Tryd.func16, by kernel_rfl, by kernel_rfl⟩
theorem fn20 : Tryd.prog.funcs[20]? = some fi20.fn ∧ fi20.fn.body.isSome = true ∧ (fi20.fn.name == "runtime.NumGoroutine") = false := ⟨Tryd.func20, by kernel_rfl, by kernel_rfl⟩
theorem fn7 : Tryd.prog.funcs[7]? = some fi7.fn ∧ fi7.fn.body.isSome = true ∧ (fi7.fn.name == "runtime.NumGoroutine") = false := ⟨Tryd.func7, by kernel_rfl, by kernel_rfl⟩
theorem fn33 : Tryd.prog.funcs[33]? = some fi33.fn ∧ fi33.fn.body.isSome = true ∧ (fi33.fn.name == "runtime.NumGoroutine") = false := ⟨Tryd.func33, by kernel_rfl, by kernel_rfl⟩
theorem fn42 : Tryd.prog.funcs[42]? = some fi42.fn ∧ fi42.fn.body.isSome = true ∧ (fi42.fn.name == "runtime.NumGoroutine") = false := ⟨Tryd.func42, by kernel_rfl, by kernel_rfl⟩
theorem fn34 : Tryd.prog.funcs[34]? = some fi34.fn ∧ fi34.fn.body.isSome = true ∧ (fi34.fn.name == "runtime.NumGoroutine") = false := ⟨Tryd.func34, by kernel_rfl, by kernel_rfl⟩
theorem fn21 : Tryd.prog.funcs[21]? = some fi21.fn ∧ fi21.fn.body.isSome = true ∧ (fi21.fn.name == "runtime.NumGoroutine") = false := ⟨Tryd.func21, by kernel_rfl, by kernel_rfl⟩
theorem fn8 : Tryd.prog.funcs[8]? = some fi8.fn ∧ fi8.fn.body.isSome = true ∧ (fi8.fn.name == "runtime.NumGoroutine") = false := ⟨Tryd.func8, by kernel_rfl, by kernel_rfl⟩
theorem fn3 : Tryd.prog.funcs[3]? = some fi3.fn ∧ fi3.fn.body.isSome = true ∧ (fi3.fn.name == "runtime.NumGoroutine") = false := ⟨Tryd.func3, by kernel_rfl, by kernel_rfl⟩
theorem fns : AllF (fun x : Nat × Fi => Tryd.prog.funcs[x.1]? = some x.2.fn ∧ x.2.fn.body.isSome = true ∧ (x.2.fn.name == "runtime.NumGoroutine") = false) fiTab := ⟨fn22, fn35, fn23, fn9, fn4, fn27, fn39, fn28, fn14, fn6, fn25, fn38, fn36, fn37, fn24, fn26, fn10, fn11, fn12, fn13, fn5, fn48, fn49, fn50, fn45, fn43, fn51, fn46, fn41, fn47, fn44, fn40, fn29, fn30, fn31, fn15, fn18, fn19, fn17, fn32, fn16, fn20, fn7, fn33, fn42, fn34, fn21, fn8, fn3, trivial⟩
theorem mixed : Tryd.prog.follows .mixedOrders = true := by kernel_rfl
theorem envOk : EnvOk Tryd.prog env := envOk_of tys fns mixed
theorem lawTy : ∀ t ti, env.ty t = some ti → lawTyB env ti = true := lawTy_of (by kernel_rfl)
theorem forms : ∀ f fi, env.fi f = some fi → fi.inl = false → fiB fi = true := fiB_of (by kernel_rfl)
open Go.Shelf in
def lays138_ren : Go.Shelf.Ren := ⟨fun | 138 => 49 | 195 => 52 | 218 => 54 | 143 => 50 | 219 => 55 | 217 => 57 | 225 => 58 | 224 => 59 | 267 => 60 | 266 => 61 | 314 => 62 | n => n, fun | 9 => 9 | 3 => 3 | 4 => 4 | 5 => 5 | 0 => 0 | 46 => 76 | 146 => 82 | 51 => 81 | n => n, fun | 1 => 0 | n => n⟩
open Go.Shelf in
theorem lays138 : Go.Proofs.Lays.n138 Tryd.prog lays138_ren := {
 mixed := by kernel_rfl
 f138 := Tryd.func49.trans (congrArg some (by kernel_rfl))
 f143 := Tryd.func50.trans (congrArg some (by kernel_rfl))
 f195 := Tryd.func52.trans (congrArg some (by kernel_rfl))
 f217 := Tryd.func57.trans (congrArg some (by kernel_rfl))
 f218 := Tryd.func54.trans (congrArg some (by kernel_rfl))
 f219 := Tryd.func55.trans (congrArg some (by kernel_rfl))
 f224 := Tryd.func59.trans (congrArg some (by kernel_rfl))
 f225 := Tryd.func58.trans (congrArg some (by kernel_rfl))
 f266 := Tryd.func61.trans (congrArg some (by kernel_rfl))
 f267 := Tryd.func60.trans (congrArg some (by kernel_rfl))
 f314 := Tryd.func62.trans (congrArg some (by kernel_rfl))
 t0 := Tryd.underlying0
 a0 := Tryd.isAgg0
 z0 := Tryd.sizeOf0
 v0 := Tryd.zeroValue0
 t3 := Tryd.underlying3
 a3 := Tryd.isAgg3
 z3 := Tryd.sizeOf3
 v3 := Tryd.zeroValue3
 t4 := Tryd.underlying4
 a4 := Tryd.isAgg4
 z4 := Tryd.sizeOf4
 v4 := Tryd.zeroValue4
 t5 := Tryd.underlying5
 a5 := Tryd.isAgg5
 z5 := Tryd.sizeOf5
 v5 := Tryd.zeroValue5
 t9 := Tryd.underlying9
 a9 := Tryd.isAgg9
 z9 := Tryd.sizeOf9
 v9 := Tryd.zeroValue9
 t46 := Tryd.underlying76
 a46 := Tryd.isAgg76
 z46 := Tryd.sizeOf76
 v46 := Tryd.zeroValue76
 t51 := Tryd.underlying81
 a51 := Tryd.isAgg81
 z51 := Tryd.sizeOf81
 v51 := Tryd.zeroValue81
 t146 := Tryd.underlying82
 a146 := Tryd.isAgg82
 z146 := Tryd.sizeOf82
 v146 := Tryd.zeroValue82
 g1 := by kernel_rfl }
theorem cl49 : CallSnd Tryd.prog fi49 49 countF := countOf_snd rfl rfl (fun s c w => Any.strings_Count_one lays138 s c w)
open Go.Shelf in
def lays143_ren : Go.Shelf.Ren := ⟨fun | 143 => 50 | 219 => 55 | 217 => 57 | 225 => 58 | 224 => 59 | 267 => 60 | 266 => 61 | 314 => 62 | n => n, fun | 9 => 9 | 3 => 3 | 4 => 4 | 5 => 5 | 46 => 76 | 146 => 82 | 51 => 81 | n => n, fun | 1 => 0 | n => n⟩
open Go.Shelf in
theorem lays143 : Go.Proofs.Lays.n143 Tryd.prog lays143_ren := {
 mixed := by kernel_rfl
 f143 := Tryd.func50.trans (congrArg some (by kernel_rfl))
 f217 := Tryd.func57.trans (congrArg some (by kernel_rfl))
 f219 := Tryd.func55.trans (congrArg some (by kernel_rfl))
 f224 := Tryd.func59.trans (congrArg some (by kernel_rfl))
 f225 := Tryd.func58.trans (congrArg some (by kernel_rfl))
 f266 := Tryd.func61.trans (congrArg some (by kernel_rfl))
 f267 := Tryd.func60.trans (congrArg some (by kernel_rfl))
 f314 := Tryd.func62.trans (congrArg some (by kernel_rfl))
 t3 := Tryd.underlying3
 a3 := Tryd.isAgg3
 z3 := Tryd.sizeOf3
 v3 := Tryd.zeroValue3
 t4 := Tryd.underlying4
 a4 := Tryd.isAgg4
 z4 := Tryd.sizeOf4
 v4 := Tryd.zeroValue4
 t5 := Tryd.underlying5
 a5 := Tryd.isAgg5
 z5 := Tryd.sizeOf5
 v5 := Tryd.zeroValue5
 t9 := Tryd.underlying9
 a9 := Tryd.isAgg9
 z9 := Tryd.sizeOf9
 v9 := Tryd.zeroValue9
 t46 := Tryd.underlying76
 a46 := Tryd.isAgg76
 z46 := Tryd.sizeOf76
 v46 := Tryd.zeroValue76
 t51 := Tryd.underlying81
 a51 := Tryd.isAgg81
 z51 := Tryd.sizeOf81
 v51 := Tryd.zeroValue81
 t146 := Tryd.underlying82
 a146 := Tryd.isAgg82
 z146 := Tryd.sizeOf82
 v146 := Tryd.zeroValue82
 g1 := by kernel_rfl }
theorem cl50 : CallSnd Tryd.prog fi50 50 indexF := indexOf_snd rfl rfl (fun s c w => Any.strings_Index_one lays143 s c w)
theorem xs : ∀ f g fi, X f = some g → env.fi f = some fi → CallSnd Tryd.prog fi f g := xs_of (P := Tryd.prog) (fiL := fiTab) (tyL := tyTab) (⟨fun fi h => (by have h : some fi49 = some fi := h; cases h; exact cl49), ⟨fun fi h => (by have h : some fi50 = some fi := h; cases h; exact cl50), trivial⟩⟩)
end Go.Proofs.YtdclnhlpifahpaaDoor.T
