/- What functions of the law FnExactLiveIn come to, in trees; no condition. -/
import Derived.Test.YtnakbpjofkdabaaRows
import Derived.Test.YtnakbpjofkdabaaX0
import Derived.Shelf.Sort.Plain
import Derived.Shelf.Slices.In.SortNone
import Derived.KernelRfl
set_option linter.unusedVariables false
set_option linter.constructorNameAsVariable false
set_option linter.unusedSimpArgs false
set_option linter.unnecessarySimpa false
namespace Go.Proofs.Ytnakbpjofkdabaa.T
open Go Go.Proofs.YtnakbpjofkdabaaV
theorem tys : (tyTab.all fun x => tyOkB Try.prog ⟨lookN fiTab, lookN tyTab⟩ x.1 x.2 && (!(x.2.agg && flatB x.2.cs) || eqTyB Try.prog x.1 x.2)) = true := by kernel_rfl
theorem fn84 : Try.prog.funcs[84]? = some fi84.fn ∧ fi84.fn.body.isSome = true ∧ (fi84.fn.name == "runtime.NumGoroutine") = false := ⟨Try.func84, by kernel_rfl, by kernel_rfl⟩
theorem fn93 : Try.prog.funcs[93]? = some fi93.fn ∧ fi93.fn.body.isSome = true ∧ (fi93.fn.name == "runtime.NumGoroutine") = false := ⟨Try.func93, by kernel_rfl, by kernel_rfl⟩
theorem fn85 : Try.prog.funcs[85]? = some fi85.fn ∧ fi85.fn.body.isSome = true ∧ (fi85.fn.name == "runtime.NumGoroutine") = false := ⟨Try.func85, by kernel_rfl, by kernel_rfl⟩
theorem fn94 : Try.prog.funcs[94]? = some fi94.fn ∧ fi94.fn.body.isSome = true ∧ (fi94.fn.name == "runtime.NumGoroutine") = false := ⟨Try.func94, by kernel_rfl, by kernel_rfl⟩
theorem fn86 : Try.prog.funcs[86]? = some fi86.fn ∧ fi86.fn.body.isSome = true ∧ (fi86.fn.name == "runtime.NumGoroutine") = false := ⟨Try.func86, by kernel_rfl, by kernel_rfl⟩
theorem fn81 : Try.prog.funcs[81]? = some fi81.fn ∧ fi81.fn.body.isSome = true ∧ (fi81.fn.name == "runtime.NumGoroutine") = false := ⟨Try.func81, by kernel_rfl, by kernel_rfl⟩
theorem fn77 : Try.prog.funcs[77]? = some fi77.fn ∧ fi77.fn.body.isSome = true ∧ (fi77.fn.name == "runtime.NumGoroutine") = false := ⟨Try.func77, by kernel_rfl, by kernel_rfl⟩
theorem fn65 : Try.prog.funcs[65]? = some fi65.fn ∧ fi65.fn.body.isSome = true ∧ (fi65.fn.name == "runtime.NumGoroutine") = false := ⟨Try.func65, by kernel_rfl, by kernel_rfl⟩
theorem fn42 : Try.prog.funcs[42]? = some fi42.fn ∧ fi42.fn.body.isSome = true ∧ (fi42.fn.name == "runtime.NumGoroutine") = false := ⟨Try.func42, by kernel_rfl, by kernel_rfl⟩
theorem fn27 : Try.prog.funcs[27]? = some fi27.fn ∧ fi27.fn.body.isSome = true ∧ (fi27.fn.name == "runtime.NumGoroutine") = false := ⟨Try.func27, by kernel_rfl, by kernel_rfl⟩
theorem fn12 : Try.prog.funcs[12]? = some fi12.fn ∧ fi12.fn.body.isSome = true ∧ (fi12.fn.name == "runtime.NumGoroutine") = false := ⟨Try.func12, by kernel_rfl, by kernel_rfl⟩
theorem fn43 : Try.prog.funcs[43]? = some fi43.fn ∧ fi43.fn.body.isSome = true ∧ (fi43.fn.name == "runtime.NumGoroutine") = false := ⟨Try.func43, by kernel_rfl, by kernel_rfl⟩
theorem fn28 : Try.prog.funcs[28]? = some fi28.fn ∧ fi28.fn.body.isSome = true ∧ (fi28.fn.name == "runtime.NumGoroutine") = false := ⟨Try.func28, by kernel_rfl, by kernel_rfl⟩
theorem fn13 : Try.prog.funcs[13]? = some fi13.fn ∧ fi13.fn.body.isSome = true ∧ (fi13.fn.name == "runtime.NumGoroutine") = false := ⟨Try.func13, by kernel_rfl, by kernel_rfl⟩
theorem fn44 : Try.prog.funcs[44]? = some fi44.fn ∧ fi44.fn.body.isSome = true ∧ (fi44.fn.name == "runtime.NumGoroutine") = false := ⟨Try.func44, by kernel_rfl, by kernel_rfl⟩
theorem fn29 : Try.prog.funcs[29]? = some fi29.fn ∧ fi29.fn.body.isSome = true ∧ (fi29.fn.name == "runtime.NumGoroutine") = false := ⟨Try.func29, by kernel_rfl, by kernel_rfl⟩
theorem fn14 : Try.prog.funcs[14]? = some fi14.fn ∧ fi14.fn.body.isSome = true ∧ (fi14.fn.name == "runtime.NumGoroutine") = false := ⟨Try.func14, by kernel_rfl, by kernel_rfl⟩
theorem fn5 : Try.prog.funcs[5]? = some fi5.fn ∧ fi5.fn.body.isSome = true ∧ (fi5.fn.name == "runtime.NumGoroutine") = false := ⟨Try.func5, by kernel_rfl, by kernel_rfl⟩
theorem fn87 : Try.prog.funcs[87]? = some fi87.fn ∧ fi87.fn.body.isSome = true ∧ (fi87.fn.name == "runtime.NumGoroutine") = false := ⟨Try.func87, by kernel_rfl, by kernel_rfl⟩
theorem fn95 : Try.prog.funcs[95]? = some fi95.fn ∧ fi95.fn.body.isSome = true ∧ (fi95.fn.name == "runtime.NumGoroutine") = false := ⟨Try.func95, by kernel_rfl, by kernel_rfl⟩
theorem fn88 : Try.prog.funcs[88]? = some fi88.fn ∧ fi88.fn.body.isSome = true ∧ (fi88.fn.name == "runtime.NumGoroutine") = false := ⟨Try.func88, by kernel_rfl, by kernel_rfl⟩
theorem fn96 : Try.prog.funcs[96]? = some fi96.fn ∧ fi96.fn.body.isSome = true ∧ (fi96.fn.name == "runtime.NumGoroutine") = false := ⟨Try.func96, by kernel_rfl, by kernel_rfl⟩
theorem fn89 : Try.prog.funcs[89]? = some fi89.fn ∧ fi89.fn.body.isSome = true ∧ (fi89.fn.name == "runtime.NumGoroutine") = false := ⟨Try.func89, by kernel_rfl, by kernel_rfl⟩
theorem fn82 : Try.prog.funcs[82]? = some fi82.fn ∧ fi82.fn.body.isSome = true ∧ (fi82.fn.name == "runtime.NumGoroutine") = false := ⟨Try.func82, by kernel_rfl, by kernel_rfl⟩
theorem fn78 : Try.prog.funcs[78]? = some fi78.fn ∧ fi78.fn.body.isSome = true ∧ (fi78.fn.name == "runtime.NumGoroutine") = false := ⟨Try.func78, by kernel_rfl, by kernel_rfl⟩
theorem fn67 : Try.prog.funcs[67]? = some fi67.fn ∧ fi67.fn.body.isSome = true ∧ (fi67.fn.name == "runtime.NumGoroutine") = false := ⟨Try.func67, by kernel_rfl, by kernel_rfl⟩
theorem fn46 : Try.prog.funcs[46]? = some fi46.fn ∧ fi46.fn.body.isSome = true ∧ (fi46.fn.name == "runtime.NumGoroutine") = false := ⟨Try.func46, by kernel_rfl, by kernel_rfl⟩
theorem fn31 : Try.prog.funcs[31]? = some fi31.fn ∧ fi31.fn.body.isSome = true ∧ (fi31.fn.name == "runtime.NumGoroutine") = false := ⟨Try.func31, by kernel_rfl, by kernel_rfl⟩
theorem fn17 : Try.prog.funcs[17]? = some fi17.fn ∧ fi17.fn.body.isSome = true ∧ (fi17.fn.name == "runtime.NumGoroutine") = false := ⟨Try.func17, by kernel_rfl, by kernel_rfl⟩
theorem fn47 : Try.prog.funcs[47]? = some fi47.fn ∧ fi47.fn.body.isSome = true ∧ (fi47.fn.name == "runtime.NumGoroutine") = false := ⟨Try.func47, by kernel_rfl, by kernel_rfl⟩
theorem fn32 : Try.prog.funcs[32]? = some fi32.fn ∧ fi32.fn.body.isSome = true ∧ (fi32.fn.name == "runtime.NumGoroutine") = false := ⟨Try.func32, by kernel_rfl, by kernel_rfl⟩
theorem fn18 : Try.prog.funcs[18]? = some fi18.fn ∧ fi18.fn.body.isSome = true ∧ (fi18.fn.name == "runtime.NumGoroutine") = false := ⟨Try.func18, by kernel_rfl, by kernel_rfl⟩
theorem fn68 : Try.prog.funcs[68]? = some fi68.fn ∧ fi68.fn.body.isSome = true ∧ (fi68.fn.name == "runtime.NumGoroutine") = false := ⟨Try.func68, by kernel_rfl, by kernel_rfl⟩
theorem fn48 : Try.prog.funcs[48]? = some fi48.fn ∧ fi48.fn.body.isSome = true ∧ (fi48.fn.name == "runtime.NumGoroutine") = false := ⟨Try.func48, by kernel_rfl, by kernel_rfl⟩
theorem fn33 : Try.prog.funcs[33]? = some fi33.fn ∧ fi33.fn.body.isSome = true ∧ (fi33.fn.name == "runtime.NumGoroutine") = false := ⟨Try.func33, by kernel_rfl, by kernel_rfl⟩
theorem fn19 : Try.prog.funcs[19]? = some fi19.fn ∧ fi19.fn.body.isSome = true ∧ (fi19.fn.name == "runtime.NumGoroutine") = false := ⟨Try.func19, by kernel_rfl, by kernel_rfl⟩
theorem fn7 : Try.prog.funcs[7]? = some fi7.fn ∧ fi7.fn.body.isSome = true ∧ (fi7.fn.name == "runtime.NumGoroutine") = false := ⟨Try.func7, by kernel_rfl, by kernel_rfl⟩
theorem fn66 : Try.prog.funcs[66]? = some fi66.fn ∧ fi66.fn.body.isSome = true ∧ (fi66.fn.name == "runtime.NumGoroutine") = false := ⟨Try.func66, by kernel_rfl, by kernel_rfl⟩
theorem fn45 : Try.prog.funcs[45]? = some fi45.fn ∧ fi45.fn.body.isSome = true ∧ (fi45.fn.name == "runtime.NumGoroutine") = false := ⟨Try.func45, by kernel_rfl, by kernel_rfl⟩
theorem fn30 : Try.prog.funcs[30]? = some fi30.fn ∧ fi30.fn.body.isSome = true ∧ (fi30.fn.name == "runtime.NumGoroutine") = false := ⟨Try.func30, by kernel_rfl, by kernel_rfl⟩
theorem fn15 : Try.prog.funcs[15]? = some fi15.fn ∧ fi15.fn.body.isSome = true ∧ (fi15.fn.name == "runtime.NumGoroutine") = false := ⟨Try.func15, by kernel_rfl, by kernel_rfl⟩
theorem fn10 : Try.prog.funcs[10]? = some fi10.fn ∧ fi10.fn.body.isSome = true ∧ (fi10.fn.name == "runtime.NumGoroutine") = false := ⟨Try.func10, by kernel_rfl, by kernel_rfl⟩
theorem fn20 : Try.prog.funcs[20]? = some fi20.fn ∧ fi20.fn.body.isSome = true ∧ (fi20.fn.name == "runtime.NumGoroutine") = false := ⟨Try.func20, by kernel_rfl, by kernel_rfl⟩
theorem fn63 : Try.prog.funcs[63]? = some fi63.fn ∧ fi63.fn.body.isSome = true ∧ (fi63.fn.name == "runtime.NumGoroutine") = false := ⟨Try.func63, by kernel_rfl, by kernel_rfl⟩
theorem fn39 : Try.prog.funcs[39]? = some fi39.fn ∧ fi39.fn.body.isSome = true ∧ (fi39.fn.name == "runtime.NumGoroutine") = false := ⟨Try.func39, by kernel_rfl, by kernel_rfl⟩
theorem fn21 : Try.prog.funcs[21]? = some fi21.fn ∧ fi21.fn.body.isSome = true ∧ (fi21.fn.name == "runtime.NumGoroutine") = false := ⟨Try.func21, by kernel_rfl, by kernel_rfl⟩
theorem fn22 : Try.prog.funcs[22]? = some fi22.fn ∧ fi22.fn.body.isSome = true ∧ (fi22.fn.name == "runtime.NumGoroutine") = false := ⟨Try.func22, by kernel_rfl, by kernel_rfl⟩
theorem fn64 : Try.prog.funcs[64]? = some fi64.fn ∧ fi64.fn.body.isSome = true ∧ (fi64.fn.name == "runtime.NumGoroutine") = false := ⟨Try.func64, by kernel_rfl, by kernel_rfl⟩
theorem fn40 : Try.prog.funcs[40]? = some fi40.fn ∧ fi40.fn.body.isSome = true ∧ (fi40.fn.name == "runtime.NumGoroutine") = false := ⟨Try.func40, by kernel_rfl, by kernel_rfl⟩
theorem fn41 : Try.prog.funcs[41]? = some fi41.fn ∧ fi41.fn.body.isSome = true ∧ (fi41.fn.name == "runtime.NumGoroutine") = false := ⟨Try.func41, by kernel_rfl, by kernel_rfl⟩
theorem fn26 : Try.prog.funcs[26]? = some fi26.fn ∧ fi26.fn.body.isSome = true ∧ (fi26.fn.name == "runtime.NumGoroutine") = false := ⟨Try.func26, by kernel_rfl, by kernel_rfl⟩
theorem fn11 : Try.prog.funcs[11]? = some fi11.fn ∧ fi11.fn.body.isSome = true ∧ (fi11.fn.name == "runtime.NumGoroutine") = false := ⟨Try.func11, by kernel_rfl, by kernel_rfl⟩
theorem fn90 : Try.prog.funcs[90]? = some fi90.fn ∧ fi90.fn.body.isSome = true ∧ (fi90.fn.name == "runtime.NumGoroutine") = false := ⟨Try.func90, by kernel_rfl, by kernel_rfl⟩
theorem fn97 : Try.prog.funcs[97]? = some fi97.fn ∧ fi97.fn.body.isSome = true ∧ (fi97.fn.name == "runtime.NumGoroutine") = false := ⟨Try.func97, by kernel_rfl, by kernel_rfl⟩
theorem fn91 : Try.prog.funcs[91]? = some fi91.fn ∧ fi91.fn.body.isSome = true ∧ (fi91.fn.name == "runtime.NumGoroutine") = false := ⟨Try.func91, by kernel_rfl, by kernel_rfl⟩
theorem fn98 : Try.prog.funcs[98]? = some fi98.fn ∧ fi98.fn.body.isSome = true ∧ (fi98.fn.name == "runtime.NumGoroutine") = false := ⟨Try.func98, by kernel_rfl, by kernel_rfl⟩
theorem fn92 : Try.prog.funcs[92]? = some fi92.fn ∧ fi92.fn.body.isSome = true ∧ (fi92.fn.name == "runtime.NumGoroutine") = false := ⟨Try.func92, by kernel_rfl, by kernel_rfl⟩
theorem fn83 : Try.prog.funcs[83]? = some fi83.fn ∧ fi83.fn.body.isSome = true ∧ (fi83.fn.name == "runtime.NumGoroutine") = false := ⟨Try.func83, by kernel_rfl, by kernel_rfl⟩
theorem fn80 : Try.prog.funcs[80]? = some fi80.fn ∧ fi80.fn.body.isSome = true ∧ (fi80.fn.name == "runtime.NumGoroutine") = false := ⟨Try.func80, by kernel_rfl, by kernel_rfl⟩
theorem fn75 : Try.prog.funcs[75]? = some fi75.fn ∧ fi75.fn.body.isSome = true ∧ (fi75.fn.name == "runtime.NumGoroutine") = false := ⟨Try.func75, by kernel_rfl, by kernel_rfl⟩
theorem fn60 : Try.prog.funcs[60]? = some fi60.fn ∧ fi60.fn.body.isSome = true ∧ (fi60.fn.name == "runtime.NumGoroutine") = false := ⟨Try.func60, by kernel_rfl, by kernel_rfl⟩
theorem fn36 : Try.prog.funcs[36]? = some fi36.fn ∧ fi36.fn.body.isSome = true ∧ (fi36.fn.name == "runtime.NumGoroutine") = false := ⟨Try.func36, by kernel_rfl, by kernel_rfl⟩
theorem fn23 : Try.prog.funcs[23]? = some fi23.fn ∧ fi23.fn.body.isSome = true ∧ (fi23.fn.name == "runtime.NumGoroutine") = false := ⟨Try.func23, by kernel_rfl, by kernel_rfl⟩
theorem fn61 : Try.prog.funcs[61]? = some fi61.fn ∧ fi61.fn.body.isSome = true ∧ (fi61.fn.name == "runtime.NumGoroutine") = false := ⟨Try.func61, by kernel_rfl, by kernel_rfl⟩
theorem fn37 : Try.prog.funcs[37]? = some fi37.fn ∧ fi37.fn.body.isSome = true ∧ (fi37.fn.name == "runtime.NumGoroutine") = false := ⟨Try.func37, by kernel_rfl, by kernel_rfl⟩
theorem fn24 : Try.prog.funcs[24]? = some fi24.fn ∧ fi24.fn.body.isSome = true ∧ (fi24.fn.name == "runtime.NumGoroutine") = false := ⟨Try.func24, by kernel_rfl, by kernel_rfl⟩
theorem fn76 : Try.prog.funcs[76]? = some fi76.fn ∧ fi76.fn.body.isSome = true ∧ (fi76.fn.name == "runtime.NumGoroutine") = false := ⟨Try.func76, by kernel_rfl, by kernel_rfl⟩
theorem fn62 : Try.prog.funcs[62]? = some fi62.fn ∧ fi62.fn.body.isSome = true ∧ (fi62.fn.name == "runtime.NumGoroutine") = false := ⟨Try.func62, by kernel_rfl, by kernel_rfl⟩
theorem fn38 : Try.prog.funcs[38]? = some fi38.fn ∧ fi38.fn.body.isSome = true ∧ (fi38.fn.name == "runtime.NumGoroutine") = false := ⟨Try.func38, by kernel_rfl, by kernel_rfl⟩
theorem fn25 : Try.prog.funcs[25]? = some fi25.fn ∧ fi25.fn.body.isSome = true ∧ (fi25.fn.name == "runtime.NumGoroutine") = false := ⟨Try.func25, by kernel_rfl, by kernel_rfl⟩
theorem fn9 : Try.prog.funcs[9]? = some fi9.fn ∧ fi9.fn.body.isSome = true ∧ (fi9.fn.name == "runtime.NumGoroutine") = false := ⟨Try.func9, by kernel_rfl, by kernel_rfl⟩
theorem fn4 : Try.prog.funcs[4]? = some fi4.fn ∧ fi4.fn.body.isSome = true ∧ (fi4.fn.name == "runtime.NumGoroutine") = false := ⟨Try.func4, by kernel_rfl, by kernel_rfl⟩
theorem fns : AllF (fun x : Nat × Fi => Try.prog.funcs[x.1]? = some x.2.fn ∧ x.2.fn.body.isSome = true ∧ (x.2.fn.name == "runtime.NumGoroutine") = false) fiTab := ⟨fn84, fn93, fn85, fn94, fn86, fn81, fn77, fn65, fn42, fn27, fn12, fn43, fn28, fn13, fn44, fn29, fn14, fn5, fn87, fn95, fn88, fn96, fn89, fn82, fn78, fn67, fn46, fn31, fn17, fn47, fn32, fn18, fn68, fn48, fn33, fn19, fn7, fn66, fn45, fn30, fn15, fn10, fn20, fn63, fn39, fn21, fn22, fn64, fn40, fn41, fn26, fn11, fn90, fn97, fn91, fn98, fn92, fn83, fn80, fn75, fn60, fn36, fn23, fn61, fn37, fn24, fn76, fn62, fn38, fn25, fn9, fn4, trivial⟩
theorem mixed : Try.prog.follows .mixedOrders = true := by kernel_rfl
theorem envOk : EnvOk Try.prog env := envOk_of tys fns mixed
theorem lawTy : ∀ t ti, env.ty t = some ti → lawTyB env ti = true := lawTy_of (by kernel_rfl)
theorem forms : ∀ f fi, env.fi f = some fi → fi.inl = false → fiB fi = true := fiB_of (by kernel_rfl)
open Go.Shelf in
def lays189_ren : Go.Shelf.Ren := ⟨fun | 189 => 21 | 125 => 35 | 257 => 34 | 128 => 58 | 129 => 59 | 294 => 49 | 295 => 50 | 296 => 51 | 297 => 52 | 298 => 53 | 299 => 54 | 216 => 55 | 300 => 56 | 301 => 57 | 328 => 69 | 329 => 70 | 330 => 71 | 331 => 72 | 332 => 73 | 215 => 74 | 343 => 79 | n => n, fun | 28 => 50 | 3 => 3 | 46 => 83 | 0 => 0 | 51 => 117 | 53 => 119 | 4 => 4 | 183 => 109 | 182 => 108 | 131 => 114 | 5 => 5 | 9 => 9 | 218 => 129 | 222 => 133 | 228 => 139 | 229 => 140 | n => n, fun | n => n⟩
open Go.Shelf in
theorem lays189 : Go.Proofs.Lays.n189 Try.prog lays189_ren := {
 mixed := by kernel_rfl
 f125 := Try.func35.trans (congrArg some (by kernel_rfl))
 f128 := Try.func58.trans (congrArg some (by kernel_rfl))
 f129 := Try.func59.trans (congrArg some (by kernel_rfl))
 f189 := Try.func21.trans (congrArg some (by kernel_rfl))
 f215 := Try.func74.trans (congrArg some (by kernel_rfl))
 f216 := Try.func55.trans (congrArg some (by kernel_rfl))
 f257 := Try.func34.trans (congrArg some (by kernel_rfl))
 f294 := Try.func49.trans (congrArg some (by kernel_rfl))
 f295 := Try.func50.trans (congrArg some (by kernel_rfl))
 f296 := Try.func51.trans (congrArg some (by kernel_rfl))
 f297 := Try.func52.trans (congrArg some (by kernel_rfl))
 f298 := Try.func53.trans (congrArg some (by kernel_rfl))
 f299 := Try.func54.trans (congrArg some (by kernel_rfl))
 f300 := Try.func56.trans (congrArg some (by kernel_rfl))
 f301 := Try.func57.trans (congrArg some (by kernel_rfl))
 f328 := Try.func69.trans (congrArg some (by kernel_rfl))
 f329 := Try.func70.trans (congrArg some (by kernel_rfl))
 f330 := Try.func71.trans (congrArg some (by kernel_rfl))
 f331 := Try.func72.trans (congrArg some (by kernel_rfl))
 f332 := Try.func73.trans (congrArg some (by kernel_rfl))
 f343 := Try.func79.trans (congrArg some (by kernel_rfl))
 t0 := Try.underlying0
 a0 := Try.isAgg0
 z0 := Try.sizeOf0
 v0 := Try.zeroValue0
 t3 := Try.underlying3
 a3 := Try.isAgg3
 z3 := Try.sizeOf3
 v3 := Try.zeroValue3
 t4 := Try.underlying4
 a4 := Try.isAgg4
 z4 := Try.sizeOf4
 v4 := Try.zeroValue4
 t5 := Try.underlying5
 a5 := Try.isAgg5
 z5 := Try.sizeOf5
 v5 := Try.zeroValue5
 t9 := Try.underlying9
 a9 := Try.isAgg9
 z9 := Try.sizeOf9
 v9 := Try.zeroValue9
 t28 := Try.underlying50
 a28 := Try.isAgg50
 z28 := Try.sizeOf50
 v28 := Try.zeroValue50
 t46 := Try.underlying83
 a46 := Try.isAgg83
 z46 := Try.sizeOf83
 v46 := Try.zeroValue83
 t51 := Try.underlying117
 a51 := Try.isAgg117
 z51 := Try.sizeOf117
 v51 := Try.zeroValue117
 t53 := Try.underlying119
 a53 := Try.isAgg119
 z53 := Try.sizeOf119
 v53 := Try.zeroValue119
 t131 := Try.underlying114
 a131 := Try.isAgg114
 z131 := Try.sizeOf114
 v131 := Try.zeroValue114
 t182 := Try.underlying108
 a182 := Try.isAgg108
 z182 := Try.sizeOf108
 v182 := Try.zeroValue108
 t183 := Try.underlying109
 a183 := Try.isAgg109
 z183 := Try.sizeOf109
 v183 := Try.zeroValue109
 t218 := Try.underlying129
 a218 := Try.isAgg129
 z218 := Try.sizeOf129
 v218 := Try.zeroValue129
 t222 := Try.underlying133
 a222 := Try.isAgg133
 z222 := Try.sizeOf133
 v222 := Try.zeroValue133
 t228 := Try.underlying139
 a228 := Try.isAgg139
 z228 := Try.sizeOf139
 v228 := Try.zeroValue139
 t229 := Try.underlying140
 a229 := Try.isAgg140
 z229 := Try.sizeOf140
 v229 := Try.zeroValue140 }
theorem cl21 : CallSnd Try.prog fi21 21 sortF := sort_snd rfl rfl (fun blk off cap zs w hH hb hz => Any.slices_Sort_int lays189 blk off cap zs w hH hb hz) (fun p cap w => Any.slices_Sort_int_none lays189 p cap w)
theorem xs : ∀ f g fi, X f = some g → env.fi f = some fi → CallSnd Try.prog fi f g := xs_of (P := Try.prog) (fiL := fiTab) (tyL := tyTab) (⟨fun fi h => (by have h : some fi21 = some fi := h; cases h; exact cl21), trivial⟩)
end Go.Proofs.Ytnakbpjofkdabaa.T
