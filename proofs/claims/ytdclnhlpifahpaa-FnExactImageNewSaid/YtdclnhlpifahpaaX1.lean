/- What functions of the law FnExactImageNew come to, in trees; no condition. -/
import Derived.Test.YtdclnhlpifahpaaRows
import Derived.Test.YtdclnhlpifahpaaX0
import Derived.KernelRfl
set_option linter.unusedVariables false
set_option linter.constructorNameAsVariable false
set_option linter.unusedSimpArgs false
set_option linter.unnecessarySimpa false
namespace Go.Proofs.Ytdclnhlpifahpaa.T
open Go Go.Proofs.YtdclnhlpifahpaaV
theorem tys : (tyTab.all fun x => tyOkB Try.prog ⟨lookN fiTab, lookN tyTab⟩ x.1 x.2 && (!(x.2.agg && flatB x.2.cs) || eqTyB Try.prog x.1 x.2)) = true := by kernel_rfl
theorem fn58 : Try.prog.funcs[58]? = some fi58.fn ∧ fi58.fn.body.isSome = true ∧ (fi58.fn.name == "runtime.NumGoroutine") = false := ⟨Try.func58, by kernel_rfl, by kernel_rfl⟩
theorem fn13 : Try.prog.funcs[13]? = some fi13.fn ∧ fi13.fn.body.isSome = true ∧ (fi13.fn.name == "runtime.NumGoroutine") = false := ⟨Try.func13, by kernel_rfl, by kernel_rfl⟩
theorem fn59 : Try.prog.funcs[59]? = some fi59.fn ∧ fi59.fn.body.isSome = true ∧ (fi59.fn.name == "runtime.NumGoroutine") = false := ⟨Try.func59, by kernel_rfl, by kernel_rfl⟩
theorem fn14 : Try.prog.funcs[14]? = some fi14.fn ∧ fi14.fn.body.isSome = true ∧ (fi14.fn.name == "runtime.NumGoroutine") = false := ⟨Try.func14, by kernel_rfl, by kernel_rfl⟩
theorem fn48 : Try.prog.funcs[48]? = some fi48.fn ∧ fi48.fn.body.isSome = true ∧ (fi48.fn.name == "runtime.NumGoroutine") = false := ⟨Try.func48, by kernel_rfl, by kernel_rfl⟩
theorem fn264 : Try.prog.funcs[264]? = some fi264.fn ∧ fi264.fn.body.isSome = true ∧ (fi264.fn.name == "runtime.NumGoroutine") = false := ⟨Try.func264, by kernel_rfl, by kernel_rfl⟩
theorem fn257 : Try.prog.funcs[257]? = some fi257.fn ∧ fi257.fn.body.isSome = true ∧ (fi257.fn.name == "runtime.NumGoroutine") = false := ⟨Try.func257, by kernel_rfl, by kernel_rfl⟩
theorem fn265 : Try.prog.funcs[265]? = some fi265.fn ∧ fi265.fn.body.isSome = true ∧ (fi265.fn.name == "runtime.NumGoroutine") = false := ⟨Try.func265, by kernel_rfl, by kernel_rfl⟩
theorem fn258 : Try.prog.funcs[258]? = some fi258.fn ∧ fi258.fn.body.isSome = true ∧ (fi258.fn.name == "runtime.NumGoroutine") = false := ⟨Try.func258, by kernel_rfl, by kernel_rfl⟩
theorem fn251 : Try.prog.funcs[251]? = some fi251.fn ∧ fi251.fn.body.isSome = true ∧ (fi251.fn.name == "runtime.NumGoroutine") = false := ⟨Try.func251, by kernel_rfl, by kernel_rfl⟩
theorem fn241 : Try.prog.funcs[241]? = some fi241.fn ∧ fi241.fn.body.isSome = true ∧ (fi241.fn.name == "runtime.NumGoroutine") = false := ⟨Try.func241, by kernel_rfl, by kernel_rfl⟩
theorem fn213 : Try.prog.funcs[213]? = some fi213.fn ∧ fi213.fn.body.isSome = true ∧ (fi213.fn.name == "runtime.NumGoroutine") = false := ⟨Try.func213, by kernel_rfl, by kernel_rfl⟩
theorem fn169 : Try.prog.funcs[169]? = some fi169.fn ∧ fi169.fn.body.isSome = true ∧ (fi169.fn.name == "runtime.NumGoroutine") = false := ⟨Try.func169, by kernel_rfl, by kernel_rfl⟩
theorem fn113 : Try.prog.funcs[113]? = some fi113.fn ∧ fi113.fn.body.isSome = true ∧ (fi113.fn.name == "runtime.NumGoroutine") = false := ⟨Try.func113, by kernel_rfl, by kernel_rfl⟩
theorem fn60 : Try.prog.funcs[60]? = some fi60.fn ∧ fi60.fn.body.isSome = true ∧ (fi60.fn.name == "runtime.NumGoroutine") = false := ⟨Try.func60, by kernel_rfl, by kernel_rfl⟩
theorem fn170 : Try.prog.funcs[170]? = some fi170.fn ∧ fi170.fn.body.isSome = true ∧ (fi170.fn.name == "runtime.NumGoroutine") = false := ⟨Try.func170, by kernel_rfl, by kernel_rfl⟩
theorem fn114 : Try.prog.funcs[114]? = some fi114.fn ∧ fi114.fn.body.isSome = true ∧ (fi114.fn.name == "runtime.NumGoroutine") = false := ⟨Try.func114, by kernel_rfl, by kernel_rfl⟩
theorem fn61 : Try.prog.funcs[61]? = some fi61.fn ∧ fi61.fn.body.isSome = true ∧ (fi61.fn.name == "runtime.NumGoroutine") = false := ⟨Try.func61, by kernel_rfl, by kernel_rfl⟩
theorem fn214 : Try.prog.funcs[214]? = some fi214.fn ∧ fi214.fn.body.isSome = true ∧ (fi214.fn.name == "runtime.NumGoroutine") = false := ⟨Try.func214, by kernel_rfl, by kernel_rfl⟩
theorem fn171 : Try.prog.funcs[171]? = some fi171.fn ∧ fi171.fn.body.isSome = true ∧ (fi171.fn.name == "runtime.NumGoroutine") = false := ⟨Try.func171, by kernel_rfl, by kernel_rfl⟩
theorem fn115 : Try.prog.funcs[115]? = some fi115.fn ∧ fi115.fn.body.isSome = true ∧ (fi115.fn.name == "runtime.NumGoroutine") = false := ⟨Try.func115, by kernel_rfl, by kernel_rfl⟩
theorem fn62 : Try.prog.funcs[62]? = some fi62.fn ∧ fi62.fn.body.isSome = true ∧ (fi62.fn.name == "runtime.NumGoroutine") = false := ⟨Try.func62, by kernel_rfl, by kernel_rfl⟩
theorem fn15 : Try.prog.funcs[15]? = some fi15.fn ∧ fi15.fn.body.isSome = true ∧ (fi15.fn.name == "runtime.NumGoroutine") = false := ⟨Try.func15, by kernel_rfl, by kernel_rfl⟩
theorem fn172 : Try.prog.funcs[172]? = some fi172.fn ∧ fi172.fn.body.isSome = true ∧ (fi172.fn.name == "runtime.NumGoroutine") = false := ⟨Try.func172, by kernel_rfl, by kernel_rfl⟩
theorem fn49 : Try.prog.funcs[49]? = some fi49.fn ∧ fi49.fn.body.isSome = true ∧ (fi49.fn.name == "runtime.NumGoroutine") = false := ⟨Try.func49, by kernel_rfl, by kernel_rfl⟩
theorem fn215 : Try.prog.funcs[215]? = some fi215.fn ∧ fi215.fn.body.isSome = true ∧ (fi215.fn.name == "runtime.NumGoroutine") = false := ⟨Try.func215, by kernel_rfl, by kernel_rfl⟩
theorem fn216 : Try.prog.funcs[216]? = some fi216.fn ∧ fi216.fn.body.isSome = true ∧ (fi216.fn.name == "runtime.NumGoroutine") = false := ⟨Try.func216, by kernel_rfl, by kernel_rfl⟩
theorem fn173 : Try.prog.funcs[173]? = some fi173.fn ∧ fi173.fn.body.isSome = true ∧ (fi173.fn.name == "runtime.NumGoroutine") = false := ⟨Try.func173, by kernel_rfl, by kernel_rfl⟩
theorem fn116 : Try.prog.funcs[116]? = some fi116.fn ∧ fi116.fn.body.isSome = true ∧ (fi116.fn.name == "runtime.NumGoroutine") = false := ⟨Try.func116, by kernel_rfl, by kernel_rfl⟩
theorem fn63 : Try.prog.funcs[63]? = some fi63.fn ∧ fi63.fn.body.isSome = true ∧ (fi63.fn.name == "runtime.NumGoroutine") = false := ⟨Try.func63, by kernel_rfl, by kernel_rfl⟩
theorem fn117 : Try.prog.funcs[117]? = some fi117.fn ∧ fi117.fn.body.isSome = true ∧ (fi117.fn.name == "runtime.NumGoroutine") = false := ⟨Try.func117, by kernel_rfl, by kernel_rfl⟩
theorem fn64 : Try.prog.funcs[64]? = some fi64.fn ∧ fi64.fn.body.isSome = true ∧ (fi64.fn.name == "runtime.NumGoroutine") = false := ⟨Try.func64, by kernel_rfl, by kernel_rfl⟩
theorem fn118 : Try.prog.funcs[118]? = some fi118.fn ∧ fi118.fn.body.isSome = true ∧ (fi118.fn.name == "runtime.NumGoroutine") = false := ⟨Try.func118, by kernel_rfl, by kernel_rfl⟩
theorem fn65 : Try.prog.funcs[65]? = some fi65.fn ∧ fi65.fn.body.isSome = true ∧ (fi65.fn.name == "runtime.NumGoroutine") = false := ⟨Try.func65, by kernel_rfl, by kernel_rfl⟩
theorem fn16 : Try.prog.funcs[16]? = some fi16.fn ∧ fi16.fn.body.isSome = true ∧ (fi16.fn.name == "runtime.NumGoroutine") = false := ⟨Try.func16, by kernel_rfl, by kernel_rfl⟩
theorem fn83 : Try.prog.funcs[83]? = some fi83.fn ∧ fi83.fn.body.isSome = true ∧ (fi83.fn.name == "runtime.NumGoroutine") = false := ⟨Try.func83, by kernel_rfl, by kernel_rfl⟩
theorem fn217 : Try.prog.funcs[217]? = some fi217.fn ∧ fi217.fn.body.isSome = true ∧ (fi217.fn.name == "runtime.NumGoroutine") = false := ⟨Try.func217, by kernel_rfl, by kernel_rfl⟩
theorem fn218 : Try.prog.funcs[218]? = some fi218.fn ∧ fi218.fn.body.isSome = true ∧ (fi218.fn.name == "runtime.NumGoroutine") = false := ⟨Try.func218, by kernel_rfl, by kernel_rfl⟩
theorem fn174 : Try.prog.funcs[174]? = some fi174.fn ∧ fi174.fn.body.isSome = true ∧ (fi174.fn.name == "runtime.NumGoroutine") = false := ⟨Try.func174, by kernel_rfl, by kernel_rfl⟩
theorem fn119 : Try.prog.funcs[119]? = some fi119.fn ∧ fi119.fn.body.isSome = true ∧ (fi119.fn.name == "runtime.NumGoroutine") = false := ⟨Try.func119, by kernel_rfl, by kernel_rfl⟩
theorem fn66 : Try.prog.funcs[66]? = some fi66.fn ∧ fi66.fn.body.isSome = true ∧ (fi66.fn.name == "runtime.NumGoroutine") = false := ⟨Try.func66, by kernel_rfl, by kernel_rfl⟩
theorem fn120 : Try.prog.funcs[120]? = some fi120.fn ∧ fi120.fn.body.isSome = true ∧ (fi120.fn.name == "runtime.NumGoroutine") = false := ⟨Try.func120, by kernel_rfl, by kernel_rfl⟩
theorem fn67 : Try.prog.funcs[67]? = some fi67.fn ∧ fi67.fn.body.isSome = true ∧ (fi67.fn.name == "runtime.NumGoroutine") = false := ⟨Try.func67, by kernel_rfl, by kernel_rfl⟩
theorem fn121 : Try.prog.funcs[121]? = some fi121.fn ∧ fi121.fn.body.isSome = true ∧ (fi121.fn.name == "runtime.NumGoroutine") = false := ⟨Try.func121, by kernel_rfl, by kernel_rfl⟩
theorem fn68 : Try.prog.funcs[68]? = some fi68.fn ∧ fi68.fn.body.isSome = true ∧ (fi68.fn.name == "runtime.NumGoroutine") = false := ⟨Try.func68, by kernel_rfl, by kernel_rfl⟩
theorem fn17 : Try.prog.funcs[17]? = some fi17.fn ∧ fi17.fn.body.isSome = true ∧ (fi17.fn.name == "runtime.NumGoroutine") = false := ⟨Try.func17, by kernel_rfl, by kernel_rfl⟩
theorem fn3 : Try.prog.funcs[3]? = some fi3.fn ∧ fi3.fn.body.isSome = true ∧ (fi3.fn.name == "runtime.NumGoroutine") = false := ⟨Try.func3, by kernel_rfl, by kernel_rfl⟩
theorem fns : AllF (fun x : Nat × Fi => Try.prog.funcs[x.1]? = some x.2.fn ∧ x.2.fn.body.isSome = true ∧ (x.2.fn.name == "runtime.NumGoroutine") = false) fiTab := ⟨fn58, fn13, fn59, fn14, fn48, fn264, fn257, fn265, fn258, fn251, fn241, fn213, fn169, fn113, fn60, fn170, fn114, fn61, fn214, fn171, fn115, fn62, fn15, fn172, fn49, fn215, fn216, fn173, fn116, fn63, fn117, fn64, fn118, fn65, fn16, fn83, fn217, fn218, fn174, fn119, fn66, fn120, fn67, fn121, fn68, fn17, fn3, trivial⟩
theorem mixed : Try.prog.follows .mixedOrders = true := by kernel_rfl
theorem envOk : EnvOk Try.prog env := envOk_of tys fns mixed
theorem lawTy : ∀ t ti, env.ty t = some ti → lawTyB env ti = true := lawTy_of (by kernel_rfl)
theorem forms : ∀ f fi, env.fi f = some fi → fi.inl = false → fiB fi = true := fiB_of (by kernel_rfl)
theorem xs : ∀ f g fi, X f = some g → env.fi f = some fi → CallSnd Try.prog fi f g := xs_of (P := Try.prog) (fiL := fiTab) (tyL := tyTab) (trivial)
end Go.Proofs.Ytdclnhlpifahpaa.T
