/- What functions of the law FnNothing come to, in trees; no condition. -/
import Derived.Test.YtcippopaecnjhaaGreatRows
import Derived.Test.YtcippopaecnjhaaGreatX0
import Derived.KernelRfl
set_option linter.unusedVariables false
set_option linter.constructorNameAsVariable false
set_option linter.unusedSimpArgs false
set_option linter.unnecessarySimpa false
namespace Go.Proofs.YtcippopaecnjhaaGreat.T
open Go Go.Proofs.YtcippopaecnjhaaGreatV
theorem tys : (tyTab.all fun x => tyOkB Tryz.prog ⟨lookN fiTab, lookN tyTab⟩ x.1 x.2 && (!(x.2.agg && flatB x.2.cs) || eqTyB Tryz.prog x.1 x.2)) = true := by kernel_rfl
theorem fn14 : Tryz.prog.funcs[14]? = some fi14.fn ∧ fi14.fn.body.isSome = true ∧ (fi14.fn.name == "runtime.NumGoroutine") = false := ⟨Tryz.func14, by kernel_rfl, by kernel_rfl⟩
theorem fn58 : Tryz.prog.funcs[58]? = some fi58.fn ∧ fi58.fn.body.isSome = true ∧ (fi58.fn.name == "runtime.NumGoroutine") = false := ⟨Tryz.func58, by kernel_rfl, by kernel_rfl⟩
theorem fn40 : Tryz.prog.funcs[40]? = some fi40.fn ∧ fi40.fn.body.isSome = true ∧ (fi40.fn.name == "runtime.NumGoroutine") = false := ⟨Tryz.func40, by kernel_rfl, by kernel_rfl⟩
theorem fn41 : Tryz.prog.funcs[41]? = some fi41.fn ∧ fi41.fn.body.isSome = true ∧ (fi41.fn.name == "runtime.NumGoroutine") = false := ⟨Tryz.func41, by kernel_rfl, by kernel_rfl⟩
theorem fn83 : Tryz.prog.funcs[83]? = some fi83.fn ∧ fi83.fn.body.isSome = true ∧ (fi83.fn.name == "runtime.NumGoroutine") = false := ⟨Tryz.func83, by kernel_rfl, by kernel_rfl⟩
theorem fn42 : Tryz.prog.funcs[42]? = some fi42.fn ∧ fi42.fn.body.isSome = true ∧ (fi42.fn.name == "runtime.NumGoroutine") = false := ⟨Tryz.func42, by kernel_rfl, by kernel_rfl⟩
theorem fn15 : Tryz.prog.funcs[15]? = some fi15.fn ∧ fi15.fn.body.isSome = true ∧ (fi15.fn.name == "runtime.NumGoroutine") = false := ⟨Tryz.func15, by kernel_rfl, by kernel_rfl⟩
theorem fn54 : Tryz.prog.funcs[54]? = some fi54.fn ∧ fi54.fn.body.isSome = true ∧ (fi54.fn.name == "runtime.NumGoroutine") = false := ⟨Tryz.func54, by kernel_rfl, by kernel_rfl⟩
theorem fn143 : Tryz.prog.funcs[143]? = some fi143.fn ∧ fi143.fn.body.isSome = true ∧ (fi143.fn.name == "runtime.NumGoroutine") = false := ⟨Tryz.func143, by kernel_rfl, by kernel_rfl⟩
theorem fn84 : Tryz.prog.funcs[84]? = some fi84.fn ∧ fi84.fn.body.isSome = true ∧ (fi84.fn.name == "runtime.NumGoroutine") = false := ⟨Tryz.func84, by kernel_rfl, by kernel_rfl⟩
theorem fn43 : Tryz.prog.funcs[43]? = some fi43.fn ∧ fi43.fn.body.isSome = true ∧ (fi43.fn.name == "runtime.NumGoroutine") = false := ⟨Tryz.func43, by kernel_rfl, by kernel_rfl⟩
theorem fn45 : Tryz.prog.funcs[45]? = some fi45.fn ∧ fi45.fn.body.isSome = true ∧ (fi45.fn.name == "runtime.NumGoroutine") = false := ⟨Tryz.func45, by kernel_rfl, by kernel_rfl⟩
theorem fn95 : Tryz.prog.funcs[95]? = some fi95.fn ∧ fi95.fn.body.isSome = true ∧ (fi95.fn.name == "runtime.NumGoroutine") = false := ⟨Tryz.func95, by kernel_rfl, by kernel_rfl⟩
theorem fn144 : Tryz.prog.funcs[144]? = some fi144.fn ∧ fi144.fn.body.isSome = true ∧ (fi144.fn.name == "runtime.NumGoroutine") = false := ⟨Tryz.func144, by kernel_rfl, by kernel_rfl⟩
theorem fn157 : Tryz.prog.funcs[157]? = some fi157.fn ∧ fi157.fn.body.isSome = true ∧ (fi157.fn.name == "runtime.NumGoroutine") = false := ⟨Tryz.func157, by kernel_rfl, by kernel_rfl⟩
theorem fn99 : Tryz.prog.funcs[99]? = some fi99.fn ∧ fi99.fn.body.isSome = true ∧ (fi99.fn.name == "runtime.NumGoroutine") = false := ⟨Tryz.func99, by kernel_rfl, by kernel_rfl⟩
theorem fn195 : Tryz.prog.funcs[195]? = some fi195.fn ∧ fi195.fn.body.isSome = true ∧ (fi195.fn.name == "runtime.NumGoroutine") = false := ⟨Tryz.func195, by kernel_rfl, by kernel_rfl⟩
theorem fn91 : Tryz.prog.funcs[91]? = some fi91.fn ∧ fi91.fn.body.isSome = true ∧ (fi91.fn.name == "runtime.NumGoroutine") = false := ⟨Tryz.func91, by kernel_rfl, by kernel_rfl⟩
theorem fn148 : Tryz.prog.funcs[148]? = some fi148.fn ∧ fi148.fn.body.isSome = true ∧ (fi148.fn.name == "runtime.NumGoroutine") = false := ⟨Tryz.func148, by kernel_rfl, by kernel_rfl⟩
theorem fn198 : Tryz.prog.funcs[198]? = some fi198.fn ∧ fi198.fn.body.isSome = true ∧ (fi198.fn.name == "runtime.NumGoroutine") = false := ⟨Tryz.func198, by kernel_rfl, by kernel_rfl⟩
theorem fn150 : Tryz.prog.funcs[150]? = some fi150.fn ∧ fi150.fn.body.isSome = true ∧ (fi150.fn.name == "runtime.NumGoroutine") = false := ⟨Tryz.func150, by kernel_rfl, by kernel_rfl⟩
theorem fn152 : Tryz.prog.funcs[152]? = some fi152.fn ∧ fi152.fn.body.isSome = true ∧ (fi152.fn.name == "runtime.NumGoroutine") = false := ⟨Tryz.func152, by kernel_rfl, by kernel_rfl⟩
theorem fn49 : Tryz.prog.funcs[49]? = some fi49.fn ∧ fi49.fn.body.isSome = true ∧ (fi49.fn.name == "runtime.NumGoroutine") = false := ⟨Tryz.func49, by kernel_rfl, by kernel_rfl⟩
theorem fn145 : Tryz.prog.funcs[145]? = some fi145.fn ∧ fi145.fn.body.isSome = true ∧ (fi145.fn.name == "runtime.NumGoroutine") = false := ⟨Tryz.func145, by kernel_rfl, by kernel_rfl⟩
theorem fn85 : Tryz.prog.funcs[85]? = some fi85.fn ∧ fi85.fn.body.isSome = true ∧ (fi85.fn.name == "runtime.NumGoroutine") = false := ⟨Tryz.func85, by kernel_rfl, by kernel_rfl⟩
theorem fn44 : Tryz.prog.funcs[44]? = some fi44.fn ∧ fi44.fn.body.isSome = true ∧ (fi44.fn.name == "runtime.NumGoroutine") = false := ⟨Tryz.func44, by kernel_rfl, by kernel_rfl⟩
theorem fn86 : Tryz.prog.funcs[86]? = some fi86.fn ∧ fi86.fn.body.isSome = true ∧ (fi86.fn.name == "runtime.NumGoroutine") = false := ⟨Tryz.func86, by kernel_rfl, by kernel_rfl⟩
theorem fn196 : Tryz.prog.funcs[196]? = some fi196.fn ∧ fi196.fn.body.isSome = true ∧ (fi196.fn.name == "runtime.NumGoroutine") = false := ⟨Tryz.func196, by kernel_rfl, by kernel_rfl⟩
theorem fn146 : Tryz.prog.funcs[146]? = some fi146.fn ∧ fi146.fn.body.isSome = true ∧ (fi146.fn.name == "runtime.NumGoroutine") = false := ⟨Tryz.func146, by kernel_rfl, by kernel_rfl⟩
theorem fn87 : Tryz.prog.funcs[87]? = some fi87.fn ∧ fi87.fn.body.isSome = true ∧ (fi87.fn.name == "runtime.NumGoroutine") = false := ⟨Tryz.func87, by kernel_rfl, by kernel_rfl⟩
theorem fn147 : Tryz.prog.funcs[147]? = some fi147.fn ∧ fi147.fn.body.isSome = true ∧ (fi147.fn.name == "runtime.NumGoroutine") = false := ⟨Tryz.func147, by kernel_rfl, by kernel_rfl⟩
theorem fn89 : Tryz.prog.funcs[89]? = some fi89.fn ∧ fi89.fn.body.isSome = true ∧ (fi89.fn.name == "runtime.NumGoroutine") = false := ⟨Tryz.func89, by kernel_rfl, by kernel_rfl⟩
theorem fn88 : Tryz.prog.funcs[88]? = some fi88.fn ∧ fi88.fn.body.isSome = true ∧ (fi88.fn.name == "runtime.NumGoroutine") = false := ⟨Tryz.func88, by kernel_rfl, by kernel_rfl⟩
theorem fn46 : Tryz.prog.funcs[46]? = some fi46.fn ∧ fi46.fn.body.isSome = true ∧ (fi46.fn.name == "runtime.NumGoroutine") = false := ⟨Tryz.func46, by kernel_rfl, by kernel_rfl⟩
theorem fn90 : Tryz.prog.funcs[90]? = some fi90.fn ∧ fi90.fn.body.isSome = true ∧ (fi90.fn.name == "runtime.NumGoroutine") = false := ⟨Tryz.func90, by kernel_rfl, by kernel_rfl⟩
theorem fn149 : Tryz.prog.funcs[149]? = some fi149.fn ∧ fi149.fn.body.isSome = true ∧ (fi149.fn.name == "runtime.NumGoroutine") = false := ⟨Tryz.func149, by kernel_rfl, by kernel_rfl⟩
theorem fn151 : Tryz.prog.funcs[151]? = some fi151.fn ∧ fi151.fn.body.isSome = true ∧ (fi151.fn.name == "runtime.NumGoroutine") = false := ⟨Tryz.func151, by kernel_rfl, by kernel_rfl⟩
theorem fn59 : Tryz.prog.funcs[59]? = some fi59.fn ∧ fi59.fn.body.isSome = true ∧ (fi59.fn.name == "runtime.NumGoroutine") = false := ⟨Tryz.func59, by kernel_rfl, by kernel_rfl⟩
theorem fn61 : Tryz.prog.funcs[61]? = some fi61.fn ∧ fi61.fn.body.isSome = true ∧ (fi61.fn.name == "runtime.NumGoroutine") = false := ⟨Tryz.func61, by kernel_rfl, by kernel_rfl⟩
theorem fn200 : Tryz.prog.funcs[200]? = some fi200.fn ∧ fi200.fn.body.isSome = true ∧ (fi200.fn.name == "runtime.NumGoroutine") = false := ⟨Tryz.func200, by kernel_rfl, by kernel_rfl⟩
theorem fn221 : Tryz.prog.funcs[221]? = some fi221.fn ∧ fi221.fn.body.isSome = true ∧ (fi221.fn.name == "runtime.NumGoroutine") = false := ⟨Tryz.func221, by kernel_rfl, by kernel_rfl⟩
theorem fn199 : Tryz.prog.funcs[199]? = some fi199.fn ∧ fi199.fn.body.isSome = true ∧ (fi199.fn.name == "runtime.NumGoroutine") = false := ⟨Tryz.func199, by kernel_rfl, by kernel_rfl⟩
theorem fn153 : Tryz.prog.funcs[153]? = some fi153.fn ∧ fi153.fn.body.isSome = true ∧ (fi153.fn.name == "runtime.NumGoroutine") = false := ⟨Tryz.func153, by kernel_rfl, by kernel_rfl⟩
theorem fn92 : Tryz.prog.funcs[92]? = some fi92.fn ∧ fi92.fn.body.isSome = true ∧ (fi92.fn.name == "runtime.NumGoroutine") = false := ⟨Tryz.func92, by kernel_rfl, by kernel_rfl⟩
theorem fn21 : Tryz.prog.funcs[21]? = some fi21.fn ∧ fi21.fn.body.isSome = true ∧ (fi21.fn.name == "runtime.NumGoroutine") = false := ⟨Tryz.func21, by kernel_rfl, by kernel_rfl⟩
theorem fn28 : Tryz.prog.funcs[28]? = some fi28.fn ∧ fi28.fn.body.isSome = true ∧ (fi28.fn.name == "runtime.NumGoroutine") = false := ⟨Tryz.func28, by kernel_rfl, by kernel_rfl⟩
theorem fn47 : Tryz.prog.funcs[47]? = some fi47.fn ∧ fi47.fn.body.isSome = true ∧ (fi47.fn.name == "runtime.NumGoroutine") = false := ⟨Tryz.func47, by kernel_rfl, by kernel_rfl⟩
theorem fn16 : Tryz.prog.funcs[16]? = some fi16.fn ∧ fi16.fn.body.isSome = true ∧ (fi16.fn.name == "runtime.NumGoroutine") = false := ⟨Tryz.func16, by kernel_rfl, by kernel_rfl⟩
theorem fn19 : Tryz.prog.funcs[19]? = some fi19.fn ∧ fi19.fn.body.isSome = true ∧ (fi19.fn.name == "runtime.NumGoroutine") = false := ⟨Tryz.func19, by kernel_rfl, by kernel_rfl⟩
theorem fn18 : Tryz.prog.funcs[18]? = some fi18.fn ∧ fi18.fn.body.isSome = true ∧ (fi18.fn.name == "runtime.NumGoroutine") = false := ⟨Tryz.func18, by kernel_rfl, by kernel_rfl⟩
theorem fn48 : Tryz.prog.funcs[48]? = some fi48.fn ∧ fi48.fn.body.isSome = true ∧ (fi48.fn.name == "runtime.NumGoroutine") = false := ⟨Tryz.func48, by kernel_rfl, by kernel_rfl⟩
theorem fn51 : Tryz.prog.funcs[51]? = some fi51.fn ∧ fi51.fn.body.isSome = true ∧ (fi51.fn.name == "runtime.NumGoroutine") = false := ⟨Tryz.func51, by kernel_rfl, by kernel_rfl⟩
theorem fn94 : Tryz.prog.funcs[94]? = some fi94.fn ∧ fi94.fn.body.isSome = true ∧ (fi94.fn.name == "runtime.NumGoroutine") = false := ⟨Tryz.func94, by kernel_rfl, by kernel_rfl⟩
theorem fn50 : Tryz.prog.funcs[50]? = some fi50.fn ∧ fi50.fn.body.isSome = true ∧ (fi50.fn.name == "runtime.NumGoroutine") = false := ⟨Tryz.func50, by kernel_rfl, by kernel_rfl⟩
theorem fn100 : Tryz.prog.funcs[100]? = some fi100.fn ∧ fi100.fn.body.isSome = true ∧ (fi100.fn.name == "runtime.NumGoroutine") = false := ⟨Tryz.func100, by kernel_rfl, by kernel_rfl⟩
theorem fn53 : Tryz.prog.funcs[53]? = some fi53.fn ∧ fi53.fn.body.isSome = true ∧ (fi53.fn.name == "runtime.NumGoroutine") = false := ⟨Tryz.func53, by kernel_rfl, by kernel_rfl⟩
theorem fn96 : Tryz.prog.funcs[96]? = some fi96.fn ∧ fi96.fn.body.isSome = true ∧ (fi96.fn.name == "runtime.NumGoroutine") = false := ⟨Tryz.func96, by kernel_rfl, by kernel_rfl⟩
theorem fn98 : Tryz.prog.funcs[98]? = some fi98.fn ∧ fi98.fn.body.isSome = true ∧ (fi98.fn.name == "runtime.NumGoroutine") = false := ⟨Tryz.func98, by kernel_rfl, by kernel_rfl⟩
theorem fn156 : Tryz.prog.funcs[156]? = some fi156.fn ∧ fi156.fn.body.isSome = true ∧ (fi156.fn.name == "runtime.NumGoroutine") = false := ⟨Tryz.func156, by kernel_rfl, by kernel_rfl⟩
theorem fn97 : Tryz.prog.funcs[97]? = some fi97.fn ∧ fi97.fn.body.isSome = true ∧ (fi97.fn.name == "runtime.NumGoroutine") = false := ⟨Tryz.func97, by kernel_rfl, by kernel_rfl⟩
theorem fn52 : Tryz.prog.funcs[52]? = some fi52.fn ∧ fi52.fn.body.isSome = true ∧ (fi52.fn.name == "runtime.NumGoroutine") = false := ⟨Tryz.func52, by kernel_rfl, by kernel_rfl⟩
theorem fn17 : Tryz.prog.funcs[17]? = some fi17.fn ∧ fi17.fn.body.isSome = true ∧ (fi17.fn.name == "runtime.NumGoroutine") = false := ⟨Tryz.func17, by kernel_rfl, by kernel_rfl⟩
theorem fn55 : Tryz.prog.funcs[55]? = some fi55.fn ∧ fi55.fn.body.isSome = true ∧ (fi55.fn.name == "runtime.NumGoroutine") = false := ⟨Tryz.func55, by kernel_rfl, by kernel_rfl⟩
theorem fn56 : Tryz.prog.funcs[56]? = some fi56.fn ∧ fi56.fn.body.isSome = true ∧ (fi56.fn.name == "runtime.NumGoroutine") = false := ⟨Tryz.func56, by kernel_rfl, by kernel_rfl⟩
theorem fn20 : Tryz.prog.funcs[20]? = some fi20.fn ∧ fi20.fn.body.isSome = true ∧ (fi20.fn.name == "runtime.NumGoroutine") = false := ⟨Tryz.func20, by kernel_rfl, by kernel_rfl⟩
theorem fn22 : Tryz.prog.funcs[22]? = some fi22.fn ∧ fi22.fn.body.isSome = true ∧ (fi22.fn.name == "runtime.NumGoroutine") = false := ⟨Tryz.func22, by kernel_rfl, by kernel_rfl⟩
theorem fn4 : Tryz.prog.funcs[4]? = some fi4.fn ∧ fi4.fn.body.isSome = true ∧ (fi4.fn.name == "runtime.NumGoroutine") = false := ⟨Tryz.func4, by kernel_rfl, by kernel_rfl⟩
theorem fns : AllF (fun x : Nat × Fi => Tryz.prog.funcs[x.1]? = some x.2.fn ∧ x.2.fn.body.isSome = true ∧ (x.2.fn.name == "runtime.NumGoroutine") = false) fiTab := ⟨fn14, fn58, fn40, fn41, fn83, fn42, fn15, fn54, fn143, fn84, fn43, fn45, fn95, fn144, fn157, fn99, fn195, fn91, fn148, fn198, fn150, fn152, fn49, fn145, fn85, fn44, fn86, fn196, fn146, fn87, fn147, fn89, fn88, fn46, fn90, fn149, fn151, fn59, fn61, fn200, fn221, fn199, fn153, fn92, fn21, fn28, fn47, fn16, fn19, fn18, fn48, fn51, fn94, fn50, fn100, fn53, fn96, fn98, fn156, fn97, fn52, fn17, fn55, fn56, fn20, fn22, fn4, trivial⟩
theorem mixed : Tryz.prog.follows .mixedOrders = true := by kernel_rfl
theorem envOk : EnvOk Tryz.prog env := envOk_of tys fns mixed
theorem lawTy : ∀ t ti, env.ty t = some ti → lawTyB env ti = true := lawTy_of (by kernel_rfl)
theorem forms : ∀ f fi, env.fi f = some fi → fi.inl = false → fiB fi = true := fiB_of (by kernel_rfl)
theorem cl41 : CallSnd Tryz.prog fi41 41 cloneF := clone_snd envOk forms (f := 41) (fi := fi41) rfl rfl rfl (t := 36) (e := 65) Tryz.underlying36 rfl ⟨⟨rfl, rfl, rfl⟩, ⟨rfl, rfl, rfl⟩, ⟨⟨_, rfl⟩, rfl, rfl⟩⟩ (by kernel_rfl) (by kernel_rfl) (fun l => by kernel_rfl)
theorem cl54 : CallSnd Tryz.prog fi54 54 cloneF := clone_snd envOk forms (f := 54) (fi := fi54) rfl rfl rfl (t := 50) (e := 5) Tryz.underlying50 rfl ⟨⟨rfl, rfl, rfl⟩, ⟨rfl, rfl, rfl⟩, ⟨⟨_, rfl⟩, rfl, rfl⟩⟩ (by kernel_rfl) (by kernel_rfl) (fun l => by kernel_rfl)
theorem xs : ∀ f g fi, X f = some g → env.fi f = some fi → CallSnd Tryz.prog fi f g := xs_of (P := Tryz.prog) (fiL := fiTab) (tyL := tyTab) (⟨fun fi h => (by have h : some fi41 = some fi := h; cases h; exact cl41), ⟨fun fi h => (by have h : some fi54 = some fi := h; cases h; exact cl54), trivial⟩⟩)
end Go.Proofs.YtcippopaecnjhaaGreat.T
