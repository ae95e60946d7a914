/- What functions of the law FnExactEngNew come to, in trees; no condition. -/
import Derived.Test.YtcippopaecnjhaaGreatRows
import Derived.Test.YtcippopaecnjhaaGreatX1
import Derived.KernelRfl
set_option linter.unusedVariables false
set_option linter.constructorNameAsVariable false
set_option linter.unusedSimpArgs false
set_option linter.unnecessarySimpa false
namespace Go.Proofs.YtcippopaecnjhaaGreat.T
open Go Go.Proofs.YtcippopaecnjhaaGreatV
theorem tys : (tyTab.all fun x => tyOkB Tryz.prog ⟨lookN fiTab, lookN tyTab⟩ x.1 x.2 && (!(x.2.agg && flatB x.2.cs) || eqTyB Tryz.prog x.1 x.2)) = true := by kernel_rfl
theorem fn5 : Tryz.prog.funcs[5]? = some fi5.fn ∧ fi5.fn.body.isSome = true ∧ (fi5.fn.name == "runtime.NumGoroutine") = false := ⟨Tryz.func5, by kernel_rfl, by kernel_rfl⟩
theorem fn27 : Tryz.prog.funcs[27]? = some fi27.fn ∧ fi27.fn.body.isSome = true ∧ (fi27.fn.name == "runtime.NumGoroutine") = false := ⟨Tryz.func27, by kernel_rfl, by kernel_rfl⟩
theorem fn7 : Tryz.prog.funcs[7]? = some fi7.fn ∧ fi7.fn.body.isSome = true ∧ (fi7.fn.name == "runtime.NumGoroutine") = false := ⟨Tryz.func7, by kernel_rfl, by kernel_rfl⟩
theorem fn23 : Tryz.prog.funcs[23]? = some fi23.fn ∧ fi23.fn.body.isSome = true ∧ (fi23.fn.name == "runtime.NumGoroutine") = false := ⟨Tryz.func23, by kernel_rfl, by kernel_rfl⟩
theorem fn24 : Tryz.prog.funcs[24]? = some fi24.fn ∧ fi24.fn.body.isSome = true ∧ (fi24.fn.name == "runtime.NumGoroutine") = false := ⟨Tryz.func24, by kernel_rfl, by kernel_rfl⟩
theorem fn109 : Tryz.prog.funcs[109]? = some fi109.fn ∧ fi109.fn.body.isSome = true ∧ (fi109.fn.name == "runtime.NumGoroutine") = false := ⟨Tryz.func109, by kernel_rfl, by kernel_rfl⟩
theorem fn64 : Tryz.prog.funcs[64]? = some fi64.fn ∧ fi64.fn.body.isSome = true ∧ (fi64.fn.name == "runtime.NumGoroutine") = false := ⟨Tryz.func64, by kernel_rfl, by kernel_rfl⟩
theorem fn167 : Tryz.prog.funcs[167]? = some fi167.fn ∧ fi167.fn.body.isSome = true ∧ (fi167.fn.name == "runtime.NumGoroutine") = false := ⟨Tryz.func167, by kernel_rfl, by kernel_rfl⟩
theorem fn110 : Tryz.prog.funcs[110]? = some fi110.fn ∧ fi110.fn.body.isSome = true ∧ (fi110.fn.name == "runtime.NumGoroutine") = false := ⟨Tryz.func110, by kernel_rfl, by kernel_rfl⟩
theorem fn111 : Tryz.prog.funcs[111]? = some fi111.fn ∧ fi111.fn.body.isSome = true ∧ (fi111.fn.name == "runtime.NumGoroutine") = false := ⟨Tryz.func111, by kernel_rfl, by kernel_rfl⟩
theorem fn65 : Tryz.prog.funcs[65]? = some fi65.fn ∧ fi65.fn.body.isSome = true ∧ (fi65.fn.name == "runtime.NumGoroutine") = false := ⟨Tryz.func65, by kernel_rfl, by kernel_rfl⟩
theorem fn25 : Tryz.prog.funcs[25]? = some fi25.fn ∧ fi25.fn.body.isSome = true ∧ (fi25.fn.name == "runtime.NumGoroutine") = false := ⟨Tryz.func25, by kernel_rfl, by kernel_rfl⟩
theorem fn66 : Tryz.prog.funcs[66]? = some fi66.fn ∧ fi66.fn.body.isSome = true ∧ (fi66.fn.name == "runtime.NumGoroutine") = false := ⟨Tryz.func66, by kernel_rfl, by kernel_rfl⟩
theorem fn239 : Tryz.prog.funcs[239]? = some fi239.fn ∧ fi239.fn.body.isSome = true ∧ (fi239.fn.name == "runtime.NumGoroutine") = false := ⟨Tryz.func239, by kernel_rfl, by kernel_rfl⟩
theorem fn209 : Tryz.prog.funcs[209]? = some fi209.fn ∧ fi209.fn.body.isSome = true ∧ (fi209.fn.name == "runtime.NumGoroutine") = false := ⟨Tryz.func209, by kernel_rfl, by kernel_rfl⟩
theorem fn240 : Tryz.prog.funcs[240]? = some fi240.fn ∧ fi240.fn.body.isSome = true ∧ (fi240.fn.name == "runtime.NumGoroutine") = false := ⟨Tryz.func240, by kernel_rfl, by kernel_rfl⟩
theorem fn210 : Tryz.prog.funcs[210]? = some fi210.fn ∧ fi210.fn.body.isSome = true ∧ (fi210.fn.name == "runtime.NumGoroutine") = false := ⟨Tryz.func210, by kernel_rfl, by kernel_rfl⟩
theorem fn211 : Tryz.prog.funcs[211]? = some fi211.fn ∧ fi211.fn.body.isSome = true ∧ (fi211.fn.name == "runtime.NumGoroutine") = false := ⟨Tryz.func211, by kernel_rfl, by kernel_rfl⟩
theorem fn212 : Tryz.prog.funcs[212]? = some fi212.fn ∧ fi212.fn.body.isSome = true ∧ (fi212.fn.name == "runtime.NumGoroutine") = false := ⟨Tryz.func212, by kernel_rfl, by kernel_rfl⟩
theorem fn172 : Tryz.prog.funcs[172]? = some fi172.fn ∧ fi172.fn.body.isSome = true ∧ (fi172.fn.name == "runtime.NumGoroutine") = false := ⟨Tryz.func172, by kernel_rfl, by kernel_rfl⟩
theorem fn116 : Tryz.prog.funcs[116]? = some fi116.fn ∧ fi116.fn.body.isSome = true ∧ (fi116.fn.name == "runtime.NumGoroutine") = false := ⟨Tryz.func116, by kernel_rfl, by kernel_rfl⟩
theorem fn67 : Tryz.prog.funcs[67]? = some fi67.fn ∧ fi67.fn.body.isSome = true ∧ (fi67.fn.name == "runtime.NumGoroutine") = false := ⟨Tryz.func67, by kernel_rfl, by kernel_rfl⟩
theorem fn173 : Tryz.prog.funcs[173]? = some fi173.fn ∧ fi173.fn.body.isSome = true ∧ (fi173.fn.name == "runtime.NumGoroutine") = false := ⟨Tryz.func173, by kernel_rfl, by kernel_rfl⟩
theorem fn117 : Tryz.prog.funcs[117]? = some fi117.fn ∧ fi117.fn.body.isSome = true ∧ (fi117.fn.name == "runtime.NumGoroutine") = false := ⟨Tryz.func117, by kernel_rfl, by kernel_rfl⟩
theorem fn68 : Tryz.prog.funcs[68]? = some fi68.fn ∧ fi68.fn.body.isSome = true ∧ (fi68.fn.name == "runtime.NumGoroutine") = false := ⟨Tryz.func68, by kernel_rfl, by kernel_rfl⟩
theorem fn26 : Tryz.prog.funcs[26]? = some fi26.fn ∧ fi26.fn.body.isSome = true ∧ (fi26.fn.name == "runtime.NumGoroutine") = false := ⟨Tryz.func26, by kernel_rfl, by kernel_rfl⟩
theorem fn6 : Tryz.prog.funcs[6]? = some fi6.fn ∧ fi6.fn.body.isSome = true ∧ (fi6.fn.name == "runtime.NumGoroutine") = false := ⟨Tryz.func6, by kernel_rfl, by kernel_rfl⟩
theorem fn21 : Tryz.prog.funcs[21]? = some fi21.fn ∧ fi21.fn.body.isSome = true ∧ (fi21.fn.name == "runtime.NumGoroutine") = false := ⟨Tryz.func21, by kernel_rfl, by kernel_rfl⟩
theorem fn28 : Tryz.prog.funcs[28]? = some fi28.fn ∧ fi28.fn.body.isSome = true ∧ (fi28.fn.name == "runtime.NumGoroutine") = false := ⟨Tryz.func28, by kernel_rfl, by kernel_rfl⟩
theorem fn58 : Tryz.prog.funcs[58]? = some fi58.fn ∧ fi58.fn.body.isSome = true ∧ (fi58.fn.name == "runtime.NumGoroutine") = false := ⟨Tryz.func58, by kernel_rfl, by kernel_rfl⟩
theorem fn40 : Tryz.prog.funcs[40]? = some fi40.fn ∧ fi40.fn.body.isSome = true ∧ (fi40.fn.name == "runtime.NumGoroutine") = false := ⟨Tryz.func40, by kernel_rfl, by kernel_rfl⟩
theorem fn41 : Tryz.prog.funcs[41]? = some fi41.fn ∧ fi41.fn.body.isSome = true ∧ (fi41.fn.name == "runtime.NumGoroutine") = false := ⟨Tryz.func41, by kernel_rfl, by kernel_rfl⟩
theorem fn83 : Tryz.prog.funcs[83]? = some fi83.fn ∧ fi83.fn.body.isSome = true ∧ (fi83.fn.name == "runtime.NumGoroutine") = false := ⟨Tryz.func83, by kernel_rfl, by kernel_rfl⟩
theorem fn42 : Tryz.prog.funcs[42]? = some fi42.fn ∧ fi42.fn.body.isSome = true ∧ (fi42.fn.name == "runtime.NumGoroutine") = false := ⟨Tryz.func42, by kernel_rfl, by kernel_rfl⟩
theorem fn15 : Tryz.prog.funcs[15]? = some fi15.fn ∧ fi15.fn.body.isSome = true ∧ (fi15.fn.name == "runtime.NumGoroutine") = false := ⟨Tryz.func15, by kernel_rfl, by kernel_rfl⟩
theorem fn22 : Tryz.prog.funcs[22]? = some fi22.fn ∧ fi22.fn.body.isSome = true ∧ (fi22.fn.name == "runtime.NumGoroutine") = false := ⟨Tryz.func22, by kernel_rfl, by kernel_rfl⟩
theorem fn123 : Tryz.prog.funcs[123]? = some fi123.fn ∧ fi123.fn.body.isSome = true ∧ (fi123.fn.name == "runtime.NumGoroutine") = false := ⟨Tryz.func123, by kernel_rfl, by kernel_rfl⟩
theorem fn95 : Tryz.prog.funcs[95]? = some fi95.fn ∧ fi95.fn.body.isSome = true ∧ (fi95.fn.name == "runtime.NumGoroutine") = false := ⟨Tryz.func95, by kernel_rfl, by kernel_rfl⟩
theorem fn54 : Tryz.prog.funcs[54]? = some fi54.fn ∧ fi54.fn.body.isSome = true ∧ (fi54.fn.name == "runtime.NumGoroutine") = false := ⟨Tryz.func54, by kernel_rfl, by kernel_rfl⟩
theorem fn144 : Tryz.prog.funcs[144]? = some fi144.fn ∧ fi144.fn.body.isSome = true ∧ (fi144.fn.name == "runtime.NumGoroutine") = false := ⟨Tryz.func144, by kernel_rfl, by kernel_rfl⟩
theorem fn157 : Tryz.prog.funcs[157]? = some fi157.fn ∧ fi157.fn.body.isSome = true ∧ (fi157.fn.name == "runtime.NumGoroutine") = false := ⟨Tryz.func157, by kernel_rfl, by kernel_rfl⟩
theorem fn99 : Tryz.prog.funcs[99]? = some fi99.fn ∧ fi99.fn.body.isSome = true ∧ (fi99.fn.name == "runtime.NumGoroutine") = false := ⟨Tryz.func99, by kernel_rfl, by kernel_rfl⟩
theorem fn195 : Tryz.prog.funcs[195]? = some fi195.fn ∧ fi195.fn.body.isSome = true ∧ (fi195.fn.name == "runtime.NumGoroutine") = false := ⟨Tryz.func195, by kernel_rfl, by kernel_rfl⟩
theorem fn91 : Tryz.prog.funcs[91]? = some fi91.fn ∧ fi91.fn.body.isSome = true ∧ (fi91.fn.name == "runtime.NumGoroutine") = false := ⟨Tryz.func91, by kernel_rfl, by kernel_rfl⟩
theorem fn148 : Tryz.prog.funcs[148]? = some fi148.fn ∧ fi148.fn.body.isSome = true ∧ (fi148.fn.name == "runtime.NumGoroutine") = false := ⟨Tryz.func148, by kernel_rfl, by kernel_rfl⟩
theorem fn198 : Tryz.prog.funcs[198]? = some fi198.fn ∧ fi198.fn.body.isSome = true ∧ (fi198.fn.name == "runtime.NumGoroutine") = false := ⟨Tryz.func198, by kernel_rfl, by kernel_rfl⟩
theorem fn150 : Tryz.prog.funcs[150]? = some fi150.fn ∧ fi150.fn.body.isSome = true ∧ (fi150.fn.name == "runtime.NumGoroutine") = false := ⟨Tryz.func150, by kernel_rfl, by kernel_rfl⟩
theorem fn152 : Tryz.prog.funcs[152]? = some fi152.fn ∧ fi152.fn.body.isSome = true ∧ (fi152.fn.name == "runtime.NumGoroutine") = false := ⟨Tryz.func152, by kernel_rfl, by kernel_rfl⟩
theorem fn49 : Tryz.prog.funcs[49]? = some fi49.fn ∧ fi49.fn.body.isSome = true ∧ (fi49.fn.name == "runtime.NumGoroutine") = false := ⟨Tryz.func49, by kernel_rfl, by kernel_rfl⟩
theorem fn145 : Tryz.prog.funcs[145]? = some fi145.fn ∧ fi145.fn.body.isSome = true ∧ (fi145.fn.name == "runtime.NumGoroutine") = false := ⟨Tryz.func145, by kernel_rfl, by kernel_rfl⟩
theorem fn85 : Tryz.prog.funcs[85]? = some fi85.fn ∧ fi85.fn.body.isSome = true ∧ (fi85.fn.name == "runtime.NumGoroutine") = false := ⟨Tryz.func85, by kernel_rfl, by kernel_rfl⟩
theorem fn44 : Tryz.prog.funcs[44]? = some fi44.fn ∧ fi44.fn.body.isSome = true ∧ (fi44.fn.name == "runtime.NumGoroutine") = false := ⟨Tryz.func44, by kernel_rfl, by kernel_rfl⟩
theorem fn69 : Tryz.prog.funcs[69]? = some fi69.fn ∧ fi69.fn.body.isSome = true ∧ (fi69.fn.name == "runtime.NumGoroutine") = false := ⟨Tryz.func69, by kernel_rfl, by kernel_rfl⟩
theorem fn55 : Tryz.prog.funcs[55]? = some fi55.fn ∧ fi55.fn.body.isSome = true ∧ (fi55.fn.name == "runtime.NumGoroutine") = false := ⟨Tryz.func55, by kernel_rfl, by kernel_rfl⟩
theorem fn56 : Tryz.prog.funcs[56]? = some fi56.fn ∧ fi56.fn.body.isSome = true ∧ (fi56.fn.name == "runtime.NumGoroutine") = false := ⟨Tryz.func56, by kernel_rfl, by kernel_rfl⟩
theorem fn20 : Tryz.prog.funcs[20]? = some fi20.fn ∧ fi20.fn.body.isSome = true ∧ (fi20.fn.name == "runtime.NumGoroutine") = false := ⟨Tryz.func20, by kernel_rfl, by kernel_rfl⟩
theorem fn124 : Tryz.prog.funcs[124]? = some fi124.fn ∧ fi124.fn.body.isSome = true ∧ (fi124.fn.name == "runtime.NumGoroutine") = false := ⟨Tryz.func124, by kernel_rfl, by kernel_rfl⟩
theorem fn70 : Tryz.prog.funcs[70]? = some fi70.fn ∧ fi70.fn.body.isSome = true ∧ (fi70.fn.name == "runtime.NumGoroutine") = false := ⟨Tryz.func70, by kernel_rfl, by kernel_rfl⟩
theorem fn29 : Tryz.prog.funcs[29]? = some fi29.fn ∧ fi29.fn.body.isSome = true ∧ (fi29.fn.name == "runtime.NumGoroutine") = false := ⟨Tryz.func29, by kernel_rfl, by kernel_rfl⟩
theorem fn8 : Tryz.prog.funcs[8]? = some fi8.fn ∧ fi8.fn.body.isSome = true ∧ (fi8.fn.name == "runtime.NumGoroutine") = false := ⟨Tryz.func8, by kernel_rfl, by kernel_rfl⟩
theorem fn252 : Tryz.prog.funcs[252]? = some fi252.fn ∧ fi252.fn.body.isSome = true ∧ (fi252.fn.name == "runtime.NumGoroutine") = false := ⟨Tryz.func252, by kernel_rfl, by kernel_rfl⟩
theorem fn257 : Tryz.prog.funcs[257]? = some fi257.fn ∧ fi257.fn.body.isSome = true ∧ (fi257.fn.name == "runtime.NumGoroutine") = false := ⟨Tryz.func257, by kernel_rfl, by kernel_rfl⟩
theorem fn253 : Tryz.prog.funcs[253]? = some fi253.fn ∧ fi253.fn.body.isSome = true ∧ (fi253.fn.name == "runtime.NumGoroutine") = false := ⟨Tryz.func253, by kernel_rfl, by kernel_rfl⟩
theorem fn258 : Tryz.prog.funcs[258]? = some fi258.fn ∧ fi258.fn.body.isSome = true ∧ (fi258.fn.name == "runtime.NumGoroutine") = false := ⟨Tryz.func258, by kernel_rfl, by kernel_rfl⟩
theorem fn254 : Tryz.prog.funcs[254]? = some fi254.fn ∧ fi254.fn.body.isSome = true ∧ (fi254.fn.name == "runtime.NumGoroutine") = false := ⟨Tryz.func254, by kernel_rfl, by kernel_rfl⟩
theorem fn242 : Tryz.prog.funcs[242]? = some fi242.fn ∧ fi242.fn.body.isSome = true ∧ (fi242.fn.name == "runtime.NumGoroutine") = false := ⟨Tryz.func242, by kernel_rfl, by kernel_rfl⟩
theorem fn215 : Tryz.prog.funcs[215]? = some fi215.fn ∧ fi215.fn.body.isSome = true ∧ (fi215.fn.name == "runtime.NumGoroutine") = false := ⟨Tryz.func215, by kernel_rfl, by kernel_rfl⟩
theorem fn183 : Tryz.prog.funcs[183]? = some fi183.fn ∧ fi183.fn.body.isSome = true ∧ (fi183.fn.name == "runtime.NumGoroutine") = false := ⟨Tryz.func183, by kernel_rfl, by kernel_rfl⟩
theorem fn129 : Tryz.prog.funcs[129]? = some fi129.fn ∧ fi129.fn.body.isSome = true ∧ (fi129.fn.name == "runtime.NumGoroutine") = false := ⟨Tryz.func129, by kernel_rfl, by kernel_rfl⟩
theorem fn71 : Tryz.prog.funcs[71]? = some fi71.fn ∧ fi71.fn.body.isSome = true ∧ (fi71.fn.name == "runtime.NumGoroutine") = false := ⟨Tryz.func71, by kernel_rfl, by kernel_rfl⟩
theorem fn30 : Tryz.prog.funcs[30]? = some fi30.fn ∧ fi30.fn.body.isSome = true ∧ (fi30.fn.name == "runtime.NumGoroutine") = false := ⟨Tryz.func30, by kernel_rfl, by kernel_rfl⟩
theorem fn184 : Tryz.prog.funcs[184]? = some fi184.fn ∧ fi184.fn.body.isSome = true ∧ (fi184.fn.name == "runtime.NumGoroutine") = false := ⟨Tryz.func184, by kernel_rfl, by kernel_rfl⟩
theorem fn130 : Tryz.prog.funcs[130]? = some fi130.fn ∧ fi130.fn.body.isSome = true ∧ (fi130.fn.name == "runtime.NumGoroutine") = false := ⟨Tryz.func130, by kernel_rfl, by kernel_rfl⟩
theorem fn72 : Tryz.prog.funcs[72]? = some fi72.fn ∧ fi72.fn.body.isSome = true ∧ (fi72.fn.name == "runtime.NumGoroutine") = false := ⟨Tryz.func72, by kernel_rfl, by kernel_rfl⟩
theorem fn216 : Tryz.prog.funcs[216]? = some fi216.fn ∧ fi216.fn.body.isSome = true ∧ (fi216.fn.name == "runtime.NumGoroutine") = false := ⟨Tryz.func216, by kernel_rfl, by kernel_rfl⟩
theorem fn185 : Tryz.prog.funcs[185]? = some fi185.fn ∧ fi185.fn.body.isSome = true ∧ (fi185.fn.name == "runtime.NumGoroutine") = false := ⟨Tryz.func185, by kernel_rfl, by kernel_rfl⟩
theorem fn131 : Tryz.prog.funcs[131]? = some fi131.fn ∧ fi131.fn.body.isSome = true ∧ (fi131.fn.name == "runtime.NumGoroutine") = false := ⟨Tryz.func131, by kernel_rfl, by kernel_rfl⟩
theorem fn73 : Tryz.prog.funcs[73]? = some fi73.fn ∧ fi73.fn.body.isSome = true ∧ (fi73.fn.name == "runtime.NumGoroutine") = false := ⟨Tryz.func73, by kernel_rfl, by kernel_rfl⟩
theorem fn31 : Tryz.prog.funcs[31]? = some fi31.fn ∧ fi31.fn.body.isSome = true ∧ (fi31.fn.name == "runtime.NumGoroutine") = false := ⟨Tryz.func31, by kernel_rfl, by kernel_rfl⟩
theorem fn255 : Tryz.prog.funcs[255]? = some fi255.fn ∧ fi255.fn.body.isSome = true ∧ (fi255.fn.name == "runtime.NumGoroutine") = false := ⟨Tryz.func255, by kernel_rfl, by kernel_rfl⟩
theorem fn243 : Tryz.prog.funcs[243]? = some fi243.fn ∧ fi243.fn.body.isSome = true ∧ (fi243.fn.name == "runtime.NumGoroutine") = false := ⟨Tryz.func243, by kernel_rfl, by kernel_rfl⟩
theorem fn217 : Tryz.prog.funcs[217]? = some fi217.fn ∧ fi217.fn.body.isSome = true ∧ (fi217.fn.name == "runtime.NumGoroutine") = false := ⟨Tryz.func217, by kernel_rfl, by kernel_rfl⟩
theorem fn186 : Tryz.prog.funcs[186]? = some fi186.fn ∧ fi186.fn.body.isSome = true ∧ (fi186.fn.name == "runtime.NumGoroutine") = false := ⟨Tryz.func186, by kernel_rfl, by kernel_rfl⟩
theorem fn132 : Tryz.prog.funcs[132]? = some fi132.fn ∧ fi132.fn.body.isSome = true ∧ (fi132.fn.name == "runtime.NumGoroutine") = false := ⟨Tryz.func132, by kernel_rfl, by kernel_rfl⟩
theorem fn33 : Tryz.prog.funcs[33]? = some fi33.fn ∧ fi33.fn.body.isSome = true ∧ (fi33.fn.name == "runtime.NumGoroutine") = false := ⟨Tryz.func33, by kernel_rfl, by kernel_rfl⟩
theorem fn10 : Tryz.prog.funcs[10]? = some fi10.fn ∧ fi10.fn.body.isSome = true ∧ (fi10.fn.name == "runtime.NumGoroutine") = false := ⟨Tryz.func10, by kernel_rfl, by kernel_rfl⟩
theorem fn74 : Tryz.prog.funcs[74]? = some fi74.fn ∧ fi74.fn.body.isSome = true ∧ (fi74.fn.name == "runtime.NumGoroutine") = false := ⟨Tryz.func74, by kernel_rfl, by kernel_rfl⟩
theorem fn32 : Tryz.prog.funcs[32]? = some fi32.fn ∧ fi32.fn.body.isSome = true ∧ (fi32.fn.name == "runtime.NumGoroutine") = false := ⟨Tryz.func32, by kernel_rfl, by kernel_rfl⟩
theorem fn9 : Tryz.prog.funcs[9]? = some fi9.fn ∧ fi9.fn.body.isSome = true ∧ (fi9.fn.name == "runtime.NumGoroutine") = false := ⟨Tryz.func9, by kernel_rfl, by kernel_rfl⟩
theorem fn11 : Tryz.prog.funcs[11]? = some fi11.fn ∧ fi11.fn.body.isSome = true ∧ (fi11.fn.name == "runtime.NumGoroutine") = false := ⟨Tryz.func11, by kernel_rfl, by kernel_rfl⟩
theorem fn133 : Tryz.prog.funcs[133]? = some fi133.fn ∧ fi133.fn.body.isSome = true ∧ (fi133.fn.name == "runtime.NumGoroutine") = false := ⟨Tryz.func133, by kernel_rfl, by kernel_rfl⟩
theorem fn187 : Tryz.prog.funcs[187]? = some fi187.fn ∧ fi187.fn.body.isSome = true ∧ (fi187.fn.name == "runtime.NumGoroutine") = false := ⟨Tryz.func187, by kernel_rfl, by kernel_rfl⟩
theorem fn188 : Tryz.prog.funcs[188]? = some fi188.fn ∧ fi188.fn.body.isSome = true ∧ (fi188.fn.name == "runtime.NumGoroutine") = false := ⟨Tryz.func188, by kernel_rfl, by kernel_rfl⟩
theorem fn189 : Tryz.prog.funcs[189]? = some fi189.fn ∧ fi189.fn.body.isSome = true ∧ (fi189.fn.name == "runtime.NumGoroutine") = false := ⟨Tryz.func189, by kernel_rfl, by kernel_rfl⟩
theorem fn134 : Tryz.prog.funcs[134]? = some fi134.fn ∧ fi134.fn.body.isSome = true ∧ (fi134.fn.name == "runtime.NumGoroutine") = false := ⟨Tryz.func134, by kernel_rfl, by kernel_rfl⟩
theorem fn75 : Tryz.prog.funcs[75]? = some fi75.fn ∧ fi75.fn.body.isSome = true ∧ (fi75.fn.name == "runtime.NumGoroutine") = false := ⟨Tryz.func75, by kernel_rfl, by kernel_rfl⟩
theorem fn34 : Tryz.prog.funcs[34]? = some fi34.fn ∧ fi34.fn.body.isSome = true ∧ (fi34.fn.name == "runtime.NumGoroutine") = false := ⟨Tryz.func34, by kernel_rfl, by kernel_rfl⟩
theorem fn135 : Tryz.prog.funcs[135]? = some fi135.fn ∧ fi135.fn.body.isSome = true ∧ (fi135.fn.name == "runtime.NumGoroutine") = false := ⟨Tryz.func135, by kernel_rfl, by kernel_rfl⟩
theorem fn76 : Tryz.prog.funcs[76]? = some fi76.fn ∧ fi76.fn.body.isSome = true ∧ (fi76.fn.name == "runtime.NumGoroutine") = false := ⟨Tryz.func76, by kernel_rfl, by kernel_rfl⟩
theorem fn136 : Tryz.prog.funcs[136]? = some fi136.fn ∧ fi136.fn.body.isSome = true ∧ (fi136.fn.name == "runtime.NumGoroutine") = false := ⟨Tryz.func136, by kernel_rfl, by kernel_rfl⟩
theorem fn77 : Tryz.prog.funcs[77]? = some fi77.fn ∧ fi77.fn.body.isSome = true ∧ (fi77.fn.name == "runtime.NumGoroutine") = false := ⟨Tryz.func77, by kernel_rfl, by kernel_rfl⟩
theorem fn35 : Tryz.prog.funcs[35]? = some fi35.fn ∧ fi35.fn.body.isSome = true ∧ (fi35.fn.name == "runtime.NumGoroutine") = false := ⟨Tryz.func35, by kernel_rfl, by kernel_rfl⟩
theorem fn218 : Tryz.prog.funcs[218]? = some fi218.fn ∧ fi218.fn.body.isSome = true ∧ (fi218.fn.name == "runtime.NumGoroutine") = false := ⟨Tryz.func218, by kernel_rfl, by kernel_rfl⟩
theorem fn190 : Tryz.prog.funcs[190]? = some fi190.fn ∧ fi190.fn.body.isSome = true ∧ (fi190.fn.name == "runtime.NumGoroutine") = false := ⟨Tryz.func190, by kernel_rfl, by kernel_rfl⟩
theorem fn137 : Tryz.prog.funcs[137]? = some fi137.fn ∧ fi137.fn.body.isSome = true ∧ (fi137.fn.name == "runtime.NumGoroutine") = false := ⟨Tryz.func137, by kernel_rfl, by kernel_rfl⟩
theorem fn78 : Tryz.prog.funcs[78]? = some fi78.fn ∧ fi78.fn.body.isSome = true ∧ (fi78.fn.name == "runtime.NumGoroutine") = false := ⟨Tryz.func78, by kernel_rfl, by kernel_rfl⟩
theorem fn36 : Tryz.prog.funcs[36]? = some fi36.fn ∧ fi36.fn.body.isSome = true ∧ (fi36.fn.name == "runtime.NumGoroutine") = false := ⟨Tryz.func36, by kernel_rfl, by kernel_rfl⟩
theorem fn12 : Tryz.prog.funcs[12]? = some fi12.fn ∧ fi12.fn.body.isSome = true ∧ (fi12.fn.name == "runtime.NumGoroutine") = false := ⟨Tryz.func12, by kernel_rfl, by kernel_rfl⟩
theorem fn191 : Tryz.prog.funcs[191]? = some fi191.fn ∧ fi191.fn.body.isSome = true ∧ (fi191.fn.name == "runtime.NumGoroutine") = false := ⟨Tryz.func191, by kernel_rfl, by kernel_rfl⟩
theorem fn192 : Tryz.prog.funcs[192]? = some fi192.fn ∧ fi192.fn.body.isSome = true ∧ (fi192.fn.name == "runtime.NumGoroutine") = false := ⟨Tryz.func192, by kernel_rfl, by kernel_rfl⟩
theorem fn193 : Tryz.prog.funcs[193]? = some fi193.fn ∧ fi193.fn.body.isSome = true ∧ (fi193.fn.name == "runtime.NumGoroutine") = false := ⟨Tryz.func193, by kernel_rfl, by kernel_rfl⟩
theorem fn138 : Tryz.prog.funcs[138]? = some fi138.fn ∧ fi138.fn.body.isSome = true ∧ (fi138.fn.name == "runtime.NumGoroutine") = false := ⟨Tryz.func138, by kernel_rfl, by kernel_rfl⟩
theorem fn79 : Tryz.prog.funcs[79]? = some fi79.fn ∧ fi79.fn.body.isSome = true ∧ (fi79.fn.name == "runtime.NumGoroutine") = false := ⟨Tryz.func79, by kernel_rfl, by kernel_rfl⟩
theorem fn37 : Tryz.prog.funcs[37]? = some fi37.fn ∧ fi37.fn.body.isSome = true ∧ (fi37.fn.name == "runtime.NumGoroutine") = false := ⟨Tryz.func37, by kernel_rfl, by kernel_rfl⟩
theorem fn139 : Tryz.prog.funcs[139]? = some fi139.fn ∧ fi139.fn.body.isSome = true ∧ (fi139.fn.name == "runtime.NumGoroutine") = false := ⟨Tryz.func139, by kernel_rfl, by kernel_rfl⟩
theorem fn80 : Tryz.prog.funcs[80]? = some fi80.fn ∧ fi80.fn.body.isSome = true ∧ (fi80.fn.name == "runtime.NumGoroutine") = false := ⟨Tryz.func80, by kernel_rfl, by kernel_rfl⟩
theorem fn140 : Tryz.prog.funcs[140]? = some fi140.fn ∧ fi140.fn.body.isSome = true ∧ (fi140.fn.name == "runtime.NumGoroutine") = false := ⟨Tryz.func140, by kernel_rfl, by kernel_rfl⟩
theorem fn81 : Tryz.prog.funcs[81]? = some fi81.fn ∧ fi81.fn.body.isSome = true ∧ (fi81.fn.name == "runtime.NumGoroutine") = false := ⟨Tryz.func81, by kernel_rfl, by kernel_rfl⟩
theorem fn38 : Tryz.prog.funcs[38]? = some fi38.fn ∧ fi38.fn.body.isSome = true ∧ (fi38.fn.name == "runtime.NumGoroutine") = false := ⟨Tryz.func38, by kernel_rfl, by kernel_rfl⟩
theorem fn219 : Tryz.prog.funcs[219]? = some fi219.fn ∧ fi219.fn.body.isSome = true ∧ (fi219.fn.name == "runtime.NumGoroutine") = false := ⟨Tryz.func219, by kernel_rfl, by kernel_rfl⟩
theorem fn194 : Tryz.prog.funcs[194]? = some fi194.fn ∧ fi194.fn.body.isSome = true ∧ (fi194.fn.name == "runtime.NumGoroutine") = false := ⟨Tryz.func194, by kernel_rfl, by kernel_rfl⟩
theorem fn141 : Tryz.prog.funcs[141]? = some fi141.fn ∧ fi141.fn.body.isSome = true ∧ (fi141.fn.name == "runtime.NumGoroutine") = false := ⟨Tryz.func141, by kernel_rfl, by kernel_rfl⟩
theorem fn142 : Tryz.prog.funcs[142]? = some fi142.fn ∧ fi142.fn.body.isSome = true ∧ (fi142.fn.name == "runtime.NumGoroutine") = false := ⟨Tryz.func142, by kernel_rfl, by kernel_rfl⟩
theorem fn82 : Tryz.prog.funcs[82]? = some fi82.fn ∧ fi82.fn.body.isSome = true ∧ (fi82.fn.name == "runtime.NumGoroutine") = false := ⟨Tryz.func82, by kernel_rfl, by kernel_rfl⟩
theorem fn39 : Tryz.prog.funcs[39]? = some fi39.fn ∧ fi39.fn.body.isSome = true ∧ (fi39.fn.name == "runtime.NumGoroutine") = false := ⟨Tryz.func39, by kernel_rfl, by kernel_rfl⟩
theorem fn13 : Tryz.prog.funcs[13]? = some fi13.fn ∧ fi13.fn.body.isSome = true ∧ (fi13.fn.name == "runtime.NumGoroutine") = false := ⟨Tryz.func13, by kernel_rfl, by kernel_rfl⟩
theorem fn3 : Tryz.prog.funcs[3]? = some fi3.fn ∧ fi3.fn.body.isSome = true ∧ (fi3.fn.name == "runtime.NumGoroutine") = false := ⟨Tryz.func3, by kernel_rfl, by kernel_rfl⟩
theorem fns : AllF (fun x : Nat × Fi => Tryz.prog.funcs[x.1]? = some x.2.fn ∧ x.2.fn.body.isSome = true ∧ (x.2.fn.name == "runtime.NumGoroutine") = false) fiTab := ⟨fn5, fn27, fn7, fn23, fn24, fn109, fn64, fn167, fn110, fn111, fn65, fn25, fn66, fn239, fn209, fn240, fn210, fn211, fn212, fn172, fn116, fn67, fn173, fn117, fn68, fn26, fn6, fn21, fn28, fn58, fn40, fn41, fn83, fn42, fn15, fn22, fn123, fn95, fn54, fn144, fn157, fn99, fn195, fn91, fn148, fn198, fn150, fn152, fn49, fn145, fn85, fn44, fn69, fn55, fn56, fn20, fn124, fn70, fn29, fn8, fn252, fn257, fn253, fn258, fn254, fn242, fn215, fn183, fn129, fn71, fn30, fn184, fn130, fn72, fn216, fn185, fn131, fn73, fn31, fn255, fn243, fn217, fn186, fn132, fn33, fn10, fn74, fn32, fn9, fn11, fn133, fn187, fn188, fn189, fn134, fn75, fn34, fn135, fn76, fn136, fn77, fn35, fn218, fn190, fn137, fn78, fn36, fn12, fn191, fn192, fn193, fn138, fn79, fn37, fn139, fn80, fn140, fn81, fn38, fn219, fn194, fn141, fn142, fn82, fn39, fn13, fn3, trivial⟩
theorem mixed : Tryz.prog.follows .mixedOrders = true := by kernel_rfl
theorem envOk : EnvOk Tryz.prog env := envOk_of tys fns mixed
theorem lawTy : ∀ t ti, env.ty t = some ti → lawTyB env ti = true := lawTy_of (by kernel_rfl)
theorem forms : ∀ f fi, env.fi f = some fi → fi.inl = false → fiB fi = true := fiB_of (by kernel_rfl)
theorem cl41 : CallSnd Tryz.prog fi41 41 cloneF := clone_snd envOk forms (f := 41) (fi := fi41) rfl rfl rfl (t := 36) (e := 65) Tryz.underlying36 rfl ⟨⟨rfl, rfl, rfl⟩, ⟨rfl, rfl, rfl⟩, ⟨⟨_, rfl⟩, rfl, rfl⟩⟩ (by kernel_rfl) (by kernel_rfl) (fun l => by kernel_rfl)
theorem cl54 : CallSnd Tryz.prog fi54 54 cloneF := clone_snd envOk forms (f := 54) (fi := fi54) rfl rfl rfl (t := 50) (e := 5) Tryz.underlying50 rfl ⟨⟨rfl, rfl, rfl⟩, ⟨rfl, rfl, rfl⟩, ⟨⟨_, rfl⟩, rfl, rfl⟩⟩ (by kernel_rfl) (by kernel_rfl) (fun l => by kernel_rfl)
theorem xs : ∀ f g fi, X f = some g → env.fi f = some fi → CallSnd Tryz.prog fi f g := xs_of (P := Tryz.prog) (fiL := fiTab) (tyL := tyTab) (⟨fun fi h => (by have h : some fi41 = some fi := h; cases h; exact cl41), ⟨fun fi h => (by have h : some fi54 = some fi := h; cases h; exact cl54), trivial⟩⟩)
end Go.Proofs.YtcippopaecnjhaaGreat.T
