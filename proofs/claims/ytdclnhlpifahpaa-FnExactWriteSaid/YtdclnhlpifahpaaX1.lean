/- What functions of the law FnExactWrite come to, in trees; no condition. -/
import Derived.Test.YtdclnhlpifahpaaRows
import Derived.Test.YtdclnhlpifahpaaX0
import Derived.KernelRfl
set_option linter.unusedVariables false
set_option linter.constructorNameAsVariable false
set_option linter.unusedSimpArgs false
set_option linter.unnecessarySimpa false
namespace Go.Proofs.Ytdclnhlpifahpaa.T
open Go Go.Proofs.YtdclnhlpifahpaaV
theorem tys : (tyTab.all fun x => tyOkB Try.prog ⟨lookN fiTab, lookN tyTab⟩ x.1 x.2 && (!(x.2.agg && flatB x.2.cs) || eqTyB Try.prog x.1 x.2)) = true := by kernel_rfl
theorem fn259 : Try.prog.funcs[259]? = some fi259.fn ∧ fi259.fn.body.isSome = true ∧ (fi259.fn.name == "runtime.NumGoroutine") = false := ⟨Try.func259, by kernel_rfl, by kernel_rfl⟩
theorem fn252 : Try.prog.funcs[252]? = some fi252.fn ∧ fi252.fn.body.isSome = true ∧ (fi252.fn.name == "runtime.NumGoroutine") = false := ⟨Try.func252, by kernel_rfl, by kernel_rfl⟩
theorem fn242 : Try.prog.funcs[242]? = some fi242.fn ∧ fi242.fn.body.isSome = true ∧ (fi242.fn.name == "runtime.NumGoroutine") = false := ⟨Try.func242, by kernel_rfl, by kernel_rfl⟩
theorem fn219 : Try.prog.funcs[219]? = some fi219.fn ∧ fi219.fn.body.isSome = true ∧ (fi219.fn.name == "runtime.NumGoroutine") = false := ⟨Try.func219, by kernel_rfl, by kernel_rfl⟩
theorem fn175 : Try.prog.funcs[175]? = some fi175.fn ∧ fi175.fn.body.isSome = true ∧ (fi175.fn.name == "runtime.NumGoroutine") = false := ⟨Try.func175, by kernel_rfl, by kernel_rfl⟩
theorem fn122 : Try.prog.funcs[122]? = some fi122.fn ∧ fi122.fn.body.isSome = true ∧ (fi122.fn.name == "runtime.NumGoroutine") = false := ⟨Try.func122, by kernel_rfl, by kernel_rfl⟩
theorem fn123 : Try.prog.funcs[123]? = some fi123.fn ∧ fi123.fn.body.isSome = true ∧ (fi123.fn.name == "runtime.NumGoroutine") = false := ⟨Try.func123, by kernel_rfl, by kernel_rfl⟩
theorem fn69 : Try.prog.funcs[69]? = some fi69.fn ∧ fi69.fn.body.isSome = true ∧ (fi69.fn.name == "runtime.NumGoroutine") = false := ⟨Try.func69, by kernel_rfl, by kernel_rfl⟩
theorem fn18 : Try.prog.funcs[18]? = some fi18.fn ∧ fi18.fn.body.isSome = true ∧ (fi18.fn.name == "runtime.NumGoroutine") = false := ⟨Try.func18, by kernel_rfl, by kernel_rfl⟩
theorem fn47 : Try.prog.funcs[47]? = some fi47.fn ∧ fi47.fn.body.isSome = true ∧ (fi47.fn.name == "runtime.NumGoroutine") = false := ⟨Try.func47, by kernel_rfl, by kernel_rfl⟩
theorem fn253 : Try.prog.funcs[253]? = some fi253.fn ∧ fi253.fn.body.isSome = true ∧ (fi253.fn.name == "runtime.NumGoroutine") = false := ⟨Try.func253, by kernel_rfl, by kernel_rfl⟩
theorem fn243 : Try.prog.funcs[243]? = some fi243.fn ∧ fi243.fn.body.isSome = true ∧ (fi243.fn.name == "runtime.NumGoroutine") = false := ⟨Try.func243, by kernel_rfl, by kernel_rfl⟩
theorem fn220 : Try.prog.funcs[220]? = some fi220.fn ∧ fi220.fn.body.isSome = true ∧ (fi220.fn.name == "runtime.NumGoroutine") = false := ⟨Try.func220, by kernel_rfl, by kernel_rfl⟩
theorem fn177 : Try.prog.funcs[177]? = some fi177.fn ∧ fi177.fn.body.isSome = true ∧ (fi177.fn.name == "runtime.NumGoroutine") = false := ⟨Try.func177, by kernel_rfl, by kernel_rfl⟩
theorem fn126 : Try.prog.funcs[126]? = some fi126.fn ∧ fi126.fn.body.isSome = true ∧ (fi126.fn.name == "runtime.NumGoroutine") = false := ⟨Try.func126, by kernel_rfl, by kernel_rfl⟩
theorem fn178 : Try.prog.funcs[178]? = some fi178.fn ∧ fi178.fn.body.isSome = true ∧ (fi178.fn.name == "runtime.NumGoroutine") = false := ⟨Try.func178, by kernel_rfl, by kernel_rfl⟩
theorem fn127 : Try.prog.funcs[127]? = some fi127.fn ∧ fi127.fn.body.isSome = true ∧ (fi127.fn.name == "runtime.NumGoroutine") = false := ⟨Try.func127, by kernel_rfl, by kernel_rfl⟩
theorem fn73 : Try.prog.funcs[73]? = some fi73.fn ∧ fi73.fn.body.isSome = true ∧ (fi73.fn.name == "runtime.NumGoroutine") = false := ⟨Try.func73, by kernel_rfl, by kernel_rfl⟩
theorem fn20 : Try.prog.funcs[20]? = some fi20.fn ∧ fi20.fn.body.isSome = true ∧ (fi20.fn.name == "runtime.NumGoroutine") = false := ⟨Try.func20, by kernel_rfl, by kernel_rfl⟩
theorem fn228 : Try.prog.funcs[228]? = some fi228.fn ∧ fi228.fn.body.isSome = true ∧ (fi228.fn.name == "runtime.NumGoroutine") = false := ⟨Try.func228, by kernel_rfl, by kernel_rfl⟩
theorem fn194 : Try.prog.funcs[194]? = some fi194.fn ∧ fi194.fn.body.isSome = true ∧ (fi194.fn.name == "runtime.NumGoroutine") = false := ⟨Try.func194, by kernel_rfl, by kernel_rfl⟩
theorem fn152 : Try.prog.funcs[152]? = some fi152.fn ∧ fi152.fn.body.isSome = true ∧ (fi152.fn.name == "runtime.NumGoroutine") = false := ⟨Try.func152, by kernel_rfl, by kernel_rfl⟩
theorem fn102 : Try.prog.funcs[102]? = some fi102.fn ∧ fi102.fn.body.isSome = true ∧ (fi102.fn.name == "runtime.NumGoroutine") = false := ⟨Try.func102, by kernel_rfl, by kernel_rfl⟩
theorem fn71 : Try.prog.funcs[71]? = some fi71.fn ∧ fi71.fn.body.isSome = true ∧ (fi71.fn.name == "runtime.NumGoroutine") = false := ⟨Try.func71, by kernel_rfl, by kernel_rfl⟩
theorem fn176 : Try.prog.funcs[176]? = some fi176.fn ∧ fi176.fn.body.isSome = true ∧ (fi176.fn.name == "runtime.NumGoroutine") = false := ⟨Try.func176, by kernel_rfl, by kernel_rfl⟩
theorem fn124 : Try.prog.funcs[124]? = some fi124.fn ∧ fi124.fn.body.isSome = true ∧ (fi124.fn.name == "runtime.NumGoroutine") = false := ⟨Try.func124, by kernel_rfl, by kernel_rfl⟩
theorem fn125 : Try.prog.funcs[125]? = some fi125.fn ∧ fi125.fn.body.isSome = true ∧ (fi125.fn.name == "runtime.NumGoroutine") = false := ⟨Try.func125, by kernel_rfl, by kernel_rfl⟩
theorem fn70 : Try.prog.funcs[70]? = some fi70.fn ∧ fi70.fn.body.isSome = true ∧ (fi70.fn.name == "runtime.NumGoroutine") = false := ⟨Try.func70, by kernel_rfl, by kernel_rfl⟩
theorem fn103 : Try.prog.funcs[103]? = some fi103.fn ∧ fi103.fn.body.isSome = true ∧ (fi103.fn.name == "runtime.NumGoroutine") = false := ⟨Try.func103, by kernel_rfl, by kernel_rfl⟩
theorem fn196 : Try.prog.funcs[196]? = some fi196.fn ∧ fi196.fn.body.isSome = true ∧ (fi196.fn.name == "runtime.NumGoroutine") = false := ⟨Try.func196, by kernel_rfl, by kernel_rfl⟩
theorem fn195 : Try.prog.funcs[195]? = some fi195.fn ∧ fi195.fn.body.isSome = true ∧ (fi195.fn.name == "runtime.NumGoroutine") = false := ⟨Try.func195, by kernel_rfl, by kernel_rfl⟩
theorem fn133 : Try.prog.funcs[133]? = some fi133.fn ∧ fi133.fn.body.isSome = true ∧ (fi133.fn.name == "runtime.NumGoroutine") = false := ⟨Try.func133, by kernel_rfl, by kernel_rfl⟩
theorem fn153 : Try.prog.funcs[153]? = some fi153.fn ∧ fi153.fn.body.isSome = true ∧ (fi153.fn.name == "runtime.NumGoroutine") = false := ⟨Try.func153, by kernel_rfl, by kernel_rfl⟩
theorem fn197 : Try.prog.funcs[197]? = some fi197.fn ∧ fi197.fn.body.isSome = true ∧ (fi197.fn.name == "runtime.NumGoroutine") = false := ⟨Try.func197, by kernel_rfl, by kernel_rfl⟩
theorem fn198 : Try.prog.funcs[198]? = some fi198.fn ∧ fi198.fn.body.isSome = true ∧ (fi198.fn.name == "runtime.NumGoroutine") = false := ⟨Try.func198, by kernel_rfl, by kernel_rfl⟩
theorem fn154 : Try.prog.funcs[154]? = some fi154.fn ∧ fi154.fn.body.isSome = true ∧ (fi154.fn.name == "runtime.NumGoroutine") = false := ⟨Try.func154, by kernel_rfl, by kernel_rfl⟩
theorem fn155 : Try.prog.funcs[155]? = some fi155.fn ∧ fi155.fn.body.isSome = true ∧ (fi155.fn.name == "runtime.NumGoroutine") = false := ⟨Try.func155, by kernel_rfl, by kernel_rfl⟩
theorem fn229 : Try.prog.funcs[229]? = some fi229.fn ∧ fi229.fn.body.isSome = true ∧ (fi229.fn.name == "runtime.NumGoroutine") = false := ⟨Try.func229, by kernel_rfl, by kernel_rfl⟩
theorem fn200 : Try.prog.funcs[200]? = some fi200.fn ∧ fi200.fn.body.isSome = true ∧ (fi200.fn.name == "runtime.NumGoroutine") = false := ⟨Try.func200, by kernel_rfl, by kernel_rfl⟩
theorem fn199 : Try.prog.funcs[199]? = some fi199.fn ∧ fi199.fn.body.isSome = true ∧ (fi199.fn.name == "runtime.NumGoroutine") = false := ⟨Try.func199, by kernel_rfl, by kernel_rfl⟩
theorem fn201 : Try.prog.funcs[201]? = some fi201.fn ∧ fi201.fn.body.isSome = true ∧ (fi201.fn.name == "runtime.NumGoroutine") = false := ⟨Try.func201, by kernel_rfl, by kernel_rfl⟩
theorem fn202 : Try.prog.funcs[202]? = some fi202.fn ∧ fi202.fn.body.isSome = true ∧ (fi202.fn.name == "runtime.NumGoroutine") = false := ⟨Try.func202, by kernel_rfl, by kernel_rfl⟩
theorem fn156 : Try.prog.funcs[156]? = some fi156.fn ∧ fi156.fn.body.isSome = true ∧ (fi156.fn.name == "runtime.NumGoroutine") = false := ⟨Try.func156, by kernel_rfl, by kernel_rfl⟩
theorem fn104 : Try.prog.funcs[104]? = some fi104.fn ∧ fi104.fn.body.isSome = true ∧ (fi104.fn.name == "runtime.NumGoroutine") = false := ⟨Try.func104, by kernel_rfl, by kernel_rfl⟩
theorem fn46 : Try.prog.funcs[46]? = some fi46.fn ∧ fi46.fn.body.isSome = true ∧ (fi46.fn.name == "runtime.NumGoroutine") = false := ⟨Try.func46, by kernel_rfl, by kernel_rfl⟩
theorem fn147 : Try.prog.funcs[147]? = some fi147.fn ∧ fi147.fn.body.isSome = true ∧ (fi147.fn.name == "runtime.NumGoroutine") = false := ⟨Try.func147, by kernel_rfl, by kernel_rfl⟩
theorem fn141 : Try.prog.funcs[141]? = some fi141.fn ∧ fi141.fn.body.isSome = true ∧ (fi141.fn.name == "runtime.NumGoroutine") = false := ⟨Try.func141, by kernel_rfl, by kernel_rfl⟩
theorem fn142 : Try.prog.funcs[142]? = some fi142.fn ∧ fi142.fn.body.isSome = true ∧ (fi142.fn.name == "runtime.NumGoroutine") = false := ⟨Try.func142, by kernel_rfl, by kernel_rfl⟩
theorem fn87 : Try.prog.funcs[87]? = some fi87.fn ∧ fi87.fn.body.isSome = true ∧ (fi87.fn.name == "runtime.NumGoroutine") = false := ⟨Try.func87, by kernel_rfl, by kernel_rfl⟩
theorem fn88 : Try.prog.funcs[88]? = some fi88.fn ∧ fi88.fn.body.isSome = true ∧ (fi88.fn.name == "runtime.NumGoroutine") = false := ⟨Try.func88, by kernel_rfl, by kernel_rfl⟩
theorem fn75 : Try.prog.funcs[75]? = some fi75.fn ∧ fi75.fn.body.isSome = true ∧ (fi75.fn.name == "runtime.NumGoroutine") = false := ⟨Try.func75, by kernel_rfl, by kernel_rfl⟩
theorem fn89 : Try.prog.funcs[89]? = some fi89.fn ∧ fi89.fn.body.isSome = true ∧ (fi89.fn.name == "runtime.NumGoroutine") = false := ⟨Try.func89, by kernel_rfl, by kernel_rfl⟩
theorem fn128 : Try.prog.funcs[128]? = some fi128.fn ∧ fi128.fn.body.isSome = true ∧ (fi128.fn.name == "runtime.NumGoroutine") = false := ⟨Try.func128, by kernel_rfl, by kernel_rfl⟩
theorem fn74 : Try.prog.funcs[74]? = some fi74.fn ∧ fi74.fn.body.isSome = true ∧ (fi74.fn.name == "runtime.NumGoroutine") = false := ⟨Try.func74, by kernel_rfl, by kernel_rfl⟩
theorem fn94 : Try.prog.funcs[94]? = some fi94.fn ∧ fi94.fn.body.isSome = true ∧ (fi94.fn.name == "runtime.NumGoroutine") = false := ⟨Try.func94, by kernel_rfl, by kernel_rfl⟩
theorem fn38 : Try.prog.funcs[38]? = some fi38.fn ∧ fi38.fn.body.isSome = true ∧ (fi38.fn.name == "runtime.NumGoroutine") = false := ⟨Try.func38, by kernel_rfl, by kernel_rfl⟩
theorem fn34 : Try.prog.funcs[34]? = some fi34.fn ∧ fi34.fn.body.isSome = true ∧ (fi34.fn.name == "runtime.NumGoroutine") = false := ⟨Try.func34, by kernel_rfl, by kernel_rfl⟩
theorem fn35 : Try.prog.funcs[35]? = some fi35.fn ∧ fi35.fn.body.isSome = true ∧ (fi35.fn.name == "runtime.NumGoroutine") = false := ⟨Try.func35, by kernel_rfl, by kernel_rfl⟩
theorem fn93 : Try.prog.funcs[93]? = some fi93.fn ∧ fi93.fn.body.isSome = true ∧ (fi93.fn.name == "runtime.NumGoroutine") = false := ⟨Try.func93, by kernel_rfl, by kernel_rfl⟩
theorem fn92 : Try.prog.funcs[92]? = some fi92.fn ∧ fi92.fn.body.isSome = true ∧ (fi92.fn.name == "runtime.NumGoroutine") = false := ⟨Try.func92, by kernel_rfl, by kernel_rfl⟩
theorem fn146 : Try.prog.funcs[146]? = some fi146.fn ∧ fi146.fn.body.isSome = true ∧ (fi146.fn.name == "runtime.NumGoroutine") = false := ⟨Try.func146, by kernel_rfl, by kernel_rfl⟩
theorem fn91 : Try.prog.funcs[91]? = some fi91.fn ∧ fi91.fn.body.isSome = true ∧ (fi91.fn.name == "runtime.NumGoroutine") = false := ⟨Try.func91, by kernel_rfl, by kernel_rfl⟩
theorem fn37 : Try.prog.funcs[37]? = some fi37.fn ∧ fi37.fn.body.isSome = true ∧ (fi37.fn.name == "runtime.NumGoroutine") = false := ⟨Try.func37, by kernel_rfl, by kernel_rfl⟩
theorem fn143 : Try.prog.funcs[143]? = some fi143.fn ∧ fi143.fn.body.isSome = true ∧ (fi143.fn.name == "runtime.NumGoroutine") = false := ⟨Try.func143, by kernel_rfl, by kernel_rfl⟩
theorem fn145 : Try.prog.funcs[145]? = some fi145.fn ∧ fi145.fn.body.isSome = true ∧ (fi145.fn.name == "runtime.NumGoroutine") = false := ⟨Try.func145, by kernel_rfl, by kernel_rfl⟩
theorem fn189 : Try.prog.funcs[189]? = some fi189.fn ∧ fi189.fn.body.isSome = true ∧ (fi189.fn.name == "runtime.NumGoroutine") = false := ⟨Try.func189, by kernel_rfl, by kernel_rfl⟩
theorem fn144 : Try.prog.funcs[144]? = some fi144.fn ∧ fi144.fn.body.isSome = true ∧ (fi144.fn.name == "runtime.NumGoroutine") = false := ⟨Try.func144, by kernel_rfl, by kernel_rfl⟩
theorem fn90 : Try.prog.funcs[90]? = some fi90.fn ∧ fi90.fn.body.isSome = true ∧ (fi90.fn.name == "runtime.NumGoroutine") = false := ⟨Try.func90, by kernel_rfl, by kernel_rfl⟩
theorem fn32 : Try.prog.funcs[32]? = some fi32.fn ∧ fi32.fn.body.isSome = true ∧ (fi32.fn.name == "runtime.NumGoroutine") = false := ⟨Try.func32, by kernel_rfl, by kernel_rfl⟩
theorem fn48 : Try.prog.funcs[48]? = some fi48.fn ∧ fi48.fn.body.isSome = true ∧ (fi48.fn.name == "runtime.NumGoroutine") = false := ⟨Try.func48, by kernel_rfl, by kernel_rfl⟩
theorem fn254 : Try.prog.funcs[254]? = some fi254.fn ∧ fi254.fn.body.isSome = true ∧ (fi254.fn.name == "runtime.NumGoroutine") = false := ⟨Try.func254, by kernel_rfl, by kernel_rfl⟩
theorem fn244 : Try.prog.funcs[244]? = some fi244.fn ∧ fi244.fn.body.isSome = true ∧ (fi244.fn.name == "runtime.NumGoroutine") = false := ⟨Try.func244, by kernel_rfl, by kernel_rfl⟩
theorem fn221 : Try.prog.funcs[221]? = some fi221.fn ∧ fi221.fn.body.isSome = true ∧ (fi221.fn.name == "runtime.NumGoroutine") = false := ⟨Try.func221, by kernel_rfl, by kernel_rfl⟩
theorem fn179 : Try.prog.funcs[179]? = some fi179.fn ∧ fi179.fn.body.isSome = true ∧ (fi179.fn.name == "runtime.NumGoroutine") = false := ⟨Try.func179, by kernel_rfl, by kernel_rfl⟩
theorem fn129 : Try.prog.funcs[129]? = some fi129.fn ∧ fi129.fn.body.isSome = true ∧ (fi129.fn.name == "runtime.NumGoroutine") = false := ⟨Try.func129, by kernel_rfl, by kernel_rfl⟩
theorem fn180 : Try.prog.funcs[180]? = some fi180.fn ∧ fi180.fn.body.isSome = true ∧ (fi180.fn.name == "runtime.NumGoroutine") = false := ⟨Try.func180, by kernel_rfl, by kernel_rfl⟩
theorem fn130 : Try.prog.funcs[130]? = some fi130.fn ∧ fi130.fn.body.isSome = true ∧ (fi130.fn.name == "runtime.NumGoroutine") = false := ⟨Try.func130, by kernel_rfl, by kernel_rfl⟩
theorem fn78 : Try.prog.funcs[78]? = some fi78.fn ∧ fi78.fn.body.isSome = true ∧ (fi78.fn.name == "runtime.NumGoroutine") = false := ⟨Try.func78, by kernel_rfl, by kernel_rfl⟩
theorem fn22 : Try.prog.funcs[22]? = some fi22.fn ∧ fi22.fn.body.isSome = true ∧ (fi22.fn.name == "runtime.NumGoroutine") = false := ⟨Try.func22, by kernel_rfl, by kernel_rfl⟩
theorem fn49 : Try.prog.funcs[49]? = some fi49.fn ∧ fi49.fn.body.isSome = true ∧ (fi49.fn.name == "runtime.NumGoroutine") = false := ⟨Try.func49, by kernel_rfl, by kernel_rfl⟩
theorem fn224 : Try.prog.funcs[224]? = some fi224.fn ∧ fi224.fn.body.isSome = true ∧ (fi224.fn.name == "runtime.NumGoroutine") = false := ⟨Try.func224, by kernel_rfl, by kernel_rfl⟩
theorem fn187 : Try.prog.funcs[187]? = some fi187.fn ∧ fi187.fn.body.isSome = true ∧ (fi187.fn.name == "runtime.NumGoroutine") = false := ⟨Try.func187, by kernel_rfl, by kernel_rfl⟩
theorem fn136 : Try.prog.funcs[136]? = some fi136.fn ∧ fi136.fn.body.isSome = true ∧ (fi136.fn.name == "runtime.NumGoroutine") = false := ⟨Try.func136, by kernel_rfl, by kernel_rfl⟩
theorem fn137 : Try.prog.funcs[137]? = some fi137.fn ∧ fi137.fn.body.isSome = true ∧ (fi137.fn.name == "runtime.NumGoroutine") = false := ⟨Try.func137, by kernel_rfl, by kernel_rfl⟩
theorem fn82 : Try.prog.funcs[82]? = some fi82.fn ∧ fi82.fn.body.isSome = true ∧ (fi82.fn.name == "runtime.NumGoroutine") = false := ⟨Try.func82, by kernel_rfl, by kernel_rfl⟩
theorem fn26 : Try.prog.funcs[26]? = some fi26.fn ∧ fi26.fn.body.isSome = true ∧ (fi26.fn.name == "runtime.NumGoroutine") = false := ⟨Try.func26, by kernel_rfl, by kernel_rfl⟩
theorem fn83 : Try.prog.funcs[83]? = some fi83.fn ∧ fi83.fn.body.isSome = true ∧ (fi83.fn.name == "runtime.NumGoroutine") = false := ⟨Try.func83, by kernel_rfl, by kernel_rfl⟩
theorem fn230 : Try.prog.funcs[230]? = some fi230.fn ∧ fi230.fn.body.isSome = true ∧ (fi230.fn.name == "runtime.NumGoroutine") = false := ⟨Try.func230, by kernel_rfl, by kernel_rfl⟩
theorem fn203 : Try.prog.funcs[203]? = some fi203.fn ∧ fi203.fn.body.isSome = true ∧ (fi203.fn.name == "runtime.NumGoroutine") = false := ⟨Try.func203, by kernel_rfl, by kernel_rfl⟩
theorem fn157 : Try.prog.funcs[157]? = some fi157.fn ∧ fi157.fn.body.isSome = true ∧ (fi157.fn.name == "runtime.NumGoroutine") = false := ⟨Try.func157, by kernel_rfl, by kernel_rfl⟩
theorem fn158 : Try.prog.funcs[158]? = some fi158.fn ∧ fi158.fn.body.isSome = true ∧ (fi158.fn.name == "runtime.NumGoroutine") = false := ⟨Try.func158, by kernel_rfl, by kernel_rfl⟩
theorem fn105 : Try.prog.funcs[105]? = some fi105.fn ∧ fi105.fn.body.isSome = true ∧ (fi105.fn.name == "runtime.NumGoroutine") = false := ⟨Try.func105, by kernel_rfl, by kernel_rfl⟩
theorem fn50 : Try.prog.funcs[50]? = some fi50.fn ∧ fi50.fn.body.isSome = true ∧ (fi50.fn.name == "runtime.NumGoroutine") = false := ⟨Try.func50, by kernel_rfl, by kernel_rfl⟩
theorem fn10 : Try.prog.funcs[10]? = some fi10.fn ∧ fi10.fn.body.isSome = true ∧ (fi10.fn.name == "runtime.NumGoroutine") = false := ⟨Try.func10, by kernel_rfl, by kernel_rfl⟩
theorem fns : AllF (fun x : Nat × Fi => Try.prog.funcs[x.1]? = some x.2.fn ∧ x.2.fn.body.isSome = true ∧ (x.2.fn.name == "runtime.NumGoroutine") = false) fiTab := ⟨fn259, fn252, fn242, fn219, fn175, fn122, fn123, fn69, fn18, fn47, fn253, fn243, fn220, fn177, fn126, fn178, fn127, fn73, fn20, fn228, fn194, fn152, fn102, fn71, fn176, fn124, fn125, fn70, fn103, fn196, fn195, fn133, fn153, fn197, fn198, fn154, fn155, fn229, fn200, fn199, fn201, fn202, fn156, fn104, fn46, fn147, fn141, fn142, fn87, fn88, fn75, fn89, fn128, fn74, fn94, fn38, fn34, fn35, fn93, fn92, fn146, fn91, fn37, fn143, fn145, fn189, fn144, fn90, fn32, fn48, fn254, fn244, fn221, fn179, fn129, fn180, fn130, fn78, fn22, fn49, fn224, fn187, fn136, fn137, fn82, fn26, fn83, fn230, fn203, fn157, fn158, fn105, fn50, fn10, trivial⟩
theorem mixed : Try.prog.follows .mixedOrders = true := by kernel_rfl
theorem envOk : EnvOk Try.prog env := envOk_of tys fns mixed
theorem lawTy : ∀ t ti, env.ty t = some ti → lawTyB env ti = true := lawTy_of (by kernel_rfl)
theorem forms : ∀ f fi, env.fi f = some fi → fi.inl = false → fiB fi = true := fiB_of (by kernel_rfl)
theorem cl147 : CallSnd Try.prog fi147 147 cloneF := clone_snd envOk forms (f := 147) (fi := fi147) rfl rfl rfl (t := 56) (e := 5) Try.underlying56 rfl ⟨⟨rfl, rfl, rfl⟩, ⟨rfl, rfl, rfl⟩, ⟨⟨_, rfl⟩, rfl, rfl⟩⟩ (by kernel_rfl) (by kernel_rfl) (fun l => by kernel_rfl)
theorem cl142 : CallSnd Try.prog fi142 142 cloneF := clone_snd envOk forms (f := 142) (fi := fi142) rfl rfl rfl (t := 48) (e := 76) Try.underlying48 rfl ⟨⟨rfl, rfl, rfl⟩, ⟨rfl, rfl, rfl⟩, ⟨⟨_, rfl⟩, rfl, rfl⟩⟩ (by kernel_rfl) (by kernel_rfl) (fun l => by kernel_rfl)
theorem xs : ∀ f g fi, X f = some g → env.fi f = some fi → CallSnd Try.prog fi f g := xs_of (P := Try.prog) (fiL := fiTab) (tyL := tyTab) (⟨fun fi h => (by have h : some fi147 = some fi := h; cases h; exact cl147), ⟨fun fi h => (by have h : some fi142 = some fi := h; cases h; exact cl142), trivial⟩⟩)
end Go.Proofs.Ytdclnhlpifahpaa.T
