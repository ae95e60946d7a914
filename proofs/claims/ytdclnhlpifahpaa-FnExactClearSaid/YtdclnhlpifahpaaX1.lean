/- What functions of the law FnExactClear come to, in trees; no condition. -/
import Derived.Test.YtdclnhlpifahpaaRows
import Derived.Test.YtdclnhlpifahpaaX0
import Derived.KernelRfl
set_option linter.unusedVariables false
set_option linter.constructorNameAsVariable false
set_option linter.unusedSimpArgs false
set_option linter.unnecessarySimpa false
namespace Go.Proofs.Ytdclnhlpifahpaa.T
open Go Go.Proofs.YtdclnhlpifahpaaV
theorem tys : (tyTab.all fun x => tyOkB Try.prog ⟨lookN fiTab, lookN tyTab⟩ x.1 x.2 && (!(x.2.agg && flatB x.2.cs) || eqTyB Try.prog x.1 x.2)) = true := by kernel_rfl
theorem fn259 : Try.prog.funcs[259]? = some fi259.fn ∧ fi259.fn.body.isSome = true ∧ (fi259.fn.name == "runtime.NumGoroutine") = false := ⟨Try.func259, by kernel_rfl, by kernel_rfl⟩
theorem fn266 : Try.prog.funcs[266]? = some fi266.fn ∧ fi266.fn.body.isSome = true ∧ (fi266.fn.name == "runtime.NumGoroutine") = false := ⟨Try.func266, by kernel_rfl, by kernel_rfl⟩
theorem fn260 : Try.prog.funcs[260]? = some fi260.fn ∧ fi260.fn.body.isSome = true ∧ (fi260.fn.name == "runtime.NumGoroutine") = false := ⟨Try.func260, by kernel_rfl, by kernel_rfl⟩
theorem fn267 : Try.prog.funcs[267]? = some fi267.fn ∧ fi267.fn.body.isSome = true ∧ (fi267.fn.name == "runtime.NumGoroutine") = false := ⟨Try.func267, by kernel_rfl, by kernel_rfl⟩
theorem fn261 : Try.prog.funcs[261]? = some fi261.fn ∧ fi261.fn.body.isSome = true ∧ (fi261.fn.name == "runtime.NumGoroutine") = false := ⟨Try.func261, by kernel_rfl, by kernel_rfl⟩
theorem fn255 : Try.prog.funcs[255]? = some fi255.fn ∧ fi255.fn.body.isSome = true ∧ (fi255.fn.name == "runtime.NumGoroutine") = false := ⟨Try.func255, by kernel_rfl, by kernel_rfl⟩
theorem fn248 : Try.prog.funcs[248]? = some fi248.fn ∧ fi248.fn.body.isSome = true ∧ (fi248.fn.name == "runtime.NumGoroutine") = false := ⟨Try.func248, by kernel_rfl, by kernel_rfl⟩
theorem fn231 : Try.prog.funcs[231]? = some fi231.fn ∧ fi231.fn.body.isSome = true ∧ (fi231.fn.name == "runtime.NumGoroutine") = false := ⟨Try.func231, by kernel_rfl, by kernel_rfl⟩
theorem fn204 : Try.prog.funcs[204]? = some fi204.fn ∧ fi204.fn.body.isSome = true ∧ (fi204.fn.name == "runtime.NumGoroutine") = false := ⟨Try.func204, by kernel_rfl, by kernel_rfl⟩
theorem fn159 : Try.prog.funcs[159]? = some fi159.fn ∧ fi159.fn.body.isSome = true ∧ (fi159.fn.name == "runtime.NumGoroutine") = false := ⟨Try.func159, by kernel_rfl, by kernel_rfl⟩
theorem fn107 : Try.prog.funcs[107]? = some fi107.fn ∧ fi107.fn.body.isSome = true ∧ (fi107.fn.name == "runtime.NumGoroutine") = false := ⟨Try.func107, by kernel_rfl, by kernel_rfl⟩
theorem fn232 : Try.prog.funcs[232]? = some fi232.fn ∧ fi232.fn.body.isSome = true ∧ (fi232.fn.name == "runtime.NumGoroutine") = false := ⟨Try.func232, by kernel_rfl, by kernel_rfl⟩
theorem fn205 : Try.prog.funcs[205]? = some fi205.fn ∧ fi205.fn.body.isSome = true ∧ (fi205.fn.name == "runtime.NumGoroutine") = false := ⟨Try.func205, by kernel_rfl, by kernel_rfl⟩
theorem fn160 : Try.prog.funcs[160]? = some fi160.fn ∧ fi160.fn.body.isSome = true ∧ (fi160.fn.name == "runtime.NumGoroutine") = false := ⟨Try.func160, by kernel_rfl, by kernel_rfl⟩
theorem fn233 : Try.prog.funcs[233]? = some fi233.fn ∧ fi233.fn.body.isSome = true ∧ (fi233.fn.name == "runtime.NumGoroutine") = false := ⟨Try.func233, by kernel_rfl, by kernel_rfl⟩
theorem fn206 : Try.prog.funcs[206]? = some fi206.fn ∧ fi206.fn.body.isSome = true ∧ (fi206.fn.name == "runtime.NumGoroutine") = false := ⟨Try.func206, by kernel_rfl, by kernel_rfl⟩
theorem fn161 : Try.prog.funcs[161]? = some fi161.fn ∧ fi161.fn.body.isSome = true ∧ (fi161.fn.name == "runtime.NumGoroutine") = false := ⟨Try.func161, by kernel_rfl, by kernel_rfl⟩
theorem fn108 : Try.prog.funcs[108]? = some fi108.fn ∧ fi108.fn.body.isSome = true ∧ (fi108.fn.name == "runtime.NumGoroutine") = false := ⟨Try.func108, by kernel_rfl, by kernel_rfl⟩
theorem fn252 : Try.prog.funcs[252]? = some fi252.fn ∧ fi252.fn.body.isSome = true ∧ (fi252.fn.name == "runtime.NumGoroutine") = false := ⟨Try.func252, by kernel_rfl, by kernel_rfl⟩
theorem fn242 : Try.prog.funcs[242]? = some fi242.fn ∧ fi242.fn.body.isSome = true ∧ (fi242.fn.name == "runtime.NumGoroutine") = false := ⟨Try.func242, by kernel_rfl, by kernel_rfl⟩
theorem fn219 : Try.prog.funcs[219]? = some fi219.fn ∧ fi219.fn.body.isSome = true ∧ (fi219.fn.name == "runtime.NumGoroutine") = false := ⟨Try.func219, by kernel_rfl, by kernel_rfl⟩
theorem fn175 : Try.prog.funcs[175]? = some fi175.fn ∧ fi175.fn.body.isSome = true ∧ (fi175.fn.name == "runtime.NumGoroutine") = false := ⟨Try.func175, by kernel_rfl, by kernel_rfl⟩
theorem fn122 : Try.prog.funcs[122]? = some fi122.fn ∧ fi122.fn.body.isSome = true ∧ (fi122.fn.name == "runtime.NumGoroutine") = false := ⟨Try.func122, by kernel_rfl, by kernel_rfl⟩
theorem fn123 : Try.prog.funcs[123]? = some fi123.fn ∧ fi123.fn.body.isSome = true ∧ (fi123.fn.name == "runtime.NumGoroutine") = false := ⟨Try.func123, by kernel_rfl, by kernel_rfl⟩
theorem fn69 : Try.prog.funcs[69]? = some fi69.fn ∧ fi69.fn.body.isSome = true ∧ (fi69.fn.name == "runtime.NumGoroutine") = false := ⟨Try.func69, by kernel_rfl, by kernel_rfl⟩
theorem fn18 : Try.prog.funcs[18]? = some fi18.fn ∧ fi18.fn.body.isSome = true ∧ (fi18.fn.name == "runtime.NumGoroutine") = false := ⟨Try.func18, by kernel_rfl, by kernel_rfl⟩
theorem fn53 : Try.prog.funcs[53]? = some fi53.fn ∧ fi53.fn.body.isSome = true ∧ (fi53.fn.name == "runtime.NumGoroutine") = false := ⟨Try.func53, by kernel_rfl, by kernel_rfl⟩
theorem fn47 : Try.prog.funcs[47]? = some fi47.fn ∧ fi47.fn.body.isSome = true ∧ (fi47.fn.name == "runtime.NumGoroutine") = false := ⟨Try.func47, by kernel_rfl, by kernel_rfl⟩
theorem fn268 : Try.prog.funcs[268]? = some fi268.fn ∧ fi268.fn.body.isSome = true ∧ (fi268.fn.name == "runtime.NumGoroutine") = false := ⟨Try.func268, by kernel_rfl, by kernel_rfl⟩
theorem fn262 : Try.prog.funcs[262]? = some fi262.fn ∧ fi262.fn.body.isSome = true ∧ (fi262.fn.name == "runtime.NumGoroutine") = false := ⟨Try.func262, by kernel_rfl, by kernel_rfl⟩
theorem fn269 : Try.prog.funcs[269]? = some fi269.fn ∧ fi269.fn.body.isSome = true ∧ (fi269.fn.name == "runtime.NumGoroutine") = false := ⟨Try.func269, by kernel_rfl, by kernel_rfl⟩
theorem fn263 : Try.prog.funcs[263]? = some fi263.fn ∧ fi263.fn.body.isSome = true ∧ (fi263.fn.name == "runtime.NumGoroutine") = false := ⟨Try.func263, by kernel_rfl, by kernel_rfl⟩
theorem fn256 : Try.prog.funcs[256]? = some fi256.fn ∧ fi256.fn.body.isSome = true ∧ (fi256.fn.name == "runtime.NumGoroutine") = false := ⟨Try.func256, by kernel_rfl, by kernel_rfl⟩
theorem fn249 : Try.prog.funcs[249]? = some fi249.fn ∧ fi249.fn.body.isSome = true ∧ (fi249.fn.name == "runtime.NumGoroutine") = false := ⟨Try.func249, by kernel_rfl, by kernel_rfl⟩
theorem fn235 : Try.prog.funcs[235]? = some fi235.fn ∧ fi235.fn.body.isSome = true ∧ (fi235.fn.name == "runtime.NumGoroutine") = false := ⟨Try.func235, by kernel_rfl, by kernel_rfl⟩
theorem fn208 : Try.prog.funcs[208]? = some fi208.fn ∧ fi208.fn.body.isSome = true ∧ (fi208.fn.name == "runtime.NumGoroutine") = false := ⟨Try.func208, by kernel_rfl, by kernel_rfl⟩
theorem fn163 : Try.prog.funcs[163]? = some fi163.fn ∧ fi163.fn.body.isSome = true ∧ (fi163.fn.name == "runtime.NumGoroutine") = false := ⟨Try.func163, by kernel_rfl, by kernel_rfl⟩
theorem fn110 : Try.prog.funcs[110]? = some fi110.fn ∧ fi110.fn.body.isSome = true ∧ (fi110.fn.name == "runtime.NumGoroutine") = false := ⟨Try.func110, by kernel_rfl, by kernel_rfl⟩
theorem fn236 : Try.prog.funcs[236]? = some fi236.fn ∧ fi236.fn.body.isSome = true ∧ (fi236.fn.name == "runtime.NumGoroutine") = false := ⟨Try.func236, by kernel_rfl, by kernel_rfl⟩
theorem fn209 : Try.prog.funcs[209]? = some fi209.fn ∧ fi209.fn.body.isSome = true ∧ (fi209.fn.name == "runtime.NumGoroutine") = false := ⟨Try.func209, by kernel_rfl, by kernel_rfl⟩
theorem fn164 : Try.prog.funcs[164]? = some fi164.fn ∧ fi164.fn.body.isSome = true ∧ (fi164.fn.name == "runtime.NumGoroutine") = false := ⟨Try.func164, by kernel_rfl, by kernel_rfl⟩
theorem fn250 : Try.prog.funcs[250]? = some fi250.fn ∧ fi250.fn.body.isSome = true ∧ (fi250.fn.name == "runtime.NumGoroutine") = false := ⟨Try.func250, by kernel_rfl, by kernel_rfl⟩
theorem fn237 : Try.prog.funcs[237]? = some fi237.fn ∧ fi237.fn.body.isSome = true ∧ (fi237.fn.name == "runtime.NumGoroutine") = false := ⟨Try.func237, by kernel_rfl, by kernel_rfl⟩
theorem fn210 : Try.prog.funcs[210]? = some fi210.fn ∧ fi210.fn.body.isSome = true ∧ (fi210.fn.name == "runtime.NumGoroutine") = false := ⟨Try.func210, by kernel_rfl, by kernel_rfl⟩
theorem fn165 : Try.prog.funcs[165]? = some fi165.fn ∧ fi165.fn.body.isSome = true ∧ (fi165.fn.name == "runtime.NumGoroutine") = false := ⟨Try.func165, by kernel_rfl, by kernel_rfl⟩
theorem fn111 : Try.prog.funcs[111]? = some fi111.fn ∧ fi111.fn.body.isSome = true ∧ (fi111.fn.name == "runtime.NumGoroutine") = false := ⟨Try.func111, by kernel_rfl, by kernel_rfl⟩
theorem fn253 : Try.prog.funcs[253]? = some fi253.fn ∧ fi253.fn.body.isSome = true ∧ (fi253.fn.name == "runtime.NumGoroutine") = false := ⟨Try.func253, by kernel_rfl, by kernel_rfl⟩
theorem fn243 : Try.prog.funcs[243]? = some fi243.fn ∧ fi243.fn.body.isSome = true ∧ (fi243.fn.name == "runtime.NumGoroutine") = false := ⟨Try.func243, by kernel_rfl, by kernel_rfl⟩
theorem fn220 : Try.prog.funcs[220]? = some fi220.fn ∧ fi220.fn.body.isSome = true ∧ (fi220.fn.name == "runtime.NumGoroutine") = false := ⟨Try.func220, by kernel_rfl, by kernel_rfl⟩
theorem fn177 : Try.prog.funcs[177]? = some fi177.fn ∧ fi177.fn.body.isSome = true ∧ (fi177.fn.name == "runtime.NumGoroutine") = false := ⟨Try.func177, by kernel_rfl, by kernel_rfl⟩
theorem fn126 : Try.prog.funcs[126]? = some fi126.fn ∧ fi126.fn.body.isSome = true ∧ (fi126.fn.name == "runtime.NumGoroutine") = false := ⟨Try.func126, by kernel_rfl, by kernel_rfl⟩
theorem fn178 : Try.prog.funcs[178]? = some fi178.fn ∧ fi178.fn.body.isSome = true ∧ (fi178.fn.name == "runtime.NumGoroutine") = false := ⟨Try.func178, by kernel_rfl, by kernel_rfl⟩
theorem fn127 : Try.prog.funcs[127]? = some fi127.fn ∧ fi127.fn.body.isSome = true ∧ (fi127.fn.name == "runtime.NumGoroutine") = false := ⟨Try.func127, by kernel_rfl, by kernel_rfl⟩
theorem fn73 : Try.prog.funcs[73]? = some fi73.fn ∧ fi73.fn.body.isSome = true ∧ (fi73.fn.name == "runtime.NumGoroutine") = false := ⟨Try.func73, by kernel_rfl, by kernel_rfl⟩
theorem fn20 : Try.prog.funcs[20]? = some fi20.fn ∧ fi20.fn.body.isSome = true ∧ (fi20.fn.name == "runtime.NumGoroutine") = false := ⟨Try.func20, by kernel_rfl, by kernel_rfl⟩
theorem fn55 : Try.prog.funcs[55]? = some fi55.fn ∧ fi55.fn.body.isSome = true ∧ (fi55.fn.name == "runtime.NumGoroutine") = false := ⟨Try.func55, by kernel_rfl, by kernel_rfl⟩
theorem fn234 : Try.prog.funcs[234]? = some fi234.fn ∧ fi234.fn.body.isSome = true ∧ (fi234.fn.name == "runtime.NumGoroutine") = false := ⟨Try.func234, by kernel_rfl, by kernel_rfl⟩
theorem fn207 : Try.prog.funcs[207]? = some fi207.fn ∧ fi207.fn.body.isSome = true ∧ (fi207.fn.name == "runtime.NumGoroutine") = false := ⟨Try.func207, by kernel_rfl, by kernel_rfl⟩
theorem fn162 : Try.prog.funcs[162]? = some fi162.fn ∧ fi162.fn.body.isSome = true ∧ (fi162.fn.name == "runtime.NumGoroutine") = false := ⟨Try.func162, by kernel_rfl, by kernel_rfl⟩
theorem fn109 : Try.prog.funcs[109]? = some fi109.fn ∧ fi109.fn.body.isSome = true ∧ (fi109.fn.name == "runtime.NumGoroutine") = false := ⟨Try.func109, by kernel_rfl, by kernel_rfl⟩
theorem fn54 : Try.prog.funcs[54]? = some fi54.fn ∧ fi54.fn.body.isSome = true ∧ (fi54.fn.name == "runtime.NumGoroutine") = false := ⟨Try.func54, by kernel_rfl, by kernel_rfl⟩
theorem fn166 : Try.prog.funcs[166]? = some fi166.fn ∧ fi166.fn.body.isSome = true ∧ (fi166.fn.name == "runtime.NumGoroutine") = false := ⟨Try.func166, by kernel_rfl, by kernel_rfl⟩
theorem fn211 : Try.prog.funcs[211]? = some fi211.fn ∧ fi211.fn.body.isSome = true ∧ (fi211.fn.name == "runtime.NumGoroutine") = false := ⟨Try.func211, by kernel_rfl, by kernel_rfl⟩
theorem fn238 : Try.prog.funcs[238]? = some fi238.fn ∧ fi238.fn.body.isSome = true ∧ (fi238.fn.name == "runtime.NumGoroutine") = false := ⟨Try.func238, by kernel_rfl, by kernel_rfl⟩
theorem fn239 : Try.prog.funcs[239]? = some fi239.fn ∧ fi239.fn.body.isSome = true ∧ (fi239.fn.name == "runtime.NumGoroutine") = false := ⟨Try.func239, by kernel_rfl, by kernel_rfl⟩
theorem fn240 : Try.prog.funcs[240]? = some fi240.fn ∧ fi240.fn.body.isSome = true ∧ (fi240.fn.name == "runtime.NumGoroutine") = false := ⟨Try.func240, by kernel_rfl, by kernel_rfl⟩
theorem fn212 : Try.prog.funcs[212]? = some fi212.fn ∧ fi212.fn.body.isSome = true ∧ (fi212.fn.name == "runtime.NumGoroutine") = false := ⟨Try.func212, by kernel_rfl, by kernel_rfl⟩
theorem fn168 : Try.prog.funcs[168]? = some fi168.fn ∧ fi168.fn.body.isSome = true ∧ (fi168.fn.name == "runtime.NumGoroutine") = false := ⟨Try.func168, by kernel_rfl, by kernel_rfl⟩
theorem fn167 : Try.prog.funcs[167]? = some fi167.fn ∧ fi167.fn.body.isSome = true ∧ (fi167.fn.name == "runtime.NumGoroutine") = false := ⟨Try.func167, by kernel_rfl, by kernel_rfl⟩
theorem fn112 : Try.prog.funcs[112]? = some fi112.fn ∧ fi112.fn.body.isSome = true ∧ (fi112.fn.name == "runtime.NumGoroutine") = false := ⟨Try.func112, by kernel_rfl, by kernel_rfl⟩
theorem fn56 : Try.prog.funcs[56]? = some fi56.fn ∧ fi56.fn.body.isSome = true ∧ (fi56.fn.name == "runtime.NumGoroutine") = false := ⟨Try.func56, by kernel_rfl, by kernel_rfl⟩
theorem fn48 : Try.prog.funcs[48]? = some fi48.fn ∧ fi48.fn.body.isSome = true ∧ (fi48.fn.name == "runtime.NumGoroutine") = false := ⟨Try.func48, by kernel_rfl, by kernel_rfl⟩
theorem fn264 : Try.prog.funcs[264]? = some fi264.fn ∧ fi264.fn.body.isSome = true ∧ (fi264.fn.name == "runtime.NumGoroutine") = false := ⟨Try.func264, by kernel_rfl, by kernel_rfl⟩
theorem fn257 : Try.prog.funcs[257]? = some fi257.fn ∧ fi257.fn.body.isSome = true ∧ (fi257.fn.name == "runtime.NumGoroutine") = false := ⟨Try.func257, by kernel_rfl, by kernel_rfl⟩
theorem fn265 : Try.prog.funcs[265]? = some fi265.fn ∧ fi265.fn.body.isSome = true ∧ (fi265.fn.name == "runtime.NumGoroutine") = false := ⟨Try.func265, by kernel_rfl, by kernel_rfl⟩
theorem fn258 : Try.prog.funcs[258]? = some fi258.fn ∧ fi258.fn.body.isSome = true ∧ (fi258.fn.name == "runtime.NumGoroutine") = false := ⟨Try.func258, by kernel_rfl, by kernel_rfl⟩
theorem fn251 : Try.prog.funcs[251]? = some fi251.fn ∧ fi251.fn.body.isSome = true ∧ (fi251.fn.name == "runtime.NumGoroutine") = false := ⟨Try.func251, by kernel_rfl, by kernel_rfl⟩
theorem fn241 : Try.prog.funcs[241]? = some fi241.fn ∧ fi241.fn.body.isSome = true ∧ (fi241.fn.name == "runtime.NumGoroutine") = false := ⟨Try.func241, by kernel_rfl, by kernel_rfl⟩
theorem fn213 : Try.prog.funcs[213]? = some fi213.fn ∧ fi213.fn.body.isSome = true ∧ (fi213.fn.name == "runtime.NumGoroutine") = false := ⟨Try.func213, by kernel_rfl, by kernel_rfl⟩
theorem fn169 : Try.prog.funcs[169]? = some fi169.fn ∧ fi169.fn.body.isSome = true ∧ (fi169.fn.name == "runtime.NumGoroutine") = false := ⟨Try.func169, by kernel_rfl, by kernel_rfl⟩
theorem fn113 : Try.prog.funcs[113]? = some fi113.fn ∧ fi113.fn.body.isSome = true ∧ (fi113.fn.name == "runtime.NumGoroutine") = false := ⟨Try.func113, by kernel_rfl, by kernel_rfl⟩
theorem fn60 : Try.prog.funcs[60]? = some fi60.fn ∧ fi60.fn.body.isSome = true ∧ (fi60.fn.name == "runtime.NumGoroutine") = false := ⟨Try.func60, by kernel_rfl, by kernel_rfl⟩
theorem fn170 : Try.prog.funcs[170]? = some fi170.fn ∧ fi170.fn.body.isSome = true ∧ (fi170.fn.name == "runtime.NumGoroutine") = false := ⟨Try.func170, by kernel_rfl, by kernel_rfl⟩
theorem fn114 : Try.prog.funcs[114]? = some fi114.fn ∧ fi114.fn.body.isSome = true ∧ (fi114.fn.name == "runtime.NumGoroutine") = false := ⟨Try.func114, by kernel_rfl, by kernel_rfl⟩
theorem fn61 : Try.prog.funcs[61]? = some fi61.fn ∧ fi61.fn.body.isSome = true ∧ (fi61.fn.name == "runtime.NumGoroutine") = false := ⟨Try.func61, by kernel_rfl, by kernel_rfl⟩
theorem fn214 : Try.prog.funcs[214]? = some fi214.fn ∧ fi214.fn.body.isSome = true ∧ (fi214.fn.name == "runtime.NumGoroutine") = false := ⟨Try.func214, by kernel_rfl, by kernel_rfl⟩
theorem fn171 : Try.prog.funcs[171]? = some fi171.fn ∧ fi171.fn.body.isSome = true ∧ (fi171.fn.name == "runtime.NumGoroutine") = false := ⟨Try.func171, by kernel_rfl, by kernel_rfl⟩
theorem fn115 : Try.prog.funcs[115]? = some fi115.fn ∧ fi115.fn.body.isSome = true ∧ (fi115.fn.name == "runtime.NumGoroutine") = false := ⟨Try.func115, by kernel_rfl, by kernel_rfl⟩
theorem fn62 : Try.prog.funcs[62]? = some fi62.fn ∧ fi62.fn.body.isSome = true ∧ (fi62.fn.name == "runtime.NumGoroutine") = false := ⟨Try.func62, by kernel_rfl, by kernel_rfl⟩
theorem fn15 : Try.prog.funcs[15]? = some fi15.fn ∧ fi15.fn.body.isSome = true ∧ (fi15.fn.name == "runtime.NumGoroutine") = false := ⟨Try.func15, by kernel_rfl, by kernel_rfl⟩
theorem fn254 : Try.prog.funcs[254]? = some fi254.fn ∧ fi254.fn.body.isSome = true ∧ (fi254.fn.name == "runtime.NumGoroutine") = false := ⟨Try.func254, by kernel_rfl, by kernel_rfl⟩
theorem fn244 : Try.prog.funcs[244]? = some fi244.fn ∧ fi244.fn.body.isSome = true ∧ (fi244.fn.name == "runtime.NumGoroutine") = false := ⟨Try.func244, by kernel_rfl, by kernel_rfl⟩
theorem fn221 : Try.prog.funcs[221]? = some fi221.fn ∧ fi221.fn.body.isSome = true ∧ (fi221.fn.name == "runtime.NumGoroutine") = false := ⟨Try.func221, by kernel_rfl, by kernel_rfl⟩
theorem fn179 : Try.prog.funcs[179]? = some fi179.fn ∧ fi179.fn.body.isSome = true ∧ (fi179.fn.name == "runtime.NumGoroutine") = false := ⟨Try.func179, by kernel_rfl, by kernel_rfl⟩
theorem fn129 : Try.prog.funcs[129]? = some fi129.fn ∧ fi129.fn.body.isSome = true ∧ (fi129.fn.name == "runtime.NumGoroutine") = false := ⟨Try.func129, by kernel_rfl, by kernel_rfl⟩
theorem fn180 : Try.prog.funcs[180]? = some fi180.fn ∧ fi180.fn.body.isSome = true ∧ (fi180.fn.name == "runtime.NumGoroutine") = false := ⟨Try.func180, by kernel_rfl, by kernel_rfl⟩
theorem fn130 : Try.prog.funcs[130]? = some fi130.fn ∧ fi130.fn.body.isSome = true ∧ (fi130.fn.name == "runtime.NumGoroutine") = false := ⟨Try.func130, by kernel_rfl, by kernel_rfl⟩
theorem fn78 : Try.prog.funcs[78]? = some fi78.fn ∧ fi78.fn.body.isSome = true ∧ (fi78.fn.name == "runtime.NumGoroutine") = false := ⟨Try.func78, by kernel_rfl, by kernel_rfl⟩
theorem fn22 : Try.prog.funcs[22]? = some fi22.fn ∧ fi22.fn.body.isSome = true ∧ (fi22.fn.name == "runtime.NumGoroutine") = false := ⟨Try.func22, by kernel_rfl, by kernel_rfl⟩
theorem fn57 : Try.prog.funcs[57]? = some fi57.fn ∧ fi57.fn.body.isSome = true ∧ (fi57.fn.name == "runtime.NumGoroutine") = false := ⟨Try.func57, by kernel_rfl, by kernel_rfl⟩
theorem fn12 : Try.prog.funcs[12]? = some fi12.fn ∧ fi12.fn.body.isSome = true ∧ (fi12.fn.name == "runtime.NumGoroutine") = false := ⟨Try.func12, by kernel_rfl, by kernel_rfl⟩
theorem fns : AllF (fun x : Nat × Fi => Try.prog.funcs[x.1]? = some x.2.fn ∧ x.2.fn.body.isSome = true ∧ (x.2.fn.name == "runtime.NumGoroutine") = false) fiTab := ⟨fn259, fn266, fn260, fn267, fn261, fn255, fn248, fn231, fn204, fn159, fn107, fn232, fn205, fn160, fn233, fn206, fn161, fn108, fn252, fn242, fn219, fn175, fn122, fn123, fn69, fn18, fn53, fn47, fn268, fn262, fn269, fn263, fn256, fn249, fn235, fn208, fn163, fn110, fn236, fn209, fn164, fn250, fn237, fn210, fn165, fn111, fn253, fn243, fn220, fn177, fn126, fn178, fn127, fn73, fn20, fn55, fn234, fn207, fn162, fn109, fn54, fn166, fn211, fn238, fn239, fn240, fn212, fn168, fn167, fn112, fn56, fn48, fn264, fn257, fn265, fn258, fn251, fn241, fn213, fn169, fn113, fn60, fn170, fn114, fn61, fn214, fn171, fn115, fn62, fn15, fn254, fn244, fn221, fn179, fn129, fn180, fn130, fn78, fn22, fn57, fn12, trivial⟩
theorem mixed : Try.prog.follows .mixedOrders = true := by kernel_rfl
theorem envOk : EnvOk Try.prog env := envOk_of tys fns mixed
theorem lawTy : ∀ t ti, env.ty t = some ti → lawTyB env ti = true := lawTy_of (by kernel_rfl)
theorem forms : ∀ f fi, env.fi f = some fi → fi.inl = false → fiB fi = true := fiB_of (by kernel_rfl)
theorem xs : ∀ f g fi, X f = some g → env.fi f = some fi → CallSnd Try.prog fi f g := xs_of (P := Try.prog) (fiL := fiTab) (tyL := tyTab) (trivial)
end Go.Proofs.Ytdclnhlpifahpaa.T
