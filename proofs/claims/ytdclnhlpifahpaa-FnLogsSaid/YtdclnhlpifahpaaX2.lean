/- What functions of the law FnLogs come to, in trees; no condition. -/
import Derived.Test.YtdclnhlpifahpaaRows
import Derived.Test.YtdclnhlpifahpaaX1
import Derived.KernelRfl
set_option linter.unusedVariables false
set_option linter.constructorNameAsVariable false
set_option linter.unusedSimpArgs false
set_option linter.unnecessarySimpa false
namespace Go.Proofs.Ytdclnhlpifahpaa.T
open Go Go.Proofs.YtdclnhlpifahpaaV
theorem tys : (tyTab.all fun x => tyOkB Try.prog ⟨lookN fiTab, lookN tyTab⟩ x.1 x.2 && (!(x.2.agg && flatB x.2.cs) || eqTyB Try.prog x.1 x.2)) = true := by kernel_rfl
theorem fn29 : Try.prog.funcs[29]? = some fi29.fn ∧ fi29.fn.body.isSome = true ∧ (fi29.fn.name == "runtime.NumGoroutine") = false := ⟨Try.func29, by kernel_rfl, by kernel_rfl⟩
theorem fn84 : Try.prog.funcs[84]? = some fi84.fn ∧ fi84.fn.body.isSome = true ∧ (fi84.fn.name == "runtime.NumGoroutine") = false := ⟨Try.func84, by kernel_rfl, by kernel_rfl⟩
theorem fn149 : Try.prog.funcs[149]? = some fi149.fn ∧ fi149.fn.body.isSome = true ∧ (fi149.fn.name == "runtime.NumGoroutine") = false := ⟨Try.func149, by kernel_rfl, by kernel_rfl⟩
theorem fn97 : Try.prog.funcs[97]? = some fi97.fn ∧ fi97.fn.body.isSome = true ∧ (fi97.fn.name == "runtime.NumGoroutine") = false := ⟨Try.func97, by kernel_rfl, by kernel_rfl⟩
theorem fn96 : Try.prog.funcs[96]? = some fi96.fn ∧ fi96.fn.body.isSome = true ∧ (fi96.fn.name == "runtime.NumGoroutine") = false := ⟨Try.func96, by kernel_rfl, by kernel_rfl⟩
theorem fn139 : Try.prog.funcs[139]? = some fi139.fn ∧ fi139.fn.body.isSome = true ∧ (fi139.fn.name == "runtime.NumGoroutine") = false := ⟨Try.func139, by kernel_rfl, by kernel_rfl⟩
theorem fn71 : Try.prog.funcs[71]? = some fi71.fn ∧ fi71.fn.body.isSome = true ∧ (fi71.fn.name == "runtime.NumGoroutine") = false := ⟨Try.func71, by kernel_rfl, by kernel_rfl⟩
theorem fn188 : Try.prog.funcs[188]? = some fi188.fn ∧ fi188.fn.body.isSome = true ∧ (fi188.fn.name == "runtime.NumGoroutine") = false := ⟨Try.func188, by kernel_rfl, by kernel_rfl⟩
theorem fn176 : Try.prog.funcs[176]? = some fi176.fn ∧ fi176.fn.body.isSome = true ∧ (fi176.fn.name == "runtime.NumGoroutine") = false := ⟨Try.func176, by kernel_rfl, by kernel_rfl⟩
theorem fn124 : Try.prog.funcs[124]? = some fi124.fn ∧ fi124.fn.body.isSome = true ∧ (fi124.fn.name == "runtime.NumGoroutine") = false := ⟨Try.func124, by kernel_rfl, by kernel_rfl⟩
theorem fn125 : Try.prog.funcs[125]? = some fi125.fn ∧ fi125.fn.body.isSome = true ∧ (fi125.fn.name == "runtime.NumGoroutine") = false := ⟨Try.func125, by kernel_rfl, by kernel_rfl⟩
theorem fn70 : Try.prog.funcs[70]? = some fi70.fn ∧ fi70.fn.body.isSome = true ∧ (fi70.fn.name == "runtime.NumGoroutine") = false := ⟨Try.func70, by kernel_rfl, by kernel_rfl⟩
theorem fn138 : Try.prog.funcs[138]? = some fi138.fn ∧ fi138.fn.body.isSome = true ∧ (fi138.fn.name == "runtime.NumGoroutine") = false := ⟨Try.func138, by kernel_rfl, by kernel_rfl⟩
theorem fn140 : Try.prog.funcs[140]? = some fi140.fn ∧ fi140.fn.body.isSome = true ∧ (fi140.fn.name == "runtime.NumGoroutine") = false := ⟨Try.func140, by kernel_rfl, by kernel_rfl⟩
theorem fn86 : Try.prog.funcs[86]? = some fi86.fn ∧ fi86.fn.body.isSome = true ∧ (fi86.fn.name == "runtime.NumGoroutine") = false := ⟨Try.func86, by kernel_rfl, by kernel_rfl⟩
theorem fn228 : Try.prog.funcs[228]? = some fi228.fn ∧ fi228.fn.body.isSome = true ∧ (fi228.fn.name == "runtime.NumGoroutine") = false := ⟨Try.func228, by kernel_rfl, by kernel_rfl⟩
theorem fn194 : Try.prog.funcs[194]? = some fi194.fn ∧ fi194.fn.body.isSome = true ∧ (fi194.fn.name == "runtime.NumGoroutine") = false := ⟨Try.func194, by kernel_rfl, by kernel_rfl⟩
theorem fn152 : Try.prog.funcs[152]? = some fi152.fn ∧ fi152.fn.body.isSome = true ∧ (fi152.fn.name == "runtime.NumGoroutine") = false := ⟨Try.func152, by kernel_rfl, by kernel_rfl⟩
theorem fn102 : Try.prog.funcs[102]? = some fi102.fn ∧ fi102.fn.body.isSome = true ∧ (fi102.fn.name == "runtime.NumGoroutine") = false := ⟨Try.func102, by kernel_rfl, by kernel_rfl⟩
theorem fn103 : Try.prog.funcs[103]? = some fi103.fn ∧ fi103.fn.body.isSome = true ∧ (fi103.fn.name == "runtime.NumGoroutine") = false := ⟨Try.func103, by kernel_rfl, by kernel_rfl⟩
theorem fn196 : Try.prog.funcs[196]? = some fi196.fn ∧ fi196.fn.body.isSome = true ∧ (fi196.fn.name == "runtime.NumGoroutine") = false := ⟨Try.func196, by kernel_rfl, by kernel_rfl⟩
theorem fn195 : Try.prog.funcs[195]? = some fi195.fn ∧ fi195.fn.body.isSome = true ∧ (fi195.fn.name == "runtime.NumGoroutine") = false := ⟨Try.func195, by kernel_rfl, by kernel_rfl⟩
theorem fn133 : Try.prog.funcs[133]? = some fi133.fn ∧ fi133.fn.body.isSome = true ∧ (fi133.fn.name == "runtime.NumGoroutine") = false := ⟨Try.func133, by kernel_rfl, by kernel_rfl⟩
theorem fn153 : Try.prog.funcs[153]? = some fi153.fn ∧ fi153.fn.body.isSome = true ∧ (fi153.fn.name == "runtime.NumGoroutine") = false := ⟨Try.func153, by kernel_rfl, by kernel_rfl⟩
theorem fn197 : Try.prog.funcs[197]? = some fi197.fn ∧ fi197.fn.body.isSome = true ∧ (fi197.fn.name == "runtime.NumGoroutine") = false := ⟨Try.func197, by kernel_rfl, by kernel_rfl⟩
theorem fn198 : Try.prog.funcs[198]? = some fi198.fn ∧ fi198.fn.body.isSome = true ∧ (fi198.fn.name == "runtime.NumGoroutine") = false := ⟨Try.func198, by kernel_rfl, by kernel_rfl⟩
theorem fn154 : Try.prog.funcs[154]? = some fi154.fn ∧ fi154.fn.body.isSome = true ∧ (fi154.fn.name == "runtime.NumGoroutine") = false := ⟨Try.func154, by kernel_rfl, by kernel_rfl⟩
theorem fn155 : Try.prog.funcs[155]? = some fi155.fn ∧ fi155.fn.body.isSome = true ∧ (fi155.fn.name == "runtime.NumGoroutine") = false := ⟨Try.func155, by kernel_rfl, by kernel_rfl⟩
theorem fn229 : Try.prog.funcs[229]? = some fi229.fn ∧ fi229.fn.body.isSome = true ∧ (fi229.fn.name == "runtime.NumGoroutine") = false := ⟨Try.func229, by kernel_rfl, by kernel_rfl⟩
theorem fn200 : Try.prog.funcs[200]? = some fi200.fn ∧ fi200.fn.body.isSome = true ∧ (fi200.fn.name == "runtime.NumGoroutine") = false := ⟨Try.func200, by kernel_rfl, by kernel_rfl⟩
theorem fn199 : Try.prog.funcs[199]? = some fi199.fn ∧ fi199.fn.body.isSome = true ∧ (fi199.fn.name == "runtime.NumGoroutine") = false := ⟨Try.func199, by kernel_rfl, by kernel_rfl⟩
theorem fn201 : Try.prog.funcs[201]? = some fi201.fn ∧ fi201.fn.body.isSome = true ∧ (fi201.fn.name == "runtime.NumGoroutine") = false := ⟨Try.func201, by kernel_rfl, by kernel_rfl⟩
theorem fn202 : Try.prog.funcs[202]? = some fi202.fn ∧ fi202.fn.body.isSome = true ∧ (fi202.fn.name == "runtime.NumGoroutine") = false := ⟨Try.func202, by kernel_rfl, by kernel_rfl⟩
theorem fn156 : Try.prog.funcs[156]? = some fi156.fn ∧ fi156.fn.body.isSome = true ∧ (fi156.fn.name == "runtime.NumGoroutine") = false := ⟨Try.func156, by kernel_rfl, by kernel_rfl⟩
theorem fn104 : Try.prog.funcs[104]? = some fi104.fn ∧ fi104.fn.body.isSome = true ∧ (fi104.fn.name == "runtime.NumGoroutine") = false := ⟨Try.func104, by kernel_rfl, by kernel_rfl⟩
theorem fn46 : Try.prog.funcs[46]? = some fi46.fn ∧ fi46.fn.body.isSome = true ∧ (fi46.fn.name == "runtime.NumGoroutine") = false := ⟨Try.func46, by kernel_rfl, by kernel_rfl⟩
theorem fn106 : Try.prog.funcs[106]? = some fi106.fn ∧ fi106.fn.body.isSome = true ∧ (fi106.fn.name == "runtime.NumGoroutine") = false := ⟨Try.func106, by kernel_rfl, by kernel_rfl⟩
theorem fn85 : Try.prog.funcs[85]? = some fi85.fn ∧ fi85.fn.body.isSome = true ∧ (fi85.fn.name == "runtime.NumGoroutine") = false := ⟨Try.func85, by kernel_rfl, by kernel_rfl⟩
theorem fn245 : Try.prog.funcs[245]? = some fi245.fn ∧ fi245.fn.body.isSome = true ∧ (fi245.fn.name == "runtime.NumGoroutine") = false := ⟨Try.func245, by kernel_rfl, by kernel_rfl⟩
theorem fn246 : Try.prog.funcs[246]? = some fi246.fn ∧ fi246.fn.body.isSome = true ∧ (fi246.fn.name == "runtime.NumGoroutine") = false := ⟨Try.func246, by kernel_rfl, by kernel_rfl⟩
theorem fn225 : Try.prog.funcs[225]? = some fi225.fn ∧ fi225.fn.body.isSome = true ∧ (fi225.fn.name == "runtime.NumGoroutine") = false := ⟨Try.func225, by kernel_rfl, by kernel_rfl⟩
theorem fn190 : Try.prog.funcs[190]? = some fi190.fn ∧ fi190.fn.body.isSome = true ∧ (fi190.fn.name == "runtime.NumGoroutine") = false := ⟨Try.func190, by kernel_rfl, by kernel_rfl⟩
theorem fn226 : Try.prog.funcs[226]? = some fi226.fn ∧ fi226.fn.body.isSome = true ∧ (fi226.fn.name == "runtime.NumGoroutine") = false := ⟨Try.func226, by kernel_rfl, by kernel_rfl⟩
theorem fn191 : Try.prog.funcs[191]? = some fi191.fn ∧ fi191.fn.body.isSome = true ∧ (fi191.fn.name == "runtime.NumGoroutine") = false := ⟨Try.func191, by kernel_rfl, by kernel_rfl⟩
theorem fn148 : Try.prog.funcs[148]? = some fi148.fn ∧ fi148.fn.body.isSome = true ∧ (fi148.fn.name == "runtime.NumGoroutine") = false := ⟨Try.func148, by kernel_rfl, by kernel_rfl⟩
theorem fn95 : Try.prog.funcs[95]? = some fi95.fn ∧ fi95.fn.body.isSome = true ∧ (fi95.fn.name == "runtime.NumGoroutine") = false := ⟨Try.func95, by kernel_rfl, by kernel_rfl⟩
theorem fn51 : Try.prog.funcs[51]? = some fi51.fn ∧ fi51.fn.body.isSome = true ∧ (fi51.fn.name == "runtime.NumGoroutine") = false := ⟨Try.func51, by kernel_rfl, by kernel_rfl⟩
theorem fn147 : Try.prog.funcs[147]? = some fi147.fn ∧ fi147.fn.body.isSome = true ∧ (fi147.fn.name == "runtime.NumGoroutine") = false := ⟨Try.func147, by kernel_rfl, by kernel_rfl⟩
theorem fn141 : Try.prog.funcs[141]? = some fi141.fn ∧ fi141.fn.body.isSome = true ∧ (fi141.fn.name == "runtime.NumGoroutine") = false := ⟨Try.func141, by kernel_rfl, by kernel_rfl⟩
theorem fn142 : Try.prog.funcs[142]? = some fi142.fn ∧ fi142.fn.body.isSome = true ∧ (fi142.fn.name == "runtime.NumGoroutine") = false := ⟨Try.func142, by kernel_rfl, by kernel_rfl⟩
theorem fn87 : Try.prog.funcs[87]? = some fi87.fn ∧ fi87.fn.body.isSome = true ∧ (fi87.fn.name == "runtime.NumGoroutine") = false := ⟨Try.func87, by kernel_rfl, by kernel_rfl⟩
theorem fn88 : Try.prog.funcs[88]? = some fi88.fn ∧ fi88.fn.body.isSome = true ∧ (fi88.fn.name == "runtime.NumGoroutine") = false := ⟨Try.func88, by kernel_rfl, by kernel_rfl⟩
theorem fn75 : Try.prog.funcs[75]? = some fi75.fn ∧ fi75.fn.body.isSome = true ∧ (fi75.fn.name == "runtime.NumGoroutine") = false := ⟨Try.func75, by kernel_rfl, by kernel_rfl⟩
theorem fn89 : Try.prog.funcs[89]? = some fi89.fn ∧ fi89.fn.body.isSome = true ∧ (fi89.fn.name == "runtime.NumGoroutine") = false := ⟨Try.func89, by kernel_rfl, by kernel_rfl⟩
theorem fn128 : Try.prog.funcs[128]? = some fi128.fn ∧ fi128.fn.body.isSome = true ∧ (fi128.fn.name == "runtime.NumGoroutine") = false := ⟨Try.func128, by kernel_rfl, by kernel_rfl⟩
theorem fn74 : Try.prog.funcs[74]? = some fi74.fn ∧ fi74.fn.body.isSome = true ∧ (fi74.fn.name == "runtime.NumGoroutine") = false := ⟨Try.func74, by kernel_rfl, by kernel_rfl⟩
theorem fn94 : Try.prog.funcs[94]? = some fi94.fn ∧ fi94.fn.body.isSome = true ∧ (fi94.fn.name == "runtime.NumGoroutine") = false := ⟨Try.func94, by kernel_rfl, by kernel_rfl⟩
theorem fn38 : Try.prog.funcs[38]? = some fi38.fn ∧ fi38.fn.body.isSome = true ∧ (fi38.fn.name == "runtime.NumGoroutine") = false := ⟨Try.func38, by kernel_rfl, by kernel_rfl⟩
theorem fn34 : Try.prog.funcs[34]? = some fi34.fn ∧ fi34.fn.body.isSome = true ∧ (fi34.fn.name == "runtime.NumGoroutine") = false := ⟨Try.func34, by kernel_rfl, by kernel_rfl⟩
theorem fn35 : Try.prog.funcs[35]? = some fi35.fn ∧ fi35.fn.body.isSome = true ∧ (fi35.fn.name == "runtime.NumGoroutine") = false := ⟨Try.func35, by kernel_rfl, by kernel_rfl⟩
theorem fn93 : Try.prog.funcs[93]? = some fi93.fn ∧ fi93.fn.body.isSome = true ∧ (fi93.fn.name == "runtime.NumGoroutine") = false := ⟨Try.func93, by kernel_rfl, by kernel_rfl⟩
theorem fn92 : Try.prog.funcs[92]? = some fi92.fn ∧ fi92.fn.body.isSome = true ∧ (fi92.fn.name == "runtime.NumGoroutine") = false := ⟨Try.func92, by kernel_rfl, by kernel_rfl⟩
theorem fn146 : Try.prog.funcs[146]? = some fi146.fn ∧ fi146.fn.body.isSome = true ∧ (fi146.fn.name == "runtime.NumGoroutine") = false := ⟨Try.func146, by kernel_rfl, by kernel_rfl⟩
theorem fn91 : Try.prog.funcs[91]? = some fi91.fn ∧ fi91.fn.body.isSome = true ∧ (fi91.fn.name == "runtime.NumGoroutine") = false := ⟨Try.func91, by kernel_rfl, by kernel_rfl⟩
theorem fn37 : Try.prog.funcs[37]? = some fi37.fn ∧ fi37.fn.body.isSome = true ∧ (fi37.fn.name == "runtime.NumGoroutine") = false := ⟨Try.func37, by kernel_rfl, by kernel_rfl⟩
theorem fn143 : Try.prog.funcs[143]? = some fi143.fn ∧ fi143.fn.body.isSome = true ∧ (fi143.fn.name == "runtime.NumGoroutine") = false := ⟨Try.func143, by kernel_rfl, by kernel_rfl⟩
theorem fn145 : Try.prog.funcs[145]? = some fi145.fn ∧ fi145.fn.body.isSome = true ∧ (fi145.fn.name == "runtime.NumGoroutine") = false := ⟨Try.func145, by kernel_rfl, by kernel_rfl⟩
theorem fn189 : Try.prog.funcs[189]? = some fi189.fn ∧ fi189.fn.body.isSome = true ∧ (fi189.fn.name == "runtime.NumGoroutine") = false := ⟨Try.func189, by kernel_rfl, by kernel_rfl⟩
theorem fn144 : Try.prog.funcs[144]? = some fi144.fn ∧ fi144.fn.body.isSome = true ∧ (fi144.fn.name == "runtime.NumGoroutine") = false := ⟨Try.func144, by kernel_rfl, by kernel_rfl⟩
theorem fn90 : Try.prog.funcs[90]? = some fi90.fn ∧ fi90.fn.body.isSome = true ∧ (fi90.fn.name == "runtime.NumGoroutine") = false := ⟨Try.func90, by kernel_rfl, by kernel_rfl⟩
theorem fn32 : Try.prog.funcs[32]? = some fi32.fn ∧ fi32.fn.body.isSome = true ∧ (fi32.fn.name == "runtime.NumGoroutine") = false := ⟨Try.func32, by kernel_rfl, by kernel_rfl⟩
theorem fn33 : Try.prog.funcs[33]? = some fi33.fn ∧ fi33.fn.body.isSome = true ∧ (fi33.fn.name == "runtime.NumGoroutine") = false := ⟨Try.func33, by kernel_rfl, by kernel_rfl⟩
theorem fn52 : Try.prog.funcs[52]? = some fi52.fn ∧ fi52.fn.body.isSome = true ∧ (fi52.fn.name == "runtime.NumGoroutine") = false := ⟨Try.func52, by kernel_rfl, by kernel_rfl⟩
theorem fn134 : Try.prog.funcs[134]? = some fi134.fn ∧ fi134.fn.body.isSome = true ∧ (fi134.fn.name == "runtime.NumGoroutine") = false := ⟨Try.func134, by kernel_rfl, by kernel_rfl⟩
theorem fn183 : Try.prog.funcs[183]? = some fi183.fn ∧ fi183.fn.body.isSome = true ∧ (fi183.fn.name == "runtime.NumGoroutine") = false := ⟨Try.func183, by kernel_rfl, by kernel_rfl⟩
theorem fn222 : Try.prog.funcs[222]? = some fi222.fn ∧ fi222.fn.body.isSome = true ∧ (fi222.fn.name == "runtime.NumGoroutine") = false := ⟨Try.func222, by kernel_rfl, by kernel_rfl⟩
theorem fn184 : Try.prog.funcs[184]? = some fi184.fn ∧ fi184.fn.body.isSome = true ∧ (fi184.fn.name == "runtime.NumGoroutine") = false := ⟨Try.func184, by kernel_rfl, by kernel_rfl⟩
theorem fn223 : Try.prog.funcs[223]? = some fi223.fn ∧ fi223.fn.body.isSome = true ∧ (fi223.fn.name == "runtime.NumGoroutine") = false := ⟨Try.func223, by kernel_rfl, by kernel_rfl⟩
theorem fn185 : Try.prog.funcs[185]? = some fi185.fn ∧ fi185.fn.body.isSome = true ∧ (fi185.fn.name == "runtime.NumGoroutine") = false := ⟨Try.func185, by kernel_rfl, by kernel_rfl⟩
theorem fn186 : Try.prog.funcs[186]? = some fi186.fn ∧ fi186.fn.body.isSome = true ∧ (fi186.fn.name == "runtime.NumGoroutine") = false := ⟨Try.func186, by kernel_rfl, by kernel_rfl⟩
theorem fn135 : Try.prog.funcs[135]? = some fi135.fn ∧ fi135.fn.body.isSome = true ∧ (fi135.fn.name == "runtime.NumGoroutine") = false := ⟨Try.func135, by kernel_rfl, by kernel_rfl⟩
theorem fn81 : Try.prog.funcs[81]? = some fi81.fn ∧ fi81.fn.body.isSome = true ∧ (fi81.fn.name == "runtime.NumGoroutine") = false := ⟨Try.func81, by kernel_rfl, by kernel_rfl⟩
theorem fn24 : Try.prog.funcs[24]? = some fi24.fn ∧ fi24.fn.body.isSome = true ∧ (fi24.fn.name == "runtime.NumGoroutine") = false := ⟨Try.func24, by kernel_rfl, by kernel_rfl⟩
theorem fn181 : Try.prog.funcs[181]? = some fi181.fn ∧ fi181.fn.body.isSome = true ∧ (fi181.fn.name == "runtime.NumGoroutine") = false := ⟨Try.func181, by kernel_rfl, by kernel_rfl⟩
theorem fn131 : Try.prog.funcs[131]? = some fi131.fn ∧ fi131.fn.body.isSome = true ∧ (fi131.fn.name == "runtime.NumGoroutine") = false := ⟨Try.func131, by kernel_rfl, by kernel_rfl⟩
theorem fn182 : Try.prog.funcs[182]? = some fi182.fn ∧ fi182.fn.body.isSome = true ∧ (fi182.fn.name == "runtime.NumGoroutine") = false := ⟨Try.func182, by kernel_rfl, by kernel_rfl⟩
theorem fn132 : Try.prog.funcs[132]? = some fi132.fn ∧ fi132.fn.body.isSome = true ∧ (fi132.fn.name == "runtime.NumGoroutine") = false := ⟨Try.func132, by kernel_rfl, by kernel_rfl⟩
theorem fn80 : Try.prog.funcs[80]? = some fi80.fn ∧ fi80.fn.body.isSome = true ∧ (fi80.fn.name == "runtime.NumGoroutine") = false := ⟨Try.func80, by kernel_rfl, by kernel_rfl⟩
theorem fn72 : Try.prog.funcs[72]? = some fi72.fn ∧ fi72.fn.body.isSome = true ∧ (fi72.fn.name == "runtime.NumGoroutine") = false := ⟨Try.func72, by kernel_rfl, by kernel_rfl⟩
theorem fn19 : Try.prog.funcs[19]? = some fi19.fn ∧ fi19.fn.body.isSome = true ∧ (fi19.fn.name == "runtime.NumGoroutine") = false := ⟨Try.func19, by kernel_rfl, by kernel_rfl⟩
theorem fn77 : Try.prog.funcs[77]? = some fi77.fn ∧ fi77.fn.body.isSome = true ∧ (fi77.fn.name == "runtime.NumGoroutine") = false := ⟨Try.func77, by kernel_rfl, by kernel_rfl⟩
theorem fn76 : Try.prog.funcs[76]? = some fi76.fn ∧ fi76.fn.body.isSome = true ∧ (fi76.fn.name == "runtime.NumGoroutine") = false := ⟨Try.func76, by kernel_rfl, by kernel_rfl⟩
theorem fn21 : Try.prog.funcs[21]? = some fi21.fn ∧ fi21.fn.body.isSome = true ∧ (fi21.fn.name == "runtime.NumGoroutine") = false := ⟨Try.func21, by kernel_rfl, by kernel_rfl⟩
theorem fn11 : Try.prog.funcs[11]? = some fi11.fn ∧ fi11.fn.body.isSome = true ∧ (fi11.fn.name == "runtime.NumGoroutine") = false := ⟨Try.func11, by kernel_rfl, by kernel_rfl⟩
theorem fns : AllF (fun x : Nat × Fi => Try.prog.funcs[x.1]? = some x.2.fn ∧ x.2.fn.body.isSome = true ∧ (x.2.fn.name == "runtime.NumGoroutine") = false) fiTab := ⟨fn29, fn84, fn149, fn97, fn96, fn139, fn71, fn188, fn176, fn124, fn125, fn70, fn138, fn140, fn86, fn228, fn194, fn152, fn102, fn103, fn196, fn195, fn133, fn153, fn197, fn198, fn154, fn155, fn229, fn200, fn199, fn201, fn202, fn156, fn104, fn46, fn106, fn85, fn245, fn246, fn225, fn190, fn226, fn191, fn148, fn95, fn51, fn147, fn141, fn142, fn87, fn88, fn75, fn89, fn128, fn74, fn94, fn38, fn34, fn35, fn93, fn92, fn146, fn91, fn37, fn143, fn145, fn189, fn144, fn90, fn32, fn33, fn52, fn134, fn183, fn222, fn184, fn223, fn185, fn186, fn135, fn81, fn24, fn181, fn131, fn182, fn132, fn80, fn72, fn19, fn77, fn76, fn21, fn11, trivial⟩
theorem mixed : Try.prog.follows .mixedOrders = true := by kernel_rfl
theorem envOk : EnvOk Try.prog env := envOk_of tys fns mixed
theorem lawTy : ∀ t ti, env.ty t = some ti → lawTyB env ti = true := lawTy_of (by kernel_rfl)
theorem forms : ∀ f fi, env.fi f = some fi → fi.inl = false → fiB fi = true := fiB_of (by kernel_rfl)
theorem cl147 : CallSnd Try.prog fi147 147 cloneF := clone_snd envOk forms (f := 147) (fi := fi147) rfl rfl rfl (t := 56) (e := 5) Try.underlying56 rfl ⟨⟨rfl, rfl, rfl⟩, ⟨rfl, rfl, rfl⟩, ⟨⟨_, rfl⟩, rfl, rfl⟩⟩ (by kernel_rfl) (by kernel_rfl) (fun l => by kernel_rfl)
theorem cl142 : CallSnd Try.prog fi142 142 cloneF := clone_snd envOk forms (f := 142) (fi := fi142) rfl rfl rfl (t := 48) (e := 76) Try.underlying48 rfl ⟨⟨rfl, rfl, rfl⟩, ⟨rfl, rfl, rfl⟩, ⟨⟨_, rfl⟩, rfl, rfl⟩⟩ (by kernel_rfl) (by kernel_rfl) (fun l => by kernel_rfl)
theorem xs : ∀ f g fi, X f = some g → env.fi f = some fi → CallSnd Try.prog fi f g := xs_of (P := Try.prog) (fiL := fiTab) (tyL := tyTab) (⟨fun fi h => (by have h : some fi147 = some fi := h; cases h; exact cl147), ⟨fun fi h => (by have h : some fi142 = some fi := h; cases h; exact cl142), trivial⟩⟩)
end Go.Proofs.Ytdclnhlpifahpaa.T
