/- What functions of the law FnExactVictim come to, in trees; no condition. -/
import Derived.Test.YtnakbpjofkdabaaGreatRows
import Derived.Test.YtnakbpjofkdabaaGreatX0
import Derived.Shelf.Sort.Plain
import Derived.Shelf.Slices.In.SortNone
import Derived.KernelRfl
set_option linter.unusedVariables false
set_option linter.constructorNameAsVariable false
set_option linter.unusedSimpArgs false
set_option linter.unnecessarySimpa false
namespace Go.Proofs.YtnakbpjofkdabaaGreat.T
open Go Go.Proofs.YtnakbpjofkdabaaGreatV
theorem tys : (tyTab.all fun x => tyOkB Tryz.prog ⟨lookN fiTab, lookN tyTab⟩ x.1 x.2 && (!(x.2.agg && flatB x.2.cs) || eqTyB Tryz.prog x.1 x.2)) = true := by kernel_rfl
theorem fn132 : Tryz.prog.funcs[132]? = some fi132.fn ∧ fi132.fn.body.isSome = true ∧ (fi132.fn.name == "runtime.NumGoroutine") = false := ⟨Tryz.func132, by kernel_rfl, by kernel_rfl⟩
theorem fn129 : Tryz.prog.funcs[129]? = some fi129.fn ∧ fi129.fn.body.isSome = true ∧ (fi129.fn.name == "runtime.NumGoroutine") = false := ⟨Tryz.func129, by kernel_rfl, by kernel_rfl⟩
theorem fn123 : Tryz.prog.funcs[123]? = some fi123.fn ∧ fi123.fn.body.isSome = true ∧ (fi123.fn.name == "runtime.NumGoroutine") = false := ⟨Tryz.func123, by kernel_rfl, by kernel_rfl⟩
theorem fn116 : Tryz.prog.funcs[116]? = some fi116.fn ∧ fi116.fn.body.isSome = true ∧ (fi116.fn.name == "runtime.NumGoroutine") = false := ⟨Tryz.func116, by kernel_rfl, by kernel_rfl⟩
theorem fn97 : Tryz.prog.funcs[97]? = some fi97.fn ∧ fi97.fn.body.isSome = true ∧ (fi97.fn.name == "runtime.NumGoroutine") = false := ⟨Tryz.func97, by kernel_rfl, by kernel_rfl⟩
theorem fn66 : Tryz.prog.funcs[66]? = some fi66.fn ∧ fi66.fn.body.isSome = true ∧ (fi66.fn.name == "runtime.NumGoroutine") = false := ⟨Tryz.func66, by kernel_rfl, by kernel_rfl⟩
theorem fn67 : Tryz.prog.funcs[67]? = some fi67.fn ∧ fi67.fn.body.isSome = true ∧ (fi67.fn.name == "runtime.NumGoroutine") = false := ⟨Tryz.func67, by kernel_rfl, by kernel_rfl⟩
theorem fn41 : Tryz.prog.funcs[41]? = some fi41.fn ∧ fi41.fn.body.isSome = true ∧ (fi41.fn.name == "runtime.NumGoroutine") = false := ⟨Tryz.func41, by kernel_rfl, by kernel_rfl⟩
theorem fn15 : Tryz.prog.funcs[15]? = some fi15.fn ∧ fi15.fn.body.isSome = true ∧ (fi15.fn.name == "runtime.NumGoroutine") = false := ⟨Tryz.func15, by kernel_rfl, by kernel_rfl⟩
theorem fn141 : Tryz.prog.funcs[141]? = some fi141.fn ∧ fi141.fn.body.isSome = true ∧ (fi141.fn.name == "runtime.NumGoroutine") = false := ⟨Tryz.func141, by kernel_rfl, by kernel_rfl⟩
theorem fn133 : Tryz.prog.funcs[133]? = some fi133.fn ∧ fi133.fn.body.isSome = true ∧ (fi133.fn.name == "runtime.NumGoroutine") = false := ⟨Tryz.func133, by kernel_rfl, by kernel_rfl⟩
theorem fn142 : Tryz.prog.funcs[142]? = some fi142.fn ∧ fi142.fn.body.isSome = true ∧ (fi142.fn.name == "runtime.NumGoroutine") = false := ⟨Tryz.func142, by kernel_rfl, by kernel_rfl⟩
theorem fn134 : Tryz.prog.funcs[134]? = some fi134.fn ∧ fi134.fn.body.isSome = true ∧ (fi134.fn.name == "runtime.NumGoroutine") = false := ⟨Tryz.func134, by kernel_rfl, by kernel_rfl⟩
theorem fn126 : Tryz.prog.funcs[126]? = some fi126.fn ∧ fi126.fn.body.isSome = true ∧ (fi126.fn.name == "runtime.NumGoroutine") = false := ⟨Tryz.func126, by kernel_rfl, by kernel_rfl⟩
theorem fn119 : Tryz.prog.funcs[119]? = some fi119.fn ∧ fi119.fn.body.isSome = true ∧ (fi119.fn.name == "runtime.NumGoroutine") = false := ⟨Tryz.func119, by kernel_rfl, by kernel_rfl⟩
theorem fn102 : Tryz.prog.funcs[102]? = some fi102.fn ∧ fi102.fn.body.isSome = true ∧ (fi102.fn.name == "runtime.NumGoroutine") = false := ⟨Tryz.func102, by kernel_rfl, by kernel_rfl⟩
theorem fn75 : Tryz.prog.funcs[75]? = some fi75.fn ∧ fi75.fn.body.isSome = true ∧ (fi75.fn.name == "runtime.NumGoroutine") = false := ⟨Tryz.func75, by kernel_rfl, by kernel_rfl⟩
theorem fn49 : Tryz.prog.funcs[49]? = some fi49.fn ∧ fi49.fn.body.isSome = true ∧ (fi49.fn.name == "runtime.NumGoroutine") = false := ⟨Tryz.func49, by kernel_rfl, by kernel_rfl⟩
theorem fn22 : Tryz.prog.funcs[22]? = some fi22.fn ∧ fi22.fn.body.isSome = true ∧ (fi22.fn.name == "runtime.NumGoroutine") = false := ⟨Tryz.func22, by kernel_rfl, by kernel_rfl⟩
theorem fn76 : Tryz.prog.funcs[76]? = some fi76.fn ∧ fi76.fn.body.isSome = true ∧ (fi76.fn.name == "runtime.NumGoroutine") = false := ⟨Tryz.func76, by kernel_rfl, by kernel_rfl⟩
theorem fn50 : Tryz.prog.funcs[50]? = some fi50.fn ∧ fi50.fn.body.isSome = true ∧ (fi50.fn.name == "runtime.NumGoroutine") = false := ⟨Tryz.func50, by kernel_rfl, by kernel_rfl⟩
theorem fn23 : Tryz.prog.funcs[23]? = some fi23.fn ∧ fi23.fn.body.isSome = true ∧ (fi23.fn.name == "runtime.NumGoroutine") = false := ⟨Tryz.func23, by kernel_rfl, by kernel_rfl⟩
theorem fn77 : Tryz.prog.funcs[77]? = some fi77.fn ∧ fi77.fn.body.isSome = true ∧ (fi77.fn.name == "runtime.NumGoroutine") = false := ⟨Tryz.func77, by kernel_rfl, by kernel_rfl⟩
theorem fn51 : Tryz.prog.funcs[51]? = some fi51.fn ∧ fi51.fn.body.isSome = true ∧ (fi51.fn.name == "runtime.NumGoroutine") = false := ⟨Tryz.func51, by kernel_rfl, by kernel_rfl⟩
theorem fn24 : Tryz.prog.funcs[24]? = some fi24.fn ∧ fi24.fn.body.isSome = true ∧ (fi24.fn.name == "runtime.NumGoroutine") = false := ⟨Tryz.func24, by kernel_rfl, by kernel_rfl⟩
theorem fn6 : Tryz.prog.funcs[6]? = some fi6.fn ∧ fi6.fn.body.isSome = true ∧ (fi6.fn.name == "runtime.NumGoroutine") = false := ⟨Tryz.func6, by kernel_rfl, by kernel_rfl⟩
theorem fn135 : Tryz.prog.funcs[135]? = some fi135.fn ∧ fi135.fn.body.isSome = true ∧ (fi135.fn.name == "runtime.NumGoroutine") = false := ⟨Tryz.func135, by kernel_rfl, by kernel_rfl⟩
theorem fn130 : Tryz.prog.funcs[130]? = some fi130.fn ∧ fi130.fn.body.isSome = true ∧ (fi130.fn.name == "runtime.NumGoroutine") = false := ⟨Tryz.func130, by kernel_rfl, by kernel_rfl⟩
theorem fn124 : Tryz.prog.funcs[124]? = some fi124.fn ∧ fi124.fn.body.isSome = true ∧ (fi124.fn.name == "runtime.NumGoroutine") = false := ⟨Tryz.func124, by kernel_rfl, by kernel_rfl⟩
theorem fn117 : Tryz.prog.funcs[117]? = some fi117.fn ∧ fi117.fn.body.isSome = true ∧ (fi117.fn.name == "runtime.NumGoroutine") = false := ⟨Tryz.func117, by kernel_rfl, by kernel_rfl⟩
theorem fn98 : Tryz.prog.funcs[98]? = some fi98.fn ∧ fi98.fn.body.isSome = true ∧ (fi98.fn.name == "runtime.NumGoroutine") = false := ⟨Tryz.func98, by kernel_rfl, by kernel_rfl⟩
theorem fn68 : Tryz.prog.funcs[68]? = some fi68.fn ∧ fi68.fn.body.isSome = true ∧ (fi68.fn.name == "runtime.NumGoroutine") = false := ⟨Tryz.func68, by kernel_rfl, by kernel_rfl⟩
theorem fn99 : Tryz.prog.funcs[99]? = some fi99.fn ∧ fi99.fn.body.isSome = true ∧ (fi99.fn.name == "runtime.NumGoroutine") = false := ⟨Tryz.func99, by kernel_rfl, by kernel_rfl⟩
theorem fn69 : Tryz.prog.funcs[69]? = some fi69.fn ∧ fi69.fn.body.isSome = true ∧ (fi69.fn.name == "runtime.NumGoroutine") = false := ⟨Tryz.func69, by kernel_rfl, by kernel_rfl⟩
theorem fn43 : Tryz.prog.funcs[43]? = some fi43.fn ∧ fi43.fn.body.isSome = true ∧ (fi43.fn.name == "runtime.NumGoroutine") = false := ⟨Tryz.func43, by kernel_rfl, by kernel_rfl⟩
theorem fn17 : Tryz.prog.funcs[17]? = some fi17.fn ∧ fi17.fn.body.isSome = true ∧ (fi17.fn.name == "runtime.NumGoroutine") = false := ⟨Tryz.func17, by kernel_rfl, by kernel_rfl⟩
theorem fn143 : Tryz.prog.funcs[143]? = some fi143.fn ∧ fi143.fn.body.isSome = true ∧ (fi143.fn.name == "runtime.NumGoroutine") = false := ⟨Tryz.func143, by kernel_rfl, by kernel_rfl⟩
theorem fn136 : Tryz.prog.funcs[136]? = some fi136.fn ∧ fi136.fn.body.isSome = true ∧ (fi136.fn.name == "runtime.NumGoroutine") = false := ⟨Tryz.func136, by kernel_rfl, by kernel_rfl⟩
theorem fn144 : Tryz.prog.funcs[144]? = some fi144.fn ∧ fi144.fn.body.isSome = true ∧ (fi144.fn.name == "runtime.NumGoroutine") = false := ⟨Tryz.func144, by kernel_rfl, by kernel_rfl⟩
theorem fn137 : Tryz.prog.funcs[137]? = some fi137.fn ∧ fi137.fn.body.isSome = true ∧ (fi137.fn.name == "runtime.NumGoroutine") = false := ⟨Tryz.func137, by kernel_rfl, by kernel_rfl⟩
theorem fn127 : Tryz.prog.funcs[127]? = some fi127.fn ∧ fi127.fn.body.isSome = true ∧ (fi127.fn.name == "runtime.NumGoroutine") = false := ⟨Tryz.func127, by kernel_rfl, by kernel_rfl⟩
theorem fn120 : Tryz.prog.funcs[120]? = some fi120.fn ∧ fi120.fn.body.isSome = true ∧ (fi120.fn.name == "runtime.NumGoroutine") = false := ⟨Tryz.func120, by kernel_rfl, by kernel_rfl⟩
theorem fn103 : Tryz.prog.funcs[103]? = some fi103.fn ∧ fi103.fn.body.isSome = true ∧ (fi103.fn.name == "runtime.NumGoroutine") = false := ⟨Tryz.func103, by kernel_rfl, by kernel_rfl⟩
theorem fn78 : Tryz.prog.funcs[78]? = some fi78.fn ∧ fi78.fn.body.isSome = true ∧ (fi78.fn.name == "runtime.NumGoroutine") = false := ⟨Tryz.func78, by kernel_rfl, by kernel_rfl⟩
theorem fn53 : Tryz.prog.funcs[53]? = some fi53.fn ∧ fi53.fn.body.isSome = true ∧ (fi53.fn.name == "runtime.NumGoroutine") = false := ⟨Tryz.func53, by kernel_rfl, by kernel_rfl⟩
theorem fn26 : Tryz.prog.funcs[26]? = some fi26.fn ∧ fi26.fn.body.isSome = true ∧ (fi26.fn.name == "runtime.NumGoroutine") = false := ⟨Tryz.func26, by kernel_rfl, by kernel_rfl⟩
theorem fn79 : Tryz.prog.funcs[79]? = some fi79.fn ∧ fi79.fn.body.isSome = true ∧ (fi79.fn.name == "runtime.NumGoroutine") = false := ⟨Tryz.func79, by kernel_rfl, by kernel_rfl⟩
theorem fn54 : Tryz.prog.funcs[54]? = some fi54.fn ∧ fi54.fn.body.isSome = true ∧ (fi54.fn.name == "runtime.NumGoroutine") = false := ⟨Tryz.func54, by kernel_rfl, by kernel_rfl⟩
theorem fn27 : Tryz.prog.funcs[27]? = some fi27.fn ∧ fi27.fn.body.isSome = true ∧ (fi27.fn.name == "runtime.NumGoroutine") = false := ⟨Tryz.func27, by kernel_rfl, by kernel_rfl⟩
theorem fn104 : Tryz.prog.funcs[104]? = some fi104.fn ∧ fi104.fn.body.isSome = true ∧ (fi104.fn.name == "runtime.NumGoroutine") = false := ⟨Tryz.func104, by kernel_rfl, by kernel_rfl⟩
theorem fn80 : Tryz.prog.funcs[80]? = some fi80.fn ∧ fi80.fn.body.isSome = true ∧ (fi80.fn.name == "runtime.NumGoroutine") = false := ⟨Tryz.func80, by kernel_rfl, by kernel_rfl⟩
theorem fn55 : Tryz.prog.funcs[55]? = some fi55.fn ∧ fi55.fn.body.isSome = true ∧ (fi55.fn.name == "runtime.NumGoroutine") = false := ⟨Tryz.func55, by kernel_rfl, by kernel_rfl⟩
theorem fn28 : Tryz.prog.funcs[28]? = some fi28.fn ∧ fi28.fn.body.isSome = true ∧ (fi28.fn.name == "runtime.NumGoroutine") = false := ⟨Tryz.func28, by kernel_rfl, by kernel_rfl⟩
theorem fn8 : Tryz.prog.funcs[8]? = some fi8.fn ∧ fi8.fn.body.isSome = true ∧ (fi8.fn.name == "runtime.NumGoroutine") = false := ⟨Tryz.func8, by kernel_rfl, by kernel_rfl⟩
theorem fn47 : Tryz.prog.funcs[47]? = some fi47.fn ∧ fi47.fn.body.isSome = true ∧ (fi47.fn.name == "runtime.NumGoroutine") = false := ⟨Tryz.func47, by kernel_rfl, by kernel_rfl⟩
theorem fn42 : Tryz.prog.funcs[42]? = some fi42.fn ∧ fi42.fn.body.isSome = true ∧ (fi42.fn.name == "runtime.NumGoroutine") = false := ⟨Tryz.func42, by kernel_rfl, by kernel_rfl⟩
theorem fn52 : Tryz.prog.funcs[52]? = some fi52.fn ∧ fi52.fn.body.isSome = true ∧ (fi52.fn.name == "runtime.NumGoroutine") = false := ⟨Tryz.func52, by kernel_rfl, by kernel_rfl⟩
theorem fn25 : Tryz.prog.funcs[25]? = some fi25.fn ∧ fi25.fn.body.isSome = true ∧ (fi25.fn.name == "runtime.NumGoroutine") = false := ⟨Tryz.func25, by kernel_rfl, by kernel_rfl⟩
theorem fn7 : Tryz.prog.funcs[7]? = some fi7.fn ∧ fi7.fn.body.isSome = true ∧ (fi7.fn.name == "runtime.NumGoroutine") = false := ⟨Tryz.func7, by kernel_rfl, by kernel_rfl⟩
theorem fn16 : Tryz.prog.funcs[16]? = some fi16.fn ∧ fi16.fn.body.isSome = true ∧ (fi16.fn.name == "runtime.NumGoroutine") = false := ⟨Tryz.func16, by kernel_rfl, by kernel_rfl⟩
theorem fn20 : Tryz.prog.funcs[20]? = some fi20.fn ∧ fi20.fn.body.isSome = true ∧ (fi20.fn.name == "runtime.NumGoroutine") = false := ⟨Tryz.func20, by kernel_rfl, by kernel_rfl⟩
theorem fn70 : Tryz.prog.funcs[70]? = some fi70.fn ∧ fi70.fn.body.isSome = true ∧ (fi70.fn.name == "runtime.NumGoroutine") = false := ⟨Tryz.func70, by kernel_rfl, by kernel_rfl⟩
theorem fn44 : Tryz.prog.funcs[44]? = some fi44.fn ∧ fi44.fn.body.isSome = true ∧ (fi44.fn.name == "runtime.NumGoroutine") = false := ⟨Tryz.func44, by kernel_rfl, by kernel_rfl⟩
theorem fn30 : Tryz.prog.funcs[30]? = some fi30.fn ∧ fi30.fn.body.isSome = true ∧ (fi30.fn.name == "runtime.NumGoroutine") = false := ⟨Tryz.func30, by kernel_rfl, by kernel_rfl⟩
theorem fn56 : Tryz.prog.funcs[56]? = some fi56.fn ∧ fi56.fn.body.isSome = true ∧ (fi56.fn.name == "runtime.NumGoroutine") = false := ⟨Tryz.func56, by kernel_rfl, by kernel_rfl⟩
theorem fn29 : Tryz.prog.funcs[29]? = some fi29.fn ∧ fi29.fn.body.isSome = true ∧ (fi29.fn.name == "runtime.NumGoroutine") = false := ⟨Tryz.func29, by kernel_rfl, by kernel_rfl⟩
theorem fn31 : Tryz.prog.funcs[31]? = some fi31.fn ∧ fi31.fn.body.isSome = true ∧ (fi31.fn.name == "runtime.NumGoroutine") = false := ⟨Tryz.func31, by kernel_rfl, by kernel_rfl⟩
theorem fn33 : Tryz.prog.funcs[33]? = some fi33.fn ∧ fi33.fn.body.isSome = true ∧ (fi33.fn.name == "runtime.NumGoroutine") = false := ⟨Tryz.func33, by kernel_rfl, by kernel_rfl⟩
theorem fn59 : Tryz.prog.funcs[59]? = some fi59.fn ∧ fi59.fn.body.isSome = true ∧ (fi59.fn.name == "runtime.NumGoroutine") = false := ⟨Tryz.func59, by kernel_rfl, by kernel_rfl⟩
theorem fn32 : Tryz.prog.funcs[32]? = some fi32.fn ∧ fi32.fn.body.isSome = true ∧ (fi32.fn.name == "runtime.NumGoroutine") = false := ⟨Tryz.func32, by kernel_rfl, by kernel_rfl⟩
theorem fn34 : Tryz.prog.funcs[34]? = some fi34.fn ∧ fi34.fn.body.isSome = true ∧ (fi34.fn.name == "runtime.NumGoroutine") = false := ⟨Tryz.func34, by kernel_rfl, by kernel_rfl⟩
theorem fn9 : Tryz.prog.funcs[9]? = some fi9.fn ∧ fi9.fn.body.isSome = true ∧ (fi9.fn.name == "runtime.NumGoroutine") = false := ⟨Tryz.func9, by kernel_rfl, by kernel_rfl⟩
theorem fn71 : Tryz.prog.funcs[71]? = some fi71.fn ∧ fi71.fn.body.isSome = true ∧ (fi71.fn.name == "runtime.NumGoroutine") = false := ⟨Tryz.func71, by kernel_rfl, by kernel_rfl⟩
theorem fn45 : Tryz.prog.funcs[45]? = some fi45.fn ∧ fi45.fn.body.isSome = true ∧ (fi45.fn.name == "runtime.NumGoroutine") = false := ⟨Tryz.func45, by kernel_rfl, by kernel_rfl⟩
theorem fn18 : Tryz.prog.funcs[18]? = some fi18.fn ∧ fi18.fn.body.isSome = true ∧ (fi18.fn.name == "runtime.NumGoroutine") = false := ⟨Tryz.func18, by kernel_rfl, by kernel_rfl⟩
theorem fn74 : Tryz.prog.funcs[74]? = some fi74.fn ∧ fi74.fn.body.isSome = true ∧ (fi74.fn.name == "runtime.NumGoroutine") = false := ⟨Tryz.func74, by kernel_rfl, by kernel_rfl⟩
theorem fn48 : Tryz.prog.funcs[48]? = some fi48.fn ∧ fi48.fn.body.isSome = true ∧ (fi48.fn.name == "runtime.NumGoroutine") = false := ⟨Tryz.func48, by kernel_rfl, by kernel_rfl⟩
theorem fn21 : Tryz.prog.funcs[21]? = some fi21.fn ∧ fi21.fn.body.isSome = true ∧ (fi21.fn.name == "runtime.NumGoroutine") = false := ⟨Tryz.func21, by kernel_rfl, by kernel_rfl⟩
theorem fn138 : Tryz.prog.funcs[138]? = some fi138.fn ∧ fi138.fn.body.isSome = true ∧ (fi138.fn.name == "runtime.NumGoroutine") = false := ⟨Tryz.func138, by kernel_rfl, by kernel_rfl⟩
theorem fn131 : Tryz.prog.funcs[131]? = some fi131.fn ∧ fi131.fn.body.isSome = true ∧ (fi131.fn.name == "runtime.NumGoroutine") = false := ⟨Tryz.func131, by kernel_rfl, by kernel_rfl⟩
theorem fn125 : Tryz.prog.funcs[125]? = some fi125.fn ∧ fi125.fn.body.isSome = true ∧ (fi125.fn.name == "runtime.NumGoroutine") = false := ⟨Tryz.func125, by kernel_rfl, by kernel_rfl⟩
theorem fn118 : Tryz.prog.funcs[118]? = some fi118.fn ∧ fi118.fn.body.isSome = true ∧ (fi118.fn.name == "runtime.NumGoroutine") = false := ⟨Tryz.func118, by kernel_rfl, by kernel_rfl⟩
theorem fn100 : Tryz.prog.funcs[100]? = some fi100.fn ∧ fi100.fn.body.isSome = true ∧ (fi100.fn.name == "runtime.NumGoroutine") = false := ⟨Tryz.func100, by kernel_rfl, by kernel_rfl⟩
theorem fn72 : Tryz.prog.funcs[72]? = some fi72.fn ∧ fi72.fn.body.isSome = true ∧ (fi72.fn.name == "runtime.NumGoroutine") = false := ⟨Tryz.func72, by kernel_rfl, by kernel_rfl⟩
theorem fn101 : Tryz.prog.funcs[101]? = some fi101.fn ∧ fi101.fn.body.isSome = true ∧ (fi101.fn.name == "runtime.NumGoroutine") = false := ⟨Tryz.func101, by kernel_rfl, by kernel_rfl⟩
theorem fn73 : Tryz.prog.funcs[73]? = some fi73.fn ∧ fi73.fn.body.isSome = true ∧ (fi73.fn.name == "runtime.NumGoroutine") = false := ⟨Tryz.func73, by kernel_rfl, by kernel_rfl⟩
theorem fn46 : Tryz.prog.funcs[46]? = some fi46.fn ∧ fi46.fn.body.isSome = true ∧ (fi46.fn.name == "runtime.NumGoroutine") = false := ⟨Tryz.func46, by kernel_rfl, by kernel_rfl⟩
theorem fn19 : Tryz.prog.funcs[19]? = some fi19.fn ∧ fi19.fn.body.isSome = true ∧ (fi19.fn.name == "runtime.NumGoroutine") = false := ⟨Tryz.func19, by kernel_rfl, by kernel_rfl⟩
theorem fn145 : Tryz.prog.funcs[145]? = some fi145.fn ∧ fi145.fn.body.isSome = true ∧ (fi145.fn.name == "runtime.NumGoroutine") = false := ⟨Tryz.func145, by kernel_rfl, by kernel_rfl⟩
theorem fn139 : Tryz.prog.funcs[139]? = some fi139.fn ∧ fi139.fn.body.isSome = true ∧ (fi139.fn.name == "runtime.NumGoroutine") = false := ⟨Tryz.func139, by kernel_rfl, by kernel_rfl⟩
theorem fn146 : Tryz.prog.funcs[146]? = some fi146.fn ∧ fi146.fn.body.isSome = true ∧ (fi146.fn.name == "runtime.NumGoroutine") = false := ⟨Tryz.func146, by kernel_rfl, by kernel_rfl⟩
theorem fn140 : Tryz.prog.funcs[140]? = some fi140.fn ∧ fi140.fn.body.isSome = true ∧ (fi140.fn.name == "runtime.NumGoroutine") = false := ⟨Tryz.func140, by kernel_rfl, by kernel_rfl⟩
theorem fn128 : Tryz.prog.funcs[128]? = some fi128.fn ∧ fi128.fn.body.isSome = true ∧ (fi128.fn.name == "runtime.NumGoroutine") = false := ⟨Tryz.func128, by kernel_rfl, by kernel_rfl⟩
theorem fn122 : Tryz.prog.funcs[122]? = some fi122.fn ∧ fi122.fn.body.isSome = true ∧ (fi122.fn.name == "runtime.NumGoroutine") = false := ⟨Tryz.func122, by kernel_rfl, by kernel_rfl⟩
theorem fn111 : Tryz.prog.funcs[111]? = some fi111.fn ∧ fi111.fn.body.isSome = true ∧ (fi111.fn.name == "runtime.NumGoroutine") = false := ⟨Tryz.func111, by kernel_rfl, by kernel_rfl⟩
theorem fn92 : Tryz.prog.funcs[92]? = some fi92.fn ∧ fi92.fn.body.isSome = true ∧ (fi92.fn.name == "runtime.NumGoroutine") = false := ⟨Tryz.func92, by kernel_rfl, by kernel_rfl⟩
theorem fn60 : Tryz.prog.funcs[60]? = some fi60.fn ∧ fi60.fn.body.isSome = true ∧ (fi60.fn.name == "runtime.NumGoroutine") = false := ⟨Tryz.func60, by kernel_rfl, by kernel_rfl⟩
theorem fn35 : Tryz.prog.funcs[35]? = some fi35.fn ∧ fi35.fn.body.isSome = true ∧ (fi35.fn.name == "runtime.NumGoroutine") = false := ⟨Tryz.func35, by kernel_rfl, by kernel_rfl⟩
theorem fn93 : Tryz.prog.funcs[93]? = some fi93.fn ∧ fi93.fn.body.isSome = true ∧ (fi93.fn.name == "runtime.NumGoroutine") = false := ⟨Tryz.func93, by kernel_rfl, by kernel_rfl⟩
theorem fn61 : Tryz.prog.funcs[61]? = some fi61.fn ∧ fi61.fn.body.isSome = true ∧ (fi61.fn.name == "runtime.NumGoroutine") = false := ⟨Tryz.func61, by kernel_rfl, by kernel_rfl⟩
theorem fn36 : Tryz.prog.funcs[36]? = some fi36.fn ∧ fi36.fn.body.isSome = true ∧ (fi36.fn.name == "runtime.NumGoroutine") = false := ⟨Tryz.func36, by kernel_rfl, by kernel_rfl⟩
theorem fn112 : Tryz.prog.funcs[112]? = some fi112.fn ∧ fi112.fn.body.isSome = true ∧ (fi112.fn.name == "runtime.NumGoroutine") = false := ⟨Tryz.func112, by kernel_rfl, by kernel_rfl⟩
theorem fn94 : Tryz.prog.funcs[94]? = some fi94.fn ∧ fi94.fn.body.isSome = true ∧ (fi94.fn.name == "runtime.NumGoroutine") = false := ⟨Tryz.func94, by kernel_rfl, by kernel_rfl⟩
theorem fn62 : Tryz.prog.funcs[62]? = some fi62.fn ∧ fi62.fn.body.isSome = true ∧ (fi62.fn.name == "runtime.NumGoroutine") = false := ⟨Tryz.func62, by kernel_rfl, by kernel_rfl⟩
theorem fn37 : Tryz.prog.funcs[37]? = some fi37.fn ∧ fi37.fn.body.isSome = true ∧ (fi37.fn.name == "runtime.NumGoroutine") = false := ⟨Tryz.func37, by kernel_rfl, by kernel_rfl⟩
theorem fn11 : Tryz.prog.funcs[11]? = some fi11.fn ∧ fi11.fn.body.isSome = true ∧ (fi11.fn.name == "runtime.NumGoroutine") = false := ⟨Tryz.func11, by kernel_rfl, by kernel_rfl⟩
theorem fn5 : Tryz.prog.funcs[5]? = some fi5.fn ∧ fi5.fn.body.isSome = true ∧ (fi5.fn.name == "runtime.NumGoroutine") = false := ⟨Tryz.func5, by kernel_rfl, by kernel_rfl⟩
theorem fns : AllF (fun x : Nat × Fi => Tryz.prog.funcs[x.1]? = some x.2.fn ∧ x.2.fn.body.isSome = true ∧ (x.2.fn.name == "runtime.NumGoroutine") = false) fiTab := ⟨fn132, fn129, fn123, fn116, fn97, fn66, fn67, fn41, fn15, fn141, fn133, fn142, fn134, fn126, fn119, fn102, fn75, fn49, fn22, fn76, fn50, fn23, fn77, fn51, fn24, fn6, fn135, fn130, fn124, fn117, fn98, fn68, fn99, fn69, fn43, fn17, fn143, fn136, fn144, fn137, fn127, fn120, fn103, fn78, fn53, fn26, fn79, fn54, fn27, fn104, fn80, fn55, fn28, fn8, fn47, fn42, fn52, fn25, fn7, fn16, fn20, fn70, fn44, fn30, fn56, fn29, fn31, fn33, fn59, fn32, fn34, fn9, fn71, fn45, fn18, fn74, fn48, fn21, fn138, fn131, fn125, fn118, fn100, fn72, fn101, fn73, fn46, fn19, fn145, fn139, fn146, fn140, fn128, fn122, fn111, fn92, fn60, fn35, fn93, fn61, fn36, fn112, fn94, fn62, fn37, fn11, fn5, trivial⟩
theorem mixed : Tryz.prog.follows .mixedOrders = true := by kernel_rfl
theorem envOk : EnvOk Tryz.prog env := envOk_of tys fns mixed
theorem lawTy : ∀ t ti, env.ty t = some ti → lawTyB env ti = true := lawTy_of (by kernel_rfl)
theorem forms : ∀ f fi, env.fi f = some fi → fi.inl = false → fiB fi = true := fiB_of (by kernel_rfl)
open Go.Shelf in
def lays189_ren : Go.Shelf.Ren := ⟨fun | 189 => 31 | 125 => 58 | 257 => 57 | 128 => 90 | 129 => 91 | 294 => 81 | 295 => 82 | 296 => 83 | 297 => 84 | 298 => 85 | 299 => 86 | 216 => 87 | 300 => 88 | 301 => 89 | 328 => 105 | 329 => 106 | 330 => 107 | 331 => 108 | 332 => 109 | 215 => 110 | 343 => 121 | n => n, fun | 28 => 32 | 3 => 3 | 46 => 123 | 0 => 0 | 51 => 166 | 53 => 168 | 4 => 4 | 183 => 158 | 182 => 157 | 131 => 163 | 5 => 5 | 9 => 9 | 218 => 186 | 222 => 190 | 228 => 209 | 229 => 210 | n => n, fun | n => n⟩
open Go.Shelf in
theorem lays189 : Go.Proofs.Lays.n189 Tryz.prog lays189_ren := {
 mixed := by kernel_rfl
 f125 := Tryz.func58.trans (congrArg some (by kernel_rfl))
 f128 := Tryz.func90.trans (congrArg some (by kernel_rfl))
 f129 := Tryz.func91.trans (congrArg some (by kernel_rfl))
 f189 := Tryz.func31.trans (congrArg some (by kernel_rfl))
 f215 := Tryz.func110.trans (congrArg some (by kernel_rfl))
 f216 := Tryz.func87.trans (congrArg some (by kernel_rfl))
 f257 := Tryz.func57.trans (congrArg some (by kernel_rfl))
 f294 := Tryz.func81.trans (congrArg some (by kernel_rfl))
 f295 := Tryz.func82.trans (congrArg some (by kernel_rfl))
 f296 := Tryz.func83.trans (congrArg some (by kernel_rfl))
 f297 := Tryz.func84.trans (congrArg some (by kernel_rfl))
 f298 := Tryz.func85.trans (congrArg some (by kernel_rfl))
 f299 := Tryz.func86.trans (congrArg some (by kernel_rfl))
 f300 := Tryz.func88.trans (congrArg some (by kernel_rfl))
 f301 := Tryz.func89.trans (congrArg some (by kernel_rfl))
 f328 := Tryz.func105.trans (congrArg some (by kernel_rfl))
 f329 := Tryz.func106.trans (congrArg some (by kernel_rfl))
 f330 := Tryz.func107.trans (congrArg some (by kernel_rfl))
 f331 := Tryz.func108.trans (congrArg some (by kernel_rfl))
 f332 := Tryz.func109.trans (congrArg some (by kernel_rfl))
 f343 := Tryz.func121.trans (congrArg some (by kernel_rfl))
 t0 := Tryz.underlying0
 a0 := Tryz.isAgg0
 z0 := Tryz.sizeOf0
 v0 := Tryz.zeroValue0
 t3 := Tryz.underlying3
 a3 := Tryz.isAgg3
 z3 := Tryz.sizeOf3
 v3 := Tryz.zeroValue3
 t4 := Tryz.underlying4
 a4 := Tryz.isAgg4
 z4 := Tryz.sizeOf4
 v4 := Tryz.zeroValue4
 t5 := Tryz.underlying5
 a5 := Tryz.isAgg5
 z5 := Tryz.sizeOf5
 v5 := Tryz.zeroValue5
 t9 := Tryz.underlying9
 a9 := Tryz.isAgg9
 z9 := Tryz.sizeOf9
 v9 := Tryz.zeroValue9
 t28 := Tryz.underlying32
 a28 := Tryz.isAgg32
 z28 := Tryz.sizeOf32
 v28 := Tryz.zeroValue32
 t46 := Tryz.underlying123
 a46 := Tryz.isAgg123
 z46 := Tryz.sizeOf123
 v46 := Tryz.zeroValue123
 t51 := Tryz.underlying166
 a51 := Tryz.isAgg166
 z51 := Tryz.sizeOf166
 v51 := Tryz.zeroValue166
 t53 := Tryz.underlying168
 a53 := Tryz.isAgg168
 z53 := Tryz.sizeOf168
 v53 := Tryz.zeroValue168
 t131 := Tryz.underlying163
 a131 := Tryz.isAgg163
 z131 := Tryz.sizeOf163
 v131 := Tryz.zeroValue163
 t182 := Tryz.underlying157
 a182 := Tryz.isAgg157
 z182 := Tryz.sizeOf157
 v182 := Tryz.zeroValue157
 t183 := Tryz.underlying158
 a183 := Tryz.isAgg158
 z183 := Tryz.sizeOf158
 v183 := Tryz.zeroValue158
 t218 := Tryz.underlying186
 a218 := Tryz.isAgg186
 z218 := Tryz.sizeOf186
 v218 := Tryz.zeroValue186
 t222 := Tryz.underlying190
 a222 := Tryz.isAgg190
 z222 := Tryz.sizeOf190
 v222 := Tryz.zeroValue190
 t228 := Tryz.underlying209
 a228 := Tryz.isAgg209
 z228 := Tryz.sizeOf209
 v228 := Tryz.zeroValue209
 t229 := Tryz.underlying210
 a229 := Tryz.isAgg210
 z229 := Tryz.sizeOf210
 v229 := Tryz.zeroValue210 }
theorem cl31 : CallSnd Tryz.prog fi31 31 sortF := sort_snd rfl rfl (fun blk off cap zs w hH hb hz => Any.slices_Sort_int lays189 blk off cap zs w hH hb hz) (fun p cap w => Any.slices_Sort_int_none lays189 p cap w)
theorem xs : ∀ f g fi, X f = some g → env.fi f = some fi → CallSnd Tryz.prog fi f g := xs_of (P := Tryz.prog) (fiL := fiTab) (tyL := tyTab) (⟨fun fi h => (by have h : some fi31 = some fi := h; cases h; exact cl31), trivial⟩)
end Go.Proofs.YtnakbpjofkdabaaGreat.T
