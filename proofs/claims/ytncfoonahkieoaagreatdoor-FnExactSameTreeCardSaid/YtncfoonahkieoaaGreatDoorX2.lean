/- What functions of the law FnExactSameTree come to, in trees; no condition. -/
import Derived.Test.YtncfoonahkieoaaGreatDoorRows
import Derived.Test.YtncfoonahkieoaaGreatDoorX1
import Derived.Shelf.Sort.Plain
import Derived.Shelf.Slices.In.SortNone
import Derived.Shelf.Strings.Search3
import Derived.Shelf.Strings.Count
import Derived.KernelRfl
set_option linter.unusedVariables false
set_option linter.constructorNameAsVariable false
set_option linter.unusedSimpArgs false
set_option linter.unnecessarySimpa false
namespace Go.Proofs.YtncfoonahkieoaaGreatDoor.T
open Go Go.Proofs.YtncfoonahkieoaaGreatDoorV
theorem tys : (tyTab.all fun x => tyOkB Tryz.prog ⟨lookN fiTab, lookN tyTab⟩ x.1 x.2 && (!(x.2.agg && flatB x.2.cs) || eqTyB Tryz.prog x.1 x.2)) = true := by kernel_rfl
theorem fn66 : Tryz.prog.funcs[66]? = some fi66.fn ∧ fi66.fn.body.isSome = true ∧ (fi66.fn.name == "runtime.NumGoroutine") = false := ⟨Tryz.func66, by kernel_rfl, by kernel_rfl⟩
theorem fn93 : Tryz.prog.funcs[93]? = some fi93.fn ∧ fi93.fn.body.isSome = true ∧ (fi93.fn.name == "runtime.NumGoroutine") = false := ⟨Tryz.func93, by kernel_rfl, by kernel_rfl⟩
theorem fn67 : Tryz.prog.funcs[67]? = some fi67.fn ∧ fi67.fn.body.isSome = true ∧ (fi67.fn.name == "runtime.NumGoroutine") = false := ⟨Tryz.func67, by kernel_rfl, by kernel_rfl⟩
theorem fn94 : Tryz.prog.funcs[94]? = some fi94.fn ∧ fi94.fn.body.isSome = true ∧ (fi94.fn.name == "runtime.NumGoroutine") = false := ⟨Tryz.func94, by kernel_rfl, by kernel_rfl⟩
theorem fn68 : Tryz.prog.funcs[68]? = some fi68.fn ∧ fi68.fn.body.isSome = true ∧ (fi68.fn.name == "runtime.NumGoroutine") = false := ⟨Tryz.func68, by kernel_rfl, by kernel_rfl⟩
theorem fn41 : Tryz.prog.funcs[41]? = some fi41.fn ∧ fi41.fn.body.isSome = true ∧ (fi41.fn.name == "runtime.NumGoroutine") = false := ⟨Tryz.func41, by kernel_rfl, by kernel_rfl⟩
theorem fn16 : Tryz.prog.funcs[16]? = some fi16.fn ∧ fi16.fn.body.isSome = true ∧ (fi16.fn.name == "runtime.NumGoroutine") = false := ⟨Tryz.func16, by kernel_rfl, by kernel_rfl⟩
theorem fn5 : Tryz.prog.funcs[5]? = some fi5.fn ∧ fi5.fn.body.isSome = true ∧ (fi5.fn.name == "runtime.NumGoroutine") = false := ⟨Tryz.func5, by kernel_rfl, by kernel_rfl⟩
theorem fn73 : Tryz.prog.funcs[73]? = some fi73.fn ∧ fi73.fn.body.isSome = true ∧ (fi73.fn.name == "runtime.NumGoroutine") = false := ⟨Tryz.func73, by kernel_rfl, by kernel_rfl⟩
theorem fn98 : Tryz.prog.funcs[98]? = some fi98.fn ∧ fi98.fn.body.isSome = true ∧ (fi98.fn.name == "runtime.NumGoroutine") = false := ⟨Tryz.func98, by kernel_rfl, by kernel_rfl⟩
theorem fn74 : Tryz.prog.funcs[74]? = some fi74.fn ∧ fi74.fn.body.isSome = true ∧ (fi74.fn.name == "runtime.NumGoroutine") = false := ⟨Tryz.func74, by kernel_rfl, by kernel_rfl⟩
theorem fn99 : Tryz.prog.funcs[99]? = some fi99.fn ∧ fi99.fn.body.isSome = true ∧ (fi99.fn.name == "runtime.NumGoroutine") = false := ⟨Tryz.func99, by kernel_rfl, by kernel_rfl⟩
theorem fn75 : Tryz.prog.funcs[75]? = some fi75.fn ∧ fi75.fn.body.isSome = true ∧ (fi75.fn.name == "runtime.NumGoroutine") = false := ⟨Tryz.func75, by kernel_rfl, by kernel_rfl⟩
theorem fn48 : Tryz.prog.funcs[48]? = some fi48.fn ∧ fi48.fn.body.isSome = true ∧ (fi48.fn.name == "runtime.NumGoroutine") = false := ⟨Tryz.func48, by kernel_rfl, by kernel_rfl⟩
theorem fn21 : Tryz.prog.funcs[21]? = some fi21.fn ∧ fi21.fn.body.isSome = true ∧ (fi21.fn.name == "runtime.NumGoroutine") = false := ⟨Tryz.func21, by kernel_rfl, by kernel_rfl⟩
theorem fn7 : Tryz.prog.funcs[7]? = some fi7.fn ∧ fi7.fn.body.isSome = true ∧ (fi7.fn.name == "runtime.NumGoroutine") = false := ⟨Tryz.func7, by kernel_rfl, by kernel_rfl⟩
theorem fn69 : Tryz.prog.funcs[69]? = some fi69.fn ∧ fi69.fn.body.isSome = true ∧ (fi69.fn.name == "runtime.NumGoroutine") = false := ⟨Tryz.func69, by kernel_rfl, by kernel_rfl⟩
theorem fn105 : Tryz.prog.funcs[105]? = some fi105.fn ∧ fi105.fn.body.isSome = true ∧ (fi105.fn.name == "runtime.NumGoroutine") = false := ⟨Tryz.func105, by kernel_rfl, by kernel_rfl⟩
theorem fn95 : Tryz.prog.funcs[95]? = some fi95.fn ∧ fi95.fn.body.isSome = true ∧ (fi95.fn.name == "runtime.NumGoroutine") = false := ⟨Tryz.func95, by kernel_rfl, by kernel_rfl⟩
theorem fn96 : Tryz.prog.funcs[96]? = some fi96.fn ∧ fi96.fn.body.isSome = true ∧ (fi96.fn.name == "runtime.NumGoroutine") = false := ⟨Tryz.func96, by kernel_rfl, by kernel_rfl⟩
theorem fn70 : Tryz.prog.funcs[70]? = some fi70.fn ∧ fi70.fn.body.isSome = true ∧ (fi70.fn.name == "runtime.NumGoroutine") = false := ⟨Tryz.func70, by kernel_rfl, by kernel_rfl⟩
theorem fn42 : Tryz.prog.funcs[42]? = some fi42.fn ∧ fi42.fn.body.isSome = true ∧ (fi42.fn.name == "runtime.NumGoroutine") = false := ⟨Tryz.func42, by kernel_rfl, by kernel_rfl⟩
theorem fn45 : Tryz.prog.funcs[45]? = some fi45.fn ∧ fi45.fn.body.isSome = true ∧ (fi45.fn.name == "runtime.NumGoroutine") = false := ⟨Tryz.func45, by kernel_rfl, by kernel_rfl⟩
theorem fn72 : Tryz.prog.funcs[72]? = some fi72.fn ∧ fi72.fn.body.isSome = true ∧ (fi72.fn.name == "runtime.NumGoroutine") = false := ⟨Tryz.func72, by kernel_rfl, by kernel_rfl⟩
theorem fn46 : Tryz.prog.funcs[46]? = some fi46.fn ∧ fi46.fn.body.isSome = true ∧ (fi46.fn.name == "runtime.NumGoroutine") = false := ⟨Tryz.func46, by kernel_rfl, by kernel_rfl⟩
theorem fn121 : Tryz.prog.funcs[121]? = some fi121.fn ∧ fi121.fn.body.isSome = true ∧ (fi121.fn.name == "runtime.NumGoroutine") = false := ⟨Tryz.func121, by kernel_rfl, by kernel_rfl⟩
theorem fn97 : Tryz.prog.funcs[97]? = some fi97.fn ∧ fi97.fn.body.isSome = true ∧ (fi97.fn.name == "runtime.NumGoroutine") = false := ⟨Tryz.func97, by kernel_rfl, by kernel_rfl⟩
theorem fn71 : Tryz.prog.funcs[71]? = some fi71.fn ∧ fi71.fn.body.isSome = true ∧ (fi71.fn.name == "runtime.NumGoroutine") = false := ⟨Tryz.func71, by kernel_rfl, by kernel_rfl⟩
theorem fn43 : Tryz.prog.funcs[43]? = some fi43.fn ∧ fi43.fn.body.isSome = true ∧ (fi43.fn.name == "runtime.NumGoroutine") = false := ⟨Tryz.func43, by kernel_rfl, by kernel_rfl⟩
theorem fn44 : Tryz.prog.funcs[44]? = some fi44.fn ∧ fi44.fn.body.isSome = true ∧ (fi44.fn.name == "runtime.NumGoroutine") = false := ⟨Tryz.func44, by kernel_rfl, by kernel_rfl⟩
theorem fn17 : Tryz.prog.funcs[17]? = some fi17.fn ∧ fi17.fn.body.isSome = true ∧ (fi17.fn.name == "runtime.NumGoroutine") = false := ⟨Tryz.func17, by kernel_rfl, by kernel_rfl⟩
theorem fn19 : Tryz.prog.funcs[19]? = some fi19.fn ∧ fi19.fn.body.isSome = true ∧ (fi19.fn.name == "runtime.NumGoroutine") = false := ⟨Tryz.func19, by kernel_rfl, by kernel_rfl⟩
theorem fn18 : Tryz.prog.funcs[18]? = some fi18.fn ∧ fi18.fn.body.isSome = true ∧ (fi18.fn.name == "runtime.NumGoroutine") = false := ⟨Tryz.func18, by kernel_rfl, by kernel_rfl⟩
theorem fn56 : Tryz.prog.funcs[56]? = some fi56.fn ∧ fi56.fn.body.isSome = true ∧ (fi56.fn.name == "runtime.NumGoroutine") = false := ⟨Tryz.func56, by kernel_rfl, by kernel_rfl⟩
theorem fn57 : Tryz.prog.funcs[57]? = some fi57.fn ∧ fi57.fn.body.isSome = true ∧ (fi57.fn.name == "runtime.NumGoroutine") = false := ⟨Tryz.func57, by kernel_rfl, by kernel_rfl⟩
theorem fn28 : Tryz.prog.funcs[28]? = some fi28.fn ∧ fi28.fn.body.isSome = true ∧ (fi28.fn.name == "runtime.NumGoroutine") = false := ⟨Tryz.func28, by kernel_rfl, by kernel_rfl⟩
theorem fn86 : Tryz.prog.funcs[86]? = some fi86.fn ∧ fi86.fn.body.isSome = true ∧ (fi86.fn.name == "runtime.NumGoroutine") = false := ⟨Tryz.func86, by kernel_rfl, by kernel_rfl⟩
theorem fn106 : Tryz.prog.funcs[106]? = some fi106.fn ∧ fi106.fn.body.isSome = true ∧ (fi106.fn.name == "runtime.NumGoroutine") = false := ⟨Tryz.func106, by kernel_rfl, by kernel_rfl⟩
theorem fn87 : Tryz.prog.funcs[87]? = some fi87.fn ∧ fi87.fn.body.isSome = true ∧ (fi87.fn.name == "runtime.NumGoroutine") = false := ⟨Tryz.func87, by kernel_rfl, by kernel_rfl⟩
theorem fn58 : Tryz.prog.funcs[58]? = some fi58.fn ∧ fi58.fn.body.isSome = true ∧ (fi58.fn.name == "runtime.NumGoroutine") = false := ⟨Tryz.func58, by kernel_rfl, by kernel_rfl⟩
theorem fn29 : Tryz.prog.funcs[29]? = some fi29.fn ∧ fi29.fn.body.isSome = true ∧ (fi29.fn.name == "runtime.NumGoroutine") = false := ⟨Tryz.func29, by kernel_rfl, by kernel_rfl⟩
theorem fn30 : Tryz.prog.funcs[30]? = some fi30.fn ∧ fi30.fn.body.isSome = true ∧ (fi30.fn.name == "runtime.NumGoroutine") = false := ⟨Tryz.func30, by kernel_rfl, by kernel_rfl⟩
theorem fn10 : Tryz.prog.funcs[10]? = some fi10.fn ∧ fi10.fn.body.isSome = true ∧ (fi10.fn.name == "runtime.NumGoroutine") = false := ⟨Tryz.func10, by kernel_rfl, by kernel_rfl⟩
theorem fn47 : Tryz.prog.funcs[47]? = some fi47.fn ∧ fi47.fn.body.isSome = true ∧ (fi47.fn.name == "runtime.NumGoroutine") = false := ⟨Tryz.func47, by kernel_rfl, by kernel_rfl⟩
theorem fn20 : Tryz.prog.funcs[20]? = some fi20.fn ∧ fi20.fn.body.isSome = true ∧ (fi20.fn.name == "runtime.NumGoroutine") = false := ⟨Tryz.func20, by kernel_rfl, by kernel_rfl⟩
theorem fn6 : Tryz.prog.funcs[6]? = some fi6.fn ∧ fi6.fn.body.isSome = true ∧ (fi6.fn.name == "runtime.NumGoroutine") = false := ⟨Tryz.func6, by kernel_rfl, by kernel_rfl⟩
theorem fn76 : Tryz.prog.funcs[76]? = some fi76.fn ∧ fi76.fn.body.isSome = true ∧ (fi76.fn.name == "runtime.NumGoroutine") = false := ⟨Tryz.func76, by kernel_rfl, by kernel_rfl⟩
theorem fn101 : Tryz.prog.funcs[101]? = some fi101.fn ∧ fi101.fn.body.isSome = true ∧ (fi101.fn.name == "runtime.NumGoroutine") = false := ⟨Tryz.func101, by kernel_rfl, by kernel_rfl⟩
theorem fn100 : Tryz.prog.funcs[100]? = some fi100.fn ∧ fi100.fn.body.isSome = true ∧ (fi100.fn.name == "runtime.NumGoroutine") = false := ⟨Tryz.func100, by kernel_rfl, by kernel_rfl⟩
theorem fn77 : Tryz.prog.funcs[77]? = some fi77.fn ∧ fi77.fn.body.isSome = true ∧ (fi77.fn.name == "runtime.NumGoroutine") = false := ⟨Tryz.func77, by kernel_rfl, by kernel_rfl⟩
theorem fn81 : Tryz.prog.funcs[81]? = some fi81.fn ∧ fi81.fn.body.isSome = true ∧ (fi81.fn.name == "runtime.NumGoroutine") = false := ⟨Tryz.func81, by kernel_rfl, by kernel_rfl⟩
theorem fn80 : Tryz.prog.funcs[80]? = some fi80.fn ∧ fi80.fn.body.isSome = true ∧ (fi80.fn.name == "runtime.NumGoroutine") = false := ⟨Tryz.func80, by kernel_rfl, by kernel_rfl⟩
theorem fn52 : Tryz.prog.funcs[52]? = some fi52.fn ∧ fi52.fn.body.isSome = true ∧ (fi52.fn.name == "runtime.NumGoroutine") = false := ⟨Tryz.func52, by kernel_rfl, by kernel_rfl⟩
theorem fn82 : Tryz.prog.funcs[82]? = some fi82.fn ∧ fi82.fn.body.isSome = true ∧ (fi82.fn.name == "runtime.NumGoroutine") = false := ⟨Tryz.func82, by kernel_rfl, by kernel_rfl⟩
theorem fn83 : Tryz.prog.funcs[83]? = some fi83.fn ∧ fi83.fn.body.isSome = true ∧ (fi83.fn.name == "runtime.NumGoroutine") = false := ⟨Tryz.func83, by kernel_rfl, by kernel_rfl⟩
theorem fn84 : Tryz.prog.funcs[84]? = some fi84.fn ∧ fi84.fn.body.isSome = true ∧ (fi84.fn.name == "runtime.NumGoroutine") = false := ⟨Tryz.func84, by kernel_rfl, by kernel_rfl⟩
theorem fn53 : Tryz.prog.funcs[53]? = some fi53.fn ∧ fi53.fn.body.isSome = true ∧ (fi53.fn.name == "runtime.NumGoroutine") = false := ⟨Tryz.func53, by kernel_rfl, by kernel_rfl⟩
theorem fn23 : Tryz.prog.funcs[23]? = some fi23.fn ∧ fi23.fn.body.isSome = true ∧ (fi23.fn.name == "runtime.NumGoroutine") = false := ⟨Tryz.func23, by kernel_rfl, by kernel_rfl⟩
theorem fn49 : Tryz.prog.funcs[49]? = some fi49.fn ∧ fi49.fn.body.isSome = true ∧ (fi49.fn.name == "runtime.NumGoroutine") = false := ⟨Tryz.func49, by kernel_rfl, by kernel_rfl⟩
theorem fn102 : Tryz.prog.funcs[102]? = some fi102.fn ∧ fi102.fn.body.isSome = true ∧ (fi102.fn.name == "runtime.NumGoroutine") = false := ⟨Tryz.func102, by kernel_rfl, by kernel_rfl⟩
theorem fn78 : Tryz.prog.funcs[78]? = some fi78.fn ∧ fi78.fn.body.isSome = true ∧ (fi78.fn.name == "runtime.NumGoroutine") = false := ⟨Tryz.func78, by kernel_rfl, by kernel_rfl⟩
theorem fn79 : Tryz.prog.funcs[79]? = some fi79.fn ∧ fi79.fn.body.isSome = true ∧ (fi79.fn.name == "runtime.NumGoroutine") = false := ⟨Tryz.func79, by kernel_rfl, by kernel_rfl⟩
theorem fn50 : Tryz.prog.funcs[50]? = some fi50.fn ∧ fi50.fn.body.isSome = true ∧ (fi50.fn.name == "runtime.NumGoroutine") = false := ⟨Tryz.func50, by kernel_rfl, by kernel_rfl⟩
theorem fn51 : Tryz.prog.funcs[51]? = some fi51.fn ∧ fi51.fn.body.isSome = true ∧ (fi51.fn.name == "runtime.NumGoroutine") = false := ⟨Tryz.func51, by kernel_rfl, by kernel_rfl⟩
theorem fn22 : Tryz.prog.funcs[22]? = some fi22.fn ∧ fi22.fn.body.isSome = true ∧ (fi22.fn.name == "runtime.NumGoroutine") = false := ⟨Tryz.func22, by kernel_rfl, by kernel_rfl⟩
theorem fn24 : Tryz.prog.funcs[24]? = some fi24.fn ∧ fi24.fn.body.isSome = true ∧ (fi24.fn.name == "runtime.NumGoroutine") = false := ⟨Tryz.func24, by kernel_rfl, by kernel_rfl⟩
theorem fn59 : Tryz.prog.funcs[59]? = some fi59.fn ∧ fi59.fn.body.isSome = true ∧ (fi59.fn.name == "runtime.NumGoroutine") = false := ⟨Tryz.func59, by kernel_rfl, by kernel_rfl⟩
theorem fn60 : Tryz.prog.funcs[60]? = some fi60.fn ∧ fi60.fn.body.isSome = true ∧ (fi60.fn.name == "runtime.NumGoroutine") = false := ⟨Tryz.func60, by kernel_rfl, by kernel_rfl⟩
theorem fn31 : Tryz.prog.funcs[31]? = some fi31.fn ∧ fi31.fn.body.isSome = true ∧ (fi31.fn.name == "runtime.NumGoroutine") = false := ⟨Tryz.func31, by kernel_rfl, by kernel_rfl⟩
theorem fn138 : Tryz.prog.funcs[138]? = some fi138.fn ∧ fi138.fn.body.isSome = true ∧ (fi138.fn.name == "runtime.NumGoroutine") = false := ⟨Tryz.func138, by kernel_rfl, by kernel_rfl⟩
theorem fn139 : Tryz.prog.funcs[139]? = some fi139.fn ∧ fi139.fn.body.isSome = true ∧ (fi139.fn.name == "runtime.NumGoroutine") = false := ⟨Tryz.func139, by kernel_rfl, by kernel_rfl⟩
theorem fn118 : Tryz.prog.funcs[118]? = some fi118.fn ∧ fi118.fn.body.isSome = true ∧ (fi118.fn.name == "runtime.NumGoroutine") = false := ⟨Tryz.func118, by kernel_rfl, by kernel_rfl⟩
theorem fn90 : Tryz.prog.funcs[90]? = some fi90.fn ∧ fi90.fn.body.isSome = true ∧ (fi90.fn.name == "runtime.NumGoroutine") = false := ⟨Tryz.func90, by kernel_rfl, by kernel_rfl⟩
theorem fn140 : Tryz.prog.funcs[140]? = some fi140.fn ∧ fi140.fn.body.isSome = true ∧ (fi140.fn.name == "runtime.NumGoroutine") = false := ⟨Tryz.func140, by kernel_rfl, by kernel_rfl⟩
theorem fn119 : Tryz.prog.funcs[119]? = some fi119.fn ∧ fi119.fn.body.isSome = true ∧ (fi119.fn.name == "runtime.NumGoroutine") = false := ⟨Tryz.func119, by kernel_rfl, by kernel_rfl⟩
theorem fn120 : Tryz.prog.funcs[120]? = some fi120.fn ∧ fi120.fn.body.isSome = true ∧ (fi120.fn.name == "runtime.NumGoroutine") = false := ⟨Tryz.func120, by kernel_rfl, by kernel_rfl⟩
theorem fn91 : Tryz.prog.funcs[91]? = some fi91.fn ∧ fi91.fn.body.isSome = true ∧ (fi91.fn.name == "runtime.NumGoroutine") = false := ⟨Tryz.func91, by kernel_rfl, by kernel_rfl⟩
theorem fn61 : Tryz.prog.funcs[61]? = some fi61.fn ∧ fi61.fn.body.isSome = true ∧ (fi61.fn.name == "runtime.NumGoroutine") = false := ⟨Tryz.func61, by kernel_rfl, by kernel_rfl⟩
theorem fn62 : Tryz.prog.funcs[62]? = some fi62.fn ∧ fi62.fn.body.isSome = true ∧ (fi62.fn.name == "runtime.NumGoroutine") = false := ⟨Tryz.func62, by kernel_rfl, by kernel_rfl⟩
theorem fn33 : Tryz.prog.funcs[33]? = some fi33.fn ∧ fi33.fn.body.isSome = true ∧ (fi33.fn.name == "runtime.NumGoroutine") = false := ⟨Tryz.func33, by kernel_rfl, by kernel_rfl⟩
theorem fn32 : Tryz.prog.funcs[32]? = some fi32.fn ∧ fi32.fn.body.isSome = true ∧ (fi32.fn.name == "runtime.NumGoroutine") = false := ⟨Tryz.func32, by kernel_rfl, by kernel_rfl⟩
theorem fn11 : Tryz.prog.funcs[11]? = some fi11.fn ∧ fi11.fn.body.isSome = true ∧ (fi11.fn.name == "runtime.NumGoroutine") = false := ⟨Tryz.func11, by kernel_rfl, by kernel_rfl⟩
theorem fn25 : Tryz.prog.funcs[25]? = some fi25.fn ∧ fi25.fn.body.isSome = true ∧ (fi25.fn.name == "runtime.NumGoroutine") = false := ⟨Tryz.func25, by kernel_rfl, by kernel_rfl⟩
theorem fn54 : Tryz.prog.funcs[54]? = some fi54.fn ∧ fi54.fn.body.isSome = true ∧ (fi54.fn.name == "runtime.NumGoroutine") = false := ⟨Tryz.func54, by kernel_rfl, by kernel_rfl⟩
theorem fn26 : Tryz.prog.funcs[26]? = some fi26.fn ∧ fi26.fn.body.isSome = true ∧ (fi26.fn.name == "runtime.NumGoroutine") = false := ⟨Tryz.func26, by kernel_rfl, by kernel_rfl⟩
theorem fn8 : Tryz.prog.funcs[8]? = some fi8.fn ∧ fi8.fn.body.isSome = true ∧ (fi8.fn.name == "runtime.NumGoroutine") = false := ⟨Tryz.func8, by kernel_rfl, by kernel_rfl⟩
theorem fn63 : Tryz.prog.funcs[63]? = some fi63.fn ∧ fi63.fn.body.isSome = true ∧ (fi63.fn.name == "runtime.NumGoroutine") = false := ⟨Tryz.func63, by kernel_rfl, by kernel_rfl⟩
theorem fn104 : Tryz.prog.funcs[104]? = some fi104.fn ∧ fi104.fn.body.isSome = true ∧ (fi104.fn.name == "runtime.NumGoroutine") = false := ⟨Tryz.func104, by kernel_rfl, by kernel_rfl⟩
theorem fn85 : Tryz.prog.funcs[85]? = some fi85.fn ∧ fi85.fn.body.isSome = true ∧ (fi85.fn.name == "runtime.NumGoroutine") = false := ⟨Tryz.func85, by kernel_rfl, by kernel_rfl⟩
theorem fn92 : Tryz.prog.funcs[92]? = some fi92.fn ∧ fi92.fn.body.isSome = true ∧ (fi92.fn.name == "runtime.NumGoroutine") = false := ⟨Tryz.func92, by kernel_rfl, by kernel_rfl⟩
theorem fn64 : Tryz.prog.funcs[64]? = some fi64.fn ∧ fi64.fn.body.isSome = true ∧ (fi64.fn.name == "runtime.NumGoroutine") = false := ⟨Tryz.func64, by kernel_rfl, by kernel_rfl⟩
theorem fn55 : Tryz.prog.funcs[55]? = some fi55.fn ∧ fi55.fn.body.isSome = true ∧ (fi55.fn.name == "runtime.NumGoroutine") = false := ⟨Tryz.func55, by kernel_rfl, by kernel_rfl⟩
theorem fn27 : Tryz.prog.funcs[27]? = some fi27.fn ∧ fi27.fn.body.isSome = true ∧ (fi27.fn.name == "runtime.NumGoroutine") = false := ⟨Tryz.func27, by kernel_rfl, by kernel_rfl⟩
theorem fn9 : Tryz.prog.funcs[9]? = some fi9.fn ∧ fi9.fn.body.isSome = true ∧ (fi9.fn.name == "runtime.NumGoroutine") = false := ⟨Tryz.func9, by kernel_rfl, by kernel_rfl⟩
theorem fn3 : Tryz.prog.funcs[3]? = some fi3.fn ∧ fi3.fn.body.isSome = true ∧ (fi3.fn.name == "runtime.NumGoroutine") = false := ⟨Tryz.func3, by kernel_rfl, by kernel_rfl⟩
theorem fns : AllF (fun x : Nat × Fi => Tryz.prog.funcs[x.1]? = some x.2.fn ∧ x.2.fn.body.isSome = true ∧ (x.2.fn.name == "runtime.NumGoroutine") = false) fiTab := ⟨fn66, fn93, fn67, fn94, fn68, fn41, fn16, fn5, fn73, fn98, fn74, fn99, fn75, fn48, fn21, fn7, fn69, fn105, fn95, fn96, fn70, fn42, fn45, fn72, fn46, fn121, fn97, fn71, fn43, fn44, fn17, fn19, fn18, fn56, fn57, fn28, fn86, fn106, fn87, fn58, fn29, fn30, fn10, fn47, fn20, fn6, fn76, fn101, fn100, fn77, fn81, fn80, fn52, fn82, fn83, fn84, fn53, fn23, fn49, fn102, fn78, fn79, fn50, fn51, fn22, fn24, fn59, fn60, fn31, fn138, fn139, fn118, fn90, fn140, fn119, fn120, fn91, fn61, fn62, fn33, fn32, fn11, fn25, fn54, fn26, fn8, fn63, fn104, fn85, fn92, fn64, fn55, fn27, fn9, fn3, trivial⟩
theorem mixed : Tryz.prog.follows .mixedOrders = true := by kernel_rfl
theorem envOk : EnvOk Tryz.prog env := qvs tys fns mixed
theorem lawTy : ∀ t ti, env.ty t = some ti → qjy env ti = true := qvh (by kernel_rfl)
theorem forms : ∀ f fi, env.fi f = some fi → fi.inl = false → fiB fi = true := qyr (by kernel_rfl)
theorem cl82 : qal Tryz.prog fi82 82 qfx := qiu envOk forms (f := 82) (fi := fi82) rfl rfl rfl (t := 44) (e := 5) Tryz.underlying44 rfl ⟨⟨rfl, rfl, rfl⟩, ⟨rfl, rfl, rfl⟩, ⟨⟨_, rfl⟩, rfl, rfl⟩⟩ (by kernel_rfl) (by kernel_rfl) (fun l => by kernel_rfl)
theorem cl83 : qal Tryz.prog fi83 83 qfx := qiu envOk forms (f := 83) (fi := fi83) rfl rfl rfl (t := 48) (e := 76) Tryz.underlying48 rfl ⟨⟨rfl, rfl, rfl⟩, ⟨rfl, rfl, rfl⟩, ⟨⟨_, rfl⟩, rfl, rfl⟩⟩ (by kernel_rfl) (by kernel_rfl) (fun l => by kernel_rfl)
theorem cl84 : qal Tryz.prog fi84 84 qfx := qiu envOk forms (f := 84) (fi := fi84) rfl rfl rfl (t := 41) (e := 54) Tryz.underlying41 rfl ⟨⟨rfl, rfl, rfl⟩, ⟨rfl, rfl, rfl⟩, ⟨⟨_, rfl⟩, rfl, rfl⟩⟩ (by kernel_rfl) (by kernel_rfl) (fun l => by kernel_rfl)
open Go.Shelf in
def qnp : Go.Shelf.Ren := ⟨fun | 189 => 79 | 125 => 89 | 257 => 103 | 128 => 116 | 129 => 117 | 294 => 122 | 295 => 123 | 296 => 124 | 297 => 125 | 298 => 126 | 299 => 127 | 216 => 128 | 300 => 129 | 301 => 130 | 328 => 141 | 329 => 132 | 330 => 133 | 331 => 142 | 332 => 143 | 215 => 144 | 343 => 150 | n => n, fun | 28 => 73 | 3 => 3 | 46 => 107 | 0 => 0 | 51 => 134 | 53 => 136 | 4 => 4 | 183 => 126 | 182 => 125 | 131 => 131 | 5 => 5 | 9 => 9 | 218 => 145 | 222 => 149 | 228 => 157 | 229 => 62 | n => n, fun | n => n⟩
open Go.Shelf in
theorem qt6 : Go.Proofs.Lays.n189 Tryz.prog qnp := {
 mixed := by kernel_rfl
 f125 := Tryz.func89.trans (congrArg some (by kernel_rfl))
 f128 := Tryz.func116.trans (congrArg some (by kernel_rfl))
 f129 := Tryz.func117.trans (congrArg some (by kernel_rfl))
 f189 := Tryz.func79.trans (congrArg some (by kernel_rfl))
 f215 := Tryz.func144.trans (congrArg some (by kernel_rfl))
 f216 := Tryz.func128.trans (congrArg some (by kernel_rfl))
 f257 := Tryz.func103.trans (congrArg some (by kernel_rfl))
 f294 := Tryz.func122.trans (congrArg some (by kernel_rfl))
 f295 := Tryz.func123.trans (congrArg some (by kernel_rfl))
 f296 := Tryz.func124.trans (congrArg some (by kernel_rfl))
 f297 := Tryz.func125.trans (congrArg some (by kernel_rfl))
 f298 := Tryz.func126.trans (congrArg some (by kernel_rfl))
 f299 := Tryz.func127.trans (congrArg some (by kernel_rfl))
 f300 := Tryz.func129.trans (congrArg some (by kernel_rfl))
 f301 := Tryz.func130.trans (congrArg some (by kernel_rfl))
 f328 := Tryz.func141.trans (congrArg some (by kernel_rfl))
 f329 := Tryz.func132.trans (congrArg some (by kernel_rfl))
 f330 := Tryz.func133.trans (congrArg some (by kernel_rfl))
 f331 := Tryz.func142.trans (congrArg some (by kernel_rfl))
 f332 := Tryz.func143.trans (congrArg some (by kernel_rfl))
 f343 := Tryz.func150.trans (congrArg some (by kernel_rfl))
 t0 := Tryz.underlying0
 a0 := Tryz.isAgg0
 z0 := Tryz.sizeOf0
 v0 := Tryz.zeroValue0
 t3 := Tryz.underlying3
 a3 := Tryz.isAgg3
 z3 := Tryz.sizeOf3
 v3 := Tryz.zeroValue3
 t4 := Tryz.underlying4
 a4 := Tryz.isAgg4
 z4 := Tryz.sizeOf4
 v4 := Tryz.zeroValue4
 t5 := Tryz.underlying5
 a5 := Tryz.isAgg5
 z5 := Tryz.sizeOf5
 v5 := Tryz.zeroValue5
 t9 := Tryz.underlying9
 a9 := Tryz.isAgg9
 z9 := Tryz.sizeOf9
 v9 := Tryz.zeroValue9
 t28 := Tryz.underlying73
 a28 := Tryz.isAgg73
 z28 := Tryz.sizeOf73
 v28 := Tryz.zeroValue73
 t46 := Tryz.underlying107
 a46 := Tryz.isAgg107
 z46 := Tryz.sizeOf107
 v46 := Tryz.zeroValue107
 t51 := Tryz.underlying134
 a51 := Tryz.isAgg134
 z51 := Tryz.sizeOf134
 v51 := Tryz.zeroValue134
 t53 := Tryz.underlying136
 a53 := Tryz.isAgg136
 z53 := Tryz.sizeOf136
 v53 := Tryz.zeroValue136
 t131 := Tryz.underlying131
 a131 := Tryz.isAgg131
 z131 := Tryz.sizeOf131
 v131 := Tryz.zeroValue131
 t182 := Tryz.underlying125
 a182 := Tryz.isAgg125
 z182 := Tryz.sizeOf125
 v182 := Tryz.zeroValue125
 t183 := Tryz.underlying126
 a183 := Tryz.isAgg126
 z183 := Tryz.sizeOf126
 v183 := Tryz.zeroValue126
 t218 := Tryz.underlying145
 a218 := Tryz.isAgg145
 z218 := Tryz.sizeOf145
 v218 := Tryz.zeroValue145
 t222 := Tryz.underlying149
 a222 := Tryz.isAgg149
 z222 := Tryz.sizeOf149
 v222 := Tryz.zeroValue149
 t228 := Tryz.underlying157
 a228 := Tryz.isAgg157
 z228 := Tryz.sizeOf157
 v228 := Tryz.zeroValue157
 t229 := Tryz.underlying62
 a229 := Tryz.isAgg62
 z229 := Tryz.sizeOf62
 v229 := Tryz.zeroValue62 }
open Go.Shelf in
def qnr : Go.Shelf.Ren := ⟨fun | 138 => 138 | 195 => 146 | 218 => 148 | 143 => 139 | 219 => 149 | 217 => 152 | 225 => 153 | 224 => 154 | 267 => 155 | 266 => 156 | 314 => 157 | n => n, fun | 9 => 9 | 3 => 3 | 4 => 4 | 5 => 5 | 0 => 0 | 46 => 107 | 146 => 169 | 51 => 134 | n => n, fun | 1 => 0 | n => n⟩
open Go.Shelf in
theorem qxk : Go.Proofs.Lays.n138 Tryz.prog qnr := {
 mixed := by kernel_rfl
 f138 := Tryz.func138.trans (congrArg some (by kernel_rfl))
 f143 := Tryz.func139.trans (congrArg some (by kernel_rfl))
 f195 := Tryz.func146.trans (congrArg some (by kernel_rfl))
 f217 := Tryz.func152.trans (congrArg some (by kernel_rfl))
 f218 := Tryz.func148.trans (congrArg some (by kernel_rfl))
 f219 := Tryz.func149.trans (congrArg some (by kernel_rfl))
 f224 := Tryz.func154.trans (congrArg some (by kernel_rfl))
 f225 := Tryz.func153.trans (congrArg some (by kernel_rfl))
 f266 := Tryz.func156.trans (congrArg some (by kernel_rfl))
 f267 := Tryz.func155.trans (congrArg some (by kernel_rfl))
 f314 := Tryz.func157.trans (congrArg some (by kernel_rfl))
 t0 := Tryz.underlying0
 a0 := Tryz.isAgg0
 z0 := Tryz.sizeOf0
 v0 := Tryz.zeroValue0
 t3 := Tryz.underlying3
 a3 := Tryz.isAgg3
 z3 := Tryz.sizeOf3
 v3 := Tryz.zeroValue3
 t4 := Tryz.underlying4
 a4 := Tryz.isAgg4
 z4 := Tryz.sizeOf4
 v4 := Tryz.zeroValue4
 t5 := Tryz.underlying5
 a5 := Tryz.isAgg5
 z5 := Tryz.sizeOf5
 v5 := Tryz.zeroValue5
 t9 := Tryz.underlying9
 a9 := Tryz.isAgg9
 z9 := Tryz.sizeOf9
 v9 := Tryz.zeroValue9
 t46 := Tryz.underlying107
 a46 := Tryz.isAgg107
 z46 := Tryz.sizeOf107
 v46 := Tryz.zeroValue107
 t51 := Tryz.underlying134
 a51 := Tryz.isAgg134
 z51 := Tryz.sizeOf134
 v51 := Tryz.zeroValue134
 t146 := Tryz.underlying169
 a146 := Tryz.isAgg169
 z146 := Tryz.sizeOf169
 v146 := Tryz.zeroValue169
 g1 := by kernel_rfl }
theorem cl138 : qal Tryz.prog fi138 138 qpx := qo1 rfl rfl (fun s c w => Any.strings_Count_one qxk s c w)
open Go.Shelf in
def qnq : Go.Shelf.Ren := ⟨fun | 143 => 139 | 219 => 149 | 217 => 152 | 225 => 153 | 224 => 154 | 267 => 155 | 266 => 156 | 314 => 157 | n => n, fun | 9 => 9 | 3 => 3 | 4 => 4 | 5 => 5 | 46 => 107 | 146 => 169 | 51 => 134 | n => n, fun | 1 => 0 | n => n⟩
open Go.Shelf in
theorem qxj : Go.Proofs.Lays.n143 Tryz.prog qnq := {
 mixed := by kernel_rfl
 f143 := Tryz.func139.trans (congrArg some (by kernel_rfl))
 f217 := Tryz.func152.trans (congrArg some (by kernel_rfl))
 f219 := Tryz.func149.trans (congrArg some (by kernel_rfl))
 f224 := Tryz.func154.trans (congrArg some (by kernel_rfl))
 f225 := Tryz.func153.trans (congrArg some (by kernel_rfl))
 f266 := Tryz.func156.trans (congrArg some (by kernel_rfl))
 f267 := Tryz.func155.trans (congrArg some (by kernel_rfl))
 f314 := Tryz.func157.trans (congrArg some (by kernel_rfl))
 t3 := Tryz.underlying3
 a3 := Tryz.isAgg3
 z3 := Tryz.sizeOf3
 v3 := Tryz.zeroValue3
 t4 := Tryz.underlying4
 a4 := Tryz.isAgg4
 z4 := Tryz.sizeOf4
 v4 := Tryz.zeroValue4
 t5 := Tryz.underlying5
 a5 := Tryz.isAgg5
 z5 := Tryz.sizeOf5
 v5 := Tryz.zeroValue5
 t9 := Tryz.underlying9
 a9 := Tryz.isAgg9
 z9 := Tryz.sizeOf9
 v9 := Tryz.zeroValue9
 t46 := Tryz.underlying107
 a46 := Tryz.isAgg107
 z46 := Tryz.sizeOf107
 v46 := Tryz.zeroValue107
 t51 := Tryz.underlying134
 a51 := Tryz.isAgg134
 z51 := Tryz.sizeOf134
 v51 := Tryz.zeroValue134
 t146 := Tryz.underlying169
 a146 := Tryz.isAgg169
 z146 := Tryz.sizeOf169
 v146 := Tryz.zeroValue169
 g1 := by kernel_rfl }
theorem cl139 : qal Tryz.prog fi139 139 qpn := qnu rfl rfl (fun s c w => Any.strings_Index_one qxj s c w)
theorem cl79 : qal Tryz.prog fi79 79 sortF := qv3 rfl rfl (fun blk off cap zs w hH hb hz => Any.slices_Sort_int qt6 blk off cap zs w hH hb hz) (fun p cap w => Any.slices_Sort_int_none qt6 p cap w)
open Go.Shelf in
def qno : Go.Shelf.Ren := ⟨fun | 190 => 60 | 125 => 89 | 258 => 88 | 128 => 116 | 129 => 117 | 302 => 107 | 303 => 108 | 304 => 109 | 305 => 110 | 306 => 111 | 307 => 112 | 308 => 113 | 309 => 114 | 310 => 115 | 333 => 131 | 329 => 132 | 330 => 133 | 334 => 134 | 335 => 135 | 336 => 136 | 344 => 145 | n => n, fun | 31 => 57 | 9 => 9 | 3 => 3 | 46 => 107 | 0 => 0 | 51 => 134 | 53 => 136 | 4 => 4 | 183 => 126 | 182 => 125 | 131 => 131 | 5 => 5 | 218 => 145 | 222 => 149 | 228 => 157 | 229 => 62 | n => n, fun | n => n⟩
open Go.Shelf in
theorem qt5 : Go.Proofs.Lays.n190 Tryz.prog qno := {
 mixed := by kernel_rfl
 f125 := Tryz.func89.trans (congrArg some (by kernel_rfl))
 f128 := Tryz.func116.trans (congrArg some (by kernel_rfl))
 f129 := Tryz.func117.trans (congrArg some (by kernel_rfl))
 f190 := Tryz.func60.trans (congrArg some (by kernel_rfl))
 f258 := Tryz.func88.trans (congrArg some (by kernel_rfl))
 f302 := Tryz.func107.trans (congrArg some (by kernel_rfl))
 f303 := Tryz.func108.trans (congrArg some (by kernel_rfl))
 f304 := Tryz.func109.trans (congrArg some (by kernel_rfl))
 f305 := Tryz.func110.trans (congrArg some (by kernel_rfl))
 f306 := Tryz.func111.trans (congrArg some (by kernel_rfl))
 f307 := Tryz.func112.trans (congrArg some (by kernel_rfl))
 f308 := Tryz.func113.trans (congrArg some (by kernel_rfl))
 f309 := Tryz.func114.trans (congrArg some (by kernel_rfl))
 f310 := Tryz.func115.trans (congrArg some (by kernel_rfl))
 f329 := Tryz.func132.trans (congrArg some (by kernel_rfl))
 f330 := Tryz.func133.trans (congrArg some (by kernel_rfl))
 f333 := Tryz.func131.trans (congrArg some (by kernel_rfl))
 f334 := Tryz.func134.trans (congrArg some (by kernel_rfl))
 f335 := Tryz.func135.trans (congrArg some (by kernel_rfl))
 f336 := Tryz.func136.trans (congrArg some (by kernel_rfl))
 f344 := Tryz.func145.trans (congrArg some (by kernel_rfl))
 t0 := Tryz.underlying0
 a0 := Tryz.isAgg0
 z0 := Tryz.sizeOf0
 v0 := Tryz.zeroValue0
 t3 := Tryz.underlying3
 a3 := Tryz.isAgg3
 z3 := Tryz.sizeOf3
 v3 := Tryz.zeroValue3
 t4 := Tryz.underlying4
 a4 := Tryz.isAgg4
 z4 := Tryz.sizeOf4
 v4 := Tryz.zeroValue4
 t5 := Tryz.underlying5
 a5 := Tryz.isAgg5
 z5 := Tryz.sizeOf5
 v5 := Tryz.zeroValue5
 t9 := Tryz.underlying9
 a9 := Tryz.isAgg9
 z9 := Tryz.sizeOf9
 v9 := Tryz.zeroValue9
 t31 := Tryz.underlying57
 a31 := Tryz.isAgg57
 z31 := Tryz.sizeOf57
 v31 := Tryz.zeroValue57
 t46 := Tryz.underlying107
 a46 := Tryz.isAgg107
 z46 := Tryz.sizeOf107
 v46 := Tryz.zeroValue107
 t51 := Tryz.underlying134
 a51 := Tryz.isAgg134
 z51 := Tryz.sizeOf134
 v51 := Tryz.zeroValue134
 t53 := Tryz.underlying136
 a53 := Tryz.isAgg136
 z53 := Tryz.sizeOf136
 v53 := Tryz.zeroValue136
 t131 := Tryz.underlying131
 a131 := Tryz.isAgg131
 z131 := Tryz.sizeOf131
 v131 := Tryz.zeroValue131
 t182 := Tryz.underlying125
 a182 := Tryz.isAgg125
 z182 := Tryz.sizeOf125
 v182 := Tryz.zeroValue125
 t183 := Tryz.underlying126
 a183 := Tryz.isAgg126
 z183 := Tryz.sizeOf126
 v183 := Tryz.zeroValue126
 t218 := Tryz.underlying145
 a218 := Tryz.isAgg145
 z218 := Tryz.sizeOf145
 v218 := Tryz.zeroValue145
 t222 := Tryz.underlying149
 a222 := Tryz.isAgg149
 z222 := Tryz.sizeOf149
 v222 := Tryz.zeroValue149
 t228 := Tryz.underlying157
 a228 := Tryz.isAgg157
 z228 := Tryz.sizeOf157
 v228 := Tryz.zeroValue157
 t229 := Tryz.underlying62
 a229 := Tryz.isAgg62
 z229 := Tryz.sizeOf62
 v229 := Tryz.zeroValue62 }
theorem cl60 : qal Tryz.prog fi60 60 qos := qs2 rfl rfl (fun blk off cap zs w hH hb hz => Any.slices_Sort_string qt5 blk off cap zs w hH hb hz) (fun p cap w => Any.slices_Sort_string_none qt5 p cap w)
theorem xs : ∀ f g fi, X f = some g → env.fi f = some fi → qal Tryz.prog fi f g := xs_of (P := Tryz.prog) (fiL := fiTab) (tyL := tyTab) (⟨fun fi h => (by have h : some fi82 = some fi := h; cases h; exact cl82), ⟨fun fi h => (by have h : some fi83 = some fi := h; cases h; exact cl83), ⟨fun fi h => (by have h : some fi84 = some fi := h; cases h; exact cl84), ⟨fun fi h => (by have h : some fi79 = some fi := h; cases h; exact cl79), ⟨fun fi h => (by have h : some fi60 = some fi := h; cases h; exact cl60), ⟨fun fi h => (by have h : some fi138 = some fi := h; cases h; exact cl138), ⟨fun fi h => (by have h : some fi139 = some fi := h; cases h; exact cl139), trivial⟩⟩⟩⟩⟩⟩⟩)
end Go.Proofs.YtncfoonahkieoaaGreatDoor.T
