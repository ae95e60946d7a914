/- What functions of the law FnExactEngOk come to, in trees; no condition. -/
import Derived.Test.YtdlidpfghafcgaaGreatRows
import Derived.Test.YtdlidpfghafcgaaGreatX1
import Derived.Shelf.Sort.Plain
import Derived.Shelf.Slices.In.SortNone
import Derived.KernelRfl
set_option linter.unusedVariables false
set_option linter.constructorNameAsVariable false
set_option linter.unusedSimpArgs false
set_option linter.unnecessarySimpa false
namespace Go.Proofs.YtdlidpfghafcgaaGreat.T
open Go Go.Proofs.YtdlidpfghafcgaaGreatV
theorem tys:(tyTab.all λx=>tyOkB Tryz.prog ⟨lookN fiTab,lookN tyTab⟩ x.1 x.2&&(!(x.2.agg&&flatB x.2.cs)||eqTyB Tryz.prog x.1 x.2))=true:=by kernel_rfl
theorem fns:AllF (λx:Nat×Fi=>Tryz.prog.funcs[x.1]? =some x.2.fn/\x.2.fn.body.isSome=true/\(x.2.fn.name=="runtime.NumGoroutine")=false) fiTab:=⟨⟨Tryz.func203,by kernel_rfl,by kernel_rfl⟩,⟨Tryz.func222,by kernel_rfl,by kernel_rfl⟩,⟨Tryz.func204,by kernel_rfl,by kernel_rfl⟩,⟨Tryz.func223,by kernel_rfl,by kernel_rfl⟩,⟨Tryz.func205,by kernel_rfl,by kernel_rfl⟩,⟨Tryz.func176,by kernel_rfl,by kernel_rfl⟩,⟨Tryz.func148,by kernel_rfl,by kernel_rfl⟩,⟨Tryz.func112,by kernel_rfl,by kernel_rfl⟩,⟨Tryz.func64,by kernel_rfl,by kernel_rfl⟩,⟨Tryz.func24,by kernel_rfl,by kernel_rfl⟩,⟨Tryz.func9,by kernel_rfl,by kernel_rfl⟩,⟨Tryz.func113,by kernel_rfl,by kernel_rfl⟩,⟨Tryz.func65,by kernel_rfl,by kernel_rfl⟩,⟨Tryz.func25,by kernel_rfl,by kernel_rfl⟩,⟨Tryz.func114,by kernel_rfl,by kernel_rfl⟩,⟨Tryz.func66,by kernel_rfl,by kernel_rfl⟩,⟨Tryz.func26,by kernel_rfl,by kernel_rfl⟩,⟨Tryz.func10,by kernel_rfl,by kernel_rfl⟩,⟨Tryz.func206,by kernel_rfl,by kernel_rfl⟩,⟨Tryz.func177,by kernel_rfl,by kernel_rfl⟩,⟨Tryz.func149,by kernel_rfl,by kernel_rfl⟩,⟨Tryz.func115,by kernel_rfl,by kernel_rfl⟩,⟨Tryz.func67,by kernel_rfl,by kernel_rfl⟩,⟨Tryz.func68,by kernel_rfl,by kernel_rfl⟩,⟨Tryz.func27,by kernel_rfl,by kernel_rfl⟩,⟨Tryz.func11,by kernel_rfl,by kernel_rfl⟩,⟨Tryz.func4,by kernel_rfl,by kernel_rfl⟩,⟨Tryz.func207,by kernel_rfl,by kernel_rfl⟩,⟨Tryz.func224,by kernel_rfl,by kernel_rfl⟩,⟨Tryz.func208,by kernel_rfl,by kernel_rfl⟩,⟨Tryz.func225,by kernel_rfl,by kernel_rfl⟩,⟨Tryz.func209,by kernel_rfl,by kernel_rfl⟩,⟨Tryz.func180,by kernel_rfl,by kernel_rfl⟩,⟨Tryz.func157,by kernel_rfl,by kernel_rfl⟩,⟨Tryz.func125,by kernel_rfl,by kernel_rfl⟩,⟨Tryz.func84,by kernel_rfl,by kernel_rfl⟩,⟨Tryz.func41,by kernel_rfl,by kernel_rfl⟩,⟨Tryz.func15,by kernel_rfl,by kernel_rfl⟩,⟨Tryz.func126,by kernel_rfl,by kernel_rfl⟩,⟨Tryz.func85,by kernel_rfl,by kernel_rfl⟩,⟨Tryz.func42,by kernel_rfl,by kernel_rfl⟩,⟨Tryz.func158,by kernel_rfl,by kernel_rfl⟩,⟨Tryz.func127,by kernel_rfl,by kernel_rfl⟩,⟨Tryz.func86,by kernel_rfl,by kernel_rfl⟩,⟨Tryz.func43,by kernel_rfl,by kernel_rfl⟩,⟨Tryz.func16,by kernel_rfl,by kernel_rfl⟩,⟨Tryz.func210,by kernel_rfl,by kernel_rfl⟩,⟨Tryz.func181,by kernel_rfl,by kernel_rfl⟩,⟨Tryz.func159,by kernel_rfl,by kernel_rfl⟩,⟨Tryz.func128,by kernel_rfl,by kernel_rfl⟩,⟨Tryz.func87,by kernel_rfl,by kernel_rfl⟩,⟨Tryz.func129,by kernel_rfl,by kernel_rfl⟩,⟨Tryz.func88,by kernel_rfl,by kernel_rfl⟩,⟨Tryz.func44,by kernel_rfl,by kernel_rfl⟩,⟨Tryz.func17,by kernel_rfl,by kernel_rfl⟩,⟨Tryz.func6,by kernel_rfl,by kernel_rfl⟩,⟨Tryz.func28,by kernel_rfl,by kernel_rfl⟩,⟨Tryz.func29,by kernel_rfl,by kernel_rfl⟩,⟨Tryz.func30,by kernel_rfl,by kernel_rfl⟩,⟨Tryz.func150,by kernel_rfl,by kernel_rfl⟩,⟨Tryz.func151,by kernel_rfl,by kernel_rfl⟩,⟨Tryz.func116,by kernel_rfl,by kernel_rfl⟩,⟨Tryz.func69,by kernel_rfl,by kernel_rfl⟩,⟨Tryz.func72,by kernel_rfl,by kernel_rfl⟩,⟨Tryz.func178,by kernel_rfl,by kernel_rfl⟩,⟨Tryz.func152,by kernel_rfl,by kernel_rfl⟩,⟨Tryz.func179,by kernel_rfl,by kernel_rfl⟩,⟨Tryz.func153,by kernel_rfl,by kernel_rfl⟩,⟨Tryz.func117,by kernel_rfl,by kernel_rfl⟩,⟨Tryz.func70,by kernel_rfl,by kernel_rfl⟩,⟨Tryz.func71,by kernel_rfl,by kernel_rfl⟩,⟨Tryz.func31,by kernel_rfl,by kernel_rfl⟩,⟨Tryz.func32,by kernel_rfl,by kernel_rfl⟩,⟨Tryz.func12,by kernel_rfl,by kernel_rfl⟩,⟨Tryz.func118,by kernel_rfl,by kernel_rfl⟩,⟨Tryz.func73,by kernel_rfl,by kernel_rfl⟩,⟨Tryz.func74,by kernel_rfl,by kernel_rfl⟩,⟨Tryz.func33,by kernel_rfl,by kernel_rfl⟩,⟨Tryz.func154,by kernel_rfl,by kernel_rfl⟩,⟨Tryz.func119,by kernel_rfl,by kernel_rfl⟩,⟨Tryz.func155,by kernel_rfl,by kernel_rfl⟩,⟨Tryz.func120,by kernel_rfl,by kernel_rfl⟩,⟨Tryz.func121,by kernel_rfl,by kernel_rfl⟩,⟨Tryz.func122,by kernel_rfl,by kernel_rfl⟩,⟨Tryz.func75,by kernel_rfl,by kernel_rfl⟩,⟨Tryz.func34,by kernel_rfl,by kernel_rfl⟩,⟨Tryz.func13,by kernel_rfl,by kernel_rfl⟩,⟨Tryz.func77,by kernel_rfl,by kernel_rfl⟩,⟨Tryz.func79,by kernel_rfl,by kernel_rfl⟩,⟨Tryz.func156,by kernel_rfl,by kernel_rfl⟩,⟨Tryz.func123,by kernel_rfl,by kernel_rfl⟩,⟨Tryz.func76,by kernel_rfl,by kernel_rfl⟩,⟨Tryz.func35,by kernel_rfl,by kernel_rfl⟩,⟨Tryz.func36,by kernel_rfl,by kernel_rfl⟩,⟨Tryz.func38,by kernel_rfl,by kernel_rfl⟩,⟨Tryz.func124,by kernel_rfl,by kernel_rfl⟩,⟨Tryz.func78,by kernel_rfl,by kernel_rfl⟩,⟨Tryz.func37,by kernel_rfl,by kernel_rfl⟩,⟨Tryz.func80,by kernel_rfl,by kernel_rfl⟩,⟨Tryz.func39,by kernel_rfl,by kernel_rfl⟩,⟨Tryz.func81,by kernel_rfl,by kernel_rfl⟩,⟨Tryz.func82,by kernel_rfl,by kernel_rfl⟩,⟨Tryz.func83,by kernel_rfl,by kernel_rfl⟩,⟨Tryz.func40,by kernel_rfl,by kernel_rfl⟩,⟨Tryz.func14,by kernel_rfl,by kernel_rfl⟩,⟨Tryz.func5,by kernel_rfl,by kernel_rfl⟩,⟨Tryz.func45,by kernel_rfl,by kernel_rfl⟩,⟨Tryz.func46,by kernel_rfl,by kernel_rfl⟩,⟨Tryz.func90,by kernel_rfl,by kernel_rfl⟩,⟨Tryz.func89,by kernel_rfl,by kernel_rfl⟩,⟨Tryz.func47,by kernel_rfl,by kernel_rfl⟩,⟨Tryz.func48,by kernel_rfl,by kernel_rfl⟩,⟨Tryz.func142,by kernel_rfl,by kernel_rfl⟩,⟨Tryz.func105,by kernel_rfl,by kernel_rfl⟩,⟨Tryz.func134,by kernel_rfl,by kernel_rfl⟩,⟨Tryz.func133,by kernel_rfl,by kernel_rfl⟩,⟨Tryz.func94,by kernel_rfl,by kernel_rfl⟩,⟨Tryz.func101,by kernel_rfl,by kernel_rfl⟩,⟨Tryz.func182,by kernel_rfl,by kernel_rfl⟩,⟨Tryz.func183,by kernel_rfl,by kernel_rfl⟩,⟨Tryz.func160,by kernel_rfl,by kernel_rfl⟩,⟨Tryz.func130,by kernel_rfl,by kernel_rfl⟩,⟨Tryz.func91,by kernel_rfl,by kernel_rfl⟩,⟨Tryz.func161,by kernel_rfl,by kernel_rfl⟩,⟨Tryz.func131,by kernel_rfl,by kernel_rfl⟩,⟨Tryz.func132,by kernel_rfl,by kernel_rfl⟩,⟨Tryz.func92,by kernel_rfl,by kernel_rfl⟩,⟨Tryz.func93,by kernel_rfl,by kernel_rfl⟩,⟨Tryz.func49,by kernel_rfl,by kernel_rfl⟩,⟨Tryz.func50,by kernel_rfl,by kernel_rfl⟩,⟨Tryz.func18,by kernel_rfl,by kernel_rfl⟩,⟨Tryz.func95,by kernel_rfl,by kernel_rfl⟩,⟨Tryz.func51,by kernel_rfl,by kernel_rfl⟩,⟨Tryz.func53,by kernel_rfl,by kernel_rfl⟩,⟨Tryz.func164,by kernel_rfl,by kernel_rfl⟩,⟨Tryz.func135,by kernel_rfl,by kernel_rfl⟩,⟨Tryz.func217,by kernel_rfl,by kernel_rfl⟩,⟨Tryz.func195,by kernel_rfl,by kernel_rfl⟩,⟨Tryz.func165,by kernel_rfl,by kernel_rfl⟩,⟨Tryz.func196,by kernel_rfl,by kernel_rfl⟩,⟨Tryz.func166,by kernel_rfl,by kernel_rfl⟩,⟨Tryz.func197,by kernel_rfl,by kernel_rfl⟩,⟨Tryz.func167,by kernel_rfl,by kernel_rfl⟩,⟨Tryz.func168,by kernel_rfl,by kernel_rfl⟩,⟨Tryz.func169,by kernel_rfl,by kernel_rfl⟩,⟨Tryz.func136,by kernel_rfl,by kernel_rfl⟩,⟨Tryz.func96,by kernel_rfl,by kernel_rfl⟩,⟨Tryz.func52,by kernel_rfl,by kernel_rfl⟩,⟨Tryz.func19,by kernel_rfl,by kernel_rfl⟩,⟨Tryz.func98,by kernel_rfl,by kernel_rfl⟩,⟨Tryz.func137,by kernel_rfl,by kernel_rfl⟩,⟨Tryz.func170,by kernel_rfl,by kernel_rfl⟩,⟨Tryz.func198,by kernel_rfl,by kernel_rfl⟩,⟨Tryz.func199,by kernel_rfl,by kernel_rfl⟩,⟨Tryz.func200,by kernel_rfl,by kernel_rfl⟩,⟨Tryz.func171,by kernel_rfl,by kernel_rfl⟩,⟨Tryz.func139,by kernel_rfl,by kernel_rfl⟩,⟨Tryz.func138,by kernel_rfl,by kernel_rfl⟩,⟨Tryz.func97,by kernel_rfl,by kernel_rfl⟩,⟨Tryz.func54,by kernel_rfl,by kernel_rfl⟩,⟨Tryz.func56,by kernel_rfl,by kernel_rfl⟩,⟨Tryz.func99,by kernel_rfl,by kernel_rfl⟩,⟨Tryz.func100,by kernel_rfl,by kernel_rfl⟩,⟨Tryz.func55,by kernel_rfl,by kernel_rfl⟩,⟨Tryz.func141,by kernel_rfl,by kernel_rfl⟩,⟨Tryz.func172,by kernel_rfl,by kernel_rfl⟩,⟨Tryz.func140,by kernel_rfl,by kernel_rfl⟩,⟨Tryz.func102,by kernel_rfl,by kernel_rfl⟩,⟨Tryz.func103,by kernel_rfl,by kernel_rfl⟩,⟨Tryz.func57,by kernel_rfl,by kernel_rfl⟩,⟨Tryz.func104,by kernel_rfl,by kernel_rfl⟩,⟨Tryz.func58,by kernel_rfl,by kernel_rfl⟩,⟨Tryz.func106,by kernel_rfl,by kernel_rfl⟩,⟨Tryz.func59,by kernel_rfl,by kernel_rfl⟩,⟨Tryz.func20,by kernel_rfl,by kernel_rfl⟩,⟨Tryz.func7,by kernel_rfl,by kernel_rfl⟩,⟨Tryz.func218,by kernel_rfl,by kernel_rfl⟩,⟨Tryz.func227,by kernel_rfl,by kernel_rfl⟩,⟨Tryz.func219,by kernel_rfl,by kernel_rfl⟩,⟨Tryz.func228,by kernel_rfl,by kernel_rfl⟩,⟨Tryz.func220,by kernel_rfl,by kernel_rfl⟩,⟨Tryz.func201,by kernel_rfl,by kernel_rfl⟩,⟨Tryz.func173,by kernel_rfl,by kernel_rfl⟩,⟨Tryz.func143,by kernel_rfl,by kernel_rfl⟩,⟨Tryz.func107,by kernel_rfl,by kernel_rfl⟩,⟨Tryz.func60,by kernel_rfl,by kernel_rfl⟩,⟨Tryz.func21,by kernel_rfl,by kernel_rfl⟩,⟨Tryz.func144,by kernel_rfl,by kernel_rfl⟩,⟨Tryz.func108,by kernel_rfl,by kernel_rfl⟩,⟨Tryz.func61,by kernel_rfl,by kernel_rfl⟩,⟨Tryz.func174,by kernel_rfl,by kernel_rfl⟩,⟨Tryz.func145,by kernel_rfl,by kernel_rfl⟩,⟨Tryz.func109,by kernel_rfl,by kernel_rfl⟩,⟨Tryz.func62,by kernel_rfl,by kernel_rfl⟩,⟨Tryz.func22,by kernel_rfl,by kernel_rfl⟩,⟨Tryz.func221,by kernel_rfl,by kernel_rfl⟩,⟨Tryz.func202,by kernel_rfl,by kernel_rfl⟩,⟨Tryz.func175,by kernel_rfl,by kernel_rfl⟩,⟨Tryz.func146,by kernel_rfl,by kernel_rfl⟩,⟨Tryz.func110,by kernel_rfl,by kernel_rfl⟩,⟨Tryz.func147,by kernel_rfl,by kernel_rfl⟩,⟨Tryz.func111,by kernel_rfl,by kernel_rfl⟩,⟨Tryz.func63,by kernel_rfl,by kernel_rfl⟩,⟨Tryz.func23,by kernel_rfl,by kernel_rfl⟩,⟨Tryz.func8,by kernel_rfl,by kernel_rfl⟩,⟨Tryz.func3,by kernel_rfl,by kernel_rfl⟩,trivial⟩
theorem mixed:Tryz.prog.follows .mixedOrders=true:=by kernel_rfl
theorem envOk:EnvOk Tryz.prog env:=qyf tys fns mixed
theorem lawTy:∀t ti,env.ty t=some ti->qm7 env ti=true:=qy4 (by kernel_rfl)
theorem forms:∀f fi,env.fi f=some fi->fi.inl=false->fiB fi=true:=fiB_of (by kernel_rfl)
theorem cl101:qc4 Tryz.prog fi101 101 qhl:=ql5 envOk forms (f:=101) (fi:=fi101) rfl rfl rfl (t:=96) (e:=5) Tryz.underlying96 rfl ⟨⟨rfl,rfl,rfl⟩,⟨rfl,rfl,rfl⟩,⟨⟨_,rfl⟩,rfl,rfl⟩⟩ (by kernel_rfl) (by kernel_rfl) (λl=>by kernel_rfl)
theorem cl182:qc4 Tryz.prog fi182 182 qhl:=ql5 envOk forms (f:=182) (fi:=fi182) rfl rfl rfl (t:=115) (e:=143) Tryz.underlying115 rfl ⟨⟨rfl,rfl,rfl⟩,⟨rfl,rfl,rfl⟩,⟨⟨_,rfl⟩,rfl,rfl⟩⟩ (by kernel_rfl) (by kernel_rfl) (λl=>by kernel_rfl)
theorem cl183:qc4 Tryz.prog fi183 183 qhl:=ql5 envOk forms (f:=183) (fi:=fi183) rfl rfl rfl (t:=116) (e:=145) Tryz.underlying116 rfl ⟨⟨rfl,rfl,rfl⟩,⟨rfl,rfl,rfl⟩,⟨⟨_,rfl⟩,rfl,rfl⟩⟩ (by kernel_rfl) (by kernel_rfl) (λl=>by kernel_rfl)
open Go.Shelf in
def qq7:Go.Shelf.Ren:=⟨λ|189=>132|125=>163|257=>162|128=>193|129=>194|294=>184|295=>185|296=>186|297=>187|298=>188|299=>189|216=>190|300=>191|301=>192|328=>211|329=>212|330=>213|331=>214|332=>215|215=>216|343=>226|n=>n,λ|28=>139|3=>3|46=>158|0=>0|51=>268|53=>270|4=>4|183=>260|182=>259|131=>265|5=>5|9=>9|218=>282|222=>286|228=>295|229=>296|n=>n,λ|n=>n⟩
open Go.Shelf in
theorem qvq:Go.Proofs.Lays.n189 Tryz.prog qq7:={
 mixed:=by kernel_rfl
 f125:=Tryz.func163.trans (congrArg some (by kernel_rfl))
 f128:=Tryz.func193.trans (congrArg some (by kernel_rfl))
 f129:=Tryz.func194.trans (congrArg some (by kernel_rfl))
 f189:=Tryz.func132.trans (congrArg some (by kernel_rfl))
 f215:=Tryz.func216.trans (congrArg some (by kernel_rfl))
 f216:=Tryz.func190.trans (congrArg some (by kernel_rfl))
 f257:=Tryz.func162.trans (congrArg some (by kernel_rfl))
 f294:=Tryz.func184.trans (congrArg some (by kernel_rfl))
 f295:=Tryz.func185.trans (congrArg some (by kernel_rfl))
 f296:=Tryz.func186.trans (congrArg some (by kernel_rfl))
 f297:=Tryz.func187.trans (congrArg some (by kernel_rfl))
 f298:=Tryz.func188.trans (congrArg some (by kernel_rfl))
 f299:=Tryz.func189.trans (congrArg some (by kernel_rfl))
 f300:=Tryz.func191.trans (congrArg some (by kernel_rfl))
 f301:=Tryz.func192.trans (congrArg some (by kernel_rfl))
 f328:=Tryz.func211.trans (congrArg some (by kernel_rfl))
 f329:=Tryz.func212.trans (congrArg some (by kernel_rfl))
 f330:=Tryz.func213.trans (congrArg some (by kernel_rfl))
 f331:=Tryz.func214.trans (congrArg some (by kernel_rfl))
 f332:=Tryz.func215.trans (congrArg some (by kernel_rfl))
 f343:=Tryz.func226.trans (congrArg some (by kernel_rfl))
 t0:=Tryz.underlying0
 a0:=Tryz.isAgg0
 z0:=Tryz.sizeOf0
 v0:=Tryz.zeroValue0
 t3:=Tryz.underlying3
 a3:=Tryz.isAgg3
 z3:=Tryz.sizeOf3
 v3:=Tryz.zeroValue3
 t4:=Tryz.underlying4
 a4:=Tryz.isAgg4
 z4:=Tryz.sizeOf4
 v4:=Tryz.zeroValue4
 t5:=Tryz.underlying5
 a5:=Tryz.isAgg5
 z5:=Tryz.sizeOf5
 v5:=Tryz.zeroValue5
 t9:=Tryz.underlying9
 a9:=Tryz.isAgg9
 z9:=Tryz.sizeOf9
 v9:=Tryz.zeroValue9
 t28:=Tryz.underlying139
 a28:=Tryz.isAgg139
 z28:=Tryz.sizeOf139
 v28:=Tryz.zeroValue139
 t46:=Tryz.underlying158
 a46:=Tryz.isAgg158
 z46:=Tryz.sizeOf158
 v46:=Tryz.zeroValue158
 t51:=Tryz.underlying268
 a51:=Tryz.isAgg268
 z51:=Tryz.sizeOf268
 v51:=Tryz.zeroValue268
 t53:=Tryz.underlying270
 a53:=Tryz.isAgg270
 z53:=Tryz.sizeOf270
 v53:=Tryz.zeroValue270
 t131:=Tryz.underlying265
 a131:=Tryz.isAgg265
 z131:=Tryz.sizeOf265
 v131:=Tryz.zeroValue265
 t182:=Tryz.underlying259
 a182:=Tryz.isAgg259
 z182:=Tryz.sizeOf259
 v182:=Tryz.zeroValue259
 t183:=Tryz.underlying260
 a183:=Tryz.isAgg260
 z183:=Tryz.sizeOf260
 v183:=Tryz.zeroValue260
 t218:=Tryz.underlying282
 a218:=Tryz.isAgg282
 z218:=Tryz.sizeOf282
 v218:=Tryz.zeroValue282
 t222:=Tryz.underlying286
 a222:=Tryz.isAgg286
 z222:=Tryz.sizeOf286
 v222:=Tryz.zeroValue286
 t228:=Tryz.underlying295
 a228:=Tryz.isAgg295
 z228:=Tryz.sizeOf295
 v228:=Tryz.zeroValue295
 t229:=Tryz.underlying296
 a229:=Tryz.isAgg296
 z229:=Tryz.sizeOf296
 v229:=Tryz.zeroValue296}
theorem cl132:qc4 Tryz.prog fi132 132 sortF:=qxm rfl rfl (λblk off cap zs w hH hb hz=>Any.slices_Sort_int qvq blk off cap zs w hH hb hz) (λp cap w=>Any.slices_Sort_int_none qvq p cap w)
theorem xs:∀f g fi,X f=some g->env.fi f=some fi->qc4 Tryz.prog fi f g:=xs_of (P:=Tryz.prog) (fiL:=fiTab) (tyL:=tyTab) (⟨λfi h=>(by have h:some fi101=some fi:=h;cases h;exact cl101),⟨λfi h=>(by have h:some fi182=some fi:=h;cases h;exact cl182),⟨λfi h=>(by have h:some fi183=some fi:=h;cases h;exact cl183),⟨λfi h=>(by have h:some fi132=some fi:=h;cases h;exact cl132),trivial⟩⟩⟩⟩)
end Go.Proofs.YtdlidpfghafcgaaGreat.T
