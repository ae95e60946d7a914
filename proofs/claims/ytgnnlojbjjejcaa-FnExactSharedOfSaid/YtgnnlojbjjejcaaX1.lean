/- What functions of the law FnExactSharedOf come to, in trees; no condition. -/
import Derived.Test.YtgnnlojbjjejcaaRows
import Derived.Test.YtgnnlojbjjejcaaX0
import Derived.Shelf.Sort.Plain
import Derived.Shelf.Slices.In.SortNone
import Derived.KernelRfl
set_option linter.unusedVariables false
set_option linter.constructorNameAsVariable false
set_option linter.unusedSimpArgs false
set_option linter.unnecessarySimpa false
namespace Go.Proofs.Ytgnnlojbjjejcaa.T
open Go Go.Proofs.YtgnnlojbjjejcaaV
theorem tys:(tyTab.all λx=>tyOkB Try.prog ⟨lookN fiTab,lookN tyTab⟩ x.1 x.2&&(!(x.2.agg&&flatB x.2.cs)||eqTyB Try.prog x.1 x.2))=true:=by kernel_rfl
theorem fns:AllF (λx:Nat×Fi=>Try.prog.funcs[x.1]? =some x.2.fn/\x.2.fn.body.isSome=true/\(x.2.fn.name=="runtime.NumGoroutine")=false) fiTab:=⟨⟨Try.func75,by kernel_rfl,by kernel_rfl⟩,⟨Try.func84,by kernel_rfl,by kernel_rfl⟩,⟨Try.func76,by kernel_rfl,by kernel_rfl⟩,⟨Try.func85,by kernel_rfl,by kernel_rfl⟩,⟨Try.func77,by kernel_rfl,by kernel_rfl⟩,⟨Try.func72,by kernel_rfl,by kernel_rfl⟩,⟨Try.func68,by kernel_rfl,by kernel_rfl⟩,⟨Try.func56,by kernel_rfl,by kernel_rfl⟩,⟨Try.func35,by kernel_rfl,by kernel_rfl⟩,⟨Try.func23,by kernel_rfl,by kernel_rfl⟩,⟨Try.func9,by kernel_rfl,by kernel_rfl⟩,⟨Try.func36,by kernel_rfl,by kernel_rfl⟩,⟨Try.func24,by kernel_rfl,by kernel_rfl⟩,⟨Try.func10,by kernel_rfl,by kernel_rfl⟩,⟨Try.func37,by kernel_rfl,by kernel_rfl⟩,⟨Try.func25,by kernel_rfl,by kernel_rfl⟩,⟨Try.func11,by kernel_rfl,by kernel_rfl⟩,⟨Try.func4,by kernel_rfl,by kernel_rfl⟩,⟨Try.func78,by kernel_rfl,by kernel_rfl⟩,⟨Try.func86,by kernel_rfl,by kernel_rfl⟩,⟨Try.func79,by kernel_rfl,by kernel_rfl⟩,⟨Try.func87,by kernel_rfl,by kernel_rfl⟩,⟨Try.func80,by kernel_rfl,by kernel_rfl⟩,⟨Try.func73,by kernel_rfl,by kernel_rfl⟩,⟨Try.func69,by kernel_rfl,by kernel_rfl⟩,⟨Try.func58,by kernel_rfl,by kernel_rfl⟩,⟨Try.func39,by kernel_rfl,by kernel_rfl⟩,⟨Try.func27,by kernel_rfl,by kernel_rfl⟩,⟨Try.func14,by kernel_rfl,by kernel_rfl⟩,⟨Try.func40,by kernel_rfl,by kernel_rfl⟩,⟨Try.func28,by kernel_rfl,by kernel_rfl⟩,⟨Try.func15,by kernel_rfl,by kernel_rfl⟩,⟨Try.func59,by kernel_rfl,by kernel_rfl⟩,⟨Try.func41,by kernel_rfl,by kernel_rfl⟩,⟨Try.func29,by kernel_rfl,by kernel_rfl⟩,⟨Try.func16,by kernel_rfl,by kernel_rfl⟩,⟨Try.func6,by kernel_rfl,by kernel_rfl⟩,⟨Try.func57,by kernel_rfl,by kernel_rfl⟩,⟨Try.func38,by kernel_rfl,by kernel_rfl⟩,⟨Try.func26,by kernel_rfl,by kernel_rfl⟩,⟨Try.func12,by kernel_rfl,by kernel_rfl⟩,⟨Try.func13,by kernel_rfl,by kernel_rfl⟩,⟨Try.func5,by kernel_rfl,by kernel_rfl⟩,⟨Try.func17,by kernel_rfl,by kernel_rfl⟩,⟨Try.func18,by kernel_rfl,by kernel_rfl⟩,⟨Try.func19,by kernel_rfl,by kernel_rfl⟩,⟨Try.func7,by kernel_rfl,by kernel_rfl⟩,⟨Try.func81,by kernel_rfl,by kernel_rfl⟩,⟨Try.func88,by kernel_rfl,by kernel_rfl⟩,⟨Try.func82,by kernel_rfl,by kernel_rfl⟩,⟨Try.func89,by kernel_rfl,by kernel_rfl⟩,⟨Try.func83,by kernel_rfl,by kernel_rfl⟩,⟨Try.func74,by kernel_rfl,by kernel_rfl⟩,⟨Try.func71,by kernel_rfl,by kernel_rfl⟩,⟨Try.func66,by kernel_rfl,by kernel_rfl⟩,⟨Try.func53,by kernel_rfl,by kernel_rfl⟩,⟨Try.func32,by kernel_rfl,by kernel_rfl⟩,⟨Try.func20,by kernel_rfl,by kernel_rfl⟩,⟨Try.func54,by kernel_rfl,by kernel_rfl⟩,⟨Try.func33,by kernel_rfl,by kernel_rfl⟩,⟨Try.func21,by kernel_rfl,by kernel_rfl⟩,⟨Try.func67,by kernel_rfl,by kernel_rfl⟩,⟨Try.func55,by kernel_rfl,by kernel_rfl⟩,⟨Try.func34,by kernel_rfl,by kernel_rfl⟩,⟨Try.func22,by kernel_rfl,by kernel_rfl⟩,⟨Try.func8,by kernel_rfl,by kernel_rfl⟩,⟨Try.func3,by kernel_rfl,by kernel_rfl⟩,trivial⟩
theorem mixed:Try.prog.follows .mixedOrders=true:=by kernel_rfl
theorem envOk:EnvOk Try.prog env:=envOk_of tys fns mixed
theorem lawTy:∀t ti,env.ty t=some ti->lawTyB env ti=true:=lawTy_of (by kernel_rfl)
theorem forms:∀f fi,env.fi f=some fi->fi.inl=false->fiB fi=true:=fiB_of (by kernel_rfl)
open Go.Shelf in
def lays189_ren:Go.Shelf.Ren:=⟨λ|189=>18|125=>31|257=>30|128=>51|129=>52|294=>42|295=>43|296=>44|297=>45|298=>46|299=>47|216=>48|300=>49|301=>50|328=>60|329=>61|330=>62|331=>63|332=>64|215=>65|343=>70|n=>n,λ|28=>48|3=>3|46=>81|0=>0|51=>112|53=>114|4=>4|183=>104|182=>103|131=>109|5=>5|9=>9|218=>123|222=>127|228=>134|229=>135|n=>n,λ|n=>n⟩
open Go.Shelf in
theorem lays189:Go.Proofs.Lays.n189 Try.prog lays189_ren:={
 mixed:=by kernel_rfl
 f125:=Try.func31.trans (congrArg some (by kernel_rfl))
 f128:=Try.func51.trans (congrArg some (by kernel_rfl))
 f129:=Try.func52.trans (congrArg some (by kernel_rfl))
 f189:=Try.func18.trans (congrArg some (by kernel_rfl))
 f215:=Try.func65.trans (congrArg some (by kernel_rfl))
 f216:=Try.func48.trans (congrArg some (by kernel_rfl))
 f257:=Try.func30.trans (congrArg some (by kernel_rfl))
 f294:=Try.func42.trans (congrArg some (by kernel_rfl))
 f295:=Try.func43.trans (congrArg some (by kernel_rfl))
 f296:=Try.func44.trans (congrArg some (by kernel_rfl))
 f297:=Try.func45.trans (congrArg some (by kernel_rfl))
 f298:=Try.func46.trans (congrArg some (by kernel_rfl))
 f299:=Try.func47.trans (congrArg some (by kernel_rfl))
 f300:=Try.func49.trans (congrArg some (by kernel_rfl))
 f301:=Try.func50.trans (congrArg some (by kernel_rfl))
 f328:=Try.func60.trans (congrArg some (by kernel_rfl))
 f329:=Try.func61.trans (congrArg some (by kernel_rfl))
 f330:=Try.func62.trans (congrArg some (by kernel_rfl))
 f331:=Try.func63.trans (congrArg some (by kernel_rfl))
 f332:=Try.func64.trans (congrArg some (by kernel_rfl))
 f343:=Try.func70.trans (congrArg some (by kernel_rfl))
 t0:=Try.underlying0
 a0:=Try.isAgg0
 z0:=Try.sizeOf0
 v0:=Try.zeroValue0
 t3:=Try.underlying3
 a3:=Try.isAgg3
 z3:=Try.sizeOf3
 v3:=Try.zeroValue3
 t4:=Try.underlying4
 a4:=Try.isAgg4
 z4:=Try.sizeOf4
 v4:=Try.zeroValue4
 t5:=Try.underlying5
 a5:=Try.isAgg5
 z5:=Try.sizeOf5
 v5:=Try.zeroValue5
 t9:=Try.underlying9
 a9:=Try.isAgg9
 z9:=Try.sizeOf9
 v9:=Try.zeroValue9
 t28:=Try.underlying48
 a28:=Try.isAgg48
 z28:=Try.sizeOf48
 v28:=Try.zeroValue48
 t46:=Try.underlying81
 a46:=Try.isAgg81
 z46:=Try.sizeOf81
 v46:=Try.zeroValue81
 t51:=Try.underlying112
 a51:=Try.isAgg112
 z51:=Try.sizeOf112
 v51:=Try.zeroValue112
 t53:=Try.underlying114
 a53:=Try.isAgg114
 z53:=Try.sizeOf114
 v53:=Try.zeroValue114
 t131:=Try.underlying109
 a131:=Try.isAgg109
 z131:=Try.sizeOf109
 v131:=Try.zeroValue109
 t182:=Try.underlying103
 a182:=Try.isAgg103
 z182:=Try.sizeOf103
 v182:=Try.zeroValue103
 t183:=Try.underlying104
 a183:=Try.isAgg104
 z183:=Try.sizeOf104
 v183:=Try.zeroValue104
 t218:=Try.underlying123
 a218:=Try.isAgg123
 z218:=Try.sizeOf123
 v218:=Try.zeroValue123
 t222:=Try.underlying127
 a222:=Try.isAgg127
 z222:=Try.sizeOf127
 v222:=Try.zeroValue127
 t228:=Try.underlying134
 a228:=Try.isAgg134
 z228:=Try.sizeOf134
 v228:=Try.zeroValue134
 t229:=Try.underlying135
 a229:=Try.isAgg135
 z229:=Try.sizeOf135
 v229:=Try.zeroValue135}
theorem cl18:CallSnd Try.prog fi18 18 sortF:=sort_snd rfl rfl (λblk off cap zs w hH hb hz=>Any.slices_Sort_int lays189 blk off cap zs w hH hb hz) (λp cap w=>Any.slices_Sort_int_none lays189 p cap w)
theorem xs0:∀f g fi,X0 f=some g->env.fi f=some fi->CallSnd Try.prog fi f g:=xs_of (P:=Try.prog) (fiL:=fiTab) (tyL:=tyTab) (⟨λfi h=>(by have h:some fi18=some fi:=h;cases h;exact cl18),trivial⟩)
theorem snd_of{P:Program}{nt base:Nat}{a b:Code}{ev:EvF}(e:a=b)(h:CodeSndP P nt base b ev):CodeSndP P nt base a ev:=by rw[e];exact h
theorem kS_snd{c:Orc}{lf:Nat}(Fs:FnsOk Try.prog env c (inlK c env lf 6))(cd:Code):CodeSndP Try.prog 47 (baseP fi7.ps) cd (kS c lf cd):=(evK_snd envOk Fs (drawSnd envOk Fs) (fi:=fi7) (base:=baseP fi7.ps) cd).p
theorem b1_eq:b1=.seq (cL b1) (.seq (cL (cR b1)) (.seq (.block 3 (.seq (cL b3) (.seq (cL (cR b3)) (.cond (.tmp 29) (.region 10 (rops (cT (cR (cR b3)))) false) .skip)))) (cR (cR (cR b1))))):=by kernel_rfl
theorem e1_snd{c:Orc}{lf:Nat}(Fs:FnsOk Try.prog env c (inlK c env lf 6)):CodeSndP Try.prog 47 (baseP fi7.ps) b1 (e1 c lf):=snd_of b1_eq (seq_sndP (kS_snd Fs _) (seq_sndP (kS_snd Fs _) (seq_sndP (block_sndP (seq_sndP (kS_snd Fs _) (seq_sndP (kS_snd Fs _) (cond_sndP (inc_snd (o0:=oAt (rops (cT (cR (cR b3)))) 0) (o1:=oAt (rops (cT (cR (cR b3)))) 1) (o2:=oAt (rops (cT (cR (cR b3)))) 2) (o3:=oAt (rops (cT (cR (cR b3)))) 3) (o4:=oAt (rops (cT (cR (cR b3)))) 4) (ty:=3) Try.underlying54 Try.underlying3 Try.zeroValue3 (by kernel_rfl) (by kernel_rfl) (by kernel_rfl) (by kernel_rfl) (by kernel_rfl) (by kernel_rfl) (by kernel_rfl) (by kernel_rfl) (by kernel_rfl) (by kernel_rfl) (by kernel_rfl) (by kernel_rfl) (by kernel_rfl) (by kernel_rfl) (by kernel_rfl) (by kernel_rfl) (by kernel_rfl) (by kernel_rfl) (by kernel_rfl) (by kernel_rfl) (by kernel_rfl) (by decide) (by decide)) (kS_snd Fs _))))) (kS_snd Fs _))))
theorem bb_eq:bb=.seq (cL bb) (.seq (cL (cR bb)) (.seq (cL (cR (cR bb))) (.block 2 (.loop b1)))):=by kernel_rfl
theorem eb_snd{c:Orc}{lf:Nat}(Fs:FnsOk Try.prog env c (inlK c env lf 6)):CodeSndP Try.prog 47 (baseP fi7.ps) bb (eb c lf):=snd_of bb_eq (seq_sndP (kS_snd Fs _) (seq_sndP (det_sndP (kS_snd Fs _)) (seq_sndP (kS_snd Fs _) (block_sndP (loop_sndP lf fi7 (e1_snd Fs))))))
theorem b0_eq:b0=.seq (cL b0) (.seq (cL (cR b0)) (.seq (.block 1 bb) (cR (cR (cR b0))))):=by kernel_rfl
theorem e0_snd{c:Orc}{lf:Nat}(Fs:FnsOk Try.prog env c (inlK c env lf 6)):CodeSndP Try.prog 47 (baseP fi7.ps) b0 (e0 c lf):=snd_of b0_eq (seq_sndP (kS_snd Fs _) (seq_sndP (kS_snd Fs _) (seq_sndP (block_sndP (eb_snd Fs)) (kS_snd Fs _))))
theorem b4_eq:b4=.seq (.region 15 #[⟨some 38,.next (.tmp 37) false,(oAt (rops (cL b4)) 0).type,(oAt (rops (cL b4)) 0).pos,(oAt (rops (cL b4)) 0).after,none⟩,⟨some 39,.extract (.tmp 38) 0,(oAt (rops (cL b4)) 1).type,(oAt (rops (cL b4)) 1).pos,(oAt (rops (cL b4)) 1).after,none⟩] false) (.seq (.cond (.tmp 39) .skip (.exit 4)) (.block 5 (.seq (.region 16 #[⟨some 40,.entry (.tmp 37),(oAt (rops (cL (cB (cR (cR b4))))) 0).type,(oAt (rops (cL (cB (cR (cR b4))))) 0).pos,(oAt (rops (cL (cB (cR (cR b4))))) 0).after,none⟩,⟨some 41,.extract (.tmp 40) 1,(oAt (rops (cL (cB (cR (cR b4))))) 1).type,(oAt (rops (cL (cB (cR (cR b4))))) 1).pos,(oAt (rops (cL (cB (cR (cR b4))))) 1).after,none⟩,⟨some 10,.assign (.tmp 41),(oAt (rops (cL (cB (cR (cR b4))))) 2).type,(oAt (rops (cL (cB (cR (cR b4))))) 2).pos,(oAt (rops (cL (cB (cR (cR b4))))) 2).after,none⟩] false) (.seq (.region 17 #[⟨some 42,.move (.tmp 10),(oAt (rops (cL (cR (cB (cR (cR b4)))))) 0).type,(oAt (rops (cL (cR (cB (cR (cR b4)))))) 0).pos,(oAt (rops (cL (cR (cB (cR (cR b4)))))) 0).after,none⟩,⟨some 43,.binOp .gtr 3 (.tmp 42) (.const (.int .i64 1)) 3,(oAt (rops (cL (cR (cB (cR (cR b4)))))) 1).type,(oAt (rops (cL (cR (cB (cR (cR b4)))))) 1).pos,(oAt (rops (cL (cR (cB (cR (cR b4)))))) 1).after,none⟩] false) (.cond (.tmp 43) (.region 18 #[⟨some 44,.move (.tmp 8),(oAt (rops (cT (cR (cR (cB (cR (cR b4))))))) 0).type,(oAt (rops (cT (cR (cR (cB (cR (cR b4))))))) 0).pos,(oAt (rops (cT (cR (cR (cB (cR (cR b4))))))) 0).after,none⟩,⟨some 45,.binOp .add 3 (.tmp 44) (.const (.int .i64 1)) 3,(oAt (rops (cT (cR (cR (cB (cR (cR b4))))))) 1).type,(oAt (rops (cT (cR (cR (cB (cR (cR b4))))))) 1).pos,(oAt (rops (cT (cR (cR (cB (cR (cR b4))))))) 1).after,none⟩,⟨some 8,.assign (.tmp 45),(oAt (rops (cT (cR (cR (cB (cR (cR b4))))))) 2).type,(oAt (rops (cT (cR (cR (cB (cR (cR b4))))))) 2).pos,(oAt (rops (cT (cR (cR (cB (cR (cR b4))))))) 2).after,none⟩] false) .skip))))):=by kernel_rfl
theorem sB_eq:sB=.seq (cL sB) (.seq (.region 1 (rops (cL (cR sB))) false) (.seq (.seq (cL sX) (.block 0 (.loop b0))) (.seq (cL sT) (.seq (.seq (.region 14 #[⟨some 36,.move (.tmp 3),(oAt (rops (cL (cL (cR sT)))) 0).type,(oAt (rops (cL (cL (cR sT)))) 0).pos,(oAt (rops (cL (cL (cR sT)))) 0).after,none⟩,⟨some 37,.range 54 (.tmp 36),(oAt (rops (cL (cL (cR sT)))) 1).type,(oAt (rops (cL (cL (cR sT)))) 1).pos,(oAt (rops (cL (cL (cR sT)))) 1).after,none⟩] false) (.block 4 (.loop b4))) (cR (cR sT)))))):=by kernel_rfl
theorem evS_snd{c:Orc}{lf:Nat}(Fs:FnsOk Try.prog env c (inlK c env lf 6)):CodeSndP Try.prog 47 (baseP fi7.ps) sB (evS c lf):=snd_of sB_eq (seq_sndP (kS_snd Fs _) (seq_sndP (mk_snd (o0:=oAt (rops (cL (cR sB))) 0) (o1:=oAt (rops (cL (cR sB))) 1) (ty:=54) (by kernel_rfl) (by kernel_rfl) (by kernel_rfl) (by kernel_rfl) (by kernel_rfl) (by kernel_rfl) (by kernel_rfl) (by kernel_rfl) (by kernel_rfl) (by decide) (by decide)) (seq_sndP (seq_sndP (kS_snd Fs _) (block_sndP (loop_sndP lf fi7 (e0_snd Fs)))) (seq_sndP (kS_snd Fs _) (seq_sndP (cnt_snd (y0:=(oAt (rops (cL b4)) 0).type) (p0:=(oAt (rops (cL b4)) 0).pos) (f0:=(oAt (rops (cL b4)) 0).after) (y1:=(oAt (rops (cL b4)) 1).type) (p1:=(oAt (rops (cL b4)) 1).pos) (f1:=(oAt (rops (cL b4)) 1).after) (y2:=(oAt (rops (cL (cB (cR (cR b4))))) 0).type) (p2:=(oAt (rops (cL (cB (cR (cR b4))))) 0).pos) (f2:=(oAt (rops (cL (cB (cR (cR b4))))) 0).after) (y3:=(oAt (rops (cL (cB (cR (cR b4))))) 1).type) (p3:=(oAt (rops (cL (cB (cR (cR b4))))) 1).pos) (f3:=(oAt (rops (cL (cB (cR (cR b4))))) 1).after) (y4:=(oAt (rops (cL (cB (cR (cR b4))))) 2).type) (p4:=(oAt (rops (cL (cB (cR (cR b4))))) 2).pos) (f4:=(oAt (rops (cL (cB (cR (cR b4))))) 2).after) (y5:=(oAt (rops (cL (cR (cB (cR (cR b4)))))) 0).type) (p5:=(oAt (rops (cL (cR (cB (cR (cR b4)))))) 0).pos) (f5:=(oAt (rops (cL (cR (cB (cR (cR b4)))))) 0).after) (y6:=(oAt (rops (cL (cR (cB (cR (cR b4)))))) 1).type) (p6:=(oAt (rops (cL (cR (cB (cR (cR b4)))))) 1).pos) (f6:=(oAt (rops (cL (cR (cB (cR (cR b4)))))) 1).after) (y7:=(oAt (rops (cT (cR (cR (cB (cR (cR b4))))))) 0).type) (p7:=(oAt (rops (cT (cR (cR (cB (cR (cR b4))))))) 0).pos) (f7:=(oAt (rops (cT (cR (cR (cB (cR (cR b4))))))) 0).after) (y8:=(oAt (rops (cT (cR (cR (cB (cR (cR b4))))))) 1).type) (p8:=(oAt (rops (cT (cR (cR (cB (cR (cR b4))))))) 1).pos) (f8:=(oAt (rops (cT (cR (cR (cB (cR (cR b4))))))) 1).after) (y9:=(oAt (rops (cT (cR (cR (cB (cR (cR b4))))))) 2).type) (p9:=(oAt (rops (cT (cR (cR (cB (cR (cR b4))))))) 2).pos) (f9:=(oAt (rops (cT (cR (cR (cB (cR (cR b4))))))) 2).after) (ya:=(oAt (rops (cL (cL (cR sT)))) 0).type) (pa:=(oAt (rops (cL (cL (cR sT)))) 0).pos) (fa:=(oAt (rops (cL (cL (cR sT)))) 0).after) (yb:=(oAt (rops (cL (cL (cR sT)))) 1).type) (pb:=(oAt (rops (cL (cL (cR sT)))) 1).pos) (fb:=(oAt (rops (cL (cL (cR sT)))) 1).after) (u1:=3) (u2:=3) (u3:=3) (u4:=3) (i0:=4) (i1:=15) (i5:=5) (i2:=16) (i3:=17) (i4:=18) (i6:=14) Try.underlying54 b4_eq) (kS_snd Fs _))))))
theorem cl7:CallSnd Try.prog fi7 7 sharedF:=map_call (ev:=evS C0 33554432) envOk Try.func7 (by decide) (by kernel_rfl) (c:=sB) (by kernel_rfl) (evS_snd (orc_fns envOk xs0 forms 33554432 6 20)) (l:=_) rfl rfl rfl
theorem xs:∀f g fi,X f=some g->env.fi f=some fi->CallSnd Try.prog fi f g:=xs_of (P:=Try.prog) (fiL:=fiTab) (tyL:=tyTab) (⟨λfi h=>(by have h:some fi7=some fi:=h;cases h;exact cl7),⟨λfi h=>(by have h:some fi18=some fi:=h;cases h;exact cl18),trivial⟩⟩)
end Go.Proofs.Ytgnnlojbjjejcaa.T
