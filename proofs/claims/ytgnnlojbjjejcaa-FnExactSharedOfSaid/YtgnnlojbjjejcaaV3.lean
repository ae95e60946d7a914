/- A part of an evaluator of loaded Go code over values, with its soundness; no condition of its own. -/
import Derived.Test.YtgnnlojbjjejcaaV2
set_option linter.unusedVariables false
set_option linter.constructorNameAsVariable false
set_option linter.unusedSimpArgs false
set_option linter.unnecessarySimpa false
namespace Go.Proofs.YtgnnlojbjjejcaaV
variable{w0 w w':World}{S0:Nat->Prop}{G:Gh}{h:Hp}{P:Program}{nt base:Nat}
def cntE:EvF:=λ_ st k=>match st.s 3,st.s 8 with
|.mp l,.i .i64 n=>bif (n==0)&&nLe l.length 1073741824 then k .nrm {st with s:=upd (λ_=>.z) 8 (.i .i64 (cntGt l)),h:=cleanH st.h}else none
|_,_=>none
section
variable{y0 y1 y2 y3 y4 y5 y6 y7 y8 y9 ya yb u1 u2 u3 u4:TypeId}{p0 p1 p2 p3 p4 p5 p6 p7 p8 p9 pa pb:String}{f0 f1 f2 f3 f4 f5 f6 f7 f8 f9 fa fb:Array Edge}{i0 i1 i2 i3 i4 i5 i6:Nat}
theorem cnt_snd{t kt et:TypeId}(ht:P.underlying t=some (.map kt et)){body:Code}(hbody:body=.seq (.region i1 #[⟨some 38,.next (.tmp 37) false,y0,p0,f0,none⟩,⟨some 39,.extract (.tmp 38) 0,y1,p1,f1,none⟩] false) (.seq (.cond (.tmp 39) .skip (.exit i0)) (.block i5 (.seq (.region i2 #[⟨some 40,.entry (.tmp 37),y2,p2,f2,none⟩,⟨some 41,.extract (.tmp 40) 1,y3,p3,f3,none⟩,⟨some 10,.assign (.tmp 41),y4,p4,f4,none⟩] false) (.seq (.region i3 #[⟨some 42,.move (.tmp 10),y5,p5,f5,none⟩,⟨some 43,.binOp .gtr u1 (.tmp 42) (.const (.int .i64 1)) u2,y6,p6,f6,none⟩] false) (.cond (.tmp 43) (.region i4 #[⟨some 44,.move (.tmp 8),y7,p7,f7,none⟩,⟨some 45,.binOp .add u3 (.tmp 44) (.const (.int .i64 1)) u4,y8,p8,f8,none⟩,⟨some 8,.assign (.tmp 45),y9,p9,f9,none⟩] false) .skip)))))):CodeSndP P 47 base (.seq (.region i6 #[⟨some 36,.move (.tmp 3),ya,pa,fa,none⟩,⟨some 37,.range t (.tmp 36),yb,pb,fb,none⟩] false) (.block i0 (.loop body))) cntE:=by
 intro w0 S0 α st k x h a w G hK R hb Q hQ;unfold cntE at h;have hm:=R.slots 3;have hv:=R.slots 8;cases em:st.s 3 with
 |mp l=>
  cases ek:st.s 8 with
  |i ik n=>
   rw[em]at h hm;rw[ek]at h hv;cases ik with
   |i64=>
    simp only at h;cases hg:((n==0)&&nLe l.length 1073741824)with
    |false=>rw[hg]at h;cases h
    |true=>
     rw[hg,cond_true]at h;rw[Bool.and_eq_true]at hg;have hn0:=beq_iff_eq.1 hg.1;have hl:=nLe_iff.1 hg.2;subst hn0;obtain⟨b,es,clock,m1,m2,m3,m4,m5⟩:=hm;have hv:a.eval (.tmp 8)=.int .i64 0:=hv;have m1:a.eval (.tmp 3)=.map (some b):=m1;have hsz:a.tmps.size=47:=R.size;have hlen:es.size<=1073741824:=by have:=congrArg List.length m5;simp only[List.length_map,Array.length_toList]at this;omega
     have hvals:∀e∈es.toList,∃n,e.val=.int .i64 n:=λe he=>by have:(e.key,e.val)∈es.toList.map (λe=>(e.key,e.val)):=List.mem_map.2 ⟨e,he,rfl⟩;rw[show es.toList.map (λe=>(e.key,e.val))=_ from m5]at this;obtain⟨t,_,ht⟩:=List.mem_map.1 this;exact⟨_,(Prod.mk.inj ht).2.symm⟩
     have fin:∀a' wv seen c0,InLoop w wv b es clock seen c0->a'.tmps.size=47->a'.defers=[]->a'.eval (.tmp 8)=.int .i64 (cntGt l)->Q .normal a' wv:=by
      intro a' wv seen c0 L hs hd h8;have SC:SameC w wv:=λc x y z hc=>by
       rw[L.same c (by
        rcases Nat.lt_or_ge c w.heap.size with h|h
        · exact h
        · rw[Array.getElem?_eq_none h]at hc;cases hc)]
       exact hc
      refine hQ .nrm _ a' wv G h ⟨SC.inv R.inv L.os L.tape L.output (by have:=L.size;omega) λc hc _=>L.same c (Nat.lt_of_lt_of_le hc R.inv.size),λj=>?_,λr hr=>R.al r hr,hs,hd⟩ hb clean_keepB;show AVRep _ _ _ _ (upd (λ_=>.z) 8 (.i .i64 (cntGt l)) j);by_cases c:j=8;· rw[c,upd_same];exact h8
      · rw[upd_ne _ _ c];trivial
     refine wp_seq (wp_region ?_);rw[show List.range (#[_,_]:Array Oper).size=[0,1]from rfl];refine opsV (d:=36) (v:=.map (some b)) (w':=w) rfl ?_ ?_;· show Result.ok (Next.value (a.eval (.tmp 3))) _=_;rw[m1]
     refine opsV (d:=37) (v:=.pointer (some ⟨w.heap.size,0,none⟩)) (w':=w.alloc (.mapIter (some b) clock #[] clock)) rfl ?_ ?_;· refine exec_value (s:=Instr.range t ((a.put (some 36) (.map (some b))).eval (.tmp 36))) rfl ?_;rw[eval_put a hsz (by omega),if_pos rfl];exact run_range_map w t kt et b es clock ht m3
     show Exit.then _ Q .normal _ _;generalize hA:(a.put (some 36) (.map (some b))).put (some 37) (.pointer (some ⟨w.heap.size,0,none⟩))=A;have sA:A.tmps.size=47:=by rw[<-hA];exact size_put _ (size_put a hsz _ _) _ _
     have dA:A.defers=[]:=by rw[<-hA,put_defers,put_defers];exact R.defers
     have a37:A.eval (.tmp 37)=.pointer (some ⟨w.heap.size,0,none⟩):=by rw[<-hA,eval_put _ (size_put a hsz _ _) (by omega),if_pos rfl]
     have a8:A.eval (.tmp 8)=.int .i64 (seenSum (es.toList.map oneE) #[]):=by rw[seenSum_none,<-hA,eval_put _ (size_put a hsz _ _) (by omega),if_neg (by decide),eval_put a hsz (by omega),if_neg (by decide),hv]
     have L0:InLoop w (w.alloc (.mapIter (some b) clock #[] clock)) b es clock #[] clock:=⟨rfl,rfl,rfl,by show(w.heap.push _).size=_;simp,λc hc=>heap_alloc_old w _ hc,heap_alloc_new w _⟩;refine wp_block (wp_loop_rounds ((leftOf es #[]).size+1) ?_);have key:∀(N:Nat)(seen:Array Nat)(c0:Nat)(a:Act)(wv:World),(leftOf es seen).size<=N->clock<=c0->InLoop w wv b es clock seen c0->a.tmps.size=47->a.defers=[]->a.eval (.tmp 37)=.pointer (some ⟨w.heap.size,0,none⟩)->a.eval (.tmp 8)=.int .i64 (seenSum (es.toList.map oneE) seen)->Code.rounds P body (Exit.inBlock i0 Q) (N+1) a wv:=by
      intro N;induction N with
      |zero=>
       intro seen c0 a wv hN hc L hs hd h37 h8;refine round_snd hbody m3 m4 hlen hc hvals L hs h37 h8 (λa' h0 q1 q2 q3=>?_) (λa' wv' e he _ _ _ _ _=>?_);· show(if i0=i0 then Q .normal a' wv else Q (.exit i0) a' wv);rw[if_pos rfl];refine fin a' wv seen c0 L q1 (q2.trans hd) (q3.trans (h8.trans ?_));rw[seenSum_full seen (es.toList.map oneE) (λy hy=>by obtain⟨z,hz,rfl⟩:=List.mem_map.1 hy;exact all_seen es seen h0 z hz),ones_sum es.toList l m5]
       · have:=Array.length_toList (xs:=leftOf es seen);have h2:=List.length_pos_of_mem he;omega
      |succ N ih=>
       intro seen c0 a wv hN hc L hs hd h37 h8;refine round_snd hbody m3 m4 hlen hc hvals L hs h37 h8 (λa' h0 q1 q2 q3=>?_) (λa' wv' e he L' q1 q2 q3 q4=>?_);· show(if i0=i0 then Q .normal a' wv else Q (.exit i0) a' wv);rw[if_pos rfl];refine fin a' wv seen c0 L q1 (q2.trans hd) (q3.trans (h8.trans ?_));rw[seenSum_full seen (es.toList.map oneE) (λy hy=>by obtain⟨z,hz,rfl⟩:=List.mem_map.1 hy;exact all_seen es seen h0 z hz),ones_sum es.toList l m5]
       · have:=left_shrinks es seen e he;exact ih (seen.push e.born) clock a' wv' (by omega) (Nat.le_refl _) L' q1 (q2.trans hd) q3 q4
     exact key (leftOf es #[]).size #[] clock A _ (Nat.le_refl _) (Nat.le_refl _) L0 sA dA a37 a8
   |_=>cases h
  |_=>rw[em,ek]at h;cases h
 |_=>rw[em]at h;cases h
end
variable{w0 w w':World}{S0:Nat->Prop}{G:Gh}{h:Hp}{P:Program}{E:Env}
def shr(w:World)(G:Gh):Gh:={G with ro:=λb=>G.ro b/\∃c ty fz,w.heap[b]? =some (Obj.cells c ty fz)}
theorem shr_c:CMoved w w (roM G.ro) (roM (shr w G).ro):=⟨id,λ_ _ c ty fz h1 h2=>⟨⟨h1,c,ty,fz,h2⟩,h2⟩⟩
theorem PRep1.shr{K:Nat}:∀{p:PD}{u:Value}{t:T},PRep1 w G K p u t->PRep1 w (shr w G) K p u t
|.v _,_,_,H=>H
|.ro _,_,t,H=>⟨CellRep.cmoved shr_c t H.1,H.2⟩
|.ow _,_,_,H=>H
|.mv _,_,_,H=>H
|.fn _,_,_,H=>H
|.ag _,_,_,H=>H.elim
|.bx _,_,_,H=>H.elim
theorem PReps.shr:∀{ps:List PD}{K:Nat}{us:List Value}{ts:List T},PReps w G K ps us ts->PReps w (shr w G) K ps us ts
|[],_,[],[],_=>trivial
|_::_,_,_::_,_::_,H=>⟨H.1.shr,PReps.shr H.2⟩
|[],_,_::_,_,H=>H.elim
|[],_,[],_::_,H=>H.elim
|_::_,_,[],_,H=>H.elim
|_::_,_,_::_,[],H=>H.elim
theorem PRep.shr{K:Nat}{p:PD}{u:Value}{t:T}(H:PRep w G K p u t):PRep w (shr w G) K p u t:=by
 cases p with
 |ag l=>obtain⟨us,ts,h1,h2,h3⟩:=H;exact⟨us,ts,h1,h2,h3.shr⟩
 |bx l=>obtain⟨b,us,ty,fz,ts,h1,h2,h3,h4,h5⟩:=H;exact⟨b,us,ty,fz,ts,h1,h2,h3,h4,h5.shr⟩
 |v c=>exact PRep1.shr (K:=K) (p:=.v c) H
 |ro c=>exact PRep1.shr (K:=K) (p:=.ro c) H
 |ow c=>exact PRep1.shr (K:=K) (p:=.ow c) H
 |mv c=>exact PRep1.shr (K:=K) (p:=.mv c) H
 |fn f=>exact PRep1.shr (w:=w) (G:=G) (K:=K) (p:=.fn f) H
theorem PRepL.shr:∀{ps:List PD}{K:Nat}{us:List Value}{ts:List T},PRepL w G K ps us ts->PRepL w (shr w G) K ps us ts
|[],_,[],[],_=>trivial
|_::_,_,_::_,_::_,H=>⟨H.1.shr,PRepL.shr H.2⟩
|[],_,_::_,_,H=>H.elim
|[],_,[],_::_,H=>H.elim
|_::_,_,[],_,H=>H.elim
|_::_,_,_::_,[],H=>H.elim
def noOw:List PD->Bool
|[]=>true
|.v _::l=>noOw l
|.ro _::l=>noOw l
|_=>false
theorem noOw_vals:∀{l:List PD}(us:List Value),noOw l=true->owVals1 l us=[]
|[],us,_=>by cases us<;>rfl
|.v _::l,[],_=>rfl
|.v _::l,_::us,h=>noOw_vals us (l:=l) h
|.ro _::l,[],_=>rfl
|.ro _::l,_::us,h=>noOw_vals us (l:=l) h
theorem map_call(O:EnvOk P E){fi:Fi}{f:FuncId}(hf:P.funcs[f]? =some fi.fn)(hW:(fi.ps.map wide).sum<=MV)(hp:fi.ps.all pdOk=true){c:Code}(hb:fi.fn.body=some c){ev:EvF}(hc:CodeSndP P fi.fn.ntmps (baseP fi.ps) c ev){l:List PD}(hps:fi.ps=[.ag l])(hl:noOw l=true){ik:IntKind}(hrs:fi.rs=[.v (.i ik)]):CallSnd P fi f (funG ev E fi):=by
 intro w S0 G args ts r I hal R hr;have I1:Inv w S0 w (shr w G) noBlk:=⟨I.os,I.tape,I.output,I.size,I.same,I.mine,I.cells,λb h=>I.roOwn b h.1,λb h=>I.roLt b h.1,λb h=>I.roIn b h.1,I.rep⟩;refine(funG_snd O hf hW hp hb (G:=shr w G) (ev:=ev) (λw0 S0 α st k x h a w' G' hA R hb' Q hQ=>hc w0 S0 α st k x h a w' G' (λb hb=>?_) R hb' Q hQ) I1 hal R.shr hr).mono λe w' H=>?_;· rw[hA.2.1]at hb;rw[hA.1];exact hb.2
 ·obtain⟨vs,ts',us,ws,G',he,hr',I',h1,h2,h3,h4,h5,h6⟩:=H;have hov:owVals fi.ps args=[]:=by
   rw[hps];cases args with
   |nil=>rfl
   |cons u us=>
    have:owVal (.ag l) u=[]:=by unfold owVal;cases u<;>first|rfl|exact noOw_vals _ hl
    simp only[owVals,this,List.nil_append]
  have hbp:bxPs fi.ps=[]:=by rw[hps];rfl
  have hbu:bxUs fi.ps args=[]:=by
   rw[hps];cases args with
   |nil=>rfl
   |cons u us=>cases us<;>rfl
  rw[hov]at h4;rw[hbp,hbu]at h5 h6;have hus:us=[]:=by cases us with
  |nil=>rfl
  |cons _ _=>exact h4.elim
  have hws:ws=[]:=by cases ws with
  |nil=>rfl
  |cons _ _=>exact h5.elim
  subst hus;subst hws;refine⟨vs,ts',[],[],{G with own:=λ_=>none},he,hr',⟨I'.os,I'.tape,I'.output,I'.size,I'.same,λb x hx=>(by cases hx),λb x hx=>(by cases hx),λ_ _=>rfl,λb hb=>Nat.lt_of_lt_of_le (I.roLt b hb) I'.size,I.roIn,λr b p hx=>(by cases hx)⟩,λb hb=>hb,λb hb=>.inl hb,?_,?_,?_,?_⟩
  ·rw[hrs]at h3|-;cases vs with
   |nil=>exact h3
   |cons v vs=>cases ts' with
    |nil=>exact h3
    |cons t ts'=>
     refine⟨?_,?_⟩
     ·obtain⟨g1,g2⟩:=h3.1;refine⟨?_,g2⟩;cases t with
      |u=>cases g1.1
      |b _=>exact g1
      |i _ _=>exact g1
      |s _=>exact g1
      |sl l=>obtain⟨_,_,g3,_⟩:=g1;cases g3
      |st _=>exact g1
     ·cases vs with
      |nil=>cases ts' with
       |nil=>trivial
       |cons _ _=>exact h3.2.elim
      |cons _ _=>exact h3.2.elim
  · rw[hov];trivial
  · rw[hbp,hbu];trivial
  · rw[hbp,hbu];trivial
variable{w0 w w':World}{S0:Nat->Prop}{G:Gh}{h:Hp}{P:Program}{nt base:Nat}
def detE(t:Nat)(m:Bool)(cs:List CT)(f:EvF):EvF:=λα st k=>match sink st.h (.sl m cs) (st.s t)with
|some (.sl l,h',b)=>bif b then f α {st with s:=upd st.s t (.rf st.n [] 0 none),h:=upd h' st.n (.row m cs l 0 false),n:=st.n+1} k else none
|_=>none
def detF(K n:Nat):Lab->Lab
|.tmp k p=>if k=K then .blk n p else .tmp k p
|x=>x
theorem det_sndP{c:Code}{f:EvF}{t:Nat}{m:Bool}{cs:List CT}(H:CodeSndP P nt base c f):CodeSndP P nt base c (detE t m cs f):=by
 intro w0 S0 α st k x h a w G hK R hb Q hQ;unfold detE at h;cases hs:sink st.h (.sl m cs) (st.s t)with
 |none=>rw[hs]at h;cases h
 |some y=>
  obtain⟨tt,h',b⟩:=y;rw[hs]at h;cases tt with
  |sl l=>
   simp only at h;cases b with
   |false=>cases h
   |true=>
    rw[cond_true]at h;obtain⟨K,hKf⟩:=R.inv.freshTmp;obtain⟨G1,I1,K1,C1,ok1,_,A1⟩:=sink_snd R.inv (hKf K (Nat.le_refl _)) (R.slots t) hs rfl;have hn:¬G1.al st.n:=by rw[A1];intro ha;have:=R.al _ ha;omega
    obtain⟨I2,K2,A2⟩:=install_row (r:=st.n) (v:=a.tmps.getD t undef) (m:=m) (cs:=cs) (l:=l) I1 hn (detF K st.n) (λ_ _ _=>rfl) (λy r' p hr' hy=>by
     cases y with
     |blk r q=>exact hy
     |tmp k q=>
      unfold detF at hy;simp only at hy;split at hy;· cases hy;exact absurd rfl hr'
      ·cases hy) (RowRep.moved (M:=G1.own.t K) (π:=[]) ⟨λhf=>False.elim hf,λb ρ hb=>⟨by
       show((G1.own b).map (detF K st.n))=some (.blk st.n ([]++ρ));rw[show G1.own b=some (.tmp K ([]++ρ))from hb];simp[detF],rfl⟩⟩ (cellRep_sl.1 C1)) ok1
    refine H w0 S0 α _ k x h a w _ (by rw[K2.kv,K1.kv];exact hK) ⟨I2,λj=>?_,λr hr=>?_,R.size,R.defers⟩ (by show base<=st.n+1;omega) Q λe st' a' w' G' h1 h2 h3 h4=>hQ e st' a' w' G' h1 h2 h3 (((K1.b base).trans (K2.b base)).trans h4)
    ·show AVRep _ _ _ _ (upd st.s t (.rf st.n [] 0 none) j);by_cases c:j=t;· rw[c,upd_same];exact A2
     · rw[upd_ne _ _ c];exact K2.av _ (K1.av _ (R.slots j))
    ·show r<st.n+1;rcases hr with hr|hr
     · rw[A1]at hr;have:=R.al _ hr;omega
     · omega
  |_=>cases h
theorem orc_fns{P:Program}{E:Env}(O:EnvOk P E){X:Nat->Option (List T->Option (List T))}(HX:∀f g fi,X f=some g->E.fi f=some fi->CallSnd P fi f g)(HB:∀f fi,E.fi f=some fi->fi.inl=false->fiB fi=true)(lf df d:Nat):FnsOk P E (orc X E lf df d) (inlK (orc X E lf df d) E lf df):=⟨λf fi h1 h2=>orc_snd O HX HB lf df d f fi h1 h2,λf fi h1 h2=>(fiB_ok (HB f fi h1 h2)).1,inl_all O (λf fi h1 h2=>orc_snd O HX HB lf df d f fi h1 h2) (λf fi h1 h2=>(fiB_ok (HB f fi h1 h2)).1) df⟩
def cL:Code->Code|.seq a _=>a|c=>c
def cR:Code->Code|.seq _ b=>b|c=>c
def cB:Code->Code|.block _ c=>c|c=>c
def cO:Code->Code|.loop c=>c|c=>c
def cT:Code->Code|.cond _ a _=>a|c=>c
def rops:Code->Array Oper|.region _ ops _=>ops|_=>#[]
def oAt(ops:Array Oper)(i:Nat):Oper:=ops.getD i ⟨none,.assign (.tmp 0),0,"",#[],none⟩
end Go.Proofs.YtgnnlojbjjejcaaV
