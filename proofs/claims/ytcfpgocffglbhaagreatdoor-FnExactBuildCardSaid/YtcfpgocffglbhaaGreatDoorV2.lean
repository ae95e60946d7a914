/- A part of an evaluator of loaded Go code over values, with its soundness; no condition of its own. -/
import Derived.Test.YtcfpgocffglbhaaGreatDoorV1
import Derived.LoopN
import Derived.Orders
import Derived.Lib.SliceRun
import Derived.Sort.Row
import Derived.Sort.Grow
import Derived.Lib.Bytealg
import Derived.Below
import Derived.Lib.Join
import Derived.ChangeArms
import Derived.ChangeOld
import Derived.WideShapes
import Derived.DataReads
import Derived.Laws.BitsLemmas
set_option linter.unusedVariables false
set_option linter.constructorNameAsVariable false
set_option linter.unusedSimpArgs false
set_option linter.unnecessarySimpa false
namespace Go.Proofs.YtcfpgocffglbhaaGreatDoorV
def Seg(r:List T)(i:Nat)(a:List T):Prop:=∀j x,a[j]? =some x->nth r (i+j)=x
theorem Seg.app{r:List T}{i:Nat}{a b:List T}(H:Seg r i (a++b)):Seg r i a/\Seg r (i+a.length) b:=by
 refine⟨λj x hx=>H j x ?_,λj x hx=>?_⟩;· have hj:j<a.length:=(List.getElem?_eq_some_iff.1 hx).1;rw[List.getElem?_append_left hj];exact hx
 · rw[Nat.add_assoc];refine H (a.length+j) x ?_;rw[List.getElem?_append_right (by omega),Nat.add_sub_cancel_left];exact hx
theorem Seg.head{r:List T}{i:Nat}{x:T}{a:List T}(H:Seg r i (x::a)):nth r i=x/\Seg r (i+1) a:=⟨by simpa using H 0 x rfl,λj y hy=>by rw[show i+1+j=i+(j+1)by omega];exact H (j+1) y (by simpa using hy)⟩
theorem quf(k:IntKind)(n:Nat):natT (.i k (n:Int))=n:=by simp[natT,asI]
theorem qid{r:List T}:∀{p q:Path}{a:List T}{i:Nat},encP p q=some a->Seg r i a->decP p r i=(q,i+a.length)
|[],[],a,i,h,_=>by cases h;rfl
|(_,j)::p,(n,j')::q,a,i,h,hs=>by
 simp only[encP]at h;cases e:Nat.beq j j' with
 |false=>rw[e]at h;cases h
 |true=>
  rw[e,cond_true]at h;cases e2:encP p q with
  |none=>rw[e2]at h;cases h
  |some b=>rw[e2]at h;cases h;have:=Nat.eq_of_beq_eq_true e;subst this;simp only[decP,qid e2 hs.head.2,hs.head.1,quf,List.length_cons];congr 1;omega
|[],_::_,_,_,h,_=>by cases h
|_::_,[],_,_,h,_=>by cases h
def Less(v v':AV):Prop:=∀(w:World)(G:Gh)(h:Hp)(u:Value),AVRep w G h u v->AVRep w G h u v'
def LessL(vs vs':List AV):Prop:=∀(w:World)(G:Gh)(h:Hp)(us:List Value),AVReps w G h us vs->AVReps w G h us vs'
theorem Less.refl(v:AV):Less v v:=λ_ _ _ _ h=>h
mutual
theorem qy4{r:List T}:∀(t v:AV){a:List T}{i:Nat},encA t v=some a->Seg r i a->(decA t r i).2=i+a.length/\Less v (decA t r i).1
|.z,v,a,i,h,_=>by cases v<;>cases h<;>exact⟨rfl,λ_ _ _ _ _=>trivial⟩
|.u,v,a,i,h,_=>by
 have h:(bif isC v then some []else none)=some a:=by cases v<;>exact h
 cases e:isC v with
 |false=>rw[e]at h;cases h
 |true=>rw[e]at h;cases h;exact⟨rfl,λ_ _ _ _ H=>H.one e⟩
|.un,v,a,i,h,_=>by cases v<;>cases h<;>exact⟨rfl,Less.refl _⟩
|.np,v,a,i,h,_=>by cases v<;>cases h<;>exact⟨rfl,Less.refl _⟩
|.b _,v,a,i,h,hs=>by
 cases v with
 |b x=>cases h;simp only[decA,hs.head.1];exact⟨rfl,Less.refl _⟩
 |_=>cases h
|.i k _,v,a,i,h,hs=>by
 cases v with
 |i k' n=>
  simp only[encA]at h;by_cases e:k=k';· subst e;rw[if_pos rfl]at h;cases h;simp only[decA,hs.head.1];exact⟨rfl,Less.refl _⟩
  · rw[if_neg e]at h;cases h
 |_=>cases h
|.s _,v,a,i,h,hs=>by
 cases v with
 |s x=>cases h;simp only[decA,hs.head.1];exact⟨rfl,Less.refl _⟩
 |_=>cases h
|.nl m cs,v,a,i,h,hs=>by
 cases v with
 |nl m' cs'=>
  simp only[encA]at h;cases e:CT.beq (.sl m cs) (.sl m' cs')with
  |false=>rw[e]at h;cases h
  |true=>rw[e]at h;cases h;cases CT.beq_eq e;exact⟨rfl,Less.refl _⟩
 |_=>cases h
|.ro k m cs _,v,a,i,h,hs=>by
 cases v with
 |ro k' m' cs' l=>
  simp only[encA]at h;cases e:(CT.beq (.sl m cs) (.sl m' cs')&&Nat.beq k k')with
  |false=>rw[e]at h;cases h
  |true=>rw[e]at h;cases h;rw[Bool.and_eq_true]at e;cases CT.beq_eq e.1;have:=Nat.eq_of_beq_eq_true e.2;subst this;simp only[decA,hs.head.1];exact⟨rfl,Less.refl _⟩
 |_=>cases h
|.rf r1 p ver sub,v,a,i,h,hs=>by
 cases v with
 |rf r2 p' ver' sub'=>
  simp only[encA]at h;cases e:(Nat.beq r1 r2&&Nat.beq ver ver')with
  |false=>rw[e]at h;cases h
  |true=>
   rw[e,cond_true]at h;rw[Bool.and_eq_true]at e;have e1:=Nat.eq_of_beq_eq_true e.1;have e2:=Nat.eq_of_beq_eq_true e.2;subst e1;subst e2;cases e3:encP p p' with
   |none=>rw[e3]at h;cases h
   |some a1=>
    rw[e3]at h;cases sub with
    |none=>
     cases sub' with
     |some _=>cases h
     |none=>cases h;rw[List.append_nil]at hs|-;simp only[decA,qid e3 hs];exact⟨trivial,Less.refl _⟩
    |some q=>
     cases sub' with
     |none=>cases h
     |some q'=>obtain⟨o,n⟩:=q';cases h;obtain⟨hs1,hs2⟩:=hs.app;obtain⟨g1,g2⟩:=hs2.head;simp only[decA,qid e3 hs1,g1,g2.head.1,quf];exact⟨by simp;omega,Less.refl _⟩
 |_=>cases h
|.bp r1 j,v,a,i,h,hs=>by
 cases v with
 |bp r2 j'=>
  simp only[encA]at h;cases e:(Nat.beq r1 r2&&Nat.beq j j')with
  |false=>rw[e]at h;cases h
  |true=>rw[e]at h;cases h;rw[Bool.and_eq_true]at e;have e1:=Nat.eq_of_beq_eq_true e.1;have e2:=Nat.eq_of_beq_eq_true e.2;subst e1;subst e2;exact⟨rfl,Less.refl _⟩
 |_=>cases h
|.rp r1 p ver i1 j,v,a,i,h,hs=>by
 cases v with
 |rp r2 p' ver' i2 j'=>
  simp only[encA]at h;cases e:(Nat.beq r1 r2&&Nat.beq ver ver'&&Nat.beq j j')with
  |false=>rw[e]at h;cases h
  |true=>
   rw[e,cond_true]at h;rw[Bool.and_eq_true,Bool.and_eq_true]at e;have e1:=Nat.eq_of_beq_eq_true e.1.1;have e2:=Nat.eq_of_beq_eq_true e.1.2;have e4:=Nat.eq_of_beq_eq_true e.2;subst e1;subst e2;subst e4;cases e3:encP p p' with
   |none=>rw[e3]at h;cases h
   |some a1=>rw[e3]at h;cases h;obtain⟨hs1,hs2⟩:=hs.app;simp only[decA,qid e3 hs1,hs2.head.1,quf];exact⟨by simp;omega,Less.refl _⟩
 |_=>cases h
|.mp _,v,a,i,h,hs=>by
 cases v with
 |mp l=>simp only[encA]at h;cases h;simp only[decA,hs.head.1];exact⟨rfl,Less.refl _⟩
 |_=>cases h
|.cp m cs _ j,v,a,i,h,hs=>by
 cases v with
 |cp m' cs' x j'=>
  simp only[encA]at h;cases e:(CT.beq (.sl m cs) (.sl m' cs')&&Nat.beq j j')with
  |false=>rw[e]at h;cases h
  |true=>rw[e]at h;cases h;rw[Bool.and_eq_true]at e;cases CT.beq_eq e.1;have:=Nat.eq_of_beq_eq_true e.2;subst this;simp only[decA,hs.head.1];exact⟨rfl,Less.refl _⟩
 |_=>cases h
|.ag cs,v,a,i,h,hs=>by
 cases v with
 |ag ds=>obtain⟨g1,g2⟩:=qds cs ds (show encAs cs ds=some a from h) hs;refine⟨g1,λw G h u H=>?_⟩;obtain⟨us,rfl,H⟩:=H;exact⟨us,rfl,g2 w G h _ H⟩
 |_=>cases h
|.tu cs,v,a,i,h,hs=>by
 cases v with
 |tu ds=>obtain⟨g1,g2⟩:=qds cs ds (show encAs cs ds=some a from h) hs;refine⟨g1,λw G h u H=>?_⟩;obtain⟨us,rfl,H⟩:=H;exact⟨us,rfl,g2 w G h _ H⟩
 |_=>cases h
|.fn f cs,v,a,i,h,hs=>by
 cases v with
 |fn f' ds=>
  simp only[encA]at h;cases e:Nat.beq f f' with
  |false=>rw[e]at h;cases h
  |true=>rw[e,cond_true]at h;have:=Nat.eq_of_beq_eq_true e;subst this;obtain⟨g1,g2⟩:=qds cs ds h hs;refine⟨g1,λw G h u H=>?_⟩;obtain⟨us,rfl,H⟩:=H;exact⟨us,rfl,g2 w G h _ H⟩
 |_=>cases h
theorem qds{r:List T}:∀(ts vs:List AV){a:List T}{i:Nat},encAs ts vs=some a->Seg r i a->(decAs ts r i).2=i+a.length/\LessL vs (decAs ts r i).1
|[],vs,a,i,h,_=>by
 cases vs with
 |nil=>cases h;exact⟨rfl,λ_ _ _ _ H=>H⟩
 |cons _ _=>cases h
|t::ts,vs,a,i,h,hs=>by
 cases vs with
 |nil=>cases h
 |cons v vs=>
  simp only[encAs]at h;cases e:encA t v with
  |none=>rw[e]at h;cases h
  |some a1=>
   rw[e]at h;simp only at h;cases e2:encAs ts vs with
   |none=>rw[e2]at h;cases h
   |some a2=>
    rw[e2]at h;cases h;obtain⟨hs1,hs2⟩:=hs.app;obtain⟨g1,g2⟩:=qy4 t v e hs1;have hs2':Seg r (decA t r i).2 a2:=by rw[g1];exact hs2
    obtain⟨k1,k2⟩:=qds ts vs e2 hs2';simp only[decAs];refine⟨by rw[k1,g1,List.length_append];omega,λw G h us H=>?_⟩;cases us with
    |nil=>exact H.elim
    |cons u us=>exact⟨g2 w G h u H.1,k2 w G h us H.2⟩
end
def BLess(b b':Blk):Prop:=b'=.dead\/(∃ds ds',b=.box ds/\b'=.box ds'/\LessL ds ds')\/b'=b
theorem qy3{r:List T}{t b:Blk}{a:List T}{i:Nat}(h:encB t b=some a)(hs:Seg r i a):(decB t r i).2=i+a.length/\BLess b (decB t r i).1:=by
 cases t with
 |dead=>cases b<;>cases h<;>exact⟨rfl,.inl rfl⟩
 |box cs=>
  cases b with
  |box ds=>obtain⟨g1,g2⟩:=qds cs ds (show encAs cs ds=some a from h) hs;exact⟨g1,.inr (.inl ⟨ds,_,rfl,rfl,g2⟩)⟩
  |_=>cases h
 |row m cs l0 v e=>
  cases b with
  |row m' cs' l v' e'=>
   simp only[encB]at h;cases hq:(CT.beq (.sl m cs) (.sl m' cs')&&Nat.beq v v'&&(e==e'))with
   |false=>rw[hq]at h;cases h
   |true=>
    rw[hq]at h;cases h;rw[Bool.and_eq_true,Bool.and_eq_true]at hq;cases CT.beq_eq hq.1.1;have h1:=Nat.eq_of_beq_eq_true hq.1.2;have h2:e=e':=by simpa using hq.2
    subst h1;subst h2;simp only[decB,hs.head.1];exact⟨rfl,.inr (.inr rfl)⟩
  |_=>cases h
theorem qob{r:List T}:∀{ts bs:List Blk}{a:List T}{i:Nat},encBs ts bs=some a->Seg r i a->(decBs ts r i).1.length=bs.length/\∀x,BLess (atL bs x) (atL (decBs ts r i).1 x)
|[],[],a,i,h,_=>⟨rfl,λx=>.inr (.inr rfl)⟩
|t::ts,b::bs,a,i,h,hs=>by
 simp only[encBs]at h;cases e:encB t b with
 |none=>rw[e]at h;cases h
 |some a1=>
  rw[e]at h;simp only at h;cases e2:encBs ts bs with
  |none=>rw[e2]at h;cases h
  |some a2=>
   rw[e2]at h;cases h;obtain⟨hs1,hs2⟩:=hs.app;obtain⟨g1,g2⟩:=qy3 e hs1;have hs2':Seg r (decB t r i).2 a2:=by rw[g1];exact hs2
   obtain⟨k1,k2⟩:=qob e2 hs2';simp only[decBs];refine⟨by simp[k1],λx=>?_⟩;cases x with
   |zero=>exact g2
   |succ x=>exact k2 x
|[],_::_,_,_,h,_=>by cases h
|_::_,[],_,_,h,_=>by cases h
def Gh.drop(G:Gh)(D:Nat->Bool):Gh:={G with own:=λb=>match G.own b with|some (.blk r p)=>bif D r then none else some (.blk r p)|x=>x}
def qr8:Blk->Bool
|.dead=>true
|_=>false
section
variable{w0 w w':World}{S0:Nat->Prop}{G G':Gh}{h h':Hp}{base nt:Nat}{P:Program}{E:Env}{C:Orc}{I:(α:Type)->InlK α}
theorem qf0{D:Nat->Bool}{b r:Nat}{p:Path}:(G.drop D).own b=some (.blk r p)↔G.own b=some (.blk r p)/\D r=false:=by
 simp only[Gh.drop];have hc:G.own b=none\/∃y,G.own b=some y:=by cases G.own b<;>simp
 rcases hc with e|⟨y,e⟩
 · rw[e];simp
 ·rw[e];cases y with
  |tmp k q=>simp
  |blk r' q=>
   simp only;cases e2:D r' with
   |true=>
    simp only[cond_true];constructor;· intro hf;cases hf
    · rintro⟨h1,h2⟩;cases h1;rw[e2]at h2;cases h2
   |false=>
    simp only[cond_false];constructor;· intro hf;cases hf;exact⟨rfl,e2⟩
    · rintro⟨h1,_⟩;exact h1
theorem qoc{D:Nat->Bool}{b:Nat}{x:Lab}(hb:(G.drop D).own b=some x):G.own b=some x:=by
 simp only[Gh.drop]at hb;have hc:G.own b=none\/∃y,G.own b=some y:=by cases G.own b<;>simp
 rcases hc with e|⟨y,e⟩
 · rw[e]at hb;cases hb
 ·rw[e]at hb|-;cases y with
  |tmp k q=>exact hb
  |blk r' q=>
   simp only at hb;cases e2:D r' with
   |true=>rw[e2]at hb;cases hb
   |false=>rw[e2]at hb;exact hb
theorem qxn(Iv:Inv w0 S0 w G h)(hl:∀r,BLess (h r) (h' r)):Inv w0 S0 w (G.drop λr=>qr8 (h' r)) h'/\Keep w w G (G.drop λr=>qr8 (h' r)) h h':=by
 have K:Keep w w G (G.drop λr=>qr8 (h' r)) h h':=by
  refine⟨λb hb=>⟨hb,rfl⟩,rfl,λr hr=>⟨hr,?_⟩⟩;rcases hl r with e|⟨ds,ds',e1,e2,_⟩|e
  · rw[e];cases h r<;>trivial
  · rw[e1,e2];rfl
  ·cases e2:h r with
   |dead=>rw[e,e2];trivial
   |box _=>rw[e,e2];rfl
   |row m cs l v z=>rw[e,e2];exact⟨rfl,rfl,rfl,.inl ⟨rfl,rfl,λb p hb=>⟨qf0.2 ⟨hb,by rw[e,e2];rfl⟩,rfl⟩⟩⟩
 refine⟨⟨Iv.os,Iv.tape,Iv.output,Iv.size,Iv.same,λb x hx=>Iv.mine b x (qoc hx),λb x hx=>Iv.cells b x (qoc hx),λb hb=>?_,Iv.roLt,Iv.roIn,λr=>?_⟩,K⟩;· have:=Iv.roOwn b hb;simp[Gh.drop,this]
 ·have R:=Iv.rep r;rcases hl r with e|⟨ds,ds',e1,e2,hl2⟩|e
  · rw[e];intro b p hb;have:=(qf0.1 hb).2;rw[e]at this;cases this
  · rw[e1]at R;rw[e2];obtain⟨ha,b,c,ty,fz,g1,g2,g3,g4,g5⟩:=R;exact⟨ha,b,c,ty,fz,g1,qf0.2 ⟨g2,by rw[e2];rfl⟩,g3,K.avs ds' (hl2 w G h _ g4),g5⟩
  ·cases e2:h r with
   |dead=>rw[e2]at R e;rw[e];exactλb p hb=>R b p (qf0.1 hb).1
   |box cs=>rw[e2]at R e;rw[e];obtain⟨ha,b,c,ty,fz,g1,g2,g3,g4,g5⟩:=R;exact⟨ha,b,c,ty,fz,g1,qf0.2 ⟨g2,by rw[e];rfl⟩,g3,K.avs cs g4,g5⟩
   |row m cs l v z=>rw[e2]at R e;rw[e];obtain⟨ha,g1,g2⟩:=R;exact⟨ha,RowRep.moved (M:=G.own.m r) (M':=(G.drop λr=>qr8 (h' r)).own.m r) (π:=[]) ⟨λhf=>False.elim hf,λb ρ hb=>⟨qf0.2 ⟨hb,by rw[e];rfl⟩,rfl⟩⟩ g1,g2⟩
theorem qy7{t c:CSt}{ls r:List T}{lv:List Nat}{a:Act}{i0:T}(h:encC t c=some ls)(hr:r=i0::ls)(R:RelC w0 S0 nt c lv a w G):∃G',RelC w0 S0 nt (decC t r) lv a w G'/\(decC t r).h.length=c.h.length/\KeepB base G G' (atL c.h) (atL (decC t r).h):=by
 unfold encC at h;cases e1:encAs t.s c.s with
 |none=>rw[e1]at h;cases h
 |some a1=>
  rw[e1]at h;simp only at h;cases e2:encBs t.h c.h with
  |none=>rw[e2]at h;cases h
  |some a2=>
   rw[e2]at h;cases h;subst hr;have hs:Seg (i0::(a1++a2)) 1 (a1++a2):=λj x hx=>by simp only[nth,List.getD_eq_getElem?_getD];rw[show 1+j=j+1 by omega,List.getElem?_cons_succ,hx];rfl
   obtain⟨hs1,hs2⟩:=hs.app;obtain⟨g1,g2⟩:=qds t.s c.s e1 hs1;have hs2':Seg (i0::(a1++a2)) (decAs t.s (i0::(a1++a2)) 1).2 a2:=by rw[g1];exact hs2
   obtain⟨k1,k2⟩:=qob e2 hs2';have hd:decC t (i0::(a1++a2))=⟨(decAs t.s (i0::(a1++a2)) 1).1,(decBs t.h (i0::(a1++a2)) (decAs t.s (i0::(a1++a2)) 1).2).1⟩:=rfl;rw[hd];obtain⟨I1,K1⟩:=qxn R.inv k2;exact⟨_,⟨I1,K1.avs _ (g2 w G _ _ R.vals),λr hr=>by rw[k1];exact R.al r hr,R.size,R.defers⟩,k1,K1.b base⟩
theorem qy0{e e':Ex}(h:exBeq e e'=true):e=e':=by cases e<;>cases e'<;>simp only[exBeq,Bool.false_eq_true]at h<;>first|rfl|(rw[Nat.eq_of_beq_eq_true h])
theorem qlb{base:Nat}:∀{xs:List (Ex×List Nat×CSt)}{i:Int}{e:Ex}{st:St}{r:List T},leave base xs i e st=some r->∃j ls,r=.i .i64 j::ls/\i<=j
|[],_,_,_,_,h=>by cases h
|(e',lv,t)::xs,i,e,st,r,h=>by
 have tl:leave base xs (i+1) e st=some r->∃j ls,r=.i .i64 j::ls/\i<=j:=λh=>by obtain⟨j,ls,h1,h2⟩:=qlb h;exact⟨j,ls,h1,by omega⟩
 simp only[leave]at h;cases hb:exBeq e' e with
 |false=>rw[hb]at h;exact tl h
 |true=>
  rw[hb,cond_true]at h;cases he:encC t (canon [] lv base st)with
  |none=>rw[he]at h;exact tl h
  |some ls=>rw[he]at h;cases h;exact⟨i,ls,rfl,Int.le_refl _⟩
theorem qhe{α:Type}{k:Ex->St->Option α}{x:α}{r:List T}{st:St}{a:Act}(R:Rel w0 S0 nt st a w G){e:Ex}:∀{xs:List (Ex×List Nat×CSt)}{i:Int},leave base xs i e st=some r->come r k xs i=some x->∃st' G',k e st'=some x/\Rel w0 S0 nt st' a w G'/\base<=st'.n/\KeepB base G G' st.h st'.h
|[],_,h,_=>by cases h
|(e',lv,t)::xs,i,h,hc=>by
 have here:∀ls,exBeq e' e=true->encC t (canon [] lv base st)=some ls->r=.i .i64 i::ls->k e' ((decC t r).st lv)=some x->∃st' G',k e st'=some x/\Rel w0 S0 nt st' a w G'/\base<=st'.n/\KeepB base G G' st.h st'.h:=by intro ls hb he hr hk;rw[qy0 hb]at hk;obtain⟨G1,R1,L1,B1⟩:=qk3 [] lv base R;obtain⟨G2,R2,L2,B2⟩:=qy7 (base:=base) he hr R1;exact⟨_,G2,hk,R2.rel,by show base<=(decC t r).h.length;rw[L2];exact L1,B1.trans B2⟩
 have nxt:leave base xs (i+1) e st=some r->∃st' G',k e st'=some x/\Rel w0 S0 nt st' a w G'/\base<=st'.n/\KeepB base G G' st.h st'.h:=by
  intro hl;cases xs with
  |nil=>cases hl
  |cons y ys=>
   obtain⟨j,ls,hr,hj⟩:=qlb hl;refine qhe R hl ?_;have hne:(asI (nth r 0)==i)=false:=by rw[hr];simp only[nth,List.getD_cons_zero,asI];rw[beq_eq_false_iff_ne];omega
   simpa only[come,hne,cond_false]using hc
 simp only[leave]at h;cases hb:exBeq e' e with
 |false=>rw[hb]at h;exact nxt h
 |true=>
  rw[hb,cond_true]at h;cases he:encC t (canon [] lv base st)with
  |none=>rw[he]at h;exact nxt h
  |some ls=>
   rw[he]at h;cases h;refine here ls hb he rfl ?_;cases xs with
   |nil=>exact hc
   |cons y ys=>
    have hq:(asI (nth (T.i .i64 i::ls) 0)==i)=true:=by simp[nth,asI]
    simpa only[come,hq,cond_true]using hc
theorem qjl{cd:Code}{ev:(α:Type)->St->(Ex->St->Option α)->Option α}(hev:qn6 P nt base cd ev){co:List (Nat×Nat)}{lv:List Nat}{ex:List (Ex×List Nat×CSt)}{α:Type}{k:Ex->St->Option α}{x:α}{r:List T}(hc:come r k ex 0=some x){Q:Exit->Act->World->Prop}:∀(n:Nat)(c:CSt)(a:Act)(w:World)(G:Gh),loopK co lv ex base (ev (List T)) n c=some r->RelC w0 S0 nt c lv a w G->base<=c.h.length->(∀e st' a' w' G',k e st'=some x->Rel w0 S0 nt st' a' w' G'->base<=st'.n->KeepB base G G' (atL c.h) st'.h->e≠.nrm->Q (qvk e) a' w')->Code.rounds P cd Q n a w
|0,_,_,_,_,h,_,_,_=>by cases h
|n+1,c,a,w,G,h,R,hb,hQ=>by
 refine hev w0 S0 (List T) (c.st lv) _ r h a w G R.rel hb _ λe st' a' w' G' he R' hb' K'=>?_;cases e with
 |nrm=>obtain⟨G1,R1,L1,B1⟩:=qk3 co lv base R';exact qjl hev hc n _ a' w' G1 he R1 L1 λe st'' a'' w'' G'' h1 h2 h3 h4 hne=>hQ e st'' a'' w'' G'' h1 h2 h3 ((K'.trans B1).trans h4) hne
 |ret=>obtain⟨st'',G'',h1,h2,h3,h4⟩:=qhe R' he hc;exact hQ .ret st'' a' w' G'' h1 h2 h3 (K'.trans h4) (by simp)
 |ex id=>obtain⟨st'',G'',h1,h2,h3,h4⟩:=qhe R' he hc;exact hQ (.ex id) st'' a' w' G'' h1 h2 h3 (K'.trans h4) (by simp)
end
section
variable{w0 w w':World}{S0:Nat->Prop}{G G':Gh}{h h':Hp}{base nt:Nat}{P:Program}{E:Env}{C:Orc}{I:(α:Type)->InlK α}
theorem qdf(O:EnvOk P E)(Fs:FnsOk P E C I)(hD:qq4 P E C I){lf:Nat}{fi:Fi}{base:Nat}:∀(c:Code),qn6 P fi.fn.ntmps base c λα st k=>evK C I E lf fi base c α st k
|.skip=>λw0 S0 α st k x h a w G R hb Q hQ=>wp_skip (hQ .nrm st a w G h R hb (KeepB.refl _ _ _))
|.label l=>λw0 S0 α st k x h a w G R hb Q hQ=>wp_label (hQ .nrm st a w G h R hb (KeepB.refl _ _ _))
|.ret=>λw0 S0 α st k x h a w G R hb Q hQ=>wp_ret (hQ .ret st a w G h R hb (KeepB.refl _ _ _))
|.exit id=>λw0 S0 α st k x h a w G R hb Q hQ=>wp_exit (hQ (.ex id) st a w G h R hb (KeepB.refl _ _ _))
|.region id ops draw=>λw0 S0 α st k x h a w G R hb Q hQ=>by
 simp only[evK]at h;cases hd:dstOk fi.fn.ntmps ops.toList with
 |false=>rw[hd]at h;cases h
 |true=>
  rw[hd,cond_true]at h;cases draw with
  |false=>exact qtz (base:=base) O Fs hd R h λst' a' w' G' h1 h2 h3 h4=>hQ .nrm st' a' w' G' h1 h2 (Nat.le_trans hb h3) h4
  |true=>exact hD α fi.fn.ntmps base w0 S0 id ops st _ x a w G Q hd h R λst' a' w' G' h1 h2 h3 h4=>hQ .nrm st' a' w' G' h1 h2 (Nat.le_trans hb h3) h4
|.seq c1 c2=>λw0 S0 α st k x h a w G R hb Q hQ=>by
 simp only[evK]at h;refine wp_seq (qdf O Fs hD c1 w0 S0 α st _ x h a w G R hb _ λe st' a' w' G' he R' hb' K'=>?_);cases e with
 |nrm=>exact qdf O Fs hD c2 w0 S0 α st' k x he a' w' G' R' hb' Q λe st'' a'' w'' G'' h1 h2 h3 h4=>hQ e st'' a'' w'' G'' h1 h2 h3 (K'.trans h4)
 |ret=>exact hQ .ret st' a' w' G' he R' hb' K'
 |ex id=>exact hQ (.ex id) st' a' w' G' he R' hb' K'
|.cond cd c1 c2=>λw0 S0 α st k x h a w G R hb Q hQ=>by
 simp only[evK]at h;have hv:=qct (w:=w) (G:=G) (h:=st.h) R.slots none cd;cases hc:opd st.s none cd with
 |b t=>
  rw[hc]at h hv;simp only at h;refine wp_cond (t:=t) hv ?_;cases t with
  |true=>exact qdf O Fs hD c1 w0 S0 α st k x h a w G R hb Q hQ
  |false=>exact qdf O Fs hD c2 w0 S0 α st k x h a w G R hb Q hQ
 |_=>rw[hc]at h;cases h
|.block id c=>λw0 S0 α st k x h a w G R hb Q hQ=>by
 simp only[evK]at h;refine wp_block (qdf O Fs hD c w0 S0 α st _ x h a w G R hb _ λe st' a' w' G' he R' hb' K'=>?_);cases e with
 |nrm=>exact hQ .nrm st' a' w' G' he R' hb' K'
 |ret=>exact hQ .ret st' a' w' G' he R' hb' K'
 |ex j=>
  simp only at he;show(if j=id then Q .normal a' w' else Q (.exit j) a' w');cases hj:Nat.beq j id with
  |true=>rw[hj,cond_true]at he;rw[if_pos (Nat.eq_of_beq_eq_true hj)];exact hQ .nrm st' a' w' G' he R' hb' K'
  |false=>rw[hj,cond_false]at he;rw[if_neg (λe=>by subst e;rw[Nat.beq_refl]at hj;cases hj)];exact hQ (.ex j) st' a' w' G' he R' hb' K'
|.loop c=>λw0 S0 α st k x h a w G R hb Q hQ=>by
 simp only[evK]at h;generalize qut fi c=lp at h;obtain⟨_,lv,co,cx⟩:=lp;simp only at h;cases hem:(qe8 (canon co lv base st) cx).isEmpty with
 |true=>rw[hem]at h;cases h
 |false=>
 rw[hem,cond_false]at h;cases hr:loopK co lv (qe8 (canon co lv base st) cx) base (λst k=>evK C I E lf fi base c (List T) st k) lf (canon co lv base st)with
 |none=>rw[hr]at h;cases h
 |some r=>rw[hr,Option.bind_some]at h;obtain⟨G1,R1,L1,B1⟩:=qk3 co lv base R;refine wp_loop_rounds lf (qjl (qdf O Fs hD c) h lf _ a w G1 hr R1 L1 λe st' a' w' G' h1 h2 h3 h4 _=>hQ e st' a' w' G' h1 h2 h3 (B1.trans h4))
|.rangeFunc .. =>λw0 S0 α st k x h a w G R hb Q hQ=>by cases h
|.scope c=>λw0 S0 α st k x h a w G R hb Q hQ=>by cases h
|.goto l=>λw0 S0 α st k x h a w G R hb Q hQ=>by cases h
|.refuse r=>λw0 S0 α st k x h a w G R hb Q hQ=>by cases h
end
def mix(D:Nat->Bool)(a b:Hp):Hp:=λr=>bif D r then a r else b r
def Stp.map(f:Hp->Hp):Stp->Stp
|.fail=>.fail
|.ret v h=>.ret v (f h)
|.chk b s=>.chk b (s.map f)
|.call g ts k=>.call g ts λr=>((k r).1,f (k r).2)
|.inl g args=>.inl g args
section
variable{D:Nat->Bool}{h g:Hp}
theorem qb1{r:Nat}(hr:D r=true):mix D h g r=h r:=by simp[mix,hr]
theorem qek{r:Nat}(hr:D r=false):mix D h g r=g r:=by simp[mix,hr]
theorem qat{r:Nat}{x:Blk}(hr:D r=true):upd (mix D h g) r x=mix D (upd h r x) g:=by
 funext k;by_cases e:k=r;· subst e;rw[upd_same,qb1 hr,upd_same]
 ·rw[upd_ne _ _ e];cases hk:D k with
  |true=>rw[qb1 hk,qb1 hk,upd_ne _ _ e]
  |false=>rw[qek hk,qek hk]
theorem qc7{r:Nat}{p:Path}{v:Nat}(hr:D r=true):rowAt (mix D h g) r p v=rowAt h r p v:=by simp[rowAt,qb1 hr]
theorem qd6{v:AV}(hv:inD D v=true):cont (mix D h g) v=cont h v:=by
 cases v with
 |rf r p w s=>simp only[cont];rw[qc7 (by simpa[inD]using hv)]
 |_=>rfl
theorem qmh{v:AV}(hv:inD D v=true):slen (mix D h g) v=slen h v:=by
 cases v with
 |rf r p w s=>simp only[slen];rw[qc7 (by simpa[inD]using hv)]
 |_=>rfl
theorem qul{v:AV}(hv:inD D v=true):holed (mix D h g) v=holed h v:=by
 cases v with
 |rf r p w s=>simp only[holed];rw[qb1 (by simpa[inD]using hv)]
 |_=>rfl
theorem qg4{v:AV}{m:Bool}{cs:List CT}{l:List T}(hv:inD D v=true):hchk (mix D h g) v m cs l=hchk h v m cs l:=by simp[hchk,qul hv]
theorem qjf{r:Nat}{p:Path}(hr:D r=true):killR (mix D h g) r p=mix D (killR h r p) g:=by
 unfold killR;rw[qb1 hr];cases h r with
 |dead=>rfl
 |box _=>rfl
 |row m cs l v e=>
  simp only;cases p.getLast? with
  |none=>exact qat hr
  |some ij=>
   simp only;cases navR p.dropLast m cs l with
   |none=>exact qat hr
   |some x=>exact qat hr
def mapSk(D:Nat->Bool)(g:Hp){α β:Type}(x:α×Hp×β):α×Hp×β:=(x.1,mix D x.2.1 g,x.2.2)
theorem qib{c:CT}{v:AV}(hv:inD D v=true):sink (mix D h g) c v=(sink h c v).map (mapSk D g):=by
 cases c with
 |sl m cs=>
  simp only[sink];cases v with
  |nl _ _=>rfl
  |rf r p w s=>
   simp only;rw[qd6 hv];cases cont h (.rf r p w s)with
   |none=>rfl
   |some x=>obtain⟨m',cs',l⟩:=x;simp only;rw[qjf (by simpa[inD]using hv),qg4 hv];cases CT.beq (.sl m cs) (.sl m' cs')<;>rfl
  |_=>rfl
 |b=>simp only[sink];cases scal .b v<;>rfl
 |i k=>simp only[sink];cases scal (.i k) v<;>rfl
 |s=>simp only[sink];cases scal .s v<;>rfl
 |o=>simp only[sink];cases scal .o v<;>rfl
theorem qjc:∀{cs:List CT}{vs:List AV}{h:Hp},inDs D vs=true->sinks (mix D h g) cs vs=(sinks h cs vs).map (mapSk D g)
|[],[],_,_=>rfl
|c::cs,v::vs,h,hv=>by
 simp only[inDs,Bool.and_eq_true]at hv;simp only[sinks];rw[qib hv.1];cases sink h c v with
 |none=>rfl
 |some x=>
  obtain⟨t,h1,b⟩:=x;simp only[Option.map_some,mapSk];rw[qjc hv.2];cases sinks h1 cs vs with
  |none=>rfl
  |some y=>rfl
|[],_::_,_,_=>rfl
|_::_,[],_,_=>rfl
theorem qje{c:CT}{v:AV}(hv:inD D v=true):readT (mix D h g) c v=readT h c v:=by
 cases c with
 |sl m cs=>
  simp only[readT];rw[qd6 hv];cases cont h v with
  |none=>rfl
  |some x=>obtain⟨m',cs',l⟩:=x;simp only[qg4 hv]
 |_=>rfl
theorem qld{v:AV}(hv:inD D v=true):inDs D (qai v)=true:=by
 cases v with
 |ag cs=>exact hv
 |_=>simp only[qai,inDs,Bool.and_true];exact hv
theorem quk{ti:Ti}{v:AV}(hv:inD D v=true):loadV ti (mix D h g) v=loadV ti h v:=by
 cases v with
 |bp r j=>simp only[loadV];rw[qb1 (by simpa[inD]using hv)]
 |rp r p w i j=>simp only[loadV];rw[qb1 (by simpa[inD]using hv),qc7 (by simpa[inD]using hv)]
 |_=>rfl
theorem qsk{ti:Ti}{v:AV}(hv:inD D v=true):qla ti (mix D h g) v=qla ti h v:=by
 cases v with
 |rp r p w i j=>simp only[qla];rw[qb1 (by simpa[inD]using hv),qc7 (by simpa[inD]using hv)]
 |_=>rfl
theorem qsi{ti:Ti}{a v:AV}(ha:inD D a=true)(hv:(∃r j,a=.bp r j)\/inD D v=true):qfb ti (mix D h g) a v=(qfb ti h a v).map λx=>(mix D x.1 g,x.2):=by
 cases a with
 |bp r j=>
  have hr:D r=true:=by simpa[inD]using ha
  simp only[qfb];rw[qb1 hr];cases h r with
  |dead=>rfl
  |row _ _ _ _ _=>rfl
  |box cs=>
   simp only;cases(Nat.beq (qai v).length ti.cs.length&&Nat.ble (j+ti.cs.length) cs.length&&(qai v).all isC)with
   |true=>simp only[cond_true,Option.map_some,qat hr]
   |false=>rfl
 |rp r p w i j=>
  have hr:D r=true:=by simpa[inD]using ha
  have hv:inD D v=true:=by
   rcases hv with⟨_,_,e⟩|e
   · cases e
   · exact e
  simp only[qfb];rw[qjc (qld hv)];cases sinks h ti.cs (qai v)with
  |none=>rfl
  |some x=>
   obtain⟨ts,h1,b⟩:=x;simp only[Option.map_some,mapSk];rw[qb1 hr,qc7 hr];cases h1 r with
   |dead=>rfl
   |box _=>rfl
   |row m cs l v' e=>
    simp only;cases rowAt h1 r p w with
    |none=>rfl
    |some y=>
     obtain⟨m',cs',l'⟩:=y;simp only;cases qd2 (qam cs' j ti.cs.length) ti.cs with
     |false=>rfl
     |true=>simp only[cond_true,Option.map_some,qat hr]
 |_=>rfl
theorem qnv{v:AV}(hv:inD D v=true):liveP (mix D h g) v=liveP h v:=by
 cases v with
 |bp r j=>simp only[liveP];rw[qb1 (by simpa[inD]using hv)]
 |rp r p w i j=>simp only[liveP];rw[qc7 (by simpa[inD]using hv)]
 |_=>rfl
theorem qxj{c:CT}{x i:AV}(hx:inD D x=true):idxS (mix D h g) c x i=(idxS h c x i).map λh=>mix D h g:=by
 cases i with
 |i k n=>
  simp only[idxS];cases x with
  |ro _ m cs l=>simp only;cases CT.beq c (.sl m cs)<;>rfl
  |rf r p w s=>
   simp only;rw[qmh hx,qc7 (by simpa[inD]using hx)];cases slen h (.rf r p w s)with
   |none=>rfl
   |some n=>
    cases rowAt h r p w with
    |none=>rfl
    |some y=>obtain⟨m,cs,_⟩:=y;simp only;cases CT.beq c (.sl m cs)<;>rfl
  |_=>rfl
 |_=>rfl
theorem qsj{c:CT}{x:AV}{lo hi:Option AV}(hx:inD D x=true):qd3 (mix D h g) c x lo hi=(qd3 h c x lo hi).map λh=>mix D h g:=by
 cases x with
 |s s=>
  simp only[qd3];cases CT.beq c .s with
  |false=>rfl
  |true=>
   simp only[cond_true];cases lo with
   |none=>cases hi with
    |none=>rfl
    |some u=>simp only;cases natOf u<;>rfl
   |some l=>cases hi with
    |none=>simp only;cases natOf l<;>rfl
    |some u=>simp only;cases natOf l<;>cases natOf u<;>rfl
 |rf r p w sub=>
  simp only[qd3];rw[qmh hx,qc7 (by simpa[inD]using hx)];cases slen h (.rf r p w sub)with
  |none=>rfl
  |some n=>
   cases rowAt h r p w with
   |none=>rfl
   |some y=>
    obtain⟨m,cs,_⟩:=y;simp only;cases CT.beq c (.sl m cs)with
    |false=>rfl
    |true=>
     simp only[cond_true];cases lo with
     |none=>cases hi with
      |none=>rfl
      |some u=>simp only;cases natOf u<;>rfl
     |some l=>cases hi with
      |none=>simp only;cases natOf l<;>rfl
      |some u=>simp only;cases natOf l<;>cases natOf u<;>rfl
 |ro k m cs q=>
  simp only[qd3];cases CT.beq c (.sl m cs)with
  |false=>rfl
  |true=>
   simp only[cond_true];cases lo with
   |none=>cases hi with
    |none=>rfl
    |some u=>simp only;cases natOf u<;>rfl
   |some l=>cases hi with
    |none=>simp only;cases natOf l<;>rfl
    |some u=>simp only;cases natOf l<;>cases natOf u<;>rfl
 |nl m cs=>
  simp only[qd3];cases CT.beq c (.sl m cs)with
  |false=>rfl
  |true=>
   simp only[cond_true];cases lo with
   |none=>cases hi with
    |none=>rfl
    |some u=>simp only;cases natOf u<;>rfl
   |some l=>cases hi with
    |none=>simp only;cases natOf l<;>rfl
    |some u=>simp only;cases natOf l<;>cases natOf u<;>rfl
 |_=>rfl
end
section
variable{D:Nat->Bool}{h g:Hp}
theorem qsm{m:Bool}{cs:List CT}{x:AV}(hx:inD D x=true):qec (mix D h g) m cs x=(qec h m cs x).map (mapSk D g):=by
 cases x with
 |s s=>
  simp only[qec];split;· rfl
  · rfl
 |nl m' cs'=>simp only[qec,cont];cases CT.beq (.sl m cs) (.sl m' cs')<;>cases qao cs<;>rfl
 |ro k m' cs' l=>simp only[qec,cont];cases CT.beq (.sl m cs) (.sl m' cs')<;>cases qao cs<;>rfl
 |rf r p w s=>
  have hr:D r=true:=by simpa[inD]using hx
  simp only[qec];rw[qd6 hx];cases cont h (.rf r p w s)with
  |none=>rfl
  |some y=>
   obtain⟨m',cs',l⟩:=y;simp only;cases CT.beq (.sl m cs) (.sl m' cs')with
   |false=>rfl
   |true=>
    simp only[cond_true];cases qao cs with
    |false=>rfl
    |true=>
     simp only[cond_true];cases p with
     |cons _ _=>cases s<;>rfl
     |nil=>
      cases s with
      |none=>simp only[Option.map_some,mapSk,qjf hr,qg4 hx]
      |some ok=>
       obtain⟨o,k⟩:=ok;simp only[qb1 hr];cases h r with
       |dead=>rfl
       |box _=>rfl
       |row m1 cs1 q v e=>simp only[Option.map_some,mapSk,qat hr,qg4 hx]
 |_=>rfl
theorem qxl{n:Nat}{m:Bool}{cs:List CT}{d x:AV}(hn:D n=true)(hd:inD D d=true)(hx:inD D x=true):appS n (mix D h g) m cs d x=(appS n h m cs d x).map λh=>mix D h g:=by
 unfold appS;rw[qsm hx];cases qec h m cs x with
 |none=>rfl
 |some y=>
  obtain⟨xs,h1,b⟩:=y;simp only[Option.map_some,mapSk];cases d with
  |nl _ _=>simp only[Stp.map,qat hn]
  |rf r p v sub=>
   have hr:D r=true:=by simpa[inD]using hd
   simp only;rw[qd6 hd];cases cont h1 (.rf r p v sub)with
   |none=>rfl
   |some z=>
    obtain⟨m',cs',l⟩:=z;simp only;cases CT.beq (.sl m cs) (.sl m' cs')with
    |false=>rfl
    |true=>simp only[cond_true,Stp.map,qg4 hd,qjf hr,qat hn]
  |_=>rfl
theorem qum{ct:CT}{d x:AV}(hd:inD D d=true)(hx:inD D x=true):copyS (mix D h g) ct d x=(copyS h ct d x).map λh=>mix D h g:=by
 cases d with
 |rf r p v sub=>
  have hr:D r=true:=by simpa[inD]using hd
  simp only[copyS];rw[qd6 hd,qb1 hr];cases cont h (.rf r p v sub)with
  |none=>rfl
  |some z=>
   obtain⟨m,cs,l⟩:=z;cases h r with
   |dead=>rfl
   |box _=>rfl
   |row m0 cs0 q w e=>
    simp only;cases x with
    |s s=>
     simp only;split
     ·cases(qao cs||!(CT.beq ct (.sl m cs)))with
      |true=>rfl
      |false=>simp only[cond_false,Stp.map,qat hr]
     · rfl
    |_=>
     simp only[qd6 hx];split
     ·cases(qao cs||!(CT.beq ct (.sl m cs)))with
      |true=>rfl
      |false=>simp only[cond_false,Stp.map,qat hr]
     · rfl
 |_=>rfl
theorem qxk{n:Nat}(hn:D n=true){m:Bool}{cs:List CT}{x:Int}:appZ n (mix D h g) m cs x=(appZ n h m cs x).map λh=>mix D h g:=by
 unfold appZ;cases cs.isEmpty with
 |true=>rfl
 |false=>
  simp only[cond_false];split;· simp only[Stp.map,qat hn]
  · rfl
theorem qsl{ct:CT}{d:AV}(hd:inD D d=true):qlm (mix D h g) ct d=(qlm h ct d).map λh=>mix D h g:=by
 cases d with
 |rf r p v sub=>
  have hr:D r=true:=by simpa[inD]using hd
  simp only[qlm];rw[qd6 hd,qb1 hr];cases cont h (.rf r p v sub)with
  |none=>rfl
  |some z=>
   obtain⟨m,cs,l⟩:=z;cases h r with
   |dead=>rfl
   |box _=>rfl
   |row m0 cs0 q w e=>
    simp only;split
    ·cases(qao cs||!(CT.beq ct (.sl m cs)))with
     |true=>rfl
     |false=>simp only[cond_false,Stp.map,qat hr]
    · rfl
 |_=>rfl
theorem qra{vs:List AV}(hv:inDs D vs=true):∀v∈vs,inD D v=true:=by
 induction vs with
 |nil=>intro v h;cases h
 |cons x xs ih=>
  simp only[inDs,Bool.and_eq_true]at hv;intro v h;rcases List.mem_cons.1 h with rfl|h
  · exact hv.1
  · exact ih hv.2 v h
theorem ql5{m:Bool}{cs:List CT}{z:T}:∀{k:Nat}{ps:List (Nat×AV)},(∀p∈ps,inD D p.2=true)->qau (mix D h g) m cs z k ps=(qau h m cs z k ps).map (mapSk D g)
|0,[],_=>rfl
|0,_::_,_=>rfl
|k+1,ps,hp=>by
 simp only[qau];rw[ql5 (k:=k) (λp hm=>hp p (List.mem_filter.1 hm).1)];cases qau h m cs z k (ps.filter λp=>Nat.blt p.1 k)with
 |none=>rfl
 |some x=>
  obtain⟨ts,h1,b⟩:=x;simp only[Option.map_some,mapSk];cases hf:ps.find? λp=>Nat.beq p.1 k with
  |none=>rfl
  |some iv=>
   obtain⟨i,v⟩:=iv;simp only;rw[qjc (qld (hp (i,v) (List.mem_of_find?_eq_some hf)))];cases sinks h1 cs (qai v)with
   |none=>rfl
   |some y=>obtain⟨xs,h2,b'⟩:=y;simp only[Option.map_some,mapSk];cases elem m xs<;>rfl
def Clo(D:Nat->Bool)(h:Hp):Prop:=∀r cs,D r=true->h r=.box cs->inDs D cs=true
theorem Clo.less{h':Hp}(H:Clo D h)(hb:∀r cs,h' r=.box cs->h r=.box cs):Clo D h':=λr cs hr e=>H r cs hr (hb r cs e)
theorem qjk{fz:Bool}{p:PD}{v:AV}(hv:inD D v=true):qa7 fz (mix D h g) p v=(qa7 fz h p v).map (mapSk D g):=by
 cases p with
 |v c=>simp only[qa7];cases scal c v<;>rfl
 |ro c=>
  have rd:(match readT (mix D h g) c v with|some (t,b)=>(some (t,mix D h g,b,[]):Option (T×Hp×Bool×List (Nat×Path×Blk)))|none=>none)=(match readT h c v with|some (t,b)=>(some (t,h,b,[]):Option (T×Hp×Bool×List (Nat×Path×Blk)))|none=>none).map (mapSk D g):=by
   rw[qje hv];cases readT h c v with
   |none=>rfl
   |some x=>rfl
  cases v with
  |rf r q w s=>
   cases fz with
   |true=>
    simp only[qa7];rw[qib hv];cases sink h c (.rf r q w s)with
    |none=>rfl
    |some x=>rfl
   |false=>exact rd
  |_=>cases fz<;>exact rd
 |mv c=>
  simp only[qa7];rw[qib hv];cases sink h c v with
  |none=>rfl
  |some x=>rfl
 |ow c=>
  cases v with
  |rf r q w s=>
   have hr:D r=true:=by simpa[inD]using hv
   cases s with
   |none=>
    simp only[qa7];rw[qje hv,qb1 hr];cases readT h c (.rf r q w none)with
    |none=>rfl
    |some x=>simp only[Option.map_some,mapSk,qat hr]
   |some _=>rfl
  |_=>rfl
 |fn f=>simp only[qa7];split<;>first|rfl|(split<;>rfl)
 |ag l=>rfl
 |bx l=>rfl
theorem qji{fz:Bool}:∀{ps:List PD}{vs:List AV}{h:Hp},inDs D vs=true->qan fz (mix D h g) ps vs=(qan fz h ps vs).map (mapSk D g)
|[],[],_,_=>rfl
|p::ps,v::vs,h,hv=>by
 simp only[inDs,Bool.and_eq_true]at hv;simp only[qan];rw[qjk hv.1];cases qa7 fz h p v with
 |none=>rfl
 |some x=>
  obtain⟨t,h1,b,rs⟩:=x;simp only[Option.map_some,mapSk];rw[qji hv.2];cases qan fz h1 ps vs with
  |none=>rfl
  |some y=>rfl
|[],_::_,_,_=>rfl
|_::_,[],_,_=>rfl
theorem qpc{fz:Bool}{p:PD}{v:AV}(hv:inD D v=true):qaw fz (mix D h g) p v=(qaw fz h p v).map (mapSk D g):=by
 cases p with
 |v c=>simp only[qaw];cases scal c v<;>rfl
 |ro c=>
  have rd:(match readT (mix D h g) c v with|some (t,b)=>(some (t,mix D h g,b):Option (T×Hp×Bool))|none=>none)=(match readT h c v with|some (t,b)=>some (t,h,b)|none=>none).map (mapSk D g):=by
   rw[qje hv];cases readT h c v with
   |none=>rfl
   |some x=>rfl
  cases v with
  |rf r q w s=>
   cases fz with
   |true=>rfl
   |false=>exact rd
  |_=>cases fz<;>exact rd
 |ow c=>exact qib hv
 |mv c=>rfl
 |fn f=>rfl
 |ag l=>rfl
 |bx l=>rfl
theorem qjg{fz:Bool}:∀{ps:List PD}{vs:List AV}{h:Hp},inDs D vs=true->qav fz (mix D h g) ps vs=(qav fz h ps vs).map (mapSk D g)
|[],[],_,_=>rfl
|p::ps,v::vs,h,hv=>by
 simp only[inDs,Bool.and_eq_true]at hv;simp only[qav];rw[qpc hv.1];cases qaw fz h p v with
 |none=>rfl
 |some x=>
  obtain⟨t,h1,b⟩:=x;simp only[Option.map_some,mapSk];rw[qjg hv.2];cases qav fz h1 ps vs with
  |none=>rfl
  |some y=>rfl
|[],_::_,_,_=>rfl
|_::_,[],_,_=>rfl
theorem qgx{fz:Bool}{h':Hp}{p:PD}{v:AV}{t:T}{b:Bool}{rs:List (Nat×Path×Blk)}(hs:qa7 fz h p v=some (t,h',b,rs)){r:Nat}{cs:List AV}(hr:h' r=.box cs):h r=.box cs:=by
 have snk:∀{c:CT},(match sink h c v with|some (t,h,b)=>(some (t,h,b,[]):Option (T×Hp×Bool×List (Nat×Path×Blk)))|none=>none)=some (t,h',b,rs)->h r=.box cs:=by
  intro c hs;cases e:sink h c v with
  |none=>rw[e]at hs;cases hs
  |some x=>obtain⟨t1,h1,b1⟩:=x;rw[e]at hs;cases hs;exact qdi e hr
 have rd:∀{c:CT},(match readT h c v with|some (t,b)=>(some (t,h,b,[]):Option (T×Hp×Bool×List (Nat×Path×Blk)))|none=>none)=some (t,h',b,rs)->h r=.box cs:=by
  intro c hs;cases e:readT h c v with
  |none=>rw[e]at hs;cases hs
  |some x=>obtain⟨t1,b1⟩:=x;rw[e]at hs;cases hs;exact hr
 cases p with
 |v c=>simp only[qa7]at hs;split at hs<;>cases hs;exact hr
 |ro c=>cases v with
  |rf r1 q w s=>cases fz with
   |true=>exact snk hs
   |false=>exact rd hs
  |_=>cases fz<;>exact rd hs
 |mv c=>exact snk hs
 |fn f=>obtain⟨_,_,rfl,_,_⟩:=qdu hs;exact hr
 |ow c=>cases v with
  |rf r1 q w s=>cases s with
   |none=>
    simp only[qa7]at hs;cases e:readT h c (.rf r1 q w none)with
    |none=>rw[e]at hs;cases hs
    |some x=>
     obtain⟨t1,b1⟩:=x;rw[e]at hs;cases hs;by_cases e2:r=r1;· subst e2;rw[upd_same]at hr;cases hr
     · rw[upd_ne _ _ e2]at hr;exact hr
   |some _=>cases hs
  |_=>cases hs
 |ag l=>cases hs
 |bx l=>cases hs
theorem qgv{fz:Bool}:∀{ps:List PD}{vs:List AV}{h h':Hp}{ts:List T}{b:Bool}{rs:List (Nat×Path×Blk)},qan fz h ps vs=some (ts,h',b,rs)->∀{r:Nat}{cs:List AV},h' r=.box cs->h r=.box cs
|[],[],_,_,_,_,_,hs,_,_,hr=>by cases hs;exact hr
|p::ps,v::vs,h,h',ts,b,rs,hs,r,cs,hr=>by
 simp only[qan]at hs;cases h1:qa7 fz h p v with
 |none=>rw[h1]at hs;cases hs
 |some x=>
  obtain⟨t,hh,b1,rs1⟩:=x;rw[h1]at hs;simp only at hs;cases h2:qan fz hh ps vs with
  |none=>rw[h2]at hs;cases hs
  |some y=>obtain⟨ts',h'',b2,rs2⟩:=y;rw[h2]at hs;cases hs;exact qgx h1 (qgv h2 hr)
|[],_::_,_,_,_,_,_,hs,_,_,_=>by cases hs
|_::_,[],_,_,_,_,_,hs,_,_,_=>by cases hs
theorem qn2{fz:Bool}{h':Hp}{p:PD}{v:AV}{t:T}{b:Bool}(hs:qaw fz h p v=some (t,h',b)){r:Nat}{cs:List AV}(hr:h' r=.box cs):h r=.box cs:=by
 have rd:∀{c:CT},(match readT h c v with|some (t,b)=>(some (t,h,b):Option (T×Hp×Bool))|none=>none)=some (t,h',b)->h r=.box cs:=by
  intro c hs;cases e:readT h c v with
  |none=>rw[e]at hs;cases hs
  |some x=>obtain⟨t1,b1⟩:=x;rw[e]at hs;cases hs;exact hr
 cases p with
 |v c=>simp only[qaw]at hs;split at hs<;>cases hs;exact hr
 |ro c=>cases v with
  |rf r1 q w s=>cases fz with
   |true=>cases hs
   |false=>exact rd hs
  |_=>cases fz<;>exact rd hs
 |ow c=>exact qdi hs hr
 |mv c=>cases hs
 |fn f=>cases hs
 |ag l=>cases hs
 |bx l=>cases hs
theorem qgs{fz:Bool}:∀{ps:List PD}{vs:List AV}{h h':Hp}{ts:List T}{b:Bool},qav fz h ps vs=some (ts,h',b)->∀{r:Nat}{cs:List AV},h' r=.box cs->h r=.box cs
|[],[],_,_,_,_,hs,_,_,hr=>by cases hs;exact hr
|p::ps,v::vs,h,h',ts,b,hs,r,cs,hr=>by
 simp only[qav]at hs;cases h1:qaw fz h p v with
 |none=>rw[h1]at hs;cases hs
 |some x=>
  obtain⟨t,hh,b1⟩:=x;rw[h1]at hs;simp only at hs;cases h2:qav fz hh ps vs with
  |none=>rw[h2]at hs;cases hs
  |some y=>obtain⟨ts',h'',b2⟩:=y;rw[h2]at hs;cases hs;exact qn2 h1 (qgs h2 hr)
|[],_::_,_,_,_,_,hs,_,_,_=>by cases hs
|_::_,[],_,_,_,_,hs,_,_,_=>by cases hs
end
def outC(x:T×Hp×Bool×List (Nat×Path×Blk)×List (Nat×List PD×List AV))(o:Out):Out:=⟨x.1::o.ts,o.h,x.2.2.1&&o.b,x.2.2.2.1++o.rows,x.2.2.2.2++o.boxes⟩
section
variable{D:Nat->Bool}{h g:Hp}{fz:Bool}
theorem qf8{p:PD}{ps:List PD}{v:AV}{vs:List AV}:qa9 fz h (p::ps) (v::vs)=(qab fz h p v).bind λx=>(qa9 fz x.2.1 ps vs).map (outC x):=by
 have flat:(match qa7 fz h p v with
 |some (t,h,b,rs)=>match qa9 fz h ps vs with|some o=>some (⟨t::o.ts,o.h,b&&o.b,rs++o.rows,o.boxes⟩:Out)|none=>none
 |none=>none)=(match qa7 fz h p v with|some (t,h,b,rs)=>some (t,h,b,rs,([]:List (Nat×List PD×List AV)))|none=>none).bind λx=>(qa9 fz x.2.1 ps vs).map (outC x):=by
  cases qa7 fz h p v with
  |none=>rfl
  |some x=>obtain⟨t,hh,b,rs⟩:=x;simp only[Option.bind_some];cases qa9 fz hh ps vs<;>rfl
 cases p with
 |v c=>exact flat
 |ro c=>exact flat
 |ow c=>exact flat
 |mv c=>exact flat
 |fn f=>exact flat
 |ag l=>
  cases v with
  |ag cs=>
   simp only[qa9,qab];cases qan fz h l cs with
   |none=>rfl
   |some x=>obtain⟨ts,hh,b,rs⟩:=x;simp only[Option.bind_some];cases qa9 fz hh ps vs<;>rfl
  |_=>rfl
 |bx l=>
  cases v with
  |bp r j=>
   cases j with
   |zero=>
    simp only[qa9,qab];cases h r with
    |dead=>rfl
    |row _ _ _ _ _=>rfl
    |box cs=>
     simp only;cases qav fz h l cs with
     |none=>rfl
     |some x=>obtain⟨ts,hh,b⟩:=x;simp only[Option.bind_some];cases qa9 fz (upd hh r .dead) ps vs<;>rfl
   |succ j=>rfl
  |_=>rfl
theorem qgw{h':Hp}{p:PD}{v:AV}{t:T}{b:Bool}{rs:List (Nat×Path×Blk)}{bx:List (Nat×List PD×List AV)}(hs:qab fz h p v=some (t,h',b,rs,bx)){r:Nat}{cs:List AV}(hr:h' r=.box cs):h r=.box cs:=by
 have flat:(match qa7 fz h p v with|some (t,h,b,rs)=>some (t,h,b,rs,([]:List (Nat×List PD×List AV)))|none=>none)=some (t,h',b,rs,bx)->h r=.box cs:=by
  intro hs;cases h1:qa7 fz h p v with
  |none=>rw[h1]at hs;cases hs
  |some x=>obtain⟨t1,hh,b1,rs1⟩:=x;rw[h1]at hs;cases hs;exact qgx h1 hr
 cases p with
 |v c=>exact flat hs
 |ro c=>exact flat hs
 |ow c=>exact flat hs
 |mv c=>exact flat hs
 |fn f=>exact flat hs
 |ag l=>
  cases v with
  |ag ds=>
   simp only[qab]at hs;cases h1:qan fz h l ds with
   |none=>rw[h1]at hs;cases hs
   |some x=>obtain⟨t1,hh,b1,rs1⟩:=x;rw[h1]at hs;cases hs;exact qgv h1 hr
  |_=>cases hs
 |bx l=>
  cases v with
  |bp r1 j=>
   cases j with
   |zero=>
    simp only[qab]at hs;cases h0:h r1 with
    |dead=>rw[h0]at hs;cases hs
    |row _ _ _ _ _=>rw[h0]at hs;cases hs
    |box ds=>
     rw[h0]at hs;simp only at hs;cases h1:qav fz h l ds with
     |none=>rw[h1]at hs;cases hs
     |some x=>
      obtain⟨t1,hh,b1⟩:=x;rw[h1]at hs;cases hs;by_cases e2:r=r1;· subst e2;rw[upd_same]at hr;cases hr
      · rw[upd_ne _ _ e2]at hr;exact qgs h1 hr
   |succ j=>cases hs
  |_=>cases hs
mutual
theorem qbe{A:Nat->Bool}(hA:∀r,A r=true->D r=true):∀(v:AV),inD A v=true->inD D v=true
|.rf r _ _ _,h=>hA r h
|.bp r _,h=>hA r h
|.rp r _ _ _ _,h=>hA r h
|.ag cs,h=>qcz hA cs h
|.tu cs,h=>qcz hA cs h
|.fn _ cs,h=>qcz hA cs h
|.z,_=>rfl
|.u,_=>rfl
|.un,_=>rfl
|.b _,_=>rfl
|.i _ _,_=>rfl
|.s _,_=>rfl
|.nl _ _,_=>rfl
|.ro _ _ _ _,_=>rfl
|.cp _ _ _ _,_=>rfl
|.np,_=>rfl
|.mp _,_=>rfl
theorem qcz{A:Nat->Bool}(hA:∀r,A r=true->D r=true):∀(vs:List AV),inDs A vs=true->inDs D vs=true
|[],_=>rfl
|v::vs,h=>by simp only[inDs,Bool.and_eq_true]at h|-;exact⟨qbe hA v h.1,qcz hA vs h.2⟩
end
theorem qjj{A:Nat->Bool}(hA:∀r,A r=true->D r=true){p:PD}{v:AV}(hv':inD A v=true)(hc:Clo A h):qab fz (mix D h g) p v=(qab fz h p v).map (mapSk D g):=by
 have hv:=qbe hA v hv';have flat:(match qa7 fz (mix D h g) p v with|some (t,h,b,rs)=>some (t,h,b,rs,([]:List (Nat×List PD×List AV)))|none=>none)=Option.map (mapSk D g) (match qa7 fz h p v with|some (t,h,b,rs)=>some (t,h,b,rs,([]:List (Nat×List PD×List AV)))|none=>none):=by
  rw[qjk hv];cases qa7 fz h p v with
  |none=>rfl
  |some x=>rfl
 cases p with
 |v c=>exact flat
 |ro c=>exact flat
 |ow c=>exact flat
 |mv c=>exact flat
 |fn f=>exact flat
 |ag l=>
  cases v with
  |ag cs=>
   simp only[qab];rw[qji (show inDs D cs=true from hv)];cases qan fz h l cs with
   |none=>rfl
   |some x=>rfl
  |_=>rfl
 |bx l=>
  cases v with
  |bp r j=>
   have hr:D r=true:=by simpa[inD]using hv
   cases j with
   |zero=>
    simp only[qab];rw[qb1 hr];cases h0:h r with
    |dead=>rfl
    |row _ _ _ _ _=>rfl
    |box cs=>
     simp only;rw[qjg (qcz hA cs (hc r cs (by simpa[inD]using hv') h0))];cases qav fz h l cs with
     |none=>rfl
     |some x=>simp only[Option.map_some,mapSk,qat hr]
   |succ j=>rfl
  |_=>rfl
def Out.mix(D:Nat->Bool)(g:Hp)(o:Out):Out:=⟨o.ts,Go.Proofs.YtcfpgocffglbhaaGreatDoorV.mix D o.h g,o.b,o.rows,o.boxes⟩
theorem qjh{A:Nat->Bool}(hA:∀r,A r=true->D r=true):∀{ps:List PD}{vs:List AV}{h:Hp},inDs A vs=true->Clo A h->qa9 fz (mix D h g) ps vs=(qa9 fz h ps vs).map (Out.mix D g)
|[],[],_,_,_=>rfl
|p::ps,v::vs,h,hv,hc=>by
 simp only[inDs,Bool.and_eq_true]at hv;rw[qf8,qf8,qjj hA hv.1 hc];cases h1:qab fz h p v with
 |none=>rfl
 |some x=>
  obtain⟨t,hh,b,rs,bx⟩:=x;simp only[Option.map_some,Option.bind_some,mapSk];rw[qjh hA hv.2 (hc.less λr cs e=>qgw h1 e)];cases qa9 fz hh ps vs with
  |none=>rfl
  |some o=>rfl
|[],_::_,_,_,_=>rfl
|p::_,[],_,_,_=>by cases p<;>rfl
theorem qjd{h0 g0:Hp}{p:PD}{v:AV}(hv:inD D v=true):qbq (mix D h0 g0) (mix D h g) p v=qbq h0 h p v:=by
 cases p with
 |ro c=>cases v with
  |rf r q w s=>simp only[qbq];rw[qb1 (by simpa[inD]using hv),qb1 (by simpa[inD]using hv)]
  |_=>rfl
 |_=>cases v<;>rfl
theorem qfn{h0 g0:Hp}:∀{ps:List PD}{vs:List AV},inDs D vs=true->qbw (mix D h0 g0) (mix D h g) ps vs=qbw h0 h ps vs
|[],_,_=>by simp only[qbw]
|_::_,[],_=>by simp only[qbw]
|p::ps,v::vs,hv=>by simp only[inDs,Bool.and_eq_true]at hv;simp only[qbw,qjd hv.1,qfn hv.2]
theorem qpb{A:Nat->Bool}(hA:∀r,A r=true->D r=true){h0 g0:Hp}{p:PD}{v:AV}(hv':inD A v=true)(hc:Clo A h0):qad (mix D h0 g0) (mix D h g) [p] [v]=qad h0 h [p] [v]:=by
 have hv:=qbe hA v hv';have flat:∀{p:PD},qbq (mix D h0 g0) (mix D h g) p v=qbq h0 h p v:=λ{p}=>qjd hv;cases p with
 |ag l=>cases v with
  |ag cs=>simp only[qad,qfn (show inDs D cs=true from hv)]
  |_=>simp only[qad,flat]
 |bx l=>cases v with
  |bp r j=>
   have hr:D r=true:=by simpa[inD]using hv
   simp only[qad,qb1 hr];cases h1:h0 r with
   |box cs=>simp only[qfn (qcz hA cs (hc r cs (by simpa[inD]using hv') h1))]
   |_=>rfl
  |_=>simp only[qad,flat]
 |v c=>simp only[qad,flat]
 |ro c=>simp only[qad,flat]
 |ow c=>simp only[qad,flat]
 |mv c=>simp only[qad,flat]
 |fn f=>simp only[qad,flat]
theorem ql4{A:Nat->Bool}(hA:∀r,A r=true->D r=true){h0 g0:Hp}:∀{ps:List PD}{vs:List AV},inDs A vs=true->Clo A h0->qad (mix D h0 g0) (mix D h g) ps vs=qad h0 h ps vs
|[],_,_,_=>by simp only[qad]
|p::_,[],_,_=>by cases p<;>simp only[qad]
|p::ps,v::vs,hv,hc=>by simp only[inDs,Bool.and_eq_true]at hv;rw[qfg,qfg (h0:=h0),qpb hA hv.1 hc,ql4 hA hv.2 hc]
theorem qnw{n k:Nat}{p:PD}{t:T}(hm:mvOk1 false p=true)(hn:D n=true):back1 (mix D h g) n k p t=((back1 h n k p t).1,mix D (back1 h n k p t).2 g):=by
 cases p with
 |ow c=>cases c with
  |sl m cs=>simp only[back1,qat hn]
  |_=>rfl
 |mv c=>cases hm
 |fn f=>rfl
 |ro c=>cases c<;>rfl
 |_=>rfl
theorem qg5{t:T}:∀{ps:List PD}{h:Hp}{n j:Nat},ps.all (mvOk1 false)=true->(∀r,n<=r->r<n+ps.length->D r=true)->backs (mix D h g) n false ps t j=((backs h n false ps t j).1,mix D (backs h n false ps t j).2 g)
|[],_,_,_,_,_=>rfl
|p::ps,h,n,j,hm,hn=>by rw[List.all_cons,Bool.and_eq_true]at hm;simp only[List.length_cons]at hn;simp only[backs];rw[qnw hm.1 (hn n (Nat.le_refl _) (by omega)),qg5 hm.2 (λr h1 h2=>hn r (by omega) (by omega))]
theorem quq{n:Nat}{p:PD}{t:T}(hm:mvOk false p=true)(hn:∀r,n<=r->r<n+wide p->D r=true):backR (mix D h g) n false p t=((backR h n false p t).1,mix D (backR h n false p t).2 g):=by
 have flat:∀{p:PD},mvOk1 false p=true->wide p=1->(∀r,n<=r->r<n+wide p->D r=true)->back1 (mix D h g) n 0 p t=((back1 h n 0 p t).1,mix D (back1 h n 0 p t).2 g):=λ{p} hm hw hn=>qnw hm (hn n (Nat.le_refl _) (by omega));cases p with
 |ag l=>simp only[backR];rw[qg5 hm hn]
 |bx l=>simp only[wide]at hn;simp only[backR];rw[qg5 (n:=n+1) hm (λr h1 h2=>hn r (by omega) (by omega))];simp only[qat (hn n (Nat.le_refl _) (by omega))]
 |v c=>exact flat (p:=.v c) hm rfl hn
 |ro c=>exact flat (p:=.ro c) hm rfl hn
 |ow c=>exact flat (p:=.ow c) hm rfl hn
 |mv c=>exact flat (p:=.mv c) hm rfl hn
 |fn f=>exact flat (p:=.fn f) hm rfl hn
theorem qhc{rr:List T}:∀{ps:List PD}{h:Hp}{n i:Nat},ps.all (mvOk false)=true->(∀r,n<=r->r<n+(ps.map wide).sum->D r=true)->qb8 (mix D h g) n false ps rr i=((qb8 h n false ps rr i).1,mix D (qb8 h n false ps rr i).2 g)
|[],_,_,_,_,_=>rfl
|p::ps,h,n,i,hm,hn=>by rw[List.all_cons,Bool.and_eq_true]at hm;simp only[List.map_cons,List.sum_cons]at hn;simp only[qb8];rw[quq hm.1 (λr h1 h2=>hn r h1 (by omega)),qhc hm.2 (λr h1 h2=>hn r (by omega) (by omega))]
theorem qc6{rr:List T}:∀{xs:List (Nat×Path×Blk)}{h:Hp}{i:Nat},(∀x∈xs,D x.1=true)->qbl (mix D h g) rr xs i=mix D (qbl h rr xs i) g
|[],_,_,_=>rfl
|(k,p,b)::xs,h,i,hx=>by
 have hk:D k=true:=hx _ (List.mem_cons_self ..);cases b with
 |row m cs c v e=>simp only[qbl];rw[qat hk,qc6 λx hm=>hx x (List.mem_cons_of_mem _ hm)]
 |dead=>exact qc6 (xs:=xs) λx hm=>hx x (List.mem_cons_of_mem _ hm)
 |box _=>exact qc6 (xs:=xs) λx hm=>hx x (List.mem_cons_of_mem _ hm)
theorem qdz{rr:List T}:∀{xs:List (Nat×List PD×List AV)}{h:Hp}{n i:Nat},(∀x∈xs,D x.1=true/\x.2.1.all (mvOk1 false)=true)->(∀r,n<=r->r<n+(xs.map λb=>b.2.1.length).sum->D r=true)->qbj (mix D h g) n rr xs i=mix D (qbj h n rr xs i) g
|[],_,_,_,_,_=>rfl
|(k,l,cs)::xs,h,n,i,hx,hn=>by have hk:=hx _ (List.mem_cons_self ..);simp only[List.map_cons,List.sum_cons]at hn;simp only[qbj];rw[qg5 hk.2 (λr h1 h2=>hn r h1 (by simp only at h2;omega))];simp only[qat hk.1];rw[qdz (λx hm=>hx x (List.mem_cons_of_mem _ hm)) (λr h1 h2=>hn r (by omega) (by omega))]
end
section
variable{D:Nat->Bool}{h g:Hp}{fz:Bool}
theorem qdo{n r:Nat}:isNew n r=true↔n<=r/\r<n+KN:=by unfold isNew;rw[Bool.and_eq_true];simp
theorem qi2{h':Hp}{p:PD}{v:AV}{t:T}{b:Bool}{rs:List (Nat×Path×Blk)}(hs:qa7 fz h p v=some (t,h',b,rs)):∀x∈rs,(∃c,p=.ow c)/\(inD D v=true->D x.1=true):=by
 have nl:∀{o:Option (T×Hp×Bool)},(match o with|some (t,h,b)=>(some (t,h,b,[]):Option (T×Hp×Bool×List (Nat×Path×Blk)))|none=>none)=some (t,h',b,rs)->rs=[]:=by
  intro o hs;cases o with
  |none=>cases hs
  |some x=>cases hs;rfl
 have rd:∀{o:Option (T×Bool)},(match o with|some (t,b)=>(some (t,h,b,[]):Option (T×Hp×Bool×List (Nat×Path×Blk)))|none=>none)=some (t,h',b,rs)->rs=[]:=by
  intro o hs;cases o with
  |none=>cases hs
  |some x=>cases hs;rfl
 cases p with
 |v c=>
  simp only[qa7]at hs;cases e:scal c v with
  |none=>rw[e]at hs;cases hs
  |some t'=>rw[e]at hs;cases hs;intro x hx;cases hx
 |ro c=>
  have:rs=[]:=by
   cases v with
   |rf r q w s=>cases fz with
    |true=>exact nl hs
    |false=>exact rd hs
   |_=>cases fz<;>exact rd hs
  subst this;intro x hx;cases hx
 |mv c=>have:=nl hs;subst this;intro x hx;cases hx
 |fn f=>obtain⟨_,_,_,_,rfl⟩:=qdu hs;intro x hx;cases hx
 |ow c=>
  cases v with
  |rf r q w s=>
   cases s with
   |none=>
    simp only[qa7]at hs;cases e:readT h c (.rf r q w none)with
    |none=>rw[e]at hs;cases hs
    |some y=>rw[e]at hs;cases hs;intro x hx;simp at hx;subst hx;exact⟨⟨c,rfl⟩,λhv=>by simpa[inD]using hv⟩
   |some _=>cases hs
  |_=>cases hs
 |ag l=>cases hs
 |bx l=>cases hs
theorem qi0:∀{ps:List PD}{vs:List AV}{h h':Hp}{ts:List T}{b:Bool}{rs:List (Nat×Path×Blk)},qan fz h ps vs=some (ts,h',b,rs)->∀x∈rs,pdOwn (.ag ps)=true/\(inDs D vs=true->D x.1=true)
|[],[],_,_,_,_,_,hs,x,hx=>by cases hs;cases hx
|p::ps,v::vs,h,h',ts,b,rs,hs,x,hx=>by
 simp only[qan]at hs;cases h1:qa7 fz h p v with
 |none=>rw[h1]at hs;cases hs
 |some y=>
  obtain⟨t,hh,b1,rs1⟩:=y;rw[h1]at hs;simp only at hs;cases h2:qan fz hh ps vs with
  |none=>rw[h2]at hs;cases hs
  |some z=>
   obtain⟨ts',h'',b2,rs2⟩:=z;rw[h2]at hs;cases hs;rcases List.mem_append.1 hx with hx|hx
   · obtain⟨⟨c,rfl⟩,k2⟩:=qi2 (D:=D) h1 x hx;exact⟨rfl,λhv=>by simp only[inDs,Bool.and_eq_true]at hv;exact k2 hv.1⟩
   · obtain⟨k1,k2⟩:=qi0 h2 x hx;refine⟨?_,λhv=>by simp only[inDs,Bool.and_eq_true]at hv;exact k2 hv.2⟩;simp only[pdOwn,List.any_cons,Bool.or_eq_true]at k1|-;exact .inr k1
|[],_::_,_,_,_,_,_,hs,_,_=>by cases hs
|_::_,[],_,_,_,_,_,hs,_,_=>by cases hs
theorem qop{h':Hp}{p:PD}{v:AV}{t:T}{b:Bool}{rs:List (Nat×Path×Blk)}{bx:List (Nat×List PD×List AV)}(hs:qab fz h p v=some (t,h',b,rs,bx)):(∀x∈rs,pdOwn p=true/\(inD D v=true->D x.1=true))/\(∀x∈bx,pdOwn p=true/\(inD D v=true->D x.1=true)/\x.2.1∈bxPs [p]):=by
 have flat:(match qa7 fz h p v with|some (t,h,b,rs)=>some (t,h,b,rs,([]:List (Nat×List PD×List AV)))|none=>none)=some (t,h',b,rs,bx)->(∀x∈rs,pdOwn p=true/\(inD D v=true->D x.1=true))/\(∀x∈bx,pdOwn p=true/\(inD D v=true->D x.1=true)/\x.2.1∈bxPs [p]):=by
  intro hs;cases h1:qa7 fz h p v with
  |none=>rw[h1]at hs;cases hs
  |some y=>obtain⟨t1,hh,b1,rs1⟩:=y;rw[h1]at hs;cases hs;refine⟨λx hx=>?_,λx hx=>(by cases hx)⟩;obtain⟨⟨c,rfl⟩,k2⟩:=qi2 (D:=D) h1 x hx;exact⟨rfl,k2⟩
 cases p with
 |v c=>exact flat hs
 |ro c=>exact flat hs
 |ow c=>exact flat hs
 |mv c=>exact flat hs
 |fn f=>exact flat hs
 |ag l=>
  cases v with
  |ag ds=>
   simp only[qab]at hs;cases h1:qan fz h l ds with
   |none=>rw[h1]at hs;cases hs
   |some y=>obtain⟨t1,hh,b1,rs1⟩:=y;rw[h1]at hs;cases hs;exact⟨λx hx=>qi0 h1 x hx,λx hx=>(by cases hx)⟩
  |_=>cases hs
 |bx l=>
  cases v with
  |bp r1 j=>
   cases j with
   |zero=>
    simp only[qab]at hs;cases h0:h r1 with
    |dead=>rw[h0]at hs;cases hs
    |row _ _ _ _ _=>rw[h0]at hs;cases hs
    |box ds=>
     rw[h0]at hs;simp only at hs;cases h1:qav fz h l ds with
     |none=>rw[h1]at hs;cases hs
     |some y=>obtain⟨t1,hh,b1⟩:=y;rw[h1]at hs;cases hs;refine⟨λx hx=>(by cases hx),λx hx=>?_⟩;simp at hx;subst hx;exact⟨rfl,λhv=>by simpa[inD]using hv,by simp[bxPs]⟩
   |succ j=>cases hs
  |_=>cases hs
theorem qeu:∀{ps:List PD}{vs:List AV}{h:Hp}{o:Out},qa9 fz h ps vs=some o->ownIn fz D ps vs=true->(∀x∈o.rows,D x.1=true)/\(∀x∈o.boxes,D x.1=true/\x.2.1∈bxPs ps)
|[],[],_,_,hs,_=>by cases hs;exact⟨λx hx=>(by cases hx),λx hx=>(by cases hx)⟩
|p::ps,v::vs,h,o,hs,hw=>by
 simp only[ownIn,Bool.and_eq_true]at hw;rw[qf8]at hs;cases h1:qab fz h p v with
 |none=>rw[h1]at hs;cases hs
 |some y=>
  obtain⟨t,hh,b,rs,bx⟩:=y;rw[h1]at hs;simp only[Option.bind_some]at hs;cases h2:qa9 fz hh ps vs with
  |none=>rw[h2]at hs;cases hs
  |some o'=>
   rw[h2]at hs;cases hs;obtain⟨a1,a2⟩:=qop (D:=D) h1;obtain⟨b1,b2⟩:=qeu h2 hw.2;have hin:pdOwn p=true->inD D v=true:=λe=>by have:=hw.1;rw[e]at this;simpa using this
   refine⟨λx hx=>?_,λx hx=>?_⟩
   ·rcases List.mem_append.1 hx with hx|hx
    · obtain⟨k1,k2⟩:=a1 x hx;exact k2 (hin k1)
    · exact b1 x hx
   ·rw[qok];rcases List.mem_append.1 hx with hx|hx
    · obtain⟨k1,k2,k3⟩:=a2 x hx;exact⟨k2 (hin k1),List.mem_append.2 (.inl k3)⟩
    · obtain⟨k1,k2⟩:=b2 x hx;exact⟨k1,List.mem_append.2 (.inr k2)⟩
|[],_::_,_,_,hs,_=>by cases hs
|p::_,[],_,_,hs,_=>by cases p<;>cases hs
theorem qqs{A:Nat->Bool}:∀{ps:List PD}{vs:List AV},inDs A vs=true->ownIn fz A ps vs=true
|[],_,_=>by simp only[ownIn]
|_::_,[],_=>by simp only[ownIn]
|p::ps,v::vs,h=>by simp only[inDs,Bool.and_eq_true]at h;simp only[ownIn,h.1,qqs h.2,Bool.or_true,Bool.and_self]
theorem qun{A:Nat->Bool}(hA:∀r,A r=true->D r=true){n f:Nat}{fi:Fi}(F:FiOk fi){args:List AV}(hv:inDs A args=true)(hc:Clo A h)(hn:∀r,n<=r->r<n+KN->D r=true):callS n (mix D h g) f fi args=(callS n h f fi args).map λh=>mix D h g:=by
 unfold callS;rw[qjh hA hv hc];cases ho:qa9 (fi.rs.any qar) h fi.ps args with
 |none=>rfl
 |some o=>
  obtain⟨hr,hb⟩:=qeu (D:=A) ho (qqs hv);simp only[Option.map_some,Out.mix];rw[ql4 hA hv hc];cases hg:(Nat.ble (needs fi.rs o.boxes) KN&&(fi.rs.any qar||qad h o.h fi.ps args))with
  |false=>rfl
  |true=>rw[Bool.and_eq_true]at hg;have hneed:(fi.rs.map wide).sum+(o.boxes.map λb=>b.2.1.length).sum<=KN:=Nat.le_of_ble_eq_true hg.1;simp only[cond_true,Stp.map];congr 2;funext r;rw[qhc F.rs (λr h1 h2=>hn r h1 (by omega))];simp only;rw[qc6 (λx hx=>hA _ (hr x hx)),qdz (λx hx=>⟨hA _ (hb x hx).1,(F.bx _ (hb x hx).2).1⟩) (λr h1 h2=>hn r (by omega) (by omega))]
theorem qmi:mix D h h=h:=by
 funext r;cases hr:D r with
 |true=>rw[qb1 hr]
 |false=>rw[qek hr]
def Ft(W:Nat->Bool)(h h':Hp):Prop:=∀r,W r=false->h' r=h r
theorem Ft.of{W:Nat->Bool}{h h':Hp}(e:h'=mix W h' h):Ft W h h':=λr hr=>by rw[e,qek hr]
theorem qi1:∀{ps:List PD}{vs:List AV}{h h':Hp}{ts:List T}{b:Bool}{rs:List (Nat×Path×Blk)},pdOwn (.ag ps)=false->qan false h ps vs=some (ts,h',b,rs)->h'=h
|[],[],_,_,_,_,_,_,hs=>by cases hs;rfl
|p::ps,v::vs,h,h',ts,b,rs,hp,hs=>by
 simp only[pdOwn,List.any_cons,Bool.or_eq_false_iff]at hp;simp only[qan]at hs;cases h1:qa7 false h p v with
 |none=>rw[h1]at hs;cases hs
 |some y=>
  obtain⟨t,hh,b1,rs1⟩:=y;rw[h1]at hs;simp only at hs;cases h2:qan false hh ps vs with
  |none=>rw[h2]at hs;cases hs
  |some z=>
   obtain⟨ts',h'',b2,rs2⟩:=z;rw[h2]at hs;cases hs;rw[qi1 (ps:=ps) hp.2 h2];cases p with
   |v c=>simp only[qa7]at h1;split at h1<;>cases h1;rfl
   |ro c=>
    have rd:∀{o:Option (T×Bool)},(match o with|some (t,b)=>(some (t,h,b,[]):Option (T×Hp×Bool×List (Nat×Path×Blk)))|none=>none)=some (t,hh,b1,rs1)->hh=h:=by
     intro o hs;cases o with
     |none=>cases hs
     |some x=>cases hs;rfl
    cases v<;>exact rd h1
   |ow c=>cases hp.1
   |mv c=>cases hp.1
   |fn f=>obtain⟨_,_,rfl,_,_⟩:=qdu h1;rfl
   |ag l=>cases h1
   |bx l=>cases h1
|[],_::_,_,_,_,_,_,_,hs=>by cases hs
|_::_,[],_,_,_,_,_,_,hs=>by cases hs
theorem qoq{W:Nat->Bool}{h':Hp}{p:PD}{v:AV}{t:T}{b:Bool}{rs:List (Nat×Path×Blk)}{bx:List (Nat×List PD×List AV)}(hs:qab fz h p v=some (t,h',b,rs,bx))(hw:(pdOwn p||fz)=true->inD W v=true)(hc:Clo W h):Ft W h h':=by
 cases ho:(pdOwn p||fz)with
 |true=>have:=qjj (D:=W) (g:=h) (fz:=fz) (p:=p) (λ_ h=>h) (hw ho) hc;rw[qmi,hs]at this;simp only[Option.map_some,mapSk,Option.some.injEq,Prod.mk.injEq]at this;exact Ft.of this.2.1
 |false=>
  rw[Bool.or_eq_false_iff]at ho;obtain⟨hp,rfl⟩:=ho;have rd:∀{o:Option (T×Bool)},(match(match o with|some (t,b)=>(some (t,h,b,[]):Option (T×Hp×Bool×List (Nat×Path×Blk)))|none=>none)with|some (t,h,b,rs)=>some (t,h,b,rs,([]:List (Nat×List PD×List AV)))|none=>none)=some (t,h',b,rs,bx)->h'=h:=by
   intro o hs;cases o with
   |none=>cases hs
   |some x=>cases hs;rfl
  have:h'=h:=by
   cases p with
   |v c=>
    simp only[qab,qa7]at hs;cases e:scal c v with
    |none=>rw[e]at hs;cases hs
    |some t'=>rw[e]at hs;cases hs;rfl
   |ro c=>cases v<;>exact rd hs
   |ow c=>cases hp
   |mv c=>cases hp
   |fn f=>
    simp only[qab]at hs;cases e:qa7 false h (.fn f) v with
    |none=>rw[e]at hs;cases hs
    |some x=>obtain⟨t1,h1,b1,rs1⟩:=x;rw[e]at hs;obtain⟨_,_,rfl,_,_⟩:=qdu e;cases hs;rfl
   |bx l=>cases hp
   |ag l=>
    cases v with
    |ag ds=>
     simp only[qab]at hs;cases h1:qan false h l ds with
     |none=>rw[h1]at hs;cases hs
     |some y=>obtain⟨t1,hh,b1,rs1⟩:=y;rw[h1]at hs;cases hs;exact qi1 hp h1
    |_=>cases hs
  subst this;exactλ_ _=>rfl
theorem qhz{W:Nat->Bool}:∀{ps:List PD}{vs:List AV}{h:Hp}{o:Out},qa9 fz h ps vs=some o->ownIn fz W ps vs=true->Clo W h->Ft W h o.h
|[],[],_,_,hs,_,_=>by cases hs;exactλ_ _=>rfl
|p::ps,v::vs,h,o,hs,hw,hc=>by
 simp only[ownIn,Bool.and_eq_true]at hw;rw[qf8]at hs;cases h1:qab fz h p v with
 |none=>rw[h1]at hs;cases hs
 |some y=>
  obtain⟨t,hh,b,rs,bx⟩:=y;rw[h1]at hs;simp only[Option.bind_some]at hs;cases h2:qa9 fz hh ps vs with
  |none=>rw[h2]at hs;cases hs
  |some o'=>rw[h2]at hs;cases hs;have f1:=qoq h1 (λe=>by have:=hw.1;rw[e]at this;simpa using this) hc;have f2:=qhz h2 hw.2 (hc.less λr cs e=>qgw h1 e);exactλr hr=>(f2 r hr).trans (f1 r hr)
|[],_::_,_,_,hs,_,_=>by cases hs
|p::_,[],_,_,hs,_,_=>by cases p<;>cases hs
theorem qsx{W:Nat->Bool}{n f:Nat}{fi:Fi}(F:FiOk fi){args:List AV}(hw:ownIn (fi.rs.any qar) W fi.ps args=true)(hc:Clo W h){b:Bool}{ts:List T}{kk:List T->AV×Hp}(hs:callS n h f fi args=.chk b (.call f ts kk))(r:List T):Ft (λx=>W x||isNew n x) h (kk r).2:=by
 unfold callS at hs;cases ho:qa9 (fi.rs.any qar) h fi.ps args with
 |none=>rw[ho]at hs;cases hs
 |some o=>
  rw[ho]at hs;simp only at hs;cases hg:(Nat.ble (needs fi.rs o.boxes) KN&&(fi.rs.any qar||qad h o.h fi.ps args))with
  |false=>rw[hg]at hs;cases hs
  |true=>
   rw[hg,cond_true]at hs;cases hs;rw[Bool.and_eq_true]at hg;have hneed:(fi.rs.map wide).sum+(o.boxes.map λb=>b.2.1.length).sum<=KN:=Nat.le_of_ble_eq_true hg.1;obtain⟨hrw,hbx⟩:=qeu (D:=W) ho hw;have f1:=qhz ho hw hc;have hnew:∀r,n<=r->r<n+KN->(W r||isNew n r)=true:=λr h1 h2=>by rw[qdo.2 ⟨h1,h2⟩,Bool.or_true]
   have hwin:∀r,W r=true->(W r||isNew n r)=true:=λr h=>by rw[h,Bool.true_or]
   have e1:=qhc (D:=λx=>W x||isNew n x) (h:=o.h) (g:=o.h) (rr:=r) (n:=n) (i:=0) F.rs (λr h1 h2=>hnew r h1 (by omega));rw[qmi]at e1;have e1':(qb8 o.h n false fi.rs r 0).2=mix (λx=>W x||isNew n x) (qb8 o.h n false fi.rs r 0).2 o.h:=(congrArg Prod.snd e1);have e2:=qc6 (D:=λx=>W x||isNew n x) (h:=(qb8 o.h n false fi.rs r 0).2) (g:=o.h) (rr:=r) (xs:=o.rows) (i:=fi.rs.length) (λx hx=>hwin _ (hrw x hx));rw[<-e1']at e2;have e3:=qdz (D:=λx=>W x||isNew n x) (h:=qbl (qb8 o.h n false fi.rs r 0).2 r o.rows fi.rs.length) (g:=o.h) (rr:=r) (xs:=o.boxes) (n:=n+(fi.rs.map wide).sum) (i:=fi.rs.length+o.rows.length) (λx hx=>⟨hwin _ (hbx x hx).1,(F.bx _ (hbx x hx).2).1⟩) (λr h1 h2=>hnew r (by omega) (by omega));rw[<-e2]at e3;have f2:=Ft.of e3;refineλx hx=>(f2 x hx).trans (f1 x ?_);rw[Bool.or_eq_false_iff]at hx;exact hx.1
end
section
variable{E:Env}{h g:Hp}{s s':Nat->AV}{n:Nat}
theorem qu8{x:Operand}(hx:∀t,x=.tmp t->s t=s' t)(c:Option CT):opd s c x=opd s' c x:=by
 cases x with
 |tmp t=>exact hx t rfl
 |_=>rfl
theorem qea{fs:List (Nat×Nat)}:∀{ps:List (Nat×Operand)}{zs:List AV},(∀p∈ps,∀c,opd s c p.2=opd s' c p.2)->qbf fs E s zs ps=qbf fs E s' zs ps
|[],_,_=>rfl
|(i,x)::ps,zs,hp=>by
 simp only[qbf];cases fs[i]? with
 |none=>rfl
 |some ot=>
  obtain⟨off,t⟩:=ot;simp only;cases E.ty t with
  |none=>rfl
  |some ti=>simp only;rw[hp (i,x) (List.mem_cons_self ..) (E.ct t),qea λp hm=>hp p (List.mem_cons_of_mem _ hm)]
theorem qht{α β:Type}{f f':Nat->α->β}:∀{l:List α},(∀x∈l,∀i,f i x=f' i x)->l.mapIdx f=l.mapIdx f'
|[],_=>rfl
|x::l,hl=>by rw[List.mapIdx_cons,List.mapIdx_cons,hl x (List.mem_cons_self ..) 0];congr 1;exact qht λy hy i=>hl y (List.mem_cons_of_mem _ hy) (i+1)
theorem qu9{o:Oper}(hs:∀x∈o.op.operands.toList,∀c,opd s c x=opd s' c x):opS E n o s h=opS E n o s' h:=by
 obtain⟨dst,op,type,pos,after,guard⟩:=o;simp only at hs;cases op with
 |move x=>simp only[opS,hs x (by simp[Op.operands])]
 |assign x=>simp only[opS,hs x (by simp[Op.operands])]
 |pick c a b=>simp only[opS,hs c (by simp[Op.operands]),hs a (by simp[Op.operands]),hs b (by simp[Op.operands])]
 |alloc t=>rfl
 |box t x=>simp only[opS,hs x (by simp[Op.operands])]
 |build t ps=>
  simp only[opS];have hp:∀p∈ps.toList,∀c,opd s c p.2=opd s' c p.2:=λp hm c=>hs p.2 (by simp only[Op.operands];exact List.mem_map.2 ⟨p,hm,rfl⟩) c;split
  ·split;· rw[qea hp]
   · rfl
  · rfl
 |buildSlice t k ps=>
  simp only[opS];have hp:∀p∈ps.toList,∀c,opd s c p.2=opd s' c p.2:=λp hm c=>hs p.2 (by simp only[Op.operands];exact List.mem_map.2 ⟨p,hm,rfl⟩) c;split
  ·rename_i m cs e _;have e1:(ps.toList.all λp=>Nat.blt p.1 k&&Nat.beq (qai (opd s (E.ct e) p.2)).length cs.length&&(qai (opd s (E.ct e) p.2)).all isC)=(ps.toList.all λp=>Nat.blt p.1 k&&Nat.beq (qai (opd s' (E.ct e) p.2)).length cs.length&&(qai (opd s' (E.ct e) p.2)).all isC):=by rw[Bool.eq_iff_iff,List.all_eq_true,List.all_eq_true];exact forall_congr' λp=>forall_congr' λhm=>by rw[hp p hm]
   have e2:(ps.toList.map λp=>(p.1,opd s (E.ct e) p.2))=ps.toList.map λp=>(p.1,opd s' (E.ct e) p.2):=List.map_congr_left λp hm=>by rw[hp p hm]
   rw[e1,e2]
  · rfl
 |load t a=>simp only[opS,hs a (by simp[Op.operands])]
 |store t a x=>simp only[opS,hs a (by simp[Op.operands]),hs x (by simp[Op.operands])]
 |nilCheck x=>simp only[opS,hs x (by simp[Op.operands])]
 |binOp op t x y t'=>simp only[opS,hs x (by simp[Op.operands]),hs y (by simp[Op.operands])]
 |unOp op t x=>simp only[opS,hs x (by simp[Op.operands])]
 |convert a b x=>simp only[opS,hs x (by simp[Op.operands])]
 |makeFunc fn first cap=>simp only[opS];have e1:(cap.toList.map λx=>opd s none x)=cap.toList.map λx=>opd s' none x:=List.map_congr_left λx hm=>hs x (by simp only[Op.operands,Array.toList_append];exact List.mem_append.2 (.inr hm)) none;rw[e1]
 |makeSlice t l c=>simp only[opS,hs l (by simp[Op.operands]),hs c (by simp[Op.operands])]
 |slice t x lo hi mx=>
  have hx:=hs x (by simp[Op.operands]);have hlo:(lo.map λy=>opd s none y)=lo.map λy=>opd s' none y:=by
   cases lo with
   |none=>rfl
   |some y=>simp only[Option.map_some,hs y (by simp[Op.operands])]
  have hhi:(hi.map λy=>opd s none y)=hi.map λy=>opd s' none y:=by
   cases hi with
   |none=>rfl
   |some y=>simp only[Option.map_some,hs y (by simp[Op.operands])]
  cases mx with
  |none=>simp only[opS,hx,hlo,hhi]
  |some _=>rfl
 |fieldAddr t x f=>simp only[opS,hs x (by simp[Op.operands])]
 |field t x f=>simp only[opS,hs x (by simp[Op.operands])]
 |indexAddr t x i=>simp only[opS,hs x (by simp[Op.operands]),hs i (by simp[Op.operands])]
 |index t x i=>simp only[opS,hs x (by simp[Op.operands]),hs i (by simp[Op.operands])]
 |extract x i=>simp only[opS,hs x (by simp[Op.operands])]
 |call c=>
  have e1:(c.args.toList.mapIdx λj x=>opd s ((c.argTypes[j]?).bind E.ct) x)=c.args.toList.mapIdx λj x=>opd s' ((c.argTypes[j]?).bind E.ct) x:=qht λx hm j=>hs x (by simp only[Op.operands,Call.operands,Array.toList_append];exact List.mem_append.2 (.inr hm)) _;cases hcal:c.callee with
  |builtin b=>simp only[opS,hcal,e1]
  |value f=>have hf:=hs f (by simp only[Op.operands,Call.operands,hcal,Array.toList_append];exact List.mem_append.2 (.inl (by simp))) none;simp only[opS,hcal,e1,hf]
  |invoke r m=>simp only[opS,hcal]
 |_=>rfl
end
def Stp.out(C:Orc):Stp->Option (AV×Hp)
|.ret v h=>some (v,h)
|.chk b s=>bif b then s.out C else none
|.call f ts k=>(C f ts).map k
|_=>none
section
variable{E:Env}{h g:Hp}{s:Nat->AV}{n:Nat}{D A W:Nat->Bool}{C:Orc}
theorem qbo{x:Operand}(hx:inDo D s x=true)(c:Option CT):inD D (opd s c x)=true:=by
 cases x with
 |tmp t=>exact hx
 |const v=>simp only[opd];unfold qmv;split<;>first|rfl|(split<;>rfl)
 |global g=>rfl
 |func f=>rfl
theorem qv6{vs:List AV}(h:∀v∈vs,inD D v=true):inDs D vs=true:=by
 induction vs with
 |nil=>rfl
 |cons v vs ih=>simp only[inDs,h v (List.mem_cons_self ..),ih λx hx=>h x (List.mem_cons_of_mem _ hx),Bool.and_self]
theorem ql6{α β:Type}{f:Nat->α->β}:∀{l:List α}{y:β},y∈l.mapIdx f->∃x∈l,∃i,y=f i x
|[],y,h=>by simp at h
|x::l,y,h=>by
 rw[List.mapIdx_cons]at h;rcases List.mem_cons.1 h with rfl|h
 · exact⟨x,List.mem_cons_self ..,0,rfl⟩
 · obtain⟨x',h1,i,h2⟩:=ql6 h;exact⟨x',List.mem_cons_of_mem _ h1,i+1,h2⟩
theorem qmj{o:BinOp}{x y:AV}:binS (mix D h g) o x y=(binS h o x y).map λh=>mix D h g:=by
 unfold binS;split
 ·split;· rfl
  · rfl
  ·split;· split<;>first|rfl|(split<;>rfl)
   · rfl
 ·split;· rfl
  · split<;>rfl
 · split<;>rfl
 · split<;>rfl
 · rfl
theorem mix_unS{o:UnOp}{x:AV}:unS (mix D h g) o x=(unS h o x).map λh=>mix D h g:=by unfold unS;split<;>rfl
theorem qup{c:Bool}{x y:Stp}{f:Hp->Hp}(h:x=y.map f):(bif c then x else Stp.fail)=(bif c then y else Stp.fail).map f:=by
 cases c with
 |true=>exact h
 |false=>rfl
theorem quj(HF:∀f fi,E.fi f=some fi->fi.inl=false->FiOk fi)(hA:∀r,A r=true->D r=true)(hn:∀r,n<=r->r<n+KN->D r=true){o:Oper}(hi:opIn A o.op s=true)(hc:isCl o.op=true->Clo A h):opS E n o s (mix D h g)=(opS E n o s h).map λh=>mix D h g:=by
 have hn0:D n=true:=hn n (Nat.le_refl _) (by unfold KN;omega);obtain⟨dst,op,type,pos,after,guard⟩:=o;simp only at hi hc;cases op with
 |move x=>rfl
 |assign x=>rfl
 |pick c a b=>
  simp only[opS];split;· rename_i x _;cases x<;>rfl
  · rfl
 |alloc t=>
  simp only[opS];cases E.ty t with
  |none=>rfl
  |some ti=>
   simp only;cases mapO qeb ti.cs with
   |none=>rfl
   |some vs=>simp only[Stp.map,qat hn0]
 |box t x=>
  simp only[opS];cases E.ty t with
  |none=>rfl
  |some ti=>
   simp only;cases(Nat.beq (qai (opd s (E.ct t) x)).length ti.cs.length&&(qai (opd s (E.ct t) x)).all isC)with
   |true=>simp only[cond_true,Stp.map,qat hn0]
   |false=>rfl
 |build t ps=>
  simp only[opS];split
  ·split;· split<;>rfl
   · rfl
  · rfl
 |buildSlice t k ps=>
  simp only[opS];simp only[opIn]at hi;rw[List.all_eq_true]at hi;split
  ·rename_i m cs e _;cases imm cs with
   |none=>rfl
   |some zs=>
    simp only;cases elem m zs with
    |none=>rfl
    |some z=>
     simp only;cases(Nat.ble (k*cs.length) 16777216&&distinct (ps.toList.map λp=>p.1)&&(ps.toList.all λp=>Nat.blt p.1 k&&Nat.beq (qai (opd s (E.ct e) p.2)).length cs.length&&(qai (opd s (E.ct e) p.2)).all isC))with
     |false=>rfl
     |true=>
      simp only[cond_true];rw[ql5 (λp hm=>by obtain⟨q,hq,rfl⟩:=List.mem_map.1 hm;exact qbe hA _ (qbo (hi q hq) _))];cases qau h m cs z k (ps.toList.map λp=>(p.1,opd s (E.ct e) p.2))with
      |none=>rfl
      |some x=>obtain⟨ts,h1,b⟩:=x;simp only[Option.map_some,mapSk,Stp.map,qat hn0]
  · rfl
 |load t a=>
  simp only[opS];cases E.ty t with
  |none=>rfl
  |some ti=>simp only;rw[quk (qbe hA _ (qbo hi none)),qsk (qbe hA _ (qbo hi none))];cases loadV ti h (opd s none a)<;>rfl
 |store t a x=>
  simp only[opS];simp only[opIn,Bool.and_eq_true]at hi;cases E.ty t with
  |none=>rfl
  |some ti=>
   simp only;rw[qsi (qbe hA _ (qbo hi.1 none)) (by
    cases e:opd s none a with
    |bp r j=>exact .inl ⟨r,j,rfl⟩
    |_=>right;have:=hi.2;rw[e]at this;exact qbe hA _ (qbo this _))]
   cases qfb ti h (opd s none a) (opd s (E.ct t) x)with
   |none=>rfl
   |some y=>obtain⟨h1,b⟩:=y;rfl
 |nilCheck x=>simp only[opS];rw[qnv (qbe hA _ (qbo hi none))];cases liveP h (opd s none x)<;>rfl
 |binOp op t x y t'=>
  simp only[opS];split
  ·split;· exact qup qmj
   · rfl
  ·split;· exact qmj
   · rfl
  · exact qmj
 |unOp op t x=>simp only[opS];exact mix_unS
 |convert a b x=>
  simp only[opS];have hx:=qbe hA _ (qbo (c:=none) hi);split;· rfl
  · rfl
  · rw[qd6 hx];split<;>rfl
  · simp only[Stp.map,qat hn0]
  · rfl
 |makeFunc fn first cap=>
  simp only[opS];split;· cases(cap.toList.map λx=>opd s none x).all isC<;>rfl
  · rfl
 |makeSlice t l c=>
  simp only[opS];split
  ·rename_i m cs _ _ _ _ _ _ _;cases imm cs with
   |none=>rfl
   |some zs=>
    simp only;cases elem m zs with
    |none=>rfl
    |some z=>simp only[Stp.map,qat hn0]
  · rfl
 |slice t x lo hi' mx=>
  cases mx with
  |none=>
   simp only[opS];cases E.ct t with
   |none=>rfl
   |some c=>exact qsj (qbe hA _ (qbo hi _))
  |some _=>rfl
 |fieldAddr t x f=>
  simp only[opS];rw[qnv (qbe hA _ (qbo hi none))];split
  ·split
   ·split
    ·cases liveP h (opd s none x)with
     |false=>rfl
     |true=>simp only[Bool.not_true,cond_false];split<;>rfl
    · rfl
   · rfl
  · rfl
 |field t x f=>
  simp only[opS];split
  ·split
   ·split;· exact qup (by split<;>rfl)
    · rfl
   · rfl
  · rfl
 |indexAddr t x i=>
  simp only[opS];split;· exact qxj (qbe hA _ (qbo hi _))
  · rfl
 |index t x i=>simp only[opS];split<;>rfl
 |extract x i=>
  simp only[opS];split;· split<;>rfl
  · rfl
 |call c=>
  simp only[opIn,Bool.and_eq_true]at hi;have hall:∀x∈c.args.toList,inDo A s x=true:=List.all_eq_true.1 hi.1;have hargs:inDs A (c.args.toList.mapIdx λj x=>opd s ((c.argTypes[j]?).bind E.ct) x)=true:=qv6 λv hv=>by obtain⟨x,hx,i,rfl⟩:=ql6 hv;exact qbo (hall x hx) _
  cases hcal:c.callee with
  |builtin b=>
   simp only[opS,hcal];generalize(c.args.toList.mapIdx λj x=>opd s ((c.argTypes[j]?).bind E.ct) x)=args at hargs;have hargs:=qcz hA _ hargs;split
   ·rename_i x;simp only[inDs,Bool.and_true]at hargs;split;· split<;>rfl
    · rw[qmh hargs];split<;>rfl
    · rfl
   · rfl
   · rfl
   · split<;>rfl
   ·split;· exact qxk hn0
    · rfl
   ·rename_i d x;simp only[inDs,Bool.and_true,Bool.and_eq_true]at hargs;split;· exact qxl hn0 hargs.1 hargs.2
    · rfl
   ·rename_i d x;simp only[inDs,Bool.and_true,Bool.and_eq_true]at hargs;split;· exact qum hargs.1 hargs.2
    · rfl
   ·rename_i d;simp only[inDs,Bool.and_true]at hargs;split;· exact qsl hargs
    · rfl
   · rfl
  |value f=>
   simp only[opS,hcal];cases hf:opd s none f with
   |fn fid caps=>
    simp only;cases hfi:E.fi fid with
    |none=>rfl
    |some fi=>
     simp only;cases hin:fi.inl with
     |true=>rfl
     |false=>
      simp only;have hcaps:inDs A caps=true:=by have:=qbo (c:=none) (show inDo A s f=true by have:=hi.2;rw[hcal]at this;exact this);rw[hf]at this;exact this
      refine qun hA (HF fid fi hfi hin) (qv6 λv hv=>?_) (hc (by simp[isCl,hcal])) hn;rcases List.mem_append.1 hv with hv|hv
      · exact qra hargs v hv
      · exact qra hcaps v hv
   |_=>rfl
  |invoke r m=>simp only[opS,hcal];rfl
 |_=>rfl
theorem qp7{f:Hp->Hp}:∀(x:Stp),(x.map f).out C=(x.out C).map λy=>(y.1,f y.2)
|.fail=>rfl
|.ret v h=>rfl
|.chk b x=>by
 cases b with
 |true=>exact qp7 x
 |false=>rfl
|.call g ts k=>by simp only[Stp.map,Stp.out];cases C g ts<;>rfl
|.inl g args=>rfl
end
def Stp.keeps(h:Hp):Stp->Prop
|.fail=>True
|.ret _ h'=>h'=h
|.chk _ s=>s.keeps h
|_=>False
section
variable{E:Env}{h g:Hp}{s:Nat->AV}{n:Nat}{D A W:Nat->Bool}{C:Orc}
theorem qcw{c:Bool}{x:Stp}(hx:x.keeps h):(bif c then x else Stp.fail).keeps h:=by
 cases c with
 |true=>exact hx
 |false=>trivial
theorem qnz:∀{x:Stp},x.keeps h->∀{v:AV}{h':Hp},x.out C=some (v,h')->h'=h
|.fail,_,_,_,ho=>by cases ho
|.ret v h1,H,_,_,ho=>by cases ho;exact H
|.chk b x,H,_,_,ho=>by
 cases b with
 |true=>exact qnz (x:=x) H ho
 |false=>cases ho
|.call _ _ _,H,_,_,_=>H.elim
|.inl _ _,H,_,_,_=>H.elim
theorem qne{c:CT}{x:AV}{lo hi:Option AV}:(qd3 h c x lo hi).keeps h:=by
 unfold qd3;split;· refine qcw ?_;split<;>first|rfl|trivial
 ·split;· refine qcw ?_;split<;>first|rfl|trivial
  · trivial
 ·refine qcw ?_;split;· rfl
  · split<;>first|rfl|trivial
  · split<;>first|rfl|trivial
  · split<;>first|rfl|trivial
 · refine qcw ?_;split<;>first|rfl|trivial
 · trivial
theorem qsq{c:CT}{x i:AV}:(idxS h c x i).keeps h:=by
 unfold idxS;split
 ·split;· exact qcw rfl
  ·split;· exact qcw rfl
   · trivial
  · trivial
 · trivial
theorem qay(HF:∀f fi,E.fi f=some fi->fi.inl=false->FiOk fi){o:Oper}(hi:opIn W o.op s=true)(hc:isCl o.op=true->Clo W h){v:AV}{h':Hp}(ho:(opS E n o s h).out C=some (v,h')):Ft (λr=>W r||isNew n r) h h':=by have e:=quj (E:=E) (D:=λr=>W r||isNew n r) (A:=W) (h:=h) (g:=h) (s:=s) (n:=n) (o:=o) HF (λr hr=>by rw[hr,Bool.true_or]) (λr h1 h2=>by rw[qdo.2 ⟨h1,h2⟩,Bool.or_true]) hi hc;rw[qmi]at e;have e2:=congrArg (Stp.out C) e;rw[qp7,ho]at e2;simp only[Option.map_some,Option.some.injEq,Prod.mk.injEq]at e2;exact Ft.of e2.2
theorem qcj{o:Oper}(hk:(opS E n o s h).keeps h){v:AV}{h':Hp}(ho:(opS E n o s h).out C=some (v,h')):Ft (λr=>W r||isNew n r) h h':=by rw[qnz hk ho];exactλ_ _=>rfl
theorem qqw(HF:∀f fi,E.fi f=some fi->fi.inl=false->FiOk fi){o:Oper}(hw:opWr E W o.op s=true)(hc:isCl o.op=true->Clo W h){v:AV}{h':Hp}(ho:(opS E n o s h).out C=some (v,h')):Ft (λr=>W r||isNew n r) h h':=by
 obtain⟨dst,op,type,pos,after,guard⟩:=o;simp only at hw hc;cases op with
 |store t a x=>exact qay HF (W:=W) (s:=s) (show opIn W (.store t a x) s=true from hw) (λe=>by cases e) ho
 |buildSlice t k ps=>exact qay HF (W:=W) (s:=s) (show opIn W (.buildSlice t k ps) s=true from hw) (λe=>by cases e) ho
 |load t a=>
  refine qcj ?_ ho;simp only[opS];split;· split<;>first|rfl|trivial
  · trivial
 |nilCheck x=>exact qcj (by simp only[opS];exact qcw rfl) ho
 |slice t x lo hi mx=>
  cases mx with
  |none=>
   refine qcj ?_ ho;simp only[opS];split;· exact qne
   · trivial
  |some _=>cases ho
 |indexAddr t x i=>
  refine qcj ?_ ho;simp only[opS];split;· exact qsq
  · trivial
 |fieldAddr t x f=>
  refine qcj ?_ ho;simp only[opS];split
  ·split
   ·split
    ·cases liveP h (opd s none x)with
     |false=>trivial
     |true=>simp only[Bool.not_true,cond_false];split<;>first|rfl|trivial
    · trivial
   · trivial
  · trivial
 |convert a b x=>
  simp only[opS]at ho;split at ho;· cases ho;exactλ_ _=>rfl
  · cases ho;exactλ_ _=>rfl
  ·split at ho;· cases ho;exactλ_ _=>rfl
   · cases ho
  ·simp only[Stp.out]at ho;rename_i sx _ _ _;cases hz:decide (sx.size<=LIM)with
   |true=>rw[hz]at ho;cases ho;intro r hr;rw[Bool.or_eq_false_iff]at hr;refine upd_ne _ _ λe=>?_;subst e;have:isNew r r=true:=qdo.2 ⟨Nat.le_refl _,by unfold KN;omega⟩;rw[this]at hr;cases hr.2
   |false=>rw[hz]at ho;cases ho
  · cases ho
 |call c=>
  simp only[opWr]at hw;cases hcal:c.callee with
  |builtin b=>
   rw[hcal]at hw;by_cases hb:b=.append\/b=.copy\/b=.clear;· refine qay HF ?_ (λe=>by simp[isCl,hcal]at e) ho;simp only[opIn,hcal,Bool.and_true];rcases hb with rfl|rfl|rfl<;>exact hw
   ·refine qcj ?_ ho;simp only[opS,hcal];split
    ·split;· split<;>first|rfl|trivial
     · split<;>first|rfl|trivial
     · trivial
    · rfl
    · rfl
    · split<;>first|rfl|trivial
    · exact absurd (.inl rfl) hb
    · exact absurd (.inl rfl) hb
    · exact absurd (.inr (.inl rfl)) hb
    · exact absurd (.inr (.inr rfl)) hb
    · trivial
  |value f=>
   rw[hcal]at hw;simp only at hw;simp only[opS,hcal]at ho;cases hf:opd s none f with
   |fn fid caps=>
    rw[hf]at ho hw;simp only at ho hw;cases hfi:E.fi fid with
    |none=>rw[hfi]at ho;cases ho
    |some fi=>
     rw[hfi]at ho hw;simp only[Bool.and_eq_true]at ho hw;cases hin:fi.inl with
     |true=>rw[hin]at ho;cases ho
     |false=>
      rw[hin]at ho;simp only at ho;have hform:callS n h fid fi (c.args.toList.mapIdx (λj x=>opd s ((c.argTypes[j]?).bind E.ct) x)++caps)=.fail\/∃b ts kk,callS n h fid fi (c.args.toList.mapIdx (λj x=>opd s ((c.argTypes[j]?).bind E.ct) x)++caps)=.chk b (.call fid ts kk):=by
       unfold callS;split
       ·cases(Nat.ble (needs fi.rs _) KN&&(fi.rs.any qar||qad h _ fi.ps _))with
        |false=>exact .inl rfl
        |true=>exact .inr ⟨_,_,_,rfl⟩
       · exact .inl rfl
      rcases hform with e|⟨b,ts,kk,e⟩
      · rw[e]at ho;cases ho
      ·rw[e]at ho;cases b with
       |false=>cases ho
       |true=>
        simp only[Stp.out,cond_true]at ho;cases hcr:C fid ts with
        |none=>rw[hcr]at ho;cases ho
        |some r=>rw[hcr]at ho;simp only[Option.map_some,Option.some.injEq]at ho;have:=qsx (HF fid fi hfi hin) hw.2 (hc (by simp[isCl,hcal])) e r;rw[ho]at this;exact this
   |_=>rw[hf]at ho;cases ho
  |invoke r m=>simp only[opS,hcal]at ho;cases ho
 |move x=>exact qay HF rfl (λe=>by cases e) ho
 |assign x=>exact qay HF rfl (λe=>by cases e) ho
 |pick c a b=>exact qay HF rfl (λe=>by cases e) ho
 |alloc t=>exact qay HF rfl (λe=>by cases e) ho
 |box t x=>exact qay HF rfl (λe=>by cases e) ho
 |build t ps=>exact qay HF rfl (λe=>by cases e) ho
 |binOp op t x y t'=>exact qay HF rfl (λe=>by cases e) ho
 |unOp op t x=>exact qay HF rfl (λe=>by cases e) ho
 |makeFunc fn first cap=>exact qay HF rfl (λe=>by cases e) ho
 |makeSlice t l c=>exact qay HF rfl (λe=>by cases e) ho
 |field t x f=>exact qay HF rfl (λe=>by cases e) ho
 |index t x i=>exact qay HF rfl (λe=>by cases e) ho
 |extract x i=>exact qay HF rfl (λe=>by cases e) ho
 |_=>cases ho
end
section
variable{E:Env}{C:Orc}{I:(α:Type)->InlK α}{α:Type}
theorem qqk{I:InlK α}{st:St}{d:Option Nat}{k:St->Option α}{x:α}:∀(s:Stp),s.noInl=true->s.runK C I st d k=some x->∃v h',s.out C=some (v,h')/\k ⟨updO st.s d v,h',st.n⟩=some x
|.fail,_,h=>by cases h
|.ret v h',_,h=>⟨v,h',rfl,h⟩
|.chk b s,hn,h=>by
 cases b with
 |true=>exact qqk s hn h
 |false=>cases h
|.call f ts kk,_,h=>by
 simp only[Stp.runK]at h;cases hc:C f ts with
 |none=>rw[hc]at h;cases h
 |some r=>rw[hc,Option.bind_some]at h;exact⟨_,_,by simp only[Stp.out,hc,Option.map_some],h⟩
|.inl _ _,hn,_=>by cases hn
theorem qqt{I:InlK α}{st:St}{d:Option Nat}{k:St->Option α}{v:AV}{h':Hp}:∀(s:Stp),s.out C=some (v,h')->s.runK C I st d k=k ⟨updO st.s d v,h',st.n⟩
|.fail,h=>by cases h
|.ret _ _,h=>by cases h;rfl
|.chk b s,h=>by
 cases b with
 |true=>exact qqt s h
 |false=>cases h
|.call f ts kk,h=>by
 simp only[Stp.out]at h;simp only[Stp.runK];cases hc:C f ts with
 |none=>rw[hc]at h;cases h
 |some r=>rw[hc]at h;simp only[Option.map_some,Option.some.injEq]at h;simp only[Option.bind_some,h]
|.inl _ _,h=>by cases h
def qs4(E:Env)(C:Orc)(n0:Nat)(L:List Oper)(j:Nat)(s1:St)(ev:Option (AV×Hp))(s2:St):Prop:=
 ∃o,L[j]? =some o/\match ev with
 |none=>wantV L o s1.s=some false/\s2=s1.put o.dst .un
 |some (v,h')=>wantV L o s1.s=some true/\(opS E (n0+KN*j) o s1.s s1.h).out C=some (v,h')/\s2=⟨updO s1.s o.dst v,h',s1.n⟩
def recAt(E:Env)(L:List Oper)(σ:Nat->St)(j:Nat):Rec:=match L[j]? with|some o=>recOf E j o.op (σ j).s (σ j).h|none=>⟨j,[],[],false⟩
def qcq(E:Env)(L:List Oper)(σ:Nat->St)(ev:Nat->Option (AV×Hp)):Nat->Nat->List Rec
|_,0=>[]
|i,k+1=>match ev i with|some _=>recAt E L σ i::qcq E L σ ev (i+1) k|none=>qcq E L σ ev (i+1) k
theorem qhs{L:List Oper}{σ σ':Nat->St}{ev ev':Nat->Option (AV×Hp)}:∀{k i:Nat},(∀j,i<=j->σ j=σ' j/\ev j=ev' j)->qcq E L σ ev i k=qcq E L σ' ev' i k
|0,_,_=>rfl
|k+1,i,h=>by have h1:=h i (Nat.le_refl _);simp only[qcq,h1.2,recAt,h1.1,qhs (k:=k) (i:=i+1) λj hj=>h j (by omega)]
theorem qkx{L:List Oper}{n0:Nat}{kx:St->Option α}{x:α}:∀(k i:Nat)(rs:List Rec)(st:St),regK C (I α) E n0 L true (List.range' i k) rs st kx=some x->∃(σ:Nat->St)(ev:Nat->Option (AV×Hp)),σ i=st/\(∀j,i<=j->j<i+k->qs4 E C n0 L j (σ j) (ev j) (σ (j+1)))/\kx (σ (i+k))=some x/\statR L (befB L []) L 0=true/\qhu n0 (befB L []) (rs++qcq E L σ ev i k)=true
|0,i,rs,st,h=>by
 have h:regK C (I α) E n0 L true [] rs st kx=some x:=h;simp only[regK,Bool.not_true,Bool.false_or]at h;cases hb:(statR L (befB L []) L 0&&qhu n0 (befB L []) rs)with
 |false=>rw[hb]at h;cases h
 |true=>rw[hb,cond_true]at h;rw[Bool.and_eq_true]at hb;exact⟨λ_=>st,λ_=>none,rfl,λj h1 h2=>by omega,h,hb.1,by simpa[qcq]using hb.2⟩
|k+1,i,rs,st,h=>by
 rw[show List.range' i (k+1)=i::List.range' (i+1) k from List.range'_succ ..]at h;simp only[regK]at h;cases ho:L[i]? with
 |none=>rw[ho]at h;cases h
 |some o=>
  rw[ho]at h;simp only[qdh]at h;have fin:∀(e:Option (AV×Hp))(st':St)(rs':List Rec),qs4 E C n0 L i st e st'->(rs'=match e with|some _=>rs++[recOf E i o.op st.s st.h]|none=>rs)->regK C (I α) E n0 L true (List.range' (i+1) k) rs' st' kx=some x->∃(σ:Nat->St)(ev:Nat->Option (AV×Hp)),σ i=st/\(∀j,i<=j->j<i+(k+1)->qs4 E C n0 L j (σ j) (ev j) (σ (j+1)))/\kx (σ (i+(k+1)))=some x/\statR L (befB L []) L 0=true/\qhu n0 (befB L []) (rs++qcq E L σ ev i (k+1))=true:=by
   intro e st' rs' hstep hrs hr;obtain⟨σ,ev,h1,h2,h3,h4,h5⟩:=qkx k (i+1) rs' st' hr;refine⟨λj=>if j=i then st else σ j,λj=>if j=i then e else ev j,if_pos rfl,λj hj1 hj2=>?_,?_,h4,?_⟩
   ·by_cases hj:j=i;· subst hj;simp only[if_pos];rw[if_neg (by omega),h1];exact hstep
    · simp only[if_neg hj];rw[if_neg (by omega)];exact h2 j (by omega) (by omega)
   · simp only;rw[if_neg (by omega),show i+(k+1)=i+1+k by omega];exact h3
   ·have hc:qcq E L (λj=>if j=i then st else σ j) (λj=>if j=i then e else ev j) (i+1) k=qcq E L σ ev (i+1) k:=qhs λj hj=>by rw[if_neg (by omega),if_neg (by omega)];exact⟨rfl,rfl⟩
    simp only[qcq,if_pos,hc];cases e with
    |none=>rw[hrs]at h5;exact h5
    |some vh=>rw[hrs]at h5;simp only[recAt,ho,if_pos];simpa using h5
  cases hw:wantV L o st.s with
  |none=>rw[hw]at h;cases h
  |some b=>
   rw[hw]at h;cases b with
   |false=>simp only at h;exact fin none _ rs ⟨o,ho,hw,rfl⟩ rfl h
   |true=>
    simp only[Bool.not_true,Bool.false_or]at h;cases hni:(opS E (n0+KN*i) o st.s st.h).noInl with
    |false=>rw[hni]at h;cases h
    |true=>rw[hni,cond_true]at h;obtain⟨v,h',ho',hr⟩:=qqk _ hni h;exact fin (some (v,h')) _ _ ⟨o,ho,hw,ho',rfl⟩ rfl hr
theorem qfo{L:List Oper}{n0:Nat}{bef:List Nat}{σ:Nat->St}{ev:Nat->Option (AV×Hp)}:∀{k i:Nat},qhu n0 bef (qcq E L σ ev i k)=true->(∀j,i<=j->j<i+k->ev j≠none->(recAt E L σ j).ok=true)/\∀a b,i<=a->a<b->b<i+k->ev a≠none->ev b≠none->(Nat.testBit (bef.getD (recAt E L σ b).i 0) (recAt E L σ a).i||qor n0 (recAt E L σ a) (recAt E L σ b))=true
|0,i,_=>⟨λj h1 h2=>by omega,λa b h1 h2 h3=>by omega⟩
|k+1,i,h=>by
 have mem:∀{k i j:Nat},i<=j->j<i+k->ev j≠none->recAt E L σ j∈qcq E L σ ev i k:=by
  intro k;induction k with
  |zero=>intro i j h1 h2;omega
  |succ k ih=>
   intro i j h1 h2 hj;simp only[qcq];by_cases e:j=i
   ·subst e;cases he:ev j with
    |none=>exact absurd he hj
    |some _=>exact List.mem_cons_self ..
   ·cases ev i with
    |none=>exact ih (by omega) (by omega) hj
    |some _=>exact List.mem_cons_of_mem _ (ih (by omega) (by omega) hj)
 simp only[qcq]at h;cases he:ev i with
 |none=>
  rw[he]at h;obtain⟨g1,g2⟩:=qfo h;refine⟨λj h1 h2 hj=>?_,λa b h1 h2 h3 ha hb=>?_⟩
  ·by_cases e:j=i;· subst e;exact absurd he hj
   · exact g1 j (by omega) (by omega) hj
  ·by_cases e:a=i;· subst e;exact absurd he ha
   · exact g2 a b (by omega) h2 (by omega) ha hb
 |some vh=>
  rw[he]at h;simp only[qhu,Bool.and_eq_true]at h;obtain⟨g1,g2⟩:=qfo h.2.2;refine⟨λj h1 h2 hj=>?_,λa b h1 h2 h3 ha hb=>?_⟩
  ·by_cases e:j=i;· subst e;exact h.1
   · exact g1 j (by omega) (by omega) hj
  ·by_cases e:a=i;· subst e;exact List.all_eq_true.1 h.2.1 _ (mem (by omega) (by omega) hb)
   · exact g2 a b (by omega) h2 (by omega) ha hb
theorem qkp{L:List Oper}{bef:List Nat}{y:Oper}{j:Nat}:∀{xs:List Oper}{i:Nat},qqf L bef y j xs i=true->∀k x,xs[k]? =some x->i+k<j->Nat.testBit (bef.getD j 0) (i+k)=true\/qks L x y=true
|[],_,_,_,_,hx,_=>by simp at hx
|x0::xs,i,h,k,x,hx,hlt=>by
 simp only[qqf,Bool.and_eq_true,Bool.or_eq_true]at h;cases k with
 |zero=>
  simp only[List.getElem?_cons_zero,Option.some.injEq]at hx;subst hx;rcases h.1 with(h1|h1)|h1
  · have:=Nat.le_of_ble_eq_true h1;omega
  · exact .inl h1
  · exact .inr h1
 |succ k=>have:=qkp h.2 k x (by simpa using hx) (by omega);rw[show i+1+k=i+(k+1)by omega]at this;exact this
theorem qip{L:List Oper}{bef:List Nat}:∀{ys:List Oper}{j:Nat},statR L bef ys j=true->∀k y,ys[k]? =some y->(∀e∈y.after.toList,Region.binds .any e=true->e.on<j+k)/\∀i x,L[i]? =some x->i<j+k->Nat.testBit (bef.getD (j+k) 0) i=true\/qks L x y=true
|[],_,_,_,_,hy=>by simp at hy
|y0::ys,j,h,k,y,hy=>by
 simp only[statR,Bool.and_eq_true]at h;cases k with
 |zero=>
  simp only[List.getElem?_cons_zero,Option.some.injEq]at hy;subst hy;refine⟨λe he hb=>?_,λi x hx hlt=>?_⟩;· have:=List.all_eq_true.1 h.1 e he;rw[hb]at this;simp at this;simpa using this
  · have:=qkp h.2.1 i x hx (by simpa using hlt);simpa using this
 |succ k=>have:=qip h.2.2 k y (by simpa using hy);rw[show j+1+k=j+(k+1)by omega]at this;exact this
end
section
variable{E:Env}{C:Orc}{n0 m:Nat}{L:List Oper}{σ:Nat->St}{ev:Nat->Option (AV×Hp)}
def wOf(E:Env)(L:List Oper)(σ:Nat->St)(n0 j r:Nat):Bool:=memN r (recAt E L σ j).wr||isNew (n0+KN*j) r
def dOf(E:Env)(L:List Oper)(σ:Nat->St)(n0 j r:Nat):Bool:=memN r (recAt E L σ j).acc||isNew (n0+KN*j) r
def dstOf(L:List Oper)(j:Nat):Option Nat:=match L[j]? with|some o=>o.dst|none=>none
def effS(E:Env)(L:List Oper)(σ:Nat->St)(ev:Nat->Option (AV×Hp))(n0 j:Nat)(st:St):St:=
 match ev j with
 |none=>⟨updO st.s (dstOf L j) .un,st.h,st.n⟩
 |some (v,h')=>⟨updO st.s (dstOf L j) v,mix (wOf E L σ n0 j) h' st.h,st.n⟩
def appS'(E:Env)(L:List Oper)(σ:Nat->St)(ev:Nat->Option (AV×Hp))(n0:Nat)(S:Nat->Bool):Nat->St
|0=>σ 0
|k+1=>bif S k then effS E L σ ev n0 k (appS' E L σ ev n0 S k)else appS' E L σ ev n0 S k
theorem qtm{s:Nat->AV}{d:Option Nat}{v:AV}{t:Nat}(h:d≠some t):updO s d v t=s t:=by
 cases d with
 |none=>rfl
 |some d=>exact upd_ne _ _ λe=>h (by rw[e])
theorem qlx{s:Nat->AV}{d:Option Nat}{v:AV}{t:Nat}(h:d=some t):updO s d v t=v:=by subst h;exact upd_same _ _ _
theorem qgg{j t:Nat}{st:St}(h:dstOf L j≠some t):(effS E L σ ev n0 j st).s t=st.s t:=by unfold effS;split<;>exact qtm h
theorem qri{j t:Nat}{st st':St}(h:dstOf L j=some t):(effS E L σ ev n0 j st).s t=(effS E L σ ev n0 j st').s t:=by unfold effS;split<;>simp only[qlx h]
theorem qgh{j r:Nat}{st:St}(h:∀v h',ev j=some (v,h')->wOf E L σ n0 j r=false):(effS E L σ ev n0 j st).h r=st.h r:=by
 unfold effS;split;· rfl
 · rename_i v h' e;exact qek (h v h' e)
theorem qmu{j r:Nat}{st:St}{v:AV}{h':Hp}(e:ev j=some (v,h'))(h:wOf E L σ n0 j r=true):(effS E L σ ev n0 j st).h r=h' r:=by simp only[effS,e];exact qb1 h
theorem eff_n{j:Nat}{st:St}:(effS E L σ ev n0 j st).n=st.n:=by unfold effS;split<;>rfl
theorem app_n{S:Nat->Bool}:∀k,(appS' E L σ ev n0 S k).n=(σ 0).n
|0=>rfl
|k+1=>by
 simp only[appS'];cases S k with
 |true=>rw[cond_true,eff_n,app_n k]
 |false=>rw[cond_false,app_n k]
theorem qn4{S S':Nat->Bool}{t:Nat}:∀k,(∀i,i<k->S i≠S' i->dstOf L i≠some t)->(appS' E L σ ev n0 S k).s t=(appS' E L σ ev n0 S' k).s t
|0,_=>rfl
|k+1,h=>by
 have ih:=qn4 k λi hi=>h i (by omega);simp only[appS'];cases e1:S k with
 |true=>cases e2:S' k with
  |true=>
   simp only[cond_true];by_cases hd:dstOf L k=some t;· exact qri hd
   · rw[qgg hd,qgg hd,ih]
  |false=>simp only[cond_true,cond_false];rw[qgg (h k (by omega) (by rw[e1,e2];simp)),ih]
 |false=>cases e2:S' k with
  |true=>simp only[cond_true,cond_false];rw[qgg (h k (by omega) (by rw[e1,e2];simp)),ih]
  |false=>simp only[cond_false];exact ih
theorem qik{S S':Nat->Bool}{r:Nat}:∀k,(∀i,i<k->S i≠S' i->∀v h',ev i=some (v,h')->wOf E L σ n0 i r=false)->(appS' E L σ ev n0 S k).h r=(appS' E L σ ev n0 S' k).h r
|0,_=>rfl
|k+1,h=>by
 have ih:=qik k λi hi=>h i (by omega);simp only[appS'];cases e1:S k with
 |true=>cases e2:S' k with
  |true=>
   simp only[cond_true];by_cases hd:∀v h',ev k=some (v,h')->wOf E L σ n0 k r=false;· rw[qgh hd,qgh hd,ih]
   ·cases he:ev k with
    |none=>exact absurd (λv h' e=>by rw[he]at e;cases e) hd
    |some vh=>
     obtain⟨v,h'⟩:=vh;cases hw:wOf E L σ n0 k r with
     |true=>rw[qmu he hw,qmu he hw]
     |false=>exact absurd (λ_ _ _=>hw) hd
  |false=>simp only[cond_true,cond_false];rw[qgh (h k (by omega) (by rw[e1,e2];simp)),ih]
 |false=>cases e2:S' k with
  |true=>simp only[cond_true,cond_false];rw[qgh (h k (by omega) (by rw[e1,e2];simp)),ih]
  |false=>simp only[cond_false];exact ih
theorem qgy{S:Nat->Bool}{j t:Nat}{st:St}(hS:S j=true)(hd:dstOf L j=some t):∀k,j<k->(∀i,j<i->i<k->S i=true->dstOf L i≠some t)->(appS' E L σ ev n0 S k).s t=(effS E L σ ev n0 j st).s t
|0,h,_=>by omega
|k+1,h,hl=>by
 simp only[appS'];by_cases e:k=j;· subst e;rw[hS,cond_true];exact qri hd
 ·have ih:=qgy (st:=st) hS hd k (by omega) λi h1 h2=>hl i h1 (by omega);cases e1:S k with
  |true=>rw[cond_true,qgg (hl k (by omega) (by omega) e1)];exact ih
  |false=>rw[cond_false];exact ih
theorem qgz{S:Nat->Bool}{j r:Nat}{v:AV}{h':Hp}(hS:S j=true)(he:ev j=some (v,h'))(hw:wOf E L σ n0 j r=true):∀k,j<k->(∀i,j<i->i<k->S i=true->∀v h',ev i=some (v,h')->wOf E L σ n0 i r=false)->(appS' E L σ ev n0 S k).h r=h' r
|0,h,_=>by omega
|k+1,h,hl=>by
 simp only[appS'];by_cases e:k=j;· subst e;rw[hS,cond_true];exact qmu he hw
 ·have ih:=qgz hS he hw k (by omega) λi h1 h2=>hl i h1 (by omega);cases e1:S k with
  |true=>rw[cond_true,qgh (hl k (by omega) (by omega) e1)];exact ih
  |false=>rw[cond_false];exact ih
structure ChainOk(E:Env)(C:Orc)(n0 m:Nat)(L:List Oper)(σ:Nat->St)(ev:Nat->Option (AV×Hp)):Prop where
 len:L.length=m
 step:∀j,j<m->qs4 E C n0 L j (σ j) (ev j) (σ (j+1))
 ok:∀j,j<m->ev j≠none->(recAt E L σ j).ok=true
 pair:∀a b,a<b->b<m->ev a≠none->ev b≠none->Nat.testBit ((befB L []).getD b 0) a=true\/qor n0 (recAt E L σ a) (recAt E L σ b)=true
 edge:∀(j:Nat) y,L[j]? =some y->∀e∈y.after.toList,Region.binds .any e=true->e.on<j
 slot:∀(i j:Nat) x y,L[i]? =some x->L[j]? =some y->i<j->Nat.testBit ((befB L []).getD j 0) i=true\/qks L x y=true
theorem qma{j:Nat}:(recAt E L σ j).i=j:=by
 unfold recAt;split;· unfold recOf;rfl
 · rfl
variable(HF:∀f fi,E.fi f=some fi->fi.inl=false->FiOk fi)
structure RecOk(E:Env)(L:List Oper)(σ:Nat->St)(j:Nat)(o:Oper):Prop where
 inn:opIn (λr=>memN r (recAt E L σ j).acc) o.op (σ j).s=true
 wr:opWr E (λr=>memN r (recAt E L σ j).wr) o.op (σ j).s=true
 sub:∀r,memN r (recAt E L σ j).wr=true->memN r (recAt E L σ j).acc=true
 cla:isCl o.op=true->Clo (λr=>memN r (recAt E L σ j).acc) (σ j).h
 clw:isCl o.op=true->Clo (λr=>memN r (recAt E L σ j).wr) (σ j).h
theorem qrp{h:Hp}{a:List Nat}(H:cloB h a=true):Clo (λr=>memN r a) h:=by intro r cs hr e;have:=List.all_eq_true.1 H r (qbn.1 hr);rw[e]at this;exact this
theorem qm9{j:Nat}{o:Oper}(ho:L[j]? =some o)(h:(recAt E L σ j).ok=true):RecOk E L σ j o:=by
 have e:recAt E L σ j=recOf E j o.op (σ j).s (σ j).h:=by simp only[recAt,ho]
 rw[e]at h;unfold recOf at h;simp only[Bool.and_eq_true,Bool.or_eq_true,Bool.not_eq_true']at h;obtain⟨h1,h2,h3,h4⟩:=h;have ea:(recAt E L σ j).acc=accOf o.op (σ j).s (σ j).h:=by rw[e];rfl
 have ew:(recAt E L σ j).wr=wrOf E o.op (σ j).s (σ j).h (accOf o.op (σ j).s (σ j).h):=by rw[e];rfl
 refine⟨by rw[ea];exact h1,by rw[ew];exact h2,λr hr=>?_,λhc=>?_,λhc=>?_⟩;· rw[ea];rw[ew]at hr;exact List.all_eq_true.1 h3 r (qbn.1 hr)
 ·rcases h4 with h4|h4
  · rw[hc]at h4;cases h4
  · rw[ea];exact qrp h4.1
 ·rcases h4 with h4|h4
  · rw[hc]at h4;cases h4
  · rw[ew];exact qrp h4.2
include HF in
theorem qh0(K:ChainOk E C n0 m L σ ev){S:Nat->Bool}:∀j,j<=m->(∀i,i<j->S i=true)->appS' E L σ ev n0 S j=σ j
|0,_,_=>rfl
|j+1,hj,hS=>by
 have ih:=qh0 K j (by omega) λi hi=>hS i (by omega);simp only[appS'];rw[hS j (by omega),cond_true,ih];obtain⟨o,ho,hst⟩:=K.step j (by omega);have hd:dstOf L j=o.dst:=by simp only[dstOf,ho]
 cases he:ev j with
 |none=>rw[he]at hst;rw[hst.2];simp only[effS,he,hd];rfl
 |some vh=>
  obtain⟨v,h'⟩:=vh;rw[he]at hst;obtain⟨_,hout,hs⟩:=hst;have R:=qm9 ho (K.ok j (by omega) (by rw[he];simp));have F:=qqw HF R.wr R.clw hout;rw[hs];simp only[effS,he,hd];congr 1;funext r;cases hw:wOf E L σ n0 j r with
  |true=>exact qb1 hw
  |false=>rw[qek hw];exact(F r hw).symm
theorem qxe{o:Oper}{t:Nat}(h: .tmp t∈o.op.operands.toList):t∈qei L o:=by unfold qei;refine List.mem_append.2 (.inl ?_);exact List.mem_filterMap.2 ⟨.tmp t,h,rfl⟩
theorem qp2{x y:Oper}(h:qks L x y=true):(∀t,x.dst=some t->t∉qei L y/\y.dst≠some t)/\∀t,y.dst=some t->t∉qei L x:=by
 unfold qks at h;rw[Bool.and_eq_true]at h;refine⟨λt ht=>?_,λt ht=>?_⟩
 ·have h1:=h.1;rw[ht]at h1;simp only[Bool.and_eq_true,Bool.not_eq_true']at h1;refine⟨λhm=>?_,λhy=>?_⟩;· have:=qbn.2 hm;rw[h1.1]at this;cases this
  · have h2:=h1.2;rw[hy]at h2;simp only[Bool.not_eq_true']at h2;rw[Nat.beq_refl]at h2;cases h2
 · have h1:=h.2;rw[ht]at h1;simp only[Bool.not_eq_true']at h1;intro hm;have:=qbn.2 hm;rw[h1]at this;cases this
def Closed(L:List Oper)(S:Nat->Bool):Prop:=∀(j:Nat) y,L[j]? =some y->S j=true->∀e∈y.after.toList,Region.binds .any e=true->S e.on=true
def BefOk(L:List Oper)(j b:Nat):Prop:=∀S,Closed L S->(∀y,L[j]? =some y->∀e∈y.after.toList,Region.binds .any e=true->S e.on=true)->∀i,Nat.testBit b i=true->S i=true
theorem qo3(acc:List Nat):∀(l:List Edge)(s i:Nat),Nat.testBit (l.foldl (λs e=>bif Region.binds .any e then Nat.lor (Nat.lor s (2^e.on)) (acc.getD e.on 0)else s) s) i=true->Nat.testBit s i=true\/∃e∈l,Region.binds .any e=true/\(i=e.on\/Nat.testBit (acc.getD e.on 0) i=true)
|[],s,i,h=>.inl h
|e::l,s,i,h=>by
 rw[List.foldl_cons]at h;rcases qo3 acc l _ i h with h1|⟨e',h1,h2⟩
 ·cases hb:Region.binds .any e with
  |false=>rw[hb]at h1;exact .inl h1
  |true=>
   rw[hb,cond_true]at h1;have h1:Nat.testBit ((s|||2^e.on)|||acc.getD e.on 0) i=true:=h1;rw[Nat.testBit_or,Nat.testBit_or,Nat.testBit_two_pow]at h1;simp only[Bool.or_eq_true,decide_eq_true_eq]at h1;rcases h1 with(h1|h1)|h1
   · exact .inl h1
   · exact .inr ⟨e,List.mem_cons_self ..,hb,.inl h1.symm⟩
   · exact .inr ⟨e,List.mem_cons_self ..,hb,.inr h1⟩
 · exact .inr ⟨e',List.mem_cons_of_mem _ h1,h2⟩
theorem qwl:∀(ops:List Oper)(acc:List Nat),(∀k,L[acc.length+k]? =ops[k]?)->(∀j,j<acc.length->BefOk L j (acc.getD j 0))->∀j,j<acc.length+ops.length->BefOk L j ((befB ops acc).getD j 0)
|[],acc,_,ha,j,hj=>ha j (by simpa using hj)
|o::ops,acc,hL,ha,j,hj=>by
 simp only[befB];refine qwl ops _ (λk=>?_) (λj hj=>?_) j (by simp only[List.length_append,List.length_cons,List.length_nil]at hj|-;omega);· have:=hL (k+1);simp only[List.length_append,List.length_cons,List.length_nil];rw[show acc.length+(0+1)+k=acc.length+(k+1)by omega];simpa using this
 ·by_cases hlt:j<acc.length
  ·have e:(acc++[o.after.toList.foldl (λs e=>bif Region.binds .any e then Nat.lor (Nat.lor s (2^e.on)) (acc.getD e.on 0)else s) 0]).getD j 0=acc.getD j 0:=by rw[List.getD_eq_getElem?_getD,List.getD_eq_getElem?_getD,List.getElem?_append_left hlt]
   rw[e];exact ha j hlt
  ·simp only[List.length_append,List.length_cons,List.length_nil]at hj;have hje:j=acc.length:=by omega
   subst hje;rw[List.getD_eq_getElem?_getD,List.getElem?_append_right (Nat.le_refl _)];simp only[Nat.sub_self,List.getElem?_cons_zero,Option.getD_some];have ho:L[acc.length]? =some o:=by simpa using hL 0
   intro S hS hj i hi;rcases qo3 acc _ 0 i hi with h1|⟨e,h1,h2,h3⟩
   · rw[Nat.zero_testBit]at h1;cases h1
   ·have he:=hj o ho e h1 h2;rcases h3 with rfl|h3
    · exact he
    ·by_cases hl:e.on<acc.length;· exact ha e.on hl S hS (λy hy e' he' hb=>hS e.on y hy he e' he' hb) i h3
     · rw[List.getD_eq_getElem?_getD,List.getElem?_eq_none (by omega)]at h3;simp at h3
end
section
variable{E:Env}{C:Orc}{n0 m:Nat}{L:List Oper}{σ:Nat->St}{ev:Nat->Option (AV×Hp)}
theorem qrj:∀{xs ys:List Nat},disj xs ys=true->∀r,memN r xs=true->memN r ys=false
|[],_,_,_,h=>by cases h
|x::xs,ys,h,r,hr=>by
 simp only[disj,Bool.and_eq_true,Bool.not_eq_true']at h;simp only[memN,Bool.or_eq_true]at hr;rcases hr with hr|hr
 · rw[Nat.eq_of_beq_eq_true hr];exact h.1
 · exact qrj h.2 r hr
theorem qwv{l:List Nat}{n:Nat}(h:(l.all λr=>!(isNew n r))=true){r:Nat}(hr:memN r l=true):isNew n r=false:=by have:=List.all_eq_true.1 h r (qbn.1 hr);simpa using this
theorem que{i j r:Nat}(hij:i≠j)(h:isNew (n0+KN*i) r=true):isNew (n0+KN*j) r=false:=by
 cases e:isNew (n0+KN*j) r with
 |false=>rfl
 |true=>
  exfalso;have h1:=qdo.1 h;have h2:=qdo.1 e;rcases Nat.lt_or_gt_of_ne hij with hlt|hlt
  · have:=Nat.mul_le_mul_left KN (show i+1<=j from hlt);rw[Nat.mul_add]at this;omega
  · have:=Nat.mul_le_mul_left KN (show j+1<=i from hlt);rw[Nat.mul_add]at this;omega
theorem sep(K:ChainOk E C n0 m L σ ev){i j:Nat}(hi:i<m)(hj:j<m)(hij:i≠j)(h1:i<j->Nat.testBit ((befB L []).getD j 0) i≠true)(h2:j<i->Nat.testBit ((befB L []).getD i 0) j≠true)(ei:ev i≠none)(ej:ev j≠none){r:Nat}(hw:wOf E L σ n0 i r=true):dOf E L σ n0 j r=false:=by
 obtain⟨oi,hoi,_⟩:=K.step i hi;obtain⟨oj,hoj,_⟩:=K.step j hj;have Ri:=qm9 hoi (K.ok i hi ei);have key:disj (recAt E L σ i).wr (recAt E L σ j).acc=true/\((recAt E L σ j).acc.all λr=>!(isNew (n0+KN*i) r))=true/\((recAt E L σ i).acc.all λr=>!(isNew (n0+KN*j) r))=true:=by
  rcases Nat.lt_or_gt_of_ne hij with hlt|hlt
  ·rcases K.pair i j hlt hj ei ej with h|h
   · exact absurd h (h1 hlt)
   · simp only[qor,qma,Bool.and_eq_true]at h;exact⟨h.1,h.2.2.1,h.2.2.2⟩
  ·rcases K.pair j i hlt hi ej ei with h|h
   · exact absurd h (h2 hlt)
   · simp only[qor,qma,Bool.and_eq_true]at h;exact⟨h.2.1,h.2.2.2,h.2.2.1⟩
 obtain⟨k1,k2,k3⟩:=key;unfold wOf at hw;unfold dOf;rw[Bool.or_eq_true]at hw;rw[Bool.or_eq_false_iff];rcases hw with hw|hw
 · exact⟨qrj k1 r hw,qwv k3 (Ri.sub r hw)⟩
 ·refine⟨?_,que hij hw⟩;cases e:memN r (recAt E L σ j).acc with
  |false=>rfl
  |true=>rw[qwv k2 e]at hw;cases hw
theorem qim{o:Oper}{s s':Nat->AV}(h:∀t∈qei L o,s t=s' t):wantV L o s=wantV L o s':=by
 unfold wantV;cases hg:o.guard with
 |none=>rfl
 |some jg=>
  obtain⟨j,g⟩:=jg;simp only;cases hq:L[j]? with
  |none=>rfl
  |some q=>
   simp only;cases hd:q.dst with
   |none=>rfl
   |some t=>
    simp only;have:t∈qei L o:=by unfold qei;refine List.mem_append.2 (.inr ?_);simp only[hg,hq,hd];exact List.mem_cons_self ..
    rw[h t this]
def addS(S:Nat->Bool)(j i:Nat):Bool:=S i||Nat.beq i j
variable(HF:∀f fi,E.fi f=some fi->fi.inl=false->FiOk fi)
include HF in
theorem qvq(K:ChainOk E C n0 m L σ ev){S:Nat->Bool}{j:Nat}{o:Oper}(hj:j<m)(ho:L[j]? =some o)(hSj:S j=false)(hcl:Closed L S)(hpre:∀e∈o.after.toList,Region.binds .any e=true->S e.on=true):match ev j with
|none=>wantV L o (appS' E L σ ev n0 S m).s=some false/\appS' E L σ ev n0 (addS S j) m=⟨updO (appS' E L σ ev n0 S m).s o.dst .un,(appS' E L σ ev n0 S m).h,(appS' E L σ ev n0 S m).n⟩
|some (v,_)=>wantV L o (appS' E L σ ev n0 S m).s=some true/\∃h2,(opS E (n0+KN*j) o (appS' E L σ ev n0 S m).s (appS' E L σ ev n0 S m).h).out C=some (v,h2)/\appS' E L σ ev n0 (addS S j) m=⟨updO (appS' E L σ ev n0 S m).s o.dst v,h2,(appS' E L σ ev n0 S m).n⟩:=by
 have hdj:dstOf L j=o.dst:=by simp only[dstOf,ho]
 have bok:∀i,i<m->BefOk L i ((befB L []).getD i 0):=λi hi=>qwl L [] (λk=>by simp) (λj hj=>by simp at hj) i (by simp only[List.length_nil,Nat.zero_add];rw[K.len];exact hi);have un1:∀i,i<j->S i=false->Nat.testBit ((befB L []).getD j 0) i≠true:=λi _ hS hb=>by have:=bok j hj S hcl (λy hy e he hb'=>by rw[ho]at hy;cases hy;exact hpre e he hb') i hb;rw[hS]at this;cases this
 have un2:∀i,j<i->i<m->S i=true->Nat.testBit ((befB L []).getD i 0) j≠true:=λi _ him hS hb=>by have:=bok i him S hcl (λy hy e he hb'=>hcl i y hy hS e he hb') j hb;rw[hSj]at this;cases this
 have hlt:∀i,i<m->∃y,L[i]? =some y:=λi hi=>⟨L[i]'(by rw[K.len];exact hi),List.getElem?_eq_getElem _⟩;have slots:∀i,i<m->S i≠Nat.blt i j->∀t,dstOf L i=some t->t∉qei L o:=by
  intro i hi hne t hd;obtain⟨y,hy⟩:=hlt i hi;have hdi:y.dst=some t:=by simpa only[dstOf,hy]using hd
  rcases Nat.lt_trichotomy i j with hij|hij|hij
  ·have hb:Nat.blt i j=true:=by simpa using hij
   have hS:S i=false:=by rw[hb]at hne;simpa using hne
   rcases K.slot i j y o hy ho hij with h|h
   · exact absurd h (un1 i hij hS)
   · exact((qp2 h).1 t hdi).1
  ·subst hij;exfalso;apply hne;rw[hSj];cases hb:Nat.blt i i with
   |false=>rfl
   |true=>
    have:i<i:=by simpa using hb
    omega
  ·have hb:Nat.blt i j=false:=by
    cases hb:Nat.blt i j with
    |false=>rfl
    |true=>
     have:i<j:=by simpa using hb
     omega
   have hS:S i=true:=by rw[hb]at hne;simpa using hne
   rcases K.slot j i o y ho hy hij with h|h
   · exact absurd h (un2 i hij hi hS)
   · exact(qp2 h).2 t hdi
 have stop:∀k,j<=k->appS' E L σ ev n0 (λi=>Nat.blt i j) k=σ j:=by
  intro k hk;induction k with
  |zero=>
   have:j=0:=by omega
   subst this;rfl
  |succ k ih=>
   by_cases e:j=k+1;· subst e;exact qh0 HF K (k+1) (by omega) λi hi=>by simpa using hi
   ·simp only[appS'];have:Nat.blt k j=false:=by
     cases hb:Nat.blt k j with
     |false=>rfl
     |true=>
      have:k<j:=by simpa using hb
      omega
    rw[this,cond_false];exact ih (by omega)
 have rd:∀t∈qei L o,(appS' E L σ ev n0 S m).s t=(σ j).s t:=by intro t ht;rw[<-stop m (by omega)];exact qn4 m λi hi hne hd=>slots i hi hne t hd ht
 obtain⟨o',ho',hst⟩:=K.step j hj;rw[ho]at ho';cases ho';have slotE:∀(v:AV),(∀st:St,∀t,dstOf L j=some t->(effS E L σ ev n0 j st).s t=v)->(appS' E L σ ev n0 (addS S j) m).s=updO (appS' E L σ ev n0 S m).s o.dst v:=by
  intro v hv;funext t;by_cases hd:o.dst=some t
  ·rw[qlx hd,qgy (st:=σ j) (by simp[addS]) (by rw[hdj];exact hd) m hj (λi h1 h2 hS hdi=>?_),hv _ t (by rw[hdj];exact hd)];have hS:S i=true:=by
    simp only[addS,Bool.or_eq_true]at hS;rcases hS with hS|hS
    · exact hS
    · have:=Nat.eq_of_beq_eq_true hS;omega
   obtain⟨y,hy⟩:=hlt i h2;rcases K.slot j i o y ho hy h1 with h|h
   · exact un2 i h1 h2 hS h
   · exact((qp2 h).1 t hd).2 (by simpa only[dstOf,hy]using hdi)
  ·rw[qtm hd];refine qn4 m λi hi hne hdi=>?_;have:i=j:=by
    cases hb:Nat.beq i j with
    |true=>exact Nat.eq_of_beq_eq_true hb
    |false=>simp only[addS,hb,Bool.or_false]at hne;exact absurd rfl hne
   subst this;rw[hdj]at hdi;exact hd hdi
 have nE:(appS' E L σ ev n0 (addS S j) m).n=(appS' E L σ ev n0 S m).n:=by rw[app_n,app_n]
 cases he:ev j with
 |none=>
  rw[he]at hst;refine⟨(qim rd).trans hst.1,?_⟩;have hs:=slotE .un (λst t hd=>by simp only[effS,he];exact qlx hd);have hh:(appS' E L σ ev n0 (addS S j) m).h=(appS' E L σ ev n0 S m).h:=by
   funext r;refine qik m λi hi hne v h' e=>?_;have:i=j:=by
    cases hb:Nat.beq i j with
    |true=>exact Nat.eq_of_beq_eq_true hb
    |false=>simp only[addS,hb,Bool.or_false]at hne;exact absurd rfl hne
   subst this;rw[he]at e;cases e
  rw[<-hs,<-hh,<-nE]
 |some vh=>
  obtain⟨v,h'⟩:=vh;rw[he]at hst;obtain⟨hw,hout,_⟩:=hst;have hne:ev j≠none:=by rw[he];simp
  have R:=qm9 ho (K.ok j hj hne);have F:=qqw HF R.wr R.clw hout;refine⟨(qim rd).trans hw,?_⟩;have hp:∀r,dOf E L σ n0 j r=true->(appS' E L σ ev n0 S m).h r=(σ j).h r:=by
   intro r hr;rw[<-stop m (by omega)];refine qik m λi hi hne' v2 h2 e=>?_;cases hwi:wOf E L σ n0 i r with
   |false=>rfl
   |true=>
    exfalso;have hij:i≠j:=λe2=>by
     subst e2;apply hne';rw[hSj];cases hb:Nat.blt i i with
     |false=>rfl
     |true=>
      have:i<i:=by simpa using hb
      omega
    have:=sep K hi hj hij (λhlt'=>un1 i hlt' (by
     have hb:Nat.blt i j=true:=by simpa using hlt'
     rw[hb]at hne';simpa using hne')) (λhlt'=>un2 i hlt' hi (by
     have hb:Nat.blt i j=false:=by
      cases hb:Nat.blt i j with
      |false=>rfl
      |true=>
       have:i<j:=by simpa using hb
       omega
     rw[hb]at hne';simpa using hne')) (by rw[e];simp) hne hwi
    rw[hr]at this;cases this
  have hmix:(appS' E L σ ev n0 S m).h=mix (dOf E L σ n0 j) (σ j).h (appS' E L σ ev n0 S m).h:=by
   funext r;cases hr:dOf E L σ n0 j r with
   |true=>rw[qb1 hr];exact hp r hr
   |false=>rw[qek hr]
  have e1:opS E (n0+KN*j) o (appS' E L σ ev n0 S m).s (appS' E L σ ev n0 S m).h=opS E (n0+KN*j) o (σ j).s (appS' E L σ ev n0 S m).h:=qu9 λx hx c=>qu8 (λt ht=>by subst ht;exact rd t (qxe hx)) c;have e2:=quj (E:=E) (n:=n0+KN*j) (o:=o) (s:=(σ j).s) (h:=(σ j).h) (g:=(appS' E L σ ev n0 S m).h) (D:=dOf E L σ n0 j) (A:=λr=>memN r (recAt E L σ j).acc) HF (λr hr=>by unfold dOf;rw[hr,Bool.true_or]) (λr h1 h2=>by unfold dOf;rw[qdo.2 ⟨h1,h2⟩,Bool.or_true]) R.inn R.cla;rw[<-hmix]at e2;refine⟨mix (dOf E L σ n0 j) h' (appS' E L σ ev n0 S m).h,by rw[e1,e2,qp7,hout];rfl,?_⟩;have hs:=slotE v (λst t hd=>by simp only[effS,he];exact qlx hd);have hh:(appS' E L σ ev n0 (addS S j) m).h=mix (dOf E L σ n0 j) h' (appS' E L σ ev n0 S m).h:=by
   funext r;have other:wOf E L σ n0 j r=false->(appS' E L σ ev n0 (addS S j) m).h r=(appS' E L σ ev n0 S m).h r:=λhwj=>qik m λi hi hne' v2 h2 e=>by
    have:i=j:=by
     cases hb:Nat.beq i j with
     |true=>exact Nat.eq_of_beq_eq_true hb
     |false=>simp only[addS,hb,Bool.or_false]at hne';exact absurd rfl hne'
    subst this;exact hwj
   cases hwj:wOf E L σ n0 j r with
   |true=>
    have hdj':dOf E L σ n0 j r=true:=by unfold wOf at hwj;unfold dOf;rw[Bool.or_eq_true]at hwj|-;exact hwj.imp (R.sub r) id
    rw[qb1 hdj'];refine qgz (by simp[addS]) he hwj m hj λi h1 h2 hS v2 h3 e=>?_;have hS:S i=true:=by
     simp only[addS,Bool.or_eq_true]at hS;rcases hS with hS|hS
     · exact hS
     · have:=Nat.eq_of_beq_eq_true hS;omega
    cases hwi:wOf E L σ n0 i r with
    |false=>rfl
    |true=>exfalso;have:=sep K h2 hj (by omega) (λhlt'=>by omega) (λhlt'=>un2 i h1 h2 hS) (by rw[e];simp) hne hwi;rw[hdj']at this;cases this
   |false=>
    rw[other hwj];cases hdj':dOf E L σ n0 j r with
    |false=>rw[qek hdj']
    |true=>rw[qb1 hdj',hp r hdj'];exact(F r hwj).symm
  rw[<-hs,<-hh,<-nE]
end
section
variable{E:Env}{C:Orc}{I:(α:Type)->InlK α}{P:Program}{w0 w:World}{S0:Nat->Prop}{G:Gh}{n0:Nat}{σ:Nat->St}{ev:Nat->Option (AV×Hp)}
def cntS(S:Nat->Bool):Nat->Nat
|0=>0
|k+1=>cntS S k+(if S k then 1 else 0)
theorem qvx(S:Nat->Bool):∀k,cntS S k<=k
|0=>Nat.le_refl _
|k+1=>by have:=qvx S k;simp only[cntS];split<;>omega
theorem qrn{S:Nat->Bool}:∀k,cntS S k=k->∀i,i<k->S i=true
|k+1,h,i,hi=>by
 have:=qvx S k;simp only[cntS]at h;by_cases e:S k=true
 ·rw[if_pos e]at h;by_cases hik:i=k;· subst hik;exact e
  · exact qrn k (by omega) i (by omega)
 · rw[if_neg e]at h;omega
theorem qlk{S S':Nat->Bool}:∀k,(∀i,i<k->S i=S' i)->cntS S k=cntS S' k
|0,_=>rfl
|k+1,h=>by simp only[cntS,qlk k λi hi=>h i (by omega),h k (by omega)]
theorem qro{S:Nat->Bool}{j:Nat}(hS:S j=false):∀k,j<k->cntS (addS S j) k=cntS S k+1
|k+1,h=>by
 simp only[cntS];by_cases e:k=j
 ·subst e;have h1:cntS (addS S k) k=cntS S k:=qlk k λi hi=>by
   have:Nat.beq i k=false:=by
    cases hb:Nat.beq i k with
    |false=>rfl
    |true=>have:=Nat.eq_of_beq_eq_true hb;omega
   simp[addS,this]
  rw[h1,hS];simp[addS]
 ·have:Nat.beq k j=false:=by
   cases hb:Nat.beq k j with
   |false=>rfl
   |true=>exact absurd (Nat.eq_of_beq_eq_true hb) e
  rw[qro hS k (by omega)];simp only[addS,this,Bool.or_false];omega
structure RelD(w0:World)(S0:Nat->Prop)(nt n0:Nat)(S:Nat->Bool)(st:St)(a:Act)(w:World)(G:Gh):Prop where
 inv:Inv w0 S0 w G st.h
 slots:∀t,AVRep w G st.h (a.tmps.getD t undef) (st.s t)
 al:∀r,G.al r->r<n0\/∃i,S i=true/\newR (n0+KN*i) r
 size:a.tmps.size=nt
 defers:a.defers=[]
theorem qy6(O:EnvOk P E)(Fs:FnsOk P E C I){nt base:Nat}{ops:Array Oper}(hd:dstOk nt ops.toList=true)(K:ChainOk E C n0 ops.size ops.toList σ ev)(hn:(σ 0).n=n0+KN*ops.size){Q:Exit->Act->World->Prop}{Gs:Gh}{hs:Hp}(hQ:∀a' w' G',RelD w0 S0 nt n0 (λi=>Nat.blt i ops.size) (σ ops.size) a' w' G'->KeepB base Gs G' hs (σ ops.size).h->Q .normal a' w'):∀(fuel:Nat)(listed:Array Bool)(S:Nat->Bool)(a:Act)(w:World)(G:Gh),listed.size=ops.size->(∀i,i<ops.size->listed.getD i false=S i)->(∀i,ops.size<=i->S i=false)->cntS S ops.size+fuel=ops.size->Closed ops.toList S->RelD w0 S0 nt n0 S (appS' E ops.toList σ ev n0 S ops.size) a w G->KeepB base Gs G hs (appS' E ops.toList σ ev n0 S ops.size).h->wpAny P .any ops Q fuel listed a w:=by
 have HF:=Fs.form;have done:∀(S:Nat->Bool)(a:Act)(w:World)(G:Gh),(∀i,i<ops.size->S i=true)->RelD w0 S0 nt n0 S (appS' E ops.toList σ ev n0 S ops.size) a w G->KeepB base Gs G hs (appS' E ops.toList σ ev n0 S ops.size).h->(∀i,ops.size<=i->S i=false)->Q .normal a w:=by
  intro S a w G hall R KB hout;rw[qh0 HF K ops.size (Nat.le_refl _) hall]at R KB;refine hQ a w G ⟨R.inv,R.slots,λr hr=>(R.al r hr).imp id λ⟨i,h1,h2⟩=>⟨i,?_,h2⟩,R.size,R.defers⟩ KB;have:i<ops.size:=by
   by_cases h:i<ops.size;· exact h
   · rw[hout i (by omega)]at h1;cases h1
  simpa using this
 have mem_ready:∀(listed:Array Bool)(i:Nat),i∈Region.ready .any ops listed->i<ops.size/\listed.getD i true=false/\∃o,ops[i]? =some o/\∀e∈o.after.toList,Region.binds .any e=true->listed.getD e.on false=true:=by
  intro listed i hi;unfold Region.ready at hi;rw[List.mem_filter]at hi;obtain⟨h1,h2⟩:=hi;rw[List.mem_range]at h1;rw[Bool.and_eq_true]at h2;refine⟨h1,by simpa using h2.1,ops[i],Array.getElem?_eq_getElem h1,λe he hb=>?_⟩;have h3:=h2.2;rw[Array.getElem?_eq_getElem h1]at h3;simp only[Option.map_some,Option.getD_some,Array.all_eq_true_iff_forall_mem,Bool.or_eq_true,Bool.not_eq_true']at h3;rcases h3 e (by simpa using he)with h4|h4
  · rw[hb]at h4;cases h4
  · exact h4
 have ready_nil:∀(listed:Array Bool)(S:Nat->Bool),listed.size=ops.size->(∀i,i<ops.size->listed.getD i false=S i)->Region.ready .any ops listed=[]->∀i,i<ops.size->S i=true:=by
  intro listed S hsz hlS hnil i;induction i using Nat.strongRecOn with
  |_ i ih=>
   intro hi;cases hSi:S i with
   |true=>rfl
   |false=>
    exfalso;have:i∈Region.ready .any ops listed:=by
     unfold Region.ready;rw[List.mem_filter,List.mem_range,Bool.and_eq_true];refine⟨hi,?_,?_⟩
     ·have h1:listed.getD i true=listed.getD i false:=by simp only[Array.getD_eq_getD_getElem?,Array.getElem?_eq_getElem (show i<listed.size by omega),Option.getD_some]
      rw[h1,hlS i hi,hSi];rfl
     ·rw[Array.getElem?_eq_getElem hi];simp only[Option.map_some,Option.getD_some,Array.all_eq_true_iff_forall_mem,Bool.or_eq_true,Bool.not_eq_true'];intro e he;cases hb:Region.binds .any e with
      |false=>exact .inl rfl
      |true=>right;have hlt:=K.edge i ops[i] (by simp[hi]) e (by simpa using he) hb;rw[hlS e.on (by omega)];exact ih e.on hlt (by omega)
    rw[hnil]at this;cases this
 intro fuel;induction fuel with
 |zero=>
  intro listed S a w G hsz hlS hout hcnt hcl R KB;have hall:=qrn ops.size (by omega);refine⟨?_,done S a w G hall R KB hout⟩;cases hr:Region.ready .any ops listed with
  |nil=>rfl
  |cons i is=>
   exfalso;obtain⟨h1,h2,_⟩:=mem_ready listed i (by rw[hr];exact List.mem_cons_self ..);have h3:listed.getD i true=listed.getD i false:=by simp only[Array.getD_eq_getD_getElem?,Array.getElem?_eq_getElem (show i<listed.size by omega),Option.getD_some]
   rw[h3,hlS i h1,hall i h1]at h2;cases h2
 |succ fuel ih=>
  intro listed S a w G hsz hlS hout hcnt hcl R KB;refine⟨λhnil=>done S a w G (ready_nil listed S hsz hlS hnil) R KB hout,λj hj=>?_⟩;obtain⟨h1,h2,o,ho,hpre⟩:=mem_ready listed j hj;have hol:ops.toList[j]? =some o:=by simpa using ho
  have h3:listed.getD j true=listed.getD j false:=by simp only[Array.getD_eq_getD_getElem?,Array.getElem?_eq_getElem (show j<listed.size by omega),Option.getD_some]
  have hSj:S j=false:=by rw[<-hlS j h1,<-h3];exact h2
  have hpre':∀e∈o.after.toList,Region.binds .any e=true->S e.on=true:=λe he hb=>by have hlt:=K.edge j o hol e he hb;rw[<-hlS e.on (by omega)];exact hpre e he hb
  have D:=qvq HF K h1 hol hSj hcl hpre';have hdst:∀t,o.dst=some t->t<a.tmps.size:=by intro t ht;have hm:o∈ops.toList:=List.mem_of_getElem? hol;have:=List.all_eq_true.1 hd o hm;rw[ht]at this;rw[R.size];simpa using this
  have next:∀(a':Act)(w':World)(G':Gh),RelD w0 S0 nt n0 (addS S j) (appS' E ops.toList σ ev n0 (addS S j) ops.size) a' w' G'->KeepB base Gs G' hs (appS' E ops.toList σ ev n0 (addS S j) ops.size).h->wpAny P .any ops Q fuel (listed.setIfInBounds j true) a' w':=by
   intro a' w' G' R' KB';refine ih (listed.setIfInBounds j true) (addS S j) a' w' G' (by simpa using hsz) (λi hi=>?_) (λi hi=>?_) (by rw[qro hSj _ h1];omega) (λi y hy hi e he hb=>?_) R' KB'
   ·simp only[Array.getD_eq_getD_getElem?,addS];by_cases e:i=j;· subst e;rw[Array.getElem?_setIfInBounds_self_of_lt (by omega)];simp
    ·rw[Array.getElem?_setIfInBounds_ne (Ne.symm e)];have hb:Nat.beq i j=false:=by
      cases hb:Nat.beq i j with
      |false=>rfl
      |true=>exact absurd (Nat.eq_of_beq_eq_true hb) e
     rw[hb,Bool.or_false,<-hlS i hi,Array.getD_eq_getD_getElem?]
   ·have hb:Nat.beq i j=false:=by
     cases hb:Nat.beq i j with
     |false=>rfl
     |true=>have:=Nat.eq_of_beq_eq_true hb;omega
    simp[addS,hb,hout i hi]
   ·simp only[addS,Bool.or_eq_true]at hi|-;rcases hi with hi|hi
    · exact .inl (hcl i y hy hi e he hb)
    · have:=Nat.eq_of_beq_eq_true hi;subst this;rw[hol]at hy;cases hy;exact .inl (hpre' e he hb)
  have hadd:∀i,S i=true->addS S j i=true:=λi h=>by simp[addS,h]
  unfold wpOp;rw[ho];simp only;cases he:ev j with
  |none=>rw[he]at D;obtain⟨hw,happ⟩:=D;have hwt:=qil R.slots hw;rw[if_neg (by rw[hwt];simp)];refine next _ _ G ⟨by rw[happ];exact R.inv,by rw[happ];exact qeg R.slots (Keep.refl _ _ _) hdst rfl,λr hr=>(R.al r hr).imp id λ⟨i,k1,k2⟩=>⟨i,hadd i k1,k2⟩,by rw[qew];exact R.size,by rw[put_defers];exact R.defers⟩ (by rw[happ];exact KB)
  |some vh=>
   obtain⟨v,h'⟩:=vh;rw[he]at D;obtain⟨hw,h2',hout',happ⟩:=D;have hwt:=qil R.slots hw;rw[if_pos hwt];left;have hN:(appS' E ops.toList σ ev n0 S ops.size).n=n0+KN*ops.size:=by rw[app_n];exact hn
   have bnd:∀i r,i<ops.size->newR (n0+KN*i) r->r<n0+KN*ops.size:=λi r hi hr=>by have:=Nat.mul_le_mul_left KN (show i+1<=ops.size from hi);rw[Nat.mul_add]at this;unfold newR at hr;omega
   have ins:∀i,S i=true->i<ops.size:=λi hi=>by
    by_cases h:i<ops.size;· exact h
    · rw[hout i (by omega)]at hi;cases hi
   refine qqv (α:=St) (k:=some) O Fs R.inv R.slots (λr hr ha=>?_) (λr hr ha=>?_) o (n:=n0+KN*j) (qqt _ hout') λv' w' G' v2 h3 n' I' K' hv hn' ha hk=>?_
   ·unfold rngA at hr;rcases R.al r ha with k1|⟨i,k1,k2⟩
    · omega
    ·unfold newR at k2;have hij:i≠j:=λe=>by subst e;rw[hSj]at k1;cases k1
     rcases Nat.lt_or_gt_of_ne hij with hlt|hlt
     · have:=Nat.mul_le_mul_left KN (show i+1<=j from hlt);rw[Nat.mul_add]at this;omega
     · have:=Nat.mul_le_mul_left KN (show j+1<=i from hlt);rw[Nat.mul_add]at this;omega
   ·rw[hN]at hr;rcases R.al r ha with k1|⟨i,k1,k2⟩
    · have:n0<=n0+KN*ops.size:=Nat.le_add_right _ _;omega
    · have:=bnd i r (ins i k1) k2;omega
   ·simp only[Option.some.injEq,St.mk.injEq]at hk;obtain⟨hk1,hk2,hk3⟩:=hk;refine next _ _ G' ⟨?_,?_,λr hr=>?_,by rw[qew];exact R.size,by rw[put_defers];exact R.defers⟩ ?_
    · rw[happ];show Inv w0 S0 w' G' h2';rw[<-hk2];exact I'
    · rw[happ];show∀t,AVRep w' G' h2' _ (updO _ o.dst v t);rw[<-hk2,<-hk1];exact qeg R.slots K' hdst hv
    ·rcases ha r hr with k1|k1|k1
     · exact(R.al r k1).imp id λ⟨i,k1,k2⟩=>⟨i,hadd i k1,k2⟩
     · exact .inr ⟨j,by simp[addS],k1⟩
     · omega
    · rw[happ];show KeepB base Gs G' hs h2';rw[<-hk2];exact KB.trans (K'.b base)
theorem qpo(O:EnvOk P E)(Fs:FnsOk P E C I):qq4 P E C I:=by
 intro α nt base w0 S0 id ops st kx x a w G Q hd hr R hQ;rw[List.range_eq_range']at hr;obtain⟨σ,ev,g1,g2,g3,g4,g5⟩:=qkx ops.size 0 [] {st with n:=st.n+KN*ops.size} hr;rw[List.nil_append]at g5;simp only[Nat.zero_add]at g2 g3;obtain⟨p1,p2⟩:=qfo g5;have K:ChainOk E C st.n ops.size ops.toList σ ev:=by
  refine⟨by simp,λj hj=>g2 j (Nat.zero_le _) hj,λj hj he=>p1 j (Nat.zero_le _) (by omega) he,λa b hab hb ha hb'=>?_,λj y hy e he hb=>?_,λi j x y hx hy hij=>?_⟩;· have:=p2 a b (Nat.zero_le _) hab (by omega) ha hb';rw[qma,qma,Bool.or_eq_true]at this;exact this
  · have:=(qip g4 j y hy).1 e he hb;simpa using this
  · have:=(qip g4 j y hy).2 i x hx (by simpa using hij);simpa using this
 refine wp_region_any O.mixed ?_;have SW:Step w {w with drawn:=w.drawn+1} G G st.h st.h (λ_=>False):=⟨rfl,rfl,rfl,Nat.le_refl _,λ_ _ _=>rfl,λb x hx=>.inl ⟨x,hx⟩,R.inv.cells,rfl,rfl,λ_ h=>h,λ_ _=>⟨rfl,rfl,λ_ _ hb=>⟨hb,rfl⟩,λ_ _ hb=>hb⟩,λ_ hf=>hf.elim⟩;have I1:=SW.inv R.inv λ_ hf=>hf.elim;have K1:=SW.keep R.inv;have h0:appS' E ops.toList σ ev st.n (λ_=>false) ops.size=σ 0:=by
  have:∀k,appS' E ops.toList σ ev st.n (λ_=>false) k=σ 0:=by
   intro k;induction k with
   |zero=>rfl
   |succ k ih=>simp only[appS',cond_false];exact ih
  exact this _
 have cz:∀k,cntS (λ_=>false) k=0:=by
  intro k;induction k with
  |zero=>rfl
  |succ k ih=>simp only[cntS,ih];rfl
 refine qy6 (base:=base) (w0:=w0) (S0:=S0) (nt:=nt) (Gs:=G) (hs:=st.h) O Fs hd K (by rw[g1]) ?_ ops.size (Array.replicate ops.size false) (λ_=>false) a _ G (by simp) (λi hi=>?_) (λ_ _=>rfl) (by rw[cz];omega) (λ_ _ _ hf=>by cases hf) ?_ ?_
 ·intro a' w' G' R' KB;refine hQ (σ ops.size) a' w' G' g3 ⟨R'.inv,R'.slots,λr hr=>?_,R'.size,R'.defers⟩ ?_ KB
  ·have hn:(σ ops.size).n=st.n+KN*ops.size:=by rw[<-qh0 Fs.form K ops.size (Nat.le_refl _) (S:=λ_=>true) (λ_ _=>rfl),app_n,g1]
   rw[hn];rcases R'.al r hr with k1|⟨i,k1,k2⟩
   · omega
   ·have hi:i<ops.size:=by simpa using k1
    have:=Nat.mul_le_mul_left KN (show i+1<=ops.size from hi);rw[Nat.mul_add]at this;unfold newR at k2;omega
  ·have hn:(σ ops.size).n=st.n+KN*ops.size:=by rw[<-qh0 Fs.form K ops.size (Nat.le_refl _) (S:=λ_=>true) (λ_ _=>rfl),app_n,g1]
   omega
 · simp only[Array.getD_eq_getD_getElem?,Array.getElem?_replicate];split<;>rfl
 · rw[h0,g1];exact⟨I1,λt=>K1.av _ (R.slots t),λr hr=>.inl (R.al r hr),R.size,R.defers⟩
 · rw[h0,g1];exact KeepB.refl _ _ _
end
def fiB(fi:Fi):Bool:=fi.rs.all (mvOk false)&&((bxPs fi.ps).all (λl=>l.all (mvOk1 false)&&Nat.ble l.length MV)&&(Nat.ble (fi.ps.map wide).sum MV&&fi.ps.all pdOk))
section
variable{P:Program}{E:Env}
theorem qo9{fi:Fi}(h:fiB fi=true):FiOk fi/\(fi.ps.map wide).sum<=MV/\fi.ps.all pdOk=true:=by unfold fiB at h;simp only[Bool.and_eq_true]at h;obtain⟨h1,h2,h3,h4⟩:=h;refine⟨⟨h1,λl hl=>?_⟩,Nat.le_of_ble_eq_true h3,h4⟩;have:=List.all_eq_true.1 h2 l hl;rw[Bool.and_eq_true]at this;exact⟨this.1,Nat.le_of_ble_eq_true this.2⟩
theorem qxv(C:Orc)(lf:Nat):qs5 P (inlK C E lf 0):=by intro α f args h n kk x hx;cases hx
end
theorem qas{h:Hp}:∀(f:Nat)(vs:List AV)(seen:List Nat),seen.Nodup->(reach h f vs seen).Nodup
|0,_,_,H=>H
|_+1,[],_,H=>H
|f+1,v::vs,seen,H=>by
 have add:∀r,memN r seen=false->(seen++[r]).Nodup:=λr hr=>by rw[List.nodup_append];refine⟨H,by simp,λa ha b hb e=>?_⟩;simp at hb;subst hb;subst e;rw[qbn.2 ha]at hr;cases hr
 have addB:∀r,(bif memN r seen then seen else seen++[r]).Nodup:=λr=>by
  cases e:memN r seen with
  |true=>exact H
  |false=>exact add r e
 cases v with
 |rf r _ _ _=>exact qas f _ _ (addB r)
 |rp r _ _ _ _=>exact qas f _ _ (addB r)
 |bp r j=>
  simp only[reach];cases e:memN r seen with
  |true=>exact qas f _ _ H
  |false=>
   simp only[cond_false];cases h r with
   |box cs=>exact qas f _ _ (add r e)
   |dead=>exact qas f _ _ (add r e)
   |row _ _ _ _ _=>exact qas f _ _ (add r e)
 |ag cs=>exact qas f _ _ H
 |tu cs=>exact qas f _ _ H
 |fn _ cs=>exact qas f _ _ H
 |_=>exact qas f _ _ H
theorem qp1{l:List Nat}(p:Nat->Bool)(H:l.Nodup):(l.filter p++l.filter λr=>!(p r)).Nodup:=by rw[List.nodup_append];refine⟨H.filter _,H.filter _,λa ha b hb e=>?_⟩;subst e;have h1:=(List.mem_filter.1 ha).2;have h2:=(List.mem_filter.1 hb).2;simp only[h1]at h2;cases h2
theorem qg9:∀{ks:List Nat}{j i:Nat},ks.Nodup->(hj:j<ks.length)->idxN ks[j] ks i=some (i+j)
|[],j,_,_,hj=>by simp at hj
|k::ks,0,i,_,_=>by simp[idxN]
|k::ks,j+1,i,hn,hj=>by
 rw[List.nodup_cons]at hn;simp only[List.getElem_cons_succ,idxN];have hj':j<ks.length:=by simpa using hj
 have hne:Nat.beq ks[j] k=false:=by
  cases e2:Nat.beq ks[j] k with
  |false=>rfl
  |true=>exact absurd (Nat.eq_of_beq_eq_true e2▸List.getElem_mem hj') hn.1
 rw[hne,cond_false,qg9 hn.2 hj'];congr 1;omega
theorem qem:∀{l:List Nat}{i:Nat}(hi:i<l.length),getN l i=l[i]
|[],i,hi=>by simp at hi
|x::l,0,_=>rfl
|x::l,i+1,hi=>by simp only[getN,List.getElem_cons_succ];exact qem (by simpa using hi)
section
variable{w0 w w':World}{S0:Nat->Prop}{G G':Gh}{h h':Hp}{P:Program}{E:Env}{C:Orc}
mutual
theorem kvs_av{k:KV}(hk:k.v=G.kv.v):∀(x:AV){v:Value},AVRep w G h v x->AVRep w (G.kvs k) h v x
|.z,_,H=>H
|.u,_,H=>H
|.un,_,H=>H
|.b _,_,H=>H
|.i _ _,_,H=>H
|.s _,_,H=>H
|.nl _ _,_,H=>H
|.np,_,H=>H
|.mp _,_,H=>H
|.ro k' m cs l,v,H=>⟨H.1,H.2.1,λh'=>by show v=k.v k';rw[hk];exact H.2.2 h'⟩
|.rf r p ver sub,v,H=>H
|.bp r j,v,H=>H
|.rp r p ver i j,v,H=>H
|.cp m cs x j,v,H=>H
|.ag cs,v,H=>by obtain⟨vs,h1,h2⟩:=H;exact⟨vs,h1,qhf hk cs h2⟩
|.tu cs,v,H=>by obtain⟨vs,h1,h2⟩:=H;exact⟨vs,h1,qhf hk cs h2⟩
|.fn f cs,v,H=>by obtain⟨vs,h1,h2⟩:=H;exact⟨vs,h1,qhf hk cs h2⟩
theorem qhf{k:KV}(hk:k.v=G.kv.v):∀(xs:List AV){vs:List Value},AVReps w G h vs xs->AVReps w (G.kvs k) h vs xs
|[],vs,H=>by cases vs<;>first|trivial|exact H.elim
|x::xs,vs,H=>by
 cases vs with
 |nil=>exact H.elim
 |cons v vs=>exact⟨kvs_av hk x H.1,qhf hk xs H.2⟩
end
structure OutOk(w':World)(G2 G3:Gh)(h2 h3:Hp)(f s:Nat->Nat):Prop where
 hp:∀y,G2.al y->h3 (f y)=outB f s y (h2 y)
 al:∀y,G2.al y->G3.al (f y)
 φ:∀y,G2.al y->h2 y≠.dead->G3.φ (f y)=G2.φ y
 own:∀y b p,G2.own b=some (.blk y p)->G3.own b=some (.blk (f y) p)
 ro:G3.ro=G2.ro
 kv:G3.kv.v=G2.kv.v
mutual
theorem OutOk.av{G2 G3:Gh}{h2 h3:Hp}{f s:Nat->Nat}(O:OutOk w' G2 G3 h2 h3 f s):∀(x:AV){v:Value},AVRep w' G2 h2 v x->AVRep w' G3 h3 v (outA f s x)
|.z,_,H=>H
|.u,_,H=>H
|.un,_,H=>H
|.b _,_,H=>H
|.i _ _,_,H=>H
|.s _,_,H=>H
|.nl _ _,_,H=>H
|.np,_,H=>H
|.mp _,_,H=>by obtain⟨b,es,clock,g1,g2,g3⟩:=H;exact⟨b,es,clock,g1,by rw[O.ro];exact g2,g3⟩
|.ro k m cs l,v,H=>by
 refine⟨?_,H.2.1,λhk=>?_⟩;· rw[O.ro];exact H.1
 · rw[O.kv];exact H.2.2 hk
|.rf r p ver sub,v,H=>by
 obtain⟨g1,g2,g3⟩:=H;refine⟨g1,O.al r g2,?_⟩;rw[O.hp r g2];cases e:h2 r with
 |dead=>trivial
 |box _=>trivial
 |row m cs l v' z=>rw[e]at g3;refine⟨Nat.add_le_add_left g3.1 _,λhp=>?_⟩;obtain⟨hv,m',cs',l',k1,k2,k3,k4⟩:=g3.2 (hp.imp id (λe=>by omega));refine⟨hv,m',cs',l',?_,k2,k3,k4⟩;rw[O.φ r g2 (by rw[e];simp)];exact NavH.moved p (λb ρ hb _=>⟨O.own r b ρ hb,rfl⟩) k1
|.bp r j,v,H=>by
 obtain⟨g1,g2,g3⟩:=H;refine⟨g1,O.al r g2,?_⟩;rw[O.hp r g2];cases e:h2 r with
 |dead=>trivial
 |row _ _ _ _ _=>trivial
 |box _=>rw[e]at g3;obtain⟨b,k1,k2⟩:=g3;exact⟨b,by rw[O.φ r g2 (by rw[e];simp)];exact k1,k2⟩
|.rp r p ver i j,v,H=>by
 obtain⟨g1,g2,g3⟩:=H;refine⟨g1,O.al r g2,?_⟩;rw[O.hp r g2];cases e:h2 r with
 |dead=>trivial
 |box _=>trivial
 |row m cs l v' z=>rw[e]at g3;refine⟨Nat.add_le_add_left g3.1 _,λhp=>?_⟩;obtain⟨hv,m',cs',l',b,off,n,cap,k1,k2,k3,k4⟩:=g3.2 (hp.imp id (λe=>by omega));refine⟨hv,m',cs',l',b,off,n,cap,?_,k2,k3,k4⟩;rw[O.φ r g2 (by rw[e];simp)];exact NavH.moved p (λb ρ hb _=>⟨O.own r b ρ hb,rfl⟩) k1
|.cp m cs x j,v,H=>by obtain⟨b,o,c,ty,fz,i,g1,g2,g3,g4,g5⟩:=H;exact⟨b,o,c,ty,fz,i,g1,by rw[O.ro];exact g2,g3,by rw[O.ro];exact g4,g5⟩
|.ag cs,v,H=>by obtain⟨vs,g1,g2⟩:=H;exact⟨vs,g1,OutOk.avs O cs g2⟩
|.tu cs,v,H=>by obtain⟨vs,g1,g2⟩:=H;exact⟨vs,g1,OutOk.avs O cs g2⟩
|.fn f cs,v,H=>by obtain⟨vs,g1,g2⟩:=H;exact⟨vs,g1,OutOk.avs O cs g2⟩
theorem OutOk.avs{G2 G3:Gh}{h2 h3:Hp}{f s:Nat->Nat}(O:OutOk w' G2 G3 h2 h3 f s):∀(xs:List AV){vs:List Value},AVReps w' G2 h2 vs xs->AVReps w' G3 h3 vs (outAs f s xs)
|[],vs,H=>by cases vs<;>first|trivial|exact H.elim
|x::xs,vs,H=>by
 cases vs with
 |nil=>exact H.elim
 |cons v vs=>exact⟨OutOk.av O x H.1,OutOk.avs O xs H.2⟩
end
end
def Gh.back(G G2:Gh)(seen gone:List Nat)(n n2:Nat):Gh:=
 {
  φ:=λx=>bif Nat.ble n x then G2.φ (x-n+seen.length)else G.φ x
  ro:=G2.ro
  kv:=G.kv
  al:=λx=>G.al x\/(n<=x/\x<n+(n2-seen.length)/\G2.al (x-n+seen.length))
  own:=λb=>match G2.own b with
  |some (.blk x p)=>some (.blk (toOut seen seen.length n x) p)
  |some (.tmp _ _)=>none
  |none=>match G.own b with
   |some (.blk r p)=>bif memN r (seen++gone)then none else some (.blk r p)
   |_=>none}
section
variable{w0 w w':World}{S0:Nat->Prop}{G G2:Gh}{h h2:Hp}{seen gone:List Nat}{n n2:Nat}
theorem back_in{b y:Nat}{p:Path}(e:G2.own b=some (.blk y p)):(G.back G2 seen gone n n2).own b=some (.blk (toOut seen seen.length n y) p):=by simp only[Gh.back,e]
theorem qn3{b r:Nat}{p:Path}(e:G2.own b=none)(e2:G.own b=some (.blk r p))(hr:r∉seen++gone):(G.back G2 seen gone n n2).own b=some (.blk r p):=by
 have:memN r (seen++gone)=false:=by
  cases e3:memN r (seen++gone)with
  |false=>rfl
  |true=>exact absurd (qbn.1 e3) hr
 simp only[Gh.back,e,e2,this,cond_false]
theorem qck{b:Nat}{x:Lab}(hb:(G.back G2 seen gone n n2).own b=some x):(∃y p,G2.own b=some (.blk y p)/\x=.blk (toOut seen seen.length n y) p)\/(∃r p,G2.own b=none/\G.own b=some (.blk r p)/\r∉seen++gone/\x=.blk r p):=by
 simp only[Gh.back]at hb;have hc:G2.own b=none\/∃y,G2.own b=some y:=by cases G2.own b<;>simp
 rcases hc with e|⟨y,e⟩
 ·rw[e]at hb;simp only at hb;have hc2:G.own b=none\/∃y,G.own b=some y:=by cases G.own b<;>simp
  rcases hc2 with e2|⟨z,e2⟩
  · rw[e2]at hb;cases hb
  ·rw[e2]at hb;cases z with
   |tmp _ _=>cases hb
   |blk r p=>
    simp only at hb;cases e3:memN r (seen++gone)with
    |true=>rw[e3]at hb;cases hb
    |false=>rw[e3]at hb;cases hb;exact .inr ⟨r,p,e,e2,(λhm=>by rw[qbn.2 hm]at e3;cases e3),rfl⟩
 ·rw[e]at hb;cases y with
  |tmp _ _=>cases hb
  |blk y p=>cases hb;exact .inl ⟨y,p,e,rfl⟩
theorem qus(Iv:Inv w0 S0 w G h)(hn:∀r,n<=r->¬G.al r)(hnd:(seen++gone).Nodup)(hal:∀r∈seen++gone,alive (h r)=true)(I2:Inv w (λb=>∃r p,r∈seen++gone/\G.own b=some (.blk r p)) w' G2 h2)(hal2:∀r,G2.al r->r<n2)(hm:seen.length<=n2)(K0:∀i(hi:i<seen.length),G2.al i/\TurnB (renB h 0 (seen++gone) (h seen[i])) (h2 i)/\(h2 i≠.dead->G2.φ i=G.φ seen[i]))(Kro:∀b,G.ro b->G2.ro b)(Kkv:G2.kv=⟨G.kv.v,G.ro⟩):Inv w0 S0 w' (G.back G2 seen gone n n2) (merge h seen gone seen.length n h2)/\Keep w w' G (G.back G2 seen gone n n2) h (merge h seen gone seen.length n h2)/\OutOk w' G2 (G.back G2 seen gone n n2) h2 (merge h seen gone seen.length n h2) (toOut seen seen.length n) (shOf h seen seen.length):=by
 have liveAl:∀r,alive (h r)=true->G.al r:=λr hr=>by
  have R:=Iv.rep r;cases e:h r with
  |dead=>rw[e]at hr;cases hr
  |box _=>rw[e]at R;exact R.1
  |row _ _ _ _ _=>rw[e]at R;exact R.1
 have liveLt:∀r,alive (h r)=true->r<n:=λr hr=>Nat.lt_of_not_le λhle=>hn r hle (liveAl r hr);have seenLt:∀r∈seen,r<n:=λr hr=>liveLt r (hal r (List.mem_append_left _ hr));have goneLt:∀r∈gone,r<n:=λr hr=>liveLt r (hal r (List.mem_append_right _ hr));have nodS:seen.Nodup:=(List.nodup_append.1 hnd).1;have Fin:∀y(hy:y<seen.length),toOut seen seen.length n y=seen[y]:=λy hy=>by
  have:Nat.blt y seen.length=true:=by simpa using hy
  simp only[toOut,this,cond_true];exact qem hy
 have Fout:∀y,seen.length<=y->toOut seen seen.length n y=n+(y-seen.length):=λy hy=>by
  have:Nat.blt y seen.length=false:=by
   cases e:Nat.blt y seen.length with
   |false=>rfl
   |true=>
    have:y<seen.length:=by simpa using e
    omega
  simp only[toOut,this,cond_false]
 have Sin:∀y(hy:y<seen.length),shOf h seen seen.length y=verOf (h seen[y]):=λy hy=>by
  have:Nat.blt y seen.length=true:=by simpa using hy
  simp only[shOf,this,cond_true];rw[qem hy]
 have mSeen:∀i(hi:i<seen.length),merge h seen gone seen.length n h2 seen[i]=outB (toOut seen seen.length n) (shOf h seen seen.length) i (h2 i):=λi hi=>by unfold merge;rw[qg9 nodS hi,Nat.zero_add]
 have mNone:∀x,x∉seen->idxN x seen 0=none:=λx hx=>by
  cases e:idxN x seen 0 with
  |none=>rfl
  |some j=>obtain⟨k,_,hk⟩:=qjs e;exact absurd (List.mem_of_getElem? hk) hx
 have memF:∀{x:Nat}{l:List Nat},x∉l->memN x l=false:=λ{x l} hx=>by
  cases e:memN x l with
  |false=>rfl
  |true=>exact absurd (qbn.1 e) hx
 have mGone:∀x,x∉seen->x∈gone->merge h seen gone seen.length n h2 x=.dead:=λx h1 h2=>by unfold merge;rw[mNone x h1,qbn.2 h2];rfl
 have mNew:∀x,n<=x->merge h seen gone seen.length n h2 x=outB (toOut seen seen.length n) (shOf h seen seen.length) (x-n+seen.length) (h2 (x-n+seen.length)):=λx hx=>by unfold merge;rw[mNone x (λhm=>by have:=seenLt x hm;omega),memF (λhm=>by have:=goneLt x hm;omega)];have:Nat.ble n x=true:=Nat.ble_eq_true_of_le hx;simp only[this,cond_false,cond_true]
 have mOld:∀x,x∉seen++gone->x<n->merge h seen gone seen.length n h2 x=h x:=λx hx hlt=>by
  unfold merge;rw[mNone x (λhm=>hx (List.mem_append_left _ hm)),memF (λhm=>hx (List.mem_append_right _ hm))];have:Nat.ble n x=false:=by
   cases e:Nat.ble n x with
   |false=>rfl
   |true=>have:=Nat.le_of_ble_eq_true e;omega
  simp only[this,cond_false]
 have szOwn:∀b x,G.own b=some x->b<w.heap.size:=λb x hb=>by obtain⟨c,ty,fz,hc,_⟩:=Iv.cells b x hb;exact(Array.getElem?_eq_some_iff.1 hc).1
 have sameOut:∀b r p,G.own b=some (.blk r p)->r∉seen++gone->G2.own b=none/\w'.heap[b]? =w.heap[b]? :=λb r p hb hr=>by
  have hS:¬∃r p,r∈seen++gone/\G.own b=some (.blk r p):=by rintro⟨r',p',h1,h2⟩;rw[hb]at h2;cases h2;exact hr h1
  refine⟨?_,I2.same b (szOwn b _ hb) hS⟩;cases e:G2.own b with
  |none=>rfl
  |some x=>
   rcases I2.mine b x e with h1|h1
   · exact absurd h1 hS
   · have:=szOwn b _ hb;omega
 have sameRo:∀b,G.ro b->w'.heap[b]? =w.heap[b]? :=λb hb=>I2.same b (Iv.roLt b hb) (by rintro⟨r,p,_,h1⟩;rw[Iv.roOwn b hb]at h1;cases h1);have O:OutOk w' G2 (G.back G2 seen gone n n2) h2 (merge h seen gone seen.length n h2) (toOut seen seen.length n) (shOf h seen seen.length):=by
  refine⟨λy hy=>?_,λy hy=>?_,λy hy hd=>?_,λy b p hb=>back_in hb,rfl,?_⟩
  ·by_cases hlt:y<seen.length;· rw[Fin y hlt,mSeen y hlt]
   · have hle:=Nat.le_of_not_lt hlt;rw[Fout y hle,mNew _ (Nat.le_add_right _ _)];rw[show n+(y-seen.length)-n+seen.length=y by omega]
  ·by_cases hlt:y<seen.length;· rw[Fin y hlt];exact .inl (liveAl _ (hal _ (List.mem_append_left _ (List.getElem_mem hlt))))
   · have hle:=Nat.le_of_not_lt hlt;rw[Fout y hle];have:=hal2 y hy;refine .inr ⟨by omega,by omega,?_⟩;rw[show n+(y-seen.length)-n+seen.length=y by omega];exact hy
  ·by_cases hlt:y<seen.length
   ·rw[Fin y hlt,(K0 y hlt).2.2 hd];have hl:=seenLt _ (List.getElem_mem hlt);have:Nat.ble n seen[y]=false:=by
     cases e:Nat.ble n seen[y]with
     |false=>rfl
     |true=>have:=Nat.le_of_ble_eq_true e;omega
    simp only[Gh.back,this,cond_false]
   · have hle:=Nat.le_of_not_lt hlt;rw[Fout y hle];have:Nat.ble n (n+(y-seen.length))=true:=Nat.ble_eq_true_of_le (by omega);simp only[Gh.back,this,cond_true];rw[show n+(y-seen.length)-n+seen.length=y by omega]
  · show G.kv.v=G2.kv.v;rw[Kkv]
 have K:Keep w w' G (G.back G2 seen gone n n2) h (merge h seen gone seen.length n h2):=by
  refine⟨λb hb=>⟨Kro b hb,sameRo b hb⟩,rfl,λr hr=>⟨.inl hr,?_⟩⟩;have hlt:r<n:=Nat.lt_of_not_le λhle=>hn r hle hr;have hφ:(G.back G2 seen gone n n2).φ r=G.φ r:=by
   have:Nat.ble n r=false:=by
    cases e:Nat.ble n r with
    |false=>rfl
    |true=>have:=Nat.le_of_ble_eq_true e;omega
   simp only[Gh.back,this,cond_false]
  by_cases hs:r∈seen
  ·obtain⟨i,hi,rfl⟩:=List.mem_iff_getElem.1 hs;rw[mSeen i hi];have T:=(K0 i hi).2.1;cases e2:h2 i with
   |dead=>cases h seen[i]<;>trivial
   |box cs=>
    rw[e2]at T;cases e:h seen[i]with
    |dead=>rw[e]at T;exact T.elim
    |row _ _ _ _ _=>rw[e]at T;exact T.elim
    |box ds=>exact hφ
   |row m' cs' l' v' z'=>
    rw[e2]at T;cases e:h seen[i]with
    |dead=>rw[e]at T;exact T.elim
    |box _=>rw[e]at T;exact T.elim
    |row m cs l v z=>rw[e]at T;refine⟨T.1,T.2,hφ,.inr ?_⟩;rw[Sin i hi,e];show v<v+1+v';omega
  ·by_cases hg:r∈gone;· rw[mGone r hs hg];cases h r<;>trivial
   ·have hL:r∉seen++gone:=λhm=>(List.mem_append.1 hm).elim hs hg;rw[mOld r hL hlt];cases e:h r with
    |dead=>trivial
    |box _=>exact hφ
    |row m cs l v z=>refine⟨rfl,rfl,hφ,.inl ⟨rfl,rfl,λb p hb=>?_⟩⟩;obtain⟨h1,h2⟩:=sameOut b r p hb hL;exact⟨qn3 h1 hb hL,h2⟩
 refine⟨⟨I2.os.trans Iv.os,I2.tape.trans Iv.tape,I2.output.trans Iv.output,Nat.le_trans Iv.size I2.size,λb hb hS=>?_,λb x hb=>?_,λb x hb=>?_,λb hb=>?_,I2.roLt,λb hb=>?_,λx=>?_⟩,K,O⟩
 ·rw[I2.same b (Nat.lt_of_lt_of_le hb Iv.size) (by
   rintro⟨r,p,_,h1⟩;rcases Iv.mine b _ h1 with h2|h2
   · exact hS h2
   · omega)]
  exact Iv.same b hb hS
 ·rcases qck hb with⟨y,p,h1,_⟩|⟨r,p,_,h1,_,_⟩
  ·rcases I2.mine b _ h1 with⟨r,p,_,h2⟩|h2
   · exact Iv.mine b _ h2
   · exact .inr (Nat.le_trans Iv.size h2)
  · exact Iv.mine b _ h1
 ·rcases qck hb with⟨y,p,h1,_⟩|⟨r,p,_,h1,h2,_⟩
  · exact I2.cells b _ h1
  · rw[(sameOut b r p h1 h2).2];exact Iv.cells b _ h1
 ·show(G.back G2 seen gone n n2).own b=none;cases e:(G.back G2 seen gone n n2).own b with
  |none=>rfl
  |some x=>
   exfalso;have hb':G2.ro b:=hb;rcases qck e with⟨y,p,h1,_⟩|⟨r,p,h0,h1,h2,_⟩
   · rw[I2.roOwn b hb']at h1;cases h1
   ·have:=I2.roIn b hb';rw[Kkv]at this;rcases this with h3|⟨r',p',h3,h4⟩|h3
    · rw[Iv.roOwn b h3]at h1;cases h1
    · rw[h1]at h4;cases h4;exact h2 h3
    · have:=szOwn b _ h1;omega
 ·have:=I2.roIn b hb;rw[Kkv]at this;rcases this with h3|⟨r',p',h3,h4⟩|h3
  · exact Iv.roIn b h3
  · exact .inr (Iv.mine b _ h4)
  · exact .inr (.inr (Nat.le_trans Iv.size h3))
 ·have inside:∀y x,toOut seen seen.length n y=x->merge h seen gone seen.length n h2 x=outB (toOut seen seen.length n) (shOf h seen seen.length) y (h2 y)->(∀y',toOut seen seen.length n y'=x->y'=y)->(∀b r p,G2.own b=none->G.own b=some (.blk r p)->r∉seen++gone->r≠x)->qs8 w' (G.back G2 seen gone n n2) (merge h seen gone seen.length n h2) x (merge h seen gone seen.length n h2 x):=by
   intro y x hF hx inj none';rw[hx];have R:=I2.rep y;cases e:h2 y with
   |dead=>
    rw[e]at R;intro b p hb;rcases qck hb with⟨y',p',h1,h2⟩|⟨r,p',h0,h1,h2,h3⟩
    · cases h2;have:=inj y' rfl;subst this;exact R b _ h1
    · cases h3;exact none' b x p h0 h1 h2 rfl
   |box cs=>rw[e]at R;obtain⟨ha,b,c,ty,fz,g1,g2,g3,g4,g5⟩:=R;refine⟨by rw[<-hF];exact O.al y ha,b,c,ty,fz,?_,by rw[<-hF];exact O.own y b _ g2,g3,O.avs cs g4,g5⟩;rw[<-hF,O.φ y ha (by rw[e];simp)];exact g1
   |row m cs l v z=>rw[e]at R;obtain⟨ha,g1,g2⟩:=R;refine⟨by rw[<-hF];exact O.al y ha,?_,g2⟩;rw[<-hF,O.φ y ha (by rw[e];simp)];exact RowRep.moved (π:=[]) ⟨λhf=>False.elim hf,λb ρ hb=>⟨O.own y b ρ hb,rfl⟩⟩ g1
  have Fseen:∀y' x,toOut seen seen.length n y'=x->x<n->∃hy:y'<seen.length,seen[y']=x:=λy' x he hx=>by
   by_cases hlt:y'<seen.length;· exact⟨hlt,by rw[<-Fin y' hlt];exact he⟩
   · rw[Fout y' (Nat.le_of_not_lt hlt)]at he;omega
  by_cases hs:x∈seen;· obtain⟨i,hi,rfl⟩:=List.mem_iff_getElem.1 hs;refine inside i _ (Fin i hi) (mSeen i hi) (λy' hy'=>?_) (λb r p _ _ hr he=>hr (he▸List.mem_append_left _ hs));obtain⟨hlt,he⟩:=Fseen y' _ hy' (seenLt _ hs);have h1:=qg9 (i:=0) nodS hlt;rw[he,qg9 nodS hi]at h1;simp at h1;exact h1.symm
  ·by_cases hx:n<=x
   ·refine inside (x-n+seen.length) x (by rw[Fout _ (by omega)];omega) (mNew x hx) (λy' hy'=>?_) (λb r p _ h1 _ he=>?_)
    ·by_cases hlt:y'<seen.length;· rw[Fin y' hlt]at hy';exact absurd (hy'▸List.getElem_mem hlt) hs
     · rw[Fout y' (Nat.le_of_not_lt hlt)]at hy';omega
    ·subst he;have R:=Iv.rep r;cases e:h r with
     |dead=>rw[e]at R;exact R b p h1
     |box _=>rw[e]at R;exact hn r hx R.1
     |row _ _ _ _ _=>rw[e]at R;exact hn r hx R.1
   ·have hlt:=Nat.lt_of_not_le hx;by_cases hg:x∈gone
    ·rw[mGone x hs hg];intro b p hb;rcases qck hb with⟨y',p',h1,h2⟩|⟨r,p',h0,h1,h2,h3⟩
     · cases h2;obtain⟨hy,he⟩:=Fseen y' _ rfl hlt;exact hs (he▸List.getElem_mem hy)
     · cases h3;exact h2 (List.mem_append_right _ hg)
    ·have hL:x∉seen++gone:=λhm=>(List.mem_append.1 hm).elim hs hg;have hφ:(G.back G2 seen gone n n2).φ x=G.φ x:=by
      have:Nat.ble n x=false:=by
       cases e:Nat.ble n x with
       |false=>rfl
       |true=>exact absurd (Nat.le_of_ble_eq_true e) hx
      simp only[Gh.back,this,cond_false]
     rw[mOld x hL hlt];have R:=Iv.rep x;cases e:h x with
     |dead=>
      rw[e]at R;intro b p hb;rcases qck hb with⟨y',p',h1,h2⟩|⟨r,p',h0,h1,h2,h3⟩
      · cases h2;obtain⟨hy,he⟩:=Fseen y' _ rfl hlt;exact hs (he▸List.getElem_mem hy)
      · cases h3;exact R b _ h1
     |box cs=>rw[e]at R;obtain⟨ha,b,c,ty,fz,g1,g2,g3,g4,g5⟩:=R;obtain⟨k1,k2⟩:=sameOut b x _ g2 hL;exact⟨.inl ha,b,c,ty,fz,hφ.trans g1,qn3 k1 g2 hL,k2.trans g3,K.avs cs g4,g5⟩
     |row m cs l v z=>rw[e]at R;obtain⟨ha,g1,g2⟩:=R;refine⟨.inl ha,?_,g2⟩;rw[hφ];exact RowRep.moved (π:=[]) ⟨λhf=>False.elim hf,λb ρ hb=>by obtain⟨k1,k2⟩:=sameOut b x ρ hb hL;exact⟨qn3 k1 hb hL,k2⟩⟩ g1
end
section
variable{P:Program}{E:Env}
theorem qxu(O:EnvOk P E){C:Orc}{lf d:Nat}(ev:∀fi c base,qn6 P (Fi.fn fi).ntmps base c λα st k=>evK C (inlK C E lf d) E lf fi base c α st k):qs5 P (inlK C E lf (d+1)):=by
 intro α f args h n kk x hx w0 S0 w G us Iv hn hargs;simp only[inlK]at hx;cases hfi:E.fi f with
 |none=>rw[hfi]at hx;cases hx
 |some fi=>
  rw[hfi]at hx;simp only at hx;cases hb:fi.fn.body with
  |none=>rw[hb]at hx;cases hx
  |some c=>
   rw[hb]at hx;simp only at hx;cases hg:(fi.inl&&Nat.ble args.length fi.fn.ntmps)with
   |false=>rw[hg]at hx;cases hx
   |true=>
    rw[hg,cond_true]at hx;rw[Bool.and_eq_true]at hg;have hnt:=Nat.le_of_ble_eq_true hg.2;have hnd0:((rch h args).filter λr=>alive (h r)).Nodup:=(qas _ _ _ List.nodup_nil).filter _;have hal0:∀r∈(rch h args).filter λr=>alive (h r),alive (h r)=true:=λr hr=>(List.mem_filter.1 hr).2;generalize(rch h args).filter (λr=>alive (h r))=all at hx hnd0 hal0;generalize rchD 100000 args=dir at hx;have hnd:=qp1 (λr=>allS fi||(memN r dir||isBox (h r))) hnd0;have hal:∀r∈all.filter (λr=>allS fi||(memN r dir||isBox (h r)))++all.filter (λr=>!(allS fi||(memN r dir||isBox (h r)))),alive (h r)=true:=λr hr=>by
     rcases List.mem_append.1 hr with h1|h1
     · exact hal0 r (List.mem_filter.1 h1).1
     · exact hal0 r (List.mem_filter.1 h1).1
    generalize all.filter (λr=>allS fi||(memN r dir||isBox (h r)))=seen at hx hnd hal;generalize all.filter (λr=>!(allS fi||(memN r dir||isBox (h r))))=gone at hx hnd hal;have hlen:(mapL (λr=>renB h 0 (seen++gone) (h r)) (seen++gone)).length=(seen++gone).length:=by rw[qex];simp
    have hat:∀x(hx:x<(seen++gone).length),atL (mapL (λr=>renB h 0 (seen++gone) (h r)) (seen++gone)) x=renB h 0 (seen++gone) (h (seen++gone)[x]):=by intro x hx;rw[qgu,qex,List.getD_eq_getElem?_getD,List.getElem?_map,List.getElem?_eq_getElem hx];rfl
    have hat':∀x,(seen++gone).length<=x->atL (mapL (λr=>renB h 0 (seen++gone) (h r)) (seen++gone)) x=.dead:=by intro x hx;rw[qgu,List.getD_eq_getElem?_getD,List.getElem?_eq_none (by rw[hlen];exact hx)];rfl
    have hold:∀x(hx:x<(seen++gone).length),oldN 0 (seen++gone) x=(seen++gone)[x]:=λx hx=>by unfold oldN;rw[if_neg (Nat.not_lt_zero _),Nat.sub_zero,List.getD_eq_getElem?_getD,List.getElem?_eq_getElem hx];rfl
    have hren:∀x(hx:x<(seen++gone).length),renN 0 (seen++gone) (seen++gone)[x]=some x:=λx hx=>by
     unfold renN;have:Nat.blt (seen++gone)[x] 0=false:=by
      cases e:Nat.blt (seen++gone)[x] 0 with
      |false=>rfl
      |true=>simp at e
     rw[this,cond_false,qg9 hnd hx,Nat.zero_add]
    have hh:∀r x,renN 0 (seen++gone) r=some x->atL (mapL (λr=>renB h 0 (seen++gone) (h r)) (seen++gone)) x=renB h 0 (seen++gone) (h r):=by intro r x hx;obtain⟨h1,h2⟩:=qd5 hx;rw[Nat.zero_add]at h2;rw[hold x h2]at h1;rw[hat x h2,h1]
    have I1:=qty (base:=0) (seen:=seen++gone) (h':=atL (mapL (λr=>renB h 0 (seen++gone) (h r)) (seen++gone))) Iv hh (λx hx=>by
     by_cases hlt:x<(seen++gone).length;· rw[hold x hlt];exact hren x hlt
     · exact absurd (hat' x (by omega)) hx)
    have A1:=qfi (base:=0) (seen:=seen++gone) (h':=atL (mapL (λr=>renB h 0 (seen++gone) (h r)) (seen++gone))) (w:=w) (G:=G) hh args hargs;generalize hh1:atL (mapL (λr=>renB h 0 (seen++gone) (h r)) (seen++gone))=h1 at hx hat hh I1 A1 hat';have I1':Inv w (λb=>∃r p,r∈seen++gone/\G.own b=some (.blk r p)) w ((G.ren 0 (seen++gone)).kvs ⟨G.kv.v,G.ro⟩) h1:=by
     refine⟨rfl,rfl,rfl,Nat.le_refl _,λ_ _ _=>rfl,λb y hy=>?_,I1.cells,I1.roOwn,I1.roLt,λb hb=>.inl hb,λr=>?_⟩;· obtain⟨r,x,p,h1,h2,_⟩:=qi8 hy;obtain⟨h3,h4⟩:=qd5 h2;rw[Nat.zero_add]at h4;rw[hold x h4]at h3;exact .inl ⟨r,p,h3▸List.getElem_mem h4,h1⟩
     ·have R:=I1.rep r;cases e:h1 r with
      |dead=>rw[e]at R;exact R
      |row _ _ _ _ _=>rw[e]at R;exact R
      |box cs=>rw[e]at R;obtain⟨ha,b,c,ty,fz,g1,g2,g3,g4,g5⟩:=R;exact⟨ha,b,c,ty,fz,g1,g2,g3,qhf (G:=G.ren 0 (seen++gone)) (k:=⟨G.kv.v,G.ro⟩) rfl cs g4,g5⟩
    have A1':=qhf (w:=w) (h:=h1) (G:=G.ren 0 (seen++gone)) (k:=⟨G.kv.v,G.ro⟩) rfl _ A1;have hal1:∀r,((G.ren 0 (seen++gone)).kvs ⟨G.kv.v,G.ro⟩).al r->r<(seen++gone).length:=λr hr=>by have:=hr.1;omega
    have hargl:us.length=args.length:=hargs.length;refine calls_of_wp (O.fn f fi hfi).1 hb (ev fi c seen.length w _ α _ _ x hx _ w _ ⟨I1',qon A1',hal1,?_,rfl⟩ (by simp) _ ?_);· simp only[Array.size_append,List.size_toArray,Array.size_replicate];omega
    ·intro e st' a' w' G2 he R2 hb2 KB;have key:(match resVs E fi.fn st' with|some vs=>kk (outA (toOut seen seen.length n) (shOf h seen seen.length) (tup vs)) (merge h seen gone seen.length n st'.h) (n+(st'.n-seen.length))|none=>none)=some x->bodyPost P fi.fn (λe w'=>∃v v' h' n' G',e=.returned v'/\kk v h' n'=some x/\Inv w0 S0 w' G' h'/\Keep w w' G G' h h'/\AVRep w' G' h' v' v/\n<=n'/\∀r,G'.al r->G.al r\/(n<=r/\r<n')) .normal a' w':=by
      intro hk;cases hv:resVs E fi.fn st' with
      |none=>rw[hv]at hk;cases hk
      |some vs=>
       rw[hv]at hk;simp only at hk;obtain⟨us',hres,hus⟩:=qj0 (P:=P) O R2.inv R2.slots hv;obtain⟨I3,K3,O3⟩:=qus (n:=n) (n2:=st'.n) Iv hn hnd hal R2.inv R2.al hb2 (λi hi=>by
        have hi':i<(seen++gone).length:=by rw[List.length_append];omega
        have hge:(seen++gone)[i]=seen[i]:=List.getElem_append_left hi;have hla:=hal _ (List.getElem_mem hi');have hGa:G.al (seen++gone)[i]:=by
         have R:=Iv.rep (seen++gone)[i];cases e:h (seen++gone)[i]with
         |dead=>rw[e]at hla;cases hla
         |box _=>rw[e]at R;exact R.1
         |row _ _ _ _ _=>rw[e]at R;exact R.1
        obtain⟨k1,k2,k3⟩:=KB.al i hi ⟨by omega,by rw[hold i hi'];exact hGa⟩;refine⟨k1,?_,λhd=>?_⟩;· have:=hat i hi';rw[hge]at this;rw[<-this];exact k2
        · rw[k3 hd];show G.φ (oldN 0 (seen++gone) i)=_;rw[hold i hi',hge]) (λb hb=>KB.ro b hb) KB.kv
       exact⟨R2.defers,retV us',hres,_,_,_,_,_,rfl,hk,I3,K3,O3.av _ (qtn hus),Nat.le_add_right _ _,λr hr=>hr.imp id λh=>⟨h.1,h.2.1⟩⟩
     cases e with
     |nrm=>exact key he
     |ret=>exact key he
     |ex id=>cases he
theorem qpj(O:EnvOk P E){C:Orc}{lf:Nat}(Fs:∀f fi,E.fi f=some fi->fi.inl=false->qaq P fi f (C f))(HB:∀f fi,E.fi f=some fi->fi.inl=false->FiOk fi):∀d,qs5 P (inlK C E lf d)
|0=>qxv C lf
|d+1=>qxu O λ_ c _=>qdf O ⟨Fs,HB,qpj O Fs HB d⟩ (qpo O ⟨Fs,HB,qpj O Fs HB d⟩) c
theorem qu6(O:EnvOk P E){X:Nat->Option (List T->Option (List T))}(HX:∀f g fi,X f=some g->E.fi f=some fi->qaq P fi f g)(HB:∀f fi,E.fi f=some fi->fi.inl=false->fiB fi=true)(lf df:Nat):∀(d:Nat)(f:Nat)(fi:Fi),E.fi f=some fi->fi.inl=false->qaq P fi f (orc X E lf df d f)
|0,f,fi,_,_=>λw S0 G args ts r _ _ _ h=>by cases h
|d+1,f,fi,hfi,hin=>by
 have ih:=qu6 O HX HB lf df d;cases hX:X f with
 |some g=>
  have e:orc X E lf df (d+1) f=g:=by funext ts;simp only[orc,hX]
  rw[e];exact HX f g fi hX hfi
 |none=>
  have e:orc X E lf df (d+1) f=funK (orc X E lf df d) E lf df fi:=by funext ts;simp only[orc,hX,hfi]
  rw[e];obtain⟨_,h2,h3⟩:=qo9 (HB f fi hfi hin);have Fs:FnsOk P E (orc X E lf df d) (inlK (orc X E lf df d) E lf df):=⟨λf fi h1 h2=>ih f fi h1 h2,λf fi h1 h2=>(qo9 (HB f fi h1 h2)).1,qpj O (λf fi h1 h2=>ih f fi h1 h2) (λf fi h1 h2=>(qo9 (HB f fi h1 h2)).1) df⟩;exact qxx O (O.fn f fi hfi).1 h2 h3 λc hc=>qdf O Fs (qpo O Fs) c
end
def asgB(o:Oper)(b:Bool):Oper:={o with op:=.assign (.const (.bool b))}
def qet(i0 i1:Nat)(o0 o1 o2:Oper)(c2 c3:Code):Code:=.seq (.region i0 #[o0] false) (.seq (.seq (.region i1 #[o1,o2] false) c2) c3)
structure AskNil(t:Nat)(o0 o1 o2:Oper):Prop where
 h0:o0.op=.assign (.const (.slice none 0 0))/\o0.dst=some 2/\o0.guard=none
 h1:o1.op=.move (.tmp 0)/\o1.dst=some 3/\o1.guard=none
 h2:(∃t',o2.op=.binOp .eql t (.tmp 3) (.const (.slice none 0 0)) t')/\o2.dst=some 4/\o2.guard=none
section
variable{P:Program}{E:Env}{C:Orc}{I:(α:Type)->InlK α}
theorem qp4{α:Type}{J:InlK α}{n0:Nat}{ops:List Oper}{o:Oper}{i:Nat}{is:List Nat}{rs:List Rec}{st:St}{k:St->Option α}{v:AV}(ho:ops[i]? =some o)(hg:o.guard=none)(hs:opS E (n0+KN*i) o st.s st.h=.ret v st.h):regK C J E n0 ops false (i::is) rs st k=regK C J E n0 ops false is [] ⟨updO st.s o.dst v,st.h,st.n⟩ k:=by simp only[regK,ho,qdh,wantV,hg,hs,Stp.runK,Bool.not_false,Bool.true_or,cond_true]
theorem qfe{ops:Array Oper}{o:Oper}{i:Nat}{rest:List Nat}{a:Act}{w:World}{Q:Exit->Act->World->Prop}{v:Value}(ho:ops[i]? =some o)(hg:o.guard=none)(hr:(execOp a.eval o).run P w=.ok (.value v) w)(hn:wpOps P ops Q rest (a.put o.dst v) w):wpOps P ops Q (i::rest) a w:=by simp only[wpOps,ho];rw[if_pos (by simp[Region.wanted,hg])];left;unfold Oper.wp;rw[hr];exact hn
theorem Rel.putv{w0 w:World}{S0:Nat->Prop}{nt:Nat}{st:St}{a:Act}{G:Gh}(R:Rel w0 S0 nt st a w G){d:Nat}(hd:d<nt){v':Value}{v:AV}(hv:AVRep w G st.h v' v)(n:Nat)(hn:st.n<=n):Rel w0 S0 nt ⟨updO st.s (some d) v,st.h,n⟩ (a.put (some d) v') w G:=⟨R.inv,qeg R.slots (Keep.refl _ _ _) (λt h=>by cases h;rw[R.size];exact hd) hv,λr hr=>Nat.lt_of_lt_of_le (R.al r hr) hn,by rw[qew];exact R.size,by rw[put_defers];exact R.defers⟩
theorem qyw(O:EnvOk P E)(Fs:FnsOk P E C I)(hD:qq4 P E C I){lf:Nat}{fi:Fi}{base t:Nat}{e:TypeId}(hu:P.underlying t=some (.slice e)){i0 i1:Nat}{o0 o1 o2:Oper}{c2 c3:Code}(hq:AskNil t o0 o1 o2){u:Option Addr}{n c:Nat}(hnt:4<fi.fn.ntmps):qs6 P (λ_ _ a=>a.tmps.getD 0 undef=.slice u n c) fi.fn.ntmps base (qet i0 i1 o0 o1 o2 c2 c3) (λα st k=>evK C I E lf fi base (qet i0 i1 o0 o1 (asgB o2 u.isNone) c2 c3) α st k):=by
 intro w0 S0 α st k x h a w G hA R hb Q hQ;obtain⟨⟨p1,p2,p3⟩,⟨q1,q2,q3⟩,⟨⟨t',r1⟩,r2,r3⟩⟩:=hq;simp only[qet,evK]at h;have hd0:dstOk fi.fn.ntmps [o0]=true:=by simp only[dstOk,List.all_cons,List.all_nil,p2,Bool.and_true];simp;omega
 have hd1:dstOk fi.fn.ntmps [o1,asgB o2 u.isNone]=true:=by simp only[dstOk,List.all_cons,List.all_nil,asgB,q2,r2,Bool.and_true];simp;omega
 have s0:∀(n0:Nat)(s:Nat->AV)(h:Hp),opS E n0 o0 s h=.ret (opd s (E.ct o0.type) (.const (.slice none 0 0))) h:=λn0 s h=>by simp only[opS,p1]
 have s1:∀(n0:Nat)(s:Nat->AV)(h:Hp),opS E n0 o1 s h=.ret (opd s (E.ct o1.type) (.tmp 0)) h:=λn0 s h=>by simp only[opS,q1]
 have s2:∀(n0:Nat)(s:Nat->AV)(h:Hp),opS E n0 (asgB o2 u.isNone) s h=.ret (.b u.isNone) h:=λn0 s h=>rfl;rw[hd0,cond_true,show List.range (#[o0]:Array Oper).size=[0]from rfl,qp4 (o:=o0) rfl p3 (s0 _ _ _)]at h;simp only[regK,Bool.not_false,Bool.true_or,cond_true]at h;rw[hd1,cond_true,show List.range (#[o1,asgB o2 u.isNone]:Array Oper).size=[0,1]from rfl,qp4 (o:=o1) rfl q3 (s1 _ _ _),qp4 (o:=asgB o2 u.isNone) rfl r3 (s2 _ _ _)]at h;simp only[regK,Bool.not_false,Bool.true_or,cond_true,asgB]at h;rw[p2,q2,r2]at h;have R1:=R.putv (d:=2) (by omega) (qct R.slots (E.ct o0.type) (.const (.slice none 0 0))) (st.n+KN*1) (Nat.le_add_right _ _);have R2:=R1.putv (d:=3) (by omega) (qct R1.slots (E.ct o1.type) (.tmp 0)) (st.n+KN*1+KN*2) (Nat.le_add_right _ _);have R3:=R2.putv (d:=4) (v':=.bool u.isNone) (v:=.b u.isNone) (by omega) rfl _ (Nat.le_refl _);have e1:(a.put (some 2) (a.eval (.const (.slice none 0 0)))).eval (.tmp 0)=.slice u n c:=by show((a.put (some 2) (a.eval (.const (.slice none 0 0)))).tmps.getD 0 undef)=_;rw[qmb _ _ (by rw[R.size];omega),if_neg (by omega)];exact hA
 have e2:((a.put (some 2) (a.eval (.const (.slice none 0 0)))).put (some 3) ((a.put (some 2) (a.eval (.const (.slice none 0 0)))).eval (.tmp 0))).eval (.tmp 3)=.slice u n c:=by show(((a.put (some 2) (a.eval (.const (.slice none 0 0)))).put (some 3) ((a.put (some 2) (a.eval (.const (.slice none 0 0)))).eval (.tmp 0))).tmps.getD 3 undef)=_;rw[qmb _ _ (by rw[qew,R.size];omega),if_pos rfl];exact e1
 refine wp_seq (wp_region ?_);refine qfe (o:=o0) (v:=a.eval (.const (.slice none 0 0))) rfl p3 (by simp only[execOp,p1];rfl) ?_;show Code.wp P _ _ _ _;rw[p2];refine wp_seq (wp_seq (wp_region ?_));refine qfe (o:=o1) (v:=(a.put (some 2) (a.eval (.const (.slice none 0 0)))).eval (.tmp 0)) rfl q3 (by simp only[execOp,q1];rfl) ?_;rw[q2];refine qfe (o:=o2) (v:=.bool u.isNone) rfl r3 ?_ ?_;· have e3:∀a:Act,a.eval (.const (.slice none 0 0))=.slice none 0 0:=λ_=>rfl;simp only[execOp,r1,e2];simp only[e3];have hg:=qga (P:=P) (w:=w) .eql t (.tmp 3) (.const (.slice none 0 0)) (.slice u n c) (.slice none 0 0) (by simp) (by simp);simp only[binM,Sem.run_bind,hg,Result.andThen_ok,Lib.run_eql_slice_nil w t e u n c 0 0 hu,Sem.run_pure]
 ·rw[r2];refine qdf O Fs hD c2 w0 S0 α _ _ x h _ _ _ R3 (by simp only;omega) _ ?_;intro e st' a' w' G' he R' hb' K';cases e with
  |nrm=>exact qdf O Fs hD c3 w0 S0 α st' k x he a' w' G' R' hb' Q λe st'' a'' w'' G'' h1 h2 h3 h4=>hQ e st'' a'' w'' G'' h1 h2 h3 (K'.trans h4)
  |ret=>exact hQ .ret st' a' w' G' he R' hb' K'
  |ex id=>exact hQ (.ex id) st' a' w' G' he R' hb' K'
def noOrc:Orc:=λ_ _=>none
def noInl(α:Type):InlK α:=λ_ _ _ _ _=>none
theorem noFns(HB:∀f fi,E.fi f=some fi->fi.inl=false->FiOk fi):FnsOk P E noOrc noInl:=⟨λf fi _ _=>λw S0 G args ts r _ _ _ h=>(by cases h),HB,λα f args h n kk x hx=>(by cases hx)⟩
theorem qk2(O:EnvOk P E)(HB:∀f fi,E.fi f=some fi->fi.inl=false->fiB fi=true){f:Nat}{fi:Fi}{m:Bool}{cs:List CT}(hf:E.fi f=some fi)(hin:fi.inl=false)(hps:fi.ps=[.ro (.sl m cs)]){t:Nat}{e:TypeId}(hu:P.underlying t=some (.slice e)){i0 i1:Nat}{o0 o1 o2:Oper}{c2 c3:Code}(hb:fi.fn.body=some (qet i0 i1 o0 o1 o2 c2 c3))(hq:AskNil t o0 o1 o2)(hnt:Nat.blt 4 fi.fn.ntmps=true)(hT:funG (λα st k=>evK noOrc noInl E 0 fi (baseP fi.ps) (qet i0 i1 o0 o1 (asgB o2 true) c2 c3) α st k) E fi [.sl []]=some [.sl []])(hF:∀l,funG (λα st k=>evK noOrc noInl E 0 fi (baseP fi.ps) (qet i0 i1 o0 o1 (asgB o2 false) c2 c3) α st k) E fi [.sl l]=qgl [.sl l]):qaq P fi f qgl:=by
 intro w S0 G args ts r I hal R hr;have HF:∀f fi,E.fi f=some fi->fi.inl=false->FiOk fi:=λf fi h1 h2=>(qo9 (HB f fi h1 h2)).1;obtain⟨_,g2,g3⟩:=qo9 (HB f fi hf hin);have hnt:4<fi.fn.ntmps:=by have:=Nat.le_of_ble_eq_true hnt;omega
 obtain⟨l,rfl,rfl⟩:∃l,ts=[.sl l]/\r=[.sl l]:=by
  unfold qgl at hr;split at hr
  ·rename_i l;refine⟨l,rfl,?_⟩;cases e:nLe (0+l.length) LIM with
   |true=>rw[e,cond_true]at hr;cases hr;rfl
   |false=>rw[e]at hr;cases hr
  · cases hr
 have R0:=R;rw[hps]at R;obtain⟨v,rfl⟩:∃v,args=[v]:=by
  cases args with
  |nil=>exact R.elim
  |cons v vs=>cases vs with
   |nil=>exact⟨v,rfl⟩
   |cons _ _=>exact R.2.elim
 have hv:RowRep w (roM G.ro) [] m cs v l:=qa6.1 R.1.1;have key:∀(u:Option Addr)(n c:Nat),v=.slice u n c->funG (λα st k=>evK noOrc noInl E 0 fi (baseP fi.ps) (qet i0 i1 o0 o1 (asgB o2 u.isNone) c2 c3) α st k) E fi [.sl l]=some [.sl l]->Calls P f [v].toArray w (Came fi w S0 G [v] [.sl l]):=by intro u n c hv hr;refine qrc O (O.fn f fi hf).1 g2 g3 hb (ev:=λα st k=>evK noOrc noInl E 0 fi (baseP fi.ps) (qet i0 i1 o0 o1 (asgB o2 u.isNone) c2 c3) α st k) ?_ I hal R0 hr;intro w0 S0 α st k x h a w G hA Rl hb' Q hQ;refine qyw O (noFns HF) (qpo O (noFns HF)) hu hq hnt (u:=u) (n:=n) (c:=c) w0 S0 α st k x h a w G ?_ Rl hb' Q hQ;show a.tmps.getD 0 undef=_;rw[hA.2.2,<-hv];simp[Array.getD_eq_getD_getElem?,Array.getElem?_append]
 rcases hv with⟨hn|⟨_,a,c,hv⟩,rfl⟩|⟨b,off,cap,c,ty,fz,hv,_⟩
 · exact key none 0 0 hn hT
 ·cases a with
  |none=>exact key none 0 c hv hT
  |some a=>exact key (some a) 0 c hv ((hF []).trans hr)
 · exact key _ _ _ hv ((hF l).trans hr)
end
section
variable{P:Program}{w:World}{S0:Nat->Prop}{G:Gh}
structure Cdc(α:Type)where
 enc:α->Value
 ct:CT
 put:α->T
 un:T->α
structure CdcOk{α:Type}(K:Cdc α):Prop where
 of:∀{w:World}{M:Mem}{π:Path}{u:Value}{t:T},CellRep w M π K.ct u t->t=K.put (K.un t)/\u=K.enc (K.un t)
 to:∀(w:World)(M:Mem)(π:Path)(a:α),CellRep w M π K.ct (K.enc a) (K.put a)
 ok:∀a,okL false [K.ct] [K.put a]=true
variable{α:Type}{K:Cdc α}
theorem qv4(hK:CdcOk K){M:Mem}{π:Path}{c:Array Value}{off:Nat}{l:List T}(h:ElemsRep w M π false [K.ct] c off 0 l):∀k(hk:k<l.length),l[k]=K.put (K.un l[k])/\c[off+k]? =some (K.enc (K.un l[k])):=by intro k hk;have hE:=(qa5 l 0).1 h k hk;obtain⟨u,hu,hu'⟩:=ElemRep.cell hE (show([K.ct]:List CT)[0]? =some K.ct from rfl);have e:elc false l[k] 0=l[k]:=rfl;rw[e]at hu';simp only[Nat.zero_add,List.length_singleton,Nat.mul_one,Nat.add_zero]at hu;obtain⟨h1,h2⟩:=hK.of hu';exact⟨h1,by rw[hu,h2]⟩
theorem ints_mk(hK:CdcOk K){w:World}{M:Mem}{π:Path}{c:Array Value}{off:Nat}{l:List α}(h:∀k(hk:k<l.length),c[off+k]? =some (K.enc l[k])):ElemsRep w M π false [K.ct] c off 0 (l.map K.put):=by
 rw[qa5];intro k hk;rw[List.length_map]at hk;refine⟨K.ct,K.enc l[k],rfl,?_,?_⟩;· simp only[Nat.zero_add,List.length_singleton,Nat.mul_one];exact h k hk
 · rw[List.getElem_map];exact hK.to _ _ _ _
theorem qv3(hK:CdcOk K)(l:List α):okC (.sl false [K.ct]) (.sl (l.map K.put))=true:=by show okL false [K.ct] _=true;rw[qbr,List.all_eq_true];intro x hx;obtain⟨n,_,rfl⟩:=List.mem_map.1 hx;have:=hK.ok n;rw[qbr]at this;simpa using this
theorem qfx{α:Type} [Inhabited α](enc:α->Value)(off:Nat)(d:Array α)(c:Array Value):(Sort.putCells enc off d c).size=c.size:=by simp[Sort.putCells]
theorem qts [Inhabited α](hK:CdcOk K){le:α->α->Bool}{F:List T->Option (List T)}(hF:∀ts r,F ts=some r->∃l,ts=[.sl l]/\l.length<=LIM/\r=[.sl (((l.map K.un).mergeSort le).map K.put)]){fi:Fi}{f:Nat}(hps:fi.ps=[.ow (.sl false [K.ct])])(hrs:fi.rs=[])(hS:∀(blk off cap:Nat)(zs:List α)(w:World),Sort.Holds K.enc w blk off zs.toArray->blk<w.heap.size->zs.length<4611686018427387904->Calls P f #[.slice (some ⟨blk,off,none⟩) zs.length cap] w λe w'=>e=.returned (.tuple #[])/\∃n os,w'=Sort.grow (Sort.putRow K.enc (Sort.ahead w n) blk off (zs.mergeSort le).toArray) os)(hN:∀(p:Option Addr)(cap:Nat)(w:World),Calls P f #[.slice p 0 cap] w λe w'=>e=.returned (.tuple #[])/\w'=w):qaq P fi f F:=by
 intro w S0 G args ts r I hal R hr;obtain⟨l,rfl,hl,rfl⟩:=hF ts r hr;rw[hps]at R;obtain⟨v,rfl⟩:∃v,args=[v]:=by
  cases args with
  |nil=>exact R.elim
  |cons v vs=>cases vs with
   |nil=>exact⟨v,rfl⟩
   |cons _ _=>exact R.2.elim
 have hv:RowRep w (G.own.t 0) [] false [K.ct] v l:=qa6.1 R.1.1;have fin:∀w',Inv w S0 w' G noBlk->(CellRep w' (G.own.t 0) [] (.sl false [K.ct]) v (.sl (((l.map K.un).mergeSort le).map K.put))/\okC (.sl false [K.ct]) (.sl (((l.map K.un).mergeSort le).map K.put))=true)->Came fi w S0 G [v] [.sl (((l.map K.un).mergeSort le).map K.put)] (.returned (.tuple #[])) w':=λw' I' hc=>by
  refine⟨[],[],[.sl (((l.map K.un).mergeSort le).map K.put)],[],G,rfl,rfl,I',λ_ h=>h,λ_ h=>.inl h,?_,?_,?_,?_⟩;· rw[hrs];exact trivial
  · rw[hrs,hps];exact⟨hc,trivial⟩
  · rw[hrs,hps];exact trivial
  · rw[hps];exact trivial
 rcases hv with⟨hn|⟨hf,_⟩,rfl⟩|⟨b,off,cap,c,ty,fz,rfl,h2,h3,h4,h5,h6⟩
 · subst hn;refine(hN none 0 w).mono ?_;rintro e w' ⟨rfl,rfl⟩;exact fin w' I ⟨qa6.2 (.inl ⟨.inl rfl,by simp⟩),qv3 hK _⟩
 · exact hf.elim
 ·have hb:G.own b=some (.tmp 0 []):=h2;have hbl:b<w.heap.size:=(Array.getElem?_eq_some_iff.1 h3).1;obtain⟨c',ty',fz',k1,k2⟩:=I.cells b _ hb;rw[h3]at k1;cases k1;have hE:=qv4 hK h6;simp only[List.length_singleton,Nat.mul_one]at h5;have hH:Sort.Holds K.enc w b off (l.map K.un).toArray:=λj hj=>by
   simp only[List.size_toArray,List.length_map]at hj;obtain⟨_,e2⟩:=hE j hj;refine⟨?_,?_⟩;· simp[World.cell?,h3,e2,hj]
   · have:=k2 (off+j) (by omega);simp only[World.frozen?,h3];simpa using this
  have hlen:((l.map K.un).mergeSort le).length=l.length:=by rw[List.length_mergeSort,List.length_map]
  have hC:=hS b off cap (l.map K.un) w hH hbl (by rw[List.length_map];unfold LIM at hl;omega);rw[List.length_map]at hC;refine hC.mono ?_;rintro e w' ⟨rfl,nn,os,rfl⟩;have heap:∀k,k<w.heap.size->(Sort.grow (Sort.putRow K.enc (Sort.ahead w nn) b off ((l.map K.un).mergeSort le).toArray) os).heap[k]? =if k=b then some (.cells (Sort.putCells K.enc off ((l.map K.un).mergeSort le).toArray c) ty fz)else w.heap[k]? :=λk hk=>by
   rw[Sort.heap_grow_old _ _ (by simpa using hk)];unfold Sort.putRow Sort.mapBlock;simp only[Sort.heap_ahead,Array.getElem?_modify];by_cases e:b=k;· subst e;rw[if_pos rfl,if_pos rfl,h3];rfl
   · rw[if_neg e,if_neg (λh=>e h.symm)]
  have hS0:S0 b:=by
   rcases I.mine b _ hb with h|h
   · exact h
   · omega
  have hsz:w.heap.size<=(Sort.grow (Sort.putRow K.enc (Sort.ahead w nn) b off ((l.map K.un).mergeSort le).toArray) os).heap.size:=by simp
  refine fin _ ⟨rfl,rfl,rfl,hsz,λb' hb' hs=>?_,I.mine,λb' x hx=>?_,I.roOwn,λb' hb'=>Nat.lt_of_lt_of_le (I.roLt b' hb') hsz,I.roIn,λr=>I.rep r⟩ ⟨qa6.2 (.inr ⟨b,off,cap,_,ty,fz,?_,hb,by rw[heap b hbl,if_pos rfl],?_,?_,?_⟩),qv3 hK _⟩;· rw[heap b' hb',if_neg (λe=>hs (by rw[e];exact hS0))]
  ·obtain⟨c1,ty1,fz1,q1,q2⟩:=I.cells b' x hx;have hlt:b'<w.heap.size:=(Array.getElem?_eq_some_iff.1 q1).1;rw[heap b' hlt];by_cases e:b'=b;· rw[if_pos e];subst e;rw[h3]at q1;cases q1;exact⟨_,_,_,rfl,by rw[qfx];exact q2⟩
   · rw[if_neg e];exact⟨c1,ty1,fz1,q1,q2⟩
  · rw[List.length_map,hlen]
  · rw[List.length_map,hlen];exact h4
  · rw[qfx];simpa using h5
  ·refine ints_mk hK λk hk=>?_;have hk2:k<l.length:=by rw[hlen]at hk;exact hk
   obtain⟨_,e2⟩:=hE k hk2;simp only[Sort.putCells,Array.getElem?_mapIdx,e2,Option.map_some];rw[if_pos ⟨by omega,by simp only[List.size_toArray];omega⟩,show off+k-off=k by omega];have:(((l.map K.un).mergeSort le).toArray)[k]! =((l.map K.un).mergeSort le)[k]:=by rw[getElem!_pos _ _ (by simpa using hk)];rfl
   rw[this]
def cdcI:Cdc Int:=⟨Value.int .i64,.i .i64,T.i .i64,asI⟩
theorem cdcI_ok:CdcOk cdcI where
 of:=λ{w M π u t} h=>by
  cases t with
  |i kk n=>obtain⟨h1,h2⟩:=h;cases h1;exact⟨rfl,h2⟩
  |u=>exact absurd h.1 (by simp[cdcI,CT.isSl])
  |b _=>cases h.1
  |s _=>cases h.1
  |sl _=>obtain⟨_,_,h1,_⟩:=h;cases h1
  |st _=>exact h.elim
 to:=λ_ _ _ _=>⟨rfl,rfl⟩
 ok:=λ_=>rfl
theorem qx9{fi:Fi}{f:Nat}(hps:fi.ps=[.ow (.sl false [.i .i64])])(hrs:fi.rs=[])(hS:∀(blk off cap:Nat)(zs:List Int)(w:World),Sort.Holds (Value.int .i64) w blk off zs.toArray->blk<w.heap.size->zs.length<4611686018427387904->Calls P f #[.slice (some ⟨blk,off,none⟩) zs.length cap] w λe w'=>e=.returned (.tuple #[])/\∃n os,w'=Sort.grow (Sort.putRow (Value.int .i64) (Sort.ahead w n) blk off (zs.mergeSort λx y=>decide (x<=y)).toArray) os)(hN:∀(p:Option Addr)(cap:Nat)(w:World),Calls P f #[.slice p 0 cap] w λe w'=>e=.returned (.tuple #[])/\w'=w):qaq P fi f sortF:=
 qts cdcI_ok (λts r h=>by
  unfold sortF at h;split at h
  ·rename_i l;cases e:nLe l.length LIM with
   |true=>rw[e,cond_true]at h;cases h;exact⟨l,rfl,qp9.1 e,rfl⟩
   |false=>rw[e]at h;cases h
  · cases h) hps hrs hS hN
def cdcS:Cdc (List UInt8):=⟨λl=>Value.string ⟨l.toArray⟩,.s,λl=>T.s ⟨l.toArray⟩,λx=>(asS x).data.toList⟩
theorem cdcS_ok:CdcOk cdcS where
 of:=λ{w M π u t} h=>by
  cases t with
  |s x=>obtain⟨_,h2⟩:=h;exact⟨rfl,h2⟩
  |u=>exact absurd h.1 (by simp[cdcS,CT.isSl])
  |b _=>cases h.1
  |i _ _=>cases h.1
  |sl _=>obtain⟨_,_,h1,_⟩:=h;cases h1
  |st _=>exact h.elim
 to:=λ_ _ _ _=>⟨rfl,rfl⟩
 ok:=λ_=>rfl
end
theorem idxL_eq(l:List UInt8)(c:UInt8):Lib.indexByte l c=idxL l c:=by
 induction l with
 |nil=>rfl
 |cons b l ih=>simp only[Lib.indexByte,idxL,ih]
section
variable{P:Program}
theorem qq9{fi:Fi}{f:Nat}{F:List T->Option (List T)}(g:ByteArray->UInt8->Int)(hF:∀ts r,F ts=some r->∃s c,ts=[.s s,.s ⟨#[c]⟩]/\r=[.i .i64 (g s c)])(hps:fi.ps=[.v .s,.v .s])(hrs:fi.rs=[.v (.i .i64)])(hS:∀(s:ByteArray)(c:UInt8)(w:World),Calls P f #[.string s,.string ⟨#[c]⟩] w λe w'=>e=.returned (.int .i64 (g s c))/\w'=w):qaq P fi f F:=by
 intro w S0 G args ts r I hal R hr;obtain⟨s,c,rfl,rfl⟩:=hF ts r hr;rw[hps]at R;obtain⟨v,u,rfl⟩:∃v u,args=[v,u]:=by match args,R with|[v,u],_=>exact⟨v,u,rfl⟩
 obtain⟨h1,h2,_⟩:=R;obtain rfl:v=.string s:=h1.1.2;obtain rfl:u=.string ⟨#[c]⟩:=h2.1.2;refine(hS s c w).mono ?_;rintro e w' ⟨rfl,rfl⟩;refine⟨[.int .i64 (g s c)],[.i .i64 (g s c)],[],[],G,rfl,rfl,I,λ_ h=>h,λ_ h=>.inl h,?_,?_,?_,?_⟩;· rw[hrs];exact⟨⟨⟨rfl,rfl⟩,rfl⟩,trivial⟩
 · rw[hrs,hps];exact trivial
 · rw[hrs,hps];exact trivial
 · rw[hps];exact trivial
theorem qz7{p:ByteArray}{c:UInt8}(h:p.data.toList=[c]):p=⟨#[c]⟩:=by cases p with|mk d=>cases d with|mk l=>cases h;rfl
theorem qpk{fi:Fi}{f:Nat}(hps:fi.ps=[.v .s,.v .s])(hrs:fi.rs=[.v (.i .i64)])(hS:∀(s:ByteArray)(c:UInt8)(w:World),Calls P f #[.string s,.string ⟨#[c]⟩] w λe w'=>e=.returned (.int .i64 (Lib.indexByte s.data.toList c))/\w'=w):qaq P fi f qr9:=by
 refine qq9 (λs c=>idxL s.data.toList c) (λts r h=>?_) hps hrs λs c w=>by rw[<-idxL_eq];exact hS s c w
 unfold qr9 at h;split at h
 ·rename_i s p;split at h;· rename_i c e;cases h;exact⟨s,c,by rw[qz7 e],rfl⟩
  · cases h
 · cases h
theorem qpq{fi:Fi}{f:Nat}(hps:fi.ps=[.v .s,.v .s])(hrs:fi.rs=[.v (.i .i64)])(hS:∀(s:ByteArray)(c:UInt8)(w:World),Calls P f #[.string s,.string ⟨#[c]⟩] w λe w'=>e=.returned (.int .i64 (Lib.countByte s.data.toList c))/\w'=w):qaq P fi f qrm:=by
 refine qq9 (λs c=>(s.data.toList.count c:Nat)) (λts r h=>?_) hps hrs λs c w=>hS s c w;unfold qrm at h;split at h
 ·rename_i s p;split at h;· rename_i c e;cases h;exact⟨s,c,by rw[qz7 e],rfl⟩
  · cases h
 · cases h
end
section
variable{P:Program}
theorem qv2{w w':World}{S0:Nat->Prop}{G:Gh}(I:Inv w S0 w G noBlk)(B:Go.RowKit.Below w.heap.size w w'):Inv w S0 w' G noBlk:=⟨B.os,B.tape,B.output,B.size,λb hb _=>B.block b hb,I.mine,λb x hx=>by obtain⟨c,ty,fz,h1,h2⟩:=I.cells b x hx;exact⟨c,ty,fz,by rw[B.block b (Array.getElem?_eq_some_iff.1 h1).1];exact h1,h2⟩,I.roOwn,λb hb=>Nat.lt_of_lt_of_le (I.roLt b hb) B.size,I.roIn,λr=>I.rep r⟩
theorem qv0(p:ByteArray):joinT [] p=[]:=by unfold joinT List.intercalate;rfl
theorem qxt{fi:Fi}{f:Nat}(hps:fi.ps=[.ro (.sl false [.s]),.v .s])(hrs:fi.rs=[.v .s])(hS:∀(bk o c:Nat)(xs:List ByteArray)(sep:ByteArray)(w:World),(∀(j:Nat) x,xs[j]? =some x->w.cell? ⟨bk,o+j,none⟩=some (.string x))->bk<w.heap.size->xs.length<=140737488355328->xs.length<=c->(Lib.join (xs.map (·.data.toList)) sep.data.toList).length<=140737488355328->Calls P f #[.slice (some ⟨bk,o,none⟩) xs.length c,.string sep] w λe w'=>e=.returned (.string ⟨(Lib.join (xs.map (·.data.toList)) sep.data.toList).toArray⟩)/\Go.RowKit.Below w.heap.size w w')(hN:∀(a:Option Addr)(c:Nat)(sep:ByteArray)(w:World),Calls P f #[.slice a 0 c,.string sep] w λe w'=>e=.returned (.string ⟨#[]⟩)/\w'=w):qaq P fi f joinF:=by
 intro w S0 G args ts r I hal R hr;obtain⟨l,p,rfl,h1,h2,rfl⟩:∃l p,ts=[.sl l,.s p]/\l.length<=LIM/\(joinT l p).length<=LIM/\r=[.s ⟨(joinT l p).toArray⟩]:=by
  unfold joinF at hr;split at hr
  ·rename_i l p;cases e:nLe l.length LIM&&nLe (joinT l p).length LIM with
   |true=>rw[e,cond_true]at hr;cases hr;rw[Bool.and_eq_true]at e;exact⟨l,p,rfl,qp9.1 e.1,qp9.1 e.2,rfl⟩
   |false=>rw[e]at hr;cases hr
  · cases hr
 rw[hps]at R;obtain⟨v,u,rfl⟩:∃v u,args=[v,u]:=by match args,R with|[v,u],_=>exact⟨v,u,rfl⟩
 obtain⟨hv,hu,_⟩:=R;obtain rfl:u=.string p:=hu.1.2;have hv:RowRep w (roM G.ro) [] false [.s] v l:=qa6.1 hv.1;have fin:∀w',Go.RowKit.Below w.heap.size w w'->Came fi w S0 G [v,.string p] [.s ⟨(joinT l p).toArray⟩] (.returned (.string ⟨(joinT l p).toArray⟩)) w':=λw' B=>by
  refine⟨[.string ⟨(joinT l p).toArray⟩],[.s ⟨(joinT l p).toArray⟩],[],[],G,rfl,rfl,qv2 I B,λ_ h=>h,λ_ h=>.inl h,?_,?_,?_,?_⟩;· rw[hrs];exact⟨⟨⟨rfl,rfl⟩,rfl⟩,trivial⟩
  · rw[hrs,hps];exact trivial
  · rw[hrs,hps];exact trivial
  · rw[hps];exact trivial
 have nil:∀a c,v=.slice a 0 c->l=[]->Calls P f [v,.string p].toArray w (Came fi w S0 G [v,.string p] [.s ⟨(joinT l p).toArray⟩]):=λa c hv hl=>by subst hv hl;refine(hN a c p w).mono ?_;rintro e w' ⟨rfl,rfl⟩;have:=fin w' (Go.RowKit.Below.refl _ _);rw[qv0]at this|-;exact this
 rcases hv with⟨hn|⟨_,a,c,hv⟩,hl⟩|⟨b,off,cap,c,ty,fz,rfl,hb,h3,h4,h5,h6⟩
 · exact nil none 0 hn hl
 · exact nil a c hv hl
 ·have hE:=qv4 cdcS_ok h6;have hbl:b<w.heap.size:=(Array.getElem?_eq_some_iff.1 h3).1;have e1:((l.map asS).map (·.data.toList))=l.map λx=>(asS x).data.toList:=by rw[List.map_map];rfl
  have hC:=hS b off cap (l.map asS) p w (λj x hx=>by rw[List.getElem?_map]at hx;obtain⟨t,ht,rfl⟩:=Option.map_eq_some_iff.1 hx;obtain⟨hj,rfl⟩:=List.getElem?_eq_some_iff.1 ht;obtain⟨_,e2⟩:=hE j hj;simp only[World.cell?,h3,e2];rfl) hbl (by rw[List.length_map];unfold LIM at h1;omega) (by rw[List.length_map];exact h4) (by rw[e1];have:Lib.join (l.map λx=>(asS x).data.toList) p.data.toList=joinT l p:=rfl;rw[this];unfold LIM at h2;omega);rw[e1,List.length_map]at hC;refine hC.mono ?_;rintro e w' ⟨rfl,B⟩;exact fin w' B
end
section
variable{C C':Orc}{E:Env}{α:Type}
theorem qni{I I':InlK α}(hC:∀f ts r,C f ts=some r->C' f ts=some r)(hI:∀f args h n(k k':AV->Hp->Nat->Option α) x,(∀v h n,k v h n=some x->k' v h n=some x)->I f args h n k=some x->I' f args h n k'=some x){st:St}{d:Option Nat}{k k':St->Option α}{x:α}(hk:∀st,k st=some x->k' st=some x):∀s:Stp,s.runK C I st d k=some x->s.runK C' I' st d k'=some x
|.fail,h=>by cases h
|.ret v h',h=>hk _ h
|.chk b s,h=>by
 cases b with
 |false=>cases h
 |true=>exact qni hC hI hk s h
|.call f ts kk,h=>by
 simp only[Stp.runK]at h|-;cases e:C f ts with
 |none=>rw[e]at h;cases h
 |some r=>rw[e,Option.bind_some]at h;rw[hC f ts r e,Option.bind_some];exact hk _ h
|.inl f args,h=>hI _ _ _ _ _ _ _ (λv h n hx=>hk _ hx) h
theorem qj4{I I':InlK α}(hC:∀f ts r,C f ts=some r->C' f ts=some r)(hI:∀f args h n(k k':AV->Hp->Nat->Option α) x,(∀v h n,k v h n=some x->k' v h n=some x)->I f args h n k=some x->I' f args h n k'=some x){n0:Nat}{ops:List Oper}{draw:Bool}{k k':St->Option α}{x:α}(hk:∀st,k st=some x->k' st=some x):∀(is:List Nat)(rs:List Rec)(st:St),regK C I E n0 ops draw is rs st k=some x->regK C' I' E n0 ops draw is rs st k'=some x
|[],rs,st,h=>by
 simp only[regK]at h|-;cases e:(!draw||(match befB ops []with|bef=>statR ops bef ops 0&&qhu n0 bef rs))with
 |false=>rw[e]at h;cases h
 |true=>rw[e]at h;exact hk _ h
|i::is,rs,st,h=>by
 simp only[regK]at h|-;cases ho:ops[i]? with
 |none=>rw[ho]at h;cases h
 |some o=>
  rw[ho]at h;simp only[qdh]at h|-;cases hw:wantV ops o st.s with
  |none=>rw[hw]at h;cases h
  |some b=>
   rw[hw]at h;cases b with
   |false=>exact qj4 hC hI hk is _ _ h
   |true=>
    simp only at h|-;cases e:(!draw||(opS E (n0+KN*i) o st.s st.h).noInl)with
    |false=>rw[e]at h;cases h
    |true=>rw[e,cond_true]at h;rw[cond_true];exact qni hC hI (λst' h'=>qj4 hC hI hk is _ _ h') _ h
theorem ql9{co:List (Nat×Nat)}{lv:List Nat}{ex:List (Ex×List Nat×CSt)}{base:Nat}{body body':St->(Ex->St->Option (List T))->Option (List T)}(hb:∀st(k k':Ex->St->Option (List T)) x,(∀e st,k e st=some x->k' e st=some x)->body st k=some x->body' st k'=some x):∀(n:Nat)(c:CSt)(x:List T),loopK co lv ex base body n c=some x->loopK co lv ex base body' n c=some x
|0,_,_,h=>by cases h
|n+1,c,x,h=>by
 simp only[loopK]at h|-;refine hb _ _ _ x (λe st he=>?_) h;cases e with
 |nrm=>exact ql9 hb n _ x he
 |ret=>exact he
 |ex id=>exact he
theorem qd9{I I':(α:Type)->InlK α}(hC:∀f ts r,C f ts=some r->C' f ts=some r)(hI:∀α f args h n(k k':AV->Hp->Nat->Option α) x,(∀v h n,k v h n=some x->k' v h n=some x)->I α f args h n k=some x->I' α f args h n k'=some x){lf:Nat}{fi:Fi}{base:Nat}:∀(c:Code)(α:Type)(st:St)(k k':Ex->St->Option α)(x:α),(∀e st,k e st=some x->k' e st=some x)->evK C I E lf fi base c α st k=some x->evK C' I' E lf fi base c α st k'=some x
|.skip,_,st,k,k',x,hk,h=>hk _ _ h
|.label _,_,st,k,k',x,hk,h=>hk _ _ h
|.ret,_,st,k,k',x,hk,h=>hk _ _ h
|.exit _,_,st,k,k',x,hk,h=>hk _ _ h
|.region id ops draw,α,st,k,k',x,hk,h=>by
 simp only[evK]at h|-;cases hd:dstOk fi.fn.ntmps ops.toList with
 |false=>rw[hd]at h;cases h
 |true=>rw[hd,cond_true]at h;rw[cond_true];exact qj4 hC (hI α) (λst h'=>hk _ _ h') _ _ _ h
|.seq a b,α,st,k,k',x,hk,h=>by
 simp only[evK]at h|-;refine qd9 hC hI a α st _ _ x (λe st he=>?_) h;cases e with
 |nrm=>exact qd9 hC hI b α st k k' x hk he
 |ret=>exact hk _ _ he
 |ex id=>exact hk _ _ he
|.cond c a b,α,st,k,k',x,hk,h=>by
 simp only[evK]at h|-;cases e:opd st.s none c with
 |b t=>
  rw[e]at h;cases t with
  |true=>exact qd9 hC hI a α st k k' x hk h
  |false=>exact qd9 hC hI b α st k k' x hk h
 |_=>rw[e]at h;cases h
|.block id c,α,st,k,k',x,hk,h=>by
 simp only[evK]at h|-;refine qd9 hC hI c α st _ _ x (λe st he=>?_) h;cases e with
 |nrm=>exact hk _ _ he
 |ret=>exact hk _ _ he
 |ex j=>
  simp only at he|-;cases hj:Nat.beq j id with
  |true=>rw[hj,cond_true]at he;rw[cond_true];exact hk _ _ he
  |false=>rw[hj,cond_false]at he;rw[cond_false];exact hk _ _ he
|.loop c,α,st,k,k',x,hk,h=>by
 simp only[evK]at h|-;generalize qut fi c=lp at h|-;obtain⟨_,lv,co,cx⟩:=lp;simp only at h|-;cases hem:(qe8 (canon co lv base st) cx).isEmpty with
 |true=>rw[hem]at h;cases h
 |false=>
 rw[hem,cond_false]at h;rw[cond_false];clear hem;cases hr:loopK co lv (qe8 (canon co lv base st) cx) base (λst k=>evK C I E lf fi base c (List T) st k) lf (canon co lv base st)with
 |none=>rw[hr]at h;cases h
 |some r=>
  rw[hr,Option.bind_some]at h;rw[ql9 (λst k k' x hk h=>qd9 hC hI c (List T) st k k' x hk h) lf _ r hr,Option.bind_some];generalize(0:Int)=i at h|-;generalize qe8 (canon co lv base st) cx=ex at h|-;clear hr;induction ex generalizing i with
  |nil=>cases h
  |cons y ys ih=>
   obtain⟨e,lv,t⟩:=y;cases ys with
   |nil=>exact hk _ _ h
   |cons z zs=>
    simp only[come]at h|-;cases hq:asI (nth r 0)==i with
    |true=>rw[hq,cond_true]at h;rw[cond_true];exact hk _ _ h
    |false=>rw[hq,cond_false]at h;rw[cond_false];exact ih _ h
|.rangeFunc ..,_,_,_,_,_,_,h=>by cases h
|.scope c,_,_,_,_,_,_,h=>by cases h
|.goto l,_,_,_,_,_,_,h=>by cases h
|.refuse r,_,_,_,_,_,_,h=>by cases h
theorem qo1(hC:∀f ts r,C f ts=some r->C' f ts=some r){lf:Nat}:∀(d:Nat)(α:Type)(f:Nat)(args:List AV)(h:Hp)(n:Nat)(k k':AV->Hp->Nat->Option α)(x:α),(∀v h n,k v h n=some x->k' v h n=some x)->inlK C E lf d α f args h n k=some x->inlK C' E lf d α f args h n k'=some x
|0,_,_,_,_,_,_,_,_,_,h=>by cases h
|d+1,α,f,args,hp,n,k,k',x,hk,h=>by
 simp only[inlK]at h|-;cases hfi:E.fi f with
 |none=>rw[hfi]at h;cases h
 |some fi=>
  rw[hfi]at h;simp only at h|-;cases hb:fi.fn.body with
  |none=>rw[hb]at h;cases h
  |some c=>
   rw[hb]at h;simp only at h|-;cases hg:(fi.inl&&Nat.ble args.length fi.fn.ntmps)with
   |false=>rw[hg]at h;cases h
   |true=>
    rw[hg,cond_true]at h;rw[cond_true];refine qd9 hC (qo1 hC d) c α _ _ _ x (λe st he=>?_) h;have key:∀(seen gone:List Nat),(match resVs E fi.fn st with|some vs=>k (outA (toOut seen seen.length n) (shOf hp seen seen.length) (tup vs)) (merge hp seen gone seen.length n st.h) (n+(st.n-seen.length))|none=>none)=some x->(match resVs E fi.fn st with|some vs=>k' (outA (toOut seen seen.length n) (shOf hp seen seen.length) (tup vs)) (merge hp seen gone seen.length n st.h) (n+(st.n-seen.length))|none=>none)=some x:=by
     intro seen gone h;cases hv:resVs E fi.fn st with
     |none=>rw[hv]at h;cases h
     |some vs=>rw[hv]at h;exact hk _ _ _ h
    cases e with
    |nrm=>exact key _ _ he
    |ret=>exact key _ _ he
    |ex id=>cases he
theorem qvd(hC:∀f ts r,C f ts=some r->C' f ts=some r){lf df:Nat}{fi:Fi}{ts r:List T}(h:funK C E lf df fi ts=some r):funK C' E lf df fi ts=some r:=by
 unfold funK at h|-;cases hb:fi.fn.body with
 |none=>rw[hb]at h;cases h
 |some c=>
  rw[hb]at h;simp only at h|-;cases hg:(Nat.beq ts.length fi.ps.length&&Nat.ble fi.ps.length fi.fn.ntmps&&!fi.inl)with
  |false=>rw[hg]at h;cases h
  |true=>rw[hg,cond_true]at h;rw[cond_true];exact qd9 hC (qo1 hC df) c _ _ _ _ r (λe st he=>he) h
theorem qqu{X:Nat->Option (List T->Option (List T))}{lf df:Nat}:∀(d:Nat)(f:Nat)(ts r:List T),orc X E lf df d f ts=some r->orc X E lf df (d+1) f ts=some r
|0,_,_,_,h=>by cases h
|d+1,f,ts,r,h=>by
 simp only[orc]at h|-;cases hX:X f with
 |some g=>rw[hX]at h;exact h
 |none=>
  rw[hX]at h;simp only at h|-;cases hf:E.fi f with
  |none=>rw[hf]at h;cases h
  |some fi=>rw[hf]at h;exact qvd (qqu d) h
theorem orc_le{X:Nat->Option (List T->Option (List T))}{lf df:Nat}{d d':Nat}(hd:d<=d'){f:Nat}{ts r:List T}(h:orc X E lf df d f ts=some r):orc X E lf df d' f ts=some r:=by
 obtain⟨k,rfl⟩:∃k,d'=d+k:=⟨d'-d,by omega⟩;clear hd;induction k with
 |zero=>exact h
 |succ k ih=>exact qqu _ _ _ _ ih
end
mutual
def fitC:CT->T->Prop
|.b,.b _=>True
|.i k,.i k' n=>k=k'/\(Lit.int k n).wf=true
|.s,.s x=>x.size<=maxLen
|.sl m cs,.sl l=>l.length<=maxLen/\fitL m cs l
|_,_=>False
def fitL(m:Bool)(cs:List CT):List T->Prop
|[]=>True
|x::l=>(match m,x with
 |true,.st xs=>fitCs cs xs
 |true,_=>False
 |false,x=>match cs with|[c]=>fitC c x|_=>False)/\fitL m cs l
def fitCs:List CT->List T->Prop
|[],[]=>True
|c::cs,x::xs=>fitC c x/\fitCs cs xs
|_,_=>False
end
def fitE(m:Bool)(cs:List CT)(x:T):Prop:=
 match m,x with
 |true,.st xs=>fitCs cs xs
 |true,_=>False
 |false,x=>match cs with|[c]=>fitC c x|_=>False
theorem qo5(m:Bool)(cs:List CT)(x:T)(l:List T):fitL m cs (x::l)=(fitE m cs x/\fitL m cs l):=by cases m<;>cases x<;>first|rfl|(simp only[fitL,fitE])
theorem qaz{m:Bool}{cs:List CT}:∀{l:List T},fitL m cs l↔∀x∈l,fitE m cs x
|[]=>by simp[fitL]
|x::l=>by rw[qo5,qaz (l:=l)];simp
theorem qjx:∀{cs:List CT}{xs:List T},fitCs cs xs↔xs.length=cs.length/\∀(j:Nat) c x,cs[j]? =some c->xs[j]? =some x->fitC c x
|[],[]=>by simp[fitCs]
|c::cs,x::xs=>by
 simp only[fitCs,qjx (cs:=cs) (xs:=xs),List.length_cons];constructor
 ·rintro⟨h1,h2,h3⟩;refine⟨by omega,λj d y hd hy=>?_⟩;cases j with
  |zero=>simp at hd hy;subst hd;subst hy;exact h1
  |succ j=>exact h3 j d y (by simpa using hd) (by simpa using hy)
 · rintro⟨h1,h2⟩;exact⟨h2 0 c x rfl rfl,by omega,λj d y hd hy=>h2 (j+1) d y (by simpa using hd) (by simpa using hy)⟩
|[],_::_=>by simp[fitCs]
|_::_,[]=>by simp[fitCs]
mutual
theorem qvh:∀(c:CT)(x:T),fitC c x->okC c x=true
|.sl m cs,.sl l,h=>qvi m cs l h.2
|.sl _ _,.u,h=>h.elim
|.sl _ _,.b _,h=>h.elim
|.sl _ _,.i _ _,h=>h.elim
|.sl _ _,.s _,h=>h.elim
|.sl _ _,.st _,h=>h.elim
|.b,x,_=>by cases x<;>rfl
|.i _,x,_=>by cases x<;>rfl
|.s,x,_=>by cases x<;>rfl
|.o,x,_=>by cases x<;>rfl
theorem qvi(m:Bool)(cs:List CT):∀(l:List T),fitL m cs l->okL m cs l=true
|[],_=>rfl
|x::l,h=>by
 rw[qo5]at h;rw[qi9,Bool.and_eq_true];refine⟨?_,qvi m cs l h.2⟩;cases m with
 |true=>cases x with
  |st xs=>exact qrf cs xs h.1
  |_=>exact h.1.elim
 |false=>
  match cs,h.1 with
  |[c],h1=>exact qvh c x h1
  |[],h1=>exact(show False from h1).elim
  |_::_::_,h1=>exact(show False from h1).elim
theorem qrf:∀(cs:List CT)(xs:List T),fitCs cs xs->okCs cs xs=true
|[],[],_=>rfl
|c::cs,x::xs,h=>by simp only[okCs,Bool.and_eq_true];exact⟨qvh c x h.1,qrf cs xs h.2⟩
|[],_::_,h=>h.elim
|_::_,[],h=>h.elim
end
mutual
def noO:CT->Bool
|.o=>false
|.sl _ cs=>noOs cs&&!cs.isEmpty
|_=>true
def noOs:List CT->Bool
|[]=>true
|c::cs=>noO c&&noOs cs
end
def qlf(E:Env):List (Nat×Nat)->Nat->List CT->Bool
|[],_,[]=>true
|(off,t)::fs,k,cs=>Nat.beq off k&&(match E.ty t with|some tf=>qd2 (cs.take tf.cs.length) tf.cs&&qlf E fs (k+tf.cs.length) (cs.drop tf.cs.length)|none=>false)
|_,_,_=>false
def qlc(E:Env)(ti:Ti):Bool:=match ti.d with|.st fs=>qlf E fs 0 ti.cs|_=>true
theorem qqy:∀{cs:List CT},noOs cs=true->∀{j:Nat}{c:CT},cs[j]? =some c->noO c=true
|[],_,_,_,h=>by simp at h
|c::cs,h,0,d,hd=>by simp only[noOs,Bool.and_eq_true]at h;simp at hd;subst hd;exact h.1
|c::cs,h,j+1,d,hd=>by simp only[noOs,Bool.and_eq_true]at h;exact qqy h.2 (by simpa using hd)
theorem qns{cs:List CT}(h:noOs cs=true)(k:Nat):noOs (cs.take k)=true/\noOs (cs.drop k)=true:=by
 have key:∀{cs:List CT},(∀c∈cs,noO c=true)->noOs cs=true:=by
  intro cs;induction cs with
  |nil=>intro _;rfl
  |cons c cs ih=>intro h;simp only[noOs,h c (List.mem_cons_self ..),ih λx hx=>h x (List.mem_cons_of_mem _ hx),Bool.and_self]
 have all:∀c∈cs,noO c=true:=λc hc=>by obtain⟨j,hj⟩:=List.mem_iff_getElem?.1 hc;exact qqy h hj
 exact⟨key λc hc=>all c (List.mem_of_mem_take hc),key λc hc=>all c (List.mem_of_mem_drop hc)⟩
section
variable{P:Program}{E:Env}{H:Type}{enc:TypeId×Value->H}{W:World}
def lawRo(W:World):Nat->Prop:=λb=>b<W.heap.size
def Told(W:World)(cs:List CT)(vs:List Value)(ts:List T):Prop:=vs.length=cs.length/\ts.length=cs.length/\∀(j:Nat) c,cs[j]? =some c->∃v x,vs[j]? =some v/\ts[j]? =some x/\CellRep W (roM (lawRo W)) [] c v x/\fitC c x
theorem qtx{ro:Nat->Prop}{c:CT}{v:Value}{x:T}(h:CellRep W (roM ro) [] c v x)(π:Path):CellRep W (roM ro) π c v x:=CellRep.moved (M:=roM ro) (M':=roM ro) (π:=[]) (π':=π) x ⟨λh=>h,λ_ _ hb=>⟨hb,rfl⟩⟩ h
theorem Told.one{c:CT}{v:Value}{x:T}(h:CellRep W (roM (lawRo W)) [] c v x)(hf:fitC c x):Told W [c] [v] [x]:=by
 refine⟨rfl,rfl,λj d hd=>?_⟩;cases j with
 |zero=>simp at hd;subst hd;exact⟨v,x,rfl,rfl,h,hf⟩
 |succ j=>simp at hd
theorem Told.app{cs cs':List CT}{vs vs':List Value}{ts ts':List T}(h:Told W cs vs ts)(h':Told W cs' vs' ts'):Told W (cs++cs') (vs++vs') (ts++ts'):=by
 obtain⟨h1,h2,h3⟩:=h;obtain⟨g1,g2,g3⟩:=h';refine⟨by simp[h1,g1],by simp[h2,g2],λj c hc=>?_⟩;by_cases hj:j<cs.length;· rw[List.getElem?_append_left hj]at hc;obtain⟨v,x,k1,k2,k3⟩:=h3 j c hc;exact⟨v,x,by rw[List.getElem?_append_left (by omega)];exact k1,by rw[List.getElem?_append_left (by omega)];exact k2,k3⟩
 · rw[List.getElem?_append_right (by omega)]at hc;obtain⟨v,x,k1,k2,k3⟩:=g3 _ c hc;exact⟨v,x,by rw[List.getElem?_append_right (by omega),h1];exact k1,by rw[List.getElem?_append_right (by omega),h2];exact k2,k3⟩
theorem Told.elem{cs:List CT}{vs:List Value}{ts:List T}(h:Told W cs vs ts){m:Bool}(hm:m=false->cs.length=1){c:Array Value}{o i:Nat}(hc:∀j v,vs[j]? =some v->c[o+j]? =some v):∃x,ElemRep W (roM (lawRo W)) [] m cs c o i x/\fitE m cs x:=by
 obtain⟨h1,h2,h3⟩:=h;cases m with
 |true=>
  refine⟨.st ts,⟨h2,?_⟩,?_⟩;· rw[qag];intro k hk;obtain⟨v,x,g1,g2,g3,_⟩:=h3 k _ (List.getElem?_eq_getElem (show k<cs.length by omega));rw[List.getElem?_eq_getElem hk]at g2;cases g2;simp only[Nat.zero_add];exact⟨_,v,List.getElem?_eq_getElem (by omega),hc k v g1,qtx g3 _⟩
  · exact qjx.2 ⟨h2,λj c x hj hx=>by obtain⟨v,x',_,g2,_,g4⟩:=h3 j c hj;rw[hx]at g2;cases g2;exact g4⟩
 |false=>match cs,hm rfl with|[ct],_=>obtain⟨v,x,g1,g2,g3,g4⟩:=h3 0 ct rfl;exact⟨x,⟨ct,v,rfl,by simpa using hc 0 v g1,qtx g3 _⟩,g4⟩
theorem exElems{R:Nat->T->Prop}(n:Nat)(h:∀i,i<n->∃x,R i x):∃l:List T,l.length=n/\∀i x,l[i]? =some x->R i x:=by
 induction n with
 |zero=>exact⟨[],rfl,λi x hx=>by simp at hx⟩
 |succ n ih=>
  obtain⟨l,hl,hr⟩:=ih (λi hi=>h i (by omega));obtain⟨x,hx⟩:=h n (by omega);refine⟨l++[x],by simp[hl],λi y hy=>?_⟩;by_cases e:i<n;· rw[List.getElem?_append_left (by omega)]at hy;exact hr i y hy
  ·have hi:=(List.getElem?_eq_some_iff.1 hy).1;simp at hi;obtain rfl:i=n:=by omega
   rw[List.getElem?_append_right (by omega),hl]at hy;simp at hy;subst hy;exact hx
theorem qhj(O:EnvOk P E){t:Nat}{ti:Ti}(ht:E.ty t=some ti):P.cellsOf t=ti.cs.length:=by obtain⟨i,d,z,h1,h2,h3,_⟩:=tyOk (O.ty t ti ht);simp[Program.cellsOf,h1,h3]
theorem qoe{cs:List CT}{td:TD}{d:TypeDesc}(h:descB E ⟨false,cs,td⟩ d=true):cs.length=1:=by
 match cs,h with
 |[],h=>cases td<;>simp[descB]at h
 |[_],_=>rfl
 |a::_::_,h=>cases td<;>cases a<;>simp[descB]at h
theorem qzp(O:EnvOk P E)(HL:∀t ti,E.ty t=some ti->qlc E ti=true):∀(n:Nat)(t:Nat)(ti:Ti)(vs:List Value)(y:DataW H×List MemPlace),E.ty t=some ti->noOs ti.cs=true->DataW.trod enc P W 0 (λ_=>true) true n t vs=some y->∃ts,Told W ti.cs vs ts:=by
 intro n;induction n with
 |zero=>intro t ti vs y _ _ h;simp[DataW.trod]at h
 |succ n ih=>
  intro t ti vs y ht hno h;obtain⟨i,d,z,hi,hd,hsz,hq1,hq2,hq3,hdesc,hq4,hq5⟩:=tyOk (O.ty t ti ht);clear hq1 hq2 hq3 hq4 hq5;obtain⟨agg,cs,td⟩:=ti;unfold descB at hdesc;split at hdesc
  ·rename_i cs0 fs heq;cases heq;split at hdesc
   ·rename_i F;have hF:F.toList.map (λf=>(f.offset,f.type))=fs:=by simpa using hdesc
    have hfl:=HL t _ ht;simp only[qlc]at hfl;obtain⟨xs,n',hn,_,hlen,hxl,hfd⟩:=DataW.trod_struct hd h;have hn':n'=n:=by omega
    subst hn';have hvl:vs.length=cs.length:=by rw[hlen,qhj O ht]
    have key:∀(fs:List (Nat×Nat))(k:Nat)(cs:List CT)(vs:List Value)(q:Nat),qlf E fs k cs=true->noOs cs=true->vs.length=cs.length->(∀(j:Nat) off t',fs[j]? =some (off,t')->∃x,DataW.trod enc P W 0 (λ_=>true) true n' t' ((vs.drop (off-k)).take (P.cellsOf t'))=some x)->∃ts,Told W cs vs ts:=by
     intro fs;induction fs with
     |nil=>
      intro k cs vs q hf _ hl _;cases cs with
      |nil=>cases vs with
       |nil=>exact⟨[],rfl,rfl,λj c hc=>by simp at hc⟩
       |cons _ _=>simp at hl
      |cons _ _=>cases hf
     |cons ft fs ihf=>
      intro k cs vs q hf hno hl hall;obtain⟨off,t'⟩:=ft;simp only[qlf,Bool.and_eq_true]at hf;obtain⟨ho,hf⟩:=hf;have ho:=Nat.eq_of_beq_eq_true ho;subst ho;cases htf:E.ty t' with
      |none=>rw[htf]at hf;cases hf
      |some tf=>
       rw[htf]at hf;simp only[Bool.and_eq_true]at hf;obtain⟨h1,h2⟩:=hf;have h1:=qcm h1;have hc':=qhj O htf;obtain⟨x,hx⟩:=hall 0 off t' rfl;rw[Nat.sub_self,List.drop_zero,hc']at hx;obtain⟨ts1,T1⟩:=ih t' tf _ x htf (by rw[<-h1];exact(qns hno _).1) hx;have hlen':tf.cs.length<=cs.length:=by have:=congrArg List.length h1;rw[List.length_take]at this;omega
       obtain⟨ts2,T2⟩:=ihf (off+tf.cs.length) (cs.drop tf.cs.length) (vs.drop tf.cs.length) q h2 (qns hno _).2 (by simp[hl]) (λj off' t'' hj=>by
        obtain⟨x',hx'⟩:=hall (j+1) off' t'' (by simpa using hj);have hge:∀(fs:List (Nat×Nat))(k:Nat)(cs:List CT),qlf E fs k cs=true->∀(j:Nat) off t,fs[j]? =some (off,t)->k<=off:=by
         intro fs;induction fs with
         |nil=>intro k cs _ j off t h;simp at h
         |cons ft fs ihg=>
          intro k cs hf j o2 t2 hj;obtain⟨o3,t3⟩:=ft;simp only[qlf,Bool.and_eq_true]at hf;obtain⟨g1,g2⟩:=hf;have g1:=Nat.eq_of_beq_eq_true g1;subst g1;cases j with
          |zero=>simp at hj;omega
          |succ j=>
           cases e3:E.ty t3 with
           |none=>rw[e3]at g2;cases g2
           |some tf3=>rw[e3]at g2;simp only[Bool.and_eq_true]at g2;have:=ihg _ _ g2.2 j o2 t2 (by simpa using hj);omega
        have:=hge fs _ _ h2 j off' t'' hj;refine⟨x',?_⟩;rw[List.drop_drop,show tf.cs.length+(off'-(off+tf.cs.length))=off'-off by omega];exact hx')
       have hT:=T1.app T2;have ec:tf.cs++cs.drop tf.cs.length=cs:=by have:=List.take_append_drop tf.cs.length cs;rw[h1]at this;exact this
       rw[List.take_append_drop,ec]at hT;exact⟨_,hT⟩
    refine key fs 0 cs vs 0 hfl hno hvl λj off t' hj=>?_;rw[<-hF]at hj;rw[List.getElem?_map,Option.map_eq_some_iff]at hj;obtain⟨f,hf,he⟩:=hj;cases he;have hf':F[j]? =some f:=by simpa using hf
    have:=hfd j f hf';have hjl:j<xs.length:=by rw[hxl];exact(Array.getElem?_eq_some_iff.1 hf').1
    rw[List.getElem?_eq_getElem hjl]at this;exact⟨_,by rw[Nat.sub_zero];exact this⟩
   · cases hdesc
  ·rename_i m cs0 e heq;cases heq;split at hdesc
   ·rename_i e';rw[Bool.and_eq_true]at hdesc;have he:=Nat.eq_of_beq_eq_true hdesc.1;subst he;cases hte:E.ty e' with
    |none=>rw[hte]at hdesc;cases hdesc.2
    |some tie=>
     rw[hte]at hdesc;simp only[Bool.and_eq_true,beq_iff_eq]at hdesc;obtain⟨_,hm,hcs⟩:=hdesc;have hcs:=qcm hcs;subst hm;have hno1:noO (.sl tie.agg cs0)=true:=by simp only[noOs,Bool.and_true]at hno;exact hno
     simp only[noO,Bool.and_eq_true,Bool.not_eq_true']at hno1;have hpos:0<cs0.length:=by
      cases cs0 with
      |nil=>simp at hno1
      |cons _ _=>simp
     have hce:P.cellsOf e'=cs0.length:=by rw[qhj O hte,hcs]
     rcases DataW.trod_slice hd h with⟨rfl,_⟩|⟨a,len,cap,elems,rest,n',hn,rfl,_,_,hlc,hcap,hel,hget,hsp,_⟩
     · exact⟨[.sl []],Told.one (qa6.2 (.inl ⟨.inl rfl,rfl⟩)) ⟨by simp,trivial⟩⟩
     ·have hn':n'=n:=by omega
      subst hn';by_cases hz:len=0;· subst hz;exact⟨[.sl []],Told.one (qa6.2 (.inl ⟨.inr ⟨trivial,some a,cap,rfl⟩,rfl⟩)) ⟨by simp,trivial⟩⟩
      ·have cellAt:∀j,j<cap->∃cs',(W.cells? 0 (a.add (j*P.cellsOf e')) (P.cellsOf e'))=some cs'/\∃y,DataW.trod enc P W 0 (λ_=>true) true n' e' cs'=some y:=by
        intro j hj;by_cases hjl:j<len;· have hg:=hget j hjl;rw[List.getElem?_eq_getElem (by omega),Option.bind_eq_some_iff]at hg;obtain⟨cs',k1,k2⟩:=hg;exact⟨cs',k1,_,k2⟩
        · obtain⟨hr,hrest⟩:=hsp rfl;have hg:=hrest (j-len) (by omega);rw[List.getElem?_eq_getElem (by omega),Option.bind_eq_some_iff]at hg;obtain⟨cs',k1,k2⟩:=hg;rw[show len+(j-len)=j by omega]at k1;exact⟨cs',k1,_,k2⟩
       have hblk:∃c ty fz,W.heap[a.block]? =some (.cells c ty fz)/\a.spot=none:=by
        obtain⟨cs',k1,_⟩:=cellAt 0 (by omega);obtain⟨_,kl,kc⟩:=World.cells?_some k1;have:=kc 0 (by omega);rw[List.getElem?_eq_getElem (by omega)]at this;have e0:(a.add (0*P.cellsOf e')).add 0=a:=by simp[Addr.add]
        rw[e0]at this;unfold World.cell? at this;split at this
        ·rename_i c ty fz hh;refine⟨c,ty,fz,hh,?_⟩;cases hs:a.spot with
         |none=>rfl
         |some s=>simp[hs]at this
        · cases this
       obtain⟨c,ty,fz,hb,hspot⟩:=hblk;obtain⟨ab,ao,asp⟩:=a;simp only at hspot hb;subst hspot;have cellc:∀j cs',W.cells? 0 ((⟨ab,ao,none⟩:Addr).add (j*P.cellsOf e')) (P.cellsOf e')=some cs'->∀k v,cs'[k]? =some v->c[ao+j*cs0.length+k]? =some v:=by
        intro j cs' k1 k v hv;obtain⟨_,kl,kc⟩:=World.cells?_some k1;have hk:k<P.cellsOf e':=by rw[<-kl];exact(List.getElem?_eq_some_iff.1 hv).1
        have:=kc k hk;rw[hv,qc3,qc3,cell_of hb,hce]at this;exact this
       obtain⟨l,hll,hl⟩:=exElems (R:=λi x=>ElemRep W (roM (lawRo W)) [] tie.agg cs0 c (ao+i*cs0.length) i x/\fitE tie.agg cs0 x) len (λi hi=>by obtain⟨cs',k1,y',k2⟩:=cellAt i (by omega);obtain⟨ts,hT⟩:=ih e' tie cs' y' hte (by rw[hcs];exact hno1.1) k2;rw[hcs]at hT;refine hT.elem (λhmf=>?_) λj v hv=>cellc i cs' k1 j v hv;obtain⟨_,_,_,_,_,_,_,_,_,he5,_,_⟩:=tyOk (O.ty e' tie hte);rw[<-hcs];obtain⟨g1,g2,g3⟩:=tie;simp only at hmf;subst hmf;exact qoe he5);have hmx:len<=maxLen:=Nat.le_trans hlc hcap;refine⟨[.sl l],Told.one (qa6.2 (.inr ⟨ab,ao,cap,c,ty,fz,?_,?_,hb,by omega,?_,?_⟩)) ⟨by omega,qaz.2 λx hx=>?_⟩⟩;· rw[hll]
       · exact(Array.getElem?_eq_some_iff.1 hb).1
       ·obtain⟨cs',k1,_⟩:=cellAt (cap-1) (by omega);obtain⟨_,kl,_⟩:=World.cells?_some k1;have hv:cs'[cs0.length-1]? =some cs'[cs0.length-1]:=List.getElem?_eq_getElem (by omega);have:=cellc (cap-1) cs' k1 (cs0.length-1) _ hv;have hlt:=(Array.getElem?_eq_some_iff.1 this).1;have e1:(cap-1)*cs0.length+cs0.length=cap*cs0.length:=by
         have:cap=cap-1+1:=by omega
         rw[this,Nat.add_mul];simp
        omega
       · rw[qa5];intro k hk;simp only[Nat.zero_add];exact(hl k _ (List.getElem?_eq_getElem hk)).1
       · obtain⟨j,hj⟩:=List.mem_iff_getElem?.1 hx;exact(hl j x hj).2
   · cases hdesc
  ·rename_i heq;cases heq;split at hdesc;· obtain⟨b,rfl,_⟩:=DataW.trod_bool hd h;exact⟨[.b b],Told.one ⟨rfl,rfl⟩ trivial⟩
   · cases hdesc
  ·rename_i k heq;cases heq;split at hdesc
   ·rename_i k';have hk:k'=k:=by simpa using hdesc
    subst hk;obtain⟨x,rfl,_,hw⟩:=DataW.trod_int hd h;exact⟨[.i k' x],Told.one ⟨rfl,rfl⟩ ⟨rfl,hw⟩⟩
   · cases hdesc
  ·rename_i heq;cases heq;split at hdesc;· obtain⟨x,rfl,_,hl⟩:=DataW.trod_string hd h;exact⟨[.s x],Told.one ⟨rfl,rfl⟩ hl⟩
   · cases hdesc
  · rename_i heq;cases heq;simp[noOs,noO]at hno
  · cases hdesc
end
def pd1(c:CT):PD:=bif c.isSl then .ro c else .v c
def pdOf(ti:Ti):PD:=match ti.agg,ti.cs with|true,cs=>.ag (cs.map pd1)|false,[c]=>pd1 c|false,_=>.v .o
def lawG(W:World):Gh:={φ:=λ_=>undef,own:=λ_=>none,ro:=lawRo W,kv:=⟨λ_=>undef,lawRo W⟩,al:=λ_=>False}
section
variable{P:Program}{E:Env}{H:Type}{enc:TypeId×Value->H}{W:World}
theorem lawInv(W:World):Inv W (λ_=>False) W (lawG W) noBlk:=⟨rfl,rfl,rfl,Nat.le_refl _,λ_ _ _=>rfl,λ_ _ h=>(by cases h),λ_ _ h=>(by cases h),λ_ _=>rfl,λ_ h=>h,λ_ h=>.inl h,λ_ _ _ h=>(by cases h)⟩
theorem qvf{M M':Mem}{π π':Path}{c:CT}{v:Value}{x:T}(hc:c.isSl=false)(h:CellRep W M π c v x):CellRep W M' π' c v x:=by
 cases x with
 |u=>rw[h.1]at hc;cases hc
 |b y=>exact h
 |i k n=>exact h
 |s y=>exact h
 |sl l=>obtain⟨m,cs,rfl,_⟩:=h;cases hc
 |st l=>exact h.elim
theorem qqp{K:Nat}{c:CT}{v:Value}{x:T}(h:CellRep W (roM (lawRo W)) [] c v x)(hf:fitC c x):PRep1 W (lawG W) K (pd1 c) v x:=by
 unfold pd1;cases hc:c.isSl with
 |true=>exact⟨h,qvh c x hf⟩
 |false=>exact⟨qvf hc h,hc⟩
theorem qkn:∀{cs:List CT}{vs:List Value}{ts:List T}{K:Nat},Told W cs vs ts->PReps W (lawG W) K (cs.map pd1) vs ts
|[],[],[],_,_=>trivial
|c::cs,v::vs,t::ts,K,h=>by obtain⟨h1,h2,h3⟩:=h;obtain⟨v',x',g1,g2,g3,g4⟩:=h3 0 c rfl;cases g1;cases g2;exact⟨qqp g3 g4,qkn ⟨by simpa using h1,by simpa using h2,λj d hd=>by simpa using h3 (j+1) d (by simpa using hd)⟩⟩
|[],_::_,_,_,h=>by simp[Told]at h
|[],[],_::_,_,h=>by simp[Told]at h
|_::_,[],_,_,h=>by simp[Told]at h
|_::_,_::_,[],_,h=>by simp[Told]at h
theorem quy(O:EnvOk P E)(HL:∀t ti,E.ty t=some ti->qlc E ti=true){t:Nat}{ti:Ti}{v:Value}{d:DataW H}{p:List MemPlace}{r:Reach}{base K:Nat}(ht:E.ty t=some ti)(hno:noOs ti.cs=true)(hval:Value.okWide P W r base t v)(h:DataW.Trod enc P W 0 (λ_=>true) true t v d p):∃x,PRep W (lawG W) K (pdOf ti) v x/\fitE ti.agg ti.cs x:=by
 obtain⟨fuel,hf⟩:=h;obtain⟨ts,hT⟩:=qzp O HL fuel t ti _ _ ht hno hf;obtain⟨i,d,z,hi,hd,hsz,hq1,hq2,hq3,hdesc,hq4,hq5⟩:=tyOk (O.ty t ti ht);obtain⟨agg,cs,td⟩:=ti;cases agg with
 |true=>
  have hF:∃F,d=.struct F:=by cases td<;>cases d<;>first|exact⟨_,rfl⟩|(simp[descB]at hdesc)
  obtain⟨F,rfl⟩:=hF;obtain⟨us,rfl,_⟩:=Go.WideShapes.okWide_struct hd hval;exact⟨.st ts,⟨us,ts,rfl,rfl,qkn hT⟩,qjx.2 ⟨hT.2.1,λj c x hc hx=>by obtain⟨_,x',_,g2,_,g4⟩:=hT.2.2 j c hc;rw[hx]at g2;cases g2;exact g4⟩⟩
 |false=>
  have hcell:v.cells.toList=[v]:=by
   have:(∃e,d=.slice e)\/d=.bool\/(∃k,d=.int k)\/d=.string:=by
    match cs,td,hno,hdesc with
    |[.sl m c],.sl e,_,h=>cases d<;>first|exact .inl ⟨_,rfl⟩|(simp[descB]at h)
    |[.b],.o,_,h=>cases d<;>first|exact .inr (.inl rfl)|(simp[descB]at h)
    |[.i k],.o,_,h=>cases d<;>first|exact .inr (.inr (.inl ⟨_,rfl⟩))|(simp[descB]at h)
    |[.s],.o,_,h=>cases d<;>first|exact .inr (.inr (.inr rfl))|(simp[descB]at h)
    |[.o],_,hn,_=>simp[noOs,noO]at hn
    |[],td,_,h=>cases td<;>simp[descB]at h
    |a::b::l,td,_,h=>cases td<;>cases a<;>simp[descB]at h
    |[.sl m c],.st _,_,h=>simp[descB]at h
    |[.sl m c],.o,_,h=>simp[descB]at h
    |[.b],.sl _,_,h=>simp[descB]at h
    |[.b],.st _,_,h=>simp[descB]at h
    |[.i _],.sl _,_,h=>simp[descB]at h
    |[.i _],.st _,_,h=>simp[descB]at h
    |[.s],.sl _,_,h=>simp[descB]at h
    |[.s],.st _,_,h=>simp[descB]at h
   rcases this with⟨e,rfl⟩|rfl|⟨k,rfl⟩|rfl
   · obtain⟨a,l,c,rfl⟩:=Go.WideShapes.okWide_slice hd hval;rfl
   · obtain⟨b,rfl⟩:=Go.WideShapes.okWide_bool hd hval;rfl
   · obtain⟨b,rfl⟩:=Go.WideShapes.okWide_int hd hval;rfl
   · obtain⟨b,rfl⟩:=Go.WideShapes.okWide_string hd hval;rfl
  rw[hcell]at hT;match cs,qoe hdesc with
  |[c],_=>
   obtain⟨v',x,g1,g2,g3,g4⟩:=hT.2.2 0 c rfl;cases g1;refine⟨x,?_,g4⟩;have:=qqp (K:=K) g3 g4;show PRep W (lawG W) K (pd1 c) v x;unfold pd1 at this|-;cases hc:c.isSl with
   |true=>rw[hc]at this;exact this
   |false=>rw[hc]at this;exact this
theorem qj7:∀{cs:List CT}{us:List Value},qcs (cs.map pd1) us=[]
|[],us=>by cases us<;>rfl
|c::cs,[]=>by
 have:∀ps:List PD,qcs ps []=[]:=λps=>by
  cases ps with
  |nil=>rfl
  |cons p ps=>cases p<;>rfl
 exact this _
|c::cs,u::us=>by
 have h1:∀{ps:List PD},qcs (pd1 c::ps) (u::us)=qcs ps us:=by intro ps;unfold pd1;cases c.isSl<;>rfl
 rw[List.map_cons,h1];exact qj7
theorem qsh(ti:Ti)(u:Value):owVal (pdOf ti) u=[]:=by
 obtain⟨agg,cs,td⟩:=ti;cases agg with
 |true=>
  show owVal (.ag (cs.map pd1)) u=[];simp only[owVal];split;· exact qj7
  · rfl
 |false=>
  match cs with
  |[]=>rfl
  |[c]=>show owVal (pd1 c) u=[];unfold pd1;cases c.isSl<;>rfl
  |_::_::_=>rfl
theorem ql1:∀{tis:List Ti}{us:List Value},qg0 (tis.map pdOf) us=[]
|[],us=>by cases us<;>rfl
|ti::tis,[]=>by simp only[List.map_cons,qg0]
|ti::tis,u::us=>by simp only[List.map_cons,qg0,qsh,List.nil_append];exact ql1
theorem qxp{f:FuncId}{fi:Fi}{C:List T->Option (List T)}(hC:qaq P fi f C)(hrs:fi.rs=[.v .b])(hps:bxPs fi.ps=[]){args:List Value}{ts:List T}(hrep:PRepL W (lawG W) 0 fi.ps args ts)(hr:C ts=some [.b true])(how:qg0 fi.ps args=[]):Calls P f args.toArray W λe W'=>e=.returned (.bool true)/\Go.RowKit.Below W.heap.size W W':=by
 refine(hC W (λ_=>False) (lawG W) args ts _ (lawInv W) (λ_ h=>h) hrep hr).mono ?_;rintro e W' ⟨vs,ts',us,ws,G',rfl,hts,I',_,_,P3,P4,P5,_⟩;rw[hrs]at P3;rw[how]at P4;rw[hps]at P5;have hb:Go.RowKit.Below W.heap.size W W':=⟨I'.os,I'.tape,I'.output,I'.size,λk hk=>I'.same k hk (λh=>h)⟩;refine⟨?_,hb⟩;cases us with
 |cons _ _=>exact P4.elim
 |nil=>
  have hw:ws=[]:=by
   cases ws with
   |nil=>rfl
   |cons _ _=>
    have:∀{us:List Value}{K:Nat}{x:T}{xs:List T},¬BoxesBk W' G' K [] us (x::xs):=by intro us K x xs h;cases us<;>exact h
    exact(this P5).elim
  subst hw;simp only[List.append_nil]at hts;subst hts;match vs,P3 with|[u],h=>have h1:u=.bool true:=h.1.1.2;rw[h1];rfl
theorem qcv{α:Type}:∀{l:List (Nat×α)}{n:Nat}{v:α},lookN l n=some v->(n,v)∈l
|[],_,_,h=>by cases h
|(k,x)::l,n,v,h=>by
 simp only[lookN]at h;cases e:Nat.beq k n with
 |true=>rw[e]at h;cases h;rw[Nat.eq_of_beq_eq_true e];exact List.mem_cons_self ..
 |false=>rw[e]at h;exact List.mem_cons_of_mem _ (qcv h)
def AllF{α:Type}(Q:α->Prop):List α->Prop
|[]=>True
|x::l=>Q x/\AllF Q l
theorem AllF.get{α:Type}{Q:α->Prop}:∀{l:List α},AllF Q l->∀x∈l,Q x
|[],_,x,h=>by cases h
|y::l,H,x,h=>by
 rcases List.mem_cons.1 h with rfl|h
 · exact H.1
 · exact AllF.get H.2 x h
theorem qy2{fiL:List (Nat×Fi)}{tyL:List (Nat×Ti)}(h1:(tyL.all λx=>tyOkB P ⟨lookN fiL,lookN tyL⟩ x.1 x.2&&(!(x.2.agg&&flatB x.2.cs)||eqTyB P x.1 x.2))=true)(h2:AllF (λx:Nat×Fi=>P.funcs[x.1]? =some x.2.fn/\x.2.fn.body.isSome=true/\(x.2.fn.name=="runtime.NumGoroutine")=false) fiL)(h3:P.follows .mixedOrders=true):EnvOk P ⟨lookN fiL,lookN tyL⟩:=by
 refine⟨λt ti ht=>?_,λt ti ht ha hf=>?_,λf fi hf=>h2.get _ (qcv hf),h3⟩;· have:=List.all_eq_true.1 h1 _ (qcv ht);rw[Bool.and_eq_true]at this;exact this.1
 · have:=List.all_eq_true.1 h1 _ (qcv ht);rw[Bool.and_eq_true]at this;simp only[ha,hf,Bool.and_self,Bool.not_true,Bool.false_or]at this;exact this.2
theorem xs_of{fiL:List (Nat×Fi)}{tyL:List (Nat×Ti)}{xL:List (Nat×(List T->Option (List T)))}(h:AllF (λx:Nat×(List T->Option (List T))=>∀fi,(⟨lookN fiL,lookN tyL⟩:Env).fi x.1=some fi->qaq P fi x.1 x.2) xL):∀f g fi,lookN xL f=some g->(⟨lookN fiL,lookN tyL⟩:Env).fi f=some fi->qaq P fi f g:=λ_ _ fi hx hf=>h.get _ (qcv hx) fi hf
theorem qxq{fiL:List (Nat×Fi)}{tyL:List (Nat×Ti)}(h:(tyL.all λx=>qlc ⟨lookN fiL,lookN tyL⟩ x.2)=true):∀t ti,(⟨lookN fiL,lookN tyL⟩:Env).ty t=some ti->qlc ⟨lookN fiL,lookN tyL⟩ ti=true:=λt ti ht=>List.all_eq_true.1 h _ (qcv ht)
theorem fiB_of{fiL:List (Nat×Fi)}{tyL:List (Nat×Ti)}(h:(fiL.all λx=>x.2.inl||fiB x.2)=true):∀f fi,(⟨lookN fiL,lookN tyL⟩:Env).fi f=some fi->fi.inl=false->fiB fi=true:=by intro f fi hf hin;have:=List.all_eq_true.1 h _ (qcv hf);rw[hin,Bool.false_or]at this;exact this
end
theorem qac{x:Int}(h0: -9223372036854775808<=x)(h1:x<=9223372036854775807):IntKind.wrap .i64 x=x:=by rw[IntKind.wrap_i64];omega
theorem qa2{j len:Nat}(h:j<len):inR (j:Int) len=true:=by unfold inR;simp[h]
theorem qa3{j len:Nat}(h:j<len)(hl:len<=9223372036854775807):IntKind.wrap .i64 ((j:Int)+1)=((j+1:Nat):Int):=by rw[qac (by omega) (by omega)];omega
mutual
def smC:T->Prop
|.sl l=>l.length<=1048576/\smL l
|.st l=>smL l
|.s x=>x.size<=1048576
|_=>True
def smL:List T->Prop
|[]=>True
|x::l=>smC x/\smL l
end
theorem qcf{l:List T}{j:Nat}(h:j<l.length):l.getD ((j:Int)).toNat .u=l[j]:=by rw[show((j:Int)).toNat=j from rfl,List.getD_eq_getElem?_getD,List.getElem?_eq_getElem h];rfl
def OLe(c c':Orc):Prop:=∀f ts r,c f ts=some r->c' f ts=some r
mutual
def tl:T->Nat
|.s x=>x.size
|.sl l=>l.length+tls l
|.st l=>tls l
|_=>0
def tls:List T->Nat
|[]=>0
|x::l=>tl x+tls l
end
theorem qfa{x:T}:∀{l:List T},x∈l->tl x<=tls l
|[],h=>by cases h
|y::l,h=>by
 simp only[tls];rcases List.mem_cons.1 h with rfl|h
 · omega
 · have:=qfa h;omega
theorem qly{l:List T}{j:Nat}(h:j<l.length):tls (l.drop j)=tl l[j]+tls (l.drop (j+1)):=by rw[List.drop_eq_getElem_cons h];rfl
theorem nth0(x:T)(l:List T):nth (x::l) 0=x:=rfl
theorem nthS(x:T)(l:List T)(i:Nat):nth (x::l) (i+1)=nth l i:=rfl
theorem asI_i(k:IntKind)(n:Int):asI (.i k n)=n:=rfl
theorem asB_b(x:Bool):asB (.b x)=x:=rfl
theorem asS_s(x:ByteArray):asS (.s x)=x:=rfl
theorem asL_l(x:List T):asL (.sl x)=x:=rfl
theorem cell0(x:T)(l:List T):T.cell (.st (x::l)) 0=x:=rfl
theorem cellS(x:T)(l:List T)(i:Nat):T.cell (.st (x::l)) (i+1)=T.cell (.st l) i:=rfl
theorem ne_f(r:Int):(r !=r)=false:=by simp
section
variable{c c':Orc}{lf:Nat}
def SZ1(c:Orc)(f:Nat)(Fit:T->Prop):Prop:=∀t,Fit t->∀x:Int,0<=x->x<=1048576->c f [t,.i .i64 x]=some [.i .i64 (-1)]\/∃r:Int,c f [t,.i .i64 x]=some [.i .i64 r]/\0<=r/\(tl t:Int)+r<=x
def TO1(c:Orc)(f:Nat)(Fit:T->Prop):Prop:=∀t,Fit t->tl t<=16777216->c f [t]=some [t]
def EQ1(c:Orc)(f:Nat)(Fit:T->Prop):Prop:=∀t,Fit t->tl t<=16777216->c f [t,t]=some [.b true]
theorem SZ1.le{f:Nat}{Fit:T->Prop}(h:OLe c c')(H:SZ1 c f Fit):SZ1 c' f Fit:=λt ht x h0 h1=>(H t ht x h0 h1).imp (h _ _ _) λ⟨r,g1,g2⟩=>⟨r,h _ _ _ g1,g2⟩
theorem TO1.le{f:Nat}{Fit:T->Prop}(h:OLe c c')(H:TO1 c f Fit):TO1 c' f Fit:=λt ht hs=>h _ _ _ (H t ht hs)
theorem EQ1.le{f:Nat}{Fit:T->Prop}(h:OLe c c')(H:EQ1 c f Fit):EQ1 c' f Fit:=λt ht hs=>h _ _ _ (H t ht hs)
theorem qko{x:Int}{n:Nat}(h0:0<=x)(h1:x<=1048576)(hn:n<=maxLen):IntKind.wrap .i64 (x-(n:Int))=x-(n:Int):=by
 have:maxLen=9223372036854775807:=by decide
 exact qac (by omega) (by omega)
def noTl:List CT->Bool
|[]=>true
|.b::cs=>noTl cs
|.i _::cs=>noTl cs
|_=>false
theorem qoz:∀{cs:List CT}{xs:List T},noTl cs=true->fitCs cs xs->tls xs=0
|[],[],_,_=>rfl
|[],_::_,_,h=>h.elim
|_::_,[],_,h=>by simp[fitCs]at h
|c::cs,x::xs,hn,h=>by
 have hx:tl x=0/\noTl cs=true:=by
  cases c with
  |b=>refine⟨?_,hn⟩;cases x<;>first|rfl|exact h.1.elim
  |i k=>refine⟨?_,hn⟩;cases x<;>first|rfl|exact h.1.elim
  |s=>cases hn
  |sl _ _=>cases hn
  |o=>cases hn
 simp only[tls,hx.1,qoz hx.2 h.2]
theorem qz2{m:Bool}{cs:List CT}{x:T}(hn:noTl cs=true)(h:fitE m cs x):tl x=0:=by
 cases m with
 |true=>
  cases x<;>first|exact h.elim|skip
  exact qoz hn h
 |false=>
  match cs,hn,h with
  |[c],hn,h=>have:=qoz (cs:=[c]) (xs:=[x]) hn ⟨h,trivial⟩;simpa[tls]using this
  |[],_,h=>simp[fitE]at h
  |_::_::_,_,h=>simp[fitE]at h
theorem qq8{l:List T}(h:∀x∈l,tl x=0):tls l=0:=by
 induction l with
 |nil=>rfl
 |cons x l ih=>simp only[tls,h x (List.mem_cons_self ..),ih λy hy=>h y (List.mem_cons_of_mem _ hy)]
theorem qx4{m:Bool}{cs:List CT}(hn:noTl cs=true){f:Nat}(hcall:∀l x,c f [.sl l,.i .i64 x]=bif decide (IntKind.wrap .i64 (x-(l.length:Int))<0)then some [T.i .i64 (-1)]else some [T.i .i64 (IntKind.wrap .i64 (x-(l.length:Int)))]):SZ1 c f (fitC (.sl m cs)):=by
 intro t ht x h0 h1;cases t<;>first|exact ht.elim|skip
 rename_i l;have hs:=qko h0 h1 ht.1;have hz:tls l=0:=qq8 λy hy=>qz2 hn (qaz.1 ht.2 y hy);by_cases h:x-(l.length:Int)<0;· left;rw[hcall,hs];simp[h]
 ·right;refine⟨x-(l.length:Int),?_,by omega,?_⟩;· rw[hcall,hs];simp[h]
  · simp only[tl,hz];omega
theorem qn9(hlf:33554432<=lf){m:Bool}{cs:List CT}{f g:Nat}{F:List T->Nat->Int->Int->Option (List T)}{G:List T->Int->Int->Option (List T)}(hg:SZ1 c g (fitE m cs))(hcall:∀l x,c' f [.sl l,.i .i64 x]=bif decide (IntKind.wrap .i64 (x-(l.length:Int))<0)then some [T.i .i64 (-1)]else(F l lf (IntKind.wrap .i64 (x-(l.length:Int))) 0).bind λr=>bif asI (nth r 0)==0 then some [T.i .i64 (asI (nth r 1))]else some [T.i .i64 (asI (nth r 1))])(hF:∀l n x i,F l (n+1) x i=bif decide (i<(l.length:Int))then bif inR i l.length then(G l i x).bind λr=>bif decide (asI (nth r 0)<0)then some [T.i .i64 0,T.i .i64 (-1)]else F l n (asI (nth r 0)) (IntKind.wrap .i64 (i+1))else none else some [T.i .i64 1,T.i .i64 x])(hG:∀l(j:Nat) x(h:j<l.length),fitE m cs l[j]->G l j x=c g [l[j],.i .i64 x]):SZ1 c' f (fitC (.sl m cs)):=by
 intro t ht x h0 h1;cases t<;>first|exact ht.elim|skip
 rename_i l;have hs:=qko h0 h1 ht.1;have hfit:=qaz.1 ht.2;by_cases h:x-(l.length:Int)<0;· left;rw[hcall,hs];simp[h]
 ·have hl:l.length<=1048576:=by omega
  have hd0:decide (x-(l.length:Int)<0)=false:=by simp;omega
  have all:∀(m j:Nat)(n:Nat)(y:Int),j+m=l.length->m<n->0<=y->y<=1048576->F l n y j=some [T.i .i64 0,T.i .i64 (-1)]\/∃r,F l n y j=some [T.i .i64 1,T.i .i64 r]/\0<=r/\(tls (l.drop j):Int)+r<=y:=by
   intro m;induction m with
   |zero=>
    intro j n y hj hn g0 g1;obtain⟨n,rfl⟩:∃m,n=m+1:=⟨n-1,by omega⟩;right;have hb:decide ((j:Int)<(l.length:Int))=false:=by simp;omega
    refine⟨y,by rw[hF,hb];rfl,g0,?_⟩;rw[List.drop_eq_nil_of_le (by omega)];simp[tls]
   |succ m ih=>
    intro j n y hj hn g0 g1;obtain⟨n,rfl⟩:∃m,n=m+1:=⟨n-1,by omega⟩;have hjl:j<l.length:=by omega
    have hb:decide ((j:Int)<(l.length:Int))=true:=by simp;omega
    have hf:=hfit l[j] (List.getElem_mem hjl);rcases hg _ hf y g0 g1 with q|⟨r,q,q2,q3⟩
    · left;rw[hF,hb,qa2 hjl,hG _ _ _ hjl hf,q];rfl
    ·have hr:decide (asI (nth [T.i .i64 r] 0)<0)=false:=by simp[nth,asI];omega
     have step:F l (n+1) y j=F l n r ((j+1:Nat):Int):=by rw[hF,hb,qa2 hjl,hG _ _ _ hjl hf,q];simp only[cond_true,Option.bind_some,hr,cond_false];rw[qa3 hjl (by omega)];rfl
     rcases ih (j+1) n r (by omega) (by omega) q2 (by omega)with p|⟨r',p,p2,p3⟩
     · exact .inl (by rw[step];exact p)
     · refine .inr ⟨r',by rw[step];exact p,p2,?_⟩;rw[qly hjl];omega
  rcases all l.length 0 lf (x-(l.length:Int)) (by omega) (by omega) (by omega) (by omega)with p|⟨r,p,p2,p3⟩
  · left;rw[hcall,hs,hd0];rw[show((0:Nat):Int)=0 from rfl]at p;rw[p];rfl
  ·right;refine⟨r,?_,p2,?_⟩;· rw[hcall,hs,hd0];rw[show((0:Nat):Int)=0 from rfl]at p;rw[p];rfl
   · simp only[tl,List.drop_zero]at p3|-;omega
theorem len_ok'{n:Nat}(h:n<=16777216):(decide (0<=(n:Int))&&decide ((n:Int)<=(LIM:Int))&&decide ((n:Int)=(n:Int)))=true:=by unfold LIM;simp;omega
theorem qq7{F:Nat->Int->List T->Option (List T)}{G:Int->Option (List T)}{V:Int->List T->T}{l:List T}(hlen:l.length<=16777216)(hF:∀n i out,F (n+1) i out=bif decide (i<(l.length:Int))then bif inR i l.length then(G i).bind λr=>bif inR i out.length then F n (IntKind.wrap .i64 (i+1)) (out.set i.toNat (V i r))else none else none else some [T.i .i64 0,T.sl out])(hG:∀(j:Nat)(h:j<l.length),∃r,G j=some r/\V j r=l[j]):∀(k j n:Nat)(out:List T),j+k=l.length->k<n->out.length=l.length->(∀i,i<j->out[i]? =l[i]?)->F n j out=some [T.i .i64 0,T.sl l]
|0,j,n,out,hj,hn,ho,he=>by
 obtain⟨n,rfl⟩:∃m,n=m+1:=⟨n-1,by omega⟩;have hb:decide ((j:Int)<(l.length:Int))=false:=by simp;omega
 rw[hF,hb];have:out=l:=List.ext_getElem? λi=>by
  by_cases hi:i<j;· exact he i hi
  · rw[List.getElem?_eq_none (by omega),List.getElem?_eq_none (by omega)]
 rw[this];rfl
|k+1,j,n,out,hj,hn,ho,he=>by
 obtain⟨n,rfl⟩:∃m,n=m+1:=⟨n-1,by omega⟩;have hjl:j<l.length:=by omega
 have hb:decide ((j:Int)<(l.length:Int))=true:=by simp;omega
 obtain⟨r,h1,h2⟩:=hG j hjl;rw[hF,hb,qa2 hjl,h1];simp only[cond_true,Option.bind_some];rw[qa2 (show j<out.length by omega),cond_true,qa3 hjl (by omega),h2];refine qq7 hlen hF hG k (j+1) n _ (by omega) (by omega) (by simpa using ho) λi hi=>?_;by_cases e:i=j;· subst e;rw[show((i:Int)).toNat=i from rfl,List.getElem?_set_self (by omega),List.getElem?_eq_getElem hjl]
 · rw[show((j:Int)).toNat=j from rfl,List.getElem?_set_ne (Ne.symm e)];exact he i (by omega)
theorem qio(hlf:33554432<=lf){m:Bool}{cs:List CT}{f:Nat}{z:T}{F:List T->Nat->Int->List T->Option (List T)}{G:List T->Int->Option (List T)}{V:List T->Int->List T->T}(hcall:∀l,c' f [.sl l]=bif decide (0<=(l.length:Int))&&decide ((l.length:Int)<=(LIM:Int))&&decide ((l.length:Int)=(l.length:Int))then(F l lf 0 (List.replicate (l.length:Int).toNat z)).bind λr=>some [T.sl (asL (nth r 1))]else none)(hF:∀l n i out,F l (n+1) i out=bif decide (i<(l.length:Int))then bif inR i l.length then(G l i).bind λr=>bif inR i out.length then F l n (IntKind.wrap .i64 (i+1)) (out.set i.toNat (V l i r))else none else none else some [T.i .i64 0,T.sl out])(hG:∀l(j:Nat)(h:j<l.length),fitE m cs l[j]->tl l[j]<=16777216->∃r,G l j=some r/\V l j r=l[j]):TO1 c' f (fitC (.sl m cs)):=by
 intro t ht hsm;cases t<;>first|exact ht.elim|skip
 rename_i l;have hfit:=qaz.1 ht.2;simp only[tl]at hsm;rw[hcall,len_ok' (by omega),cond_true];have:=qq7 (F:=F l) (G:=G l) (V:=V l) (l:=l) (by omega) (λn i out=>hF l n i out) (λj h=>hG l j h (hfit _ (List.getElem_mem h)) (by have:=qfa (List.getElem_mem h);omega)) l.length 0 lf (List.replicate (l.length:Int).toNat z) (by omega) (by omega) (by simp) (λi hi=>by omega);rw[show((0:Nat):Int)=0 from rfl]at this;rw[this];rfl
theorem qrh{F:Nat->Int->Option (List T)}{G:Int->Option (List T)}{len:Nat}(hlen:len<=16777216)(hF:∀n i,F (n+1) i=bif decide (i<(len:Int))then bif inR i len then bif inR i len then(G i).bind λr=>bif !(asB (nth r 0))then some [T.i .i64 0,T.b false]else F n (IntKind.wrap .i64 (i+1))else none else none else some [T.i .i64 1])(hG:∀j:Nat,j<len->G j=some [T.b true]):∀(k j n:Nat),j+k=len->k<n->F n j=some [T.i .i64 1]
|0,j,n,hj,hn=>by
 obtain⟨n,rfl⟩:∃m,n=m+1:=⟨n-1,by omega⟩;have hb:decide ((j:Int)<(len:Int))=false:=by simp;omega
 rw[hF,hb];rfl
|k+1,j,n,hj,hn=>by
 obtain⟨n,rfl⟩:∃m,n=m+1:=⟨n-1,by omega⟩;have hb:decide ((j:Int)<(len:Int))=true:=by simp;omega
 rw[hF,hb,qa2 (by omega),hG j (by omega)];simp only[cond_true,Option.bind_some];rw[qa3 (show j<len by omega) (by omega)];exact qrh hlen hF hG k (j+1) n (by omega) (by omega)
theorem qeq(hlf:33554432<=lf){m:Bool}{cs:List CT}{f:Nat}{F:List T->List T->Nat->Int->Option (List T)}{G:List T->List T->Int->Option (List T)}(hcall:∀l l',c' f [.sl l,.sl l']=bif (l.length:Int) !=(l'.length:Int)then some [T.b false]else(F l l' lf 0).bind λr=>bif asI (nth r 0)==0 then some [T.b (asB (nth r 1))]else some [T.b true])(hF:∀l l' n i,F l l' (n+1) i=bif decide (i<(l.length:Int))then bif inR i l.length then bif inR i l'.length then(G l l' i).bind λr=>bif !(asB (nth r 0))then some [T.i .i64 0,T.b false]else F l l' n (IntKind.wrap .i64 (i+1))else none else none else some [T.i .i64 1])(hG:∀l(j:Nat)(h:j<l.length),fitE m cs l[j]->tl l[j]<=16777216->G l l j=some [T.b true]):EQ1 c' f (fitC (.sl m cs)):=by
 intro t ht hsm;cases t<;>first|exact ht.elim|skip
 rename_i l;have hfit:=qaz.1 ht.2;simp only[tl]at hsm;rw[hcall,ne_f,cond_false];have:=qrh (F:=F l l) (G:=G l l) (len:=l.length) (by omega) (λn i=>hF l l n i) (λj h=>hG l j h (hfit _ (List.getElem_mem h)) (by have:=qfa (List.getElem_mem h);omega)) l.length 0 lf (by omega) (by omega);rw[show((0:Nat):Int)=0 from rfl]at this;rw[this];rfl
def MH1(c:Orc)(mk hd:Nat)(m:Bool)(cs:List CT):Prop:=∀l,fitC (.sl m cs) (.sl l)->tl (.sl l)<=16777216->∀k:Int,0<=k->k+64*(tl (.sl l):Int)<=1152921504606846976->∃(k':Int)(l':List T),c mk [.sl l,.i .i64 k]=some [.i .i64 k',.sl l']/\c hd [.sl l',.i .i64 k]=some [.i .i64 k']/\k<=k'/\k'<=k+64*tl (.sl l)
theorem MH1.le{mk hd:Nat}{m:Bool}{cs:List CT}(h:OLe c c')(H:MH1 c mk hd m cs):MH1 c' mk hd m cs:=λl hl hs k h0 h1=>by obtain⟨k',l',g1,g2,g3⟩:=H l hl hs k h0 h1;exact⟨k',l',h _ _ _ g1,h _ _ _ g2,g3⟩
theorem qce{l:List T}{j:Nat}(h:j<l.length)(v:T):(l.set j v).getD j .u=v:=by rw[List.getD_eq_getElem?_getD,List.getElem?_set_self h];rfl
theorem getD_at{l:List T}{j:Nat}{v:T}(h:l[j]? =some v):l.getD j .u=v:=by rw[List.getD_eq_getElem?_getD,h];rfl
theorem qur{M:Nat->Int->Int->List T->Option (List T)}{H:List T->Nat->Int->Int->Option (List T)}{l0:List T}(hlen:l0.length<=16777216)(hM0:∀n k(l:List T),M (n+1) k (l.length:Int) l=some [T.i .i64 0,T.i .i64 k,T.sl l])(hH0:∀l n k,H l (n+1) k (l.length:Int)=some [T.i .i64 1,T.i .i64 k])(hS:∀(j:Nat)(h:j<l0.length)(k:Int),0<=k->k+64*(1+(tl l0[j]:Int))<=1152921504606846976->∃(k':Int)(e:T),k<=k'/\k'<=k+64*(1+tl l0[j])/\(∀n(l:List T),l.length=l0.length->l[j]? =some l0[j]->M (n+1) k j l=M n k' ((j+1:Nat):Int) (l.set j e))/\(∀n(l:List T),l.length=l0.length->l[j]? =some e->H l (n+1) k j=H l n k' ((j+1:Nat):Int)))(htl:l0.length+tls l0<=16777216):∀(d j:Nat)(l:List T)(k:Int),j+d=l0.length->l.length=l0.length->(∀i,j<=i->l[i]? =l0[i]?)->0<=k->k+64*((d:Int)+tls (l0.drop j))<=1152921504606846976->∃(k':Int)(l':List T),(∀n,d<n->M n k j l=some [T.i .i64 0,T.i .i64 k',T.sl l'])/\(∀n,d<n->H l' n k j=some [T.i .i64 1,T.i .i64 k'])/\l'.length=l0.length/\(∀i,i<j->l'[i]? =l[i]?)/\k<=k'/\k'<=k+64*((d:Int)+tls (l0.drop j))
|0,j,l,k,hj,hl,he,h0,h1=>by
 have e:(j:Int)=(l.length:Int):=by omega
 refine⟨k,l,λn hn=>?_,λn hn=>?_,hl,λ_ _=>rfl,Int.le_refl _,by omega⟩;· obtain⟨n,rfl⟩:∃m,n=m+1:=⟨n-1,by omega⟩;rw[e,hM0]
 · obtain⟨n,rfl⟩:∃m,n=m+1:=⟨n-1,by omega⟩;rw[e,hH0]
|d+1,j,l,k,hj,hl,he,h0,h1=>by
 have hjl:j<l0.length:=by omega
 rw[qly hjl]at h1|-;obtain⟨k1,e,g1,g2,g3,g4⟩:=hS j hjl k h0 (by omega);obtain⟨k',l',p1,p2,p3,p4,p5,p6⟩:=qur hlen hM0 hH0 hS htl d (j+1) (l.set j e) k1 (by omega) (by simpa using hl) (λi hi=>by rw[List.getElem?_set_ne (by omega)];exact he i (by omega)) (by omega) (by omega);have hlj:l[j]? =some l0[j]:=by rw[he j (Nat.le_refl _),List.getElem?_eq_getElem hjl]
 refine⟨k',l',λn hn=>?_,λn hn=>?_,p3,λi hi=>?_,by omega,by omega⟩;· obtain⟨n,rfl⟩:∃m,n=m+1:=⟨n-1,by omega⟩;rw[g3 n l hl hlj];exact p1 n (by omega)
 · obtain⟨n,rfl⟩:∃m,n=m+1:=⟨n-1,by omega⟩;rw[g4 n l' p3 (by rw[p4 j (by omega),List.getElem?_set_self (by omega)])];exact p2 n (by omega)
 · rw[p4 i (by omega),List.getElem?_set_ne (by omega)]
theorem qg6(hlf:33554432<=lf){m:Bool}{cs:List CT}{mk hd:Nat}{M:Nat->Int->Int->List T->Option (List T)}{H:List T->Nat->Int->Int->Option (List T)}(hmk:∀l k,c' mk [.sl l,.i .i64 k]=(M lf k 0 l).bind λr=>some [T.i .i64 (asI (nth r 1)),T.sl (asL (nth r 2))])(hhd:∀l k,c' hd [.sl l,.i .i64 k]=(H l lf k 0).bind λr=>bif asI (nth r 0)==0 then some [T.i .i64 (asI (nth r 1))]else some [T.i .i64 (asI (nth r 1))])(hM0:∀n k(l:List T),M (n+1) k (l.length:Int) l=some [T.i .i64 0,T.i .i64 k,T.sl l])(hH0:∀l n k,H l (n+1) k (l.length:Int)=some [T.i .i64 1,T.i .i64 k])(hS:∀(e0:T)(j len:Nat),fitE m cs e0->tl e0<=16777216->j<len->len<=16777216->∀(k:Int),0<=k->k+64*(1+(tl e0:Int))<=1152921504606846976->∃(k':Int)(e:T),k<=k'/\k'<=k+64*(1+tl e0)/\(∀n(l:List T),l.length=len->l[j]? =some e0->M (n+1) k j l=M n k' ((j+1:Nat):Int) (l.set j e))/\(∀n(l:List T),l.length=len->l[j]? =some e->H l (n+1) k j=H l n k' ((j+1:Nat):Int))):MH1 c' mk hd m cs:=by
 intro l hl hs k h0 h1;have hfit:=qaz.1 hl.2;simp only[tl]at hs h1;obtain⟨k',l',p1,p2,p3,p4,p5,p6⟩:=qur (M:=M) (H:=H) (l0:=l) (by omega) hM0 hH0 (λj h k q0 q1=>hS l[j] j l.length (hfit _ (List.getElem_mem h)) (by have:=qfa (List.getElem_mem h);omega) h (by omega) k q0 q1) hs l.length 0 l k (by omega) rfl (λ_ _=>rfl) h0 (by rw[List.drop_zero];omega);rw[List.drop_zero]at p6;refine⟨k',l',?_,?_,p5,by simp only[tl];omega⟩;· rw[hmk];have:=p1 lf (by omega);rw[show((0:Nat):Int)=0 from rfl]at this;rw[this];rfl
 · rw[hhd];have:=p2 lf (by omega);rw[show((0:Nat):Int)=0 from rfl]at this;rw[this];rfl
end
theorem qaf{c:CT}{cs:List CT}{l:List T}(h:fitCs (c::cs) l):∃x l',l=x::l'/\fitC c x/\fitCs cs l':=by
 cases l with
 |nil=>exact h.elim
 |cons x l=>exact⟨x,l,rfl,h.1,h.2⟩
theorem qeo{l:List T}(h:fitCs [] l):l=[]:=by
 cases l with
 |nil=>rfl
 |cons x l=>exact h.elim
theorem qjw{cs:List CT}{t:T}(h:fitE true cs t):∃l,t=.st l/\fitCs cs l:=by
 cases t<;>first|exact h.elim|skip
 exact⟨_,rfl,h⟩
theorem qgd{k:IntKind}{t:T}(h:fitC (.i k) t):∃n,t=.i k n/\(Lit.int k n).wf=true:=by
 cases t<;>first|exact h.elim|skip
 obtain⟨rfl,h⟩:=h;exact⟨_,rfl,h⟩
theorem qo6{t:T}(h:fitC .s t):∃b,t=.s b/\b.size<=maxLen:=by
 cases t<;>first|exact h.elim|skip
 exact⟨_,rfl,h⟩
theorem qep{m:Bool}{cs:List CT}{t:T}(h:fitC (.sl m cs) t):∃l,t=.sl l/\fitC (.sl m cs) (.sl l):=by
 cases t<;>first|exact h.elim|skip
 exact⟨_,rfl,h⟩
theorem wrapK{x:Int}(h: -1152921504606846976*4<=x/\x<=1152921504606846976*4):IntKind.wrap .i64 x=x:=qac (by omega) (by omega)
section
variable{c c':Orc}{lf:Nat}
theorem qy1(hlf:33554432<=lf){m:Bool}{cs:List CT}{f:Nat}{F:List T->List T->Nat->Int->Option (List T)}{N:List T->List T->Int->Bool}(hcall:∀l l',c' f [.sl l,.sl l']=bif (l.length:Int) !=(l'.length:Int)then some [T.b false]else(F l l' lf 0).bind λr=>bif asI (nth r 0)==0 then some [T.b (asB (nth r 1))]else some [T.b true])(hF:∀l l' n i,F l l' (n+1) i=bif decide (i<(l.length:Int))then bif inR i l.length then bif inR i l'.length then bif N l l' i then some [T.i .i64 0,T.b false]else F l l' n (IntKind.wrap .i64 (i+1))else none else none else some [T.i .i64 1])(hN:∀l i,N l l i=false):EQ1 c' f (fitC (.sl m cs)):=by refine qeq hlf (F:=λl l' n i=>F l l' n i) (G:=λl l' i=>some [T.b (!N l l' i)]) hcall (λl l' n i=>?_) (λl j h _ _=>by rw[hN];rfl);rw[hF];simp only[Option.bind_some,nth0,asB_b,Bool.not_not]
def TX1(c:Orc)(f:Nat):Prop:=∀k:Int,0<=k->k<=1152921504606846976*2->∃x,c f [.i .i64 k]=some [.s x]
theorem TX1.le{f:Nat}(h:OLe c c')(H:TX1 c f):TX1 c' f:=λk h0 h1=>(H k h0 h1).imp λ_ g=>h _ _ _ g
theorem tx_mk(hlf:33554432<=lf){f:Nat}{F:Nat->Int->ByteArray->Option (List T)}(hcall:∀k,c' f [.i .i64 k]=bif iLe k 0 then some [T.s (⟨#[109,48]⟩:ByteArray)]else(F lf k (⟨#[]⟩:ByteArray)).bind λr=>bif nLe ((⟨#[109]⟩:ByteArray).size+(asS (nth r 1)).size) LIM then some [T.s ((⟨#[109]⟩:ByteArray)++(asS (nth r 1)))]else none)(hF:∀n k s,F (n+1) k s=bif iLt 0 k then bif nLe ((bytesOf ([T.i .u8 (IntKind.wrap .u8 (IntKind.wrap .i64 (48+(k.tmod 10))))]:List T)).size+s.size) LIM then F n (IntKind.wrap .i64 (k.tdiv 10)) ((bytesOf ([T.i .u8 (IntKind.wrap .u8 (IntKind.wrap .i64 (48+(k.tmod 10))))]:List T))++s)else none else some [T.i .i64 0,T.s s]):TX1 c' f:=by
 intro k h0 h1;rw[hcall];by_cases hk:k<=0;· rw[iLe_t hk];exact⟨_,rfl⟩
 ·rw[iLe_f hk,cond_false];have all:∀(e:Nat)(k:Int)(s:ByteArray)(n:Nat),e<=62->0<=k->k<2^e->e<n->s.size+e<=100->∃s',F n k s=some [T.i .i64 0,T.s s']/\s'.size<=100:=by
   intro e;induction e with
   |zero=>intro k s n ge g0 g1 hn hs;obtain⟨n,rfl⟩:∃m,n=m+1:=⟨n-1,by omega⟩;exact⟨s,by rw[hF,iLt_f (by omega)];rfl,by omega⟩
   |succ e ih=>
    intro k s n ge g0 g1 hn hs;obtain⟨n,rfl⟩:∃m,n=m+1:=⟨n-1,by omega⟩;by_cases hk:k>0
    ·have hb:(bytesOf ([T.i .u8 (IntKind.wrap .u8 (IntKind.wrap .i64 (48+(k.tmod 10))))]:List T)).size=1:=rfl;have hq:k.tdiv 10=k/10:=Int.tdiv_eq_ediv_of_nonneg g0;have hw:IntKind.wrap .i64 (k.tdiv 10)=k/10:=by
      rw[hq];have h2:(2:Int)^(e+1)<=2^62:=by have:(2:Nat)^(e+1)<=2^62:=Nat.pow_le_pow_right (by omega) (by omega);exact_mod_cast this
      exact qac (by omega) (by omega)
     have h2:k/10<2^e:=by
      have:(2:Int)^(e+1)=2*2^e:=by rw[Int.pow_succ];omega
      omega
     obtain⟨s',p1,p2⟩:=ih (k/10) (bytesOf ([T.i .u8 (IntKind.wrap .u8 (IntKind.wrap .i64 (48+(k.tmod 10))))]:List T)++s) n (by omega) (by omega) h2 (by omega) (by rw[ByteArray.size_append,hb];omega);refine⟨s',?_,p2⟩;have hl:(bytesOf ([T.i .u8 (IntKind.wrap .u8 (IntKind.wrap .i64 (48+(k.tmod 10))))]:List T)).size+s.size<=LIM:=by rw[hb];unfold LIM;omega
     rw[hF,iLt_t hk,nLe_t hl,hw];exact p1
    · refine⟨s,?_,by omega⟩;rw[hF,iLt_f hk];rfl
  obtain⟨s',p1,p2⟩:=all 62 k ⟨#[]⟩ lf (by omega) h0 (by omega) (by omega) (by show(0:Nat)+62<=100;omega);rw[p1];have hl:(⟨#[109]⟩:ByteArray).size+s'.size<=LIM:=by unfold LIM;have:(⟨#[109]⟩:ByteArray).size=1:=rfl;omega
  refine⟨(⟨#[109]⟩:ByteArray)++s',?_⟩;simp only[Option.bind_some,nth0,nthS,asS_s];rw[nLe_t hl,cond_true]
end
section
variable{c c':Orc}{lf:Nat}
theorem qx2{m:Bool}{cs:List CT}{l:List T}(h:fitC (.sl m cs) (.sl l))(hn:noTl cs=true):tls l=0:=qq8 λy hy=>qz2 hn (qaz.1 h.2 y hy)
def MK1(c:Orc)(mk:Nat)(m:Bool)(cs:List CT):Prop:=∀l,fitC (.sl m cs) (.sl l)->tl (.sl l)<=16777216->∀k:Int,0<=k->k+64*(tl (.sl l):Int)<=1152921504606846976->∃(k':Int)(l':List T),c mk [.sl l,.i .i64 k]=some [.i .i64 k',.sl l']/\k<=k'/\k'<=k+64*tl (.sl l)
theorem MK1.le{mk:Nat}{m:Bool}{cs:List CT}(h:OLe c c')(H:MK1 c mk m cs):MK1 c' mk m cs:=λl hl hs k h0 h1=>by obtain⟨k',l',g1,g3⟩:=H l hl hs k h0 h1;exact⟨k',l',h _ _ _ g1,g3⟩
theorem qui{M:Nat->Int->Int->List T->Option (List T)}{l0:List T}(hlen:l0.length<=16777216)(hM0:∀n k(l:List T),M (n+1) k (l.length:Int) l=some [T.i .i64 0,T.i .i64 k,T.sl l])(hS:∀(j:Nat)(h:j<l0.length)(k:Int),0<=k->k+64*(1+(tl l0[j]:Int))<=1152921504606846976->∃(k':Int)(e:T),k<=k'/\k'<=k+64*(1+tl l0[j])/\(∀n(l:List T),l.length=l0.length->l[j]? =some l0[j]->M (n+1) k j l=M n k' ((j+1:Nat):Int) (l.set j e)))(htl:l0.length+tls l0<=16777216):∀(d j:Nat)(l:List T)(k:Int),j+d=l0.length->l.length=l0.length->(∀i,j<=i->l[i]? =l0[i]?)->0<=k->k+64*((d:Int)+tls (l0.drop j))<=1152921504606846976->∃(k':Int)(l':List T),(∀n,d<n->M n k j l=some [T.i .i64 0,T.i .i64 k',T.sl l'])/\k<=k'/\k'<=k+64*((d:Int)+tls (l0.drop j))
|0,j,l,k,hj,hl,he,h0,h1=>by
 have e:(j:Int)=(l.length:Int):=by omega
 refine⟨k,l,λn hn=>?_,Int.le_refl _,by omega⟩;obtain⟨n,rfl⟩:∃m,n=m+1:=⟨n-1,by omega⟩;rw[e,hM0]
|d+1,j,l,k,hj,hl,he,h0,h1=>by
 have hjl:j<l0.length:=by omega
 rw[qly hjl]at h1|-;obtain⟨k1,e,g1,g2,g3⟩:=hS j hjl k h0 (by omega);obtain⟨k',l',p1,p5,p6⟩:=qui hlen hM0 hS htl d (j+1) (l.set j e) k1 (by omega) (by simpa using hl) (λi hi=>by rw[List.getElem?_set_ne (by omega)];exact he i (by omega)) (by omega) (by omega);have hlj:l[j]? =some l0[j]:=by rw[he j (Nat.le_refl _),List.getElem?_eq_getElem hjl]
 refine⟨k',l',λn hn=>?_,by omega,by omega⟩;obtain⟨n,rfl⟩:∃m,n=m+1:=⟨n-1,by omega⟩;rw[g3 n l hl hlj];exact p1 n (by omega)
theorem quh(hlf:33554432<=lf){m:Bool}{cs:List CT}{mk:Nat}{M:Nat->Int->Int->List T->Option (List T)}(hmk:∀l k,c' mk [.sl l,.i .i64 k]=(M lf k 0 l).bind λr=>some [T.i .i64 (asI (nth r 1)),T.sl (asL (nth r 2))])(hM0:∀n k(l:List T),M (n+1) k (l.length:Int) l=some [T.i .i64 0,T.i .i64 k,T.sl l])(hS:∀(e0:T)(j len:Nat),fitE m cs e0->tl e0<=16777216->j<len->len<=16777216->∀(k:Int),0<=k->k+64*(1+(tl e0:Int))<=1152921504606846976->∃(k':Int)(e:T),k<=k'/\k'<=k+64*(1+tl e0)/\(∀n(l:List T),l.length=len->l[j]? =some e0->M (n+1) k j l=M n k' ((j+1:Nat):Int) (l.set j e))):MK1 c' mk m cs:=by intro l hl hs k h0 h1;have hfit:=qaz.1 hl.2;simp only[tl]at hs h1;obtain⟨k',l',p1,p5,p6⟩:=qui (M:=M) (l0:=l) (by omega) hM0 (λj h k q0 q1=>hS l[j] j l.length (hfit _ (List.getElem_mem h)) (by have:=qfa (List.getElem_mem h);omega) h (by omega) k q0 q1) hs l.length 0 l k (by omega) rfl (λ_ _=>rfl) h0 (by rw[List.drop_zero];omega);rw[List.drop_zero]at p6;refine⟨k',l',?_,p5,by simp only[tl];omega⟩;rw[hmk];have:=p1 lf (by omega);rw[show((0:Nat):Int)=0 from rfl]at this;rw[this];rfl
end
theorem qf1{α:Type}(a b:Bool)(x y:α):(bif a&&b then x else y)=bif a then(bif b then x else y)else y:=by cases a<;>rfl
theorem qhi{α:Type}(a b:Bool)(x y:α):(bif a||b then x else y)=bif a then x else(bif b then x else y):=by cases a<;>rfl
theorem qbp{α:Type}(a:Bool)(x y:α):(bif !a then x else y)=bif a then y else x:=by cases a<;>rfl
theorem qa0{α:Type}(x y:α):(bif true then x else y)=x:=rfl
theorem qa1{α:Type}(x y:α):(bif false then x else y)=y:=rfl
theorem qk1{α:Type}(a:Bool)(x:α):(bif a then x else x)=x:=by cases a<;>rfl
theorem qzg(a b:Bool):(bif a then some [T.b b]else some [T.b false])=some [T.b (a&&b)]:=by cases a<;>rfl
theorem qzd(a b:Int):iLt a b= !iLe b a:=by
 by_cases h:a<b;· rw[iLt_t h,iLe_f (by omega)];rfl
 · rw[iLt_f h,iLe_t (by omega)];rfl
theorem qwj(a b:Int):(a !=b)= !(a==b):=rfl
def allB(P:Nat->Bool):Nat->Bool
|0=>true
|n+1=>allB P n&&P n
theorem qa8{P:Nat->Bool}:∀{n:Nat},allB P n=true↔∀j,j<n->P j=true
|0=>by simp[allB]
|n+1=>by
 simp only[allB,Bool.and_eq_true,qa8 (n:=n)];constructor
 ·rintro⟨h1,h2⟩ j hj;by_cases e:j=n;· subst e;exact h2
  · exact h1 j (by omega)
 · exactλh=>⟨λj hj=>h j (by omega),h n (by omega)⟩
theorem qdq{F:Nat->Int->Option (List T)}{P:Nat->Bool}{X:Nat->Option (List T)}{Y:Option (List T)}{len:Nat}(hF:∀n(j:Nat),j<len->F (n+1) j=bif P j then F n ((j+1:Nat):Int)else X j)(hE:∀n,F (n+1) (len:Int)=Y){n:Nat}(hn:len<n):(allB P len=true/\F n 0=Y)\/(allB P len=false/\∃j,j<len/\P j=false/\F n 0=X j):=by
 have key:∀(k j n:Nat),j+k=len->k<n->(∀i,i<j->P i=true)->(allB P len=true/\F n (j:Int)=Y)\/(allB P len=false/\∃i,i<len/\P i=false/\F n (j:Int)=X i):=by
  intro k;induction k with
  |zero=>
   intro j n hj hn hP;obtain⟨n,rfl⟩:∃m,n=m+1:=⟨n-1,by omega⟩;have e:j=len:=by omega
   subst e;exact .inl ⟨qa8.2 hP,hE n⟩
  |succ k ih=>
   intro j n hj hn hP;obtain⟨n,rfl⟩:∃m,n=m+1:=⟨n-1,by omega⟩;rw[hF n j (by omega)];cases hp:P j with
   |true=>
    rw[qa0];exact ih (j+1) n (by omega) (by omega) λi hi=>by
     by_cases e:i=j;· subst e;exact hp
     · exact hP i (by omega)
   |false=>
    refine .inr ⟨?_,j,by omega,hp,rfl⟩;cases e:allB P len with
    |false=>rfl
    |true=>have:=qa8.1 e j (by omega);rw[hp]at this;cases this
 exact key len 0 n (by omega) hn (λi hi=>by omega)
theorem qb4{F:Nat->Int->Option (List T)}{P:Nat->Bool}{X Y:Option (List T)}{len:Nat}(hF:∀n(j:Nat),j<len->F (n+1) j=bif P j then F n ((j+1:Nat):Int)else X)(hE:∀n,F (n+1) (len:Int)=Y){n:Nat}(hn:len<n):F n 0=bif allB P len then Y else X:=by
 rcases qdq (X:=λ_=>X) hF hE hn with⟨h1,h2⟩|⟨h1,_,_,_,h2⟩
 · rw[h1,h2];rfl
 · rw[h1,h2];rfl
theorem qwe(s:ByteArray)(i:Int):0<=qae s i/\qae s i<=255:=by unfold qae;have:=(s.toList.getD i.toNat 0).toNat_lt;omega
theorem qc5{j:Nat}(h:0<j)(h2:j<=16777216):IntKind.wrap .i64 ((j:Int)-1)=((j-1:Nat):Int):=by rw[qac (by omega) (by omega)];omega
def chB(x:Int):Bool:=(iLe 97 x&&iLe x 122)||((iLe 48 x&&iLe x 57)||((x==95)||((x==45)||(x==46))))
def nameB(s:ByteArray):Bool:=allB (λj=>chB (qae s j)) s.size&&((iLe 1 (s.size:Int)&&iLe (s.size:Int) 14)&&(!(s.toList==(⟨#[46]⟩:ByteArray).toList)&&!(s.toList==(⟨#[46,46]⟩:ByteArray).toList)))
abbrev by8(x:Int):T:=.i .u8 x
theorem qpa{a:Nat}{x:T}(h:a<=1073741830):nLe (a+[x].length) LIM=true:=nLe_t (by unfold LIM;simp;omega)
def byt(b:List T):Prop:=∀x∈b,∃n,x=.i .u8 n/\0<=n/\n<256
theorem byt_of{l:List T}(h:fitC (.sl false [.i .u8]) (.sl l)):byt l:=by intro x hx;have:=qaz.1 h.2 x hx;have:fitC (.i .u8) x:=this;obtain⟨n,rfl,hw⟩:=qgd this;refine⟨n,rfl,?_⟩;simp[Lit.wf,IntKind.min,IntKind.max,IntKind.signed,IntKind.bits]at hw;omega
theorem byt_at{b:List T}(h:byt b){p:Nat}(hp:p<b.length):∃n,b.getD p .u=.i .u8 n/\0<=n/\n<256:=by rw[List.getD_eq_getElem?_getD,List.getElem?_eq_getElem hp];exact h _ (List.getElem_mem hp)
def getNum(b:List T)(p:Nat):Option (Int×Nat):=if p<b.length then if asI (b.getD p .u)<128 then some (asI (b.getD p .u),p+1)else if p+1<b.length then if asI (b.getD (p+1) .u)<128 then if asI (b.getD (p+1) .u)=0 then none else some (asI (b.getD p .u)%128+asI (b.getD (p+1) .u)*128,p+2)else if p+2<b.length then if asI (b.getD (p+2) .u)<128 then if asI (b.getD (p+2) .u)=0\/1000000<asI (b.getD p .u)%128+asI (b.getD (p+1) .u)%128*128+asI (b.getD (p+2) .u)*16384 then none else some (asI (b.getD p .u)%128+asI (b.getD (p+1) .u)%128*128+asI (b.getD (p+2) .u)*16384,p+3)else none else none else none else none
def rd(b:List T):Option Nat->Int×Option Nat
|none=>(0,none)
|some p=>match getNum b p with
 |some (n,q)=>(n,some q)
 |none=>(0,none)
theorem wf64{n:Int}(h0: -9223372036854775808<=n)(h1:n<=9223372036854775807):(Lit.int .i64 n).wf=true:=by simp[Lit.wf,IntKind.min,IntKind.max,IntKind.signed,IntKind.bits];omega
theorem qpv(a x y:Bool):(bif a then some [T.b x]else some [T.b y])=some [T.b (bif a then x else y)]:=by cases a<;>rfl
theorem qgm{l:List T}{j:Nat}(k:Nat):(asS (T.cell (l.getD j T.u) k)).size<=tls l:=by
 by_cases h:j<l.length
 ·have h1:=qfa (List.getElem_mem h);rw[List.getD_eq_getElem?_getD,List.getElem?_eq_getElem h];show(asS (T.cell l[j] k)).size<=_;cases e:l[j]<;>try (simp only[T.cell,asS];exact Nat.zero_le _)
  rename_i xs;rw[e]at h1;simp only[T.cell,tl]at h1|-;cases e2:xs[k]? with
  |none=>rw[List.getD_eq_getElem?_getD,e2];exact Nat.zero_le _
  |some x=>
   rw[List.getD_eq_getElem?_getD,e2];have h3:=qfa (List.mem_of_getElem? e2);show(asS x).size<=_;cases x<;>try (exact Nat.zero_le _)
   simp only[tl,asS]at h3|-;omega
 · rw[List.getD_eq_getElem?_getD,List.getElem?_eq_none (by omega)];exact Nat.zero_le _
section
variable{g:Option Nat->T×Option Nat}{b:List T}
end
def foldN{S:Type}(g:S->Nat->S)(s:S):Nat->S
|0=>s
|n+1=>g (foldN g s n) n
def cntB(P:Nat->Bool):Nat->Nat:=foldN (λs j=>bif P j then s+1 else s) 0
theorem qmw(P:Nat->Bool):∀n,cntB P n<=n
|0=>Nat.le_refl _
|n+1=>by have:=qmw P n;show(bif P n then cntB P n+1 else cntB P n)<=n+1;cases P n<;>simp<;>omega
def r1(x:Nat):Nat:=if x%2=1 then(x/2)^^^2197175160 else x/2
def four(c:Nat):List T:=[by8 ((c/16777216:Nat):Int),by8 ((c/65536%256:Nat):Int),by8 ((c/256%256:Nat):Int),by8 ((c%256:Nat):Int)]
end Go.Proofs.YtcfpgocffglbhaaGreatDoorV
