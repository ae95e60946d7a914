/- What functions of the law FnExactBuild come to, in trees; no condition. -/
import Derived.Test.YtcfpgocffglbhaaGreatDoorRows
import Derived.Test.YtcfpgocffglbhaaGreatDoorX3
set_option linter.unusedVariables false
set_option linter.constructorNameAsVariable false
set_option linter.unusedSimpArgs false
set_option linter.unnecessarySimpa false
namespace Go.Proofs.YtcfpgocffglbhaaGreatDoor.T
open Go Go.Proofs.YtcfpgocffglbhaaGreatDoorV
set_option maxRecDepth 100000
theorem qgq{lf d:Nat}(a lo hi:Int):Cc lf (d+1) 46 [.i .i64 a,.i .i64 lo,.i .i64 hi]=some [.b (iLe lo a&&iLe a hi)]:=by refine(f46_eq (Cc lf d) lf a lo hi).trans ?_;unfold f46 f46_t;exact qzg _ _
theorem qk8{lf d:Nat}(a lo hi:Int):Cc lf (d+1) 61 [.i .i64 a,.i .i64 lo,.i .i64 hi]=some [.b (iLe lo a&&iLe a hi)]:=by refine(f61_eq (Cc lf d) lf a lo hi).trans ?_;unfold f61 f61_t;exact qzg _ _
theorem qhk{lf d:Nat}(hlf:33554432<=lf)(s:ByteArray)(hs:s.size<=16777216):Cc lf (d+2) 45 [.s s]=some [.b (nameB s)]:=by
 refine(f45_eq (Cc lf (d+1)) lf s).trans ?_;unfold f45 f45_t;have L:=qb4 (F:=λn j=>f45_0 (Cc lf (d+1)) lf s n j) (P:=λj=>chB (qae s j)) (X:=some [T.i .i64 0,T.b false]) (Y:=some [T.i .i64 1,T.s s]) (len:=s.size) (λn j hj=>by
  show f45_0_s (Cc lf (d+1)) lf s _ _=_;unfold f45_0_s;obtain⟨c,g⟩:=qwe s j;rw[iLt_t (by omega),qa2 hj,wrapK (x:=qae s j) (by omega),qa3 hj (by omega)];simp only[qgq,Option.bind_some,nth0,asB_b,chB,qwj,qbp,qf1,qhi,qa0]) (λn=>by
  show f45_0_s (Cc lf (d+1)) lf s _ _=_;unfold f45_0_s;rw[iLt_f (by omega)];rfl) (n:=lf) (by omega)
 simp only at L|-;rw[L];unfold nameB;cases allB (λj=>chB (qae s j)) s.size with
 |false=>rfl
 |true=>simp only[qa0,Option.bind_some,nth0,nthS,asI_i,asB_b,asS_s,qgq,qbp];rw[show((1:Int)==0)=false from rfl,qa1];cases iLe 1 (s.size:Int)<;>cases iLe (s.size:Int) 14<;>cases(s.toList==(⟨#[46]⟩:ByteArray).toList)<;>cases(s.toList==(⟨#[46,46]⟩:ByteArray).toList)<;>rfl
theorem qn1{lf d:Nat}(hlf:33554432<=lf)(s:ByteArray)(hs:s.size<=16777216):Cc lf (d+2) 60 [.s s]=some [.b (nameB s)]:=by
 refine(f60_eq (Cc lf (d+1)) lf s).trans ?_;unfold f60 f60_t;have L:=qb4 (F:=λn j=>f60_0 (Cc lf (d+1)) lf s n j) (P:=λj=>chB (qae s j)) (X:=some [T.i .i64 0,T.b false]) (Y:=some [T.i .i64 1,T.s s]) (len:=s.size) (λn j hj=>by
  show f60_0_s (Cc lf (d+1)) lf s _ _=_;unfold f60_0_s;rw[iLt_t (by omega),qa2 hj,qa3 hj (by omega)];simp only[qzd,chB,qwj,qbp,qf1,qhi,qa0]) (λn=>by
  show f60_0_s (Cc lf (d+1)) lf s _ _=_;unfold f60_0_s;rw[iLt_f (by omega)];rfl) (n:=lf) (by omega)
 simp only at L|-;rw[L];unfold nameB;cases allB (λj=>chB (qae s j)) s.size with
 |false=>rfl
 |true=>simp only[qa0,Option.bind_some,nth0,nthS,asI_i,asB_b,asS_s,qbp];rw[show((1:Int)==0)=false from rfl,qa1];cases iLe 1 (s.size:Int)<;>cases iLe (s.size:Int) 14<;>cases(s.toList==(⟨#[46]⟩:ByteArray).toList)<;>cases(s.toList==(⟨#[46,46]⟩:ByteArray).toList)<;>rfl
theorem c_clone{lf d:Nat}{l:List T}(h:l.length<=1073741830):Cc lf (d+1) 130 [.sl l]=some [.sl l]:=by show(bif nLe (0+l.length) LIM then some [T.sl l]else none)=_;rw[nLe_t (by unfold LIM;omega)];rfl
def bsOf(l:List UInt8):ByteArray:=⟨l.toArray⟩
abbrev SL(L:List (List UInt8)):List T:=L.map λx=>T.s (bsOf x)
theorem bs_of(s:ByteArray):bsOf s.data.toList=s:=by cases s;rfl
theorem qal(l:List UInt8):(bsOf l).size=l.length:=rfl
theorem qah(l:List UInt8):(bsOf l).toList=l:=Lib.toList_data _
theorem qwh(l:List UInt8)(i j:Nat):(bsOf l).extract i j=bsOf ((l.take j).drop i):=by
 have:((bsOf l).extract i j).data=(bsOf ((l.take j).drop i)).data:=by rw[ByteArray.data_extract];apply Array.ext';rw[Array.toList_extract];show List.extract l i j=(l.take j).drop i;rw[List.extract_eq_take_drop,List.drop_take]
 exact ByteArray.ext this
theorem qk9{l:List UInt8}{j:Nat}:qae (bsOf l) (j:Int)=((l.getD j 0).toNat:Int):=by unfold qae;rw[qah];rfl
def cutL:List UInt8->List (List UInt8)
|[]=>[[]]
|c::l=>if c=47 then[]::cutL l else(c::(cutL l).headD [])::(cutL l).tail
theorem qie:∀l:List UInt8,(cutL l).length=l.count 47+1
|[]=>rfl
|c::l=>by
 have h:=qie l;unfold cutL;by_cases e:c=47;· subst e;rw[if_pos rfl,List.count_cons_self,List.length_cons,h]
 · rw[if_neg e,List.length_cons,List.length_tail,h,List.count_cons_of_ne (by simpa using e)];omega
theorem qgk:∀{l:List UInt8},47∉l->cutL l=[l]
|[],_=>rfl
|c::l,h=>by unfold cutL;rw[if_neg (λe=>h (by rw[e];exact List.mem_cons_self ..)),qgk (λhm=>h (List.mem_cons_of_mem _ hm))];rfl
theorem qk0:∀{a b:List UInt8},47∉a->cutL (a++47::b)=a::cutL b
|[],b,_=>by rw[List.nil_append,cutL,if_pos rfl]
|c::a,b,h=>by rw[List.cons_append,cutL,if_neg (λe=>h (by rw[e];exact List.mem_cons_self ..)),qk0 (λhm=>h (List.mem_cons_of_mem _ hm))];rfl
theorem qjr:∀l:List UInt8,(47∉l/\idxL l 47= -1)\/∃a b,l=a++47::b/\47∉a/\idxL l 47=(a.length:Int)
|[]=>.inl ⟨List.not_mem_nil,rfl⟩
|c::l=>by
 by_cases e:c=47;· subst e;exact .inr ⟨[],l,rfl,List.not_mem_nil,rfl⟩
 ·have j:(c==47)=false:=beq_eq_false_iff_ne.2 e;rcases qjr l with⟨g,h2⟩|⟨a,b,g,h2,k⟩
  ·refine .inl ⟨λhm=>?_,by simp[idxL,j,h2]⟩;rcases List.mem_cons.1 hm with h|h
   · exact e h.symm
   · exact g h
  ·refine .inr ⟨c::a,b,by rw[g];rfl,λhm=>?_,?_⟩
   ·rcases List.mem_cons.1 hm with h|h
    · exact e h.symm
    · exact h2 h
   · have:(idxL l 47== -1)=false:=beq_eq_false_iff_ne.2 (by omega);simp only[idxL,j,this,k,List.length_cons];simp
theorem qng{l:List T}{j:Nat}(x:T)(h:j<l.length):(l.set j x).take (j+1)=l.take j++[x]:=by rw[List.take_add_one,List.getElem?_set_self h,List.take_set_of_le (Nat.le_refl _)];rfl
theorem qvb{l:List UInt8}{j:Nat}(h:j<l.length):l.getD j 0=l[j]:=by rw[List.getD_eq_getElem?_getD,List.getElem?_eq_getElem h];rfl
theorem drop_at{l:List UInt8}{j:Nat}(h:j<l.length):l.drop j=l.getD j 0::l.drop (j+1):=by rw[List.drop_eq_getElem_cons h,qvb h]
theorem cut_ext{l:List UInt8}{f i:Nat}(h:f<=i)(hi:i<l.length):(l.take (i+1)).drop f=(l.take i).drop f++[l.getD i 0]:=by rw[List.take_add_one,List.getElem?_eq_getElem hi,List.drop_append_of_le_length (by rw[List.length_take];omega),qvb hi];rfl
theorem qlh{l:List UInt8}{f i:Nat}(h:f<=i):l.drop f=(l.take i).drop f++l.drop i:=by
 by_cases hi:i<=l.length
 ·conv=>lhs;rw[<-List.take_append_drop i l]
  rw[List.drop_append_of_le_length (by rw[List.length_take];omega)]
 · rw[List.drop_eq_nil_of_le (show l.length<=i by omega),List.take_of_length_le (by omega),List.append_nil]
set_option maxHeartbeats 2000000 in
theorem qt9{lf d:Nat}(hlf:33554432<=lf)(l:List UInt8)(hs:l.length<=1048576):Cc lf (d+2) 144 [.s (bsOf l),.s ⟨#[47]⟩,.i .i64 0,.i .i64 (-1)]=some [.sl (SL (cutL l))]:=by
 have E:=f144_eq (Cc lf (d+1)) lf (bsOf l) ⟨#[47]⟩ 0 (-1);unfold f144 f144_t at E;dsimp only at E;have hcl:l.count 47<=l.length:=List.count_le_length;have eC:Cc lf (d+1) 156 [.s (bsOf l),.s ⟨#[47]⟩]=some [.i .i64 (l.count 47:Nat)]:=rfl;have c:imin (IntKind.wrap .i64 ((l.count 47:Nat)+1)) (IntKind.wrap .i64 (((bsOf l).size:Int)+1))=((l.count 47+1:Nat):Int):=by rw[qal,qac (x:=((l.count 47:Nat):Int)+1) (by omega) (by omega),qac (x:=(l.length:Int)+1) (by omega) (by omega)];unfold imin;split<;>omega
 rw[show((-1:Int)==0)=false from rfl,qa1,show((⟨#[47]⟩:ByteArray).toList==(⟨#[]⟩:ByteArray).toList)=false from by rw[Lib.toList_data,Lib.toList_data];rfl,qa1,iLt_t (by omega),qa0,eC]at E;simp only[Option.bind_some,nth0,asI_i]at E;rw[c,iLe_t (by omega),iLe_t (show((l.count 47+1:Nat):Int)<=(LIM:Int)by unfold LIM;omega),beq_self_eq_true,Int.toNat_natCast]at E;simp only[Bool.and_self,qa0]at E;have Lp:∀(k i n:Nat)(R:List UInt8)(cur:List T),i+k=l.count 47->k<n->R.length<=l.length->R.count 47=k->cur.length=l.count 47+1->cur.take i++SL (cutL R)=SL (cutL l)->∃R' cur',f144_0 (Cc lf (d+1)) lf 0 [T.i .i64 ((l.count 47:Nat):Int)] (bsOf l) ⟨#[47]⟩ n (bsOf R) (i:Int) cur=some [T.i .i64 0,T.s (bsOf R'),T.i .i64 ((l.count 47:Nat):Int),T.sl cur']/\cur'.length=l.count 47+1/\cur'.take (l.count 47)++[T.s (bsOf R')]=SL (cutL l):=by
  intro k;induction k with
  |zero=>
   intro i n R cur hi hn hR hc hl hp;obtain⟨n,rfl⟩:∃z,n=z+1:=⟨n-1,by omega⟩;refine⟨R,cur,?_,hl,?_⟩;· rw[f144_0];unfold f144_0_s;simp only[nth0,asI_i];rw[c,qac (x:=((l.count 47+1:Nat):Int)-1) (by omega) (by omega),iLt_f (by omega),show i=l.count 47 by omega];rfl
   · rw[qgk (λhm=>by have:=List.count_pos_iff.2 hm;omega)]at hp;rw[<-hp,show i=l.count 47 by omega];rfl
  |succ k ih=>
   intro i n R cur hi hn hR hc hl hp;obtain⟨n,rfl⟩:∃z,n=z+1:=⟨n-1,by omega⟩;rcases qjr R with⟨j,_⟩|⟨a,b,hab,h2,m⟩
   · exact absurd (List.count_pos_iff.1 (by omega)) j
   ·have hla:R.length=a.length+(b.length+1):=by rw[hab,List.length_append,List.length_cons]
    have eI:Cc lf (d+1) 157 [.s (bsOf R),.s ⟨#[47]⟩]=some [.i .i64 (idxL R 47)]:=rfl;rw[f144_0];unfold f144_0_s;simp only[nth0,asI_i];rw[c,qac (x:=((l.count 47+1:Nat):Int)-1) (by omega) (by omega),iLt_t (by omega),eI,m];simp only[Option.bind_some,nth0,asI_i,qa0];rw[iLt_f (by omega),show((⟨#[47]⟩:ByteArray).size:Int)=1 from rfl,qac (x:=(a.length:Int)+0) (by omega) (by omega),qac (x:=(a.length:Int)+1) (by omega) (by omega),qal,qa3 (show i<l.length by omega) (by omega),qa2 (show i<cur.length by omega),iLe_t (show(0:Int)<=0 by omega),iLe_t (show(0:Int)<=(a.length:Int)+0 by omega),iLe_t (show(a.length:Int)+0<=(R.length:Int)by omega),iLe_t (show(0:Int)<=(a.length:Int)+1 by omega),iLe_t (show(a.length:Int)+1<=(R.length:Int)by omega),iLe_t (show(R.length:Int)<=(R.length:Int)by omega),Int.toNat_natCast,Int.toNat_natCast,show((a.length:Int)+1).toNat=a.length+1 by omega,show((a.length:Int)+0).toNat=a.length by omega,qwh,qwh];simp only[Bool.and_self,qa0,qa1];have g:(R.take R.length).drop (a.length+1)=b:=by rw[List.take_length,hab,show a++47::b=(a++[47])++b by simp,List.drop_left' (by simp)]
    have h:(R.take a.length).drop 0=a:=by rw[List.drop_zero,hab,List.take_left' rfl]
    rw[g,h];have hcR:R.count 47=b.count 47+1:=by rw[hab,List.count_append,List.count_cons_self,List.count_eq_zero_of_not_mem h2];omega
    refine ih (i+1) n b (cur.set i (.s (bsOf a))) (by omega) (by omega) (by omega) (by omega) (by rw[List.length_set];exact hl) ?_;rw[qng _ (by omega),<-hp,hab,qk0 h2];simp
 have hrep:∀n:Nat,(List.replicate n (T.s (⟨#[]⟩:ByteArray))).length=n:=λn=>List.length_replicate;obtain⟨R',cur',e,hl,hp⟩:=Lp (l.count 47) 0 lf l (List.replicate (l.count 47+1) (T.s ⟨#[]⟩)) (by omega) (by omega) (Nat.le_refl _) rfl (hrep _) (by rw[List.take_zero,List.nil_append]);rw[show((0:Nat):Int)=0 from rfl]at e;rw[e]at E;simp only[Option.bind_some,nth0,nthS,asI_i,asL_l,asS_s]at E;rw[qa2 (by omega),qac (x:=((l.count 47:Nat):Int)+1) (by omega) (by omega),List.length_set,iLe_t (show(0:Int)<=0 by omega),iLe_t (by omega),iLe_t (by omega),Int.toNat_natCast,List.drop_zero,show(((l.count 47:Nat):Int)+1).toNat-0=l.count 47+1 by omega,qng _ (by omega),hp]at E;exact E
theorem c_split{lf d:Nat}(hlf:33554432<=lf)(l:List UInt8)(hs:l.length<=1048576):Cc lf (d+3) 128 [.s (bsOf l),.s ⟨#[47]⟩]=some [.sl (SL (cutL l))]:=by refine(f128_eq (Cc lf (d+2)) lf (bsOf l) ⟨#[47]⟩).trans ?_;unfold f128 f128_t;rw[qt9 hlf l hs];rfl
def qb5(Q:List (List UInt8)):Bool:=Q.all λx=>nameB (bsOf x)
def okP(l:List UInt8):Bool:=((cutL l).headD []==[])&&(decide (2<=(cutL l).length)&&(decide ((cutL l).tail.length<=30)&&qb5 (cutL l).tail))
theorem qrk(l:List UInt8):cutL l≠[]:=λh=>by have:=qie l;rw[h]at this;cases this
theorem qi5(l:List UInt8):((bsOf l).toList==(⟨#[47]⟩:ByteArray).toList)=(l==[47]):=by rw[qah,Lib.toList_data]
theorem qbi:okP [47]=false:=by
 have:cutL [47]=[[],[]]:=by decide
 unfold okP;rw[this];decide
theorem b47{l:List UInt8}{j:Nat}(h:l.getD j 0=47):(qae (bsOf l) (j:Int) !=47)=false:=by rw[qk9,h];rfl
theorem b47n{l:List UInt8}{j:Nat}(h:l.getD j 0≠47):(qae (bsOf l) (j:Int) !=47)=true:=by rw[qk9,bne_iff_ne];intro e;refine h (UInt8.toNat_inj.1 ?_);show(l.getD j 0).toNat=47;omega
set_option maxHeartbeats 2000000 in
theorem qig{lf d:Nat}(hlf:33554432<=lf)(l:List UInt8)(hs:l.length<=1048576):Cc lf (d+3) 76 [.s (bsOf l)]=some (bif l==[47]then[.sl [],.b true]else bif okP l then[.sl (SL (cutL l).tail),.b true]else[.sl [],.b false]):=by
 have E:=f76_eq (Cc lf (d+2)) lf (bsOf l);unfold f76 f76_t at E;dsimp only at E;rw[qi5]at E;by_cases hsl:l=[47];· subst hsl;exact E
 have hb:(l==[47])=false:=beq_eq_false_iff_ne.2 hsl;rw[hb,qa1]at E|-;have Lp:∀(k f i n:Nat)(out:List (List UInt8)),i+k=l.length+1->k<n->1<=i->f<=i->(i<=l.length->47∉(l.take i).drop f)->(l.length<i->f=i)->out.length<=30->f76_0 (Cc lf (d+2)) lf (bsOf l) n (f:Int) (i:Int) (SL out)=bif (bif decide (i<=l.length)then qb5 (cutL (l.drop f))&&decide (out.length+(cutL (l.drop f)).length<=30)else true)then some [T.i .i64 0,T.s (bsOf l),T.sl (SL (bif decide (i<=l.length)then out++cutL (l.drop f)else out))]else some [T.i .i64 1,T.b false,T.sl []]:=by
  intro k;induction k with
  |zero=>intro f i n out hi hn q hf hno hend ho;obtain⟨n,rfl⟩:∃z,n=z+1:=⟨n-1,by omega⟩;rw[f76_0];unfold f76_0_s;rw[qal,iLe_f (by omega),decide_eq_false (by omega)];rfl
  |succ k ih=>
   intro f i n out hi hn q hf hno hend ho;obtain⟨n,rfl⟩:∃z,n=z+1:=⟨n-1,by omega⟩;have hil:i<=l.length:=by omega
   have hno:=hno hil;have hw:IntKind.wrap .i64 ((i:Int)+1)=((i+1:Nat):Int):=qac (by omega) (by omega);have hseg:((l.take i).drop f).length<=16777216:=by simp only[List.length_drop,List.length_take];omega
   have fin:∀rest,cutL (l.drop f)=(l.take i).drop f::rest->(rest=bif decide (i+1<=l.length)then cutL (l.drop (i+1))else[])->(bif iLe 0 (f:Int)&&iLe (f:Int) (i:Int)&&true then(Cc lf (d+2) 45 [T.s ((bsOf l).extract (f:Int).toNat (i:Int).toNat)]).bind λm=>bif !(asB (nth m 0))then some [T.i .i64 1,T.b false,T.sl ([]:List T)]else bif ((SL out).length:Int)==30 then some [T.i .i64 1,T.b false,T.sl ([]:List T)]else bif nLe ((SL out).length+([T.s ((bsOf l).extract (f:Int).toNat (i:Int).toNat)]:List T).length) LIM then f76_0 (Cc lf (d+2)) lf (bsOf l) n (IntKind.wrap .i64 ((i:Int)+1)) (IntKind.wrap .i64 ((i:Int)+1)) (SL out++([T.s ((bsOf l).extract (f:Int).toNat (i:Int).toNat)]:List T))else none else none)=bif (qb5 (cutL (l.drop f))&&decide (out.length+(cutL (l.drop f)).length<=30))then some [T.i .i64 0,T.s (bsOf l),T.sl (SL (out++cutL (l.drop f)))]else some [T.i .i64 1,T.b false,T.sl []]:=by
    intro rest hq hrest;rw[iLe_t (by omega),iLe_t (by omega),Int.toNat_natCast,Int.toNat_natCast,qwh,qhk (d:=d) hlf _ (by rw[qal];exact hseg),hw];simp only[Bool.and_self,qa0,Option.bind_some,nth0,asB_b];rw[hq];have g:qb5 ((l.take i).drop f::rest)=(nameB (bsOf ((l.take i).drop f))&&qb5 rest):=rfl;rw[g];cases hnm:nameB (bsOf ((l.take i).drop f))with
    |false=>rfl
    |true=>
     simp only[Bool.not_true,qa1,Bool.true_and];have hsl:(SL out).length=out.length:=List.length_map ..;rw[hsl];by_cases v:out.length=30;· rw[show((out.length:Int)==30)=true from beq_iff_eq.2 (by omega),decide_eq_false (p:=out.length+_<=30) (by rw[List.length_cons];omega),Bool.and_false];rfl
     ·rw[show((out.length:Int)==30)=false from beq_eq_false_iff_ne.2 (by omega),qa1,nLe_t (by show out.length+1<=LIM;unfold LIM;omega),qa0,show SL out++[T.s (bsOf ((l.take i).drop f))]=SL (out++[(l.take i).drop f])from by show _=(out++[(l.take i).drop f]).map _;rw[List.map_append];rfl];rw[ih (i+1) (i+1) n (out++[(l.take i).drop f]) (by omega) (by omega) (by omega) (Nat.le_refl _) (λ_=>by rw[List.drop_eq_nil_of_le (by rw[List.length_take];omega)];exact List.not_mem_nil) (λ_=>rfl) (by rw[List.length_append];show out.length+1<=30;omega),hrest];cases decide (i+1<=l.length)with
      |true=>simp only[qa0,List.length_append,List.length_cons,List.length_nil,Nat.zero_add,List.append_assoc,List.singleton_append];rw[show out.length+1+(cutL (l.drop (i+1))).length=out.length+((cutL (l.drop (i+1))).length+1)by omega]
      |false=>simp only[qa1,qa0,List.length_cons,List.length_nil,Nat.zero_add];rw[decide_eq_true (p:=out.length+1<=30) (by omega)];rfl
   rw[f76_0];unfold f76_0_s;rw[decide_eq_true hil,qa0,qa0,qal,iLe_t (by omega),qa0,iLt_t (show(0:Int)<(i:Int)by omega),qa0];by_cases hlt:i<l.length
   ·rw[iLt_t (by omega),qa2 hlt];simp only[qa0];by_cases hc:l.getD i 0=47;· rw[b47 hc,qa1];refine fin (cutL (l.drop (i+1))) ?_ (by rw[decide_eq_true (by omega)];rfl);rw[qlh hf,drop_at hlt,hc,qk0 hno]
    ·rw[b47n hc,qa0,hw,ih f (i+1) n out (by omega) (by omega) (by omega) (by omega) (λh=>by
      rw[cut_ext hf hlt,List.mem_append,List.mem_singleton];rintro(h|h);· exact hno h
      · exact hc h.symm) (λh=>by omega) ho,decide_eq_true (by omega)]
     rfl
   · rw[iLt_f (by omega),qa1];refine fin [] ?_ (by rw[decide_eq_false (by omega)];rfl);rw[qlh hf,List.drop_eq_nil_of_le (show l.length<=i by omega),List.append_nil,qgk hno]
 obtain⟨n,rfl⟩:∃z,lf=z+1:=⟨lf-1,by omega⟩;have E0:=f76_0_u (Cc (n+1) (d+2)) (n+1) (bsOf l) n 0 0 [];unfold f76_0_s at E0;rw[qal,iLe_t (by omega),qa0,iLt_f (show¬(0:Int)<0 by omega),qa1,show IntKind.wrap .i64 ((0:Int)+1)=((1:Nat):Int)from qac (by omega) (by omega)]at E0;cases l with
 |nil=>rw[iLt_f (by simp),qa1]at E0;have:=Lp 0 1 1 n [] rfl (by omega) (Nat.le_refl _) (Nat.le_refl _) (λh=>by simp at h) (λ_=>rfl) (Nat.zero_le _);rw[show SL []=([]:List T)from rfl]at this;rw[this]at E0;rw[E0]at E;exact E
 |cons c l'=>
  rw[iLt_t (show(0:Int)<((c::l').length:Int)by rw[List.length_cons];omega),qa0,show inR 0 (c::l').length=true from qa2 (j:=0) (by simp),qa0]at E0;by_cases hc:c=47
  ·subst hc;have h0:(qae (bsOf (47::l')) 0 !=47)=false:=b47 (j:=0) rfl;rw[h0,qa1]at E0;have hl':l'≠[]:=λh=>hsl (by rw[h]);have hlen:1<=l'.length:=by cases l' with
   |nil=>exact absurd rfl hl'
   |cons _ _=>simp
   have:=Lp (l'.length+1) 1 1 n [] (by simp;omega) (by simp at hs;omega) (Nat.le_refl _) (Nat.le_refl _) (λh=>by simp) (λ_=>rfl) (Nat.zero_le _);rw[show SL []=([]:List T)from rfl,decide_eq_true (p:=1<=(47::l').length) (by simp)]at this;rw[this]at E0;rw[E0]at E;have hcut:cutL (47::l')=[]::cutL l':=by rw[cutL,if_pos rfl]
   have hok:okP (47::l')=(qb5 (cutL l')&&decide ((cutL l').length<=30)):=by unfold okP;rw[hcut];have h2:decide (2<=([]::cutL l').length)=true:=decide_eq_true (by rw[List.length_cons,qie];omega);rw[h2];show((([]:List UInt8)==[])&&(true&&(decide ((cutL l').length<=30)&&qb5 (cutL l'))))=_;rw[show(([]:List UInt8)==[])=true from rfl,Bool.true_and,Bool.true_and,Bool.and_comm]
   rw[hok,hcut,List.tail_cons];simp only[qa0,List.drop_succ_cons,List.drop_zero,List.length_nil,Nat.zero_add,List.nil_append]at E;cases hh:qb5 (cutL l')&&decide ((cutL l').length<=30)with
   |true=>rw[hh]at E;simp only[qa0,Option.bind_some,nth0,nthS,asI_i,asL_l,asS_s]at E;rw[show((0:Int)==0)=true from rfl,qa0,qal,show(((47::l').length:Int)==0)=false from beq_eq_false_iff_ne.2 (by simp;omega),qa1,show inR 0 (47::l').length=true from qa2 (j:=0) (by simp),qa0,h0,qa1]at E;exact E
   |false=>rw[hh]at E;exact E
  ·have h0:(qae (bsOf (c::l')) 0 !=47)=true:=b47n (j:=0) hc;rw[h0,qa0]at E0;have:=Lp (l'.length+1) 0 1 n [] (by simp;omega) (by simp at hs;omega) (Nat.le_refl _) (Nat.zero_le _) (λh=>by simp;exactλe=>hc e.symm) (λh=>by simp at h) (Nat.zero_le _);rw[show SL []=([]:List T)from rfl,show((0:Nat):Int)=0 from rfl,decide_eq_true (p:=1<=(c::l').length) (by simp)]at this;rw[this]at E0;rw[E0]at E;have hok:okP (c::l')=false:=by unfold okP;rw[cutL,if_neg hc];rfl
   rw[hok];simp only[qa0,List.drop_zero,List.length_nil,Nat.zero_add,List.nil_append]at E;cases hh:qb5 (cutL (c::l'))&&decide ((cutL (c::l')).length<=30)with
   |true=>rw[hh]at E;simp only[qa0,Option.bind_some,nth0,nthS,asI_i,asL_l,asS_s]at E;rw[show((0:Int)==0)=true from rfl,qa0,qal,show(((c::l').length:Int)==0)=false from beq_eq_false_iff_ne.2 (by simp;omega),qa1,show inR 0 (c::l').length=true from qa2 (j:=0) (by simp),qa0,h0,qa0]at E;exact E
   |false=>rw[hh]at E;exact E
theorem qba(L:List (List UInt8)):(SL L).length=L.length:=List.length_map ..
theorem SL_at{L:List (List UInt8)}{j:Nat}(h:j<L.length):(SL L).getD j T.u=.s (bsOf (L.getD j [])):=by rw[List.getD_eq_getElem?_getD,List.getElem?_map,List.getElem?_eq_getElem h,List.getD_eq_getElem?_getD,List.getElem?_eq_getElem h];rfl
theorem qug(L:List (List UInt8)):allB (λj=>nameB (bsOf (L.getD j []))) L.length=qb5 L:=by
 cases h:qb5 L with
 |true=>refine qa8.2 λj hj=>?_;rw[List.getD_eq_getElem?_getD,List.getElem?_eq_getElem hj];exact List.all_eq_true.1 h _ (List.getElem_mem hj)
 |false=>
  cases e:allB (λj=>nameB (bsOf (L.getD j []))) L.length with
  |false=>rfl
  |true=>
   have:qb5 L=true:=List.all_eq_true.2 λx hx=>by obtain⟨j,hj,rfl⟩:=List.getElem_of_mem hx;have:=qa8.1 e j hj;rw[List.getD_eq_getElem?_getD,List.getElem?_eq_getElem hj]at this;exact this
   rw[h]at this;cases this
theorem qgj:∀{l:List UInt8}{x:List UInt8},x∈cutL l->x.length<=l.length
|[],x,h=>by rw[List.mem_singleton.1 h];exact Nat.le_refl _
|c::l,x,h=>by
 unfold cutL at h;by_cases e:c=47
 ·rw[if_pos e]at h;rcases List.mem_cons.1 h with rfl|h
  · exact Nat.zero_le _
  · have:=qgj h;rw[List.length_cons];omega
 ·rw[if_neg e]at h;rcases List.mem_cons.1 h with rfl|h
  ·have:(cutL l).headD []∈cutL l:=by
    cases g:cutL l with
    |nil=>exact absurd g (qrk l)
    |cons a t=>exact List.mem_cons_self ..
   have:=qgj this;rw[List.length_cons,List.length_cons];omega
  · have:=qgj (List.mem_of_mem_tail h);rw[List.length_cons];omega
theorem qt2{lf d:Nat}(hlf:33554432<=lf)(s:ByteArray)(hs:s.size<=16777216):Cc lf (d+3) 146 [.s s]=some [.b (!nameB s)]:=by refine(f146_eq (Cc lf (d+2)) lf s).trans ?_;unfold f146 f146_t;rw[qn1 (d:=d) hlf s hs];rfl
theorem qoi{lf d:Nat}(hlf:33554432<=lf)(L:List (List UInt8))(hs:∀x∈L,x.length<=16777216):Cc lf (d+4) 129 [.sl (SL L)]=some [.b (decide (L.length<=30)&&qb5 L)]:=by
 refine(f129_eq (Cc lf (d+3)) lf (SL L)).trans ?_;unfold f129 f129_t;dsimp only;rw[qba];by_cases h:L.length<=30
 ·rw[iLe_t (by omega),decide_eq_true h,<-qug L];simp only[qa0,Bool.true_and];rcases qdq (F:=λn j=>f129_0 (Cc lf (d+3)) lf (SL L) n j) (P:=λj=>nameB (bsOf (L.getD j []))) (X:=λj=>some [T.i .i64 0,T.i .i64 (j:Int)]) (Y:=some [T.i .i64 1]) (len:=L.length) (λn j hj=>by
   have hx:(L.getD j []).length<=16777216:=by rw[List.getD_eq_getElem?_getD,List.getElem?_eq_getElem hj];exact hs _ (List.getElem_mem hj)
   rw[f129_0];unfold f129_0_s;rw[qba,iLt_t (by omega),qa2 hj,Int.toNat_natCast,SL_at hj,asS_s,qt2 hlf _ (by rw[qal];exact hx),qa3 hj (by omega)];simp only[qa0,Option.bind_some,nth0,asB_b];cases nameB (bsOf (L.getD j []))<;>rfl) (λn=>by
   rw[f129_0];unfold f129_0_s;rw[qba,iLt_f (by omega)];rfl) (n:=lf) (by omega)with⟨c,e⟩|⟨c,j,hj,_,e⟩
  · rw[e,c];rfl
  · rw[e,c];show some [T.b (!(iLe 0 (j:Int)))]=_;rw[iLe_t (by omega)];rfl
 · rw[iLe_f (by omega),decide_eq_false h];rfl
theorem qih{lf d:Nat}(hlf:33554432<=lf)(l:List UInt8)(hs:l.length<=1048576):Cc lf (d+5) 109 [.s (bsOf l)]=some (bif l==[47]then[.sl [],.b true]else bif okP l then[.sl (SL (cutL l).tail),.b true]else[.sl [],.b false]):=by
 refine(f109_eq (Cc lf (d+4)) lf (bsOf l)).trans ?_;unfold f109 f109_t;rw[qi5,c_split (d:=d+1) hlf l hs];cases hb:l==[47]with
 |true=>rfl
 |false=>
  simp only[qa1,Option.bind_some,nth0,asL_l];rw[qba];have hne:=qrk l;have hsm:∀x∈(cutL l).tail,x.length<=16777216:=λx hx=>by have:=qgj (List.mem_of_mem_tail hx);omega
  unfold okP;generalize cutL l=P at hne hsm|-;cases P with
  |nil=>exact absurd rfl hne
  |cons a Q=>
   rw[show inR 0 (a::Q).length=true from qa2 (j:=0) (by simp),qa0,show asS ((SL (a::Q)).getD 0 T.u)=bsOf a from rfl,qah,show(⟨#[]⟩:ByteArray).toList=[]from by rw[Lib.toList_data],List.headD_cons,List.tail_cons];cases ha:a==[]with
   |false=>rfl
   |true=>
    simp only[Bool.not_true,qa1,Bool.true_and];by_cases h2:2<=(a::Q).length;· rw[iLt_f (by omega),decide_eq_true h2,iLe_t (show(0:Int)<=1 by omega),iLe_t (show(1:Int)<=((a::Q).length:Int)by omega),iLe_t (show((a::Q).length:Int)<=((a::Q).length:Int)by omega),Int.toNat_natCast,show(SL (a::Q)).drop 1=SL Q from rfl,List.take_of_length_le (by rw[qba,List.length_cons];omega),qoi (d:=d) hlf Q hsm];simp only[qa1,qa0,Bool.and_self,Bool.true_and,Option.bind_some,nth0,asB_b];cases decide (Q.length<=30)&&qb5 Q<;>rfl
    · rw[iLt_t (by omega),decide_eq_false h2];rfl
theorem qqb{l:List UInt8}(h:okP l=true):0<(cutL l).tail.length:=by unfold okP at h;simp only[Bool.and_eq_true,decide_eq_true_eq]at h;have:=h.2.1;rw[List.length_tail];omega
theorem c_inner{lf d:Nat}(hlf:33554432<=lf)(l:List UInt8)(hs:l.length<=1048576):Cc lf (d+6) 85 [.s (bsOf l)]=some [.b (okP l)]:=by
 refine(f85_eq (Cc lf (d+5)) lf (bsOf l)).trans ?_;unfold f85 f85_t;rw[qih (d:=d) hlf l hs];cases hb:l==[47]with
 |true=>rw[beq_iff_eq.1 hb,qbi];rfl
 |false=>
  cases ho:okP l with
  |true=>have:=qqb ho;show some [T.b (iLt 0 ((SL (cutL l).tail).length:Int))]=_;rw[qba,iLt_t (by omega)]
  |false=>rfl
theorem qb6{s:ByteArray}(h:nameB s=true):s.size<=14:=by unfold nameB at h;simp only[Bool.and_eq_true,qe5]at h;omega
theorem c_join{lf d:Nat}(hlf:33554432<=lf)(L:List (List UInt8))(hL:L.length<=30)(hn:qb5 L=true):∃r,Cc lf (d+3) 101 [.sl (SL L)]=some [.s r]:=by
 have E:=f101_eq (Cc lf (d+2)) lf (SL L);unfold f101 f101_t at E;dsimp only at E;have Lp:∀(k j n:Nat)(s:ByteArray),j+k=L.length->k<n->s.size<=15*j->∃q r,f101_0 (Cc lf (d+2)) lf (SL L) n s (j:Int)=some [T.i .i64 q,T.s r]:=by
  intro k;induction k with
  |zero=>intro j n s hj hk hs;obtain⟨n,rfl⟩:∃z,n=z+1:=⟨n-1,by omega⟩;refine⟨1,s,?_⟩;rw[f101_0];unfold f101_0_s;rw[qba,iLt_f (by omega)];rfl
  |succ k ih=>
   intro j n s hj hk hs;obtain⟨n,rfl⟩:∃z,n=z+1:=⟨n-1,by omega⟩;have hjl:j<L.length:=by omega
   have hx:nameB (bsOf (L.getD j []))=true:=by rw[List.getD_eq_getElem?_getD,List.getElem?_eq_getElem hjl];exact List.all_eq_true.1 hn _ (List.getElem_mem hjl)
   have hz:=qb6 hx;have c:(s++(⟨#[47]⟩:ByteArray)).size=s.size+1:=by rw[ByteArray.size_append];rfl
   have h2:((s++(⟨#[47]⟩:ByteArray))++bsOf (L.getD j [])).size=s.size+1+(bsOf (L.getD j [])).size:=by rw[ByteArray.size_append,c]
   obtain⟨q,r,e⟩:=ih (j+1) n ((s++(⟨#[47]⟩:ByteArray))++bsOf (L.getD j [])) (by omega) (by omega) (by omega);refine⟨q,r,?_⟩;rw[f101_0];unfold f101_0_s;rw[qba,iLt_t (by omega),qa2 hjl,Int.toNat_natCast,SL_at hjl,asS_s,qhk (d:=d) hlf _ (by omega),hx,iLt_f (by omega),qa3 hjl (by omega),c,nLe_t (show s.size+(⟨#[47]⟩:ByteArray).size<=LIM by show s.size+1<=LIM;unfold LIM;omega),nLe_t (show s.size+1+(bsOf (L.getD j [])).size<=LIM by unfold LIM;omega)];simp only[qa0,qa1,Option.bind_some,nth0,asB_b,Bool.not_true];exact e
 cases h0:((SL L).length:Int)==0 with
 |true=>rw[h0,qa0]at E;exact⟨_,E⟩
 |false=>rw[h0,qa1]at E;obtain⟨q,r,e⟩:=Lp L.length 0 lf ⟨#[]⟩ (by omega) (by omega) (by show 0<=15*0;omega);rw[show((0:Nat):Int)=0 from rfl]at e;rw[e]at E;refine⟨r,E.trans ?_⟩;simp only[Option.bind_some,nth0,nthS,asI_i,asS_s];cases q==0<;>rfl
theorem qyg{lf d:Nat}(hlf:33554432<=lf)(l:List UInt8)(hs:l.length<=1048576):∃g r1,Cc lf (d+4) 73 [.s (bsOf l)]=some [.s g,.s r1,.b (okP l)]:=by
 have E:=f73_eq (Cc lf (d+3)) lf (bsOf l);unfold f73 f73_t at E;rw[qig (d:=d) hlf l hs]at E;cases hb:l==[47]with
 |true=>rw[hb]at E;rw[beq_iff_eq.1 hb,qbi];rw[beq_iff_eq.1 hb]at E;exact⟨_,_,E⟩
 |false=>
  rw[hb,qa1]at E;cases ho:okP l with
  |false=>rw[ho]at E;exact⟨_,_,E⟩
  |true=>
   have hp:=qqb ho;rw[ho]at E;unfold okP at ho;simp only[Bool.and_eq_true,decide_eq_true_eq]at ho;obtain⟨_,_,c,hnm⟩:=ho;generalize(cutL l).tail=Q at E hp c hnm;have hdl:(Q.take (Q.length-1)).length<=30:=by rw[List.length_take];omega
   have hdn:qb5 (Q.take (Q.length-1))=true:=List.all_eq_true.2 λx hx=>List.all_eq_true.1 hnm x (List.mem_of_mem_take hx);obtain⟨r,er⟩:=c_join (d:=d) hlf (Q.take (Q.length-1)) hdl hdn;simp only[qa0,Option.bind_some,nth0,nthS,asB_b,asL_l,Bool.not_true,qa1]at E;have hw:IntKind.wrap .i64 ((Q.length:Int)-1)=((Q.length-1:Nat):Int):=by rw[qac (by omega) (by omega)];omega
   rw[qba,show((Q.length:Int)==0)=false from beq_eq_false_iff_ne.2 (by omega),qa1,hw,iLe_t (show(0:Int)<=0 by omega),iLe_t (by omega),iLe_t (by omega),Int.toNat_natCast,List.drop_zero,Nat.sub_zero,show(SL Q).take (Q.length-1)=SL (Q.take (Q.length-1))from List.map_take.symm,er,qa2 (by omega)]at E;exact⟨_,_,E⟩
abbrev IL(ns:List Int):List T:=ns.map (T.i .i64)
theorem IL_at{ns:List Int}{j:Nat}(h:j<ns.length):(IL ns).getD j T.u=.i .i64 (ns.getD j 0):=by rw[List.getD_eq_getElem?_getD,List.getElem?_map,List.getElem?_eq_getElem h,List.getD_eq_getElem?_getD,List.getElem?_eq_getElem h];rfl
theorem qbu(ns:List Int):(IL ns).length=ns.length:=List.length_map ..
theorem IL_asI(ns:List Int):(IL ns).map asI=ns:=by rw[List.map_map];exact(List.map_congr_left λx _=>rfl).trans (List.map_id _)
theorem qzm(ns:List Int)(j:Nat)(x:Int):(IL ns).set j (.i .i64 x)=IL (ns.set j x):=List.map_set.symm
theorem qvc{l:List Int}{j:Nat}(h:j<l.length):l.getD j 0=l[j]:=by rw[List.getD_eq_getElem?_getD,List.getElem?_eq_getElem h];rfl
theorem qc2{l:List T}{j:Nat}(k:Nat):(asL (T.cell (l.getD j T.u) k)).length+tls (asL (T.cell (l.getD j T.u) k))<=tls l:=by
 by_cases h:j<l.length
 ·have g:=qfa (List.getElem_mem h);rw[List.getD_eq_getElem?_getD,List.getElem?_eq_getElem h];show(asL (T.cell l[j] k)).length+tls (asL (T.cell l[j] k))<=_;cases e:l[j]<;>try (simp only[T.cell,asL,tls];exact Nat.zero_le _)
  rename_i xs;rw[e]at g;simp only[T.cell,tl]at g|-;cases c:xs[k]? with
  |none=>rw[List.getD_eq_getElem?_getD,c];exact Nat.zero_le _
  |some x=>
   rw[List.getD_eq_getElem?_getD,c];have m:=qfa (List.mem_of_getElem? c);show(asL x).length+tls (asL x)<=_;cases x<;>try (exact Nat.zero_le _)
   simp only[tl,asL]at m|-;omega
 · rw[List.getD_eq_getElem?_getD,List.getElem?_eq_none (by omega)];exact Nat.zero_le _
def lessB(l:List T)(j:Nat):Bool:=!iLt 0 (j:Int)||Op.bytesLess (asS (T.cell (l.getD (j-1) T.u) 0)).toList (asS (T.cell (l.getD j T.u) 0)).toList
def entB(l:List T)(j:Nat):Bool:=nameB (asS (T.cell (l.getD j T.u) 0))&&((iLe 2 (asI (T.cell (l.getD j T.u) 1))&&iLe (asI (T.cell (l.getD j T.u) 1)) 1000)&&lessB l j)
def attrB(l:List T)(j:Nat):Bool:=nameB (asS (T.cell (l.getD j T.u) 0))&&((iLe 1 ((asS (T.cell (l.getD j T.u) 1)).size:Int)&&iLe ((asS (T.cell (l.getD j T.u) 1)).size:Int) 16)&&lessB l j)
def entsB(l:List T):Bool:=allB (entB l) l.length&&iLe (l.length:Int) 10
def qc9(l:List T):Bool:=allB (attrB l) l.length&&iLe (l.length:Int) 4
def qg7(ino kind links:Int)(data ents attrs:List T):Bool:=(iLe 1 ino&&iLe ino 1000)&&((iLe 0 links&&iLe links 1000)&&(((links==0)==(ino==1))&&(!iLt 100 (data.length:Int)&&(entsB ents&&(qc9 attrs&&bif kind==1 then((ents.length:Int)==0)else bif kind==2 then((data.length:Int)==0)&&iLe links 1 else false)))))
theorem c_sEnts{lf d:Nat}(hlf:33554432<=lf)(l:List T)(hs:l.length+tls l<=16777216):Cc lf (d+3) 142 [.sl l]=some [.b (entsB l)]:=by
 refine(f142_eq (Cc lf (d+2)) lf l).trans ?_;unfold f142 f142_t;dsimp only;have L:=qb4 (F:=λn j=>f142_0 (Cc lf (d+2)) lf l n j) (P:=entB l) (X:=some [T.i .i64 0,T.b false]) (Y:=some [T.i .i64 1,T.sl l]) (len:=l.length) (λn j hj=>by
  have hn:=qgm (l:=l) (j:=j) 0;rw[f142_0];unfold f142_0_s;rw[iLt_t (by omega),qa2 hj,qa3 hj (by omega)];simp only[Int.toNat_natCast,qhk hlf _ (show(asS (T.cell (l.getD j T.u) 0)).size<=16777216 by omega),qgq,Option.bind_some,nth0,asB_b,entB,lessB,qbp,qf1,qhi,qa0];cases h0:iLt 0 (j:Int)with
  |true=>
   have c:0<j:=by have:=qjt.1 h0;omega
   rw[qc5 c (by omega),qa2 (by omega)];simp only[qa0,Int.toNat_natCast]
  |false=>rfl) (λn=>by
  rw[f142_0];unfold f142_0_s;rw[iLt_f (by omega)];rfl) (n:=lf) (by omega)
 rw[show((0:Int))=0 from rfl]at L;rw[L];unfold entsB;cases allB (entB l) l.length<;>rfl
theorem qmy{lf d:Nat}(hlf:33554432<=lf)(l:List T)(hs:l.length+tls l<=16777216):Cc lf (d+3) 20 [.sl l]=some [.b (qc9 l)]:=by
 refine(f20_eq (Cc lf (d+2)) lf l).trans ?_;unfold f20 f20_t;dsimp only;have L:=qb4 (F:=λn j=>f20_0 (Cc lf (d+2)) lf l n j) (P:=attrB l) (X:=some [T.i .i64 0,T.b false]) (Y:=some [T.i .i64 1,T.sl l]) (len:=l.length) (λn j hj=>by
  have hn:=qgm (l:=l) (j:=j) 0;rw[f20_0];unfold f20_0_s;rw[iLt_t (by omega),qa2 hj,qa3 hj (by omega)];simp only[Int.toNat_natCast,qhk hlf _ (show(asS (T.cell (l.getD j T.u) 0)).size<=16777216 by omega),qgq,Option.bind_some,nth0,asB_b,attrB,lessB,qbp,qf1,qhi,qa0];cases h0:iLt 0 (j:Int)with
  |true=>
   have c:0<j:=by have:=qjt.1 h0;omega
   rw[qc5 c (by omega),qa2 (by omega)];simp only[qa0,Int.toNat_natCast]
  |false=>rfl) (λn=>by
  rw[f20_0];unfold f20_0_s;rw[iLt_f (by omega)];rfl) (n:=lf) (by omega)
 rw[L];unfold qc9;cases allB (attrB l) l.length<;>rfl
theorem qij{lf d:Nat}(hlf:33554432<=lf)(l:List T)(hs:l.length+tls l<=16777216):Cc lf (d+3) 27 [.sl l]=some [.b (qc9 l)]:=by
 refine(f27_eq (Cc lf (d+2)) lf l).trans ?_;unfold f27 f27_t;dsimp only;have L:=qb4 (F:=λn j=>f27_0 (Cc lf (d+2)) lf l n j) (P:=attrB l) (X:=some [T.i .i64 0,T.b false]) (Y:=some [T.i .i64 1,T.sl l]) (len:=l.length) (λn j hj=>by
  have hn:=qgm (l:=l) (j:=j) 0;rw[f27_0];unfold f27_0_s;rw[iLt_t (by omega),qa2 hj,qa3 hj (by omega)];simp only[Int.toNat_natCast,qn1 hlf _ (show(asS (T.cell (l.getD j T.u) 0)).size<=16777216 by omega),qk8,Option.bind_some,nth0,asB_b,attrB,lessB,qbp,qf1,qhi,qa0];cases h0:iLt 0 (j:Int)with
  |true=>
   have c:0<j:=by have:=qjt.1 h0;omega
   rw[qc5 c (by omega),qa2 (by omega)];simp only[qa0,Int.toNat_natCast]
  |false=>rfl) (λn=>by
  rw[f27_0];unfold f27_0_s;rw[iLt_f (by omega)];rfl) (n:=lf) (by omega)
 rw[L];unfold qc9;cases allB (attrB l) l.length<;>rfl
theorem qsz{lf d:Nat}(hlf:33554432<=lf)(ino kind links:Int)(data ents attrs:List T)(he:ents.length+tls ents<=16777216)(ha:attrs.length+tls attrs<=16777216):Cc lf (d+4) 126 [.st [.i .i64 ino,.i .i64 kind,.i .i64 links,.sl data,.sl ents,.sl attrs]]=some [.b (qg7 ino kind links data ents attrs)]:=by refine(f126_eq (Cc lf (d+3)) lf ino kind links data ents attrs).trans ?_;unfold f126 f126_t;simp only[qgq,c_sEnts hlf ents he,qmy hlf attrs ha,Option.bind_some,nth0,asB_b,qpv];refine congrArg (λb=>some [T.b b]) ?_;unfold qg7;generalize(iLe 1 ino&&iLe ino 1000)=c;generalize(iLe 0 links&&iLe links 1000)=j;generalize((links==0)==(ino==1))=k;generalize iLt 100 (data.length:Int)=m;generalize entsB ents=q;generalize qc9 attrs=v;generalize(kind==1)=x;generalize(kind==2)=z;generalize((data.length:Int)==0)=A;generalize((ents.length:Int)==0)=g;generalize iLe links 1=h;cases c<;>cases j<;>cases k<;>cases m<;>cases q<;>cases v<;>first|rfl|(cases x<;>cases z<;>cases A<;>rfl)
theorem qt5{lf d:Nat}(hlf:33554432<=lf)(ino kind links:Int)(data ents attrs:List T)(he:ents.length+tls ents<=16777216)(ha:attrs.length+tls attrs<=16777216):Cc lf (d+4) 147 [.st [.i .i64 ino,.i .i64 kind,.i .i64 links,.sl data,.sl ents,.sl attrs]]=some [.b (qg7 ino kind links data ents attrs)]:=by
 refine(f147_eq (Cc lf (d+3)) lf ino kind links data ents attrs).trans ?_;unfold f147 f147_t;dsimp only;have L:=qb4 (F:=λn j=>f147_0 (Cc lf (d+3)) lf data ents attrs ino kind links n j) (P:=entB ents) (X:=some [T.i .i64 0,T.b false]) (Y:=some [T.i .i64 1,T.i .i64 ino,T.i .i64 kind,T.i .i64 links,T.sl data,T.sl ents,T.sl attrs]) (len:=ents.length) (λn j hj=>by
  have hn:=qgm (l:=ents) (j:=j) 0;rw[f147_0];unfold f147_0_s;rw[iLt_t (by omega),qa2 hj,qa3 hj (by omega)];simp only[Int.toNat_natCast,qn1 hlf _ (show(asS (T.cell (ents.getD j T.u) 0)).size<=16777216 by omega),qk8,Option.bind_some,nth0,asB_b,entB,lessB,qbp,qf1,qhi,qa0];cases h0:iLt 0 (j:Int)with
  |true=>
   have x:0<j:=by have:=qjt.1 h0;omega
   rw[qc5 x (by omega),qa2 (by omega)];simp only[qa0,Int.toNat_natCast]
  |false=>rfl) (λn=>by
  rw[f147_0];unfold f147_0_s;rw[iLt_f (by omega)];rfl) (n:=lf) (by omega)
 rw[L];have c:iLt 10 (ents.length:Int)= !iLe (ents.length:Int) 10:=qzd _ _;unfold qg7 entsB;cases allB (entB ents) ents.length with
 |false=>simp only[qk8,qij hlf attrs ha,Option.bind_some,nth0,nthS,asB_b,asI_i,qa1,qpv,c];rw[show((0:Int)==0)=true from rfl];refine congrArg (λb=>some [T.b b]) ?_;generalize(iLe 1 ino&&iLe ino 1000)=g;generalize(iLe 0 links&&iLe links 1000)=h;generalize((links==0)==(ino==1))=k;generalize iLt 100 (data.length:Int)=m;generalize iLe (ents.length:Int) 10=q;generalize qc9 attrs=v;cases g<;>cases h<;>cases k<;>cases m<;>cases q<;>cases v<;>rfl
 |true=>simp only[qk8,qij hlf attrs ha,Option.bind_some,nth0,nthS,asB_b,asI_i,asL_l,qa0,qpv,c];rw[show((1:Int)==0)=false from rfl];refine congrArg (λb=>some [T.b b]) ?_;generalize(iLe 1 ino&&iLe ino 1000)=g;generalize(iLe 0 links&&iLe links 1000)=h;generalize((links==0)==(ino==1))=k;generalize iLt 100 (data.length:Int)=m;generalize iLe (ents.length:Int) 10=q;generalize qc9 attrs=v;generalize(kind==1)=B;generalize(kind==2)=C;generalize((data.length:Int)==0)=D;generalize((ents.length:Int)==0)=z;generalize iLe links 1=A;cases g<;>cases h<;>cases k<;>cases m<;>cases q<;>cases v<;>first|rfl|(cases B<;>cases C<;>cases D<;>rfl)
theorem c_index{lf d:Nat}(hlf:33554432<=lf)(ns:List Int)(n:Int)(hs:ns.length<=16777216):∃r,Cc lf (d+1) 159 [.sl (IL ns),.i .i64 n]=some [.i .i64 r]/\iLe 0 r=decide (n∈ns):=by
 have E:=f159_eq (Cc lf d) lf (IL ns) n;unfold f159 f159_t at E;dsimp only at E;rcases qdq (F:=λm j=>f159_0 (Cc lf d) lf (IL ns) n m j) (P:=λj=>!(n==ns.getD j 0)) (X:=λj=>some [T.i .i64 0,T.i .i64 (j:Int)]) (Y:=some [T.i .i64 1]) (len:=ns.length) (λm j hj=>by
  rw[f159_0];unfold f159_0_s;rw[iLt_t (by rw[qbu];omega),qa2 (by rw[qbu];exact hj),Int.toNat_natCast,IL_at hj,qa3 hj (by omega)];simp only[asI_i,qa0];cases n==ns.getD j 0<;>rfl) (λm=>by
  rw[f159_0];unfold f159_0_s;rw[iLt_f (by rw[qbu];omega)];rfl) (n:=lf) (by omega)with⟨h,e⟩|⟨_,j,hj,h,e⟩
 · rw[e]at E;refine⟨-1,E,?_⟩;rw[iLe_f (by omega)];symm;refine decide_eq_false λhm=>?_;obtain⟨j,hj,e⟩:=List.getElem_of_mem hm;have:=qa8.1 h j hj;rw[qvc hj,e]at this;simp at this
 ·rw[e]at E;refine⟨(j:Int),E,?_⟩;rw[iLe_t (by omega)];symm;refine decide_eq_true ?_;rw[qvc hj]at h;cases e:n==ns[j]with
  |false=>rw[e]at h;cases h
  |true=>rw[beq_iff_eq.1 e];exact List.getElem_mem hj
theorem qta{lf d:Nat}(hlf:33554432<=lf)(ns:List Int)(n:Int)(hs:ns.length<=16777216):Cc lf (d+2) 148 [.sl (IL ns),.i .i64 n]=some [.b (decide (n∈ns))]:=by refine(f148_eq (Cc lf (d+1)) lf (IL ns) n).trans ?_;unfold f148 f148_t;obtain⟨r,e,h⟩:=c_index (d:=d) hlf ns n hs;rw[e];show some [T.b (iLe 0 r)]=_;rw[h]
def sameB(P:Nat->Bool)(l0 c:List T):Bool:=((l0.length:Int)==(c.length:Int))&&allB P l0.length
def byteE(l0 c:List T)(j:Nat):Bool:=asI (l0.getD j T.u)==asI (c.getD j T.u)
def attrE(l0 c:List T)(j:Nat):Bool:=(asS (T.cell (l0.getD j T.u) 0)==asS (T.cell (c.getD j T.u) 0))&&((asS (T.cell (l0.getD j T.u) 1)==asS (T.cell (c.getD j T.u) 1))&&true)
theorem qr3{l0 c:List T}(h:l0.length=c.length):((l0.length:Int)==(c.length:Int))=true:=by rw[beq_iff_eq];omega
theorem qr2{l0 c:List T}(h:¬l0.length=c.length):((l0.length:Int)==(c.length:Int))=false:=by rw[beq_eq_false_iff_ne,ne_eq];omega
theorem qt1{lf d:Nat}(hlf:33554432<=lf)(l0 c:List T)(hs:l0.length<=16777216):Cc lf (d+1) 43 [.sl l0,.sl c]=some [.b (sameB (byteE l0 c) l0 c)]:=by
 refine(f43_eq (Cc lf d) lf l0 c).trans ?_;unfold f43 f43_t sameB;dsimp only;by_cases h:l0.length=c.length
 ·have L:=qb4 (F:=λn j=>f43_0 (Cc lf d) lf l0 c n j) (P:=byteE l0 c) (X:=some [T.i .i64 0,T.b false]) (Y:=some [T.i .i64 1]) (len:=l0.length) (λn j hj=>by
   rw[f43_0];unfold f43_0_s byteE;rw[iLt_t (by omega),qa2 hj,qa2 (show j<c.length by omega),qa3 hj (by omega)];simp only[qa0,Int.toNat_natCast,bne,qbp]) (λn=>by
   rw[f43_0];unfold f43_0_s;rw[iLt_f (by omega)];rfl) (n:=lf) (by omega)
  simp only[bne,qr3 h,Bool.not_true,qa1,Bool.true_and];rw[L];cases allB (byteE l0 c) l0.length<;>rfl
 · simp only[bne,qr2 h];rfl
theorem qt7{lf d:Nat}(hlf:33554432<=lf)(l0 c:List T)(hs:l0.length<=16777216):Cc lf (d+1) 57 [.sl l0,.sl c]=some [.b (sameB (byteE l0 c) l0 c)]:=by
 refine(f57_eq (Cc lf d) lf l0 c).trans ?_;unfold f57 f57_t sameB;dsimp only;by_cases h:l0.length=c.length
 ·have L:=qb4 (F:=λn j=>f57_0 (Cc lf d) lf l0 c n j) (P:=byteE l0 c) (X:=some [T.i .i64 0,T.b false]) (Y:=some [T.i .i64 1]) (len:=l0.length) (λn j hj=>by
   rw[f57_0];unfold f57_0_s byteE;rw[iLt_t (by omega),qa2 hj,qa2 (show j<c.length by omega),qa3 hj (by omega)];simp only[qa0,Int.toNat_natCast,bne,qbp]) (λn=>by
   rw[f57_0];unfold f57_0_s;rw[iLt_f (by omega)];rfl) (n:=lf) (by omega)
  simp only[bne,qr3 h,Bool.not_true,qa1,Bool.true_and];rw[L];cases allB (byteE l0 c) l0.length<;>rfl
 · simp only[bne,qr2 h];rfl
theorem qt8{lf d:Nat}(hlf:33554432<=lf)(l0 c:List T)(hs:l0.length<=16777216):Cc lf (d+1) 58 [.sl l0,.sl c]=some [.b (sameB (attrE l0 c) l0 c)]:=by
 refine(f58_eq (Cc lf d) lf l0 c).trans ?_;unfold f58 f58_t sameB;dsimp only;by_cases h:l0.length=c.length
 ·have L:=qb4 (F:=λn j=>f58_0 (Cc lf d) lf l0 c n j) (P:=attrE l0 c) (X:=some [T.i .i64 0,T.b false]) (Y:=some [T.i .i64 1]) (len:=l0.length) (λn j hj=>by
   rw[f58_0];unfold f58_0_s attrE;rw[iLt_t (by omega),qa2 hj,qa2 (show j<c.length by omega),qa3 hj (by omega)];simp only[qa0,Int.toNat_natCast,bne,qbp]) (λn=>by
   rw[f58_0];unfold f58_0_s;rw[iLt_f (by omega)];rfl) (n:=lf) (by omega)
  simp only[bne,qr3 h,Bool.not_true,qa1,Bool.true_and];rw[L];cases allB (attrE l0 c) l0.length<;>rfl
 · simp only[bne,qr2 h];rfl
theorem qey:∀x:List UInt8,Op.bytesLess x x=false
|[]=>rfl
|a::x=>by have:=qey x;simp only[Op.bytesLess,this,Bool.and_false,Bool.or_false,decide_eq_false_iff_not];exact UInt8.lt_irrefl a
theorem qhd:∀x y z:List UInt8,Op.bytesLess x y=true->Op.bytesLess y z=true->Op.bytesLess x z=true
|[],[],z,h,_=>by cases h
|[],b::y,[],_,h=>by cases h
|[],b::y,c::z,_,_=>rfl
|a::x,[],z,h,_=>by cases h
|a::x,b::y,[],_,h=>by cases h
|a::x,b::y,c::z,g,h2=>by
 simp only[Op.bytesLess,Bool.or_eq_true,decide_eq_true_eq,Bool.and_eq_true,beq_iff_eq]at g h2|-;rcases g with g|⟨rfl,g⟩
 ·rcases h2 with h2|⟨rfl,h2⟩
  · exact .inl (UInt8.lt_trans g h2)
  · exact .inl g
 ·rcases h2 with h2|⟨rfl,h2⟩
  · exact .inl h2
  · exact .inr ⟨rfl,qhd x y z g h2⟩
theorem ql3{l:List T}(h:∀j,j<l.length->lessB l j=true):∀(k i:Nat),i+k<l.length->0<k->Op.bytesLess (asS (T.cell (l.getD i T.u) 0)).toList (asS (T.cell (l.getD (i+k) T.u) 0)).toList=true
|0,i,_,h0=>absurd h0 (Nat.lt_irrefl _)
|k+1,i,hk,_=>by
 have g:=h (i+(k+1)) hk;unfold lessB at g;rw[iLt_t (by omega),show i+(k+1)-1=i+k by omega]at g;have g:Op.bytesLess (asS (T.cell (l.getD (i+k) T.u) 0)).toList (asS (T.cell (l.getD (i+(k+1)) T.u) 0)).toList=true:=g;by_cases c:k=0;· subst c;exact g
 · exact qhd _ _ _ (ql3 h k i (by omega) (by omega)) g
def fstI(p:Nat->Bool)(n:Nat):Option Nat:=(List.range n).find? p
theorem qgb{p:Nat->Bool}{n i:Nat}:fstI p n=some i↔p i=true/\i<n/\∀j,j<i->p j=false:=by unfold fstI;rw[List.find?_range_eq_some];simp
theorem qen{p:Nat->Bool}{n:Nat}:fstI p n=none↔∀j,j<n->p j=false:=by unfold fstI;simp
theorem qez{F:Nat->Int->Option (List T)}{p:Nat->Bool}{X:Nat->Option (List T)}{Y:Option (List T)}{len:Nat}(hF:∀n(j:Nat),j<len->F (n+1) (j:Int)=bif p j then X j else F n ((j+1:Nat):Int))(hE:∀n,F (n+1) (len:Int)=Y){n:Nat}(hn:len<n):F n 0=match fstI p len with|some j=>X j|none=>Y:=by
 have key:∀(k j n:Nat),j+k=len->k<n->(∀i,i<j->p i=false)->F n (j:Int)=match fstI p len with|some j=>X j|none=>Y:=by
  intro k;induction k with
  |zero=>
   intro j n hj hn h;obtain⟨n,rfl⟩:∃z,n=z+1:=⟨n-1,by omega⟩;obtain rfl:j=len:=by omega
   rw[hE,qen.2 h]
  |succ k ih=>
   intro j n hj hn h;obtain⟨n,rfl⟩:∃z,n=z+1:=⟨n-1,by omega⟩;rw[hF n j (by omega)];cases e:p j with
   |true=>rw[qgb.2 ⟨e,by omega,h⟩];rfl
   |false=>
    refine ih (j+1) n (by omega) (by omega) λi hi=>?_;by_cases c:i=j;· rw[c];exact e
    · exact h i (by omega)
 exact key len 0 n (by omega) hn (λi hi=>by omega)
def inoA(l:List T)(i:Nat):Int:=asI (T.cell (l.getD i T.u) 0)
def kndA(l:List T)(i:Nat):Int:=asI (T.cell (l.getD i T.u) 1)
def lnkA(l:List T)(i:Nat):Int:=asI (T.cell (l.getD i T.u) 2)
def datA(l:List T)(i:Nat):List T:=asL (T.cell (l.getD i T.u) 3)
def entA(l:List T)(i:Nat):List T:=asL (T.cell (l.getD i T.u) 4)
def atrA(l:List T)(i:Nat):List T:=asL (T.cell (l.getD i T.u) 5)
def inoT(l:List T)(i:Nat):T:=.st [.i .i64 (inoA l i),.i .i64 (kndA l i),.i .i64 (lnkA l i),.sl (datA l i),.sl (entA l i),.sl (atrA l i)]
def inoZ:T:=.st [.i .i64 0,.i .i64 0,.i .i64 0,.sl [],.sl [],.sl []]
def plc(l:List T)(n:Int):Option Nat:=fstI (λi=>inoA l i==n) l.length
def plcI:Option Nat->Int|some j=>(j:Int)|none=> -1
def inoR:List T->Option Nat->List T
|l,some j=>[inoT l j,.b true]
|_,none=>[inoZ,.b false]
theorem qnp{l:List T}{n:Int}{j:Nat}(h:plc l n=some j):j<l.length/\inoA l j=n:=by have:=qgb.1 h;exact⟨this.2.1,by simpa using this.1⟩
theorem c_sAt{lf d:Nat}(hlf:33554432<=lf)(l:List T)(nx n:Int)(hs:l.length<=16777216):Cc lf (d+1) 103 [.st [.sl l,.i .i64 nx],.i .i64 n]=some [.i .i64 (plcI (plc l n))]:=by
 have E:=f103_eq (Cc lf d) lf l nx n;unfold f103 f103_t at E;dsimp only at E;rw[qez (F:=λm j=>f103_0 (Cc lf d) lf l n nx m j) (p:=λi=>inoA l i==n) (X:=λj=>some [.i .i64 0,.i .i64 (j:Int)]) (Y:=some [.i .i64 1]) (len:=l.length) (λm j hj=>by
  rw[f103_0];unfold f103_0_s inoA;rw[iLt_t (by omega),qa2 hj,qa3 hj (by omega)];simp only[qa0,Int.toNat_natCast]) (λm=>by
  rw[f103_0];unfold f103_0_s;rw[iLt_f (by omega)];rfl) (n:=lf) (by omega)]at E
 unfold plc;cases e:fstI (λi=>inoA l i==n) l.length with
 |none=>rw[e]at E;exact E
 |some j=>rw[e]at E;exact E
theorem qii{lf d:Nat}(hlf:33554432<=lf)(l:List T)(nx n:Int)(hs:l.length<=16777216):Cc lf (d+1) 116 [.st [.sl l,.i .i64 nx],.i .i64 n]=some [.i .i64 (plcI (plc l n))]:=by
 have E:=f116_eq (Cc lf d) lf l nx n;unfold f116 f116_t at E;dsimp only at E;rw[qez (F:=λm j=>f116_0 (Cc lf d) lf l n m j) (p:=λi=>inoA l i==n) (X:=λj=>some [.i .i64 0,.i .i64 (j:Int),.i .i64 n]) (Y:=some [.i .i64 1,.i .i64 n]) (len:=l.length) (λm j hj=>by
  rw[f116_0];unfold f116_0_s inoA;rw[iLt_t (by omega),qa2 hj,qa3 hj (by omega)];simp only[qa0,Int.toNat_natCast]) (λm=>by
  rw[f116_0];unfold f116_0_s;rw[iLt_f (by omega)];rfl) (n:=lf) (by omega)]at E
 unfold plc;cases e:fstI (λi=>inoA l i==n) l.length with
 |none=>rw[e]at E;exact E
 |some j=>rw[e]at E;exact E
theorem qrz{lf d:Nat}{l:List T}(h:l.length<=1073741830):Cc lf (d+1) 124 [.sl l]=some [.sl l]:=by show(bif nLe (0+l.length) LIM then some [T.sl l]else none)=_;rw[nLe_t (by unfold LIM;omega)];rfl
theorem qyn{lf d:Nat}{l:List T}(h:l.length<=1073741830):Cc lf (d+1) 131 [.sl l]=some [.sl l]:=by show(bif nLe (0+l.length) LIM then some [T.sl l]else none)=_;rw[nLe_t (by unfold LIM;omega)];rfl
theorem qf5{lf d:Nat}(a b c:Int)(x y z:List T)(hx:x.length<=16777216)(hy:y.length<=16777216)(hz:z.length<=16777216):Cc lf (d+2) 110 [.st [.i .i64 a,.i .i64 b,.i .i64 c,.sl x,.sl y,.sl z]]=some [.st [.i .i64 a,.i .i64 b,.i .i64 c,.sl x,.sl y,.sl z]]:=by refine(f110_eq (Cc lf (d+1)) lf a b c x y z).trans ?_;unfold f110 f110_t;rw[c_clone (by omega),qrz (by omega),qyn (by omega)];rfl
theorem qf3{lf d:Nat}(a b c:Int)(x y z:List T)(hx:x.length<=16777216)(hy:y.length<=16777216)(hz:z.length<=16777216):Cc lf (d+1) 104 [.st [.i .i64 a,.i .i64 b,.i .i64 c,.sl x,.sl y,.sl z]]=some [.st [.i .i64 a,.i .i64 b,.i .i64 c,.sl x,.sl y,.sl z]]:=by refine(f104_eq (Cc lf d) lf a b c x y z).trans ?_;unfold f104 f104_t;rw[nLe_t (by unfold LIM;simp;omega),nLe_t (by unfold LIM;simp;omega),nLe_t (by unfold LIM;simp;omega)];rfl
theorem qcb{l:List T}(hs:l.length+tls l<=16777216)(j k:Nat):(asL (T.cell (l.getD j T.u) k)).length<=16777216:=by have:=qc2 (l:=l) (j:=j) k;omega
theorem qfz(o:Option Nat):iLt (plcI o) 0=o.isNone:=by
 cases o with
 |none=>rfl
 |some j=>exact iLt_f (by simp only[plcI];omega)
theorem qxf(o:Option Nat):iLe 0 (plcI o)=o.isSome:=by
 cases o with
 |none=>rfl
 |some j=>exact iLe_t (by simp only[plcI];omega)
theorem qlo{lf d:Nat}(hlf:33554432<=lf)(l:List T)(nx n:Int)(hs:l.length+tls l<=16777216):Cc lf (d+2) 75 [.st [.sl l,.i .i64 nx],.i .i64 n]=some (inoR l (plc l n)):=by
 have E:=f75_eq (Cc lf (d+1)) lf l nx n;unfold f75 f75_t at E;rw[c_sAt hlf l nx n (by omega)]at E;simp only[Option.bind_some,nth0,asI_i]at E;rw[qfz]at E;cases e:plc l n with
 |none=>rw[e]at E;exact E
 |some j=>rw[e]at E;obtain⟨hj,_⟩:=qnp e;simp only[Option.isNone_some,qa1,plcI,Int.toNat_natCast]at E;rw[qa2 hj,qf3 _ _ _ _ _ _ (qcb hs _ _) (qcb hs _ _) (qcb hs _ _)]at E;exact E
theorem qf4{lf d:Nat}(hlf:33554432<=lf)(l:List T)(nx n:Int)(hs:l.length+tls l<=16777216):Cc lf (d+3) 113 [.st [.sl l,.i .i64 nx],.i .i64 n]=some (inoR l (plc l n)):=by
 have E:=f113_eq (Cc lf (d+2)) lf l nx n;unfold f113 f113_t at E;rw[qii (d:=d+1) hlf l nx n (by omega)]at E;simp only[Option.bind_some,nth0,asI_i]at E;rw[qfz]at E;cases e:plc l n with
 |none=>rw[e]at E;exact E
 |some j=>rw[e]at E;obtain⟨hj,_⟩:=qnp e;simp only[Option.isNone_some,qa1,plcI,Int.toNat_natCast]at E;rw[qa2 hj,qf5 _ _ _ _ _ _ (qcb hs _ _) (qcb hs _ _) (qcb hs _ _)]at E;exact E
def qdp(l:List T)(i:Nat):Bool:=qg7 (inoA l i) (kndA l i) (lnkA l i) (datA l i) (entA l i) (atrA l i)
def tbE(l:List T)(nx:Int)(i:Nat):Bool:=qdp l i&&(!iLe nx (inoA l i)&&(!iLt 0 (i:Int)||!iLe (inoA l i) (inoA l (i-1))))
def tabB(l:List T)(nx:Int):Bool:=(iLe 1 (l.length:Int)&&iLe (l.length:Int) 30)&&((iLe 2 nx&&iLe nx 1000)&&(allB (tbE l nx) l.length&&(inoA l 0==1&&kndA l 0==2)))
theorem qi3{l:List T}{nx:Int}(h:allB (tbE l nx) l.length=true):∀(k i:Nat),i+k<l.length->0<k->inoA l i<inoA l (i+k)
|0,i,_,h0=>by omega
|k+1,i,hi,_=>by
 have e:=qa8.1 h (i+(k+1)) hi;unfold tbE at e;simp only[Bool.and_eq_true,Bool.or_eq_true,Bool.not_eq_true']at e;have g:inoA l (i+k)<inoA l (i+(k+1)):=by
  rcases e.2.2 with c|c
  · rw[iLt_t (by omega)]at c;cases c
  · have:=mt qe5.2 (by rw[c];simp);simpa using this
 by_cases c:k=0;· subst c;exact g
 · have:=qi3 h k i (by omega) (by omega);omega
theorem qzq{l:List T}{nx:Int}(h:allB (tbE l nx) l.length=true){i j:Nat}(hi:i<l.length)(hj:j<l.length)(e:inoA l i=inoA l j):i=j:=by
 rcases Nat.lt_trichotomy i j with c|c|c
 · have:=qi3 h (j-i) i (by omega) (by omega);rw[show i+(j-i)=j by omega]at this;omega
 · exact c
 · have:=qi3 h (i-j) j (by omega) (by omega);rw[show j+(i-j)=i by omega]at this;omega
theorem ino_ok1{l:List T}{i:Nat}(h:qdp l i=true):1<=inoA l i/\inoA l i<=1000:=by unfold qdp qg7 at h;simp only[Bool.and_eq_true,qe5]at h;exact h.1
theorem qz3{l:List T}{nx:Int}(h:allB (tbE l nx) l.length=true){i:Nat}(hi:i<l.length):qdp l i=true:=by have e:=qa8.1 h i hi;unfold tbE at e;rw[Bool.and_eq_true]at e;exact e.1
theorem qqc{C:Orc}{g:Nat}{F:Nat->Int->Option (List T)}{l:List T}{nx:Int}(hC:∀i,i<l.length->C g [inoT l i]=some [.b (qdp l i)])(hF:∀n(j:Nat),j<l.length->F (n+1) (j:Int)=((C g [inoT l j]).bind λr=>bif !(asB (nth r 0))then some [T.i .i64 0,T.b false]else bif iLe nx (inoA l j)then some [T.i .i64 0,T.b false]else bif iLt 0 (j:Int)then bif inR (IntKind.wrap .i64 ((j:Int)-1)) l.length then bif iLe (inoA l j) (inoA l (IntKind.wrap .i64 ((j:Int)-1)).toNat)then some [T.i .i64 0,T.b false]else F n (IntKind.wrap .i64 ((j:Int)+1))else none else F n (IntKind.wrap .i64 ((j:Int)+1))))(hE:∀n,F (n+1) (l.length:Int)=some [T.i .i64 1,T.sl l,T.i .i64 nx])(hs:l.length<=16777216){n:Nat}(hn:l.length<n):F n 0=bif allB (tbE l nx) l.length then some [T.i .i64 1,T.sl l,T.i .i64 nx]else some [T.i .i64 0,T.b false]:=
 qb4 (λn j hj=>by
  rw[hF n j hj,hC j hj,qa3 hj (by omega)];simp only[Option.bind_some,nth0,asB_b];unfold tbE;cases qdp l j with
  |false=>rfl
  |true=>
   cases iLe nx (inoA l j)with
   |true=>rfl
   |false=>
    by_cases c:0<j;· rw[iLt_t (by omega),qac (x:=(j:Int)-1) (by omega) (by omega),show((j:Int)-1)=((j-1:Nat):Int)by omega,qa2 (show j-1<l.length by omega),Int.toNat_natCast];cases iLe (inoA l j) (inoA l (j-1))<;>rfl
    · rw[iLt_f (by omega)];rfl) hE hn
theorem qtw(C:Orc){lf:Nat}(hlf:33554432<=lf)(l:List T)(nx:Int)(hs:l.length<=16777216)(hC:∀i,i<l.length->C 126 [inoT l i]=some [.b (qdp l i)]):f105_0 C lf l nx lf 0=bif allB (tbE l nx) l.length then some [T.i .i64 1,T.sl l,T.i .i64 nx]else some [T.i .i64 0,T.b false]:=
 qqc (F:=λn j=>f105_0 C lf l nx n j) hC (λn j hj=>by
  rw[f105_0];unfold f105_0_s;rw[iLt_t (by omega),qa2 hj];simp only[Int.toNat_natCast];rfl) (λn=>by
  rw[f105_0];unfold f105_0_s;rw[iLt_f (by omega)];rfl) hs (show l.length<lf by omega)
theorem qyb{lf d:Nat}(hlf:33554432<=lf)(l:List T)(nx:Int)(hs:l.length+tls l<=16777216):Cc lf (d+5) 105 [.st [.sl l,.i .i64 nx]]=some [.b (tabB l nx)]:=by
 have hC:∀i,i<l.length->Cc lf (d+4) 126 [inoT l i]=some [.b (qdp l i)]:=λi _=>qsz hlf _ _ _ _ _ _ (by have:=qc2 (l:=l) (j:=i) 4;unfold entA;omega) (by have:=qc2 (l:=l) (j:=i) 5;unfold atrA;omega);have E:=f105_eq (Cc lf (d+4)) lf l nx;unfold f105 f105_t at E;rw[qgq,qgq]at E;simp only[Option.bind_some,nth0,asB_b]at E;rw[qtw (Cc lf (d+4)) hlf l nx (by omega) hC]at E;refine E.trans ?_;unfold tabB;by_cases c:1<=l.length
 ·rw[iLe_t (show(1:Int)<=(l.length:Int)by omega)];generalize iLe (l.length:Int) 30=g;generalize(iLe 2 nx&&iLe nx 1000)=h;cases allB (tbE l nx) l.length with
  |false=>cases g<;>cases h<;>rfl
  |true=>simp only[qa0,Option.bind_some,nth0,nthS,asI_i,asL_l];have h0:=qa2 (show 0<l.length from c);rw[show((0:Nat):Int)=0 from rfl]at h0;rw[h0];unfold inoA kndA;cases(asI (T.cell (l.getD 0 T.u) 0)==1)<;>cases g<;>cases h<;>rfl
 · rw[iLe_f (show¬(1:Int)<=(l.length:Int)by omega)];rfl
theorem qv8(C:Orc){lf:Nat}(hlf:33554432<=lf)(l:List T)(nx:Int)(hs:l.length<=16777216)(hC:∀i,i<l.length->C 147 [inoT l i]=some [.b (qdp l i)]):f132_0 C lf l nx lf 0=bif allB (tbE l nx) l.length then some [T.i .i64 1,T.sl l,T.i .i64 nx]else some [T.i .i64 0,T.b false]:=
 qqc (F:=λn j=>f132_0 C lf l nx n j) hC (λn j hj=>by
  rw[f132_0];unfold f132_0_s;rw[iLt_t (by omega),qa2 hj];simp only[Int.toNat_natCast];rfl) (λn=>by
  rw[f132_0];unfold f132_0_s;rw[iLt_f (by omega)];rfl) hs (show l.length<lf by omega)
theorem qyi{lf d:Nat}(hlf:33554432<=lf)(l:List T)(nx:Int)(hs:l.length+tls l<=16777216):Cc lf (d+5) 132 [.st [.sl l,.i .i64 nx]]=some [.b (tabB l nx)]:=by
 have hC:∀i,i<l.length->Cc lf (d+4) 147 [inoT l i]=some [.b (qdp l i)]:=λi _=>qt5 hlf _ _ _ _ _ _ (by have:=qc2 (l:=l) (j:=i) 4;unfold entA;omega) (by have:=qc2 (l:=l) (j:=i) 5;unfold atrA;omega);have E:=f132_eq (Cc lf (d+4)) lf l nx;unfold f132 f132_t at E;rw[qk8]at E;simp only[Option.bind_some,nth0,asB_b]at E;rw[qv8 (Cc lf (d+4)) hlf l nx (by omega) hC]at E;refine E.trans ?_;unfold tabB;by_cases v:l.length<=30;case neg=>rw[iLt_t (show(30:Int)<(l.length:Int)by omega),iLe_f (show¬(l.length:Int)<=30 by omega),Bool.and_false];rfl
 rw[iLt_f (show¬(30:Int)<(l.length:Int)by omega),iLe_t (show(l.length:Int)<=30 by omega)];generalize(iLe 2 nx&&iLe nx 1000)=g;cases hA:allB (tbE l nx) l.length with
 |false=>cases g<;>cases iLe 1 (l.length:Int)<;>rfl
 |true=>
  simp only[qa0,qa1,Option.bind_some,nth0,nthS,asI_i,asL_l];rw[qf4 (d:=d+1) hlf l nx 1 hs];by_cases c:1<=l.length
  ·rw[iLe_t (show(1:Int)<=(l.length:Int)by omega)];cases e:plc l 1 with
   |none=>have:=qen.1 e 0 (by omega);rw[show(inoA l 0==1)=false from this];cases g<;>rfl
   |some j=>
    obtain⟨hj,k⟩:=qnp e;have h:j=0:=by
     by_cases m:j=0;· exact m
     · have q:=qi3 hA j 0 (by omega) (by omega);rw[Nat.zero_add]at q;have h2:=ino_ok1 (qz3 hA (show 0<l.length by omega));omega
    subst h;rw[k];simp only[inoR,Option.bind_some,nthS,nth0,asB_b,qa0];cases g<;>rfl
  ·rw[iLe_f (show¬(1:Int)<=(l.length:Int)by omega)];have:plc l 1=none:=qen.2 λj hj=>by omega
   rw[this];cases g<;>rfl
def entI(E:List T)(k:Nat):Int:=asI (T.cell (E.getD k T.u) 1)
def entN(E:List T)(k:Nat):ByteArray:=asS (T.cell (E.getD k T.u) 0)
def isN(l:List T)(x:Int):Prop:=∃j,plc l x=some j
def ed(l:List T)(x y:Int):Prop:=∃j,plc l x=some j/\kndA l j=2/\∃k,k<(entA l j).length/\entI (entA l j) k=y
inductive Rch(l:List T):Int->Prop
|root (h:isN l 1):Rch l 1
|step (x y:Int) (h:Rch l x) (e:ed l x y) (hy:isN l y):Rch l y
theorem Rch.node{l:List T}{x:Int}(h:Rch l x):isN l x:=by
 cases h with
 |root h=>exact h
 |step x y h e hy=>exact hy
theorem qg2:∀(A:List Int){B:List Int},A.Nodup->(∀x∈A,x∈B)->A.length<=B.length
|[],_,_,_=>Nat.zero_le _
|a::A,B,hn,h=>by
 have hn':=List.nodup_cons.1 hn;have:=qg2 A (B:=B.erase a) hn'.2 λx hx=>by have hxa:x≠a:=λe=>hn'.1 (e▸hx);exact(List.mem_erase_of_ne hxa).2 (h x (by simp[hx]))
 have e:=List.length_erase_of_mem (h a (by simp));have:0<B.length:=List.length_pos_of_mem (h a (by simp));simp only[List.length_cons];omega
def inos(l:List T):List Int:=(List.range l.length).map (inoA l)
theorem qr7{l:List T}{x:Int}(h:isN l x):x∈inos l:=by obtain⟨j,h⟩:=h;obtain⟨c,h2⟩:=qnp h;exact List.mem_map.2 ⟨j,List.mem_range.2 c,h2⟩
theorem qc8{l:List T}{O:List Int}(hn:O.Nodup)(h:∀x∈O,isN l x):O.length<=l.length:=by have:=qg2 O hn (B:=inos l) λx hx=>qr7 (h x hx);simpa[inos]using this
theorem c_sHas{lf d:Nat}(hlf:33554432<=lf)(ns:List Int)(n:Int)(hs:ns.length<=16777216):Cc lf (d+1) 154 [.sl (IL ns),.i .i64 n]=some [.b (decide (n∈ns))]:=by
 have E:=f154_eq (Cc lf d) lf (IL ns) n;unfold f154 f154_t at E;dsimp only at E;refine E.trans ?_;rcases qdq (F:=λm j=>f154_0 (Cc lf d) lf (IL ns) n m j) (P:=λj=>!(ns.getD j 0==n)) (X:=λj=>some [T.i .i64 0,T.b true]) (Y:=some [T.i .i64 1]) (len:=ns.length) (λm j hj=>by
  rw[f154_0];unfold f154_0_s;rw[iLt_t (by rw[qbu];omega),qa2 (by rw[qbu];exact hj),Int.toNat_natCast,IL_at hj,qa3 hj (by omega)];simp only[asI_i,qa0];cases ns.getD j 0==n<;>rfl) (λm=>by
  rw[f154_0];unfold f154_0_s;rw[iLt_f (by rw[qbu];omega)];rfl) (n:=lf) (by omega)with⟨h,e⟩|⟨_,j,hj,h,e⟩
 ·rw[e];have:¬n∈ns:=λhm=>by obtain⟨j,hj,e⟩:=List.getElem_of_mem hm;have:=qa8.1 h j hj;rw[List.getD_eq_getElem?_getD,List.getElem?_eq_getElem hj]at this;simp[e]at this
  rw[decide_eq_false this];rfl
 ·rw[e];have:n∈ns:=by
   rw[List.getD_eq_getElem?_getD,List.getElem?_eq_getElem hj]at h;have:ns[j]=n:=by simpa using h
   rw[<-this];exact List.getElem_mem hj
  rw[decide_eq_true this];rfl
theorem qu4{S:List Int}{k:Nat}(hk:k<=S.length)(j x:Int):(S.take k++j::S.drop k).set k x=S.take k++x::S.drop k:=by rw[List.set_append_right _ _ (by rw[List.length_take];omega)];rw[List.length_take,Nat.min_eq_left hk,Nat.sub_self];rfl
theorem qfw{S:List Int}{k:Nat}(hk:k<S.length):S.take (k+1)++S.getD k 0::S.drop (k+1)=S.take k++S.getD k 0::S.drop k:=by rw[List.getD_eq_getElem?_getD,List.getElem?_eq_getElem hk];simp only[Option.getD_some];have e:=List.drop_eq_getElem_cons hk;rw[List.take_succ_eq_append_getElem hk,e,List.append_assoc];rfl
theorem put_at{S:List Int}{k:Nat}(hk:k<S.length)(j:Int):(S.take (k+1)++j::S.drop (k+1)).getD k 0=S.getD k 0:=by rw[List.getD_eq_getElem?_getD,List.getElem?_append_left (by rw[List.length_take];omega),List.getElem?_take,if_pos (by omega),<-List.getD_eq_getElem?_getD]
theorem qu5{S:List Int}{k:Nat}(hk:k<=S.length)(j:Int):(S.take k++j::S.drop k).length=S.length+1:=by simp;omega
theorem c_sPut{lf d:Nat}(hlf:33554432<=lf)(S:List Int)(n:Int)(hs:S.length<=1048576):∃S',Cc lf (d+2) 143 [.sl (IL S),.i .i64 n]=some [.sl (IL S')]/\(S.Nodup->S'.Nodup)/\∀x,x∈S'↔x∈S\/x=n:=by
 have E:=f143_eq (Cc lf (d+1)) lf (IL S) n;unfold f143 f143_t at E;rw[c_sHas hlf S n (by omega)]at E;simp only[Option.bind_some,nth0,asB_b]at E;by_cases hm:n∈S;· rw[decide_eq_true hm]at E;exact⟨S,E,id,λx=>⟨.inl,λh=>h.elim id λh=>h▸hm⟩⟩
 ·rw[decide_eq_false hm]at E;simp only[qa1,List.nil_append,List.length_nil,Nat.zero_add]at E;rw[qbu,nLe_t (show S.length<=LIM by unfold LIM;omega),qpa (by omega)]at E;simp only[qa0]at E;have L:∀(k m:Nat)(j:Int),k<=S.length->k<m->∃(k':Nat)(j':Int),k'<=S.length/\f143_0 (Cc lf (d+1)) lf n m (k:Int) (IL (S.take k++j::S.drop k))=some [T.i .i64 0,T.i .i64 n,T.i .i64 (k':Int),T.sl (IL (S.take k'++j'::S.drop k'))]:=by
   intro k;induction k with
   |zero=>intro m j hk hmm;obtain⟨m,rfl⟩:∃z,m=z+1:=⟨m-1,by omega⟩;rw[f143_0];unfold f143_0_s;rw[iLt_f (by omega)];exact⟨0,j,hk,rfl⟩
   |succ k ih=>
    intro m j hk hmm;obtain⟨m,rfl⟩:∃z,m=z+1:=⟨m-1,by omega⟩;have hl:=qu5 hk j;rw[f143_0];unfold f143_0_s;rw[iLt_t (by omega),qac (x:=((k+1:Nat):Int)-1) (by omega) (by omega),show((k+1:Nat):Int)-1=(k:Int)by omega,qa2 (show k<_ by rw[qbu,hl];omega),qa2 (show k+1<_ by rw[qbu,hl];omega)];simp only[Int.toNat_natCast];rw[IL_at (show k<_ by rw[hl];omega),put_at (by omega),qzm,asI_i,qu4 hk];simp only[qa0];cases iLt n (S.getD k 0)with
    |true=>rw[qa0,qfw (by omega)];exact ih m _ (by omega) (by omega)
    |false=>exact⟨k+1,j,hk,rfl⟩
  obtain⟨k',j',hk',e⟩:=L S.length lf n (Nat.le_refl _) (by omega);have c:IL S++[T.i .i64 n]=IL (S.take S.length++n::S.drop S.length):=by simp
  have g:IntKind.wrap .i64 ((((IL S++[T.i .i64 n]).length:Nat):Int)-1)=(S.length:Int):=by rw[List.length_append,qbu,List.length_singleton,qac (by omega) (by omega)];omega
  rw[g,c,e]at E;simp only[Option.bind_some,nth0,nthS,asI_i,asL_l,Int.toNat_natCast]at E;rw[qa2 (show k'<_ by rw[qbu,qu5 hk'];omega),qzm,qu4 hk',qa0]at E;refine⟨_,E,λhn=>?_,λx=>?_⟩
  ·have hn':(S.take k'++S.drop k').Nodup:=by rw[List.take_append_drop];exact hn
   have hp:(S.take k'++n::S.drop k').Perm (n::(S.take k'++S.drop k')):=List.perm_middle;refine hp.nodup_iff.2 (List.nodup_cons.2 ⟨?_,hn'⟩);rw[List.take_append_drop];exact hm
  · have hp:(S.take k'++n::S.drop k').Perm (n::(S.take k'++S.drop k')):=List.perm_middle;rw[hp.mem_iff,List.take_append_drop,List.mem_cons];exact or_comm
theorem qyc{lf d:Nat}(hlf:33554432<=lf)(l:List T)(nx:Int)(hs:l.length+tls l<=16777216)(hl:l.length<=30)(S:List Int)(hn:S.Nodup)(hS:∀x∈S,isN l x):∃S',Cc lf (d+3) 127 [.st [.sl l,.i .i64 nx],.sl (IL S)]=some [.sl (IL S')]/\S'.Nodup/\∀z,z∈S'↔z∈S\/(isN l z/\∃x∈S,ed l x z):=by
 have E:=f127_eq (Cc lf (d+2)) lf l nx (IL S);unfold f127 f127_t at E;dsimp only at E;have hSl:=qc8 hn hS;have hInn:∀(C:Orc),(∀x,C 103 [.st [.sl l,.i .i64 nx],.i .i64 x]=some [.i .i64 (plcI (plc l x))])->(∀(O:List Int)(x:Int),O.length<=1048576->∃O',C 143 [.sl (IL O),.i .i64 x]=some [.sl (IL O')]/\(O.Nodup->O'.Nodup)/\∀z,z∈O'↔z∈O\/z=x)->∀(j:Nat)(J:Int),kndA l j=2->(entA l j).length<=16777216->∀(k i m:Nat)(O:List Int),i+k=(entA l j).length->k<m->O.Nodup->(∀x∈O,isN l x)->∃O',f127_1 C lf [inoT l j,.b true] (IL S) J l nx m (IL O) (i:Int)=some [T.i .i64 0,T.sl (IL S),T.sl (IL O'),T.i .i64 J,T.sl l,T.i .i64 nx]/\O'.Nodup/\∀z,z∈O'↔z∈O\/(isN l z/\∃t,i<=t/\t<(entA l j).length/\entI (entA l j) t=z):=by
  intro C hA hP j J hk hle k;induction k with
  |zero=>intro i m O hi hm hO hON;obtain⟨m,rfl⟩:∃z,m=z+1:=⟨m-1,by omega⟩;rw[f127_1];unfold f127_1_s;rw[show asL (T.cell (nth [inoT l j,T.b true] 0) 4)=entA l j from rfl,iLt_f (by omega)];exact⟨O,rfl,hO,λz=>⟨.inl,λh=>h.elim id λ⟨_,t,v,h2,_⟩=>by omega⟩⟩
  |succ k ih=>
   intro i m O hi hm hO hON;obtain⟨m,rfl⟩:∃z,m=z+1:=⟨m-1,by omega⟩;rw[f127_1];unfold f127_1_s;rw[show asL (T.cell (nth [inoT l j,T.b true] 0) 4)=entA l j from rfl,show asB (nth [inoT l j,T.b true] 1)=true from rfl,show asI (T.cell (nth [inoT l j,T.b true] 0) 1)=kndA l j from rfl,hk,iLt_t (by omega),qa2 (show i<(entA l j).length by omega),hA,qa3 (show i<(entA l j).length by omega) (by omega)];simp only[Int.toNat_natCast,qa0,Option.bind_some,nth0,asI_i,beq_self_eq_true];rw[qxf,show asI (T.cell ((entA l j).getD i T.u) 1)=entI (entA l j) i from rfl];cases hp:plc l (entI (entA l j) i)with
   |none=>
    obtain⟨O',e,B,D⟩:=ih (i+1) m O (by omega) (by omega) hO hON;refine⟨O',e,B,λz=>?_⟩;rw[D];constructor
    ·rintro(h|⟨h0,t,v,h2,g⟩);· exact .inl h
     · exact .inr ⟨h0,t,by omega,h2,g⟩
    ·rintro(h|⟨h0,t,v,h2,g⟩);· exact .inl h
     ·by_cases c:t=i;· subst c;rw[g]at hp;obtain⟨q,hq⟩:=h0;rw[hq]at hp;cases hp
      · exact .inr ⟨h0,t,by omega,h2,g⟩
   |some q=>
    have hOl:=qc8 hO hON;obtain⟨O1,H,G,F⟩:=hP O (entI (entA l j) i) (by omega);rw[H];simp only[Option.isSome_some,qa0,Option.bind_some,nth0,asL_l];obtain⟨O',e,B,D⟩:=ih (i+1) m O1 (by omega) (by omega) (G hO) (λx hx=>by
     rcases(F x).1 hx with h|h
     · exact hON x h
     · rw[h];exact⟨q,hp⟩)
    refine⟨O',e,B,λz=>?_⟩;rw[D,F];constructor
    ·rintro((h|h)|⟨h0,t,v,h2,g⟩);· exact .inl h
     · exact .inr ⟨by rw[h];exact⟨q,hp⟩,i,Nat.le_refl _,by omega,h.symm⟩
     · exact .inr ⟨h0,t,by omega,h2,g⟩
    ·rintro(h|⟨h0,t,v,h2,g⟩);· exact .inl (.inl h)
     ·by_cases c:t=i;· subst c;exact .inl (.inr g.symm)
      · exact .inr ⟨h0,t,by omega,h2,g⟩
 have hOut:∀(C:Orc),(∀x,C 103 [.st [.sl l,.i .i64 nx],.i .i64 x]=some [.i .i64 (plcI (plc l x))])->(∀(O:List Int)(x:Int),O.length<=1048576->∃O',C 143 [.sl (IL O),.i .i64 x]=some [.sl (IL O')]/\(O.Nodup->O'.Nodup)/\∀z,z∈O'↔z∈O\/z=x)->(∀x,C 75 [.st [.sl l,.i .i64 nx],.i .i64 x]=some (inoR l (plc l x)))->∀(k i m:Nat)(O:List Int),i+k=S.length->k<m->O.Nodup->(∀x∈O,isN l x)->∃O',f127_0 C lf m (IL S) (IL O) (i:Int) l nx=some [T.i .i64 0,T.sl (IL O')]/\O'.Nodup/\∀z,z∈O'↔z∈O\/(isN l z/\∃t,i<=t/\t<S.length/\ed l (S.getD t 0) z):=by
  intro C hA hP hI k;induction k with
  |zero=>intro i m O hi hm hO hON;obtain⟨m,rfl⟩:∃z,m=z+1:=⟨m-1,by omega⟩;rw[f127_0];unfold f127_0_s;rw[iLt_f (by rw[qbu];omega)];exact⟨O,rfl,hO,λz=>⟨.inl,λh=>h.elim id λ⟨_,t,v,h2,_⟩=>by omega⟩⟩
  |succ k ih=>
   intro i m O hi hm hO hON;obtain⟨m,rfl⟩:∃z,m=z+1:=⟨m-1,by omega⟩;rw[f127_0];unfold f127_0_s;rw[iLt_t (by rw[qbu];omega),qa2 (show i<(IL S).length by rw[qbu];omega),Int.toNat_natCast,IL_at (show i<S.length by omega),asI_i,hI];simp only[qa0,Option.bind_some];obtain⟨O1,H,G,F⟩:∃O1,f127_1 C lf (inoR l (plc l (S.getD i 0))) (IL S) (i:Int) l nx lf (IL O) 0=some [T.i .i64 0,T.sl (IL S),T.sl (IL O1),T.i .i64 (i:Int),T.sl l,T.i .i64 nx]/\O1.Nodup/\∀z,z∈O1↔z∈O\/(isN l z/\ed l (S.getD i 0) z):=by
    obtain⟨A,I⟩:∃z,lf=z+1:=⟨lf-1,by omega⟩;cases hp:plc l (S.getD i 0)with
    |none=>
     refine⟨O,?_,hO,λz=>⟨.inl,λh=>h.elim id λ⟨_,j,v,_⟩=>by rw[hp]at v;cases v⟩⟩;have:∀A,f127_1 C lf (inoR l none) (IL S) (i:Int) l nx (A+1) (IL O) 0=some [T.i .i64 0,T.sl (IL S),T.sl (IL O),T.i .i64 (i:Int),T.sl l,T.i .i64 nx]:=λA=>by rw[f127_1];rfl
     have h:=this A;rw[<-I]at h;exact h
    |some j=>
     by_cases hk:kndA l j=2
     ·have hle:=qc2 (l:=l) (j:=j) 4;obtain⟨O1,H,G,F⟩:=hInn C hA hP j (i:Int) hk (by unfold entA;omega) (entA l j).length 0 lf O (by omega) (by unfold entA;omega) hO hON;refine⟨O1,H,G,λz=>?_⟩;rw[F];constructor
      ·rintro(h|⟨h0,t,_,h2,g⟩);· exact .inl h
       · exact .inr ⟨h0,j,hp,hk,t,h2,g⟩
      ·rintro(h|⟨h0,j',v,_,t,h2,g⟩);· exact .inl h
       · rw[hp]at v;cases v;exact .inr ⟨h0,t,Nat.zero_le _,h2,g⟩
     ·refine⟨O,?_,hO,λz=>⟨.inl,λh=>h.elim id λ⟨_,j',v,h2,_⟩=>by rw[hp]at v;cases v;exact absurd h2 hk⟩⟩;have:∀A,f127_1 C lf (inoR l (some j)) (IL S) (i:Int) l nx (A+1) (IL O) 0=some [T.i .i64 0,T.sl (IL S),T.sl (IL O),T.i .i64 (i:Int),T.sl l,T.i .i64 nx]:=λA=>by rw[f127_1];unfold f127_1_s;rw[show asI (T.cell (nth (inoR l (some j)) 0) 1)=kndA l j from rfl,show asB (nth (inoR l (some j)) 1)=true from rfl,show(kndA l j==2)=false by simpa using hk,qa1,qa0,qk1]
      have h:=this A;rw[<-I]at h;exact h
   rw[H];simp only[Option.bind_some,nth0,nthS,asI_i,asL_l];rw[qa3 (show i<S.length by omega) (by omega)];obtain⟨O',e,B,D⟩:=ih (i+1) m O1 (by omega) (by omega) G (λx hx=>by
    rcases(F x).1 hx with h|h
    · exact hON x h
    · exact h.1)
   refine⟨O',e,B,λz=>?_⟩;rw[D,F];constructor
   ·rintro((h|⟨h0,h⟩)|⟨h0,t,v,h2,g⟩);· exact .inl h
    · exact .inr ⟨h0,i,Nat.le_refl _,by omega,h⟩
    · exact .inr ⟨h0,t,by omega,h2,g⟩
   ·rintro(h|⟨h0,t,v,h2,g⟩);· exact .inl (.inl h)
    ·by_cases c:t=i;· subst c;exact .inl (.inr ⟨h0,g⟩)
     · exact .inr ⟨h0,t,by omega,h2,g⟩
 obtain⟨O',e,B,D⟩:=hOut (Cc lf (d+2)) (λx=>c_sAt (d:=d+1) hlf l nx x (by omega)) (λO x h=>c_sPut (d:=d) hlf O x h) (λx=>qlo (d:=d) hlf l nx x hs) S.length 0 lf S (by omega) (by omega) hn hS;rw[show((0:Nat):Int)=0 from rfl]at e;rw[e]at E;refine⟨O',E,B,λz=>?_⟩;rw[D];constructor
 ·rintro(h|⟨h0,t,_,h2,g⟩);· exact .inl h
  · refine .inr ⟨h0,S.getD t 0,?_,g⟩;rw[List.getD_eq_getElem?_getD,List.getElem?_eq_getElem h2];exact List.getElem_mem h2
 ·rintro(h|⟨h0,x,hx,g⟩);· exact .inl h
  · obtain⟨t,ht,e⟩:=List.getElem_of_mem hx;refine .inr ⟨h0,t,Nat.zero_le _,ht,?_⟩;rw[List.getD_eq_getElem?_getD,List.getElem?_eq_getElem ht];rw[<-e]at g;exact g
theorem Rch.one{l:List T}{x:Int}(h:Rch l x):isN l 1:=by
 induction h with
 |root h=>exact h
 |step x y h e hy ih=>exact ih
def qmx(l:List T)(S:List Int):Prop:=∀x∈S,∀z,ed l x z->isN l z->z∈S
theorem qha{l:List T}{S:List Int}(c:1∈S)(hc:qmx l S){x:Int}(h:Rch l x):x∈S:=by
 induction h with
 |root h=>exact c
 |step x y h e hy ih=>exact hc x ih y e hy
open Classical in
theorem qsy{lf d:Nat}(hlf:33554432<=lf)(l:List T)(nx:Int)(hs:l.length+tls l<=16777216)(hl:l.length<=30):∃S,Cc lf (d+4) 106 [.st [.sl l,.i .i64 nx]]=some [.sl (IL S)]/\S.Nodup/\∀x,x∈S↔Rch l x:=by
 have E:=f106_eq (Cc lf (d+3)) lf l nx;unfold f106 f106_t at E;rw[c_sAt (d:=d+2) hlf l nx 1 (by omega)]at E;simp only[Option.bind_some,nth0,asI_i]at E;rw[qfz]at E;cases hp:plc l 1 with
 |none=>rw[hp]at E;exact⟨[],E,List.nodup_nil,λx=>⟨λh=>(by cases h),λh=>by obtain⟨j,hj⟩:=h.one;rw[hp]at hj;cases hj⟩⟩
 |some v=>
  rw[hp]at E;simp only[Option.isNone_some,qa1,List.nil_append]at E;rw[nLe_t (by unfold LIM;simp),qa0]at E;have q:isN l 1:=⟨v,hp⟩;have L:∀(C:Orc),(∀S:List Int,S.Nodup->(∀x∈S,isN l x)->∃S',C 127 [.st [.sl l,.i .i64 nx],.sl (IL S)]=some [.sl (IL S')]/\S'.Nodup/\∀z,z∈S'↔z∈S\/(isN l z/\∃x∈S,ed l x z))->∀(k i m:Nat)(S:List Int),i+k=l.length->k<m->S.Nodup->(∀x∈S,Rch l x)->1∈S->(qmx l S\/i+1<=S.length)->∃S',f106_0 C lf l nx m (IL S) (i:Int)=some [T.i .i64 0,T.sl (IL S')]/\S'.Nodup/\∀x,x∈S'↔Rch l x:=by
   intro C hC k;induction k with
   |zero=>
    intro i m S hi hm hn hR h1S hc;obtain⟨m,rfl⟩:∃z,m=z+1:=⟨m-1,by omega⟩;rw[f106_0];unfold f106_0_s;rw[iLt_f (by omega)];have hcl:qmx l S:=by
     rcases hc with h|h
     · exact h
     · have:=qc8 hn λx hx=>(hR x hx).node;omega
    exact⟨S,rfl,hn,λx=>⟨hR x,qha h1S hcl⟩⟩
   |succ k ih=>
    intro i m S hi hm hn hR h1S hc;obtain⟨m,rfl⟩:∃z,m=z+1:=⟨m-1,by omega⟩;rw[f106_0];unfold f106_0_s;obtain⟨S',e,g,c⟩:=hC S hn λx hx=>(hR x hx).node;rw[iLt_t (by omega),e,qa3 (show i<l.length by omega) (by omega)];simp only[qa0,Option.bind_some,nth0,asL_l];refine ih (i+1) m S' (by omega) (by omega) g (λz hz=>?_) ((c 1).2 (.inl h1S)) ?_
    ·rcases(c z).1 hz with h|⟨h0,x,hx,he⟩
     · exact hR z h
     · exact .step x z (hR x hx) he h0
    ·by_cases hcl:qmx l S
     ·refine .inl λx hx z he h0=>(c z).2 (.inl ?_);have hxS:x∈S:=by
       rcases(c x).1 hx with h|⟨h0',y,hy,he'⟩
       · exact h
       · exact hcl y hy x he' h0'
      exact hcl x hxS z he h0
     ·have hlen:i+1<=S.length:=hc.resolve_left hcl;obtain⟨x,hx,z,he,h0,hz⟩:∃x,x∈S/\∃z,ed l x z/\isN l z/\¬z∈S:=by refine Classical.byContradiction λhno=>hcl λx hx z he h0=>Classical.byContradiction λhz=>hno ⟨x,hx,z,he,h0,hz⟩
      have:=qg2 (z::S) (B:=S') (List.nodup_cons.2 ⟨hz,hn⟩) λy hy=>by
       rcases List.mem_cons.1 hy with h|h
       · rw[h];exact(c z).2 (.inr ⟨h0,x,hx,he⟩)
       · exact(c y).2 (.inl h)
      simp only[List.length_cons]at this;exact .inr (by omega)
  obtain⟨S',e,g,c⟩:=L (Cc lf (d+3)) (λS hn hS=>qyc (d:=d) hlf l nx hs hl S hn hS) l.length 0 lf [1] (by omega) (by omega) (by simp) (λx hx=>by
   obtain rfl:x=1:=by simpa using hx
   exact .root q) (by simp) (.inr (by simp))
  rw[show((0:Nat):Int)=0 from rfl]at e;have e':f106_0 (Cc lf (d+3)) lf l nx lf [T.i .i64 1] 0=some [T.i .i64 0,T.sl (IL S')]:=e;rw[e']at E;exact⟨S',E,g,c⟩
def vw(Q:List Int)(o n:Nat):List Int:=(Q.drop o).take n
theorem vw_IL(Q:List Int)(o n:Nat):((IL Q).drop o).take n=IL (vw Q o n):=by unfold vw;rw[<-List.map_drop,<-List.map_take]
theorem qq6{Q:List Int}{o n:Nat}(h:o+n<=Q.length):(vw Q o n).length=n:=by unfold vw;rw[List.length_take,List.length_drop];omega
theorem qzo{Q:List Int}{o n:Nat}(h:o+(n+1)<=Q.length):vw Q o (n+1)=Q.getD o 0::vw Q (o+1) n:=by unfold vw;rw[List.drop_eq_getElem_cons (show o<Q.length by omega),List.take_succ_cons,List.getD_eq_getElem?_getD,List.getElem?_eq_getElem (show o<Q.length by omega)];rfl
theorem qz1(Q:List Int):vw Q 0 Q.length=Q:=by simp[vw]
def entIs(E:List T)(i:Nat):List Int:=(List.range (E.length-i)).map λt=>entI E (i+t)
theorem qsv{E:List T}{i:Nat}(h:i<E.length):entIs E i=entI E i::entIs E (i+1):=by unfold entIs;rw[show E.length-i=(E.length-(i+1))+1 by omega,List.range_succ_eq_map,List.map_cons,List.map_map];congr 1;exact List.map_congr_left λt _=>by show entI E (i+(t+1))=entI E (i+1+t);rw[show i+(t+1)=i+1+t by omega]
theorem qvm{E:List T}{i:Nat}(h:E.length<=i):entIs E i=[]:=by unfold entIs;rw[show E.length-i=0 by omega];rfl
theorem qoa{E:List T}{z:Int}:z∈entIs E 0↔∃k,k<E.length/\entI E k=z:=by unfold entIs;simp[List.mem_map]
theorem qvl(E:List T):(entIs E 0).length=E.length:=by simp[entIs]
theorem qyk(C:Orc){lf:Nat}(l:List T)(nx:Int)(j:Nat)(hE:(entA l j).length<=10)(q:Nat)(O:List T)(Q0:List T):∀(k i m o n:Nat)(Q:List Int),i+k=(entA l j).length->k<m->o+n<=Q.length->Q.length<=1048576+i->∃(o' n':Nat)(Q':List Int),f133_1 C lf [inoT l j,.b true] q l nx O Q0 m o n (i:Int) (IL Q)=some [T.i .i64 0,T.i .i64 (o':Int),T.i .i64 (n':Int),T.sl l,T.i .i64 nx,T.sl (O++[T.i .i64 (asI (Q0.getD (q+0) T.u))]),T.sl (IL Q')]/\o'+n'<=Q'.length/\vw Q' o' n'=vw Q o n++entIs (entA l j) i/\(Q'.length<=Q.length\/Q'.length<=n'):=by
 intro k;induction k with
 |zero=>intro i m o n Q hi hm hq hl;obtain⟨m,rfl⟩:∃z,m=z+1:=⟨m-1,by omega⟩;rw[f133_1];unfold f133_1_s;rw[show asL (T.cell (nth [inoT l j,T.b true] 0) 4)=entA l j from rfl,iLt_f (by omega)];exact⟨o,n,Q,rfl,hq,by rw[qvm (by omega),List.append_nil],.inl (Nat.le_refl _)⟩
 |succ k ih=>
  intro i m o n Q hi hm hq hl;obtain⟨m,rfl⟩:∃z,m=z+1:=⟨m-1,by omega⟩;rw[f133_1];unfold f133_1_s;have hv:=qq6 hq;rw[show asL (T.cell (nth [inoT l j,T.b true] 0) 4)=entA l j from rfl,iLt_t (by omega),qa2 (show i<(entA l j).length by omega),vw_IL,qpa (by rw[qbu,hv];omega),qa3 (show i<(entA l j).length by omega) (by omega)];simp only[Int.toNat_natCast,qa0];rw[show asI (T.cell ((entA l j).getD i T.u) 1)=entI (entA l j) i from rfl,show IL (vw Q o n)++[T.i .i64 (entI (entA l j) i)]=IL (vw Q o n++[entI (entA l j) i])by simp,qbu];obtain⟨o',n',Q',e,c,g,a3⟩:=ih (i+1) m 0 (vw Q o n++[entI (entA l j) i]).length (vw Q o n++[entI (entA l j) i]) (by omega) (by omega) (by omega) (by rw[List.length_append,hv];simp only[List.length_singleton];omega);refine⟨o',n',Q',e,c,?_,.inr ?_⟩;· rw[g,qz1,qsv (show i<(entA l j).length by omega),List.append_assoc];rfl
  ·have v:=qq6 c;rw[g,qz1,List.length_append]at v;rcases a3 with h|h
   · omega
   · exact h
structure Bfs(l:List T)(O V:List Int):Prop where
 nd:O.Nodup
 ro:∀x∈O,Rch l x
 rv:∀x∈V,isN l x->Rch l x
 cl:∀x∈O,∀z,ed l x z->isN l z->z∈O\/z∈V
 on:isN l 1->1∈O\/1∈V
theorem Bfs.skip{l:List T}{O V:List Int}{x:Int}(B:Bfs l O (x::V))(h:¬isN l x\/x∈O):Bfs l O V:=by
 have key:∀z,isN l z->z∈O\/z∈x::V->z∈O\/z∈V:=λz hz hh=>by
  rcases hh with hh|hh
  · exact .inl hh
  ·rcases List.mem_cons.1 hh with e|e
   ·subst e;rcases h with h|h
    · exact absurd hz h
    · exact .inl h
   · exact .inr e
 exact⟨B.nd,B.ro,λy hy hN=>B.rv y (by simp[hy]) hN,λy hy z he hN=>key z hN (B.cl y hy z he hN),λc=>key 1 c (B.on c)⟩
theorem Bfs.push{l:List T}{O V W:List Int}{x:Int}(B:Bfs l O (x::V))(hN:isN l x)(hx:¬x∈O)(hW:∀z,ed l x z->z∈W)(hW':∀z∈W,ed l x z):Bfs l (O++[x]) (V++W):=by
 have hR:Rch l x:=B.rv x (by simp) hN;have up:∀z,z∈O\/z∈x::V->z∈O++[x]\/z∈V++W:=λz hh=>by
  rcases hh with hh|hh
  · exact .inl (by simp[hh])
  ·rcases List.mem_cons.1 hh with e|e
   · exact .inl (by simp[e])
   · exact .inr (by simp[e])
 refine⟨?_,λy hy=>?_,λy hy hy'=>?_,λy hy z he hz=>?_,λc=>up 1 (B.on c)⟩;· have hp:(O++[x]).Perm (x::O):=List.perm_append_comm;exact hp.nodup_iff.2 (List.nodup_cons.2 ⟨hx,B.nd⟩)
 ·rcases List.mem_append.1 hy with h|h
  · exact B.ro y h
  ·obtain rfl:y=x:=by simpa using h
   exact hR
 ·rcases List.mem_append.1 hy with h|h
  · exact B.rv y (by simp[h]) hy'
  · exact .step x y hR (hW' y h) hy'
 ·rcases List.mem_append.1 hy with h|h
  · exact up z (B.cl y h z he hz)
  ·obtain rfl:y=x:=by simpa using h
   exact .inr (by simp[hW z he])
theorem qt4{lf d:Nat}(hlf:33554432<=lf)(l:List T)(nx:Int)(hs:l.length+tls l<=16777216)(hl:l.length<=30)(hE:∀j,(entA l j).length<=10):∃S,Cc lf (d+4) 133 [.st [.sl l,.i .i64 nx]]=some [.sl (IL S)]/\S.Nodup/\∀x,x∈S↔Rch l x:=by
 have E:=f133_eq (Cc lf (d+3)) lf l nx;unfold f133 f133_t at E;dsimp only at E;have L:∀(C:Orc),(∀x,C 113 [.st [.sl l,.i .i64 nx],.i .i64 x]=some (inoR l (plc l x)))->(∀(O:List Int)(x:Int),O.length<=16777216->C 148 [.sl (IL O),.i .i64 x]=some [.b (decide (x∈O))])->∀(M m o n:Nat)(O Q:List Int),n+11*(30-O.length)<=M->M<m->o+n<=Q.length->n<=1+10*O.length->Q.length<=100000->Bfs l O (vw Q o n)->∃S,f133_0 C lf m o n l nx (IL O) (IL Q)=some [T.i .i64 0,T.sl (IL S)]/\S.Nodup/\∀x,x∈S↔Rch l x:=by
  intro C hI hCo M;induction M with
  |zero=>
   intro m o n O Q hM hm hq hn hQl B;obtain⟨m,rfl⟩:∃z,m=z+1:=⟨m-1,by omega⟩;obtain rfl:n=0:=by omega
   rw[f133_0];unfold f133_0_s;rw[iLt_f (by omega)];have hv:vw Q o 0=[]:=by simp[vw]
   rw[hv]at B;exact⟨O,rfl,B.nd,λx=>⟨B.ro x,λh=>qha ((B.on h.one).resolve_right (by simp)) (λy hy z he hz=>(B.cl y hy z he hz).resolve_right (by simp)) h⟩⟩
  |succ M ih=>
   intro m o n O Q hM hm hq hn hQl B;obtain⟨m,rfl⟩:∃z,m=z+1:=⟨m-1,by omega⟩;rw[f133_0];unfold f133_0_s;have hOl:=qc8 B.nd λx hx=>(B.ro x hx).node;cases n with
   |zero=>
    rw[iLt_f (by omega)];have hv:vw Q o 0=[]:=by simp[vw]
    rw[hv]at B;exact⟨O,rfl,B.nd,λx=>⟨B.ro x,λh=>qha ((B.on h.one).resolve_right (by simp)) (λy hy z he hz=>(B.cl y hy z he hz).resolve_right (by simp)) h⟩⟩
   |succ n=>
    rw[qzo hq]at B;have h0:=qa2 (show 0<n+1 by omega);rw[show((0:Nat):Int)=0 from rfl]at h0;rw[iLt_t (by omega),h0,iLe_t (show(0:Int)<=1 by omega),iLe_t (show(1:Int)<=((n+1:Nat):Int)by omega),iLe_t (show((n+1:Nat):Int)<=((n+1:Nat):Int)by omega)];simp only[Int.toNat_natCast,Nat.add_zero,Nat.add_sub_cancel,qa0,Bool.and_true];rw[IL_at (show o<Q.length by omega),asI_i,hI];simp only[Option.bind_some];cases hp:plc l (Q.getD o 0)with
    |none=>
     have hNo:¬isN l (Q.getD o 0):=λ⟨j,hj⟩=>by rw[hp]at hj;cases hj
     exact ih m (o+1) n O Q (by omega) (by omega) (by omega) (by omega) hQl (B.skip (.inl hNo))
    |some j=>
     have hN:isN l (Q.getD o 0):=⟨j,hp⟩;rw[hCo O _ (by omega)];simp only[inoR,nthS,nth0,asB_b,Bool.not_true,qa1,Option.bind_some];by_cases hm':Q.getD o 0∈O;· rw[decide_eq_true hm',qa0];exact ih m (o+1) n O Q (by omega) (by omega) (by omega) (by omega) hQl (B.skip (.inr hm'))
     ·rw[decide_eq_false hm',qa1,qpa (by rw[qbu];omega),qa0,show asI (T.cell (inoT l j) 1)=kndA l j from rfl];have eO:IL O++[T.i .i64 (Q.getD o 0)]=IL (O++[Q.getD o 0]):=by simp
      by_cases hk:kndA l j=2
      ·rw[hk];simp only[beq_self_eq_true,qa0];have B':=B.push hN hm' (W:=entIs (entA l j) 0) (λz hz=>by obtain⟨j',c,_,A⟩:=hz;rw[hp]at c;cases c;exact qoa.2 A) (λz hz=>⟨j,hp,hk,qoa.1 hz⟩);have hO':=qc8 B'.nd λx hx=>(B'.ro x hx).node;rw[List.length_append,List.length_singleton]at hO';obtain⟨o',n',Q',e,g,k,a3⟩:=qyk C (lf:=lf) l nx j (hE j) o (IL O) (IL Q) (entA l j).length 0 lf (o+1) n Q (by omega) (by have:=hE j;omega) (by omega) (by omega);simp only[Nat.add_zero]at e;rw[show((0:Nat):Int)=0 from rfl,IL_at (show o<Q.length by omega),asI_i,eO]at e;rw[e];simp only[Option.bind_some,nth0,nthS,asI_i,asL_l,Int.toNat_natCast];rw[<-k]at B';have hn':n'=n+(entA l j).length:=by have c:=qq6 g;rw[k,List.length_append,qq6 (show o+1+n<=Q.length by omega),qvl]at c;omega
       have v:=hE j;exact ih m o' n' (O++[Q.getD o 0]) Q' (by rw[List.length_append,List.length_singleton];omega) (by omega) g (by rw[List.length_append,List.length_singleton];omega) (by omega) B'
      · rw[show(kndA l j==2)=false by simpa using hk,qa1,eO];have B':=B.push hN hm' (W:=[]) (λz hz=>by obtain⟨j',c,h2,_⟩:=hz;rw[hp]at c;cases c;exact absurd h2 hk) (λz hz=>by cases hz);have hO':=qc8 B'.nd λx hx=>(B'.ro x hx).node;rw[List.length_append,List.length_singleton]at hO';rw[List.append_nil]at B';exact ih m (o+1) n (O++[Q.getD o 0]) Q (by rw[List.length_append,List.length_singleton];omega) (by omega) (by omega) (by rw[List.length_append,List.length_singleton];omega) hQl B'
 obtain⟨S,e,g,k⟩:=L (Cc lf (d+3)) (λx=>qf4 (d:=d) hlf l nx x hs) (λO x h=>qta (d:=d+1) hlf O x h) 331 lf 0 1 [] [1] (by simp) (by omega) (by simp) (by simp) (by simp) ⟨List.nodup_nil,λx hx=>(by cases hx),λx hx hN=>(by
  obtain rfl:x=1:=by simpa[vw]using hx
  exact .root hN),λx hx=>(by cases hx),λ_=>.inr (by simp[vw])⟩
 have e':f133_0 (Cc lf (d+3)) lf lf 0 ([T.i .i64 1]:List T).length l nx [] [T.i .i64 1]=some [T.i .i64 0,T.sl (IL S)]:=e;rw[e']at E;simp only[Option.bind_some,nth0,nthS,asL_l]at E;have hS:=qc8 g λx hx=>((k x).1 hx).node;have q:Cc lf (d+3) 149 [.sl (IL S)]=some [.sl (IL (S.mergeSort λx y=>decide (x<=y)))]:=by show(bif nLe (IL S).length LIM then some [T.sl (sortI (IL S))]else none)=_;rw[nLe_t (by rw[qbu];unfold LIM;omega),qa0];unfold sortI;rw[IL_asI]
 rw[q]at E;have hp:=List.mergeSort_perm S λx y=>decide (x<=y);exact⟨_,E,hp.nodup_iff.2 g,λx=>hp.mem_iff.trans (k x)⟩
def sumTo(f:Nat->Nat):Nat->Nat
|0=>0
|k+1=>sumTo f k+f k
theorem sumTo_le{f:Nat->Nat}{c:Nat}(h:∀j,f j<=c):∀n,sumTo f n<=c*n
|0=>Nat.zero_le _
|n+1=>by have:=sumTo_le h n;have:=h n;simp only[sumTo,Nat.mul_succ];omega
def lnkJ(l:List T)(n:Int)(j:Nat):Nat:=if kndA l j=2 then cntB (λk=>entI (entA l j) k==n) (entA l j).length else 0
def lnk(l:List T)(n:Int):Nat:=sumTo (lnkJ l n) l.length
theorem quu{l:List T}{n:Int}(hE:∀j,(entA l j).length<=10)(j:Nat):lnkJ l n j<=10:=by
 unfold lnkJ;split;· exact Nat.le_trans (qmw _ _) (hE j)
 · omega
theorem sInner(C:Orc){lf:Nat}(l:List T)(nx n:Int)(j:Nat)(hj:j<l.length)(hk:kndA l j=2)(hE:(entA l j).length<=10)(c:Nat)(hc:c<=1000):∀(k i m:Nat),i+k=(entA l j).length->k<m->f107_1 C lf n (j:Int) l nx m ((c+cntB (λk=>entI (entA l j) k==n) i:Nat):Int) (i:Int)=some [T.i .i64 0,T.i .i64 n,T.i .i64 ((c+cntB (λk=>entI (entA l j) k==n) (entA l j).length:Nat):Int),T.i .i64 (j:Int),T.sl l,T.i .i64 nx]:=by
 intro k;induction k with
 |zero=>intro i m hi hm;obtain⟨m,rfl⟩:∃z,m=z+1:=⟨m-1,by omega⟩;rw[f107_1];unfold f107_1_s;simp only[Int.toNat_natCast];rw[qa2 hj,show asL (T.cell (l.getD j T.u) 4)=entA l j from rfl,iLt_f (by omega),show i=(entA l j).length by omega];rfl
 |succ k ih=>
  intro i m hi hm;obtain⟨m,rfl⟩:∃z,m=z+1:=⟨m-1,by omega⟩;rw[f107_1];unfold f107_1_s;simp only[Int.toNat_natCast];have hcn:=qmw (λk=>entI (entA l j) k==n) i;rw[qa2 hj,show asL (T.cell (l.getD j T.u) 4)=entA l j from rfl,iLt_t (by omega),show asI (T.cell (l.getD j T.u) 1)=kndA l j from rfl,hk,qa2 (show i<(entA l j).length by omega),show asI (T.cell ((entA l j).getD i T.u) 1)=entI (entA l j) i from rfl,qa3 (show i<(entA l j).length by omega) (by omega)];simp only[qa0,beq_self_eq_true];have I:=ih (i+1) m (by omega) (by omega);have e:cntB (λk=>entI (entA l j) k==n) (i+1)=bif entI (entA l j) i==n then cntB (λk=>entI (entA l j) k==n) i+1 else cntB (λk=>entI (entA l j) k==n) i:=rfl
  rw[e]at I;cases hq:entI (entA l j) i==n with
  |true=>rw[hq,qa0]at I;rw[qa0,qac (x:=((c+cntB (λk=>entI (entA l j) k==n) i:Nat):Int)+1) (by omega) (by omega),show(((c+cntB (λk=>entI (entA l j) k==n) i:Nat):Int)+1)=((c+(cntB (λk=>entI (entA l j) k==n) i+1):Nat):Int)by omega];exact I
  |false=>rw[hq,qa1]at I;rw[qa1];exact I
theorem iInner(C:Orc){lf:Nat}(l:List T)(ln n:Int)(j:Nat)(hE:(entA l j).length<=10)(c:Nat)(hc:c<=1000):∀(k i m:Nat),i+k=(entA l j).length->k<m->f134_1 C lf (j:Int) n l ln m ((c+cntB (λk=>entI (entA l j) k==n) i:Nat):Int) (i:Int)=some [T.i .i64 0,T.i .i64 n,T.i .i64 ((c+cntB (λk=>entI (entA l j) k==n) (entA l j).length:Nat):Int),T.sl l,T.i .i64 ln,T.i .i64 (j:Int)]:=by
 intro k;induction k with
 |zero=>intro i m hi hm;obtain⟨m,rfl⟩:∃z,m=z+1:=⟨m-1,by omega⟩;rw[f134_1];unfold f134_1_s;simp only[Int.toNat_natCast];rw[show asL (T.cell (l.getD j T.u) 4)=entA l j from rfl,iLt_f (by omega),show i=(entA l j).length by omega];rfl
 |succ k ih=>
  intro i m hi hm;obtain⟨m,rfl⟩:∃z,m=z+1:=⟨m-1,by omega⟩;rw[f134_1];unfold f134_1_s;simp only[Int.toNat_natCast];have hcn:=qmw (λk=>entI (entA l j) k==n) i;rw[show asL (T.cell (l.getD j T.u) 4)=entA l j from rfl,iLt_t (by omega),qa2 (show i<(entA l j).length by omega),show asI (T.cell ((entA l j).getD i T.u) 1)=entI (entA l j) i from rfl,qa3 (show i<(entA l j).length by omega) (by omega)];simp only[qa0];have I:=ih (i+1) m (by omega) (by omega);have e:cntB (λk=>entI (entA l j) k==n) (i+1)=bif entI (entA l j) i==n then cntB (λk=>entI (entA l j) k==n) i+1 else cntB (λk=>entI (entA l j) k==n) i:=rfl
  rw[e]at I;cases hq:entI (entA l j) i==n with
  |true=>rw[hq,qa0]at I;rw[qa0,qac (x:=((c+cntB (λk=>entI (entA l j) k==n) i:Nat):Int)+1) (by omega) (by omega),show(((c+cntB (λk=>entI (entA l j) k==n) i:Nat):Int)+1)=((c+(cntB (λk=>entI (entA l j) k==n) i+1):Nat):Int)by omega];exact I
  |false=>rw[hq,qa1]at I;rw[qa1];exact I
theorem qyd{lf d:Nat}(hlf:33554432<=lf)(l:List T)(nx n:Int)(hl:l.length<=30)(hE:∀j,(entA l j).length<=10):Cc lf (d+1) 107 [.st [.sl l,.i .i64 nx],.i .i64 n]=some [.i .i64 ((lnk l n:Nat):Int)]:=by
 have E:=f107_eq (Cc lf d) lf l nx n;unfold f107 f107_t at E;dsimp only at E;have L:∀(C:Orc)(k i m:Nat),i+k=l.length->k<m->f107_0 C lf m n ((sumTo (lnkJ l n) i:Nat):Int) (i:Int) l nx=some [T.i .i64 0,T.i .i64 ((lnk l n:Nat):Int)]:=by
  intro C k;induction k with
  |zero=>intro i m hi hm;obtain⟨m,rfl⟩:∃z,m=z+1:=⟨m-1,by omega⟩;rw[f107_0];unfold f107_0_s;rw[iLt_f (by omega),show i=l.length by omega];rfl
  |succ k ih=>
   intro i m hi hm;obtain⟨m,rfl⟩:∃z,m=z+1:=⟨m-1,by omega⟩;rw[f107_0];unfold f107_0_s;have hsum:=sumTo_le (quu (n:=n) hE) i;have q:f107_1 C lf n (i:Int) l nx lf ((sumTo (lnkJ l n) i:Nat):Int) 0=some [T.i .i64 0,T.i .i64 n,T.i .i64 ((sumTo (lnkJ l n) (i+1):Nat):Int),T.i .i64 (i:Int),T.sl l,T.i .i64 nx]:=by
    simp only[sumTo];unfold lnkJ;by_cases hk:kndA l i=2;· rw[if_pos hk];exact sInner C (lf:=lf) l nx n i (by omega) hk (hE i) _ (by unfold lnkJ at hsum;omega) (entA l i).length 0 lf (by omega) (by have:=hE i;omega)
    ·rw[if_neg hk];obtain⟨c,g⟩:∃z,lf=z+1:=⟨lf-1,by omega⟩;have:∀(x:Int) c,f107_1 C lf n (i:Int) l nx (c+1) x 0=some [T.i .i64 0,T.i .i64 n,T.i .i64 x,T.i .i64 (i:Int),T.sl l,T.i .i64 nx]:=λx c=>by rw[f107_1];unfold f107_1_s;simp only[Int.toNat_natCast];rw[qa2 (show i<l.length by omega),show asI (T.cell (l.getD i T.u) 1)=kndA l i from rfl,show(kndA l i==2)=false by simpa using hk,qa1,qa0,qa0,qk1]
     have h:=this ((sumTo (λj=>if kndA l j=2 then cntB (λk=>entI (entA l j) k==n) (entA l j).length else 0) i:Nat):Int) c;rw[<-g]at h;exact h
   rw[iLt_t (by omega)];dsimp only;rw[q];simp only[qa0,Option.bind_some,nth0,nthS,asI_i,asL_l];rw[qa3 (show i<l.length by omega) (by omega)];exact ih (i+1) m (by omega) (by omega)
 have h:=L (Cc lf d) l.length 0 lf (by omega) (by omega);rw[show((sumTo (lnkJ l n) 0:Nat):Int)=0 from rfl,show((0:Nat):Int)=0 from rfl]at h;rw[h]at E;exact E
theorem qyl{lf d:Nat}(hlf:33554432<=lf)(l:List T)(nx n:Int)(hl:l.length<=30)(hE:∀j,(entA l j).length<=10):Cc lf (d+1) 134 [.st [.sl l,.i .i64 nx],.i .i64 n]=some [.i .i64 ((lnk l n:Nat):Int)]:=by
 have E:=f134_eq (Cc lf d) lf l nx n;unfold f134 f134_t at E;dsimp only at E;have L:∀(C:Orc)(k i m:Nat),i+k=l.length->k<m->f134_0 C lf m n ((sumTo (lnkJ l n) i:Nat):Int) l (l.length:Int) (i:Int)=some [T.i .i64 0,T.i .i64 ((lnk l n:Nat):Int)]:=by
  intro C k;induction k with
  |zero=>intro i m hi hm;obtain⟨m,rfl⟩:∃z,m=z+1:=⟨m-1,by omega⟩;rw[f134_0];unfold f134_0_s;rw[iLt_f (by omega),show i=l.length by omega];rfl
  |succ k ih=>
   intro i m hi hm;obtain⟨m,rfl⟩:∃z,m=z+1:=⟨m-1,by omega⟩;rw[f134_0];unfold f134_0_s;have hsum:=sumTo_le (quu (n:=n) hE) i;have I:=ih (i+1) m (by omega) (by omega);simp only[Int.toNat_natCast];rw[iLt_t (by omega),qa2 (show i<l.length by omega),show asI (T.cell (l.getD i T.u) 1)=kndA l i from rfl,qa3 (show i<l.length by omega) (by omega)];simp only[qa0];by_cases hk:kndA l i=2;· rw[show(kndA l i !=2)=false by simpa using hk,qa1];have c:=iInner C (lf:=lf) l (l.length:Int) n i (hE i) (sumTo (lnkJ l n) i) (by omega) (entA l i).length 0 lf (by omega) (by have:=hE i;omega);rw[show((0:Nat):Int)=0 from rfl,show cntB (λk=>entI (entA l i) k==n) 0=0 from rfl,Nat.add_zero]at c;rw[c];simp only[Option.bind_some,nth0,nthS,asI_i,asL_l];rw[qa3 (show i<l.length by omega) (by omega)];simp only[sumTo]at I;rw[show lnkJ l n i=cntB (λk=>entI (entA l i) k==n) (entA l i).length by unfold lnkJ;rw[if_pos hk]]at I;exact I
   · rw[show(kndA l i !=2)=true by simpa using hk,qa0];simp only[sumTo]at I;rw[show lnkJ l n i=0 by unfold lnkJ;rw[if_neg hk],Nat.add_zero]at I;exact I
 have h:=L (Cc lf d) l.length 0 lf (by omega) (by omega);rw[show((sumTo (lnkJ l n) 0:Nat):Int)=0 from rfl,show((0:Nat):Int)=0 from rfl]at h;rw[h]at E;exact E
open Classical in
noncomputable def allR(l:List T):Bool:=decide (∀j,j<l.length->Rch l (inoA l j))
open Classical in
theorem qs3{l:List T}{nx:Int}(h:allB (tbE l nx) l.length=true){S:List Int}(hn:S.Nodup)(hS:∀x,x∈S↔Rch l x):(((S.length:Nat):Int) !=((l.length:Nat):Int))= !allR l:=by
 have hle:=qc8 hn λx hx=>((hS x).1 hx).node;have hin:(inos l).Nodup:=by unfold inos List.Nodup;rw[List.pairwise_map];refine List.pairwise_iff_getElem.2 λi j g h2 k e=>?_;simp only[List.length_range]at g h2;simp only[List.getElem_range]at e;have:=qzq h g h2 e;omega
 by_cases c:∀j,j<l.length->Rch l (inoA l j)
 ·have:(inos l).length<=S.length:=qg2 (inos l) hin λx hx=>by obtain⟨j,hj,rfl⟩:=List.mem_map.1 hx;exact(hS _).2 (c j (List.mem_range.1 hj))
  have e:S.length=l.length:=by
   have:(inos l).length=l.length:=by simp[inos]
   omega
  have hA:allR l=true:=decide_eq_true c;rw[e,hA];simp
 ·have hA:allR l=false:=decide_eq_false c;have:S.length≠l.length:=λe=>c λj hj=>Classical.byContradiction λhno=>by
   have:=qg2 (inoA l j::S) (B:=inos l) (List.nodup_cons.2 ⟨λhm=>hno ((hS _).1 hm),hn⟩) λy hy=>by
    rcases List.mem_cons.1 hy with g|g
    · rw[g];exact List.mem_map.2 ⟨j,List.mem_range.2 hj,rfl⟩
    · exact qr7 ((hS y).1 g).node
   simp[inos]at this;omega
  rw[hA];simp;omega
def treeE(l:List T)(j:Nat):Bool:=lnkA l j==((lnk l (inoA l j):Nat):Int)&&allB (λk=>(plc l (entI (entA l j) k)).isSome) (entA l j).length
noncomputable def treeB(l:List T)(nx:Int):Bool:=tabB l nx&&(allR l&&allB (treeE l) l.length)
theorem qqd{l:List T}{nx:Int}(h:tabB l nx=true):l.length<=30/\allB (tbE l nx) l.length=true/\∀j,(entA l j).length<=10:=by
 unfold tabB at h;simp only[Bool.and_eq_true,qe5]at h;refine⟨by omega,h.2.2.1,λj=>?_⟩;by_cases hj:j<l.length;· have:=qz3 h.2.2.1 hj;unfold qdp qg7 entsB at this;simp only[Bool.and_eq_true,qe5]at this;omega
 · unfold entA;rw[List.getD_eq_getElem?_getD,List.getElem?_eq_none (by omega)];exact Nat.zero_le _
theorem qqq(C:Orc)(g lf:Nat){F:Nat->Int->Option (List T)}{l:List T}{nx:Int}{j:Nat}{Y:Option (List T)}(hle:(entA l j).length<=10)(hC:∀x,C g [.st [.sl l,.i .i64 nx],.i .i64 x]=some [.i .i64 (plcI (plc l x))])(hF:∀n(k:Nat),k<(entA l j).length->F (n+1) (k:Int)=(C g [.st [.sl l,.i .i64 nx],.i .i64 (entI (entA l j) k)]).bind λr=>bif iLt (asI (nth r 0)) 0 then some [T.i .i64 0,T.b false]else F n (IntKind.wrap .i64 ((k:Int)+1)))(hE:∀n,F (n+1) ((entA l j).length:Int)=Y)(hlf:33554432<=lf):F lf 0=bif allB (λk=>(plc l (entI (entA l j) k)).isSome) (entA l j).length then Y else some [T.i .i64 0,T.b false]:=qb4 (λn k hk=>by rw[hF n k hk,hC,qa3 hk (by omega)];simp only[Option.bind_some,nth0,asI_i];rw[qfz];cases plc l (entI (entA l j) k)<;>rfl) hE (by omega)
theorem qsf(C:Orc){lf:Nat}(hlf:33554432<=lf)(l:List T)(nx:Int)(hl:l.length<=30)(hE:∀j,(entA l j).length<=10)(hC:∀x,C 103 [.st [.sl l,.i .i64 nx],.i .i64 x]=some [.i .i64 (plcI (plc l x))])(hL:∀n,C 107 [.st [.sl l,.i .i64 nx],.i .i64 n]=some [.i .i64 ((lnk l n:Nat):Int)]):f77_0 C lf lf 0 l nx=bif allB (treeE l) l.length then some [T.i .i64 1]else some [T.i .i64 0,T.b false]:=
 qb4 (F:=λn j=>f77_0 C lf n j l nx) (λn j hj=>by
  rw[f77_0];unfold f77_0_s;dsimp only;have e:=qqq (F:=λn k=>f77_1 C lf (j:Int) l nx n k) C 103 lf (l:=l) (nx:=nx) (j:=j) (Y:=some [T.i .i64 1,T.i .i64 (j:Int),T.sl l,T.i .i64 nx]) (hE j) hC (λn k hk=>by
   rw[f77_1];unfold f77_1_s;simp only[Int.toNat_natCast];rw[show asL (T.cell (l.getD j T.u) 4)=entA l j from rfl,iLt_t (by omega),qa2 hk];rfl) (λn=>by
   rw[f77_1];unfold f77_1_s;simp only[Int.toNat_natCast];rw[show asL (T.cell (l.getD j T.u) 4)=entA l j from rfl,iLt_f (by omega)];rfl) hlf
  rw[iLt_t (by omega),qa2 hj,hL,e];simp only[Int.toNat_natCast,qa0,Option.bind_some,nth0,asI_i];unfold treeE;rw[show asI (T.cell (l.getD j T.u) 0)=inoA l j from rfl,show asI (T.cell (l.getD j T.u) 2)=lnkA l j from rfl];by_cases c:lnkA l j=((lnk l (inoA l j):Nat):Int)
  ·rw[c];simp only[bne_self_eq_false,qa1,beq_self_eq_true,Bool.true_and];cases allB (λk=>(plc l (entI (entA l j) k)).isSome) (entA l j).length with
   |true=>simp only[qa0,Option.bind_some,nth0,nthS,asI_i,asL_l];rw[qa3 hj (by omega)];rfl
   |false=>rfl
  · rw[show(((lnk l (inoA l j):Nat):Int) !=lnkA l j)=true by simpa using Ne.symm c,show(lnkA l j==((lnk l (inoA l j):Nat):Int))=false by simpa using c];rfl) (λn=>by
  rw[f77_0];unfold f77_0_s;rw[iLt_f (by omega)];rfl) (by omega)
theorem qss(C:Orc){lf:Nat}(hlf:33554432<=lf)(l:List T)(nx:Int)(hl:l.length<=30)(hE:∀j,(entA l j).length<=10)(hC:∀x,C 116 [.st [.sl l,.i .i64 nx],.i .i64 x]=some [.i .i64 (plcI (plc l x))])(hL:∀n,C 134 [.st [.sl l,.i .i64 nx],.i .i64 n]=some [.i .i64 ((lnk l n:Nat):Int)]):f111_0 C lf lf l (l.length:Int) 0 l nx=bif allB (treeE l) l.length then some [T.i .i64 1]else some [T.i .i64 0,T.b false]:=
 qb4 (F:=λn j=>f111_0 C lf n l (l.length:Int) j l nx) (λn j hj=>by
  rw[f111_0];unfold f111_0_s;dsimp only;have e:=qqq (F:=λn k=>f111_1 C lf l (l.length:Int) (j:Int) l nx n k) C 116 lf (l:=l) (nx:=nx) (j:=j) (Y:=some [T.i .i64 1,T.sl l,T.i .i64 (l.length:Int),T.i .i64 (j:Int),T.sl l,T.i .i64 nx]) (hE j) hC (λn k hk=>by
   rw[f111_1];unfold f111_1_s;simp only[Int.toNat_natCast];rw[show asL (T.cell (l.getD j T.u) 4)=entA l j from rfl,iLt_t (by omega),qa2 hk];rfl) (λn=>by
   rw[f111_1];unfold f111_1_s;simp only[Int.toNat_natCast];rw[show asL (T.cell (l.getD j T.u) 4)=entA l j from rfl,iLt_f (by omega)];rfl) hlf
  rw[iLt_t (by omega),qa2 hj,hL,e];simp only[Int.toNat_natCast,qa0,Option.bind_some,nth0,asI_i];unfold treeE;rw[show asI (T.cell (l.getD j T.u) 0)=inoA l j from rfl,show asI (T.cell (l.getD j T.u) 2)=lnkA l j from rfl];by_cases c:lnkA l j=((lnk l (inoA l j):Nat):Int)
  ·rw[c];simp only[bne_self_eq_false,qa1,beq_self_eq_true,Bool.true_and];cases allB (λk=>(plc l (entI (entA l j) k)).isSome) (entA l j).length with
   |true=>simp only[qa0,Option.bind_some,nth0,nthS,asI_i,asL_l];rw[qa3 hj (by omega)];rfl
   |false=>rfl
  · rw[show(lnkA l j !=((lnk l (inoA l j):Nat):Int))=true by simpa using c,show(lnkA l j==((lnk l (inoA l j):Nat):Int))=false by simpa using c];rfl) (λn=>by
  rw[f111_0];unfold f111_0_s;rw[iLt_f (by omega)];rfl) (by omega)
theorem qgn{lf d:Nat}(hlf:33554432<=lf)(l:List T)(nx:Int)(hs:l.length+tls l<=16777216):Cc lf (d+6) 77 [.st [.sl l,.i .i64 nx]]=some [.b (treeB l nx)]:=by
 have E:=f77_eq (Cc lf (d+5)) lf l nx;unfold f77 f77_t at E;dsimp only at E;rw[qyb (d:=d) hlf l nx hs]at E;simp only[Option.bind_some,nth0,asB_b]at E;refine E.trans ?_;unfold treeB;cases hT:tabB l nx with
 |false=>rfl
 |true=>
  obtain⟨hl,hA,hE⟩:=qqd hT;obtain⟨S,eS,hn,hS⟩:=qsy (d:=d+1) hlf l nx hs hl;rw[eS,qsf (Cc lf (d+5)) hlf l nx hl hE (λx=>c_sAt (d:=d+4) hlf l nx x (by omega)) (λn=>qyd (d:=d+4) hlf l nx n hl hE)];simp only[Option.bind_some,nth0,asL_l,Bool.not_true,qa1,qbu];rw[qs3 hA hn hS];cases allR l with
  |false=>rfl
  |true=>cases allB (treeE l) l.length<;>rfl
theorem qw7{lf d:Nat}(hlf:33554432<=lf)(l:List T)(nx:Int)(hs:l.length+tls l<=16777216):Cc lf (d+6) 111 [.st [.sl l,.i .i64 nx]]=some [.b (treeB l nx)]:=by
 have E:=f111_eq (Cc lf (d+5)) lf l nx;unfold f111 f111_t at E;dsimp only at E;rw[qyi (d:=d) hlf l nx hs]at E;simp only[Option.bind_some,nth0,asB_b]at E;refine E.trans ?_;unfold treeB;cases hT:tabB l nx with
 |false=>rfl
 |true=>
  obtain⟨hl,hA,hE⟩:=qqd hT;obtain⟨S,eS,hn,hS⟩:=qt4 (d:=d+1) hlf l nx hs hl hE;rw[eS,qss (Cc lf (d+5)) hlf l nx hl hE (λx=>qii (d:=d+4) hlf l nx x (by omega)) (λn=>qyl (d:=d+4) hlf l nx n hl hE)];simp only[Option.bind_some,nth0,asL_l,Bool.not_true,qa1,qbu];rw[qs3 hA hn hS];cases allR l with
  |false=>rfl
  |true=>cases allB (treeE l) l.length<;>rfl
structure Tre(l:List T):Prop where
 hl:l.length<=30
 h1:1<=l.length
 nx:∃nx,allB (tbE l nx) l.length=true
 hE:∀j,(entA l j).length<=10
 root:inoA l 0=1/\kndA l 0=2
 ge2:∀j k,j<l.length->k<(entA l j).length->2<=entI (entA l j) k
 leaf:∀j,j<l.length->kndA l j≠2->entA l j=[]
 uniq:∀i k i' k' y,i<l.length->i'<l.length->y<l.length->kndA l i=2->kndA l i'=2->kndA l y=2->k<(entA l i).length->k'<(entA l i').length->entI (entA l i) k=inoA l y->entI (entA l i') k'=inoA l y->i=i'/\k=k'
 ent:∀j k,j<l.length->k<(entA l j).length->isN l (entI (entA l j) k)
 name:∀j k,j<l.length->k<(entA l j).length->(entN (entA l j) k).size<=14
inductive Stk(l:List T):List Nat->Prop
|root:Stk l [0]
|push {x y k:Nat} {s:List Nat} (h:Stk l (x::s)) (hx:x<l.length) (hd:kndA l x=2) (hk:k<(entA l x).length) (e:entI (entA l x) k=inoA l y):Stk l (y::x::s)
abbrev By:=List UInt8
def entF(E:List T)(s:ByteArray):Int:=match fstI (λk=>(entN E k).toList==s.toList) E.length with|some k=>entI E k|none=>0
theorem qrs{lf d:Nat}(hlf:33554432<=lf)(a b c:Int)(dt E at_:List T)(s:ByteArray)(hs:E.length<=16777216):Cc lf (d+1) 108 [.st [.i .i64 a,.i .i64 b,.i .i64 c,.sl dt,.sl E,.sl at_],.s s]=some [.i .i64 (entF E s)]:=by
 have X:=f108_eq (Cc lf d) lf a b c dt E at_ s;unfold f108 f108_t at X;dsimp only at X;rw[qez (F:=λm j=>f108_0 (Cc lf d) lf dt E at_ a b c s m j) (p:=λk=>(entN E k).toList==s.toList) (X:=λk=>some [.i .i64 0,.i .i64 (entI E k)]) (Y:=some [.i .i64 1]) (len:=E.length) (λm j hj=>by
  rw[f108_0];unfold f108_0_s entN entI;rw[iLt_t (by omega),qa2 hj,qa3 hj (by omega)];simp only[qa0,Int.toNat_natCast]) (λm=>by
  rw[f108_0];unfold f108_0_s;rw[iLt_f (by omega)];rfl) (n:=lf) (by omega)]at X
 unfold entF;cases e:fstI (λk=>(entN E k).toList==s.toList) E.length with
 |none=>rw[e]at X;exact X
 |some j=>rw[e]at X;exact X
theorem qry{lf d:Nat}(hlf:33554432<=lf)(a b c:Int)(dt E at_:List T)(s:ByteArray)(hs:E.length<=16777216):Cc lf (d+1) 96 [.st [.i .i64 a,.i .i64 b,.i .i64 c,.sl dt,.sl E,.sl at_],.s s]=some [.i .i64 (entF E s)]:=by
 have X:=f96_eq (Cc lf d) lf a b c dt E at_ s;unfold f96 f96_t at X;dsimp only at X;rw[qez (F:=λm j=>f96_0 (Cc lf d) lf E s m j) (p:=λk=>(entN E k).toList==s.toList) (X:=λk=>some [.i .i64 0,.i .i64 (entI E k)]) (Y:=some [.i .i64 1]) (len:=E.length) (λm j hj=>by
  rw[f96_0];unfold f96_0_s entN entI;rw[iLt_t (by omega),qa2 hj,qa3 hj (by omega)];simp only[qa0,Int.toNat_natCast]) (λm=>by
  rw[f96_0];unfold f96_0_s;rw[iLt_f (by omega)];rfl) (n:=lf) (by omega)]at X
 unfold entF;cases e:fstI (λk=>(entN E k).toList==s.toList) E.length with
 |none=>rw[e]at X;exact X
 |some j=>rw[e]at X;exact X
def wlk(l:List T):List By->Int->Int×Int
|[],x=>(x,0)
|s::ss,x=>match plc l x with
 |none=>(0,2)
 |some j=>if kndA l j=2 then(if entF (entA l j) (bsOf s)=0 then(0,2)else wlk l ss (entF (entA l j) (bsOf s)))else(0,3)
def walkR(l:List T)(p:By):Int×Int:=bif p==[47]then(1,0)else bif okP p then wlk l (cutL p).tail 1 else(0,1)
theorem qq5(l:List T)(N:List By)(i:Nat)(h:i<N.length)(x:Int):wlk l (N.drop i) x=match plc l x with
|none=>(0,2)
|some j=>if kndA l j=2 then(if entF (entA l j) (bsOf (N.getD i []))=0 then(0,2)else wlk l (N.drop (i+1)) (entF (entA l j) (bsOf (N.getD i []))))else(0,3):=by
 rw[List.drop_eq_getElem_cons h,List.getD_eq_getElem?_getD,List.getElem?_eq_getElem h];rfl
theorem qse(C:Orc){lf:Nat}(l:List T)(nx:Int)(N:List By)(hN:N.length<=16777216)(hA:∀x,C 103 [.st [.sl l,.i .i64 nx],.i .i64 x]=some [.i .i64 (plcI (plc l x))])(hE:∀j s,C 108 [inoT l j,.s s]=some [.i .i64 (entF (entA l j) s)]):∀(k i m:Nat)(x:Int),i+k=N.length->k<m->∃c r1,f102_0 C lf (SL N) l nx m x (i:Int)=some (.i .i64 c::.i .i64 r1::(if c=0 then[.i .i64 (wlk l (N.drop i) x).2]else[]))/\((c=0/\r1=(wlk l (N.drop i) x).1)\/(c=1/\wlk l (N.drop i) x=(r1,0))):=by
 intro k;induction k with
 |zero=>intro i m x hi hm;obtain⟨m,rfl⟩:∃z,m=z+1:=⟨m-1,by omega⟩;rw[f102_0];unfold f102_0_s;rw[iLt_f (by rw[qba];omega),List.drop_eq_nil_of_le (by omega)];exact⟨1,x,rfl,.inr ⟨rfl,rfl⟩⟩
 |succ k ih=>
  intro i m x hi hm;obtain⟨m,rfl⟩:∃z,m=z+1:=⟨m-1,by omega⟩;rw[f102_0];unfold f102_0_s;rw[qq5 l N i (by omega),iLt_t (by rw[qba];omega),hA];simp only[qa0,Option.bind_some,nth0,asI_i];rw[qfz];cases hp:plc l x with
  |none=>exact⟨0,0,rfl,.inl ⟨rfl,rfl⟩⟩
  |some j=>
   obtain⟨hj,_⟩:=qnp hp;simp only[Option.isNone_some,qa1,plcI,Int.toNat_natCast];rw[qa2 hj,show asI (T.cell (l.getD j T.u) 1)=kndA l j from rfl];by_cases hk:kndA l j=2
   ·have hE':C 108 [T.st [T.i .i64 (asI (T.cell (l.getD j T.u) 0)),T.i .i64 (kndA l j),T.i .i64 (asI (T.cell (l.getD j T.u) 2)),T.sl (asL (T.cell (l.getD j T.u) 3)),T.sl (asL (T.cell (l.getD j T.u) 4)),T.sl (asL (T.cell (l.getD j T.u) 5))],T.s (bsOf (N.getD i []))]=_:=hE j (bsOf (N.getD i []));rw[show(kndA l j !=2)=false by simp[hk],qa2 (show i<(SL N).length by rw[qba];omega),SL_at (by omega)];simp only[asS_s,qa1,qa0];rw[hE'];simp only[Option.bind_some,nth0,asI_i,if_pos hk];by_cases h0:entF (entA l j) (bsOf (N.getD i []))=0;· rw[h0];exact⟨0,0,rfl,.inl ⟨rfl,rfl⟩⟩
    · rw[show(entF (entA l j) (bsOf (N.getD i []))==0)=false by simpa using h0,qa1,qa3 (show i<N.length by omega) (by omega),if_neg h0];exact ih (i+1) m _ (by omega) (by omega)
   · rw[show(kndA l j !=2)=true by simpa using hk,qa0];simp only[if_neg hk];exact⟨0,0,rfl,.inl ⟨rfl,rfl⟩⟩
theorem qsr(C:Orc){lf:Nat}(l:List T)(nx:Int)(N:List By)(b:T)(hN:N.length<=16777216)(hA:∀x,C 113 [.st [.sl l,.i .i64 nx],.i .i64 x]=some (inoR l (plc l x)))(hE:∀j s,C 96 [inoT l j,.s s]=some [.i .i64 (entF (entA l j) s)]):∀(k i m:Nat)(x:Int),i+k=N.length->k<m->∃c r1,f112_0 C lf l nx [.sl (SL N),b] m x (i:Int)=some (.i .i64 c::.i .i64 r1::(if c=0 then[.i .i64 (wlk l (N.drop i) x).2]else[]))/\((c=0/\r1=(wlk l (N.drop i) x).1)\/(c=1/\wlk l (N.drop i) x=(r1,0))):=by
 intro k;induction k with
 |zero=>intro i m x hi hm;obtain⟨m,rfl⟩:∃z,m=z+1:=⟨m-1,by omega⟩;rw[f112_0];unfold f112_0_s;simp only[nth0,asL_l];rw[iLt_f (by rw[qba];omega),List.drop_eq_nil_of_le (by omega)];exact⟨1,x,rfl,.inr ⟨rfl,rfl⟩⟩
 |succ k ih=>
  intro i m x hi hm;obtain⟨m,rfl⟩:∃z,m=z+1:=⟨m-1,by omega⟩;rw[f112_0];unfold f112_0_s;simp only[nth0,asL_l,Int.toNat_natCast];rw[qq5 l N i (by omega),iLt_t (by rw[qba];omega),hA,qa2 (show i<(SL N).length by rw[qba];omega),SL_at (by omega)];simp only[qa0,Option.bind_some,asS_s];cases hp:plc l x with
  |none=>exact⟨0,0,rfl,.inl ⟨rfl,rfl⟩⟩
  |some j=>
   rw[show asB (nth (inoR l (some j)) 1)=true from rfl,show asI (T.cell (nth (inoR l (some j)) 0) 1)=kndA l j from rfl];simp only[Bool.not_true,qa1];by_cases hk:kndA l j=2
   ·have hE':C 96 [T.st [T.i .i64 (asI (T.cell (nth (inoR l (some j)) 0) 0)),T.i .i64 (kndA l j),T.i .i64 (asI (T.cell (nth (inoR l (some j)) 0) 2)),T.sl (asL (T.cell (nth (inoR l (some j)) 0) 3)),T.sl (asL (T.cell (nth (inoR l (some j)) 0) 4)),T.sl (asL (T.cell (nth (inoR l (some j)) 0) 5))],T.s (bsOf (N.getD i []))]=_:=hE j (bsOf (N.getD i []));rw[show(kndA l j !=2)=false by simp[hk],qa1,hE'];simp only[Option.bind_some,nth0,asI_i,if_pos hk];by_cases h0:entF (entA l j) (bsOf (N.getD i []))=0;· rw[h0];exact⟨0,0,rfl,.inl ⟨rfl,rfl⟩⟩
    · rw[show(entF (entA l j) (bsOf (N.getD i []))==0)=false by simpa using h0,qa1,qa3 (show i<N.length by omega) (by omega),if_neg h0];exact ih (i+1) m _ (by omega) (by omega)
   · rw[show(kndA l j !=2)=true by simpa using hk,qa0];simp only[if_neg hk];exact⟨0,0,rfl,.inl ⟨rfl,rfl⟩⟩
theorem qvs(p:By):(cutL p).length<=p.length+1:=by rw[qie];have:=List.count_le_length (a:=(47:UInt8)) (l:=p);omega
theorem c_sWalk{lf d:Nat}(hlf:33554432<=lf)(l:List T)(nx:Int)(hs:l.length+tls l<=16777216)(p:By)(hp:p.length<=1048576):Cc lf (d+5) 74 [.st [.sl l,.i .i64 nx],.s (bsOf p)]=some [.i .i64 (walkR l p).1,.i .i64 (walkR l p).2]:=by
 have hW:∀N:List By,N.length<=1048577->Cc lf (d+4) 102 [.st [.sl l,.i .i64 nx],.sl (SL N)]=some [.i .i64 (wlk l N 1).1,.i .i64 (wlk l N 1).2]:=λN hN=>by
  have E:=f102_eq (Cc lf (d+3)) lf l nx (SL N);unfold f102 f102_t at E;dsimp only at E;obtain⟨g,r1,e,h⟩:=qse (Cc lf (d+3)) (lf:=lf) l nx N (by omega) (λx=>c_sAt (d:=d+2) hlf l nx x (by omega)) (λj s=>qrs (d:=d+2) hlf _ _ _ _ _ _ s (by have:=qc2 (l:=l) (j:=j) 4;unfold entA;omega)) N.length 0 lf 1 (by omega) (by omega);rw[show((0:Nat):Int)=0 from rfl]at e;rw[List.drop_zero]at e h;rw[e]at E;refine E.trans ?_;rcases h with⟨h0,c⟩|⟨h0,c⟩
  · subst h0;subst c;rfl
  · subst h0;rw[c];rfl
 have E:=f74_eq (Cc lf (d+4)) lf l nx (bsOf p);unfold f74 f74_t at E;rw[qig (d:=d+1) hlf p hp]at E;refine E.trans ?_;unfold walkR;cases p==[47]with
 |true=>simp only[qa0,Option.bind_some,nth0,nthS,asB_b,asL_l,Bool.not_true,qa1];have:=hW [] (by simp);rw[show SL []=[]from rfl]at this;rw[this];rfl
 |false=>
  cases okP p with
  |true=>simp only[qa0,Option.bind_some,nth0,nthS,asB_b,asL_l,Bool.not_true,qa1];rw[hW _ (by rw[List.length_tail];have:=qvs p;omega)];rfl
  |false=>rfl
theorem c_iWalk{lf d:Nat}(hlf:33554432<=lf)(l:List T)(nx:Int)(hs:l.length+tls l<=16777216)(p:By)(hp:p.length<=1048576):Cc lf (d+6) 112 [.st [.sl l,.i .i64 nx],.s (bsOf p)]=some [.i .i64 (walkR l p).1,.i .i64 (walkR l p).2]:=by
 have E:=f112_eq (Cc lf (d+5)) lf l nx (bsOf p);unfold f112 f112_t at E;dsimp only at E;have hW:∀(N:List By),N.length<=1048577->((f112_0 (Cc lf (d+5)) lf l nx [.sl (SL N),.b true] lf 1 0).bind λr=>bif asI (nth r 0)==0 then some [T.i .i64 (asI (nth r 1)),T.i .i64 (asI (nth r 2))]else some [T.i .i64 (asI (nth r 1)),T.i .i64 0])=some [.i .i64 (wlk l N 1).1,.i .i64 (wlk l N 1).2]:=λN hN=>by
  obtain⟨g,r1,e,h⟩:=qsr (Cc lf (d+5)) (lf:=lf) l nx N (.b true) (by omega) (λx=>qf4 (d:=d+2) hlf l nx x hs) (λj s=>qry (d:=d+4) hlf _ _ _ _ _ _ s (by have:=qc2 (l:=l) (j:=j) 4;unfold entA;omega)) N.length 0 lf 1 (by omega) (by omega);rw[show((0:Nat):Int)=0 from rfl]at e;rw[List.drop_zero]at e h;rw[e];rcases h with⟨h0,c⟩|⟨h0,c⟩
  · subst h0;subst c;rfl
  · subst h0;rw[c];rfl
 rw[qih (d:=d) hlf p hp]at E;refine E.trans ?_;unfold walkR;cases p==[47]with
 |true=>simp only[qa0,Option.bind_some,nthS,nth0,asB_b,Bool.not_true,qa1];have:=hW [] (by simp);rw[show SL []=[]from rfl]at this;exact this
 |false=>
  cases okP p with
  |true=>simp only[qa0,qa1,Option.bind_some,nthS,nth0,asB_b,Bool.not_true];exact hW _ (by rw[List.length_tail];have:=qvs p;omega)
  |false=>rfl
def statO(l:List T)(p:By):Option Nat:=if(walkR l p).2=0 then plc l (walkR l p).1 else none
def statT(l:List T)(p:By):T:=match statO l p with|some j=>inoT l j|none=>inoZ
theorem qou{F:Nat->Int->Option (List T)}{P:Nat->Bool}{X Y:Option (List T)}{len:Nat}(hF:∀n(j:Nat),j<len->(∀i,i<j->P i=true)->F (n+1) j=bif P j then F n ((j+1:Nat):Int)else X)(hE:∀n,F (n+1) (len:Int)=Y):∀(k s n:Nat),s+k=len->k<n->(∀i,i<s->P i=true)->F n (s:Int)=bif allB P len then Y else X:=by
 intro k;induction k with
 |zero=>
  intro s n hs hn h0;obtain⟨n,rfl⟩:∃z,n=z+1:=⟨n-1,by omega⟩;have e:s=len:=by omega
  subst e;rw[hE,qa8.2 λi hi=>h0 i hi];rfl
 |succ k ih=>
  intro s n hs hn h0;obtain⟨n,rfl⟩:∃z,n=z+1:=⟨n-1,by omega⟩;rw[hF n s (by omega) h0];cases h:P s with
  |true=>
   rw[qa0];exact ih (s+1) n (by omega) (by omega) λi hi=>by
    by_cases e:i=s;· rw[e];exact h
    · exact h0 i (by omega)
  |false=>
   rw[qa1];cases e:allB P len with
   |false=>rfl
   |true=>have:=qa8.1 e s (by omega);rw[h]at this;cases this
def pathO(l:List T)(j:Nat):ByteArray:=asS (T.cell (l.getD j T.u) 0)
def kindO(l:List T)(j:Nat):Int:=asI (T.cell (l.getD j T.u) 1)
def dataO(l:List T)(j:Nat):List T:=asL (T.cell (l.getD j T.u) 2)
def attrO(l:List T)(j:Nat):List T:=asL (T.cell (l.getD j T.u) 3)
def frstO(l:List T)(j:Nat):ByteArray:=asS (T.cell (l.getD j T.u) 4)
def qlg(p:ByteArray)(k:Int)(dt ats:List T)(f:ByteArray):Bool:=okP p.data.toList&&((iLe 1 k&&iLe k 2)&&(!(iLt 100 (dt.length:Int))&&(qc9 ats&&((Op.bytesLess f.toList p.toList||f.toList==p.toList)&&(bif k==1 then true else bif (dt.length:Int)==0 then f.toList==p.toList else false)))))
def eB(l:List T)(j:Nat):Bool:=qlg (pathO l j) (kindO l j) (dataO l j) (attrO l j) (frstO l j)
def refC(l:List T)(j i:Nat):Bool:=((pathO l i).toList==(frstO l j).toList)&&(((frstO l i).toList==(pathO l i).toList)&&((kindO l i==1)&&(sameB (byteE (dataO l i) (dataO l j)) (dataO l i) (dataO l j)&&sameB (attrE (attrO l i) (attrO l j)) (attrO l i) (attrO l j))))
def refB(l:List T)(j:Nat):Bool:=((frstO l j).toList==(pathO l j).toList)||!allB (λi=>!refC l j i) j
theorem qye{lf d:Nat}(hlf:33554432<=lf)(p:ByteArray)(k:Int)(dt ats:List T)(f:ByteArray)(hp:p.size<=1048576)(ha:ats.length+tls ats<=16777216):Cc lf (d+5) 41 [.st [.s p,.i .i64 k,.sl dt,.sl ats,.s f]]=some [.b (qlg p k dt ats f)]:=by refine(f41_eq (Cc lf (d+4)) lf p k dt ats f).trans ?_;unfold f41 f41_t qlg;obtain⟨c,r1,e⟩:=qyg (d:=d) hlf p.data.toList (by exact hp);rw[bs_of]at e;rw[e,qgq,qmy (d:=d+1) hlf ats ha];simp only[Option.bind_some,nth0,nthS,asB_b];cases okP p.data.toList<;>cases(iLe 1 k&&iLe k 2)<;>cases iLt 100 (dt.length:Int)<;>cases qc9 ats<;>cases(Op.bytesLess f.toList p.toList||f.toList==p.toList)<;>cases k==1<;>cases(dt.length:Int)==0<;>rfl
theorem qym{lf d:Nat}(hlf:33554432<=lf)(p:ByteArray)(k:Int)(dt ats:List T)(f:ByteArray)(hp:p.size<=1048576)(ha:ats.length+tls ats<=16777216):Cc lf (d+7) 54 [.st [.s p,.i .i64 k,.sl dt,.sl ats,.s f]]=some [.b (qlg p k dt ats f)]:=by refine(f54_eq (Cc lf (d+6)) lf p k dt ats f).trans ?_;unfold f54 f54_t qlg;have e:=c_inner (d:=d) hlf p.data.toList (by exact hp);rw[bs_of]at e;rw[e,qk8,qij (d:=d+3) hlf ats ha];simp only[Option.bind_some,nth0,nthS,asB_b];cases okP p.data.toList<;>cases(iLe 1 k&&iLe k 2)<;>cases iLt 100 (dt.length:Int)<;>cases qc9 ats<;>cases(Op.bytesLess f.toList p.toList||f.toList==p.toList)<;>cases k==1<;>cases(dt.length:Int)==0<;>rfl
theorem qqa{l:List T}{i j:Nat}(h:i<j):(l.take j).getD i T.u=l.getD i T.u:=by rw[List.getD_eq_getElem?_getD,List.getD_eq_getElem?_getD,List.getElem?_take_of_lt h]
theorem c_find{lf d:Nat}(hlf:33554432<=lf)(l:List T)(j:Nat)(hj:j<=l.length)(s:ByteArray)(hs:l.length<=16777216):((∀i,i<j->((pathO l i).toList==s.toList)=false)/\Cc lf (d+1) 42 [.sl (l.take j),.s s]=some [.i .i64 (-1)])\/∃k,k<j/\((pathO l k).toList==s.toList)=true/\Cc lf (d+1) 42 [.sl (l.take j),.s s]=some [.i .i64 (k:Int)]:=by
 have E:=f42_eq (Cc lf d) lf (l.take j) s;unfold f42 f42_t at E;dsimp only at E;have hlen:(l.take j).length=j:=by rw[List.length_take];omega
 rcases qdq (F:=λn i=>f42_0 (Cc lf d) lf (l.take j) s n i) (P:=λi=>!((pathO l i).toList==s.toList)) (X:=λi=>some [T.i .i64 0,T.i .i64 (i:Int)]) (Y:=some [T.i .i64 1]) (len:=j) (λn i hi=>by
  rw[f42_0];unfold f42_0_s;rw[hlen,iLt_t (by omega),qa2 hi,Int.toNat_natCast,qqa hi,qa3 hi (by omega)];simp only[qa0];show(bif (pathO l i).toList==s.toList then _ else _)=_;cases(pathO l i).toList==s.toList<;>rfl) (λn=>by
  rw[f42_0];unfold f42_0_s;rw[hlen,iLt_f (by omega)];rfl) (n:=lf) (by omega)with⟨c,e⟩|⟨_,k,hk,c,e⟩
 · rw[e]at E;refine .inl ⟨λi hi=>?_,E⟩;have:=qa8.1 c i hi;simpa using this
 · rw[e]at E;exact .inr ⟨k,hk,by simpa using c,E⟩
theorem qm5{l:List T}{m:Nat}(h:∀i,i<m->lessB l i=true):∀(k i:Nat),i+k<m->0<k->Op.bytesLess (pathO l i).toList (pathO l (i+k)).toList=true
|0,i,_,h0=>absurd h0 (Nat.lt_irrefl _)
|k+1,i,hk,_=>by
 have g:=h (i+(k+1)) hk;unfold lessB at g;rw[iLt_t (by omega),show i+(k+1)-1=i+k by omega]at g;have g:Op.bytesLess (pathO l (i+k)).toList (pathO l (i+(k+1))).toList=true:=g;by_cases c:k=0;· subst c;exact g
 · exact qhd _ _ _ (qm5 h k i (by omega) (by omega)) g
theorem qzu{l:List T}{m:Nat}(h:∀i,i<m->lessB l i=true){i k:Nat}(hi:i<m)(hk:k<m)(e:(pathO l i).toList=(pathO l k).toList):i=k:=by
 rcases Nat.lt_trichotomy i k with c|c|c
 · have:=qm5 h (k-i) i (by omega) (by omega);rw[show i+(k-i)=k by omega,e,qey]at this;cases this
 · exact c
 · have:=qm5 h (i-k) k (by omega) (by omega);rw[show k+(i-k)=i by omega,e,qey]at this;cases this
theorem qxd{l:List T}{j:Nat}(h:∀i,i<j->((pathO l i).toList==(frstO l j).toList)=false):allB (λi=>!refC l j i) j=true:=qa8.2 λi hi=>by unfold refC;rw[h i hi];rfl
theorem qzv{l:List T}{j k:Nat}(hr:∀i,i<j->lessB l i=true)(hk:k<j)(h:((pathO l k).toList==(frstO l j).toList)=true):allB (λi=>!refC l j i) j= !refC l j k:=by
 cases e:refC l j k with
 |true=>
  cases g:allB (λi=>!refC l j i) j with
  |false=>rfl
  |true=>have:=qa8.1 g k hk;rw[e]at this;cases this
 |false=>
  refine qa8.2 λi hi=>?_;by_cases c:i=k;· rw[c,e];rfl
  ·have:((pathO l i).toList==(frstO l j).toList)=false:=by
    cases m:(pathO l i).toList==(frstO l j).toList with
    |false=>rfl
    |true=>exact absurd (qzu hr hi hk ((beq_iff_eq.1 m).trans (beq_iff_eq.1 h).symm)) c
   unfold refC;rw[this];rfl
def sP(l:List T)(j:Nat):Bool:=eB l j&&(lessB l j&&refB l j)
def iP(l:List T)(j:Nat):Bool:=eB l j&&refB l j
theorem qoh{lf d:Nat}(hlf:33554432<=lf)(l0 c:List T)(hs:l0.length<=16777216):Cc lf (d+1) 44 [.sl l0,.sl c]=some [.b (sameB (attrE l0 c) l0 c)]:=by
 refine(f44_eq (Cc lf d) lf l0 c).trans ?_;unfold f44 f44_t sameB;dsimp only;by_cases h:l0.length=c.length
 ·have L:=qb4 (F:=λn j=>f44_0 (Cc lf d) lf l0 c n j) (P:=attrE l0 c) (X:=some [T.i .i64 0,T.b false]) (Y:=some [T.i .i64 1]) (len:=l0.length) (λn j hj=>by
   rw[f44_0];unfold f44_0_s attrE;rw[iLt_t (by omega),qa2 hj,qa2 (show j<c.length by omega),qa3 hj (by omega)];simp only[qa0,Int.toNat_natCast,qbp]) (λn=>by
   rw[f44_0];unfold f44_0_s;rw[iLt_f (by omega)];rfl) (n:=lf) (by omega)
  simp only[bne,qr3 h,Bool.not_true,qa1,Bool.true_and];rw[L];cases allB (attrE l0 c) l0.length<;>rfl
 · simp only[bne,qr2 h];rfl
theorem entSz{l:List T}{j:Nat}(hs:l.length+tls l<=1048576):(pathO l j).size<=1048576/\(attrO l j).length+tls (attrO l j)<=16777216/\(dataO l j).length<=16777216/\(attrO l j).length<=16777216:=by have c:=qgm (l:=l) (j:=j) 0;have h2:=qc2 (l:=l) (j:=j) 3;have g:=qc2 (l:=l) (j:=j) 2;unfold pathO attrO dataO;omega
set_option maxHeartbeats 1000000 in
theorem qt0{lf d:Nat}(hlf:33554432<=lf)(l:List T)(hs:l.length+tls l<=1048576):Cc lf (d+6) 19 [.sl l]=some [.b (allB (sP l) l.length&&iLe (l.length:Int) 200)]:=by
 refine(f19_eq (Cc lf (d+5)) lf l).trans ?_;unfold f19 f19_t;dsimp only;have L:=qou (F:=λn j=>f19_0 (Cc lf (d+5)) lf l n j) (P:=sP l) (X:=some [T.i .i64 0,T.b false]) (Y:=some [T.i .i64 1,T.sl l]) (len:=l.length) (λn j hj hprev=>by
  obtain⟨E,G,z3,z4⟩:=entSz (j:=j) hs;have hE:=qye (d:=d) hlf (pathO l j) (kindO l j) (dataO l j) (attrO l j) (frstO l j) E G;have hr:∀i,i<j->lessB l i=true:=λi hi=>by have:=hprev i hi;unfold sP at this;simp only[Bool.and_eq_true]at this;exact this.2.1
  rw[f19_0];unfold f19_0_s;simp only[Int.toNat_natCast];have core:∀(Q:Option (List T)),(bif (frstO l j).toList==(pathO l j).toList then Q else bif true then(Cc lf (d+5) 42 [T.sl (l.take j),T.s (frstO l j)]).bind λc=>bif iLt (asI (nth c 0)) 0 then some [T.i .i64 0,T.b false]else bif inR (asI (nth c 0)) l.length then bif (asI (T.cell (l.getD ((asI (nth c 0)).toNat) T.u) 1)) !=1 then some [T.i .i64 0,T.b false]else bif inR (asI (nth c 0)) l.length then bif !((asS (T.cell (l.getD ((asI (nth c 0)).toNat) T.u) 4)).toList==(frstO l j).toList)then some [T.i .i64 0,T.b false]else bif inR (asI (nth c 0)) l.length then(Cc lf (d+5) 43 [T.sl (asL (T.cell (l.getD ((asI (nth c 0)).toNat) T.u) 2)),T.sl (dataO l j)]).bind λh=>bif !(asB (nth h 0))then some [T.i .i64 0,T.b false]else bif inR (asI (nth c 0)) l.length then(Cc lf (d+5) 44 [T.sl (asL (T.cell (l.getD ((asI (nth c 0)).toNat) T.u) 3)),T.sl (attrO l j)]).bind λm=>bif !(asB (nth m 0))then some [T.i .i64 0,T.b false]else Q else none else none else none else none else none)=bif refB l j then Q else some [T.i .i64 0,T.b false]:=by
   intro Q;unfold refB;cases hf:(frstO l j).toList==(pathO l j).toList with
   |true=>rfl
   |false=>
    simp only[qa1,qa0,Bool.false_or];rcases c_find (d:=d+4) hlf l j (by omega) (frstO l j) (by omega)with⟨g,e⟩|⟨k,hk,g,e⟩
    · rw[e,qxd g];rfl
    ·obtain⟨_,_,C,D⟩:=entSz (j:=k) hs;rw[e,qzv hr hk g];simp only[Option.bind_some,nth0,asI_i];rw[iLt_f (by omega),qa2 (by omega),Int.toNat_natCast];simp only[qa1,qa0];rw[qt1 (d:=d+4) hlf _ _ (show(asL (T.cell (l.getD k T.u) 2)).length<=16777216 from C),qoh (d:=d+4) hlf _ _ (show(asL (T.cell (l.getD k T.u) 3)).length<=16777216 from D)];simp only[Option.bind_some,nth0,asB_b];unfold refC;rw[g];have B:((asS (T.cell (l.getD k T.u) 4)).toList==(frstO l j).toList)=((frstO l k).toList==(pathO l k).toList):=by rw[beq_iff_eq.1 g];rfl
     rw[B];show(bif kindO l k !=1 then _ else _)=_;show(bif kindO l k !=1 then _ else bif !((frstO l k).toList==(pathO l k).toList)then _ else bif !(sameB (byteE (dataO l k) (dataO l j)) (dataO l k) (dataO l j))then _ else bif !(sameB (attrE (attrO l k) (attrO l j)) (attrO l k) (attrO l j))then _ else Q)=_;unfold bne;generalize(kindO l k==1)=v;generalize((frstO l k).toList==(pathO l k).toList)=x;generalize sameB (byteE (dataO l k) (dataO l j)) (dataO l k) (dataO l j)=z;generalize sameB (attrE (attrO l k) (attrO l j)) (attrO l k) (attrO l j)=A;cases v<;>cases x<;>cases z<;>cases A<;>rfl
  have hE':Cc lf (d+5) 41 [T.st [T.s (asS (T.cell (l.getD j T.u) 0)),T.i .i64 (asI (T.cell (l.getD j T.u) 1)),T.sl (asL (T.cell (l.getD j T.u) 2)),T.sl (asL (T.cell (l.getD j T.u) 3)),T.s (asS (T.cell (l.getD j T.u) 4))]]=some [.b (eB l j)]:=hE;rw[iLt_t (by omega),qa2 hj,hE',qa3 hj (by omega),iLe_t (show(0:Int)<=(j:Int)by omega),iLe_t (show(j:Int)<=(l.length:Int)by omega)];simp only[qa0,Option.bind_some,nth0,asB_b,Bool.and_self];have hc:=core (f19_0 (Cc lf (d+5)) lf l n ((j+1:Nat):Int));unfold sP;cases eB l j with
  |false=>rfl
  |true=>
   simp only[Bool.not_true,qa1,Bool.true_and];unfold lessB;cases h0:iLt 0 (j:Int)with
   |true=>
    have q:0<j:=by have:=qjt.1 h0;omega
    rw[qc5 q (by omega),qa2 (by omega),Int.toNat_natCast];simp only[qa0,Bool.not_true,Bool.false_or];cases Op.bytesLess (asS (T.cell (l.getD (j-1) T.u) 0)).toList (asS (T.cell (l.getD j T.u) 0)).toList with
    |false=>rfl
    |true=>simp only[Bool.not_true,qa1,Bool.true_and];exact hc
   |false=>simp only[qa1,Bool.not_false,Bool.true_or,Bool.true_and];exact hc) (λn=>by
  rw[f19_0];unfold f19_0_s;rw[iLt_f (by omega)];rfl) l.length 0 lf (by omega) (by omega) (λi hi=>by omega)
 rw[show((0:Nat):Int)=0 from rfl]at L;rw[L];cases allB (sP l) l.length<;>rfl
theorem qyf{lf d:Nat}(hlf:33554432<=lf)(l:List T)(hs:l.length<=1048576):Cc lf (d+1) 59 [.sl l]=some [.b (allB (lessB l) l.length&&iLe (l.length:Int) 200)]:=by
 refine(f59_eq (Cc lf d) lf l).trans ?_;unfold f59 f59_t;dsimp only;by_cases h0:l.length=0;· obtain⟨n,rfl⟩:∃z,lf=z+1:=⟨lf-1,by omega⟩;rw[f59_0];unfold f59_0_s;rw[iLt_f (by omega),h0];show some [T.b (iLe (l.length:Int) 200)]=_;rw[h0];rfl
 ·have L:=qou (F:=λn j=>bif decide (j=0)then f59_0 (Cc lf d) lf l (n-1) 1 else f59_0 (Cc lf d) lf l n j) (P:=lessB l) (X:=some [T.i .i64 0,T.b false]) (Y:=some [T.i .i64 1,T.sl l]) (len:=l.length) (λn j hj _=>by
   by_cases c:j=0;· subst c;rfl
   · rw[decide_eq_false (show¬(j:Int)=0 by omega),decide_eq_false (show¬((j+1:Nat):Int)=0 by omega),qa1,qa1,f59_0_u];unfold f59_0_s lessB;rw[iLt_t (by omega),iLt_t (by omega),qc5 (by omega) (by omega),qa2 (by omega),qa2 hj,Int.toNat_natCast,Int.toNat_natCast,qa3 hj (by omega)];simp only[qa0,Bool.not_true,Bool.false_or];cases Op.bytesLess (asS (T.cell (l.getD (j-1) T.u) 0)).toList (asS (T.cell (l.getD j T.u) 0)).toList<;>rfl) (λn=>by
   rw[decide_eq_false (show¬(l.length:Int)=0 by omega),qa1,f59_0_u];unfold f59_0_s;rw[iLt_f (by omega)];rfl) (l.length-1) 1 lf (by omega) (by omega) (λi hi=>by rw[show i=0 by omega];rfl)
  rw[show decide (((1:Nat):Int)=0)=false from rfl,qa1,show((1:Nat):Int)=1 from rfl]at L;rw[L];cases allB (lessB l) l.length<;>rfl
set_option maxHeartbeats 1000000 in
theorem qt6{lf d:Nat}(hlf:33554432<=lf)(l:List T)(hs:l.length+tls l<=1048576):Cc lf (d+8) 26 [.sl l]=some [.b (allB (iP l) l.length&&(allB (lessB l) l.length&&iLe (l.length:Int) 200))]:=by
 refine(f26_eq (Cc lf (d+7)) lf l).trans ?_;unfold f26 f26_t;dsimp only;have L:=qb4 (F:=λn j=>f26_0 (Cc lf (d+7)) lf l n j) (P:=iP l) (X:=some [T.i .i64 0,T.b false]) (Y:=some [T.i .i64 1,T.sl l]) (len:=l.length) (λn j hj=>by
  obtain⟨A,B,z3,z4⟩:=entSz (j:=j) hs;have hE:=qym (d:=d) hlf (pathO l j) (kindO l j) (dataO l j) (attrO l j) (frstO l j) A B;have hE':Cc lf (d+7) 54 [T.st [T.s (asS (T.cell (l.getD j T.u) 0)),T.i .i64 (asI (T.cell (l.getD j T.u) 1)),T.sl (asL (T.cell (l.getD j T.u) 2)),T.sl (asL (T.cell (l.getD j T.u) 3)),T.s (asS (T.cell (l.getD j T.u) 4))]]=some [.b (eB l j)]:=hE;have hlen:(l.take j).length=j:=by rw[List.length_take];omega
  have hI:(allB (λi=>!refC l j i) j=true/\∃v,f26_1 (Cc lf (d+7)) lf l (j:Int) lf 0=some (T.i .i64 1::v))\/(allB (λi=>!refC l j i) j=false/\∃(i:Nat)(v:List T),f26_1 (Cc lf (d+7)) lf l (j:Int) lf 0=some (T.i .i64 0::T.i .i64 (i:Int)::v)):=by
   rcases qdq (F:=λn i=>f26_1 (Cc lf (d+7)) lf l (j:Int) n i) (P:=λi=>!refC l j i) (X:=λi=>some [T.i .i64 0,T.i .i64 (i:Int),T.s (asS (T.cell (l.getD j T.u) 0)),T.i .i64 (asI (T.cell (l.getD j T.u) 1)),T.sl (asL (T.cell (l.getD j T.u) 2)),T.sl (asL (T.cell (l.getD j T.u) 3)),T.s (asS (T.cell (l.getD j T.u) 4))]) (Y:=some [T.i .i64 1,T.s (asS (T.cell (l.getD j T.u) 0)),T.i .i64 (asI (T.cell (l.getD j T.u) 1)),T.sl (asL (T.cell (l.getD j T.u) 2)),T.sl (asL (T.cell (l.getD j T.u) 3)),T.s (asS (T.cell (l.getD j T.u) 4))]) (len:=j) (λn i hi=>by
    obtain⟨_,_,x,z⟩:=entSz (j:=i) hs;rw[f26_1];unfold f26_1_s;simp only[Int.toNat_natCast];rw[hlen,iLt_t (by omega),qa2 hi,qqa hi,qa3 hi (by omega),qt7 (d:=d+6) hlf _ _ (show(asL (T.cell (l.getD i T.u) 2)).length<=16777216 from x),qt8 (d:=d+6) hlf _ _ (show(asL (T.cell (l.getD i T.u) 3)).length<=16777216 from z)];simp only[Option.bind_some,nth0,asB_b,qa0];show(bif (pathO l i).toList==(frstO l j).toList then bif (frstO l i).toList==(pathO l i).toList then bif kindO l i==1 then bif sameB (byteE (dataO l i) (dataO l j)) (dataO l i) (dataO l j)then bif sameB (attrE (attrO l i) (attrO l j)) (attrO l i) (attrO l j)then _ else _ else _ else _ else _ else _)=_;unfold refC;generalize((pathO l i).toList==(frstO l j).toList)=c;generalize((frstO l i).toList==(pathO l i).toList)=k;generalize(kindO l i==1)=g;generalize sameB (byteE (dataO l i) (dataO l j)) (dataO l i) (dataO l j)=m;generalize sameB (attrE (attrO l i) (attrO l j)) (attrO l i) (attrO l j)=q;cases c<;>cases g<;>cases k<;>cases m<;>cases q<;>rfl) (λn=>by
    rw[f26_1];unfold f26_1_s;simp only[Int.toNat_natCast];rw[hlen,iLt_f (by omega)];rfl) (n:=lf) (by omega)with⟨h,e⟩|⟨h,i,_,_,e⟩
   · exact .inl ⟨h,_,e⟩
   · exact .inr ⟨h,i,_,e⟩
  rw[f26_0];unfold f26_0_s;simp only[Int.toNat_natCast];rw[iLt_t (by omega),qa2 hj,hE',qa3 hj (by omega),iLe_t (show(0:Int)<=(j:Int)by omega),iLe_t (show(j:Int)<=(l.length:Int)by omega)];simp only[qa0,Option.bind_some,nth0,asB_b,Bool.and_self];unfold iP refB;cases eB l j with
  |false=>rfl
  |true=>
   simp only[Bool.not_true,qa1,Bool.true_and];show(bif (frstO l j).toList==(pathO l j).toList then _ else _)=_;cases(frstO l j).toList==(pathO l j).toList with
   |true=>rfl
   |false=>
    simp only[qa1,Bool.false_or];rcases hI with⟨h,v,e⟩|⟨h,i,v,e⟩
    · rw[e,h];rfl
    · rw[e,h];simp only[Option.bind_some,nth0,nthS,asI_i];rw[iLe_t (by omega)];rfl) (λn=>by
  rw[f26_0];unfold f26_0_s;rw[iLt_f (by omega)];rfl) (n:=lf) (by omega)
 rw[L];cases allB (iP l) l.length with
 |false=>rfl
 |true=>simp only[qa0,Option.bind_some,nth0,nthS,asI_i,asL_l];rw[show((1:Int)==0)=false from rfl,qa1,qyf (d:=d+6) hlf l (by omega)];rfl
theorem all_and(l:List T):allB (sP l) l.length=(allB (iP l) l.length&&allB (lessB l) l.length):=by
 cases c:allB (iP l) l.length&&allB (lessB l) l.length with
 |true=>simp only[Bool.and_eq_true]at c;refine qa8.2 λj hj=>?_;have a:=qa8.1 c.1 j hj;have b:=qa8.1 c.2 j hj;unfold iP at a;unfold sP;simp only[Bool.and_eq_true]at a|-;exact⟨a.1,b,a.2⟩
 |false=>
  cases h2:allB (sP l) l.length with
  |false=>rfl
  |true=>
   have a:allB (iP l) l.length=true:=qa8.2 λj hj=>by have:=qa8.1 h2 j hj;unfold sP at this;unfold iP;simp only[Bool.and_eq_true]at this|-;exact⟨this.1,this.2.2⟩
   have b:allB (lessB l) l.length=true:=qa8.2 λj hj=>by have:=qa8.1 h2 j hj;unfold sP at this;simp only[Bool.and_eq_true]at this;exact this.2.1
   rw[a,b]at c;cases c
structure Nd where
 k:Int
 lk:Int
 dt:List T
 es:List (By×Int)
 ats:List (By×By)
def zN:Nd:=⟨0,0,[],[],[]⟩
def eT(e:By×Int):T:=.st [.s (bsOf e.1),.i .i64 e.2]
def aT(a:By×By):T:=.st [.s (bsOf a.1),.s (bsOf a.2)]
def ndT(i:Int)(n:Nd):T:=.st [.i .i64 i,.i .i64 n.k,.i .i64 n.lk,.sl n.dt,.sl (n.es.map eT),.sl (n.ats.map aT)]
def TT(X:List Nd):List T:=X.mapIdx λi n=>ndT ((i:Int)+1) n
theorem qb2(X:List Nd):(TT X).length=X.length:=List.length_mapIdx
theorem TT_at{X:List Nd}{i:Nat}(h:i<X.length):(TT X).getD i T.u=ndT ((i:Int)+1) (X.getD i zN):=by simp[TT,List.getD_eq_getElem?_getD,h]
theorem qd7{α:Type}(f:α->T)(z:α){E:List α}{i:Nat}(h:i<E.length):(E.map f).getD i T.u=f (E.getD i z):=by simp[List.getD_eq_getElem?_getD,h]
theorem qax{α:Type}{E:List α}{i:Nat}(h:i<E.length)(z:α):E.getD i z∈E:=by rw[List.getD_eq_getElem?_getD,List.getElem?_eq_getElem h];exact List.getElem_mem h
theorem qfd{X:List Nd}{i:Nat}(h:i<X.length):inoA (TT X) i=(i:Int)+1:=by unfold inoA;rw[TT_at h];rfl
theorem qlt{X:List Nd}{i:Nat}(h:i<X.length):kndA (TT X) i=(X.getD i zN).k:=by unfold kndA;rw[TT_at h];rfl
theorem qx0{X:List Nd}{i:Nat}(h:i<X.length):lnkA (TT X) i=(X.getD i zN).lk:=by unfold lnkA;rw[TT_at h];rfl
theorem qzk{X:List Nd}{i:Nat}(h:i<X.length):datA (TT X) i=(X.getD i zN).dt:=by unfold datA;rw[TT_at h];rfl
theorem qlu{X:List Nd}{i:Nat}(h:i<X.length):entA (TT X) i=(X.getD i zN).es.map eT:=by unfold entA;rw[TT_at h];rfl
theorem qzl{X:List Nd}{i:Nat}(h:i<X.length):atrA (TT X) i=(X.getD i zN).ats.map aT:=by unfold atrA;rw[TT_at h];rfl
theorem inoT_TT{X:List Nd}{i:Nat}(h:i<X.length):inoT (TT X) i=ndT ((i:Int)+1) (X.getD i zN):=by unfold inoT;rw[qfd h,qlt h,qx0 h,qzk h,qlu h,qzl h];rfl
theorem qfy{X:List Nd}{i:Nat}(h:i<X.length):plc (TT X) ((i:Int)+1)=some i:=by
 refine qgb.2 ⟨?_,by rw[qb2];exact h,λj hj=>?_⟩;· rw[qfd h];simp
 · rw[qfd (by omega)];simp;omega
theorem qz6{X:List Nd}{x:Int}(h:x<1\/(X.length:Int)<x):plc (TT X) x=none:=by refine qen.2 λj hj=>?_;rw[qb2]at hj;rw[qfd hj];simp;omega
theorem qzj{X:List Nd}{i:Nat}(h:i<X.length)(y:Nd):(TT X).set i (ndT ((i:Int)+1) y)=TT (X.set i y):=by
 refine List.ext_getElem? λj=>?_;unfold TT;simp only[List.getElem?_set,List.getElem?_mapIdx,List.length_mapIdx];by_cases c:i=j;· subst c;simp[h]
 · simp[c]
theorem qwz(X:List Nd)(y:Nd):TT X++[ndT ((X.length:Int)+1) y]=TT (X++[y]):=by unfold TT;rw[List.mapIdx_append];simp
structure NdOk(i:Nat)(n:Nd):Prop where
 kk:n.k=1\/n.k=2
 lk:0<=n.lk/\n.lk<=1000
 rt:n.lk=0↔i=0
 dt:n.dt.length<=100
 fd:fitC (.sl false [.i .u8]) (.sl n.dt)
 es:n.es.length<=10
 en:∀e∈n.es,nameB (bsOf e.1)=true/\2<=e.2/\e.2<=1000
 er:n.es.Pairwise λa b=>Op.bytesLess a.1 b.1=true
 al:n.ats.length<=4
 an:∀a∈n.ats,nameB (bsOf a.1)=true/\1<=a.2.length/\a.2.length<=16
 ar:n.ats.Pairwise λa b=>Op.bytesLess a.1 b.1=true
 f1:n.k=1->n.es=[]
 d1:n.k=2->n.dt=[]/\n.lk<=1
theorem qj6{α:Type}{R:α->α->Prop}{E:List α}(h:E.Pairwise R){i j:Nat}(hij:i<j)(hj:j<E.length)(z:α):R (E.getD i z) (E.getD j z):=by
 have e:∀k(hk:k<E.length),E.getD k z=E[k]:=λk hk=>by rw[List.getD_eq_getElem?_getD,List.getElem?_eq_getElem hk];rfl
 rw[e j hj,e i (by omega)];exact List.pairwise_iff_getElem.1 h i j _ _ hij
theorem ents_ok{E:List (By×Int)}(m:E.length<=10)(h2:∀e∈E,nameB (bsOf e.1)=true/\2<=e.2/\e.2<=1000)(k:E.Pairwise λa b=>Op.bytesLess a.1 b.1=true):entsB (E.map eT)=true:=by
 unfold entsB;rw[Bool.and_eq_true,List.length_map];refine⟨qa8.2 λj hj=>?_,iLe_t (by omega)⟩;obtain⟨g1,g,h⟩:=h2 _ (qax hj ([],0));unfold entB lessB;rw[qd7 eT ([],0) hj];simp only[eT,cell0,cellS,asS_s,asI_i,g1,iLe_t g,iLe_t h,Bool.true_and];by_cases c:0<j;· rw[qd7 eT ([],0) (show j-1<E.length by omega)];simp only[eT,cell0,asS_s,qah];rw[qj6 k (show j-1<j by omega) hj ([],0),Bool.or_true]
 · rw[iLt_f (by omega)];rfl
theorem qyu{E:List (By×By)}(m:E.length<=4)(h2:∀a∈E,nameB (bsOf a.1)=true/\1<=a.2.length/\a.2.length<=16)(g:E.Pairwise λa b=>Op.bytesLess a.1 b.1=true):qc9 (E.map aT)=true:=by
 unfold qc9;rw[Bool.and_eq_true,List.length_map];refine⟨qa8.2 λj hj=>?_,iLe_t (by omega)⟩;obtain⟨g1,h,k⟩:=h2 _ (qax hj ([],[]));unfold attrB lessB;rw[qd7 aT ([],[]) hj];simp only[aT,cell0,cellS,asS_s,g1,qal,iLe_t (show(1:Int)<=(((E.getD j ([],[])).2.length:Nat):Int)by omega),iLe_t (show(((E.getD j ([],[])).2.length:Nat):Int)<=16 by omega),Bool.true_and];by_cases c:0<j;· rw[qd7 aT ([],[]) (show j-1<E.length by omega)];simp only[aT,cell0,asS_s,qah];rw[qj6 g (show j-1<j by omega) hj ([],[]),Bool.or_true]
 · rw[iLt_f (by omega)];rfl
theorem node_ok{i:Nat}{n:Nd}(h:NdOk i n)(hi:i<1000):qg7 ((i:Int)+1) n.k n.lk n.dt (n.es.map eT) (n.ats.map aT)=true:=by
 unfold qg7;rw[ents_ok h.es h.en h.er,qyu h.al h.an h.ar,iLe_t (by omega),iLe_t (by omega),iLe_t h.lk.1,iLe_t h.lk.2,iLt_f (show¬(100:Int)<(n.dt.length:Int)by have:=h.dt;omega)];have e:(n.lk==0)=((i:Int)+1==1):=by
  by_cases c:i=0;· rw[h.rt.2 c,c];rfl
  · have:=mt h.rt.1 c;rw[beq_eq_false_iff_ne.2 this];exact(beq_eq_false_iff_ne.2 (by omega)).symm
 rw[e];simp only[beq_self_eq_true,Bool.true_and,Bool.not_false];rcases h.kk with c|c
 · rw[c,h.f1 c];rfl
 · rw[c,(h.d1 c).1,iLe_t (h.d1 c).2];rfl
def refs(X:List Nd)(x:Int):Nat:=(X.flatMap (·.es)).countP (·.2==x)
structure Good(X:List Nd):Prop where
 n1:1<=X.length
 n2:X.length<=30
 rt:(X.getD 0 zN).k=2
 ok:∀i,i<X.length->NdOk i (X.getD i zN)
 inr:∀i,i<X.length->∀e∈(X.getD i zN).es,e.2<=X.length
 par:∀j,1<=j->j<X.length->∃i,i<j/\(X.getD i zN).k=2/\∃e∈(X.getD i zN).es,e.2=(j:Int)+1
 lks:∀j,j<X.length->(X.getD j zN).lk=((refs X ((j:Int)+1):Nat):Int)
theorem qll{P Q:Nat->Bool}:∀{n:Nat},(∀j,j<n->P j=Q j)->cntB P n=cntB Q n
|0,_=>rfl
|n+1,h=>by show(bif P n then cntB P n+1 else cntB P n)=(bif Q n then cntB Q n+1 else cntB Q n);rw[qll (n:=n) λj hj=>h j (by omega),h n (by omega)]
theorem qvy{α:Type}(p:α->Bool)(z:α)(E:List α):∀n,n<=E.length->cntB (λk=>p (E.getD k z)) n=(E.take n).countP p
|0,_=>rfl
|n+1,h=>by
 have ih:=qvy p z E n (by omega);have e:E.take (n+1)=E.take n++[E.getD n z]:=by rw[List.take_succ_eq_append_getElem (by omega),List.getD_eq_getElem?_getD,List.getElem?_eq_getElem (by omega)];rfl
 rw[e,List.countP_append,<-ih];show(bif p (E.getD n z)then cntB _ n+1 else cntB _ n)=_;rw[List.countP_singleton];cases p (E.getD n z)<;>rfl
theorem qqe{X:List Nd}(f1:∀i,i<X.length->(X.getD i zN).k≠2->(X.getD i zN).es=[])(x:Int):∀n,n<=X.length->sumTo (lnkJ (TT X) x) n=((X.take n).flatMap (·.es)).countP (·.2==x)
|0,_=>rfl
|n+1,h=>by
 have ih:=qqe f1 x n (by omega);have e:X.take (n+1)=X.take n++[X.getD n zN]:=by rw[List.take_succ_eq_append_getElem (by omega),List.getD_eq_getElem?_getD,List.getElem?_eq_getElem (by omega)];rfl
 rw[e,List.flatMap_append,List.countP_append,<-ih];show sumTo _ n+lnkJ (TT X) x n=_;congr 1;unfold lnkJ;rw[qlt (by omega),qlu (by omega),List.length_map];simp only[List.flatMap_cons,List.flatMap_nil,List.append_nil];by_cases c:(X.getD n zN).k=2;· rw[if_pos c];have:=qvy (λe:By×Int=>e.2==x) ([],0) (X.getD n zN).es (X.getD n zN).es.length (Nat.le_refl _);rw[List.take_length]at this;rw[<-this];refine qll λk hk=>?_;unfold entI;rw[qd7 eT ([],0) hk];rfl
 · rw[if_neg c,f1 n (by omega) c];rfl
theorem Good.fe{X:List Nd}(G:Good X):∀i,i<X.length->(X.getD i zN).k≠2->(X.getD i zN).es=[]:=λi hi h=>(G.ok i hi).f1 ((G.ok i hi).kk.resolve_right h)
theorem Good.reach{X:List Nd}(G:Good X):∀(m j:Nat),j<=m->j<X.length->Rch (TT X) ((j:Int)+1)
|m,0,_,hj=>Rch.root ⟨0,qfy hj⟩
|0,j+1,h,_=>absurd h (by omega)
|m+1,j+1,h,hj=>by obtain⟨i,hi,hk,e,he,hx⟩:=G.par (j+1) (by omega) hj;refine Rch.step _ _ (G.reach m i (by omega) (by omega)) ⟨i,qfy (by omega),by rw[qlt (by omega)];exact hk,?_⟩ ⟨_,qfy hj⟩;obtain⟨k,c,rfl⟩:=List.getElem_of_mem he;rw[qlu (by omega),List.length_map];refine⟨k,c,?_⟩;unfold entI;rw[qd7 eT ([],0) c,List.getD_eq_getElem?_getD,List.getElem?_eq_getElem c];exact hx
open Classical in
theorem Good.tree{X:List Nd}(G:Good X):treeB (TT X) ((X.length:Int)+1)=true:=by
 have n1:=G.n1;have n2:=G.n2;have hok:∀i,i<X.length->qdp (TT X) i=true:=λi hi=>by unfold qdp;rw[qfd hi,qlt hi,qx0 hi,qzk hi,qlu hi,qzl hi];exact node_ok (G.ok i hi) (by omega)
 have htab:tabB (TT X) ((X.length:Int)+1)=true:=by
  unfold tabB;rw[qb2,iLe_t (by omega),iLe_t (by omega),iLe_t (by omega),iLe_t (by omega),qfd (by omega),qlt (by omega),G.rt];simp only[Bool.true_and,Bool.and_eq_true];refine⟨qa8.2 λi hi=>?_,rfl,rfl⟩;unfold tbE;rw[hok i hi,qfd hi,iLe_f (by omega)];by_cases c:0<i;· rw[qfd (show i-1<X.length by omega),iLe_f (show¬(i:Int)+1<=((i-1:Nat):Int)+1 by omega)];simp
  · rw[iLt_f (by omega)];rfl
 unfold treeB;rw[htab];simp only[Bool.true_and,Bool.and_eq_true];refine⟨?_,qa8.2 λj hj=>?_⟩;· unfold allR;refine decide_eq_true λj hj=>?_;rw[qb2]at hj;rw[qfd hj];exact G.reach j j (Nat.le_refl _) hj
 ·rw[qb2]at hj;unfold treeE;rw[Bool.and_eq_true];constructor;· rw[qx0 hj,qfd hj,G.lks j hj];unfold lnk refs;rw[qb2,qqe G.fe _ _ (Nat.le_refl _),List.take_length];exact beq_self_eq_true _
  ·rw[qlu hj,List.length_map];refine qa8.2 λk hk=>?_;unfold entI;rw[qd7 eT ([],0) hk];have hm:=qax hk (([],0):By×Int);have g:=G.inr j hj _ hm;have h2:=((G.ok j hj).en _ hm).2.1;have:asI (T.cell (eT ((X.getD j zN).es.getD k ([],0))) 1)=(((((X.getD j zN).es.getD k ([],0)).2-1).toNat:Nat):Int)+1:=by show((X.getD j zN).es.getD k ([],0)).2=_;omega
   rw[this,qfy (by omega)];rfl
theorem qoy{α:Type}(f:α->T)(b:Nat):∀{E:List α},(∀e∈E,tl (f e)<=b)->tls (E.map f)<=b*E.length
|[],_=>Nat.zero_le _
|e::E,h=>by have c:=h e (by simp);have h2:=qoy f b (E:=E) λx hx=>h x (by simp[hx]);simp only[List.map_cons,tls,List.length_cons,Nat.mul_succ];omega
theorem NdOk.size{i:Nat}{n:Nd}(h:NdOk i n)(x:Int):tl (ndT x n)<=1000:=by
 have c:=qoy eT 14 (E:=n.es) λe he=>by have:=qb6 (h.en e he).1;simp only[eT,tl,tls];omega
 have h2:=qoy aT 30 (E:=n.ats) λe he=>by have:=qb6 (h.an e he).1;have:=(h.an e he).2.2;simp only[aT,tl,tls,qal]at*;omega
 have g:=qx2 h.fd rfl;have:=h.es;have:=h.al;have:=h.dt;simp only[ndT,tl,tls,List.length_map];have:14*n.es.length<=14*10:=Nat.mul_le_mul_left _ h.es;have:30*n.ats.length<=30*4:=Nat.mul_le_mul_left _ h.al;omega
theorem ql8(f:Nat->Nd->T)(b:Nat):∀{X:List Nd},(∀i n,n∈X->tl (f i n)<=b)->tls (X.mapIdx f)<=b*X.length
|[],_=>Nat.zero_le _
|n::X,h=>by have c:=h 0 n (by simp);have h2:=ql8 (λi=>f (i+1)) b (X:=X) λi x hx=>h (i+1) x (by simp[hx]);rw[List.mapIdx_cons];simp only[tls,List.length_cons,Nat.mul_succ];omega
def Sml(X:List Nd):Prop:=X.length<=31/\∀n∈X,∀x,tl (ndT x n)<=1000
theorem Good.sml{X:List Nd}(G:Good X):Sml X:=⟨by have:=G.n2;omega,λn hn x=>by obtain⟨i,hi,rfl⟩:=List.getElem_of_mem hn;have:=(G.ok i hi).size x;rw[List.getD_eq_getElem?_getD,List.getElem?_eq_getElem hi]at this;exact this⟩
theorem Sml.le{X:List Nd}(h:Sml X):(TT X).length+tls (TT X)<=16777216:=by have:=ql8 (λi n=>ndT ((i:Int)+1) n) 1000 (X:=X) λi n hn=>h.2 n hn _;rw[qb2];have:1000*X.length<=1000*31:=Nat.mul_le_mul_left _ h.1;have:=h.1;unfold TT;omega
theorem Sml.push{X:List Nd}(h:Sml X)(g:X.length<=30){n:Nd}(hn:∀x,tl (ndT x n)<=1000):Sml (X++[n]):=⟨by simp;omega,λm hm x=>by
 rcases List.mem_append.1 hm with c|c
 · exact h.2 m c x
 · rw[List.mem_singleton.1 c];exact hn x⟩
theorem Sml.set{X:List Nd}(h:Sml X)(i:Nat){n:Nd}(hn:∀x,tl (ndT x n)<=1000):Sml (X.set i n):=⟨by simp;exact h.1,λm hm x=>by
 rcases List.mem_or_eq_of_mem_set hm with c|c
 · exact h.2 m c x
 · rw[c];exact hn x⟩
theorem qiq{n:Nd}{x:Int}(h:tl (ndT x n)<=1000):n.dt.length<=1000/\n.es.length<=1000/\n.ats.length<=1000:=by simp only[ndT,tl,tls,List.length_map]at h;omega
theorem qdg{F:Nat->Int->Option (List T)}{Y:Option (List T)}{len:Nat}(hF:∀n(j:Nat),j<len->F (n+1) (j:Int)=F n ((j+1:Nat):Int))(hE:∀n,F (n+1) (len:Int)=Y){n:Nat}(hn:len<n):F n 0=Y:=by
 have key:∀(k j n:Nat),j+k=len->k<n->F n (j:Int)=Y:=by
  intro k;induction k with
  |zero=>
   intro j n hj hn;obtain⟨n,rfl⟩:∃z,n=z+1:=⟨n-1,by omega⟩;obtain rfl:j=len:=by omega
   exact hE n
  |succ k ih=>intro j n hj hn;obtain⟨n,rfl⟩:∃z,n=z+1:=⟨n-1,by omega⟩;rw[hF n j (by omega)];exact ih (j+1) n (by omega) (by omega)
 exact key len 0 n (by omega) hn
theorem qn8{F:Nat->Int->List T->Option (List T)}{Y:Option (List T)}{l:List T}(hF:∀n(j:Nat),j<l.length->F (n+1) (j:Int) (l.take j)=F n ((j+1:Nat):Int) (l.take j++[l.getD j T.u]))(hE:∀n,F (n+1) (l.length:Int) l=Y){n:Nat}(hn:l.length<n):F n 0 []=Y:=by
 have key:∀(k j n:Nat),j+k=l.length->k<n->F n (j:Int) (l.take j)=Y:=by
  intro k;induction k with
  |zero=>
   intro j n hj hn;obtain⟨n,rfl⟩:∃z,n=z+1:=⟨n-1,by omega⟩;obtain rfl:j=l.length:=by omega
   rw[List.take_length];exact hE n
  |succ k ih=>intro j n hj hn;obtain⟨n,rfl⟩:∃z,n=z+1:=⟨n-1,by omega⟩;rw[hF n j (by omega)];have:=ih (j+1) n (by omega) (by omega);rw[List.take_succ_eq_append_getElem (by omega)]at this;rw[List.getD_eq_getElem?_getD,List.getElem?_eq_getElem (by omega)];exact this
 exact key l.length 0 n (by omega) hn
theorem qk5{lf d:Nat}(hlf:33554432<=lf){X:List Nd}(S:Sml X)(nx:Int):Cc lf (d+2) 78 [.st [.sl (TT X),.i .i64 nx]]=some [.st [.sl (TT X),.i .i64 nx]]:=by
 have hs:=S.le;have c:=S.1;have E:=f78_eq (Cc lf (d+1)) lf (TT X) nx;unfold f78 f78_t at E;dsimp only at E;rw[qn8 (F:=λm j x=>f78_0 (Cc lf (d+1)) lf (TT X) nx m j x) (l:=TT X) (Y:=some [T.i .i64 0,T.i .i64 0,T.sl ([]:List T),T.i .i64 nx,T.sl (TT X)]) (λm j hj=>by
  rw[f78_0];unfold f78_0_s;rw[iLt_t (by omega),qa2 hj,qa3 hj (by omega)];simp only[qa0,Int.toNat_natCast];rw[qf3 _ _ _ _ _ _ (qcb hs _ _) (qcb hs _ _) (qcb hs _ _),Option.bind_some,nLe_t (by rw[List.length_take];unfold LIM;simp;omega)];rw[qb2]at hj;rw[TT_at hj];rfl) (λm=>by
  rw[f78_0];unfold f78_0_s;rw[iLt_f (by omega)];rfl) (by rw[qb2];omega)]at E
 exact E
theorem qhl{lf d:Nat}(hlf:33554432<=lf){X:List Nd}(S:Sml X)(nx:Int):Cc lf (d+3) 87 [.st [.sl (TT X),.i .i64 nx]]=some [.st [.sl (TT X),.i .i64 nx]]:=by
 have hs:=S.le;have c:=S.1;have E:=f87_eq (Cc lf (d+2)) lf (TT X) nx;unfold f87 f87_t at E;dsimp only at E;rw[qn8 (F:=λm j x=>f87_0 (Cc lf (d+2)) lf (TT X) nx m j x) (l:=TT X) (Y:=some [T.i .i64 0,T.i .i64 0,T.sl ([]:List T),T.i .i64 nx,T.sl (TT X)]) (λm j hj=>by
  rw[f87_0];unfold f87_0_s;rw[iLt_t (by omega),qa2 hj,qa3 hj (by omega)];simp only[qa0,Int.toNat_natCast];rw[qf5 _ _ _ _ _ _ (qcb hs _ _) (qcb hs _ _) (qcb hs _ _),Option.bind_some,nLe_t (by rw[List.length_take];unfold LIM;simp;omega)];rw[qb2]at hj;rw[TT_at hj];rfl) (λm=>by
  rw[f87_0];unfold f87_0_s;rw[iLt_f (by omega)];rfl) (by rw[qb2];omega)]at E
 exact E
theorem qof{lf d:Nat}(hlf:33554432<=lf){X:List Nd}(S:Sml X)(nx:Int){i:Nat}(hi:i<X.length){y:Nd}(hy:∀x,tl (ndT x y)<=1000):Cc lf (d+3) 79 [.st [.sl (TT X),.i .i64 nx],ndT ((i:Int)+1) y]=some [.st [.sl (TT (X.set i y)),.i .i64 nx]]:=by have hs:=S.le;have h:=S.1;obtain⟨c,g,a3⟩:=qiq (hy 0);have E:=f79_eq (Cc lf (d+2)) lf (TT X) nx ((i:Int)+1) y.k y.lk y.dt (y.es.map eT) (y.ats.map aT);unfold f79 f79_t at E;dsimp only at E;rw[qk5 (d:=d) hlf S nx,c_sAt (d:=d+1) hlf (TT X) nx _ (by omega),qfy hi]at E;simp only[Option.bind_some,nth0,asI_i,plcI]at E;rw[iLe_t (by omega),qa0,qf3 (d:=d+1) _ _ _ _ _ _ (by omega) (by rw[List.length_map];omega) (by rw[List.length_map];omega)]at E;simp only[Option.bind_some,nth0,cell0,cellS,asL_l,asI_i,Int.toNat_natCast]at E;rw[qa2 (by rw[qb2];exact hi),qa0]at E;rw[<-qzj hi];exact E
theorem qw2{lf d:Nat}(hlf:33554432<=lf){X:List Nd}(S:Sml X)(nx:Int){y:Nd}(hy:∀x,tl (ndT x y)<=1000):Cc lf (d+3) 79 [.st [.sl (TT X),.i .i64 nx],ndT ((X.length:Int)+1) y]=some [.st [.sl (TT (X++[y])),.i .i64 nx]]:=by
 have hs:=S.le;have q:=S.1;obtain⟨g,h,a3⟩:=qiq (hy 0);have E:=f79_eq (Cc lf (d+2)) lf (TT X) nx ((X.length:Int)+1) y.k y.lk y.dt (y.es.map eT) (y.ats.map aT);unfold f79 f79_t at E;dsimp only at E;rw[qk5 (d:=d) hlf S nx,c_sAt (d:=d+1) hlf (TT X) nx _ (by omega),qz6 (by omega)]at E;simp only[Option.bind_some,nth0,asI_i,plcI]at E;rw[iLe_f (by omega),qa1,qdg (F:=λm j=>f79_0 (Cc lf (d+2)) lf (TT X) y.dt (y.es.map eT) (y.ats.map aT) nx ((X.length:Int)+1) y.k y.lk [.st [.sl (TT X),.i .i64 nx]] m j) (len:=(TT X).length) (Y:=some [T.i .i64 0,T.i .i64 ((TT X).length:Int),T.i .i64 ((X.length:Int)+1),T.i .i64 y.k,T.i .i64 y.lk,T.sl y.dt,T.sl (y.es.map eT),T.sl (y.ats.map aT),T.i .i64 0,T.sl [],T.i .i64 nx,T.sl (TT X)]) (λm j hj=>by
  rw[f79_0];unfold f79_0_s;rw[iLt_t (by omega),qa2 hj,qa3 hj (by omega)];rw[qb2]at hj;simp only[qa0,Int.toNat_natCast];rw[TT_at hj,show asI (T.cell (ndT ((j:Int)+1) (X.getD j zN)) 0)=(j:Int)+1 from rfl,iLt_t (by omega),qa0]) (λm=>by
  rw[f79_0];unfold f79_0_s;rw[iLt_f (by omega)];rfl) (by rw[qb2];omega)]at E
 simp only[Option.bind_some,nth0,nthS,cell0,cellS,asL_l,asI_i,Int.toNat_natCast,List.length_nil,Nat.zero_add,List.drop_zero,List.nil_append,Nat.sub_zero,List.take_length,List.take_zero,List.drop_length,List.append_nil]at E;rw[iLe_t (by omega),iLe_t (by omega),iLe_t (by omega),nLe_t (by rw[qb2];unfold LIM;omega),qf3 (d:=d+1) _ _ _ _ _ _ (by omega) (by rw[List.length_map];omega) (by rw[List.length_map];omega)]at E;have c:(mapL (unEl true kT0) (TT X)).length=X.length:=by rw[qex,List.length_map,qb2]
 simp only[Option.bind_some,nth0,nthS,cell0,cellS,asL_l,asI_i,Bool.and_self,qa0,c,qb2,List.length_singleton]at E;rw[nLe_t (by unfold LIM;omega),List.drop_of_length_le (show(mapL (unEl true kT0) (TT X)).length<=X.length by omega)]at E;simp only[List.take_nil,List.append_nil,List.length_append,List.length_nil,List.length_singleton,qb2,Nat.add_zero,qa0]at E;rw[show okL true kT0 []=true from rfl,nLe_t (by unfold LIM;omega),iLe_t (by omega)]at E;rw[<-qwz];exact E
theorem qru{lf d:Nat}(hlf:33554432<=lf){X:List Nd}(S:Sml X)(nx:Int){i:Nat}(hi:i<X.length){y:Nd}(hy:∀x,tl (ndT x y)<=1000):Cc lf (d+4) 94 [.st [.sl (TT X),.i .i64 nx],ndT ((i:Int)+1) y]=some [.st [.sl (TT (X.set i y)),.i .i64 nx]]:=by have hs:=S.le;have h:=S.1;obtain⟨c,g,a3⟩:=qiq (hy 0);have E:=f94_eq (Cc lf (d+3)) lf (TT X) nx ((i:Int)+1) y.k y.lk y.dt (y.es.map eT) (y.ats.map aT);unfold f94 f94_t at E;dsimp only at E;rw[qhl (d:=d) hlf S nx,qf5 (d:=d+1) _ _ _ _ _ _ (by omega) (by rw[List.length_map];omega) (by rw[List.length_map];omega)]at E;simp only[Option.bind_some,nth0,cell0,cellS,asL_l,asI_i]at E;rw[qii (d:=d+2) hlf (TT X) nx _ (by omega),qfy hi]at E;simp only[Option.bind_some,nth0,asI_i,plcI]at E;rw[iLe_t (by omega),qa0,qa2 (by rw[qb2];exact hi),qa0]at E;rw[<-qzj hi];exact E
theorem c_insI{lf d:Nat}{l v:List T}(hv:v.length=1)(hl:l.length<=16777216):Cc lf (d+1) 119 [.sl l,.i .i64 (l.length:Int),.sl v]=some [.sl (l++v)]:=by refine(f119_eq (Cc lf d) lf l (l.length:Int) v).trans ?_;unfold f119 f119_t;rw[iLe_t (by omega),iLe_t (by omega),hv,nLe_t (by unfold LIM;omega),beq_self_eq_true];rfl
theorem c_insE{lf d:Nat}{l v:List T}(hv:v.length=1)(hl:l.length<=16777216):Cc lf (d+1) 123 [.sl l,.i .i64 (l.length:Int),.sl v]=some [.sl (l++v)]:=by refine(f123_eq (Cc lf d) lf l (l.length:Int) v).trans ?_;unfold f123 f123_t;rw[iLe_t (by omega),iLe_t (by omega),hv,nLe_t (by unfold LIM;omega),beq_self_eq_true];rfl
theorem c_insA{lf d:Nat}{l v:List T}(hv:v.length=1)(hl:l.length<=16777216):Cc lf (d+1) 93 [.sl l,.i .i64 (l.length:Int),.sl v]=some [.sl (l++v)]:=by refine(f93_eq (Cc lf d) lf l (l.length:Int) v).trans ?_;unfold f93 f93_t;rw[iLe_t (by omega),iLe_t (by omega),hv,nLe_t (by unfold LIM;omega),beq_self_eq_true];rfl
theorem qw8{lf d:Nat}(hlf:33554432<=lf){X:List Nd}(S:Sml X)(nx:Int){y:Nd}(hy:∀x,tl (ndT x y)<=1000):Cc lf (d+4) 94 [.st [.sl (TT X),.i .i64 nx],ndT ((X.length:Int)+1) y]=some [.st [.sl (TT (X++[y])),.i .i64 nx]]:=by
 have hs:=S.le;have h:=S.1;obtain⟨c,g,a3⟩:=qiq (hy 0);have E:=f94_eq (Cc lf (d+3)) lf (TT X) nx ((X.length:Int)+1) y.k y.lk y.dt (y.es.map eT) (y.ats.map aT);unfold f94 f94_t at E;dsimp only at E;rw[qhl (d:=d) hlf S nx,qf5 (d:=d+1) _ _ _ _ _ _ (by omega) (by rw[List.length_map];omega) (by rw[List.length_map];omega)]at E;simp only[Option.bind_some,nth0,cell0,cellS,asL_l,asI_i]at E;rw[qii (d:=d+2) hlf (TT X) nx _ (by omega),qz6 (by omega)]at E;simp only[Option.bind_some,nth0,asI_i,plcI]at E;rw[iLe_f (by omega),qa1,qdg (F:=λm j=>f94_0 (Cc lf (d+3)) lf [.st [.sl (TT X),.i .i64 nx]] [.st [.i .i64 ((X.length:Int)+1),.i .i64 y.k,.i .i64 y.lk,.sl y.dt,.sl (y.es.map eT),.sl (y.ats.map aT)]] m j) (len:=(TT X).length) (Y:=some [T.i .i64 1,T.sl (TT X),T.i .i64 ((X.length:Int)+1),T.i .i64 y.k,T.i .i64 y.lk,T.sl y.dt,T.sl (y.es.map eT),T.sl (y.ats.map aT)]) (λm j hj=>by
  rw[f94_0];unfold f94_0_s;simp only[nth0,cell0,cellS,asL_l,asI_i];rw[iLt_t (by omega),qa2 hj,qa3 hj (by omega)];rw[qb2]at hj;simp only[qa0,Int.toNat_natCast];rw[TT_at hj,show asI (T.cell (ndT ((j:Int)+1) (X.getD j zN)) 0)=(j:Int)+1 from rfl,iLt_f (by omega),qa1]) (λm=>by
  rw[f94_0];unfold f94_0_s;simp only[nth0,cell0,cellS,asL_l,asI_i];rw[iLt_f (by omega)];rfl) (by rw[qb2];omega)]at E
 simp only[Option.bind_some,nth0,nthS,asL_l,asI_i]at E;rw[show((1:Int)==0)=false from rfl,qa1,c_insI (d:=d+2) rfl (by omega)]at E;rw[<-qwz];exact E
def statC(l:List T)(p:By):Int:=if(walkR l p).2=0 then(match plc l (walkR l p).1 with|some _=>0|none=>2)else(walkR l p).2
theorem qgo{lf d:Nat}(hlf:33554432<=lf)(l:List T)(nx:Int)(hs:l.length+tls l<=16777216)(p:By)(hp:p.length<=1048576):Cc lf (d+6) 47 [.st [.sl l,.i .i64 nx],.s (bsOf p)]=some [statT l p,.i .i64 (statC l p)]:=by
 have E:=f47_eq (Cc lf (d+5)) lf l nx (bsOf p);unfold f47 f47_t at E;rw[c_sWalk hlf l nx hs p hp]at E;simp only[Option.bind_some,nth0,nthS,asI_i]at E;unfold statT statO statC;by_cases c:(walkR l p).2=0
 ·rw[show((walkR l p).2 !=0)=false by simpa using c,qa1,qlo (d:=d+3) hlf l nx _ hs]at E;rw[if_pos c,if_pos c];cases e:plc l (walkR l p).1 with
  |none=>rw[e]at E;exact E
  |some j=>rw[e]at E;exact E
 · rw[show((walkR l p).2 !=0)=true by simpa using c,qa0]at E;rw[if_neg c,if_neg c];exact E
theorem qn0{lf d:Nat}(hlf:33554432<=lf)(l:List T)(nx:Int)(hs:l.length+tls l<=16777216)(p:By)(hp:p.length<=1048576):Cc lf (d+7) 89 [.st [.sl l,.i .i64 nx],.s (bsOf p)]=some [statT l p,.i .i64 (statC l p)]:=by
 have E:=f89_eq (Cc lf (d+6)) lf l nx (bsOf p);unfold f89 f89_t at E;rw[c_iWalk hlf l nx hs p hp]at E;simp only[Option.bind_some,nth0,nthS,asI_i]at E;unfold statT statO statC;by_cases c:(walkR l p).2=0
 ·rw[show((walkR l p).2 !=0)=false by simpa using c,qa1,qf4 (d:=d+3) hlf l nx _ hs]at E;rw[if_pos c,if_pos c];cases e:plc l (walkR l p).1 with
  |none=>rw[e]at E;exact E
  |some j=>rw[e]at E;exact E
 · rw[show((walkR l p).2 !=0)=true by simpa using c,qa0]at E;rw[if_neg c,if_neg c];exact E
def flt(L:List By):By:=L.flatMap λx=>47::x
def jn(L:List By):By:=if L=[]then[47]else flt L
def nmP(p:By):List By:=(cutL p).tail
theorem qgc(x:By)(L:List By):flt (x::L)=47::(x++flt L):=by simp[flt]
theorem flt_app(L M:List By):flt (L++M)=flt L++flt M:=by simp[flt]
theorem qvu:∀(L:List By)(x:By),47∉x->(∀y∈L,47∉y)->cutL (x++flt L)=x::L
|[],x,h,_=>by rw[show flt []=[]from rfl,List.append_nil];exact qgk h
|y::L,x,h,hL=>by rw[qgc,qk0 h,qvu L y (hL y (by simp)) λz hz=>hL z (by simp[hz])]
theorem qvt:∀(n:Nat)(p x:By)(L:List By),p.length<=n->cutL p=x::L->p=x++flt L/\47∉x/\∀y∈L,47∉y
|n,p,x,L,hn,h=>by
 rcases qjr p with⟨g,_⟩|⟨a,b,rfl,g,_⟩
 · rw[qgk g]at h;cases h;exact⟨by simp[flt],g,by simp⟩
 ·rw[qk0 g]at h;cases n with
  |zero=>simp at hn
  |succ n=>
   injection h with k m;subst k;cases j:cutL b with
   |nil=>exact absurd j (qrk b)
   |cons y M=>
    obtain⟨g1,q,v⟩:=qvt n b y M (by simp at hn;omega) j;rw[<-m,j];refine⟨by rw[qgc,<-g1],g,λz hz=>?_⟩;rcases List.mem_cons.1 hz with c|c
    · rw[c];exact q
    · exact v z c
theorem qbm{p:By}(h:okP p=true):p=flt (nmP p)/\(∀y∈nmP p,47∉y)/\nmP p≠[]/\(nmP p).length<=30/\qb5 (nmP p)=true:=by
 unfold okP at h;simp only[Bool.and_eq_true,decide_eq_true_eq,beq_iff_eq]at h;obtain⟨h0,g,h2,j⟩:=h;unfold nmP;cases e:cutL p with
 |nil=>exact absurd e (qrk p)
 |cons x L=>rw[e]at h0 g h2 j;obtain⟨g1,_,k⟩:=qvt p.length p x L (Nat.le_refl _) e;simp only[List.headD_cons]at h0;subst h0;refine⟨g1,k,λc=>?_,h2,j⟩;simp only[List.tail_cons]at c;subst c;simp at g
theorem name_no{x:By}(h:nameB (bsOf x)=true):47∉x:=λhm=>by obtain⟨j,hj,e⟩:=List.getElem_of_mem hm;unfold nameB at h;rw[Bool.and_eq_true]at h;have:=qa8.1 h.1 j hj;rw[qk9,List.getD_eq_getElem?_getD,List.getElem?_eq_getElem hj,e]at this;cases this
theorem qxh{L:List By}(h:qb5 L=true):∀y∈L,47∉y:=λy hy=>name_no (List.all_eq_true.1 h y hy)
theorem jn_ok{L:List By}(hL:L≠[])(hn:qb5 L=true)(h:L.length<=30):okP (jn L)=true/\nmP (jn L)=L/\jn L≠[47]:=by
 have e:cutL (flt L)=[]::L:=by have:=qvu L [] (by simp) (qxh hn);rwa[List.nil_append]at this
 have j:jn L=flt L:=if_neg hL;have k:1<=L.length:=by cases L with|nil=>exact absurd rfl hL|cons _ _=>simp
 have g:okP (jn L)=true:=by rw[j];unfold okP;rw[e];simp only[List.headD_cons,List.length_cons,List.tail_cons,Bool.and_eq_true,decide_eq_true_eq];exact⟨rfl,by omega,decide_eq_true h,hn⟩
 refine⟨g,by unfold nmP;rw[j,e];rfl,λc=>?_⟩;rw[c,qbi]at g;cases g
theorem qlw(l:List T){L:List By}(hn:qb5 L=true)(g:L.length<=30):walkR l (jn L)=wlk l L 1:=by
 unfold walkR;by_cases c:L=[];· subst c;rfl
 · obtain⟨h,h2,j⟩:=jn_ok c hn g;rw[beq_eq_false_iff_ne.2 j,qa1,h,qa0];show wlk l (nmP (jn L)) 1=_;rw[h2]
theorem qed(l:List T){p:By}(h:okP p=true):walkR l p=wlk l (nmP p) 1:=by
 unfold walkR;have:(p==[47])=false:=beq_eq_false_iff_ne.2 λc=>by rw[c,qbi]at h;cases h
 rw[this,qa1,h,qa0];rfl
def parL(p:By):List By:=(nmP p).take ((nmP p).length-1)
def parN(p:By):By:=(nmP p).getD ((nmP p).length-1) []
theorem qmc{p:By}(h:nmP p≠[]):nmP p=parL p++[parN p]:=by unfold parL parN;have c:0<(nmP p).length:=List.length_pos_iff.2 h;rw[List.getD_eq_getElem?_getD,List.getElem?_eq_getElem (by omega)];show _=_++[(nmP p)[(nmP p).length-1]];rw[<-List.take_succ_eq_append_getElem (by omega),show(nmP p).length-1+1=(nmP p).length by omega,List.take_length]
theorem qca{p:By}(h:okP p=true):qb5 (parL p)=true/\(parL p).length<=30/\nameB (bsOf (parN p))=true:=by obtain⟨_,_,g,k,c⟩:=qbm h;have j:0<(nmP p).length:=List.length_pos_iff.2 g;refine⟨List.all_eq_true.2 λx hx=>List.all_eq_true.1 c x (List.mem_of_mem_take hx),by unfold parL;rw[List.length_take];omega,?_⟩;exact List.all_eq_true.1 c _ (qax (by omega) _)
theorem qpi{L:List By}(hn:qb5 L=true)(g:L.length<=30):(jn L).length<=1000:=by
 have key:∀M:List By,qb5 M=true->(flt M).length<=15*M.length:=by
  intro M;induction M with
  |nil=>intro _;exact Nat.zero_le _
  |cons x M ih=>intro h;have c:=qb6 (List.all_eq_true.1 h x (by simp));have h2:=ih (List.all_eq_true.2 λy hy=>List.all_eq_true.1 h y (by simp[hy]));rw[qgc];simp only[List.length_cons,List.length_append];rw[qal]at c;omega
 unfold jn;split;· simp
 · have:=key L hn;omega
theorem c_sJoin{lf d:Nat}(hlf:33554432<=lf)(L:List By)(hL:L.length<=30)(hn:qb5 L=true):Cc lf (d+3) 101 [.sl (SL L)]=some [.s (bsOf (jn L))]:=by
 have E:=f101_eq (Cc lf (d+2)) lf (SL L);unfold f101 f101_t at E;dsimp only at E;have bapp:∀x y:By,bsOf x++bsOf y=bsOf (x++y):=λx y=>by apply ByteArray.ext;rw[ByteArray.data_append];show x.toArray++y.toArray=(x++y).toArray;simp
 have Lp:∀(k j n:Nat)(s:By),j+k=L.length->k<n->s.length<=15*j->f101_0 (Cc lf (d+2)) lf (SL L) n (bsOf s) (j:Int)=some [T.i .i64 1,T.s (bsOf (s++flt (L.drop j)))]:=by
  intro k;induction k with
  |zero=>intro j n s hj hk hs;obtain⟨n,rfl⟩:∃z,n=z+1:=⟨n-1,by omega⟩;rw[f101_0];unfold f101_0_s;rw[qba,iLt_f (by omega),List.drop_of_length_le (by omega),show flt []=[]from rfl,List.append_nil];rfl
  |succ k ih=>
   intro j n s hj hk hs;obtain⟨n,rfl⟩:∃z,n=z+1:=⟨n-1,by omega⟩;have hjl:j<L.length:=by omega
   have hx:nameB (bsOf (L.getD j []))=true:=List.all_eq_true.1 hn _ (qax hjl _);have hz:=qb6 hx;rw[qal]at hz;have e:=ih (j+1) n (s++[47]++L.getD j []) (by omega) (by omega) (by simp only[List.length_append,List.length_singleton];omega);rw[f101_0];unfold f101_0_s;rw[show(⟨#[47]⟩:ByteArray)=bsOf [47]from rfl,bapp,qba,iLt_t (by omega),qa2 hjl,Int.toNat_natCast,SL_at hjl,asS_s,qhk (d:=d) hlf _ (by rw[qal];omega),hx,iLt_f (by omega),qa3 hjl (by omega),bapp,nLe_t (by simp only[qal,List.length_singleton];unfold LIM;omega),nLe_t (by simp only[qal,List.length_append,List.length_singleton];unfold LIM;omega)];simp only[qa0,qa1,Option.bind_some,nth0,asB_b,Bool.not_true];rw[e,List.drop_eq_getElem_cons hjl,qgc,List.getD_eq_getElem?_getD,List.getElem?_eq_getElem hjl];simp
 unfold jn;by_cases h0:L=[];· subst h0;exact E
 · have c:0<L.length:=List.length_pos_iff.2 h0;rw[qba,beq_eq_false_iff_ne.2 (show(L.length:Int)≠0 by omega),qa1,show(⟨#[]⟩:ByteArray)=bsOf []from rfl,show(0:Int)=((0:Nat):Int)from rfl,Lp L.length 0 lf [] (by omega) (by omega) (by simp)]at E;rw[if_neg h0];exact E
theorem qr6:∀(x:By)(L:List By),[47]++([47]:By).intercalate (x::L)=flt (x::L)
|x,[]=>by simp[List.intercalate,flt]
|x,y::L=>by
 have ih:=qr6 y L;have e:([47]:By).intercalate (x::y::L)=x++([47]++([47]:By).intercalate (y::L)):=by simp[List.intercalate,List.intersperse]
 rw[e,ih,qgc];rfl
theorem c_iJoin{lf d:Nat}(hlf:33554432<=lf)(L:List By)(hL:L.length<=30)(hn:qb5 L=true):Cc lf (d+5) 139 [.sl (SL L)]=some [.s (bsOf (jn L))]:=by
 have hz:∀x∈L,x.length<=16777216:=λx hx=>by have:=qb6 (List.all_eq_true.1 hn x hx);rw[qal]at this;omega
 have hj:joinT (SL L) ⟨#[47]⟩=([47]:By).intercalate L:=by unfold joinT;rw[List.map_map];congr 1;exact List.map_id'' (λ_=>rfl) L
 have hb:47::([47]:By).intercalate L=jn L:=by
  unfold jn;cases L with
  |nil=>rfl
  |cons x M=>rw[if_neg (by simp)];exact qr6 x M
 have hsz:=qpi hn hL;rw[<-hb,List.length_cons]at hsz;have hJ:Cc lf (d+4) 152 [.sl (SL L),.s ⟨#[47]⟩]=some [.s (bsOf (([47]:By).intercalate L))]:=by show(bif nLe (SL L).length LIM&&nLe (joinT (SL L) ⟨#[47]⟩).length LIM then some [T.s ⟨(joinT (SL L) ⟨#[47]⟩).toArray⟩]else none)=_;rw[hj,qba,nLe_t (by unfold LIM;omega),nLe_t (by unfold LIM;omega)];rfl
 have E:=f139_eq (Cc lf (d+4)) lf (SL L);unfold f139 f139_t at E;rw[qoi (d:=d) hlf L hz,decide_eq_true hL,hn]at E;simp only[Bool.and_self,Option.bind_some,nth0,asB_b,Bool.not_true,qa1]at E;rw[hJ]at E;simp only[Option.bind_some,nth0,asS_s]at E;rw[nLe_t (by rw[qal];show 1+_<=LIM;unfold LIM;omega)]at E;rw[<-hb];refine E.trans ?_;have:(⟨#[47]⟩:ByteArray)++bsOf (([47]:By).intercalate L)=bsOf (47::([47]:By).intercalate L):=by apply ByteArray.ext;rw[ByteArray.data_append];show#[47]++(([47]:By).intercalate L).toArray=(47::([47]:By).intercalate L).toArray;simp
 rw[<-this];rfl
theorem qog{lf d:Nat}(hlf:33554432<=lf)(p:By)(hs:p.length<=1048576)(ho:okP p=true):Cc lf (d+4) 73 [.s (bsOf p)]=some [.s (bsOf (jn (parL p))),.s (bsOf (parN p)),.b true]:=by
 have E:=f73_eq (Cc lf (d+3)) lf (bsOf p);unfold f73 f73_t at E;rw[qig (d:=d) hlf p hs]at E;have hb:(p==[47])=false:=beq_eq_false_iff_ne.2 λc=>by rw[c,qbi]at ho;cases ho
 obtain⟨h,j,_⟩:=qca ho;have g:=(qbm ho).2.2.2.1;have hpos:0<(nmP p).length:=List.length_pos_iff.2 (qbm ho).2.2.1;rw[hb,qa1,ho]at E;have er:=c_sJoin (d:=d) hlf (parL p) j h;unfold parL at er;unfold parL parN;have en:(cutL p).tail=nmP p:=rfl;rw[en]at E;generalize nmP p=Q at E hpos g er;simp only[qa0,Option.bind_some,nth0,nthS,asB_b,asL_l,Bool.not_true,qa1]at E;have hw:IntKind.wrap .i64 ((Q.length:Int)-1)=((Q.length-1:Nat):Int):=by rw[qac (by omega) (by omega)];omega
 rw[qba,show((Q.length:Int)==0)=false from beq_eq_false_iff_ne.2 (by omega),qa1,hw,iLe_t (show(0:Int)<=0 by omega),iLe_t (by omega),iLe_t (by omega),Int.toNat_natCast,List.drop_zero,Nat.sub_zero,show(SL Q).take (Q.length-1)=SL (Q.take (Q.length-1))from List.map_take.symm,er,qa2 (by omega),SL_at (by omega)]at E;exact E
theorem qw9{lf d:Nat}(hlf:33554432<=lf)(p:By)(hs:p.length<=1048576)(ho:okP p=true):Cc lf (d+6) 120 [.s (bsOf p)]=some [.s (bsOf (jn (parL p))),.s (bsOf (parN p)),.b true]:=by
 have E:=f120_eq (Cc lf (d+5)) lf (bsOf p);unfold f120 f120_t at E;rw[qih (d:=d) hlf p hs]at E;have hb:(p==[47])=false:=beq_eq_false_iff_ne.2 λc=>by rw[c,qbi]at ho;cases ho
 obtain⟨h,j,_⟩:=qca ho;have g:=(qbm ho).2.2.2.1;have hpos:0<(nmP p).length:=List.length_pos_iff.2 (qbm ho).2.2.1;rw[hb,qa1,ho]at E;have er:=c_iJoin (d:=d) hlf (parL p) j h;unfold parL at er;unfold parL parN;have en:(cutL p).tail=nmP p:=rfl;rw[en]at E;generalize nmP p=Q at E hpos g er;simp only[qa0,Option.bind_some,nth0,nthS,asB_b,asL_l,Bool.not_true,qa1]at E;have hw:IntKind.wrap .i64 ((Q.length:Int)-1)=((Q.length-1:Nat):Int):=by rw[qac (by omega) (by omega)];omega
 rw[qba,show((Q.length:Int)==0)=false from beq_eq_false_iff_ne.2 (by omega),qa1,hw,iLe_t (show(0:Int)<=0 by omega),iLe_t (by omega),iLe_t (by omega),Int.toNat_natCast,List.drop_zero,Nat.sub_zero,show(SL Q).take (Q.length-1)=SL (Q.take (Q.length-1))from List.map_take.symm,er,qa2 (by omega),SL_at (by omega)]at E;exact E
def wk(X:List Nd):List By->Nat->Option Nat
|[],i=>some i
|s::ss,i=>if(X.getD i zN).k=2 then(match(X.getD i zN).es.find? (λe=>e.1==s)with|some e=>wk X ss (e.2.toNat-1)|none=>none)else none
theorem qmt(E:List (By×Int))(s:By):entF (E.map eT) (bsOf s)=match E.find? (λe=>e.1==s)with|some e=>e.2|none=>0:=by
 unfold entF;have hp:∀k,k<E.length->((entN (E.map eT) k).toList==(bsOf s).toList)=((E.getD k ([],0)).1==s):=λk hk=>by unfold entN;rw[qd7 eT ([],0) hk];show((bsOf _).toList==_)=_;rw[qah,qah]
 rw[List.length_map];cases e:fstI (λk=>(entN (E.map eT) k).toList==(bsOf s).toList) E.length with
 |none=>
  have h:=qen.1 e;have:E.find? (λe=>e.1==s)=none:=List.find?_eq_none.2 λx hx=>by obtain⟨k,hk,rfl⟩:=List.getElem_of_mem hx;have:=h k hk;rw[hp k hk,List.getD_eq_getElem?_getD,List.getElem?_eq_getElem hk]at this;simpa using this
  rw[this]
 |some k=>
  obtain⟨c,h2,m⟩:=qgb.1 e;have g:∀i(hi:i<E.length),E.getD i ([],0)=E[i]:=λi hi=>by rw[List.getD_eq_getElem?_getD,List.getElem?_eq_getElem hi];rfl
  have:E.find? (λe=>e.1==s)=some (E.getD k ([],0)):=List.find?_eq_some_iff_getElem.2 ⟨by rw[<-hp k h2];exact c,k,h2,(g k h2).symm,λj hj=>by have:=m j hj;rw[hp j (by omega),g j (by omega)]at this;simpa using this⟩;rw[this];unfold entI;simp only;rw[qd7 eT ([],0) h2];rfl
theorem qmr{E:List (By×Int)}{s:By}{e:By×Int}(h:E.find? (λe=>e.1==s)=some e):e∈E/\e.1=s:=⟨List.mem_of_find?_eq_some h,by simpa using List.find?_some h⟩
def wkB(X:List Nd)(N:List By)(i:Nat):Prop:=match wk X N i with
|some j=>j<X.length/\wlk (TT X) N ((i:Int)+1)=((j:Int)+1,0)
|none=>(wlk (TT X) N ((i:Int)+1)).2≠0
theorem qft{X:List Nd}(G:Good X):∀(N:List By)(i:Nat),i<X.length->wkB X N i
|[],i,hi=>⟨hi,rfl⟩
|s::ss,i,hi=>by
 have hf:=qmt (X.getD i zN).es s;unfold wkB wk wlk;rw[qfy hi];simp only;rw[qlt hi,qlu hi];by_cases c:(X.getD i zN).k=2
 ·rw[if_pos c,if_pos c];cases e:(X.getD i zN).es.find? (λe=>e.1==s)with
  |none=>rw[e]at hf;simp only at hf|-;rw[if_pos hf];simp
  |some x=>rw[e]at hf;simp only at hf|-;obtain⟨hm,_⟩:=qmr e;have g:=G.inr i hi x hm;have h2:=((G.ok i hi).en x hm).2.1;have ih:=qft G ss (x.2.toNat-1) (by omega);unfold wkB at ih;rw[show((x.2.toNat-1:Nat):Int)+1=x.2 by omega]at ih;rw[hf,if_neg (by omega)];exact ih
 · rw[if_neg c,if_neg c];simp
theorem qb0{X:List Nd}(G:Good X){p:By}{N:List By}(hw:walkR (TT X) p=wlk (TT X) N 1){j:Nat}(h:wk X N 0=some j):j<X.length/\statC (TT X) p=0/\statT (TT X) p=ndT ((j:Int)+1) (X.getD j zN):=by
 have:=qft G N 0 (by have:=G.n1;omega);unfold wkB at this;rw[h,show(((0:Nat):Int)+1)=1 from rfl,<-hw]at this;obtain⟨c,h2⟩:=this;refine⟨c,?_,?_⟩;· unfold statC;rw[h2,if_pos rfl,qfy c]
 · unfold statT statO;rw[h2,if_pos rfl,qfy c];exact inoT_TT c
theorem qee{X:List Nd}(G:Good X){p:By}{N:List By}(hw:walkR (TT X) p=wlk (TT X) N 1)(h:wk X N 0=none):statC (TT X) p≠0:=by have:=qft G N 0 (by have:=G.n1;omega);unfold wkB at this;rw[h,show(((0:Nat):Int)+1)=1 from rfl,<-hw]at this;unfold statC;rw[if_neg this];exact this
def spC(X:List Nd)(p:By):Int:=match wk X (parL p) 0 with
|none=>statC (TT X) (jn (parL p))
|some d=>if(X.getD d zN).k≠2 then 3 else if((X.getD d zN).es.find? (λe=>e.1==parN p)).isSome then 4 else if 10<=(X.getD d zN).es.length then 5 else 0
theorem qtr{X:List Nd}(G:Good X){p:By}(ho:okP p=true)(h:spC X p=0):∃d,wk X (parL p) 0=some d/\d<X.length/\(X.getD d zN).k=2/\(X.getD d zN).es.find? (λe=>e.1==parN p)=none/\(X.getD d zN).es.length<10:=by
 obtain⟨m,q,_⟩:=qca ho;have hw:=qlw (TT X) m q;unfold spC at h;cases e:wk X (parL p) 0 with
 |none=>rw[e]at h;exact absurd h (qee G hw e)
 |some d=>
  rw[e]at h;simp only at h;by_cases c:(X.getD d zN).k=2
  ·rw[if_neg (by simpa using c)]at h;by_cases g:((X.getD d zN).es.find? (λe=>e.1==parN p)).isSome;· rw[if_pos g]at h;cases h
   ·rw[if_neg g]at h;by_cases j:10<=(X.getD d zN).es.length;· rw[if_pos j]at h;cases h
    · exact⟨d,rfl,(qb0 G hw e).1,c,Option.not_isSome_iff_eq_none.1 g,by omega⟩
  · rw[if_pos c]at h;cases h
theorem qw1{lf d:Nat}(hlf:33554432<=lf){X:List Nd}(G:Good X)(nx:Int){p:By}(hs:p.length<=1048576)(ho:okP p=true):(spC X p≠0/\∃z r1,Cc lf (d+7) 83 [.st [.sl (TT X),.i .i64 nx],.s (bsOf p),.i .i64 0]=some [z,r1,.i .i64 (spC X p)])\/(spC X p=0/\∃k,wk X (parL p) 0=some k/\k<X.length/\(X.getD k zN).k=2/\(X.getD k zN).es.length<10/\Cc lf (d+7) 83 [.st [.sl (TT X),.i .i64 nx],.s (bsOf p),.i .i64 0]=some [ndT ((k:Int)+1) (X.getD k zN),.s (bsOf (parN p)),.i .i64 0]):=by
 obtain⟨m,q,_⟩:=qca ho;have hw:=qlw (TT X) m q;have hS:=G.sml.le;have E:=f83_eq (Cc lf (d+6)) lf (TT X) nx (bsOf p) 0;unfold f83 f83_t at E;rw[qog (d:=d+2) hlf p hs ho]at E;simp only[Option.bind_some,nth0,nthS,asB_b,asS_s,Bool.not_true,qa1]at E;rw[qgo (d:=d) hlf (TT X) nx hS _ (by have:=qpi m q;omega)]at E;simp only[Option.bind_some,nth0,nthS,asI_i]at E;unfold spC;cases e:wk X (parL p) 0 with
 |none=>have hn:=qee G hw e;rw[show(statC (TT X) (jn (parL p)) !=0)=true by simpa using hn,qa0]at E;exact .inl ⟨hn,_,_,E⟩
 |some k=>
  obtain⟨h,h2,v⟩:=qb0 G hw e;rw[h2,v,show((0:Int) !=0)=false from rfl,qa1]at E;simp only[ndT,cell0,cellS,asI_i,asL_l]at E;simp only;by_cases c:(X.getD k zN).k=2
  ·rw[c,show((2:Int) !=2)=false from rfl,qa1,qrs (d:=d+5) hlf _ _ _ _ _ _ _ (by rw[List.length_map];have:=(G.ok k h).es;omega),qmt]at E;rw[if_neg (by simpa using c)];cases g:(X.getD k zN).es.find? (λe=>e.1==parN p)with
   |some x=>rw[g]at E;have:=((G.ok k h).en x (qmr g).1).2.1;simp only[Option.bind_some,nth0,asI_i]at E;rw[show(x.2 !=0)=true by simp;omega,qa0]at E;exact .inl ⟨by simp,_,_,E⟩
   |none=>
    rw[g]at E;simp only[Option.bind_some,nth0,asI_i]at E;rw[show((0:Int) !=0)=false from rfl,qa1,List.length_map]at E;rw[if_neg (by simp)];by_cases j:10<=(X.getD k zN).es.length;· rw[iLe_t (by omega),qa0,show((k:Int)+1 !=0)=true by simp;omega,qa0]at E;rw[if_pos j];exact .inl ⟨by simp,_,_,E⟩
    · rw[iLe_f (by omega),qa1]at E;rw[if_neg j];refine .inr ⟨rfl,k,rfl,h,c,by omega,E.trans ?_⟩;simp only[ndT,c]
  · rw[show((X.getD k zN).k !=2)=true by simpa using c,qa0]at E;rw[if_pos c];exact .inl ⟨by simp,_,_,E⟩
theorem c_iSpot{lf d:Nat}(hlf:33554432<=lf){X:List Nd}(G:Good X)(nx:Int){p:By}(hs:p.length<=1048576)(ho:okP p=true):match wk X (parL p) 0 with
|none=>∃r,Cc lf (d+8) 95 [.st [.sl (TT X),.i .i64 nx],.s (bsOf p)]=some [r,.i .i64 (spC X p)]
|some k=>if(X.getD k zN).k=2 then Cc lf (d+8) 95 [.st [.sl (TT X),.i .i64 nx],.s (bsOf p)]=some [.st [.i .i64 ((k:Int)+1),.i .i64 (X.getD k zN).k,.i .i64 (X.getD k zN).lk,.sl (X.getD k zN).dt,.sl ((X.getD k zN).es.map eT),.sl ((X.getD k zN).ats.map aT),.s (bsOf (parN p))],.i .i64 0]else∃r,Cc lf (d+8) 95 [.st [.sl (TT X),.i .i64 nx],.s (bsOf p)]=some [r,.i .i64 3]:=by
 obtain⟨g,h,_⟩:=qca ho;have hw:=qlw (TT X) g h;have hS:=G.sml.le;have E:=f95_eq (Cc lf (d+7)) lf (TT X) nx (bsOf p);unfold f95 f95_t at E;rw[qw9 (d:=d+1) hlf p hs ho]at E;simp only[Option.bind_some,nth0,nthS,asS_s]at E;rw[qn0 (d:=d) hlf (TT X) nx hS _ (by have:=qpi g h;omega)]at E;simp only[Option.bind_some,nth0,nthS,asI_i]at E;unfold spC;cases e:wk X (parL p) 0 with
 |none=>have hn:=qee G hw e;rw[show(statC (TT X) (jn (parL p)) !=0)=true by simpa using hn,qa0]at E;exact⟨_,E⟩
 |some k=>
  obtain⟨m,h2,j⟩:=qb0 G hw e;rw[h2,j,show((0:Int) !=0)=false from rfl,qa1]at E;simp only[ndT,cell0,cellS,asI_i,asL_l]at E;simp only;by_cases c:(X.getD k zN).k=2;· rw[show((X.getD k zN).k !=2)=false by simpa using c,qa1]at E;rw[if_pos c];exact E
  · rw[show((X.getD k zN).k !=2)=true by simpa using c,qa0]at E;rw[if_neg c];exact⟨_,E⟩
def addE(n:Nd)(s:By)(x:Int):Nd:={n with es:=n.es++[(s,x)]}
def lowN(n:Nd)(s:By):Prop:=∀e∈n.es,Op.bytesLess e.1 s=true
theorem qw3{lf d:Nat}(hlf:33554432<=lf){E:List (By×Int)}(hE:E.length<=1000){s:By}(h:∀e∈E,Op.bytesLess e.1 s=true)(x:Int):Cc lf (d+1) 84 [.sl (E.map eT),.st [.s (bsOf s),.i .i64 x]]=some [.sl ((E++[(s,x)]).map eT)]:=by
 have Q:=f84_eq (Cc lf d) lf (E.map eT) (bsOf s) x;unfold f84 f84_t at Q;dsimp only at Q;obtain⟨m,hm⟩:∃m,lf=m+1:=⟨lf-1,by omega⟩;have hw:IntKind.wrap .i64 ((((E.map eT++([T.st [T.s (bsOf s),T.i .i64 x]]:List T)).length:Nat):Int)-1)=(E.length:Int):=by rw[List.length_append,List.length_map,List.length_singleton,qac (by omega) (by omega)];omega
 have hset:∀y:T,(E.map eT++([T.st [T.s (bsOf s),T.i .i64 x]]:List T)).set E.length y=E.map eT++[y]:=λy=>by rw[List.set_append_right _ _ (by simp)];simp
 have hl:(E.map eT++([T.st [T.s (bsOf s),T.i .i64 x]]:List T)).length=E.length+1:=by simp
 have step:f84_0 (Cc lf d) lf x (bsOf s) lf (E.length:Int) (E.map eT++([T.st [T.s (bsOf s),T.i .i64 x]]:List T))=some [T.i .i64 0,T.i .i64 (E.length:Int),T.s (bsOf s),T.i .i64 x,T.sl (E.map eT++([T.st [T.s (bsOf s),T.i .i64 x]]:List T))]:=by
  conv=>lhs;arg 5;rw[hm]
  rw[f84_0];unfold f84_0_s;by_cases c:0<E.length
  ·have hb:=h _ (qax (show E.length-1<E.length by omega) ([],0));rw[iLt_t (by omega),qc5 c (by omega),qa2 (by rw[hl];omega)];simp only[qa0,Int.toNat_natCast];have eg:(E.map eT++([T.st [T.s (bsOf s),T.i .i64 x]]:List T)).getD (E.length-1) T.u=eT (E.getD (E.length-1) ([],0)):=by rw[List.getD_eq_getElem?_getD,List.getElem?_append_left (by rw[List.length_map];omega),<-List.getD_eq_getElem?_getD,qd7 eT ([],0) (by omega)]
   rw[eg];simp only[eT,cell0,asS_s,qah,hb,Bool.true_or,Bool.not_true,qa1]
  · rw[iLt_f (by omega)];rfl
 rw[List.nil_append,hw,step]at Q;simp only[Option.bind_some,nth0,nthS,asI_i,asL_l,asS_s,Int.toNat_natCast,hset]at Q;rw[nLe_t (by rw[List.length_map];simp;unfold LIM;omega),nLe_t (by simp;unfold LIM;omega),qa2 (by rw[hl];omega)]at Q;rw[List.map_append];exact Q
theorem qrx{lf d:Nat}(hlf:33554432<=lf){X:List Nd}(S:Sml X)(nx:Int){k:Nat}(hk:k<X.length){s:By}(hl:lowN (X.getD k zN) s)(x:Int)(hy:∀z,tl (ndT z (addE (X.getD k zN) s x))<=1000):Cc lf (d+5) 97 [.st [.i .i64 ((k:Int)+1),.i .i64 (X.getD k zN).k,.i .i64 (X.getD k zN).lk,.sl (X.getD k zN).dt,.sl ((X.getD k zN).es.map eT),.sl ((X.getD k zN).ats.map aT),.s (bsOf s)],.st [.sl (TT X),.i .i64 nx],.i .i64 x]=some [.st [.sl (TT (X.set k (addE (X.getD k zN) s x))),.i .i64 nx]]:=by
 have hset:=qru (d:=d) hlf S nx hk hy;have hz:=(qiq (hy 0)).2.1;unfold addE at hset hz|-;unfold lowN at hl;unfold ndT at hset;simp only[List.length_append,List.length_singleton]at hz hset;generalize X.getD k zN=n at hl hset hz|-;have E:=f97_eq (Cc lf (d+4)) lf ((k:Int)+1) n.k n.lk n.dt (n.es.map eT) (n.ats.map aT) (bsOf s) (TT X) nx x;unfold f97 f97_t at E;dsimp only at E;rw[qdg (F:=λm j=>f97_0 (Cc lf (d+4)) lf n.dt (n.es.map eT) (n.ats.map aT) ((k:Int)+1) n.k n.lk (bsOf s) m j) (len:=(n.es.map eT).length) (Y:=some [T.i .i64 1,T.i .i64 ((k:Int)+1),T.i .i64 n.k,T.i .i64 n.lk,T.sl n.dt,T.sl (n.es.map eT),T.sl (n.ats.map aT),T.s (bsOf s)]) (λm j hj=>by
  rw[f97_0];unfold f97_0_s;rw[iLt_t (by omega),qa2 hj,qa3 hj (by rw[List.length_map]at*;omega)];rw[List.length_map]at hj;simp only[qa0,Int.toNat_natCast];rw[qd7 eT ([],0) hj];simp only[eT,cell0,asS_s,qah,hl _ (qax hj _),Bool.true_or,Bool.not_true,qa1]) (λm=>by
  rw[f97_0];unfold f97_0_s;rw[iLt_f (by omega)];rfl) (by rw[List.length_map];omega)]at E
 simp only[Option.bind_some,nth0,nthS,asI_i,asL_l,asS_s]at E;rw[show((1:Int)==0)=false from rfl,qa1,qrz (d:=d+3) (by rw[List.length_map];omega)]at E;simp only[Option.bind_some,nth0,asL_l]at E;rw[c_insE (d:=d+3) rfl (by rw[List.length_map];omega)]at E;simp only[Option.bind_some,nth0,asL_l]at E;rw[List.map_append]at hset;have c:List.map eT [(s,x)]=[T.st [T.s (bsOf s),T.i .i64 x]]:=rfl;rw[c]at hset;rw[hset]at E;exact E
theorem NdOk.addE{k:Nat}{n:Nd}(h:NdOk k n)(hk:n.k=2)(hl:n.es.length<10){s:By}(hs:lowN n s)(hn:nameB (bsOf s)=true){x:Int}(g:2<=x)(h2:x<=1000):NdOk k (addE n s x)where
 kk:=h.kk
 lk:=h.lk
 rt:=h.rt
 dt:=h.dt
 fd:=h.fd
 es:=by show(n.es++[(s,x)]).length<=10;rw[List.length_append,List.length_singleton];omega
 en:=λe he=>by
  rcases List.mem_append.1 (show e∈n.es++[(s,x)]from he)with c|c
  · exact h.en e c
  · rw[List.mem_singleton.1 c];exact⟨hn,g,h2⟩
 er:=List.pairwise_append.2 ⟨h.er,List.pairwise_singleton _ _,λa ha b hb=>by rw[List.mem_singleton.1 hb];exact hs a ha⟩
 al:=h.al
 an:=h.an
 ar:=h.ar
 f1:=λc=>by rw[show(Go.Proofs.YtcfpgocffglbhaaGreatDoor.T.addE n s x).k=n.k from rfl,hk]at c;cases c
 d1:=h.d1
def newN(kd:Int):Nd:=⟨kd,1,[],[],[]⟩
theorem qj9{i:Nat}(hi:i≠0){kd:Int}(hk:kd=1\/kd=2):NdOk i (newN kd)where
 kk:=hk
 lk:=⟨by show(0:Int)<=1;omega,by show(1:Int)<=1000;omega⟩
 rt:=⟨λc=>absurd c (by show¬(1:Int)=0;omega),λc=>absurd c hi⟩
 dt:=Nat.zero_le _
 fd:=⟨Nat.zero_le _,trivial⟩
 es:=Nat.zero_le _
 en:=λe he=>absurd he (by simp[newN])
 er:=List.Pairwise.nil
 al:=Nat.zero_le _
 an:=λe he=>absurd he (by simp[newN])
 ar:=List.Pairwise.nil
 f1:=λ_=>rfl
 d1:=λ_=>⟨rfl,by show(1:Int)<=1;omega⟩
def setE(X:List Nd)(k:Nat)(s:By)(x:Int):List Nd:=X.set k (addE (X.getD k zN) s x)
def mkX(X:List Nd)(k:Nat)(s:By)(kd:Int):List Nd:=setE X k s ((X.length:Int)+1)++[newN kd]
theorem qcd(X:List Nd)(k:Nat)(s:By)(x:Int):(setE X k s x).length=X.length:=List.length_set
def mkC(X:List Nd)(p:By):Int:=if spC X p≠0 then spC X p else if 30<=X.length then 5 else 0
def Low(X:List Nd)(p:By):Prop:=∀k,wk X (parL p) 0=some k->lowN (X.getD k zN) (parN p)
theorem qw4{lf d:Nat}(hlf:33554432<=lf){X:List Nd}(G:Good X){p:By}(hs:p.length<=1048576)(ho:okP p=true)(hL:Low X p){kd:Int}(hkd:kd=1\/kd=2):(mkC X p≠0/\∃r,Cc lf (d+8) 81 [.st [.sl (TT X),.i .i64 ((X.length:Int)+1)],.s (bsOf p),.i .i64 kd]=some [r,.i .i64 (mkC X p)])\/(mkC X p=0/\∃k,wk X (parL p) 0=some k/\k<X.length/\(X.getD k zN).k=2/\(X.getD k zN).es.length<10/\X.length<30/\Cc lf (d+8) 81 [.st [.sl (TT X),.i .i64 ((X.length:Int)+1)],.s (bsOf p),.i .i64 kd]=some [.st [.sl (TT (mkX X k (parN p) kd)),.i .i64 ((X.length:Int)+2)],.i .i64 0]):=by
 have hS:=G.sml.le;have n2:=G.n2;have E:=f81_eq (Cc lf (d+7)) lf (TT X) ((X.length:Int)+1) (bsOf p) kd;unfold f81 f81_t at E;rw[qgn (d:=d+1) hlf _ _ hS,G.tree]at E;simp only[Option.bind_some,nth0,asB_b,Bool.not_true,qa1]at E;unfold mkC;rcases qw1 (d:=d) hlf G ((X.length:Int)+1) hs ho with⟨h0,v,r1,e⟩|⟨h0,k,h,h2,m,q,e⟩
 · rw[e,qk5 (d:=d+5) hlf G.sml]at E;simp only[Option.bind_some,nth0,nthS,asI_i]at E;rw[show(spC X p==0)=false by simpa using h0,show(spC X p !=0)=true by simpa using h0,qa1,qa0]at E;rw[if_pos h0];exact .inl ⟨h0,_,E⟩
 ·rw[e,qk5 (d:=d+5) hlf G.sml]at E;simp only[Option.bind_some,nth0,nthS,asI_i,asL_l,asS_s,cell0,cellS]at E;rw[show((0:Int)==0)=true from rfl,show((0:Int) !=0)=false from rfl,qa0,qa1,qb2]at E;rw[if_neg (by simpa using h0)];by_cases c:30<=X.length;· rw[iLe_t (by omega),qa0]at E;rw[if_pos c];exact .inl ⟨by omega,_,E⟩
  · have hno:=(G.ok k h2).addE m q (hL k h) (qca ho).2.2 (x:=(X.length:Int)+1) (by have:=G.n1;omega) (by omega);have S1:Sml (setE X k (parN p) ((X.length:Int)+1)):=G.sml.set k hno.size;have n1:=G.n1;have j:=qof (d:=d+4) hlf G.sml ((X.length:Int)+1) h2 hno.size;have g:=qw2 (d:=d+4) hlf S1 ((X.length:Int)+1) (qj9 (i:=1) (by omega) hkd).size;rw[qcd]at g;rw[iLe_f (by omega),iLe_f (by omega),qa1,qa1]at E;simp only[ndT,cell0,cellS,asI_i,asL_l]at E;rw[qw3 (d:=d+6) hlf (by have:=(G.ok k h2).es;omega) (hL k h)]at E;simp only[Option.bind_some,nth0,asL_l]at E;unfold addE ndT at j;unfold ndT newN at g;simp only[List.map_nil]at j g;rw[j]at E;simp only[Option.bind_some,nth0,cell0,cellS,asL_l,asI_i]at E;unfold setE addE at g;rw[g,qac (by omega) (by omega),show(X.length:Int)+1+1=(X.length:Int)+2 by omega]at E;rw[if_neg c];exact .inr ⟨rfl,k,h,h2,m,q,by omega,E⟩
theorem qx8{X:List Nd}{p:By}(h:wk X (parL p) 0=none):spC X p=statC (TT X) (jn (parL p)):=by unfold spC;rw[h]
theorem qx7{X:List Nd}{p:By}{k:Nat}(h:wk X (parL p) 0=some k):spC X p=if(X.getD k zN).k≠2 then 3 else if((X.getD k zN).es.find? (λe=>e.1==parN p)).isSome then 4 else if 10<=(X.getD k zN).es.length then 5 else 0:=by unfold spC;rw[h]
theorem qrt{lf d:Nat}(hlf:33554432<=lf){X:List Nd}(G:Good X)(nx:Int){p:By}(hs:p.length<=1048576)(ho:okP p=true):(spC X p≠0/\∃r c,Cc lf (d+8) 95 [.st [.sl (TT X),.i .i64 nx],.s (bsOf p)]=some [r,.i .i64 c]/\c≠0/\c=spC X p)\/(∃k,wk X (parL p) 0=some k/\k<X.length/\(X.getD k zN).k=2/\Cc lf (d+8) 95 [.st [.sl (TT X),.i .i64 nx],.s (bsOf p)]=some [.st [.i .i64 ((k:Int)+1),.i .i64 (X.getD k zN).k,.i .i64 (X.getD k zN).lk,.sl (X.getD k zN).dt,.sl ((X.getD k zN).es.map eT),.sl ((X.getD k zN).ats.map aT),.s (bsOf (parN p))],.i .i64 0]/\∃q,(∀g:Nat,Cc lf (g+1) 96 [.st [.i .i64 ((k:Int)+1),.i .i64 (X.getD k zN).k,.i .i64 (X.getD k zN).lk,.sl (X.getD k zN).dt,.sl ((X.getD k zN).es.map eT),.sl ((X.getD k zN).ats.map aT)],.s (bsOf (parN p))]=some [.i .i64 q])/\((q≠0/\spC X p=4)\/(q=0/\10=(X.getD k zN).es.length/\spC X p=5)\/(q=0/\(X.getD k zN).es.length<10/\spC X p=0))):=by
 obtain⟨v,z,_⟩:=qca ho;have hw:=qlw (TT X) v z;have A:=c_iSpot (d:=d) hlf G nx hs ho;cases e:wk X (parL p) 0 with
 |none=>rw[e]at A;obtain⟨r,A⟩:=A;have:=qee G hw e;rw[<-qx8 e]at this;exact .inl ⟨this,r,_,A,this,rfl⟩
 |some k=>
  rw[e]at A;simp only at A;have hk:=(qb0 G hw e).1;rw[qx7 e];by_cases h:(X.getD k zN).k=2
  ·rw[if_pos h]at A;rw[if_neg (by simpa using h)];refine .inr ⟨k,rfl,hk,h,A,_,λg=>qry hlf _ _ _ _ _ _ _ (by rw[List.length_map];have:=(G.ok k hk).es;omega),?_⟩;rw[qmt];cases m:(X.getD k zN).es.find? (λe=>e.1==parN p)with
   |some x=>have:=((G.ok k hk).en x (qmr m).1).2.1;exact .inl ⟨by simp only;omega,by rw[if_pos (show(some x).isSome=true from rfl)]⟩
   |none=>
    rw[if_neg (by simp)];have:=(G.ok k hk).es;by_cases j:10<=(X.getD k zN).es.length;· exact .inr (.inl ⟨rfl,by omega,by rw[if_pos j]⟩)
    · exact .inr (.inr ⟨rfl,by omega,by rw[if_neg j]⟩)
  · rw[if_neg h]at A;obtain⟨r,A⟩:=A;rw[if_pos h];exact .inl ⟨by omega,r,_,A,by omega,rfl⟩
def qnq(p:By):Prop:=p=[47]\/okP p=true
theorem qiv{lf d:Nat}(hlf:33554432<=lf){p:By}(hs:p.length<=1048576)(h:qnq p):∃r,Cc lf (d+3) 76 [.s (bsOf p)]=some [r,.b true]:=by
 rw[qig hlf p hs];rcases h with c|c
 · rw[beq_iff_eq.2 c];exact⟨_,rfl⟩
 ·cases p==[47]with
  |true=>exact⟨_,rfl⟩
  |false=>rw[c];exact⟨_,rfl⟩
theorem qv9{lf d:Nat}(hlf:33554432<=lf){p:By}(hs:p.length<=1048576)(h:qnq p):∃r,Cc lf (d+5) 109 [.s (bsOf p)]=some [r,.b true]:=by
 rw[qih hlf p hs];rcases h with c|c
 · rw[beq_iff_eq.2 c];exact⟨_,rfl⟩
 ·cases p==[47]with
  |true=>exact⟨_,rfl⟩
  |false=>rw[c];exact⟨_,rfl⟩
theorem qmz{lf d:Nat}(hlf:33554432<=lf){X:List Nd}(G:Good X)(P:List By)(hP:P.length<=100)(h:∀p∈P,p.length<=1048576/\qnq p):Cc lf (d+7) 88 [.st [.sl (TT X),.i .i64 ((X.length:Int)+1)],.sl (SL P)]=some [.b true]:=by
 have E:=f88_eq (Cc lf (d+6)) lf (TT X) ((X.length:Int)+1) (SL P);unfold f88 f88_t at E;dsimp only at E;rw[qdg (F:=λm j=>f88_0 (Cc lf (d+6)) lf (SL P) (TT X) ((X.length:Int)+1) m j) (len:=(SL P).length) (Y:=some [T.i .i64 1,T.sl (TT X),T.i .i64 ((X.length:Int)+1)]) (λm j hj=>by
  rw[f88_0];unfold f88_0_s;rw[qba]at hj;obtain⟨c,h2⟩:=h _ (qax hj []);obtain⟨r,e⟩:=qv9 (lf:=lf) (d:=d+1) hlf c h2;rw[qba,iLt_t (by omega),qa2 hj,qa3 hj (by omega),Int.toNat_natCast,SL_at hj,asS_s,e];rfl) (λm=>by
  rw[f88_0];unfold f88_0_s;rw[iLt_f (by omega)];rfl) (by rw[qba];omega)]at E
 simp only[Option.bind_some,nth0,nthS,asI_i,asL_l]at E;rw[show((1:Int)==0)=false from rfl,qa1,qw7 (d:=d) hlf _ _ G.sml.le,G.tree]at E;exact E
theorem qwa{lf d:Nat}(hlf:33554432<=lf){X:List Nd}(G:Good X){p:By}(hs:p.length<=1048576)(ho:okP p=true)(hL:Low X p){kd:Int}(hkd:kd=1\/kd=2):(mkC X p≠0/\∃r,Cc lf (d+9) 63 [.st [.sl (TT X),.i .i64 ((X.length:Int)+1)],.s (bsOf p),.i .i64 kd]=some [r,.i .i64 (mkC X p)])\/(mkC X p=0/\∃k,wk X (parL p) 0=some k/\Cc lf (d+9) 63 [.st [.sl (TT X),.i .i64 ((X.length:Int)+1)],.s (bsOf p),.i .i64 kd]=some [.st [.sl (TT (mkX X k (parN p) kd)),.i .i64 ((X.length:Int)+2)],.i .i64 0]):=by
 have n2:=G.n2;have n1:=G.n1;have hp:((bsOf p).toList==(⟨#[47]⟩:ByteArray).toList)=false:=by rw[qi5];exact beq_eq_false_iff_ne.2 λc=>by rw[c,qbi]at ho;cases ho
 have E:=f63_eq (Cc lf (d+8)) lf (TT X) ((X.length:Int)+1) (bsOf p) kd;unfold f63 f63_t at E;rw[qhl (d:=d+5) hlf G.sml]at E;simp only[Option.bind_some,nth0,cell0,cellS,asL_l,asI_i]at E;have hr:=qmz (d:=d+1) hlf G [p] (by simp) (λq hq=>by rw[List.mem_singleton.1 hq];exact⟨hs,.inr ho⟩);rw[show SL [p]=[T.s (bsOf p)]from rfl]at hr;rw[hr,hp]at E;simp only[Option.bind_some,nth0,asB_b,Bool.not_true,qa1]at E;unfold mkC;rcases qrt (d:=d) hlf G ((X.length:Int)+1) hs ho with⟨h0,r,c,e,hc,z⟩|⟨k,v,h2,A,e,q,hq,B⟩
 · rw[e]at E;simp only[Option.bind_some,nth0,nthS,asI_i]at E;rw[show(c !=0)=true by simpa using hc,qa0]at E;rw[if_pos h0,<-z];exact .inl ⟨hc,_,E⟩
 ·rw[e]at E;simp only[Option.bind_some,nth0,nthS,cell0,cellS,asI_i,asL_l,asS_s]at E;rw[show((0:Int) !=0)=false from rfl,qa1,hq (d+7)]at E;simp only[Option.bind_some,nth0,asI_i]at E;rcases B with⟨g,h⟩|⟨g,h,m⟩|⟨g,h,m⟩
  · rw[show(q !=0)=true by simpa using g,qa0]at E;rw[h];exact .inl ⟨by simp,_,E⟩
  · rw[g,show((0:Int) !=0)=false from rfl,qa1,List.length_map,<-h]at E;rw[m];exact .inl ⟨by simp,_,E⟩
  ·rw[g,show((0:Int) !=0)=false from rfl,qa1,List.length_map,qb2,beq_eq_false_iff_ne.2 (show(((X.getD k zN).es.length:Nat):Int)≠10 by omega),qa1]at E;rw[m,if_neg (by simp)];by_cases c:30<=X.length;· rw[show(((X.length:Nat):Int)==30)=true by simp;omega,qa0]at E;rw[if_pos c];exact .inl ⟨by omega,_,E⟩
   · have hno:=(G.ok k h2).addE A h (hL k v) (qca ho).2.2 (x:=(X.length:Int)+1) (by omega) (by omega);have S1:Sml (setE X k (parN p) ((X.length:Int)+1)):=G.sml.set k hno.size;have C:=qrx (d:=d+3) hlf G.sml ((X.length:Int)+2) h2 (hL k v) ((X.length:Int)+1) hno.size;have j:=qw8 (d:=d+4) hlf S1 ((X.length:Int)+2) (qj9 (i:=1) (by omega) hkd).size;rw[qcd]at j;rw[show(((X.length:Nat):Int)==30)=false by simp;omega,qa1,show((X.length:Int)+1==1000)=false by simp;omega,qa1,qac (by omega) (by omega),show(X.length:Int)+1+1=(X.length:Int)+2 by omega,C]at E;simp only[Option.bind_some,nth0,cell0,cellS,asL_l,asI_i]at E;unfold ndT newN at j;simp only[List.map_nil]at j;unfold setE at j;rw[j]at E;rw[if_neg c];exact .inr ⟨rfl,k,v,E⟩
def lkN(n:Nd):Nd:={n with lk:=n.lk+1}
def dtN(n:Nd)(D:List T):Nd:={n with dt:=D}
def atN(n:Nd)(A:List (By×By)):Nd:={n with ats:=A}
theorem NdOk.lkN{j:Nat}{n:Nd}(h:NdOk j n)(hk:n.k=1)(h0:j≠0)(g:n.lk<1000):NdOk j (lkN n)where
 kk:=h.kk
 lk:=⟨by have:=h.lk.1;show 0<=n.lk+1;omega,by show n.lk+1<=1000;omega⟩
 rt:=⟨λc=>absurd (show n.lk+1=0 from c) (by have:=h.lk.1;omega),λc=>absurd c h0⟩
 dt:=h.dt
 fd:=h.fd
 es:=h.es
 en:=h.en
 er:=h.er
 al:=h.al
 an:=h.an
 ar:=h.ar
 f1:=h.f1
 d1:=λc=>by rw[show(Go.Proofs.YtcfpgocffglbhaaGreatDoor.T.lkN n).k=n.k from rfl,hk]at c;cases c
theorem NdOk.dtN{j:Nat}{n:Nd}(h:NdOk j n)(hk:n.k=1){D:List T}(g:D.length<=100)(h2:fitC (.sl false [.i .u8]) (.sl D)):NdOk j (dtN n D)where
 kk:=h.kk
 lk:=h.lk
 rt:=h.rt
 dt:=g
 fd:=h2
 es:=h.es
 en:=h.en
 er:=h.er
 al:=h.al
 an:=h.an
 ar:=h.ar
 f1:=h.f1
 d1:=λc=>by rw[show(Go.Proofs.YtcfpgocffglbhaaGreatDoor.T.dtN n D).k=n.k from rfl,hk]at c;cases c
structure AtOk(A:List (By×By)):Prop where
 al:A.length<=4
 an:∀a∈A,nameB (bsOf a.1)=true/\1<=a.2.length/\a.2.length<=16
 ar:A.Pairwise λa b=>Op.bytesLess a.1 b.1=true
theorem NdOk.atN{j:Nat}{n:Nd}(h:NdOk j n){A:List (By×By)}(a:AtOk A):NdOk j (atN n A)where
 kk:=h.kk
 lk:=h.lk
 rt:=h.rt
 dt:=h.dt
 fd:=h.fd
 es:=h.es
 en:=h.en
 er:=h.er
 al:=a.al
 an:=a.an
 ar:=a.ar
 f1:=h.f1
 d1:=h.d1
structure IsF(X:List Nd)(p:By)(j:Nat):Prop where
 ok:okP p=true
 sz:p.length<=1048576
 w:wk X (nmP p) 0=some j
 f:(X.getD j zN).k=1
theorem qw6{lf d:Nat}(hlf:33554432<=lf){X:List Nd}(G:Good X)(nx:Int){p:By}{j:Nat}(h:IsF X p j):Cc lf (d+7) 82 [.st [.sl (TT X),.i .i64 nx],.s (bsOf p)]=some [ndT ((j:Int)+1) (X.getD j zN),.i .i64 0]:=by obtain⟨g,h2,c⟩:=qb0 G (qed (TT X) h.ok) h.w;have E:=f82_eq (Cc lf (d+6)) lf (TT X) nx (bsOf p);unfold f82 f82_t at E;rw[qgo (d:=d) hlf (TT X) nx G.sml.le p h.sz,h2,c]at E;simp only[Option.bind_some,nth0,nthS,asI_i,ndT,cell0,cellS,h.f]at E;refine E.trans ?_;unfold ndT;rw[h.f];rfl
theorem qwc{lf d:Nat}(hlf:33554432<=lf){X:List Nd}(G:Good X)(nx:Int){p:By}{j:Nat}(h:IsF X p j):Cc lf (d+8) 98 [.st [.sl (TT X),.i .i64 nx],.s (bsOf p)]=some [ndT ((j:Int)+1) (X.getD j zN),.i .i64 0]:=by obtain⟨g,h2,c⟩:=qb0 G (qed (TT X) h.ok) h.w;have E:=f98_eq (Cc lf (d+7)) lf (TT X) nx (bsOf p);unfold f98 f98_t at E;rw[qn0 (d:=d) hlf (TT X) nx G.sml.le p h.sz,h2,c]at E;simp only[Option.bind_some,nth0,nthS,asI_i,ndT,cell0,cellS,h.f]at E;refine E.trans ?_;unfold ndT;rw[h.f];rfl
def lkX(X:List Nd)(k:Nat)(s:By)(j:Nat):List Nd:=(setE X k s ((j:Int)+1)).set j (lkN (X.getD j zN))
theorem qw5{lf d:Nat}(hlf:33554432<=lf){X:List Nd}(G:Good X){f p:By}{j:Nat}(hf:IsF X f j)(hj:j≠0)(hlk:(X.getD j zN).lk<1000)(hs:p.length<=1048576)(ho:okP p=true)(hL:Low X p):(spC X p≠0/\∃r,Cc lf (d+8) 52 [.st [.sl (TT X),.i .i64 ((X.length:Int)+1)],.s (bsOf f),.s (bsOf p)]=some [r,.i .i64 (spC X p)])\/(spC X p=0/\∃k,wk X (parL p) 0=some k/\k<X.length/\(X.getD k zN).k=2/\(X.getD k zN).es.length<10/\j<X.length/\Cc lf (d+8) 52 [.st [.sl (TT X),.i .i64 ((X.length:Int)+1)],.s (bsOf f),.s (bsOf p)]=some [.st [.sl (TT (lkX X k (parN p) j)),.i .i64 ((X.length:Int)+1)],.i .i64 0]):=by
 have hS:=G.sml.le;have n2:=G.n2;have n1:=G.n1;have hjl:=(qb0 G (qed (TT X) hf.ok) hf.w).1;obtain⟨rs,es⟩:=qiv (lf:=lf) (d:=d+4) hlf hf.sz (.inr hf.ok);have E:=f52_eq (Cc lf (d+7)) lf (TT X) ((X.length:Int)+1) (bsOf f) (bsOf p);unfold f52 f52_t at E;rw[es,qog (d:=d+3) hlf p hs ho,qgn (d:=d+1) hlf _ _ hS,G.tree,qw6 (d:=d) hlf G _ hf]at E;simp only[Option.bind_some,nth0,nthS,asB_b,Bool.not_true,qa1,asI_i]at E;rw[show((0:Int) !=0)=false from rfl,qa1]at E;rcases qw1 (d:=d) hlf G ((X.length:Int)+1) hs ho with⟨h0,z,r1,e⟩|⟨hz,k,h,h2,g,v,e⟩
 · rw[e,qk5 (d:=d+5) hlf G.sml]at E;simp only[Option.bind_some,nth0,nthS,asI_i]at E;rw[show(spC X p !=0)=true by simpa using h0,qa0]at E;exact .inl ⟨h0,_,E⟩
 ·rw[e]at E;simp only[Option.bind_some,nth0,nthS,asI_i,asS_s]at E;rw[show((0:Int) !=0)=false from rfl,qa1]at E;have hkj:k≠j:=λc=>by rw[c,hf.f]at g;cases g
  have hno:=(G.ok k h2).addE g v (hL k h) (qca ho).2.2 (x:=(j:Int)+1) (by omega) (by omega);have hnl:=(G.ok j hjl).lkN hf.f hj hlk;have S1:Sml (X.set j (lkN (X.getD j zN))):=G.sml.set j hnl.size;have m:=qof (d:=d+4) hlf G.sml ((X.length:Int)+1) hjl hnl.size;have q:=qof (d:=d+4) hlf S1 ((X.length:Int)+1) (i:=k) (by rw[List.length_set];exact h2) hno.size;have h0:=(G.ok j hjl).lk;simp only[ndT,cell0,cellS,asI_i,asL_l]at E;rw[qw3 (d:=d+6) hlf (by have:=(G.ok k h2).es;omega) (hL k h),qac (by omega) (by omega)]at E;simp only[Option.bind_some,nth0,asL_l]at E;unfold lkN ndT at m;simp only at m;rw[m]at E;simp only[Option.bind_some,nth0,cell0,cellS,asL_l,asI_i]at E;unfold addE lkN ndT at q;simp only at q;rw[q]at E;refine .inr ⟨hz,k,h,h2,g,v,hjl,E.trans ?_⟩;unfold lkX setE;rw[List.set_comm _ _ hkj];rfl
theorem qwb{lf d:Nat}(hlf:33554432<=lf){X:List Nd}(G:Good X){f p:By}{j:Nat}(hf:IsF X f j)(hj:j≠0)(hlk:(X.getD j zN).lk<1000)(hs:p.length<=1048576)(ho:okP p=true)(hL:Low X p):(spC X p≠0/\∃r,Cc lf (d+9) 64 [.st [.sl (TT X),.i .i64 ((X.length:Int)+1)],.s (bsOf f),.s (bsOf p)]=some [r,.i .i64 (spC X p)])\/(spC X p=0/\∃k,wk X (parL p) 0=some k/\Cc lf (d+9) 64 [.st [.sl (TT X),.i .i64 ((X.length:Int)+1)],.s (bsOf f),.s (bsOf p)]=some [.st [.sl (TT (lkX X k (parN p) j)),.i .i64 ((X.length:Int)+1)],.i .i64 0]):=by
 have n2:=G.n2;have n1:=G.n1;have hjl:=(qb0 G (qed (TT X) hf.ok) hf.w).1;have hp:((bsOf p).toList==(⟨#[47]⟩:ByteArray).toList)=false:=by rw[qi5];exact beq_eq_false_iff_ne.2 λc=>by rw[c,qbi]at ho;cases ho
 have E:=f64_eq (Cc lf (d+8)) lf (TT X) ((X.length:Int)+1) (bsOf f) (bsOf p);unfold f64 f64_t at E;rw[qhl (d:=d+5) hlf G.sml]at E;simp only[Option.bind_some,nth0,cell0,cellS,asL_l,asI_i]at E;have hr:=qmz (d:=d+1) hlf G [f,p] (by simp) (λq hq=>by
  rcases List.mem_cons.1 hq with c|c
  · rw[c];exact⟨hf.sz,.inr hf.ok⟩
  · rw[List.mem_singleton.1 c];exact⟨hs,.inr ho⟩)
 rw[show SL [f,p]=[T.s (bsOf f),T.s (bsOf p)]from rfl]at hr;rw[hr,hp,qwc (d:=d) hlf G _ hf]at E;simp only[Option.bind_some,nth0,nthS,asB_b,asI_i,Bool.not_true,qa1]at E;rw[show((0:Int) !=0)=false from rfl,qa1]at E;rcases qrt (d:=d) hlf G ((X.length:Int)+1) hs ho with⟨h0,r,c,e,hc,A⟩|⟨k,v,h2,z,e,q,hq,C⟩
 · rw[e]at E;simp only[Option.bind_some,nth0,nthS,asI_i]at E;rw[show(c !=0)=true by simpa using hc,qa0]at E;rw[<-A];exact .inl ⟨hc,_,E⟩
 ·rw[e]at E;simp only[Option.bind_some,nth0,nthS,cell0,cellS,asI_i,asL_l,asS_s]at E;rw[show((0:Int) !=0)=false from rfl,qa1,hq (d+7)]at E;simp only[Option.bind_some,nth0,asI_i]at E;rcases C with⟨g,h⟩|⟨g,h,m⟩|⟨g,h,m⟩
  · rw[show(q !=0)=true by simpa using g,qa0]at E;rw[h];exact .inl ⟨by simp,_,E⟩
  · rw[g,show((0:Int) !=0)=false from rfl,qa1,List.length_map,<-h]at E;rw[m];exact .inl ⟨by simp,_,E⟩
  ·rw[g,show((0:Int) !=0)=false from rfl,qa1,List.length_map,beq_eq_false_iff_ne.2 (show(((X.getD k zN).es.length:Nat):Int)≠10 by omega),qa1]at E;have hkj:k≠j:=λc=>by rw[c,hf.f]at z;cases z
   have hno:=(G.ok k h2).addE z h (hL k v) (qca ho).2.2 (x:=(j:Int)+1) (by omega) (by omega);have hnl:=(G.ok j hjl).lkN hf.f hj hlk;have S1:Sml (setE X k (parN p) ((j:Int)+1)):=G.sml.set k hno.size;have D:=qrx (d:=d+3) hlf G.sml ((X.length:Int)+1) h2 (hL k v) ((j:Int)+1) hno.size;have B:=qru (d:=d+4) hlf S1 ((X.length:Int)+1) (i:=j) (by rw[qcd];exact hjl) hnl.size;have h0:=(G.ok j hjl).lk;simp only[ndT,cell0,cellS,asI_i,asL_l]at E;rw[D]at E;simp only[Option.bind_some,nth0,cell0,cellS,asL_l,asI_i]at E;unfold lkN ndT setE at B;simp only at B;rw[qac (by omega) (by omega),B]at E;exact .inr ⟨m,k,v,E⟩
theorem qaa{X:List Nd}{k:Nat}(h:k<X.length)(y:Nd):(X.set k y).getD k zN=y:=by simp[List.getD_eq_getElem?_getD,h]
theorem getD_set_ne{X:List Nd}{k i:Nat}(h:i≠k)(y:Nd):(X.set k y).getD i zN=X.getD i zN:=by simp[List.getD_eq_getElem?_getD,List.getElem?_set_ne (Ne.symm h)]
theorem qe6{X:List Nd}{i:Nat}(h:i<X.length)(Y:List Nd):(X++Y).getD i zN=X.getD i zN:=by simp[List.getD_eq_getElem?_getD,List.getElem?_append_left h]
theorem qju(X:List Nd)(y:Nd):(X++[y]).getD X.length zN=y:=by simp[List.getD_eq_getElem?_getD]
theorem qm7{x:Int}(y:Nd):∀{X:List Nd}{k:Nat},k<X.length->refs (X.set k y) x+(X.getD k zN).es.countP (·.2==x)=refs X x+y.es.countP (·.2==x)
|a::X,0,_=>by simp only[refs,List.set_cons_zero,List.flatMap_cons,List.countP_append,List.getD_cons_zero];omega
|a::X,k+1,h=>by have:=qm7 (x:=x) y (X:=X) (k:=k) (by simpa using h);simp only[refs,List.set_cons_succ,List.flatMap_cons,List.countP_append,List.getD_cons_succ]at this|-;omega
theorem qu0(X:List Nd)(y:Nd)(x:Int):refs (X++[y]) x=refs X x+y.es.countP (·.2==x):=by simp[refs,List.flatMap_append,List.countP_append]
theorem qnk{X:List Nd}{k:Nat}{y:Nd}(h:k<X.length)(e:y.es=(X.getD k zN).es)(x:Int):refs (X.set k y) x=refs X x:=by have:=qm7 (x:=x) y h;rw[e]at this;omega
theorem qnl{X:List Nd}{k:Nat}(h:k<X.length)(s:By)(z x:Int):refs (setE X k s z) x=refs X x+if z=x then 1 else 0:=by
 have:=qm7 (x:=x) (addE (X.getD k zN) s z) h;unfold addE at this;rw[List.countP_append]at this;unfold setE addE;have e:[(s,z)].countP (λa:By×Int=>a.2==x)=if z=x then 1 else 0:=by
  by_cases c:z=x;· simp[c]
  · simp[c]
 rw[e]at this;omega
theorem qm8{X:List Nd}(G:Good X)(x:Int):refs X x<=300:=by
 have h:∀(Y:List Nd),(∀n∈Y,n.es.length<=10)->(Y.flatMap (·.es)).length<=10*Y.length:=by
  intro Y;induction Y with
  |nil=>intro _;simp
  |cons a Y ih=>intro hY;have c:=ih λn hn=>hY n (by simp[hn]);have h2:=hY a (by simp);simp only[List.flatMap_cons,List.length_append,List.length_cons];omega
 have c:=h X λn hn=>by obtain⟨i,hi,rfl⟩:=List.getElem_of_mem hn;have:=(G.ok i hi).es;rwa[List.getD_eq_getElem?_getD,List.getElem?_eq_getElem hi]at this
 have h2:=G.n2;have g:=List.countP_le_length (p:=λa:By×Int=>a.2==x) (l:=X.flatMap (·.es));unfold refs;omega
theorem qu1{X:List Nd}(G:Good X){x:Int}(h:(X.length:Int)<x):refs X x=0:=by unfold refs;rw[List.countP_eq_zero];intro e he;obtain⟨n,hn,c⟩:=List.mem_flatMap.1 he;obtain⟨i,hi,rfl⟩:=List.getElem_of_mem hn;have:=G.inr i hi e (by rw[List.getD_eq_getElem?_getD,List.getElem?_eq_getElem hi];exact c);simp only[beq_iff_eq];omega
theorem Good.same{X:List Nd}(G:Good X){k:Nat}(hk:k<X.length){y:Nd}(hy:NdOk k y)(h:y.k=(X.getD k zN).k)(m:y.lk=(X.getD k zN).lk)(g:y.es=(X.getD k zN).es):Good (X.set k y)where
 n1:=by rw[List.length_set];exact G.n1
 n2:=by rw[List.length_set];exact G.n2
 rt:=by
  by_cases c:0=k;· subst c;rw[qaa hk,h];exact G.rt
  · rw[getD_set_ne c];exact G.rt
 ok:=λi hi=>by
  rw[List.length_set]at hi;by_cases c:i=k;· subst c;rw[qaa hk];exact hy
  · rw[getD_set_ne c];exact G.ok i hi
 inr:=λi hi=>by
  rw[List.length_set]at hi|-;by_cases c:i=k;· subst c;rw[qaa hk,g];exact G.inr i hi
  · rw[getD_set_ne c];exact G.inr i hi
 par:=λj q h2=>by
  rw[List.length_set]at h2;obtain⟨i,hi,a,b⟩:=G.par j q h2;refine⟨i,hi,?_⟩;by_cases c:i=k;· subst c;rw[qaa hk,h,g];exact⟨a,b⟩
  · rw[getD_set_ne c];exact⟨a,b⟩
 lks:=λj hj=>by
  rw[List.length_set]at hj;rw[qnk hk g,<-G.lks j hj];by_cases c:j=k;· subst c;rw[qaa hk,m]
  · rw[getD_set_ne c]
theorem Good.make{X:List Nd}(G:Good X)(q:X.length<30){k:Nat}(hk:k<X.length)(hd:(X.getD k zN).k=2)(hl:(X.getD k zN).es.length<10){s:By}(hs:lowN (X.getD k zN) s)(hn:nameB (bsOf s)=true){kd:Int}(hkd:kd=1\/kd=2):Good (mkX X k s kd):=by
 have n1:=G.n1;have hno:=(G.ok k hk).addE hd hl hs hn (x:=(X.length:Int)+1) (by omega) (by omega);have len:(setE X k s ((X.length:Int)+1)).length=X.length:=qcd ..;have atk:(mkX X k s kd).getD k zN=addE (X.getD k zN) s ((X.length:Int)+1):=by unfold mkX;rw[qe6 (by omega)];exact qaa hk _
 have ato:∀i,i<X.length->i≠k->(mkX X k s kd).getD i zN=X.getD i zN:=λi hi hne=>by unfold mkX;rw[qe6 (by omega)];exact getD_set_ne hne _
 have atn:(mkX X k s kd).getD X.length zN=newN kd:=by have h:=qju (setE X k s ((X.length:Int)+1)) (newN kd);rw[len]at h;exact h
 have ln:(mkX X k s kd).length=X.length+1:=by unfold mkX;simp[len]
 refine⟨by omega,by omega,?_,λi hi=>?_,λi hi=>?_,λj m h2=>?_,λj hj=>?_⟩
 ·by_cases c:0=k;· subst c;rw[atk];exact hd
  · rw[ato 0 (by omega) c];exact G.rt
 ·by_cases c:i=X.length;· subst c;rw[atn];exact qj9 (by omega) hkd
  ·by_cases g:i=k;· subst g;rw[atk];exact hno
   · rw[ato i (by omega) g];exact G.ok i (by omega)
 ·rw[ln];by_cases c:i=X.length;· subst c;rw[atn];intro e he;cases he
  ·by_cases g:i=k
   ·subst g;rw[atk];intro e he;rcases List.mem_append.1 he with he|he
    · have:=G.inr i hk e he;omega
    · rw[List.mem_singleton.1 he];show(X.length:Int)+1<=_;omega
   · rw[ato i (by omega) g];intro e he;have:=G.inr i (by omega) e he;omega
 ·by_cases c:j=X.length;· subst c;exact⟨k,hk,by rw[atk];exact hd,(s,(X.length:Int)+1),by rw[atk];exact List.mem_append_right _ (by simp),rfl⟩
  ·obtain⟨i,hi,a,e,he,b⟩:=G.par j m (by omega);refine⟨i,hi,?_⟩;by_cases g:i=k;· subst g;rw[atk];exact⟨hd,e,List.mem_append_left _ he,b⟩
   · rw[ato i (by omega) g];exact⟨a,e,he,b⟩
 ·have hr:∀x,refs (mkX X k s kd) x=refs X x+if(X.length:Int)+1=x then 1 else 0:=λx=>by unfold mkX;rw[qu0,qnl hk];rfl
  rw[hr];by_cases c:j=X.length;· subst c;rw[atn,qu1 G (by omega),if_pos rfl];rfl
  ·rw[if_neg (by omega),Nat.add_zero,<-G.lks j (by omega)];by_cases g:j=k;· subst g;rw[atk];rfl
   · rw[ato j (by omega) g]
theorem Good.link{X:List Nd}(G:Good X){k j:Nat}(hk:k<X.length)(hd:(X.getD k zN).k=2)(hl:(X.getD k zN).es.length<10){s:By}(hs:lowN (X.getD k zN) s)(hn:nameB (bsOf s)=true)(hj:j<X.length)(h:j≠0)(hf:(X.getD j zN).k=1):Good (lkX X k s j):=by
 have n1:=G.n1;have n2:=G.n2;have hkj:j≠k:=λc=>by rw[<-c,hf]at hd;cases hd
 have hlk:(X.getD j zN).lk<1000:=by rw[G.lks j hj];have:=qm8 G ((j:Int)+1);omega
 have hno:=(G.ok k hk).addE hd hl hs hn (x:=(j:Int)+1) (by omega) (by omega);have hnl:=(G.ok j hj).lkN hf h hlk;have len:(setE X k s ((j:Int)+1)).length=X.length:=qcd ..;have ln:(lkX X k s j).length=X.length:=by unfold lkX;rw[List.length_set,len]
 have atj:(lkX X k s j).getD j zN=lkN (X.getD j zN):=by unfold lkX;exact qaa (by omega) _
 have atk:(lkX X k s j).getD k zN=addE (X.getD k zN) s ((j:Int)+1):=by unfold lkX;rw[getD_set_ne (Ne.symm hkj)];exact qaa hk _
 have ato:∀i,i≠k->i≠j->(lkX X k s j).getD i zN=X.getD i zN:=λi q h2=>by unfold lkX;rw[getD_set_ne h2];exact getD_set_ne q _
 have hr:∀x,refs (lkX X k s j) x=refs X x+if(j:Int)+1=x then 1 else 0:=λx=>by rw[<-qnl hk];refine qnk (by omega) ?_ x;unfold setE;rw[getD_set_ne hkj];rfl
 refine⟨by omega,by omega,?_,λi hi=>?_,λi hi=>?_,λi q h2=>?_,λi hi=>?_⟩
 ·by_cases c:0=k;· subst c;rw[atk];exact hd
  · rw[ato 0 c (Ne.symm h)];exact G.rt
 ·by_cases c:i=k;· subst c;rw[atk];exact hno
  ·by_cases g:i=j;· subst g;rw[atj];exact hnl
   · rw[ato i c g];exact G.ok i (by omega)
 ·rw[ln];by_cases c:i=k
  ·subst c;rw[atk];intro e he;rcases List.mem_append.1 he with he|he
   · exact G.inr i hk e he
   · rw[List.mem_singleton.1 he];show(j:Int)+1<=_;omega
  ·by_cases g:i=j;· subst g;rw[atj];exact G.inr i hj
   · rw[ato i c g];exact G.inr i (by omega)
 ·obtain⟨m,hm,a,e,he,b⟩:=G.par i q (by omega);refine⟨m,hm,?_⟩;by_cases c:m=k;· subst c;rw[atk];exact⟨hd,e,List.mem_append_left _ he,b⟩
  ·have g:m≠j:=λc=>by rw[c,hf]at a;cases a
   rw[ato m c g];exact⟨a,e,he,b⟩
 ·rw[hr];by_cases c:i=j;· subst c;rw[atj,if_pos rfl];show(X.getD i zN).lk+1=_;rw[G.lks i hj];omega
  ·rw[if_neg (by omega),Nat.add_zero,<-G.lks i (by omega)];by_cases g:i=k;· subst g;rw[atk];rfl
   · rw[ato i g c]
theorem wk_lt{X:List Nd}(G:Good X){N:List By}{i j:Nat}(hi:i<X.length)(h:wk X N i=some j):j<X.length:=by have:=qft G N i hi;unfold wkB at this;rw[h]at this;exact this.1
theorem qth{X:List Nd}(G:Good X){i:Nat}(hi:i<X.length){s:By}{e:By×Int}(h:(X.getD i zN).es.find? (λe=>e.1==s)=some e):1<=e.2.toNat-1/\e.2.toNat-1<X.length:=by have c:=(qmr h).1;have h2:=((G.ok i hi).en e c).2.1;have g:=G.inr i hi e c;omega
theorem qlv{X:List Nd}{k:Nat}(hk:k<X.length){y:Nd}(g:y.k=(X.getD k zN).k)(h:y.es=(X.getD k zN).es):∀(N:List By)(i:Nat),wk (X.set k y) N i=wk X N i
|[],i=>rfl
|s::ss,i=>by
 have j:((X.set k y).getD i zN).k=(X.getD i zN).k:=by
  by_cases c:i=k;· subst c;rw[qaa hk,g]
  · rw[getD_set_ne c]
 have h2:((X.set k y).getD i zN).es=(X.getD i zN).es:=by
  by_cases c:i=k;· subst c;rw[qaa hk,h]
  · rw[getD_set_ne c]
 unfold wk;rw[j,h2];by_cases c:(X.getD i zN).k=2
 ·rw[if_pos c,if_pos c];cases(X.getD i zN).es.find? (λe=>e.1==s)with
  |none=>rfl
  |some e=>exact qlv hk g h ss _
 · rw[if_neg c,if_neg c]
theorem qti(X:List Nd)(M:List By):∀(N:List By)(i:Nat),wk X (N++M) i=(wk X N i).bind (wk X M)
|[],i=>rfl
|s::ss,i=>by
 show wk X (s::(ss++M)) i=_;unfold wk;by_cases c:(X.getD i zN).k=2
 ·rw[if_pos c,if_pos c];cases(X.getD i zN).es.find? (λe=>e.1==s)with
  |none=>rfl
  |some e=>exact qti X M ss _
 · rw[if_neg c,if_neg c];rfl
structure Ext(X X':List Nd)(k:Nat)(s:By)(z:Nat):Prop where
 hk:k<X.length
 kd:(X.getD k zN).k=2
 kk:∀i,i<X.length->(X'.getD i zN).k=(X.getD i zN).k
 ek:(X'.getD k zN).es=(X.getD k zN).es++[(s,(z:Int)+1)]
 es:∀i,i<X.length->i≠k->(X'.getD i zN).es=(X.getD i zN).es
 lf:(X'.getD z zN).k≠2\/(X'.getD z zN).es=[]
theorem Ext.mono{X X':List Nd}{k z:Nat}{s:By}(E:Ext X X' k s z)(G:Good X):∀(N:List By)(i j:Nat),i<X.length->wk X N i=some j->wk X' N i=some j
|[],i,j,hi,h=>h
|a::N,i,j,hi,h=>by
 unfold wk at h|-;rw[E.kk i hi];by_cases c:(X.getD i zN).k=2
 ·rw[if_pos c]at h|-;cases e:(X.getD i zN).es.find? (λe=>e.1==a)with
  |none=>rw[e]at h;cases h
  |some x=>
   rw[e]at h;have e':(X'.getD i zN).es.find? (λe=>e.1==a)=some x:=by
    by_cases g:i=k;· subst g;rw[E.ek,List.find?_append,e];rfl
    · rw[E.es i hi g,e]
   rw[e'];exact Ext.mono E G N _ j (qth G hi e).2 h
 · rw[if_neg c]at h;cases h
theorem Ext.new{X X':List Nd}{k z:Nat}{s:By}(E:Ext X X' k s z)(G:Good X):∀(N:List By)(i j:Nat),i<X.length->wk X' N i=some j->wk X N i=some j\/∃N1,N=N1++[s]/\wk X N1 i=some k/\j=z
|[],i,j,hi,h=>.inl h
|a::N,i,j,hi,h=>by
 unfold wk at h;rw[E.kk i hi]at h;by_cases c:(X.getD i zN).k=2
 ·rw[if_pos c]at h;cases e:(X.getD i zN).es.find? (λe=>e.1==a)with
  |some x=>
   have e':(X'.getD i zN).es.find? (λe=>e.1==a)=some x:=by
    by_cases g:i=k;· subst g;rw[E.ek,List.find?_append,e];rfl
    · rw[E.es i hi g,e]
   rw[e']at h;have hw:∀M,wk X (a::M) i=wk X M (x.2.toNat-1):=λM=>by rw[wk,if_pos c,e]
   rcases Ext.new E G N _ j (qth G hi e).2 h with h|⟨N1,B,h2,C⟩
   · exact .inl (by rw[hw];exact h)
   · exact .inr ⟨a::N1,by rw[B];rfl,by rw[hw];exact h2,C⟩
  |none=>
   by_cases g:i=k
   ·subst g;rw[E.ek,List.find?_append,e]at h;by_cases v:s=a
    ·subst v;have q:[(s,(z:Int)+1)].find? (λe=>e.1==s)=some (s,(z:Int)+1):=by simp
     rw[q]at h;simp only[Option.none_or]at h;rw[show((z:Int)+1).toNat-1=z by omega]at h;cases N with
     |nil=>exact .inr ⟨[],rfl,rfl,(Option.some.inj h).symm⟩
     |cons b N=>
      unfold wk at h;rcases E.lf with m|m
      · rw[if_neg m]at h;cases h
      ·rw[m]at h;by_cases A:(X'.getD z zN).k=2;· rw[if_pos A]at h;cases h
       · rw[if_neg A]at h;cases h
    ·have q:[(s,(z:Int)+1)].find? (λe=>e.1==a)=none:=by simp[v]
     rw[q]at h;cases h
   · rw[E.es i hi g,e]at h;cases h
 · rw[if_neg c]at h;cases h
theorem Ext.add{X X':List Nd}{k z:Nat}{s:By}(E:Ext X X' k s z)(G:Good X){N:List By}(h:wk X N 0=some k)(hs:(X.getD k zN).es.find? (λe=>e.1==s)=none):wk X' (N++[s]) 0=some z:=by
 rw[qti,E.mono G N 0 k (by have:=G.n1;omega) h];show wk X' [s] k=some z;unfold wk;rw[E.kk k E.hk,if_pos E.kd,E.ek,List.find?_append,hs];have c:[(s,(z:Int)+1)].find? (λe=>e.1==s)=some (s,(z:Int)+1):=by simp
 rw[c];simp only[Option.none_or];rw[show((z:Int)+1).toNat-1=z by omega];rfl
theorem Ext.set{X X':List Nd}{k z:Nat}{s:By}(E:Ext X X' k s z)(hz:z<X'.length)(c:X.length<=z){y:Nd}(h:y.k≠2\/y.es=[]):Ext X (X'.set z y) k s z where
 hk:=E.hk
 kd:=E.kd
 kk:=λi hi=>by rw[getD_set_ne (by omega)];exact E.kk i hi
 ek:=by rw[getD_set_ne (by have:=E.hk;omega)];exact E.ek
 es:=λi hi hne=>by rw[getD_set_ne (by omega)];exact E.es i hi hne
 lf:=by rw[qaa hz];exact h
theorem qjb{X:List Nd}{k:Nat}(hk:k<X.length)(s:By)(kd:Int):(mkX X k s kd).length=X.length+1/\(mkX X k s kd).getD k zN=addE (X.getD k zN) s ((X.length:Int)+1)/\(mkX X k s kd).getD X.length zN=newN kd/\∀i,i<X.length->i≠k->(mkX X k s kd).getD i zN=X.getD i zN:=by have len:(setE X k s ((X.length:Int)+1)).length=X.length:=qcd ..;refine⟨by unfold mkX;simp[len],by unfold mkX;rw[qe6 (by omega)];exact qaa hk _,?_,λi hi hne=>by unfold mkX;rw[qe6 (by omega)];exact getD_set_ne hne _⟩;have h:=qju (setE X k s ((X.length:Int)+1)) (newN kd);rw[len]at h;exact h
theorem mkX_ext{X:List Nd}{k:Nat}(hk:k<X.length)(hd:(X.getD k zN).k=2)(s:By)(kd:Int):Ext X (mkX X k s kd) k s X.length:=by
 obtain⟨h,g,a3,a4⟩:=qjb hk s kd;refine⟨hk,hd,λi hi=>?_,by rw[g];rfl,λi hi hne=>by rw[a4 i hi hne],.inr (by rw[a3];rfl)⟩;by_cases c:i=k;· subst c;rw[g];rfl
 · rw[a4 i hi c]
theorem qz9{X:List Nd}{k j:Nat}(hk:k<X.length)(hj:j<X.length)(hkj:j≠k)(s:By):(lkX X k s j).length=X.length/\(lkX X k s j).getD j zN=lkN (X.getD j zN)/\(lkX X k s j).getD k zN=addE (X.getD k zN) s ((j:Int)+1)/\∀i,i≠k->i≠j->(lkX X k s j).getD i zN=X.getD i zN:=by have len:(setE X k s ((j:Int)+1)).length=X.length:=qcd ..;refine⟨by unfold lkX;rw[List.length_set,len],by unfold lkX;exact qaa (by omega) _,by unfold lkX;rw[getD_set_ne (Ne.symm hkj)];exact qaa hk _,λi c h2=>by unfold lkX;rw[getD_set_ne h2];exact getD_set_ne c _⟩
theorem lkX_ext{X:List Nd}{k j:Nat}(hk:k<X.length)(hd:(X.getD k zN).k=2)(hj:j<X.length)(hf:(X.getD j zN).k=1)(s:By):Ext X (lkX X k s j) k s j:=by
 have hkj:j≠k:=λc=>by rw[<-c,hf]at hd;cases hd
 obtain⟨m,h,a3,a4⟩:=qz9 hk hj hkj s;refine⟨hk,hd,λi hi=>?_,by rw[a3];rfl,λi hi hne=>?_,.inl (by rw[h];show(X.getD j zN).k≠2;omega)⟩
 ·by_cases c:i=k;· subst c;rw[a3];rfl
  ·by_cases g:i=j;· subst g;rw[h];rfl
   · rw[a4 i c g]
 ·by_cases g:i=j;· subst g;rw[h];rfl
  · rw[a4 i hne g]
structure En where
 p:By
 kd:Int
 dt:List T
 ats:List (By×By)
 fr:By
def zE:En:=⟨[],0,[],[],[]⟩
structure EsOk(L:List En):Prop where
 len:L.length<=200
 op:∀i,i<L.length->okP (L.getD i zE).p=true/\(L.getD i zE).p.length<=1048576
 kd:∀i,i<L.length->(L.getD i zE).kd=1\/(L.getD i zE).kd=2
 dt:∀i,i<L.length->(L.getD i zE).dt.length<=100/\fitC (.sl false [.i .u8]) (.sl (L.getD i zE).dt)
 ats:∀i,i<L.length->AtOk (L.getD i zE).ats
 dir:∀i,i<L.length->(L.getD i zE).kd=2->(L.getD i zE).dt=[]/\(L.getD i zE).fr=(L.getD i zE).p
 up:∀i j,i<j->j<L.length->Op.bytesLess (L.getD i zE).p (L.getD j zE).p=true
 ref:∀i,i<L.length->(L.getD i zE).fr=(L.getD i zE).p\/∃k,k<i/\(L.getD k zE).p=(L.getD i zE).fr/\(L.getD k zE).kd=1/\(L.getD k zE).ats=(L.getD i zE).ats
structure Inv(L:List En)(X:List Nd)(n:Nat):Prop where
 good:Good X
 sub:∀N k,wk X N 0=some k->N=[]\/∃i,i<n/\N=nmP (L.getD i zE).p
 has:∀i,i<n->∃j,j≠0/\wk X (nmP (L.getD i zE).p) 0=some j/\(X.getD j zN).k=(L.getD i zE).kd/\(X.getD j zN).ats=(L.getD i zE).ats
 uni:∀N M k,wk X N 0=some k->wk X M 0=some k->(X.getD k zN).k=2->N=M
theorem qml:∀(a:By){b c:By},Op.bytesLess (a++b) (a++c)=Op.bytesLess b c
|[],_,_=>rfl
|x::a,b,c=>by have h:=qml a (b:=b) (c:=c);show Op.bytesLess (x::(a++b)) (x::(a++c))=_;rw[Op.bytesLess,h];simp[UInt8.lt_irrefl]
theorem qre(N:List By)(s:By):flt (N++[s])=flt N++([47]++s):=by rw[flt_app];simp[flt]
theorem Inv.low{L:List En}{X:List Nd}{n:Nat}(H:EsOk L)(I:Inv L X n)(hn:n<L.length):Low X (L.getD n zE).p:=by
 intro k hk e he;have G:=I.good;have hkl:=wk_lt G (by have:=G.n1;omega) hk;have hd:(X.getD k zN).k=2:=by
  rcases(G.ok k hkl).kk with c|c
  · have:=(G.ok k hkl).f1 c;rw[this]at he;cases he
  · exact c
 have hw:∃j,wk X (parL (L.getD n zE).p++[e.1]) 0=some j:=by
  rw[qti,hk];show∃j,wk X [e.1] k=some j;unfold wk;rw[if_pos hd];cases m:(X.getD k zN).es.find? (λa=>a.1==e.1)with
  |none=>have:=List.find?_eq_none.1 m e he;simp at this
  |some x=>exact⟨_,rfl⟩
 obtain⟨j,hw⟩:=hw;rcases I.sub _ _ hw with c|⟨i,hi,c⟩
 · simp at c
 · have g:=H.up i n hi hn;have h2:=(qbm (H.op i (by omega)).1).1;have h:=qbm (H.op n hn).1;have q:=qmc h.2.2.1;rw[h2,h.1,<-c,q,qre,qre,qml,qml]at g;exact g
theorem Inv.fresh{L:List En}{X:List Nd}{n:Nat}(H:EsOk L)(I:Inv L X n)(hn:n<L.length):wk X (nmP (L.getD n zE).p) 0=none:=by
 cases e:wk X (nmP (L.getD n zE).p) 0 with
 |none=>rfl
 |some j=>
  have h:=qbm (H.op n hn).1;rcases I.sub _ _ e with c|⟨i,hi,c⟩
  · exact absurd c h.2.2.1
  · have g:=H.up i n hi hn;have h2:=(qbm (H.op i (by omega)).1).1;rw[h2,h.1,<-c,qey]at g;cases g
theorem Inv.step{L:List En}{X X':List Nd}{n k z:Nat}(H:EsOk L)(I:Inv L X n)(hn:n<L.length)(E:Ext X X' k (parN (L.getD n zE).p) z)(G':Good X')(hp:wk X (parL (L.getD n zE).p) 0=some k)(hs:(X.getD k zN).es.find? (λe=>e.1==parN (L.getD n zE).p)=none)(z0:z≠0)(zf:z<X.length->(X'.getD z zN).k≠2)(zk:(X'.getD z zN).k=(L.getD n zE).kd)(za:(X'.getD z zN).ats=(L.getD n zE).ats)(old:∀i,i<X.length->(X'.getD i zN).ats=(X.getD i zN).ats):Inv L X' (n+1):=by
 have G:=I.good;have n1:=G.n1;have hpar:=qmc (qbm (H.op n hn).1).2.2.1;refine⟨G',λN j hw=>?_,λi hi=>?_,λN M j m h2 g=>?_⟩
 ·rcases E.new G N 0 j (by omega) hw with h|⟨N1,m,h2,g⟩
  ·rcases I.sub N j h with c|⟨i,hi,c⟩
   · exact .inl c
   · exact .inr ⟨i,by omega,c⟩
  · have:=I.uni N1 _ k h2 hp E.kd;exact .inr ⟨n,by omega,by rw[m,this,<-hpar]⟩
 ·by_cases c:i=n;· subst c;exact⟨z,z0,by rw[hpar];exact E.add G hp hs,zk,za⟩
  · obtain⟨j,C,hw,hk,ha⟩:=I.has i (by omega);have hj:=wk_lt G (by omega) hw;exact⟨j,C,E.mono G _ 0 j (by omega) hw,by rw[E.kk j hj];exact hk,by rw[old j hj];exact ha⟩
 ·rcases E.new G N 0 j (by omega) m with a|⟨N1,A,B,a3⟩
  ·have hj:=wk_lt G (by omega) a;rcases E.new G M 0 j (by omega) h2 with b|⟨M1,q,v,x⟩
   · exact I.uni N M j a b (by rw[<-E.kk j hj];exact g)
   · subst x;exact absurd g (zf hj)
  ·rcases E.new G M 0 j (by omega) h2 with b|⟨M1,q,v,x⟩
   · have hj:=wk_lt G (by omega) b;subst a3;exact absurd g (zf hj)
   · rw[A,q,I.uni N1 M1 k B v E.kd]
theorem qh4{F:Nat->Nat->Option (List T)}{Y:Option (List T)}{len:Nat}(hF:∀n j,j<len->F (n+1) j=F n (j+1))(hE:∀n,F (n+1) len=Y){n:Nat}(hn:len<n):F n 0=Y:=by
 have key:∀(k j n:Nat),j+k=len->k<n->F n j=Y:=by
  intro k;induction k with
  |zero=>
   intro j n hj hn;obtain⟨n,rfl⟩:∃z,n=z+1:=⟨n-1,by omega⟩;obtain rfl:j=len:=by omega
   exact hE n
  |succ k ih=>intro j n hj hn;obtain⟨n,rfl⟩:∃z,n=z+1:=⟨n-1,by omega⟩;rw[hF n j (by omega)];exact ih (j+1) n (by omega) (by omega)
 exact key len 0 n (by omega) hn
def z8:T:=.i .u8 0
theorem qxc(j:Nat):List.replicate j z8++[z8]=List.replicate (j+1) z8:=(List.replicate_succ' ..).symm
def ovr(D:List T)(j:Nat):List T:=D.take j++List.replicate (D.length-j) z8
theorem ovr_len(D:List T)(j:Nat)(h:j<=D.length):(ovr D j).length=D.length:=by unfold ovr;simp;omega
theorem qzz(D:List T)(j:Nat)(h:j<D.length):(ovr D j).set j (D.getD j T.u)=ovr D (j+1):=by
 unfold ovr;have c:(D.take j).length=j:=by simp;omega
 rw[List.set_append,if_neg (by omega),c,Nat.sub_self,show D.length-j=(D.length-(j+1))+1 by omega,List.replicate_succ,List.set_cons_zero,List.take_succ_eq_append_getElem h,List.append_assoc,List.getD_eq_getElem?_getD,List.getElem?_eq_getElem h];rfl
theorem byt_one{D:List T}(hb:byt D){j:Nat}(h:j<D.length):T.i .u8 (asI (D.getD j T.u))=D.getD j T.u:=by obtain⟨n,e,_⟩:=byt_at hb h;rw[e];rfl
theorem qya{lf d:Nat}(hlf:33554432<=lf){X:List Nd}(G:Good X)(nx:Int)(hnx:nx=(X.length:Int)+1){p:By}{j:Nat}(h:IsF X p j)(h0:(X.getD j zN).dt=[]){D:List T}(c:D.length<=100)(h2:fitC (.sl false [.i .u8]) (.sl D)):Cc lf (d+8) 51 [.st [.sl (TT X),.i .i64 nx],.s (bsOf p),.i .i64 0,.sl D]=some [.st [.sl (TT (X.set j (dtN (X.getD j zN) D))),.i .i64 nx],.i .i64 0]:=by
 have hS:=G.sml.le;have hjl:=(qb0 G (qed (TT X) h.ok) h.w).1;have hb:=byt_of h2;obtain⟨rs,es⟩:=qiv (lf:=lf) (d:=d+4) hlf h.sz (.inr h.ok);have hn:=(G.ok j hjl).dtN h.f c h2;have q:=qof (d:=d+4) hlf G.sml nx hjl hn.size;have hf:=qw6 (d:=d) hlf G nx h;have E:=f51_eq (Cc lf (d+7)) lf (TT X) nx (bsOf p) 0 D;unfold f51 f51_t at E;subst hnx;rw[es,qgn (d:=d+1) hlf _ _ hS,G.tree,hf,qgq]at E;simp only[Option.bind_some,nth0,nthS,asB_b,Bool.not_true,qa1,asI_i]at E;unfold dtN at q;unfold ndT at E q;simp only at q;rw[h0]at E;generalize hE1:(X.getD j zN).k=k at E q;generalize hE2:(X.getD j zN).lk=lk at E q;generalize hE3:(X.getD j zN).es.map eT=es at E q;generalize hE4:(X.getD j zN).ats.map aT=ats at E q;rw[iLe_t (by omega),iLe_t (by omega),show(!(true&&true))=false from rfl,qa1,show((0:Int)==0)=true from rfl,qa0,show IntKind.wrap .i64 (100-0)=100 from rfl,iLt_f (by omega),qa1,show((0:Int) !=0)=false from rfl,qa1]at E;simp only[cell0,cellS,asL_l,asI_i]at E;have L0:=qh4 (F:=λn i=>f51_0 (Cc lf (d+7)) lf D (TT X) 0 ((X.length:Int)+1) [T.st [.i .i64 ((j:Int)+1),.i .i64 k,.i .i64 lk,.sl [],.sl es,.sl ats],.i .i64 0] n (List.replicate i z8)) (len:=D.length) (Y:=some [T.i .i64 0,T.i .i64 0,T.sl D,T.sl (TT X),T.i .i64 ((X.length:Int)+1),T.i .i64 0,T.sl [],T.i .i64 ((j:Int)+1),T.i .i64 k,T.i .i64 lk,T.sl (List.replicate D.length z8),T.sl es,T.sl ats]) (λn i hi=>by
  rw[f51_0];unfold f51_0_s;rw[List.length_replicate,qac (by omega) (by omega),iLt_t (by omega),nLe_t (by unfold LIM;simp;omega)];simp only[qa0];rw[<-qxc];rfl) (λn=>by
  rw[f51_0];unfold f51_0_s;rw[List.length_replicate,qac (by omega) (by omega),iLt_f (by omega)];rfl) (n:=lf) (by omega)
 rw[show List.replicate 0 z8=[]from rfl]at L0;rw[L0]at E;simp only[Option.bind_some,nth0,nthS,asL_l]at E;have L1:=qh4 (F:=λn i=>f51_1 (Cc lf (d+7)) lf [T.i .i64 0,T.i .i64 0,T.sl D,T.sl (TT X),T.i .i64 ((X.length:Int)+1),T.i .i64 0,T.sl [],T.i .i64 ((j:Int)+1),T.i .i64 k,T.i .i64 lk,T.sl (List.replicate D.length z8),T.sl es,T.sl ats] n (i:Int) (ovr D i)) (len:=D.length) (Y:=some [T.i .i64 0,T.sl (TT X),T.i .i64 ((X.length:Int)+1),T.i .i64 0,T.sl [],T.i .i64 ((j:Int)+1),T.i .i64 k,T.i .i64 lk,T.sl D,T.sl es,T.sl ats]) (λn i hi=>by
  rw[f51_1];unfold f51_1_s;simp only[nth0,nthS,asL_l,asI_i];rw[iLt_t (by omega),qa2 hi,show(0:Int)+(i:Int)=(i:Int)by omega,qac (by omega) (by omega),qa2 (by rw[ovr_len D i (by omega)];exact hi),qa3 hi (by omega)];simp only[qa0,Int.toNat_natCast];rw[byt_one hb hi,qzz D i hi]) (λn=>by
  rw[f51_1];unfold f51_1_s;simp only[nth0,nthS,asL_l,asI_i];rw[iLt_f (by omega),show ovr D D.length=D by unfold ovr;simp];rfl) (n:=lf) (by omega)
 rw[show ovr D 0=List.replicate D.length z8 by unfold ovr;simp]at L1;rw[show((0:Nat):Int)=0 from rfl]at L1;rw[L1]at E;simp only[Option.bind_some,nth0,nthS,asL_l,asI_i]at E;rw[q]at E;subst hE1 hE2;exact E
theorem qyj{lf d:Nat}(D:List T)(h:D.length<=100):Cc lf (d+1) 99 [.sl [],.i .i64 (D.length:Int)]=some [.sl (List.replicate D.length z8)]:=by refine(f99_eq (Cc lf d) lf [] (D.length:Int)).trans ?_;unfold f99 f99_t;rw[iLe_t (by omega),iLe_t (by unfold LIM;omega),beq_self_eq_true];simp only[Bool.and_self,qa0,Int.toNat_natCast,List.take_nil];rw[show splice (List.replicate D.length (T.i .u8 0)) 0 []=List.replicate D.length (T.i .u8 0)from rfl];rfl
theorem qyh{lf d:Nat}(hlf:33554432<=lf){X:List Nd}(G:Good X)(nx:Int)(hnx:nx=(X.length:Int)+1){p:By}{j:Nat}(h:IsF X p j)(h0:(X.getD j zN).dt=[]){D:List T}(g:D.length<=100)(h2:fitC (.sl false [.i .u8]) (.sl D)):Cc lf (d+9) 66 [.st [.sl (TT X),.i .i64 nx],.s (bsOf p),.i .i64 0,.sl D]=some [.st [.sl (TT (X.set j (dtN (X.getD j zN) D))),.i .i64 nx],.i .i64 0]:=by
 have hjl:=(qb0 G (qed (TT X) h.ok) h.w).1;have hn:=(G.ok j hjl).dtN h.f g h2;have q:=qru (d:=d+4) hlf G.sml nx hjl hn.size;have hf:=qwc (d:=d) hlf G nx h;have hr:=qmz (d:=d+1) hlf G [p] (by simp) (λq hq=>by rw[List.mem_singleton.1 hq];exact⟨h.sz,.inr h.ok⟩);rw[show SL [p]=[T.s (bsOf p)]from rfl]at hr;have E:=f66_eq (Cc lf (d+8)) lf (TT X) nx (bsOf p) 0 D;unfold f66 f66_t at E;subst hnx;rw[qhl (d:=d+5) hlf G.sml]at E;simp only[Option.bind_some,nth0,cell0,cellS,asL_l,asI_i]at E;rw[hr,hf,qk8]at E;unfold dtN at q;unfold ndT at E q;simp only at q;rw[h0]at E;simp only[Option.bind_some,nth0,nthS,asB_b,Bool.not_true,qa1,asI_i,cell0,cellS,asL_l]at E;rw[iLe_t (by omega),iLe_t (by omega),show(!(true&&true))=false from rfl,qa1,show((0:Int) !=0)=false from rfl,qa1,show(0:Int)+(D.length:Int)=(D.length:Int)by omega,qac (by omega) (by omega),iLt_f (by omega),qa1,show imax (([]:List T).length:Int) (D.length:Int)=(D.length:Int)by unfold imax;rw[List.length_nil];split<;>omega,qyj (d:=d+7) D g]at E;simp only[Option.bind_some,nth0,asL_l]at E;rw[List.length_replicate,iLe_t (by omega),iLe_t (by omega)]at E;simp only[Bool.and_self,qa0]at E;rw[show splice (List.replicate D.length z8) (0:Int).toNat (D.take (((List.replicate D.length z8).drop (0:Int).toNat).take (((D.length:Int).toNat)-(0:Int).toNat)).length)=D by
  have e:(((List.replicate D.length z8).drop (0:Int).toNat).take (((D.length:Int).toNat)-(0:Int).toNat)).length=D.length:=by simp
  rw[e,List.take_length];apply List.ext_getElem?;intro k;rw[qkq (by simp)];by_cases c:k<D.length;· rw[if_pos (by simp;exact c)];simp
  · rw[if_neg (by simp;omega),List.getElem?_eq_none (by simp;omega),List.getElem?_eq_none (by omega)],q]at E
 exact E
def nmQ(p:By):List By:=if p=[47]then[]else nmP p
theorem qtj(l:List T){p:By}(h:qnq p):walkR l p=wlk l (nmQ p) 1:=by
 unfold nmQ;rcases h with c|c
 · rw[if_pos c,c];rfl
 · rw[if_neg (λe=>by rw[e,qbi]at c;cases c)];exact qed l c
theorem qnt{p:By}(h:okP p=true):nmQ p=nmP p:=if_neg λe=>by rw[e,qbi]at h;cases h
structure IsA(X:List Nd)(p:By)(j:Nat):Prop where
 pa:qnq p
 sz:p.length<=1048576
 w:wk X (nmQ p) 0=some j
theorem IsF.a{X:List Nd}{p:By}{j:Nat}(h:IsF X p j):IsA X p j:=⟨.inr h.ok,h.sz,by rw[qnt h.ok];exact h.w⟩
theorem IsA.set{X:List Nd}{p:By}{j:Nat}(h:IsA X p j){k:Nat}(hk:k<X.length){y:Nd}(c:y.k=(X.getD k zN).k)(g:y.es=(X.getD k zN).es):IsA (X.set k y) p j:=⟨h.pa,h.sz,by rw[qlv hk c g];exact h.w⟩
def lowA(A:List (By×By))(s:By):Prop:=∀a∈A,Op.bytesLess a.1 s=true
theorem c_sPutA{lf d:Nat}(hlf:33554432<=lf){E:List (By×By)}(hE:E.length<=1000){s:By}(h:lowA E s)(x:By):Cc lf (d+1) 80 [.sl (E.map aT),.st [.s (bsOf s),.s (bsOf x)]]=some [.sl ((E++[(s,x)]).map aT)]:=by
 have Q:=f80_eq (Cc lf d) lf (E.map aT) (bsOf s) (bsOf x);unfold f80 f80_t at Q;dsimp only at Q;obtain⟨m,hm⟩:∃m,lf=m+1:=⟨lf-1,by omega⟩;have hw:IntKind.wrap .i64 ((((E.map aT++([T.st [T.s (bsOf s),T.s (bsOf x)]]:List T)).length:Nat):Int)-1)=(E.length:Int):=by rw[List.length_append,List.length_map,List.length_singleton,qac (by omega) (by omega)];omega
 have hset:∀y:T,(E.map aT++([T.st [T.s (bsOf s),T.s (bsOf x)]]:List T)).set E.length y=E.map aT++[y]:=λy=>by rw[List.set_append_right _ _ (by simp)];simp
 have hl:(E.map aT++([T.st [T.s (bsOf s),T.s (bsOf x)]]:List T)).length=E.length+1:=by simp
 have step:f80_0 (Cc lf d) lf (bsOf s) (bsOf x) lf (E.length:Int) (E.map aT++([T.st [T.s (bsOf s),T.s (bsOf x)]]:List T))=some [T.i .i64 0,T.i .i64 (E.length:Int),T.s (bsOf s),T.s (bsOf x),T.sl (E.map aT++([T.st [T.s (bsOf s),T.s (bsOf x)]]:List T))]:=by
  conv=>lhs;arg 5;rw[hm]
  rw[f80_0];unfold f80_0_s;by_cases c:0<E.length
  ·have hb:=h _ (qax (show E.length-1<E.length by omega) ([],[]));rw[iLt_t (by omega),qc5 c (by omega),qa2 (by rw[hl];omega)];simp only[qa0,Int.toNat_natCast];have eg:(E.map aT++([T.st [T.s (bsOf s),T.s (bsOf x)]]:List T)).getD (E.length-1) T.u=aT (E.getD (E.length-1) ([],[])):=by rw[List.getD_eq_getElem?_getD,List.getElem?_append_left (by rw[List.length_map];omega),<-List.getD_eq_getElem?_getD,qd7 aT ([],[]) (by omega)]
   rw[eg];simp only[aT,cell0,asS_s,qah,hb,Bool.true_or,Bool.not_true,qa1]
  · rw[iLt_f (by omega)];rfl
 rw[List.nil_append,hw,step]at Q;simp only[Option.bind_some,nth0,nthS,asI_i,asL_l,asS_s,Int.toNat_natCast,hset]at Q;rw[nLe_t (by rw[List.length_map];simp;unfold LIM;omega),nLe_t (by simp;unfold LIM;omega),qa2 (by rw[hl];omega)]at Q;rw[List.map_append];exact Q
def dropA(E:List (By×By))(s:By):List (By×By):=E.filter λa=>!(a.1==s)
def setA(E:List (By×By))(s v:By):List (By×By):=if v=[]then dropA E s else dropA E s++[(s,v)]
theorem qhh:(⟨#[]⟩:ByteArray).toList=[]:=qah []
theorem aT_at{E:List (By×By)}{i:Nat}(h:i<E.length):(E.map aT).getD i T.u=aT (E.getD i ([],[])):=qd7 aT ([],[]) h
theorem qln{lf d:Nat}(hlf:33554432<=lf){X:List Nd}(G:Good X){p:By}{j:Nat}(h:IsA X p j){s v:By}(hs:nameB (bsOf s)=true)(hv:v.length<=16)(g:v≠[]->(dropA (X.getD j zN).ats s).length<4/\lowA (dropA (X.getD j zN).ats s) s)(ha:AtOk (setA (X.getD j zN).ats s v)):Cc lf (d+7) 48 [.st [.sl (TT X),.i .i64 ((X.length:Int)+1)],.s (bsOf p),.s (bsOf s),.s (bsOf v)]=some [.st [.sl (TT (X.set j (atN (X.getD j zN) (setA (X.getD j zN).ats s v)))),.i .i64 ((X.length:Int)+1)],.i .i64 0]:=by
 have hS:=G.sml.le;obtain⟨hj,x,z⟩:=qb0 G (qtj (TT X) h.pa) h.w;have hn:=(G.ok j hj).atN ha;have q:=qof (d:=d+3) hlf G.sml ((X.length:Int)+1) hj hn.size;obtain⟨rs,es⟩:=qiv (lf:=lf) (d:=d+3) hlf h.sz h.pa;have E:=f48_eq (Cc lf (d+6)) lf (TT X) ((X.length:Int)+1) (bsOf p) (bsOf s) (bsOf v);unfold f48 f48_t at E;rw[es,qgn (d:=d) hlf _ _ hS,G.tree,qhk (d:=d+4) hlf _ (by have:=qb6 hs;omega),hs,qgo (d:=d) hlf (TT X) _ hS p h.sz,x,z]at E;simp only[Option.bind_some,nth0,nthS,asB_b,Bool.not_true,qa1,asI_i]at E;rw[qal,iLt_f (by omega),qa1,show((0:Int) !=0)=false from rfl,qa1]at E;have ho:=(G.ok j hj).al;unfold atN ndT at q;unfold ndT at E;simp only at q;unfold setA at q ha|-;generalize hE1:X.getD j zN=n at E q g ha ho|-;have L0:=qh4 (F:=λm i=>f48_0 (Cc lf (d+6)) lf (TT X) ((X.length:Int)+1) [T.st [.i .i64 ((j:Int)+1),.i .i64 n.k,.i .i64 n.lk,.sl n.dt,.sl (n.es.map eT),.sl (n.ats.map aT)],.i .i64 0] (bsOf s) (bsOf v) m (i:Int) ((dropA (n.ats.take i) s).map aT)) (len:=n.ats.length) (Y:=some [T.i .i64 0,T.s (bsOf s),T.s (bsOf v),T.sl (TT X),T.i .i64 ((X.length:Int)+1),T.i .i64 0,T.sl [],T.i .i64 ((j:Int)+1),T.i .i64 n.k,T.i .i64 n.lk,T.sl n.dt,T.sl (n.es.map eT),T.sl (n.ats.map aT),T.sl ((dropA n.ats s).map aT)]) (λm i hi=>by
  rw[f48_0];unfold f48_0_s;simp only[nth0,cell0,cellS,asL_l,asI_i,Int.toNat_natCast];rw[List.length_map,iLt_t (by omega),qa2 hi,qa3 hi (by omega),aT_at hi];have hg:n.ats.getD i ([],[])=n.ats[i]:=by rw[List.getD_eq_getElem?_getD,List.getElem?_eq_getElem hi];rfl
  have hlen:((dropA (n.ats.take i) s).map aT).length<=4:=by rw[List.length_map];unfold dropA;have g:=List.length_filter_le (λa:By×By=>!(a.1==s)) (n.ats.take i);rw[List.length_take]at g;omega
  rw[nLe_t (by unfold LIM;simp only[List.length_singleton];omega)];simp only[qa0,aT,cell0,cellS,asS_s,qah];have ht:dropA (n.ats.take (i+1)) s=dropA (n.ats.take i) s++dropA [n.ats[i]] s:=by unfold dropA;rw[List.take_succ_eq_append_getElem hi,List.filter_append]
  rw[ht,List.map_append,hg];cases e:(n.ats[i].1==s)with
  |true=>
   have:dropA [n.ats[i]] s=[]:=by unfold dropA;simp[e]
   rw[this];simp
  |false=>
   have:dropA [n.ats[i]] s=[n.ats[i]]:=by unfold dropA;simp[e]
   rw[this];rfl) (λm=>by
  rw[f48_0];unfold f48_0_s;simp only[nth0,cell0,cellS,asL_l,asI_i,Int.toNat_natCast];rw[List.length_map,iLt_f (by omega),List.take_length];rfl) (n:=lf) (by omega)
 rw[show dropA (n.ats.take 0) s=[]from rfl,List.map_nil,show((0:Nat):Int)=0 from rfl]at L0;rw[L0]at E;simp only[Option.bind_some,nth0,nthS,asL_l,asS_s,asI_i,qah]at E;by_cases c:v=[];· rw[if_pos c]at q|-;rw[qhh,show(v==[])=true by rw[c];rfl,qa0,q]at E;exact E
 · rw[if_neg c]at q|-;obtain⟨h2,A⟩:=g c;rw[qhh,show(v==[])=false from beq_eq_false_iff_ne.2 c,qa1,List.length_map,iLe_f (by omega),qa1,c_sPutA (d:=d+5) hlf (by omega) A]at E;simp only[Option.bind_some,nth0,asL_l]at E;rw[q]at E;exact E
theorem qjz{E:List (By×By)}{s:By}(h:lowA E s):dropA E s=E:=by
 unfold dropA;rw[List.filter_eq_self];intro a ha;have:=h a ha;cases e:(a.1==s)with
 |false=>rfl
 |true=>rw[beq_iff_eq.1 e,qey]at this;cases this
theorem qt3{lf d:Nat}(hlf:33554432<=lf){X:List Nd}(G:Good X){p:By}{j:Nat}(h:IsA X p j){s v:By}(hs:nameB (bsOf s)=true)(hv:v.length<=16)(c:v≠[])(h2:(X.getD j zN).ats.length<4)(g:lowA (X.getD j zN).ats s)(ha:AtOk (setA (X.getD j zN).ats s v)):Cc lf (d+8) 62 [.st [.sl (TT X),.i .i64 ((X.length:Int)+1)],.s (bsOf p),.s (bsOf s),.s (bsOf v)]=some [.st [.sl (TT (X.set j (atN (X.getD j zN) (setA (X.getD j zN).ats s v)))),.i .i64 ((X.length:Int)+1)],.i .i64 0]:=by
 have hS:=G.sml.le;obtain⟨hj,z,A⟩:=qb0 G (qtj (TT X) h.pa) h.w;have hn:=(G.ok j hj).atN ha;have q:=qru (d:=d+3) hlf G.sml ((X.length:Int)+1) hj hn.size;have hr:=qmz (d:=d) hlf G [p] (by simp) (λq hq=>by rw[List.mem_singleton.1 hq];exact⟨h.sz,h.pa⟩);rw[show SL [p]=[T.s (bsOf p)]from rfl]at hr;have E:=f62_eq (Cc lf (d+7)) lf (TT X) ((X.length:Int)+1) (bsOf p) (bsOf s) (bsOf v);unfold f62 f62_t at E;rw[qhl (d:=d+4) hlf G.sml]at E;simp only[Option.bind_some,nth0,cell0,cellS,asL_l,asI_i]at E;rw[hr,qn1 (d:=d+5) hlf _ (by have:=qb6 hs;omega),hs,qn0 (d:=d) hlf (TT X) _ hS p h.sz,z,A]at E;simp only[Option.bind_some,nth0,nthS,asB_b,Bool.not_true,qa1,asI_i]at E;rw[qal,iLt_f (by omega),qa1,show((0:Int) !=0)=false from rfl,qa1]at E;unfold setA at q ha|-;rw[if_neg c,qjz g]at q ha|-;unfold atN ndT at q;unfold ndT at E;simp only at q;generalize hE1:X.getD j zN=n at E q h2 g ha|-;rw[qdg (F:=λm i=>f62_0 (Cc lf (d+7)) lf [T.st [.i .i64 ((j:Int)+1),.i .i64 n.k,.i .i64 n.lk,.sl n.dt,.sl (n.es.map eT),.sl (n.ats.map aT)],.i .i64 0] (bsOf s) m i) (len:=n.ats.length) (Y:=some [T.i .i64 1,T.sl (n.ats.map aT),T.s (bsOf s)]) (λm i hi=>by
  rw[f62_0];unfold f62_0_s;simp only[nth0,cell0,cellS,asL_l,asI_i,Int.toNat_natCast];rw[List.length_map,iLt_t (by omega),qa2 hi,qa3 hi (by omega),aT_at hi];simp only[qa0,aT,cell0,asS_s,qah];rw[g _ (qax hi ([],[])),Bool.not_true,qa1]) (λm=>by
  rw[f62_0];unfold f62_0_s;simp only[nth0,cell0,cellS,asL_l,asI_i];rw[List.length_map,iLt_f (by omega)];rfl) (by omega)]at E
 simp only[Option.bind_some,nth0,nthS,asI_i,asL_l,asS_s,qah]at E;rw[show((1:Int)==0)=false from rfl,qa1,qhh,show(v==[])=false from beq_eq_false_iff_ne.2 c]at E;simp only[qa1]at E;rw[List.length_map,iLt_f (by omega),qa1,beq_eq_false_iff_ne.2 (show((n.ats.length:Nat):Int)≠4 by omega),qa1]at E;have hi:=c_insA (d:=d+6) (lf:=lf) (l:=n.ats.map aT) (v:=[T.st [T.s (bsOf s),T.s (bsOf v)]]) rfl (by rw[List.length_map];omega);rw[List.length_map]at hi;rw[hi]at E;simp only[Option.bind_some,nth0,cell0,cellS,asI_i,asL_l]at E;rw[List.map_append]at q;have x:List.map aT [(s,v)]=[T.st [T.s (bsOf s),T.s (bsOf v)]]:=rfl;rw[x]at q;rw[q]at E;exact E
theorem AtOk.nil:AtOk []:=⟨by simp,λ_ h=>absurd h (List.not_mem_nil),List.Pairwise.nil⟩
theorem AtOk.take{A:List (By×By)}(h:AtOk A)(i:Nat):AtOk (A.take i):=⟨by have:=h.al;rw[List.length_take];omega,λa ha=>h.an a (List.mem_of_mem_take ha),h.ar.sublist (List.take_sublist i A)⟩
theorem AtOk.drop{A:List (By×By)}(h:AtOk A)(i:Nat):AtOk (A.drop i):=⟨by have:=h.al;rw[List.length_drop];omega,λa ha=>h.an a (List.mem_of_mem_drop ha),h.ar.sublist (List.drop_sublist i A)⟩
theorem qvp{A:List (By×By)}{i:Nat}(h:i<A.length):A.drop i=A.getD i ([],[])::A.drop (i+1):=by rw[List.getD_eq_getElem?_getD,List.getElem?_eq_getElem h];exact List.drop_eq_getElem_cons h
theorem qli{A:List (By×By)}(h:AtOk A){i:Nat}(hi:i<A.length):setA (A.drop i) (A.getD i ([],[])).1 []=A.drop (i+1):=by
 unfold setA;rw[if_pos rfl];have hp:=(h.drop i).ar;rw[qvp hi]at hp|-;have hp:=List.pairwise_cons.1 hp;unfold dropA;rw[List.filter_cons_of_neg (by simp),List.filter_eq_self];intro a ha;have:=hp.1 a ha;cases e:(a.1==(A.getD i ([],[])).1)with
 |false=>rfl
 |true=>rw[beq_iff_eq.1 e,qey]at this;cases this
theorem qic{A:List (By×By)}(h:AtOk A){i:Nat}(hi:i<A.length):lowA (A.take i) (A.getD i ([],[])).1:=λa ha=>by obtain⟨k,hk,rfl⟩:=List.getElem_of_mem ha;rw[List.length_take]at hk;have:=qj6 h.ar (show k<i by omega) hi ([],[]);rw[List.getD_eq_getElem?_getD,List.getElem?_eq_getElem (show k<A.length by omega)]at this;rw[List.getElem_take];exact this
theorem qqm{A:List (By×By)}(h:AtOk A){i:Nat}(hi:i<A.length):setA (A.take i) (A.getD i ([],[])).1 (A.getD i ([],[])).2=A.take (i+1)/\(A.getD i ([],[])).2≠[]:=by
 have hm:=h.an _ (qax hi ([],[]));have hne:(A.getD i ([],[])).2≠[]:=λe=>by rw[e]at hm;exact absurd hm.2.1 (by simp)
 refine⟨?_,hne⟩;unfold setA;rw[if_neg hne,qjz (qic h hi),List.take_succ_eq_append_getElem hi,List.getD_eq_getElem?_getD,List.getElem?_eq_getElem hi];rfl
def stA(X:List Nd)(j:Nat)(A:List (By×By)):List Nd:=X.set j (atN (X.getD j zN) A)
theorem qef(X:List Nd)(j:Nat)(A:List (By×By)):(stA X j A).length=X.length:=List.length_set
theorem qtp{X:List Nd}{j:Nat}(h:j<X.length)(A:List (By×By)):(stA X j A).getD j zN=atN (X.getD j zN) A:=qaa h _
theorem qlz{X:List Nd}{j:Nat}(h:j<X.length){A:List (By×By)}(e:(X.getD j zN).ats=A):stA X j A=X:=by unfold stA atN;subst e;rw[List.getD_eq_getElem?_getD,List.getElem?_eq_getElem h];exact List.set_getElem_self h
theorem qi4{X:List Nd}(G:Good X){j:Nat}(h:j<X.length){A:List (By×By)}(a:AtOk A):Good (stA X j A):=G.same h ((G.ok j h).atN a) rfl rfl rfl
theorem IsA.lt{X:List Nd}(G:Good X){p:By}{j:Nat}(h:IsA X p j):j<X.length:=wk_lt G (by have:=G.n1;omega) h.w
theorem IsA.stA{X:List Nd}(G:Good X){p:By}{j:Nat}(h:IsA X p j)(A:List (By×By)):IsA (stA X j A) p j:=h.set (h.lt G) rfl rfl
theorem qgp{lf d:Nat}(hlf:33554432<=lf){X:List Nd}(G:Good X){p:By}{j:Nat}(h:IsA X p j){A:List (By×By)}(a:AtOk A):Cc lf (d+8) 22 [.st [.sl (TT X),.i .i64 ((X.length:Int)+1)],.s (bsOf p),.sl (A.map aT)]=some [.st [.sl (TT (stA X j A)),.i .i64 ((X.length:Int)+1)],.i .i64 0]:=by
 have hS:=G.sml.le;have hj:=h.lt G;obtain⟨_,x,z⟩:=qb0 G (qtj (TT X) h.pa) h.w;have hn:=G.ok j hj;have ho:AtOk (X.getD j zN).ats:=⟨hn.al,hn.an,hn.ar⟩;have E:=f22_eq (Cc lf (d+7)) lf (TT X) ((X.length:Int)+1) (bsOf p) (A.map aT);unfold f22 f22_t at E;rw[qgo (d:=d+1) hlf (TT X) _ hS p h.sz,x,z]at E;simp only[Option.bind_some,nth0,nthS,asI_i]at E;have B:=a.al;have C:=ho.al;have L0:=qh4 (F:=λm i=>f22_0 (Cc lf (d+7)) lf (A.map aT) [ndT ((j:Int)+1) (X.getD j zN),.i .i64 0] (bsOf p) m 0 (i:Int) ((X.length:Int)+1) (TT (stA X j ((X.getD j zN).ats.drop i)))) (len:=(X.getD j zN).ats.length) (Y:=some [T.i .i64 0,T.s (bsOf p),T.sl (A.map aT),T.i .i64 0,T.i .i64 ((X.length:Int)+1),T.sl (TT (stA X j [])),T.i .i64 0,T.sl []]) (λm i hi=>by
  rw[f22_0];unfold f22_0_s;have od:=ho.drop i;have g:=qtp hj ((X.getD j zN).ats.drop i);have q:=qln (d:=d) hlf (qi4 G hj od) (h.stA G ((X.getD j zN).ats.drop i)) (s:=((X.getD j zN).ats.getD i ([],[])).1) (v:=[]) (ho.an _ (qax hi ([],[]))).1 (by simp) (λc=>absurd rfl c) (by rw[g];show AtOk (setA ((X.getD j zN).ats.drop i) _ _);rw[qli ho hi];exact ho.drop (i+1));rw[g,show(atN (X.getD j zN) ((X.getD j zN).ats.drop i)).ats=(X.getD j zN).ats.drop i from rfl,qli ho hi,qef,show atN (atN (X.getD j zN) ((X.getD j zN).ats.drop i)) ((X.getD j zN).ats.drop (i+1))=atN (X.getD j zN) ((X.getD j zN).ats.drop (i+1))from rfl,show(stA X j ((X.getD j zN).ats.drop i)).set j (atN (X.getD j zN) ((X.getD j zN).ats.drop (i+1)))=stA X j ((X.getD j zN).ats.drop (i+1))from List.set_set ..,show bsOf []=(⟨#[]⟩:ByteArray)from rfl]at q;unfold ndT;simp only[nth0,cell0,cellS,asL_l,Int.toNat_natCast];rw[List.length_map,iLt_t (by omega),qa2 hi,qa3 hi (by omega),aT_at hi,show((0:Int)==0)=true from rfl];simp only[qa0,aT,cell0,asS_s];rw[q];rfl) (λm=>by
  rw[f22_0];unfold f22_0_s ndT;simp only[nth0,cell0,cellS,asL_l];rw[List.length_map,iLt_f (by omega),List.drop_length];rfl) (n:=lf) (by omega)
 rw[List.drop_zero,qlz hj rfl,show((0:Nat):Int)=0 from rfl]at L0;rw[L0]at E;simp only[Option.bind_some,nth0,nthS,asI_i,asL_l]at E;have L1:=qh4 (F:=λm i=>f22_1 (Cc lf (d+7)) lf [T.i .i64 0,T.s (bsOf p),T.sl (A.map aT),T.i .i64 0,T.i .i64 ((X.length:Int)+1),T.sl (TT (stA X j [])),T.i .i64 0,T.sl []] m 0 (i:Int) ((X.length:Int)+1) (TT (stA X j (A.take i)))) (len:=A.length) (Y:=some [T.i .i64 0,T.i .i64 0,T.i .i64 ((X.length:Int)+1),T.sl (TT (stA X j A)),T.i .i64 0,T.sl []]) (λm i hi=>by
  rw[f22_1];unfold f22_1_s;have od:=a.take i;obtain⟨k,D⟩:=qqm a hi;have hm:=a.an _ (qax hi ([],[]));have g:=qtp hj (A.take i);have q:=qln (d:=d) hlf (qi4 G hj od) (h.stA G (A.take i)) (s:=(A.getD i ([],[])).1) (v:=(A.getD i ([],[])).2) hm.1 hm.2.2 (λc=>by rw[g];show(dropA (A.take i) _).length<4/\lowA (dropA (A.take i) _) _;rw[qjz (qic a hi),List.length_take];exact⟨by omega,qic a hi⟩) (by rw[g];show AtOk (setA (A.take i) _ _);rw[k];exact a.take (i+1));rw[g,show(atN (X.getD j zN) (A.take i)).ats=A.take i from rfl,k,qef,show atN (atN (X.getD j zN) (A.take i)) (A.take (i+1))=atN (X.getD j zN) (A.take (i+1))from rfl,show(stA X j (A.take i)).set j (atN (X.getD j zN) (A.take (i+1)))=stA X j (A.take (i+1))from List.set_set ..]at q;simp only[nth0,nthS,asL_l,asS_s,asI_i,Int.toNat_natCast];rw[List.length_map,iLt_t (by omega),qa2 hi,qa3 hi (by omega),aT_at hi,show((0:Int)==0)=true from rfl];simp only[qa0,aT,cell0,cellS,asS_s];rw[q];rfl) (λm=>by
  rw[f22_1];unfold f22_1_s;simp only[nth0,nthS,asL_l,asI_i];rw[List.length_map,iLt_f (by omega),List.take_length];rfl) (n:=lf) (by omega)
 rw[List.take_zero,show((0:Nat):Int)=0 from rfl]at L1;rw[L1]at E;exact E
theorem c_do{lf d:Nat}(l0 g:List T)(a b c k:Int):Cc lf (d+1) 30 [.st [.sl l0,.i .i64 a,.i .i64 b],.st [.sl g,.i .i64 c],.i .i64 k]=some [.st [.sl (bif k==0 then g else l0),.i .i64 (bif k==0 then c else a),.i .i64 k]]:=by refine(f30_eq (Cc lf d) lf l0 a b g c k).trans ?_;unfold f30 f30_t;cases k==0<;>rfl
theorem qk7{lf d:Nat}(hlf:33554432<=lf){X:List Nd}(G:Good X){p:By}{j:Nat}(h:IsA X p j)(h0:(X.getD j zN).ats=[]){A:List (By×By)}(a:AtOk A):Cc lf (d+9) 29 [.st [.sl (TT X),.i .i64 ((X.length:Int)+1),.i .i64 0],.s (bsOf p),.sl (A.map aT)]=some [.st [.sl (TT (stA X j A)),.i .i64 ((X.length:Int)+1),.i .i64 0]]:=by
 have hj:=h.lt G;have E:=f29_eq (Cc lf (d+8)) lf (TT X) ((X.length:Int)+1) 0 (bsOf p) (A.map aT);unfold f29 f29_t at E;have x:=a.al;have L1:=qh4 (F:=λm i=>f29_0 (Cc lf (d+8)) lf (A.map aT) (bsOf p) m (i:Int) ((X.length:Int)+1) 0 (TT (stA X j (A.take i)))) (len:=A.length) (Y:=some [T.i .i64 0,T.i .i64 ((X.length:Int)+1),T.i .i64 0,T.sl (TT (stA X j A))]) (λm i hi=>by
  rw[f29_0];unfold f29_0_s;have od:=a.take i;obtain⟨g,k⟩:=qqm a hi;have hm:=a.an _ (qax hi ([],[]));have c:=qtp hj (A.take i);have q:=qt3 (d:=d) hlf (qi4 G hj od) (h.stA G (A.take i)) (s:=(A.getD i ([],[])).1) (v:=(A.getD i ([],[])).2) hm.1 hm.2.2 k (by rw[c];show(A.take i).length<4;rw[List.length_take];omega) (by rw[c];exact qic a hi) (by rw[c];show AtOk (setA (A.take i) _ _);rw[g];exact a.take (i+1));rw[c,show(atN (X.getD j zN) (A.take i)).ats=A.take i from rfl,g,qef,show atN (atN (X.getD j zN) (A.take i)) (A.take (i+1))=atN (X.getD j zN) (A.take (i+1))from rfl,show(stA X j (A.take i)).set j (atN (X.getD j zN) (A.take (i+1)))=stA X j (A.take (i+1))from List.set_set ..]at q;simp only[Int.toNat_natCast];rw[List.length_map,iLt_t (by omega),qa2 hi,qa3 hi (by omega),aT_at hi,show((0:Int)==0)=true from rfl];simp only[qa0,aT,cell0,cellS,asS_s];rw[q];simp only[Option.bind_some,nth0,nthS,cell0,cellS,asL_l,asI_i];rw[c_do (d:=d+7)];rfl) (λm=>by
  rw[f29_0];unfold f29_0_s;rw[List.length_map,iLt_f (by omega),List.take_length];rfl) (n:=lf) (by omega)
 rw[List.take_zero,qlz hj h0,show((0:Nat):Int)=0 from rfl]at L1;dsimp only at E;rw[L1]at E;exact E
theorem qmg{X:List Nd}{k:Nat}(hk:k<X.length)(s:By)(kd:Int):(mkX X k s kd).getD X.length zN=newN kd:=(qjb hk s kd).2.2.1
theorem qz4{X:List Nd}(G:Good X){p:By}(ho:okP p=true)(h:spC X p=0){k:Nat}(hk:wk X (parL p) 0=some k):(X.getD k zN).k=2/\(X.getD k zN).es.find? (λe=>e.1==parN p)=none/\(X.getD k zN).es.length<10:=by obtain⟨d,c,_,h2,g,j⟩:=qtr G ho h;rw[hk]at c;cases c;exact⟨h2,g,j⟩
theorem qxi{X:List Nd}{p:By}(h:mkC X p=0):spC X p=0/\X.length<30:=by
 unfold mkC at h;by_cases c:spC X p≠0;· rw[if_pos c]at h;exact absurd h c
 ·rw[if_neg c]at h;refine⟨by simpa using c,?_⟩;by_cases g:30<=X.length;· rw[if_pos g]at h;cases h
  · omega
theorem Inv.new{L:List En}{X:List Nd}{n:Nat}(H:EsOk L)(I:Inv L X n)(hn:n<L.length)(h:mkC X (L.getD n zE).p=0){k:Nat}(hk:wk X (parL (L.getD n zE).p) 0=some k):k<X.length/\Good (mkX X k (parN (L.getD n zE).p) (L.getD n zE).kd)/\IsA (mkX X k (parN (L.getD n zE).p) (L.getD n zE).kd) (L.getD n zE).p X.length/\∀y:Nd,NdOk X.length y->y.k=(L.getD n zE).kd->y.lk=1->y.es=[]->y.ats=(L.getD n zE).ats->Inv L ((mkX X k (parN (L.getD n zE).p) (L.getD n zE).kd).set X.length y) (n+1):=by
 have G:=I.good;have n1:=G.n1;obtain⟨v,g⟩:=qxi h;have ho:=(H.op n hn).1;obtain⟨hd,hf,hl⟩:=qz4 G ho v hk;have hkl:=wk_lt G (by omega) hk;have hL:=I.low H hn k hk;have GX:=G.make g hkl hd hl hL (qca ho).2.2 (H.kd n hn);have ex:=mkX_ext hkl hd (parN (L.getD n zE).p) (L.getD n zE).kd;obtain⟨B,q,a3,a4⟩:=qjb hkl (parN (L.getD n zE).p) (L.getD n zE).kd;have hw:=ex.add G hk hf;rw[<-qmc (qbm ho).2.2.1]at hw;refine⟨hkl,GX,⟨.inr ho,(H.op n hn).2,by rw[qnt ho];exact hw⟩,λy x j z m A=>?_⟩;have zl:X.length<(mkX X k (parN (L.getD n zE).p) (L.getD n zE).kd).length:=by omega
 have atz:=qaa zl y;exact I.step H hn (ex.set zl (Nat.le_refl _) (.inr m)) (GX.same zl x (by rw[a3,j];rfl) (by rw[a3,z];rfl) (by rw[a3,m];rfl)) hk hf (by omega) (λc=>absurd c (by omega)) (by rw[atz,j]) (by rw[atz,A]) (λi hi=>by
  rw[getD_set_ne (by omega)];by_cases c:i=k;· subst c;rw[q];rfl
  · rw[a4 i hi c])
theorem Inv.lnk{L:List En}{X:List Nd}{n:Nat}(H:EsOk L)(I:Inv L X n)(hn:n<L.length)(hr:(L.getD n zE).fr≠(L.getD n zE).p)(h:spC X (L.getD n zE).p=0){k:Nat}(hk:wk X (parL (L.getD n zE).p) 0=some k):∃j,IsF X (L.getD n zE).fr j/\j≠0/\(X.getD j zN).lk<1000/\k<X.length/\j<X.length/\Inv L (lkX X k (parN (L.getD n zE).p) j) (n+1)/\IsA (lkX X k (parN (L.getD n zE).p) j) (L.getD n zE).p j/\((lkX X k (parN (L.getD n zE).p) j).getD j zN).ats=(L.getD n zE).ats:=by
 have G:=I.good;have n1:=G.n1;have ho:=(H.op n hn).1;obtain⟨hd,hf,hl⟩:=qz4 G ho h hk;have hkl:=wk_lt G (by omega) hk;have hL:=I.low H hn k hk;obtain⟨i,hi,A,B,C⟩:=(H.ref n hn).resolve_left hr;obtain⟨j,v,hw,jk,ja⟩:=I.has i hi;have hjl:=wk_lt G (by omega) hw;rw[B]at jk;have hkj:j≠k:=λc=>by rw[c,hd]at jk;cases jk
 have ex:=lkX_ext hkl hd hjl jk (parN (L.getD n zE).p);obtain⟨D,q,a3,a4⟩:=qz9 hkl hjl hkj (parN (L.getD n zE).p);have GX:=G.link hkl hd hl hL (qca ho).2.2 hjl v jk;have hats:((lkX X k (parN (L.getD n zE).p) j).getD j zN).ats=(L.getD n zE).ats:=by rw[q,<-C];exact ja
 have x:(L.getD n zE).kd=1:=by
  rcases H.kd n hn with c|c
  · exact c
  · exact absurd (H.dir n hn c).2 hr
 have g:=ex.add G hk hf;rw[<-qmc (qbm ho).2.2.1]at g;have hlk:(X.getD j zN).lk<1000:=by rw[G.lks j hjl];have:=qm8 G ((j:Int)+1);omega
 have ops:=H.op i (by omega);rw[A]at ops;rw[A]at hw;refine⟨j,⟨ops.1,ops.2,hw,jk⟩,v,hlk,hkl,hjl,I.step H hn ex GX hk hf v (λ_=>by rw[q];show(X.getD j zN).k≠2;omega) (by rw[q,x];exact jk) hats (λm hm=>?_),⟨.inr ho,(H.op n hn).2,by rw[qnt ho];exact g⟩,hats⟩;by_cases c:m=k;· subst c;rw[a3];rfl
 ·by_cases z:m=j;· subst z;rw[q];rfl
  · rw[a4 m c z]
def nC(L:List En)(X:List Nd)(n:Nat):Int:=if(L.getD n zE).fr=(L.getD n zE).p then mkC X (L.getD n zE).p else spC X (L.getD n zE).p
theorem qvo{j:Nat}(hj:j≠0){D:List T}(c:D.length<=100)(h2:fitC (.sl false [.i .u8]) (.sl D)):NdOk j (dtN (newN 1) D):=(qj9 hj (.inl rfl)).dtN rfl c h2
def enW(e:En):T:=.st [.s (bsOf e.p),.i .i64 e.kd,.sl e.dt,.sl (e.ats.map aT),.s (bsOf e.fr)]
theorem qrr{lf d:Nat}(l:List T)(nx:Int)(p:ByteArray){r:T}{k:Int}(h:Cc lf d 81 [.st [.sl l,.i .i64 nx],.s p,.i .i64 2]=some [r,.i .i64 k]):Cc lf (d+1) 49 [.st [.sl l,.i .i64 nx],.s p]=some [.st [.sl (asL (T.cell r 0)),.i .i64 (asI (T.cell r 1))],.i .i64 k]:=by refine(f49_eq (Cc lf d) lf l nx p).trans ?_;unfold f49 f49_t;rw[h];rfl
theorem qrq{lf d:Nat}(l:List T)(nx:Int)(p:ByteArray){r:T}{k:Int}(h:Cc lf d 81 [.st [.sl l,.i .i64 nx],.s p,.i .i64 1]=some [r,.i .i64 k]):Cc lf (d+1) 50 [.st [.sl l,.i .i64 nx],.s p]=some [.st [.sl (asL (T.cell r 0)),.i .i64 (asI (T.cell r 1))],.i .i64 k]:=by refine(f50_eq (Cc lf d) lf l nx p).trans ?_;unfold f50 f50_t;rw[h];rfl
theorem qrw{lf d:Nat}(l:List T)(nx:Int)(p:ByteArray){r:T}{k:Int}(h:Cc lf d 63 [.st [.sl l,.i .i64 nx],.s p,.i .i64 2]=some [r,.i .i64 k]):Cc lf (d+1) 31 [.st [.sl l,.i .i64 nx],.s p]=some [.st [.sl (asL (T.cell r 0)),.i .i64 (asI (T.cell r 1))],.i .i64 k]:=by refine(f31_eq (Cc lf d) lf l nx p).trans ?_;unfold f31 f31_t;rw[h];rfl
theorem qrv{lf d:Nat}(l:List T)(nx:Int)(p:ByteArray){r:T}{k:Int}(h:Cc lf d 63 [.st [.sl l,.i .i64 nx],.s p,.i .i64 1]=some [r,.i .i64 k]):Cc lf (d+1) 65 [.st [.sl l,.i .i64 nx],.s p]=some [.st [.sl (asL (T.cell r 0)),.i .i64 (asI (T.cell r 1))],.i .i64 k]:=by refine(f65_eq (Cc lf d) lf l nx p).trans ?_;unfold f65 f65_t;rw[h];rfl
def nX(L:List En)(X:List Nd)(n:Nat):List Nd:=match wk X (parL (L.getD n zE).p) 0 with
|none=>X
|some k=>if(L.getD n zE).kd=2 then stA (mkX X k (parN (L.getD n zE).p) 2) X.length (L.getD n zE).ats else if(L.getD n zE).fr=(L.getD n zE).p then stA ((mkX X k (parN (L.getD n zE).p) 1).set X.length (dtN (newN 1) (L.getD n zE).dt)) X.length (L.getD n zE).ats else match wk X (nmP (L.getD n zE).fr) 0 with
 |none=>X
 |some j=>lkX X k (parN (L.getD n zE).p) j
set_option maxHeartbeats 1000000 in
theorem c_sAdd{lf d:Nat}(hlf:33554432<=lf){L:List En}{X:List Nd}{n:Nat}(H:EsOk L)(I:Inv L X n)(hn:n<L.length):(nC L X n≠0/\∃a b,Cc lf (d+10) 23 [.st [.sl (TT X),.i .i64 ((X.length:Int)+1)],enW (L.getD n zE)]=some [.st [.sl a,.i .i64 b],.i .i64 (nC L X n)])\/(nC L X n=0/\Inv L (nX L X n) (n+1)/\Cc lf (d+10) 23 [.st [.sl (TT X),.i .i64 ((X.length:Int)+1)],enW (L.getD n zE)]=some [.st [.sl (TT (nX L X n)),.i .i64 (((nX L X n).length:Int)+1)],.i .i64 0]):=by
 have G:=I.good;have hS:=G.sml.le;obtain⟨ho,hs⟩:=H.op n hn;have hL:=I.low H hn;have hkd:=H.kd n hn;obtain⟨q,v⟩:=H.dt n hn;have hA:=H.ats n hn;have hdir:=H.dir n hn;have hnew:=λh k hk=>I.new H hn h (k:=k) hk;have hlnk:=λhr h k hk=>I.lnk H hn hr h (k:=k) hk;have hfr:=I.fresh H hn;unfold nC nX;generalize hL2:L.getD n zE=e at*;obtain⟨p,kd,dt,ats,fr⟩:=e;simp only at*;have E:=f23_eq (Cc lf (d+9)) lf (TT X) ((X.length:Int)+1) (bsOf p) kd dt (ats.map aT) (bsOf fr);unfold f23 f23_t at E;unfold enW;simp only;rcases hkd with rfl|rfl
 ·rw[show((1:Int)==2)=false from rfl,qa1]at E;by_cases c:fr=p
  ·rw[if_pos c];rw[qah,qah,beq_iff_eq.2 c,qa0]at E;rcases qw4 (d:=d) hlf G hs ho hL (kd:=1) (.inl rfl)with⟨h0,r,e⟩|⟨h0,k,g,h2,J,K,M,e⟩
   · rw[qrq _ _ _ e]at E;simp only[Option.bind_some,nth0,nthS,asI_i,cell0,cellS,asL_l]at E;rw[beq_eq_false_iff_ne.2 h0,qa1,show(mkC X p !=0)=true by simpa using h0,qa0]at E;exact .inl ⟨h0,_,_,E⟩
   ·obtain⟨g1,x,z,B⟩:=hnew h0 k g;rw[qrq _ _ _ e]at E;simp only[Option.bind_some,nth0,nthS,asI_i,cell0,cellS,asL_l]at E;have ln:(mkX X k (parN p) 1).length=X.length+1:=(qjb g1 (parN p) 1).1;have an:=qmg g1 (parN p) 1;have w:=qya (d:=d+1) hlf x ((X.length:Int)+2) (by omega) (p:=p) (j:=X.length) ⟨ho,hs,by have:=z.w;rwa[qnt ho]at this,by rw[an];rfl⟩ (by rw[an];rfl) q v;rw[an]at w;rw[show((0:Int)==0)=true from rfl,qa0,w]at E;simp only[Option.bind_some,nth0,nthS,asI_i,cell0,cellS,asL_l]at E;have n1:=G.n1;have dok:=qvo (j:=X.length) (by omega) q v;have G2:=x.same (show X.length<(mkX X k (parN p) 1).length by omega) dok (by rw[an];rfl) (by rw[an];rfl) (by rw[an];rfl);have A2:IsA ((mkX X k (parN p) 1).set X.length (dtN (newN 1) dt)) p X.length:=z.set (by omega) (by rw[an];rfl) (by rw[an];rfl);have s:=qgp (d:=d+1) hlf G2 A2 hA;rw[List.length_set,ln]at s;rw[show((0:Int) !=0)=false from rfl,qa1,show(X.length:Int)+2=((X.length+1:Nat):Int)+1 by omega,s]at E;rw[g];simp only[reduceIte,Int.reduceEq];rw[if_pos c];refine .inr ⟨h0,?_,?_⟩;· unfold stA;rw[qaa (by omega),List.set_set];exact B _ (dok.atN hA) rfl rfl rfl rfl
    · rw[qef,List.length_set,ln];exact E
  ·rw[if_neg c];rw[qah,qah,beq_eq_false_iff_ne.2 c,qa1]at E;have hex:∀k,wk X (parL p) 0=some k->spC X p=0->_:=λk hk h=>hlnk c h k hk;by_cases h0:spC X p=0
   ·obtain⟨k,hk,-⟩:=qtr G ho h0;obtain⟨j,f1,A,f3,f4,f5,f6,f7,f8⟩:=hlnk c h0 k hk;rcases qw5 (d:=d+1) hlf G f1 A f3 hs ho hL with⟨m,_⟩|⟨_,O,g,_,_,_,_,e⟩
    · exact absurd h0 m
    ·rw[hk]at g;cases g;rw[e]at E;simp only[Option.bind_some,nth0,nthS,asI_i,cell0,cellS,asL_l]at E;have ln:(lkX X k (parN p) j).length=X.length:=by unfold lkX;rw[List.length_set,qcd]
     have s:=qgp (d:=d+1) hlf f6.good f7 hA;rw[qlz (by omega) f8,ln]at s;rw[show((0:Int) !=0)=false from rfl,qa1,s]at E;rw[hk];simp only[reduceIte,Int.reduceEq];rw[if_neg c,f1.w];simp only;refine .inr ⟨h0,f6,?_⟩;rw[ln];exact E
   ·have hr:∃j,IsF X fr j/\j≠0/\(X.getD j zN).lk<1000:=by obtain⟨i,hi,C,D,F⟩:=(H.ref n hn).resolve_left (by rw[hL2];exact c);rw[hL2]at C F;obtain⟨j,N,hw,jk,ja⟩:=I.has i hi;have ops:=H.op i (by omega);rw[C]at ops hw;rw[D]at jk;have hjl:=wk_lt G (by have:=G.n1;omega) hw;exact⟨j,⟨ops.1,ops.2,hw,jk⟩,N,by rw[G.lks j hjl];have:=qm8 G ((j:Int)+1);omega⟩
    obtain⟨j,f1,A,f3⟩:=hr;rcases qw5 (d:=d+1) hlf G f1 A f3 hs ho hL with⟨m,r,e⟩|⟨m,_⟩
    · rw[e]at E;simp only[Option.bind_some,nth0,nthS,asI_i]at E;rw[show(spC X p !=0)=true by simpa using m,qa0]at E;exact .inl ⟨m,_,_,E⟩
    · exact absurd m h0
 ·obtain⟨rfl,c⟩:=hdir rfl;rw[show((2:Int)==2)=true from rfl,qa0]at E;rw[if_pos c];rw[qgo (d:=d+3) hlf (TT X) _ hS p hs]at E;have hst:=qee G (qed (TT X) ho) hfr;simp only[Option.bind_some,nth0,nthS,asI_i]at E;rw[show(statC (TT X) p !=0)=true by simpa using hst,qa0]at E;rcases qw4 (d:=d) hlf G hs ho hL (kd:=2) (.inr rfl)with⟨h0,r,e⟩|⟨h0,k,g,h2,J,K,M,e⟩
  · rw[qrr _ _ _ e]at E;simp only[Option.bind_some,nth0,nthS,asI_i,cell0,cellS,asL_l]at E;rw[show(mkC X p !=0)=true by simpa using h0,qa0]at E;exact .inl ⟨h0,_,_,E⟩
  ·obtain⟨g1,x,z,B⟩:=hnew h0 k g;rw[qrr _ _ _ e]at E;simp only[Option.bind_some,nth0,nthS,asI_i,cell0,cellS,asL_l]at E;have ln:(mkX X k (parN p) 2).length=X.length+1:=(qjb g1 (parN p) 2).1;have an:=qmg g1 (parN p) 2;have n1:=G.n1;have s:=qgp (d:=d+1) hlf x z hA;rw[ln]at s;rw[show((0:Int) !=0)=false from rfl,qa1,show(X.length:Int)+2=((X.length+1:Nat):Int)+1 by omega,s]at E;rw[g];simp only[reduceIte,Int.reduceEq];refine .inr ⟨h0,?_,?_⟩;· unfold stA;rw[an];exact B _ ((qj9 (i:=X.length) (by omega) (.inr rfl)).atN hA) rfl rfl rfl rfl
   · rw[qef,ln];exact E
theorem qoj{lf d:Nat}(hlf:33554432<=lf)(l:List T)(nx k:Int)(hk:k≠0)(p:ByteArray)(A:List T)(hA:A.length<=1000):Cc lf (d+1) 29 [.st [.sl l,.i .i64 nx,.i .i64 k],.s p,.sl A]=some [.st [.sl l,.i .i64 nx,.i .i64 k]]:=by
 have E:=f29_eq (Cc lf d) lf l nx k p A;unfold f29 f29_t at E;dsimp only at E;rw[qdg (F:=λm i=>f29_0 (Cc lf d) lf A p m i nx k l) (len:=A.length) (Y:=some [T.i .i64 0,T.i .i64 nx,T.i .i64 k,T.sl l]) (λm i hi=>by
  rw[f29_0];unfold f29_0_s;rw[iLt_t (by omega),qa2 hi,qa3 hi (by omega),beq_eq_false_iff_ne.2 hk];rfl) (λm=>by
  rw[f29_0];unfold f29_0_s;rw[iLt_f (by omega)];rfl) (by omega)]at E
 exact E
theorem qxw{L:List En}{X:List Nd}{n:Nat}(H:EsOk L)(I:Inv L X n)(hn:n<L.length)(c:(L.getD n zE).fr≠(L.getD n zE).p):∃j,IsF X (L.getD n zE).fr j/\j≠0/\(X.getD j zN).lk<1000:=by have G:=I.good;obtain⟨i,hi,g,h,m⟩:=(H.ref n hn).resolve_left c;obtain⟨j,k,hw,jk,ja⟩:=I.has i hi;have ops:=H.op i (by omega);rw[g]at ops hw;rw[h]at jk;have hjl:=wk_lt G (by have:=G.n1;omega) hw;exact⟨j,⟨ops.1,ops.2,hw,jk⟩,k,by rw[G.lks j hjl];have:=qm8 G ((j:Int)+1);omega⟩
theorem en_at{L:List En}{i:Nat}(h:i<L.length):(L.map enW).getD i T.u=enW (L.getD i zE):=qd7 enW zE h
set_option maxHeartbeats 1000000 in
theorem c_iStep{lf d:Nat}(hlf:33554432<=lf){L:List En}{X:List Nd}{n:Nat}(H:EsOk L)(I:Inv L X n)(hn:n<L.length)(m:Nat):(nC L X n≠0/\∃a b,f9_0 (Cc lf (d+11)) lf (L.map enW) (m+1) (n:Int) ((X.length:Int)+1) 0 (TT X)=f9_0 (Cc lf (d+11)) lf (L.map enW) m ((n+1:Nat):Int) b (nC L X n) a)\/(nC L X n=0/\f9_0 (Cc lf (d+11)) lf (L.map enW) (m+1) (n:Int) ((X.length:Int)+1) 0 (TT X)=f9_0 (Cc lf (d+11)) lf (L.map enW) m ((n+1:Nat):Int) (((nX L X n).length:Int)+1) 0 (TT (nX L X n))):=by
 have G:=I.good;have hS:=G.sml.le;obtain⟨ho,hs⟩:=H.op n hn;have hL:=I.low H hn;have hkd:=H.kd n hn;obtain⟨v,x⟩:=H.dt n hn;have hA:=H.ats n hn;have hdir:=H.dir n hn;have hnew:=λh k hk=>I.new H hn h (k:=k) hk;have hlnk:=λhr h k hk=>I.lnk H hn hr h (k:=k) hk;have hjj:=λc=>qxw H I hn c;have hlen:=H.len;have E:∀(Q:Option (List T)),f9_0_s (Cc lf (d+11)) lf (L.map enW) (f9_0 (Cc lf (d+11)) lf (L.map enW) m) (n:Int) ((X.length:Int)+1) 0 (TT X)=Q->f9_0 (Cc lf (d+11)) lf (L.map enW) (m+1) (n:Int) ((X.length:Int)+1) 0 (TT X)=Q:=λQ h=>by rw[f9_0];exact h
 have hA4:((L.getD n zE).ats.map aT).length<=1000:=by rw[List.length_map];have:=hA.al;omega
 generalize hF:f9_0 (Cc lf (d+11)) lf (L.map enW) (m+1) (n:Int) ((X.length:Int)+1) 0 (TT X)=R at E|-;have E:=E _ rfl;unfold f9_0_s at E;rw[List.length_map,iLt_t (by omega),qa2 hn,qa3 hn (by omega),Int.toNat_natCast,en_at hn,show((0:Int) !=0)=false from rfl]at E;simp only[qa0,qa1]at E;generalize hW:f9_0 (Cc lf (d+11)) lf (L.map enW) m ((n+1:Nat):Int)=W at E|-;unfold nC nX;unfold enW at E;generalize hL2:L.getD n zE=e at*;obtain⟨p,kd,dt,ats,fr⟩:=e;simp only at*;simp only[cell0,cellS,asS_s,asI_i,asL_l]at E;have hfl:=f32_eq (Cc lf (d+10)) lf (TT X) ((X.length:Int)+1) 0 (bsOf p) kd dt (ats.map aT) (bsOf fr);unfold f32 f32_t at hfl;rw[show((0:Int) !=0)=false from rfl,qa1]at hfl;rcases hkd with rfl|rfl
 ·rw[show((1:Int)==2)=false from rfl,qa1]at E;by_cases c:fr=p
  ·rw[if_pos c];rw[qah,qah,beq_iff_eq.2 c]at hfl E;rw[Bool.not_true,qa1]at hfl;simp only[qa0]at E;rcases qwa (d:=d) hlf G hs ho hL (kd:=1) (.inl rfl)with⟨h0,r,e⟩|⟨h0,k,g,e⟩
   · rw[qrv _ _ _ e,Option.bind_some,show nth [T.st [T.sl (asL (T.cell r 0)),T.i .i64 (asI (T.cell r 1))],T.i .i64 (mkC X p)] 0=T.st [T.sl (asL (T.cell r 0)),T.i .i64 (asI (T.cell r 1))]from rfl]at hfl;simp only[nthS,nth0,asI_i,cell0,cellS,asL_l]at hfl;rw[c_do (d:=d+9),beq_eq_false_iff_ne.2 h0,qa1,qa1]at hfl;simp only[Option.bind_some,nth0,asI_i,cell0,cellS,asL_l]at hfl;rw[beq_eq_false_iff_ne.2 h0,qa1]at hfl;have hfl2:Cc lf (d+11) 32 [.st [.sl (TT X),.i .i64 ((X.length:Int)+1),.i .i64 0],.st [.s (bsOf p),.i .i64 1,.sl dt,.sl (ats.map aT),.s (bsOf fr)]]=_:=hfl;rw[hfl2]at E;simp only[Option.bind_some,nth0,asI_i,cell0,cellS,asL_l]at E;rw[qoj (d:=d+10) hlf _ _ _ h0 _ _ hA4]at E;exact .inl ⟨h0,_,_,E⟩
   · obtain⟨g1,z,A,D⟩:=hnew h0 k g;rw[qrv _ _ _ e]at hfl;simp only[Option.bind_some,nth0,nthS,asI_i,cell0,cellS,asL_l]at hfl;rw[c_do (d:=d+9),show((0:Int)==0)=true from rfl,qa0,qa0]at hfl;simp only[Option.bind_some,nth0,asI_i,cell0,cellS,asL_l]at hfl;have ln:(mkX X k (parN p) 1).length=X.length+1:=(qjb g1 (parN p) 1).1;have an:=qmg g1 (parN p) 1;have w:=qyh (d:=d+1) hlf z ((X.length:Int)+2) (by omega) (p:=p) (j:=X.length) ⟨ho,hs,by have:=A.w;rwa[qnt ho]at this,by rw[an];rfl⟩ (by rw[an];rfl) v x;rw[an]at w;rw[show((0:Int)==0)=true from rfl,qa0,w]at hfl;simp only[Option.bind_some,nth0,nthS,asI_i,cell0,cellS,asL_l]at hfl;rw[c_do (d:=d+9),show((0:Int)==0)=true from rfl,qa0,qa0]at hfl;simp only[Option.bind_some,nth0,asI_i,cell0,cellS,asL_l]at hfl;have hfl2:Cc lf (d+11) 32 [.st [.sl (TT X),.i .i64 ((X.length:Int)+1),.i .i64 0],.st [.s (bsOf p),.i .i64 1,.sl dt,.sl (ats.map aT),.s (bsOf fr)]]=_:=hfl;rw[hfl2]at E;simp only[Option.bind_some,nth0,asI_i,cell0,cellS,asL_l]at E;have n1:=G.n1;have dok:=qvo (j:=X.length) (by omega) v x;have G2:=z.same (show X.length<(mkX X k (parN p) 1).length by omega) dok (by rw[an];rfl) (by rw[an];rfl) (by rw[an];rfl);have A2:IsA ((mkX X k (parN p) 1).set X.length (dtN (newN 1) dt)) p X.length:=A.set (by omega) (by rw[an];rfl) (by rw[an];rfl);have s:=qk7 (d:=d+2) hlf G2 A2 (by rw[qaa (by omega)];rfl) hA;rw[List.length_set,ln]at s;rw[show(X.length:Int)+2=((X.length+1:Nat):Int)+1 by omega,s]at E;rw[g];simp only[reduceIte,Int.reduceEq];rw[if_pos c];refine .inr ⟨h0,?_⟩;rw[qef,List.length_set,ln];exact E
  ·rw[if_neg c];rw[qah,qah,beq_eq_false_iff_ne.2 c]at hfl E;rw[Bool.not_false,qa0]at hfl;simp only[qa1]at E;by_cases h0:spC X p=0
   ·obtain⟨k,hk,-⟩:=qtr G ho h0;obtain⟨j,f1,C,f3,f4,f5,f6,f7,f8⟩:=hlnk c h0 k hk;rcases qwb (d:=d+1) hlf G f1 C f3 hs ho hL with⟨q,_⟩|⟨_,F,g,e⟩
    · exact absurd h0 q
    ·rw[hk]at g;cases g;rw[e]at hfl;simp only[Option.bind_some,nth0,nthS,asI_i,cell0,cellS,asL_l]at hfl;rw[c_do (d:=d+9),show((0:Int)==0)=true from rfl,qa0,qa0]at hfl;simp only[Option.bind_some,nth0,asI_i,cell0,cellS,asL_l]at hfl;have ln:(lkX X k (parN p) j).length=X.length:=by unfold lkX;rw[List.length_set,qcd]
     have hfl2:Cc lf (d+11) 32 [.st [.sl (TT X),.i .i64 ((X.length:Int)+1),.i .i64 0],.st [.s (bsOf p),.i .i64 1,.sl dt,.sl (ats.map aT),.s (bsOf fr)]]=_:=hfl;rw[hfl2]at E;simp only[Option.bind_some,nth0,asI_i,cell0,cellS,asL_l]at E;rw[hk];simp only[reduceIte,Int.reduceEq];rw[if_neg c,f1.w];simp only;refine .inr ⟨h0,?_⟩;rw[ln];exact E
   ·obtain⟨j,f1,C,f3⟩:=hjj c;rcases qwb (d:=d+1) hlf G f1 C f3 hs ho hL with⟨q,r,e⟩|⟨q,_⟩
    · have hr:∃a b,Cc lf (d+10) 30 [.st [.sl (TT X),.i .i64 ((X.length:Int)+1),.i .i64 0],.st [.sl (asL (T.cell r 0)),.i .i64 (asI (T.cell r 1))],.i .i64 (spC X p)]=some [.st [.sl a,.i .i64 b,.i .i64 (spC X p)]]:=⟨_,_,c_do (d:=d+9) _ _ _ _ _ _⟩;obtain⟨a,b,hr⟩:=hr;rw[e]at hfl;simp only[Option.bind_some,nth0,nthS,asI_i]at hfl;rw[hr]at hfl;simp only[Option.bind_some,nth0,asI_i,cell0,cellS,asL_l]at hfl;have hfl2:Cc lf (d+11) 32 [.st [.sl (TT X),.i .i64 ((X.length:Int)+1),.i .i64 0],.st [.s (bsOf p),.i .i64 1,.sl dt,.sl (ats.map aT),.s (bsOf fr)]]=_:=hfl;rw[hfl2]at E;simp only[Option.bind_some,nth0,asI_i,cell0,cellS,asL_l]at E;exact .inl ⟨q,_,_,E⟩
    · exact absurd q h0
 ·obtain⟨rfl,c⟩:=hdir rfl;rw[show((2:Int)==2)=true from rfl,qa0]at E;rw[if_pos c];rw[qah,qah,beq_iff_eq.2 c]at E;simp only[qa0]at E;rcases qwa (d:=d) hlf G hs ho hL (kd:=2) (.inr rfl)with⟨h0,r,e⟩|⟨h0,k,g,e⟩
  · have e':=qrw _ _ _ e;have hr:=c_do (lf:=lf) (d:=d+10) (TT X) (asL (T.cell r 0)) ((X.length:Int)+1) 0 (asI (T.cell r 1)) (mkC X p);rw[beq_eq_false_iff_ne.2 h0,qa1,qa1]at hr;have B:Cc lf (d+11) 31 [.st [.sl (TT X),.i .i64 ((X.length:Int)+1)],.s (bsOf p)]=_:=Cc_le (show d+10<=d+11 by omega) _ _ _ e';rw[B]at E;simp only[Option.bind_some,nth0,nthS,asI_i,cell0,cellS,asL_l]at E;rw[hr]at E;simp only[Option.bind_some,nth0,asI_i,cell0,cellS,asL_l]at E;rw[qoj (d:=d+10) hlf _ _ _ h0 _ _ hA4]at E;exact .inl ⟨h0,_,_,E⟩
  · obtain⟨g1,z,A,D⟩:=hnew h0 k g;have e':=qrw _ _ _ e;have hr:=c_do (lf:=lf) (d:=d+10) (TT X) (TT (mkX X k (parN p) 2)) ((X.length:Int)+1) 0 ((X.length:Int)+2) 0;rw[show((0:Int)==0)=true from rfl,qa0,qa0]at hr;have B:Cc lf (d+11) 31 [.st [.sl (TT X),.i .i64 ((X.length:Int)+1)],.s (bsOf p)]=_:=Cc_le (show d+10<=d+11 by omega) _ _ _ e';rw[B]at E;simp only[Option.bind_some,nth0,nthS,asI_i,cell0,cellS,asL_l]at E;rw[hr]at E;simp only[Option.bind_some,nth0,asI_i,cell0,cellS,asL_l]at E;have ln:(mkX X k (parN p) 2).length=X.length+1:=(qjb g1 (parN p) 2).1;have an:=qmg g1 (parN p) 2;have s:=qk7 (d:=d+2) hlf z A (by rw[an];rfl) hA;rw[ln]at s;rw[show(X.length:Int)+2=((X.length+1:Nat):Int)+1 by omega,s]at E;rw[g];simp only[reduceIte,Int.reduceEq];refine .inr ⟨h0,?_⟩;rw[qef,ln];exact E
def byO(s:ByteArray):By:=s.data.toList
def aI(t:T):By×By:=(byO (asS (T.cell t 0)),byO (asS (T.cell t 1)))
def enI(t:T):En:=⟨byO (asS (T.cell t 0)),asI (T.cell t 1),asL (T.cell t 2),(asL (T.cell t 3)).map aI,byO (asS (T.cell t 4))⟩
theorem back{α:Type}{f:T->α}{g:α->T}{l:List T}(h:∀x∈l,g (f x)=x):(l.map f).map g=l:=by rw[List.map_map];exact(List.map_congr_left (g:=id) h).trans (List.map_id l)
theorem qwy{l:List T}(h:fitC (.sl true [.s,.s]) (.sl l)):(l.map aI).map aT=l:=back λx hx=>by obtain⟨a0,c,rfl,_⟩:=qhv (qaz.1 h.2 x hx);show T.st [.s (bsOf a0.data.toList),.s (bsOf c.data.toList)]=_;rw[bs_of,bs_of]
theorem qy5{l:List T}(h:fitC (.sl true [.s,.i .i64,.sl false [.i .u8],.sl true [.s,.s],.s]) (.sl l)):(l.map enI).map enW=l:=back λx hx=>by obtain⟨a0,c,g,a3,a4,rfl,h0,k,h2,j,m⟩:=qap (qaz.1 h.2 x hx);show T.st [.s (bsOf a0.data.toList),.i .i64 c,.sl g,.sl ((a3.map aI).map aT),.s (bsOf a4.data.toList)]=_;rw[bs_of,bs_of,qwy j]
theorem qwp{A:List (By×By)}(h:qc9 (A.map aT)=true):AtOk A:=by
 unfold qc9 at h;rw[Bool.and_eq_true,List.length_map,qe5]at h;obtain⟨c,h2⟩:=h;have c:=qa8.1 c;have hl:∀j,j<(A.map aT).length->lessB (A.map aT) j=true:=λj hj=>by have:=c j (by rwa[List.length_map]at hj);unfold attrB at this;simp only[Bool.and_eq_true]at this;exact this.2.2
 refine⟨by omega,λa ha=>?_,List.pairwise_iff_getElem.2 λi j hi hj hij=>?_⟩;· obtain⟨j,hj,rfl⟩:=List.getElem_of_mem ha;have:=c j hj;unfold attrB at this;rw[aT_at hj,List.getD_eq_getElem?_getD,List.getElem?_eq_getElem hj]at this;simp only[aT,Option.getD_some,cell0,cellS,asS_s,qal,Bool.and_eq_true,qe5]at this;obtain⟨g1,⟨g,k⟩,_⟩:=this;exact⟨g1,by omega,by omega⟩
 · have:=ql3 hl (j-i) i (by rw[List.length_map];omega) (by omega);rw[show i+(j-i)=j by omega,aT_at hi,aT_at hj]at this;simp only[aT,cell0,asS_s,qah,List.getD_eq_getElem?_getD,List.getElem?_eq_getElem hi,List.getElem?_eq_getElem hj,Option.getD_some]at this;exact this
theorem qzi{a b:By}(h:(bsOf a==bsOf b)=true):a=b:=by have h:(a.toArray==b.toArray)=true:=h;have:=congrArg Array.toList (beq_iff_eq.1 h);simpa using this
theorem qyv{A B:List (By×By)}(h:sameB (attrE (A.map aT) (B.map aT)) (A.map aT) (B.map aT)=true):A=B:=by
 unfold sameB at h;rw[Bool.and_eq_true,List.length_map,List.length_map]at h;obtain⟨c,h2⟩:=h;have hl:A.length=B.length:=by have:=beq_iff_eq.1 c;omega
 refine List.ext_getElem hl λj hj hj'=>?_;have:=qa8.1 h2 j hj;unfold attrE at this;rw[aT_at hj,aT_at hj',List.getD_eq_getElem?_getD,List.getElem?_eq_getElem hj,List.getD_eq_getElem?_getD,List.getElem?_eq_getElem hj']at this;simp only[aT,Option.getD_some,cell0,cellS,asS_s,Bool.and_eq_true,Bool.and_true]at this;exact Prod.ext (qzi this.1) (qzi this.2)
theorem esok_of{L:List En}(hf:fitC (.sl true [.s,.i .i64,.sl false [.i .u8],.sl true [.s,.s],.s]) (.sl (L.map enW)))(hz:tls (L.map enW)<=1048576)(h:(allB (sP (L.map enW)) (L.map enW).length&&iLe ((L.map enW).length:Int) 200)=true):EsOk L:=by
 rw[Bool.and_eq_true,List.length_map,qe5]at h;obtain⟨q,h2⟩:=h;have q:=qa8.1 q;have at_:∀j,j<L.length->(L.map enW).getD j T.u=enW (L.getD j zE):=λj hj=>en_at hj;have ht:∀j,j<L.length->tl (enW (L.getD j zE))<=1048576:=λj hj=>by have hm:enW (L.getD j zE)∈L.map enW:=List.mem_map_of_mem (qax hj zE);have:=qfa hm;omega
 have hE:∀j,j<L.length->eB (L.map enW) j=true/\lessB (L.map enW) j=true/\refB (L.map enW) j=true:=λj hj=>by have:=q j hj;unfold sP at this;simpa only[Bool.and_eq_true]using this
 have hB:∀j,j<L.length->okP (L.getD j zE).p=true/\(1<=(L.getD j zE).kd/\(L.getD j zE).kd<=2)/\(L.getD j zE).dt.length<=100/\qc9 ((L.getD j zE).ats.map aT)=true/\((L.getD j zE).kd≠1->(L.getD j zE).dt=[]/\(L.getD j zE).fr=(L.getD j zE).p):=λj hj=>by
  have:=(hE j hj).1;unfold eB qlg pathO kindO dataO attrO frstO at this;rw[at_ j hj]at this;unfold enW at this;simp only[cell0,cellS,asS_s,asI_i,asL_l,qah,Bool.and_eq_true,qe5]at this;obtain⟨g1,B,v,C,H,g⟩:=this;refine⟨g1,B,?_,C,λhk=>?_⟩
  ·cases e:iLt 100 ((L.getD j zE).dt.length:Int)with
   |true=>rw[e]at v;cases v
   |false=>
    by_cases c:(L.getD j zE).dt.length<=100;· exact c
    · rw[iLt_t (by omega)]at e;cases e
  ·rw[beq_eq_false_iff_ne.2 hk,qa1]at g;cases e:(((L.getD j zE).dt.length:Nat):Int)==0 with
   |false=>rw[e]at g;cases g
   |true=>rw[e,qa0]at g;have:=beq_iff_eq.1 e;exact⟨List.eq_nil_of_length_eq_zero (by omega),beq_iff_eq.1 g⟩
 have hless:∀i j,i<j->j<L.length->Op.bytesLess (L.getD i zE).p (L.getD j zE).p=true:=λi j hij hj=>by have:=qm5 (l:=L.map enW) (m:=L.length) (λk hk=>(hE k hk).2.1) (j-i) i (by omega) (by omega);rw[show i+(j-i)=j by omega]at this;unfold pathO at this;rw[at_ i (by omega),at_ j hj]at this;simpa only[enW,cell0,asS_s,qah]using this
 refine⟨by omega,λi hi=>⟨(hB i hi).1,?_⟩,λi hi=>?_,λi hi=>⟨(hB i hi).2.2.1,?_⟩,λi hi=>qwp (hB i hi).2.2.2.1,λi hi hk=>(hB i hi).2.2.2.2 (by omega),hless,λi hi=>?_⟩;· have:=ht i hi;unfold enW at this;simp only[tl,tls,qal]at this;omega
 · have:=(hB i hi).2.1;omega
 · have hm:enW (L.getD i zE)∈L.map enW:=List.mem_map_of_mem (qax hi zE);obtain⟨a0,D,E,a3,a4,e,_,_,h2,_⟩:=qap (qaz.1 hf.2 _ hm);unfold enW at e;injection e with e;injection e with _ e;injection e with _ e;injection e with e _;injection e with e;rw[e];exact h2
 ·have:=(hE i hi).2.2;unfold refB at this;rw[Bool.or_eq_true]at this;unfold frstO pathO at this;rw[at_ i hi]at this;simp only[enW,cell0,cellS,asS_s,qah]at this;rcases this with c|c
  · exact .inl (beq_iff_eq.1 c)
  ·refine .inr ?_;have hx:∃k,k<i/\refC (L.map enW) i k=true:=by
    refine Classical.byContradiction λhno=>?_;have:allB (λk=>!refC (L.map enW) i k) i=true:=qa8.2 λk hk=>by
     cases e:refC (L.map enW) i k with
     |false=>rfl
     |true=>exact absurd ⟨k,hk,e⟩ hno
    rw[this]at c;cases c
   obtain⟨k,hk,e⟩:=hx;unfold refC frstO pathO kindO attrO dataO at e;rw[at_ i hi,at_ k (by omega)]at e;simp only[enW,cell0,cellS,asS_s,asI_i,asL_l,qah,Bool.and_eq_true,beq_iff_eq]at e;obtain⟨x,F,z,G,A⟩:=e;exact⟨k,hk,x,z,qyv A⟩
def X0:List Nd:=[⟨2,0,[],[],[]⟩]
theorem wk_X0:∀N k,wk X0 N 0=some k->N=[]
|[],_,_=>rfl
|a::N,k,h=>by unfold wk at h;simp[X0]at h
theorem qn5:Good X0 where
 n1:=Nat.le_refl _
 n2:=by decide
 rt:=rfl
 ok:=λi hi=>by have:i=0:=Nat.lt_one_iff.1 hi;subst this;refine⟨.inr rfl,⟨Int.le_refl _,show(0:Int)<=1000 by omega⟩,⟨λ_=>rfl,λ_=>rfl⟩,Nat.zero_le _,⟨Nat.zero_le _,trivial⟩,Nat.zero_le _,λ_ h=>absurd h List.not_mem_nil,List.Pairwise.nil,Nat.zero_le _,λ_ h=>absurd h List.not_mem_nil,List.Pairwise.nil,λ_=>rfl,λ_=>⟨rfl,show(0:Int)<=1 by omega⟩⟩
 inr:=λi hi e he=>by have:i=0:=Nat.lt_one_iff.1 hi;subst this;exact absurd he List.not_mem_nil
 par:=λj c h2=>absurd h2 (by show¬j<1;omega)
 lks:=λj hj=>by have:j=0:=Nat.lt_one_iff.1 hj;subst this;rfl
theorem qv1{L:List En}{A:List (By×By)}(a:AtOk A):Inv L (stA X0 0 A) 0 where
 good:=qi4 qn5 (by decide) a
 sub:=λN k h=>by unfold stA at h;rw[qlv (X:=X0) (k:=0) (y:=atN (X0.getD 0 zN) A) (by decide) rfl rfl]at h;exact .inl (wk_X0 N k h)
 has:=λi hi=>absurd hi (Nat.not_lt_zero _)
 uni:=λN M k c h2 _=>by unfold stA at c h2;rw[qlv (X:=X0) (k:=0) (y:=atN (X0.getD 0 zN) A) (by decide) rfl rfl]at c h2;rw[wk_X0 N k c,wk_X0 M k h2]
theorem qk4{lf d:Nat}:Cc lf (d+1) 21 []=some [.st [.sl (TT X0),.i .i64 2]]:=f21_eq (Cc lf d) lf
theorem qk6{lf d:Nat}:Cc lf (d+1) 28 []=some [.st [.sl (TT X0),.i .i64 2]]:=f28_eq (Cc lf d) lf
theorem qtg(l:List T):∀(N:List By)(x:Int),0<=(wlk l N x).2/\(wlk l N x).2<=3
|[],x=>by unfold wlk;simp
|s::N,x=>by
 unfold wlk;have ih:=λy=>qtg l N y;cases plc l x with
 |none=>exact⟨show(0:Int)<=2 by omega,show(2:Int)<=3 by omega⟩
 |some j=>
  simp only;split
  ·split;· exact⟨by decide,by decide⟩
   · exact ih _
  · exact⟨by decide,by decide⟩
theorem qx6(l:List T)(p:By):0<=statC l p/\statC l p<=3:=by
 unfold statC;have hw:0<=(walkR l p).2/\(walkR l p).2<=3:=by
  unfold walkR;cases p==[47]with
  |true=>exact⟨show(0:Int)<=0 by omega,show(0:Int)<=3 by omega⟩
  |false=>
   cases okP p with
   |true=>exact qtg l _ 1
   |false=>exact⟨show(0:Int)<=1 by omega,show(1:Int)<=3 by omega⟩
 split;· split<;>exact⟨by decide,by decide⟩
 · exact hw
theorem qzs(X:List Nd)(p:By):0<=spC X p/\spC X p<=5:=by
 unfold spC;have:=qx6 (TT X) (jn (parL p));split;· omega
 ·split;· omega
  ·split;· omega
   · split<;>omega
theorem nC_rng(L:List En)(X:List Nd)(n:Nat):0<=nC L X n/\nC L X n<=5:=by
 unfold nC mkC;have:=qzs X (L.getD n zE).p;split
 ·split;· exact this
  · split<;>omega
 · exact this
theorem loops{lf d:Nat}(hlf:33554432<=lf){L:List En}(H:EsOk L):∀(k n:Nat){X:List Nd}(m m':Nat),n+k=L.length->k<m->k<m'->Inv L X n->(∃(q:Int)(a a':List T)(b b':Int),(q≠0/\0<=q/\q<=5)/\f6_0 (Cc lf (d+11)) lf (L.map enW) m 0 (n:Int) ((X.length:Int)+1) (TT X)=some [T.i .i64 0,T.i .i64 q,T.i .i64 0,T.sl [],T.i .i64 b,T.sl a]/\f9_0 (Cc lf (d+11)) lf (L.map enW) m' (n:Int) ((X.length:Int)+1) 0 (TT X)=some [T.i .i64 0,T.i .i64 0,T.sl [],T.i .i64 b',T.i .i64 q,T.sl a'])\/(∃X':List Nd,Inv L X' L.length/\f6_0 (Cc lf (d+11)) lf (L.map enW) m 0 (n:Int) ((X.length:Int)+1) (TT X)=some [T.i .i64 0,T.i .i64 0,T.i .i64 0,T.sl [],T.i .i64 ((X'.length:Int)+1),T.sl (TT X')]/\f9_0 (Cc lf (d+11)) lf (L.map enW) m' (n:Int) ((X.length:Int)+1) 0 (TT X)=some [T.i .i64 0,T.i .i64 0,T.sl [],T.i .i64 ((X'.length:Int)+1),T.i .i64 0,T.sl (TT X')]):=by
 have h:=H.len;intro k;induction k with
 |zero=>
  intro n X m m' hk hm hm' I;obtain⟨m,rfl⟩:∃z,m=z+1:=⟨m-1,by omega⟩;obtain⟨m',rfl⟩:∃z,m'=z+1:=⟨m'-1,by omega⟩;refine .inr ⟨X,by rw[<-hk];exact I,?_,?_⟩;· rw[f6_0];unfold f6_0_s;rw[List.length_map,iLt_f (by omega)];rfl
  · rw[f9_0];unfold f9_0_s;rw[List.length_map,iLt_f (by omega)];rfl
 |succ k ih=>
  intro n X m m' hk hm hm' I;obtain⟨m,rfl⟩:∃z,m=z+1:=⟨m-1,by omega⟩;obtain⟨m',rfl⟩:∃z,m'=z+1:=⟨m'-1,by omega⟩;have hn:n<L.length:=by omega
  have hi:=c_iStep (d:=d) hlf H I hn m';have hs:=c_sAdd (d:=d+1) hlf H I hn;have u:=f6_0_u (Cc lf (d+11)) lf (L.map enW) m 0 (n:Int) ((X.length:Int)+1) (TT X);unfold f6_0_s at u;rw[List.length_map,iLt_t (by omega),qa2 hn,qa3 hn (by omega),Int.toNat_natCast,en_at hn,show((0:Int)==0)=true from rfl]at u;simp only[qa0]at u;have hw:enW (L.getD n zE)=T.st [T.s (asS (T.cell (enW (L.getD n zE)) 0)),T.i .i64 (asI (T.cell (enW (L.getD n zE)) 1)),T.sl (asL (T.cell (enW (L.getD n zE)) 2)),T.sl (asL (T.cell (enW (L.getD n zE)) 3)),T.s (asS (T.cell (enW (L.getD n zE)) 4))]:=rfl;rcases hs with⟨h0,a,b,e⟩|⟨h0,I',e⟩
  ·rw[hw]at e;rw[e]at u;simp only[Option.bind_some,nth0,nthS,cell0,cellS,asI_i,asL_l]at u;rcases hi with⟨_,a',b',ei⟩|⟨g,_⟩
   ·obtain⟨m,rfl⟩:∃z,m=z+1:=⟨m-1,by omega⟩;obtain⟨m',rfl⟩:∃z,m'=z+1:=⟨m'-1,by omega⟩;refine .inl ⟨_,a,a',b,b',⟨h0,nC_rng L X n⟩,u.trans ?_,ei.trans ?_⟩;· rw[f6_0];unfold f6_0_s;rw[beq_eq_false_iff_ne.2 h0];simp only[qa1,qk1]
    ·rw[f9_0];unfold f9_0_s;rw[show(nC L X n !=0)=true by simpa using h0,List.length_map];simp only[qa0];by_cases c:n+1<L.length;· rw[iLt_t (by omega),qa2 c];rfl
     · rw[iLt_f (by omega)];rfl
   · exact absurd g h0
  ·rw[hw]at e;rw[e]at u;simp only[Option.bind_some,nth0,nthS,cell0,cellS,asI_i,asL_l]at u;rcases hi with⟨g,_⟩|⟨_,ei⟩
   · exact absurd h0 g
   · rw[u,ei];exact ih (n+1) m m' (by omega) (by omega) (by omega) I'
theorem nd_fit{j:Nat}{n:Nd}(h:NdOk j n)(hj:j<1000):fitE true qbs (ndT ((j:Int)+1) n):=by
 have w:∀x:Int,0<=x->x<=1000->(Lit.int .i64 x).wf=true:=λx h0 g=>wf64 (by omega) (by omega);have hm:(16:Nat)<=maxLen:=by decide
 have hk:0<=n.k/\n.k<=2:=by rcases h.kk with c|c<;>omega
 refine⟨⟨rfl,w _ (by omega) (by omega)⟩,⟨rfl,w _ hk.1 (by omega)⟩,⟨rfl,w _ h.lk.1 h.lk.2⟩,h.fd,⟨?_,?_⟩,⟨?_,?_⟩,trivial⟩;· rw[List.length_map];have:=h.es;omega
 · refine qaz.2 λx hx=>?_;obtain⟨e,he,rfl⟩:=List.mem_map.1 hx;have g:=h.en e he;have h2:=qb6 g.1;rw[qal]at h2;exact⟨show(bsOf e.1).size<=maxLen by rw[qal];omega,⟨rfl,w _ (by omega) (by omega)⟩,trivial⟩
 · rw[List.length_map];have:=h.al;omega
 · refine qaz.2 λx hx=>?_;obtain⟨e,he,rfl⟩:=List.mem_map.1 hx;have g:=h.an e he;have h2:=qb6 g.1;rw[qal]at h2;exact⟨show(bsOf e.1).size<=maxLen by rw[qal];omega,show(bsOf e.2).size<=maxLen by rw[qal];omega,trivial⟩
theorem qrb{X:List Nd}(G:Good X):fitE true qaj (.st [.sl (TT X),.i .i64 ((X.length:Int)+1)])/\tl (.st [.sl (TT X),.i .i64 ((X.length:Int)+1)])<=16777216:=by
 have n2:=G.n2;have hm:(30:Nat)<=maxLen:=by decide
 refine⟨⟨⟨by rw[qb2];omega,qaz.2 λx hx=>?_⟩,⟨rfl,wf64 (by omega) (by omega)⟩,trivial⟩,?_⟩;· obtain⟨i,hi,rfl⟩:=List.getElem_of_mem hx;rw[qb2]at hi;have c:=TT_at hi;rw[List.getD_eq_getElem?_getD,List.getElem?_eq_getElem (by rw[qb2];exact hi)]at c;have c:(TT X)[i]=_:=c;rw[c];exact nd_fit (G.ok i hi) (by omega)
 · have:=G.sml.le;simp only[tl,tls];omega
theorem same{lf:Nat}(hlf:33554432<=lf)(l0:List T)(h0:fitC (.sl true [.s,.s]) (.sl l0))(z0:tl (.sl l0)<=1048576)(c:List T)(m:fitC (.sl true [.s,.i .i64,.sl false [.i .u8],.sl true [.s,.s],.s]) (.sl c))(j:tl (.sl c)<=1048576):∃r k,Cc lf 13 6 [.sl l0,.sl c]=some [r,k]/\Cc lf 13 9 [.sl l0,.sl c]=some [r,k]/\(fitE true qaj r/\tl r<=16777216)/\(fitC (.i .i64) k/\tl k<=16777216)/\True:=by
 simp only[tl]at z0 j;have Es:=f6_eq (Cc lf 12) lf l0 c;have Ei:=f9_eq (Cc lf 12) lf l0 c;unfold f6 f6_t at Es;unfold f9 f9_t at Ei;have gX:=qrb qn5;rw[show((X0.length:Nat):Int)+1=2 from rfl]at gX;have C:fitC (.i .i64) (.i .i64 1)/\tl (T.i .i64 1)<=16777216:=⟨⟨rfl,wf64 (by omega) (by omega)⟩,Nat.zero_le _⟩;rw[qt0 (d:=6) hlf c j]at Es;rw[qt6 (d:=4) hlf c j,<-Bool.and_assoc,<-all_and]at Ei;simp only[Option.bind_some,nth0,asB_b]at Es Ei;cases hE:allB (sP c) c.length&&iLe (c.length:Int) 200 with
 |false=>rw[hE,Bool.not_false,qa0,qk4 (d:=11)]at Es;rw[hE,Bool.not_false,qa0,qk6 (d:=11)]at Ei;exact⟨_,_,Es,Ei,gX,C,trivial⟩
 |true=>
  rw[hE,Bool.not_true,qa1,qmy (d:=9) hlf l0 (by omega)]at Es;rw[hE,Bool.not_true,qa1,qij (d:=9) hlf l0 (by omega)]at Ei;simp only[Option.bind_some,nth0,asB_b]at Es Ei;cases hA:qc9 l0 with
  |false=>rw[hA,Bool.not_false,qa0,qk4 (d:=11)]at Es;rw[hA,Bool.not_false,qa0,qk6 (d:=11)]at Ei;exact⟨_,_,Es,Ei,gX,C,trivial⟩
  |true=>
   obtain⟨A,rfl⟩:∃A:List (By×By),l0=A.map aT:=⟨_,(qwy h0).symm⟩;obtain⟨L,rfl⟩:∃L:List En,c=L.map enW:=⟨_,(qy5 m).symm⟩;have a:=qwp hA;have H:=esok_of m (by omega) hE;have I:=qv1 (L:=L) a;have x:IsA X0 [47] 0:=⟨.inl rfl,by decide,rfl⟩;have z:=qgp (d:=4) hlf qn5 x a;have B:=qk7 (d:=3) hlf qn5 x rfl a;rw[show((X0.length:Nat):Int)+1=2 from rfl,show bsOf [47]=(⟨#[47]⟩:ByteArray)from rfl]at z B;have v:=H.len;have hl:=loops (d:=1) hlf H L.length 0 (X:=stA X0 0 A) lf lf (by omega) (by omega) (by omega) I;rw[qef,show((X0.length:Nat):Int)+1=2 from rfl,show((0:Nat):Int)=0 from rfl]at hl;rw[hA,Bool.not_true,qa1,qk4 (d:=11)]at Es;rw[hA,Bool.not_true,qa1,qk6 (d:=11)]at Ei;simp only[Option.bind_some,nth0,cell0,cellS,asL_l,asI_i]at Es Ei;rw[z]at Es;rw[B]at Ei;simp only[Option.bind_some,nth0,nthS,cell0,cellS,asL_l,asI_i]at Es Ei;rcases hl with⟨q,F,G,J,K,⟨hq,D,E⟩,g,h⟩|⟨X',I',g,h⟩
   · have wq:fitC (.i .i64) (.i .i64 q)/\tl (T.i .i64 q)<=16777216:=⟨⟨rfl,wf64 (by omega) (by omega)⟩,Nat.zero_le _⟩;rw[g]at Es;rw[h]at Ei;simp only[Option.bind_some,nth0,nthS,asI_i]at Es Ei;rw[show(q !=0)=true by simpa using hq,qa0]at Es;rw[show(q !=0)=true by simpa using hq,qa0]at Ei;exact⟨_,_,Es,Ei,gX,wq,trivial⟩
   · rw[g]at Es;rw[h]at Ei;simp only[Option.bind_some,nth0,nthS,asI_i,asL_l]at Es Ei;rw[show((0:Int) !=0)=false from rfl,qa1]at Es Ei;exact⟨_,_,Es,Ei,qrb I'.good,⟨⟨rfl,wf64 (by omega) (by omega)⟩,Nat.zero_le _⟩,trivial⟩
theorem lawB{lf:Nat}(hlf:33554432<=lf){t0:T}(q:fitC (.sl true [.s,.s]) t0){z:T}(v:fitC (.sl true [.s,.i .i64,.sl false [.i .u8],.sl true [.s,.s],.s]) z):Cc lf 14 3 [t0,z]=some [.b true]:=by
 have c:=q;obtain⟨h,rfl,A⟩:=qep q;have g:=v;obtain⟨j,rfl,B⟩:=qep v;refine(f3_eq (Cc lf 13) lf h j).trans ?_;unfold f3 f3_t;rcases sz4 hlf (d:=13) (by omega) _ c 1048576 (by omega) (by omega)with e|⟨C,D,g1,I⟩
 · rw[e];rfl
 rw[D];simp only[Option.bind_some,nth0,asI_i];rw[iLt_f (show¬C<0 by omega),qa1];have z0:tl (T.sl h)<=1048576:=by omega
 rcases sz5 hlf (d:=13) (by omega) _ g C (by omega) (by omega)with e|⟨F,E,K,J⟩
 · rw[e];rfl
 rw[E];simp only[Option.bind_some,nth0,asI_i];rw[iLt_f (show¬F<0 by omega),qa1];have G:tl (T.sl j)<=1048576:=by omega
 have eT0:=to7 hlf (d:=13) (by omega) _ c (by omega);have eT1:=to8 hlf (d:=13) (by omega) _ g (by omega);obtain⟨L,r1,eS,eI,⟨k,x⟩,⟨m,H⟩,_⟩:=same hlf h c z0 j g G;have hR0:=k;obtain⟨R0_0,R0_1,rfl,W0_0,W0_1⟩:=qbg k;have eQ0:=eq10 hlf (d:=13) (by omega) _ hR0 x;have hR1:=m;obtain⟨R1_0,rfl,W1_0⟩:=qgd m;have eX0:=eq11 hlf (d:=13) (by omega) _ c (by omega);have eX1:=eq12 hlf (d:=13) (by omega) _ g (by omega);obtain⟨K1,bK1_0,eK1,uK1,vK1⟩:=mk13 hlf (d:=13) (by omega) _ c (by omega) 1 (by omega) (by omega);obtain⟨K2,bK2_0,eK2,uK2,vK2⟩:=mk14 hlf (d:=13) (by omega) _ g (by omega) K1 (by omega) (by omega);obtain⟨M1,bM1_0,eM1,eH1,uM1,vM1⟩:=ms15 hlf (d:=13) (by omega) hR0 x 1 (by omega) (by omega);simp only[T.cell,List.getD_cons_zero,List.getD_cons_succ]at eH1;simp only[eT0,eT1,eQ0,eS,eI,eX0,eX1,eK1,eK2,eM1,eH1,Option.bind_some,nth0,nthS,asI_i,asL_l,asB_b,asS_s,cell0,cellS,beq_self_eq_true,bne_self_eq_false,Bool.not_true,Bool.and_true,qa1,qa0,iLt_f (show¬(K1<0)by omega),iLt_f (show¬(K2<0)by omega),iLt_f (show¬(M1<0)by omega)]
end Go.Proofs.YtcfpgocffglbhaaGreatDoor.T
