/- What functions of the law FnExactEngOk come to, in trees; no condition. -/
import Derived.Test.YtdlidpfghafcgaaGreatRows
import Derived.Test.YtdlidpfghafcgaaGreatX3
set_option linter.unusedVariables false
set_option linter.constructorNameAsVariable false
set_option linter.unusedSimpArgs false
set_option linter.unnecessarySimpa false
namespace Go.Proofs.YtdlidpfghafcgaaGreat.T
open Go Go.Proofs.YtdlidpfghafcgaaGreatV
set_option maxRecDepth 100000
theorem qcq{lf d:Nat}(a lo hi:Int):Cc lf (d+1) 28 [.i .i64 a,.i .i64 lo,.i .i64 hi]=some [.b (iLe lo a&&iLe a hi)]:=by refine(f28_eq (Cc lf d) lf a lo hi).trans ?_;unfold f28 f28_t;exact qzy _ _
theorem qcb{lf d:Nat}(a lo hi:Int):Cc lf (d+1) 45 [.i .i64 a,.i .i64 lo,.i .i64 hi]=some [.b (iLe lo a&&iLe a hi)]:=by refine(f45_eq (Cc lf d) lf a lo hi).trans ?_;unfold f45 f45_t;exact qzy _ _
theorem qnp{lf d:Nat}(hlf:33554432<=lf)(s:ByteArray)(hs:s.size<=16777216):Cc lf (d+2) 29 [.s s]=some [.b (nameB s)]:=by
 refine(f29_eq (Cc lf (d+1)) lf s).trans ?_;unfold f29 f29_t;have L:=qag (F:=λn j=>f29_0 (Cc lf (d+1)) lf s n j) (P:=λj=>chB (qb5 s j)) (X:=some [T.i .i64 0,T.b false]) (Y:=some [T.i .i64 1,T.s s]) (len:=s.size) (λn j hj=>by
  show f29_0_s (Cc lf (d+1)) lf s _ _=_;unfold f29_0_s;obtain⟨c,g⟩:=qwz s j;rw[iLt_t (by omega),qa3 hj,wrapK (x:=qb5 s j) (by omega),qa4 hj (by omega)];simp only[qcq,Option.bind_some,nth0,asB_b,chB,qx3,qap,qc6,qd1,qa2]) (λn=>by
  show f29_0_s (Cc lf (d+1)) lf s _ _=_;unfold f29_0_s;rw[iLt_f (by omega)];rfl) (n:=lf) (by omega)
 simp only at L|-;rw[L];unfold nameB;cases allB (λj=>chB (qb5 s j)) s.size with
 |false=>rfl
 |true=>simp only[qa2,Option.bind_some,nth0,nthS,asI_i,asB_b,asS_s,qcq,qap];rw[show((1:Int)==0)=false from rfl,qac];cases iLe 1 (s.size:Int)<;>cases iLe (s.size:Int) 14<;>cases(s.toList==(⟨#[46]⟩:ByteArray).toList)<;>cases(s.toList==(⟨#[46,46]⟩:ByteArray).toList)<;>rfl
theorem qnr{lf d:Nat}(hlf:33554432<=lf)(s:ByteArray)(hs:s.size<=16777216):Cc lf (d+2) 46 [.s s]=some [.b (nameB s)]:=by
 refine(f46_eq (Cc lf (d+1)) lf s).trans ?_;unfold f46 f46_t;have L:=qag (F:=λn j=>f46_0 (Cc lf (d+1)) lf s n j) (P:=λj=>chB (qb5 s j)) (X:=some [T.i .i64 0,T.b false]) (Y:=some [T.i .i64 1,T.s s]) (len:=s.size) (λn j hj=>by
  show f46_0_s (Cc lf (d+1)) lf s _ _=_;unfold f46_0_s;rw[iLt_t (by omega),qa3 hj,qa4 hj (by omega)];simp only[qzv,chB,qx3,qap,qc6,qd1,qa2]) (λn=>by
  show f46_0_s (Cc lf (d+1)) lf s _ _=_;unfold f46_0_s;rw[iLt_f (by omega)];rfl) (n:=lf) (by omega)
 simp only at L|-;rw[L];unfold nameB;cases allB (λj=>chB (qb5 s j)) s.size with
 |false=>rfl
 |true=>simp only[qa2,Option.bind_some,nth0,nthS,asI_i,asB_b,asS_s,qap];rw[show((1:Int)==0)=false from rfl,qac];cases iLe 1 (s.size:Int)<;>cases iLe (s.size:Int) 14<;>cases(s.toList==(⟨#[46]⟩:ByteArray).toList)<;>cases(s.toList==(⟨#[46,46]⟩:ByteArray).toList)<;>rfl
theorem qnt{lf d:Nat}{l:List T}(h:l.length<=1073741830):Cc lf (d+1) 101 [.sl l]=some [.sl l]:=by show(bif nLe (0+l.length) LIM then some [T.sl l]else none)=_;rw[nLe_t (by unfold LIM;omega)];rfl
theorem qav{lf d:Nat}(hlf:33554432<=lf)(b:List T)(n:Int)(hb:b.length<=1073741824):Cc lf (d+2) 56 [.sl b,.i .i64 n]=some [.sl (b++numT (qa9 n))]:=by
 refine(f56_eq (Cc lf (d+1)) lf b n).trans ?_;unfold f56 f56_t;dsimp only;have hc:=qah n;obtain⟨y,l',c,h2,g,j,k⟩:=qn1 (F:=λn x l=>f56_0 (Cc lf (d+1)) lf n x l) (λn x l h0 c hl=>by
  rw[f56_0];unfold f56_0_s;by_cases h:127<x;· rw[iLe_t (by omega),if_pos h,qe8 (by omega),Int.tdiv_eq_ediv_of_nonneg h0,Int.tmod_eq_emod_of_nonneg h0,qab (x:=x/128) (by omega) (by omega),qab (by omega) (by omega),wrap8 (by omega) (by omega)];rfl
  · rw[iLe_f (by omega),if_neg h];rfl) (n:=lf) (by omega) (x:=qa9 n) (l:=b) hc.1 hc.2 hb
 rw[qnt (by omega),Option.bind_some,nth0,asL_l,show imax 0 (imin n 1000000)=qa9 n by unfold imax imin qa9;split<;>split<;>(try split)<;>omega,c];simp only[Option.bind_some,nth0,nthS,asL_l,asI_i];rw[qe8 (by omega),wrap8 g (by omega),<-h2];rfl
theorem qas{lf d:Nat}(hlf:33554432<=lf)(b:List T)(n:Int)(hb:b.length<=1073741824):Cc lf (d+2) 38 [.sl b,.i .i64 n]=some [.sl (b++numT (qa9 n))]:=by
 refine(f38_eq (Cc lf (d+1)) lf b n).trans ?_;unfold f38 f38_t;dsimp only;have hc:=qah n;have L:∀(n:Nat)(x:Int)(l:List T),0<=x->x<=1000000->l.length<=1073741827->f38_0 (Cc lf (d+1)) lf (n+1) x l=if 127<x then f38_0 (Cc lf (d+1)) lf n (x/128) (l++[by8 (x%128+128)])else some [T.i .i64 0,T.i .i64 x,T.sl l]:=λn x l h0 c hl=>by
  rw[f38_0];unfold f38_0_s;by_cases h:127<x;· rw[iLt_t h,if_pos h,qe8 (by omega),qr1 h0 (by omega),or128 (by omega) (by omega),wrap8 (by omega) (by omega),show(7:Int)=((7:Nat):Int)from rfl,qpu (by omega) h0];rfl
  · rw[iLt_f h,if_neg h];rfl
 have L2:∀(n:Nat)(x:Int)(l:List T),0<=x->x<=1000000->l.length<=1073741827->f38_2 (Cc lf (d+1)) lf (n+1) x l=if 127<x then f38_2 (Cc lf (d+1)) lf n (x/128) (l++[by8 (x%128+128)])else some [T.i .i64 0,T.i .i64 x,T.sl l]:=λn x l h0 c hl=>by
  rw[f38_2];unfold f38_2_s;by_cases h:127<x;· rw[iLt_t h,if_pos h,qe8 (by omega),qr1 h0 (by omega),or128 (by omega) (by omega),wrap8 (by omega) (by omega),show(7:Int)=((7:Nat):Int)from rfl,qpu (by omega) h0];rfl
  · rw[iLt_f h,if_neg h];rfl
 rw[nLe_t (show([]:List T).length+b.length<=LIM by unfold LIM;simp;omega),cond_true];by_cases hn:1000000<n;· obtain⟨y,l',c,h2,g,j,k⟩:=qn1 (F:=λn x l=>f38_0 (Cc lf (d+1)) lf n x l) L (n:=lf) (by omega) (x:=1000000) (l:=b) (by omega) (by omega) hb;rw[iLt_t hn,cond_true,List.nil_append,c];simp only[Option.bind_some,nth0,nthS,asL_l,asI_i];rw[qe8 (by omega),wrap8 g (by omega),show qa9 n=1000000 by unfold qa9;rw[if_neg (by omega),if_pos (by omega)],<-h2];rfl
 ·by_cases hm:n<0;· rw[iLt_f hn,cond_false,iLt_t hm,cond_true];obtain⟨m,rfl⟩:∃m,lf=m+1:=⟨lf-1,by omega⟩;show((some [T.i .i64 0,T.i .i64 0,T.sl (([]:List T)++b)]:Option (List T)).bind _)=_;simp only[Option.bind_some,nth0,nthS,asL_l,asI_i,List.nil_append];rw[qe8 (by omega),show qa9 n=0 by unfold qa9;rw[if_pos hm]];rfl
  · obtain⟨y,l',c,h2,g,j,k⟩:=qn1 (F:=λn x l=>f38_2 (Cc lf (d+1)) lf n x l) L2 (n:=lf) (by omega) (x:=n) (l:=b) (by omega) (by omega) hb;rw[iLt_f hn,cond_false,iLt_f hm,cond_false,List.nil_append,c];simp only[Option.bind_some,nth0,nthS,asL_l,asI_i];rw[qe8 (by omega),wrap8 g (by omega),qwe (by omega) (by omega),<-h2];rfl
theorem qes{lf d:Nat}(hlf:33554432<=lf)(b:List T)(s:ByteArray)(hb:b.length<=1073741824)(hs:s.size<=1073741824):Cc lf (d+3) 103 [.sl b,.s s]=some [.sl (b++textT s)]:=by refine(f103_eq (Cc lf (d+2)) lf b s).trans ?_;unfold f103 f103_t;have c:=qae (qa9 (s.size:Int));rw[qav hlf _ _ hb,Option.bind_some,nth0,asL_l,nLe_t (by unfold LIM;rw[List.length_append,qie];omega),qa2,List.append_assoc];rfl
theorem qda{lf d:Nat}(hlf:33554432<=lf)(b:List T)(s:ByteArray)(hb:b.length<=1073741824)(hs:s.size<=1073741824):Cc lf (d+3) 80 [.sl b,.s s]=some [.sl (b++textT s)]:=by refine(f80_eq (Cc lf (d+2)) lf b s).trans ?_;unfold f80 f80_t;have c:=qae (qa9 (s.size:Int));rw[qas hlf _ _ hb,Option.bind_some,nth0,asL_l,nLe_t (by unfold LIM;rw[List.length_append,qie];omega),qa2,List.append_assoc];rfl
theorem qp5{lf d:Nat}(hlf:33554432<=lf){b:List T}(hb:byt b)(hl:b.length<=1073741824)(p:Nat)(hp:p<=1073741824):Cc lf (d+1) 154 [.sl b,.i .i64 (p:Int)]=some (getR (qbz b p)):=by
 refine(f154_eq (Cc lf d) lf b p).trans ?_;unfold f154 f154_t;dsimp only;have B:∀j,j<b.length->0<=asI (b.getD j .u)/\asI (b.getD j .u)<256:=λj hj=>by obtain⟨n,e,h⟩:=ql8 hb hj;rw[e];exact h
 have L:=qkw (b:=b) (p:=p) (F:=λn x k=>f154_0 (Cc lf d) lf b p n x k) (X:=some [T.i .i64 0,T.i .i64 0,T.i .i64 0,T.b false]) (Z:=some [T.i .i64 1]) (Y:=λv q=>some [T.i .i64 0,T.i .i64 v,T.i .i64 (q:Int),T.b true]) hb (λn x k hk hpk h0 c=>by
  have hc:=B _ hpk;have hw:IntKind.wrap .u64 (IntKind.wrap .i64 (7*(k:Int)))=((7*k:Nat):Int):=by rcases(by omega:k=0\/k=1\/k=2)with rfl|rfl|rfl<;>rfl
  have hpw:((2^(7*k):Nat):Int)=128^k:=by rcases(by omega:k=0\/k=1\/k=2)with rfl|rfl|rfl<;>rfl
  rw[f154_0];unfold f154_0_s;rw[iLt_t (by omega),iLe_t (by omega),iLt_t (by omega),qab (x:=(p:Int)+(k:Int)) (by omega) (by omega),iLt_t (by omega),inR_t (by omega) (by omega),hw,iLe_t (by omega),show((p:Int)+(k:Int)).toNat=p+k by omega,qab (x:=asI (b.getD (p+k) .u)) (by omega) (by omega),qr1 hc.1 (by omega),quj (by omega) (by omega) (by omega),qv3 (k:=7*k) h0 (by rw[hpw];exact c) (by omega) (by omega) (by omega),hpw,qab (x:=(k:Int)+1) (by omega) (by omega),qab (x:=(p:Int)+(k:Int)+1) (by omega) (by omega)];simp only[qa2];by_cases g:128<=asI (b.getD (p+k) .u);· rw[iLt_t (by omega),if_pos g];rfl
  ·rw[iLt_f (by omega),if_neg g,Int.emod_eq_of_lt hc.1 (by omega)];simp only[qac];by_cases A:k=0
   ·subst A;rw[iLt_f (by omega)];by_cases m:1000000<x+asI (b.getD (p+0) .u)*128^0;· rw[iLt_t m,if_pos (.inr m)];rfl
    · rw[iLt_f m,if_neg (by omega)];rfl
   ·rw[iLt_t (by omega)];by_cases z:asI (b.getD (p+k) .u)=0;· rw[if_pos (.inl ⟨A,z⟩),z];rfl
    ·rw[show(asI (b.getD (p+k) .u)==0)=false from by simpa using z];by_cases m:1000000<x+asI (b.getD (p+k) .u)*128^k;· rw[iLt_t m,if_pos (.inr m)];rfl
     · rw[iLt_f m,if_neg (by rintro(h|h);exact z h.2;exact m h)];rfl) (λn x k C hk=>by
  rw[f154_0];unfold f154_0_s;by_cases D:k<3
  ·rw[iLt_t (by omega),iLe_t (by omega)];by_cases h:p<b.length;· rw[iLt_t (by omega),qab (x:=(p:Int)+(k:Int)) (by omega) (by omega),iLt_f (by omega)];rfl
   · rw[iLt_f (by omega)];rfl
  · rw[iLt_f (by omega)];rfl) (n:=lf) (by omega)
 rcases L with⟨c,h2|h2⟩|⟨v,q,c,h2⟩
 · rw[show((0:Nat):Int)=0 from rfl]at h2;rw[c,h2];rfl
 · rw[show((0:Nat):Int)=0 from rfl]at h2;rw[c,h2];rfl
 · rw[show((0:Nat):Int)=0 from rfl]at h2;rw[c,h2];rfl
theorem qp7{lf d:Nat}(hlf:33554432<=lf){b:List T}(hb:byt b)(hl:b.length<=1073741824)(p:Nat)(hp:p<=1073741824):Cc lf (d+1) 196 [.sl b,.i .i64 (p:Int)]=some (getR (qbz b p)):=by
 refine(f196_eq (Cc lf d) lf b p).trans ?_;unfold f196 f196_t;dsimp only;have B:∀j,j<b.length->0<=asI (b.getD j .u)/\asI (b.getD j .u)<256:=λj hj=>by obtain⟨n,e,h⟩:=ql8 hb hj;rw[e];exact h
 have L:=qkw (b:=b) (p:=p) (F:=λn x k=>f196_0 (Cc lf d) lf b p n x (128^k) k) (X:=some [T.i .i64 0]) (Z:=some [T.i .i64 0]) (Y:=λv q=>some [T.i .i64 1,T.i .i64 v,T.i .i64 (q:Int),T.b true]) hb (λn x k hk hpk h0 c=>by
  have hc:=B _ hpk;have hm:=Int.emod_nonneg (asI (b.getD (p+k) .u)) (show(128:Int)≠0 by omega);have D:=Int.emod_lt_of_pos (asI (b.getD (p+k) .u)) (show(0:Int)<128 by omega);have g:k=0\/k=1\/k=2:=by omega
  have hpw:1<=(128:Int)^k/\(128:Int)^k<=16384/\(128:Int)^k*128=128^(k+1)/\0<=asI (b.getD (p+k) .u)%128*128^k/\asI (b.getD (p+k) .u)%128*128^k<=2097152:=by
   rcases g with rfl|rfl|rfl
   · refine⟨by decide,by decide,by decide,?_,?_⟩<;>rw[Int.pow_zero]<;>omega
   · refine⟨by decide,by decide,by decide,?_,?_⟩<;>rw[Int.pow_one]<;>omega
   · have e:(128:Int)^2=16384:=rfl;refine⟨by decide,by decide,by decide,?_,?_⟩<;>rw[e]<;>omega
  rw[f196_0];unfold f196_0_s;rw[iLt_t (by omega),qab (x:=(b.length:Int)-(k:Int)) (by omega) (by omega),iLt_t (by omega),qab (x:=(p:Int)+(k:Int)) (by omega) (by omega),inR_t (by omega) (by omega),show((p:Int)+(k:Int)).toNat=p+k by omega,qab (x:=asI (b.getD (p+k) .u)) (by omega) (by omega),Int.tmod_eq_emod_of_nonneg hc.1,qab (x:=asI (b.getD (p+k) .u)%128*128^k) (by omega) (by omega),qab (x:=x+asI (b.getD (p+k) .u)%128*128^k) (by omega) (by omega),qab (x:=(128:Int)^k*128) (by omega) (by omega),hpw.2.2.1,qab (x:=(k:Int)+1) (by omega) (by omega),qab (x:=(p:Int)+(k:Int)+1) (by omega) (by omega)];simp only[qa2];by_cases A:128<=asI (b.getD (p+k) .u);· rw[iLe_t A,if_pos A];rfl
  ·rw[iLe_f A,if_neg A,Int.emod_eq_of_lt hc.1 (by omega)];simp only[qac];by_cases m:1000000<x+asI (b.getD (p+k) .u)*128^k;· rw[iLt_t m,if_pos (.inr m)];rfl
   ·rw[iLt_f m];by_cases z:asI (b.getD (p+k) .u)=0
    ·by_cases C:k=0;· subst C;rw[if_neg (by omega),iLt_f (by omega),show(asI (b.getD (p+0) .u)==0)=true by rw[z];rfl];rfl
     · rw[if_pos (.inl ⟨C,z⟩),iLt_t (by omega),show(asI (b.getD (p+k) .u)==0)=true by rw[z];rfl];rfl
    · rw[if_neg (by rintro(h|h);exact z h.2;exact m h),show(asI (b.getD (p+k) .u)==0)=false from by simpa using z];rfl) (λn x k g hk=>by
  rw[f196_0];unfold f196_0_s;by_cases E:k<3;· rw[iLt_t (by omega),qab (x:=(b.length:Int)-(k:Int)) (by omega) (by omega),iLt_f (by omega)];rfl
  · rw[iLt_f (by omega)];rfl) (n:=lf) (by omega)
 rw[iLt_f (by omega),qac];rcases L with⟨c,h2|h2⟩|⟨v,q,c,h2⟩
 · rw[Int.pow_zero,show((0:Nat):Int)=0 from rfl]at h2;rw[c,h2];rfl
 · rw[Int.pow_zero,show((0:Nat):Int)=0 from rfl]at h2;rw[c,h2];rfl
 · rw[Int.pow_zero,show((0:Nat):Int)=0 from rfl]at h2;rw[c,h2];rfl
theorem c_iNum{lf d:Nat}(hlf:33554432<=lf){b:List T}(hb:byt b)(hl:b.length<=1073741824){s:Option Nat}{p:Int}{ok:Bool}(h:RI b s p ok):∃p' ok',Cc lf (d+2) 166 [.st [.sl b,.i .i64 p,.b ok]]=some [.i .i64 (rd b s).1,.st [.sl b,.i .i64 p',.b ok']]/\RI b (rd b s).2 p' ok':=by
 have E:=f166_eq (Cc lf (d+1)) lf b p ok;unfold f166 f166_t at E;obtain⟨rfl,h2⟩:=h;cases s with
 |none=>exact⟨p,false,E,rfl,λq hq=>by cases hq⟩
 |some q=>
  obtain⟨rfl,hq⟩:=h2 q rfl;rw[qp7 hlf hb hl q (by omega)]at E;simp only[rd];cases e:qbz b q with
  |none=>rw[e]at E;exact⟨0,false,E,rfl,λq hq=>by cases hq⟩
  |some x=>obtain⟨n,c⟩:=x;rw[e]at E;exact⟨c,true,E,rfl,λq hq=>by cases hq;exact⟨rfl,(qfo hb e).2.2.2⟩⟩
theorem qzz{lf d:Nat}(hlf:33554432<=lf){b:List T}(hb:byt b)(hl:b.length<=1073741824){s:Option Nat}{p:Int}{bad:Bool}(h:RS b s p bad):∃p' bad',Cc lf (d+2) 119 [.st [.sl b,.i .i64 p,.b bad]]=some [.i .i64 (rd b s).1,.st [.sl b,.i .i64 p',.b bad']]/\RS b (rd b s).2 p' bad':=by
 have E:=f119_eq (Cc lf (d+1)) lf b p bad;unfold f119 f119_t at E;obtain⟨rfl,h2,c,rfl,g⟩:=h;rw[qp5 hlf hb hl c (by omega)]at E;cases s with
 |none=>exact⟨c,true,E,rfl,(λq hq=>by cases hq),c,rfl,g⟩
 |some q=>
  have k:c=q:=by have:=h2 q rfl;omega
  subst k;simp only[rd];cases e:qbz b c with
  |none=>rw[e]at E;exact⟨c,true,E,rfl,(λq hq=>by cases hq),c,rfl,g⟩
  |some x=>obtain⟨n,j⟩:=x;rw[e]at E;exact⟨j,false,E,rfl,(λq hq=>by cases hq;rfl),j,rfl,(qfo hb e).2.2.2⟩
theorem c_iDone{lf d:Nat}{b:List T}{s:Option Nat}{p:Int}{ok:Bool}(h:RI b s p ok):∃t,Cc lf (d+1) 168 [.st [.sl b,.i .i64 p,.b ok]]=some [.b (s==some b.length),t]:=by
 have E:=f168_eq (Cc lf d) lf b p ok;unfold f168 f168_t at E;obtain⟨rfl,h2⟩:=h;cases s with
 |none=>exact⟨_,E⟩
 |some q=>
  obtain⟨rfl,_⟩:=h2 q rfl;have e:((q:Int)==(b.length:Int))=(some q==some b.length):=by rw[Bool.eq_iff_iff];simp;omega
  exact⟨_,by rw[<-e];exact E⟩
def getTR:ByteArray×Option Nat->List T
|(s,some q)=>[.s s,.i .i64 (q:Int),.b true]
|(_,none)=>[.s ⟨#[]⟩,.i .i64 0,.b false]
theorem qkv{b:List T}(hb:byt b)(hl:b.length<=1073741824)(p:Nat):((some (getR (qbz b p)):Option (List T)).bind λr=>
 bif !(asB (nth r 2))then some [T.s (⟨#[]⟩:ByteArray),T.i .i64 0,T.b false]else bif iLt (IntKind.wrap .i64 ((b.length:Int)-(asI (nth r 1)))) (asI (nth r 0))then some [T.s (⟨#[]⟩:ByteArray),T.i .i64 0,T.b false]else bif iLe 0 (asI (nth r 1))&&iLe (asI (nth r 1)) (IntKind.wrap .i64 ((asI (nth r 1))+(asI (nth r 0))))&&iLe (IntKind.wrap .i64 ((asI (nth r 1))+(asI (nth r 0)))) (b.length:Int)then some [T.s (bytesOf ((b.drop ((asI (nth r 1)).toNat)).take (((IntKind.wrap .i64 ((asI (nth r 1))+(asI (nth r 0)))).toNat)-((asI (nth r 1)).toNat)))),T.i .i64 (IntKind.wrap .i64 ((asI (nth r 1))+(asI (nth r 0)))),T.b true]else none)=some (getTR (rdS b (some p))):=by
 unfold rdS;simp only[rd];cases e:qbz b p with
 |none=>rfl
 |some x=>
  obtain⟨n,q⟩:=x;obtain⟨h0,g,h2,h⟩:=qfo hb e;simp only[getR,Option.bind_some,nth0,nthS,asI_i,asB_b,Bool.not_true,qac];rw[qab (x:=(b.length:Int)-q) (by omega) (by omega),qab (x:=(q:Int)+n) (by omega) (by omega)];by_cases c:n>(b.length:Int)-q;· rw[iLt_t c,if_pos c];rfl
  · rw[iLt_f c,if_neg c,qac,iLe_t (by omega),iLe_t (by omega),iLe_t (by omega)];rw[show((q:Int)).toNat=q from rfl,show((q:Int)+n).toNat-q=n.toNat by omega,show(q:Int)+n=((q+n.toNat:Nat):Int)by omega];rfl
theorem qu0{lf d:Nat}(hlf:33554432<=lf){b:List T}(hb:byt b)(hl:b.length<=1073741824)(p:Nat)(hp:p<=1073741824):Cc lf (d+2) 197 [.sl b,.i .i64 (p:Int)]=some (getTR (rdS b (some p))):=by refine(f197_eq (Cc lf (d+1)) lf b p).trans ?_;unfold f197 f197_t;rw[qp7 hlf hb hl p hp];exact qkv hb hl p
theorem qtt{lf d:Nat}(hlf:33554432<=lf){b:List T}(hb:byt b)(hl:b.length<=1073741824)(p:Nat)(hp:p<=1073741824):Cc lf (d+2) 155 [.sl b,.i .i64 (p:Int)]=some (getTR (rdS b (some p))):=by refine(f155_eq (Cc lf (d+1)) lf b p).trans ?_;unfold f155 f155_t;rw[qp5 hlf hb hl p hp];exact qkv hb hl p
theorem c_iText{lf d:Nat}(hlf:33554432<=lf){b:List T}(hb:byt b)(hl:b.length<=1073741824){s:Option Nat}{p:Int}{ok:Bool}(h:RI b s p ok):∃p' ok',Cc lf (d+3) 167 [.st [.sl b,.i .i64 p,.b ok]]=some [.s (rdS b s).1,.st [.sl b,.i .i64 p',.b ok']]/\RI b (rdS b s).2 p' ok':=by
 have E:=f167_eq (Cc lf (d+2)) lf b p ok;unfold f167 f167_t at E;obtain⟨rfl,h2⟩:=h;cases s with
 |none=>exact⟨p,false,E,rfl,λq hq=>by cases hq⟩
 |some q=>
  obtain⟨rfl,hq⟩:=h2 q rfl;rw[qu0 hlf hb hl q (by omega)]at E;have hn:=@qrk b hb (some q);have hs:(rdS b (some q)).2=none->(rdS b (some q)).1=⟨#[]⟩:=by
   intro h;unfold rdS at h|-;split
   ·rename_i n q' e;rw[e]at h;simp only at h;split at h;· rename_i c;rw[if_pos c]
    · cases h
   · rfl
  generalize rdS b (some q)=r at*;obtain⟨s,g⟩:=r;cases g with
  |none=>have:=hs rfl;simp only at this;subst this;exact⟨0,false,E,rfl,λq hq=>by cases hq⟩
  |some g=>exact⟨g,true,E,rfl,λq hq=>by cases hq;obtain⟨_,_,_,h⟩:=hn rfl;exact⟨rfl,h⟩⟩
theorem c_sText{lf d:Nat}(hlf:33554432<=lf){b:List T}(hb:byt b)(hl:b.length<=1073741824){s:Option Nat}{p:Int}{bad:Bool}(h:RS b s p bad):∃p' bad',Cc lf (d+3) 120 [.st [.sl b,.i .i64 p,.b bad]]=some [.s (rdS b s).1,.st [.sl b,.i .i64 p',.b bad']]/\RS b (rdS b s).2 p' bad':=by
 have E:=f120_eq (Cc lf (d+2)) lf b p bad;unfold f120 f120_t at E;obtain⟨rfl,h2,g,rfl,j⟩:=h;rw[qtt hlf hb hl g (by omega)]at E;cases s with
 |none=>exact⟨g,true,E,rfl,(λq hq=>by cases hq),g,rfl,j⟩
 |some q=>
  have m:g=q:=by have:=h2 q rfl;omega
  subst m;have hn:=@qrk b hb (some g);have hs:(rdS b (some g)).2=none->(rdS b (some g)).1=⟨#[]⟩:=by
   intro h;unfold rdS at h|-;split
   ·rename_i n q' e;rw[e]at h;simp only at h;split at h;· rename_i c;rw[if_pos c]
    · cases h
   · rfl
  generalize rdS b (some g)=r at*;obtain⟨s,k⟩:=r;cases k with
  |none=>have:=hs rfl;simp only at this;subst this;exact⟨g,true,E,rfl,(λq hq=>by cases hq),g,rfl,j⟩
  |some k=>exact⟨k,false,E,rfl,(λq hq=>by cases hq;rfl),k,rfl,by obtain⟨_,_,_,h⟩:=hn rfl;exact h⟩
theorem c_sCrc{lf d:Nat}(hlf:33554432<=lf){b:List T}(hb:byt b)(hl:b.length<=16777216):Cc lf (d+1) 121 [.sl b]=some [.i .i64 (crcN b:Nat)]:=by
 refine(f121_eq (Cc lf d) lf b).trans ?_;unfold f121 f121_t;dsimp only;have In:∀(x j:Nat),x<4294967296->f121_1 (Cc lf d) lf b j lf x 0=some [T.i .i64 0,T.sl b,T.i .i64 (r8 x:Nat),T.i .i64 (j:Int)]:=λx j hx=>by
  have:=(qd0 (S:=Nat) (F:=λn s k=>f121_1 (Cc lf d) lf b j n s k) (g:=λs _=>r1 s) (I:=λs _=>s<4294967296) (Y:=λs=>some [T.i .i64 0,T.sl b,T.i .i64 (s:Int),T.i .i64 (j:Int)]) (len:=8) (λn s k hk hs=>by
   rw[f121_1];unfold f121_1_s;rw[iLt_t (by omega),and7 (by omega) (by omega),shr1_64,show(2197175160:Int)=((2197175160:Nat):Int)from rfl,xor64 (by omega) (by omega),qab (x:=(k:Int)+1) (by omega) (by omega)];unfold r1;by_cases c:s%2=1;· rw[if_pos c,show((s:Int)%2==1)=true by simp only[beq_iff_eq];omega];rfl
   · rw[if_neg c,show((s:Int)%2==1)=false by simp only[beq_eq_false_iff_ne,ne_eq];omega];rfl) (λs k hk hs=>r1_lt hs) (λn s hs=>by
   rw[f121_1];unfold f121_1_s;rw[iLt_f (by omega)];rfl) (n:=lf) (by omega) (s:=x) hx).1
  exact this
 have L:=(qd0 (S:=Nat) (F:=λn s j=>f121_0 (Cc lf d) lf n b s j) (g:=λs j=>r8 (s^^^(asI (b.getD j .u)).toNat)) (I:=λs _=>s<4294967296) (Y:=λs=>some [T.i .i64 0,T.i .i64 (s:Int)]) (len:=b.length) (λn s j hj hs=>by
  have hB:=qin hb j;rw[f121_0];unfold f121_0_s;obtain⟨v,hv⟩:=Int.eq_ofNat_of_zero_le hB.1;rw[iLt_t (by omega),qa3 hj,Int.toNat_natCast,hv,qab (x:=(v:Int)) (by omega) (by omega),xor64 hs (by omega)];dsimp only;rw[In _ j (qgt hs (by omega))];simp only[qa2,Option.bind_some,nth0,nthS,asI_i,asL_l];rw[qab (x:=(j:Int)+1) (by omega) (by omega)];rfl) (λs j hj hs=>by have hB:=qin hb j;exact r8_lt (qgt hs (by omega))) (λn s hs=>by
  rw[f121_0];unfold f121_0_s;rw[iLt_f (by omega)];rfl) (n:=lf) (by omega) (s:=4294967295) (by omega)).1
 rw[show((4294967295:Nat):Int)=4294967295 from rfl]at L;rw[L];simp only[Option.bind_some,nth0,nthS,asI_i];have e:foldN (λs j=>r8 (s^^^(asI (b.getD j .u)).toNat)) 4294967295 b.length=crcS b b.length:=rfl;rw[e,show(4294967295:Int)=((4294967295:Nat):Int)from rfl,xor64 (qqf hb b.length) (by omega)];rfl
theorem c_iCrc{lf d:Nat}(hlf:33554432<=lf){b:List T}(hb:byt b)(hl:b.length<=16777216):Cc lf (d+1) 217 [.sl b]=some [.i .i64 (crcN b:Nat)]:=by
 refine(f217_eq (Cc lf d) lf b).trans ?_;unfold f217 f217_t;dsimp only;have In:∀(x j:Nat),x<4294967296->f217_1 (Cc lf d) lf b (b.length:Int) j lf x 0=some [T.i .i64 0,T.i .u32 (r8 x:Nat),T.sl b,T.i .i64 (b.length:Int),T.i .i64 (j:Int)]:=λx j hx=>by
  have:=(qd0 (S:=Nat) (F:=λn s k=>f217_1 (Cc lf d) lf b (b.length:Int) j n s k) (g:=λs _=>r1 s) (I:=λs _=>s<4294967296) (Y:=λs=>some [T.i .i64 0,T.i .u32 (s:Int),T.sl b,T.i .i64 (b.length:Int),T.i .i64 (j:Int)]) (len:=8) (λn s k hk hs=>by
   rw[f217_1];unfold f217_1_s;rw[iLt_t (by omega),and32 hs,shr1_32,show(2197175160:Int)=((2197175160:Nat):Int)from rfl,xor32 (by omega) (by omega),qab (x:=(k:Int)+1) (by omega) (by omega)];unfold r1;by_cases c:s%2=1;· rw[if_pos c,show(((s%2:Nat):Int)==1)=true by simp only[beq_iff_eq];omega];rfl
   · rw[if_neg c,show(((s%2:Nat):Int)==1)=false by simp only[beq_eq_false_iff_ne,ne_eq];omega];rfl) (λs k hk hs=>r1_lt hs) (λn s hs=>by
   rw[f217_1];unfold f217_1_s;rw[iLt_f (by omega)];rfl) (n:=lf) (by omega) (s:=x) hx).1
  exact this
 have L:=(qd0 (S:=Nat) (F:=λn s j=>f217_0 (Cc lf d) lf n s b (b.length:Int) j) (g:=λs j=>r8 (s^^^(asI (b.getD j .u)).toNat)) (I:=λs _=>s<4294967296) (Y:=λs=>some [T.i .i64 0,T.i .u32 (s:Int)]) (len:=b.length) (λn s j hj hs=>by
  have hB:=qin hb j;rw[f217_0];unfold f217_0_s;obtain⟨v,hv⟩:=Int.eq_ofNat_of_zero_le hB.1;rw[iLt_t (by omega),qa3 hj,Int.toNat_natCast,hv,wrap32 (x:=(v:Int)) (by omega) (by omega),xor32 hs (by omega)];dsimp only;rw[In _ j (qgt hs (by omega))];simp only[qa2,Option.bind_some,nth0,nthS,asI_i,asL_l];rw[qab (x:=(j:Int)+1) (by omega) (by omega)];rfl) (λs j hj hs=>by have hB:=qin hb j;exact r8_lt (qgt hs (by omega))) (λn s hs=>by
  rw[f217_0];unfold f217_0_s;rw[iLt_f (by omega)];rfl) (n:=lf) (by omega) (s:=4294967295) (by omega)).1
 rw[show((4294967295:Nat):Int)=4294967295 from rfl]at L;rw[L];simp only[Option.bind_some,nth0,nthS,asI_i];have hc:=qqg hb;have e:foldN (λs j=>r8 (s^^^(asI (b.getD j .u)).toNat)) 4294967295 b.length=crcS b b.length:=rfl;rw[e,show(4294967295:Int)=((4294967295:Nat):Int)from rfl,xor32 (show 4294967295<4294967296 by omega) (qqf hb b.length),Nat.xor_comm,show crcS b b.length^^^4294967295=crcN b from rfl,qab (by omega) (by omega)]
def recB(k s:Int)(body:List T):Bool:=(iLe 1 k&&iLe k 4)&&((iLe 0 s&&iLe s 1000000)&&iLe (body.length:Int) 380)
def qbl(x:List T)(s:Option Nat):(Int×Int×ByteArray)×Option Nat:=(((rd x s).1,(rd x (rd x s).2).1,(rdS x (rd x (rd x s).2).2).1),(rdS x (rd x (rd x s).2).2).2)
def qb9(b:List T):Option (Int×Int×List T):=if b.length<4 then none else bif sealB b&&((qbl (b.take (b.length-4)) (some 0)).2==some (b.length-4)&&recB (qbl (b.take (b.length-4)) (some 0)).1.1 (qbl (b.take (b.length-4)) (some 0)).1.2.1 (qar (qbl (b.take (b.length-4)) (some 0)).1.2.2))then some ((qbl (b.take (b.length-4)) (some 0)).1.1,(qbl (b.take (b.length-4)) (some 0)).1.2.1,qar (qbl (b.take (b.length-4)) (some 0)).1.2.2)else none
def recT:Option (Int×Int×List T)->T
|some (k,s,d)=>.st [.i .i64 k,.i .i64 s,.sl d]
|none=>.st [.i .i64 0,.i .i64 0,.sl []]
def qij(r:Option (Int×Int×List T)):List T:=[recT r,.b r.isSome]
theorem qz0{lf d:Nat}(k s:Int)(body:List T):Cc lf (d+2) 169 [.st [.i .i64 k,.i .i64 s,.sl body]]=some [.b (recB k s body)]:=by refine(f169_eq (Cc lf (d+1)) lf k s body).trans ?_;unfold f169 f169_t;simp only[qcb,Option.bind_some,nth0,asB_b,ql4];unfold recB;cases(iLe 1 k&&iLe k 4)<;>cases(iLe 0 s&&iLe s 1000000)<;>rfl
theorem qyp{lf d:Nat}(k s:Int)(body:List T):Cc lf (d+2) 122 [.st [.i .i64 k,.i .i64 s,.sl body]]=some [.b (recB k s body)]:=by refine(f122_eq (Cc lf (d+1)) lf k s body).trans ?_;unfold f122 f122_t;simp only[qcq,Option.bind_some,nth0,asB_b,ql4];unfold recB;cases(iLe 1 k&&iLe k 4)<;>cases(iLe 0 s&&iLe s 1000000)<;>rfl
theorem qym{lf d:Nat}(hlf:33554432<=lf){b:List T}(hb:byt b)(hl:b.length<=16777216):Cc lf (d+2) 195 [.sl b]=some [.sl (b++four (crcN b))]:=by refine(f195_eq (Cc lf (d+1)) lf b).trans ?_;unfold f195 f195_t;rw[c_iCrc hlf hb hl];simp only[Option.bind_some,nth0,asI_i];rw[qnt (by omega),four_sh (qqg hb)];simp only[Option.bind_some,nth0,asL_l];rw[nLe_t (by unfold LIM four;simp;omega)];rfl
theorem qyw{lf d:Nat}(hlf:33554432<=lf){b:List T}(hb:byt b)(hl:b.length<=16777216):Cc lf (d+3) 165 [.sl b]=some (if b.length<4 then[.sl [],.b false]else bif sealB b then[.sl (b.take (b.length-4)),.b true]else[.sl [],.b false]):=by
 refine(f165_eq (Cc lf (d+2)) lf b).trans ?_;unfold f165 f165_t;rw[qab (by omega) (by omega)];by_cases h:b.length<4;· rw[iLt_t (by omega),if_pos h];rfl
 · rw[iLt_f (by omega),if_neg h,qac,iLe_t (by omega),iLe_t (by omega),show((b.length:Int)-4).toNat=b.length-4 by omega,qym hlf (qho hb _) (by simp;omega)];simp only[Bool.and_self,qa2,Option.bind_some,nth0,asL_l,qxp hb (show 4<=b.length by omega)];cases sealB b<;>rfl
theorem qwu{lf d:Nat}(hlf:33554432<=lf){b:List T}(hb:byt b)(hl:b.length<=16777216):Cc lf (d+4) 136 [.sl b]=some (qij (qb9 b)):=by
 refine(f136_eq (Cc lf (d+3)) lf b).trans ?_;unfold f136 f136_t;rw[qyw hlf hb hl];have go:∀(x:List T)(s:Option Nat)(ok:Bool),byt x->x.length<=16777216->RI x s 0 ok->((Cc lf (d+3) 166 [.st [.sl x,.i .i64 0,.b ok]]).bind λg=>(Cc lf (d+3) 166 [.st [.sl x,.i .i64 (asI (T.cell (nth g 1) 1)),.b (asB (T.cell (nth g 1) 2))]]).bind λj=>(Cc lf (d+3) 167 [.st [.sl x,.i .i64 (asI (T.cell (nth j 1) 1)),.b (asB (T.cell (nth j 1) 2))]]).bind λc=>bif nLe (asS (nth c 0)).size LIM then(Cc lf (d+3) 168 [.st [.sl x,.i .i64 (asI (T.cell (nth c 1) 1)),.b (asB (T.cell (nth c 1) 2))]]).bind λD=>bif !(asB (nth D 0))then some [T.st [T.i .i64 0,T.i .i64 0,T.sl []],T.b false]else(Cc lf (d+3) 169 [.st [.i .i64 (asI (nth g 0)),.i .i64 (asI (nth j 0)),.sl (qar (asS (nth c 0)))]]).bind λE=>bif !(asB (nth E 0))then some [T.st [T.i .i64 0,T.i .i64 0,T.sl []],T.b false]else some [T.st [T.i .i64 (asI (nth g 0)),T.i .i64 (asI (nth j 0)),T.sl (qar (asS (nth c 0)))],T.b true]else none)=some (qij (bif (qbl x s).2==some x.length&&recB (qbl x s).1.1 (qbl x s).1.2.1 (qar (qbl x s).1.2.2)then some ((qbl x s).1.1,(qbl x s).1.2.1,qar (qbl x s).1.2.2)else none)):=by
  intro x s ok hx hxl R0;obtain⟨F,A,k,R1⟩:=c_iNum (d:=d+1) hlf hx (by omega) R0;obtain⟨G,B,m,R2⟩:=c_iNum (d:=d+1) hlf hx (by omega) R1;obtain⟨H,C,v,R3⟩:=c_iText (d:=d) hlf hx (by omega) R2;obtain⟨t,z⟩:=c_iDone (lf:=lf) (d:=d+2) R3;have hd:=quu hx (rd x (rd x s).2).2;rw[k];simp only[Option.bind_some,nth0,nthS,asI_i,asB_b,cell0,cellS];rw[m];simp only[Option.bind_some,nth0,nthS,asI_i,asB_b,cell0,cellS];rw[v];simp only[Option.bind_some,nth0,nthS,asI_i,asB_b,asS_s,cell0,cellS];rw[nLe_t (show(rdS x (rd x (rd x s).2).2).1.size<=LIM by unfold LIM;omega),qa2,z];simp only[Option.bind_some,nth0,asB_b];rw[qz0];simp only[Option.bind_some,nth0,asB_b];unfold qbl;simp only;cases(rdS x (rd x (rd x s).2).2).2==some x.length with
  |false=>rfl
  |true=>cases recB (rd x s).1 (rd x (rd x s).2).1 (qar (rdS x (rd x (rd x s).2).2).1)<;>rfl
 unfold qb9;by_cases h:b.length<4;· rw[if_pos h,if_pos h];simp only[Option.bind_some,nth0,nthS,asL_l,asB_b];exact go [] none false qfb (Nat.zero_le _) ⟨rfl,λq hq=>by cases hq⟩
 ·rw[if_neg h,if_neg h];cases sealB b with
  |false=>simp only[qac,Option.bind_some,nth0,nthS,asL_l,asB_b];exact go [] none false qfb (Nat.zero_le _) ⟨rfl,λq hq=>by cases hq⟩
  |true=>
   simp only[qa2,Option.bind_some,nth0,nthS,asL_l,asB_b];have hlen:(b.take (b.length-4)).length=b.length-4:=by rw[List.length_take];omega
   have:=go (b.take (b.length-4)) (some 0) true (qho hb _) (by omega) ⟨rfl,λq hq=>by cases hq;exact⟨rfl,Nat.zero_le _⟩⟩;rw[hlen]at this;exact this
theorem qp4{lf d:Nat}(hlf:33554432<=lf){b:List T}(hb:byt b)(hl:b.length<=16777216):Cc lf (d+4) 75 [.sl b]=some (qij (qb9 b)):=by
 refine(f75_eq (Cc lf (d+3)) lf b).trans ?_;unfold f75 f75_t;dsimp only;rw[qab (by omega) (by omega)];unfold qb9;by_cases h:b.length<4;· rw[iLt_t (by omega),if_pos h];rfl
 ·rw[iLt_f (by omega),if_neg h,qac];obtain⟨n,hn⟩:∃n,n=b.length-4:=⟨_,rfl⟩;have hlb:b.length=n+4:=by omega
  have hB:∀j,0<=asI (b.getD j .u)/\asI (b.getD j .u)<256:=qin hb;have S:∀(m k:Nat)(x:Int),k<b.length->0<=x->x<16777216->f75_0 (Cc lf (d+3)) lf b (m+1) x k=f75_0 (Cc lf (d+3)) lf b m (x*256+asI (b.getD k .u)) ((k+1:Nat):Int):=λm k x hk h0 C=>by
   have hv:=hB k;rw[f75_0];unfold f75_0_s;rw[iLt_t (by omega),qa3 hk,Int.toNat_natCast,qab (x:=asI (b.getD k .u)) (by omega) (by omega),show(8:Int)=((8:Nat):Int)from rfl,quj (by omega) h0 (by omega)];have hor:intBits .or .i64 (x*((2^8:Nat):Int)) (asI (b.getD k .u))=x*256+asI (b.getD k .u):=by
    have:=qv3 (a:=asI (b.getD k .u)) (b:=x) (k:=8) (by omega) (by omega) h0 (by omega) (by omega);have hcomm:intBits .or .i64 (x*((2^8:Nat):Int)) (asI (b.getD k .u))=intBits .or .i64 (asI (b.getD k .u)) (x*((2^8:Nat):Int)):=by show IntKind.wrap .i64 (((BitVec.ofInt 64 _|||BitVec.ofInt 64 _).toNat:Nat):Int)=IntKind.wrap .i64 (((BitVec.ofInt 64 _|||BitVec.ofInt 64 _).toNat:Nat):Int);rw[BitVec.or_comm]
    rw[hcomm,this];omega
   rw[hor,qab (x:=(k:Int)+1) (by omega) (by omega)];rfl
  have L:f75_0 (Cc lf (d+3)) lf b lf 0 (n:Int)=some [T.i .i64 0,T.sl b,T.i .i64 (n:Int),T.i .i64 (be4 b n),T.i .i64 0,T.i .i64 0,T.sl ([]:List T)]:=by obtain⟨m,rfl⟩:∃m,lf=m+5:=⟨lf-5,by omega⟩;have v0:=hB n;have G:=hB (n+1);have H:=hB (n+2);have v3:=hB (n+3);have v2':=hB (n+1+1);have v3':=hB (n+1+1+1);rw[S _ n 0 (by omega) (by omega) (by omega),S _ (n+1) _ (by omega) (by omega) (by omega),S _ (n+1+1) _ (by omega) (by omega) (by omega),S _ (n+1+1+1) _ (by omega) (by omega) (by omega),f75_0_u];unfold f75_0_s;rw[iLt_f (by omega),qab (x:=(b.length:Int)-4) (by omega) (by omega)];unfold be4;rw[qac,show(b.length:Int)-4=(n:Int)by omega,Int.zero_mul,Int.zero_add]
  rw[show(b.length:Int)-4=(n:Int)by omega,L];simp only[Option.bind_some,nth0,nthS,asI_i,asL_l,Int.toNat_natCast];rw[iLe_t (by omega),iLe_t (by omega),Bool.and_self,qa2];have hx:=qho hb n;have hlen:(b.take n).length=n:=by rw[List.length_take];omega
  have hbe:sealB b=(be4 b n==((crcN (b.take n):Nat):Int)):=by unfold sealB;rw[<-hn]
  obtain⟨D,z,c,R1⟩:=qzz (d:=d+1) (s:=some 0) (p:=0) (bad:=false) hlf hx (by omega) ⟨rfl,(λq hq=>by cases hq;rfl),0,rfl,Nat.zero_le _⟩;obtain⟨E,A,g,R2⟩:=qzz (d:=d+1) hlf hx (by omega) R1;obtain⟨F,B,v,R3⟩:=c_sText (d:=d) hlf hx (by omega) R2;have hd:=quu hx (rd (b.take n) (rd (b.take n) (some 0)).2).2;rw[c];simp only[Option.bind_some,nth0,nthS,asI_i,asB_b,cell0,cellS];rw[g];simp only[Option.bind_some,nth0,nthS,asI_i,asB_b,cell0,cellS];rw[v];simp only[Option.bind_some,nth0,nthS,asI_i,asB_b,asS_s,cell0,cellS];rw[nLe_t (show(rdS (b.take n) (rd (b.take n) (rd (b.take n) (some 0)).2).2).1.size<=LIM by unfold LIM;omega),qa2];have fin:=RS_fin R3 (α:=Option (List T));rw[hlen]at fin;rw[fin,c_sCrc hlf hx (by omega)];simp only[Option.bind_some,nth0,asI_i];rw[qyp];simp only[Option.bind_some,nth0,asB_b];rw[hbe,<-hn];unfold qbl;simp only;cases(rdS (b.take n) (rd (b.take n) (rd (b.take n) (some 0)).2).2).2==some n with
  |false=>rw[Bool.false_and,Bool.and_false];rfl
  |true=>
   simp only[bne];cases be4 b n==((crcN (b.take n):Nat):Int)with
   |false=>rfl
   |true=>cases recB (rd (b.take n) (some 0)).1 (rd (b.take n) (rd (b.take n) (some 0)).2).1 (qar (rdS (b.take n) (rd (b.take n) (rd (b.take n) (some 0)).2).2).1)<;>rfl
def pageU(ps:List T)(j:Nat):Bool:=asB (T.cell (ps.getD j T.u) 0)
theorem qb4{l:List T}{j:Nat}(k:Nat):(asL (T.cell (l.getD j T.u) k)).length+tls (asL (T.cell (l.getD j T.u) k))<=tls l:=by
 by_cases h:j<l.length
 ·have g:=qgu (List.getElem_mem h);rw[List.getD_eq_getElem?_getD,List.getElem?_eq_getElem h];show(asL (T.cell l[j] k)).length+tls (asL (T.cell l[j] k))<=_;cases e:l[j]<;>try (simp only[T.cell,asL,tls];exact Nat.zero_le _)
  rename_i xs;rw[e]at g;simp only[T.cell,tl]at g|-;cases c:xs[k]? with
  |none=>rw[List.getD_eq_getElem?_getD,c];exact Nat.zero_le _
  |some x=>
   rw[List.getD_eq_getElem?_getD,c];have m:=qgu (List.mem_of_getElem? c);show(asL x).length+tls (asL x)<=_;cases x<;>try (exact Nat.zero_le _)
   simp only[tl,asL]at m|-;omega
 · rw[List.getD_eq_getElem?_getD,List.getElem?_eq_none (by omega)];exact Nat.zero_le _
theorem qwp{lf d:Nat}(l:List T)(n:Int)(hs:l.length<=16777216):Cc lf (d+2) 164 [.st [.sl l],.i .i64 n]=some [.b (iLe 0 n&&iLt n (l.length:Int))]:=by
 refine(f164_eq (Cc lf (d+1)) lf l n).trans ?_;unfold f164 f164_t;rw[qab (by omega) (by omega),qcb];have:iLe n ((l.length:Int)-1)=iLt n (l.length:Int):=by
  by_cases h:n<(l.length:Int);· rw[iLt_t h,iLe_t (by omega)]
  · rw[iLt_f h,iLe_f (by omega)]
 rw[this];rfl
theorem wf64_in{n:Int}(h:(Lit.int .i64 n).wf=true): -9223372036854775808<=n/\n<=9223372036854775807:=by have c:(decide (-9223372036854775808<=n)&&decide (n<=9223372036854775807))=true:=h;rw[Bool.and_eq_true]at c;exact⟨of_decide_eq_true c.1,of_decide_eq_true c.2⟩
def pgs(l:List T)(c:Int):List T:=asL (T.cell (l.getD c.toNat T.u) 0)
def pgb(l:List T)(c n2:Int):List T:=asL (T.cell ((pgs l c).getD n2.toNat T.u) 1)
def pgB(l:List T)(c n2:Int):Bool:=(iLe 0 c&&iLt c (l.length:Int))&&((iLe 0 n2&&iLt n2 ((pgs l c).length:Int))&&asB (T.cell ((pgs l c).getD n2.toNat T.u) 0))
def pgR(l:List T)(c n2:Int):List T:=bif pgB l c n2 then pgb l c n2 else[]
theorem qpz(l:List T)(c n2:Int):(pgb l c n2).length<=tls l:=by have g:=qb4 (l:=l) (j:=c.toNat) 0;have h2:=qb4 (l:=pgs l c) (j:=n2.toNat) 1;unfold pgb;have:(pgs l c).length+tls (pgs l c)<=tls l:=g;omega
theorem qsa{n:Int}{k:Nat}(h0:0<=n)(c:n<k):inR n k=true:=by obtain⟨m,rfl⟩:=Int.eq_ofNat_of_zero_le h0;exact qa3 (by omega)
theorem qqn{lf d:Nat}(l:List T)(c n2:Int)(hs:l.length+tls l<=16777216):Cc lf (d+1) 124 [.st [.sl l],.i .i64 c,.i .i64 n2]=some [.sl (pgR l c n2),.b (pgB l c n2)]:=by
 refine(f124_eq (Cc lf d) lf l c n2).trans ?_;unfold f124 f124_t pgR pgB;have hp:=qpz l c n2;unfold pgb at hp|-;unfold pgs at hp|-;by_cases g:c<0;· rw[iLt_t g,iLe_f (show¬0<=c by omega)];rfl
 rw[iLt_f g,iLe_t (show 0<=c by omega)];by_cases h2:(l.length:Int)<=c;· rw[iLe_t h2,iLt_f (show¬c<(l.length:Int)by omega)];rfl
 rw[iLe_f (show¬(l.length:Int)<=c by omega),iLt_t (show c<(l.length:Int)by omega)];by_cases h:n2<0;· rw[iLt_t h,iLe_f (show¬0<=n2 by omega)];rfl
 rw[iLt_f h,iLe_t (show 0<=n2 by omega),qsa (by omega) (by omega)];simp only[qac,qa2];by_cases j:((asL (T.cell (l.getD c.toNat T.u) 0)).length:Int)<=n2;· rw[iLe_t j,iLt_f (by omega)];rfl
 rw[iLe_f j,iLt_t (by omega),qsa (by omega) (by omega),nLe_t (by unfold LIM;simp only[List.length_nil];omega)];cases asB (T.cell ((asL (T.cell (l.getD c.toNat T.u) 0)).getD n2.toNat T.u) 0)<;>rfl
theorem qqr{lf d:Nat}(l:List T)(c n2:Int)(hs:l.length+tls l<=16777216):Cc lf (d+3) 135 [.st [.sl l],.i .i64 c,.i .i64 n2]=some [.sl (pgR l c n2),.b (pgB l c n2)]:=by
 refine(f135_eq (Cc lf (d+2)) lf l c n2).trans ?_;unfold f135 f135_t pgR pgB;have hp:=qpz l c n2;have hq:=qb4 (l:=l) (j:=c.toNat) 0;unfold pgb at hp|-;unfold pgs at hp|-;rw[qwp l c (by omega)];simp only[Option.bind_some,nth0,asB_b];by_cases g:c<0;· rw[iLe_f (show¬0<=c by omega)];rfl
 rw[iLe_t (show 0<=c by omega)];by_cases h2:(l.length:Int)<=c;· rw[iLt_f (by omega)];rfl
 rw[iLt_t (by omega),qsa (by omega) (by omega),qab (by omega) (by omega),qcb];simp only[qac,qa2,Bool.and_self,Bool.not_true,Option.bind_some,nth0,asB_b];by_cases h:n2<0;· rw[iLe_f (show¬0<=n2 by omega)];rfl
 rw[iLe_t (show 0<=n2 by omega)];by_cases k:((asL (T.cell (l.getD c.toNat T.u) 0)).length:Int)<=n2;· rw[iLe_f (by omega),iLt_f (by omega)];rfl
 rw[iLe_t (by omega),iLt_t (by omega),qsa (by omega) (by omega)];cases asB (T.cell ((asL (T.cell (l.getD c.toNat T.u) 0)).getD n2.toNat T.u) 0)with
 |false=>rfl
 |true=>rw[qnt (by omega)];rfl
def recA(l:List T)(a:Int):Option (Int×Int×List T):=bif !iLt a 0 then qb9 (pgR l (a.tdiv 8) (a.tmod 8))else none
def qej(l:List T):Prop:=∀c n2,byt (pgb l c n2)
theorem qv1{l:List T}(h:qej l)(c n2:Int):byt (pgR l c n2):=by
 unfold pgR;cases pgB l c n2;· exact qfb
 · exact h c n2
theorem qv0(l:List T)(c n2:Int):(pgR l c n2).length<=tls l:=by
 unfold pgR;cases pgB l c n2;· exact Nat.zero_le _
 · exact qpz l c n2
theorem qzp{l:List T}{c n2:Int}(h:pgB l c n2=false):qb9 (pgR l c n2)=none:=by unfold pgR;rw[h];rfl
theorem qr5{a:Int}(h:(Lit.int .i64 a).wf=true)(h0:0<=a):IntKind.wrap .i64 (a.tdiv 8)=a.tdiv 8:=by have h2:a<=9223372036854775807:=(wf64_in h).2;have:0<=a.tdiv 8:=Int.tdiv_nonneg h0 (by omega);have:a.tdiv 8<=a:=Int.tdiv_le_self _ h0;exact qab (by omega) (by omega)
theorem qwn{lf d:Nat}(hlf:33554432<=lf)(l:List T)(ops:Int)(fs:List T)(dn:Bool)(sq a:Int)(ha:(Lit.int .i64 a).wf=true)(hb:qej l)(hs:l.length+tls l<=16777216):Cc lf (d+5) 96 [.st [.sl l,.i .i64 ops,.sl fs,.b dn,.i .i64 sq],.i .i64 a]=some (qij (recA l a)):=by
 refine(f96_eq (Cc lf (d+4)) lf l ops fs dn sq a).trans ?_;unfold f96 f96_t recA;by_cases h:a<0;· rw[iLt_t h];rfl
 rw[iLt_f h,qr5 ha (by omega),qqr (d:=d+1) l _ _ hs];simp only[qac,qa2,Bool.not_false,Option.bind_some,nth0,nthS,asL_l,asB_b];have hL:=qv0 l (a.tdiv 8) (a.tmod 8);cases h2:pgB l (a.tdiv 8) (a.tmod 8)with
 |false=>rw[qzp h2];rfl
 |true=>rw[qwu hlf (qv1 hb _ _) (by omega)];cases qb9 (pgR l (a.tdiv 8) (a.tmod 8))<;>rfl
def qi9(l:List T)(a k:Int):List T:=match recA l a with
|none=>[recT none,.b false]
|some r=>bif r.1==k then[recT (some r),.b true]else[recT none,.b false]
theorem qws{lf d:Nat}(hlf:33554432<=lf)(l:List T)(ops:Int)(fs:List T)(dn:Bool)(sq a k:Int)(ha:(Lit.int .i64 a).wf=true)(hb:qej l)(hs:l.length+tls l<=16777216):Cc lf (d+6) 99 [.st [.sl l,.i .i64 ops,.sl fs,.b dn,.i .i64 sq],.i .i64 a,.i .i64 k]=some (qi9 l a k):=by
 refine(f99_eq (Cc lf (d+5)) lf l ops fs dn sq a k).trans ?_;unfold f99 f99_t qi9;rw[qwn hlf l ops fs dn sq a ha hb hs];cases recA l a with
 |none=>rfl
 |some r=>show(bif (r.1 !=k)then _ else _)=some (bif r.1==k then _ else _);unfold bne;cases r.1==k<;>rfl
theorem qwi{lf d:Nat}(hlf:33554432<=lf)(l:List T)(ops:Int)(fs:List T)(dn:Bool)(sq a k:Int)(ha:(Lit.int .i64 a).wf=true)(hb:qej l)(hs:l.length+tls l<=16777216):Cc lf (d+5) 78 [.st [.sl l,.i .i64 ops,.sl fs,.b dn,.i .i64 sq],.i .i64 a,.i .i64 k]=some (qi9 l a k):=by
 refine(f78_eq (Cc lf (d+4)) lf l ops fs dn sq a k).trans ?_;unfold f78 f78_t qi9 recA;by_cases h:a<0;· rw[iLt_t h];rfl
 have hL:=qv0 l (a.tdiv 8) (a.tmod 8);rw[iLt_f h,qr5 ha (by omega),qqn (d:=d+3) l _ _ hs];simp only[qac,qa2,Bool.not_false,Option.bind_some,nth0,nthS,asL_l,asB_b];rw[qp4 hlf (qv1 hb _ _) (by omega)];cases h2:pgB l (a.tdiv 8) (a.tmod 8)with
 |false=>rw[qzp h2];rfl
 |true=>
  cases qb9 (pgR l (a.tdiv 8) (a.tmod 8))with
  |none=>rfl
  |some r=>show(bif (r.1 !=k)then _ else _)=some (bif r.1==k then _ else _);unfold bne;cases r.1==k<;>rfl
def pageB(ps:List T)(j:Nat):Bool:=!iLt 400 ((asL (T.cell (ps.getD j T.u) 1)).length:Int)&&((pageU ps j||!iLt 0 ((asL (T.cell (ps.getD j T.u) 1)).length:Int))&&(!iLt 0 (j:Int)||(!pageU ps j||pageU ps (j-1))))
def qmn(ps:List T)(w:Int):Bool:=((ps.length:Int)==8&&(iLe 0 w&&iLe w 100000))&&allB (pageB ps) ps.length
def qft(l:List T)(j:Nat):Bool:=qmn (asL (T.cell (l.getD j T.u) 0)) (asI (T.cell (l.getD j T.u) 1))
def chipB(l:List T):Bool:=allB (qft l) l.length&&(iLe 3 (l.length:Int)&&iLe (l.length:Int) 24)
theorem qtv{lf d:Nat}(hlf:33554432<=lf)(ps:List T)(w:Int)(bad:Bool)(hs:ps.length<=16777216):Cc lf (d+2) 118 [.st [.sl ps,.i .i64 w,.b bad]]=some [.b (qmn ps w)]:=by
 refine(f118_eq (Cc lf (d+1)) lf ps w bad).trans ?_;unfold f118 f118_t qmn;dsimp only;have L:=qag (F:=λn j=>f118_0 (Cc lf (d+1)) lf bad ps w n j) (P:=pageB ps) (X:=some [T.i .i64 0,T.b false]) (Y:=some [T.i .i64 1]) (len:=ps.length) (λn j hj=>by
  rw[f118_0];unfold f118_0_s pageB pageU;rw[iLt_t (by omega),qa3 hj,qa4 hj (by omega)];simp only[qa2,Int.toNat_natCast];cases h0:iLt 0 (j:Int)with
  |true=>
   have c:0<j:=by have:=qcp.1 h0;omega
   rw[qbt c (by omega),qa3 (by omega)];simp only[qa2,Int.toNat_natCast];cases iLt 400 ((asL (T.cell (ps.getD j T.u) 1)).length:Int)<;>cases asB (T.cell (ps.getD j T.u) 0)<;>cases iLt 0 ((asL (T.cell (ps.getD j T.u) 1)).length:Int)<;>cases asB (T.cell (ps.getD (j-1) T.u) 0)<;>rfl
  |false=>cases iLt 400 ((asL (T.cell (ps.getD j T.u) 1)).length:Int)<;>cases asB (T.cell (ps.getD j T.u) 0)<;>cases iLt 0 ((asL (T.cell (ps.getD j T.u) 1)).length:Int)<;>rfl) (λn=>by
  rw[f118_0];unfold f118_0_s;rw[iLt_f (by omega)];rfl) (n:=lf) (by omega)
 rw[qcq,L];simp only[Option.bind_some,nth0,asB_b,bne];cases((ps.length:Int)==8)with
 |false=>rfl
 |true=>
  cases(iLe 0 w&&iLe w 100000)with
  |false=>rfl
  |true=>cases allB (pageB ps) ps.length<;>rfl
theorem qwm{lf d:Nat}(hlf:33554432<=lf)(l:List T)(hs:l.length+tls l<=16777216):Cc lf (d+3) 73 [.st [.sl l]]=some [.b (chipB l)]:=by
 refine(f73_eq (Cc lf (d+2)) lf l).trans ?_;unfold f73 f73_t chipB;dsimp only;have L:=qag (F:=λn j=>f73_0 (Cc lf (d+2)) lf l n j) (P:=qft l) (X:=some [T.i .i64 0,T.b false]) (Y:=some [T.i .i64 1,T.sl l]) (len:=l.length) (λn j hj=>by
  have hp:=qb4 (l:=l) (j:=j) 0;rw[f73_0];unfold f73_0_s qft;rw[iLt_t (by omega),qa3 hj,qa4 hj (by omega),Int.toNat_natCast,qtv hlf _ _ _ (by omega)];simp only[qa2,Option.bind_some,nth0,asB_b];cases qmn (asL (T.cell (l.getD j T.u) 0)) (asI (T.cell (l.getD j T.u) 1))<;>rfl) (λn=>by
  rw[f73_0];unfold f73_0_s;rw[iLt_f (by omega)];rfl) (n:=lf) (by omega)
 rw[L];cases allB (qft l) l.length with
 |false=>rfl
 |true=>simp only[qa2,Option.bind_some,nth0,nthS,asL_l,asI_i,qcq,asB_b];rfl
theorem qwx{lf d:Nat}(hlf:33554432<=lf)(l:List T)(hs:l.length+tls l<=16777216):Cc lf (d+2) 95 [.st [.sl l]]=some [.b (chipB l)]:=by
 refine(f95_eq (Cc lf (d+1)) lf l).trans ?_;unfold f95 f95_t chipB;dsimp only;have In:∀(i:Nat),f95_1 (Cc lf (d+1)) lf l (l.length:Int) (i:Int) l lf 0=bif allB (pageB (asL (T.cell (l.getD i T.u) 0))) (asL (T.cell (l.getD i T.u) 0)).length then some [T.i .i64 1,T.sl l,T.i .i64 (l.length:Int),T.i .i64 (i:Int),T.sl l]else some [T.i .i64 0,T.b false]:=λi=>by
  have hp:=qb4 (l:=l) (j:=i) 0;obtain⟨ps,hps⟩:∃ps,ps=asL (T.cell (l.getD i T.u) 0):=⟨_,rfl⟩;rw[<-hps]at hp|-;exact qag (F:=λn j=>f95_1 (Cc lf (d+1)) lf l (l.length:Int) (i:Int) l n j) (P:=pageB ps) (X:=some [T.i .i64 0,T.b false]) (Y:=some [T.i .i64 1,T.sl l,T.i .i64 (l.length:Int),T.i .i64 (i:Int),T.sl l]) (len:=ps.length) (λn j hj=>by
   rw[f95_1];unfold f95_1_s pageB pageU;rw[Int.toNat_natCast,<-hps,iLt_t (by omega),qa3 hj,qa4 hj (by omega)];simp only[qa2,Int.toNat_natCast];cases h0:iLt 0 (j:Int)with
   |true=>
    have c:0<j:=by have:=qcp.1 h0;omega
    rw[qbt c (by omega),qa3 (by omega)];simp only[qa2,Int.toNat_natCast];cases iLt 400 ((asL (T.cell (ps.getD j T.u) 1)).length:Int)<;>cases asB (T.cell (ps.getD j T.u) 0)<;>cases iLt 0 ((asL (T.cell (ps.getD j T.u) 1)).length:Int)<;>cases asB (T.cell (ps.getD (j-1) T.u) 0)<;>rfl
   |false=>cases iLt 400 ((asL (T.cell (ps.getD j T.u) 1)).length:Int)<;>cases asB (T.cell (ps.getD j T.u) 0)<;>cases iLt 0 ((asL (T.cell (ps.getD j T.u) 1)).length:Int)<;>rfl) (λn=>by
   rw[f95_1];unfold f95_1_s;rw[Int.toNat_natCast,<-hps,iLt_f (by omega)];rfl) (n:=lf) (by omega)
 have L:=qag (F:=λn j=>f95_0 (Cc lf (d+1)) lf n l (l.length:Int) j l) (P:=qft l) (X:=some [T.i .i64 0,T.b false]) (Y:=some [T.i .i64 1,T.sl l]) (len:=l.length) (λn j hj=>by
  rw[f95_0];unfold f95_0_s qft qmn;rw[iLt_t (by omega),qa3 hj,qcb];dsimp only;rw[In];simp only[qa2,Option.bind_some,nth0,asB_b,bne,Int.toNat_natCast];cases(((asL (T.cell (l.getD j T.u) 0)).length:Int)==8)with
  |false=>rfl
  |true=>
   cases(iLe 0 (asI (T.cell (l.getD j T.u) 1))&&iLe (asI (T.cell (l.getD j T.u) 1)) 100000)with
   |false=>rfl
   |true=>
    cases allB (pageB (asL (T.cell (l.getD j T.u) 0))) (asL (T.cell (l.getD j T.u) 0)).length with
    |false=>rfl
    |true=>simp only[qa2,Option.bind_some,nth0,nthS,asL_l,asI_i];rw[qa4 hj (by omega)];rfl) (λn=>by
  rw[f95_0];unfold f95_0_s;rw[iLt_f (by omega)];rfl) (n:=lf) (by omega)
 rw[L];cases allB (qft l) l.length with
 |false=>rfl
 |true=>simp only[qa2,Option.bind_some,nth0,nthS,asL_l,asI_i,qcb,asB_b];rfl
def qhf(l:List T)(j:Nat):Bool:=(iLe 0 (asI (T.cell (l.getD j T.u) 0))&&iLe (asI (T.cell (l.getD j T.u) 0)) 100000)&&((iLe 1 (asI (T.cell (l.getD j T.u) 1))&&iLe (asI (T.cell (l.getD j T.u) 1)) 2)&&((iLe 0 (asI (T.cell (l.getD j T.u) 2))&&iLe (asI (T.cell (l.getD j T.u) 2)) 400)&&(!iLt 0 (j:Int)||!iLe (asI (T.cell (l.getD j T.u) 0)) (asI (T.cell (l.getD (j-1) T.u) 0)))))
def devB(l:List T)(ops:Int)(fs:List T):Bool:=allB (qhf fs) fs.length&&(chipB l&&((iLe 0 ops&&iLe ops 100000)&&iLe (fs.length:Int) 20))
theorem qwl{lf d:Nat}(hlf:33554432<=lf)(l:List T)(hs:l.length<=16777216):Cc lf (d+2) 74 [.sl l]=some [.b (allB (qhf l) l.length&&iLe (l.length:Int) 20)]:=by
 refine(f74_eq (Cc lf (d+1)) lf l).trans ?_;unfold f74 f74_t;dsimp only;have L:=qag (F:=λn j=>f74_0 (Cc lf (d+1)) lf l n j) (P:=qhf l) (X:=some [T.i .i64 0,T.b false]) (Y:=some [T.i .i64 1,T.sl l]) (len:=l.length) (λn j hj=>by
  rw[f74_0];unfold f74_0_s;rw[iLt_t (by omega),qa3 hj,qa4 hj (by omega)];simp only[qcq,Option.bind_some,nth0,asB_b,qhf,qap,qc6,qd1,qa2,Int.toNat_natCast];cases h0:iLt 0 (j:Int)with
  |true=>
   have c:0<j:=by have:=qcp.1 h0;omega
   rw[qbt c (by omega),qa3 (by omega)];simp only[qa2,Int.toNat_natCast]
  |false=>rfl) (λn=>by
  rw[f74_0];unfold f74_0_s;rw[iLt_f (by omega)];rfl) (n:=lf) (by omega)
 rw[L];cases allB (qhf l) l.length<;>rfl
theorem qyu{lf d:Nat}(hlf:33554432<=lf)(l:List T)(ops:Int)(fs:List T)(dn:Bool)(hs:l.length+tls l<=16777216)(c:fs.length<=16777216):Cc lf (d+4) 33 [.st [.sl l,.i .i64 ops,.sl fs,.b dn]]=some [.b (devB l ops fs)]:=by refine(f33_eq (Cc lf (d+3)) lf l ops fs dn).trans ?_;unfold f33 f33_t devB;rw[qwm hlf l hs,qcq,qwl (d:=d+1) hlf fs c];simp only[Option.bind_some,nth0,asB_b];generalize allB (qhf fs) fs.length=g;generalize iLe (fs.length:Int) 20=h;cases chipB l<;>cases(iLe 0 ops&&iLe ops 100000)<;>cases g<;>cases h<;>rfl
theorem qz6{lf d:Nat}(hlf:33554432<=lf)(l:List T)(ops:Int)(fs:List T)(dn:Bool)(hs:l.length+tls l<=16777216)(h:fs.length<=16777216):Cc lf (d+3) 51 [.st [.sl l,.i .i64 ops,.sl fs,.b dn]]=some [.b (devB l ops fs)]:=by
 refine(f51_eq (Cc lf (d+2)) lf l ops fs dn).trans ?_;unfold f51 f51_t devB;dsimp only;have L:=qag (F:=λn j=>f51_0 (Cc lf (d+2)) lf dn l fs ops n j) (P:=qhf fs) (X:=some [T.i .i64 0,T.b false]) (Y:=some [T.i .i64 1,T.sl l,T.i .i64 ops,T.sl fs,T.b dn]) (len:=fs.length) (λn j hj=>by
  rw[f51_0];unfold f51_0_s;rw[iLt_t (by omega),qa3 hj,qa4 hj (by omega)];simp only[qcb,Option.bind_some,nth0,asB_b,qhf,qap,qc6,qd1,qa2,Int.toNat_natCast];cases h0:iLt 0 (j:Int)with
  |true=>
   have c:0<j:=by have:=qcp.1 h0;omega
   rw[qbt c (by omega),qa3 (by omega)];simp only[qa2,Int.toNat_natCast]
  |false=>rfl) (λn=>by
  rw[f51_0];unfold f51_0_s;rw[iLt_f (by omega)];rfl) (n:=lf) (by omega)
 rw[L];cases allB (qhf fs) fs.length with
 |false=>rfl
 |true=>simp only[qa2,Option.bind_some,nth0,nthS,asL_l,asI_i];rw[qwx hlf l hs,qcb];simp only[Option.bind_some,nth0,asB_b];generalize iLe (fs.length:Int) 20=g;cases chipB l<;>cases(iLe 0 ops&&iLe ops 100000)<;>cases g<;>rfl
theorem qoq{P:Nat->Bool}(b:Bool):∀n,foldN (λs j=>s&&P j) b n=(b&&allB P n)
|0=>by cases b<;>rfl
|n+1=>by show(foldN (λs j=>s&&P j) b n&&P n)=(b&&(allB P n&&P n));rw[qoq b n,Bool.and_assoc]
theorem qng{g:Int->Nat->Int}{P:Nat->Prop}{q:Int}(h:∀s k,g s k<=q↔s<=q/\P k)(s:Int):∀n,foldN g s n<=q↔s<=q/\∀k,k<n->P k
|0=>⟨λh=>⟨h,λ_ h=>absurd h (Nat.not_lt_zero _)⟩,λh=>h.1⟩
|n+1=>by
 show g (foldN g s n) n<=q↔_;rw[h,qng h s n];constructor
 ·rintro⟨⟨c,h2⟩,j⟩;refine⟨c,λk hk=>?_⟩;by_cases e:k=n;· rw[e];exact j
  · exact h2 k (by omega)
 · rintro⟨c,h2⟩;exact⟨⟨c,λk hk=>h2 k (by omega)⟩,h2 n (by omega)⟩
theorem qgp{b:List T}{r:Int×Int×List T}(h:qb9 b=some r):recB r.1 r.2.1 r.2.2=true:=by
 unfold qb9 at h;split at h;· cases h
 ·generalize sealB b=c at h;generalize qbl (b.take (b.length-4)) (some 0)=x at h;generalize(x.2==some (b.length-4))=g at h;cases c<;>cases g<;>simp only[Bool.false_and,Bool.true_and,Bool.and_false,qac]at h;· cases h
  · cases h
  · cases h
  ·cases e:recB x.1.1 x.1.2.1 (qar x.1.2.2)with
   |false=>rw[e]at h;cases h
   |true=>rw[e]at h;cases h;exact e
theorem qpx{k s:Int}{b:List T}(h:recB k s b=true):(1<=k/\k<=4)/\(0<=s/\s<=1000000)/\b.length<=380:=by unfold recB at h;simp only[Bool.and_eq_true,qb8]at h;exact⟨h.1,h.2.1,by omega⟩
def seqG(ps:List T)(s:Int)(k:Nat):Int:=match qb9 (asL (T.cell (ps.getD k T.u) 1))with|some r=>(bif iLe s r.2.1 then r.2.1+1 else s)|none=>s
theorem qum{ps:List T}{s:Int}{k:Nat}(h:0<=s/\s<=1000001):0<=seqG ps s k/\seqG ps s k<=1000001:=by
 unfold seqG;cases e:qb9 (asL (T.cell (ps.getD k T.u) 1))with
 |none=>exact h
 |some r=>have:=(qpx (qgp e)).2.1;simp only;cases iLe s r.2.1<;>simp only[qa2,qac]<;>omega
theorem seqG_le{ps:List T}{q s:Int}{k:Nat}:seqG ps s k<=q↔s<=q/\∀r,qb9 (asL (T.cell (ps.getD k T.u) 1))=some r->r.2.1<q:=by
 unfold seqG;cases e:qb9 (asL (T.cell (ps.getD k T.u) 1))with
 |none=>exact⟨λh=>⟨h,λr hr=>by cases hr⟩,λh=>h.1⟩
 |some r=>
  simp only;by_cases c:s<=r.2.1;· rw[iLe_t c];simp only[qa2];exact⟨λh=>⟨by omega,λr' hr=>by cases hr;omega⟩,λh=>by have:=h.2 r rfl;omega⟩
  · rw[iLe_f c];simp only[qac];exact⟨λh=>⟨h,λr' hr=>by cases hr;omega⟩,λh=>h.1⟩
def mostB(ps:List T)(s:Int):Int:=foldN (seqG ps) s ps.length
theorem qxv{ps:List T}{q s:Int}:mostB ps s<=q↔s<=q/\∀k,k<ps.length->∀r,qb9 (asL (T.cell (ps.getD k T.u) 1))=some r->r.2.1<q:=by unfold mostB;exact qng (g:=seqG ps) (P:=λk=>∀r,qb9 (asL (T.cell (ps.getD k T.u) 1))=some r->r.2.1<q) (λs k=>seqG_le) s _
def mostL(l:List T):Int:=foldN (λs i=>mostB (pgs l (i:Nat)) s) 0 l.length
theorem qxw{ps:List T}{s:Int}(h:0<=s/\s<=1000001):0<=mostB ps s/\mostB ps s<=1000001:=by
 have:∀n,0<=foldN (seqG ps) s n/\foldN (seqG ps) s n<=1000001:=λn=>by
  induction n with
  |zero=>exact h
  |succ n ih=>exact qum ih
 exact this _
theorem c_sMost{lf d:Nat}(hlf:33554432<=lf)(l:List T)(hb:qej l)(hs:l.length+tls l<=16777216):Cc lf (d+5) 34 [.st [.sl l]]=some [.i .i64 (mostL l)]:=by
 refine(f34_eq (Cc lf (d+4)) lf l).trans ?_;unfold f34 f34_t;dsimp only;have In:∀(i:Nat)(s:Int),i<l.length->0<=s/\s<=1000001->f34_1 (Cc lf (d+4)) lf (i:Int) l lf s 0=some [T.i .i64 0,T.i .i64 (mostB (pgs l i) s),T.i .i64 (i:Int),T.sl l]:=λi s hi m=>by
  have hp:=qb4 (l:=l) (j:=i) 0;have hps:pgs l i=asL (T.cell (l.getD i T.u) 0):=rfl;rw[<-hps]at hp;exact(qd0 (S:=Int) (F:=λn s k=>f34_1 (Cc lf (d+4)) lf (i:Int) l n s k) (g:=seqG (pgs l i)) (I:=λs _=>0<=s/\s<=1000001) (Y:=λs=>some [T.i .i64 0,T.i .i64 s,T.i .i64 (i:Int),T.sl l]) (len:=(pgs l i).length) (λn s k hk c=>by
   have hq:=qb4 (l:=pgs l i) (j:=k) 1;have hbb:byt (asL (T.cell ((pgs l i).getD k T.u) 1)):=hb i k;rw[f34_1];unfold f34_1_s seqG;rw[qa3 hi,Int.toNat_natCast,<-hps,iLt_t (by omega),qa3 hk,Int.toNat_natCast,qa4 hk (by omega),qp4 hlf hbb (by omega)];simp only[qa2,Option.bind_some];cases e:qb9 (asL (T.cell ((pgs l i).getD k T.u) 1))with
   |none=>rfl
   |some r=>have hr:=(qpx (qgp e)).2.1;show(bif true then(bif iLe s r.2.1 then f34_1 (Cc lf (d+4)) lf (i:Int) l n (IntKind.wrap .i64 (r.2.1+1)) ((k+1:Nat):Int)else f34_1 (Cc lf (d+4)) lf (i:Int) l n s ((k+1:Nat):Int))else f34_1 (Cc lf (d+4)) lf (i:Int) l n s ((k+1:Nat):Int))=f34_1 (Cc lf (d+4)) lf (i:Int) l n (bif iLe s r.2.1 then r.2.1+1 else s) ((k+1:Nat):Int);rw[qab (by omega) (by omega)];cases iLe s r.2.1<;>rfl) (λs k hk h=>qum h) (λn s c=>by
   rw[f34_1];unfold f34_1_s;rw[qa3 hi,Int.toNat_natCast,<-hps,iLt_f (by omega)];rfl) (n:=lf) (by omega) (s:=s) m).1
 have L:=(qd0 (S:=Int) (F:=λn s i=>f34_0 (Cc lf (d+4)) lf n s i l) (g:=λs i=>mostB (pgs l (i:Nat)) s) (I:=λs _=>0<=s/\s<=1000001) (Y:=λs=>some [T.i .i64 0,T.i .i64 s]) (len:=l.length) (λn s i hi c=>by
  rw[f34_0];unfold f34_0_s;rw[iLt_t (by omega)];dsimp only;rw[In i s hi c];simp only[qa2,Option.bind_some,nth0,nthS,asI_i,asL_l];rw[qa4 hi (by omega)]) (λs i hi h=>qxw h) (λn s c=>by
  rw[f34_0];unfold f34_0_s;rw[iLt_f (by omega)];rfl) (n:=lf) (by omega) (s:=0) (by omega)).1
 rw[L];rfl
def logB(l:List T)(ops:Int)(fs:List T)(sq:Int):Bool:=devB l ops fs&&((iLe 0 sq&&iLe sq 1000000)&&iLe (mostL l) sq)
theorem qyr{lf d:Nat}(hlf:33554432<=lf)(l:List T)(ops:Int)(fs:List T)(dn:Bool)(sq:Int)(hb:qej l)(hs:l.length+tls l<=16777216)(c:fs.length<=16777216):Cc lf (d+6) 13 [.st [.sl l,.i .i64 ops,.sl fs,.b dn,.i .i64 sq]]=some [.b (logB l ops fs sq)]:=by refine(f13_eq (Cc lf (d+5)) lf l ops fs dn sq).trans ?_;unfold f13 f13_t logB;rw[qyu (d:=d+1) hlf l ops fs dn hs c,qcq,c_sMost hlf l hb hs];simp only[Option.bind_some,nth0,asB_b,asI_i];cases devB l ops fs<;>cases(iLe 0 sq&&iLe sq 1000000)<;>rfl
def seqOk(l:List T)(sq:Int)(a:Nat):Bool:=match recA l a with|some r=>iLt r.2.1 sq|none=>true
theorem qi8{l:List T}(hc:chipB l=true){i k:Nat}(hi:i<l.length)(hk:k<8):recA l ((8*i+k:Nat):Int)=qb9 (asL (T.cell ((pgs l i).getD k T.u) 1))/\(pgs l i).length=8:=by
 have c:=qal.1 (Bool.and_eq_true _ _▸hc).1 i hi;unfold qft qmn at c;rw[Bool.and_eq_true,Bool.and_eq_true]at c;have g:(pgs l i).length=8:=by have:(((pgs l i).length:Int)==8)=true:=c.1.1;rw[beq_iff_eq]at this;omega
 refine⟨?_,g⟩;have hd:((8*i+k:Nat):Int).tdiv 8=(i:Int):=by rw[Int.tdiv_eq_ediv_of_nonneg (by omega)];omega
 have hm:((8*i+k:Nat):Int).tmod 8=(k:Int):=by rw[Int.tmod_eq_emod_of_nonneg (by omega)];omega
 unfold recA;rw[iLt_f (by omega),hd,hm];simp only[Bool.not_false,qa2];have hp:pageB (pgs l i) k=true:=qal.1 c.2 k (by show k<(pgs l i).length;omega);unfold pgR pgB;rw[iLe_t (by omega),iLt_t (by omega),iLe_t (by omega),iLt_t (by omega),Int.toNat_natCast];simp only[Bool.and_self,Bool.true_and];cases e:asB (T.cell ((pgs l i).getD k T.u) 0)with
 |true=>rfl
 |false=>
  unfold pageB pageU at hp;rw[e]at hp;simp only[Bool.and_eq_true,Bool.false_or,Bool.not_eq_true']at hp;have:¬(0:Int)<((asL (T.cell ((pgs l i).getD k T.u) 1)).length:Int):=λh=>by rw[iLt_t h]at hp;exact absurd hp.2.1 (by simp)
  have:asL (T.cell ((pgs l i).getD k T.u) 1)=[]:=List.eq_nil_of_length_eq_zero (by omega);rw[this];rfl
theorem qxo{l:List T}(hc:chipB l=true)(sq:Int)(h0:0<=sq):allB (seqOk l sq) (8*l.length)=iLe (mostL l) sq:=by
 have A:mostL l<=sq↔∀i,i<l.length->∀k,k<(pgs l i).length->∀r,qb9 (asL (T.cell ((pgs l i).getD k T.u) 1))=some r->r.2.1<sq:=by have:=qng (g:=λs i=>mostB (pgs l (i:Nat)) s) (P:=λi=>∀k,k<(pgs l i).length->∀r,qb9 (asL (T.cell ((pgs l i).getD k T.u) 1))=some r->r.2.1<sq) (q:=sq) (λs i=>qxv) 0 l.length;exact⟨λh=>(this.1 h).2,λh=>this.2 ⟨h0,h⟩⟩
 have B:allB (seqOk l sq) (8*l.length)=true↔∀i,i<l.length->∀k,k<(pgs l i).length->∀r,qb9 (asL (T.cell ((pgs l i).getD k T.u) 1))=some r->r.2.1<sq:=by
  rw[qal];constructor;· intro h i hi k hk r hr;have c:=(qi8 hc hi (show 0<8 by omega)).2;have h2:=(qi8 hc hi (show k<8 by omega)).1;have:=h (8*i+k) (by omega);unfold seqOk at this;rw[h2,hr]at this;exact qcp.1 this
  ·intro h a ha;have h2:=qi8 hc (i:=a/8) (k:=a%8) (by omega) (by omega);rw[show 8*(a/8)+a%8=a by omega]at h2;unfold seqOk;rw[h2.1];cases e:qb9 (asL (T.cell ((pgs l (a/8:Nat)).getD (a%8) T.u) 1))with
   |none=>rfl
   |some r=>exact iLt_t (h (a/8) (by omega) (a%8) (by omega) r e)
 cases e:allB (seqOk l sq) (8*l.length)with
 |true=>rw[iLe_t (A.2 (B.1 e))]
 |false=>rw[iLe_f];intro h;have:=B.2 (A.1 h);rw[e]at this;cases this
theorem qz3{lf d:Nat}(hlf:33554432<=lf)(l:List T)(ops:Int)(fs:List T)(dn:Bool)(sq:Int)(hb:qej l)(hs:l.length+tls l<=1048576)(c:fs.length<=16777216):Cc lf (d+6) 19 [.st [.sl l,.i .i64 ops,.sl fs,.b dn,.i .i64 sq]]=some [.b (logB l ops fs sq)]:=by
 refine(f19_eq (Cc lf (d+5)) lf l ops fs dn sq).trans ?_;unfold f19 f19_t logB;dsimp only;have step:∀a:Nat,a<8*l.length->Cc lf (d+5) 96 [.st [.sl l,.i .i64 ops,.sl fs,.b dn,.i .i64 sq],.i .i64 (a:Int)]=some (qij (recA l a)):=λa ha=>qwn hlf l ops fs dn sq a (wf64 (by omega) (by omega)) hb (by omega);have L0:∀b:Bool,f19_0 (Cc lf (d+5)) lf dn l fs ops sq lf 0 b=some [T.i .i64 0,T.b (b&&allB (seqOk l sq) (8*l.length)),T.sl l,T.i .i64 ops,T.sl fs,T.b dn,T.i .i64 sq]:=λb=>by
  rw[<-qoq];exact(qd0 (S:=Bool) (F:=λn s a=>f19_0 (Cc lf (d+5)) lf dn l fs ops sq n a s) (g:=λs a=>s&&seqOk l sq a) (I:=λ_ _=>True) (Y:=λs=>some [T.i .i64 0,T.b s,T.sl l,T.i .i64 ops,T.sl fs,T.b dn,T.i .i64 sq]) (len:=8*l.length) (λn s a ha _=>by
   rw[f19_0];unfold f19_0_s seqOk;rw[qab (x:=(l.length:Int)*8) (by omega) (by omega),iLt_t (by omega),step a ha,qa4 ha (by omega)];simp only[qa2,Option.bind_some];cases recA l a with
   |none=>cases s<;>rfl
   |some r=>cases s<;>rfl) (λ_ _ _ _=>trivial) (λn s _=>by
   rw[f19_0];unfold f19_0_s;rw[qab (x:=(l.length:Int)*8) (by omega) (by omega),iLt_f (by omega)];rfl) (n:=lf) (by omega) (s:=b) trivial).1
 have L1:f19_1 (Cc lf (d+5)) lf dn l fs ops sq lf 0=some [T.i .i64 0,T.b false,T.sl l,T.i .i64 ops,T.sl fs,T.b dn,T.i .i64 sq]:=by
  exact(qd0 (S:=Unit) (F:=λn _ a=>f19_1 (Cc lf (d+5)) lf dn l fs ops sq n a) (g:=λs _=>s) (I:=λ_ _=>True) (Y:=λ_=>some [T.i .i64 0,T.b false,T.sl l,T.i .i64 ops,T.sl fs,T.b dn,T.i .i64 sq]) (len:=8*l.length) (λn s a ha _=>by
   rw[f19_1];unfold f19_1_s;rw[qab (x:=(l.length:Int)*8) (by omega) (by omega),iLt_t (by omega),step a ha,qa4 ha (by omega)];simp only[qa2,Option.bind_some];cases asB (nth (qij (recA l a)) 1)<;>rfl) (λ_ _ _ _=>trivial) (λn s _=>by
   rw[f19_1];unfold f19_1_s;rw[qab (x:=(l.length:Int)*8) (by omega) (by omega),iLt_f (by omega)];rfl) (n:=lf) (by omega) (s:=()) trivial).1
 rw[qz6 (d:=d+2) hlf l ops fs dn (by omega) c,qcb];simp only[Option.bind_some,nth0,asB_b];cases hd:devB l ops fs with
 |false=>rw[L1];rfl
 |true=>
  rw[L0];have hc:chipB l=true:=by unfold devB at hd;rw[Bool.and_eq_true,Bool.and_eq_true]at hd;exact hd.2.1
  cases h:(iLe 0 sq&&iLe sq 1000000)with
  |false=>rfl
  |true=>rw[Bool.and_eq_true,qb8,qb8]at h;rw[qxo hc sq h.1];rfl
theorem qhm{cs:List CT}{l:List T}{j k:Nat}{c:CT}(h:fitC (.sl true cs) (.sl l))(hj:j<l.length)(hk:cs[k]? =some c):fitC c (T.cell (l.getD j .u) k):=by
 have m:=qe1.1 h.2 l[j] (List.getElem_mem hj);rw[List.getD_eq_getElem?_getD,List.getElem?_eq_getElem hj];obtain⟨xs,hx,h2⟩:=qbr m;show fitC c (T.cell l[j] k);rw[hx];have q:=qhc.1 h2;have v:k<cs.length:=by
  rcases Nat.lt_or_ge k cs.length with h|h
  · exact h
  · rw[List.getElem?_eq_none h]at hk;cases hk
 have g:xs[k]? =some (xs[k]'(by omega)):=List.getElem?_eq_getElem _;have:=q.2 k c _ hk g;simp only[T.cell];rw[List.getD_eq_getElem?_getD,g];exact this
theorem quz{cs:List CT}{l:List T}(h:fitC (.sl true (.sl true [.b,.sl false [.i .u8]]::cs)) (.sl l)):qej l:=by
 intro c n2;unfold pgb pgs;by_cases j:c.toNat<l.length
 ·obtain⟨ps,e,q⟩:=qb2 (qhm (k:=0) h j rfl);rw[e];by_cases h2:n2.toNat<ps.length;· obtain⟨bs,g,m⟩:=qb2 (qhm (k:=1) q h2 rfl);show byt (asL (T.cell (ps.getD n2.toNat T.u) 1));rw[g];exact byt_of m
  · show byt (asL (T.cell (ps.getD n2.toNat T.u) 1));rw[List.getD_eq_getElem?_getD,List.getElem?_eq_none (show ps.length<=n2.toNat by omega)];exact qfb
 ·have e:l.getD c.toNat T.u=T.u:=by rw[List.getD_eq_getElem?_getD,List.getElem?_eq_none (show l.length<=c.toNat by omega)];rfl
  rw[e];exact qfb
def rowB(nx:Int)(l:List T)(j:Nat):Bool:=!iLt (asI (T.cell (l.getD j T.u) 0)) 1&&(!iLe nx (asI (T.cell (l.getD j T.u) 0))&&(nameB (asS (T.cell (l.getD j T.u) 1))&&((iLe 32 (asI (T.cell (l.getD j T.u) 3))&&iLe (asI (T.cell (l.getD j T.u) 3)) 4000)&&((iLe 0 (asI (T.cell (l.getD j T.u) 4))&&iLe (asI (T.cell (l.getD j T.u) 4)) 191)&&((!iLt 0 (j:Int)||!iLe (asI (T.cell (l.getD j T.u) 0)) (asI (T.cell (l.getD (j-1) T.u) 0)))&&allB (λi=>!((asS (T.cell (l.getD i T.u) 1)).toList==(asS (T.cell (l.getD j T.u) 1)).toList)) j)))))
def qcr(nx:Int)(l:List T):Bool:=allB (rowB nx l) l.length&&(iLe (l.length:Int) 6&&(iLe 1 nx&&iLe nx 99))
theorem qgx{l:List T}{n:Nat}(hs:n+tls l<=16777216){j:Nat}(h:j<l.length):(asS (T.cell (l.getD j T.u) 1)).size<=16777216:=by
 have g:=qgu (List.getElem_mem h);rw[List.getD_eq_getElem?_getD,List.getElem?_eq_getElem h];show(asS (T.cell l[j] 1)).size<=_;cases e:l[j]<;>try (simp only[T.cell,asS];exact Nat.zero_le _)
 rename_i xs;rw[e]at g;simp only[T.cell,tl]at g|-;cases c:xs[1]? with
 |none=>rw[List.getD_eq_getElem?_getD,c];exact Nat.zero_le _
 |some x=>
  rw[List.getD_eq_getElem?_getD,c];have k:=qgu (List.mem_of_getElem? c);show(asS x).size<=_;cases x<;>try (exact Nat.zero_le _)
  simp only[tl,asS]at k|-;omega
theorem qsm{lf d:Nat}(hlf:33554432<=lf)(nx:Int)(l:List T)(hs:l.length+tls l<=16777216):Cc lf (d+3) 36 [.st [.i .i64 nx,.sl l]]=some [.b (qcr nx l)]:=by
 refine(f36_eq (Cc lf (d+2)) lf nx l).trans ?_;unfold f36 f36_t;have L:=qag (F:=λn j=>f36_0 (Cc lf (d+2)) lf n j nx l) (P:=rowB nx l) (X:=some [T.i .i64 0,T.b false]) (Y:=some [T.i .i64 1,T.i .i64 nx,T.sl l]) (len:=l.length) (λn j hj=>by
  show f36_0 (Cc lf (d+2)) lf (n+1) _ nx l=_;rw[f36_0];unfold f36_0_s;have A1:=qag (F:=λn i=>f36_1 (Cc lf (d+2)) lf j nx l n i) (P:=λi=>!((asS (T.cell (l.getD i T.u) 1)).toList==(asS (T.cell (l.getD j T.u) 1)).toList)) (X:=some [T.i .i64 1,T.b false]) (Y:=some [T.i .i64 0,T.i .i64 j,T.i .i64 nx,T.sl l]) (len:=j) (λn i hi=>by
   show f36_1_s (Cc lf (d+2)) lf _ _ _ _ _=_;unfold f36_1_s;rw[iLt_t (by omega),qa3 (by omega),qa4 hi (by omega)];simp only[qa2,qap,Int.toNat_natCast]) (λn=>by
   show f36_1_s (Cc lf (d+2)) lf _ _ _ _ _=_;unfold f36_1_s;rw[iLt_f (by omega)];rfl) (n:=lf) (by omega)
  have A2:=qag (F:=λn i=>f36_2 (Cc lf (d+2)) lf j nx l n i) (P:=λi=>!((asS (T.cell (l.getD i T.u) 1)).toList==(asS (T.cell (l.getD j T.u) 1)).toList)) (X:=some [T.i .i64 1,T.b false]) (Y:=some [T.i .i64 0,T.i .i64 j,T.i .i64 nx,T.sl l]) (len:=j) (λn i hi=>by
   show f36_2_s (Cc lf (d+2)) lf _ _ _ _ _=_;unfold f36_2_s;rw[iLt_t (by omega),qa3 (by omega),qa4 hi (by omega)];simp only[qa2,qap,Int.toNat_natCast]) (λn=>by
   show f36_2_s (Cc lf (d+2)) lf _ _ _ _ _=_;unfold f36_2_s;rw[iLt_f (by omega)];rfl) (n:=lf) (by omega)
  rw[iLt_t (by omega),qa3 hj];simp only[qnp hlf _ (qgx hs hj),qcq,Option.bind_some,nth0,asB_b,rowB,qap,qc6,qd1,qa2,Int.toNat_natCast,A1,A2];cases h0:iLt 0 (j:Int)with
  |true=>
   have c:0<j:=by have:=qcp.1 h0;omega
   rw[qbt c (by omega),qa3 (by omega)];simp only[qa2,qac,Int.toNat_natCast];cases allB (λi=>!((asS (T.cell (l.getD i T.u) 1)).toList==(asS (T.cell (l.getD j T.u) 1)).toList)) j with
   |true=>simp only[qa2,Option.bind_some,nth0,nthS,asI_i,asL_l,beq_self_eq_true,qa4 hj (show l.length<=9223372036854775807 by omega)]
   |false=>rfl
  |false=>
   simp only[qa2,qac];cases allB (λi=>!((asS (T.cell (l.getD i T.u) 1)).toList==(asS (T.cell (l.getD j T.u) 1)).toList)) j with
   |true=>simp only[qa2,Option.bind_some,nth0,nthS,asI_i,asL_l,beq_self_eq_true,qa4 hj (show l.length<=9223372036854775807 by omega)]
   |false=>rfl) (λn=>by
  show f36_0 (Cc lf (d+2)) lf (n+1) _ nx l=_;rw[f36_0];unfold f36_0_s;rw[iLt_f (by omega)];rfl) (n:=lf) (by omega)
 simp only at L|-;rw[L];unfold qcr;cases allB (rowB nx l) l.length with
 |false=>rfl
 |true=>simp only[qa2,Option.bind_some,nth0,nthS,asI_i,asB_b,asL_l,qcq];rw[show((1:Int)==0)=false from rfl,qac];cases iLe (l.length:Int) 6<;>rfl
theorem qyy{lf d:Nat}(hlf:33554432<=lf)(nx:Int)(l:List T)(hs:l.length+tls l<=16777216):Cc lf (d+3) 102 [.st [.i .i64 nx,.sl l]]=some [.b (qcr nx l)]:=by
 refine(f102_eq (Cc lf (d+2)) lf nx l).trans ?_;unfold f102 f102_t;have cl:∀a,Cc lf (d+2) 48 [.i .i64 a]=some [.b (iLe 32 a&&iLe a 4000)]:=λa=>by refine(f48_eq (Cc lf (d+1)) lf a).trans ?_;unfold f48 f48_t;rw[qcb];rfl
 have L:=qag (F:=λn j=>f102_0 (Cc lf (d+2)) lf l nx n j) (P:=rowB nx l) (X:=some [T.i .i64 0,T.b false]) (Y:=some [T.i .i64 1,T.i .i64 nx,T.sl l]) (len:=l.length) (λn j hj=>by
  show f102_0 (Cc lf (d+2)) lf l nx (n+1) _=_;rw[f102_0];unfold f102_0_s;have ht:(l.take j).length=j:=by rw[List.length_take];omega
  have hg:∀i,i<j->(l.take j).getD i T.u=l.getD i T.u:=λi hi=>by rw[List.getD_eq_getElem?_getD,List.getD_eq_getElem?_getD,List.getElem?_take_of_lt hi]
  have A1:=qfr (F:=λn i=>f102_1 (Cc lf (d+2)) lf l j n i) (P:=λi=>!((asS (T.cell (l.getD i T.u) 1)).toList==(asS (T.cell (l.getD j T.u) 1)).toList)) (X:=λi=>some [T.i .i64 0,T.i .i64 i,T.i .i64 (asI (T.cell (l.getD j T.u) 0)),T.s (asS (T.cell (l.getD j T.u) 1)),T.b (asB (T.cell (l.getD j T.u) 2)),T.i .i64 (asI (T.cell (l.getD j T.u) 3)),T.i .i64 (asI (T.cell (l.getD j T.u) 4))]) (Y:=some [T.i .i64 1,T.i .i64 (asI (T.cell (l.getD j T.u) 0)),T.s (asS (T.cell (l.getD j T.u) 1)),T.b (asB (T.cell (l.getD j T.u) 2)),T.i .i64 (asI (T.cell (l.getD j T.u) 3)),T.i .i64 (asI (T.cell (l.getD j T.u) 4))]) (len:=j) (λn i hi=>by
   show f102_1_s (Cc lf (d+2)) lf _ _ _ _=_;unfold f102_1_s;simp only[Int.toNat_natCast,ht,hg i hi];rw[iLt_t (by omega),qa3 (by omega),qa4 hi (by omega)];simp only[qa2,qap]) (λn=>by
   show f102_1_s (Cc lf (d+2)) lf _ _ _ _=_;unfold f102_1_s;simp only[Int.toNat_natCast,ht];rw[iLt_f (by omega)];rfl) (n:=lf) (by omega)
  have A2:=qfr (F:=λn i=>f102_2 (Cc lf (d+2)) lf l j n i) (P:=λi=>!((asS (T.cell (l.getD i T.u) 1)).toList==(asS (T.cell (l.getD j T.u) 1)).toList)) (X:=λi=>some [T.i .i64 0,T.i .i64 i,T.i .i64 (asI (T.cell (l.getD j T.u) 0)),T.s (asS (T.cell (l.getD j T.u) 1)),T.b (asB (T.cell (l.getD j T.u) 2)),T.i .i64 (asI (T.cell (l.getD j T.u) 3)),T.i .i64 (asI (T.cell (l.getD j T.u) 4))]) (Y:=some [T.i .i64 1,T.i .i64 (asI (T.cell (l.getD j T.u) 0)),T.s (asS (T.cell (l.getD j T.u) 1)),T.b (asB (T.cell (l.getD j T.u) 2)),T.i .i64 (asI (T.cell (l.getD j T.u) 3)),T.i .i64 (asI (T.cell (l.getD j T.u) 4))]) (len:=j) (λn i hi=>by
   show f102_2_s (Cc lf (d+2)) lf _ _ _ _=_;unfold f102_2_s;simp only[Int.toNat_natCast,ht,hg i hi];rw[iLt_t (by omega),qa3 (by omega),qa4 hi (by omega)];simp only[qa2,qap]) (λn=>by
   show f102_2_s (Cc lf (d+2)) lf _ _ _ _=_;unfold f102_2_s;simp only[Int.toNat_natCast,ht];rw[iLt_f (by omega)];rfl) (n:=lf) (by omega)
  rw[iLt_t (by omega),qa3 hj];simp only[qnr hlf _ (qgx hs hj),cl,qcb,Option.bind_some,nth0,asB_b,rowB,qap,qc6,qd1,qa2,Int.toNat_natCast];rw[iLe_t (show(0:Int)<=(j:Int)by omega),iLe_t (show(j:Int)<=(l.length:Int)by omega)];simp only[qa2,Bool.and_self];cases iLt (asI (T.cell (l.getD j T.u) 0)) 1<;>simp only[qa2,qac];cases iLe nx (asI (T.cell (l.getD j T.u) 0))<;>simp only[qa2,qac];cases h0:iLt 0 (j:Int)with
  |true=>
   have h:0<j:=by have:=qcp.1 h0;omega
   rw[qbt h (by omega),qa3 (by omega)];simp only[qa2,qac,Int.toNat_natCast];rcases A1 with⟨c,g⟩|⟨c,i,k,_,g⟩
   · rw[c,g,qa4 hj (by omega)];simp only[qa2,qac,Option.bind_some,nth0,asI_i];rw[show((1:Int)==0)=false from rfl];cases nameB (asS (T.cell (l.getD j T.u) 1))<;>cases iLe (asI (T.cell (l.getD j T.u) 0)) (asI (T.cell (l.getD (j-1) T.u) 0))<;>cases iLe 32 (asI (T.cell (l.getD j T.u) 3))<;>cases iLe (asI (T.cell (l.getD j T.u) 3)) 4000<;>cases iLe 0 (asI (T.cell (l.getD j T.u) 4))<;>cases iLe (asI (T.cell (l.getD j T.u) 4)) 191<;>rfl
   · rw[c,g];simp only[qa2,qac,Option.bind_some,nth0,nthS,asI_i];rw[show((0:Int)==0)=true from rfl,iLe_t (show(0:Int)<=(i:Int)by omega)];cases nameB (asS (T.cell (l.getD j T.u) 1))<;>cases iLe (asI (T.cell (l.getD j T.u) 0)) (asI (T.cell (l.getD (j-1) T.u) 0))<;>cases iLe 32 (asI (T.cell (l.getD j T.u) 3))<;>cases iLe (asI (T.cell (l.getD j T.u) 3)) 4000<;>cases iLe 0 (asI (T.cell (l.getD j T.u) 4))<;>cases iLe (asI (T.cell (l.getD j T.u) 4)) 191<;>rfl
  |false=>
   simp only[qa2,qac];rcases A2 with⟨c,g⟩|⟨c,i,k,_,g⟩
   · rw[c,g,qa4 hj (by omega)];simp only[qa2,qac,Option.bind_some,nth0,asI_i];rw[show((1:Int)==0)=false from rfl];cases nameB (asS (T.cell (l.getD j T.u) 1))<;>cases iLe 32 (asI (T.cell (l.getD j T.u) 3))<;>cases iLe (asI (T.cell (l.getD j T.u) 3)) 4000<;>cases iLe 0 (asI (T.cell (l.getD j T.u) 4))<;>cases iLe (asI (T.cell (l.getD j T.u) 4)) 191<;>rfl
   · rw[c,g];simp only[qa2,qac,Option.bind_some,nth0,nthS,asI_i];rw[show((0:Int)==0)=true from rfl,iLe_t (show(0:Int)<=(i:Int)by omega)];cases nameB (asS (T.cell (l.getD j T.u) 1))<;>cases iLe 32 (asI (T.cell (l.getD j T.u) 3))<;>cases iLe (asI (T.cell (l.getD j T.u) 3)) 4000<;>cases iLe 0 (asI (T.cell (l.getD j T.u) 4))<;>cases iLe (asI (T.cell (l.getD j T.u) 4)) 191<;>rfl) (λn=>by
  show f102_0 (Cc lf (d+2)) lf l nx (n+1) _=_;rw[f102_0];unfold f102_0_s;rw[iLt_f (by omega)];rfl) (n:=lf) (by omega)
 simp only at L|-;rw[L];unfold qcr;cases allB (rowB nx l) l.length with
 |false=>rfl
 |true=>simp only[qa2,Option.bind_some,nth0,nthS,asI_i,asB_b,asL_l,qcb];rw[show((1:Int)==0)=false from rfl,qac];cases iLe (l.length:Int) 6<;>cases iLe 1 nx<;>cases iLe nx 99<;>rfl
def rowT(x:T):List T:=numT (qa9 (asI (T.cell x 0)))++(textT (asS (T.cell x 1))++(numT (bif asB (T.cell x 2)then 1 else 0)++(numT (qa9 (asI (T.cell x 3)))++numT (qa9 (asI (T.cell x 4))))))
def qgi:List T->List T->List T
|b,[]=>b
|b,x::l=>qgi (b++rowT x) l
def qfj(nx:Int)(l:List T):List T:=qgi (numT (qa9 nx)++numT (qa9 (l.length:Int))) l
theorem qri{x:T}(h:(asS (T.cell x 1)).size<=14):(rowT x).length<=40:=by have c:=qae (qa9 (asI (T.cell x 0)));have h2:=qbu (asS (T.cell x 1));have g:=qae (bif asB (T.cell x 2)then 1 else 0);have j:=qae (qa9 (asI (T.cell x 3)));have k:=qae (qa9 (asI (T.cell x 4)));simp only[rowT,List.length_append];omega
theorem qxr(x:T):byt (rowT x):=by
 have c:byt (numT (bif asB (T.cell x 2)then 1 else 0)):=by cases asB (T.cell x 2)<;>exact qcj (by simp) (by simp)
 exact qbn (qcj (qah _).1 (qah _).2) (qbn (qhn _) (qbn c (qbn (qcj (qah _).1 (qah _).2) (qcj (qah _).1 (qah _).2))))
theorem qk8:∀(l:List T)(b:List T),byt b->byt (qgi b l)
|[],b,h=>h
|x::l,b,h=>qk8 l _ (qbn h (qxr x))
theorem qiv{l:List T}{j:Nat}(h:j<l.length)(b:List T):qgi b (l.drop j)=qgi (b++rowT (l.getD j .u)) (l.drop (j+1)):=by rw[List.drop_eq_getElem_cons h,List.getD_eq_getElem?_getD,List.getElem?_eq_getElem h];rfl
theorem qvd{s:ByteArray}(h:nameB s=true):s.size<=14:=by unfold nameB at h;simp only[Bool.and_eq_true,qb8]at h;omega
theorem qlp{nx:Int}{l:List T}(h:qcr nx l=true):l.length<=6/\∀j,j<l.length->(asS (T.cell (l.getD j .u) 1)).size<=14:=by unfold qcr at h;simp only[Bool.and_eq_true,qb8]at h;refine⟨by omega,λj hj=>?_⟩;have:=qal.1 h.1 j hj;unfold rowB at this;simp only[Bool.and_eq_true]at this;exact qvd this.2.2.1
theorem qqo{lf d:Nat}(hlf:33554432<=lf)(nx:Int)(l:List T)(hs:l.length+tls l<=16777216):Cc lf (d+4) 39 [.st [.i .i64 nx,.sl l]]=some [.sl (bif qcr nx l then qfj nx l else[])]:=by
 refine(f39_eq (Cc lf (d+3)) lf nx l).trans ?_;unfold f39 f39_t;dsimp only;rw[qsm hlf nx l hs];simp only[Option.bind_some,nth0,asB_b];cases hm:qcr nx l with
 |false=>rfl
 |true=>
  obtain⟨hl,hrow⟩:=qlp hm;have g:=qae (qa9 nx);have h:=qae (qa9 (l.length:Int));have L:∀(k j n:Nat)(b:List T),j+k=l.length->k<n->b.length<=1000+40*j->f39_0 (Cc lf (d+3)) lf l nx n j b=some [T.i .i64 0,T.sl (qgi b (l.drop j))]:=by
   intro k;induction k with
   |zero=>intro j n b hj hn hb;obtain⟨n,rfl⟩:∃m,n=m+1:=⟨n-1,by omega⟩;rw[f39_0];unfold f39_0_s;rw[iLt_f (by omega),List.drop_eq_nil_of_le (by omega)];rfl
   |succ k ih=>
    intro j n b hj hn hb;obtain⟨n,rfl⟩:∃m,n=m+1:=⟨n-1,by omega⟩;have hj':j<l.length:=by omega
    have c:=hrow j hj';rw[f39_0];unfold f39_0_s;have r1:=qae (qa9 (asI (T.cell (l.getD j .u) 0)));have q:=qbu (asS (T.cell (l.getD j .u) 1));have v:=qae (qa9 (asI (T.cell (l.getD j .u) 3)));have x:=qae (qa9 (asI (T.cell (l.getD j .u) 4)));have z:=qae 0;have A:=qae 1;rw[iLt_t (by omega),qa3 hj',qa4 hj' (by omega),qiv hj'];simp only[qa2,Int.toNat_natCast];have hrow:=qri c;have fin:=ih (j+1) n (b++rowT (l.getD j .u)) (by omega) (by omega) (by rw[List.length_append];omega);unfold rowT at fin|-;generalize asB (T.cell (l.getD j .u) 2)=ro at fin|-;cases ro with
    |true=>simp only[qa2]at fin|-;rw[qas hlf _ _ (by omega)];simp only[Option.bind_some,nth0,asL_l];rw[qda hlf _ _ (by rw[List.length_append];omega) (by omega)];simp only[Option.bind_some,nth0,asL_l];rw[qas hlf _ _ (by simp only[List.length_append];omega)];simp only[Option.bind_some,nth0,asL_l];rw[qas hlf _ _ (by simp only[List.length_append];rw[show qa9 1=1 from rfl];omega)];simp only[Option.bind_some,nth0,asL_l];rw[qas hlf _ _ (by simp only[List.length_append];rw[show qa9 1=1 from rfl];omega)];simp only[Option.bind_some,nth0,asL_l,List.append_assoc,show qa9 1=1 from rfl];exact fin
    |false=>simp only[qac]at fin|-;rw[qas hlf _ _ (by omega)];simp only[Option.bind_some,nth0,asL_l];rw[qda hlf _ _ (by rw[List.length_append];omega) (by omega)];simp only[Option.bind_some,nth0,asL_l];rw[qas hlf _ _ (by simp only[List.length_append];omega)];simp only[Option.bind_some,nth0,asL_l];rw[qas hlf _ _ (by simp only[List.length_append];rw[show qa9 0=0 from rfl];omega)];simp only[Option.bind_some,nth0,asL_l];rw[qas hlf _ _ (by simp only[List.length_append];rw[show qa9 0=0 from rfl];omega)];simp only[Option.bind_some,nth0,asL_l,List.append_assoc,show qa9 0=0 from rfl];exact fin
  have L0:=L l.length 0 lf (numT (qa9 nx)++numT (qa9 (l.length:Int))) (by omega) (by omega) (by simp only[List.length_append];omega);simp only[Bool.not_true,qac,qa2];rw[qas hlf _ _ (by simp)];simp only[Option.bind_some,nth0,asL_l,List.nil_append];rw[qas hlf _ _ (by omega)];simp only[Option.bind_some,nth0,asL_l];rw[show((0:Nat):Int)=0 from rfl]at L0;rw[L0];rfl
theorem qqs{lf d:Nat}(hlf:33554432<=lf)(nx:Int)(l:List T)(hs:l.length+tls l<=16777216):Cc lf (d+4) 57 [.st [.i .i64 nx,.sl l]]=some [.sl (bif qcr nx l then qfj nx l else[])]:=by
 refine(f57_eq (Cc lf (d+3)) lf nx l).trans ?_;unfold f57 f57_t;dsimp only;rw[qyy hlf nx l hs];simp only[Option.bind_some,nth0,asB_b];cases hm:qcr nx l with
 |false=>rfl
 |true=>
  obtain⟨hl,hrow⟩:=qlp hm;have g:=qae (qa9 nx);have h:=qae (qa9 (l.length:Int));have L:∀(k j n:Nat)(b:List T),j+k=l.length->k<n->b.length<=1000+40*j->f57_0 (Cc lf (d+3)) lf l n j b=some [T.i .i64 0,T.sl (qgi b (l.drop j))]:=by
   intro k;induction k with
   |zero=>intro j n b hj hn hb;obtain⟨n,rfl⟩:∃m,n=m+1:=⟨n-1,by omega⟩;rw[f57_0];unfold f57_0_s;rw[iLt_f (by omega),List.drop_eq_nil_of_le (by omega)];rfl
   |succ k ih=>
    intro j n b hj hn hb;obtain⟨n,rfl⟩:∃m,n=m+1:=⟨n-1,by omega⟩;have hj':j<l.length:=by omega
    have c:=hrow j hj';rw[f57_0];unfold f57_0_s;have r1:=qae (qa9 (asI (T.cell (l.getD j .u) 0)));have q:=qbu (asS (T.cell (l.getD j .u) 1));have v:=qae (qa9 (asI (T.cell (l.getD j .u) 3)));have x:=qae (qa9 (asI (T.cell (l.getD j .u) 4)));have z:=qae 0;have A:=qae 1;rw[iLt_t (by omega),qa3 hj',qa4 hj' (by omega),qiv hj'];simp only[qa2,Int.toNat_natCast];have hrow:=qri c;have fin:=ih (j+1) n (b++rowT (l.getD j .u)) (by omega) (by omega) (by rw[List.length_append];omega);unfold rowT at fin|-;rw[qav hlf _ _ (by omega)];simp only[Option.bind_some,nth0,asL_l];rw[qes hlf _ _ (by rw[List.length_append];omega) (by omega)];simp only[Option.bind_some,nth0,asL_l];generalize asB (T.cell (l.getD j .u) 2)=ro at fin|-;cases ro with
    |true=>simp only[qa2]at fin|-;rw[qav hlf _ _ (by simp only[List.length_append];omega)];simp only[Option.bind_some,nth0,asL_l];rw[qav hlf _ _ (by simp only[List.length_append];rw[show qa9 1=1 from rfl];omega)];simp only[Option.bind_some,nth0,asL_l];rw[qav hlf _ _ (by simp only[List.length_append];rw[show qa9 1=1 from rfl];omega)];simp only[Option.bind_some,nth0,asL_l,List.append_assoc,show qa9 1=1 from rfl];exact fin
    |false=>simp only[qac]at fin|-;rw[qav hlf _ _ (by simp only[List.length_append];omega)];simp only[Option.bind_some,nth0,asL_l];rw[qav hlf _ _ (by simp only[List.length_append];rw[show qa9 0=0 from rfl];omega)];simp only[Option.bind_some,nth0,asL_l];rw[qav hlf _ _ (by simp only[List.length_append];rw[show qa9 0=0 from rfl];omega)];simp only[Option.bind_some,nth0,asL_l,List.append_assoc,show qa9 0=0 from rfl];exact fin
  have L0:=L l.length 0 lf (numT (qa9 nx)++numT (qa9 (l.length:Int))) (by omega) (by omega) (by simp only[List.length_append];omega);simp only[Bool.not_true,qac,qa2];rw[qav hlf _ _ (by simp)];simp only[Option.bind_some,nth0,asL_l,List.nil_append];rw[qav hlf _ _ (by omega)];simp only[Option.bind_some,nth0,asL_l];rw[show((0:Nat):Int)=0 from rfl]at L0;rw[L0];rfl
def qiw(nx:Int)(l:List T)(j:Nat):Bool:=!iLt (asI (T.cell (l.getD j T.u) 0)) 1&&(!iLe nx (asI (T.cell (l.getD j T.u) 0))&&((iLe 0 (asI (T.cell (l.getD j T.u) 1))&&iLe (asI (T.cell (l.getD j T.u) 1)) 191)&&(!iLt 0 (j:Int)||!iLe (asI (T.cell (l.getD j T.u) 0)) (asI (T.cell (l.getD (j-1) T.u) 0)))))
def mapB(nx:Int)(l:List T):Bool:=allB (qiw nx l) l.length&&(iLe (l.length:Int) 30&&(iLe 2 nx&&iLe nx 1000))
theorem qsn{lf d:Nat}(hlf:33554432<=lf)(nx:Int)(l:List T)(hs:l.length<=16777216):Cc lf (d+2) 81 [.st [.i .i64 nx,.sl l]]=some [.b (mapB nx l)]:=by
 refine(f81_eq (Cc lf (d+1)) lf nx l).trans ?_;unfold f81 f81_t;dsimp only;have L:=qag (F:=λn j=>f81_0 (Cc lf (d+1)) lf l nx n j) (P:=qiw nx l) (X:=some [T.i .i64 0,T.b false]) (Y:=some [T.i .i64 1,T.i .i64 nx,T.sl l]) (len:=l.length) (λn j hj=>by
  rw[f81_0];unfold f81_0_s;rw[iLt_t (by omega),qa3 hj,qa4 hj (by omega)];simp only[qcq,Option.bind_some,nth0,asB_b,qiw,qap,qc6,qd1,qa2,Int.toNat_natCast];cases h0:iLt 0 (j:Int)with
  |true=>
   have c:0<j:=by have:=qcp.1 h0;omega
   rw[qbt c (by omega),qa3 (by omega)];simp only[qa2,Int.toNat_natCast]
  |false=>rfl) (λn=>by
  rw[f81_0];unfold f81_0_s;rw[iLt_f (by omega)];rfl) (n:=lf) (by omega)
 rw[L];unfold mapB;cases allB (qiw nx l) l.length with
 |false=>rfl
 |true=>simp only[qa2,Option.bind_some,nth0,nthS,asI_i,asB_b,asL_l,qcq];rw[show((1:Int)==0)=false from rfl,qac];cases iLe (l.length:Int) 30<;>rfl
theorem qz2{lf d:Nat}(hlf:33554432<=lf)(nx:Int)(l:List T)(hs:l.length<=16777216):Cc lf (d+2) 104 [.st [.i .i64 nx,.sl l]]=some [.b (mapB nx l)]:=by
 refine(f104_eq (Cc lf (d+1)) lf nx l).trans ?_;unfold f104 f104_t;dsimp only;have L:=qag (F:=λn j=>f104_0 (Cc lf (d+1)) lf l nx n j) (P:=qiw nx l) (X:=some [T.i .i64 0,T.b false]) (Y:=some [T.i .i64 1,T.i .i64 nx,T.sl l]) (len:=l.length) (λn j hj=>by
  rw[f104_0];unfold f104_0_s;rw[iLt_t (by omega),qa3 hj,qa4 hj (by omega)];simp only[qcb,Option.bind_some,nth0,asB_b,qiw,qap,qc6,qd1,qa2,Int.toNat_natCast];cases h0:iLt 0 (j:Int)with
  |true=>
   have c:0<j:=by have:=qcp.1 h0;omega
   rw[qbt c (by omega),qa3 (by omega)];simp only[qa2,Int.toNat_natCast]
  |false=>rfl) (λn=>by
  rw[f104_0];unfold f104_0_s;rw[iLt_f (by omega)];rfl) (n:=lf) (by omega)
 rw[L];unfold mapB;cases allB (qiw nx l) l.length with
 |false=>rfl
 |true=>simp only[qa2,Option.bind_some,nth0,nthS,asI_i,asB_b,asL_l,qcb];rw[show((1:Int)==0)=false from rfl,qac];cases iLe (l.length:Int) 30<;>cases iLe 2 nx<;>cases iLe nx 1000<;>rfl
def qdi:List T->List T->List T
|b,[]=>b
|b,x::l=>qdi (b++numT (qa9 (asI (T.cell x 0)))++numT (qa9 (asI (T.cell x 1)))) l
def qk9(nx:Int)(l:List T):List T:=qdi (numT (qa9 nx)++numT (qa9 (l.length:Int))) l
theorem qgz:∀(l:List T)(b:List T),byt b->byt (qdi b l)
|[],b,h=>h
|x::l,b,h=>qgz l _ (qbn (qbn h (qcj (qah _).1 (qah _).2)) (qcj (qah _).1 (qah _).2))
theorem qg8{l:List T}{j:Nat}(h:j<l.length)(b:List T):qdi b (l.drop j)=qdi (b++numT (qa9 (asI (T.cell (l.getD j .u) 0)))++numT (qa9 (asI (T.cell (l.getD j .u) 1)))) (l.drop (j+1)):=by rw[List.drop_eq_getElem_cons h,List.getD_eq_getElem?_getD,List.getElem?_eq_getElem h];rfl
theorem qwj{lf d:Nat}(hlf:33554432<=lf)(nx:Int)(l:List T)(hs:l.length<=16777216):Cc lf (d+3) 82 [.st [.i .i64 nx,.sl l]]=some [.sl (bif mapB nx l then qk9 nx l else[])]:=by
 refine(f82_eq (Cc lf (d+2)) lf nx l).trans ?_;unfold f82 f82_t;dsimp only;rw[qsn hlf nx l hs];simp only[Option.bind_some,nth0,asB_b];cases hm:mapB nx l with
 |false=>rfl
 |true=>
  have hl:l.length<=30:=by unfold mapB at hm;simp only[Bool.and_eq_true,qb8]at hm;omega
  have c:=qae (qa9 nx);have g:=qae (qa9 (l.length:Int));have L:∀(k j n:Nat)(b:List T),j+k=l.length->k<n->b.length<=1000+6*j->f82_0 (Cc lf (d+2)) lf l nx n j b=some [T.i .i64 0,T.sl (qdi b (l.drop j))]:=by
   intro k;induction k with
   |zero=>intro j n b hj hn hb;obtain⟨n,rfl⟩:∃m,n=m+1:=⟨n-1,by omega⟩;rw[f82_0];unfold f82_0_s;rw[iLt_f (by omega),List.drop_eq_nil_of_le (by omega)];rfl
   |succ k ih=>
    intro j n b hj hn hb;obtain⟨n,rfl⟩:∃m,n=m+1:=⟨n-1,by omega⟩;have hj':j<l.length:=by omega
    rw[f82_0];unfold f82_0_s;have r1:=qae (qa9 (asI (T.cell (l.getD j .u) 0)));have h:=qae (qa9 (asI (T.cell (l.getD j .u) 1)));rw[iLt_t (by omega),qa3 hj',qa4 hj' (by omega),qg8 hj'];simp only[qa2,Int.toNat_natCast];rw[qas hlf _ _ (by omega)];simp only[Option.bind_some,nth0,asL_l];rw[qas hlf _ _ (by rw[List.length_append];omega)];simp only[Option.bind_some,nth0,asL_l];exact ih (j+1) n _ (by omega) (by omega) (by simp only[List.length_append];omega)
  have L0:=L l.length 0 lf (numT (qa9 nx)++numT (qa9 (l.length:Int))) (by omega) (by omega) (by simp only[List.length_append];omega);simp only[Bool.not_true,qac,qa2];rw[qas hlf _ _ (by simp)];simp only[Option.bind_some,nth0,asL_l,List.nil_append];rw[qas hlf _ _ (by omega)];simp only[Option.bind_some,nth0,asL_l];rw[show((0:Nat):Int)=0 from rfl]at L0;rw[L0];rfl
theorem qwt{lf d:Nat}(hlf:33554432<=lf)(nx:Int)(l:List T)(hs:l.length<=16777216):Cc lf (d+3) 58 [.st [.i .i64 nx,.sl l]]=some [.sl (bif mapB nx l then qk9 nx l else[])]:=by
 refine(f58_eq (Cc lf (d+2)) lf nx l).trans ?_;unfold f58 f58_t;dsimp only;rw[qz2 hlf nx l hs];simp only[Option.bind_some,nth0,asB_b];cases hm:mapB nx l with
 |false=>rfl
 |true=>
  have hl:l.length<=30:=by unfold mapB at hm;simp only[Bool.and_eq_true,qb8]at hm;omega
  have c:=qae (qa9 nx);have g:=qae (qa9 (l.length:Int));have L:∀(k j n:Nat)(b:List T),j+k=l.length->k<n->b.length<=1000+6*j->f58_0 (Cc lf (d+2)) lf l n j b=some [T.i .i64 0,T.sl (qdi b (l.drop j))]:=by
   intro k;induction k with
   |zero=>intro j n b hj hn hb;obtain⟨n,rfl⟩:∃m,n=m+1:=⟨n-1,by omega⟩;rw[f58_0];unfold f58_0_s;rw[iLt_f (by omega),List.drop_eq_nil_of_le (by omega)];rfl
   |succ k ih=>
    intro j n b hj hn hb;obtain⟨n,rfl⟩:∃m,n=m+1:=⟨n-1,by omega⟩;have hj':j<l.length:=by omega
    rw[f58_0];unfold f58_0_s;have r1:=qae (qa9 (asI (T.cell (l.getD j .u) 0)));have h:=qae (qa9 (asI (T.cell (l.getD j .u) 1)));rw[iLt_t (by omega),qa3 hj',qa4 hj' (by omega),qg8 hj'];simp only[qa2,Int.toNat_natCast];rw[qav hlf _ _ (by omega)];simp only[Option.bind_some,nth0,asL_l];rw[qav hlf _ _ (by rw[List.length_append];omega)];simp only[Option.bind_some,nth0,asL_l];exact ih (j+1) n _ (by omega) (by omega) (by simp only[List.length_append];omega)
  have L0:=L l.length 0 lf (numT (qa9 nx)++numT (qa9 (l.length:Int))) (by omega) (by omega) (by simp only[List.length_append];omega);simp only[Bool.not_true,qac,qa2];rw[qav hlf _ _ (by simp)];simp only[Option.bind_some,nth0,asL_l,List.nil_append];rw[qav hlf _ _ (by omega)];simp only[Option.bind_some,nth0,asL_l];rw[show((0:Nat):Int)=0 from rfl]at L0;rw[L0];rfl
abbrev IL(ns:List Int):List T:=ns.map (T.i .i64)
theorem IL_at{ns:List Int}{j:Nat}(h:j<ns.length):(IL ns).getD j T.u=.i .i64 (ns.getD j 0):=by rw[List.getD_eq_getElem?_getD,List.getElem?_map,List.getElem?_eq_getElem h,List.getD_eq_getElem?_getD,List.getElem?_eq_getElem h];rfl
theorem qcl(ns:List Int):(IL ns).length=ns.length:=List.length_map ..
theorem IL_asI(ns:List Int):(IL ns).map asI=ns:=by rw[List.map_map];exact(List.map_congr_left λx _=>rfl).trans (List.map_id _)
theorem IL_set(ns:List Int)(j:Nat)(x:Int):(IL ns).set j (.i .i64 x)=IL (ns.set j x):=List.map_set.symm
theorem qvy{l:List Int}{j:Nat}(h:j<l.length):l.getD j 0=l[j]:=by rw[List.getD_eq_getElem?_getD,List.getElem?_eq_getElem h];rfl
def lessB(l:List T)(j:Nat):Bool:=!iLt 0 (j:Int)||Op.bytesLess (asS (T.cell (l.getD (j-1) T.u) 0)).toList (asS (T.cell (l.getD j T.u) 0)).toList
def entB(l:List T)(j:Nat):Bool:=nameB (asS (T.cell (l.getD j T.u) 0))&&((iLe 2 (asI (T.cell (l.getD j T.u) 1))&&iLe (asI (T.cell (l.getD j T.u) 1)) 1000)&&lessB l j)
def attrB(l:List T)(j:Nat):Bool:=nameB (asS (T.cell (l.getD j T.u) 0))&&((iLe 1 ((asS (T.cell (l.getD j T.u) 1)).size:Int)&&iLe ((asS (T.cell (l.getD j T.u) 1)).size:Int) 16)&&lessB l j)
def entsB(l:List T):Bool:=allB (entB l) l.length&&iLe (l.length:Int) 10
def qgb(l:List T):Bool:=allB (attrB l) l.length&&iLe (l.length:Int) 4
def qd2(ino kind links:Int)(data ents attrs:List T):Bool:=(iLe 1 ino&&iLe ino 1000)&&((iLe 0 links&&iLe links 1000)&&(((links==0)==(ino==1))&&(!iLt 100 (data.length:Int)&&(entsB ents&&(qgb attrs&&bif kind==1 then((ents.length:Int)==0)else bif kind==2 then((data.length:Int)==0)&&iLe links 1 else false)))))
theorem c_sEnts{lf d:Nat}(hlf:33554432<=lf)(l:List T)(hs:l.length+tls l<=16777216):Cc lf (d+3) 150 [.sl l]=some [.b (entsB l)]:=by
 refine(f150_eq (Cc lf (d+2)) lf l).trans ?_;unfold f150 f150_t;dsimp only;have L:=qag (F:=λn j=>f150_0 (Cc lf (d+2)) lf l n j) (P:=entB l) (X:=some [T.i .i64 0,T.b false]) (Y:=some [T.i .i64 1,T.sl l]) (len:=l.length) (λn j hj=>by
  have hn:=qjk (l:=l) (j:=j) 0;rw[f150_0];unfold f150_0_s;rw[iLt_t (by omega),qa3 hj,qa4 hj (by omega)];simp only[Int.toNat_natCast,qnp hlf _ (show(asS (T.cell (l.getD j T.u) 0)).size<=16777216 by omega),qcq,Option.bind_some,nth0,asB_b,entB,lessB,qap,qc6,qd1,qa2];cases h0:iLt 0 (j:Int)with
  |true=>
   have c:0<j:=by have:=qcp.1 h0;omega
   rw[qbt c (by omega),qa3 (by omega)];simp only[qa2,Int.toNat_natCast]
  |false=>rfl) (λn=>by
  rw[f150_0];unfold f150_0_s;rw[iLt_f (by omega)];rfl) (n:=lf) (by omega)
 rw[show((0:Int))=0 from rfl]at L;rw[L];unfold entsB;cases allB (entB l) l.length<;>rfl
theorem qyv{lf d:Nat}(hlf:33554432<=lf)(l:List T)(hs:l.length+tls l<=16777216):Cc lf (d+3) 151 [.sl l]=some [.b (qgb l)]:=by
 refine(f151_eq (Cc lf (d+2)) lf l).trans ?_;unfold f151 f151_t;dsimp only;have L:=qag (F:=λn j=>f151_0 (Cc lf (d+2)) lf l n j) (P:=attrB l) (X:=some [T.i .i64 0,T.b false]) (Y:=some [T.i .i64 1,T.sl l]) (len:=l.length) (λn j hj=>by
  have hn:=qjk (l:=l) (j:=j) 0;rw[f151_0];unfold f151_0_s;rw[iLt_t (by omega),qa3 hj,qa4 hj (by omega)];simp only[Int.toNat_natCast,qnp hlf _ (show(asS (T.cell (l.getD j T.u) 0)).size<=16777216 by omega),qcq,Option.bind_some,nth0,asB_b,attrB,lessB,qap,qc6,qd1,qa2];cases h0:iLt 0 (j:Int)with
  |true=>
   have c:0<j:=by have:=qcp.1 h0;omega
   rw[qbt c (by omega),qa3 (by omega)];simp only[qa2,Int.toNat_natCast]
  |false=>rfl) (λn=>by
  rw[f151_0];unfold f151_0_s;rw[iLt_f (by omega)];rfl) (n:=lf) (by omega)
 rw[L];unfold qgb;cases allB (attrB l) l.length<;>rfl
theorem qsp{lf d:Nat}(hlf:33554432<=lf)(l:List T)(hs:l.length+tls l<=16777216):Cc lf (d+3) 142 [.sl l]=some [.b (qgb l)]:=by
 refine(f142_eq (Cc lf (d+2)) lf l).trans ?_;unfold f142 f142_t;dsimp only;have L:=qag (F:=λn j=>f142_0 (Cc lf (d+2)) lf l n j) (P:=attrB l) (X:=some [T.i .i64 0,T.b false]) (Y:=some [T.i .i64 1,T.sl l]) (len:=l.length) (λn j hj=>by
  have hn:=qjk (l:=l) (j:=j) 0;rw[f142_0];unfold f142_0_s;rw[iLt_t (by omega),qa3 hj,qa4 hj (by omega)];simp only[Int.toNat_natCast,qnr hlf _ (show(asS (T.cell (l.getD j T.u) 0)).size<=16777216 by omega),qcb,Option.bind_some,nth0,asB_b,attrB,lessB,qap,qc6,qd1,qa2];cases h0:iLt 0 (j:Int)with
  |true=>
   have c:0<j:=by have:=qcp.1 h0;omega
   rw[qbt c (by omega),qa3 (by omega)];simp only[qa2,Int.toNat_natCast]
  |false=>rfl) (λn=>by
  rw[f142_0];unfold f142_0_s;rw[iLt_f (by omega)];rfl) (n:=lf) (by omega)
 rw[L];unfold qgb;cases allB (attrB l) l.length<;>rfl
theorem qmg{lf d:Nat}(hlf:33554432<=lf)(ino kind links:Int)(data ents attrs:List T)(he:ents.length+tls ents<=16777216)(ha:attrs.length+tls attrs<=16777216):Cc lf (d+4) 116 [.st [.i .i64 ino,.i .i64 kind,.i .i64 links,.sl data,.sl ents,.sl attrs]]=some [.b (qd2 ino kind links data ents attrs)]:=by refine(f116_eq (Cc lf (d+3)) lf ino kind links data ents attrs).trans ?_;unfold f116 f116_t;simp only[qcq,c_sEnts hlf ents he,qyv hlf attrs ha,Option.bind_some,nth0,asB_b,ql4];refine congrArg (λb=>some [T.b b]) ?_;unfold qd2;generalize(iLe 1 ino&&iLe ino 1000)=c;generalize(iLe 0 links&&iLe links 1000)=j;generalize((links==0)==(ino==1))=k;generalize iLt 100 (data.length:Int)=m;generalize entsB ents=q;generalize qgb attrs=v;generalize(kind==1)=x;generalize(kind==2)=z;generalize((data.length:Int)==0)=A;generalize((ents.length:Int)==0)=g;generalize iLe links 1=h;cases c<;>cases j<;>cases k<;>cases m<;>cases q<;>cases v<;>first|rfl|(cases x<;>cases z<;>cases A<;>rfl)
theorem qmi{lf d:Nat}(hlf:33554432<=lf)(ino kind links:Int)(data ents attrs:List T)(he:ents.length+tls ents<=16777216)(ha:attrs.length+tls attrs<=16777216):Cc lf (d+4) 105 [.st [.i .i64 ino,.i .i64 kind,.i .i64 links,.sl data,.sl ents,.sl attrs]]=some [.b (qd2 ino kind links data ents attrs)]:=by
 refine(f105_eq (Cc lf (d+3)) lf ino kind links data ents attrs).trans ?_;unfold f105 f105_t;dsimp only;have L:=qag (F:=λn j=>f105_0 (Cc lf (d+3)) lf data ents attrs ino kind links n j) (P:=entB ents) (X:=some [T.i .i64 0,T.b false]) (Y:=some [T.i .i64 1,T.i .i64 ino,T.i .i64 kind,T.i .i64 links,T.sl data,T.sl ents,T.sl attrs]) (len:=ents.length) (λn j hj=>by
  have hn:=qjk (l:=ents) (j:=j) 0;rw[f105_0];unfold f105_0_s;rw[iLt_t (by omega),qa3 hj,qa4 hj (by omega)];simp only[Int.toNat_natCast,qnr hlf _ (show(asS (T.cell (ents.getD j T.u) 0)).size<=16777216 by omega),qcb,Option.bind_some,nth0,asB_b,entB,lessB,qap,qc6,qd1,qa2];cases h0:iLt 0 (j:Int)with
  |true=>
   have x:0<j:=by have:=qcp.1 h0;omega
   rw[qbt x (by omega),qa3 (by omega)];simp only[qa2,Int.toNat_natCast]
  |false=>rfl) (λn=>by
  rw[f105_0];unfold f105_0_s;rw[iLt_f (by omega)];rfl) (n:=lf) (by omega)
 rw[L];have c:iLt 10 (ents.length:Int)= !iLe (ents.length:Int) 10:=qzv _ _;unfold qd2 entsB;cases allB (entB ents) ents.length with
 |false=>simp only[qcb,qsp hlf attrs ha,Option.bind_some,nth0,nthS,asB_b,asI_i,qac,ql4,c];rw[show((0:Int)==0)=true from rfl];refine congrArg (λb=>some [T.b b]) ?_;generalize(iLe 1 ino&&iLe ino 1000)=g;generalize(iLe 0 links&&iLe links 1000)=h;generalize((links==0)==(ino==1))=k;generalize iLt 100 (data.length:Int)=m;generalize iLe (ents.length:Int) 10=q;generalize qgb attrs=v;cases g<;>cases h<;>cases k<;>cases m<;>cases q<;>cases v<;>rfl
 |true=>simp only[qcb,qsp hlf attrs ha,Option.bind_some,nth0,nthS,asB_b,asI_i,asL_l,qa2,ql4,c];rw[show((1:Int)==0)=false from rfl];refine congrArg (λb=>some [T.b b]) ?_;generalize(iLe 1 ino&&iLe ino 1000)=g;generalize(iLe 0 links&&iLe links 1000)=h;generalize((links==0)==(ino==1))=k;generalize iLt 100 (data.length:Int)=m;generalize iLe (ents.length:Int) 10=q;generalize qgb attrs=v;generalize(kind==1)=B;generalize(kind==2)=C;generalize((data.length:Int)==0)=D;generalize((ents.length:Int)==0)=z;generalize iLe links 1=A;cases g<;>cases h<;>cases k<;>cases m<;>cases q<;>cases v<;>first|rfl|(cases B<;>cases C<;>cases D<;>rfl)
theorem qii{i k n:Int}{d es ats:List T}(h:qd2 i k n d es ats=true):d.length<=100/\es.length<=10/\ats.length<=4:=by
 unfold qd2 entsB qgb at h;simp only[Bool.and_eq_true,qb8,Bool.not_eq_true']at h;have:¬(100:Int)<d.length:=λhc=>by rw[iLt_t hc]at h;simp at h
 omega
def prEnt(x:T):List T:=textT (asS (T.cell x 0))++numT (qa9 (asI (T.cell x 1)))
def qei(x:T):List T:=textT (asS (T.cell x 0))++textT (asS (T.cell x 1))
def qeg(i k n:Int)(dt es ats:List T):List T:=numT (qa9 i)++(numT (qa9 k)++(numT (qa9 n)++(textT (bytesOf dt)++(numT (qa9 (es.length:Int))++(flatT prEnt es++(numT (qa9 (ats.length:Int))++flatT qei ats))))))
theorem qod{x:T}(h:(asS (T.cell x 0)).size<=14):(prEnt x).length<=20:=by have c:=qbu (asS (T.cell x 0));have h2:=qae (qa9 (asI (T.cell x 1)));simp only[prEnt,List.length_append];omega
theorem qic{x:T}(h:(asS (T.cell x 0)).size<=14)(h2:(asS (T.cell x 1)).size<=16):(qei x).length<=36:=by have c:=qbu (asS (T.cell x 0));have h2:=qbu (asS (T.cell x 1));simp only[qei,List.length_append];omega
theorem quy(x:T):byt (prEnt x):=qbn (qhn _) (qcj (qah _).1 (qah _).2)
theorem qt8(x:T):byt (qei x):=qbn (qhn _) (qhn _)
theorem qn3(i k n:Int)(dt es ats:List T):byt (qeg i k n dt es ats):=by have N:∀m:Int,byt (numT (qa9 m)):=λm=>qcj (qah _).1 (qah _).2;exact qbn (N _) (qbn (N _) (qbn (N _) (qbn (qhn _) (qbn (N _) (qbn (ql1 λx _=>quy x) (qbn (N _) (ql1 λx _=>qt8 x)))))))
theorem qs3{s:ByteArray}(h:nameB s=true):s.size<=14:=by unfold nameB at h;simp only[Bool.and_eq_true,qb8]at h;omega
theorem qiz{i k n:Int}{d es ats:List T}(h:qd2 i k n d es ats=true):(1<=i/\i<=1000)/\(0<=n/\n<=1000)/\(k=1\/k=2)/\(∀j,j<es.length->entB es j=true)/\(∀j,j<ats.length->attrB ats j=true):=by
 unfold qd2 entsB qgb at h;simp only[Bool.and_eq_true,qb8]at h;obtain⟨q,h2,_,_,v,x,c⟩:=h;refine⟨q,h2,?_,qal.1 v.1,qal.1 x.1⟩;cases g:k==1 with
 |true=>exact .inl (by simpa using g)
 |false=>
  rw[g]at c;cases m:k==2 with
  |true=>exact .inr (by simpa using m)
  |false=>rw[m]at c;cases c
theorem qfm{i k n:Int}{d es ats:List T}(h:qd2 i k n d es ats=true):(∀x∈es,(asS (T.cell x 0)).size<=14)/\(∀x∈ats,(asS (T.cell x 0)).size<=14/\(asS (T.cell x 1)).size<=16):=by
 obtain⟨_,_,_,c,g⟩:=qiz h;constructor;· intro x hx;obtain⟨j,hj,rfl⟩:=List.getElem_of_mem hx;have:=c j hj;unfold entB at this;rw[List.getD_eq_getElem?_getD,List.getElem?_eq_getElem hj]at this;simp only[Bool.and_eq_true]at this;exact qs3 this.1
 · intro x hx;obtain⟨j,hj,rfl⟩:=List.getElem_of_mem hx;have:=g j hj;unfold attrB at this;rw[List.getD_eq_getElem?_getD,List.getElem?_eq_getElem hj]at this;simp only[Bool.and_eq_true,qb8]at this;have h2:((asS (T.cell ats[j] 1)).size:Int)<=16:=this.2.1.2;exact⟨qs3 this.1,by omega⟩
theorem qqu{lf d:Nat}(hlf:33554432<=lf)(b ats:List T)(hb:b.length<=1000)(hl:ats.length<=4)(hna:∀x∈ats,(asS (T.cell x 0)).size<=14/\(asS (T.cell x 1)).size<=16):Cc lf (d+4) 106 [.sl b,.sl ats]=some [.sl (b++(numT (qa9 (ats.length:Int))++flatT qei ats))]:=by
 refine(f106_eq (Cc lf (d+3)) lf b ats).trans ?_;unfold f106 f106_t;dsimp only;have c:=qae (qa9 (ats.length:Int));have L1:∀(b:List T),b.length<=2000->f106_0 (Cc lf (d+3)) lf ats lf 0 b=some [T.i .i64 0,T.sl (b++flatT qei ats)]:=λb hb=>
  qhb (F:=λm j b=>f106_0 (Cc lf (d+3)) lf ats m j b) (pr:=qei) (l:=ats) (Y:=λb=>some [T.i .i64 0,T.sl b]) (M:=36) (B:=2000) (λx hx=>qic (hna x hx).1 (hna x hx).2) (λm j b hj hb=>by
   have hs:(asS (T.cell (ats.getD j .u) 0)).size<=14/\(asS (T.cell (ats.getD j .u) 1)).size<=16:=by rw[List.getD_eq_getElem?_getD,List.getElem?_eq_getElem hj];exact hna _ (List.getElem_mem hj)
   have ht:=qbu (asS (T.cell (ats.getD j .u) 0));rw[f106_0];unfold f106_0_s;rw[iLt_t (by omega),qa3 hj,qa4 hj (by omega)];simp only[qa2,Int.toNat_natCast];rw[qes (d:=d) hlf _ _ (by omega) (by omega)];simp only[Option.bind_some,nth0,asL_l];rw[qes (d:=d) hlf _ _ (by rw[List.length_append];omega) (by omega)];simp only[Option.bind_some,nth0,asL_l,qei,List.append_assoc]) (λm b=>by
   rw[f106_0];unfold f106_0_s;rw[iLt_f (by omega)];rfl) (n:=lf) (by omega) hb
 rw[qav (d:=d+1) hlf _ _ (by omega)];simp only[Option.bind_some,nth0,asL_l];rw[L1 _ (by rw[List.length_append];omega)];simp only[Option.bind_some,nth0,nthS,asL_l,List.append_assoc]
theorem qqp{lf d:Nat}(hlf:33554432<=lf)(i k n:Int)(dt es ats:List T)(he:es.length+tls es<=16777216)(ha:ats.length+tls ats<=16777216):Cc lf (d+5) 83 [.st [.i .i64 i,.i .i64 k,.i .i64 n,.sl dt,.sl es,.sl ats]]=some [.sl (bif qd2 i k n dt es ats then qeg i k n dt es ats else[])]:=by
 refine(f83_eq (Cc lf (d+4)) lf i k n dt es ats).trans ?_;unfold f83 f83_t;dsimp only;rw[qmg hlf i k n dt es ats he ha];simp only[Option.bind_some,nth0,asB_b];cases hm:qd2 i k n dt es ats with
 |false=>rfl
 |true=>
  obtain⟨hd,hel,hal⟩:=qii hm;obtain⟨hne,hna⟩:=qfm hm;have g:=qae (qa9 i);have h:=qae (qa9 k);have q:=qae (qa9 n);have c:=qbu (bytesOf dt);rw[qe3]at c;have v:=qae (qa9 (es.length:Int));have A:=qae (qa9 (ats.length:Int));have qE:∀x∈es,(prEnt x).length<=20:=λx hx=>qod (hne x hx);have qA:∀x∈ats,(qei x).length<=36:=λx hx=>qic (hna x hx).1 (hna x hx).2;have qF:=ql0 qE;have L0:∀b:List T,b.length<=2000->f83_0 (Cc lf (d+4)) lf dt es ats i k n lf 0 b=some [T.i .i64 0,T.i .i64 i,T.i .i64 k,T.i .i64 n,T.sl dt,T.sl es,T.sl ats,T.sl (b++flatT prEnt es)]:=λb hb=>
   qhb (F:=λm j b=>f83_0 (Cc lf (d+4)) lf dt es ats i k n m j b) (pr:=prEnt) (l:=es) (Y:=λb=>some [T.i .i64 0,T.i .i64 i,T.i .i64 k,T.i .i64 n,T.sl dt,T.sl es,T.sl ats,T.sl b]) (M:=20) (B:=2000) qE (λm j b hj hb=>by
    have hs:(asS (T.cell (es.getD j .u) 0)).size<=14:=by rw[List.getD_eq_getElem?_getD,List.getElem?_eq_getElem hj];exact hne _ (List.getElem_mem hj)
    have ht:=qbu (asS (T.cell (es.getD j .u) 0));rw[f83_0];unfold f83_0_s;rw[iLt_t (by omega),qa3 hj,qa4 hj (by omega)];simp only[qa2,Int.toNat_natCast];rw[qda (d:=d+1) hlf _ _ (by omega) (by omega)];simp only[Option.bind_some,nth0,asL_l];rw[qas (d:=d+2) hlf _ _ (by rw[List.length_append];omega)];simp only[Option.bind_some,nth0,asL_l,prEnt,List.append_assoc]) (λm b=>by
    rw[f83_0];unfold f83_0_s;rw[iLt_f (by omega)];rfl) (n:=lf) (by omega) hb
  simp only[Bool.not_true,qac,qa2];rw[qas (d:=d+2) hlf _ _ (by simp)];simp only[Option.bind_some,nth0,asL_l,List.nil_append];rw[qas (d:=d+2) hlf _ _ (by omega)];simp only[Option.bind_some,nth0,asL_l];rw[qas (d:=d+2) hlf _ _ (by simp only[List.length_append];omega)];simp only[Option.bind_some,nth0,asL_l];rw[qda (d:=d+1) hlf _ _ (by simp only[List.length_append];omega) (by rw[qe3];omega)];simp only[Option.bind_some,nth0,asL_l];rw[qas (d:=d+2) hlf _ _ (by simp only[List.length_append];omega)];simp only[Option.bind_some,nth0,asL_l];rw[L0 _ (by simp only[List.length_append];omega)];have L1:∀(b z:List T),b.length<=2000->f83_1 (Cc lf (d+4)) lf [T.i .i64 0,T.i .i64 i,T.i .i64 k,T.i .i64 n,T.sl dt,T.sl es,T.sl ats,T.sl z] lf 0 b=some [T.i .i64 0,T.sl (b++flatT qei ats)]:=λb z hb=>
   qhb (F:=λm j b=>f83_1 (Cc lf (d+4)) lf [T.i .i64 0,T.i .i64 i,T.i .i64 k,T.i .i64 n,T.sl dt,T.sl es,T.sl ats,T.sl z] m j b) (pr:=qei) (l:=ats) (Y:=λb=>some [T.i .i64 0,T.sl b]) (M:=36) (B:=2000) qA (λm j b hj hb=>by
    have hs:(asS (T.cell (ats.getD j .u) 0)).size<=14/\(asS (T.cell (ats.getD j .u) 1)).size<=16:=by rw[List.getD_eq_getElem?_getD,List.getElem?_eq_getElem hj];exact hna _ (List.getElem_mem hj)
    have ht:=qbu (asS (T.cell (ats.getD j .u) 0));rw[f83_1];unfold f83_1_s;simp only[nth0,nthS,asL_l];rw[iLt_t (by omega),qa3 hj,qa4 hj (by omega)];simp only[qa2,Int.toNat_natCast];rw[qda (d:=d+1) hlf _ _ (by omega) (by omega)];simp only[Option.bind_some,nth0,asL_l];rw[qda (d:=d+1) hlf _ _ (by rw[List.length_append];omega) (by omega)];simp only[Option.bind_some,nth0,asL_l,qei,List.append_assoc]) (λm b=>by
    rw[f83_1];unfold f83_1_s;simp only[nth0,nthS,asL_l];rw[iLt_f (by omega)];rfl) (n:=lf) (by omega) hb
  simp only[Option.bind_some,nth0,nthS,asL_l];rw[qas (d:=d+2) hlf _ _ (by simp only[List.length_append];omega)];simp only[Option.bind_some,nth0,asL_l];rw[L1 _ _ (by simp only[List.length_append];omega)];simp only[Option.bind_some,nth0,nthS,asL_l,qeg,List.append_assoc]
theorem qqt{lf d:Nat}(hlf:33554432<=lf)(i k n:Int)(dt es ats:List T)(he:es.length+tls es<=16777216)(ha:ats.length+tls ats<=16777216):Cc lf (d+5) 59 [.st [.i .i64 i,.i .i64 k,.i .i64 n,.sl dt,.sl es,.sl ats]]=some [.sl (bif qd2 i k n dt es ats then qeg i k n dt es ats else[])]:=by
 refine(f59_eq (Cc lf (d+4)) lf i k n dt es ats).trans ?_;unfold f59 f59_t;dsimp only;rw[qmi hlf i k n dt es ats he ha];simp only[Option.bind_some,nth0,asB_b];cases hm:qd2 i k n dt es ats with
 |false=>rfl
 |true=>
  obtain⟨hd,hel,hal⟩:=qii hm;obtain⟨hne,hna⟩:=qfm hm;have g:=qae (qa9 i);have h:=qae (qa9 k);have q:=qae (qa9 n);have c:=qbu (bytesOf dt);rw[qe3]at c;have v:=qae (qa9 (es.length:Int));have z:=qae (qa9 (ats.length:Int));have qE:∀x∈es,(prEnt x).length<=20:=λx hx=>qod (hne x hx);have qA:∀x∈ats,(qei x).length<=36:=λx hx=>qic (hna x hx).1 (hna x hx).2;have qF:=ql0 qE;have L0:∀b:List T,b.length<=2000->f59_0 (Cc lf (d+4)) lf dt es ats i k n lf 0 b=some [T.i .i64 0,T.i .i64 i,T.i .i64 k,T.i .i64 n,T.sl dt,T.sl es,T.sl ats,T.sl (b++flatT prEnt es)]:=λb hb=>
   qhb (F:=λm j b=>f59_0 (Cc lf (d+4)) lf dt es ats i k n m j b) (pr:=prEnt) (l:=es) (Y:=λb=>some [T.i .i64 0,T.i .i64 i,T.i .i64 k,T.i .i64 n,T.sl dt,T.sl es,T.sl ats,T.sl b]) (M:=20) (B:=2000) qE (λm j b hj hb=>by
    have hs:(asS (T.cell (es.getD j .u) 0)).size<=14:=by rw[List.getD_eq_getElem?_getD,List.getElem?_eq_getElem hj];exact hne _ (List.getElem_mem hj)
    have ht:=qbu (asS (T.cell (es.getD j .u) 0));rw[f59_0];unfold f59_0_s;rw[iLt_t (by omega),qa3 hj,qa4 hj (by omega)];simp only[qa2,Int.toNat_natCast];rw[qes (d:=d+1) hlf _ _ (by omega) (by omega)];simp only[Option.bind_some,nth0,asL_l];rw[qav (d:=d+2) hlf _ _ (by rw[List.length_append];omega)];simp only[Option.bind_some,nth0,asL_l,prEnt,List.append_assoc]) (λm b=>by
    rw[f59_0];unfold f59_0_s;rw[iLt_f (by omega)];rfl) (n:=lf) (by omega) hb
  simp only[Bool.not_true,qac,qa2];rw[qav (d:=d+2) hlf _ _ (by simp)];simp only[Option.bind_some,nth0,asL_l,List.nil_append];rw[qav (d:=d+2) hlf _ _ (by omega)];simp only[Option.bind_some,nth0,asL_l];rw[qav (d:=d+2) hlf _ _ (by simp only[List.length_append];omega)];simp only[Option.bind_some,nth0,asL_l];rw[qes (d:=d+1) hlf _ _ (by simp only[List.length_append];omega) (by rw[qe3];omega)];simp only[Option.bind_some,nth0,asL_l];rw[qav (d:=d+2) hlf _ _ (by simp only[List.length_append];omega)];simp only[Option.bind_some,nth0,asL_l];rw[L0 _ (by simp only[List.length_append];omega)];simp only[Option.bind_some,nth0,nthS,asL_l];rw[qqu (d:=d) hlf _ _ (by simp only[List.length_append];omega) (by omega) hna];simp only[Option.bind_some,nth0,nthS,asL_l,qeg,List.append_assoc]
def sameB(P:Nat->Bool)(c g:List T):Bool:=((c.length:Int)==(g.length:Int))&&allB P c.length
def byteE(c g:List T)(j:Nat):Bool:=asI (c.getD j T.u)==asI (g.getD j T.u)
def entE(c g:List T)(j:Nat):Bool:=(asS (T.cell (c.getD j T.u) 0)==asS (T.cell (g.getD j T.u) 0))&&((asI (T.cell (c.getD j T.u) 1)==asI (T.cell (g.getD j T.u) 1))&&true)
def attrE(c g:List T)(j:Nat):Bool:=(asS (T.cell (c.getD j T.u) 0)==asS (T.cell (g.getD j T.u) 0))&&((asS (T.cell (c.getD j T.u) 1)==asS (T.cell (g.getD j T.u) 1))&&true)
def qkr(z A n2:Int)(j k m:List T)(q v x:Int)(c g h:List T):Bool:=(z==q)&&((A==v)&&((n2==x)&&(sameB (byteE j c) j c&&(sameB (entE k g) k g&&sameB (attrE m h) m h))))
def inoAt(c g:List T)(j:Nat):Bool:=qkr (asI (T.cell (c.getD j T.u) 0)) (asI (T.cell (c.getD j T.u) 1)) (asI (T.cell (c.getD j T.u) 2)) (asL (T.cell (c.getD j T.u) 3)) (asL (T.cell (c.getD j T.u) 4)) (asL (T.cell (c.getD j T.u) 5)) (asI (T.cell (g.getD j T.u) 0)) (asI (T.cell (g.getD j T.u) 1)) (asI (T.cell (g.getD j T.u) 2)) (asL (T.cell (g.getD j T.u) 3)) (asL (T.cell (g.getD j T.u) 4)) (asL (T.cell (g.getD j T.u) 5))
def tabE(c:List T)(h:Int)(g:List T)(j:Int):Bool:=(h==j)&&sameB (inoAt c g) c g
def volE(v:Int)(A:ByteArray)(c:Bool)(x:Int)(j:List T)(z k:Int)(B:ByteArray)(g:Bool)(m:Int)(h:List T)(q:Int):Bool:=(v==k)&&((A.toList==B.toList)&&((c==g)&&((x==m)&&tabE j z h q)))
def volAt(c g:List T)(j:Nat):Bool:=volE (asI (T.cell (c.getD j T.u) 0)) (asS (T.cell (c.getD j T.u) 1)) (asB (T.cell (c.getD j T.u) 2)) (asI (T.cell (c.getD j T.u) 3)) (asL (T.cell (c.getD j T.u) 4)) (asI (T.cell (c.getD j T.u) 5)) (asI (T.cell (g.getD j T.u) 0)) (asS (T.cell (g.getD j T.u) 1)) (asB (T.cell (g.getD j T.u) 2)) (asI (T.cell (g.getD j T.u) 3)) (asL (T.cell (g.getD j T.u) 4)) (asI (T.cell (g.getD j T.u) 5))
def fsE(c:List T)(h:Int)(g:List T)(j:Int):Bool:=(h==j)&&sameB (volAt c g) c g
theorem qfl{c g:List T}(h:c.length=g.length):((c.length:Int)==(g.length:Int))=true:=by rw[beq_iff_eq];omega
theorem qg9{c g:List T}(h:¬c.length=g.length):((c.length:Int)==(g.length:Int))=false:=by rw[beq_eq_false_iff_ne,ne_eq];omega
theorem qmh{lf d:Nat}(hlf:33554432<=lf)(c g:List T)(hs:c.length<=16777216):Cc lf (d+1) 79 [.sl c,.sl g]=some [.b (sameB (byteE c g) c g)]:=by
 refine(f79_eq (Cc lf d) lf c g).trans ?_;unfold f79 f79_t sameB;dsimp only;by_cases h:c.length=g.length
 ·have L:=qag (F:=λn j=>f79_0 (Cc lf d) lf c g n j) (P:=byteE c g) (X:=some [T.i .i64 0,T.b false]) (Y:=some [T.i .i64 1]) (len:=c.length) (λn j hj=>by
   rw[f79_0];unfold f79_0_s byteE;rw[iLt_t (by omega),qa3 hj,qa3 (show j<g.length by omega),qa4 hj (by omega)];simp only[qa2,Int.toNat_natCast,bne,qap]) (λn=>by
   rw[f79_0];unfold f79_0_s;rw[iLt_f (by omega)];rfl) (n:=lf) (by omega)
  simp only[bne,qfl h,Bool.not_true,qac,Bool.true_and];rw[L];cases allB (byteE c g) c.length<;>rfl
 · simp only[bne,qg9 h];rfl
theorem qu2{lf d:Nat}(hlf:33554432<=lf)(c g:List T)(hs:c.length<=16777216):Cc lf (d+1) 198 [.sl c,.sl g]=some [.b (sameB (byteE c g) c g)]:=by
 refine(f198_eq (Cc lf d) lf c g).trans ?_;unfold f198 f198_t sameB;dsimp only;by_cases h:c.length=g.length
 ·have L:=qag (F:=λn j=>f198_0 (Cc lf d) lf c g n j) (P:=byteE c g) (X:=some [T.i .i64 0,T.b false]) (Y:=some [T.i .i64 1]) (len:=c.length) (λn j hj=>by
   rw[f198_0];unfold f198_0_s byteE;rw[iLt_t (by omega),qa3 hj,qa3 (show j<g.length by omega),qa4 hj (by omega)];simp only[qa2,Int.toNat_natCast,bne,qap]) (λn=>by
   rw[f198_0];unfold f198_0_s;rw[iLt_f (by omega)];rfl) (n:=lf) (by omega)
  simp only[bne,qfl h,Bool.not_true,qac,Bool.true_and];rw[L];cases allB (byteE c g) c.length<;>rfl
 · simp only[bne,qg9 h];rfl
theorem qww{lf d:Nat}(hlf:33554432<=lf)(c g:List T)(hs:c.length<=16777216):Cc lf (d+1) 199 [.sl c,.sl g]=some [.b (sameB (entE c g) c g)]:=by
 refine(f199_eq (Cc lf d) lf c g).trans ?_;unfold f199 f199_t sameB;dsimp only;by_cases h:c.length=g.length
 ·have L:=qag (F:=λn j=>f199_0 (Cc lf d) lf c g n j) (P:=entE c g) (X:=some [T.i .i64 0,T.b false]) (Y:=some [T.i .i64 1]) (len:=c.length) (λn j hj=>by
   rw[f199_0];unfold f199_0_s entE;rw[iLt_t (by omega),qa3 hj,qa3 (show j<g.length by omega),qa4 hj (by omega)];simp only[qa2,Int.toNat_natCast,bne,qap]) (λn=>by
   rw[f199_0];unfold f199_0_s;rw[iLt_f (by omega)];rfl) (n:=lf) (by omega)
  simp only[bne,qfl h,Bool.not_true,qac,Bool.true_and];rw[L];cases allB (entE c g) c.length<;>rfl
 · simp only[bne,qg9 h];rfl
theorem qu3{lf d:Nat}(hlf:33554432<=lf)(c g:List T)(hs:c.length<=16777216):Cc lf (d+1) 200 [.sl c,.sl g]=some [.b (sameB (attrE c g) c g)]:=by
 refine(f200_eq (Cc lf d) lf c g).trans ?_;unfold f200 f200_t sameB;dsimp only;by_cases h:c.length=g.length
 ·have L:=qag (F:=λn j=>f200_0 (Cc lf d) lf c g n j) (P:=attrE c g) (X:=some [T.i .i64 0,T.b false]) (Y:=some [T.i .i64 1]) (len:=c.length) (λn j hj=>by
   rw[f200_0];unfold f200_0_s attrE;rw[iLt_t (by omega),qa3 hj,qa3 (show j<g.length by omega),qa4 hj (by omega)];simp only[qa2,Int.toNat_natCast,bne,qap]) (λn=>by
   rw[f200_0];unfold f200_0_s;rw[iLt_f (by omega)];rfl) (n:=lf) (by omega)
  simp only[bne,qfl h,Bool.not_true,qac,Bool.true_and];rw[L];cases allB (attrE c g) c.length<;>rfl
 · simp only[bne,qg9 h];rfl
theorem qp6{lf d:Nat}(hlf:33554432<=lf)(z A n2:Int)(c g k:List T)(q v x:Int)(h j m:List T)(B:c.length<=16777216)(C:g.length<=16777216)(D:k.length<=16777216):Cc lf (d+2) 171 [.st [.i .i64 z,.i .i64 A,.i .i64 n2,.sl c,.sl g,.sl k],.st [.i .i64 q,.i .i64 v,.i .i64 x,.sl h,.sl j,.sl m]]=some [.b (qkr z A n2 c g k q v x h j m)]:=by refine(f171_eq (Cc lf (d+1)) lf z A n2 c g k q v x h j m).trans ?_;unfold f171 f171_t qkr;rw[qu2 hlf c h B,qww hlf g j C,qu3 hlf k m D];simp only[Option.bind_some,nth0,asB_b];cases z==q<;>cases A==v<;>cases n2==x<;>cases sameB (byteE c h) c h<;>cases sameB (entE g j) g j<;>rfl
theorem qp3{lf d:Nat}(hlf:33554432<=lf)(A B n2:Int)(m c g:List T)(v x z:Int)(q h k:List T)(E:m.length<=16777216)(G:c.length<=16777216)(H:g.length<=16777216):Cc lf (d+2) 156 [.st [.i .i64 A,.i .i64 B,.i .i64 n2,.sl m,.sl c,.sl g],.st [.i .i64 v,.i .i64 x,.i .i64 z,.sl q,.sl h,.sl k]]=some [.b (qkr A B n2 m c g v x z q h k)]:=by
 refine(f156_eq (Cc lf (d+1)) lf A B n2 m c g v x z q h k).trans ?_;unfold f156 f156_t qkr;dsimp only;rw[qmh hlf m q E];simp only[Option.bind_some,nth0,asB_b,bne];cases A==v with
 |false=>rfl
 |true=>
 cases B==x with
 |false=>rfl
 |true=>
 cases n2==z with
 |false=>rfl
 |true=>
 cases sameB (byteE m q) m q with
 |false=>rfl
 |true=>
 by_cases C:c.length=h.length
 ·by_cases D:g.length=k.length
  ·have L0:=qag (F:=λn j=>f156_0 (Cc lf (d+1)) lf m c g q h k A B n2 v x z n j) (P:=entE c h) (X:=some [T.i .i64 0,T.b false]) (Y:=some [T.i .i64 1,T.i .i64 A,T.i .i64 B,T.i .i64 n2,T.sl m,T.sl c,T.sl g,T.i .i64 v,T.i .i64 x,T.i .i64 z,T.sl q,T.sl h,T.sl k]) (len:=c.length) (λn j hj=>by
    rw[f156_0];unfold f156_0_s entE;rw[iLt_t (by omega),qa3 hj,qa3 (show j<h.length by omega),qa4 hj (by omega)];simp only[qa2,Int.toNat_natCast,qap]) (λn=>by
    rw[f156_0];unfold f156_0_s;rw[iLt_f (by omega)];rfl) (n:=lf) (by omega)
   have L1:=qag (F:=λn j=>f156_1 (Cc lf (d+1)) lf [T.i .i64 1,T.i .i64 A,T.i .i64 B,T.i .i64 n2,T.sl m,T.sl c,T.sl g,T.i .i64 v,T.i .i64 x,T.i .i64 z,T.sl q,T.sl h,T.sl k] n j) (P:=attrE g k) (X:=some [T.i .i64 0,T.b false]) (Y:=some [T.i .i64 1]) (len:=g.length) (λn j hj=>by
    rw[f156_1];unfold f156_1_s attrE;simp only[nth0,nthS,asL_l];rw[iLt_t (by omega),qa3 hj,qa3 (show j<k.length by omega),qa4 hj (by omega)];simp only[qa2,Int.toNat_natCast,qap]) (λn=>by
    rw[f156_1];unfold f156_1_s;simp only[nth0,nthS,asL_l];rw[iLt_f (by omega)];rfl) (n:=lf) (by omega)
   unfold sameB;simp only[qfl C,qfl D,Bool.not_true,qac,Bool.true_and];rw[L0];cases allB (entE c h) c.length with
   |false=>rfl
   |true=>simp only[qa2,Option.bind_some,nth0,asI_i,show((1:Int)==0)=false from rfl,qac];rw[L1];cases allB (attrE g k) g.length<;>rfl
  · unfold sameB;simp only[qg9 D,qfl C,Bool.not_true,Bool.not_false,qac,qa2,Bool.false_and,Bool.and_false]
 · unfold sameB;simp only[qg9 C,Bool.not_false,Bool.not_true,qa2,qac,Bool.false_and,Bool.and_false]
theorem qg2{l:List T}{j:Nat}(hs:l.length+tls l<=16777216)(k:Nat):(asL (T.cell (l.getD j T.u) k)).length<=16777216:=by have:=qb4 (l:=l) (j:=j) k;omega
theorem qtp{lf d:Nat}(hlf:33554432<=lf)(c:List T)(k:Int)(g:List T)(m:Int)(hs:c.length+tls c<=16777216):Cc lf (d+3) 123 [.st [.sl c,.i .i64 k],.st [.sl g,.i .i64 m]]=some [.b (tabE c k g m)]:=by
 refine(f123_eq (Cc lf (d+2)) lf c k g m).trans ?_;unfold f123 f123_t tabE sameB;dsimp only;simp only[bne];cases k==m with
 |false=>rfl
 |true=>
 by_cases h:c.length=g.length
 ·have L:=qag (F:=λn j=>f123_0 (Cc lf (d+2)) lf c g k m n j) (P:=inoAt c g) (X:=some [T.i .i64 0,T.b false]) (Y:=some [T.i .i64 1]) (len:=c.length) (λn j hj=>by
   rw[f123_0];unfold f123_0_s inoAt;rw[iLt_t (by omega),qa3 hj,qa3 (show j<g.length by omega),qa4 hj (by omega),Int.toNat_natCast,qp3 hlf _ _ _ _ _ _ _ _ _ _ _ _ (qg2 hs 3) (qg2 hs 4) (qg2 hs 5)];simp only[qa2,Option.bind_some,nth0,asB_b,qap]) (λn=>by
   rw[f123_0];unfold f123_0_s;rw[iLt_f (by omega)];rfl) (n:=lf) (by omega)
  simp only[qfl h,Bool.not_true,qac,Bool.true_and];rw[L];cases allB (inoAt c g) c.length<;>rfl
 · simp only[qg9 h];rfl
theorem qtx{lf d:Nat}(hlf:33554432<=lf)(c:List T)(k:Int)(g:List T)(m:Int)(hs:c.length+tls c<=16777216):Cc lf (d+3) 139 [.st [.sl c,.i .i64 k],.st [.sl g,.i .i64 m]]=some [.b (tabE c k g m)]:=by
 refine(f139_eq (Cc lf (d+2)) lf c k g m).trans ?_;unfold f139 f139_t tabE sameB;dsimp only;simp only[bne];cases k==m with
 |false=>rfl
 |true=>
 by_cases h:c.length=g.length
 ·have L:=qag (F:=λn j=>f139_0 (Cc lf (d+2)) lf c g n j) (P:=inoAt c g) (X:=some [T.i .i64 0,T.b false]) (Y:=some [T.i .i64 1]) (len:=c.length) (λn j hj=>by
   rw[f139_0];unfold f139_0_s inoAt;rw[iLt_t (by omega),qa3 hj,qa3 (show j<g.length by omega),qa4 hj (by omega),Int.toNat_natCast,qp6 hlf _ _ _ _ _ _ _ _ _ _ _ _ (qg2 hs 3) (qg2 hs 4) (qg2 hs 5)];simp only[qa2,Option.bind_some,nth0,asB_b,qap]) (λn=>by
   rw[f139_0];unfold f139_0_s;rw[iLt_f (by omega)];rfl) (n:=lf) (by omega)
  simp only[qfl h,Bool.not_true,qac,qa2,Bool.true_and];rw[L];cases allB (inoAt c g) c.length<;>rfl
 · simp only[qg9 h];rfl
theorem tlV{l:List T}{j:Nat}(hs:l.length+tls l<=16777216)(k:Nat):(asL (T.cell (l.getD j T.u) k)).length+tls (asL (T.cell (l.getD j T.u) k))<=16777216:=by have:=qb4 (l:=l) (j:=j) k;omega
theorem qtw{lf d:Nat}(hlf:33554432<=lf)(v:Int)(A:ByteArray)(g:Bool)(x:Int)(c:List T)(z:Int)(k:Int)(B:ByteArray)(h:Bool)(m:Int)(j:List T)(q:Int)(hs:c.length+tls c<=16777216):Cc lf (d+4) 138 [.st [.i .i64 v,.s A,.b g,.i .i64 x,.sl c,.i .i64 z],.st [.i .i64 k,.s B,.b h,.i .i64 m,.sl j,.i .i64 q]]=some [.b (volE v A g x c z k B h m j q)]:=by refine(f138_eq (Cc lf (d+3)) lf v A g x c z k B h m j q).trans ?_;unfold f138 f138_t volE;rw[qtx hlf c z j q hs];simp only[Option.bind_some,nth0,asB_b];cases v==k<;>cases A.toList==B.toList<;>cases g==h<;>cases x==m<;>rfl
theorem qwr{lf d:Nat}(hlf:33554432<=lf)(c:List T)(k:Int)(g:List T)(m:Int)(hs:c.length+tls c<=16777216):Cc lf (d+5) 97 [.st [.sl c,.i .i64 k],.st [.sl g,.i .i64 m]]=some [.b (fsE c k g m)]:=by
 refine(f97_eq (Cc lf (d+4)) lf c k g m).trans ?_;unfold f97 f97_t fsE sameB;dsimp only;simp only[bne];cases k==m with
 |false=>rfl
 |true=>
 by_cases h:c.length=g.length
 ·have L:=qag (F:=λn j=>f97_0 (Cc lf (d+4)) lf c g n j) (P:=volAt c g) (X:=some [T.i .i64 0,T.b false]) (Y:=some [T.i .i64 1]) (len:=c.length) (λn j hj=>by
   rw[f97_0];unfold f97_0_s volAt;rw[iLt_t (by omega),qa3 hj,qa3 (show j<g.length by omega),qa4 hj (by omega),Int.toNat_natCast,qtw hlf _ _ _ _ _ _ _ _ _ _ _ _ (tlV hs 4)];simp only[qa2,Option.bind_some,nth0,asB_b,qap]) (λn=>by
   rw[f97_0];unfold f97_0_s;rw[iLt_f (by omega)];rfl) (n:=lf) (by omega)
  simp only[qfl h,Bool.not_true,qac,qa2,Bool.true_and];rw[L];cases allB (volAt c g) c.length<;>rfl
 · simp only[qg9 h];rfl
theorem qwh{lf d:Nat}(hlf:33554432<=lf)(c:List T)(k:Int)(g:List T)(m:Int)(hs:c.length+tls c<=16777216):Cc lf (d+4) 76 [.st [.sl c,.i .i64 k],.st [.sl g,.i .i64 m]]=some [.b (fsE c k g m)]:=by
 refine(f76_eq (Cc lf (d+3)) lf c k g m).trans ?_;unfold f76 f76_t fsE sameB;dsimp only;simp only[bne];cases k==m with
 |false=>rfl
 |true=>
 by_cases h:c.length=g.length
 ·have L:=qag (F:=λn j=>f76_0 (Cc lf (d+3)) lf c g k m n j) (P:=volAt c g) (X:=some [T.i .i64 0,T.b false]) (Y:=some [T.i .i64 1]) (len:=c.length) (λn j hj=>by
   rw[f76_0];unfold f76_0_s volAt volE;rw[iLt_t (by omega),qa3 hj,qa3 (show j<g.length by omega),qa4 hj (by omega),Int.toNat_natCast,qtp hlf _ _ _ _ (tlV hs 4)];simp only[qa2,Option.bind_some,nth0,asB_b,bne,qap,qc6]) (λn=>by
   rw[f76_0];unfold f76_0_s;rw[iLt_f (by omega)];rfl) (n:=lf) (by omega)
  simp only[qfl h,Bool.not_true,qac,Bool.true_and];rw[L];cases allB (volAt c g) c.length<;>rfl
 · simp only[qg9 h];rfl
theorem c_index{lf d:Nat}(hlf:33554432<=lf)(ns:List Int)(n:Int)(hs:ns.length<=16777216):∃r,Cc lf (d+1) 161 [.sl (IL ns),.i .i64 n]=some [.i .i64 r]/\iLe 0 r=decide (n∈ns):=by
 have E:=f161_eq (Cc lf d) lf (IL ns) n;unfold f161 f161_t at E;dsimp only at E;rcases qfr (F:=λm j=>f161_0 (Cc lf d) lf (IL ns) n m j) (P:=λj=>!(n==ns.getD j 0)) (X:=λj=>some [T.i .i64 0,T.i .i64 (j:Int)]) (Y:=some [T.i .i64 1]) (len:=ns.length) (λm j hj=>by
  rw[f161_0];unfold f161_0_s;rw[iLt_t (by rw[qcl];omega),qa3 (by rw[qcl];exact hj),Int.toNat_natCast,IL_at hj,qa4 hj (by omega)];simp only[asI_i,qa2];cases n==ns.getD j 0<;>rfl) (λm=>by
  rw[f161_0];unfold f161_0_s;rw[iLt_f (by rw[qcl];omega)];rfl) (n:=lf) (by omega)with⟨h,e⟩|⟨_,j,hj,h,e⟩
 · rw[e]at E;refine⟨-1,E,?_⟩;rw[iLe_f (by omega)];symm;refine decide_eq_false λhm=>?_;obtain⟨j,hj,e⟩:=List.getElem_of_mem hm;have:=qal.1 h j hj;rw[qvy hj,e]at this;simp at this
 ·rw[e]at E;refine⟨(j:Int),E,?_⟩;rw[iLe_t (by omega)];symm;refine decide_eq_true ?_;rw[qvy hj]at h;cases e:n==ns[j]with
  |false=>rw[e]at h;cases h
  |true=>rw[beq_iff_eq.1 e];exact List.getElem_mem hj
theorem qu4{lf d:Nat}(hlf:33554432<=lf)(ns:List Int)(n:Int)(hs:ns.length<=16777216):Cc lf (d+2) 131 [.sl (IL ns),.i .i64 n]=some [.b (decide (n∈ns))]:=by refine(f131_eq (Cc lf (d+1)) lf (IL ns) n).trans ?_;unfold f131 f131_t;obtain⟨r,e,h⟩:=c_index (d:=d) hlf ns n hs;rw[e];show some [T.b (iLe 0 r)]=_;rw[h]
def fstI(p:Nat->Bool)(n:Nat):Option Nat:=(List.range n).find? p
theorem qkx{p:Nat->Bool}{n i:Nat}:fstI p n=some i↔p i=true/\i<n/\∀j,j<i->p j=false:=by unfold fstI;rw[List.find?_range_eq_some];simp
theorem qky{p:Nat->Bool}{n:Nat}:fstI p n=none↔∀j,j<n->p j=false:=by unfold fstI;simp
theorem qfz{F:Nat->Int->Option (List T)}{p:Nat->Bool}{X:Nat->Option (List T)}{Y:Option (List T)}{len:Nat}(hF:∀n(j:Nat),j<len->F (n+1) (j:Int)=bif p j then X j else F n ((j+1:Nat):Int))(hE:∀n,F (n+1) (len:Int)=Y){n:Nat}(hn:len<n):F n 0=match fstI p len with|some j=>X j|none=>Y:=by
 have key:∀(k j n:Nat),j+k=len->k<n->(∀i,i<j->p i=false)->F n (j:Int)=match fstI p len with|some j=>X j|none=>Y:=by
  intro k;induction k with
  |zero=>
   intro j n hj hn h;obtain⟨n,rfl⟩:∃z,n=z+1:=⟨n-1,by omega⟩;obtain rfl:j=len:=by omega
   rw[hE,qky.2 h]
  |succ k ih=>
   intro j n hj hn h;obtain⟨n,rfl⟩:∃z,n=z+1:=⟨n-1,by omega⟩;rw[hF n j (by omega)];cases e:p j with
   |true=>rw[qkx.2 ⟨e,by omega,h⟩];rfl
   |false=>
    refine ih (j+1) n (by omega) (by omega) λi hi=>?_;by_cases c:i=j;· rw[c];exact e
    · exact h i (by omega)
 exact key len 0 n (by omega) hn (λi hi=>by omega)
def inoA(l:List T)(i:Nat):Int:=asI (T.cell (l.getD i T.u) 0)
def kndA(l:List T)(i:Nat):Int:=asI (T.cell (l.getD i T.u) 1)
def lnkA(l:List T)(i:Nat):Int:=asI (T.cell (l.getD i T.u) 2)
def datA(l:List T)(i:Nat):List T:=asL (T.cell (l.getD i T.u) 3)
def entA(l:List T)(i:Nat):List T:=asL (T.cell (l.getD i T.u) 4)
def atrA(l:List T)(i:Nat):List T:=asL (T.cell (l.getD i T.u) 5)
def inoT(l:List T)(i:Nat):T:=.st [.i .i64 (inoA l i),.i .i64 (kndA l i),.i .i64 (lnkA l i),.sl (datA l i),.sl (entA l i),.sl (atrA l i)]
def inoZ:T:=.st [.i .i64 0,.i .i64 0,.i .i64 0,.sl [],.sl [],.sl []]
def plc(l:List T)(n:Int):Option Nat:=fstI (λi=>inoA l i==n) l.length
def plcI:Option Nat->Int|some j=>(j:Int)|none=> -1
def inoR:List T->Option Nat->List T
|l,some j=>[inoT l j,.b true]
|_,none=>[inoZ,.b false]
theorem qro{l:List T}{n:Int}{j:Nat}(h:plc l n=some j):j<l.length/\inoA l j=n:=by have:=qkx.1 h;exact⟨this.2.1,by simpa using this.1⟩
theorem c_sAt{lf d:Nat}(hlf:33554432<=lf)(l:List T)(nx n:Int)(hs:l.length<=16777216):Cc lf (d+1) 72 [.st [.sl l,.i .i64 nx],.i .i64 n]=some [.i .i64 (plcI (plc l n))]:=by
 have E:=f72_eq (Cc lf d) lf l nx n;unfold f72 f72_t at E;dsimp only at E;rw[qfz (F:=λm j=>f72_0 (Cc lf d) lf l n nx m j) (p:=λi=>inoA l i==n) (X:=λj=>some [.i .i64 0,.i .i64 (j:Int)]) (Y:=some [.i .i64 1]) (len:=l.length) (λm j hj=>by
  rw[f72_0];unfold f72_0_s inoA;rw[iLt_t (by omega),qa3 hj,qa4 hj (by omega)];simp only[qa2,Int.toNat_natCast]) (λm=>by
  rw[f72_0];unfold f72_0_s;rw[iLt_f (by omega)];rfl) (n:=lf) (by omega)]at E
 unfold plc;cases e:fstI (λi=>inoA l i==n) l.length with
 |none=>rw[e]at E;exact E
 |some j=>rw[e]at E;exact E
theorem qso{lf d:Nat}(hlf:33554432<=lf)(l:List T)(nx n:Int)(hs:l.length<=16777216):Cc lf (d+1) 94 [.st [.sl l,.i .i64 nx],.i .i64 n]=some [.i .i64 (plcI (plc l n))]:=by
 have E:=f94_eq (Cc lf d) lf l nx n;unfold f94 f94_t at E;dsimp only at E;rw[qfz (F:=λm j=>f94_0 (Cc lf d) lf l n m j) (p:=λi=>inoA l i==n) (X:=λj=>some [.i .i64 0,.i .i64 (j:Int),.i .i64 n]) (Y:=some [.i .i64 1,.i .i64 n]) (len:=l.length) (λm j hj=>by
  rw[f94_0];unfold f94_0_s inoA;rw[iLt_t (by omega),qa3 hj,qa4 hj (by omega)];simp only[qa2,Int.toNat_natCast]) (λm=>by
  rw[f94_0];unfold f94_0_s;rw[iLt_f (by omega)];rfl) (n:=lf) (by omega)]at E
 unfold plc;cases e:fstI (λi=>inoA l i==n) l.length with
 |none=>rw[e]at E;exact E
 |some j=>rw[e]at E;exact E
theorem qz7{lf d:Nat}{l:List T}(h:l.length<=1073741830):Cc lf (d+1) 182 [.sl l]=some [.sl l]:=by show(bif nLe (0+l.length) LIM then some [T.sl l]else none)=_;rw[nLe_t (by unfold LIM;omega)];rfl
theorem qz8{lf d:Nat}{l:List T}(h:l.length<=1073741830):Cc lf (d+1) 183 [.sl l]=some [.sl l]:=by show(bif nLe (0+l.length) LIM then some [T.sl l]else none)=_;rw[nLe_t (by unfold LIM;omega)];rfl
theorem qu1{lf d:Nat}(a b c:Int)(x y z:List T)(hx:x.length<=16777216)(hy:y.length<=16777216)(hz:z.length<=16777216):Cc lf (d+2) 160 [.st [.i .i64 a,.i .i64 b,.i .i64 c,.sl x,.sl y,.sl z]]=some [.st [.i .i64 a,.i .i64 b,.i .i64 c,.sl x,.sl y,.sl z]]:=by refine(f160_eq (Cc lf (d+1)) lf a b c x y z).trans ?_;unfold f160 f160_t;rw[qnt (by omega),qz7 (by omega),qz8 (by omega)];rfl
theorem qtu{lf d:Nat}(a b c:Int)(x y z:List T)(hx:x.length<=16777216)(hy:y.length<=16777216)(hz:z.length<=16777216):Cc lf (d+1) 178 [.st [.i .i64 a,.i .i64 b,.i .i64 c,.sl x,.sl y,.sl z]]=some [.st [.i .i64 a,.i .i64 b,.i .i64 c,.sl x,.sl y,.sl z]]:=by refine(f178_eq (Cc lf d) lf a b c x y z).trans ?_;unfold f178 f178_t;rw[nLe_t (by unfold LIM;simp;omega),nLe_t (by unfold LIM;simp;omega),nLe_t (by unfold LIM;simp;omega)];rfl
theorem qim{l:List T}(hs:l.length+tls l<=16777216)(j k:Nat):(asL (T.cell (l.getD j T.u) k)).length<=16777216:=by have:=qb4 (l:=l) (j:=j) k;omega
theorem qjd(o:Option Nat):iLt (plcI o) 0=o.isNone:=by
 cases o with
 |none=>rfl
 |some j=>exact iLt_f (by simp only[plcI];omega)
theorem qxt(o:Option Nat):iLe 0 (plcI o)=o.isSome:=by
 cases o with
 |none=>rfl
 |some j=>exact iLe_t (by simp only[plcI];omega)
theorem qtr{lf d:Nat}(hlf:33554432<=lf)(l:List T)(nx n:Int)(hs:l.length+tls l<=16777216):Cc lf (d+2) 152 [.st [.sl l,.i .i64 nx],.i .i64 n]=some (inoR l (plc l n)):=by
 have E:=f152_eq (Cc lf (d+1)) lf l nx n;unfold f152 f152_t at E;rw[c_sAt hlf l nx n (by omega)]at E;simp only[Option.bind_some,nth0,asI_i]at E;rw[qjd]at E;cases e:plc l n with
 |none=>rw[e]at E;exact E
 |some j=>rw[e]at E;obtain⟨hj,_⟩:=qro e;simp only[Option.isNone_some,qac,plcI,Int.toNat_natCast]at E;rw[qa3 hj,qtu _ _ _ _ _ _ (qim hs _ _) (qim hs _ _) (qim hs _ _)]at E;exact E
theorem qmj{lf d:Nat}(hlf:33554432<=lf)(l:List T)(nx n:Int)(hs:l.length+tls l<=16777216):Cc lf (d+3) 130 [.st [.sl l,.i .i64 nx],.i .i64 n]=some (inoR l (plc l n)):=by
 have E:=f130_eq (Cc lf (d+2)) lf l nx n;unfold f130 f130_t at E;rw[qso (d:=d+1) hlf l nx n (by omega)]at E;simp only[Option.bind_some,nth0,asI_i]at E;rw[qjd]at E;cases e:plc l n with
 |none=>rw[e]at E;exact E
 |some j=>rw[e]at E;obtain⟨hj,_⟩:=qro e;simp only[Option.isNone_some,qac,plcI,Int.toNat_natCast]at E;rw[qa3 hj,qu1 _ _ _ _ _ _ (qim hs _ _) (qim hs _ _) (qim hs _ _)]at E;exact E
def qem(l:List T)(i:Nat):Bool:=qd2 (inoA l i) (kndA l i) (lnkA l i) (datA l i) (entA l i) (atrA l i)
def tbE(l:List T)(nx:Int)(i:Nat):Bool:=qem l i&&(!iLe nx (inoA l i)&&(!iLt 0 (i:Int)||!iLe (inoA l i) (inoA l (i-1))))
def tabB(l:List T)(nx:Int):Bool:=(iLe 1 (l.length:Int)&&iLe (l.length:Int) 30)&&((iLe 2 nx&&iLe nx 1000)&&(allB (tbE l nx) l.length&&(inoA l 0==1&&kndA l 0==2)))
theorem qj9{l:List T}{nx:Int}(h:allB (tbE l nx) l.length=true):∀(k i:Nat),i+k<l.length->0<k->inoA l i<inoA l (i+k)
|0,i,_,h0=>by omega
|k+1,i,hi,_=>by
 have e:=qal.1 h (i+(k+1)) hi;unfold tbE at e;simp only[Bool.and_eq_true,Bool.or_eq_true,Bool.not_eq_true']at e;have g:inoA l (i+k)<inoA l (i+(k+1)):=by
  rcases e.2.2 with c|c
  · rw[iLt_t (by omega)]at c;cases c
  · have:=mt qb8.2 (by rw[c];simp);simpa using this
 by_cases c:k=0;· subst c;exact g
 · have:=qj9 h k i (by omega) (by omega);omega
theorem tab_inj{l:List T}{nx:Int}(h:allB (tbE l nx) l.length=true){i j:Nat}(hi:i<l.length)(hj:j<l.length)(e:inoA l i=inoA l j):i=j:=by
 rcases Nat.lt_trichotomy i j with c|c|c
 · have:=qj9 h (j-i) i (by omega) (by omega);rw[show i+(j-i)=j by omega]at this;omega
 · exact c
 · have:=qj9 h (i-j) j (by omega) (by omega);rw[show j+(i-j)=i by omega]at this;omega
theorem ino_ok1{l:List T}{i:Nat}(h:qem l i=true):1<=inoA l i/\inoA l i<=1000:=by unfold qem qd2 at h;simp only[Bool.and_eq_true,qb8]at h;exact h.1
theorem qzl{l:List T}{nx:Int}(h:allB (tbE l nx) l.length=true){i:Nat}(hi:i<l.length):qem l i=true:=by have e:=qal.1 h i hi;unfold tbE at e;rw[Bool.and_eq_true]at e;exact e.1
theorem qra{C:Orc}{g:Nat}{F:Nat->Int->Option (List T)}{l:List T}{nx:Int}(hC:∀i,i<l.length->C g [inoT l i]=some [.b (qem l i)])(hF:∀n(j:Nat),j<l.length->F (n+1) (j:Int)=((C g [inoT l j]).bind λr=>bif !(asB (nth r 0))then some [T.i .i64 0,T.b false]else bif iLe nx (inoA l j)then some [T.i .i64 0,T.b false]else bif iLt 0 (j:Int)then bif inR (IntKind.wrap .i64 ((j:Int)-1)) l.length then bif iLe (inoA l j) (inoA l (IntKind.wrap .i64 ((j:Int)-1)).toNat)then some [T.i .i64 0,T.b false]else F n (IntKind.wrap .i64 ((j:Int)+1))else none else F n (IntKind.wrap .i64 ((j:Int)+1))))(hE:∀n,F (n+1) (l.length:Int)=some [T.i .i64 1,T.sl l,T.i .i64 nx])(hs:l.length<=16777216){n:Nat}(hn:l.length<n):F n 0=bif allB (tbE l nx) l.length then some [T.i .i64 1,T.sl l,T.i .i64 nx]else some [T.i .i64 0,T.b false]:=
 qag (λn j hj=>by
  rw[hF n j hj,hC j hj,qa4 hj (by omega)];simp only[Option.bind_some,nth0,asB_b];unfold tbE;cases qem l j with
  |false=>rfl
  |true=>
   cases iLe nx (inoA l j)with
   |true=>rfl
   |false=>
    by_cases c:0<j;· rw[iLt_t (by omega),qab (x:=(j:Int)-1) (by omega) (by omega),show((j:Int)-1)=((j-1:Nat):Int)by omega,qa3 (show j-1<l.length by omega),Int.toNat_natCast];cases iLe (inoA l j) (inoA l (j-1))<;>rfl
    · rw[iLt_f (by omega)];rfl) hE hn
theorem qup(C:Orc){lf:Nat}(hlf:33554432<=lf)(l:List T)(nx:Int)(hs:l.length<=16777216)(hC:∀i,i<l.length->C 116 [inoT l i]=some [.b (qem l i)]):f69_0 C lf l nx lf 0=bif allB (tbE l nx) l.length then some [T.i .i64 1,T.sl l,T.i .i64 nx]else some [T.i .i64 0,T.b false]:=
 qra (F:=λn j=>f69_0 C lf l nx n j) hC (λn j hj=>by
  rw[f69_0];unfold f69_0_s;rw[iLt_t (by omega),qa3 hj];simp only[Int.toNat_natCast];rfl) (λn=>by
  rw[f69_0];unfold f69_0_s;rw[iLt_f (by omega)];rfl) hs (show l.length<lf by omega)
theorem qyo{lf d:Nat}(hlf:33554432<=lf)(l:List T)(nx:Int)(hs:l.length+tls l<=16777216):Cc lf (d+5) 69 [.st [.sl l,.i .i64 nx]]=some [.b (tabB l nx)]:=by
 have hC:∀i,i<l.length->Cc lf (d+4) 116 [inoT l i]=some [.b (qem l i)]:=λi _=>qmg hlf _ _ _ _ _ _ (by have:=qb4 (l:=l) (j:=i) 4;unfold entA;omega) (by have:=qb4 (l:=l) (j:=i) 5;unfold atrA;omega);have E:=f69_eq (Cc lf (d+4)) lf l nx;unfold f69 f69_t at E;rw[qcq,qcq]at E;simp only[Option.bind_some,nth0,asB_b]at E;rw[qup (Cc lf (d+4)) hlf l nx (by omega) hC]at E;refine E.trans ?_;unfold tabB;by_cases c:1<=l.length
 ·rw[iLe_t (show(1:Int)<=(l.length:Int)by omega)];generalize iLe (l.length:Int) 30=g;generalize(iLe 2 nx&&iLe nx 1000)=h;cases allB (tbE l nx) l.length with
  |false=>cases g<;>cases h<;>rfl
  |true=>simp only[qa2,Option.bind_some,nth0,nthS,asI_i,asL_l];have h0:=qa3 (show 0<l.length from c);rw[show((0:Nat):Int)=0 from rfl]at h0;rw[h0];unfold inoA kndA;cases(asI (T.cell (l.getD 0 T.u) 0)==1)<;>cases g<;>cases h<;>rfl
 · rw[iLe_f (show¬(1:Int)<=(l.length:Int)by omega)];rfl
theorem qvw(C:Orc){lf:Nat}(hlf:33554432<=lf)(l:List T)(nx:Int)(hs:l.length<=16777216)(hC:∀i,i<l.length->C 105 [inoT l i]=some [.b (qem l i)]):f91_0 C lf l nx lf 0=bif allB (tbE l nx) l.length then some [T.i .i64 1,T.sl l,T.i .i64 nx]else some [T.i .i64 0,T.b false]:=
 qra (F:=λn j=>f91_0 C lf l nx n j) hC (λn j hj=>by
  rw[f91_0];unfold f91_0_s;rw[iLt_t (by omega),qa3 hj];simp only[Int.toNat_natCast];rfl) (λn=>by
  rw[f91_0];unfold f91_0_s;rw[iLt_f (by omega)];rfl) hs (show l.length<lf by omega)
theorem qyz{lf d:Nat}(hlf:33554432<=lf)(l:List T)(nx:Int)(hs:l.length+tls l<=16777216):Cc lf (d+5) 91 [.st [.sl l,.i .i64 nx]]=some [.b (tabB l nx)]:=by
 have hC:∀i,i<l.length->Cc lf (d+4) 105 [inoT l i]=some [.b (qem l i)]:=λi _=>qmi hlf _ _ _ _ _ _ (by have:=qb4 (l:=l) (j:=i) 4;unfold entA;omega) (by have:=qb4 (l:=l) (j:=i) 5;unfold atrA;omega);have E:=f91_eq (Cc lf (d+4)) lf l nx;unfold f91 f91_t at E;rw[qcb]at E;simp only[Option.bind_some,nth0,asB_b]at E;rw[qvw (Cc lf (d+4)) hlf l nx (by omega) hC]at E;refine E.trans ?_;unfold tabB;by_cases v:l.length<=30;case neg=>rw[iLt_t (show(30:Int)<(l.length:Int)by omega),iLe_f (show¬(l.length:Int)<=30 by omega),Bool.and_false];rfl
 rw[iLt_f (show¬(30:Int)<(l.length:Int)by omega),iLe_t (show(l.length:Int)<=30 by omega)];generalize(iLe 2 nx&&iLe nx 1000)=g;cases hA:allB (tbE l nx) l.length with
 |false=>cases g<;>cases iLe 1 (l.length:Int)<;>rfl
 |true=>
  simp only[qa2,qac,Option.bind_some,nth0,nthS,asI_i,asL_l];rw[qmj (d:=d+1) hlf l nx 1 hs];by_cases c:1<=l.length
  ·rw[iLe_t (show(1:Int)<=(l.length:Int)by omega)];cases e:plc l 1 with
   |none=>have:=qky.1 e 0 (by omega);rw[show(inoA l 0==1)=false from this];cases g<;>rfl
   |some j=>
    obtain⟨hj,k⟩:=qro e;have h:j=0:=by
     by_cases m:j=0;· exact m
     · have q:=qj9 hA j 0 (by omega) (by omega);rw[Nat.zero_add]at q;have h2:=ino_ok1 (qzl hA (show 0<l.length by omega));omega
    subst h;rw[k];simp only[inoR,Option.bind_some,nthS,nth0,asB_b,qa2];cases g<;>rfl
  ·rw[iLe_f (show¬(1:Int)<=(l.length:Int)by omega)];have:plc l 1=none:=qky.2 λj hj=>by omega
   rw[this];cases g<;>rfl
def entI(E:List T)(k:Nat):Int:=asI (T.cell (E.getD k T.u) 1)
def isN(l:List T)(x:Int):Prop:=∃j,plc l x=some j
def ed(l:List T)(x y:Int):Prop:=∃j,plc l x=some j/\kndA l j=2/\∃k,k<(entA l j).length/\entI (entA l j) k=y
inductive Rch(l:List T):Int->Prop
|root (h:isN l 1):Rch l 1
|step (x y:Int) (h:Rch l x) (e:ed l x y) (hy:isN l y):Rch l y
theorem Rch.node{l:List T}{x:Int}(h:Rch l x):isN l x:=by
 cases h with
 |root h=>exact h
 |step x y h e hy=>exact hy
theorem qh3:∀(A:List Int){B:List Int},A.Nodup->(∀x∈A,x∈B)->A.length<=B.length
|[],_,_,_=>Nat.zero_le _
|a::A,B,hn,h=>by
 have hn':=List.nodup_cons.1 hn;have:=qh3 A (B:=B.erase a) hn'.2 λx hx=>by have hxa:x≠a:=λe=>hn'.1 (e▸hx);exact(List.mem_erase_of_ne hxa).2 (h x (by simp[hx]))
 have e:=List.length_erase_of_mem (h a (by simp));have:0<B.length:=List.length_pos_of_mem (h a (by simp));simp only[List.length_cons];omega
def inos(l:List T):List Int:=(List.range l.length).map (inoA l)
theorem qs8{l:List T}{x:Int}(h:isN l x):x∈inos l:=by obtain⟨j,h⟩:=h;obtain⟨c,h2⟩:=qro h;exact List.mem_map.2 ⟨j,List.mem_range.2 c,h2⟩
theorem qcz{l:List T}{O:List Int}(hn:O.Nodup)(h:∀x∈O,isN l x):O.length<=l.length:=by have:=qh3 O hn (B:=inos l) λx hx=>qs8 (h x hx);simpa[inos]using this
theorem c_sHas{lf d:Nat}(hlf:33554432<=lf)(ns:List Int)(n:Int)(hs:ns.length<=16777216):Cc lf (d+1) 179 [.sl (IL ns),.i .i64 n]=some [.b (decide (n∈ns))]:=by
 have E:=f179_eq (Cc lf d) lf (IL ns) n;unfold f179 f179_t at E;dsimp only at E;refine E.trans ?_;rcases qfr (F:=λm j=>f179_0 (Cc lf d) lf (IL ns) n m j) (P:=λj=>!(ns.getD j 0==n)) (X:=λj=>some [T.i .i64 0,T.b true]) (Y:=some [T.i .i64 1]) (len:=ns.length) (λm j hj=>by
  rw[f179_0];unfold f179_0_s;rw[iLt_t (by rw[qcl];omega),qa3 (by rw[qcl];exact hj),Int.toNat_natCast,IL_at hj,qa4 hj (by omega)];simp only[asI_i,qa2];cases ns.getD j 0==n<;>rfl) (λm=>by
  rw[f179_0];unfold f179_0_s;rw[iLt_f (by rw[qcl];omega)];rfl) (n:=lf) (by omega)with⟨h,e⟩|⟨_,j,hj,h,e⟩
 ·rw[e];have:¬n∈ns:=λhm=>by obtain⟨j,hj,e⟩:=List.getElem_of_mem hm;have:=qal.1 h j hj;rw[List.getD_eq_getElem?_getD,List.getElem?_eq_getElem hj]at this;simp[e]at this
  rw[decide_eq_false this];rfl
 ·rw[e];have:n∈ns:=by
   rw[List.getD_eq_getElem?_getD,List.getElem?_eq_getElem hj]at h;have:ns[j]=n:=by simpa using h
   rw[<-this];exact List.getElem_mem hj
  rw[decide_eq_true this];rfl
theorem quw{S:List Int}{k:Nat}(hk:k<=S.length)(j x:Int):(S.take k++j::S.drop k).set k x=S.take k++x::S.drop k:=by rw[List.set_append_right _ _ (by rw[List.length_take];omega)];rw[List.length_take,Nat.min_eq_left hk,Nat.sub_self];rfl
theorem qgy{S:List Int}{k:Nat}(hk:k<S.length):S.take (k+1)++S.getD k 0::S.drop (k+1)=S.take k++S.getD k 0::S.drop k:=by rw[List.getD_eq_getElem?_getD,List.getElem?_eq_getElem hk];simp only[Option.getD_some];have e:=List.drop_eq_getElem_cons hk;rw[List.take_succ_eq_append_getElem hk,e,List.append_assoc];rfl
theorem put_at{S:List Int}{k:Nat}(hk:k<S.length)(j:Int):(S.take (k+1)++j::S.drop (k+1)).getD k 0=S.getD k 0:=by rw[List.getD_eq_getElem?_getD,List.getElem?_append_left (by rw[List.length_take];omega),List.getElem?_take,if_pos (by omega),<-List.getD_eq_getElem?_getD]
theorem qux{S:List Int}{k:Nat}(hk:k<=S.length)(j:Int):(S.take k++j::S.drop k).length=S.length+1:=by simp;omega
theorem c_sPut{lf d:Nat}(hlf:33554432<=lf)(S:List Int)(n:Int)(hs:S.length<=1048576):∃S',Cc lf (d+2) 153 [.sl (IL S),.i .i64 n]=some [.sl (IL S')]/\(S.Nodup->S'.Nodup)/\∀x,x∈S'↔x∈S\/x=n:=by
 have E:=f153_eq (Cc lf (d+1)) lf (IL S) n;unfold f153 f153_t at E;rw[c_sHas hlf S n (by omega)]at E;simp only[Option.bind_some,nth0,asB_b]at E;by_cases hm:n∈S;· rw[decide_eq_true hm]at E;exact⟨S,E,id,λx=>⟨.inl,λh=>h.elim id λh=>h▸hm⟩⟩
 ·rw[decide_eq_false hm]at E;simp only[qac,List.nil_append,List.length_nil,Nat.zero_add]at E;rw[qcl,nLe_t (show S.length<=LIM by unfold LIM;omega),qe8 (by omega)]at E;simp only[qa2]at E;have L:∀(k m:Nat)(j:Int),k<=S.length->k<m->∃(k':Nat)(j':Int),k'<=S.length/\f153_0 (Cc lf (d+1)) lf n m (k:Int) (IL (S.take k++j::S.drop k))=some [T.i .i64 0,T.i .i64 n,T.i .i64 (k':Int),T.sl (IL (S.take k'++j'::S.drop k'))]:=by
   intro k;induction k with
   |zero=>intro m j hk hmm;obtain⟨m,rfl⟩:∃z,m=z+1:=⟨m-1,by omega⟩;rw[f153_0];unfold f153_0_s;rw[iLt_f (by omega)];exact⟨0,j,hk,rfl⟩
   |succ k ih=>
    intro m j hk hmm;obtain⟨m,rfl⟩:∃z,m=z+1:=⟨m-1,by omega⟩;have hl:=qux hk j;rw[f153_0];unfold f153_0_s;rw[iLt_t (by omega),qab (x:=((k+1:Nat):Int)-1) (by omega) (by omega),show((k+1:Nat):Int)-1=(k:Int)by omega,qa3 (show k<_ by rw[qcl,hl];omega),qa3 (show k+1<_ by rw[qcl,hl];omega)];simp only[Int.toNat_natCast];rw[IL_at (show k<_ by rw[hl];omega),put_at (by omega),IL_set,asI_i,quw hk];simp only[qa2];cases iLt n (S.getD k 0)with
    |true=>rw[qa2,qgy (by omega)];exact ih m _ (by omega) (by omega)
    |false=>exact⟨k+1,j,hk,rfl⟩
  obtain⟨k',j',hk',e⟩:=L S.length lf n (Nat.le_refl _) (by omega);have c:IL S++[T.i .i64 n]=IL (S.take S.length++n::S.drop S.length):=by simp
  have g:IntKind.wrap .i64 ((((IL S++[T.i .i64 n]).length:Nat):Int)-1)=(S.length:Int):=by rw[List.length_append,qcl,List.length_singleton,qab (by omega) (by omega)];omega
  rw[g,c,e]at E;simp only[Option.bind_some,nth0,nthS,asI_i,asL_l,Int.toNat_natCast]at E;rw[qa3 (show k'<_ by rw[qcl,qux hk'];omega),IL_set,quw hk',qa2]at E;refine⟨_,E,λhn=>?_,λx=>?_⟩
  ·have hn':(S.take k'++S.drop k').Nodup:=by rw[List.take_append_drop];exact hn
   have hp:(S.take k'++n::S.drop k').Perm (n::(S.take k'++S.drop k')):=List.perm_middle;refine hp.nodup_iff.2 (List.nodup_cons.2 ⟨?_,hn'⟩);rw[List.take_append_drop];exact hm
  · have hp:(S.take k'++n::S.drop k').Perm (n::(S.take k'++S.drop k')):=List.perm_middle;rw[hp.mem_iff,List.take_append_drop,List.mem_cons];exact or_comm
theorem qyq{lf d:Nat}(hlf:33554432<=lf)(l:List T)(nx:Int)(hs:l.length+tls l<=16777216)(hl:l.length<=30)(S:List Int)(hn:S.Nodup)(hS:∀x∈S,isN l x):∃S',Cc lf (d+3) 117 [.st [.sl l,.i .i64 nx],.sl (IL S)]=some [.sl (IL S')]/\S'.Nodup/\∀z,z∈S'↔z∈S\/(isN l z/\∃x∈S,ed l x z):=by
 have E:=f117_eq (Cc lf (d+2)) lf l nx (IL S);unfold f117 f117_t at E;dsimp only at E;have hSl:=qcz hn hS;have hInn:∀(C:Orc),(∀x,C 72 [.st [.sl l,.i .i64 nx],.i .i64 x]=some [.i .i64 (plcI (plc l x))])->(∀(O:List Int)(x:Int),O.length<=1048576->∃O',C 153 [.sl (IL O),.i .i64 x]=some [.sl (IL O')]/\(O.Nodup->O'.Nodup)/\∀z,z∈O'↔z∈O\/z=x)->∀(j:Nat)(J:Int),kndA l j=2->(entA l j).length<=16777216->∀(k i m:Nat)(O:List Int),i+k=(entA l j).length->k<m->O.Nodup->(∀x∈O,isN l x)->∃O',f117_1 C lf [inoT l j,.b true] (IL S) J l nx m (IL O) (i:Int)=some [T.i .i64 0,T.sl (IL S),T.sl (IL O'),T.i .i64 J,T.sl l,T.i .i64 nx]/\O'.Nodup/\∀z,z∈O'↔z∈O\/(isN l z/\∃t,i<=t/\t<(entA l j).length/\entI (entA l j) t=z):=by
  intro C hA hP j J hk hle k;induction k with
  |zero=>intro i m O hi hm hO hON;obtain⟨m,rfl⟩:∃z,m=z+1:=⟨m-1,by omega⟩;rw[f117_1];unfold f117_1_s;rw[show asL (T.cell (nth [inoT l j,T.b true] 0) 4)=entA l j from rfl,iLt_f (by omega)];exact⟨O,rfl,hO,λz=>⟨.inl,λh=>h.elim id λ⟨_,t,v,h2,_⟩=>by omega⟩⟩
  |succ k ih=>
   intro i m O hi hm hO hON;obtain⟨m,rfl⟩:∃z,m=z+1:=⟨m-1,by omega⟩;rw[f117_1];unfold f117_1_s;rw[show asL (T.cell (nth [inoT l j,T.b true] 0) 4)=entA l j from rfl,show asB (nth [inoT l j,T.b true] 1)=true from rfl,show asI (T.cell (nth [inoT l j,T.b true] 0) 1)=kndA l j from rfl,hk,iLt_t (by omega),qa3 (show i<(entA l j).length by omega),hA,qa4 (show i<(entA l j).length by omega) (by omega)];simp only[Int.toNat_natCast,qa2,Option.bind_some,nth0,asI_i,beq_self_eq_true];rw[qxt,show asI (T.cell ((entA l j).getD i T.u) 1)=entI (entA l j) i from rfl];cases hp:plc l (entI (entA l j) i)with
   |none=>
    obtain⟨O',e,B,D⟩:=ih (i+1) m O (by omega) (by omega) hO hON;refine⟨O',e,B,λz=>?_⟩;rw[D];constructor
    ·rintro(h|⟨h0,t,v,h2,g⟩);· exact .inl h
     · exact .inr ⟨h0,t,by omega,h2,g⟩
    ·rintro(h|⟨h0,t,v,h2,g⟩);· exact .inl h
     ·by_cases c:t=i;· subst c;rw[g]at hp;obtain⟨q,hq⟩:=h0;rw[hq]at hp;cases hp
      · exact .inr ⟨h0,t,by omega,h2,g⟩
   |some q=>
    have hOl:=qcz hO hON;obtain⟨O1,H,G,F⟩:=hP O (entI (entA l j) i) (by omega);rw[H];simp only[Option.isSome_some,qa2,Option.bind_some,nth0,asL_l];obtain⟨O',e,B,D⟩:=ih (i+1) m O1 (by omega) (by omega) (G hO) (λx hx=>by
     rcases(F x).1 hx with h|h
     · exact hON x h
     · rw[h];exact⟨q,hp⟩)
    refine⟨O',e,B,λz=>?_⟩;rw[D,F];constructor
    ·rintro((h|h)|⟨h0,t,v,h2,g⟩);· exact .inl h
     · exact .inr ⟨by rw[h];exact⟨q,hp⟩,i,Nat.le_refl _,by omega,h.symm⟩
     · exact .inr ⟨h0,t,by omega,h2,g⟩
    ·rintro(h|⟨h0,t,v,h2,g⟩);· exact .inl (.inl h)
     ·by_cases c:t=i;· subst c;exact .inl (.inr g.symm)
      · exact .inr ⟨h0,t,by omega,h2,g⟩
 have hOut:∀(C:Orc),(∀x,C 72 [.st [.sl l,.i .i64 nx],.i .i64 x]=some [.i .i64 (plcI (plc l x))])->(∀(O:List Int)(x:Int),O.length<=1048576->∃O',C 153 [.sl (IL O),.i .i64 x]=some [.sl (IL O')]/\(O.Nodup->O'.Nodup)/\∀z,z∈O'↔z∈O\/z=x)->(∀x,C 152 [.st [.sl l,.i .i64 nx],.i .i64 x]=some (inoR l (plc l x)))->∀(k i m:Nat)(O:List Int),i+k=S.length->k<m->O.Nodup->(∀x∈O,isN l x)->∃O',f117_0 C lf m (IL S) (IL O) (i:Int) l nx=some [T.i .i64 0,T.sl (IL O')]/\O'.Nodup/\∀z,z∈O'↔z∈O\/(isN l z/\∃t,i<=t/\t<S.length/\ed l (S.getD t 0) z):=by
  intro C hA hP hI k;induction k with
  |zero=>intro i m O hi hm hO hON;obtain⟨m,rfl⟩:∃z,m=z+1:=⟨m-1,by omega⟩;rw[f117_0];unfold f117_0_s;rw[iLt_f (by rw[qcl];omega)];exact⟨O,rfl,hO,λz=>⟨.inl,λh=>h.elim id λ⟨_,t,v,h2,_⟩=>by omega⟩⟩
  |succ k ih=>
   intro i m O hi hm hO hON;obtain⟨m,rfl⟩:∃z,m=z+1:=⟨m-1,by omega⟩;rw[f117_0];unfold f117_0_s;rw[iLt_t (by rw[qcl];omega),qa3 (show i<(IL S).length by rw[qcl];omega),Int.toNat_natCast,IL_at (show i<S.length by omega),asI_i,hI];simp only[qa2,Option.bind_some];obtain⟨O1,H,G,F⟩:∃O1,f117_1 C lf (inoR l (plc l (S.getD i 0))) (IL S) (i:Int) l nx lf (IL O) 0=some [T.i .i64 0,T.sl (IL S),T.sl (IL O1),T.i .i64 (i:Int),T.sl l,T.i .i64 nx]/\O1.Nodup/\∀z,z∈O1↔z∈O\/(isN l z/\ed l (S.getD i 0) z):=by
    obtain⟨A,I⟩:∃z,lf=z+1:=⟨lf-1,by omega⟩;cases hp:plc l (S.getD i 0)with
    |none=>
     refine⟨O,?_,hO,λz=>⟨.inl,λh=>h.elim id λ⟨_,j,v,_⟩=>by rw[hp]at v;cases v⟩⟩;have:∀A,f117_1 C lf (inoR l none) (IL S) (i:Int) l nx (A+1) (IL O) 0=some [T.i .i64 0,T.sl (IL S),T.sl (IL O),T.i .i64 (i:Int),T.sl l,T.i .i64 nx]:=λA=>by rw[f117_1];rfl
     have h:=this A;rw[<-I]at h;exact h
    |some j=>
     by_cases hk:kndA l j=2
     ·have hle:=qb4 (l:=l) (j:=j) 4;obtain⟨O1,H,G,F⟩:=hInn C hA hP j (i:Int) hk (by unfold entA;omega) (entA l j).length 0 lf O (by omega) (by unfold entA;omega) hO hON;refine⟨O1,H,G,λz=>?_⟩;rw[F];constructor
      ·rintro(h|⟨h0,t,_,h2,g⟩);· exact .inl h
       · exact .inr ⟨h0,j,hp,hk,t,h2,g⟩
      ·rintro(h|⟨h0,j',v,_,t,h2,g⟩);· exact .inl h
       · rw[hp]at v;cases v;exact .inr ⟨h0,t,Nat.zero_le _,h2,g⟩
     ·refine⟨O,?_,hO,λz=>⟨.inl,λh=>h.elim id λ⟨_,j',v,h2,_⟩=>by rw[hp]at v;cases v;exact absurd h2 hk⟩⟩;have:∀A,f117_1 C lf (inoR l (some j)) (IL S) (i:Int) l nx (A+1) (IL O) 0=some [T.i .i64 0,T.sl (IL S),T.sl (IL O),T.i .i64 (i:Int),T.sl l,T.i .i64 nx]:=λA=>by rw[f117_1];unfold f117_1_s;rw[show asI (T.cell (nth (inoR l (some j)) 0) 1)=kndA l j from rfl,show asB (nth (inoR l (some j)) 1)=true from rfl,show(kndA l j==2)=false by simpa using hk,qac,qa2,qp2]
      have h:=this A;rw[<-I]at h;exact h
   rw[H];simp only[Option.bind_some,nth0,nthS,asI_i,asL_l];rw[qa4 (show i<S.length by omega) (by omega)];obtain⟨O',e,B,D⟩:=ih (i+1) m O1 (by omega) (by omega) G (λx hx=>by
    rcases(F x).1 hx with h|h
    · exact hON x h
    · exact h.1)
   refine⟨O',e,B,λz=>?_⟩;rw[D,F];constructor
   ·rintro((h|⟨h0,h⟩)|⟨h0,t,v,h2,g⟩);· exact .inl h
    · exact .inr ⟨h0,i,Nat.le_refl _,by omega,h⟩
    · exact .inr ⟨h0,t,by omega,h2,g⟩
   ·rintro(h|⟨h0,t,v,h2,g⟩);· exact .inl (.inl h)
    ·by_cases c:t=i;· subst c;exact .inl (.inr ⟨h0,g⟩)
     · exact .inr ⟨h0,t,by omega,h2,g⟩
 obtain⟨O',e,B,D⟩:=hOut (Cc lf (d+2)) (λx=>c_sAt (d:=d+1) hlf l nx x (by omega)) (λO x h=>c_sPut (d:=d) hlf O x h) (λx=>qtr (d:=d) hlf l nx x hs) S.length 0 lf S (by omega) (by omega) hn hS;rw[show((0:Nat):Int)=0 from rfl]at e;rw[e]at E;refine⟨O',E,B,λz=>?_⟩;rw[D];constructor
 ·rintro(h|⟨h0,t,_,h2,g⟩);· exact .inl h
  · refine .inr ⟨h0,S.getD t 0,?_,g⟩;rw[List.getD_eq_getElem?_getD,List.getElem?_eq_getElem h2];exact List.getElem_mem h2
 ·rintro(h|⟨h0,x,hx,g⟩);· exact .inl h
  · obtain⟨t,ht,e⟩:=List.getElem_of_mem hx;refine .inr ⟨h0,t,Nat.zero_le _,ht,?_⟩;rw[List.getD_eq_getElem?_getD,List.getElem?_eq_getElem ht];rw[<-e]at g;exact g
theorem Rch.one{l:List T}{x:Int}(h:Rch l x):isN l 1:=by
 induction h with
 |root h=>exact h
 |step x y h e hy ih=>exact ih
def qno(l:List T)(S:List Int):Prop:=∀x∈S,∀z,ed l x z->isN l z->z∈S
theorem qia{l:List T}{S:List Int}(c:1∈S)(hc:qno l S){x:Int}(h:Rch l x):x∈S:=by
 induction h with
 |root h=>exact c
 |step x y h e hy ih=>exact hc x ih y e hy
open Classical in
theorem qtq{lf d:Nat}(hlf:33554432<=lf)(l:List T)(nx:Int)(hs:l.length+tls l<=16777216)(hl:l.length<=30):∃S,Cc lf (d+4) 70 [.st [.sl l,.i .i64 nx]]=some [.sl (IL S)]/\S.Nodup/\∀x,x∈S↔Rch l x:=by
 have E:=f70_eq (Cc lf (d+3)) lf l nx;unfold f70 f70_t at E;rw[c_sAt (d:=d+2) hlf l nx 1 (by omega)]at E;simp only[Option.bind_some,nth0,asI_i]at E;rw[qjd]at E;cases hp:plc l 1 with
 |none=>rw[hp]at E;exact⟨[],E,List.nodup_nil,λx=>⟨λh=>(by cases h),λh=>by obtain⟨j,hj⟩:=h.one;rw[hp]at hj;cases hj⟩⟩
 |some v=>
  rw[hp]at E;simp only[Option.isNone_some,qac,List.nil_append]at E;rw[nLe_t (by unfold LIM;simp),qa2]at E;have q:isN l 1:=⟨v,hp⟩;have L:∀(C:Orc),(∀S:List Int,S.Nodup->(∀x∈S,isN l x)->∃S',C 117 [.st [.sl l,.i .i64 nx],.sl (IL S)]=some [.sl (IL S')]/\S'.Nodup/\∀z,z∈S'↔z∈S\/(isN l z/\∃x∈S,ed l x z))->∀(k i m:Nat)(S:List Int),i+k=l.length->k<m->S.Nodup->(∀x∈S,Rch l x)->1∈S->(qno l S\/i+1<=S.length)->∃S',f70_0 C lf l nx m (IL S) (i:Int)=some [T.i .i64 0,T.sl (IL S')]/\S'.Nodup/\∀x,x∈S'↔Rch l x:=by
   intro C hC k;induction k with
   |zero=>
    intro i m S hi hm hn hR h1S hc;obtain⟨m,rfl⟩:∃z,m=z+1:=⟨m-1,by omega⟩;rw[f70_0];unfold f70_0_s;rw[iLt_f (by omega)];have hcl:qno l S:=by
     rcases hc with h|h
     · exact h
     · have:=qcz hn λx hx=>(hR x hx).node;omega
    exact⟨S,rfl,hn,λx=>⟨hR x,qia h1S hcl⟩⟩
   |succ k ih=>
    intro i m S hi hm hn hR h1S hc;obtain⟨m,rfl⟩:∃z,m=z+1:=⟨m-1,by omega⟩;rw[f70_0];unfold f70_0_s;obtain⟨S',e,g,c⟩:=hC S hn λx hx=>(hR x hx).node;rw[iLt_t (by omega),e,qa4 (show i<l.length by omega) (by omega)];simp only[qa2,Option.bind_some,nth0,asL_l];refine ih (i+1) m S' (by omega) (by omega) g (λz hz=>?_) ((c 1).2 (.inl h1S)) ?_
    ·rcases(c z).1 hz with h|⟨h0,x,hx,he⟩
     · exact hR z h
     · exact .step x z (hR x hx) he h0
    ·by_cases hcl:qno l S
     ·refine .inl λx hx z he h0=>(c z).2 (.inl ?_);have hxS:x∈S:=by
       rcases(c x).1 hx with h|⟨h0',y,hy,he'⟩
       · exact h
       · exact hcl y hy x he' h0'
      exact hcl x hxS z he h0
     ·have hlen:i+1<=S.length:=hc.resolve_left hcl;obtain⟨x,hx,z,he,h0,hz⟩:∃x,x∈S/\∃z,ed l x z/\isN l z/\¬z∈S:=by refine Classical.byContradiction λhno=>hcl λx hx z he h0=>Classical.byContradiction λhz=>hno ⟨x,hx,z,he,h0,hz⟩
      have:=qh3 (z::S) (B:=S') (List.nodup_cons.2 ⟨hz,hn⟩) λy hy=>by
       rcases List.mem_cons.1 hy with h|h
       · rw[h];exact(c z).2 (.inr ⟨h0,x,hx,he⟩)
       · exact(c y).2 (.inl h)
      simp only[List.length_cons]at this;exact .inr (by omega)
  obtain⟨S',e,g,c⟩:=L (Cc lf (d+3)) (λS hn hS=>qyq (d:=d) hlf l nx hs hl S hn hS) l.length 0 lf [1] (by omega) (by omega) (by simp) (λx hx=>by
   obtain rfl:x=1:=by simpa using hx
   exact .root q) (by simp) (.inr (by simp))
  rw[show((0:Nat):Int)=0 from rfl]at e;have e':f70_0 (Cc lf (d+3)) lf l nx lf [T.i .i64 1] 0=some [T.i .i64 0,T.sl (IL S')]:=e;rw[e']at E;exact⟨S',E,g,c⟩
def vw(Q:List Int)(o n:Nat):List Int:=(Q.drop o).take n
theorem vw_IL(Q:List Int)(o n:Nat):((IL Q).drop o).take n=IL (vw Q o n):=by unfold vw;rw[<-List.map_drop,<-List.map_take]
theorem qr6{Q:List Int}{o n:Nat}(h:o+n<=Q.length):(vw Q o n).length=n:=by unfold vw;rw[List.length_take,List.length_drop];omega
theorem vw_head{Q:List Int}{o n:Nat}(h:o+(n+1)<=Q.length):vw Q o (n+1)=Q.getD o 0::vw Q (o+1) n:=by unfold vw;rw[List.drop_eq_getElem_cons (show o<Q.length by omega),List.take_succ_cons,List.getD_eq_getElem?_getD,List.getElem?_eq_getElem (show o<Q.length by omega)];rfl
theorem qzk(Q:List Int):vw Q 0 Q.length=Q:=by simp[vw]
def entIs(E:List T)(i:Nat):List Int:=(List.range (E.length-i)).map λt=>entI E (i+t)
theorem qtm{E:List T}{i:Nat}(h:i<E.length):entIs E i=entI E i::entIs E (i+1):=by unfold entIs;rw[show E.length-i=(E.length-(i+1))+1 by omega,List.range_succ_eq_map,List.map_cons,List.map_map];congr 1;exact List.map_congr_left λt _=>by show entI E (i+(t+1))=entI E (i+1+t);rw[show i+(t+1)=i+1+t by omega]
theorem qw6{E:List T}{i:Nat}(h:E.length<=i):entIs E i=[]:=by unfold entIs;rw[show E.length-i=0 by omega];rfl
theorem qox{E:List T}{z:Int}:z∈entIs E 0↔∃k,k<E.length/\entI E k=z:=by unfold entIs;simp[List.mem_map]
theorem qw5(E:List T):(entIs E 0).length=E.length:=by simp[entIs]
theorem qz1(C:Orc){lf:Nat}(l:List T)(nx:Int)(j:Nat)(hE:(entA l j).length<=10)(q:Nat)(O:List T)(Q0:List T):∀(k i m o n:Nat)(Q:List Int),i+k=(entA l j).length->k<m->o+n<=Q.length->Q.length<=1048576+i->∃(o' n':Nat)(Q':List Int),f92_1 C lf [inoT l j,.b true] q l nx O Q0 m o n (i:Int) (IL Q)=some [T.i .i64 0,T.i .i64 (o':Int),T.i .i64 (n':Int),T.sl l,T.i .i64 nx,T.sl (O++[T.i .i64 (asI (Q0.getD (q+0) T.u))]),T.sl (IL Q')]/\o'+n'<=Q'.length/\vw Q' o' n'=vw Q o n++entIs (entA l j) i/\(Q'.length<=Q.length\/Q'.length<=n'):=by
 intro k;induction k with
 |zero=>intro i m o n Q hi hm hq hl;obtain⟨m,rfl⟩:∃z,m=z+1:=⟨m-1,by omega⟩;rw[f92_1];unfold f92_1_s;rw[show asL (T.cell (nth [inoT l j,T.b true] 0) 4)=entA l j from rfl,iLt_f (by omega)];exact⟨o,n,Q,rfl,hq,by rw[qw6 (by omega),List.append_nil],.inl (Nat.le_refl _)⟩
 |succ k ih=>
  intro i m o n Q hi hm hq hl;obtain⟨m,rfl⟩:∃z,m=z+1:=⟨m-1,by omega⟩;rw[f92_1];unfold f92_1_s;have hv:=qr6 hq;rw[show asL (T.cell (nth [inoT l j,T.b true] 0) 4)=entA l j from rfl,iLt_t (by omega),qa3 (show i<(entA l j).length by omega),vw_IL,qe8 (by rw[qcl,hv];omega),qa4 (show i<(entA l j).length by omega) (by omega)];simp only[Int.toNat_natCast,qa2];rw[show asI (T.cell ((entA l j).getD i T.u) 1)=entI (entA l j) i from rfl,show IL (vw Q o n)++[T.i .i64 (entI (entA l j) i)]=IL (vw Q o n++[entI (entA l j) i])by simp,qcl];obtain⟨o',n',Q',e,c,g,a3⟩:=ih (i+1) m 0 (vw Q o n++[entI (entA l j) i]).length (vw Q o n++[entI (entA l j) i]) (by omega) (by omega) (by omega) (by rw[List.length_append,hv];simp only[List.length_singleton];omega);refine⟨o',n',Q',e,c,?_,.inr ?_⟩;· rw[g,qzk,qtm (show i<(entA l j).length by omega),List.append_assoc];rfl
  ·have v:=qr6 c;rw[g,qzk,List.length_append]at v;rcases a3 with h|h
   · omega
   · exact h
structure Bfs(l:List T)(O V:List Int):Prop where
 nd:O.Nodup
 ro:∀x∈O,Rch l x
 rv:∀x∈V,isN l x->Rch l x
 cl:∀x∈O,∀z,ed l x z->isN l z->z∈O\/z∈V
 on:isN l 1->1∈O\/1∈V
theorem Bfs.skip{l:List T}{O V:List Int}{x:Int}(B:Bfs l O (x::V))(h:¬isN l x\/x∈O):Bfs l O V:=by
 have key:∀z,isN l z->z∈O\/z∈x::V->z∈O\/z∈V:=λz hz hh=>by
  rcases hh with hh|hh
  · exact .inl hh
  ·rcases List.mem_cons.1 hh with e|e
   ·subst e;rcases h with h|h
    · exact absurd hz h
    · exact .inl h
   · exact .inr e
 exact⟨B.nd,B.ro,λy hy hN=>B.rv y (by simp[hy]) hN,λy hy z he hN=>key z hN (B.cl y hy z he hN),λc=>key 1 c (B.on c)⟩
theorem Bfs.push{l:List T}{O V W:List Int}{x:Int}(B:Bfs l O (x::V))(hN:isN l x)(hx:¬x∈O)(hW:∀z,ed l x z->z∈W)(hW':∀z∈W,ed l x z):Bfs l (O++[x]) (V++W):=by
 have hR:Rch l x:=B.rv x (by simp) hN;have up:∀z,z∈O\/z∈x::V->z∈O++[x]\/z∈V++W:=λz hh=>by
  rcases hh with hh|hh
  · exact .inl (by simp[hh])
  ·rcases List.mem_cons.1 hh with e|e
   · exact .inl (by simp[e])
   · exact .inr (by simp[e])
 refine⟨?_,λy hy=>?_,λy hy hy'=>?_,λy hy z he hz=>?_,λc=>up 1 (B.on c)⟩;· have hp:(O++[x]).Perm (x::O):=List.perm_append_comm;exact hp.nodup_iff.2 (List.nodup_cons.2 ⟨hx,B.nd⟩)
 ·rcases List.mem_append.1 hy with h|h
  · exact B.ro y h
  ·obtain rfl:y=x:=by simpa using h
   exact hR
 ·rcases List.mem_append.1 hy with h|h
  · exact B.rv y (by simp[h]) hy'
  · exact .step x y hR (hW' y h) hy'
 ·rcases List.mem_append.1 hy with h|h
  · exact up z (B.cl y h z he hz)
  ·obtain rfl:y=x:=by simpa using h
   exact .inr (by simp[hW z he])
theorem qty{lf d:Nat}(hlf:33554432<=lf)(l:List T)(nx:Int)(hs:l.length+tls l<=16777216)(hl:l.length<=30)(hE:∀j,(entA l j).length<=10):∃S,Cc lf (d+4) 92 [.st [.sl l,.i .i64 nx]]=some [.sl (IL S)]/\S.Nodup/\∀x,x∈S↔Rch l x:=by
 have E:=f92_eq (Cc lf (d+3)) lf l nx;unfold f92 f92_t at E;dsimp only at E;have L:∀(C:Orc),(∀x,C 130 [.st [.sl l,.i .i64 nx],.i .i64 x]=some (inoR l (plc l x)))->(∀(O:List Int)(x:Int),O.length<=16777216->C 131 [.sl (IL O),.i .i64 x]=some [.b (decide (x∈O))])->∀(M m o n:Nat)(O Q:List Int),n+11*(30-O.length)<=M->M<m->o+n<=Q.length->n<=1+10*O.length->Q.length<=100000->Bfs l O (vw Q o n)->∃S,f92_0 C lf m o n l nx (IL O) (IL Q)=some [T.i .i64 0,T.sl (IL S)]/\S.Nodup/\∀x,x∈S↔Rch l x:=by
  intro C hI hCo M;induction M with
  |zero=>
   intro m o n O Q hM hm hq hn hQl B;obtain⟨m,rfl⟩:∃z,m=z+1:=⟨m-1,by omega⟩;obtain rfl:n=0:=by omega
   rw[f92_0];unfold f92_0_s;rw[iLt_f (by omega)];have hv:vw Q o 0=[]:=by simp[vw]
   rw[hv]at B;exact⟨O,rfl,B.nd,λx=>⟨B.ro x,λh=>qia ((B.on h.one).resolve_right (by simp)) (λy hy z he hz=>(B.cl y hy z he hz).resolve_right (by simp)) h⟩⟩
  |succ M ih=>
   intro m o n O Q hM hm hq hn hQl B;obtain⟨m,rfl⟩:∃z,m=z+1:=⟨m-1,by omega⟩;rw[f92_0];unfold f92_0_s;have hOl:=qcz B.nd λx hx=>(B.ro x hx).node;cases n with
   |zero=>
    rw[iLt_f (by omega)];have hv:vw Q o 0=[]:=by simp[vw]
    rw[hv]at B;exact⟨O,rfl,B.nd,λx=>⟨B.ro x,λh=>qia ((B.on h.one).resolve_right (by simp)) (λy hy z he hz=>(B.cl y hy z he hz).resolve_right (by simp)) h⟩⟩
   |succ n=>
    rw[vw_head hq]at B;have h0:=qa3 (show 0<n+1 by omega);rw[show((0:Nat):Int)=0 from rfl]at h0;rw[iLt_t (by omega),h0,iLe_t (show(0:Int)<=1 by omega),iLe_t (show(1:Int)<=((n+1:Nat):Int)by omega),iLe_t (show((n+1:Nat):Int)<=((n+1:Nat):Int)by omega)];simp only[Int.toNat_natCast,Nat.add_zero,Nat.add_sub_cancel,qa2,Bool.and_true];rw[IL_at (show o<Q.length by omega),asI_i,hI];simp only[Option.bind_some];cases hp:plc l (Q.getD o 0)with
    |none=>
     have hNo:¬isN l (Q.getD o 0):=λ⟨j,hj⟩=>by rw[hp]at hj;cases hj
     exact ih m (o+1) n O Q (by omega) (by omega) (by omega) (by omega) hQl (B.skip (.inl hNo))
    |some j=>
     have hN:isN l (Q.getD o 0):=⟨j,hp⟩;rw[hCo O _ (by omega)];simp only[inoR,nthS,nth0,asB_b,Bool.not_true,qac,Option.bind_some];by_cases hm':Q.getD o 0∈O;· rw[decide_eq_true hm',qa2];exact ih m (o+1) n O Q (by omega) (by omega) (by omega) (by omega) hQl (B.skip (.inr hm'))
     ·rw[decide_eq_false hm',qac,qe8 (by rw[qcl];omega),qa2,show asI (T.cell (inoT l j) 1)=kndA l j from rfl];have eO:IL O++[T.i .i64 (Q.getD o 0)]=IL (O++[Q.getD o 0]):=by simp
      by_cases hk:kndA l j=2
      ·rw[hk];simp only[beq_self_eq_true,qa2];have B':=B.push hN hm' (W:=entIs (entA l j) 0) (λz hz=>by obtain⟨j',c,_,A⟩:=hz;rw[hp]at c;cases c;exact qox.2 A) (λz hz=>⟨j,hp,hk,qox.1 hz⟩);have hO':=qcz B'.nd λx hx=>(B'.ro x hx).node;rw[List.length_append,List.length_singleton]at hO';obtain⟨o',n',Q',e,g,k,a3⟩:=qz1 C (lf:=lf) l nx j (hE j) o (IL O) (IL Q) (entA l j).length 0 lf (o+1) n Q (by omega) (by have:=hE j;omega) (by omega) (by omega);simp only[Nat.add_zero]at e;rw[show((0:Nat):Int)=0 from rfl,IL_at (show o<Q.length by omega),asI_i,eO]at e;rw[e];simp only[Option.bind_some,nth0,nthS,asI_i,asL_l,Int.toNat_natCast];rw[<-k]at B';have hn':n'=n+(entA l j).length:=by have c:=qr6 g;rw[k,List.length_append,qr6 (show o+1+n<=Q.length by omega),qw5]at c;omega
       have v:=hE j;exact ih m o' n' (O++[Q.getD o 0]) Q' (by rw[List.length_append,List.length_singleton];omega) (by omega) g (by rw[List.length_append,List.length_singleton];omega) (by omega) B'
      · rw[show(kndA l j==2)=false by simpa using hk,qac,eO];have B':=B.push hN hm' (W:=[]) (λz hz=>by obtain⟨j',c,h2,_⟩:=hz;rw[hp]at c;cases c;exact absurd h2 hk) (λz hz=>by cases hz);have hO':=qcz B'.nd λx hx=>(B'.ro x hx).node;rw[List.length_append,List.length_singleton]at hO';rw[List.append_nil]at B';exact ih m (o+1) n (O++[Q.getD o 0]) Q (by rw[List.length_append,List.length_singleton];omega) (by omega) (by omega) (by rw[List.length_append,List.length_singleton];omega) hQl B'
 obtain⟨S,e,g,k⟩:=L (Cc lf (d+3)) (λx=>qmj (d:=d) hlf l nx x hs) (λO x h=>qu4 (d:=d+1) hlf O x h) 331 lf 0 1 [] [1] (by simp) (by omega) (by simp) (by simp) (by simp) ⟨List.nodup_nil,λx hx=>(by cases hx),λx hx hN=>(by
  obtain rfl:x=1:=by simpa[vw]using hx
  exact .root hN),λx hx=>(by cases hx),λ_=>.inr (by simp[vw])⟩
 have e':f92_0 (Cc lf (d+3)) lf lf 0 ([T.i .i64 1]:List T).length l nx [] [T.i .i64 1]=some [T.i .i64 0,T.sl (IL S)]:=e;rw[e']at E;simp only[Option.bind_some,nth0,nthS,asL_l]at E;have hS:=qcz g λx hx=>((k x).1 hx).node;have q:Cc lf (d+3) 132 [.sl (IL S)]=some [.sl (IL (S.mergeSort λx y=>decide (x<=y)))]:=by show(bif nLe (IL S).length LIM then some [T.sl (sortI (IL S))]else none)=_;rw[nLe_t (by rw[qcl];unfold LIM;omega),qa2];unfold sortI;rw[IL_asI]
 rw[q]at E;have hp:=List.mergeSort_perm S λx y=>decide (x<=y);exact⟨_,E,hp.nodup_iff.2 g,λx=>hp.mem_iff.trans (k x)⟩
def sumTo(f:Nat->Nat):Nat->Nat
|0=>0
|k+1=>sumTo f k+f k
theorem sumTo_le{f:Nat->Nat}{c:Nat}(h:∀j,f j<=c):∀n,sumTo f n<=c*n
|0=>Nat.zero_le _
|n+1=>by have:=sumTo_le h n;have:=h n;simp only[sumTo,Nat.mul_succ];omega
def lnkJ(l:List T)(n:Int)(j:Nat):Nat:=if kndA l j=2 then cntB (λk=>entI (entA l j) k==n) (entA l j).length else 0
def lnk(l:List T)(n:Int):Nat:=sumTo (lnkJ l n) l.length
theorem qvo{l:List T}{n:Int}(hE:∀j,(entA l j).length<=10)(j:Nat):lnkJ l n j<=10:=by
 unfold lnkJ;split;· exact Nat.le_trans (qnn _ _) (hE j)
 · omega
theorem sInner(C:Orc){lf:Nat}(l:List T)(nx n:Int)(j:Nat)(hj:j<l.length)(hk:kndA l j=2)(hE:(entA l j).length<=10)(c:Nat)(hc:c<=1000):∀(k i m:Nat),i+k=(entA l j).length->k<m->f71_1 C lf n (j:Int) l nx m ((c+cntB (λk=>entI (entA l j) k==n) i:Nat):Int) (i:Int)=some [T.i .i64 0,T.i .i64 n,T.i .i64 ((c+cntB (λk=>entI (entA l j) k==n) (entA l j).length:Nat):Int),T.i .i64 (j:Int),T.sl l,T.i .i64 nx]:=by
 intro k;induction k with
 |zero=>intro i m hi hm;obtain⟨m,rfl⟩:∃z,m=z+1:=⟨m-1,by omega⟩;rw[f71_1];unfold f71_1_s;simp only[Int.toNat_natCast];rw[qa3 hj,show asL (T.cell (l.getD j T.u) 4)=entA l j from rfl,iLt_f (by omega),show i=(entA l j).length by omega];rfl
 |succ k ih=>
  intro i m hi hm;obtain⟨m,rfl⟩:∃z,m=z+1:=⟨m-1,by omega⟩;rw[f71_1];unfold f71_1_s;simp only[Int.toNat_natCast];have hcn:=qnn (λk=>entI (entA l j) k==n) i;rw[qa3 hj,show asL (T.cell (l.getD j T.u) 4)=entA l j from rfl,iLt_t (by omega),show asI (T.cell (l.getD j T.u) 1)=kndA l j from rfl,hk,qa3 (show i<(entA l j).length by omega),show asI (T.cell ((entA l j).getD i T.u) 1)=entI (entA l j) i from rfl,qa4 (show i<(entA l j).length by omega) (by omega)];simp only[qa2,beq_self_eq_true];have I:=ih (i+1) m (by omega) (by omega);have e:cntB (λk=>entI (entA l j) k==n) (i+1)=bif entI (entA l j) i==n then cntB (λk=>entI (entA l j) k==n) i+1 else cntB (λk=>entI (entA l j) k==n) i:=rfl
  rw[e]at I;cases hq:entI (entA l j) i==n with
  |true=>rw[hq,qa2]at I;rw[qa2,qab (x:=((c+cntB (λk=>entI (entA l j) k==n) i:Nat):Int)+1) (by omega) (by omega),show(((c+cntB (λk=>entI (entA l j) k==n) i:Nat):Int)+1)=((c+(cntB (λk=>entI (entA l j) k==n) i+1):Nat):Int)by omega];exact I
  |false=>rw[hq,qac]at I;rw[qac];exact I
theorem iInner(C:Orc){lf:Nat}(l:List T)(ln n:Int)(j:Nat)(hE:(entA l j).length<=10)(c:Nat)(hc:c<=1000):∀(k i m:Nat),i+k=(entA l j).length->k<m->f93_1 C lf (j:Int) n l ln m ((c+cntB (λk=>entI (entA l j) k==n) i:Nat):Int) (i:Int)=some [T.i .i64 0,T.i .i64 n,T.i .i64 ((c+cntB (λk=>entI (entA l j) k==n) (entA l j).length:Nat):Int),T.sl l,T.i .i64 ln,T.i .i64 (j:Int)]:=by
 intro k;induction k with
 |zero=>intro i m hi hm;obtain⟨m,rfl⟩:∃z,m=z+1:=⟨m-1,by omega⟩;rw[f93_1];unfold f93_1_s;simp only[Int.toNat_natCast];rw[show asL (T.cell (l.getD j T.u) 4)=entA l j from rfl,iLt_f (by omega),show i=(entA l j).length by omega];rfl
 |succ k ih=>
  intro i m hi hm;obtain⟨m,rfl⟩:∃z,m=z+1:=⟨m-1,by omega⟩;rw[f93_1];unfold f93_1_s;simp only[Int.toNat_natCast];have hcn:=qnn (λk=>entI (entA l j) k==n) i;rw[show asL (T.cell (l.getD j T.u) 4)=entA l j from rfl,iLt_t (by omega),qa3 (show i<(entA l j).length by omega),show asI (T.cell ((entA l j).getD i T.u) 1)=entI (entA l j) i from rfl,qa4 (show i<(entA l j).length by omega) (by omega)];simp only[qa2];have I:=ih (i+1) m (by omega) (by omega);have e:cntB (λk=>entI (entA l j) k==n) (i+1)=bif entI (entA l j) i==n then cntB (λk=>entI (entA l j) k==n) i+1 else cntB (λk=>entI (entA l j) k==n) i:=rfl
  rw[e]at I;cases hq:entI (entA l j) i==n with
  |true=>rw[hq,qa2]at I;rw[qa2,qab (x:=((c+cntB (λk=>entI (entA l j) k==n) i:Nat):Int)+1) (by omega) (by omega),show(((c+cntB (λk=>entI (entA l j) k==n) i:Nat):Int)+1)=((c+(cntB (λk=>entI (entA l j) k==n) i+1):Nat):Int)by omega];exact I
  |false=>rw[hq,qac]at I;rw[qac];exact I
theorem qys{lf d:Nat}(hlf:33554432<=lf)(l:List T)(nx n:Int)(hl:l.length<=30)(hE:∀j,(entA l j).length<=10):Cc lf (d+1) 71 [.st [.sl l,.i .i64 nx],.i .i64 n]=some [.i .i64 ((lnk l n:Nat):Int)]:=by
 have E:=f71_eq (Cc lf d) lf l nx n;unfold f71 f71_t at E;dsimp only at E;have L:∀(C:Orc)(k i m:Nat),i+k=l.length->k<m->f71_0 C lf m n ((sumTo (lnkJ l n) i:Nat):Int) (i:Int) l nx=some [T.i .i64 0,T.i .i64 ((lnk l n:Nat):Int)]:=by
  intro C k;induction k with
  |zero=>intro i m hi hm;obtain⟨m,rfl⟩:∃z,m=z+1:=⟨m-1,by omega⟩;rw[f71_0];unfold f71_0_s;rw[iLt_f (by omega),show i=l.length by omega];rfl
  |succ k ih=>
   intro i m hi hm;obtain⟨m,rfl⟩:∃z,m=z+1:=⟨m-1,by omega⟩;rw[f71_0];unfold f71_0_s;have hsum:=sumTo_le (qvo (n:=n) hE) i;have q:f71_1 C lf n (i:Int) l nx lf ((sumTo (lnkJ l n) i:Nat):Int) 0=some [T.i .i64 0,T.i .i64 n,T.i .i64 ((sumTo (lnkJ l n) (i+1):Nat):Int),T.i .i64 (i:Int),T.sl l,T.i .i64 nx]:=by
    simp only[sumTo];unfold lnkJ;by_cases hk:kndA l i=2;· rw[if_pos hk];exact sInner C (lf:=lf) l nx n i (by omega) hk (hE i) _ (by unfold lnkJ at hsum;omega) (entA l i).length 0 lf (by omega) (by have:=hE i;omega)
    ·rw[if_neg hk];obtain⟨c,g⟩:∃z,lf=z+1:=⟨lf-1,by omega⟩;have:∀(x:Int) c,f71_1 C lf n (i:Int) l nx (c+1) x 0=some [T.i .i64 0,T.i .i64 n,T.i .i64 x,T.i .i64 (i:Int),T.sl l,T.i .i64 nx]:=λx c=>by rw[f71_1];unfold f71_1_s;simp only[Int.toNat_natCast];rw[qa3 (show i<l.length by omega),show asI (T.cell (l.getD i T.u) 1)=kndA l i from rfl,show(kndA l i==2)=false by simpa using hk,qac,qa2,qa2,qp2]
     have h:=this ((sumTo (λj=>if kndA l j=2 then cntB (λk=>entI (entA l j) k==n) (entA l j).length else 0) i:Nat):Int) c;rw[<-g]at h;exact h
   rw[iLt_t (by omega)];dsimp only;rw[q];simp only[qa2,Option.bind_some,nth0,nthS,asI_i,asL_l];rw[qa4 (show i<l.length by omega) (by omega)];exact ih (i+1) m (by omega) (by omega)
 have h:=L (Cc lf d) l.length 0 lf (by omega) (by omega);rw[show((sumTo (lnkJ l n) 0:Nat):Int)=0 from rfl,show((0:Nat):Int)=0 from rfl]at h;rw[h]at E;exact E
theorem qz4{lf d:Nat}(hlf:33554432<=lf)(l:List T)(nx n:Int)(hl:l.length<=30)(hE:∀j,(entA l j).length<=10):Cc lf (d+1) 93 [.st [.sl l,.i .i64 nx],.i .i64 n]=some [.i .i64 ((lnk l n:Nat):Int)]:=by
 have E:=f93_eq (Cc lf d) lf l nx n;unfold f93 f93_t at E;dsimp only at E;have L:∀(C:Orc)(k i m:Nat),i+k=l.length->k<m->f93_0 C lf m n ((sumTo (lnkJ l n) i:Nat):Int) l (l.length:Int) (i:Int)=some [T.i .i64 0,T.i .i64 ((lnk l n:Nat):Int)]:=by
  intro C k;induction k with
  |zero=>intro i m hi hm;obtain⟨m,rfl⟩:∃z,m=z+1:=⟨m-1,by omega⟩;rw[f93_0];unfold f93_0_s;rw[iLt_f (by omega),show i=l.length by omega];rfl
  |succ k ih=>
   intro i m hi hm;obtain⟨m,rfl⟩:∃z,m=z+1:=⟨m-1,by omega⟩;rw[f93_0];unfold f93_0_s;have hsum:=sumTo_le (qvo (n:=n) hE) i;have I:=ih (i+1) m (by omega) (by omega);simp only[Int.toNat_natCast];rw[iLt_t (by omega),qa3 (show i<l.length by omega),show asI (T.cell (l.getD i T.u) 1)=kndA l i from rfl,qa4 (show i<l.length by omega) (by omega)];simp only[qa2];by_cases hk:kndA l i=2;· rw[show(kndA l i !=2)=false by simpa using hk,qac];have c:=iInner C (lf:=lf) l (l.length:Int) n i (hE i) (sumTo (lnkJ l n) i) (by omega) (entA l i).length 0 lf (by omega) (by have:=hE i;omega);rw[show((0:Nat):Int)=0 from rfl,show cntB (λk=>entI (entA l i) k==n) 0=0 from rfl,Nat.add_zero]at c;rw[c];simp only[Option.bind_some,nth0,nthS,asI_i,asL_l];rw[qa4 (show i<l.length by omega) (by omega)];simp only[sumTo]at I;rw[show lnkJ l n i=cntB (λk=>entI (entA l i) k==n) (entA l i).length by unfold lnkJ;rw[if_pos hk]]at I;exact I
   · rw[show(kndA l i !=2)=true by simpa using hk,qa2];simp only[sumTo]at I;rw[show lnkJ l n i=0 by unfold lnkJ;rw[if_neg hk],Nat.add_zero]at I;exact I
 have h:=L (Cc lf d) l.length 0 lf (by omega) (by omega);rw[show((sumTo (lnkJ l n) 0:Nat):Int)=0 from rfl,show((0:Nat):Int)=0 from rfl]at h;rw[h]at E;exact E
open Classical in
noncomputable def allR(l:List T):Bool:=decide (∀j,j<l.length->Rch l (inoA l j))
open Classical in
theorem qst{l:List T}{nx:Int}(h:allB (tbE l nx) l.length=true){S:List Int}(hn:S.Nodup)(hS:∀x,x∈S↔Rch l x):(((S.length:Nat):Int) !=((l.length:Nat):Int))= !allR l:=by
 have hle:=qcz hn λx hx=>((hS x).1 hx).node;have hin:(inos l).Nodup:=by unfold inos List.Nodup;rw[List.pairwise_map];refine List.pairwise_iff_getElem.2 λi j g h2 k e=>?_;simp only[List.length_range]at g h2;simp only[List.getElem_range]at e;have:=tab_inj h g h2 e;omega
 by_cases c:∀j,j<l.length->Rch l (inoA l j)
 ·have:(inos l).length<=S.length:=qh3 (inos l) hin λx hx=>by obtain⟨j,hj,rfl⟩:=List.mem_map.1 hx;exact(hS _).2 (c j (List.mem_range.1 hj))
  have e:S.length=l.length:=by
   have:(inos l).length=l.length:=by simp[inos]
   omega
  have hA:allR l=true:=decide_eq_true c;rw[e,hA];simp
 ·have hA:allR l=false:=decide_eq_false c;have:S.length≠l.length:=λe=>c λj hj=>Classical.byContradiction λhno=>by
   have:=qh3 (inoA l j::S) (B:=inos l) (List.nodup_cons.2 ⟨λhm=>hno ((hS _).1 hm),hn⟩) λy hy=>by
    rcases List.mem_cons.1 hy with g|g
    · rw[g];exact List.mem_map.2 ⟨j,List.mem_range.2 hj,rfl⟩
    · exact qs8 ((hS y).1 g).node
   simp[inos]at this;omega
  rw[hA];simp;omega
def treeE(l:List T)(j:Nat):Bool:=lnkA l j==((lnk l (inoA l j):Nat):Int)&&allB (λk=>(plc l (entI (entA l j) k)).isSome) (entA l j).length
noncomputable def treeB(l:List T)(nx:Int):Bool:=tabB l nx&&(allR l&&allB (treeE l) l.length)
theorem qmr{l:List T}{nx:Int}(h:tabB l nx=true):l.length<=30/\allB (tbE l nx) l.length=true/\∀j,(entA l j).length<=10:=by
 unfold tabB at h;simp only[Bool.and_eq_true,qb8]at h;refine⟨by omega,h.2.2.1,λj=>?_⟩;by_cases hj:j<l.length;· have:=qzl h.2.2.1 hj;unfold qem qd2 entsB at this;simp only[Bool.and_eq_true,qb8]at this;omega
 · unfold entA;rw[List.getD_eq_getElem?_getD,List.getElem?_eq_none (by omega)];exact Nat.zero_le _
theorem qrp(C:Orc)(g lf:Nat){F:Nat->Int->Option (List T)}{l:List T}{nx:Int}{j:Nat}{Y:Option (List T)}(hle:(entA l j).length<=10)(hC:∀x,C g [.st [.sl l,.i .i64 nx],.i .i64 x]=some [.i .i64 (plcI (plc l x))])(hF:∀n(k:Nat),k<(entA l j).length->F (n+1) (k:Int)=(C g [.st [.sl l,.i .i64 nx],.i .i64 (entI (entA l j) k)]).bind λr=>bif iLt (asI (nth r 0)) 0 then some [T.i .i64 0,T.b false]else F n (IntKind.wrap .i64 ((k:Int)+1)))(hE:∀n,F (n+1) ((entA l j).length:Int)=Y)(hlf:33554432<=lf):F lf 0=bif allB (λk=>(plc l (entI (entA l j) k)).isSome) (entA l j).length then Y else some [T.i .i64 0,T.b false]:=qag (λn k hk=>by rw[hF n k hk,hC,qa4 hk (by omega)];simp only[Option.bind_some,nth0,asI_i];rw[qjd];cases plc l (entI (entA l j) k)<;>rfl) hE (by omega)
theorem qt6(C:Orc){lf:Nat}(hlf:33554432<=lf)(l:List T)(nx:Int)(hl:l.length<=30)(hE:∀j,(entA l j).length<=10)(hC:∀x,C 72 [.st [.sl l,.i .i64 nx],.i .i64 x]=some [.i .i64 (plcI (plc l x))])(hL:∀n,C 71 [.st [.sl l,.i .i64 nx],.i .i64 n]=some [.i .i64 ((lnk l n:Nat):Int)]):f31_0 C lf lf 0 l nx=bif allB (treeE l) l.length then some [T.i .i64 1]else some [T.i .i64 0,T.b false]:=
 qag (F:=λn j=>f31_0 C lf n j l nx) (λn j hj=>by
  rw[f31_0];unfold f31_0_s;dsimp only;have e:=qrp (F:=λn k=>f31_1 C lf (j:Int) l nx n k) C 72 lf (l:=l) (nx:=nx) (j:=j) (Y:=some [T.i .i64 1,T.i .i64 (j:Int),T.sl l,T.i .i64 nx]) (hE j) hC (λn k hk=>by
   rw[f31_1];unfold f31_1_s;simp only[Int.toNat_natCast];rw[show asL (T.cell (l.getD j T.u) 4)=entA l j from rfl,iLt_t (by omega),qa3 hk];rfl) (λn=>by
   rw[f31_1];unfold f31_1_s;simp only[Int.toNat_natCast];rw[show asL (T.cell (l.getD j T.u) 4)=entA l j from rfl,iLt_f (by omega)];rfl) hlf
  rw[iLt_t (by omega),qa3 hj,hL,e];simp only[Int.toNat_natCast,qa2,Option.bind_some,nth0,asI_i];unfold treeE;rw[show asI (T.cell (l.getD j T.u) 0)=inoA l j from rfl,show asI (T.cell (l.getD j T.u) 2)=lnkA l j from rfl];by_cases c:lnkA l j=((lnk l (inoA l j):Nat):Int)
  ·rw[c];simp only[bne_self_eq_false,qac,beq_self_eq_true,Bool.true_and];cases allB (λk=>(plc l (entI (entA l j) k)).isSome) (entA l j).length with
   |true=>simp only[qa2,Option.bind_some,nth0,nthS,asI_i,asL_l];rw[qa4 hj (by omega)];rfl
   |false=>rfl
  · rw[show(((lnk l (inoA l j):Nat):Int) !=lnkA l j)=true by simpa using Ne.symm c,show(lnkA l j==((lnk l (inoA l j):Nat):Int))=false by simpa using c];rfl) (λn=>by
  rw[f31_0];unfold f31_0_s;rw[iLt_f (by omega)];rfl) (by omega)
theorem qtj(C:Orc){lf:Nat}(hlf:33554432<=lf)(l:List T)(nx:Int)(hl:l.length<=30)(hE:∀j,(entA l j).length<=10)(hC:∀x,C 94 [.st [.sl l,.i .i64 nx],.i .i64 x]=some [.i .i64 (plcI (plc l x))])(hL:∀n,C 93 [.st [.sl l,.i .i64 nx],.i .i64 n]=some [.i .i64 ((lnk l n:Nat):Int)]):f49_0 C lf lf l (l.length:Int) 0 l nx=bif allB (treeE l) l.length then some [T.i .i64 1]else some [T.i .i64 0,T.b false]:=
 qag (F:=λn j=>f49_0 C lf n l (l.length:Int) j l nx) (λn j hj=>by
  rw[f49_0];unfold f49_0_s;dsimp only;have e:=qrp (F:=λn k=>f49_1 C lf l (l.length:Int) (j:Int) l nx n k) C 94 lf (l:=l) (nx:=nx) (j:=j) (Y:=some [T.i .i64 1,T.sl l,T.i .i64 (l.length:Int),T.i .i64 (j:Int),T.sl l,T.i .i64 nx]) (hE j) hC (λn k hk=>by
   rw[f49_1];unfold f49_1_s;simp only[Int.toNat_natCast];rw[show asL (T.cell (l.getD j T.u) 4)=entA l j from rfl,iLt_t (by omega),qa3 hk];rfl) (λn=>by
   rw[f49_1];unfold f49_1_s;simp only[Int.toNat_natCast];rw[show asL (T.cell (l.getD j T.u) 4)=entA l j from rfl,iLt_f (by omega)];rfl) hlf
  rw[iLt_t (by omega),qa3 hj,hL,e];simp only[Int.toNat_natCast,qa2,Option.bind_some,nth0,asI_i];unfold treeE;rw[show asI (T.cell (l.getD j T.u) 0)=inoA l j from rfl,show asI (T.cell (l.getD j T.u) 2)=lnkA l j from rfl];by_cases c:lnkA l j=((lnk l (inoA l j):Nat):Int)
  ·rw[c];simp only[bne_self_eq_false,qac,beq_self_eq_true,Bool.true_and];cases allB (λk=>(plc l (entI (entA l j) k)).isSome) (entA l j).length with
   |true=>simp only[qa2,Option.bind_some,nth0,nthS,asI_i,asL_l];rw[qa4 hj (by omega)];rfl
   |false=>rfl
  · rw[show(lnkA l j !=((lnk l (inoA l j):Nat):Int))=true by simpa using c,show(lnkA l j==((lnk l (inoA l j):Nat):Int))=false by simpa using c];rfl) (λn=>by
  rw[f49_0];unfold f49_0_s;rw[iLt_f (by omega)];rfl) (by omega)
theorem qwg{lf d:Nat}(hlf:33554432<=lf)(l:List T)(nx:Int)(hs:l.length+tls l<=16777216):Cc lf (d+6) 31 [.st [.sl l,.i .i64 nx]]=some [.b (treeB l nx)]:=by
 have E:=f31_eq (Cc lf (d+5)) lf l nx;unfold f31 f31_t at E;dsimp only at E;rw[qyo (d:=d) hlf l nx hs]at E;simp only[Option.bind_some,nth0,asB_b]at E;refine E.trans ?_;unfold treeB;cases hT:tabB l nx with
 |false=>rfl
 |true=>
  obtain⟨hl,hA,hE⟩:=qmr hT;obtain⟨S,eS,hn,hS⟩:=qtq (d:=d+1) hlf l nx hs hl;rw[eS,qt6 (Cc lf (d+5)) hlf l nx hl hE (λx=>c_sAt (d:=d+4) hlf l nx x (by omega)) (λn=>qys (d:=d+4) hlf l nx n hl hE)];simp only[Option.bind_some,nth0,asL_l,Bool.not_true,qac,qcl];rw[qst hA hn hS];cases allR l with
  |false=>rfl
  |true=>cases allB (treeE l) l.length<;>rfl
theorem qwq{lf d:Nat}(hlf:33554432<=lf)(l:List T)(nx:Int)(hs:l.length+tls l<=16777216):Cc lf (d+6) 49 [.st [.sl l,.i .i64 nx]]=some [.b (treeB l nx)]:=by
 have E:=f49_eq (Cc lf (d+5)) lf l nx;unfold f49 f49_t at E;dsimp only at E;rw[qyz (d:=d) hlf l nx hs]at E;simp only[Option.bind_some,nth0,asB_b]at E;refine E.trans ?_;unfold treeB;cases hT:tabB l nx with
 |false=>rfl
 |true=>
  obtain⟨hl,hA,hE⟩:=qmr hT;obtain⟨S,eS,hn,hS⟩:=qty (d:=d+1) hlf l nx hs hl hE;rw[eS,qtj (Cc lf (d+5)) hlf l nx hl hE (λx=>qso (d:=d+4) hlf l nx x (by omega)) (λn=>qz4 (d:=d+4) hlf l nx n hl hE)];simp only[Option.bind_some,nth0,asL_l,Bool.not_true,qac,qcl];rw[qst hA hn hS];cases allR l with
  |false=>rfl
  |true=>cases allB (treeE l) l.length<;>rfl
def atrN(A:List T)(k:Nat):Nat:=(asS (T.cell (A.getD k T.u) 0)).size+(asS (T.cell (A.getD k T.u) 1)).size
def useJ(l:List T)(j:Nat):Nat:=32+(datA l j).length+sumTo (atrN (atrA l j)) (atrA l j).length
def useN(l:List T):Nat:=sumTo (useJ l) l.length
theorem sUse(C:Orc){lf:Nat}(l:List T)(nx:Int)(j:Nat)(hj:j<l.length)(hl:l.length<=30)(hA:(atrA l j).length<=4)(hN:∀k,atrN (atrA l j) k<=30)(c:Nat)(hc:c<=100000):∀(k i m:Nat),i+k=(atrA l j).length->k<m->f32_1 C lf (j:Int) l nx m ((c+sumTo (atrN (atrA l j)) i:Nat):Int) (i:Int)=some [T.i .i64 0,T.i .i64 ((c+sumTo (atrN (atrA l j)) (atrA l j).length:Nat):Int),T.i .i64 (j:Int),T.sl l,T.i .i64 nx]:=by
 intro k;induction k with
 |zero=>intro i m hi hm;obtain⟨m,rfl⟩:∃z,m=z+1:=⟨m-1,by omega⟩;rw[f32_1];unfold f32_1_s;simp only[Int.toNat_natCast];rw[show asL (T.cell (l.getD j T.u) 5)=atrA l j from rfl,iLt_f (by omega),show i=(atrA l j).length by omega];rfl
 |succ k ih=>intro i m hi hm;obtain⟨m,rfl⟩:∃z,m=z+1:=⟨m-1,by omega⟩;rw[f32_1];unfold f32_1_s;simp only[Int.toNat_natCast];have hs:=sumTo_le hN i;have hN1:=hN i;have I:=ih (i+1) m (by omega) (by omega);simp only[sumTo,atrN]at I hN1;rw[show asL (T.cell (l.getD j T.u) 5)=atrA l j from rfl,iLt_t (by omega),qa3 (show i<(atrA l j).length by omega),qa4 (show i<(atrA l j).length by omega) (by omega),qab (x:=((c+sumTo (atrN (atrA l j)) i:Nat):Int)+((asS (T.cell ((atrA l j).getD i T.u) 0)).size:Int)) (by omega) (by omega),qab (by omega) (by omega)];simp only[qa2];rw[<-I];congr 1;omega
theorem iUse(C:Orc){lf:Nat}(l:List T)(ln:Int)(j:Nat)(hA:(atrA l j).length<=4)(hN:∀k,atrN (atrA l j) k<=30)(c:Nat)(hc:c<=100000):∀(k i m:Nat),i+k=(atrA l j).length->k<m->f50_1 C lf l ln (j:Int) m ((c+sumTo (atrN (atrA l j)) i:Nat):Int) (i:Int)=some [T.i .i64 0,T.i .i64 ((c+sumTo (atrN (atrA l j)) (atrA l j).length:Nat):Int),T.sl l,T.i .i64 ln,T.i .i64 (j:Int)]:=by
 intro k;induction k with
 |zero=>intro i m hi hm;obtain⟨m,rfl⟩:∃z,m=z+1:=⟨m-1,by omega⟩;rw[f50_1];unfold f50_1_s;simp only[Int.toNat_natCast];rw[show asL (T.cell (l.getD j T.u) 5)=atrA l j from rfl,iLt_f (by omega),show i=(atrA l j).length by omega];rfl
 |succ k ih=>intro i m hi hm;obtain⟨m,rfl⟩:∃z,m=z+1:=⟨m-1,by omega⟩;rw[f50_1];unfold f50_1_s;simp only[Int.toNat_natCast];have hs:=sumTo_le hN i;have hN1:=hN i;have I:=ih (i+1) m (by omega) (by omega);simp only[sumTo,atrN]at I hN1;rw[show asL (T.cell (l.getD j T.u) 5)=atrA l j from rfl,iLt_t (by omega),qa3 (show i<(atrA l j).length by omega),qa4 (show i<(atrA l j).length by omega) (by omega),qab (x:=((asS (T.cell ((atrA l j).getD i T.u) 0)).size:Int)+((asS (T.cell ((atrA l j).getD i T.u) 1)).size:Int)) (by omega) (by omega),qab (by omega) (by omega)];simp only[qa2];rw[<-I];congr 1;omega
def qsv(l:List T):Prop:=l.length<=30/\∀j,(datA l j).length<=100/\(atrA l j).length<=4/\∀k,atrN (atrA l j) k<=30
theorem quc{l:List T}(h:qsv l)(j:Nat):useJ l j<=252:=by obtain⟨g,h2,c⟩:=h.2 j;have:=sumTo_le c (atrA l j).length;unfold useJ;omega
theorem qyn{lf d:Nat}(hlf:33554432<=lf)(l:List T)(nx:Int)(h:qsv l):Cc lf (d+1) 32 [.st [.sl l,.i .i64 nx]]=some [.i .i64 ((useN l:Nat):Int)]:=by
 have E:=f32_eq (Cc lf d) lf l nx;unfold f32 f32_t at E;dsimp only at E;have L:∀(C:Orc)(k i m:Nat),i+k=l.length->k<m->f32_0 C lf m ((sumTo (useJ l) i:Nat):Int) (i:Int) l nx=some [T.i .i64 0,T.i .i64 ((useN l:Nat):Int)]:=by
  intro C k;induction k with
  |zero=>intro i m hi hm;obtain⟨m,rfl⟩:∃z,m=z+1:=⟨m-1,by omega⟩;rw[f32_0];unfold f32_0_s;rw[iLt_f (by omega),show i=l.length by omega];rfl
  |succ k ih=>
   intro i m hi hm;obtain⟨m,rfl⟩:∃z,m=z+1:=⟨m-1,by omega⟩;rw[f32_0];unfold f32_0_s;have hl:=h.1;have hsum:=sumTo_le (quc h) i;obtain⟨j,h2,g⟩:=h.2 i;have c:f32_1 C lf (i:Int) l nx lf ((sumTo (useJ l) i+(32+(datA l i).length):Nat):Int) 0=some [T.i .i64 0,T.i .i64 ((sumTo (useJ l) (i+1):Nat):Int),T.i .i64 (i:Int),T.sl l,T.i .i64 nx]:=by have:=sUse C (lf:=lf) l nx i (by omega) hl h2 g (sumTo (useJ l) i+(32+(datA l i).length)) (by omega) (atrA l i).length 0 lf (by omega) (by omega);simp only[sumTo,useJ,Nat.add_assoc,Nat.add_zero]at this|-;exact this
   rw[iLt_t (by omega),qa3 (show i<l.length by omega)];simp only[qa2,Int.toNat_natCast];rw[show asL (T.cell (l.getD i T.u) 3)=datA l i from rfl,qab (x:=((sumTo (useJ l) i:Nat):Int)+32) (by omega) (by omega),qab (x:=((sumTo (useJ l) i:Nat):Int)+32+((datA l i).length:Int)) (by omega) (by omega),show((sumTo (useJ l) i:Nat):Int)+32+((datA l i).length:Int)=((sumTo (useJ l) i+(32+(datA l i).length):Nat):Int)by omega,c];simp only[Option.bind_some,nth0,nthS,asI_i,asL_l];rw[qa4 (show i<l.length by omega) (by omega)];exact ih (i+1) m (by omega) (by omega)
 have e:=L (Cc lf d) l.length 0 lf (by omega) (by have:=h.1;omega);rw[show((sumTo (useJ l) 0:Nat):Int)=0 from rfl]at e;rw[show((0:Nat):Int)=0 from rfl]at e;rw[e]at E;exact E
theorem qyx{lf d:Nat}(hlf:33554432<=lf)(l:List T)(nx:Int)(h:qsv l):Cc lf (d+1) 50 [.st [.sl l,.i .i64 nx]]=some [.i .i64 ((useN l:Nat):Int)]:=by
 have E:=f50_eq (Cc lf d) lf l nx;unfold f50 f50_t at E;dsimp only at E;have L:∀(C:Orc)(k i m:Nat),i+k=l.length->k<m->f50_0 C lf m ((sumTo (useJ l) i:Nat):Int) l (l.length:Int) (i:Int)=some [T.i .i64 0,T.i .i64 ((useN l:Nat):Int)]:=by
  intro C k;induction k with
  |zero=>intro i m hi hm;obtain⟨m,rfl⟩:∃z,m=z+1:=⟨m-1,by omega⟩;rw[f50_0];unfold f50_0_s;rw[iLt_f (by omega),show i=l.length by omega];rfl
  |succ k ih=>
   intro i m hi hm;obtain⟨m,rfl⟩:∃z,m=z+1:=⟨m-1,by omega⟩;rw[f50_0];unfold f50_0_s;have hl:=h.1;have hsum:=sumTo_le (quc h) i;obtain⟨j,h2,g⟩:=h.2 i;have c:f50_1 C lf l (l.length:Int) (i:Int) lf ((sumTo (useJ l) i+(32+(datA l i).length):Nat):Int) 0=some [T.i .i64 0,T.i .i64 ((sumTo (useJ l) (i+1):Nat):Int),T.sl l,T.i .i64 (l.length:Int),T.i .i64 (i:Int)]:=by have:=iUse C (lf:=lf) l (l.length:Int) i h2 g (sumTo (useJ l) i+(32+(datA l i).length)) (by omega) (atrA l i).length 0 lf (by omega) (by omega);simp only[sumTo,useJ,Nat.add_assoc,Nat.add_zero]at this|-;exact this
   rw[iLt_t (by omega),qa3 (show i<l.length by omega)];simp only[qa2,Int.toNat_natCast];rw[show asL (T.cell (l.getD i T.u) 3)=datA l i from rfl,qab (x:=(32:Int)+((datA l i).length:Int)) (by omega) (by omega),qab (x:=((sumTo (useJ l) i:Nat):Int)+(32+((datA l i).length:Int))) (by omega) (by omega),show((sumTo (useJ l) i:Nat):Int)+(32+((datA l i).length:Int))=((sumTo (useJ l) i+(32+(datA l i).length):Nat):Int)by omega,c];simp only[Option.bind_some,nth0,nthS,asI_i,asL_l];rw[qa4 (show i<l.length by omega) (by omega)];exact ih (i+1) m (by omega) (by omega)
 have e:=L (Cc lf d) l.length 0 lf (by omega) (by have:=h.1;omega);rw[show((sumTo (useJ l) 0:Nat):Int)=0 from rfl]at e;rw[show((0:Nat):Int)=0 from rfl]at e;rw[e]at E;exact E
def vid(l:List T)(i:Nat):Int:=asI (T.cell (l.getD i T.u) 0)
def vnm(l:List T)(i:Nat):ByteArray:=asS (T.cell (l.getD i T.u) 1)
def vlm(l:List T)(i:Nat):Int:=asI (T.cell (l.getD i T.u) 3)
def vin(l:List T)(i:Nat):List T:=asL (T.cell (l.getD i T.u) 4)
def vnx(l:List T)(i:Nat):Int:=asI (T.cell (l.getD i T.u) 5)
def vnmd(l:List T)(s:ByteArray):Option Nat:=fstI (λi=>(vnm l i).toList==s.toList) l.length
theorem qqm{lf d:Nat}(hlf:33554432<=lf)(l:List T)(nx:Int)(s:ByteArray)(hs:l.length<=16777216):Cc lf (d+1) 30 [.st [.sl l,.i .i64 nx],.s s]=some [.i .i64 (plcI (vnmd l s))]:=by
 have E:=f30_eq (Cc lf d) lf l nx s;unfold f30 f30_t at E;dsimp only at E;rw[qfz (F:=λm j=>f30_0 (Cc lf d) lf l nx s m j) (p:=λi=>(vnm l i).toList==s.toList) (X:=λj=>some [.i .i64 0,.i .i64 (j:Int)]) (Y:=some [.i .i64 1]) (len:=l.length) (λm j hj=>by
  rw[f30_0];unfold f30_0_s vnm;rw[iLt_t (by omega),qa3 hj,qa4 hj (by omega)];simp only[qa2,Int.toNat_natCast]) (λm=>by
  rw[f30_0];unfold f30_0_s;rw[iLt_f (by omega)];rfl) (n:=lf) (by omega)]at E
 unfold vnmd;cases e:fstI (λi=>(vnm l i).toList==s.toList) l.length with
 |none=>rw[e]at E;exact E
 |some j=>rw[e]at E;exact E
theorem qqq{lf d:Nat}(hlf:33554432<=lf)(l:List T)(nx:Int)(s:ByteArray)(hs:l.length<=16777216):Cc lf (d+1) 47 [.st [.sl l,.i .i64 nx],.s s]=some [.i .i64 (plcI (vnmd l s))]:=by
 have E:=f47_eq (Cc lf d) lf l nx s;unfold f47 f47_t at E;dsimp only at E;rw[qfz (F:=λm j=>f47_0 (Cc lf d) lf l s m j) (p:=λi=>(vnm l i).toList==s.toList) (X:=λj=>some [.i .i64 0,.i .i64 (j:Int),.s s]) (Y:=some [.i .i64 1,.s s]) (len:=l.length) (λm j hj=>by
  rw[f47_0];unfold f47_0_s vnm;rw[iLt_t (by omega),qa3 hj,qa4 hj (by omega)];simp only[qa2,Int.toNat_natCast]) (λm=>by
  rw[f47_0];unfold f47_0_s;rw[iLt_f (by omega)];rfl) (n:=lf) (by omega)]at E
 unfold vnmd;cases e:fstI (λi=>(vnm l i).toList==s.toList) l.length with
 |none=>rw[e]at E;exact E
 |some j=>rw[e]at E;exact E
theorem qwo{lf d:Nat}(n:Int):Cc lf (d+2) 48 [.i .i64 n]=some [.b (iLe 32 n&&iLe n 4000)]:=by refine(f48_eq (Cc lf (d+1)) lf n).trans ?_;unfold f48 f48_t;rw[qcb];rfl
noncomputable def volR(l:List T)(j:Nat):Bool:=nameB (vnm l j)&&(!(plcI (vnmd l (vnm l j)) !=(j:Int))&&((iLe 32 (vlm l j)&&iLe (vlm l j) 4000)&&(treeB (vin l j) (vnx l j)&&!iLt (vlm l j) (useN (vin l j):Nat))))
noncomputable def volB(nx:Int)(l:List T)(j:Nat):Bool:=!iLt (vid l j) 1&&(!iLe nx (vid l j)&&((!iLt 0 (j:Int)||!iLe (vid l j) (vid l (j-1)))&&volR l j))
noncomputable def fsB(nx:Int)(l:List T):Bool:=!iLt 6 (l.length:Int)&&((iLe 1 nx&&iLe nx 99)&&allB (volB nx l) l.length)
theorem qhj{l:List T}{j:Nat}(h:¬j<l.length):l.getD j T.u=T.u:=by rw[List.getD_eq_getElem?_getD,List.getElem?_eq_none (by omega)];rfl
theorem qrc{l:List T}{nx:Int}(h:treeB l nx=true):qsv l:=by
 unfold treeB at h;simp only[Bool.and_eq_true]at h;obtain⟨m,h2,_⟩:=qmr h.1;refine⟨m,λj=>?_⟩;by_cases hj:j<l.length
 ·have c:=qal.1 h2 j hj;unfold tbE at c;simp only[Bool.and_eq_true]at c;have g:=qii c.1;refine⟨g.1,g.2.2,λk=>?_⟩;have q:=(qfm c.1).2;unfold atrN;by_cases hk:k<(atrA l j).length;· have:=q _ (List.getElem_mem hk);rw[List.getD_eq_getElem?_getD,List.getElem?_eq_getElem hk];simp only[Option.getD_some];omega
  · rw[qhj hk];exact Nat.zero_le _
 · unfold datA atrA;rw[qhj hj];exact⟨Nat.zero_le _,Nat.zero_le _,λk=>by unfold atrN;rw[qhj (l:=asL (T.cell T.u 5)) (j:=k) (by simp[T.cell,asL])];exact Nat.zero_le _⟩
theorem qo0{l:List T}(hs:l.length+tls l<=16777216)(j:Nat):(vin l j).length+tls (vin l j)<=16777216:=by have:=qb4 (l:=l) (j:=j) 4;unfold vin;omega
theorem qr7{C:Orc}{gn gv gl gt gu:Nat}{l:List T}{nx:Int}{j:Nat}{F X:Option (List T)}{lim:List T}(hj:j<l.length)(hs:l.length<=16777216)(hN:C gn [.s (vnm l j)]=some [.b (nameB (vnm l j))])(hV:C gv [.st [.sl l,.i .i64 nx],.s (vnm l j)]=some [.i .i64 (plcI (vnmd l (vnm l j)))])(hL:C gl lim=some [.b (iLe 32 (vlm l j)&&iLe (vlm l j) 4000)])(hT:C gt [.st [.sl (vin l j),.i .i64 (vnx l j)]]=some [.b (treeB (vin l j) (vnx l j))])(hU:treeB (vin l j) (vnx l j)=true->C gu [.st [.sl (vin l j),.i .i64 (vnx l j)]]=some [.i .i64 (useN (vin l j):Nat)]):((C gn [.s (vnm l j)]).bind λr=>bif !(asB (nth r 0))then X else(C gv [.st [.sl l,.i .i64 nx],.s (vnm l j)]).bind λr=>bif asI (nth r 0) !=(j:Int)then X else(C gl lim).bind λr=>bif !(asB (nth r 0))then X else(C gt [.st [.sl (vin l j),.i .i64 (vnx l j)]]).bind λr=>bif !(asB (nth r 0))then X else(C gu [.st [.sl (vin l j),.i .i64 (vnx l j)]]).bind λr=>bif iLt (vlm l j) (asI (nth r 0))then X else F)=bif volR l j then F else X:=by
 rw[hN,hV,hL,hT];unfold volR;simp only[Option.bind_some,nth0,asB_b,asI_i];generalize(iLe 32 (vlm l j)&&iLe (vlm l j) 4000)=h;generalize(plcI (vnmd l (vnm l j)) !=(j:Int))=g;generalize nameB (vnm l j)=c;cases e:treeB (vin l j) (vnx l j)with
 |false=>cases c<;>cases g<;>cases h<;>rfl
 |true=>rw[hU e];simp only[Option.bind_some,nth0,asI_i];cases c<;>cases g<;>cases h<;>cases iLt (vlm l j) (useN (vin l j):Nat)<;>rfl
theorem qr8{F:Nat->Int->Option (List T)}{l:List T}{nx:Int}{X Y:Option (List T)}(hF:∀n(j:Nat),j<l.length->F (n+1) (j:Int)=bif iLt (vid l j) 1 then X else bif iLe nx (vid l j)then X else bif iLt 0 (j:Int)then bif inR (IntKind.wrap .i64 ((j:Int)-1)) l.length then bif iLe (vid l j) (vid l (IntKind.wrap .i64 ((j:Int)-1)).toNat)then X else(bif volR l j then F n (IntKind.wrap .i64 ((j:Int)+1))else X)else none else(bif volR l j then F n (IntKind.wrap .i64 ((j:Int)+1))else X))(hE:∀n,F (n+1) (l.length:Int)=Y)(hs:l.length<=16777216){n:Nat}(hn:l.length<n):F n 0=bif allB (volB nx l) l.length then Y else X:=
 qag (λn j hj=>by
  rw[hF n j hj,qa4 hj (by omega)];unfold volB;cases iLt (vid l j) 1 with
  |true=>rfl
  |false=>
   cases iLe nx (vid l j)with
   |true=>rfl
   |false=>
    by_cases c:0<j;· rw[iLt_t (by omega),qab (x:=(j:Int)-1) (by omega) (by omega),show((j:Int)-1)=((j-1:Nat):Int)by omega,qa3 (show j-1<l.length by omega),Int.toNat_natCast];cases iLe (vid l j) (vid l (j-1))<;>rfl
    · rw[iLt_f (by omega)];rfl) hE hn
theorem qwk{lf d:Nat}(hlf:33554432<=lf)(l:List T)(nx:Int)(hs:l.length+tls l<=16777216):Cc lf (d+7) 12 [.st [.sl l,.i .i64 nx]]=some [.b (fsB nx l)]:=by
 have E:=f12_eq (Cc lf (d+6)) lf l nx;unfold f12 f12_t at E;have L:=qr8 (F:=λn j=>f12_0 (Cc lf (d+6)) lf l nx n j) (l:=l) (nx:=nx) (X:=some [T.i .i64 0,T.b false]) (Y:=some [T.i .i64 1]) (λn j hj=>by
  have V:=λ(F X:Option (List T))=>qr7 (C:=Cc lf (d+6)) (gn:=29) (gv:=30) (gl:=28) (gt:=31) (gu:=32) (nx:=nx) (F:=F) (X:=X) (lim:=[.i .i64 (vlm l j),.i .i64 32,.i .i64 4000]) hj (by omega) (qnp (d:=d+4) hlf _ (qgx hs hj)) (qqm (d:=d+5) hlf l nx _ (by omega)) (qcq (d:=d+5) _ _ _) (qwg (d:=d) hlf _ _ (qo0 hs j)) (λh=>qyn (d:=d+5) hlf _ _ (qrc h));show f12_0 (Cc lf (d+6)) lf l nx (n+1) (j:Int)=_;rw[<-V,f12_0];unfold f12_0_s;rw[iLt_t (by omega),qa3 hj];simp only[Int.toNat_natCast];rfl) (λn=>by
  show f12_0 (Cc lf (d+6)) lf l nx (n+1) (l.length:Int)=_;rw[f12_0];unfold f12_0_s;rw[iLt_f (by omega)];rfl) (by omega) (n:=lf) (by omega)
 dsimp only at E L;rw[qcq,L]at E;refine E.trans ?_;unfold fsB;simp only[Option.bind_some,nth0,asB_b];cases iLt 6 (l.length:Int)<;>cases(iLe 1 nx&&iLe nx 99)<;>cases allB (volB nx l) l.length<;>rfl
theorem qwv{lf d:Nat}(hlf:33554432<=lf)(l:List T)(nx:Int)(hs:l.length+tls l<=16777216):Cc lf (d+7) 18 [.st [.sl l,.i .i64 nx]]=some [.b (fsB nx l)]:=by
 have E:=f18_eq (Cc lf (d+6)) lf l nx;unfold f18 f18_t at E;have L:=qr8 (F:=λn j=>f18_0 (Cc lf (d+6)) lf l nx n j) (l:=l) (nx:=nx) (X:=some [T.i .i64 0,T.b false]) (Y:=some [T.i .i64 1]) (λn j hj=>by
  have V:=λ(F X:Option (List T))=>qr7 (C:=Cc lf (d+6)) (gn:=46) (gv:=47) (gl:=48) (gt:=49) (gu:=50) (nx:=nx) (F:=F) (X:=X) (lim:=[.i .i64 (vlm l j)]) hj (by omega) (qnr (d:=d+4) hlf _ (qgx hs hj)) (qqq (d:=d+5) hlf l nx _ (by omega)) (qwo (d:=d+4) _) (qwq (d:=d) hlf _ _ (qo0 hs j)) (λh=>qyx (d:=d+5) hlf _ _ (qrc h));show f18_0 (Cc lf (d+6)) lf l nx (n+1) (j:Int)=_;rw[<-V,f18_0];unfold f18_0_s;rw[iLt_t (by omega),qa3 hj];simp only[Int.toNat_natCast];rfl) (λn=>by
  show f18_0 (Cc lf (d+6)) lf l nx (n+1) (l.length:Int)=_;rw[f18_0];unfold f18_0_s;rw[iLt_f (by omega)];rfl) (by omega) (n:=lf) (by omega)
 dsimp only at E L;rw[qcb,L]at E;refine E.trans ?_;unfold fsB;simp only[Option.bind_some,nth0,asB_b];cases iLt 6 (l.length:Int)<;>cases(iLe 1 nx&&iLe nx 99)<;>cases allB (volB nx l) l.length<;>rfl
theorem qun{x y:List T} [Decidable (x=y)](hx:byt x)(hy:byt y):sameB (byteE x y) x y=decide (x=y):=by
 by_cases h:x=y;· subst h;unfold sameB;rw[decide_eq_true rfl];simp only[beq_self_eq_true,Bool.true_and];exact qal.2 λj _=>by unfold byteE;exact beq_self_eq_true _
 ·rw[decide_eq_false h];unfold sameB;cases e:((x.length:Int)==(y.length:Int))with
  |false=>rfl
  |true=>
   rw[Bool.true_and];have hl:x.length=y.length:=by have:=beq_iff_eq.1 e;omega
   cases B:allB (byteE x y) x.length with
   |false=>rfl
   |true=>
    refine absurd (List.ext_getElem hl λj c h2=>?_) h;have v:=qal.1 B j c;unfold byteE at v;have g:=beq_iff_eq.1 v;obtain⟨n,k,_⟩:=ql8 hx c;obtain⟨m,q,_⟩:=ql8 hy h2;rw[k,q]at g;simp only[asI]at g;have z:x.getD j T.u=x[j]:=by rw[List.getD_eq_getElem?_getD,List.getElem?_eq_getElem c];rfl
    have A:y.getD j T.u=y[j]:=by rw[List.getD_eq_getElem?_getD,List.getElem?_eq_getElem h2];rfl
    rw[<-z,<-A,k,q,g]
theorem qp8{lf d:Nat}{x y:List T} [Decidable (x=y)](hx:byt x)(hy:byt y):Cc lf (d+1) 100 [.sl x,.sl y]=some [.b (decide (x=y))]:=by
 refine(f100_eq (Cc lf d) lf x y).trans ?_;unfold f100 f100_t;by_cases h:x=y;· subst h;rw[decide_eq_true rfl,beq_self_eq_true]
 ·rw[decide_eq_false h];cases e:((bytesOf x).toList==(bytesOf y).toList)with
  |false=>rfl
  |true=>exact absurd (ql7 hx hy (beq_iff_eq.1 e)) h
theorem qnf{b:List T}{r:Int×Int×List T}(h:qb9 b=some r):byt r.2.2:=by
 unfold qb9 at h;split at h;· cases h
 ·generalize(sealB b&&((qbl (b.take (b.length-4)) (some 0)).2==some (b.length-4)&&recB (qbl (b.take (b.length-4)) (some 0)).1.1 (qbl (b.take (b.length-4)) (some 0)).1.2.1 (qar (qbl (b.take (b.length-4)) (some 0)).1.2.2)))=c at h;cases c with
  |false=>cases h
  |true=>cases h;exact qmk _
theorem qk6{l:List T}{a:Int}{r:Int×Int×List T}(e:recA l a=some r):0<=a/\r.2.2.length<=380/\byt r.2.2:=by
 unfold recA at e;cases h: !iLt a 0 with
 |false=>rw[h]at e;cases e
 |true=>
  rw[h]at e;refine⟨?_,(qpx (qgp e)).2.2,qnf e⟩;by_cases c:a<0;· rw[iLt_t c]at h;cases h
  · omega
open Classical in
noncomputable def bodB(l:List T)(a k:Int)(b:List T):Bool:=decide (∃r,recA l a=some r/\r.1=k/\r.2.2=b)
open Classical in
theorem qpd{l:List T}{a k:Int}{b:List T}(h:recA l a=none):bodB l a k b=false:=decide_eq_false λ⟨r,c,_⟩=>by rw[h]at c;cases c
open Classical in
theorem qpe{l:List T}{a k:Int}{b:List T}{r:Int×Int×List T}(h:recA l a=some r)(hk:r.1≠k):bodB l a k b=false:=decide_eq_false λ⟨r,c,h2,_⟩=>by rw[h]at c;cases c;exact hk h2
open Classical in
theorem qpc{l:List T}{a k:Int}{b:List T}{r:Int×Int×List T}(h:recA l a=some r)(hk:r.1=k) [Decidable (r.2.2=b)]:decide (r.2.2=b)=bodB l a k b:=by
 by_cases c:r.2.2=b;· rw[decide_eq_true c];exact(decide_eq_true ⟨r,h,hk,c⟩).symm
 · rw[decide_eq_false c];exact(decide_eq_false λ⟨r',g,_,j⟩=>by rw[h]at g;cases g;exact c j).symm
open Classical in
theorem qnq{lf d:Nat}(hlf:33554432<=lf)(l:List T)(ops:Int)(fs:List T)(dn:Bool)(sq a k:Int)(b:List T)(ha:(Lit.int .i64 a).wf=true)(hb:qej l)(hs:l.length+tls l<=16777216)(hbb:byt b):Cc lf (d+6) 37 [.st [.sl l,.i .i64 ops,.sl fs,.b dn,.i .i64 sq],.i .i64 a,.i .i64 k,.sl b]=some [.b (bodB l a k b)]:=by
 refine(f37_eq (Cc lf (d+5)) lf l ops fs dn sq a k b).trans ?_;unfold f37 f37_t;rw[qwi (d:=d) hlf l ops fs dn sq a k ha hb hs];unfold qi9;cases e:recA l a with
 |none=>rw[qpd e];rfl
 |some r=>
  obtain⟨_,h2,c⟩:=qk6 e;simp only;cases hk:r.1==k with
  |false=>rw[qpe e (λh=>by rw[h,beq_self_eq_true]at hk;cases hk)];rfl
  |true=>rw[<-qpc e (beq_iff_eq.1 hk) (b:=b)];obtain⟨k',s',b'⟩:=r;simp only[qa2,Option.bind_some,nth0,nthS,asB_b,recT,cellS,cell0,asL_l];rw[qmh (d:=d+4) hlf b' b (by simp only at h2;omega),qun c hbb];rfl
open Classical in
theorem qns{lf d:Nat}(hlf:33554432<=lf)(l:List T)(ops:Int)(fs:List T)(dn:Bool)(sq a k:Int)(b:List T)(ha:(Lit.int .i64 a).wf=true)(hb:qej l)(hs:l.length+tls l<=16777216)(hbb:byt b):Cc lf (d+7) 55 [.st [.sl l,.i .i64 ops,.sl fs,.b dn,.i .i64 sq],.i .i64 a,.i .i64 k,.sl b]=some [.b (bodB l a k b)]:=by
 refine(f55_eq (Cc lf (d+6)) lf l ops fs dn sq a k b).trans ?_;unfold f55 f55_t;rw[qws (d:=d) hlf l ops fs dn sq a k ha hb hs];unfold qi9;cases e:recA l a with
 |none=>rw[qpd e];rfl
 |some r=>
  obtain⟨_,h2,c⟩:=qk6 e;simp only;cases hk:r.1==k with
  |false=>rw[qpe e (λh=>by rw[h,beq_self_eq_true]at hk;cases hk)];rfl
  |true=>rw[<-qpc e (beq_iff_eq.1 hk) (b:=b)];obtain⟨k',s',b'⟩:=r;simp only[qa2,Option.bind_some,nth0,nthS,asB_b,recT,cellS,cell0,asL_l];rw[qp8 (d:=d+5) c hbb];rfl
open Classical in
theorem qqx{l:List T}(hc:chipB l=true){a k:Int}{b:List T}(h:bodB l a k b=true):0<=a/\a<=191:=by
 obtain⟨r,e,_⟩:=of_decide_eq_true h;have h0:=(qk6 e).1;refine⟨h0,?_⟩;unfold recA at e;rw[iLt_f (by omega),Bool.not_false,qa2]at e;unfold chipB at hc;simp only[Bool.and_eq_true,qb8]at hc;cases p:pgB l (a.tdiv 8) (a.tmod 8)with
 |false=>unfold pgR at e;rw[p,qac]at e;unfold qb9 at e;rw[if_pos (by simp)]at e;cases e
 |true=>unfold pgB at p;simp only[Bool.and_eq_true,qb8,qcp]at p;have:=p.1;have c:a.tdiv 8=a/8:=Int.tdiv_eq_ediv_of_nonneg h0;rw[c]at this;omega
theorem qyt{lf d:Nat}:Cc lf (d+1) 77 []=some [T.st [T.sl [],T.i .i64 1]]:=by refine(f77_eq (Cc lf d) lf).trans ?_;rfl
theorem qz5{lf d:Nat}:Cc lf (d+1) 98 []=some [T.st [T.sl [],T.i .i64 1]]:=by refine(f98_eq (Cc lf d) lf).trans ?_;rfl
def noneB(V:List T)(nx tn:Int)(R M:List T)(at' root:Int):Bool:=(root== -1)&&((at'== -1)&&(fsE V nx [] 1&&((tn==1)&&(((R.length:Int)==0)&&((M.length:Int)==0)))))
theorem c_sNone{lf d:Nat}(hlf:33554432<=lf)(V:List T)(nx tn:Int)(R M:List T)(at' root:Int)(hV:V.length+tls V<=16777216):Cc lf (d+6) 35 [.st [.sl V,.i .i64 nx,.i .i64 tn,.sl R,.sl M,.i .i64 at',.i .i64 root]]=some [.b (noneB V nx tn R M at' root)]:=by refine(f35_eq (Cc lf (d+5)) lf V nx tn R M at' root).trans ?_;unfold f35 f35_t noneB;rw[qyt];simp only[Option.bind_some,nth0,cell0,cellS,asL_l,asI_i];rw[qwh (d:=d+1) hlf V nx [] 1 hV];simp only[Option.bind_some,nth0,asB_b];cases root== -1<;>cases at'== -1<;>cases fsE V nx [] 1<;>cases tn==1<;>cases((R.length:Int)==0)<;>rfl
theorem c_iNone{lf d:Nat}(hlf:33554432<=lf)(V:List T)(nx tn:Int)(R M:List T)(at' root:Int)(hV:V.length+tls V<=16777216):Cc lf (d+6) 54 [.st [.sl V,.i .i64 nx,.i .i64 tn,.sl R,.sl M,.i .i64 at',.i .i64 root]]=some [.b (noneB V nx tn R M at' root)]:=by refine(f54_eq (Cc lf (d+5)) lf V nx tn R M at' root).trans ?_;unfold f54 f54_t noneB;rw[qz5];simp only[Option.bind_some,nth0,cell0,cellS,asL_l,asI_i];rw[qwr (d:=d) hlf V nx [] 1 hV];simp only[Option.bind_some,nth0,asB_b];cases root== -1<;>cases at'== -1<;>cases fsE V nx [] 1<;>cases tn==1<;>cases((R.length:Int)==0)<;>cases((M.length:Int)==0)<;>rfl
def pNod(I:List T)(j:Nat):List T:=bif qem I j then qeg (inoA I j) (kndA I j) (lnkA I j) (datA I j) (entA I j) (atrA I j)else[]
def pMap(nx:Int)(P:List T):List T:=bif mapB nx P then qk9 nx P else[]
def pTab(nx:Int)(R:List T):List T:=bif qcr nx R then qfj nx R else[]
theorem qrs(I:List T)(j:Nat):byt (pNod I j):=by
 unfold pNod;cases qem I j with
 |false=>exact qfb
 |true=>exact qn3 _ _ _ _ _ _
theorem qrt(nx:Int)(P:List T):byt (pMap nx P):=by
 unfold pMap;cases mapB nx P with
 |false=>exact qfb
 |true=>exact qgz _ _ (qbn (qcj (qah _).1 (qah _).2) (qcj (qah _).1 (qah _).2))
theorem qrr(nx:Int)(P:List T):byt (pTab nx P):=by
 unfold pTab;cases qcr nx P with
 |false=>exact qfb
 |true=>exact qk8 _ _ (qbn (qcj (qah _).1 (qah _).2) (qcj (qah _).1 (qah _).2))
def plI(P:List T)(j:Nat):Int:=asI (T.cell (P.getD j T.u) 0)
def plA(P:List T)(j:Nat):Int:=asI (T.cell (P.getD j T.u) 1)
noncomputable def nodB(l P I:List T)(j:Nat):Bool:=!(inoA I j !=plI P j)&&bodB l (plA P j) 1 (pNod I j)
theorem c_sPNod{lf d:Nat}(hlf:33554432<=lf)(I:List T)(hI:I.length+tls I<=16777216)(j:Nat):Cc lf (d+5) 83 [inoT I j]=some [.sl (pNod I j)]:=qqp (d:=d) hlf _ _ _ _ _ _ (by have:=qb4 (l:=I) (j:=j) 4;unfold entA;omega) (by have:=qb4 (l:=I) (j:=j) 5;unfold atrA;omega)
theorem c_iPNod{lf d:Nat}(hlf:33554432<=lf)(I:List T)(hI:I.length+tls I<=16777216)(j:Nat):Cc lf (d+5) 59 [inoT I j]=some [.sl (pNod I j)]:=qqt (d:=d) hlf _ _ _ _ _ _ (by have:=qb4 (l:=I) (j:=j) 4;unfold entA;omega) (by have:=qb4 (l:=I) (j:=j) 5;unfold atrA;omega)
def wf64b(a:Int):Prop:=(Lit.int .i64 a).wf=true
noncomputable def svB(l I P:List T)(inx mnx rm:Int):Bool:=!(inx !=mnx)&&(!((I.length:Int) !=(P.length:Int))&&(mapB mnx P&&(bodB l rm 2 (pMap mnx P)&&allB (nodB l P I) P.length)))
theorem c_sVol{lf d:Nat}(hlf:33554432<=lf)(l:List T)(ops:Int)(fs:List T)(dn:Bool)(sq:Int)(vi:Int)(vn:ByteArray)(vr:Bool)(vl:Int)(I:List T)(inx:Int)(ri:Int)(rn:ByteArray)(rr:Bool)(rl rm:Int)(mnx:Int)(P:List T)(hb:qej l)(hs:l.length+tls l<=16777216)(hI:I.length+tls I<=16777216)(hP:P.length<=16777216)(hr:wf64b rm)(hw:∀j,j<P.length->wf64b (plA P j)):Cc lf (d+7) 40 [.st [.sl l,.i .i64 ops,.sl fs,.b dn,.i .i64 sq],.st [.i .i64 vi,.s vn,.b vr,.i .i64 vl,.sl I,.i .i64 inx],.st [.i .i64 ri,.s rn,.b rr,.i .i64 rl,.i .i64 rm],.st [.i .i64 mnx,.sl P]]=some [.b ((!(vi !=ri)&&((vn.toList==rn.toList)&&((vr==rr)&&!(vl !=rl))))&&svB l I P inx mnx rm)]:=by
 refine(f40_eq (Cc lf (d+6)) lf l ops fs dn sq vi vn vr vl I inx ri rn rr rl rm mnx P).trans ?_;unfold f40 f40_t svB;dsimp only;rw[qsn (d:=d+4) hlf mnx P hP,qwj (d:=d+3) hlf mnx P hP];simp only[Option.bind_some,nth0,asB_b,asL_l];rw[show(bif mapB mnx P then qk9 mnx P else[])=pMap mnx P from rfl,qnq (d:=d) hlf l ops fs dn sq rm 2 _ hr hb hs (qrt _ _)];simp only[Option.bind_some,nth0,asB_b];cases vi !=ri with
 |true=>rfl
 |false=>
 cases vn.toList==rn.toList with
 |false=>rfl
 |true=>
 cases vr==rr with
 |false=>rfl
 |true=>
 cases vl !=rl with
 |true=>rfl
 |false=>
 cases inx !=mnx with
 |true=>rfl
 |false=>
 cases hl:((I.length:Int) !=(P.length:Int))with
 |true=>rfl
 |false=>
 have g:I.length=P.length:=by
  have:((I.length:Int)==(P.length:Int))=true:=by
   unfold bne at hl;cases h:((I.length:Int)==(P.length:Int))with
   |true=>rfl
   |false=>rw[h]at hl;cases hl
  have:=beq_iff_eq.1 this;omega
 cases mapB mnx P with
 |false=>rfl
 |true=>
 cases bodB l rm 2 (pMap mnx P)with
 |false=>rfl
 |true=>
 have L:=qag (F:=λn j=>f40_0 (Cc lf (d+6)) lf dn vr l fs I P ops sq vi vl inx mnx vn n j) (P:=nodB l P I) (X:=some [T.i .i64 0,T.b false]) (Y:=some [T.i .i64 1]) (len:=P.length) (λn j hj=>by
  show f40_0 (Cc lf (d+6)) lf dn vr l fs I P ops sq vi vl inx mnx vn (n+1) (j:Int)=_;rw[f40_0];unfold f40_0_s nodB;rw[iLt_t (by omega),qa3 hj,qa3 (show j<I.length by omega),qa4 hj (by omega)];simp only[Int.toNat_natCast,qa2];rw[show asI (T.cell (I.getD j T.u) 0)=inoA I j from rfl,show asI (T.cell (P.getD j T.u) 0)=plI P j from rfl];cases inoA I j !=plI P j with
  |true=>rfl
  |false=>have c:=c_sPNod (d:=d+1) hlf I hI j;unfold inoT kndA lnkA datA entA atrA at c;rw[c];simp only[Option.bind_some,nth0,asL_l,qac];rw[show asI (T.cell (P.getD j T.u) 1)=plA P j from rfl,qnq (d:=d) hlf l ops fs dn sq (plA P j) 1 _ (hw j hj) hb hs (qrs _ _)];cases bodB l (plA P j) 1 (pNod I j)<;>rfl) (λn=>by
  show f40_0 (Cc lf (d+6)) lf dn vr l fs I P ops sq vi vl inx mnx vn (n+1) (P.length:Int)=_;rw[f40_0];unfold f40_0_s;rw[iLt_f (by omega)];rfl) (n:=lf) (by omega)
 rw[L];cases allB (nodB l P I) P.length<;>rfl
def rMp(R:List T)(j:Nat):Int:=asI (T.cell (R.getD j T.u) 4)
def mNx(M:List T)(j:Nat):Int:=asI (T.cell (M.getD j T.u) 0)
def mPl(M:List T)(j:Nat):List T:=asL (T.cell (M.getD j T.u) 1)
def roA(V:List T)(j:Nat):Bool:=asB (T.cell (V.getD j T.u) 2)
def rowE(V R:List T)(j:Nat):Bool:=!(vid V j !=vid R j)&&(((vnm V j).toList==(vnm R j).toList)&&((roA V j==roA R j)&&!(vlm V j !=vlm R j)))
noncomputable def sVolB(l V R M:List T)(j:Nat):Bool:=rowE V R j&&svB l (vin V j) (mPl M j) (vnx V j) (mNx M j) (rMp R j)
noncomputable def iVolB(l V R M:List T)(j:Nat):Bool:=rowE R V j&&(bodB l (rMp R j) 2 (pMap (mNx M j) (mPl M j))&&(!(mNx M j !=vnx V j)&&(!(((mPl M j).length:Int) !=((vin V j).length:Int))&&allB (nodB l (mPl M j) (vin V j)) (vin V j).length)))
noncomputable def sImgB(l V:List T)(nx tn:Int)(R M:List T)(a root:Int):Bool:=bif noneB V nx tn R M a root then true else(fsB nx V&&(qcr tn R&&(!(tn !=nx)&&(!((R.length:Int) !=(V.length:Int))&&(!((M.length:Int) !=(V.length:Int))&&(!iLt a 0&&(bodB l root 4 (numT (qa9 a))&&(bodB l a 3 (pTab tn R)&&allB (sVolB l V R M) V.length))))))))
noncomputable def iImgB(l V:List T)(nx tn:Int)(R M:List T)(a root:Int):Bool:=bif noneB V nx tn R M a root then true else(fsB nx V&&(!(tn !=nx)&&(!((R.length:Int) !=(V.length:Int))&&(!((M.length:Int) !=(V.length:Int))&&((iLe 0 a&&iLe a 191)&&(bodB l root 4 (numT (qa9 a))&&(bodB l a 3 (pTab tn R)&&allB (iVolB l V R M) V.length)))))))
theorem qld{a b:Nat}(h:((a:Int) !=(b:Int))=false):a=b:=by
 have:((a:Int)==(b:Int))=true:=by
  unfold bne at h;cases e:((a:Int)==(b:Int))with
  |true=>rfl
  |false=>rw[e]at h;cases h
 have:=beq_iff_eq.1 this;omega
theorem qzr{M:List T}(hs:M.length+tls M<=16777216)(j:Nat):(mPl M j).length<=16777216:=by have:=qb4 (l:=M) (j:=j) 1;unfold mPl;omega
theorem qts{lf d:Nat}(hlf:33554432<=lf)(l:List T)(ops:Int)(fs:List T)(dn:Bool)(sq:Int)(V:List T)(nx tn:Int)(R M:List T)(a root:Int)(hb:qej l)(hs:l.length+tls l<=16777216)(hV:V.length+tls V<=16777216)(hR:R.length+tls R<=16777216)(hM:M.length+tls M<=16777216)(wa:wf64b a)(wr:wf64b root)(wR:∀j,wf64b (rMp R j))(wM:∀j k,k<(mPl M j).length->wf64b (plA (mPl M j) k)):Cc lf (d+8) 14 [.st [.sl l,.i .i64 ops,.sl fs,.b dn,.i .i64 sq],.st [.sl V,.i .i64 nx,.i .i64 tn,.sl R,.sl M,.i .i64 a,.i .i64 root]]=some [.b (sImgB l V nx tn R M a root)]:=by
 refine(f14_eq (Cc lf (d+7)) lf l ops fs dn sq V nx tn R M a root).trans ?_;unfold f14 f14_t sImgB;dsimp only;rw[c_sNone (d:=d+1) hlf V nx tn R M a root hV,qwk (d:=d) hlf V nx hV,qsm (d:=d+4) hlf tn R hR,qas (d:=d+5) hlf [] a (Nat.zero_le _),qqo (d:=d+3) hlf tn R hR];simp only[Option.bind_some,nth0,asB_b,asL_l,List.nil_append];rw[show(bif qcr tn R then qfj tn R else[])=pTab tn R from rfl,qnq (d:=d+1) hlf l ops fs dn sq root 4 _ wr hb hs (qcj (qah _).1 (qah _).2),qnq (d:=d+1) hlf l ops fs dn sq a 3 _ wa hb hs (qrr _ _)];simp only[Option.bind_some,nth0,asB_b];cases noneB V nx tn R M a root with
 |true=>rfl
 |false=>
 cases fsB nx V with
 |false=>rfl
 |true=>
 cases qcr tn R with
 |false=>rfl
 |true=>
 cases tn !=nx with
 |true=>rfl
 |false=>
 cases hr:((R.length:Int) !=(V.length:Int))with
 |true=>rfl
 |false=>
 cases hm:((M.length:Int) !=(V.length:Int))with
 |true=>rfl
 |false=>
 have h:=qld hr;have g:=qld hm;cases iLt a 0 with
 |true=>rfl
 |false=>
 cases bodB l root 4 (numT (qa9 a))with
 |false=>rfl
 |true=>
 cases bodB l a 3 (pTab tn R)with
 |false=>rfl
 |true=>
 have L:=qag (F:=λn j=>f14_0 (Cc lf (d+7)) lf dn l fs V R M ops sq nx tn a root n j) (P:=sVolB l V R M) (X:=some [T.i .i64 0,T.b false]) (Y:=some [T.i .i64 1]) (len:=V.length) (λn j hj=>by
  show f14_0 (Cc lf (d+7)) lf dn l fs V R M ops sq nx tn a root (n+1) (j:Int)=_;rw[f14_0];unfold f14_0_s;rw[iLt_t (by omega),qa3 hj,qa3 (show j<R.length by omega),qa3 (show j<M.length by omega),qa4 hj (by omega)];simp only[Int.toNat_natCast,qa2];have c:=c_sVol (d:=d) hlf l ops fs dn sq (vid V j) (vnm V j) (roA V j) (vlm V j) (vin V j) (vnx V j) (vid R j) (vnm R j) (roA R j) (vlm R j) (rMp R j) (mNx M j) (mPl M j) hb hs (qo0 hV j) (qzr hM j) (wR j) (wM j);unfold vid vnm roA vlm vin vnx rMp mNx mPl at c;rw[c];simp only[Option.bind_some,nth0,asB_b];rw[qap];rfl) (λn=>by
  show f14_0 (Cc lf (d+7)) lf dn l fs V R M ops sq nx tn a root (n+1) (V.length:Int)=_;rw[f14_0];unfold f14_0_s;rw[iLt_f (by omega)];rfl) (n:=lf) (by omega)
 rw[L];cases allB (sVolB l V R M) V.length<;>rfl
theorem qtz{lf d:Nat}(hlf:33554432<=lf)(l:List T)(ops:Int)(fs:List T)(dn:Bool)(sq:Int)(V:List T)(nx tn:Int)(R M:List T)(a root:Int)(hb:qej l)(hs:l.length+tls l<=16777216)(hV:V.length+tls V<=16777216)(hR:R.length+tls R<=16777216)(hM:M.length+tls M<=16777216)(wa:wf64b a)(wr:wf64b root)(wR:∀j,wf64b (rMp R j))(wM:∀j k,k<(mPl M j).length->wf64b (plA (mPl M j) k)):Cc lf (d+8) 20 [.st [.sl l,.i .i64 ops,.sl fs,.b dn,.i .i64 sq],.st [.sl V,.i .i64 nx,.i .i64 tn,.sl R,.sl M,.i .i64 a,.i .i64 root]]=some [.b (iImgB l V nx tn R M a root)]:=by
 refine(f20_eq (Cc lf (d+7)) lf l ops fs dn sq V nx tn R M a root).trans ?_;unfold f20 f20_t iImgB;dsimp only;rw[c_iNone (d:=d+1) hlf V nx tn R M a root hV,qwv (d:=d) hlf V nx hV,qcb,qav (d:=d+5) hlf [] a (Nat.zero_le _),qqs (d:=d+3) hlf tn R hR];simp only[Option.bind_some,nth0,asB_b,asL_l,List.nil_append];rw[show(bif qcr tn R then qfj tn R else[])=pTab tn R from rfl,qns (d:=d) hlf l ops fs dn sq root 4 _ wr hb hs (qcj (qah _).1 (qah _).2),qns (d:=d) hlf l ops fs dn sq a 3 _ wa hb hs (qrr _ _)];simp only[Option.bind_some,nth0,asB_b];cases noneB V nx tn R M a root with
 |true=>rfl
 |false=>
 cases fsB nx V with
 |false=>rfl
 |true=>
 cases tn !=nx with
 |true=>rfl
 |false=>
 cases hr:((R.length:Int) !=(V.length:Int))with
 |true=>rfl
 |false=>
 cases hm:((M.length:Int) !=(V.length:Int))with
 |true=>rfl
 |false=>
 have h:=qld hr;have g:=qld hm;cases(iLe 0 a&&iLe a 191)with
 |false=>rfl
 |true=>
 cases bodB l root 4 (numT (qa9 a))with
 |false=>rfl
 |true=>
 cases bodB l a 3 (pTab tn R)with
 |false=>rfl
 |true=>
 have L:=qag (F:=λn j=>f20_0 (Cc lf (d+7)) lf n V (V.length:Int) j l ops fs dn sq V nx tn R M a root) (P:=iVolB l V R M) (X:=some [T.i .i64 0,T.b false]) (Y:=some [T.i .i64 1]) (len:=V.length) (λn j hj=>by
  show f20_0 (Cc lf (d+7)) lf (n+1) V (V.length:Int) (j:Int) l ops fs dn sq V nx tn R M a root=_;have L1:=λ(hl:(mPl M j).length=(vin V j).length)=>qag (F:=λn k=>f20_1 (Cc lf (d+7)) lf V (V.length:Int) (j:Int) l ops fs dn sq V nx tn R M a root n k) (P:=nodB l (mPl M j) (vin V j)) (X:=some [T.i .i64 0,T.b false]) (Y:=some [T.i .i64 1,T.sl V,T.i .i64 (V.length:Int),T.i .i64 (j:Int),T.sl l,T.i .i64 ops,T.sl fs,T.b dn,T.i .i64 sq,T.sl V,T.i .i64 nx,T.i .i64 tn,T.sl R,T.sl M,T.i .i64 a,T.i .i64 root]) (len:=(vin V j).length) (λn k hk=>by
   show f20_1 (Cc lf (d+7)) lf V (V.length:Int) (j:Int) l ops fs dn sq V nx tn R M a root (n+1) (k:Int)=_;have hv:=qo0 hV j;rw[f20_1];unfold f20_1_s nodB;simp only[Int.toNat_natCast];rw[show asL (T.cell (V.getD j T.u) 4)=vin V j from rfl,show asL (T.cell (M.getD j T.u) 1)=mPl M j from rfl];rw[iLt_t (by omega),qa3 hk,qa3 (show k<(mPl M j).length by omega),qa4 hk (by omega)];simp only[qa2];rw[show asI (T.cell ((vin V j).getD k T.u) 0)=inoA (vin V j) k from rfl,show asI (T.cell ((mPl M j).getD k T.u) 0)=plI (mPl M j) k from rfl,show(plI (mPl M j) k !=inoA (vin V j) k)=(inoA (vin V j) k !=plI (mPl M j) k)from bne_comm];cases inoA (vin V j) k !=plI (mPl M j) k with
   |true=>rfl
   |false=>have c:=c_iPNod (d:=d+2) hlf (vin V j) hv k;unfold inoT kndA lnkA datA entA atrA at c;rw[c];simp only[Option.bind_some,nth0,asL_l,qac];rw[show asI (T.cell ((mPl M j).getD k T.u) 1)=plA (mPl M j) k from rfl,qns (d:=d) hlf l ops fs dn sq (plA (mPl M j) k) 1 _ (wM j k (by omega)) hb hs (qrs _ _)];cases bodB l (plA (mPl M j) k) 1 (pNod (vin V j) k)<;>rfl) (λn=>by
   show f20_1 (Cc lf (d+7)) lf V (V.length:Int) (j:Int) l ops fs dn sq V nx tn R M a root (n+1) ((vin V j).length:Int)=_;rw[f20_1];unfold f20_1_s;simp only[Int.toNat_natCast];rw[show asL (T.cell (V.getD j T.u) 4)=vin V j from rfl,iLt_f (by omega)];rfl) (n:=lf) (by have:=qo0 hV j;omega)
  rw[f20_0];unfold f20_0_s iVolB rowE;rw[iLt_t (by omega),qa3 hj,qa3 (show j<R.length by omega),qa3 (show j<M.length by omega)];simp only[Int.toNat_natCast,qa2];rw[show asI (T.cell (R.getD j T.u) 0)=vid R j from rfl,show asI (T.cell (V.getD j T.u) 0)=vid V j from rfl,show asS (T.cell (R.getD j T.u) 1)=vnm R j from rfl,show asS (T.cell (V.getD j T.u) 1)=vnm V j from rfl,show asB (T.cell (R.getD j T.u) 2)=roA R j from rfl,show asB (T.cell (V.getD j T.u) 2)=roA V j from rfl,show asI (T.cell (R.getD j T.u) 3)=vlm R j from rfl,show asI (T.cell (V.getD j T.u) 3)=vlm V j from rfl,show asI (T.cell (R.getD j T.u) 4)=rMp R j from rfl,show asI (T.cell (M.getD j T.u) 0)=mNx M j from rfl,show asL (T.cell (M.getD j T.u) 1)=mPl M j from rfl,show asI (T.cell (V.getD j T.u) 5)=vnx V j from rfl,show asL (T.cell (V.getD j T.u) 4)=vin V j from rfl];rw[qwt (d:=d+4) hlf (mNx M j) (mPl M j) (qzr hM j)];simp only[Option.bind_some,nth0,asL_l];rw[show(bif mapB (mNx M j) (mPl M j)then qk9 (mNx M j) (mPl M j)else[])=pMap (mNx M j) (mPl M j)from rfl,qns (d:=d) hlf l ops fs dn sq (rMp R j) 2 _ (wR j) hb hs (qrt _ _)];simp only[Option.bind_some,nth0,asB_b];cases vid R j !=vid V j with
  |true=>rfl
  |false=>
  cases(vnm R j).toList==(vnm V j).toList with
  |false=>rfl
  |true=>
  cases roA R j==roA V j with
  |false=>rfl
  |true=>
  cases vlm R j !=vlm V j with
  |true=>rfl
  |false=>
  cases bodB l (rMp R j) 2 (pMap (mNx M j) (mPl M j))with
  |false=>rfl
  |true=>
  cases mNx M j !=vnx V j with
  |true=>rfl
  |false=>
  cases hl:(((mPl M j).length:Int) !=((vin V j).length:Int))with
  |true=>rfl
  |false=>
  have L2:=L1 (qld hl);simp only[Bool.not_true,Bool.not_false,qa2,qac,Bool.true_and];rw[L2];cases allB (nodB l (mPl M j) (vin V j)) (vin V j).length with
  |false=>rfl
  |true=>simp only[qa2,Option.bind_some,nth0,nthS,asI_i,asL_l,asB_b];rw[qa4 hj (by omega)];rfl) (λn=>by
  show f20_0 (Cc lf (d+7)) lf (n+1) V (V.length:Int) (V.length:Int) l ops fs dn sq V nx tn R M a root=_;rw[f20_0];unfold f20_0_s;rw[iLt_f (by omega)];rfl) (n:=lf) (by omega)
 simp only[qac,Bool.not_true,Bool.not_false,Bool.true_and];rw[L];cases allB (iVolB l V R M) V.length<;>rfl
theorem qix{a b:Int}:(!(a !=b))=true↔a=b:=by simp[bne]
theorem ba_ext{s t:ByteArray}(h:s.toList=t.toList):s=t:=by rw[ByteArray.toList_eq,ByteArray.toList_eq]at h;exact ByteArray.ext (Array.ext' h)
theorem qev{V R:List T}{j:Nat}:rowE V R j=true↔vid V j=vid R j/\vnm V j=vnm R j/\roA V j=roA R j/\vlm V j=vlm R j:=by unfold rowE;simp only[Bool.and_eq_true,qix,beq_iff_eq];exact⟨λ⟨a,b,c,d⟩=>⟨a,ba_ext b,c,d⟩,λ⟨a,b,c,d⟩=>⟨a,by rw[b],c,d⟩⟩
theorem qs0{l P I:List T}{j:Nat}:nodB l P I j=true↔inoA I j=plI P j/\bodB l (plA P j) 1 (pNod I j)=true:=by unfold nodB;simp only[Bool.and_eq_true,qix]
theorem qkc{a b:Int}:(!iLt a b)=true↔b<=a:=by
 rw[Bool.not_eq_true'];by_cases h:a<b;· rw[iLt_t h];simp;omega
 · rw[iLt_f h];simp;omega
theorem qkd{a b:Int}:(!iLe a b)=true↔b<a:=by
 rw[Bool.not_eq_true'];by_cases h:a<=b;· rw[iLe_t h];simp;omega
 · rw[iLe_f h];simp;omega
theorem qnw{j:Nat}{a b:Int}:(!iLt 0 (j:Int)||!iLe a b)=true↔(0<j->b<a):=by
 by_cases h:0<j;· rw[iLt_t (by omega),Bool.not_true,Bool.false_or,qkd];exact⟨λa _=>a,λa=>a h⟩
 · rw[iLt_f (by omega),Bool.not_false,Bool.true_or];exact⟨λ_ c=>absurd c h,λ_=>rfl⟩
theorem qq5{l P I:List T}(hc:chipB l=true){inx mnx:Int}(ht:treeB I inx=true)(hn:inx=mnx)(hl:I.length=P.length)(h:∀k,k<I.length->nodB l P I k=true):mapB mnx P=true:=by
 subst hn;unfold treeB tabB at ht;simp only[Bool.and_eq_true,qb8]at ht;obtain⟨⟨⟨D,h2⟩,A,B,_⟩,_⟩:=ht;unfold mapB;simp only[Bool.and_eq_true,qb8];refine⟨qal.2 λk hk=>?_,by omega,A⟩;have c:k<I.length:=by omega
 obtain⟨j,m⟩:=qs0.1 (h k c);have a3:=qqx hc m;have g:=qal.1 B k c;unfold tbE at g;simp only[Bool.and_eq_true,qkd,qnw]at g;obtain⟨q,v,x⟩:=g;have z:=(qiz q).1;unfold qiw;simp only[Bool.and_eq_true,qkc,qkd,qnw,qb8];rw[show asI (T.cell (P.getD k T.u) 0)=plI P k from rfl,show asI (T.cell (P.getD k T.u) 1)=plA P k from rfl,<-j];refine⟨z.1,v,a3,λh0=>?_⟩;have C:=(qs0.1 (h (k-1) (by omega))).1;rw[show asI (T.cell (P.getD (k-1) T.u) 0)=plI P (k-1)from rfl,<-C];exact x h0
theorem qpq{l V R:List T}(hc:chipB l=true){nx tn:Int}(hf:fsB nx V=true)(hn:tn=nx)(hl:R.length=V.length)(hr:∀j,j<V.length->rowE R V j=true)(hm:∀j,j<V.length->∃k b,bodB l (rMp R j) k b=true):qcr tn R=true:=by
 subst hn;unfold fsB at hf;simp only[Bool.and_eq_true,qkc,qb8]at hf;obtain⟨E,h2,D⟩:=hf;unfold qcr;simp only[Bool.and_eq_true,qb8];refine⟨qal.2 λj hj=>?_,by omega,h2⟩;have c:j<V.length:=by omega
 obtain⟨m,q,_,a4⟩:=qev.1 (hr j c);obtain⟨k,b,a5⟩:=hm j c;have v:=qqx hc a5;have h:=qal.1 D j c;unfold volB volR at h;simp only[Bool.and_eq_true,qkc,qkd,qnw,qb8,qix]at h;obtain⟨x,z,A,B,g,C,_⟩:=h;unfold rowB;simp only[Bool.and_eq_true,qkc,qkd,qnw,qb8];rw[show asI (T.cell (R.getD j T.u) 0)=vid R j from rfl,show asS (T.cell (R.getD j T.u) 1)=vnm R j from rfl,show asI (T.cell (R.getD j T.u) 3)=vlm R j from rfl,show asI (T.cell (R.getD j T.u) 4)=rMp R j from rfl,m,q,a4];refine⟨x,z,B,C,v,λh0=>?_,qal.2 λi hi=>?_⟩;· rw[show asI (T.cell (R.getD (j-1) T.u) 0)=vid R (j-1)from rfl,(qev.1 (hr (j-1) (by omega))).1];exact A h0
 ·rw[show asS (T.cell (R.getD i T.u) 1)=vnm R i from rfl,(qev.1 (hr i (by omega))).2.1];have e:vnmd V (vnm V j)=some j:=by
   cases e:vnmd V (vnm V j)with
   |none=>rw[e]at g;simp only[plcI]at g;omega
   |some i=>rw[e]at g;simp only[plcI]at g;congr 1;omega
  have:=(qkx.1 e).2.2 i hi;rw[this];rfl
theorem qy9{l:List T}(hc:chipB l=true)(V:List T)(nx tn:Int)(R M:List T)(a root:Int):iImgB l V nx tn R M a root=sImgB l V nx tn R M a root:=by
 unfold sImgB iImgB;cases noneB V nx tn R M a root with
 |true=>rfl
 |false=>
  simp only[qac];rw[Bool.eq_iff_iff];simp only[Bool.and_eq_true,qix,qb8,qkc];constructor
  ·rintro⟨hf,hn,hr,hm,ha,x,m,hv⟩;have hv:=qal.1 hv;have hp:∀j,j<V.length->rowE R V j=true/\bodB l (rMp R j) 2 (pMap (mNx M j) (mPl M j))=true/\mNx M j=vnx V j/\(mPl M j).length=(vin V j).length/\∀k,k<(vin V j).length->nodB l (mPl M j) (vin V j) k=true:=by intro j hj;have:=hv j hj;unfold iVolB at this;simp only[Bool.and_eq_true,qix]at this;exact⟨this.1,this.2.1,this.2.2.1,by have:=this.2.2.2.1;omega,qal.1 this.2.2.2.2⟩
   refine⟨hf,qpq hc hf hn (by omega) (λj hj=>(hp j hj).1) (λj hj=>⟨_,_,(hp j hj).2.1⟩),hn,hr,hm,ha.1,x,m,qal.2 λj hj=>?_⟩;obtain⟨q,v,g,A,h⟩:=hp j hj;unfold sVolB svB;simp only[Bool.and_eq_true,qix];have c:=qev.1 q;have hf':=hf;unfold fsB at hf';simp only[Bool.and_eq_true]at hf';have z:=qal.1 hf'.2.2 j hj;unfold volB volR at z;simp only[Bool.and_eq_true]at z;refine⟨qev.2 ⟨c.1.symm,c.2.1.symm,c.2.2.1.symm,c.2.2.2.symm⟩,g.symm,by omega,qq5 hc z.2.2.2.2.2.2.1 g.symm A.symm h,v,qal.2 λk hk=>h k (by omega)⟩
  · rintro⟨hf,_,hn,hr,hm,ha,x,m,hv⟩;have hv:=qal.1 hv;refine⟨hf,hn,hr,hm,qqx hc m,x,m,qal.2 λj hj=>?_⟩;have:=hv j hj;unfold sVolB svB at this;simp only[Bool.and_eq_true,qix]at this;obtain⟨q,v,g,A,h,B⟩:=this;have c:=qev.1 q;unfold iVolB;simp only[Bool.and_eq_true,qix];exact⟨qev.2 ⟨c.1.symm,c.2.1.symm,c.2.2.1.symm,c.2.2.2.symm⟩,h,v.symm,g.symm,qal.2 λk hk=>qal.1 B k (by omega)⟩
theorem qvn{l:List T}{ops:Int}{fs:List T}{sq:Int}(h:logB l ops fs sq=true):chipB l=true:=by unfold logB devB at h;simp only[Bool.and_eq_true]at h;exact h.1.2.1
theorem qzn{cs:List CT}{R:List T}(h:fitC (.sl true cs) (.sl R))(hk:cs[4]? =some (.i .i64))(j:Nat):wf64b (rMp R j):=by
 by_cases hj:j<R.length;· obtain⟨n,e,w⟩:=qay (qhm (k:=4) h hj hk);unfold rMp wf64b;rw[e];exact w
 · unfold rMp;rw[qhj hj];exact wf64 (show(-9223372036854775808:Int)<=0 by omega) (show(0:Int)<9223372036854775808 by omega)
theorem qzo{M:List T}(h:fitC (.sl true [.i .i64,.sl true [.i .i64,.i .i64]]) (.sl M))(j k:Nat)(hk:k<(mPl M j).length):wf64b (plA (mPl M j) k):=by
 by_cases hj:j<M.length
 ·obtain⟨P,e,q⟩:=qb2 (qhm (k:=1) h hj rfl);have c:mPl M j=P:=by unfold mPl;rw[e];rfl
  rw[c]at hk|-;obtain⟨n,g,w⟩:=qay (qhm (k:=1) q hk rfl);unfold plA wf64b;rw[g];exact w
 · unfold mPl at hk;rw[qhj hj]at hk;exact absurd hk (Nat.not_lt_zero _)
theorem same{lf:Nat}(hlf:33554432<=lf)(V:List T)(nx:Int)(V2:List T)(c tn:Int)(R M:List T)(a root:Int)(l:List T)(ops:Int)(fs:List T)(dn:Bool)(sq:Int)(hf:fitE true qa0 (.st [.sl V,.i .i64 nx,.sl V2,.i .i64 c,.i .i64 tn,.sl R,.sl M,.i .i64 a,.i .i64 root,.sl l,.i .i64 ops,.sl fs,.b dn,.i .i64 sq]))(z:tl (.st [.sl V,.i .i64 nx,.sl V2,.i .i64 c,.i .i64 tn,.sl R,.sl M,.i .i64 a,.i .i64 root,.sl l,.i .i64 ops,.sl fs,.b dn,.i .i64 sq])<=1048576):∃r,Cc lf 11 5 [.st [.sl V,.i .i64 nx,.sl V2,.i .i64 c,.i .i64 tn,.sl R,.sl M,.i .i64 a,.i .i64 root,.sl l,.i .i64 ops,.sl fs,.b dn,.i .i64 sq]]=some [r]/\Cc lf 11 7 [.st [.sl V,.i .i64 nx,.sl V2,.i .i64 c,.i .i64 tn,.sl R,.sl M,.i .i64 a,.i .i64 root,.sl l,.i .i64 ops,.sl fs,.b dn,.i .i64 sq]]=some [r]/\(fitC .b r/\tl r<=16777216)/\True:=by
 simp only[tl,tls]at z;obtain⟨w0,C,D,E,F,g,j,k,m,B,q,v,x,A,_⟩:=hf;have hb:=quz B;have eL1:=qyr (d:=4) hlf l ops fs dn sq hb (by omega) (by omega);have eL2:=qz3 (d:=4) hlf l ops fs dn sq hb (by omega) (by omega);have eF1:=qwk (d:=3) hlf V nx (by omega);have eF2:=qwv (d:=3) hlf V nx (by omega);have eI1:=qts (d:=2) hlf l ops fs dn sq V2 c tn R M a root hb (by omega) (by omega) (by omega) (by omega) k.2 m.2 (qzn g rfl) (qzo j);have eI2:=qtz (d:=2) hlf l ops fs dn sq V2 c tn R M a root hb (by omega) (by omega) (by omega) (by omega) k.2 m.2 (qzn g rfl) (qzo j);refine⟨.b (fsB nx V&&(logB l ops fs sq&&sImgB l V2 c tn R M a root)),?_,?_,⟨trivial,Nat.zero_le _⟩,trivial⟩;· refine(f5_eq (Cc lf 10) lf V nx V2 c tn R M a root l ops fs dn sq).trans ?_;unfold f5 f5_t;rw[eF1,eL1,eI1];simp only[Option.bind_some,nth0,asB_b];cases fsB nx V<;>cases logB l ops fs sq<;>rfl
 ·refine(f7_eq (Cc lf 10) lf V nx V2 c tn R M a root l ops fs dn sq).trans ?_;unfold f7 f7_t;rw[eF2,eL2,eI2];simp only[Option.bind_some,nth0,asB_b];cases fsB nx V with
  |false=>rfl
  |true=>
   cases h:logB l ops fs sq with
   |false=>rfl
   |true=>rw[qy9 (qvn h)];rfl
theorem lawB{lf:Nat}(hlf:33554432<=lf){t0:T}(G:fitE true qa0 t0):Cc lf 12 3 [t0]=some [.b true]:=by
 have E:=G;obtain⟨k,m,q,v,x,z,A,B,C,D,c,g,h,j,rfl,K,L,M,N,O,P,Q,R,S,U,H,I,J⟩:=qa5 G;refine(f3_eq (Cc lf 11) lf k m q v x z A B C D c g h j).trans ?_;unfold f3 f3_t;rcases sz4 hlf (d:=11) (by omega) _ E 1048576 (by omega) (by omega)with e|⟨W,V,g1,Z⟩
 · rw[e];rfl
 rw[V];simp only[Option.bind_some,nth0,asI_i];rw[iLt_f (show¬W<0 by omega),qac];have z0:tl (T.st [T.sl k,T.i .i64 m,T.sl q,T.i .i64 v,T.i .i64 x,T.sl z,T.sl A,T.i .i64 B,T.i .i64 C,T.sl D,T.i .i64 c,T.sl g,T.b h,T.i .i64 j])<=1048576:=by omega
 have eT0:=to6 hlf (d:=11) (by omega) _ E (by omega);obtain⟨r0,eS,eI,⟨F,Y⟩,_⟩:=same hlf k m q v x z A B C D c g h j E z0;have hR0:=F;obtain⟨R0_0,rfl⟩:=qj1 F;have eX0:=eq8 hlf (d:=11) (by omega) _ E (by omega);simp only[eT0,eS,eI,eX0,Option.bind_some,nth0,nthS,asI_i,asL_l,asB_b,asS_s,cell0,cellS,beq_self_eq_true,bne_self_eq_false,Bool.not_true,Bool.and_true,qac,qa2]
end Go.Proofs.YtdlidpfghafcgaaGreat.T
