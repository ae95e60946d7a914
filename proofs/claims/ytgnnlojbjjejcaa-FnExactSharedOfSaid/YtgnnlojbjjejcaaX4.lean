/- What functions of the law FnExactSharedOf come to, in trees; no condition. -/
import Derived.Test.YtgnnlojbjjejcaaRows
import Derived.Test.YtgnnlojbjjejcaaX3
set_option linter.unusedVariables false
set_option linter.constructorNameAsVariable false
set_option linter.unusedSimpArgs false
set_option linter.unnecessarySimpa false
namespace Go.Proofs.Ytgnnlojbjjejcaa.T
open Go Go.Proofs.YtgnnlojbjjejcaaV
set_option maxRecDepth 100000
theorem cellL_le{l:List T}{j:Nat}(k:Nat):(asL (T.cell (l.getD j T.u) k)).length+tls (asL (T.cell (l.getD j T.u) k))<=tls l:=by
 by_cases h:j<l.length
 ·have g:=tl_mem (List.getElem_mem h);rw[List.getD_eq_getElem?_getD,List.getElem?_eq_getElem h];show(asL (T.cell l[j] k)).length+tls (asL (T.cell l[j] k))<=_;cases e:l[j]<;>try (simp only[T.cell,asL,tls];exact Nat.zero_le _)
  rename_i xs;rw[e]at g;simp only[T.cell,tl]at g|-;cases c:xs[k]? with
  |none=>rw[List.getD_eq_getElem?_getD,c];exact Nat.zero_le _
  |some x=>
   rw[List.getD_eq_getElem?_getD,c];have m:=tl_mem (List.mem_of_getElem? c);show(asL x).length+tls (asL x)<=_;cases x<;>try (exact Nat.zero_le _)
   simp only[tl,asL]at m|-;omega
 · rw[List.getD_eq_getElem?_getD,List.getElem?_eq_none (by omega)];exact Nat.zero_le _
abbrev IL(ns:List Int):List T:=ns.map (T.i .i64)
theorem IL_at{ns:List Int}{j:Nat}(h:j<ns.length):(IL ns).getD j T.u=.i .i64 (ns.getD j 0):=by rw[List.getD_eq_getElem?_getD,List.getElem?_map,List.getElem?_eq_getElem h,List.getD_eq_getElem?_getD,List.getElem?_eq_getElem h];rfl
theorem IL_len(ns:List Int):(IL ns).length=ns.length:=List.length_map ..
theorem IL_app(a b:List Int):IL a++IL b=IL (a++b):=(List.map_append ..).symm
theorem IL_asI(ns:List Int):(IL ns).map asI=ns:=by rw[List.map_map];exact(List.map_congr_left λx _=>rfl).trans (List.map_id _)
theorem IL_set(ns:List Int)(j:Nat)(x:Int):(IL ns).set j (.i .i64 x)=IL (ns.set j x):=List.map_set.symm
def Rise(l:List Int):Prop:=l.Pairwise (· <·)
theorem rise_app{a:List Int}{x:Int}(h:Rise a)(hx:∀y∈a,y<x):Rise (a++[x]):=by refine List.pairwise_append.2 ⟨h,List.pairwise_singleton _ _,λy hy z hz=>?_⟩;rw[List.mem_singleton.1 hz];exact hx y hy
theorem rise_ins{a:List Int}{k:Nat}{n:Int}(h:Rise a)(c:∀y∈a.take k,y<n)(h2:∀y∈a.drop k,n<y):Rise (a.take k++n::a.drop k):=by
 have hs:=List.take_append_drop k a▸h;obtain⟨p1,p2,p3⟩:=List.pairwise_append.1 hs;refine List.pairwise_append.2 ⟨p1,List.pairwise_cons.2 ⟨h2,p2⟩,λy hy z hz=>?_⟩;rcases List.mem_cons.1 hz with rfl|hz
 · exact c y hy
 · exact p3 y hy z hz
theorem mem_ins{a:List Int}{k:Nat}{n x:Int}:x∈a.take k++n::a.drop k↔x∈a\/x=n:=by
 have:x∈a↔x∈a.take k\/x∈a.drop k:=by
  conv=>lhs;rw[<-List.take_append_drop k a]
  exact List.mem_append
 rw[this,List.mem_append,List.mem_cons];constructor
 ·rintro(h|h|h);· exact .inl (.inl h)
  · exact .inr h
  · exact .inl (.inr h)
 ·rintro((h|h)|h);· exact .inl h
  · exact .inr (.inr h)
  · exact .inr (.inl h)
theorem getD_of{l:List Int}{j:Nat}(h:j<l.length):l.getD j 0=l[j]:=by rw[List.getD_eq_getElem?_getD,List.getElem?_eq_getElem h];rfl
theorem take_succ{l:List Int}{j:Nat}(h:j<l.length):l.take (j+1)=l.take j++[l.getD j 0]:=by rw[getD_of h,List.take_add_one,List.getElem?_eq_getElem h];rfl
theorem set_take{l:List Int}{j:Nat}(x:Int)(h:j<l.length):(l.set j x).take (j+1)=l.take j++[x]:=by rw[List.take_add_one,List.getElem?_set_self h,List.take_set_of_le (Nat.le_refl _)];rfl
theorem set_at{l:List Int}{j p:Nat}(x:Int)(h:j<p):(l.set j x).getD p 0=l.getD p 0:=by rw[List.getD_eq_getElem?_getD,List.getD_eq_getElem?_getD,List.getElem?_set_ne (by omega)]
theorem c_has{lf d:Nat}(hlf:33554432<=lf)(ns:List Int)(n:Int)(hs:ns.length<=16777216):Cc lf (d+1) 57 [.sl (IL ns),.i .i64 n]=some [.b (decide (n∈ns))]:=by
 refine(f57_eq (Cc lf d) lf (IL ns) n).trans ?_;unfold f57 f57_t;dsimp only;have L:=all_loop (F:=λm j=>f57_0 (Cc lf d) lf (IL ns) n m j) (P:=λj=>!(ns.getD j 0==n)) (X:=some [T.i .i64 0,T.b true]) (Y:=some [T.i .i64 1]) (len:=ns.length) (λm j hj=>by
  rw[f57_0];unfold f57_0_s;rw[iLt_t (by rw[IL_len];omega),inR_nat (by rw[IL_len];exact hj),Int.toNat_natCast,IL_at hj,wrap_next hj (by omega)];simp only[asI_i,cond_t];cases ns.getD j 0==n<;>rfl) (λm=>by
  rw[f57_0];unfold f57_0_s;rw[iLt_f (by rw[IL_len];omega)];rfl) (n:=lf) (by omega)
 rw[L];by_cases h:n∈ns
 ·have:allB (λj=>!(ns.getD j 0==n)) ns.length=false:=by
   obtain⟨j,hj,e⟩:=List.getElem_of_mem h;cases c:allB (λj=>!(ns.getD j 0==n)) ns.length with
   |false=>rfl
   |true=>have:=allB_iff.1 c j hj;rw[getD_of hj,e]at this;simp at this
  rw[this,decide_eq_true h];rfl
 ·have:allB (λj=>!(ns.getD j 0==n)) ns.length=true:=allB_iff.2 λj hj=>by
   rw[getD_of hj];cases e:ns[j]==n with
   |false=>rfl
   |true=>exact absurd ((beq_iff_eq.1 e)▸List.getElem_mem hj) h
  rw[this,decide_eq_false h];rfl
theorem c_l7Put{lf d:Nat}(hlf:33554432<=lf)(ns:List Int)(n:Int)(hs:ns.length<=16000000)(hr:Rise ns):∃ns',Cc lf (d+2) 38 [.sl (IL ns),.i .i64 n]=some [.sl (IL ns')]/\Rise ns'/\(∀x,x∈ns'↔x∈ns\/x=n)/\ns'.length<=ns.length+1:=by
 have E:=f38_eq (Cc lf (d+1)) lf (IL ns) n;unfold f38 f38_t at E;dsimp only at E;rw[c_has (d:=d) hlf ns n (by omega)]at E;simp only[Option.bind_some,nth0,asB_b]at E;by_cases h:n∈ns;· rw[decide_eq_true h]at E;exact⟨ns,E,hr,λx=>⟨.inl,λhx=>by rcases hx with hx|rfl;exact hx;exact h⟩,by omega⟩
 ·rw[decide_eq_false h,cond_f,nLe_t (by rw[IL_len];unfold LIM;simp only[List.length_nil];omega),nLe_app (by rw[List.nil_append,IL_len];omega)]at E;simp only[cond_t,List.nil_append]at E;have L:∀(k m:Nat)(ls:List Int),k<=ns.length->k<m->ls.length=ns.length+1->ls.take k=ns.take k->ls.drop (k+1)=ns.drop k->(∀y∈ns.drop k,n<y)->∃k' ls',f38_0 (Cc lf (d+1)) lf n m (k:Int) (IL ls)=some [T.i .i64 0,T.i .i64 n,T.i .i64 ((k':Nat):Int),T.sl (IL ls')]/\k'<=ns.length/\ls'.length=ns.length+1/\ls'.take k'=ns.take k'/\ls'.drop (k'+1)=ns.drop k'/\(∀y∈ns.drop k',n<y)/\(∀y∈ns.take k',y<=n):=by
   intro k;induction k with
   |zero=>intro m ls hk hm g h2 j q;obtain⟨m,rfl⟩:∃z,m=z+1:=⟨m-1,by omega⟩;refine⟨0,ls,?_,by omega,g,h2,j,q,λy hy=>by rw[List.take_zero]at hy;cases hy⟩;rw[f38_0];unfold f38_0_s;rw[iLt_f (by omega)];rfl
   |succ k ih=>
    intro m ls hk hm g h2 j q;obtain⟨m,rfl⟩:∃z,m=z+1:=⟨m-1,by omega⟩;have hkl:k<ns.length:=by omega
    have e1:ls.getD k 0=ns.getD k 0:=by have:=congrArg (λl=>l.getD k 0) h2;simp only[List.getD_eq_getElem?_getD,List.getElem?_take_of_lt (Nat.lt_succ_self k)]at this;rw[List.getD_eq_getElem?_getD,List.getD_eq_getElem?_getD];exact this
    rw[f38_0];unfold f38_0_s;rw[iLt_t (by omega),wrap_in (x:=((k+1:Nat):Int)-1) (by omega) (by omega),show((k+1:Nat):Int)-1=(k:Int)by omega,inR_nat (by rw[IL_len];omega),inR_nat (by rw[IL_len];omega),Int.toNat_natCast,Int.toNat_natCast,IL_at (by omega),e1];simp only[cond_t,asI_i];by_cases c:n<ns.getD k 0
    ·rw[iLt_t c,cond_t,IL_set];refine ih m (ls.set (k+1) (ns.getD k 0)) (by omega) (by omega) (by rw[List.length_set];exact g) ?_ ?_ λy hy=>?_;· rw[List.take_set_of_le (by omega)];have:=congrArg (List.take k) h2;rw[List.take_take,List.take_take,Nat.min_eq_left (by omega)]at this;exact this
     · rw[List.drop_eq_getElem_cons (by rw[List.length_set];omega),List.getElem_set_self,List.drop_set_of_lt (by omega),j,getD_of hkl,<-List.drop_eq_getElem_cons hkl]
     ·rw[List.drop_eq_getElem_cons hkl]at hy;rcases List.mem_cons.1 hy with rfl|hy
      · rw[<-getD_of hkl];exact c
      · exact q y hy
    ·rw[iLt_f c,cond_f];refine⟨k+1,ls,rfl,hk,g,h2,j,q,λy hy=>?_⟩;rw[take_succ hkl]at hy;rcases List.mem_append.1 hy with hy|hy
     · obtain⟨i,hi,e⟩:=List.getElem_of_mem hy;rw[List.length_take]at hi;have:=List.pairwise_iff_getElem.1 hr i k (by omega) hkl (by omega);rw[List.getElem_take]at e;rw[<-getD_of hkl]at this;omega
     · rw[List.mem_singleton.1 hy];omega
  have e0:(((IL ns)++([T.i .i64 n]:List T)).length:Int)-1=(ns.length:Int):=by rw[List.length_append,IL_len,List.length_singleton];omega
  rw[e0,wrap_in (by omega) (by omega),show IL ns++([T.i .i64 n]:List T)=IL (ns++[n])from IL_app ns [n]]at E;obtain⟨k',ls',e,D,F,v,A,B,C⟩:=L ns.length lf (ns++[n]) (Nat.le_refl _) (by omega) (by simp) (by rw[List.take_left,List.take_length]) (by rw[List.drop_eq_nil_of_le (by simp),List.drop_length]) (λy hy=>by rw[List.drop_length]at hy;cases hy);rw[e]at E;simp only[Option.bind_some,nth0,nthS,asI_i,asL_l]at E;rw[inR_nat (by rw[IL_len];omega),Int.toNat_natCast,IL_set]at E;have hset:ls'.set k' n=ns.take k'++n::ns.drop k':=by rw[<-v,<-A,List.set_eq_take_append_cons_drop,if_pos (by omega)]
  rw[hset]at E;have hlt:∀y∈ns.take k',y<n:=λy hy=>by
   have:=C y hy;rcases Int.lt_or_lt_of_ne (show y≠n fromλe=>h (e▸List.mem_of_mem_take hy))with h|h
   · exact h
   · omega
  exact⟨_,E,rise_ins hr hlt B,λx=>mem_ins,by rw[List.length_append,List.length_cons,List.length_take,List.length_drop];omega⟩
theorem c_l18Put{lf d:Nat}(hlf:33554432<=lf)(ns:List Int)(n:Int)(hs:ns.length<=16000000)(hr:Rise ns):∃ns',Cc lf (d+3) 26 [.sl (IL ns),.i .i64 n]=some [.sl (IL ns')]/\Rise ns'/\(∀x,x∈ns'↔x∈ns\/(0<=x/\x=n))/\ns'.length<=ns.length+1:=by
 have E:=f26_eq (Cc lf (d+2)) lf (IL ns) n;unfold f26 f26_t at E;by_cases h:n<0;· rw[iLt_t h]at E;exact⟨ns,E,hr,λx=>⟨.inl,λhx=>by rcases hx with hx|hx;exact hx;omega⟩,by omega⟩
 · rw[iLt_f h,cond_f]at E;obtain⟨ns',e,c,h2,g⟩:=c_l7Put (lf:=lf) (d:=d) hlf ns n hs hr;rw[e]at E;exact⟨ns',E,c,λx=>by rw[h2];constructor<;>(rintro(h|h);exact .inl h;first|exact .inr ⟨by omega,h⟩|exact .inr h.2),g⟩
def leadTo(rows maps:List T)(at_ root x:Int):Prop:=x=root\/x=at_\/(∃j,j<rows.length/\x=asI (T.cell (rows.getD j T.u) 4))\/∃i k,i<maps.length/\k<(asL (T.cell (maps.getD i T.u) 1)).length/\x=asI (T.cell ((asL (T.cell (maps.getD i T.u) 1)).getD k T.u) 1)
theorem c_sLiveOf{lf d:Nat}(hlf:33554432<=lf)(B:List T)(F n2:Int)(rows maps:List T)(m v:Int)(hr:rows.length<=1048576)(hm:maps.length+tls maps<=1048576):∃S,Cc lf (d+4) 12 [.st [.sl B,.i .i64 F,.i .i64 n2,.sl rows,.sl maps,.i .i64 m,.i .i64 v]]=some [.sl (IL S)]/\Rise S/\(∀x,x∈S↔0<=x/\leadTo rows maps m v x)/\S.length<=4194304:=by
 have E:=f12_eq (Cc lf (d+3)) lf B F n2 rows maps m v;unfold f12 f12_t at E;dsimp only at E;obtain⟨H,e1,r1,C,b1⟩:=c_l18Put (lf:=lf) (d:=d) hlf [] v (by simp) List.Pairwise.nil;rw[show IL []=([]:List T)from rfl]at e1;rw[e1]at E;simp only[Option.bind_some,nth0,asL_l]at E;simp only[List.length_nil]at b1;obtain⟨N,A,G,D,I⟩:=c_l18Put (lf:=lf) (d:=d) hlf H m (by omega) r1;rw[A]at E;simp only[Option.bind_some,nth0,asL_l]at E;have L0:∀(k j n:Nat)(s:List Int),j+k=rows.length->k<n->Rise s->s.length<=2+j->∃s',f12_0 (Cc lf (d+3)) lf B rows maps F n2 m v n (IL s) j=some [T.i .i64 0,T.sl (IL s'),T.sl B,T.i .i64 F,T.i .i64 n2,T.sl rows,T.sl maps,T.i .i64 m,T.i .i64 v]/\Rise s'/\(∀x,x∈s'↔x∈s\/(0<=x/\∃i,j<=i/\i<rows.length/\x=asI (T.cell (rows.getD i T.u) 4)))/\s'.length<=2+rows.length:=by
  intro k;induction k with
  |zero=>
   intro j n s hj hn hs hl;obtain⟨n,rfl⟩:∃z,n=z+1:=⟨n-1,by omega⟩;refine⟨s,?_,hs,λx=>⟨.inl,λh=>?_⟩,by omega⟩;· rw[f12_0];unfold f12_0_s;rw[iLt_f (by omega)];rfl
   ·rcases h with h|⟨_,i,hi,O,_⟩
    · exact h
    · omega
  |succ k ih=>
   intro j n s hj hn hs hl;obtain⟨n,rfl⟩:∃z,n=z+1:=⟨n-1,by omega⟩;have hjl:j<rows.length:=by omega
   rw[f12_0];unfold f12_0_s;obtain⟨H,e1,r1,C,b1⟩:=c_l18Put (lf:=lf) (d:=d) hlf s (asI (T.cell (rows.getD j T.u) 4)) (by omega) hs;rw[iLt_t (by omega),inR_nat hjl,Int.toNat_natCast,e1,wrap_next hjl (by omega)];simp only[cond_t,Option.bind_some,nth0,asL_l];obtain⟨s',A,G,D,I⟩:=ih (j+1) n H (by omega) (by omega) r1 (by omega);refine⟨s',A,G,λx=>?_,I⟩;rw[D,C];constructor
   ·rintro((h|⟨c,h2⟩)|⟨h0,i,c,h2,g⟩);· exact .inl h
    · exact .inr ⟨c,j,Nat.le_refl _,hjl,h2⟩
    · exact .inr ⟨h0,i,by omega,h2,g⟩
   ·rintro(h|⟨h0,i,c,h2,g⟩);· exact .inl (.inl h)
    ·by_cases e:i=j;· subst e;exact .inl (.inr ⟨h0,g⟩)
     · exact .inr ⟨h0,i,by omega,h2,g⟩
 have b2':N.length<=2:=by omega
 obtain⟨V,L,R,P,b3⟩:=L0 rows.length 0 lf N (by omega) (by omega) G (by omega);rw[show((0:Nat):Int)=0 from rfl]at L;rw[L]at E;simp only[Option.bind_some,nth0,nthS,asI_i,asL_l]at E;have In:∀(i:Nat),i<maps.length->∀(k q n:Nat)(s:List Int),q+k=(asL (T.cell (maps.getD i T.u) 1)).length->k<n->Rise s->s.length+k<=4194304->∃s',f12_2 (Cc lf (d+3)) lf (i:Int) B F n2 rows maps m v n (IL s) q=some [T.i .i64 0,T.sl (IL s'),T.i .i64 (i:Int),T.sl B,T.i .i64 F,T.i .i64 n2,T.sl rows,T.sl maps,T.i .i64 m,T.i .i64 v]/\Rise s'/\(∀x,x∈s'↔x∈s\/(0<=x/\∃z,q<=z/\z<(asL (T.cell (maps.getD i T.u) 1)).length/\x=asI (T.cell ((asL (T.cell (maps.getD i T.u) 1)).getD z T.u) 1)))/\s'.length<=s.length+k:=by
  intro i hi k;induction k with
  |zero=>
   intro q n s hj hn hs hl;obtain⟨n,rfl⟩:∃z,n=z+1:=⟨n-1,by omega⟩;refine⟨s,?_,hs,λx=>⟨.inl,λh=>?_⟩,by omega⟩;· rw[f12_2];unfold f12_2_s;rw[inR_nat hi,Int.toNat_natCast,iLt_f (by omega)];rfl
   ·rcases h with h|⟨_,z,hz,K,_⟩
    · exact h
    · omega
  |succ k ih=>
   intro q n s hj hn hs hl;obtain⟨n,rfl⟩:∃z,n=z+1:=⟨n-1,by omega⟩;have hql:q<(asL (T.cell (maps.getD i T.u) 1)).length:=by omega
   have hcl:=cellL_le (l:=maps) (j:=i) 1;rw[f12_2];unfold f12_2_s;obtain⟨H,e1,r1,C,b1⟩:=c_l18Put (lf:=lf) (d:=d) hlf s (asI (T.cell ((asL (T.cell (maps.getD i T.u) 1)).getD q T.u) 1)) (by omega) hs;rw[inR_nat hi,Int.toNat_natCast,iLt_t (by omega),inR_nat hql,Int.toNat_natCast,e1,wrap_next hql (by omega)];simp only[cond_t,Option.bind_some,nth0,asL_l];obtain⟨s',A,G,D,I⟩:=ih (q+1) n H (by omega) (by omega) r1 (by omega);refine⟨s',A,G,λx=>?_,by omega⟩;rw[D,C];constructor
   ·rintro((h|⟨c,h2⟩)|⟨h0,i,c,h2,g⟩);· exact .inl h
    · exact .inr ⟨c,q,Nat.le_refl _,hql,h2⟩
    · exact .inr ⟨h0,i,by omega,h2,g⟩
   ·rintro(h|⟨h0,z,c,h2,g⟩);· exact .inl (.inl h)
    ·by_cases e:z=q;· subst e;exact .inl (.inr ⟨h0,g⟩)
     · exact .inr ⟨h0,z,by omega,h2,g⟩
 have cnt:∀j:Nat,j<maps.length->tls (maps.drop j)>=(asL (T.cell (maps.getD j T.u) 1)).length+tls (maps.drop (j+1)):=λj hj=>by
  rw[List.drop_eq_getElem_cons hj];have:=cellL_le (l:=[maps[j]]) (j:=0) 1;have e:([maps[j]]:List T).getD 0 T.u=maps.getD j T.u:=by rw[List.getD_eq_getElem?_getD,List.getD_eq_getElem?_getD,List.getElem?_eq_getElem hj];rfl
  rw[e]at this;simp only[tls]at this|-;omega
 have L1:∀(k i n:Nat)(s:List Int),i+k=maps.length->k<n->Rise s->s.length+tls (maps.drop i)<=4194304->∃s',f12_1 (Cc lf (d+3)) lf n (IL s) i B F n2 rows maps m v=some [T.i .i64 0,T.sl (IL s')]/\Rise s'/\(∀x,x∈s'↔x∈s\/(0<=x/\∃z q,i<=z/\z<maps.length/\q<(asL (T.cell (maps.getD z T.u) 1)).length/\x=asI (T.cell ((asL (T.cell (maps.getD z T.u) 1)).getD q T.u) 1)))/\s'.length<=4194304:=by
  intro k;induction k with
  |zero=>
   intro i n s hj hn hs hl;obtain⟨n,rfl⟩:∃z,n=z+1:=⟨n-1,by omega⟩;refine⟨s,?_,hs,λx=>⟨.inl,λh=>?_⟩,by omega⟩;· rw[f12_1];unfold f12_1_s;rw[iLt_f (by omega)];rfl
   ·rcases h with h|⟨_,z,q,hz,K,_⟩
    · exact h
    · omega
  |succ k ih=>
   intro i n s hj hn hs hl;obtain⟨n,rfl⟩:∃z,n=z+1:=⟨n-1,by omega⟩;have hil:i<maps.length:=by omega
   have hc:=cnt i hil;have hcl:=cellL_le (l:=maps) (j:=i) 1;rw[f12_1];unfold f12_1_s;dsimp only;obtain⟨H,e1,r1,C,b1⟩:=In i hil (asL (T.cell (maps.getD i T.u) 1)).length 0 lf s (by omega) (by omega) hs (by omega);rw[show((0:Nat):Int)=0 from rfl]at e1;rw[iLt_t (by omega),e1];simp only[cond_t,Option.bind_some,nth0,nthS,asI_i,asL_l];rw[wrap_next hil (by omega)];obtain⟨s',A,G,D,I⟩:=ih (i+1) n H (by omega) (by omega) r1 (by omega);refine⟨s',A,G,λx=>?_,I⟩;rw[D,C];constructor
   ·rintro((h|⟨c,z,_,h2,g⟩)|⟨h0,z,q,c,h2,g,J⟩);· exact .inl h
    · exact .inr ⟨c,i,z,Nat.le_refl _,hil,h2,g⟩
    · exact .inr ⟨h0,z,q,by omega,h2,g,J⟩
   ·rintro(h|⟨h0,z,q,c,h2,g,J⟩);· exact .inl (.inl h)
    ·by_cases e:z=i;· subst e;exact .inl (.inr ⟨h0,q,Nat.zero_le _,g,J⟩)
     · exact .inr ⟨h0,z,q,by omega,h2,g,J⟩
 obtain⟨W,M,U,Q,b4⟩:=L1 maps.length 0 lf V (by omega) (by omega) R (by rw[List.drop_zero];omega);rw[show((0:Nat):Int)=0 from rfl]at M;rw[M]at E;refine⟨W,E,U,λx=>?_,b4⟩;rw[Q,P,D,C];unfold leadTo;constructor
 ·rintro((((h|⟨c,h2⟩)|⟨c,h2⟩)|⟨h0,j,_,c,h2⟩)|⟨h0,z,q,_,c,h2,g⟩);· cases h
  · exact⟨c,.inl h2⟩
  · exact⟨c,.inr (.inl h2)⟩
  · exact⟨h0,.inr (.inr (.inl ⟨j,c,h2⟩))⟩
  · exact⟨h0,.inr (.inr (.inr ⟨z,q,c,h2,g⟩))⟩
 ·rintro⟨h0,h|h|⟨j,c,h2⟩|⟨z,q,c,h2,g⟩⟩;· exact .inl (.inl (.inl (.inr ⟨h0,h⟩)))
  · exact .inl (.inl (.inr ⟨h0,h⟩))
  · exact .inl (.inr ⟨h0,j,Nat.zero_le _,c,h2⟩)
  · exact .inr ⟨h0,z,q,Nat.zero_le _,c,h2,g⟩
def plIn(maps:List T)(i:Nat)(x:Int):Bool:=if i<maps.length then !allB (λk=>!(asI (T.cell ((asL (T.cell (maps.getD i T.u) 1)).getD k T.u) 1)==x)) (asL (T.cell (maps.getD i T.u) 1)).length else false
theorem plIn_iff{maps:List T}{i:Nat}{x:Int}:plIn maps i x=true↔(i<maps.length/\∃k,k<(asL (T.cell (maps.getD i T.u) 1)).length/\x=asI (T.cell ((asL (T.cell (maps.getD i T.u) 1)).getD k T.u) 1)):=by
 unfold plIn;by_cases h:i<maps.length
 ·rw[if_pos h];constructor
  ·intro h2;refine⟨h,Classical.byContradiction λhno=>?_⟩;have:allB (λk=>!(asI (T.cell ((asL (T.cell (maps.getD i T.u) 1)).getD k T.u) 1)==x)) (asL (T.cell (maps.getD i T.u) 1)).length=true:=allB_iff.2 λk hk=>by
    cases e:asI (T.cell ((asL (T.cell (maps.getD i T.u) 1)).getD k T.u) 1)==x with
    |false=>rfl
    |true=>exact absurd ⟨k,hk,(beq_iff_eq.1 e).symm⟩ hno
   rw[this]at h2;cases h2
  ·rintro⟨_,k,hk,e⟩;cases h2:allB (λk=>!(asI (T.cell ((asL (T.cell (maps.getD i T.u) 1)).getD k T.u) 1)==x)) (asL (T.cell (maps.getD i T.u) 1)).length with
   |false=>rfl
   |true=>have:=allB_iff.1 h2 k hk;rw[<-e,beq_self_eq_true]at this;cases this
 · rw[if_neg h];exact⟨λh=>(by cases h),λh2=>absurd h2.1 h⟩
theorem pl_loop{F:Nat->Int->Option (List T)}{maps:List T}{i:Nat}{x:Int}(hm:maps.length+tls maps<=1048576)(hF:∀(n:Nat)(k:Int),F (n+1) k=bif iLt (i:Int) (maps.length:Int)then bif inR (i:Int) maps.length then bif iLt k ((asL (T.cell (maps.getD (i:Int).toNat T.u) 1)).length:Int)then bif inR (i:Int) maps.length then bif inR k (asL (T.cell (maps.getD (i:Int).toNat T.u) 1)).length then bif asI (T.cell ((asL (T.cell (maps.getD (i:Int).toNat T.u) 1)).getD k.toNat T.u) 1)==x then some [T.i .i64 0,T.b true]else F n (IntKind.wrap .i64 (k+1))else none else none else some [T.i .i64 1]else none else some [T.i .i64 1]){n:Nat}(hn:33554432<=n):F n 0=bif plIn maps i x then some [T.i .i64 0,T.b true]else some [T.i .i64 1]:=by
 unfold plIn;by_cases h:i<maps.length
 ·rw[if_pos h];have hc:=cellL_le (l:=maps) (j:=i) 1;have L:=all_loop (F:=F) (P:=λk=>!(asI (T.cell ((asL (T.cell (maps.getD i T.u) 1)).getD k T.u) 1)==x)) (X:=some [T.i .i64 0,T.b true]) (Y:=some [T.i .i64 1]) (len:=(asL (T.cell (maps.getD i T.u) 1)).length) (λn k hk=>by
   rw[hF,iLt_t (by omega),inR_nat h,Int.toNat_natCast,iLt_t (by omega),inR_nat hk,Int.toNat_natCast,wrap_next hk (by omega)];simp only[cond_t,cond_not]) (λn=>by
   rw[hF,iLt_t (by omega),inR_nat h,Int.toNat_natCast,iLt_f (by omega)];rfl) (n:=n) (by omega)
  rw[L];cases allB (λk=>!(asI (T.cell ((asL (T.cell (maps.getD i T.u) 1)).getD k T.u) 1)==x)) (asL (T.cell (maps.getD i T.u) 1)).length<;>rfl
 · rw[if_neg h];obtain⟨n,rfl⟩:∃z,n=z+1:=⟨n-1,by omega⟩;rw[hF,iLt_f (by omega)];rfl
open Classical in
theorem c_sLeads{lf d:Nat}(hlf:33554432<=lf)(j:List T)(m n2:Int)(rows maps:List T)(q v:Int)(hm:maps.length+tls maps<=1048576)(i:Nat)(x:Int):Cc lf (d+1) 13 [.st [.sl j,.i .i64 m,.i .i64 n2,.sl rows,.sl maps,.i .i64 q,.i .i64 v],.i .i64 (i:Int),.i .i64 x]=some [.b (decide (leadV rows maps i x))]:=by
 refine(f13_eq (Cc lf d) lf j m n2 rows maps q v (i:Int) x).trans ?_;unfold f13 f13_t;dsimp only;rw[pl_loop (F:=λn k=>f13_0 (Cc lf d) lf j rows maps (i:Int) x m n2 q v n k) hm (λn k=>rfl) hlf,pl_loop (F:=λn k=>f13_1 (Cc lf d) lf j rows maps (i:Int) x m n2 q v n k) hm (λn k=>rfl) hlf];have hp:=plIn_iff (maps:=maps) (i:=i) (x:=x);by_cases h:i<rows.length
 ·rw[iLt_t (by omega),inR_nat h,Int.toNat_natCast];simp only[cond_t];cases e:asI (T.cell (rows.getD i T.u) 4)==x with
  |true=>rw[decide_eq_true (show leadV rows maps i x from .inl ⟨h,(beq_iff_eq.1 e).symm⟩)];rfl
  |false=>
   cases c:plIn maps i x with
   |true=>rw[decide_eq_true (show leadV rows maps i x from .inr (hp.1 c))];rfl
   |false=>
    rw[decide_eq_false (show¬leadV rows maps i x fromλh2=>by
     rcases h2 with⟨_,g⟩|g
     · rw[g,beq_self_eq_true]at e;cases e
     · rw[hp.2 g]at c;cases c)]
    rfl
 ·rw[iLt_f (by omega)];cases c:plIn maps i x with
  |true=>rw[decide_eq_true (show leadV rows maps i x from .inr (hp.1 c))];rfl
  |false=>
   rw[decide_eq_false (show¬leadV rows maps i x fromλh2=>by
    rcases h2 with⟨g,_⟩|g
    · exact h g
    · rw[hp.2 g]at c;cases c)]
   rfl
open Classical in
theorem by_loop{lf d:Nat}(hlf:33554432<=lf)(g:List T)(h n2:Int)(rows maps:List T)(m v:Int)(hr:rows.length<=1048576)(hm:maps.length+tls maps<=1048576)(q:Int)(S:List Int)(j:Nat)(hj:j<S.length):∀(k i n:Nat),i+k=max rows.length maps.length->k<n->f5_1 (Cc lf (d+1)) lf q (IL S) (j:Int) g h n2 rows maps m v n ((cntB (λi=>decide (leadV rows maps i (S.getD j 0))) i:Nat):Int) (i:Int)=some [T.i .i64 0,T.i .i64 q,T.sl (IL S),T.i .i64 (j:Int),T.i .i64 ((byN rows maps (S.getD j 0):Nat):Int),T.sl g,T.i .i64 h,T.i .i64 n2,T.sl rows,T.sl maps,T.i .i64 m,T.i .i64 v]:=by
 intro k;have x:=Nat.le_max_left rows.length maps.length;have h2:=Nat.le_max_right rows.length maps.length;have A:max rows.length maps.length<=1048576:=Nat.max_le.2 ⟨hr,by omega⟩;have B:max rows.length maps.length=rows.length\/max rows.length maps.length=maps.length:=by
  by_cases c:rows.length<=maps.length;· exact .inr (Nat.max_eq_right c)
  · exact .inl (Nat.max_eq_left (by omega))
 induction k with
 |zero=>
  intro i n hi hn;obtain⟨n,rfl⟩:∃z,n=z+1:=⟨n-1,by omega⟩;rw[f5_1];unfold f5_1_s;rw[iLt_f (by omega),iLt_f (by omega)];have e:i=max rows.length maps.length:=by omega
  rw[e];rfl
 |succ k ih=>
  intro i n hi hn;obtain⟨n,rfl⟩:∃z,n=z+1:=⟨n-1,by omega⟩;have hc:=cntB_le (λi=>decide (leadV rows maps i (S.getD j 0))) i;have I:=ih (i+1) n (by omega) (by omega);have e:cntB (λi=>decide (leadV rows maps i (S.getD j 0))) (i+1)=bif decide (leadV rows maps i (S.getD j 0))then cntB (λi=>decide (leadV rows maps i (S.getD j 0))) i+1 else cntB (λi=>decide (leadV rows maps i (S.getD j 0))) i:=rfl
  rw[e]at I;rw[f5_1];unfold f5_1_s;have hin:inR (j:Int) (IL S).length=true:=by rw[IL_len];exact inR_nat hj
  have step:∀b,decide (leadV rows maps i (S.getD j 0))=b->(bif b then f5_1 (Cc lf (d+1)) lf q (IL S) (j:Int) g h n2 rows maps m v n (IntKind.wrap .i64 (((cntB (λi=>decide (leadV rows maps i (S.getD j 0))) i:Nat):Int)+1)) ((i+1:Nat):Int)else f5_1 (Cc lf (d+1)) lf q (IL S) (j:Int) g h n2 rows maps m v n ((cntB (λi=>decide (leadV rows maps i (S.getD j 0))) i:Nat):Int) ((i+1:Nat):Int))=some [T.i .i64 0,T.i .i64 q,T.sl (IL S),T.i .i64 (j:Int),T.i .i64 ((byN rows maps (S.getD j 0):Nat):Int),T.sl g,T.i .i64 h,T.i .i64 n2,T.sl rows,T.sl maps,T.i .i64 m,T.i .i64 v]:=λb hb=>by
   rw[hb]at I;cases b with
   |true=>rw[cond_true]at I|-;rw[wrap_in (by omega) (by omega),show((cntB (λi=>decide (leadV rows maps i (S.getD j 0))) i:Nat):Int)+1=((cntB (λi=>decide (leadV rows maps i (S.getD j 0))) i+1:Nat):Int)by omega];exact I
   |false=>rw[cond_false]at I|-;exact I
  have hx:asI ((IL S).getD (j:Int).toNat T.u)=S.getD j 0:=by rw[Int.toNat_natCast,IL_at hj];rfl
  rw[hin,hx,c_sLeads (d:=d) hlf g h n2 rows maps m v hm i (S.getD j 0),wrap_next (show i<max rows.length maps.length by omega) (by omega)];simp only[Option.bind_some,nth0,asB_b,cond_t];by_cases c:i<rows.length;· rw[iLt_t (by omega),cond_t];exact step _ rfl
  · rw[iLt_f (by omega),iLt_t (by omega),cond_f,cond_t];exact step _ rfl
theorem c_sShared{lf d:Nat}(hlf:33554432<=lf)(m:List T)(q n2:Int)(rows maps:List T)(g h:Int)(hr:rows.length<=1048576)(hm:maps.length+tls maps<=1048576):∃S,Cc lf (d+5) 5 [.st [.sl m,.i .i64 q,.i .i64 n2,.sl rows,.sl maps,.i .i64 g,.i .i64 h]]=some [.i .i64 ((S.filter λx=>decide (1<byN rows maps x)).length:Int)]/\Rise S/\(∀x,x∈S↔0<=x/\leadTo rows maps g h x)/\S.length<=4194304:=by
 obtain⟨S,eS,rS,mS,lS⟩:=c_sLiveOf (d:=d) hlf m q n2 rows maps g h hr hm;refine⟨S,?_,rS,mS,lS⟩;refine(f5_eq (Cc lf (d+4)) lf m q n2 rows maps g h).trans ?_;unfold f5 f5_t;dsimp only;rw[eS];simp only[Option.bind_some,nth0,asL_l];have L:∀(k j n:Nat),j+k=S.length->k<n->f5_0 (Cc lf (d+4)) lf n (((S.take j).filter λx=>decide (1<byN rows maps x)).length:Int) (IL S) (j:Int) m q n2 rows maps g h=some [T.i .i64 0,T.i .i64 ((S.filter λx=>decide (1<byN rows maps x)).length:Int)]:=by
  intro k;induction k with
  |zero=>intro j n hj hn;obtain⟨n,rfl⟩:∃z,n=z+1:=⟨n-1,by omega⟩;rw[f5_0];unfold f5_0_s;rw[IL_len,iLt_f (by omega),List.take_of_length_le (by omega)];rfl
  |succ k ih=>
   intro j n hj hn;obtain⟨n,rfl⟩:∃z,n=z+1:=⟨n-1,by omega⟩;have hjl:j<S.length:=by omega
   rw[f5_0];unfold f5_0_s;dsimp only;have v:max rows.length maps.length<=1048576:=Nat.max_le.2 ⟨hr,by omega⟩;have B:=by_loop (lf:=lf) (d:=d+3) hlf m q n2 rows maps g h hr hm (((S.take j).filter λx=>decide (1<byN rows maps x)).length:Int) S j hjl (max rows.length maps.length) 0 lf (by omega) (by omega);rw[IL_len,iLt_t (by omega),cond_t,show f5_1 (Cc lf (d+4)) lf (((S.take j).filter λx=>decide (1<byN rows maps x)).length:Int) (IL S) (j:Int) m q n2 rows maps g h lf 0 0=_ from B];simp only[Option.bind_some,nth0,nthS,asI_i,asL_l];have hle:=List.length_filter_le (λx=>decide (1<byN rows maps x)) (S.take j);rw[List.length_take]at hle;have hmin:=Nat.min_le_left j S.length;have I:=ih (j+1) n (by omega) (by omega);rw[take_succ hjl,List.filter_append,List.length_append]at I;rw[wrap_next hjl (by omega)];by_cases c:1<byN rows maps (S.getD j 0);· rw[iLt_t (by omega),cond_t,wrap_in (by omega) (by omega)];rw[List.filter_cons_of_pos (by simpa using c)]at I;simp only[List.filter_nil,List.length_cons,List.length_nil]at I;refine Eq.trans ?_ I;congr 1
   · rw[iLt_f (by omega),cond_f];rw[List.filter_cons_of_neg (by simpa using c)]at I;simp only[List.filter_nil,List.length_nil,Nat.add_zero]at I;exact I
 have e:=L S.length 0 lf (by omega) (by omega);rw[show(((S.take 0).filter λx=>decide (1<byN rows maps x)).length:Int)=0 from rfl,show((0:Nat):Int)=0 from rfl]at e;rw[e];rfl
theorem liveImg{c:List T}{g n2:Int}{rows maps:List T}{h j:Int}(z:tl (.st [.sl c,.i .i64 g,.i .i64 n2,.sl rows,.sl maps,.i .i64 h,.i .i64 j])<=1048576):rows.length<=1048576/\maps.length+tls maps<=1048576:=by simp only[tl,tls]at z;omega
open Classical in
theorem byN_lead{rows maps:List T}{j m x:Int}(h:0<byN rows maps x):leadTo rows maps j m x:=by
 refine Classical.byContradiction λhno=>?_;have:cntB (λi=>decide (leadV rows maps i x)) (max rows.length maps.length)=cntB (λ_=>false) (max rows.length maps.length):=Z.cntB_congr λi _=>decide_eq_false λq=>hno (by
  rcases q with⟨c,h2⟩|⟨c,k,h2,g⟩
  · exact .inr (.inr (.inl ⟨i,c,h2⟩))
  · exact .inr (.inr (.inr ⟨i,k,c,h2,g⟩)))
 have key:∀n,cntB (λ_=>false) n=0:=λn=>by
  induction n with
  |zero=>rfl
  |succ n ih=>exact ih
 unfold byN at h;rw[this,key]at h;omega
theorem same{lf:Nat}(hlf:33554432<=lf)(c:List T)(g n2:Int)(rows maps:List T)(j k:Int)(hf:fitE true csfit_MisbiMiiiScMsiEMssEEiEiiMisbiiEMiMiiEEii (.st [.sl c,.i .i64 g,.i .i64 n2,.sl rows,.sl maps,.i .i64 j,.i .i64 k]))(z:tl (.st [.sl c,.i .i64 g,.i .i64 n2,.sl rows,.sl maps,.i .i64 j,.i .i64 k])<=1048576):∃r,Cc lf 13 5 [.st [.sl c,.i .i64 g,.i .i64 n2,.sl rows,.sl maps,.i .i64 j,.i .i64 k]]=some [r]/\Cc lf 13 7 [.st [.sl c,.i .i64 g,.i .i64 n2,.sl rows,.sl maps,.i .i64 j,.i .i64 k]]=some [r]/\(fitC (.i .i64) r/\tl r<=16777216)/\True:=by
 obtain⟨hr,hm⟩:=liveImg z;obtain⟨S,eS,rS,mS,lS⟩:=c_sShared (d:=8) hlf c g n2 rows maps j k hr hm;obtain⟨S2,nS2,mS2,eI⟩:=Z.shared_val c g n2 rows maps j k hr hm;have hn:(S.filter λx=>decide (1<byN rows maps x)).Nodup:=List.Pairwise.filter _ (rS.imp λh=>by omega);have hmem:∀x,x∈(S.filter λx=>decide (1<byN rows maps x))↔x∈S2:=λx=>by rw[List.mem_filter,mS,mS2,decide_eq_true_iff];exact⟨λ⟨⟨a,_⟩,b⟩=>⟨a,b⟩,λ⟨a,b⟩=>⟨⟨a,byN_lead (by omega)⟩,b⟩⟩
 have e:(S.filter λx=>decide (1<byN rows maps x)).length=S2.length:=Nat.le_antisymm (Z.nodup_sub hn λx hx=>(hmem x).1 hx) (Z.nodup_sub nS2 λx hx=>(hmem x).2 hx);have hl:=List.length_filter_le (λx=>decide (1<byN rows maps x)) S;rw[e]at eS hl;exact⟨_,eS,eI,⟨⟨rfl,wf64 (by omega) (by omega)⟩,Nat.zero_le _⟩,trivial⟩
theorem lawB{lf:Nat}(hlf:33554432<=lf){t0:T}(z:fitE true csfit_MisbiMiiiScMsiEMssEEiEiiMisbiiEMiMiiEEii t0):Cc lf 14 3 [t0]=some [.b true]:=by
 have v:=z;obtain⟨c,g,h,j,k,m,q,rfl,A,B,C,D,E,F,G⟩:=fit_MisbiMiiiScMsiEMssEEiEiiMisbiiEMiMiiEEii z;refine(f3_eq (Cc lf 13) lf c g h j k m q).trans ?_;unfold f3 f3_t;rcases sz4 hlf (d:=13) (by omega) _ v 1048576 (by omega) (by omega)with e|⟨y1,e1,J,I⟩
 · rw[e];rfl
 rw[e1];simp only[Option.bind_some,nth0,asI_i];rw[iLt_f (show¬y1<0 by omega),cond_f];have z0:tl (T.st [T.sl c,T.i .i64 g,T.i .i64 h,T.sl j,T.sl k,T.i .i64 m,T.i .i64 q])<=1048576:=by omega
 have eT0:=to6 hlf (d:=13) (by omega) _ v (by omega);obtain⟨K,eS,eI,⟨x,H⟩,_⟩:=same hlf c g h j k m q v z0;have hR0:=x;obtain⟨R0_0,rfl,W0_0⟩:=fitC_i x;have eX0:=eq8 hlf (d:=13) (by omega) _ v (by omega);simp only[eT0,eS,eI,eX0,Option.bind_some,nth0,nthS,asI_i,asL_l,asB_b,asS_s,cell0,cellS,beq_self_eq_true,bne_self_eq_false,Bool.not_true,Bool.and_true,cond_f,cond_t]
end Go.Proofs.Ytgnnlojbjjejcaa.T
