/- What functions of the law FnExactSharedOf come to, in trees; no condition. -/
import Derived.Test.YtgnnlojbjjejcaaRows
import Derived.Test.YtgnnlojbjjejcaaX2
set_option linter.unusedVariables false
set_option linter.constructorNameAsVariable false
set_option linter.unusedSimpArgs false
set_option linter.unnecessarySimpa false
namespace Go.Proofs.Ytgnnlojbjjejcaa.T
open Go Go.Proofs.YtgnnlojbjjejcaaV
set_option maxRecDepth 100000
def leadV(rows maps:List T)(i:Nat)(x:Int):Prop:=(i<rows.length/\x=asI (T.cell (rows.getD i T.u) 4))\/(i<maps.length/\∃k,k<(asL (T.cell (maps.getD i T.u) 1)).length/\x=asI (T.cell ((asL (T.cell (maps.getD i T.u) 1)).getD k T.u) 1))
open Classical in
noncomputable def byN(rows maps:List T)(x:Int):Nat:=cntB (λi=>decide (leadV rows maps i x)) (max rows.length maps.length)
namespace Z
noncomputable abbrev Cc(lf d:Nat):Orc:=orc X0 env lf 6 d
theorem cellL_le{l:List T}{j:Nat}(k:Nat):(asL (T.cell (l.getD j T.u) k)).length+tls (asL (T.cell (l.getD j T.u) k))<=tls l:=by
 by_cases h:j<l.length
 ·have g:=tl_mem (List.getElem_mem h);rw[List.getD_eq_getElem?_getD,List.getElem?_eq_getElem h];show(asL (T.cell l[j] k)).length+tls (asL (T.cell l[j] k))<=_;cases e:l[j]<;>try (simp only[T.cell,asL,tls];exact Nat.zero_le _)
  rename_i xs;rw[e]at g;simp only[T.cell,tl]at g|-;cases c:xs[k]? with
  |none=>rw[List.getD_eq_getElem?_getD,c];exact Nat.zero_le _
  |some x=>
   rw[List.getD_eq_getElem?_getD,c];have m:=tl_mem (List.mem_of_getElem? c);show(asL x).length+tls (asL x)<=_;cases x<;>try (exact Nat.zero_le _)
   simp only[tl,asL]at m|-;omega
 · rw[List.getD_eq_getElem?_getD,List.getElem?_eq_none (by omega)];exact Nat.zero_le _
abbrev IL(ns:List Int):List T:=ns.map (T.i .i64)
theorem IL_at{ns:List Int}{j:Nat}(h:j<ns.length):(IL ns).getD j T.u=.i .i64 (ns.getD j 0):=by rw[List.getD_eq_getElem?_getD,List.getElem?_map,List.getElem?_eq_getElem h,List.getD_eq_getElem?_getD,List.getElem?_eq_getElem h];rfl
theorem IL_len(ns:List Int):(IL ns).length=ns.length:=List.length_map ..
theorem IL_app(a b:List Int):IL a++IL b=IL (a++b):=(List.map_append ..).symm
theorem IL_asI(ns:List Int):(IL ns).map asI=ns:=by rw[List.map_map];exact(List.map_congr_left λx _=>rfl).trans (List.map_id _)
theorem IL_set(ns:List Int)(j:Nat)(x:Int):(IL ns).set j (.i .i64 x)=IL (ns.set j x):=List.map_set.symm
def Rise(l:List Int):Prop:=l.Pairwise (· <·)
theorem rise_app{a:List Int}{x:Int}(h:Rise a)(hx:∀y∈a,y<x):Rise (a++[x]):=by refine List.pairwise_append.2 ⟨h,List.pairwise_singleton _ _,λy hy z hz=>?_⟩;rw[List.mem_singleton.1 hz];exact hx y hy
theorem rise_ins{a:List Int}{k:Nat}{n:Int}(h:Rise a)(c:∀y∈a.take k,y<n)(h2:∀y∈a.drop k,n<y):Rise (a.take k++n::a.drop k):=by
 have hs:=List.take_append_drop k a▸h;obtain⟨p1,p2,p3⟩:=List.pairwise_append.1 hs;refine List.pairwise_append.2 ⟨p1,List.pairwise_cons.2 ⟨h2,p2⟩,λy hy z hz=>?_⟩;rcases List.mem_cons.1 hz with rfl|hz
 · exact c y hy
 · exact p3 y hy z hz
theorem mem_ins{a:List Int}{k:Nat}{n x:Int}:x∈a.take k++n::a.drop k↔x∈a\/x=n:=by
 have:x∈a↔x∈a.take k\/x∈a.drop k:=by
  conv=>lhs;rw[<-List.take_append_drop k a]
  exact List.mem_append
 rw[this,List.mem_append,List.mem_cons];constructor
 ·rintro(h|h|h);· exact .inl (.inl h)
  · exact .inr h
  · exact .inl (.inr h)
 ·rintro((h|h)|h);· exact .inl h
  · exact .inr (.inr h)
  · exact .inr (.inl h)
theorem getD_of{l:List Int}{j:Nat}(h:j<l.length):l.getD j 0=l[j]:=by rw[List.getD_eq_getElem?_getD,List.getElem?_eq_getElem h];rfl
theorem take_succ{l:List Int}{j:Nat}(h:j<l.length):l.take (j+1)=l.take j++[l.getD j 0]:=by rw[getD_of h,List.take_add_one,List.getElem?_eq_getElem h];rfl
theorem set_take{l:List Int}{j:Nat}(x:Int)(h:j<l.length):(l.set j x).take (j+1)=l.take j++[x]:=by rw[List.take_add_one,List.getElem?_set_self h,List.take_set_of_le (Nat.le_refl _)];rfl
theorem set_at{l:List Int}{j p:Nat}(x:Int)(h:j<p):(l.set j x).getD p 0=l.getD p 0:=by rw[List.getD_eq_getElem?_getD,List.getD_eq_getElem?_getD,List.getElem?_set_ne (by omega)]
abbrev LL(L:List (List Int)):List T:=L.map λns=>T.sl (IL ns)
theorem LL_len(L:List (List Int)):(LL L).length=L.length:=List.length_map ..
theorem LL_at{L:List (List Int)}{j:Nat}(h:j<L.length):(LL L).getD j T.u=.sl (IL (L.getD j [])):=by rw[List.getD_eq_getElem?_getD,List.getElem?_map,List.getElem?_eq_getElem h,List.getD_eq_getElem?_getD,List.getElem?_eq_getElem h];rfl
theorem LL_set(L:List (List Int))(j:Nat)(ns:List Int):(LL L).set j (.sl (IL ns))=LL (L.set j ns):=List.map_set.symm
theorem intsOk(ns:List Int):okC (.sl false [.i .i64]) (.sl (IL ns))=true:=by show okL false [.i .i64] _=true;rw[okL_all,List.all_eq_true];intro x hx;obtain⟨n,_,rfl⟩:=List.mem_map.1 hx;rfl
theorem LL_ok(L:List (List Int)):okL false [.sl false [.i .i64]] (LL L)=true:=by rw[okL_all,List.all_eq_true];intro x hx;obtain⟨ns,_,rfl⟩:=List.mem_map.1 hx;exact intsOk ns
def addA(L:List (List Int))(j:Nat)(a:Int):List (List Int):=L.set j (L.getD j []++[a])
theorem LL_add{L:List (List Int)}{j:Nat}(h:j<L.length)(a:Int):((LL L).set j T.u).set j (T.sl ((asL ((LL L).getD j T.u))++[T.i .i64 a]))=LL (addA L j a):=by rw[List.set_set,LL_at h];show(LL L).set j (T.sl (IL (L.getD j [])++[T.i .i64 a]))=_;rw[show IL (L.getD j [])++[T.i .i64 a]=IL (L.getD j []++[a])from IL_app _ [a],LL_set];rfl
theorem addA_len(L:List (List Int))(j:Nat)(a:Int):(addA L j a).length=L.length:=List.length_set ..
theorem addA_tot{L:List (List Int)}{j:Nat}(h:j<L.length)(a:Int):(addA L j a).flatten.length=L.flatten.length+1:=by
 have hs:addA L j a=L.take j++(L.getD j []++[a])::L.drop (j+1):=by unfold addA;rw[List.set_eq_take_append_cons_drop,if_pos h]
 have ho:L=L.take j++L.getD j []::L.drop (j+1):=by
  conv=>lhs;rw[<-List.take_append_drop j L,List.drop_eq_getElem_cons h]
  rw[List.getD_eq_getElem?_getD,List.getElem?_eq_getElem h];rfl
 rw[hs];conv=>rhs;rw[ho]
 simp only[List.flatten_append,List.flatten_cons,List.length_append,List.length_singleton];omega
theorem inner_le{L:List (List Int)}{j:Nat}(h:j<L.length):(L.getD j []).length<=L.flatten.length:=by
 rw[List.getD_eq_getElem?_getD,List.getElem?_eq_getElem h];show L[j].length<=_;have:=List.getElem_mem h;generalize L[j]=x at this;clear h;induction L with
 |nil=>cases this
 |cons y L ih=>
  rw[List.flatten_cons,List.length_append];rcases List.mem_cons.1 this with rfl|h
  · omega
  · have:=ih h;omega
theorem c_sort{lf d:Nat}(ns:List Int)(h:ns.length<=16777216):Cc lf (d+1) 18 [.sl (IL ns)]=some [.sl (IL (ns.mergeSort λx y=>decide (x<=y)))]:=by show(bif nLe (IL ns).length LIM then some [T.sl (sortI (IL ns))]else none)=_;rw[nLe_t (by rw[IL_len];unfold LIM;omega)];show some [T.sl ((((IL ns).map asI).mergeSort λx y=>decide (x<=y)).map (T.i .i64))]=_;rw[IL_asI]
abbrev Sorted(l:List Int):Prop:=l.Pairwise (· <=·)
theorem sort_le{l:List Int}(h:Sorted l){i j:Nat}(hij:i<=j)(hj:j<l.length):l.getD i 0<=l.getD j 0:=by
 rw[getD_of hj,getD_of (show i<l.length by omega)];rcases Nat.lt_or_ge i j with c|c
 · exact List.pairwise_iff_getElem.1 h i j (by omega) hj c
 ·have:i=j:=by omega
  subst this;exact Int.le_refl _
theorem mem_take{l:List Int}{q:Nat}{x:Int}(h:x∈l.take q):∃i,i<q/\i<l.length/\x=l.getD i 0:=by obtain⟨i,hi,e⟩:=List.mem_iff_getElem.1 h;rw[List.length_take]at hi;rw[List.getElem_take]at e;exact⟨i,by omega,by omega,by rw[getD_of (by omega)];exact e.symm⟩
theorem take_mem{l:List Int}{i q:Nat}(h:i<q)(hq:q<=l.length):l.getD i 0∈l.take q:=by rw[getD_of (by omega)];exact List.mem_iff_getElem.2 ⟨i,by rw[List.length_take];omega,List.getElem_take⟩
theorem i_ne{a b:Int}(h:a≠b):(a !=b)=true:=by simp[h]
theorem i_nn{a b:Int}(h:a=b):(a !=b)=false:=by simp[h]
theorem i_eq{a b:Int}(h:a=b):(a==b)=true:=by simp[h]
theorem i_nq{a b:Int}(h:a≠b):(a==b)=false:=by simp[h]
theorem splice_take(l v:List T)(k:Nat)(h:k<=l.length):(splice l k v).take k=l.take k:=by unfold splice;rw[List.append_assoc,List.take_append_of_le_length (by rw[List.length_take];omega),List.take_take,Nat.min_self]
set_option maxHeartbeats 2000000 in
theorem c_compact{lf d:Nat}(hlf:33554432<=lf)(ns:List Int)(hs:Sorted ns)(h2:ns.length<=16777216):∃ns',Cc lf (d+1) 19 [.sl (IL ns)]=some [.sl (IL ns')]/\Rise ns'/\(∀x,x∈ns'↔x∈ns)/\ns'.length<=ns.length:=by
 have E:=f19_eq (Cc lf d) lf (IL ns);unfold f19 f19_t at E;dsimp only at E;by_cases hlen:ns.length<2
 ·rw[iLt_t (by rw[IL_len];omega),cond_t]at E;refine⟨ns,E,?_,λx=>Iff.rfl,Nat.le_refl _⟩;match ns,hlen with
  |[],_=>exact List.Pairwise.nil
  |[a],_=>exact List.pairwise_singleton _ _
 rw[iLt_f (by rw[IL_len];omega),cond_f]at E;have Inn:∀(g:Nat)(w k c n:Nat)(cur:List Int),1<=g->1<=c->g+c+w=ns.length->w<n->cur.length=ns.length->1<=k->k+1<=g+c->(∀p,k<=p->cur.getD p 0=ns.getD p 0)->Rise (cur.take k)->(∀x,x∈cur.take k↔x∈ns.take (g+c))->∃k' cur',f19_1 (Cc lf d) lf (IL ns) (g:Int) n (k:Int) (c:Int) (IL cur)=some [T.i .i64 0,T.i .i64 ((k':Nat):Int),T.sl (IL cur')]/\cur'.length=ns.length/\k'<ns.length/\Rise (cur'.take k')/\(∀x,x∈cur'.take k'↔x∈ns):=by
  intro g w;induction w with
  |zero=>
   intro k c n cur h0 m hw hn hc hk D hp hr hm;obtain⟨n,rfl⟩:∃z,n=z+1:=⟨n-1,by omega⟩;refine⟨k,cur,?_,hc,by omega,hr,λx=>?_⟩;· rw[f19_1];unfold f19_1_s;rw[Int.toNat_natCast,Int.toNat_natCast,IL_len,iLt_f (by omega)];rfl
   · rw[hm x,List.take_of_length_le (by omega)]
  |succ w ih=>
   intro k c n cur h0 m hw hn hc hk D hp hr hm;obtain⟨n,rfl⟩:∃z,n=z+1:=⟨n-1,by omega⟩;have hq:g+c<ns.length:=by omega
   have hd:(c:Int)-1=((c-1:Nat):Int):=by omega
   rw[f19_1];unfold f19_1_s;rw[Int.toNat_natCast,Int.toNat_natCast,Int.toNat_natCast,Int.toNat_natCast,IL_len,IL_len,iLt_t (by omega),inR_nat (by omega),wrap_in (x:=(c:Int)-1) (by omega) (by omega),hd,Int.toNat_natCast,inR_nat (show c-1<ns.length-g by omega),inR_nat (show k<cur.length by omega),wrap_next (show c<ns.length by omega) (by omega),wrap_next (show k<ns.length by omega) (by omega),IL_at (show g+c<cur.length by omega),IL_at (show g+(c-1)<cur.length by omega),IL_set];simp only[cond_t,asI_i];rw[hp (g+c) (by omega),hp (g+(c-1)) (by omega)];have hle:=sort_le hs (show g+(c-1)<=g+c by omega) hq;have hall:∀y∈ns.take (g+c),y<=ns.getD (g+(c-1)) 0:=λy hy=>by obtain⟨i,hi,C,rfl⟩:=mem_take hy;exact sort_le hs (by omega) (by omega)
   by_cases e:ns.getD (g+c) 0=ns.getD (g+(c-1)) 0
   ·rw[i_nn e,cond_f];refine ih k (c+1) n cur h0 (by omega) (by omega) (by omega) hc hk (by omega) hp hr λx=>?_;rw[hm x,show g+(c+1)=g+c+1 by omega,take_succ hq,List.mem_append,List.mem_singleton];constructor;· exact .inl
    ·rintro(h|h);· exact h
     · rw[h,e];exact take_mem (by omega) (by omega)
   ·rw[i_ne e,cond_t];refine ih (k+1) (c+1) n (cur.set k (ns.getD (g+c) 0)) h0 (by omega) (by omega) (by omega) (by rw[List.length_set];exact hc) (by omega) (by omega) (λp h=>by rw[set_at _ (by omega)];exact hp p (by omega)) ?_ λx=>?_;· rw[set_take _ (by omega)];refine rise_app hr λy hy=>?_;have:=hall y ((hm y).1 hy);omega
    · rw[set_take _ (by omega),show g+(c+1)=g+c+1 by omega,take_succ hq,List.mem_append,List.mem_append,hm x]
 have Out:∀(w j n:Nat),1<=j->j+w=ns.length->w<n->Rise (ns.take j)->(f19_0 (Cc lf d) lf (IL ns) n (j:Int)=some [T.i .i64 1,T.sl (IL ns)]/\Rise ns)\/∃(k':Nat)(L':List T)(ns':List Int),f19_0 (Cc lf d) lf (IL ns) n (j:Int)=some [T.i .i64 0,T.i .i64 0,T.i .i64 ((k'-0:Nat):Int),T.sl L']/\L'.take k'=IL ns'/\Rise ns'/\(∀x,x∈ns'↔x∈ns)/\ns'.length<=ns.length:=by
  intro w;induction w with
  |zero=>
   intro j n m hj hn hr;obtain⟨n,rfl⟩:∃z,n=z+1:=⟨n-1,by omega⟩;refine .inl ⟨?_,?_⟩;· rw[f19_0];unfold f19_0_s;rw[IL_len,iLt_f (by omega)];rfl
   · rw[List.take_of_length_le (by omega)]at hr;exact hr
  |succ w ih=>
   intro j n m hj hn hr;obtain⟨n,rfl⟩:∃z,n=z+1:=⟨n-1,by omega⟩;have hq:j<ns.length:=by omega
   have hd:(j:Int)-1=((j-1:Nat):Int):=by omega
   have hle:=sort_le hs (show j-1<=j by omega) hq;have hall:∀y∈ns.take j,y<=ns.getD (j-1) 0:=λy hy=>by obtain⟨i,hi,C,rfl⟩:=mem_take hy;exact sort_le hs (by omega) (by omega)
   have hX:f19_0 (Cc lf d) lf (IL ns) (n+1) (j:Int)=f19_0_s (Cc lf d) lf (IL ns) (f19_0 (Cc lf d) lf (IL ns) n) (λ(G:List T)(q v A:Int)(B:List T)=>f19_1 (Cc lf d) lf G q lf v A B) (j:Int):=f19_0_u ..;unfold f19_0_s at hX;rw[IL_len,iLt_t (by omega),inR_nat hq,wrap_in (x:=(j:Int)-1) (by omega) (by omega),hd,Int.toNat_natCast,Int.toNat_natCast,inR_nat (show j-1<ns.length by omega),IL_at hq,IL_at (show j-1<ns.length by omega),wrap_next hq (by omega)]at hX;simp only[cond_t,asI_i]at hX;by_cases e:ns.getD j 0=ns.getD (j-1) 0
   ·right;rw[i_eq e,cond_t,iLe_t (by omega),iLe_t (by omega),iLe_t (by omega)]at hX;obtain⟨k',cur',e1,b1,H,b3,b4⟩:=Inn j (ns.length-j-1) j 1 lf ns m (by omega) (by omega) (by omega) rfl m (by omega) (λp _=>rfl) hr (λx=>by
     rw[take_succ hq,List.mem_append,List.mem_singleton];constructor;· exact .inl
     ·rintro(h|h);· exact h
      · rw[h,e];exact take_mem (by omega) (by omega))
    rw[show((1:Nat):Int)=1 from rfl]at e1;rw[e1]at hX;simp only[Option.bind_some,nth0,nthS,asI_i,asL_l,Bool.and_self,cond_t,Int.toNat_natCast]at hX;rw[IL_len,iLe_t (by omega),iLe_t (by omega),iLe_t (by omega),iLe_t (by omega)]at hX;simp only[Bool.and_self,Bool.true_and,cond_t]at hX;have hsl:(splice (IL cur') k' (List.replicate (List.take (cur'.length-k') (List.drop k' (IL cur'))).length (T.i .i64 0))).length=cur'.length:=by unfold splice;simp only[List.length_append,List.length_take,List.length_drop,List.length_replicate,List.length_map];omega
    rw[hsl,iLe_t (by omega),cond_t]at hX;exact⟨k',_,cur'.take k',hX,by rw[splice_take _ _ _ (by rw[IL_len];omega)];exact List.map_take.symm,b3,b4,by rw[List.length_take];omega⟩
   · rw[i_nq e,cond_f]at hX;have:=ih (j+1) n (by omega) (by omega) (by omega) (by rw[take_succ hq];refine rise_app hr λy hy=>?_;have:=hall y hy;omega);rw[hX];exact this
 rcases Out (ns.length-1) 1 lf (by omega) (by omega) (by omega) (by rw[take_succ (show 0<ns.length by omega)];exact List.pairwise_singleton _ _)with⟨e,hr⟩|⟨k',L',ns',e,F,hr,hm⟩
 · rw[show((1:Nat):Int)=1 from rfl]at e;rw[e]at E;exact⟨ns,E,hr,λx=>Iff.rfl,Nat.le_refl _⟩
 · rw[show((1:Nat):Int)=1 from rfl]at e;rw[e]at E;simp only[Option.bind_some,nth0,nthS,asI_i,asL_l,Int.toNat_natCast,Nat.sub_zero]at E;rw[show((0:Int).toNat)=0 from rfl,List.drop_zero,F]at E;exact⟨ns',E,hr,hm⟩
theorem addA_at{L:List (List Int)}{j:Nat}(h:j<L.length)(a x:Int)(y:Nat):x∈(addA L j a).getD y []↔x∈L.getD y []\/(y=j/\x=a):=by
 unfold addA;by_cases e:y=j;· subst e;rw[List.getD_eq_getElem?_getD,List.getElem?_set_self h];simp
 · rw[List.getD_eq_getElem?_getD,List.getElem?_set_ne (Ne.symm e),<-List.getD_eq_getElem?_getD];simp[e]
theorem c_leads2{lf d:Nat}(hlf:33554432<=lf)(D:List T)(F n2:Int)(rows maps:List T)(G H:Int)(hr:rows.length<=1048576)(hm:maps.length+tls maps<=1048576):∃L,Cc lf (d+1) 17 [.st [.sl D,.i .i64 F,.i .i64 n2,.sl rows,.sl maps,.i .i64 G,.i .i64 H]]=some [.sl (LL L)]/\(∀z x,z<L.length->(x∈L.getD z []↔leadV rows maps z x))/\(∀z x,leadV rows maps z x->z<L.length)/\L.length<=1048576/\L.flatten.length<=4194304/\L.length=max rows.length maps.length:=by
 have E:=f17_eq (Cc lf d) lf D F n2 rows maps G H;unfold f17 f17_t at E;dsimp only at E;obtain⟨N,hN,hN1,hN2,hN3,hN4⟩:∃N:Nat,imax (rows.length:Int) (maps.length:Int)=(N:Int)/\rows.length<=N/\maps.length<=N/\N<=1048576/\N=max rows.length maps.length:=by
  unfold imax;split;· exact⟨maps.length,rfl,by omega,by omega,by omega,(Nat.max_eq_right (by omega)).symm⟩
  · exact⟨rows.length,rfl,by omega,by omega,by omega,(Nat.max_eq_left (by omega)).symm⟩
 rw[hN,iLe_t (by omega),iLe_t (show(N:Int)<=(LIM:Int)by unfold LIM;omega),beq_self_eq_true,Int.toNat_natCast,show List.replicate N (T.sl [])=LL (List.replicate N [])from(List.map_replicate (f:=λns:List Int=>T.sl (IL ns)) (n:=N) (a:=[])).symm]at E;simp only[Bool.and_self,cond_t]at E;have L0:∀(k j n:Nat)(L:List (List Int)),j+k=rows.length->k<n->L.length=N->L.flatten.length=j->∃L',f17_0 (Cc lf d) lf D rows maps F n2 G H n j (LL L)=some [T.i .i64 0,T.sl D,T.i .i64 F,T.i .i64 n2,T.sl rows,T.sl maps,T.i .i64 G,T.i .i64 H,T.sl (LL L')]/\L'.length=N/\L'.flatten.length=rows.length/\(∀y x,x∈L'.getD y []↔x∈L.getD y []\/(j<=y/\y<rows.length/\x=asI (T.cell (rows.getD y T.u) 4))):=by
  intro k;induction k with
  |zero=>
   intro j n L hj hn g h2;obtain⟨n,rfl⟩:∃z,n=z+1:=⟨n-1,by omega⟩;refine⟨L,?_,g,by omega,λy x=>⟨.inl,λh=>?_⟩⟩;· rw[f17_0];unfold f17_0_s;rw[iLt_f (by omega)];rfl
   ·rcases h with h|⟨hi,Q,_⟩
    · exact h
    · omega
  |succ k ih=>
   intro j n L hj hn g h2;obtain⟨n,rfl⟩:∃z,n=z+1:=⟨n-1,by omega⟩;have hjl:j<rows.length:=by omega
   have hjL:j<L.length:=by omega
   have hin:=inner_le hjL;rw[f17_0];unfold f17_0_s;rw[iLt_t (by omega),inR_nat hjl,inR_nat (by rw[LL_len];exact hjL),Int.toNat_natCast,LL_add hjL,LL_at hjL,intsOk,wrap_next hjl (by omega),nLe_app (by show(IL (L.getD j [])).length<=_;rw[IL_len];omega),inR_nat (by rw[List.length_set,LL_len];exact hjL)];simp only[cond_t,Bool.and_self];obtain⟨L',e,A,B,C⟩:=ih (j+1) n (addA L j (asI (T.cell (rows.getD j T.u) 4))) (by omega) (by omega) (by rw[addA_len];exact g) (by rw[addA_tot hjL];omega);refine⟨L',e,A,B,λy x=>?_⟩;rw[C,addA_at hjL];constructor
   ·rintro((h|⟨g,h2⟩)|⟨a,b,c⟩);· exact .inl h
    · exact .inr ⟨by omega,by omega,by rw[g];exact h2⟩
    · exact .inr ⟨by omega,b,c⟩
   ·rintro(h|⟨a,b,c⟩);· exact .inl (.inl h)
    ·by_cases e:y=j;· exact .inl (.inr ⟨e,by rw[e]at c;exact c⟩)
     · exact .inr ⟨by omega,b,c⟩
 obtain⟨L1,e1,K,R,a3⟩:=L0 rows.length 0 lf (List.replicate N []) (by omega) (by omega) (by rw[List.length_replicate]) (by simp);rw[show((0:Nat):Int)=0 from rfl]at e1;rw[e1]at E;simp only[Option.bind_some,nth0,nthS,asI_i,asL_l]at E;have cnt:∀j:Nat,j<maps.length->tls (maps.drop j)>=(asL (T.cell (maps.getD j T.u) 1)).length+tls (maps.drop (j+1)):=λj hj=>by
  rw[List.drop_eq_getElem_cons hj];have:=cellL_le (l:=[maps[j]]) (j:=0) 1;have e:([maps[j]]:List T).getD 0 T.u=maps.getD j T.u:=by rw[List.getD_eq_getElem?_getD,List.getD_eq_getElem?_getD,List.getElem?_eq_getElem hj];rfl
  rw[e]at this;simp only[tls]at this|-;omega
 have In:∀(i:Nat),i<maps.length->∀(k q n:Nat)(L:List (List Int)),q+k=(asL (T.cell (maps.getD i T.u) 1)).length->k<n->L.length=N->L.flatten.length+k<=4194304->∃L',f17_2 (Cc lf d) lf maps (maps.length:Int) (i:Int) n q (LL L)=some [T.i .i64 0,T.sl maps,T.i .i64 (maps.length:Int),T.i .i64 (i:Int),T.sl (LL L')]/\L'.length=N/\L'.flatten.length=L.flatten.length+k/\(∀y x,x∈L'.getD y []↔x∈L.getD y []\/(y=i/\∃z,q<=z/\z<(asL (T.cell (maps.getD i T.u) 1)).length/\x=asI (T.cell ((asL (T.cell (maps.getD i T.u) 1)).getD z T.u) 1))):=by
  intro i hi k;induction k with
  |zero=>
   intro q n L hj hn g h2;obtain⟨n,rfl⟩:∃z,n=z+1:=⟨n-1,by omega⟩;refine⟨L,?_,g,by omega,λy x=>⟨.inl,λh=>?_⟩⟩;· rw[f17_2];unfold f17_2_s;rw[Int.toNat_natCast,iLt_f (by omega)];rfl
   ·rcases h with h|⟨_,z,hz,I,_⟩
    · exact h
    · omega
  |succ k ih=>
   intro q n L hj hn g h2;obtain⟨n,rfl⟩:∃z,n=z+1:=⟨n-1,by omega⟩;have hql:q<(asL (T.cell (maps.getD i T.u) 1)).length:=by omega
   have hiL:i<L.length:=by omega
   have hin:=inner_le hiL;have hcl:=cellL_le (l:=maps) (j:=i) 1;rw[f17_2];unfold f17_2_s;rw[Int.toNat_natCast,Int.toNat_natCast,iLt_t (by omega),inR_nat hql,inR_nat (by rw[LL_len];exact hiL),LL_add hiL,LL_at hiL,intsOk,wrap_next hql (by omega),nLe_app (by show(IL (L.getD i [])).length<=_;rw[IL_len];omega),inR_nat (by rw[List.length_set,LL_len];exact hiL)];simp only[cond_t,Bool.and_self];obtain⟨L',e,A,B,C⟩:=ih (q+1) n (addA L i (asI (T.cell ((asL (T.cell (maps.getD i T.u) 1)).getD q T.u) 1))) (by omega) (by omega) (by rw[addA_len];exact g) (by rw[addA_tot hiL];omega);refine⟨L',e,A,by rw[B,addA_tot hiL];omega,λy x=>?_⟩;rw[C,addA_at hiL];constructor
   ·rintro((h|⟨g,h2⟩)|⟨g,z,a,b,c⟩);· exact .inl h
    · exact .inr ⟨g,q,Nat.le_refl _,hql,h2⟩
    · exact .inr ⟨g,z,by omega,b,c⟩
   ·rintro(h|⟨g,z,a,b,c⟩);· exact .inl (.inl h)
    ·by_cases e:z=q;· subst e;exact .inl (.inr ⟨g,c⟩)
     · exact .inr ⟨g,z,by omega,b,c⟩
 have L1f:∀(k i n:Nat)(L:List (List Int)),i+k=maps.length->k<n->L.length=N->L.flatten.length+tls (maps.drop i)<=4194304->∃L',f17_1 (Cc lf d) lf n maps (maps.length:Int) i (LL L)=some [T.i .i64 0,T.sl (LL L')]/\L'.length=N/\L'.flatten.length<=4194304/\(∀y x,x∈L'.getD y []↔x∈L.getD y []\/(i<=y/\y<maps.length/\∃q,q<(asL (T.cell (maps.getD y T.u) 1)).length/\x=asI (T.cell ((asL (T.cell (maps.getD y T.u) 1)).getD q T.u) 1))):=by
  intro k;induction k with
  |zero=>
   intro i n L hj hn g h2;obtain⟨n,rfl⟩:∃z,n=z+1:=⟨n-1,by omega⟩;refine⟨L,?_,g,by omega,λy x=>⟨.inl,λh=>?_⟩⟩;· rw[f17_1];unfold f17_1_s;rw[iLt_f (by omega)];rfl
   ·rcases h with h|⟨hz,I,_⟩
    · exact h
    · omega
  |succ k ih=>
   intro i n L hj hn g h2;obtain⟨n,rfl⟩:∃z,n=z+1:=⟨n-1,by omega⟩;have hil:i<maps.length:=by omega
   have hc:=cnt i hil;have hcl:=cellL_le (l:=maps) (j:=i) 1;rw[f17_1];unfold f17_1_s;dsimp only;obtain⟨L1,e1,b1,S,b3⟩:=In i hil (asL (T.cell (maps.getD i T.u) 1)).length 0 lf L (by omega) (by omega) g (by omega);rw[show((0:Nat):Int)=0 from rfl]at e1;rw[iLt_t (by omega),inR_nat hil,e1];simp only[cond_t,Option.bind_some,nth0,nthS,asI_i,asL_l];rw[wrap_next hil (by omega)];obtain⟨L',e,A,B,C⟩:=ih (i+1) n L1 (by omega) (by omega) b1 (by omega);refine⟨L',e,A,B,λy x=>?_⟩;rw[C,b3];constructor
   ·rintro((h|⟨h0,z,_,h2,m⟩)|⟨g,h2,q,m,v⟩);· exact .inl h
    · subst h0;exact .inr ⟨Nat.le_refl _,hil,z,h2,m⟩
    · exact .inr ⟨by omega,h2,q,m,v⟩
   ·rintro(h|⟨g,h2,q,m,v⟩);· exact .inl (.inl h)
    ·by_cases e:y=i;· subst e;exact .inl (.inr ⟨rfl,q,Nat.zero_le _,m,v⟩)
     · exact .inr ⟨by omega,h2,q,m,v⟩
 obtain⟨L2,J,M,O,P⟩:=L1f maps.length 0 lf L1 (by omega) (by omega) K (by rw[List.drop_zero];omega);rw[show((0:Nat):Int)=0 from rfl]at J;rw[J]at E;simp only[Option.bind_some,nth0,nthS,asL_l]at E;rw[LL_ok]at E;refine⟨L2,E,λy x _=>?_,λy x h=>?_,by omega,O,by rw[M];exact hN4⟩
 ·rw[P,a3];have hno:x∉(List.replicate N ([]:List Int)).getD y []:=by rw[List.getD_eq_getElem?_getD,List.getElem?_replicate];split<;>simp
  constructor
  ·rintro((h|⟨_,g,h2⟩)|⟨_,h2,q,m,v⟩);· exact absurd h hno
   · exact .inl ⟨g,h2⟩
   · exact .inr ⟨h2,q,m,v⟩
  ·rintro(⟨g,h2⟩|⟨h2,q,m,v⟩);· exact .inl (.inr ⟨Nat.zero_le _,g,h2⟩)
   · exact .inr ⟨Nat.zero_le _,h2,q,m,v⟩
 · rcases h with⟨g,_⟩|⟨g,_⟩<;>omega
def MP(S:List Int)(g:Int->Nat):List T:=S.map λn=>T.st [.i .i64 n,.i .i64 ((g n:Nat):Int)]
def bump(g:Int->Nat)(n:Int)(v:Nat):Int->Nat:=λm=>if m=n then v else g m
def insS(S:List Int)(n:Int):List Int:=if n∈S then S else S++[n]
theorem MP_find(g:Int->Nat)(n:Int):∀(S:List Int)(i:Nat),(fndM (MP S g) n i=none/\n∉S)\/∃j,fndM (MP S g) n i=some (j,((g n:Nat):Int))/\n∈S
|[],_=>.inl ⟨rfl,by simp⟩
|a::S,i=>by
 show((bif n==a then some (i,((g a:Nat):Int))else fndM (MP S g) n (i+1))=none/\_)\/∃j,(bif n==a then some (i,((g a:Nat):Int))else fndM (MP S g) n (i+1))=some (j,((g n:Nat):Int))/\_;by_cases h:n=a;· subst h;rw[beq_self_eq_true];exact .inr ⟨i,rfl,by simp⟩
 ·have:(n==a)=false:=by simp[h]
  rw[this];rcases MP_find g n S (i+1)with⟨c,h2⟩|⟨j,c,h2⟩
  · exact .inl ⟨c,by simp[h,h2]⟩
  · exact .inr ⟨j,c,by simp[h2]⟩
theorem MP_congr{S:List Int}{g g':Int->Nat}(h:∀n∈S,g n=g' n):MP S g=MP S g':=List.map_congr_left λn hn=>by rw[h n hn]
theorem MP_put(g:Int->Nat)(n:Int)(v:Nat):∀(S:List Int),S.Nodup->mapPut (MP S g) n (v:Int)=MP (insS S n) (bump g n v)
|[],_=>by show[T.st [.i .i64 n,.i .i64 (v:Int)]]=_;simp[insS,MP,bump]
|a::S,hn=>by
 obtain⟨j,h2⟩:=List.nodup_cons.1 hn;show(bif n==a then T.st [.i .i64 n,.i .i64 (v:Int)]::MP S g else T.st [.i .i64 a,.i .i64 ((g a:Nat):Int)]::mapPut (MP S g) n (v:Int))=_;by_cases h:n=a
 ·subst h;rw[beq_self_eq_true,cond_true];have e:insS (n::S) n=n::S:=by simp[insS]
  rw[e];show _=T.st [.i .i64 n,.i .i64 ((bump g n v n:Nat):Int)]::MP S (bump g n v);rw[MP_congr (g:=g) (g':=bump g n v) (λm hm=>by have q:m≠n:=λq=>j (q▸hm);unfold bump;rw[if_neg q])];simp[bump]
 ·have hb:(n==a)=false:=by simp[h]
  rw[hb,cond_false,MP_put g n v S h2];have e:insS (a::S) n=a::insS S n:=by
   unfold insS;by_cases c:n∈S;· rw[if_pos c,if_pos (by simp[c])]
   · rw[if_neg c,if_neg (by simp[c,h])];rfl
  rw[e];show _=T.st [.i .i64 a,.i .i64 ((bump g n v a:Nat):Int)]::MP (insS S n) (bump g n v);have:bump g n v a=g a:=by unfold bump;rw[if_neg (λe=>h e.symm)]
  rw[this]
def Good(S:List Int)(g:Int->Nat):Prop:=S.Nodup/\∀n,n∈S↔0<g n
theorem MP_inc{S:List Int}{g:Int->Nat}(H:Good S g)(n:Int)(hb:g n<=4294967296):mapInc (MP S g) n=MP (insS S n) (bump g n (g n+1)):=by
 have e:mapAt (MP S g) n=((g n:Nat):Int):=by
  unfold mapAt;rcases MP_find g n S 0 with⟨c,h2⟩|⟨j,c,h2⟩
  ·rw[c];have:=mt (H.2 n).2 h2;have h0:g n=0:=by omega
   rw[h0];rfl
  · rw[c]
 unfold mapInc;rw[e,wrap_in (by omega) (by omega)];exact MP_put g n (g n+1) S H.1
theorem Good.inc{S:List Int}{g:Int->Nat}(H:Good S g)(n:Int):Good (insS S n) (bump g n (g n+1)):=by
 refine⟨?_,λm=>?_⟩
 ·unfold insS;by_cases c:n∈S;· rw[if_pos c];exact H.1
  · rw[if_neg c];refine List.nodup_append.2 ⟨H.1,by simp,λa ha b hb=>?_⟩;simp only[List.mem_singleton]at hb;intro e;exact c (hb▸e▸ha)
 ·unfold insS bump;by_cases c:n∈S
  ·rw[if_pos c];by_cases e:m=n;· subst e;rw[if_pos rfl];exact⟨λ_=>by omega,λ_=>c⟩
   · rw[if_neg e];exact H.2 m
  ·rw[if_neg c];by_cases e:m=n;· subst e;rw[if_pos rfl];simp
   · rw[if_neg e,<-H.2 m];simp[e]
theorem MP_gt(g:Int->Nat):∀(S:List Int),cntGt (MP S g)=((S.filter λn=>decide (1<g n)).length:Int)
|[]=>rfl
|a::S=>by
 show(bif iLt 1 ((g a:Nat):Int)then(1:Int)else 0)+cntGt (MP S g)=_;rw[MP_gt g S];by_cases h:1<g a;· rw[iLt_t (by omega),List.filter_cons_of_pos (by simpa using h),List.length_cons,cond_true];omega
 · rw[iLt_f (by omega),List.filter_cons_of_neg (by simpa using h),cond_false];omega
theorem inner_shared(C:Orc){lf:Nat}(r:List T)(ns:List Int)(hr:asL (nth r 0)=IL ns)(hs:Rise ns)(hl:ns.length<=16777216)(N i:Int)(X:List T)(c:Int->Nat)(v:∀m,c m<=4294967296):∀(k j n:Nat)(S:List Int)(g:Int->Nat),j+k=ns.length->k<n->Good S g->(∀m,g m=c m+(if 0<=m/\m∈ns.take j then 1 else 0))->∃S',f7_1 C lf r N i X n (MP S g) (j:Int)=some [T.i .i64 0,T.sl (MP S' λm=>c m+(if 0<=m/\m∈ns then 1 else 0)),T.i .i64 N,T.i .i64 i,T.sl (X.set i.toNat T.u)]/\Good S' λm=>c m+(if 0<=m/\m∈ns then 1 else 0):=by
 intro k;induction k with
 |zero=>
  intro j n S g hj hn H hg;obtain⟨n,rfl⟩:∃z,n=z+1:=⟨n-1,by omega⟩;have e:g=λm=>c m+(if 0<=m/\m∈ns then 1 else 0):=by funext m;rw[hg m,List.take_of_length_le (by omega)]
  subst e;refine⟨S,?_,H⟩;rw[f7_1];unfold f7_1_s;rw[hr,IL_len,iLt_f (by omega)];rfl
 |succ k ih=>
  intro j n S g hj hn H hg;obtain⟨n,rfl⟩:∃z,n=z+1:=⟨n-1,by omega⟩;have hjl:j<ns.length:=by omega
  rw[f7_1];unfold f7_1_s;rw[hr,IL_len,iLt_t (by omega),inR_nat hjl,Int.toNat_natCast,IL_at hjl,wrap_next hjl (by omega)];simp only[cond_t,asI_i];have hx:ns.getD j 0=ns[j]:=getD_of hjl;have hnot:ns[j]∉ns.take j:=by intro hm;obtain⟨i,hi,e⟩:=List.getElem_of_mem hm;rw[List.length_take]at hi;rw[List.getElem_take]at e;have:=(List.pairwise_iff_getElem.1 hs) i j (by omega) hjl (by omega);omega
  have htk:∀m,m∈ns.take (j+1)↔m∈ns.take j\/m=ns[j]:=λm=>by rw[take_succ hjl,hx];simp only[List.mem_append,List.mem_singleton]
  by_cases h0:0<=ns.getD j 0
  ·rw[iLe_t h0,MP_inc H _ (by rw[hg,hx,if_neg (λh=>hnot h.2)];exact v _)];refine ih (j+1) n _ _ (by omega) (by omega) (H.inc _) λm=>?_;unfold bump;by_cases e:m=ns.getD j 0;· rw[if_pos e,hg,e,hx,if_neg (λh=>hnot h.2),if_pos ⟨hx▸h0,(htk _).2 (.inr rfl)⟩]
   ·rw[if_neg e,hg];have:(0<=m/\m∈ns.take (j+1))↔(0<=m/\m∈ns.take j):=by rw[htk m];exact⟨λ⟨a,b⟩=>⟨a,b.resolve_right (λq=>e (q.trans hx.symm))⟩,λ⟨a,b⟩=>⟨a,.inl b⟩⟩
    simp only[this]
  ·rw[iLe_f h0];refine ih (j+1) n S g (by omega) (by omega) H λm=>?_;rw[hg];have:(0<=m/\m∈ns.take (j+1))↔(0<=m/\m∈ns.take j):=by rw[htk m];refine⟨λ⟨a,b⟩=>⟨a,b.resolve_right (λq=>?_)⟩,λ⟨a,b⟩=>⟨a,.inl b⟩⟩;rw[q,<-hx]at a;exact h0 a
   simp only[this]
theorem sorted_merge(l:List Int):Sorted (l.mergeSort λx y=>decide (x<=y)):=by have:=List.pairwise_mergeSort (le:=λx y:Int=>decide (x<=y)) (λa b c g h2=>by simp only[decide_eq_true_eq]at*;omega) (λa b=>by simp only[Bool.or_eq_true,decide_eq_true_eq];omega) l;exact this.imp λh=>by simpa using h
theorem cntB_congr{P Q:Nat->Bool}:∀{n:Nat},(∀j,j<n->P j=Q j)->cntB P n=cntB Q n
|0,_=>rfl
|n+1,h=>by
 show(bif P n then cntB P n+1 else cntB P n)=bif Q n then cntB Q n+1 else cntB Q n
 rw[cntB_congr (n:=n) λj hj=>h j (by omega),h n (by omega)]
def cF(L:List (List Int))(m:Int)(i:Nat):Nat:=cntB (λz=>decide (0<=m/\m∈L.getD z [])) i
theorem cF_succ(L:List (List Int))(m:Int)(i:Nat):cF L m (i+1)=cF L m i+(if 0<=m/\m∈L.getD i []then 1 else 0):=by
 show(bif decide (0<=m/\m∈L.getD i [])then cF L m i+1 else cF L m i)=_;by_cases h:0<=m/\m∈L.getD i [];· rw[decide_eq_true h,if_pos h];rfl
 · rw[decide_eq_false h,if_neg h];rfl
theorem outer_shared{lf d:Nat}(hlf:33554432<=lf)(L:List (List Int))(hL:L.length<=1048576)(hf:L.flatten.length<=4194304):∀(k i n:Nat)(S:List Int)(g:Int->Nat)(X:List T),i+k=L.length->k<n->Good S g->(∀m,g m=cF L m i)->X.length=L.length->(∀y,i<=y->X.getD y T.u=(LL L).getD y T.u)->∃S',f7_0 (Cc lf (d+1)) lf n (MP S g) (L.length:Int) (i:Int) X=some [T.i .i64 0,T.sl (MP S' λm=>cF L m L.length)]/\Good S' λm=>cF L m L.length:=by
 intro k;induction k with
 |zero=>
  intro i n S g X hi hn H hg hX _;obtain⟨n,rfl⟩:∃z,n=z+1:=⟨n-1,by omega⟩;have e:i=L.length:=by omega
  subst e;have c:g=λm=>cF L m L.length:=funext hg;subst c;refine⟨S,?_,H⟩;rw[f7_0];unfold f7_0_s;rw[iLt_f (by omega)];rfl
 |succ k ih=>
  intro i n S g X hi hn H hg hX hq;obtain⟨n,rfl⟩:∃z,n=z+1:=⟨n-1,by omega⟩;have hil:i<L.length:=by omega
  have hin:=inner_le hil;rw[f7_0];unfold f7_0_s;rw[iLt_t (by omega),inR_nat (show i<X.length by omega),Int.toNat_natCast,hq i (Nat.le_refl _),LL_at hil,intsOk];simp only[cond_t,Bool.and_true,asL_l];rw[c_sort (d:=d) (L.getD i []) (by omega)];simp only[Option.bind_some,nth0,asL_l];obtain⟨ns,e1,r1,q,j⟩:=c_compact (d:=d) hlf ((L.getD i []).mergeSort λx y=>decide (x<=y)) (sorted_merge _) (by rw[List.length_mergeSort];omega);rw[e1];simp only[Option.bind_some];have h:ns.length<=4194304:=by rw[List.length_mergeSort]at j;omega
  have hmem:∀x,x∈ns↔x∈L.getD i []:=λx=>by rw[q,List.mem_mergeSort]
  obtain⟨S1,c,H1⟩:=inner_shared (Cc lf (d+1)) (lf:=lf) [T.sl (IL ns)] ns rfl r1 (by omega) (L.length:Int) (i:Int) X g (λm=>by rw[hg];have:=cntB_le (λz=>decide (0<=m/\m∈L.getD z [])) i;unfold cF;omega) ns.length 0 lf S g (by omega) (by omega) H (λm=>by simp);rw[show((0:Nat):Int)=0 from rfl]at c;rw[c];simp only[Option.bind_some,nth0,nthS,asI_i,asL_l];rw[wrap_next hil (by omega)];refine ih (i+1) n S1 _ _ (by omega) (by omega) H1 (λm=>?_) (by rw[List.length_set];exact hX) (λy hy=>?_);· rw[cF_succ,hg];simp only[hmem]
  · rw[Int.toNat_natCast,List.getD_eq_getElem?_getD,List.getElem?_set_ne (by omega),<-List.getD_eq_getElem?_getD];exact hq y (by omega)
theorem nodup_sub:∀{l B:List Int},l.Nodup->(∀x∈l,x∈B)->l.length<=B.length
|[],_,_,_=>Nat.zero_le _
|a::l,B,hn,h=>by
 obtain⟨c,h2⟩:=List.nodup_cons.1 hn;have ha:=h a (by simp);have:=nodup_sub (l:=l) (B:=B.erase a) h2 λx hx=>by have hxa:x≠a:=λe=>c (e▸hx);exact(List.mem_erase_of_ne hxa).2 (h x (by simp[hx]))
 rw[List.length_erase_of_mem ha]at this;have:0<B.length:=List.length_pos_of_mem ha;simp only[List.length_cons];omega
open Classical in
theorem shared_val(g:List T)(j n2:Int)(rows maps:List T)(k v:Int)(hr:rows.length<=1048576)(hm:maps.length+tls maps<=1048576):∃S:List Int,S.Nodup/\(∀x,x∈S↔0<=x/\1<byN rows maps x)/\sharedF [.st [.sl g,.i .i64 j,.i .i64 n2,.sl rows,.sl maps,.i .i64 k,.i .i64 v]]=some [.i .i64 (S.length:Int)]:=by
 have E:=f7_eq C0 33554432 g j n2 rows maps k v;unfold f7 f7_t at E;dsimp only at E;obtain⟨L,e1,A,C,a3,a4,a5⟩:=c_leads2 (lf:=33554432) (d:=19) (Nat.le_refl _) g j n2 rows maps k v hr hm;rw[show C0 17 [.st [.sl g,.i .i64 j,.i .i64 n2,.sl rows,.sl maps,.i .i64 k,.i .i64 v]]=some [.sl (LL L)]from e1]at E;simp only[Option.bind_some,nth0,asL_l]at E;rw[LL_len]at E;obtain⟨S,B,H⟩:=outer_shared (lf:=33554432) (d:=19) (Nat.le_refl _) L a3 a4 L.length 0 33554432 [] (λ_=>0) (LL L) (by omega) (by omega) ⟨List.nodup_nil,λn=>by simp⟩ (λm=>rfl) (LL_len L) (λy _=>rfl);rw[show f7_0 C0 33554432 33554432 ([]:List T) (L.length:Int) 0 (LL L)=_ from B]at E;simp only[Option.bind_some,nth0,nthS,asL_l]at E;have hfl:∀x∈S,x∈L.flatten:=λx hx=>by
  have hp:0<cF L x L.length:=(H.2 x).1 hx;refine Classical.byContradiction λhno=>?_;have h0:cF L x L.length=0:=by
   have:cntB (λz=>decide (0<=x/\x∈L.getD z [])) L.length=cntB (λ_=>false) L.length:=cntB_congr λz hz=>decide_eq_false λ⟨_,q⟩=>hno (by rw[List.getD_eq_getElem?_getD,List.getElem?_eq_getElem hz]at q;exact List.mem_flatten.2 ⟨_,List.getElem_mem hz,q⟩);unfold cF;rw[this];have key:∀n,cntB (λ_=>false) n=0:=λn=>by
    induction n with
    |zero=>rfl
    |succ n ih=>exact ih
   exact key _
  omega
 have hlen:(MP S λm=>cF L m L.length).length<=1073741824:=by have:=nodup_sub H.1 hfl;unfold MP;rw[List.length_map];omega
 rw[nLe_t hlen,cond_t,MP_gt]at E;refine⟨_,List.Pairwise.filter _ H.1,λx=>?_,E⟩;rw[List.mem_filter];have hby:0<=x->cF L x L.length=byN rows maps x:=λh0=>by
  unfold cF byN;rw[<-a5];refine cntB_congr λz hz=>?_;by_cases c:leadV rows maps z x;· rw[decide_eq_true (show 0<=x/\x∈L.getD z []from⟨h0,(A z x hz).2 c⟩)];exact(decide_eq_true c).symm
  · rw[decide_eq_false (λh:0<=x/\x∈L.getD z []=>c ((A z x hz).1 h.2))];exact(decide_eq_false c).symm
 have hneg:¬0<=x->cF L x L.length=0:=λh0=>by
  have:cntB (λz=>decide (0<=x/\x∈L.getD z [])) L.length=cntB (λ_=>false) L.length:=cntB_congr λz _=>decide_eq_false λq=>h0 q.1;unfold cF;rw[this];have key:∀n,cntB (λ_=>false) n=0:=λn=>by
   induction n with
   |zero=>rfl
   |succ n ih=>exact ih
  exact key _
 rw[H.2 x,decide_eq_true_iff];constructor
 ·rintro⟨_,h2⟩;have h2:1<cF L x L.length:=h2;by_cases h0:0<=x;· exact⟨h0,by rw[<-hby h0];exact h2⟩
  · rw[hneg h0]at h2;omega
 · rintro⟨h0,h2⟩;show 0<cF L x L.length/\1<cF L x L.length;rw[hby h0];exact⟨by omega,h2⟩
end Z
end Go.Proofs.Ytgnnlojbjjejcaa.T
