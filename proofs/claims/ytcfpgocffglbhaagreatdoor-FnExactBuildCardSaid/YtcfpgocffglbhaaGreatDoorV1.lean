/- A part of an evaluator of loaded Go code over values, with its soundness; no condition of its own. -/
import Derived.Test.YtcfpgocffglbhaaGreatDoorV0
import Derived.Lib.AppendZerosOnto
import Derived.Laws.AppendOwn
import Derived.Lib.ConvBytes
import Derived.Laws.BytesString
set_option linter.unusedVariables false
set_option linter.constructorNameAsVariable false
set_option linter.unusedSimpArgs false
set_option linter.unnecessarySimpa false
namespace Go.Proofs.YtcfpgocffglbhaaGreatDoorV
section
variable{P:Program}{E:Env}{w0 w:World}{S0:Nat->Prop}{G:Gh}{h:Hp}{n:Nat}
theorem qsu{M:Mem}{π:Path}{i0:Nat}{m:Bool}{cs:List CT}{v:Value}{l:List T}(H:SlRep w M π i0 m cs v l){n:Nat}(hn:n<=l.length):∃cv:Array Value,(Builtin.firstCells cs.length n v).run P w=.ok cv w/\cv.size=n*cs.length/\∀k(hk:k<n),ElemRep w M π m cs cv (k*cs.length) (i0+k) (l[k]'(by omega)):=by
 rcases H with⟨rfl,a,cap,rfl⟩|⟨b,off,cap,c,ty,fz,rfl,h2,h3,h4,h5,h6⟩
 ·have:n=0:=by simpa using hn
  subst this;refine⟨#[],?_,by simp,λk hk=>by omega⟩;cases a with
  |none=>simp[Builtin.firstCells]
  |some a=>simp[Builtin.firstCells,loadCells,loadCellsFrom]
 ·have hle:n*cs.length<=cap*cs.length:=Nat.mul_le_mul_right _ (by omega);have hlen:((c.toList.drop off).take (n*cs.length)).length=n*cs.length:=by simp;omega
  have hget:∀k,k<n*cs.length->((c.toList.drop off).take (n*cs.length))[k]? =c[off+k]? :=by intro k hk;rw[List.getElem?_take_of_lt hk,List.getElem?_drop];simp
  refine⟨((c.toList.drop off).take (n*cs.length)).toArray,?_,by simpa using hlen,λk hk=>?_⟩;· simp only[Builtin.firstCells];exact qfj h2 hlen λk hk=>by rw[<-hget k (by omega)];exact List.getElem?_eq_getElem hk
  ·refine ElemRep.move (M:=M) (M':=M) (λj=>⟨id,λb ρ hb=>⟨hb,rfl⟩⟩) (λj hj=>?_) (h6 k (by omega));have:k*cs.length+j<n*cs.length:=by have:(k+1)*cs.length<=n*cs.length:=Nat.mul_le_mul_right _ hk;rw[Nat.add_mul]at this;omega
   have e:=hget _ this;rw[Nat.add_assoc,<-e];simp
theorem qp0(s:ByteArray){n:Nat}(hn:n<=s.size):∃cv:Array Value,(Builtin.firstCells 1 n (.string s)).run P w=.ok cv w/\cv.size=n*1/\∀k(hk:k<n),ElemRep w (roM G.ro) [] false [.i .u8] cv (k*1) (0+k) ((qb7 s).getD k .u):=by
 refine⟨(s.extract 0 n).data.map λb=>.int .u8 (b.toNat:Int),rfl,?_,λk hk=>?_⟩;· simp[ByteArray.data_extract];have:s.data.size=s.size:=rfl;omega
 ·have hk':k<s.data.size:=by have:s.data.size=s.size:=rfl;omega
  have hg:(s.extract 0 n).data[k]? =some s.data[k]:=by rw[ByteArray.data_extract,Array.getElem?_extract];have:s.data.size=s.size:=rfl;rw[if_pos (by omega),Nat.zero_add,Array.getElem?_eq_getElem hk']
  have hl:(qb7 s).getD k .u=T.i .u8 (s.data[k].toNat:Int):=by rw[qak (by simpa[qb7,ByteArray.toList_eq]using hk')];simp[qb7,ByteArray.toList_eq]
  rw[hl];refine⟨.i .u8,.int .u8 (s.data[k].toNat:Int),rfl,?_,⟨rfl,rfl⟩⟩;rw[Nat.mul_one,Array.getElem?_map,hg];rfl
theorem qdv{l xs:List T}{o:Nat}(h:o+xs.length<=l.length):(splice l o xs).length=l.length:=by unfold splice;simp;omega
theorem qkq{l xs:List T}{o:Nat}(h:o+xs.length<=l.length)(k:Nat):(splice l o xs)[k]? =if o<=k/\k<o+xs.length then xs[k-o]? else l[k]? :=qhq l o xs h k
def SrcFlat(P:Program)(w:World)(m:Bool)(cs:List CT)(x':Value)(xs:List T):Prop:=(∀w1,(Builtin.lenOf x').run P w1=.ok xs.length w1)/\∀n,n<=xs.length->∃cv:Array Value,(Builtin.firstCells cs.length n x').run P w=.ok cv w/\cv.size=n*cs.length/\∀k(hk:k<n),∃M π i,ElemRep w M π m cs cv (k*cs.length) i (xs.getD k .u)
theorem qu3(O:EnvOk P E)(I:Inv w0 S0 w G h){t:Nat}{m:Bool}{cs:List CT}(ht:E.ct t=some (.sl m cs))(hn:qao cs=false){r:Nat}{p:Path}{ver:Nat}{sub:Sub}{d':Value}(hd:AVRep w G h d' (.rf r p ver sub)){l0 xs:List T}(hr:rowAt h r p ver=some (m,cs,l0)){cv:Array Value}(c2:cv.size=min xs.length (subL l0 sub).length*cs.length)(c3:∀k(hk:k<min xs.length (subL l0 sub).length),∃M π i,ElemRep w M π m cs cv (k*cs.length) i (xs.getD k .u)){X:Sem Value}{rv:Value}{av:AV}(hrv:∀w' G' h',AVRep w' G' h' rv av)(hX:∀a cap,d'=.slice a (subL l0 sub).length cap->∀w',(a=none->w'=w)->(∀ad,a=some ad->(storeCells ad cv.toList).run P w=.ok () w')->X.run P w=.ok rv w'){m0:Bool}{cs0:List CT}{q:List T}{v0:Nat}{e:Bool}(hrow:h r=.row m0 cs0 q v0 e):Ran P w0 S0 w G h n (valM X) av (upd h r (.row m0 cs0 (updR p m0 cs0 q λc=>splice c (subO sub) (xs.take (subL l0 sub).length)) (v0+1) e)):=by
 obtain⟨el,tie,hu,hty,rfl,rfl⟩:=O.ct_sl ht;obtain⟨m1,cs1,l1,v1,e1,hv,g0,g1,g2,g3,g4,g5,g6,g7⟩:=qdc I hd hr;rw[hrow]at g0;cases g0;have hal:=hd.2.1;have R:=I.rep r;rw[hrow]at R;obtain⟨a,cap,rfl⟩:=(SlRep.part g7 g6).len;have hone:∀v∈cv.toList,v.oneCell'=true:=by
  intro v hv;obtain⟨i,hi⟩:=List.mem_iff_getElem?.1 hv;have hi:cv[i]? =some v:=by simpa using hi
  have hlt:=(Array.getElem?_eq_some_iff.1 hi).1;have hpos:0<tie.cs.length:=by
   rcases Nat.eq_zero_or_pos tie.cs.length with h0|h0
   · rw[h0,Nat.mul_zero]at c2;omega
   · exact h0
  have h1:i/tie.cs.length<min xs.length (subL l0 sub).length:=(Nat.div_lt_iff_lt_mul hpos).2 (by omega);obtain⟨M,π,i',hE⟩:=c3 _ h1;obtain⟨y,hy,hy'⟩:=ElemRep.cell hE (List.getElem?_eq_getElem (Nat.mod_lt i hpos));have:i/tie.cs.length*tie.cs.length+i%tie.cs.length=i:=by rw[Nat.mul_comm];exact Nat.div_add_mod i tie.cs.length
  rw[this,hi]at hy;cases hy;exact hy'.one
 have hxt:(xs.take (subL l0 sub).length).length=min xs.length (subL l0 sub).length:=by simp;omega
 have hmach:∀{w':World},(a=none->w'=w)->(∀ad,a=some ad->(storeCells ad cv.toList).run P w=.ok () w')->X.run P w=.ok rv w':=λh1 h2=>hX a cap rfl _ h1 h2;have fin:∀{w':World},X.run P w=.ok rv w'->Inv w0 S0 w' G (upd h r (.row m0 cs0 (updR p m0 cs0 q λc=>splice c (subO sub) (xs.take (subL l0 sub).length)) (v0+1) e))->Keep w w' G G h (upd h r (.row m0 cs0 (updR p m0 cs0 q λc=>splice c (subO sub) (xs.take (subL l0 sub).length)) (v0+1) e))->Ran P w0 S0 w G h n (valM X) av (upd h r (.row m0 cs0 (updR p m0 cs0 q λc=>splice c (subO sub) (xs.take (subL l0 sub).length)) (v0+1) e)):=λhrun I' K'=>⟨_,_,G,.inl (by simp only[Sem.run_bind,hrun,Result.andThen_ok];rfl),I',K',hrv _ _ _,λ_ hr=>.inl hr⟩;have hT:Turn w w G G r (h r) (.row m0 cs0 (updR p m0 cs0 q λc=>splice c (subO sub) (xs.take (subL l0 sub).length)) (v0+1) e):=by rw[hrow];exact⟨rfl,rfl,rfl,.inr (Nat.lt_succ_self _)⟩
 rcases g7 with⟨hnil,rfl⟩|⟨b,off,cap1,c,ty,fz,rfl,e2,e3,e4,e5,e6⟩
 ·have hv0:hv=.slice none 0 0:=by
   rcases hnil with hh|⟨hf,_⟩
   · exact hh
   · exact False.elim hf
  subst hv0;have hl:(subL ([]:List T) sub).length=0:=by cases sub<;>simp[subL]
  have ha:a=none:=by
   cases sub with
   |none=>have g6:Value.slice a _ cap=_:=g6;cases g6;rfl
   |some on=>
    rcases g6 with⟨_,_,_,hh⟩|⟨_,_,_,_,_,_,hh,_⟩
    · exact(Value.slice.inj hh).1
    · cases hh
  subst ha;have S:Step w w G G h (upd h r (.row m0 cs0 (updR p m0 cs0 q λc=>splice c (subO sub) (xs.take (subL ([]:List T) sub).length)) (v0+1) e)) (λx=>x=r):=⟨rfl,rfl,rfl,Nat.le_refl _,λ_ _ _=>rfl,λb x hx=>.inl ⟨x,hx⟩,λb x hx=>I.cells b x hx,rfl,rfl,λ_ h=>h,λr' hr'=>⟨upd_ne _ _ hr',rfl,λb p hb=>⟨hb,rfl⟩,λb p hb=>hb⟩,λr' hr' _=>by subst hr';rw[upd_same];exact hT⟩;have hsp:splice ([]:List T) (subO sub) (xs.take (subL ([]:List T) sub).length)=[]:=by rw[hl];simp[splice]
  refine fin (hmach (λ_=>rfl) (λad h=>by cases h)) (S.inv I λr' hr'=>?_) (S.keep I);subst hr';rw[upd_same];refine⟨hal,RowRep.replace (M:=G.own.m r') (M':=G.own.m r') p R.2.1 g3 g4 g5 ?_ (λhf=>False.elim hf) (λb ρ hb _=>⟨hb,rfl⟩),λhe=>qg1 p (R.2.2 he) g4 g5 (by rw[hsp];rfl)⟩;rw[hsp];exact .inl ⟨.inl rfl,rfl⟩
 ·have hb:G.own b=some (.blk r p):=e2;obtain⟨c1',ty1,fz1,k1,k2⟩:=I.cells b _ hb;rw[e3]at k1;cases k1;have hk:subO sub+(subL l0 sub).length<=l0.length/\((subL l0 sub).length=0/\a≠none\/a=some ⟨b,off+subO sub*tie.cs.length,none⟩):=by
   cases sub with
   |none=>have g6:Value.slice a _ cap=_:=g6;cases g6;exact⟨by simp[subO,subL],.inr (by simp[subO])⟩
   |some on=>
    obtain⟨o,kk⟩:=on;rcases g6 with⟨hh,_⟩|⟨b',off₁,len,cap₁,off',cap',hh,j1,j2,j3,j4⟩
    · cases hh
    ·cases hh;have hsl:(subL l0 (some (o,kk))).length=kk:=by simp[subL];omega
     refine⟨by simp only[subO];omega,?_⟩;obtain⟨rfl,_,_⟩:=Value.slice.inj j3;rcases j4 with⟨rfl,_⟩|⟨_,j5,_⟩
     · exact .inr rfl
     · exact .inl ⟨by omega,by simp⟩
  obtain⟨hk1,hk2⟩:=hk;have hle:(subO sub+min xs.length (subL l0 sub).length)*tie.cs.length<=cap1*tie.cs.length:=Nat.mul_le_mul_right _ (by omega);rw[Nat.add_mul]at hle;have hcl:cv.toList.length=min xs.length (subL l0 sub).length*tie.cs.length:=by simpa using c2
  have hfit:off+subO sub*tie.cs.length+cv.toList.length<=c.size:=by rw[hcl];omega
  have hst:=qej (P:=P) (w:=w) (o:=off+subO sub*tie.cs.length) e3 k2 hfit hone;have hput0:cv.toList=[]->putC w b (putA c (off+subO sub*tie.cs.length) cv.toList)=w:=by
   intro h0;rw[h0];simp only[putA];unfold putC;congr 1;apply Array.ext_getElem?;intro k;rw[Array.getElem?_modify];by_cases hk:b=k;· subst hk;simp[e3]
   · simp[hk]
  have S:=qfw (c':=putA c (off+subO sub*tie.cs.length) cv.toList) (B:=.row m0 cs0 (updR p m0 cs0 q λc=>splice c (subO sub) (xs.take (subL l0 sub).length)) (v0+1) e) I hb e3 (qbb _ _ _) (λ_=>by rw[hrow];exact⟨rfl,rfl,rfl,.inr (Nat.lt_succ_self _)⟩);refine fin (hmach (w':=putC w b (putA c (off+subO sub*tie.cs.length) cv.toList)) (λh=>?_) (λad h=>?_)) (S.inv I λr' hr'=>?_) (S.keep I)
  ·rcases hk2 with⟨_,hne⟩|h2
   · exact absurd h hne
   · rw[h]at h2;cases h2
  ·rcases hk2 with⟨h0,hne⟩|h2
   · have hnil:cv.toList=[]:=List.length_eq_zero_iff.1 (by rw[hcl,h0];simp);rw[hput0 hnil,hnil];simp[storeCells]
   · rw[h]at h2;cases h2;exact hst
  ·subst hr';rw[upd_same];have hsplen:subO sub+(xs.take (subL l0 sub).length).length<=l0.length:=by omega
   have hRow:RowRep (putC w b (putA c (off+subO sub*tie.cs.length) cv.toList)) (G.own.m r') p tie.agg tie.cs (.slice (some ⟨b,off,none⟩) l0.length cap1) (splice l0 (subO sub) (xs.take (subL l0 sub).length)):=by
    right;refine⟨b,off,cap1,_,ty,fz,by rw[qdv hsplen],hb,qcr w e3,by rw[qdv hsplen];exact e4,by rw[qbb];exact e5,?_⟩;rw[qa5];intro k hk;simp only[Nat.zero_add];have hk0:k<l0.length:=by rw[qdv hsplen]at hk;exact hk
    have hg:=qkq hsplen k;rw[List.getElem?_eq_getElem hk]at hg;by_cases hin:subO sub<=k/\k<subO sub+(xs.take (subL l0 sub).length).length
    ·rw[if_pos hin]at hg;have hkx:k-subO sub<min xs.length (subL l0 sub).length:=by omega
     obtain⟨M,π,i',hE⟩:=c3 (k-subO sub) hkx;have hx:(splice l0 (subO sub) (xs.take (subL l0 sub).length))[k]=xs.getD (k-subO sub) .u:=by rw[List.getElem?_take_of_lt (by omega),List.getElem?_eq_getElem (by omega)]at hg;rw[Option.some.inj hg,qak]
     rw[hx];have hE:=ElemRep.anywhere (w':=putC w b (putA c (off+subO sub*tie.cs.length) cv.toList)) (M':=G.own.m r') (π':=p) (i':=k) hE hn;refine ElemRep.move (M:=G.own.m r') (M':=G.own.m r') (i:=k) (i':=k) (λj=>⟨id,λb2 ρ hb2=>⟨hb2,rfl⟩⟩) (λj hj=>?_) hE;have:(k-subO sub+1)*tie.cs.length<=min xs.length (subL l0 sub).length*tie.cs.length:=Nat.mul_le_mul_right _ hkx;rw[Nat.add_mul]at this;have hlt:(k-subO sub)*tie.cs.length+j<cv.toList.length:=by rw[hcl];omega
     have hp:=qhb cv.toList c (off+subO sub*tie.cs.length) ((k-subO sub)*tie.cs.length+j) hlt hfit;have hidx:off+k*tie.cs.length+j=off+subO sub*tie.cs.length+((k-subO sub)*tie.cs.length+j):=by
      have:subO sub*tie.cs.length+(k-subO sub)*tie.cs.length=k*tie.cs.length:=by rw[<-Nat.add_mul];congr 1;omega
      omega
     rw[hidx,hp,Array.getElem_toList];exact(Array.getElem?_eq_getElem _).symm
    ·rw[if_neg hin,List.getElem?_eq_getElem hk0]at hg;rw[Option.some.inj hg];have hE:=(qa5 l0 0).1 e6 k hk0;simp only[Nat.zero_add]at hE;have hE:=ElemRep.anywhere (w':=putC w b (putA c (off+subO sub*tie.cs.length) cv.toList)) (M':=G.own.m r') (π':=p) (i':=k) hE hn;refine ElemRep.move (M:=G.own.m r') (M':=G.own.m r') (i:=k) (i':=k) (λj=>⟨id,λb2 ρ hb2=>⟨hb2,rfl⟩⟩) (λj hj=>?_) hE;refine qfk _ _ _ _ ?_;rw[hcl];have:=hxt;by_cases hlo:k<subO sub;· left;have:(k+1)*tie.cs.length<=subO sub*tie.cs.length:=Nat.mul_le_mul_right _ hlo;rw[Nat.add_mul]at this;omega
     · right;have:(subO sub+min xs.length (subL l0 sub).length)*tie.cs.length<=k*tie.cs.length:=Nat.mul_le_mul_right _ (by omega);rw[Nat.add_mul]at this;omega
   refine⟨hal,RowRep.replace (w:=w) (M:=G.own.m r') (M':=G.own.m r') p R.2.1 g3 g4 g5 (by simpa using hRow) (λhf=>False.elim hf) (λb2 ρ hb2 hs=>⟨hb2,qdy w _ λhh=>?_⟩),λhe=>qg1 p (R.2.2 he) g4 g5 (hRow.sl.flat hn)⟩;subst hh;have hb2:G.own b2=some (.blk r' ([]++ρ)):=hb2;rw[hb]at hb2;cases hb2;exact hs ⟨[],by simp⟩
theorem qy8(O:EnvOk P E)(I:Inv w0 S0 w G h){t:Nat}{m:Bool}{cs:List CT}(ht:E.ct t=some (.sl m cs)){ts:Array Nat}(u:TypeId)(h0:ts[0]? =some t)(hn:qao cs=false){r:Nat}{p:Path}{ver:Nat}{sub:Sub}{d' x':Value}(hd:AVRep w G h d' (.rf r p ver sub)){l0 xs:List T}(hr:rowAt h r p ver=some (m,cs,l0))(hs:SrcFlat P w m cs x' xs){m0:Bool}{cs0:List CT}{q:List T}{v0:Nat}{e:Bool}(hrow:h r=.row m0 cs0 q v0 e):Ran P w0 S0 w G h n (valM (Builtin.copy_ ts u #[d',x'])) (.i .i64 (min xs.length (subL l0 sub).length:Nat)) (upd h r (.row m0 cs0 (updR p m0 cs0 q λc=>splice c (subO sub) (xs.take (subL l0 sub).length)) (v0+1) e)):=by
 obtain⟨hlen,hcells⟩:=hs;obtain⟨cv,c1,c2,c3⟩:=hcells (min xs.length (subL l0 sub).length) (Nat.min_le_left _ _);refine qu3 O I ht hn hd hr c2 c3 (rv:=.int .i64 (min xs.length (subL l0 sub).length:Nat)) (av:=.i .i64 (min xs.length (subL l0 sub).length:Nat)) (λ_ _ _=>rfl) (λa cap hda w' hw0 hw'=>?_) hrow;obtain⟨el,tie,hu,hty,rfl,rfl⟩:=O.ct_sl ht;obtain⟨inf,hi,hsz,_⟩:=O.size hty;subst hda;have e0:(#[Value.slice a (subL l0 sub).length cap,x']:Array Value)[0]? =some (.slice a (subL l0 sub).length cap):=rfl;have e1:(#[Value.slice a (subL l0 sub).length cap,x']:Array Value)[1]? =some x':=rfl;unfold Builtin.copy_;simp only[h0,e0,e1,Sem.run_bind,qa4 hu,Result.andThen_ok,hlen,qdl hi,hsz];have c1':(Builtin.firstCells tie.cs.length (Nat.min xs.length (subL l0 sub).length) x').run P w=.ok cv w:=c1;rw[c1'];simp only[Result.andThen_ok];cases a with
 |none=>rw[hw0 rfl];simp[goInt]
 |some ad=>simp only[Sem.run_bind,hw' ad rfl,Result.andThen_ok];simp[goInt]
theorem qvz(O:EnvOk P E)(I:Inv w0 S0 w G h){t:Nat}{m:Bool}{cs:List CT}(ht:E.ct t=some (.sl m cs)){ts:Array Nat}(u:TypeId)(h0:ts[0]? =some t)(hn:qao cs=false){zs:List T}{z:T}(hz:imm cs=some zs)(he:elem m zs=some z){r:Nat}{p:Path}{ver:Nat}{sub:Sub}{d':Value}(hd:AVRep w G h d' (.rf r p ver sub)){l0:List T}(hr:rowAt h r p ver=some (m,cs,l0)){m0:Bool}{cs0:List CT}{q:List T}{v0:Nat}{e:Bool}(hrow:h r=.row m0 cs0 q v0 e):Ran P w0 S0 w G h n (valM (Builtin.clear_ ts u #[d'])) (.tu []) (upd h r (.row m0 cs0 (updR p m0 cs0 q λc=>splice c (subO sub) (List.replicate (subL l0 sub).length z)) (v0+1) e)):=by
 obtain⟨el,tie,hu,hty,rfl,rfl⟩:=O.ct_sl ht;obtain⟨inf,d,zv,hi,hd1,hsz,hby,hiz,hzz,_,_,_⟩:=tyOk (O.ty _ _ hty);have hzl:=qb3 hzz;have hzl':zv.cells.size=tie.cs.length:=by simpa using hzl
 have hlen:(List.replicate (subL l0 sub).length z).length=(subL l0 sub).length:=List.length_replicate ..;have hpos:∀j ct,tie.cs[j]? =some ct->j<zv.cells.size:=λj ct hj=>by rw[hzl'];exact(List.getElem?_eq_some_iff.1 hj).1
 have P1:=qu3 (P:=P) (E:=E) (n:=n) O I ht hn hd hr (xs:=List.replicate (subL l0 sub).length z) (cv:=Builtin.zeroCells zv.cells (subL l0 sub).length) (by
  rw[hlen,Nat.min_self];simp[Builtin.zeroCells,hzl']) (λk hk=>by
  rw[hlen,Nat.min_self]at hk;refine⟨roM G.ro,[],k,?_⟩;have:(List.replicate (subL l0 sub).length z).getD k .u=z:=by rw[List.getD_eq_getElem?_getD,List.getElem?_replicate,if_pos hk];rfl
  rw[this];refine qfs hz he λj ct hj=>?_;obtain⟨v,h2,h3⟩:=qch hzz hj;refine⟨v,?_,h3⟩;have:=qfr (zs:=zv.cells) (n:=(subL l0 sub).length) (i:=k) (j:=j) (hpos j ct hj) hk;rw[hzl']at this;unfold Builtin.zeroCells;rw[hzl',this];simpa using h2) (X:=Builtin.clear_ ts u #[d']) (rv:=.tuple #[]) (av:=.tu []) (λ_ _ _=>⟨#[],rfl,trivial⟩) (λa cap hda w' hw0 hw'=>by
  subst hda;have e0:(#[Value.slice a (subL l0 sub).length cap]:Array Value)[0]? =some (.slice a (subL l0 sub).length cap):=rfl;unfold Builtin.clear_;simp only[h0,e0,Sem.run_bind,qa4 hu,Result.andThen_ok];cases a with
  |none=>rw[hw0 rfl];simp
  |some ad=>
   have hs:=hw' ad rfl;by_cases hz0:(subL l0 sub).length=0
   ·rw[hz0]at hs|-;have hc0:(Builtin.zeroCells zv.cells 0).toList=[]:=by simp[Builtin.zeroCells]
    rw[hc0]at hs;simp[storeCells]at hs;subst hs;simp
   · obtain⟨k,hk⟩:∃k,(subL l0 sub).length=k+1:=⟨(subL l0 sub).length-1,by omega⟩;rw[hk]at hs|-;simp only[Sem.run_bind,qnm hi hiz,Result.andThen_ok,hs,Sem.run_pure]) hrow
 rw[List.take_of_length_le (Nat.le_of_eq hlen)]at P1;exact P1
end
section
variable{P:Program}{E:Env}{w0 w:World}{S0:Nat->Prop}{G:Gh}{h:Hp}{n:Nat}
theorem qwq{ts:Array TypeId}{t tn ty:TypeId}(h0:ts[0]? =some t)(h1:ts[1]? =some tn)(as:Array Value):Builtin.append_ ts ty as=Builtin.append_ #[t,tn] ty as:=by unfold Builtin.append_;simp only[h0,h1];rfl
theorem qyz(O:EnvOk P E)(I:Inv w0 S0 w G h)(hn:¬G.al n){t:Nat}{m:Bool}{cs:List CT}(ht:E.ct t=some (.sl m cs)){ts:Array Nat}(u:TypeId)(h0:ts[0]? =some t){tn:Nat}(h1:ts[1]? =some tn){kn:IntKind}(htn:E.ct tn=some (.i kn)){k:IntKind}{x:Int}(hx0:1<=x)(hx1:x<=(LIM:Int))(hcs:cs.isEmpty=false){zs:List T}{z:T}(hz:imm cs=some zs)(he:elem m zs=some z):Ran P w0 S0 w G h n (valM (Builtin.append_ ts u #[.slice none 0 0,.int k x])) (.rf n [] 0 none) (upd h n (.row m cs (List.replicate x.toNat z) 0 false)):=by
 obtain⟨e,tie,hu,hty,rfl,rfl⟩:=O.ct_sl ht;obtain⟨inf,d,zv,hi,hd,hsz,hby,hiz,hzz,_,_,_⟩:=tyOk (O.ty _ _ hty);have hzl:=qb3 hzz;have hzl':zv.cells.size=tie.cs.length:=by simpa using hzl
 have hpos:0<tie.cs.length:=by
  cases hc:tie.cs with
  |nil=>rw[hc]at hcs;cases hcs
  |cons _ _=>simp
 obtain⟨q,rfl⟩:=Int.eq_ofNat_of_zero_le (show 0<=x by omega);unfold LIM at hx1;have hq:q<=68719476736:=by omega
 have hb:q*inf.bytes<=68719476736*512:=Nat.mul_le_mul hq hby;have hrun:=Lib.run_append_grow_zeros w t tn u e inf zv k kn hu (O.ct_i htn) hi hiz none 0 0 [] (by simp[Builtin.firstCells]) q (by omega) (by rw[hsz];exact hpos) (by omega) (by omega) (by omega) (growslice_fits (by omega) (by rw[Nat.zero_add];omega));rw[<-qwq h0 h1]at hrun;have hge:=grownCap_ge w (0+q) 0 e;generalize hcap:grownCap w (0+q) 0 e=cap at*;obtain⟨I1,K1⟩:=qod I (w.drawn+1);have hcell:((#[]:Array Value)++Builtin.zeroCells zv.cells q++Builtin.zeroCells zv.cells (cap-(0+q))).size=cap*tie.cs.length:=by simp only[Array.size_append,Builtin.zeroCells,Array.size_map,Array.size_range,hzl'];simp only[List.size_toArray,List.length_nil,Nat.zero_add];rw[<-Nat.add_mul];congr 1;omega
 have hE:ElemsRep (pushC {w with drawn:=w.drawn+1} ((#[]:Array Value)++Builtin.zeroCells zv.cells q++Builtin.zeroCells zv.cells (cap-(0+q))) e) ((G.alloc n w.heap.size (.slice (some ⟨w.heap.size,0,none⟩) (0+q) cap)).own.m n) [] tie.agg tie.cs ((#[]:Array Value)++Builtin.zeroCells zv.cells q++Builtin.zeroCells zv.cells (cap-(0+q))) 0 0 (List.replicate q z):=by
  rw[qa5];intro kk hk;simp only[List.length_replicate]at hk;simp only[Nat.zero_add,List.getElem_replicate];refine qfs hz he λj ct hj=>?_;obtain⟨v,h2,h3⟩:=qch hzz hj;have hj2:j<zv.cells.size:=by rw[hzl'];exact(List.getElem?_eq_some_iff.1 hj).1
  refine⟨v,?_,h3⟩;have hg:=qfr (zs:=zv.cells) (n:=q) (i:=kk) (j:=j) hj2 hk;have hlt:kk*tie.cs.length+j<q*tie.cs.length:=by have:(kk+1)*tie.cs.length<=q*tie.cs.length:=Nat.mul_le_mul_right _ hk;rw[Nat.add_mul]at this;omega
  rw[hzl']at hg;have hs1:(Builtin.zeroCells zv.cells q).size=q*tie.cs.length:=by simp[Builtin.zeroCells,hzl']
  rw[Array.append_assoc,Array.getElem?_append_right (by simp),Array.getElem?_append_left (by simp[hs1];omega)];simp only[List.size_toArray,List.length_nil,Nat.sub_zero];unfold Builtin.zeroCells;rw[hzl',hg];simpa using h2
 obtain⟨I',K,hv⟩:=qos (n:=0+q) (cap:=cap) I1 hn e (by simp) hge (Nat.le_of_eq hcell.symm) hE (by rw[qbr,List.all_eq_true];intro y hy;rw[(List.mem_replicate.1 hy).2];exact qov hz he);rw[Int.toNat_natCast];refine⟨_,_,_,.inl (by simp only[Sem.run_bind,hrun,Result.andThen_ok];rfl),I',K1.trans K,hv,λr hr=>qh1 hr⟩
end
section
variable{P:Program}{E:Env}{w0 w:World}{S0:Nat->Prop}{G:Gh}{h:Hp}{n:Nat}
theorem qps(O:EnvOk P E)(I:Inv w0 S0 w G h){a b:Nat}{c:CT}{k k':IntKind}{m:Int}(ha:E.ct a=some c)(hb:E.ct b=some (.i k)):Ran P w0 S0 w G h n (valM (convert a b (.int k' m))) (.i k (k.wrap m)) h:=by obtain⟨d,hd⟩:=ct_ty ha;obtain⟨_,dd,_,_,hu,_⟩:=tyOk (O.ty _ _ hd);refine Ran.pure I (v':=.int k (k.wrap m)) ?_ rfl;unfold convert;simp only[Sem.run_bind,qa4 hu,Result.andThen_ok,qa4 (O.ct_i hb)];rfl
theorem qpr(O:EnvOk P E)(I:Inv w0 S0 w G h){a b:Nat}{s:ByteArray}(ha:E.ct a=some .s)(hb:E.ct b=some .s):Ran P w0 S0 w G h n (valM (convert a b (.string s))) (.s s) h:=by refine Ran.pure I (v':=.string s) ?_ rfl;unfold convert;simp only[Sem.run_bind,qa4 (O.ct_s ha),Result.andThen_ok,qa4 (O.ct_s hb)];rfl
theorem qvv(O:EnvOk P E){t:Nat}{k:IntKind}(ht:E.ct t=some (.sl false [.i k])):∃e,P.underlying t=some (.slice e)/\P.underlying e=some (.int k):=by obtain⟨e,tie,hu,hty,h1,h2⟩:=O.ct_sl ht;refine⟨e,hu,O.ct_i ?_⟩;obtain⟨agg,cs,d⟩:=tie;simp only at h1 h2;subst h1 h2;unfold Env.ct;rw[hty]
theorem qud(I:Inv w0 S0 w G h){r:Nat}(hr:¬G.al r){w':World}(h1:w'.os=w.os)(h2:w'.tape=w.tape)(h3:w'.output=w.output)(h4:w.heap.size<=w'.heap.size)(h5:∀b,b<w.heap.size->w'.heap[b]? =w.heap[b]?){c:Array Value}{ty:TypeId}{fz:Nat×Nat}(h6:w'.heap[w.heap.size]? =some (.cells c ty fz))(h7:Free fz c.size){m:Bool}{cs:List CT}{l:List T}{nn cap:Nat}(hn:l.length=nn)(hl:nn<=cap)(hc:cap*cs.length<=c.size)(H:ElemsRep w' ((G.alloc r w.heap.size (.slice (some ⟨w.heap.size,0,none⟩) nn cap)).own.m r) [] m cs c 0 0 l)(hok:okL m cs l=true):Inv w0 S0 w' (G.alloc r w.heap.size (.slice (some ⟨w.heap.size,0,none⟩) nn cap)) (upd h r (.row m cs l 0 false))/\Keep w w' G (G.alloc r w.heap.size (.slice (some ⟨w.heap.size,0,none⟩) nn cap)) h (upd h r (.row m cs l 0 false))/\AVRep w' (G.alloc r w.heap.size (.slice (some ⟨w.heap.size,0,none⟩) nn cap)) (upd h r (.row m cs l 0 false)) (.slice (some ⟨w.heap.size,0,none⟩) nn cap) (.rf r [] 0 none):=by
 have S:Step w w' G (G.alloc r w.heap.size (.slice (some ⟨w.heap.size,0,none⟩) nn cap)) h (upd h r (.row m cs l 0 false)) (λx=>x=r):=by
  refine⟨h1,h2,h3,h4,λb hb _=>h5 b hb,λb x hx=>?_,λb x hx=>?_,rfl,rfl,λr h=>.inl h,λx hx=>⟨upd_ne _ _ hx,upd_ne _ _ hx,λb p hb=>?_,λb p hb=>?_⟩,λx hx ha=>absurd (hx▸ha) hr⟩
  ·by_cases e:b=w.heap.size;· right;omega
   · left;exact⟨x,by simpa[Gh.alloc,upd_ne _ _ e]using hx⟩
  ·by_cases e:b=w.heap.size;· subst e;exact⟨c,ty,fz,h6,h7⟩
   ·have hx':G.own b=some x:=by simpa[Gh.alloc,upd_ne _ _ e]using hx
    obtain⟨c',ty',fz',k1,k2⟩:=I.cells b x hx';exact⟨c',ty',fz',(h5 b (I.ownLt hx')).trans k1,k2⟩
  · have e:b≠w.heap.size:=Nat.ne_of_lt (I.ownLt hb);exact⟨by simpa[Gh.alloc,upd_ne _ _ e]using hb,h5 b (I.ownLt hb)⟩
  ·by_cases e:b=w.heap.size;· subst e;simp[Gh.alloc,upd_same]at hb;exact absurd hb.1.symm hx
   · simpa[Gh.alloc,upd_ne _ _ e]using hb
 refine⟨S.inv I λx hx=>?_,S.keep I,?_⟩;· subst hx;rw[upd_same];exact⟨.inr rfl,.inr ⟨w.heap.size,0,cap,c,ty,fz,by simp[Gh.alloc,upd_same,hn],by simp[Own.m,Gh.alloc,upd_same],h6,by omega,by omega,H⟩,λ_=>hok⟩
 · refine⟨rfl,.inr rfl,?_⟩;rw[upd_same];exact⟨Nat.le_refl _,λ_=>⟨_,m,cs,l,rfl,trivial,rfl,by simp[Gh.alloc,upd_same,SubH]⟩⟩
theorem qox(O:EnvOk P E)(I:Inv w0 S0 w G h)(hn:¬G.al n){a b:Nat}{s:ByteArray}(ha:E.ct a=some .s)(hb:E.ct b=some (.sl false [.i .u8])):Ran P w0 S0 w G h n (valM (convert a b (.string s))) (.rf n [] 0 none) (upd h n (.row false [.i .u8] (qb7 s) 0 false)):=by
 obtain⟨e,hu,he⟩:=qvv O hb;have hrun:=Lib.run_convert_string_bytes (P:=P) w a b e s (O.ct_s ha) hu he;have hlen:(qb7 s).length=s.size:=by simp[qb7,ByteArray.toList_eq]
 have hcap:s.size<=grownCap w s.size 0 e:=by simp[grownCap,Question.cut]
 have hsz:(Lib.bytesCells w e s).size=grownCap w s.size 0 e:=by simp only[Lib.bytesCells,Array.size_append,Array.size_map,Array.size_replicate];have:s.data.size=s.size:=rfl;omega
 obtain⟨I',K,hv⟩:=qud (w':=Lib.bytesWorld w e s) (m:=false) (cs:=[.i .u8]) (l:=qb7 s) (nn:=s.size) (cap:=grownCap w s.size 0 e) I hn rfl rfl rfl (by rw[Lib.bytesWorld_size];omega) (λb hb=>Lib.bytesWorld_at_old w e s b hb) (Lib.bytesWorld_at_new w e s) (λi hi hh=>by omega) hlen hcap (by rw[hsz];simp) (by
  rw[qa5];intro k hk;rw[hlen]at hk;have hk':k<s.data.size:=hk;refine⟨.i .u8,.int .u8 (s.data[k].toNat:Int),rfl,?_,?_⟩;· simp only[List.length_singleton,Nat.mul_one,Nat.zero_add,Lib.bytesCells];rw[Array.getElem?_append_left (by simpa using hk'),Array.getElem?_map,Array.getElem?_eq_getElem hk'];rfl
  ·have:(qb7 s)[k]'(by omega)=T.i .u8 (s.data[k].toNat:Int):=by simp[qb7,ByteArray.toList_eq]
   simp only[Nat.zero_add,this];exact⟨rfl,rfl⟩) (by
  rw[qbr,List.all_eq_true];intro y _;exact qmq (c:=.i .u8) rfl y)
 exact⟨_,_,_,.inl (by simp only[Sem.run_bind,hrun,Result.andThen_ok];rfl),I',K,hv,λr hr=>qh1 hr⟩
end
section
variable{P:Program}{E:Env}{w0 w:World}{S0:Nat->Prop}{G:Gh}{h:Hp}{n:Nat}
theorem qno:∀(ns:List Int)(s:ByteArray),ns.foldl (λr n=>r.push (UInt8.ofNat n.toNat)) s=⟨s.data++(ns.map λn=>UInt8.ofNat n.toNat).toArray⟩
|[],s=>by obtain⟨d⟩:=s;simp
|n::ns,s=>by rw[List.foldl_cons,qno ns];obtain⟨d⟩:=s;simp[ByteArray.push]
theorem qtb(l:List T):(l.map asI).foldl (λr n=>r.push (UInt8.ofNat n.toNat)) ByteArray.empty=bytesOf l:=by rw[qno];simp[bytesOf,ByteArray.empty,ByteArray.emptyWithCapacity];rfl
theorem qwd{M:Mem}{π:Path}{c:Array Value}{o i:Nat}{x:T}(H:ElemRep w M π false [.i .u8] c o i x):c[o]? =some (.int .u8 (asI x)):=by
 obtain⟨ct,v,h1,h2,h3⟩:=H;cases h1;cases x with
 |u=>have:=h3.1;simp[CT.isSl]at this
 |b y=>have:=h3.1;cases this
 |i k m=>obtain⟨h4,rfl⟩:=h3;cases h4;exact h2
 |s y=>have:=h3.1;cases this
 |sl l=>obtain⟨_,_,h4,_⟩:=h3;cases h4
 |st l=>exact h3.elim
theorem qto(O:EnvOk P E)(I:Inv w0 S0 w G h){a b:Nat}{x:AV}{x':Value}(ha:E.ct a=some (.sl false [.i .u8]))(hb:E.ct b=some .s)(hx:AVRep w G h x' x){l:List T}(hc:cont h x=some (false,[.i .u8],l)):Ran P w0 S0 w G h n (valM (convert a b x')) (.s (bytesOf l)) h:=by
 obtain⟨e,hu,he⟩:=qvv O ha;obtain⟨M,π,i0,H⟩:=qpt I hx hc;refine Ran.pure I (v':=.string (bytesOf l)) ?_ rfl;have hrun:(Conv.bytesToString x').run P w=.ok (.string (bytesOf l)) w:=by
  have key:∀{a':Addr}{cap:Nat},(loadCells a' l.length).run P w=.ok ((l.map asI).map (Value.int .u8)).toArray w->(Conv.bytesToString (.slice (some a') l.length cap)).run P w=.ok (.string (bytesOf l)) w:=by intro a' cap hl;rw[run_bytesToString w a' l.length cap (l.map asI) hl,qtb]
  obtain⟨cv,h1,h2,h3⟩:=qjy (P:=P) H;obtain⟨a',cap,rfl⟩:=H.len;cases a' with
  |none=>
   have:l=[]:=by
    rcases H with⟨h4,_⟩|⟨_,_,_,_,_,_,h4,_⟩
    · exact h4
    · cases h4
   subst this;rfl
  |some a'=>
   refine key ?_;have h1':(loadCells a' (l.length*1)).run P w=.ok cv w:=h1;rw[Nat.mul_one]at h1';rw[h1'];congr 1;apply Array.ext_getElem?;intro k;have hcs:cv.size=l.length:=by simpa using h2
   by_cases hk:k<l.length;· have:=qwd (h3 k hk);rw[show k*[CT.i .u8].length=k by simp]at this;rw[this];simp[List.getElem?_eq_getElem hk]
   · rw[Array.getElem?_eq_none (by omega)];simp[List.getElem?_eq_none (Nat.le_of_not_lt hk)]
 obtain⟨a',cap,rfl⟩:=H.len;unfold convert;simp only[Sem.run_bind,qa4 hu,Result.andThen_ok,qa4 (O.ct_s hb),qa4 he];exact hrun
end
theorem qgi{x:Nat}{xs:List Nat}(h:distinct (x::xs)=true):(∀y∈xs,y≠x)/\distinct xs=true:=by simp only[distinct,Bool.and_eq_true,List.all_eq_true,Bool.not_eq_true']at h;refine⟨λy hy e=>?_,h.2⟩;have:=h.1 y hy;subst e;simp at this
theorem qo7{size:Nat}:∀(parts:List (Nat×Value))(c:Array Value),distinct (parts.map λp=>p.1)=true->(∀p∈parts,p.2.cells.size=size/\(p.1+1)*size<=c.size)->∃c',Instr.fill (λi=>some (i*size,size)) c parts=some c'/\c'.size=c.size/\(∀p∈parts,∀j,j<size->c'[p.1*size+j]? =p.2.cells[j]?)/\∀i j,j<size->(∀p∈parts,p.1≠i)->c'[i*size+j]? =c[i*size+j]?
|[],c,_,_=>⟨c,rfl,rfl,λp hp=>by simp at hp,λ_ _ _ _=>rfl⟩
|(i0,v)::parts,c,hd,H=>by
 obtain⟨hd1,hd2⟩:=qgi hd;obtain⟨hs,hle⟩:=H (i0,v) (by simp);have hle':i0*size+size<=c.size:=by rw[Nat.add_mul]at hle;simpa using hle
 rw[qo8 (place:=λi=>some (i*size,size)) rfl hs hle'];have hvl:v.cells.toList.length=size:=by simpa using hs
 obtain⟨c',h1,h2,h3,h4⟩:=qo7 parts (putA c (i0*size) v.cells.toList) hd2 λp hp=>by rw[qbb];exact H p (by simp[hp])
 rw[qbb]at h2;refine⟨c',h1,h2,λp hp j hj=>?_,λi j hj hne=>?_⟩
 ·rcases List.mem_cons.1 hp with rfl|hp
  · rw[h4 i0 j hj λp hp=>hd1 p.1 (List.mem_map_of_mem hp)];have:=qhb v.cells.toList c (i0*size) j (by omega) (by omega);rw[this,Array.getElem_toList];exact(Array.getElem?_eq_getElem _).symm
  · exact h3 p hp j hj
 · rw[h4 i j hj λp hp=>hne p (by simp[hp])];have hi:i≠i0:=λe=>hne (i0,v) (by simp) e.symm;have:=qzf (i:=i0) (i':=i) (j:=0) (j':=j) (n:=size) (sz:=size) hj (by omega) (.inl hi);exact qfk _ _ _ _ (by rw[hvl];omega)
section
variable{w0 w:World}{S0:Nat->Prop}
theorem Sunk.moved{G G':Gh}:∀{K:Nat}{cs:List CT}{us:List Value}{ts:List T},Sunk w G K cs us ts->(∀k b p,K<=k->k<K+cs.length->G.own b=some (.tmp k p)->G'.own b=some (.tmp k p))->Sunk w G' K cs us ts
|_,[],[],[],_,_=>trivial
|K,c::cs,u::us,t::ts,H,hs=>⟨CellRep.moved (M:=G.own.t K) (M':=G'.own.t K) t ⟨λhf=>False.elim hf,λb ρ hb=>⟨hs K b _ (Nat.le_refl _) (by simp) hb,rfl⟩⟩ H.1,H.2.1,Sunk.moved H.2.2 λk b p h1 h2=>hs k b p (by omega) (by simp only[List.length_cons];omega)⟩
|_,[],_::_,_,H,_=>H.elim
|_,[],[],_::_,H,_=>H.elim
|_,_::_,[],_,H,_=>H.elim
|_,_::_,_::_,[],H,_=>H.elim
theorem qzh{m:Bool}{cs:List CT}{z:T}{U:Nat->List Value}:∀(k:Nat){ps:List (Nat×AV)}{ts:List T}{h h':Hp}{b:Bool}{G:Gh}{K:Nat},Inv w0 S0 w G h->(∀k,K<=k->∀b p,G.own b≠some (.tmp k p))->(∀p∈ps,AVReps w G h (U p.1) (qai p.2))->qau h m cs z k ps=some (ts,h',b)->b=true->∃G',Inv w0 S0 w G' h'/\Keep w w G G' h h'/\ts.length=k/\(∀(i:Nat)(t:T),ts[i]? =some t->(∃xs,Sunk w G' (K+i*cs.length) cs (U i) xs/\elem m xs=some t/\∃p∈ps,p.1=i)\/(t=z/\∀p∈ps,p.1≠i))/\(∀k',K+k*cs.length<=k'->∀b p,G'.own b≠some (.tmp k' p))/\G'.al=G.al
|0,[],ts,h,h',b,G,K,I,hK,_,hs,_=>by cases hs;exact⟨G,I,Keep.refl _ _ _,rfl,λi t ht=>by simp at ht,λk' hk'=>hK k' (by omega),rfl⟩
|0,_::_,ts,h,h',b,G,K,I,hK,_,hs,_=>by simp[qau]at hs
|k+1,ps,ts,h,h',b,G,K,I,hK,hU,hs,hb=>by
 unfold qau at hs;split at hs
 ·rename_i ts1 h1 b1 hs1;have hUf:∀p∈ps.filter (λp=>Nat.blt p.1 k),AVReps w G h (U p.1) (qai p.2):=λp hp=>hU p (List.mem_filter.1 hp).1;have hb1:b1=true:=by
   split at hs;· cases hs;exact hb
   ·split at hs
    ·split at hs;· cases hs;simp only[Bool.and_eq_true]at hb;exact hb.1
     · cases hs
    · cases hs
  obtain⟨G1,I1,K1,L1,E1,F1,A1⟩:=qzh k I hK hUf hs1 hb1;have hfilt:∀{p:Nat×AV},p∈ps->p.1<k->p∈ps.filter (λp=>Nat.blt p.1 k):=λhp hlt=>List.mem_filter.2 ⟨hp,Nat.ble_eq_true_of_le hlt⟩;have hE1:∀{G2:Gh},(∀k' b p,k'<K+k*cs.length->G1.own b=some (.tmp k' p)->G2.own b=some (.tmp k' p))->∀(i:Nat)(t:T),ts1[i]? =some t->(∃xs,Sunk w G2 (K+i*cs.length) cs (U i) xs/\elem m xs=some t/\∃p∈ps,p.1=i)\/(t=z/\∀p∈ps,p.1≠i):=by
   intro G2 hsame i t ht;have hi:i<k:=by rw[<-L1];exact(List.getElem?_eq_some_iff.1 ht).1
   rcases E1 i t ht with⟨xs,h1,h2,p,hp,h3⟩|⟨h1,h2⟩
   · refine .inl ⟨xs,Sunk.moved h1 λk' b p hk1 hk2=>hsame k' b p ?_,h2,p,(List.mem_filter.1 hp).1,h3⟩;have:(i+1)*cs.length<=k*cs.length:=Nat.mul_le_mul_right _ hi;rw[Nat.add_mul]at this;omega
   · exact .inr ⟨h1,λp hp e=>h2 p (hfilt hp (by omega)) e⟩
  split at hs
  ·rename_i hf;cases hs;have hno:∀p∈ps,p.1≠k:=λp hp e=>by have:=List.find?_eq_none.1 hf p hp;simp[e]at this
   refine⟨G1,I1,K1,by simp[L1],λi t ht=>?_,λk' hk'=>F1 k' (by rw[Nat.add_mul]at hk';omega),A1⟩;by_cases hi:i<k;· rw[List.getElem?_append_left (by omega)]at ht;exact hE1 (λ_ _ _ _ hb=>hb) i t ht
   ·have hlt:=(List.getElem?_eq_some_iff.1 ht).1;simp[L1]at hlt;obtain rfl:i=k:=by omega
    rw[List.getElem?_append_right (by omega),L1]at ht;simp at ht;exact .inr ⟨ht.symm,hno⟩
  ·rename_i i0 v hf;have hmem:=List.mem_of_find?_eq_some hf;have hi0:i0=k:=by have:=List.find?_some hf;exact Nat.eq_of_beq_eq_true this
   subst hi0;split at hs
   ·rename_i xs h2 b2 hs2;split at hs
    ·rename_i x hx;cases hs;simp only[Bool.and_eq_true]at hb;obtain⟨G2,I2,K2,S2,T2,F2,A2⟩:=qir I1 F1 (K1.avs _ (hU _ hmem)) hs2 hb.2;refine⟨G2,I2,K1.trans K2,by simp[L1],λi t ht=>?_,λk' hk' b p=>F2 k' b p (by rw[Nat.add_mul]at hk';omega),A2.trans A1⟩;by_cases hi:i<i0;· rw[List.getElem?_append_left (by omega)]at ht;exact hE1 (λk' b p hk' hb=>(T2 k' b p hk').1 hb) i t ht
     ·have hlt:=(List.getElem?_eq_some_iff.1 ht).1;simp[L1]at hlt;obtain rfl:i=i0:=by omega
      rw[List.getElem?_append_right (by omega),L1]at ht;simp at ht;subst ht;exact .inl ⟨xs,S2,hx,_,hmem,rfl⟩
    · cases hs
   · cases hs
 · cases hs
end
theorem qgf:∀{ps:List (Nat×Value)},distinct (ps.map λp=>p.1)=true->∀{p:Nat×Value},p∈ps->ps.find? (λq=>Nat.beq q.1 p.1)=some p
|[],_,p,hp=>by simp at hp
|q::ps,hd,p,hp=>by
 obtain⟨h1,h2⟩:=qgi hd;rcases List.mem_cons.1 hp with rfl|hp
 · simp
 ·have:p.1≠q.1:=h1 p.1 (List.mem_map_of_mem hp);have e:Nat.beq q.1 p.1=false:=by
   cases hb:Nat.beq q.1 p.1 with
   |false=>rfl
   |true=>exact absurd (Nat.eq_of_beq_eq_true hb).symm this
  rw[List.find?_cons,e];exact qgf h2 hp
def bldF(K K' sz n:Nat):Lab->Lab
|.tmp k s=>if k=K' then .blk n s else if K<=k/\k<K' then .blk n (((k-K)/sz,(k-K)%sz)::s)else .tmp k s
|x=>x
theorem qyp{K K' sz n:Nat}{x:Lab}{r':Nat}{p:Path}(hr:r'≠n)(h:bldF K K' sz n x=.blk r' p):x=.blk r' p:=by
 cases x with
 |blk _ _=>exact h
 |tmp k s=>
  unfold bldF at h;simp only at h;split at h;· cases h;exact absurd rfl hr
  ·split at h;· cases h;exact absurd rfl hr
   · cases h
section
variable{P:Program}{E:Env}{w0 w:World}{S0:Nat->Prop}{G:Gh}{h h':Hp}{n:Nat}
theorem ty_sl(O:EnvOk P E){t:Nat}{agg:Bool}{m:Bool}{cs:List CT}{e:Nat}(ht:E.ty t=some ⟨agg,[.sl m cs],.sl e⟩):E.ct t=some (.sl m cs):=by
 obtain⟨_,dd,_,_,_,_,_,_,_,hb,_⟩:=tyOk (O.ty _ _ ht);cases agg with
 |true=>simp[descB]at hb
 |false=>unfold Env.ct;rw[ht]
theorem qkl(O:EnvOk P E)(I:Inv w0 S0 w G h)(hn:¬G.al n){t:Nat}{m:Bool}{cs:List CT}(ht:E.ct t=some (.sl m cs)){zs:List T}{z:T}(hz:imm cs=some zs)(he:elem m zs=some z){k:Nat}{ps:List (Nat×AV)}{qs:List (Nat×Value)}(hq:ps.map (λp=>p.1)=qs.map (λp=>p.1))(hlim:k*cs.length<=16777216)(hd:distinct (qs.map λp=>p.1)=true)(hrep:∀(i:Nat)(p:Nat×AV)(q:Nat×Value),ps[i]? =some p->qs[i]? =some q->AVRep w G h q.2 p.2)(hall:∀p∈ps,p.1<k/\(qai p.2).length=cs.length/\(qai p.2).all isC=true){ts:List T}{b:Bool}(hs:qau h m cs z k ps=some (ts,h',b))(hb:b=true):Ran P w0 S0 w G h n (valM (Instr.buildSlice t k qs.toArray)) (.rf n [] 0 none) (upd h' n (.row m cs ts 0 false)):=by
 obtain⟨e,tie,hu,hty,rfl,rfl⟩:=O.ct_sl ht;obtain⟨inf,_,zv,hi,_,hsz,_,hiz,hzz,_,_,_⟩:=tyOk (O.ty _ _ hty);have hzl':zv.cells.size=tie.cs.length:=by simpa using qb3 hzz
 obtain⟨K,hK⟩:=I.freshTmp;have pair:∀p∈ps,∃q∈qs,q.1=p.1/\AVRep w G h q.2 p.2:=by
  intro p hp;obtain⟨i,hi⟩:=List.mem_iff_getElem?.1 hp;have h1:(ps.map λp=>p.1)[i]? =some p.1:=by rw[List.getElem?_map,hi];rfl
  rw[hq,List.getElem?_map]at h1;cases hqi:qs[i]? with
  |none=>rw[hqi]at h1;cases h1
  |some q=>rw[hqi]at h1;exact⟨q,List.mem_of_getElem? hqi,by simpa using h1,hrep i p q hi hqi⟩
 have pairq:∀q∈qs,∃p∈ps,p.1=q.1/\AVRep w G h q.2 p.2:=by
  intro q hq';obtain⟨i,hi⟩:=List.mem_iff_getElem?.1 hq';have h1:(qs.map λp=>p.1)[i]? =some q.1:=by rw[List.getElem?_map,hi];rfl
  rw[<-hq,List.getElem?_map]at h1;cases hpi:ps[i]? with
  |none=>rw[hpi]at h1;cases h1
  |some p=>rw[hpi]at h1;exact⟨p,List.mem_of_getElem? hpi,by simpa using h1,hrep i p q hpi hi⟩
 let U:Nat->List Value:=λi=>match qs.find? (λq=>Nat.beq q.1 i)with|some q=>q.2.cells.toList|none=>[]
 have hU:∀q∈qs,U q.1=q.2.cells.toList:=λq hq'=>by show(match qs.find? (λq'=>Nat.beq q'.1 q.1)with|some q=>q.2.cells.toList|none=>[])=_;rw[qgf hd hq']
 have hUrep:∀p∈ps,AVReps w G h (U p.1) (qai p.2):=λp hp=>by obtain⟨q,hq',h1,h2⟩:=pair p hp;rw[<-h1,hU q hq'];exact(qdt h2 (hall p hp).2.2).1
 obtain⟨G1,I1,K1,L1,E1,F1,A1⟩:=qzh k I hK hUrep hs hb;let c0:Array Value:=(Array.range (k*zv.cells.size)).map (zv.cells[· %zv.cells.size]!);have hc0:c0.size=k*tie.cs.length:=by simp[c0,hzl']
 obtain⟨c',f1,f2,f3,f4⟩:=qo7 (size:=tie.cs.length) qs c0 hd λq hq'=>by obtain⟨p,hp,h1,h2⟩:=pairq q hq';obtain⟨h3,h4,h5⟩:=hall p hp;have:=AVReps.length (qdt h2 h5).1;refine⟨by rw[<-h4,<-this];simp,?_⟩;rw[hc0];exact Nat.mul_le_mul_right _ (by omega)
 have hrun:(Instr.buildSlice t k qs.toArray).run P w=.ok (.slice (some ⟨w.heap.size,0,none⟩) k k) (pushC w c' e):=by
  have hif:¬k*tie.cs.length>2^24:=by omega
  unfold Instr.buildSlice;simp only[Sem.run_bind,qa4 hu,Result.andThen_ok,qdl hi,hsz,if_neg hif,Sem.run_pure];by_cases h0:k*tie.cs.length=0;· have e0:c0=#[]:=Array.eq_empty_of_size_eq_zero (by rw[hc0,h0]);rw[e0]at f1;simp[h0,show Array.range 0=#[]from rfl,f1,qdx,pushC]
  ·have f1':Instr.fill (λi=>some (i*tie.cs.length,tie.cs.length)) ((Array.range (k*tie.cs.length)).map (zv.cells[· %zv.cells.size]!)) qs=some c':=by rw[<-f1];simp only[c0,hzl']
   simp[h0,qnm hi hiz,f1',qdx,pushC]
 obtain⟨I2,K2⟩:=qqo I1 (K+k*tie.cs.length) [] c' e;have hlt:∀(b2:Nat)(x:Lab),G1.own b2=some x->b2≠w.heap.size:=λb2 x hb2=>Nat.ne_of_lt (I1.ownLt hb2);have hnew:((G1.giv w.heap.size (.tmp (K+k*tie.cs.length) [])).inst (bldF K (K+k*tie.cs.length) tie.cs.length n) n (.slice (some ⟨w.heap.size,0,none⟩) k k)).own w.heap.size=some (.blk n []):=by show(upd G1.own w.heap.size _ w.heap.size).map _=_;rw[upd_same];simp[bldF]
 have hmv:∀(i j:Nat),i<k->j<tie.cs.length->∀(b2:Nat)(s:Path),G1.own b2=some (.tmp (K+i*tie.cs.length+j) s)->((G1.giv w.heap.size (.tmp (K+k*tie.cs.length) [])).inst (bldF K (K+k*tie.cs.length) tie.cs.length n) n (.slice (some ⟨w.heap.size,0,none⟩) k k)).own b2=some (.blk n ((i,j)::s)):=by
  intro i j hi hj b2 s hb2;show(upd G1.own w.heap.size _ b2).map _=_;rw[upd_ne _ _ (hlt b2 _ hb2),hb2];have hle:(i+1)*tie.cs.length<=k*tie.cs.length:=Nat.mul_le_mul_right _ hi;rw[Nat.add_mul]at hle;simp only[Option.map_some,bldF];rw[if_neg (by omega),if_pos (by omega)];have h1:K+i*tie.cs.length+j-K=j+tie.cs.length*i:=by rw[Nat.mul_comm];omega
  rw[h1,Nat.add_mul_div_left _ _ (by omega),Nat.div_eq_of_lt hj,Nat.add_mul_mod_self_left,Nat.mod_eq_of_lt hj,Nat.zero_add]
 obtain⟨I3,K3,H3⟩:=qe3 (r:=n) (v:=.slice (some ⟨w.heap.size,0,none⟩) k k) (m:=tie.agg) (cs:=tie.cs) (l:=ts) I2 (by show¬G1.al n;rw[A1];exact hn) (bldF K (K+k*tie.cs.length) tie.cs.length n) (λ_ _ _=>rfl) (λx r' p hr' hx=>qyp hr' hx) (by
  right;refine⟨w.heap.size,0,k,c',e,(0,0),by rw[L1],hnew,qdm w c' e,by omega,by rw[f2,hc0];omega,?_⟩;rw[qa5];intro i hi;have hik:i<k:=by omega
  simp only[Nat.zero_add];rcases E1 i ts[i] (List.getElem?_eq_getElem hi)with⟨xs,S1,hx,p,hp,hpi⟩|⟨hx,hno⟩
  ·refine ElemRep.mk hx S1.length.2 λj ct hct=>?_;have hj:=(List.getElem?_eq_some_iff.1 hct).1;obtain⟨y,t',g1,g2,g3,_⟩:=S1.get hct;obtain⟨q,hq',h1,h2⟩:=pair p hp;refine⟨y,t',?_,g2,?_⟩
   ·have:=f3 q hq' j hj;rw[h1,hpi]at this;rw[this];have hUi:U i=q.2.cells.toList:=by rw[<-hpi,<-h1];exact hU q hq'
    rw[hUi]at g1;simpa using g1
   · exact CellRep.moved (M:=G1.own.t (K+i*tie.cs.length+j)) (M':=((G1.giv w.heap.size (.tmp (K+k*tie.cs.length) [])).inst (bldF K (K+k*tie.cs.length) tie.cs.length n) n (.slice (some ⟨w.heap.size,0,none⟩) k k)).own.m n) (π:=[]) (π':=[]++[(i,j)]) _ ⟨λhf=>False.elim hf,λb2 ρ hb2=>⟨hmv i j hik hj b2 ρ hb2,qbx w c' e (I1.ownLt hb2)⟩⟩ g3
  · rw[hx];refine qfs hz he λj ct hct=>?_;have hj:=(List.getElem?_eq_some_iff.1 hct).1;obtain⟨y,g1,g2⟩:=qch hzz hct;refine⟨y,?_,g2⟩;rw[f4 i j hj λq hq' hh=>by obtain⟨p,hp,h1,_⟩:=pairq q hq';exact hno p hp (h1.trans hh)];simp only[c0,<-hzl'];rw[qfr (by omega) hik];simpa using g1) (by
  rw[qbr,List.all_eq_true];intro y hy;obtain⟨i,hi⟩:=List.mem_iff_getElem?.1 hy;rcases E1 i y hi with⟨xs,S1,hx,_⟩|⟨hx,_⟩
  · refine qz8 hx S1.length.2 λj ct t' hct ht'=>?_;obtain⟨_,t2,_,g2,_,g4⟩:=S1.get hct;rw[ht']at g2;cases g2;exact g4
  · rw[hx];exact qov hz he)
 exact⟨_,_,_,.inl (by simp only[Sem.run_bind,hrun,Result.andThen_ok];rfl),I3,K1.trans (K2.trans K3),H3,λr hr=>by
  have:=qq2 hr;rcases this with h1|h1
  · left;rw[<-A1];exact h1
  · exact .inr h1⟩
end
theorem qso{α β:Type}{f:Nat->α->β}{l:List α}{y:β}(h:l.mapIdx f=[y]):∃x,l=[x]/\f 0 x=y:=by
 match l,h with
 |[x],h=>simp at h;exact⟨x,rfl,h⟩
 |[],h=>simp at h
 |_::_::_,h=>simp at h
theorem qsn{α β:Type}{f:Nat->α->β}{l:List α}{y z:β}(h:l.mapIdx f=[y,z]):∃x x',l=[x,x']/\f 0 x=y/\f 1 x'=z:=by
 match l,h with
 |[x,x'],h=>simp at h;exact⟨x,x',rfl,h.1,h.2⟩
 |[],h=>simp at h
 |[_],h=>simp at h
 |_::_::_::_,h=>simp at h
def qo0:Op->Bool
|.call c=>match c.callee with|.value _=>true|_=>false
|_=>false
section
variable{P:Program}{E:Env}{w0 w:World}{S0:Nat->Prop}{G:Gh}{h:Hp}{n:Nat}
theorem Ran.of{x y:Sem Next}{v:AV}{h':Hp}(e:x=y)(H:Ran P w0 S0 w G h n y v h'):Ran P w0 S0 w G h n x v h':=e▸H
theorem qsw(O:EnvOk P E)(I:Inv w0 S0 w G h){t:Nat}{ct:CT}(ht:E.ct t=some ct){ts:Array Nat}(u:TypeId)(h0:ts[0]? =some t){d:AV}{d':Value}(hd:AVRep w G h d' d):(qlm h ct d).Snd P w0 S0 w G h n (valM (Builtin.clear_ ts u #[d'])):=by
 unfold qlm;cases d with
 |rf r p v sub=>
  simp only;split
  ·rename_i m cs l m0 cs0 q v0 e hc hr;obtain⟨m1,cs1,l1,hra,heq⟩:=qer hc;cases heq;cases hz:imm cs with
   |none=>trivial
   |some zs=>
    simp only;cases he:elem m zs with
    |none=>trivial
    |some z=>
     simp only[Bool.cond_eq_ite];split;· trivial
     · rename_i hh;simp only[Bool.or_eq_true,Bool.not_eq_true',not_or,Bool.not_eq_true,Bool.not_eq_false]at hh;cases CT.beq_eq hh.2;exact qvz O I ht u h0 hh.1 hz he hd hra hr
  · trivial
 |_=>trivial
theorem qvw(O:EnvOk P E)(I:Inv w0 S0 w G h){t:Nat}{ct:CT}(ht:E.ct t=some ct){ts:Array Nat}(u:TypeId)(h0:ts[0]? =some t){d x:AV}{d' x':Value}(hd:AVRep w G h d' d)(hx:AVRep w G h x' x):(copyS h ct d x).Snd P w0 S0 w G h n (valM (Builtin.copy_ ts u #[d',x'])):=by
 unfold copyS;cases d with
 |rf r p v sub=>
  simp only;split
  ·rename_i m cs l m0 cs0 q v0 e hc hr;obtain⟨m1,cs1,l1,hra,heq⟩:=qer hc;cases heq;split
   ·rename_i xs hsrc;simp only[Bool.cond_eq_ite];split;· trivial
    ·rename_i hh;simp only[Bool.or_eq_true,Bool.not_eq_true',not_or,Bool.not_eq_true,Bool.not_eq_false]at hh;cases CT.beq_eq hh.2;refine qy8 O I ht u h0 hh.1 hd hra ?_ hr;split at hsrc
     ·rename_i s;simp only[Bool.cond_eq_ite]at hsrc;split at hsrc
      ·rename_i hq;cases hsrc;cases CT.beq_eq hq;have hx:x'=.string s:=hx;subst hx;have hlen:(qb7 s).length=s.size:=by simp[qb7,ByteArray.toList_eq]
       refine⟨λw1=>by simp[Builtin.lenOf,hlen],λnn hnn=>?_⟩;obtain⟨cv,k1,k2,k3⟩:=qp0 (P:=P) (w:=w) (G:=G) s (n:=nn) (by omega);exact⟨cv,k1,k2,λk hk=>⟨_,_,_,k3 k hk⟩⟩
      · cases hsrc
     ·split at hsrc
      ·rename_i m' cs' xs' hcx;simp only[Bool.cond_eq_ite]at hsrc;split at hsrc;· rename_i hq;cases hsrc;cases CT.beq_eq hq;obtain⟨M,π,i0,H⟩:=qpt I hx hcx;obtain⟨aa,cap,rfl⟩:=H.len;refine⟨λw1=>by simp[Builtin.lenOf],λnn hnn=>?_⟩;obtain⟨cv,k1,k2,k3⟩:=qsu (P:=P) H hnn;exact⟨cv,k1,k2,λk hk=>⟨M,π,_,by rw[qak (by omega)];exact k3 k hk⟩⟩
       · cases hsrc
      · cases hsrc
   · trivial
  · trivial
 |_=>trivial
theorem quv(I:Inv w0 S0 w G h){x:AV}{v:Value}(H:AVRep w G h v x)(hl:liveP h x=true):∃b o,v=.pointer (some ⟨b,o,none⟩):=by
 cases x with
 |bp r j=>
  obtain⟨h1,h2,h3⟩:=H;cases hr:h r with
  |dead=>simp[liveP,hr]at hl
  |row _ _ _ _ _=>simp[liveP,hr]at hl
  |box bcs=>rw[hr]at h3;obtain⟨b,_,g2⟩:=h3;exact⟨b,j,g2⟩
 |rp r p v i j=>
  cases hra:rowAt h r p v with
  |none=>simp[liveP,hra]at hl
  |some q=>obtain⟨m,cs2,l⟩:=q;obtain⟨_,_,_,_,_,b,off0,_,_,_,_,_,_,_,_,_,_,_,g7,_⟩:=qm4 I H hra;exact⟨_,_,g7⟩
 |cp m cs y j=>obtain⟨b,o,_,_,_,_,g1,_⟩:=H;exact⟨_,_,g1⟩
 |_=>simp[liveP]at hl
theorem opS_snd(O:EnvOk P E)(I:Inv w0 S0 w G h)(hn:¬G.al n){a:Act}{s:Nat->AV}(hs:∀t,AVRep w G h (a.tmps.getD t undef) (s t))(o:Oper)(hc:qo0 o.op=false):(opS E n o s h).Snd P w0 S0 w G h n (execOp a.eval o):=by
 obtain⟨dst,op,type,pos,after,guard⟩:=o;have V:=λt x=>qct (a:=a) hs (E.ct t) x;have W:=λx=>qct (a:=a) hs none x;cases op with
 |move x=>exact⟨_,w,G,.inl rfl,I,Keep.refl _ _ _,V type x,λ_ hr=>.inl hr⟩
 |assign x=>exact⟨_,w,G,.inl rfl,I,Keep.refl _ _ _,V type x,λ_ hr=>.inl hr⟩
 |pick c x y=>
  simp only[opS];have hw:=W c;split
  ·rename_i b hb;rw[hb]at hw;have hw:a.eval c=.bool b:=hw;cases b with
   |true=>exact⟨_,w,G,.inl (by simp[execOp,hw,asBool]),I,Keep.refl _ _ _,V type x,λ_ hr=>.inl hr⟩
   |false=>exact⟨_,w,G,.inl (by simp[execOp,hw,asBool]),I,Keep.refl _ _ _,V type y,λ_ hr=>.inl hr⟩
  · trivial
 |alloc t=>
  simp only[opS];split
  ·rename_i ti ht;split;· rename_i vs hv;exact qwu O I hn ht hv
   · trivial
  · trivial
 |box t x=>
  simp only[opS];split
  ·rename_i ti ht;simp only[Bool.cond_eq_ite];split;· rename_i hh;simp only[Bool.and_eq_true]at hh;exact box_snd I hn t (V t x) hh.2
   · trivial
  · trivial
 |build t ps=>
  simp only[opS];split
  ·rename_i agg cs fs ht;split
   ·rename_i zs hz;split;· rename_i vs hv;exact qwg O I ht hs hz hv
    · trivial
   · trivial
  · trivial
 |buildSlice t k ps=>
  simp only[opS];split
  ·rename_i agg m cs e ht;split
   ·rename_i zs hz;split
    ·rename_i z he;simp only[Bool.cond_eq_ite];split
     ·rename_i hh;simp only[Bool.and_eq_true,List.all_eq_true]at hh;split
      ·rename_i ts h' b hb;intro hbt;have:=qkl (qs:=ps.toList.map λp=>(p.1,a.eval p.2)) O I hn (ty_sl O ht) hz he (by simp[Function.comp_def]) (Nat.le_of_ble_eq_true hh.1.1) (by simpa[Function.comp_def]using hh.1.2) (λi p q hp hq=>by
        rw[List.getElem?_map]at hp hq;cases hi:ps.toList[i]? with
        |none=>rw[hi]at hp;cases hp
        |some y=>rw[hi]at hp hq;cases hp;cases hq;exact V e y.2) (λp hp=>by
        obtain⟨y,hy,rfl⟩:=List.mem_map.1 hp;have:=hh.2 y hy;exact⟨Nat.le_of_ble_eq_true this.1.1,Nat.eq_of_beq_eq_true this.1.2,List.all_eq_true.2 this.2⟩) hb hbt
       refine Ran.of ?_ this;simp only[execOp];congr 3;apply Array.ext';simp
      · trivial
     · trivial
    · trivial
   · trivial
  · trivial
 |load t x=>
  simp only[opS];split
  ·rename_i ti ht;split;· rename_i v hv;intro hb;exact qxm O I ht (W x) hv hb
   · trivial
  · trivial
 |store t x y=>
  simp only[opS];split
  ·rename_i ti ht;split
   ·rename_i h' b hv;intro hb;have hx:=W x;cases hxa:opd s none x with
    |bp r j=>
     rw[hxa]at hx hv;simp only[qfb]at hv;cases hr:h r with
     |dead=>rw[hr]at hv;cases hv
     |row _ _ _ _ _=>rw[hr]at hv;cases hv
     |box cs=>
      rw[hr]at hv;simp only[Bool.cond_eq_ite]at hv;split at hv;· rename_i hh;cases hv;simp only[Bool.and_eq_true]at hh;exact qnd O I ht hx (V t y) hr (Nat.eq_of_beq_eq_true hh.1.1) (Nat.le_of_ble_eq_true hh.1.2) hh.2
      · cases hv
    |rp r p ver i j=>rw[hxa]at hx hv;exact qnc O I ht hx (V t y) hv hb
    |_=>rw[hxa]at hv;simp[qfb]at hv
   · trivial
  · trivial
 |nilCheck x=>
  simp only[opS,Bool.cond_eq_ite];split;· rename_i hl;obtain⟨b,o,hp⟩:=quv I (W x) hl;have hrep:=W x;rw[hp]at hrep;exact⟨_,w,G,.inl (by simp only[execOp,hp];rfl),I,Keep.refl _ _ _,hrep,λ_ hr=>.inl hr⟩
  · trivial
 |binOp op t x y t'=>
  have hx:=V t x;have hy:=V t' y;simp only[opS];split
  ·rename_i c hc;split
   ·rename_i ti ht;simp only[Bool.cond_eq_ite];split
    ·rename_i hh;simp only[Bool.and_eq_true]at hh;rw[hc]at hx;obtain⟨xs,hxs,hxr⟩:=hx;cases hyv:opd s (E.ct t') y with
     |ag b=>rw[hyv]at hy;obtain⟨ys,hys,hyr⟩:=hy;have:=qwk (n:=n) I op t x y (O.eq t ti ht hh.1 (qd0 hh.2)) hh.2 hxr hyr;show Stp.Snd P w0 S0 w G h n (binM op t x y (a.eval x) (a.eval y)) _;rw[hxs,hys];exact this
     |_=>trivial
    · trivial
   · trivial
  ·rename_i b hb;split
   ·rename_i ht;rw[hb]at hx;have hx:a.eval x=.bool b:=hx;cases hyv:opd s (E.ct t') y with
    |b b'=>rw[hyv]at hy;have hy:a.eval y=.bool b':=hy;show Stp.Snd P w0 S0 w G h n (binM op t x y (a.eval x) (a.eval y)) _;rw[hx,hy];exact qyr I op t x y b b' (O.ct_b ht)
    |_=>trivial
   · trivial
  ·rename_i hna hnb;cases hxv:opd s (E.ct t) x with
   |i k m=>
    rw[hxv]at hx;have hx:a.eval x=.int k m:=hx;cases hyv:opd s (E.ct t') y with
    |i k' m'=>rw[hyv]at hy;have hy:a.eval y=.int k' m':=hy;show Stp.Snd P w0 S0 w G h n (binM op t x y (a.eval x) (a.eval y)) _;rw[hx,hy];exact qyq I op t x y k k' m m'
    |_=>trivial
   |s m=>
    rw[hxv]at hx;have hx:a.eval x=.string m:=hx;cases hyv:opd s (E.ct t') y with
    |s m'=>rw[hyv]at hy;have hy:a.eval y=.string m':=hy;show Stp.Snd P w0 S0 w G h n (binM op t x y (a.eval x) (a.eval y)) _;rw[hx,hy];exact qtd I op t x y m m'
    |_=>trivial
   |b m=>exact absurd hxv (hnb m)
   |ag m=>exact absurd hxv (hna m)
   |_=>trivial
 |unOp op t x=>exact un_snd I op (V t x)
 |convert src dst' x=>
  have hx:=W x;simp only[opS];split;· rename_i c k k' m h1 h2 h3;rw[h3]at hx;have hx:a.eval x=.int k' m:=hx;show Ran P w0 S0 w G h n (valM (convert src dst' (a.eval x))) _ _;rw[hx];exact qps O I h1 h2
  · rename_i m h1 h2 h3;rw[h3]at hx;have hx:a.eval x=.string m:=hx;show Ran P w0 S0 w G h n (valM (convert src dst' (a.eval x))) _ _;rw[hx];exact qpr O I h1 h2
  ·rename_i h1 h2;split;· rename_i l hl;exact qto O I h1 h2 hx hl
   · trivial
  · rename_i m h1 h2 h3;intro hlim;rw[h3]at hx;have hx:a.eval x=.string m:=hx;show Ran P w0 S0 w G h n (valM (convert src dst' (a.eval x))) _ _;rw[hx];exact qox O I hn h1 h2
  · trivial
 |makeSlice t l c=>
  have hl:=W l;have hc':=W c;simp only[opS];split
  ·rename_i m cs k1 x k2 y ht h1 h2;split
   ·rename_i zs hz;split;· rename_i z he;intro hh;simp only[Bool.and_eq_true,decide_eq_true_eq]at hh;obtain⟨⟨h3,h4⟩,rfl⟩:=hh;rw[h1]at hl;rw[h2]at hc';have hl:a.eval l=.int k1 x:=hl;have hc':a.eval c=.int k2 x:=hc';show Ran P w0 S0 w G h n (valM (Instr.makeSlice t (a.eval l) (a.eval c))) _ _;rw[hl,hc'];exact qmk O I hn ht h3 h4 hz he
    · trivial
   · trivial
  · trivial
 |slice t x lo hi mx=>
  cases mx with
  |some _=>trivial
  |none=>
   simp only[opS];split
   ·rename_i c ht;refine qtt O I ht (V t x) (lo':=lo.map a.eval) (hi':=hi.map a.eval) ?_ ?_
    ·cases lo with
     |none=>trivial
     |some y=>exact W y
    ·cases hi with
     |none=>trivial
     |some y=>exact W y
   · trivial
 |fieldAddr t x f=>
  simp only[opS];split
  ·rename_i agg cs fs ht;split
   ·rename_i off u hf;split
    ·rename_i ag c cs' d hu;simp only[Bool.cond_eq_ite];split;· trivial
     ·rename_i hl;have hl:liveP h (opd s none x)=true:=by simpa using hl
      have hx:=W x;cases hxv:opd s none x with
      |bp r j=>
       rw[hxv]at hx hl;obtain⟨h1,h2,h3⟩:=hx;cases hr:h r with
       |dead=>simp[liveP,hr]at hl
       |row _ _ _ _ _=>simp[liveP,hr]at hl
       |box bcs=>rw[hr]at h3;obtain⟨b,g1,g2⟩:=h3;show Ran P w0 S0 w G h n (valM (Instr.fieldAt t (a.eval x) f)) _ _;rw[g2];refine qe7 O I ht hf hu (by simp) ⟨rfl,h2,?_⟩;rw[hr];exact⟨b,g1,rfl⟩
      |rp r p v i j=>
       rw[hxv]at hx hl;cases hra:rowAt h r p v with
       |none=>simp[liveP,hra]at hl
       |some q=>obtain⟨m,cs2,l⟩:=q;obtain⟨m0,cs0,l0,v0,e,b,off0,cap,ca,ty,fz,g0,g1,g2,g3,g4,g5,g6,g7,_,_,_,_,_,_,g14⟩:=qm4 I hx hra;show Ran P w0 S0 w G h n (valM (Instr.fieldAt t (a.eval x) f)) _ _;rw[g7];refine qe7 O I ht hf hu (by simp) ⟨rfl,g14,?_⟩;rw[g0];exact⟨g1,λ_=>⟨_,m,cs2,l,b,off0,l.length,cap,g3,g4,g5,rfl,g6,by rw[Nat.add_assoc]⟩⟩
      |cp m cs2 y j=>rw[hxv]at hx;obtain⟨b,o,ca,ty,fz,i,g1,g2⟩:=hx;show Ran P w0 S0 w G h n (valM (Instr.fieldAt t (a.eval x) f)) _ _;rw[g1];exact qe7 O I ht hf hu (by simp) ⟨b,o,ca,ty,fz,i,by rw[Nat.add_assoc],g2⟩
      |_=>trivial
    · trivial
   · trivial
  · trivial
 |field t x f=>
  have hx:=V t x;simp only[opS];split
  ·rename_i agg cs fs vs ht hxv;split
   ·rename_i off u hf;split
    ·rename_i ti hu;simp only[Bool.cond_eq_ite];split
     ·rename_i hl;split;· rename_i v hv;have hx:=W x;rw[hxv]at hx;exact qvj O I ht hf hu hx (Nat.eq_of_beq_eq_true hl) hv
      · trivial
     · trivial
    · trivial
   · trivial
  · trivial
 |indexAddr t x i=>
  simp only[opS];split;· rename_i m cs ht;exact idx_snd O I ht (W x) (W i)
  · trivial
 |index t x i=>
  have hx:=W x;have hi:=W i;simp only[opS];split;· rename_i m k j ht h1 h2;intro hin;rw[h1]at hx;rw[h2]at hi;have hx:a.eval x=.string m:=hx;have hi:a.eval i=.int k j:=hi;show Ran P w0 S0 w G h n (valM (Instr.index t (a.eval x) (a.eval i))) _ _;rw[hx,hi];exact qv5 O I ht hin
  · trivial
 |extract x i=>
  have hx:=W x;simp only[opS];split
  ·rename_i vs h1;split;· rename_i v hv;rw[h1]at hx;exact qpn I hv hx
   · trivial
  · trivial
 |makeFunc fn first cap=>
  simp only[opS];split
  ·rename_i f h1;simp only[Bool.cond_eq_ite];split
   ·have hf:first=#[]:=Array.toList_eq_nil_iff.1 h1
    subst hf;refine Ran.pure I (v':=.func (.func f) #[] (cap.map a.eval)) (by simp[Instr.makeFunc]) ⟨cap.map a.eval,rfl,?_⟩;refine AVReps.mk (by simp) λk x v hx hv=>?_;simp only[List.getElem?_map,Array.toList_map]at hx hv;cases hk:cap.toList[k]? with
    |none=>rw[hk]at hx;cases hx
    |some y=>rw[hk]at hx hv;cases hx;cases hv;exact W y
   · trivial
  · trivial
 |call c=>
  cases hcal:c.callee with
  |value f=>simp[qo0,hcal]at hc
  |invoke r nm=>simp only[opS,hcal];trivial
  |builtin b=>
   have hex:execOp a.eval ⟨dst,.call c,type,pos,after,guard⟩=builtin b c.argTypes type (c.args.map λ|.const _=>true|_=>false) (c.args.map a.eval):=by simp only[execOp,resolve,hcal,invoke,pure_bind];rfl
   rw[hex];simp only[opS,hcal];have h1:∀{y:AV},(c.args.toList.mapIdx λj x=>opd s ((c.argTypes[j]?).bind E.ct) x)=[y]->∃x,c.args.map a.eval=#[a.eval x]/\AVRep w G h (a.eval x) y:=by intro y hy;obtain⟨x,hx,rfl⟩:=qso hy;refine⟨x,?_,qct hs _ x⟩;apply Array.ext';simp[hx]
   have h2:∀{y z:AV},(c.args.toList.mapIdx λj x=>opd s ((c.argTypes[j]?).bind E.ct) x)=[y,z]->∃x x',c.args.map a.eval=#[a.eval x,a.eval x']/\AVRep w G h (a.eval x) y/\AVRep w G h (a.eval x') z:=by intro y z hy;obtain⟨x,x',hx,rfl,rfl⟩:=qsn hy;refine⟨x,x',?_,qct hs _ x,qct hs _ x'⟩;apply Array.ext';simp[hx]
   generalize(c.args.toList.mapIdx λj x=>opd s ((c.argTypes[j]?).bind E.ct) x)=args at h1 h2;split
   ·rename_i y;obtain⟨x,hx,hr⟩:=h1 rfl;rw[hx];split
    ·rename_i hct;obtain⟨t,ht0,ht⟩:=Option.bind_eq_some_iff.1 hct;split;· rename_i m;have hr:a.eval x=.string m:=hr;rw[hr];exact qxo O I ht ht0 type m
     · trivial
    ·rename_i m cs hct;obtain⟨t,ht0,ht⟩:=Option.bind_eq_some_iff.1 hct;split;· rename_i k hk;exact len_snd O I ht ht0 type hr hk
     · trivial
    · trivial
   · rename_i l k y k' y';obtain⟨x1,x2,hx,hr1,hr2⟩:=h2 rfl;rw[hx];have hr1:a.eval x1=.int k y:=hr1;have hr2:a.eval x2=.int k' y':=hr2;rw[hr1,hr2];refine Ran.pure I (v':=.int k (imin y y')) ?_ rfl;simp[Builtin.min_,Builtin.min2,imin]
   · rename_i l k y k' y';obtain⟨x1,x2,hx,hr1,hr2⟩:=h2 rfl;rw[hx];have hr1:a.eval x1=.int k y:=hr1;have hr2:a.eval x2=.int k' y':=hr2;rw[hr1,hr2];refine Ran.pure I (v':=.int k (imax y y')) ?_ rfl;simp[Builtin.max_,Builtin.max2,imax]
   ·obtain⟨x,hx,hr⟩:=h1 rfl;rw[hx];split;· rename_i m cs hct;obtain⟨t,ht0,ht⟩:=Option.bind_eq_some_iff.1 hct;obtain⟨el,tie,hu,_⟩:=O.ct_sl ht;have hr:a.eval x=.slice none 0 0:=hr;rw[hr];refine Ran.pure I (v':=.int .i64 0) ?_ rfl;simp[Builtin.cap_,goInt,ht0,qa4 hu]
    · trivial
   ·rename_i l m0 cs0 k y;obtain⟨x1,x2,hx,hr1,hr2⟩:=h2 rfl;rw[hx];split
    ·rename_i m cs hct hia;obtain⟨t,ht0,ht⟩:=Option.bind_eq_some_iff.1 hct;have hr1:a.eval x1=.slice none 0 0:=hr1;have hr2:a.eval x2=.int k y:=hr2;rw[hr1,hr2];unfold appZ;simp only[Bool.cond_eq_ite];split;· trivial
     ·rename_i hcs;cases hz:imm cs with
      |none=>trivial
      |some zs=>
       simp only;cases he:elem m zs with
       |none=>trivial
       |some z=>
        intro hb;simp only[Bool.and_eq_true,decide_eq_true_eq]at hb;unfold qza at hia;split at hia
        ·rename_i tn htn;split at hia;· rename_i kn hkn;exact qyz O I hn ht type ht0 htn hkn hb.1 hb.2 (by simpa using hcs) hz he
         · cases hia
        · cases hia
    · trivial
   ·obtain⟨x1,x2,hx,hr1,hr2⟩:=h2 rfl;rw[hx];split;· rename_i m cs hct hap;obtain⟨t,ht0,ht⟩:=Option.bind_eq_some_iff.1 hct;exact app_snd O I hn ht type ht0 hap hr1 hr2
    · trivial
   ·obtain⟨x1,x2,hx,hr1,hr2⟩:=h2 rfl;rw[hx];split;· rename_i ct hct;obtain⟨t,ht0,ht⟩:=Option.bind_eq_some_iff.1 hct;exact qvw O I ht type ht0 hr1 hr2
    · trivial
   ·rename_i y;obtain⟨x,hx,hr⟩:=h1 rfl;rw[hx];split;· rename_i ct hct;obtain⟨t,ht0,ht⟩:=Option.bind_eq_some_iff.1 hct;exact qsw O I ht type ht0 hr
    · trivial
   · trivial
 |_=>trivial
end
theorem qew(a:Act)(d:Option Tmp)(v:Value):(a.put d v).tmps.size=a.tmps.size:=by cases d<;>simp[Act.put]
theorem qmb(a:Act){d t:Nat}(v:Value)(hd:d<a.tmps.size):(a.put (some d) v).tmps.getD t undef=if t=d then v else a.tmps.getD t undef:=by
 simp only[Act.put,Array.getD_eq_getD_getElem?];by_cases e:t=d;· subst e;rw[if_pos rfl];simp[hd]
 · rw[if_neg e,Array.getElem?_setIfInBounds_ne (Ne.symm e)]
section
variable{w w':World}{G G':Gh}{h h':Hp}
theorem qeg{a:Act}{s:Nat->AV}(hs:∀t,AVRep w G h (a.tmps.getD t undef) (s t))(K:Keep w w' G G' h h'){d:Option Nat}(hd:∀t,d=some t->t<a.tmps.size){v':Value}{v:AV}(hv:AVRep w' G' h' v' v):∀t,AVRep w' G' h' ((a.put d v').tmps.getD t undef) (updO s d v t):=by
 intro t;cases d with
 |none=>exact K.av _ (hs t)
 |some d=>
  rw[qmb a v' (hd d rfl)];by_cases e:t=d;· subst e;rw[if_pos rfl];simpa[updO,upd_same]using hv
  · rw[if_neg e];simpa[updO,upd_ne _ _ e]using K.av _ (hs t)
theorem qkm(b:Bool):undef≠.bool b:=by intro h;unfold undef at h;cases h
theorem qil{a:Act}{s:Nat->AV}(hs:∀t,AVRep w G h (a.tmps.getD t undef) (s t)){ops:Array Oper}{o:Oper}{b:Bool}(hw:wantV ops.toList o s=some b):Region.wanted o (yielded ops a.tmps)=b:=by
 unfold wantV at hw;unfold Region.wanted;cases hg:o.guard with
 |none=>rw[hg]at hw;cases hw;rfl
 |some jg=>
  obtain⟨j,g⟩:=jg;rw[hg]at hw;simp only at hw|-;cases hq:ops[j]? with
  |none=>
   have:ops.toList[j]? =none:=by simpa using hq
   rw[this]at hw;cases hw
  |some q=>
   have:ops.toList[j]? =some q:=by simpa using hq
   rw[this]at hw;simp only at hw;cases hd:q.dst with
   |none=>rw[hd]at hw;cases hw
   |some t=>
    rw[hd]at hw;simp only at hw;have ht:=hs t;unfold yielded;simp only[hq,Option.bind_some,hd];rw[Array.getD_eq_getD_getElem?]at ht;cases hst:s t with
    |b x=>
     rw[hst]at hw ht;cases hw;cases htm:a.tmps[t]? with
     |none=>rw[htm]at ht;exact absurd (show undef=.bool x from ht) (qkm x)
     |some v=>rw[htm]at ht;have ht:v=.bool x:=ht;subst ht;rfl
    |un=>
     rw[hst]at hw ht;cases hw;cases htm:a.tmps[t]? with
     |none=>rfl
     |some v=>
      rw[htm]at ht;have ht:v=undef:=ht;subst ht;split;· rename_i b' hb;exact absurd (Option.some.inj hb) (qkm b')
      · rfl
    |_=>rw[hst]at hw;cases hw
theorem Ran.wp{P:Program}{w0:World}{S0:Nat->Prop}{n:Nat}{o:Oper}{a:Act}{v:AV}{K:Act->World->Prop}{Q:Exit->Act->World->Prop}(H:Ran P w0 S0 w G h n (execOp a.eval o) v h')(hk:∀v' w' G',Inv w0 S0 w' G' h'->Keep w w' G G' h h'->AVRep w' G' h' v' v->(∀r,G'.al r->G.al r\/newR n r)->K (a.put o.dst v') w'):o.wp P a w K Q:=by
 obtain⟨v',w',G',hrun,I',K',hv,ha⟩:=H;unfold Oper.wp;rcases hrun with hrun|⟨hrun,rfl⟩
 · rw[hrun];exact hk v' w' G' I' K' hv ha
 · rw[hrun];exact hk undef w' G' I' K' hv ha
end
def PRep1(w:World)(G:Gh)(K:Nat)(p:PD)(u:Value)(t:T):Prop:=
 match p with
 |.v c=>CellRep w (G.own.t K) [] c u t/\c.isSl=false
 |.ro c=>CellRep w (roM G.ro) [] c u t/\okC c t=true
 |.ow c=>CellRep w (G.own.t K) [] c u t/\okC c t=true
 |.mv c=>CellRep w (G.own.t K) [] c u t/\okC c t=true
 |.fn f=>u=.func (.func f) #[] #[]/\t=.u
 |_=>False
def PReps(w:World)(G:Gh):Nat->List PD->List Value->List T->Prop
|_,[],[],[]=>True
|K,p::ps,u::us,t::ts=>PRep1 w G K p u t/\PReps w G (K+1) ps us ts
|_,_,_,_=>False
def PRep(w:World)(G:Gh)(K:Nat)(p:PD)(u:Value)(t:T):Prop:=
 match p with
 |.ag l=>∃us ts,u=.agg us/\t=.st ts/\PReps w G K l us.toList ts
 |.bx l=>∃b us ty fz ts,u=.pointer (some ⟨b,0,none⟩)/\t=.st ts/\G.own b=some (.tmp K [])/\w.heap[b]? =some (.cells us ty fz)/\PReps w G (K+1) l us.toList ts
 |p=>PRep1 w G K p u t
def PRepL(w:World)(G:Gh):Nat->List PD->List Value->List T->Prop
|_,[],[],[]=>True
|K,p::ps,u::us,t::ts=>PRep w G K p u t/\PRepL w G (K+wide p) ps us ts
|_,_,_,_=>False
def noBlk:Hp:=λ_=>.dead
theorem PRep1.keep{w w':World}{G G':Gh}(hro:∀b,G.ro b->G'.ro b/\w'.heap[b]? =w.heap[b]?){K:Nat}(hown:∀b p,G.own b=some (.tmp K p)->G'.own b=some (.tmp K p)/\w'.heap[b]? =w.heap[b]?){p:PD}{u:Value}{t:T}(H:PRep1 w G K p u t):PRep1 w' G' K p u t:=by
 have h1:∀{c:CT},CellRep w (G.own.t K) [] c u t->CellRep w' (G'.own.t K) [] c u t:=λh=>CellRep.moved (M:=G.own.t K) (M':=G'.own.t K) t ⟨λhf=>False.elim hf,λb ρ hb=>hown b _ hb⟩ h;cases p with
 |v c=>exact⟨h1 H.1,H.2⟩
 |ro c=>exact⟨CellRep.moved (M:=roM G.ro) (M':=roM G'.ro) t ⟨λ_=>trivial,λb ρ hb=>hro b hb⟩ H.1,H.2⟩
 |ow c=>exact⟨h1 H.1,H.2⟩
 |mv c=>exact⟨h1 H.1,H.2⟩
 |fn f=>exact H
 |ag l=>exact H.elim
 |bx l=>exact H.elim
theorem PReps.keep{w w':World}{G G':Gh}(hro:∀b,G.ro b->G'.ro b/\w'.heap[b]? =w.heap[b]?):∀{K:Nat}{ps:List PD}{us:List Value}{ts:List T},(∀k b p,K<=k->G.own b=some (.tmp k p)->G'.own b=some (.tmp k p)/\w'.heap[b]? =w.heap[b]?)->PReps w G K ps us ts->PReps w' G' K ps us ts
|_,[],[],[],_,_=>trivial
|K,p::ps,u::us,t::ts,hown,H=>⟨H.1.keep hro (λb p hb=>hown K b p (Nat.le_refl _) hb),PReps.keep hro (λk b p hk hb=>hown k b p (by omega) hb) H.2⟩
|_,[],_::_,_,_,H=>H.elim
|_,[],[],_::_,_,H=>H.elim
|_,_::_,[],_,_,H=>H.elim
|_,_::_,_::_,[],_,H=>H.elim
theorem SlRep.ro{w:World}{ro:Nat->Prop}{π:Path}{i0:Nat}{m:Bool}{cs:List CT}{v:Value}{l:List T}(H:SlRep w (roM ro) π i0 m cs v l):RowRep w (roM ro) [] m cs v l:=by
 rcases H with⟨rfl,a,cap,rfl⟩|⟨b,off,cap,c,ty,fz,rfl,h2,h3,h4,h5,h6⟩
 · exact .inl ⟨.inr ⟨trivial,a,cap,rfl⟩,rfl⟩
 · right;refine⟨b,off,cap,c,ty,fz,rfl,h3,h2,h4,h5,?_⟩;rw[qa5];intro k hk;have:=h6 k hk;simp only[Nat.zero_add];exact ElemRep.move (M:=roM ro) (M':=roM ro) (π:=π) (π':=[]) (i:=i0+k) (i':=k) (λj=>⟨id,λb ρ(hb:ro b)=>⟨hb,rfl⟩⟩) (λ_ _=>rfl) this
def refIs(v:AV)(r:Nat):Prop:=
 match v with
 |.rf r' _ _ _=>r'=r
 |_=>False
theorem qu2{w0 w:World}{S0:Nat->Prop}{G:Gh}{h:Hp}(I:Inv w0 S0 w G h){c:CT}{v:AV}{u:Value}{t:T}{b:Bool}(hu:AVRep w G h u v)(hr:readT h c v=some (t,b))(hb:b=true):CellRep w (roM λb=>G.ro b\/∃r q,refIs v r/\G.own b=some (.blk r q)) [] c u t/\okC c t=true:=by
 have flat:∀{t':T},scal c v=some t'->(some (t',true):Option (T×Bool))=some (t,b)->CellRep w (roM λb=>G.ro b\/∃r q,refIs v r/\G.own b=some (.blk r q)) [] c u t/\okC c t=true:=by intro t' h1 h2;cases h2;exact qfv h1 hu _ _
 cases c with
 |sl m cs=>
  simp only[readT]at hr;cases hc:cont h v with
  |none=>rw[hc]at hr;cases hr
  |some x=>
   obtain⟨m',cs',l⟩:=x;rw[hc]at hr;simp only at hr;cases hq:CT.beq (.sl m cs) (.sl m' cs')with
   |false=>rw[hq]at hr;cases hr
   |true=>
    rw[hq,cond_true]at hr;cases CT.beq_eq hq;cases hr;cases v with
    |nl m' cs'=>simp only[cont,Option.some.injEq,Prod.mk.injEq]at hc;obtain⟨rfl,rfl,rfl⟩:=hc;have hu:u=_:=hu;subst hu;exact⟨qa6.2 (.inl ⟨.inl rfl,rfl⟩),rfl⟩
    |ro k m' cs' l'=>simp only[cont,Option.some.injEq,Prod.mk.injEq]at hc;obtain⟨rfl,rfl,rfl⟩:=hc;obtain⟨h1,h2,_⟩:=hu;exact⟨qa6.2 (RowRep.moved (M:=roM G.ro) ⟨λ_=>trivial,λb ρ hb=>⟨.inl hb,rfl⟩⟩ h1),by simpa[okC]using h2⟩
    |rf r p ver sub=>obtain⟨m1,cs1,l1,hra,heq⟩:=qer hc;cases heq;obtain⟨m0,cs0,l0,v0,e,hv,g0,g1,g2,g3,g4,g5,g6,g7⟩:=qdc I hu hra;have g8:RowRep w (roM λb=>G.ro b\/∃r' q,refIs (.rf r p ver sub) r'/\G.own b=some (.blk r' q)) [] m cs hv l1:=RowRep.moved (M:=G.own.m r) (π:=p) ⟨λhf=>False.elim hf,λb ρ hb=>⟨.inr ⟨r,p++ρ,rfl,hb⟩,rfl⟩⟩ g7;exact⟨qa6.2 (SlRep.part g8 g6).ro,by simpa[okC]using qfp I hu hra hb⟩
    |_=>simp[cont]at hc
 |b=>simp only[readT]at hr;cases h1:scal .b v with
  |none=>rw[h1]at hr;cases hr
  |some t'=>rw[h1]at hr;exact flat h1 hr
 |i kk=>simp only[readT]at hr;cases h1:scal (.i kk) v with
  |none=>rw[h1]at hr;cases hr
  |some t'=>rw[h1]at hr;exact flat h1 hr
 |s=>simp only[readT]at hr;cases h1:scal .s v with
  |none=>rw[h1]at hr;cases hr
  |some t'=>rw[h1]at hr;exact flat h1 hr
 |o=>simp only[readT]at hr;cases h1:scal .o v with
  |none=>rw[h1]at hr;cases hr
  |some t'=>rw[h1]at hr;exact flat h1 hr
def BlkX(w:World)(G:Gh)(r:Nat):Blk->Prop
|.dead=>∀b p,G.own b≠some (.blk r p)
|.box cs=>G.al r/\∃b c ty fz,G.φ r=.pointer (some ⟨b,0,none⟩)/\G.own b=some (.blk r [])/\w.heap[b]? =some (.cells c ty fz)/\c.size=cs.length/\∀v∈c.toList,v.oneCell'=true
|.row m cs l _ e=>G.al r/\RowRep w (G.own.m r) [] m cs (G.φ r) l/\(e=false->okL m cs l=true)
structure InvX(w0:World)(S0:Nat->Prop)(w:World)(G:Gh)(h:Hp):Prop where
 os:w.os=w0.os
 tape:w.tape=w0.tape
 output:w.output=w0.output
 size:w0.heap.size<=w.heap.size
 same:∀b,b<w0.heap.size->¬S0 b->w.heap[b]? =w0.heap[b]?
 mine:∀b x,G.own b=some x->S0 b\/w0.heap.size<=b
 cells:∀b x,G.own b=some x->∃c ty fz,w.heap[b]? =some (.cells c ty fz)/\Free fz c.size
 roOwn:∀b,G.ro b->G.own b=none
 roLt:∀b,G.ro b->b<w.heap.size
 roIn:∀b,G.ro b->G.kv.r0 b\/S0 b\/w0.heap.size<=b
 rep:∀r,BlkX w G r (h r)
def Gh.on(G:Gh)(A:Nat->Prop):Gh:={G with al:=λr=>G.al r/\A r}
def BoxOn(w:World)(G G':Gh)(h:Hp)(A:Nat->Prop):Prop:=∀r cs,A r->h r=.box cs->∃b c ty fz,G.φ r=.pointer (some ⟨b,0,none⟩)/\w.heap[b]? =some (.cells c ty fz)/\AVReps w G' h c.toList cs
section
variable{w0 w w':World}{S0:Nat->Prop}{G G':Gh}{h h':Hp}
theorem Inv.x(I:Inv w0 S0 w G h):InvX w0 S0 w G h:=by
 refine⟨I.os,I.tape,I.output,I.size,I.same,I.mine,I.cells,I.roOwn,I.roLt,I.roIn,λr=>?_⟩;have R:=I.rep r;cases e:h r with
 |dead=>rw[e]at R;exact R
 |row m cs l v z=>rw[e]at R;exact R
 |box cs=>rw[e]at R;obtain⟨h1,b,c,ty,fz,h2,h3,h4,h5,h6⟩:=R;exact⟨h1,b,c,ty,fz,h2,h3,h4,by simpa using h5.length,h6⟩
theorem Inv.boxes(I:Inv w0 S0 w G h)(A:Nat->Prop):BoxOn w G G h A:=by intro r cs _ e;have R:=I.rep r;rw[e]at R;obtain⟨h1,b,c,ty,fz,h2,h3,h4,h5,h6⟩:=R;exact⟨b,c,ty,fz,h2,h4,h5⟩
theorem InvX.inv(I:InvX w0 S0 w G h)(B:BoxOn w G G h (λ_=>True)):Inv w0 S0 w G h:=by
 refine⟨I.os,I.tape,I.output,I.size,I.same,I.mine,I.cells,I.roOwn,I.roLt,I.roIn,λr=>?_⟩;have R:=I.rep r;cases e:h r with
 |dead=>rw[e]at R;exact R
 |row m cs l v z=>rw[e]at R;exact R
 |box cs=>rw[e]at R;obtain⟨h1,b,c,ty,fz,h2,h3,h4,h5,h6⟩:=R;obtain⟨b',c',ty',fz',g1,g2,g3⟩:=B r cs trivial e;rw[h2]at g1;cases g1;rw[h4]at g2;cases g2;exact⟨h1,b,c,ty,fz,h2,h3,h4,g3,h6⟩
theorem InvX.dead(I:InvX w0 S0 w G h){r:Nat}(hr:¬G.al r):h r=.dead:=by
 have R:=I.rep r;cases e:h r with
 |dead=>rfl
 |box cs=>rw[e]at R;exact absurd R.1 hr
 |row m cs l v z=>rw[e]at R;exact absurd R.1 hr
theorem InvX.ownLt(I:InvX w0 S0 w G h){b:Nat}{x:Lab}(hb:G.own b=some x):b<w.heap.size:=by obtain⟨c,ty,fz,hc,_⟩:=I.cells b x hb;exact(Array.getElem?_eq_some_iff.1 hc).1
theorem InvX.put(I:InvX w0 S0 w G h)(f:Lab->Lab){r:Nat}{v:Value}(hf:∀r' p,r'≠r->f (.blk r' p)=.blk r' p)(hf':∀x r' p,r'≠r->f x=.blk r' p->x=.blk r' p)(B:Blk)(hB:BlkX w (G.inst f r v) r B):InvX w0 S0 w (G.inst f r v) (upd h r B):=by
 have o1:∀{b x},(G.inst f r v).own b=some x->∃y,G.own b=some y/\f y=x:=λhx=>by simpa[Gh.inst,Option.map_eq_some_iff]using hx
 refine⟨I.os,I.tape,I.output,I.size,I.same,λb x hx=>?_,λb x hx=>?_,λb hb=>?_,I.roLt,I.roIn,λr'=>?_⟩;· obtain⟨y,hy,_⟩:=o1 hx;exact I.mine b y hy
 · obtain⟨y,hy,_⟩:=o1 hx;exact I.cells b y hy
 · have:=I.roOwn b hb;simp[Gh.inst,this]
 ·by_cases e:r'=r;· subst e;rw[upd_same];exact hB
  ·rw[upd_ne _ _ e];have R:=I.rep r';have o2:∀{b p},G.own b=some (.blk r' p)->(G.inst f r v).own b=some (.blk r' p):=λhb=>by simp[Gh.inst,hb,hf r' _ e]
   have o3:∀{b p},(G.inst f r v).own b=some (.blk r' p)->G.own b=some (.blk r' p):=λhb=>by obtain⟨y,hy,hy'⟩:=o1 hb;rw[hy,hf' y r' _ e hy']
   have hφ:(G.inst f r v).φ r'=G.φ r':=upd_ne _ _ e;cases hr:h r' with
   |dead=>rw[hr]at R;exactλb p hb=>R b p (o3 hb)
   |box cs=>rw[hr]at R;obtain⟨h1,b,c,ty,fz,h2,h3,h4⟩:=R;exact⟨.inl h1,b,c,ty,fz,hφ.trans h2,o2 h3,h4⟩
   |row m cs l v z=>rw[hr]at R;refine⟨.inl R.1,?_,R.2.2⟩;rw[hφ];exact RowRep.moved (M:=G.own.m r') (π:=[]) ⟨λhf=>False.elim hf,λb ρ hb=>⟨o2 hb,rfl⟩⟩ R.2.1
structure Inst(G G':Gh)(h h':Hp)(N L:Nat->Prop):Prop where
 ro:G'.ro=G.ro
 kv:G'.kv=G.kv
 al:∀r,G.al r->G'.al r
 alN:∀r,G'.al r->G.al r\/N r
 stay:∀r,¬N r->h' r=h r/\G'.φ r=G.φ r/\∀b p,G'.own b=some (.blk r p)↔G.own b=some (.blk r p)
 tmp:∀k,¬L k->∀b p,G.own b=some (.tmp k p)↔G'.own b=some (.tmp k p)
theorem Inst.refl(G:Gh)(h:Hp)(N L:Nat->Prop):Inst G G h h N L:=⟨rfl,rfl,λ_ h=>h,λ_ h=>.inl h,λ_ _=>⟨rfl,rfl,λ_ _=>Iff.rfl⟩,λ_ _ _ _=>Iff.rfl⟩
theorem Inst.trans{G'':Gh}{h'':Hp}{N N' L L' M K:Nat->Prop}(J:Inst G G' h h' N L)(J':Inst G' G'' h' h'' N' L')(hN:∀r,N r->M r)(hN':∀r,N' r->M r)(hL:∀k,L k->K k)(hL':∀k,L' k->K k):Inst G G'' h h'' M K:=by
 refine⟨J'.ro.trans J.ro,J'.kv.trans J.kv,λr hr=>J'.al r (J.al r hr),λr hr=>?_,λr hr=>?_,λk hk b p=>?_⟩
 ·rcases J'.alN r hr with h1|h1
  · exact(J.alN r h1).imp id (hN r)
  · exact .inr (hN' r h1)
 · obtain⟨a1,a2,a3⟩:=J.stay r (λe=>hr (hN r e));obtain⟨b1,b2,b3⟩:=J'.stay r (λe=>hr (hN' r e));exact⟨b1.trans a1,b2.trans a2,λb p=>(b3 b p).trans (a3 b p)⟩
 · exact(J.tmp k (λe=>hk (hL k e)) b p).trans (J'.tmp k (λe=>hk (hL' k e)) b p)
theorem Inst.keepOn{N L A:Nat->Prop}(J:Inst G G' h h' N L)(w:World)(hA:∀r,A r->¬N r):Keep w w (G.on A) (G'.on A) h h':=by
 refine⟨λb hb=>⟨by show G'.ro b;rw[J.ro];exact hb,rfl⟩,J.kv,λr hr=>⟨⟨J.al r hr.1,hr.2⟩,?_⟩⟩;obtain⟨h1,h2,h3⟩:=J.stay r (hA r hr.2);rw[h1];cases h r with
 |dead=>trivial
 |box _=>exact h2
 |row m cs l v e=>exact⟨rfl,rfl,h2,.inl ⟨rfl,rfl,λb p hb=>⟨(h3 b p).2 hb,rfl⟩⟩⟩
theorem Gh.onMono(w:World)(G:Gh)(h:Hp){A A':Nat->Prop}(hA:∀r,A r->A' r):Keep w w (G.on A) (G.on A') h h:=⟨λb hb=>⟨hb,rfl⟩,rfl,λr hr=>⟨⟨hr.1,hA r hr.2⟩,by cases h r<;>simp[Turn,Gh.on]⟩⟩
theorem Gh.onAll(w:World)(G:Gh)(h:Hp)(A:Nat->Prop):Keep w w (G.on A) G h h:=⟨λb hb=>⟨hb,rfl⟩,rfl,λr hr=>⟨hr.1,by cases h r<;>simp[Turn,Gh.on]⟩⟩
theorem PRep1.inst{N L:Nat->Prop}(J:Inst G G' h h' N L){K:Nat}(hK:¬L K){p:PD}{u:Value}{t:T}(H:PRep1 w G K p u t):PRep1 w G' K p u t:=H.keep (λb hb=>⟨by rw[J.ro];exact hb,rfl⟩) (λb p hb=>⟨(J.tmp K hK b p).1 hb,rfl⟩)
theorem PReps.inst{N L:Nat->Prop}(J:Inst G G' h h' N L){K:Nat}(hK:∀k,K<=k->¬L k){ps:List PD}{us:List Value}{ts:List T}(H:PReps w G K ps us ts):PReps w G' K ps us ts:=H.keep (λb hb=>⟨by rw[J.ro];exact hb,rfl⟩) (λk b p hk hb=>⟨(J.tmp k (hK k hk) b p).1 hb,rfl⟩)
theorem PRep.inst{N L:Nat->Prop}(J:Inst G G' h h' N L){K:Nat}(hK:∀k,K<=k->¬L k){p:PD}{u:Value}{t:T}(H:PRep w G K p u t):PRep w G' K p u t:=by
 cases p with
 |ag l=>obtain⟨us,ts,h1,h2,h3⟩:=H;exact⟨us,ts,h1,h2,h3.inst J hK⟩
 |bx l=>obtain⟨b,us,ty,fz,ts,h1,h2,h3,h4,h5⟩:=H;exact⟨b,us,ty,fz,ts,h1,h2,(J.tmp K (hK K (Nat.le_refl _)) b []).1 h3,h4,h5.inst J (λk hk=>hK k (by omega))⟩
 |v c=>exact PRep1.inst (p:=.v c) J (hK K (Nat.le_refl _)) H
 |ro c=>exact PRep1.inst (p:=.ro c) J (hK K (Nat.le_refl _)) H
 |ow c=>exact PRep1.inst (p:=.ow c) J (hK K (Nat.le_refl _)) H
 |mv c=>exact PRep1.inst (p:=.mv c) J (hK K (Nat.le_refl _)) H
 |fn f=>exact H
theorem PRepL.inst{N L:Nat->Prop}(J:Inst G G' h h' N L):∀{K:Nat}{ps:List PD}{us:List Value}{ts:List T},(∀k,K<=k->¬L k)->PRepL w G K ps us ts->PRepL w G' K ps us ts
|_,[],[],[],_,_=>trivial
|K,p::ps,u::us,t::ts,hK,H=>⟨H.1.inst J hK,PRepL.inst J (λk hk=>hK k (by omega)) H.2⟩
|_,[],_::_,_,_,H=>H.elim
|_,[],[],_::_,_,H=>H.elim
|_,_::_,[],_,_,H=>H.elim
|_,_::_,_::_,[],_,H=>H.elim
theorem PRep1.one{K:Nat}{p:PD}{u:Value}{t:T}(H:PRep1 w G K p u t):u.oneCell'=true:=by
 cases p with
 |v c=>exact H.1.one
 |ro c=>exact H.1.one
 |ow c=>exact H.1.one
 |mv c=>exact H.1.one
 |fn f=>rw[H.1];rfl
 |ag l=>exact H.elim
 |bx l=>exact H.elim
theorem PReps.one:∀{K:Nat}{ps:List PD}{us:List Value}{ts:List T},PReps w G K ps us ts->∀v∈us,v.oneCell'=true
|_,[],[],[],_,_,hv=>by cases hv
|K,p::ps,u::us,t::ts,H,v,hv=>by
 rcases List.mem_cons.1 hv with rfl|hv
 · exact H.1.one
 · exact PReps.one H.2 v hv
|_,[],_::_,_,H,_,_=>H.elim
|_,[],[],_::_,H,_,_=>H.elim
|_,_::_,[],_,H,_,_=>H.elim
|_,_::_,_::_,[],H,_,_=>H.elim
theorem qcl(K r:Nat)(π:Path)(k:Nat)(s:Path):qb9 K r π (.tmp k s)=if k=K then .blk r (π++s)else .tmp k s:=rfl
theorem qxb(I:InvX w0 S0 w G h){r K:Nat}{m:Bool}{cs:List CT}{u:Value}{l:List T}(H:RowRep w (G.own.t K) [] m cs u l)(hok:okL m cs l=true):∃G',InvX w0 S0 w G' (upd h r (.row m cs l 0 false))/\AVRep w (G'.on (λx=>x=r)) (upd h r (.row m cs l 0 false)) u (.rf r [] 0 none)/\Inst G G' h (upd h r (.row m cs l 0 false)) (λx=>x=r) (λk=>k=K):=by
 have hH:RowRep w ((G.inst (qb9 K r []) r u).own.m r) [] m cs ((G.inst (qb9 K r []) r u).φ r) l:=by simp only[Gh.inst,upd_same];refine RowRep.moved (M:=G.own.t K) (π:=[]) ⟨λhf=>False.elim hf,λb ρ hb=>⟨?_,rfl⟩⟩ H;have hb:G.own b=some (.tmp K ρ):=hb;simp[Own.m,hb,qb9]
 have hback:∀x r' p,r'≠r->qb9 K r [] x=.blk r' p->x=.blk r' p:=by
  intro x r' p hr' hx;cases x with
  |blk r1 q=>exact hx
  |tmp k s=>
   rw[qcl]at hx;by_cases e:k=K;· rw[if_pos e]at hx;cases hx;exact absurd rfl hr'
   · rw[if_neg e]at hx;cases hx
 refine⟨_,InvX.put I (qb9 K r []) (v:=u) (λ_ _ _=>rfl) hback (.row m cs l 0 false) ⟨.inr rfl,hH,λ_=>hok⟩,?_,rfl,rfl,λ_ h=>.inl h,λ_ h=>h,λx hx=>⟨upd_ne _ _ hx,upd_ne _ _ hx,λb p=>⟨λhb=>?_,λhb=>?_⟩⟩,λk hk b p=>⟨λhb=>?_,λhb=>?_⟩⟩;· refine⟨(qa6.2 H).one,⟨.inr rfl,rfl⟩,?_⟩;rw[upd_same];exact⟨Nat.le_refl _,λ_=>⟨u,m,cs,l,by simp[Gh.on,Gh.inst,upd_same,NavH],trivial,rfl,rfl⟩⟩
 · simp only[Gh.inst,Option.map_eq_some_iff]at hb;obtain⟨y,hy,hy'⟩:=hb;rw[hy,hback y x p hx hy']
 · simp[Gh.inst,hb,qb9]
 · simp[Gh.inst,hb,qb9,hk]
 ·simp only[Gh.inst,Option.map_eq_some_iff]at hb;obtain⟨y,hy,hy'⟩:=hb;cases y with
  |blk r1 q=>exact absurd hy' (by simp[qb9])
  |tmp k1 s=>
   rw[qcl]at hy';by_cases e:k1=K;· rw[if_pos e]at hy';cases hy'
   · rw[if_neg e]at hy';rw[hy,hy']
theorem qp8{m:Bool}{cs:List CT}{M:Mem}{u:Value}{t:T}(h1:CellRep w M [] (.sl m cs) u t)(h2:okC (.sl m cs) t=true):∃l,t=.sl l/\RowRep w M [] m cs u l/\okL m cs l=true:=by
 cases t with
 |sl l=>exact⟨l,rfl,qa6.1 h1,h2⟩
 |u=>cases h2
 |b x=>exact absurd h1.1 (by simp)
 |i k x=>exact absurd h1.1 (by simp)
 |s x=>exact absurd h1.1 (by simp)
 |st x=>exact h1.elim
theorem qy9{M:Mem}{c:CT}{u:Value}{t:T}(h1:CellRep w M [] c u t)(h2:c.isSl=false):AVRep w G h u (coe c t):=by
 cases t with
 |b x=>obtain⟨rfl,rfl⟩:=h1;rfl
 |i k x=>obtain⟨rfl,rfl⟩:=h1;rfl
 |s x=>obtain⟨rfl,rfl⟩:=h1;rfl
 |u=>rw[h1.1]at h2;cases h2
 |st x=>exact h1.elim
 |sl l=>obtain⟨m,cs,rfl,_⟩:=h1;cases h2
def inN(mv:Bool)(n W r:Nat):Prop:=(n<=r/\r<n+W)\/(mv=true/\n+MV<=r/\r<n+MV+W)
def mvOk1(mv:Bool):PD->Bool
|.mv _=>mv
|_=>true
def mvOk(mv:Bool):PD->Bool
|.ag l=>l.all (mvOk1 mv)
|.bx l=>l.all (mvOk1 mv)
|p=>mvOk1 mv p
theorem qkf{mv:Bool}(I:InvX w0 S0 w G h){n k K:Nat}{p:PD}{u:Value}{t:T}(hm:mvOk1 mv p=true)(H:PRep1 w G K p u t)(hk:k≠0->∀c,p=.ro c->u=G.kv k)(hn:∀r,inN mv n 1 r->¬G.al r):∃G',InvX w0 S0 w G' (back1 h n k p t).2/\AVRep w (G'.on (inN mv n 1)) (back1 h n k p t).2 u (back1 h n k p t).1/\Inst G G' h (back1 h n k p t).2 (inN mv n 1) (λx=>x=K)/\∀r cs,inN mv n 1 r->(back1 h n k p t).2 r≠.box cs:=by
 have nb:∀r cs,inN mv n 1 r->h r≠.box cs:=λr cs hr e=>by rw[I.dead (hn r hr)]at e;cases e
 have triv:∀v,AVRep w (G.on (inN mv n 1)) h u v->(back1 h n k p t)=(v,h)->∃G',InvX w0 S0 w G' (back1 h n k p t).2/\AVRep w (G'.on (inN mv n 1)) (back1 h n k p t).2 u (back1 h n k p t).1/\Inst G G' h (back1 h n k p t).2 (inN mv n 1) (λx=>x=K)/\∀r cs,inN mv n 1 r->(back1 h n k p t).2 r≠.box cs:=by intro v hv e;rw[e];exact⟨G,I,hv,Inst.refl _ _ _ _,nb⟩
 have rowc:∀(r:Nat)(m:Bool)(cs:List CT),inN mv n 1 r->CellRep w (G.own.t K) [] (.sl m cs) u t->okC (.sl m cs) t=true->(back1 h n k p t)=(.rf r [] 0 none,upd h r (.row m cs (asL t) 0 false))->∃G',InvX w0 S0 w G' (back1 h n k p t).2/\AVRep w (G'.on (inN mv n 1)) (back1 h n k p t).2 u (back1 h n k p t).1/\Inst G G' h (back1 h n k p t).2 (inN mv n 1) (λx=>x=K)/\∀r cs,inN mv n 1 r->(back1 h n k p t).2 r≠.box cs:=by
  intro r m cs hr h1 h2 e;rw[e];obtain⟨l,rfl,h3,h4⟩:=qp8 h1 h2;obtain⟨G',I',A',J'⟩:=qxb I (r:=r) h3 h4;refine⟨G',I',(Gh.onMono w G' _ (λx hx=>by subst hx;exact hr)).av _ A',J'.trans (Inst.refl _ _ (λ_=>False) (λ_=>False)) (λx hx=>by subst hx;exact hr) (λ_ hf=>hf.elim) (λ_ h=>h) (λ_ hf=>hf.elim),λr' cs' hr'=>?_⟩;by_cases e:r'=r;· subst e;simp[upd_same]
  · simp only[upd_ne _ _ e];exact nb r' cs' hr'
 cases p with
 |v c=>exact triv _ (qy9 H.1 H.2) rfl
 |fn f=>exact triv (.fn f []) ⟨#[],H.1,trivial⟩ rfl
 |ag l=>exact H.elim
 |bx l=>exact H.elim
 |ro c=>
  cases c with
  |sl m cs=>refine triv (.ro k m cs (asL t)) ?_ rfl;obtain⟨l,rfl,h3,h4⟩:=qp8 H.1 H.2;exact⟨h3,h4,λhk0=>hk hk0 _ rfl⟩
  |_=>exact triv .z trivial rfl
 |ow c=>
  cases c with
  |sl m cs=>exact rowc n m cs (.inl ⟨Nat.le_refl _,by omega⟩) H.1 H.2 rfl
  |_=>exact triv .z trivial rfl
 |mv c=>
  cases c with
  |sl m cs=>exact rowc (n+MV) m cs (.inr ⟨hm,Nat.le_refl _,by omega⟩) H.1 H.2 rfl
  |_=>exact triv .z trivial rfl
end
section
variable{w0 w w':World}{S0:Nat->Prop}{G G':Gh}{h h':Hp}
theorem qmp{mv:Bool}{n W a r:Nat}(ha:a<=W)(hW:W<=MV)(h1:inN mv n a r)(h2:inN mv (n+a) (W-a) r):False:=by cases mv<;>simp only[inN,Bool.false_eq_true,false_and,or_false,true_and]at h1 h2<;>omega
theorem qe4{mv:Bool}{n W a r:Nat}(ha:a<=W)(h1:inN mv n a r):inN mv n W r:=by cases mv<;>simp only[inN,Bool.false_eq_true,false_and,or_false,true_and]at h1|- <;>omega
theorem qg8{mv:Bool}{n W a r:Nat}(ha:a<=W)(h1:inN mv (n+a) (W-a) r):inN mv n W r:=by cases mv<;>simp only[inN,Bool.false_eq_true,false_and,or_false,true_and]at h1|- <;>omega
theorem qjq{mv:Bool}{n W a r:Nat}(ha:a<=W)(h1:inN mv n W r)(h2:¬inN mv (n+a) (W-a) r):inN mv n a r:=by cases mv<;>simp only[inN,Bool.false_eq_true,false_and,or_false,true_and]at h1 h2|- <;>omega
theorem qmo{mv:Bool}{n r:Nat}(h:inN mv n 0 r):False:=by cases mv<;>simp only[inN,Bool.false_eq_true,false_and,or_false,true_and]at h<;>omega
theorem qzc{mv:Bool}{n W r:Nat}(h:inN mv n W r):n<=r/\r<n+MV+W:=by cases mv<;>simp only[inN,Bool.false_eq_true,false_and,or_false,true_and]at h<;>omega
theorem BoxOn.inst{N L A:Nat->Prop}(B:BoxOn w G (G.on A) h A)(J:Inst G G' h h' N L)(hA:∀r,A r->¬N r):BoxOn w G' (G'.on A) h' A:=by intro r cs hr e;obtain⟨h1,h2,_⟩:=J.stay r (hA r hr);rw[h1]at e;obtain⟨b,c,ty,fz,g1,g2,g3⟩:=B r cs hr e;exact⟨b,c,ty,fz,h2.trans g1,g2,(J.keepOn w hA).avs _ g3⟩
theorem BoxOn.mono{A A':Nat->Prop}(B:BoxOn w G (G.on A) h A)(hA:∀r,A r->A' r):BoxOn w G (G.on A') h A:=by intro r cs hr e;obtain⟨b,c,ty,fz,g1,g2,g3⟩:=B r cs hr e;exact⟨b,c,ty,fz,g1,g2,(Gh.onMono w G h hA).avs _ g3⟩
def tagN(tag:Bool)(n:Nat):Nat:=match tag with|true=>n|false=>0
theorem qke{mv:Bool}(tag:Bool)(t:T):∀{ps:List PD}{us:List Value}{ts:List T}{h:Hp}{G:Gh}{n K j:Nat},InvX w0 S0 w G h->ps.all (mvOk1 mv)=true->PReps w G K ps us ts->(∀i x,ts[i]? =some x->T.cell t (j+i)=x)->(tag=true->∀i d x,ps[i]? =some (.ro d)->us[i]? =some x->x=G.kv (n+i))->(∀r,inN mv n ps.length r->¬G.al r)->ps.length<=MV->∃G',InvX w0 S0 w G' (backs h n tag ps t j).2/\AVReps w (G'.on (inN mv n ps.length)) (backs h n tag ps t j).2 us (backs h n tag ps t j).1/\Inst G G' h (backs h n tag ps t j).2 (inN mv n ps.length) (λk=>K<=k/\k<K+ps.length)/\∀r cs,inN mv n ps.length r->(backs h n tag ps t j).2 r≠.box cs
|[],[],[],h,G,n,K,j,I,_,_,_,_,hn,_=>⟨G,I,trivial,Inst.refl _ _ _ _,λr cs hr=>(qmo hr).elim⟩
|[],_::_,_,_,_,_,_,_,_,_,H,_,_,_,_=>H.elim
|[],[],_::_,_,_,_,_,_,_,_,H,_,_,_,_=>H.elim
|_::_,[],_,_,_,_,_,_,_,_,H,_,_,_,_=>H.elim
|_::_,_::_,[],_,_,_,_,_,_,_,H,_,_,_,_=>H.elim
|p::ps,u::us,t0::ts,h,G,n,K,j,I,hm,H,ht,hk,hn,hW=>by
 rw[List.all_cons,Bool.and_eq_true]at hm;simp only[List.length_cons]at hn hW|-;have e0:T.cell t j=t0:=by simpa using ht 0 t0 rfl
 have H1:PRep1 w G K p u (T.cell t j):=by rw[e0];exact H.1
 obtain⟨G1,I1,A1,J1,B1⟩:=qkf I (n:=n) (k:=tagN tag n) hm.1 H1 (λhk0 c hc=>by
  cases tag with
  |false=>exact absurd rfl hk0
  |true=>subst hc;exact hk rfl 0 c u rfl rfl) (λr hr=>hn r (qe4 (by omega) hr))
 obtain⟨G2,I2,A2,J2,B2⟩:=qke tag t (n:=n+1) (K:=K+1) (j:=j+1) I1 hm.2 (H.2.inst J1 (λk hk=>by omega)) (λi x hx=>by rw[show j+1+i=j+(i+1)by omega];exact ht (i+1) x (by simpa using hx)) (λhtag i d x h1 h2=>by rw[J1.kv,show n+1+i=n+(i+1)by omega];exact hk htag (i+1) d x (by simpa using h1) (by simpa using h2)) (λr hr ha=>by
  have hr':inN mv (n+1) (ps.length+1-1) r:=by simpa using hr
  rcases J1.alN r ha with h1|h1
  · exact hn r (qg8 (by omega) hr') h1
  · exact qmp (by omega) hW h1 hr') (by omega)
 have far:∀r,inN mv n 1 r->¬inN mv (n+1) ps.length r:=λr h1 h2=>qmp (W:=ps.length+1) (by omega) hW h1 (by simpa using h2);have tl:∀r,inN mv (n+1) ps.length r->inN mv n (ps.length+1) r:=λr hr=>qg8 (a:=1) (by omega) (by simpa using hr);have hd:∀r,inN mv n 1 r->inN mv n (ps.length+1) r:=λr hr=>qe4 (by omega) hr;refine⟨G2,I2,⟨?_,?_⟩,J1.trans J2 hd tl (λk hk=>by omega) (λk hk=>by omega),λr cs hr=>?_⟩;· exact(Gh.onMono w G2 _ hd).av _ ((J2.keepOn w far).av _ A1)
 · exact(Gh.onMono w G2 _ tl).avs _ A2
 ·by_cases e:inN mv (n+1) ps.length r;· exact B2 r cs e
  · have h1:=(J2.stay r e).1;show(backs (back1 h n (tagN tag n) p (T.cell t j)).2 (n+1) tag ps t (j+1)).2 r≠_;rw[h1];refine B1 r cs ?_;exact qjq (by omega) hr (by simpa using e)
theorem PReps.length:∀{K:Nat}{ps:List PD}{us:List Value}{ts:List T},PReps w G K ps us ts->us.length=ps.length/\ts.length=ps.length
|_,[],[],[],_=>⟨rfl,rfl⟩
|_,_::_,_::_,_::_,H=>by obtain⟨h1,h2⟩:=PReps.length H.2;simp[h1,h2]
|_,[],_::_,_,H=>H.elim
|_,[],[],_::_,H=>H.elim
|_,_::_,[],_,H=>H.elim
|_,_::_,_::_,[],H=>H.elim
def BxKv1(w:World)(G:Gh)(n:Nat)(p:PD)(u:Value):Prop:=
 match p with
 |.bx l=>∀b c ty fz,u=.pointer (some ⟨b,0,none⟩)->w.heap[b]? =some (.cells c ty fz)->∀(i:Nat) d x,l[i]? =some (.ro d)->c.toList[i]? =some x->x=G.kv (n+1+i)
 |_=>True
def BxKv(w:World)(G:Gh):Nat->List PD->List Value->Prop
|n,p::ps,u::us=>BxKv1 w G n p u/\BxKv w G (n+wide p) ps us
|_,_,_=>True
theorem BxKv.kv(hkv:G'.kv=G.kv):∀{n:Nat}{ps:List PD}{us:List Value},BxKv w G n ps us->BxKv w G' n ps us
|n,p::ps,u::us,H=>⟨by
 have:=H.1;cases p with
 |bx l=>intro b c ty fz h1 h2 i d x h3 h4;rw[hkv];exact this b c ty fz h1 h2 i d x h3 h4
 |_=>trivial,BxKv.kv hkv H.2⟩
|_,[],_,_=>trivial
|_,_::_,[],_=>trivial
theorem qwn{mv:Bool}(tag:Bool){n K:Nat}{p:PD}{u:Value}{t:T}(I:InvX w0 S0 w G h)(hm:mvOk mv p=true)(H:PRep w G K p u t)(hk:tag=true->BxKv1 w G n p u)(hn:∀r,inN mv n (wide p) r->¬G.al r)(hW:wide p<=MV):∃G',InvX w0 S0 w G' (backR h n tag p t).2/\AVRep w (G'.on (inN mv n (wide p))) (backR h n tag p t).2 u (backR h n tag p t).1/\Inst G G' h (backR h n tag p t).2 (inN mv n (wide p)) (λk=>K<=k/\k<K+wide p)/\BoxOn w G' (G'.on (inN mv n (wide p))) (backR h n tag p t).2 (inN mv n (wide p)):=by
 have flat:∀{p:PD},mvOk1 mv p=true->PRep1 w G K p u t->wide p=1->(∀r,inN mv n 1 r->¬G.al r)->∃G',InvX w0 S0 w G' (back1 h n 0 p t).2/\AVRep w (G'.on (inN mv n 1)) (back1 h n 0 p t).2 u (back1 h n 0 p t).1/\Inst G G' h (back1 h n 0 p t).2 (inN mv n 1) (λk=>K<=k/\k<K+1)/\BoxOn w G' (G'.on (inN mv n 1)) (back1 h n 0 p t).2 (inN mv n 1):=by intro p hm H _ hn;obtain⟨G1,I1,A1,J1,B1⟩:=qkf I (n:=n) (k:=0) hm H (λhf=>absurd rfl hf) hn;exact⟨G1,I1,A1,J1.trans (Inst.refl _ _ (λ_=>False) (λ_=>False)) (λ_ h=>h) (λ_ hf=>hf.elim) (λk hk=>by omega) (λ_ hf=>hf.elim),λr cs hr e=>absurd e (B1 r cs hr)⟩
 cases p with
 |v c=>exact flat (p:=.v c) hm H rfl hn
 |ro c=>exact flat (p:=.ro c) hm H rfl hn
 |ow c=>exact flat (p:=.ow c) hm H rfl hn
 |mv c=>exact flat (p:=.mv c) hm H rfl hn
 |fn f=>exact flat (p:=.fn f) hm H rfl hn
 |ag l=>obtain⟨us,ts,rfl,rfl,H⟩:=H;obtain⟨G1,I1,A1,J1,B1⟩:=qke false (.st ts) (n:=n) (j:=0) I hm H (λi x hx=>by simp only[T.cell,Nat.zero_add,List.getD_eq_getElem?_getD,hx,Option.getD_some]) (λhf=>by cases hf) hn hW;exact⟨G1,I1,⟨us,rfl,A1⟩,J1,λr cs hr e=>absurd e (B1 r cs hr)⟩
 |bx l=>
  obtain⟨b,us,ty,fz,ts,rfl,rfl,hb,hc,H⟩:=H;simp only[wide]at hn hW|-;have far:∀r,inN mv (n+1) l.length r->r≠n:=λr hr e=>by have:=qzc hr;omega
  have tl:∀r,inN mv (n+1) l.length r->inN mv n (l.length+1) r:=λr hr=>qg8 (a:=1) (by omega) (by simpa using hr);obtain⟨G1,I1,A1,J1,B1⟩:=qke tag (.st ts) (n:=n+1) (j:=0) I hm H (λi x hx=>by simp only[T.cell,Nat.zero_add,List.getD_eq_getElem?_getD,hx,Option.getD_some]) (λhtag i d x h1 h2=>hk htag b us ty fz rfl hc i d x h1 h2) (λr hr=>hn r (tl r hr)) (by omega);have hlen:us.size=(backs h (n+1) tag l (.st ts) 0).1.length:=by simpa using A1.length
  have hb1:G1.own b=some (.tmp K []):=(J1.tmp K (by omega) b []).1 hb;have hn0:¬G1.al n:=λha=>by
   rcases J1.alN n ha with h1|h1
   · exact hn n (.inl ⟨Nat.le_refl _,by omega⟩) h1
   · exact far n h1 rfl
  have hback:∀x r' p,r'≠n->qb9 K n [] x=.blk r' p->x=.blk r' p:=by
   intro x r' p hr' hx;cases x with
   |blk r1 q=>exact hx
   |tmp k s=>
    rw[qcl]at hx;by_cases e:k=K;· rw[if_pos e]at hx;cases hx;exact absurd rfl hr'
    · rw[if_neg e]at hx;cases hx
  have I2:=InvX.put I1 (qb9 K n []) (r:=n) (v:=.pointer (some ⟨b,0,none⟩)) (λ_ _ _=>rfl) hback (.box (backs h (n+1) tag l (.st ts) 0).1) ⟨.inr rfl,b,us,ty,fz,by simp[Gh.inst,upd_same],by simp[Gh.inst,hb1,qb9],hc,hlen,H.one⟩;have J2:Inst G1 (G1.inst (qb9 K n []) n (.pointer (some ⟨b,0,none⟩))) (backs h (n+1) tag l (.st ts) 0).2 (upd (backs h (n+1) tag l (.st ts) 0).2 n (.box (backs h (n+1) tag l (.st ts) 0).1)) (λx=>x=n) (λk=>k=K):=by
   refine⟨rfl,rfl,λ_ h=>.inl h,λ_ h=>h,λx hx=>⟨upd_ne _ _ hx,upd_ne _ _ hx,λb p=>⟨λhb=>?_,λhb=>?_⟩⟩,λk hk b p=>⟨λhb=>?_,λhb=>?_⟩⟩;· simp only[Gh.inst,Option.map_eq_some_iff]at hb;obtain⟨y,hy,hy'⟩:=hb;rw[hy,hback y x p hx hy']
   · simp[Gh.inst,hb,qb9]
   · simp[Gh.inst,hb,qb9,hk]
   ·simp only[Gh.inst,Option.map_eq_some_iff]at hb;obtain⟨y,hy,hy'⟩:=hb;cases y with
    |blk r1 q=>exact absurd hy' (by simp[qb9])
    |tmp k1 s=>
     rw[qcl]at hy';by_cases e:k1=K;· rw[if_pos e]at hy';cases hy'
     · rw[if_neg e]at hy';rw[hy,hy']
  have hself:inN mv n (l.length+1) n:=.inl ⟨Nat.le_refl _,by omega⟩;refine⟨_,I2,⟨rfl,⟨.inr rfl,hself⟩,?_⟩,J1.trans J2 tl (λx hx=>by subst hx;exact hself) (λk hk=>by omega) (λk hk=>by omega),λr cs hr e=>?_⟩;· simp only[backR,upd_same];exact⟨b,by simp[Gh.on,Gh.inst,upd_same],rfl⟩
  ·simp only[backR]at e|-;by_cases hrn:r=n;· subst hrn;rw[upd_same]at e;cases e;refine⟨b,us,ty,fz,by simp[Gh.inst,upd_same],hc,?_⟩;exact(Gh.onMono w _ _ tl).avs _ ((J2.keepOn w (A:=inN mv (r+1) l.length) far).avs _ A1)
   ·rw[upd_ne _ _ hrn]at e;by_cases hr2:inN mv (n+1) l.length r;· exact absurd e (B1 r cs hr2)
    · rw[(J1.stay r hr2).1,I.dead (hn r hr)]at e;cases e
theorem qhn{mv:Bool}(tag:Bool)(rr:List T):∀{ps:List PD}{us:List Value}{ts:List T}{h:Hp}{G:Gh}{n K i:Nat},InvX w0 S0 w G h->ps.all (mvOk mv)=true->PRepL w G K ps us ts->(∀j x,ts[j]? =some x->nth rr (i+j)=x)->(tag=true->BxKv w G n ps us)->(∀r,inN mv n (ps.map wide).sum r->¬G.al r)->(ps.map wide).sum<=MV->∃G',InvX w0 S0 w G' (qb8 h n tag ps rr i).2/\AVReps w (G'.on (inN mv n (ps.map wide).sum)) (qb8 h n tag ps rr i).2 us (qb8 h n tag ps rr i).1/\Inst G G' h (qb8 h n tag ps rr i).2 (inN mv n (ps.map wide).sum) (λk=>K<=k/\k<K+(ps.map wide).sum)/\BoxOn w G' (G'.on (inN mv n (ps.map wide).sum)) (qb8 h n tag ps rr i).2 (inN mv n (ps.map wide).sum)
|[],[],[],h,G,n,K,j,I,_,_,_,_,hn,_=>⟨G,I,trivial,Inst.refl _ _ _ _,λr cs hr=>(qmo hr).elim⟩
|[],_::_,_,_,_,_,_,_,_,_,H,_,_,_,_=>H.elim
|[],[],_::_,_,_,_,_,_,_,_,H,_,_,_,_=>H.elim
|_::_,[],_,_,_,_,_,_,_,_,H,_,_,_,_=>H.elim
|_::_,_::_,[],_,_,_,_,_,_,_,H,_,_,_,_=>H.elim
|p::ps,u::us,t0::ts,h,G,n,K,i,I,hm,H,ht,hk,hn,hW=>by
 rw[List.all_cons,Bool.and_eq_true]at hm;simp only[List.map_cons,List.sum_cons]at hn hW|-;have e0:nth rr i=t0:=by simpa using ht 0 t0 rfl
 have H1:PRep w G K p u (nth rr i):=by rw[e0];exact H.1
 obtain⟨G1,I1,A1,J1,B1⟩:=qwn tag (n:=n) I hm.1 H1 (λhtag=>(hk htag).1) (λr hr=>hn r (qe4 (by omega) hr)) (by omega);have tl':∀r,inN mv (n+wide p) (ps.map wide).sum r->inN mv (n+wide p) (wide p+(ps.map wide).sum-wide p) r:=λr hr=>by rwa[Nat.add_sub_cancel_left]
 have far:∀r,inN mv n (wide p) r->¬inN mv (n+wide p) (ps.map wide).sum r:=λr h1 h2=>qmp (W:=wide p+(ps.map wide).sum) (by omega) hW h1 (tl' r h2);have tl:∀r,inN mv (n+wide p) (ps.map wide).sum r->inN mv n (wide p+(ps.map wide).sum) r:=λr hr=>qg8 (a:=wide p) (by omega) (tl' r hr);have hd:∀r,inN mv n (wide p) r->inN mv n (wide p+(ps.map wide).sum) r:=λr hr=>qe4 (by omega) hr;obtain⟨G2,I2,A2,J2,B2⟩:=qhn tag rr (n:=n+wide p) (K:=K+wide p) (i:=i+1) I1 hm.2 (H.2.inst J1 (λk hk=>by omega)) (λj x hx=>by rw[show i+1+j=i+(j+1)by omega];exact ht (j+1) x (by simpa using hx)) (λhtag=>BxKv.kv J1.kv (hk htag).2) (λr hr ha=>by
  rcases J1.alN r ha with h1|h1
  · exact hn r (tl r hr) h1
  · exact far r h1 hr) (by omega)
 refine⟨G2,I2,⟨?_,?_⟩,J1.trans J2 hd tl (λk hk=>by omega) (λk hk=>by omega),λr cs hr e=>?_⟩;· exact(Gh.onMono w G2 _ hd).av _ ((J2.keepOn w far).av _ A1)
 · exact(Gh.onMono w G2 _ tl).avs _ A2
 ·by_cases e2:inN mv (n+wide p) (ps.map wide).sum r;· exact(B2.mono tl) r cs e2 e
  · refine((B1.inst J2 far).mono hd) r cs ?_ e;exact qjq (a:=wide p) (by omega) hr (by rwa[Nat.add_sub_cancel_left])
end
def Gh.frz(G:Gh)(F:Lab->Bool):Gh:=
 {G with
  own:=λb=>match G.own b with|some x=>bif F x then none else some x|none=>none
  ro:=λb=>G.ro b\/∃x,G.own b=some x/\F x=true}
section
variable{w0 w w':World}{S0:Nat->Prop}{G G':Gh}{h h':Hp}
theorem qde{F:Lab->Bool}{b:Nat}{x:Lab}:(G.frz F).own b=some x↔G.own b=some x/\F x=false:=by
 cases e:G.own b with
 |none=>simp[Gh.frz,e]
 |some y=>
  cases e2:F y with
  |true=>
   simp only[Gh.frz,e,e2,Bool.cond_true];constructor;· intro hf;cases hf
   · rintro⟨h1,h2⟩;cases h1;rw[e2]at h2;cases h2
  |false=>
   simp only[Gh.frz,e,e2,Bool.cond_false];constructor;· intro hf;cases hf;exact⟨rfl,e2⟩
   · rintro⟨h1,_⟩;exact h1
theorem qrd(I:Inv w0 S0 w G h)(F:Lab->Bool)(tc:Nat->Prop)(h1:∀r,tc r->h' r=.dead/\∀p,F (.blk r p)=true)(h2:∀r,¬tc r->h' r=h r/\∀p,F (.blk r p)=false):Inv w0 S0 w (G.frz F) h'/\Keep w w G (G.frz F) h h':=by
 have K:Keep w w G (G.frz F) h h':=by
  refine⟨λb hb=>⟨.inl hb,rfl⟩,rfl,λr hr=>⟨hr,?_⟩⟩;by_cases ht:tc r;· rw[(h1 r ht).1];cases h r<;>trivial
  ·obtain⟨e,hF⟩:=h2 r ht;rw[e];cases h r with
   |dead=>trivial
   |box _=>rfl
   |row m cs l v z=>exact⟨rfl,rfl,rfl,.inl ⟨rfl,rfl,λb p hb=>⟨qde.2 ⟨hb,hF p⟩,rfl⟩⟩⟩
 refine⟨⟨I.os,I.tape,I.output,I.size,I.same,λb x hx=>I.mine b x (qde.1 hx).1,λb x hx=>I.cells b x (qde.1 hx).1,λb hb=>?_,λb hb=>?_,λb hb=>?_,λr=>?_⟩,K⟩
 ·cases e:(G.frz F).own b with
  |none=>rfl
  |some x=>
   obtain⟨g1,g2⟩:=qde.1 e;rcases hb with hb|⟨y,hy,hy'⟩
   · rw[I.roOwn b hb]at g1;cases g1
   · rw[g1]at hy;cases hy;rw[g2]at hy';cases hy'
 ·rcases hb with hb|⟨y,hy,_⟩
  · exact I.roLt b hb
  · exact I.ownLt hy
 ·rcases hb with hb|⟨y,hy,_⟩
  · exact I.roIn b hb
  · exact .inr (I.mine b y hy)
 ·by_cases ht:tc r;· obtain⟨e,hF⟩:=h1 r ht;rw[e];intro b p hb;have:=(qde.1 hb).2;rw[hF p]at this;cases this
  ·obtain⟨e,hF⟩:=h2 r ht;rw[e];have R:=I.rep r;cases hr:h r with
   |dead=>rw[hr]at R;exactλb p hb=>R b p (qde.1 hb).1
   |box cs=>rw[hr]at R;obtain⟨ha,b,c,ty,fz,g1,g2,g3,g4,g5⟩:=R;exact⟨ha,b,c,ty,fz,g1,qde.2 ⟨g2,hF _⟩,g3,K.avs cs g4,g5⟩
   |row m cs l v z=>rw[hr]at R;obtain⟨ha,g1,g2⟩:=R;exact⟨ha,RowRep.moved (M:=G.own.m r) (M':=(G.frz F).own.m r) ⟨λhf=>False.elim hf,λb ρ hb=>⟨qde.2 ⟨hb,hF _⟩,rfl⟩⟩ g1,g2⟩
def isTmp(K:Nat):Lab->Bool
|.tmp k _=>Nat.beq k K
|.blk _ _=>false
theorem frz_tmp(I:Inv w0 S0 w G h)(K:Nat):Inv w0 S0 w (G.frz (isTmp K)) h/\Keep w w G (G.frz (isTmp K)) h h/\TmpSame G (G.frz (isTmp K)) K:=by
 obtain⟨h1,h2⟩:=qrd (h':=h) I (isTmp K) (λ_=>False) (λ_ hf=>hf.elim) (λr _=>⟨rfl,λ_=>rfl⟩);refine⟨h1,h2,λk' b p hk=>⟨λhb=>qde.2 ⟨hb,?_⟩,λhb=>(qde.1 hb).1⟩⟩;simp only[isTmp];cases e:Nat.beq k' K with
 |false=>rfl
 |true=>exact absurd (Nat.eq_of_beq_eq_true e) hk
theorem qxy{K:Nat}{c:CT}{u:Value}{t:T}(H:CellRep w (G.own.t K) [] c u t):CellRep w (roM (G.frz (isTmp K)).ro) [] c u t:=CellRep.moved (M:=G.own.t K) t ⟨λhf=>False.elim hf,λb ρ(hb:G.own b=some (.tmp K ([]++ρ)))=>⟨.inr ⟨_,hb,by simp[isTmp]⟩,rfl⟩⟩ H
theorem qr5(I:Inv w0 S0 w G h){r K:Nat}{cs:List AV}(hr:h r=.box cs):Inv w0 S0 w (G.rel (killF r [] K)) (upd h r .dead)/\Keep w w G (G.rel (killF r [] K)) h (upd h r .dead)/\TmpSame G (G.rel (killF r [] K)) K:=by
 have hdead:∀b q,(G.rel (killF r [] K)).own b≠some (.blk r q):=by intro b q hb;simp only[Gh.rel,Option.map_eq_some_iff]at hb;obtain⟨y,hy,hy'⟩:=hb;have:=qdn hy';subst this;simp[killF,strip]at hy'
 have S:Step w w G (G.rel (killF r [] K)) h (upd h r .dead) (λx=>x=r):=qdw I _ _ (λr' q hr'=>qhg hr') (λx r' q _ hx=>qdn hx) (λr' hr'=>upd_ne _ _ hr') (λr' hr' _=>by subst hr';rw[upd_same];cases h r'<;>trivial);refine⟨S.inv I λr' hr'=>?_,S.keep I,qmm _ _ _ _⟩;subst hr';rw[upd_same];exact hdead
def TmpOut(G G':Gh)(L:Nat->Prop):Prop:=∀k,¬L k->∀b p,(G.own b=some (.tmp k p)↔G'.own b=some (.tmp k p))
theorem TmpOut.refl(G:Gh)(L:Nat->Prop):TmpOut G G L:=λ_ _ _ _=>Iff.rfl
theorem TmpSame.out{k:Nat}(H:TmpSame G G' k){L:Nat->Prop}(hL:L k):TmpOut G G' L:=λk' hk b p=>H k' b p (λe=>hk (e▸hL))
theorem TmpOut.trans{G'':Gh}{L:Nat->Prop}(H:TmpOut G G' L)(H':TmpOut G' G'' L):TmpOut G G'' L:=λk hk b p=>(H k hk b p).trans (H' k hk b p)
theorem TmpOut.mono{L L':Nat->Prop}(H:TmpOut G G' L)(hL:∀k,L k->L' k):TmpOut G G' L':=λk hk b p=>H k (λe=>hk (hL k e)) b p
theorem TmpOut.fresh{L:Nat->Prop}(H:TmpOut G G' L){k:Nat}(hk:¬L k)(hf:∀b p,G.own b≠some (.tmp k p)):∀b p,G'.own b≠some (.tmp k p):=λb p hb=>hf b p ((H k hk b p).2 hb)
theorem PRep1.out{L:Nat->Prop}(K:Keep w w G G' h h')(H:TmpOut G G' L){k:Nat}(hk:¬L k){p:PD}{u:Value}{t:T}(R:PRep1 w G k p u t):PRep1 w G' k p u t:=R.keep K.ro (λb p hb=>⟨(H k hk b p).1 hb,rfl⟩)
theorem PReps.out{L:Nat->Prop}(K:Keep w w G G' h h')(H:TmpOut G G' L):∀{k:Nat}{ps:List PD}{us:List Value}{ts:List T},(∀j,k<=j->j<k+ps.length->¬L j)->PReps w G k ps us ts->PReps w G' k ps us ts
|_,[],[],[],_,_=>trivial
|k,p::ps,u::us,t::ts,hk,R=>⟨R.1.out K H (hk k (Nat.le_refl _) (by simp)),PReps.out K H (λj h1 h2=>hk j (by omega) (by simp only[List.length_cons];omega)) R.2⟩
|_,[],_::_,_,_,H=>H.elim
|_,[],[],_::_,_,H=>H.elim
|_,_::_,[],_,_,H=>H.elim
|_,_::_,_::_,[],_,H=>H.elim
theorem PRep.out{L:Nat->Prop}(K:Keep w w G G' h h')(H:TmpOut G G' L){k:Nat}{p:PD}{u:Value}{t:T}(hk:∀j,k<=j->j<k+wide p->¬L j)(R:PRep w G k p u t):PRep w G' k p u t:=by
 cases p with
 |ag l=>obtain⟨us,ts,h1,h2,h3⟩:=R;exact⟨us,ts,h1,h2,h3.out K H hk⟩
 |bx l=>obtain⟨b,us,ty,fz,ts,h1,h2,h3,h4,h5⟩:=R;simp only[wide]at hk;exact⟨b,us,ty,fz,ts,h1,h2,(H k (hk k (Nat.le_refl _) (by omega)) b []).1 h3,h4,h5.out K H (λj h1 h2=>hk j (by omega) (by omega))⟩
 |v c=>exact PRep1.out (p:=.v c) K H (hk k (Nat.le_refl _) (by simp[wide])) R
 |ro c=>exact PRep1.out (p:=.ro c) K H (hk k (Nat.le_refl _) (by simp[wide])) R
 |ow c=>exact PRep1.out (p:=.ow c) K H (hk k (Nat.le_refl _) (by simp[wide])) R
 |mv c=>exact PRep1.out (p:=.mv c) K H (hk k (Nat.le_refl _) (by simp[wide])) R
 |fn f=>exact PRep1.out (p:=.fn f) K H (hk k (Nat.le_refl _) (by simp[wide])) R
theorem PRepL.out{L:Nat->Prop}(K:Keep w w G G' h h')(H:TmpOut G G' L):∀{k:Nat}{ps:List PD}{us:List Value}{ts:List T},(∀j,k<=j->j<k+(ps.map wide).sum->¬L j)->PRepL w G k ps us ts->PRepL w G' k ps us ts
|_,[],[],[],_,_=>trivial
|k,p::ps,u::us,t::ts,hk,R=>by simp only[List.map_cons,List.sum_cons]at hk;exact⟨R.1.out K H (λj h1 h2=>hk j h1 (by omega)),PRepL.out K H (λj h1 h2=>hk j (by omega) (by omega)) R.2⟩
|_,[],_::_,_,_,H=>H.elim
|_,[],[],_::_,_,H=>H.elim
|_,_::_,[],_,_,H=>H.elim
|_,_::_,_::_,[],_,H=>H.elim
end
def Went(w0:World)(S0:Nat->Prop)(w:World)(G G':Gh)(h h':Hp)(L:Nat->Prop):Prop:=Inv w0 S0 w G' h'/\Keep w w G G' h h'/\TmpOut G G' L/\G'.al=G.al
theorem qiu{c:CT}{v:AV}{t:T}(h:scal c v=some t):c.isSl=false:=by
 cases c with
 |sl m cs=>simp[scal]at h
 |_=>rfl
theorem quz{h:Hp}{r0 r:Nat}{p:Path}{cs:List AV}(hr:h r=.box cs):killR h r0 p r=.box cs:=by
 unfold killR;cases h0:h r0 with
 |dead=>exact hr
 |box _=>exact hr
 |row m cs' l v e=>
  have hne:r≠r0:=λe=>by subst e;rw[hr]at h0;cases h0
  simp only;cases p.getLast? with
  |none=>simp only[upd_ne _ _ hne];exact hr
  |some ij=>
   simp only;cases navR p.dropLast m cs' l with
   |none=>simp only[upd_ne _ _ hne];exact hr
   |some x=>simp only[upd_ne _ _ hne];exact hr
theorem qi7{h h':Hp}{c:CT}{v:AV}{t:T}{b:Bool}{r:Nat}{cs:List AV}(hs:sink h c v=some (t,h',b))(hr:h r=.box cs):h' r=.box cs:=by
 cases c with
 |sl m cs'=>
  simp only[sink]at hs;cases v with
  |nl m' cs'=>cases hs;exact hr
  |rf r' p ver sub=>
   simp only at hs;split at hs
   ·cases hq:CT.beq (.sl m cs') (.sl _ _)with
    |false=>rw[hq]at hs;cases hs
    |true=>rw[hq,cond_true]at hs;cases hs;exact quz hr
   · cases hs
  |_=>cases hs
 |b=>simp only[sink]at hs;split at hs<;>cases hs;exact hr
 |i k=>simp only[sink]at hs;split at hs<;>cases hs;exact hr
 |s=>simp only[sink]at hs;split at hs<;>cases hs;exact hr
 |o=>simp only[sink]at hs;split at hs<;>cases hs;exact hr
theorem qp3{h h':Hp}{p:PD}{v:AV}{t:T}{b:Bool}{r:Nat}{cs:List AV}(hs:qcp h p v=some (t,h',b))(hr:h r=.box cs):h' r=.box cs:=by
 cases p with
 |v c=>simp only[qcp]at hs;split at hs<;>cases hs;exact hr
 |ro c=>
  simp only[qcp]at hs;split at hs
  ·cases hq:CT.beq c (.sl _ _)with
   |false=>rw[hq]at hs;cases hs
   |true=>rw[hq,cond_true]at hs;cases hs;exact hr
  · exact qi7 hs hr
 |ow c=>exact qi7 hs hr
 |_=>cases hs
theorem qj1:∀{ps:List PD}{vs:List AV}{h h':Hp}{ts:List T}{b:Bool}{r:Nat}{cs:List AV},qco h ps vs=some (ts,h',b)->h r=.box cs->h' r=.box cs
|[],[],_,_,_,_,_,_,hs,hr=>by cases hs;exact hr
|p::ps,v::vs,h,h',ts,b,r,cs,hs,hr=>by
 simp only[qco]at hs;cases h1:qcp h p v with
 |none=>rw[h1]at hs;cases hs
 |some x=>
  obtain⟨t,hh,b1⟩:=x;rw[h1]at hs;simp only at hs;cases h2:qco hh ps vs with
  |none=>rw[h2]at hs;cases hs
  |some y=>obtain⟨ts',h'',b2⟩:=y;rw[h2]at hs;cases hs;exact qj1 h2 (qp3 h1 hr)
|[],_::_,_,_,_,_,_,_,hs,_=>by cases hs
|_::_,[],_,_,_,_,_,_,hs,_=>by cases hs
section
variable{w0 w w':World}{S0:Nat->Prop}{G G':Gh}{h h':Hp}
theorem Went.refl(I:Inv w0 S0 w G h)(L:Nat->Prop):Went w0 S0 w G G h h L:=⟨I,Keep.refl _ _ _,TmpOut.refl _ _,rfl⟩
theorem Went.trans{G'':Gh}{h'':Hp}{L L' M:Nat->Prop}(H:Went w0 S0 w G G' h h' L)(H':Went w0 S0 w G' G'' h' h'' L')(h1:∀k,L k->M k)(h2:∀k,L' k->M k):Went w0 S0 w G G'' h h'' M:=⟨H'.1,H.2.1.trans H'.2.1,(H.2.2.1.mono h1).trans (H'.2.2.1.mono h2),H'.2.2.2.trans H.2.2.2⟩
theorem qeh(I:Inv w0 S0 w G h){k:Nat}(hk:∀b p,G.own b≠some (.tmp k p)){c:CT}{v:AV}{u:Value}(hu:AVRep w G h u v){t:T}{b:Bool}(hs:sink h c v=some (t,h',b))(hb:b=true):∃G',Went w0 S0 w G G' h h' (λx=>x=k)/\CellRep w (G'.own.t k) [] c u t/\okC c t=true:=by obtain⟨G',I',K',C',O',T',A'⟩:=qqh I hk hu hs hb;exact⟨G',⟨I',K',T'.out rfl,A'⟩,C',O'⟩
theorem qqi(I:Inv w0 S0 w G h){k:Nat}(hk:∀b p,G.own b≠some (.tmp k p)){c:CT}{v:AV}{u:Value}(hu:AVRep w G h u v){t:T}{b:Bool}(hs:sink h c v=some (t,h',b))(hb:b=true):∃G',Went w0 S0 w G G' h h' (λx=>x=k)/\PRep1 w G' k (.ro c) u t:=by obtain⟨G1,H1,C1,O1⟩:=qeh I hk hu hs hb;obtain⟨I2,K2,T2⟩:=frz_tmp H1.1 k;exact⟨_,H1.trans ⟨I2,K2,T2.out (L:=λx=>x=k) rfl,rfl⟩ (λ_ h=>h) (λ_ h=>h),qxy C1,O1⟩
theorem qj3(I:Inv w0 S0 w G h){k:Nat}(hk:∀b p,G.own b≠some (.tmp k p)){p:PD}{v:AV}{u:Value}(hu:AVRep w G h u v){t:T}{b:Bool}(hs:qcp h p v=some (t,h',b))(hb:b=true):∃G',Went w0 S0 w G G' h h' (λx=>x=k)/\PRep1 w G' k p u t:=by
 cases p with
 |v c=>
  simp only[qcp]at hs;cases h1:scal c v with
  |none=>rw[h1]at hs;cases hs
  |some t'=>rw[h1]at hs;cases hs;exact⟨G,Went.refl I _,(qfv h1 hu _ _).1,qiu h1⟩
 |ro c=>
  simp only[qcp]at hs;split at hs
  ·rename_i k0 m cs l;cases hq:CT.beq c (.sl m cs)with
   |false=>rw[hq]at hs;cases hs
   |true=>rw[hq,cond_true]at hs;cases hs;have e:=CT.beq_eq hq;subst e;exact⟨G,Went.refl I _,qa6.2 hu.1,hu.2.1⟩
  · exact qqi I hk hu hs hb
 |ow c=>exact qeh I hk hu hs hb
 |_=>cases hs
theorem qfh:∀{ps:List PD}{vs:List AV}{us:List Value}{ts:List T}{h h':Hp}{b:Bool}{G:Gh}{K:Nat},Inv w0 S0 w G h->(∀k,K<=k->∀b p,G.own b≠some (.tmp k p))->AVReps w G h us vs->qco h ps vs=some (ts,h',b)->b=true->∃G',Went w0 S0 w G G' h h' (λk=>K<=k/\k<K+ps.length)/\PReps w G' K ps us ts
|[],[],us,ts,h,h',b,G,K,I,_,hu,hs,_=>by
 cases hs;cases us with
 |nil=>exact⟨G,Went.refl I _,trivial⟩
 |cons _ _=>exact hu.elim
|p::ps,v::vs,us,ts,h,h',b,G,K,I,hk,hu,hs,hb=>by
 cases us with
 |nil=>exact hu.elim
 |cons u us=>
  simp only[qco]at hs;cases h1:qcp h p v with
  |none=>rw[h1]at hs;cases hs
  |some x=>
   obtain⟨t,hh,b1⟩:=x;rw[h1]at hs;simp only at hs;cases h2:qco hh ps vs with
   |none=>rw[h2]at hs;cases hs
   |some y=>obtain⟨ts',h'',b2⟩:=y;rw[h2]at hs;cases hs;rw[Bool.and_eq_true]at hb;obtain⟨G1,W1,R1⟩:=qj3 I (hk K (Nat.le_refl _)) hu.1 h1 hb.1;obtain⟨G2,W2,R2⟩:=qfh (K:=K+1) W1.1 (λk hk'=>W1.2.2.1.fresh (by omega) (hk k (by omega))) (W1.2.1.avs _ hu.2) h2 hb.2;simp only[List.length_cons];exact⟨G2,W1.trans W2 (λk hk=>by omega) (λk hk=>by omega),R1.out W2.2.1 W2.2.2.1 (by omega),R2⟩
|[],_::_,_,_,_,_,_,_,_,_,_,_,hs,_=>by cases hs
|_::_,[],_,_,_,_,_,_,_,_,_,_,hs,_=>by cases hs
theorem qs0{G1:Gh}{h1:Hp}{r K n:Nat}{cs:List AV}{l:List PD}{u:Value}{ts:List T}{c:Array Value}{b0:Nat}{ty:TypeId}{fz:Nat×Nat}(hbox:h r=.box cs)(hbox1:h1 r=.box cs)(hu:AVRep w G h u (.bp r 0))(hφ:G.φ r=.pointer (some ⟨b0,0,none⟩))(hc:w.heap[b0]? =some (.cells c ty fz))(W1:Went w0 S0 w G G1 h h1 (λk=>K+1<=k/\k<K+1+n))(hn:n=l.length)(R1:PReps w G1 (K+1) l c.toList ts):∃G',Went w0 S0 w G G' h (upd h1 r .dead) (λk=>K<=k/\k<K+(l.length+1))/\PRep w G' K (.bx l) u (.st ts):=by subst hn;obtain⟨g1,g2,g3⟩:=hu;rw[hbox]at g3;obtain⟨b1,g3,rfl⟩:=g3;rw[hφ]at g3;cases g3;have ht:=(W1.2.1.al r g2).2;rw[hbox,hbox1]at ht;have R:=W1.1.rep r;rw[hbox1]at R;obtain⟨_,b2,c2,ty2,fz2,e1,e2,e3,_⟩:=R;rw[show G1.φ r=G.φ r from ht,hφ]at e1;cases e1;obtain⟨I2,K2,T2⟩:=qr5 W1.1 (K:=K) hbox1;refine⟨_,W1.trans (M:=λk=>K<=k/\k<K+(l.length+1)) ⟨I2,K2,T2.out (L:=λx=>x=K) rfl,rfl⟩ (λk hk=>by omega) (λk hk=>by subst hk;omega),b0,c,ty,fz,ts,rfl,rfl,qmn (p:=[]) (s:=[]) e2,hc,?_⟩;exact R1.out K2 (T2.out (L:=λx=>x=K) rfl) (λj h1 h2 e=>by omega)
theorem qsg(I:Inv w0 S0 w G h){K:Nat}(hk:∀k,K<=k->∀b p,G.own b≠some (.tmp k p)){p:PD}{v:AV}{u:Value}(hu:AVRep w G h u v){t:T}{b:Bool}(hs:qnj h p v=some (t,h',b))(hb:b=true):∃G',Went w0 S0 w G G' h h' (λk=>K<=k/\k<K+wide p)/\PRep w G' K p u t:=by
 have flat:∀{p:PD},qcp h p v=some (t,h',b)->∃G',Went w0 S0 w G G' h h' (λk=>K<=k/\k<K+1)/\PRep1 w G' K p u t:=by intro p hs;obtain⟨G1,W1,R1⟩:=qj3 I (hk K (Nat.le_refl _)) hu hs hb;exact⟨G1,W1.trans (Went.refl W1.1 (λ_=>False)) (λk hk=>by omega) (λ_ hf=>hf.elim),R1⟩
 cases p with
 |v c=>exact flat (p:=.v c) hs
 |ro c=>exact flat (p:=.ro c) hs
 |ow c=>exact flat (p:=.ow c) hs
 |mv c=>exact flat (p:=.mv c) hs
 |fn f=>exact flat (p:=.fn f) hs
 |ag l=>
  simp only[qnj]at hs;cases v with
  |ag cs=>
   simp only at hs;cases h1:qco h l cs with
   |none=>rw[h1]at hs;cases hs
   |some x=>obtain⟨ts,hh,b1⟩:=x;rw[h1]at hs;cases hs;obtain⟨us,rfl,hu⟩:=hu;obtain⟨G1,W1,R1⟩:=qfh I hk hu h1 hb;exact⟨G1,W1,us,ts,rfl,rfl,R1⟩
  |_=>cases hs
 |bx l=>
  simp only[qnj]at hs;split at hs
  ·rename_i r;split at hs
   ·rename_i cs hbox;cases h1:qco h l cs with
    |none=>rw[h1]at hs;cases hs
    |some x=>obtain⟨ts,hh,b1⟩:=x;rw[h1]at hs;cases hs;have R:=I.rep r;rw[hbox]at R;obtain⟨_,b0,c,ty,fz,e1,e2,e3,e4,_⟩:=R;obtain⟨G1,W1,R1⟩:=qfh (K:=K+1) I (λk hk'=>hk k (by omega)) e4 h1 hb;exact qs0 hbox (qj1 h1 hbox) hu e1 e3 W1 rfl R1
   · cases hs
  · cases hs
theorem qj2:∀{ps:List PD}{vs:List AV}{us:List Value}{ts:List T}{h h':Hp}{b:Bool}{G:Gh}{K:Nat},Inv w0 S0 w G h->(∀k,K<=k->∀b p,G.own b≠some (.tmp k p))->AVReps w G h us vs->qh8 h ps vs=some (ts,h',b)->b=true->∃G',Went w0 S0 w G G' h h' (λk=>K<=k/\k<K+(ps.map wide).sum)/\PRepL w G' K ps us ts
|[],[],us,ts,h,h',b,G,K,I,_,hu,hs,_=>by
 cases hs;cases us with
 |nil=>exact⟨G,Went.refl I _,trivial⟩
 |cons _ _=>exact hu.elim
|p::ps,v::vs,us,ts,h,h',b,G,K,I,hk,hu,hs,hb=>by
 cases us with
 |nil=>exact hu.elim
 |cons u us=>
  simp only[qh8]at hs;cases h1:qnj h p v with
  |none=>rw[h1]at hs;cases hs
  |some x=>
   obtain⟨t,hh,b1⟩:=x;rw[h1]at hs;simp only at hs;cases h2:qh8 hh ps vs with
   |none=>rw[h2]at hs;cases hs
   |some y=>obtain⟨ts',h'',b2⟩:=y;rw[h2]at hs;cases hs;rw[Bool.and_eq_true]at hb;obtain⟨G1,W1,R1⟩:=qsg I hk hu.1 h1 hb.1;obtain⟨G2,W2,R2⟩:=qj2 (K:=K+wide p) W1.1 (λk hk'=>W1.2.2.1.fresh (by omega) (hk k (by omega))) (W1.2.1.avs _ hu.2) h2 hb.2;simp only[List.map_cons,List.sum_cons];exact⟨G2,W1.trans W2 (λk hk=>by omega) (λk hk=>by omega),R1.out W2.2.1 W2.2.2.1 (λj h1 h2=>by omega),R2⟩
|[],_::_,_,_,_,_,_,_,_,_,_,_,hs,_=>by cases hs
|_::_,[],_,_,_,_,_,_,_,_,_,_,hs,_=>by cases hs
end
section
variable{w0 w w':World}{S0:Nat->Prop}{G G':Gh}{h h':Hp}
def RowsH(w:World)(G:Gh)(h:Hp):List Nat->List (CT×Value)->Prop
|[],[]=>True
|r::rs,x::xs=>AVRep w G h x.2 (.rf r [] 0 none)/\(∀m cs l v e,h r=.row m cs l v e->x.1=.sl m cs)/\RowsH w G h rs xs
|_,_=>False
def RowsBk(w:World)(G:Gh):Nat->List (CT×Value)->List T->Prop
|_,[],[]=>True
|K,x::xs,t::ts=>(CellRep w (G.own.t K) [] x.1 x.2 t/\okC x.1 t=true)/\RowsBk w G (K+1) xs ts
|_,_,_=>False
def BoxesH(w:World)(G:Gh)(h:Hp):List (Nat×List PD)->List Value->Prop
|[],[]=>True
|x::xs,u::us=>AVRep w G h u (.bp x.1 0)/\BoxesH w G h xs us
|_,_=>False
def bxW(l:List (List PD)):Nat:=(l.map λx=>x.length+1).sum
def BoxesBk(w:World)(G:Gh):Nat->List (List PD)->List Value->List T->Prop
|_,[],[],[]=>True
|K,x::xs,u::us,t::ts=>PRep w G K (.bx x) u t/\BoxesBk w G (K+(x.length+1)) xs us ts
|_,_,_,_=>False
def BoxesKv(w:World)(G:Gh):List (Nat×List PD)->List Value->Prop
|x::xs,u::us=>BxKv1 w G x.1 (.bx x.2) u/\BoxesKv w G xs us
|_,_=>True
theorem RowsH.keep(K:Keep w w' G G' h h'):∀{rs:List Nat}{xs:List (CT×Value)},RowsH w G h rs xs->RowsH w' G' h' rs xs
|[],[],_=>trivial
|r::rs,x::xs,H=>by
 refine⟨K.av _ H.1,λm cs l v e hr=>?_,RowsH.keep K H.2.2⟩;have ht:=(K.al r H.1.2.1).2;rw[hr]at ht;cases h0:h r with
 |dead=>rw[h0]at ht;exact ht.elim
 |box _=>rw[h0]at ht;exact ht.elim
 |row m' cs' l' v' e'=>rw[h0]at ht;obtain⟨rfl,rfl,_⟩:=ht;exact H.2.1 m cs l' v' e' h0
|[],_::_,H=>H.elim
|_::_,[],H=>H.elim
theorem BoxesH.keep(K:Keep w w' G G' h h'):∀{rs:List (Nat×List PD)}{xs:List Value},BoxesH w G h rs xs->BoxesH w' G' h' rs xs
|[],[],_=>trivial
|r::rs,x::xs,H=>⟨K.av _ H.1,BoxesH.keep K H.2⟩
|[],_::_,H=>H.elim
|_::_,[],H=>H.elim
theorem RowsBk.out{L:Nat->Prop}(K:Keep w w G G' h h')(H:TmpOut G G' L):∀{k:Nat}{xs:List (CT×Value)}{ts:List T},(∀j,k<=j->j<k+xs.length->¬L j)->RowsBk w G k xs ts->RowsBk w G' k xs ts
|_,[],[],_,_=>trivial
|k,x::xs,t::ts,hk,R=>⟨⟨PRep1.out (p:=.ow x.1) K H (hk k (Nat.le_refl _) (by simp)) R.1|>.1,R.1.2⟩,RowsBk.out K H (λj h1 h2=>hk j (by omega) (by simp only[List.length_cons];omega)) R.2⟩
|_,[],_::_,_,H=>H.elim
|_,_::_,[],_,H=>H.elim
theorem qiw:∀{rs:List Nat}{xs:List (CT×Value)}{ts:List T}{h h':Hp}{b:Bool}{G:Gh}{K:Nat},Inv w0 S0 w G h->(∀k,K<=k->∀b p,G.own b≠some (.tmp k p))->RowsH w G h rs xs->qh6 h rs=some (ts,h',b)->b=true->∃G',Went w0 S0 w G G' h h' (λk=>K<=k/\k<K+rs.length)/\RowsBk w G' K xs ts
|[],xs,ts,h,h',b,G,K,I,_,hu,hs,_=>by
 cases hs;cases xs with
 |nil=>exact⟨G,Went.refl I _,trivial⟩
 |cons _ _=>exact hu.elim
|r::rs,xs,ts,h,h',b,G,K,I,hk,hu,hs,hb=>by
 cases xs with
 |nil=>exact hu.elim
 |cons x xs=>
  obtain⟨c,u⟩:=x;simp only[qh6]at hs;cases hr:h r with
  |dead=>rw[hr]at hs;cases hs
  |box _=>rw[hr]at hs;cases hs
  |row m cs l v e=>
   rw[hr]at hs;simp only at hs;cases h2:qh6 (upd h r .dead) rs with
   |none=>rw[h2]at hs;cases hs
   |some y=>
    obtain⟨ts',h'',b2⟩:=y;rw[h2]at hs;cases hs;rw[Bool.and_eq_true]at hb;obtain⟨hu1,hu2,hu3⟩:=hu;have hra:rowAt h r [] 0=some (m,cs,l):=by simp[rowAt,hr]
    obtain⟨G1,I1,K1,R1,T1,A1⟩:=qi6 I (hk K (Nat.le_refl _)) hu1 hra;rw[qny hr]at I1 K1;have W1:Went w0 S0 w G G1 h (upd h r .dead) (λk=>k=K):=⟨I1,K1,T1.out rfl,A1⟩;obtain⟨G2,W2,R2⟩:=qiw (K:=K+1) I1 (λk hk'=>W1.2.2.1.fresh (by omega) (hk k (by omega))) (hu3.keep K1) h2 hb.2;have hc:c=.sl m cs:=hu2 m cs l v e hr;subst hc;have hok:okL m cs (subL l none)=true:=qfp I hu1 hra (by have hb1:=hb.1;simp only[hchk,holed,hr,subL];rw[Bool.and_comm];exact hb1);simp only[List.length_cons];exact⟨G2,W1.trans W2 (λk hk=>by omega) (λk hk=>by omega),PRep1.out (p:=.ow (.sl m cs)) (t:=.sl l) W2.2.1 W2.2.2.1 (by omega) ⟨qa6.2 R1,hok⟩,R2⟩
theorem qom{h:Hp}{n:Nat}{p:PD}{ps:List PD}{v:AV}{vs:List AV}(hp:∀c,p≠.ro c):qd1 h n (p::ps) (v::vs)=match qaw false h p v with
|some (t,h,b)=>match qd1 h (n+1) ps vs with|some (ts,h,b')=>some (t::ts,h,b&&b')|none=>none
|none=>none:=by
 cases p<;>first|rfl|exact absurd rfl (hp _)
theorem qol{h h':Hp}{n:Nat}{c:CT}{ps:List PD}{v:AV}{vs:List AV}{ts:List T}{b:Bool}(hs:qd1 h n (.ro c::ps) (v::vs)=some (ts,h',b)):∃m cs l ts',v=.ro n m cs l/\c=.sl m cs/\ts=.sl l::ts'/\qd1 h (n+1) ps vs=some (ts',h',b):=by
 cases v with
 |ro k m cs l=>
  simp only[qd1]at hs;cases hq:(Nat.beq k n&&CT.beq c (.sl m cs))with
  |false=>rw[hq]at hs;cases hs
  |true=>
   rw[hq,cond_true]at hs;rw[Bool.and_eq_true]at hq;have e1:=Nat.eq_of_beq_eq_true hq.1;have e2:=CT.beq_eq hq.2;subst e1;cases h2:qd1 h (k+1) ps vs with
   |none=>rw[h2]at hs;cases hs
   |some y=>obtain⟨ts',h'',b2⟩:=y;rw[h2]at hs;cases hs;exact⟨m,cs,l,ts',rfl,e2,rfl,rfl⟩
 |_=>cases hs
theorem qpy{h h':Hp}{p:PD}{v:AV}{t:T}{b:Bool}{r:Nat}{cs:List AV}(hs:qaw false h p v=some (t,h',b))(hr:h r=.box cs):h' r=.box cs:=by
 cases p with
 |v c=>simp only[qaw]at hs;split at hs<;>cases hs;exact hr
 |ro c=>simp only[qaw]at hs;split at hs<;>cases hs;exact hr
 |ow c=>exact qi7 hs hr
 |_=>cases hs
theorem qhm:∀{ps:List PD}{vs:List AV}{h h':Hp}{n:Nat}{ts:List T}{b:Bool}{r:Nat}{cs:List AV},qd1 h n ps vs=some (ts,h',b)->h r=.box cs->h' r=.box cs
|[],[],_,_,_,_,_,_,_,hs,hr=>by cases hs;exact hr
|p::ps,v::vs,h,h',n,ts,b,r,cs,hs,hr=>by
 by_cases hp:∃c,p=.ro c;· obtain⟨c,rfl⟩:=hp;obtain⟨m,cs',l,ts',rfl,rfl,rfl,h2⟩:=qol hs;exact qhm h2 hr
 ·rw[qom (λc e=>hp ⟨c,e⟩)]at hs;cases h1:qaw false h p v with
  |none=>rw[h1]at hs;cases hs
  |some x=>
   obtain⟨t,hh,b1⟩:=x;rw[h1]at hs;simp only at hs;cases h2:qd1 hh (n+1) ps vs with
   |none=>rw[h2]at hs;cases hs
   |some y=>obtain⟨ts',h'',b2⟩:=y;rw[h2]at hs;cases hs;exact qhm h2 (qpy h1 hr)
|[],_::_,_,_,_,_,_,_,_,hs,_=>by cases hs
|p::_,[],_,_,_,_,_,_,_,hs,_=>by cases p<;>cases hs
theorem qlp:∀{ps:List PD}{vs:List AV}{us:List Value}{ts:List T}{h h':Hp}{n:Nat}{b:Bool}{G:Gh}{K:Nat},Inv w0 S0 w G h->(∀k,K<=k->∀b p,G.own b≠some (.tmp k p))->AVReps w G h us vs->n≠0->qd1 h n ps vs=some (ts,h',b)->b=true->∃G',Went w0 S0 w G G' h h' (λk=>K<=k/\k<K+ps.length)/\PReps w G' K ps us ts/\∀(i:Nat) d x,ps[i]? =some (.ro d)->us[i]? =some x->x=G.kv (n+i)
|[],[],us,ts,h,h',n,b,G,K,I,_,hu,_,hs,_=>by
 cases hs;cases us with
 |nil=>exact⟨G,Went.refl I _,trivial,λi d x h1 _=>by simp at h1⟩
 |cons _ _=>exact hu.elim
|p::ps,v::vs,us,ts,h,h',n,b,G,K,I,hk,hu,hn,hs,hb=>by
 cases us with
 |nil=>exact hu.elim
 |cons u us=>
  have fin:∀{G1:Gh}{h1:Hp}{t:T}{ts':List T}{b2:Bool},Went w0 S0 w G G1 h h1 (λk=>k=K)->PRep1 w G1 K p u t->(∀d,p=.ro d->u=G.kv n)->qd1 h1 (n+1) ps vs=some (ts',h',b2)->b2=true->∃G',Went w0 S0 w G G' h h' (λk=>K<=k/\k<K+(ps.length+1))/\PReps w G' K (p::ps) (u::us) (t::ts')/\∀(i:Nat) d x,(p::ps)[i]? =some (.ro d)->(u::us)[i]? =some x->x=G.kv (n+i):=by
   intro G1 h1 t ts' b2 W1 R1 hkv h2 hb2;obtain⟨G2,W2,R2,V2⟩:=qlp (K:=K+1) W1.1 (λk hk'=>W1.2.2.1.fresh (by omega) (hk k (by omega))) (W1.2.1.avs _ hu.2) (Nat.succ_ne_zero n) h2 hb2;refine⟨G2,W1.trans W2 (λk hk=>by omega) (λk hk=>by omega),⟨R1.out W2.2.1 W2.2.2.1 (by omega),R2⟩,λi d x hp hx=>?_⟩;cases i with
   |zero=>simp only[List.getElem?_cons_zero,Option.some.injEq]at hp hx;subst hx;exact hkv d hp
   |succ i=>simp only[List.getElem?_cons_succ]at hp hx;rw[show n+(i+1)=n+1+i by omega,<-W1.2.1.kv];exact V2 i d x hp hx
  simp only[List.length_cons];by_cases hp:∃c,p=.ro c;· obtain⟨c,rfl⟩:=hp;obtain⟨m,cs',l,ts',rfl,rfl,rfl,h2⟩:=qol hs;exact fin (Went.refl I _) ⟨qa6.2 hu.1.1,hu.1.2.1⟩ (λd _=>hu.1.2.2 hn) h2 hb
  ·rw[qom (λc e=>hp ⟨c,e⟩)]at hs;cases h1:qaw false h p v with
   |none=>rw[h1]at hs;cases hs
   |some x=>
    obtain⟨t,hh,b1⟩:=x;rw[h1]at hs;simp only at hs;cases h2:qd1 hh (n+1) ps vs with
    |none=>rw[h2]at hs;cases hs
    |some y=>
     obtain⟨ts',h'',b2⟩:=y;rw[h2]at hs;cases hs;rw[Bool.and_eq_true]at hb;cases p with
     |ro c=>exact absurd ⟨c,rfl⟩ hp
     |v c=>
      simp only[qaw]at h1;cases h3:scal c v with
      |none=>rw[h3]at h1;cases h1
      |some t'=>rw[h3]at h1;cases h1;exact fin (Went.refl I _) ⟨(qfv h3 hu.1 _ _).1,qiu h3⟩ (λd e=>by cases e) h2 hb.2
     |ow c=>obtain⟨G1,W1,R1⟩:=qeh I (hk K (Nat.le_refl _)) hu.1 h1 hb.1;exact fin W1 R1 (λd e=>by cases e) h2 hb.2
     |_=>cases h1
|[],_::_,_,_,_,_,_,_,_,_,_,_,_,_,hs,_=>by cases hs
|p::_,[],_,_,_,_,_,_,_,_,_,_,_,_,hs,_=>by cases p<;>cases hs
theorem BoxesKv.kv(hkv:G'.kv=G.kv):∀{xs:List (Nat×List PD)}{us:List Value},BoxesKv w G' xs us->BoxesKv w G xs us
|x::xs,u::us,H=>⟨λb c ty fz h1 h2 i d y h3 h4=>by rw[<-hkv];exact H.1 b c ty fz h1 h2 i d y h3 h4,BoxesKv.kv hkv H.2⟩
|[],_,_=>trivial
|_::_,[],_=>trivial
theorem qhx:∀{rs:List (Nat×List PD)}{us:List Value}{ts:List T}{h:Hp}{b:Bool}{G:Gh}{K:Nat},Inv w0 S0 w G h->(∀k,K<=k->∀b p,G.own b≠some (.tmp k p))->BoxesH w G h rs us->qf6 h rs=some (ts,b)->b=true->∃G' h',Went w0 S0 w G G' h h' (λk=>K<=k/\k<K+bxW (rs.map Prod.snd))/\BoxesBk w G' K (rs.map Prod.snd) us ts/\BoxesKv w G rs us
|[],us,ts,h,b,G,K,I,_,hu,hs,_=>by
 cases hs;cases us with
 |nil=>exact⟨G,h,Went.refl I _,trivial,trivial⟩
 |cons _ _=>exact hu.elim
|(r,l)::rs,us,ts,h,b,G,K,I,hk,hu,hs,hb=>by
 cases us with
 |nil=>exact hu.elim
 |cons u us=>
  simp only[qf6]at hs;cases hr:h r with
  |dead=>rw[hr]at hs;cases hs
  |row _ _ _ _ _=>rw[hr]at hs;cases hs
  |box cs=>
   rw[hr]at hs;simp only at hs;cases h1:qd1 h (r+1) l cs with
   |none=>rw[h1]at hs;cases hs
   |some x=>
    obtain⟨ts1,hh,b1⟩:=x;rw[h1]at hs;simp only at hs;cases h2:qf6 (upd hh r .dead) rs with
    |none=>rw[h2]at hs;cases hs
    |some y=>obtain⟨ts2,b2⟩:=y;rw[h2]at hs;cases hs;rw[Bool.and_eq_true]at hb;have R:=I.rep r;rw[hr]at R;obtain⟨_,b0,c,ty,fz,e1,e2,e3,e4,_⟩:=R;obtain⟨G1,W1,R1,V1⟩:=qlp (K:=K+1) I (λk hk'=>hk k (by omega)) e4 (Nat.succ_ne_zero r) h1 hb.1;obtain⟨G2,W2,R2⟩:=qs0 hr (qhm h1 hr) hu.1 e1 e3 W1 rfl R1;obtain⟨G3,h3,W3,R3,V3⟩:=qhx (K:=K+(l.length+1)) W2.1 (λk hk'=>W2.2.2.1.fresh (by omega) (hk k (by omega))) (hu.2.keep W2.2.1) h2 hb.2;simp only[List.map_cons,bxW,List.sum_cons];refine⟨G3,h3,W2.trans W3 (λk hk=>by omega) (λk hk=>by simp only[bxW]at hk;omega),⟨R2.out W3.2.1 W3.2.2.1 (λj h1 h2=>by simp only[wide]at h2;omega),R3⟩,⟨?_,V3.kv W2.2.1.kv⟩⟩;intro b' c' ty' fz' g1 g2 i d x g3 g4;have hu1:=hu.1.2.2;rw[hr]at hu1;obtain⟨b4,k1,k2⟩:=hu1;rw[e1]at k1;cases k1;rw[g1]at k2;cases k2;rw[e3]at g2;cases g2;exact V1 i d x g3 g4
end
def qcs:List PD->List Value->List (CT×Value)
|.ow c::ps,u::us=>(c,u)::qcs ps us
|_::ps,_::us=>qcs ps us
|_,_=>[]
def owVal(p:PD)(u:Value):List (CT×Value):=
 match p with
 |.ag l=>match u with|.agg cs=>qcs l cs.toList|_=>[]
 |.ow c=>[(c,u)]
 |_=>[]
def qg0:List PD->List Value->List (CT×Value)
|p::ps,u::us=>owVal p u++qg0 ps us
|_,_=>[]
def bxPs:List PD->List (List PD)
|.bx l::ps=>l::bxPs ps
|_::ps=>bxPs ps
|[]=>[]
def bxUs:List PD->List Value->List Value
|.bx _::ps,u::us=>u::bxUs ps us
|_::ps,_::us=>bxUs ps us
|_,_=>[]
def qs7(w w':World)(l:List PD)(u:Value):Prop:=∀b c ty fz c' ty' fz',u=.pointer (some ⟨b,0,none⟩)->w.heap[b]? =some (.cells c ty fz)->w'.heap[b]? =some (.cells c' ty' fz')->∀(i:Nat) d x,l[i]? =some (.ro d)->c.toList[i]? =some x->c'.toList[i]? =some x
def qn7(w w':World):List (List PD)->List Value->Prop
|l::ls,u::us=>qs7 w w' l u/\qn7 w w' ls us
|_,_=>True
def retV(vs:List Value):Value:=match vs with|[v]=>v|vs=>.tuple vs.toArray
def Came(fi:Fi)(w:World)(S0:Nat->Prop)(G:Gh)(args:List Value)(r:List T)(e:Ending)(w':World):Prop:=∃vs ts us ws G',e=.returned (retV vs)/\r=ts++us++ws/\Inv w S0 w' G' noBlk/\(∀b,G.ro b->G'.ro b)/\(∀b,G'.ro b->G.ro b\/S0 b\/w.heap.size<=b)/\PRepL w' G' 0 fi.rs vs ts/\RowsBk w' G' (fi.rs.map wide).sum (qg0 fi.ps args) us/\BoxesBk w' G' ((fi.rs.map wide).sum+us.length) (bxPs fi.ps) (bxUs fi.ps args) ws/\qn7 w w' (bxPs fi.ps) (bxUs fi.ps args)
def qaq(P:Program)(fi:Fi)(f:FuncId)(C:List T->Option (List T)):Prop:=∀w S0 G(args:List Value) ts r,Inv w S0 w G noBlk->(∀r,¬G.al r)->PRepL w G 0 fi.ps args ts->C ts=some r->Calls P f args.toArray w (Came fi w S0 G args r)
def TurnB:Blk->Blk->Prop
|_,.dead=>True
|.row m cs _ _ _,.row m' cs' _ _ _=>m'=m/\cs'=cs
|.box _,.box _=>True
|_,_=>False
structure KeepB(base:Nat)(G G':Gh)(h h':Hp):Prop where
 ro:∀b,G.ro b->G'.ro b
 kv:G'.kv=G.kv
 al:∀r,r<base->G.al r->G'.al r/\TurnB (h r) (h' r)/\(h' r≠.dead->G'.φ r=G.φ r)
theorem KeepB.refl(base:Nat)(G:Gh)(h:Hp):KeepB base G G h h:=⟨λ_ h=>h,rfl,λr _ hr=>⟨hr,by cases h r<;>simp[TurnB],λ_=>rfl⟩⟩
theorem TurnB.trans{x y z:Blk}(h1:TurnB x y)(h2:TurnB y z):TurnB x z:=by
 cases z with
 |dead=>cases x<;>trivial
 |box _=>cases y with
  |dead=>exact h2.elim
  |row _ _ _ _ _=>exact h2.elim
  |box _=>cases x with
   |box _=>trivial
   |dead=>exact h1.elim
   |row _ _ _ _ _=>exact h1.elim
 |row m cs l v e=>cases y with
  |dead=>exact h2.elim
  |box _=>exact h2.elim
  |row _ _ _ _ _=>cases x with
   |dead=>exact h1.elim
   |box _=>exact h1.elim
   |row _ _ _ _ _=>exact⟨h2.1.trans h1.1,h2.2.trans h1.2⟩
theorem TurnB.notDead{x y:Blk}(h:TurnB x y)(hy:y≠.dead):x≠.dead:=by
 intro e;subst e;cases y with
 |dead=>exact hy rfl
 |box _=>exact h.elim
 |row _ _ _ _ _=>exact h.elim
theorem KeepB.trans{base:Nat}{G G' G'':Gh}{h h' h'':Hp}(K:KeepB base G G' h h')(K':KeepB base G' G'' h' h''):KeepB base G G'' h h'':=⟨λb hb=>K'.ro b (K.ro b hb),K'.kv.trans K.kv,λr hr ha=>by obtain⟨h1,h2,h3⟩:=K.al r hr ha;obtain⟨g1,g2,g3⟩:=K'.al r hr h1;exact⟨g1,h2.trans g2,λhd=>(g3 hd).trans (h3 (g2.notDead hd))⟩⟩
theorem Keep.b{w w':World}{G G':Gh}{h h':Hp}(K:Keep w w' G G' h h')(base:Nat):KeepB base G G' h h':=by
 refine⟨λb hb=>(K.ro b hb).1,K.kv,λr _ ha=>?_⟩;obtain⟨h1,h2⟩:=K.al r ha;refine⟨h1,?_,?_⟩;· cases e:h r<;>cases e':h' r<;>rw[e,e']at h2<;>first|trivial|exact h2.elim|exact⟨h2.1,h2.2.1⟩
 · intro hd;cases e:h r<;>cases e':h' r<;>rw[e,e']at h2<;>first|exact absurd e' hd|exact h2.elim|exact h2.2.2.1|exact h2
section
variable{w0 w w':World}{S0:Nat->Prop}{G G':Gh}{h h':Hp}{P:Program}{E:Env}
theorem KeepB.rows{base:Nat}(K:KeepB base G G' h h'):∀{rs:List Nat}{xs:List (CT×Value)},(∀r∈rs,r<base)->(∀r∈rs,∃m cs l e,h r=.row m cs l 0 e)->RowsH w G h rs xs->RowsH w' G' h' rs xs
|[],[],_,_,_=>trivial
|r::rs,x::xs,hb,hrow,H=>by
 obtain⟨m0,cs0,l0,e0,h0⟩:=hrow r (by simp);obtain⟨h1,h2,h3⟩:=K.al r (hb r (by simp)) H.1.2.1;have hφ:x.2=G.φ r:=by have:=H.1.2.2;rw[h0]at this;obtain⟨_,hv,m',cs',l',g1,_,_,g4⟩:=this.imp id (λf=>f (.inl rfl));cases g1;exact g4
 refine⟨⟨H.1.1,h1,?_⟩,λm cs l v e hr=>?_,KeepB.rows K (λr hr=>hb r (by simp[hr])) (λr hr=>hrow r (by simp[hr])) H.2.2⟩
 ·rw[h0]at h2;cases hr:h' r with
  |dead=>trivial
  |box _=>trivial
  |row m cs l v e=>exact⟨Nat.zero_le _,λ_=>⟨_,m,cs,l,rfl,trivial,rfl,hφ.trans (h3 (by rw[hr];simp)).symm⟩⟩
 · rw[h0,hr]at h2;obtain⟨rfl,rfl⟩:=h2;exact H.2.1 _ _ _ _ _ h0
|[],_::_,_,_,H=>H.elim
|_::_,[],_,_,H=>H.elim
theorem KeepB.boxes{base:Nat}(K:KeepB base G G' h h'):∀{rs:List (Nat×List PD)}{us:List Value},(∀r∈rs,r.1<base)->(∀r∈rs,∃cs,h r.1=.box cs)->BoxesH w G h rs us->BoxesH w' G' h' rs us
|[],[],_,_,_=>trivial
|r::rs,x::xs,hb,hrow,H=>by
 obtain⟨cs0,h0⟩:=hrow r (by simp);obtain⟨h1,h2,h3⟩:=K.al r.1 (hb r (by simp)) H.1.2.1;refine⟨⟨H.1.1,h1,?_⟩,KeepB.boxes K (λr hr=>hb r (by simp[hr])) (λr hr=>hrow r (by simp[hr])) H.2⟩;cases hr:h' r.1 with
 |dead=>trivial
 |row _ _ _ _ _=>trivial
 |box cs=>have:=H.1.2.2;rw[h0]at this;obtain⟨b,g1,g2⟩:=this;exact⟨b,(h3 (by rw[hr];simp)).trans g1,g2⟩
|[],_::_,_,_,H=>H.elim
|_::_,[],_,_,H=>H.elim
theorem qpd(O:EnvOk P E)(I:Inv w0 S0 w G h){t:Nat}{ti:Ti}(ht:E.ty t=some ti){r j:Nat}{a':Value}(ha:AVRep w G h a' (.bp r j)){v:AV}(hl:loadV ti h (.bp r j)=some v):∃b v',a'=.pointer (some ⟨b,j,none⟩)/\(loadVar t ⟨b,j,none⟩).run P w=.ok v' w/\AVRep w G h v' v:=by
 obtain⟨h1,h2,h3⟩:=ha;have R:=I.rep r;simp only[loadV]at hl;cases hh:h r with
 |dead=>rw[hh]at hl;cases hl
 |row _ _ _ _ _=>rw[hh]at hl;cases hl
 |box cs=>
  rw[hh]at hl h3 R;simp only at hl;obtain⟨b0,g1,rfl⟩:=h3;obtain⟨_,b,c,ty,fz,e1,e2,e3,e4,e5⟩:=R;rw[g1]at e1;cases e1;cases hlen:Nat.beq (qam cs j ti.cs.length).length ti.cs.length with
  |false=>simp[hlen]at hl
  |true=>
   simp only[hlen,cond_true]at hl;have hlen:=Nat.eq_of_beq_eq_true hlen;have hget:∀k,k<ti.cs.length->∃u x,c[j+k]? =some u/\(qam cs j ti.cs.length)[k]? =some x/\AVRep w G h u x:=by intro k hk;have hx:(qam cs j ti.cs.length)[k]? =some (qam cs j ti.cs.length)[k]:=List.getElem?_eq_getElem (by omega);have hx':=hx;rw[qci hk]at hx';obtain⟨u,hu,hu'⟩:=AVReps.get e4 (j+k) hx';exact⟨u,_,by simpa using hu,hx,hu'⟩
   obtain⟨vs,hvl,hvs⟩:=exL (R:=λk u=>∃x,c[j+k]? =some u/\(qam cs j ti.cs.length)[k]? =some x/\AVRep w G h u x) ti.cs.length hget;have hrep:AVReps w G h vs (qam cs j ti.cs.length):=AVReps.mk (by omega) λk x u hx hu=>by obtain⟨x',_,h2,h3⟩:=hvs k u hu;rw[hx]at h2;cases h2;exact h3
   obtain⟨v',hv1,hv2⟩:=qcu hl hrep;exact⟨b0,v',rfl,qe2 O ht e3 hvl (λk hk=>by obtain⟨x',h1,_⟩:=hvs k _ (List.getElem?_eq_getElem hk);exact h1) hv1,hv2⟩
theorem qql(O:EnvOk P E){st:St}{a:Act}(I:Inv w0 S0 w G st.h)(hs:∀t,AVRep w G st.h (a.tmps.getD t undef) (st.s t)):∀{rs:List ResultVar}{vs:List AV},mapO (resV E st) rs=some vs->∃us:List Value,(rs.mapM (λ(x:ResultVar)=>(match x with|.tmp t=>pure (a.tmps.getD t undef)|.cell b t=>(do loadVar t (<-asAddr (a.tmps.getD b undef))):Sem Value))).run P w=.ok us w/\AVReps w G st.h us vs
|[],vs,h=>by cases h;exact⟨[],by simp,trivial⟩
|x::rs,vs,hv=>by
 simp only[mapO]at hv;cases h1:resV E st x with
 |none=>rw[h1]at hv;cases hv
 |some v=>
  rw[h1]at hv;simp only at hv;cases h2:mapO (resV E st) rs with
  |none=>rw[h2]at hv;cases hv
  |some vs'=>
   rw[h2]at hv;cases hv;obtain⟨us,hr,hu⟩:=qql O I hs h2;have one:∃u,((match x with|.tmp t=>pure (a.tmps.getD t undef)|.cell b t=>(do loadVar t (<-asAddr (a.tmps.getD b undef))):Sem Value)).run P w=.ok u w/\AVRep w G st.h u v:=by
    cases x with
    |tmp t=>simp only[resV,Option.some.injEq]at h1;subst h1;exact⟨_,by simp,hs t⟩
    |cell b t=>
     simp only[resV]at h1;split at h1;· rename_i ti r j ht hb;have hb':=hs b;rw[hb]at hb';obtain⟨b0,v',g1,g2,g3⟩:=qpd O I ht hb' h1;refine⟨v',?_,g3⟩;simp only[g1,asAddr,Sem.run_bind,Sem.run_pure,Result.andThen_ok];exact g2
     · cases h1
   obtain⟨u,hu1,hu2⟩:=one;refine⟨u::us,?_,hu2,hu⟩;rw[List.mapM_cons];simp only[Sem.run_bind,hu1,Result.andThen_ok,hr,Sem.run_pure]
theorem qj0(O:EnvOk P E){st:St}{a:Act}{fn:Func}(I:Inv w0 S0 w G st.h)(hs:∀t,AVRep w G st.h (a.tmps.getD t undef) (st.s t)){vs:List AV}(hv:resVs E fn st=some vs):∃us:List Value,(results fn a.tmps).run P w=.ok (retV us) w/\AVReps w G st.h us vs:=by
 obtain⟨us,h1,h2⟩:=qql O I hs hv;refine⟨us,?_,h2⟩;unfold results;rw[Array.mapM_eq_mapM_toList];simp only[Sem.run_bind];have:(List.toArray<$>List.mapM (λ(x:ResultVar)=>(match x with|.tmp t=>pure (a.tmps.getD t undef)|.cell b t=>(do loadVar t (<-asAddr (a.tmps.getD b undef))):Sem Value)) fn.results.toList).run P w=.ok us.toArray w:=by rw[<-bind_pure_comp];simp only[Sem.run_bind,h1,Result.andThen_ok,Sem.run_pure]
 refine(congrArg (λr:Result (Array Value)=>r.andThen λa w'=>Sem.run P (pure (if h:a.size=1 then a[0]else Value.tuple a)) w') this).trans ?_;simp only[Result.andThen_ok,Sem.run_pure];congr 1;match us with
 |[]=>rfl
 |[u]=>rfl
 |_::_::_=>simp[retV]
end
section
variable{w0 w w':World}{S0:Nat->Prop}{G G':Gh}{h h':Hp}{P:Program}{E:Env}
theorem PRep1.to{K K':Nat}{p:PD}(hro:qiz p=true->∀b,G.ro b->G'.ro b/\w'.heap[b]? =w.heap[b]?)(hown:∀b p,G.own b=some (.tmp K p)->G'.own b=some (.tmp K' p)/\w'.heap[b]? =w.heap[b]?){u:Value}{t:T}(H:PRep1 w G K p u t):PRep1 w' G' K' p u t:=by
 have h1:∀{c:CT},CellRep w (G.own.t K) [] c u t->CellRep w' (G'.own.t K') [] c u t:=λh=>CellRep.moved (M:=G.own.t K) (M':=G'.own.t K') t ⟨λhf=>False.elim hf,λb ρ hb=>hown b _ hb⟩ h;cases p with
 |v c=>exact⟨h1 H.1,H.2⟩
 |ro c=>exact⟨CellRep.moved (M:=roM G.ro) (M':=roM G'.ro) t ⟨λ_=>trivial,λb ρ hb=>hro rfl b hb⟩ H.1,H.2⟩
 |ow c=>exact⟨h1 H.1,H.2⟩
 |mv c=>exact⟨h1 H.1,H.2⟩
 |fn f=>exact H
 |ag l=>exact H.elim
 |bx l=>exact H.elim
theorem PReps.to:∀{K K':Nat}{ps:List PD}{us:List Value}{ts:List T},(ps.any qiz=true->∀b,G.ro b->G'.ro b/\w'.heap[b]? =w.heap[b]?)->(∀j b p,j<ps.length->G.own b=some (.tmp (K+j) p)->G'.own b=some (.tmp (K'+j) p)/\w'.heap[b]? =w.heap[b]?)->PReps w G K ps us ts->PReps w' G' K' ps us ts
|_,_,[],[],[],_,_,_=>trivial
|K,K',p::ps,u::us,t::ts,hro,hown,H=>⟨H.1.to (λe=>hro (by simp[e])) (λb p hb=>hown 0 b p (by simp) hb),PReps.to (λe=>hro (by rw[List.any_cons,e,Bool.or_true])) (λj b p hj hb=>by rw[show K+1+j=K+(j+1)by omega]at hb;rw[show K'+1+j=K'+(j+1)by omega];exact hown (j+1) b p (by simpa using hj) hb) H.2⟩
|_,_,[],_::_,_,_,_,H=>H.elim
|_,_,[],[],_::_,_,_,H=>H.elim
|_,_,_::_,[],_,_,_,H=>H.elim
|_,_,_::_,_::_,[],_,_,H=>H.elim
theorem PRep.to{K K':Nat}{p:PD}{u:Value}{t:T}(hro:qar p=true->∀b,G.ro b->G'.ro b/\w'.heap[b]? =w.heap[b]?)(hown:∀j b q,j<wide p->G.own b=some (.tmp (K+j) q)->G'.own b=some (.tmp (K'+j) q)/\w'.heap[b]? =w.heap[b]?)(H:PRep w G K p u t):PRep w' G' K' p u t:=by
 cases p with
 |ag l=>obtain⟨us,ts,h1,h2,h3⟩:=H;exact⟨us,ts,h1,h2,h3.to hro hown⟩
 |bx l=>obtain⟨b,us,ty,fz,ts,h1,h2,h3,h4,h5⟩:=H;simp only[wide]at hown;obtain⟨g1,g2⟩:=hown 0 b [] (by omega) h3;exact⟨b,us,ty,fz,ts,h1,h2,g1,g2.trans h4,h5.to hro (λj b q hj hb=>by rw[show K+1+j=K+(j+1)by omega]at hb;rw[show K'+1+j=K'+(j+1)by omega];exact hown (j+1) b q (by omega) hb)⟩
 |v c=>exact PRep1.to (p:=.v c) hro (λb q hb=>hown 0 b q (by simp[wide]) hb) H
 |ro c=>exact PRep1.to (p:=.ro c) hro (λb q hb=>hown 0 b q (by simp[wide]) hb) H
 |ow c=>exact PRep1.to (p:=.ow c) hro (λb q hb=>hown 0 b q (by simp[wide]) hb) H
 |mv c=>exact PRep1.to (p:=.mv c) hro (λb q hb=>hown 0 b q (by simp[wide]) hb) H
 |fn f=>exact PRep1.to (p:=.fn f) hro (λb q hb=>hown 0 b q (by simp[wide]) hb) H
theorem PRepL.to:∀{K K':Nat}{ps:List PD}{us:List Value}{ts:List T},(ps.any qar=true->∀b,G.ro b->G'.ro b/\w'.heap[b]? =w.heap[b]?)->(∀j b p,j<(ps.map wide).sum->G.own b=some (.tmp (K+j) p)->G'.own b=some (.tmp (K'+j) p)/\w'.heap[b]? =w.heap[b]?)->PRepL w G K ps us ts->PRepL w' G' K' ps us ts
|_,_,[],[],[],_,_,_=>trivial
|K,K',p::ps,u::us,t::ts,hro,hown,H=>by simp only[List.map_cons,List.sum_cons]at hown;exact⟨H.1.to (λe=>hro (by simp[e])) (λj b p hj hb=>hown j b p (by omega) hb),PRepL.to (λe=>hro (by rw[List.any_cons,e,Bool.or_true])) (λj b q hj hb=>by rw[show K+wide p+j=K+(wide p+j)by omega]at hb;rw[show K'+wide p+j=K'+(wide p+j)by omega];exact hown (wide p+j) b q (by omega) hb) H.2⟩
|_,_,[],_::_,_,_,_,H=>H.elim
|_,_,[],[],_::_,_,_,H=>H.elim
|_,_,_::_,[],_,_,_,H=>H.elim
|_,_,_::_,_::_,[],_,_,H=>H.elim
theorem RowsBk.to:∀{K K':Nat}{xs:List (CT×Value)}{ts:List T},(∀j b p,j<xs.length->G.own b=some (.tmp (K+j) p)->G'.own b=some (.tmp (K'+j) p)/\w'.heap[b]? =w.heap[b]?)->RowsBk w G K xs ts->RowsBk w' G' K' xs ts
|_,_,[],[],_,_=>trivial
|K,K',x::xs,t::ts,hown,R=>⟨⟨CellRep.moved (M:=G.own.t K) (M':=G'.own.t K') t ⟨λhf=>False.elim hf,λb ρ hb=>hown 0 b _ (by simp) hb⟩ R.1.1,R.1.2⟩,RowsBk.to (λj b q hj hb=>by rw[show K+1+j=K+(j+1)by omega]at hb;rw[show K'+1+j=K'+(j+1)by omega];exact hown (j+1) b q (by simpa using hj) hb) R.2⟩
|_,_,[],_::_,_,H=>H.elim
|_,_,_::_,[],_,H=>H.elim
theorem BoxesBk.to(hro:∀b,G.ro b->G'.ro b/\w'.heap[b]? =w.heap[b]?):∀{K K':Nat}{ls:List (List PD)}{us:List Value}{ts:List T},(∀j b p,j<bxW ls->G.own b=some (.tmp (K+j) p)->G'.own b=some (.tmp (K'+j) p)/\w'.heap[b]? =w.heap[b]?)->BoxesBk w G K ls us ts->BoxesBk w' G' K' ls us ts
|_,_,[],[],[],_,_=>trivial
|K,K',l::ls,u::us,t::ts,hown,H=>by simp only[bxW,List.map_cons,List.sum_cons]at hown;exact⟨H.1.to (λ_=>hro) (λj b p hj hb=>hown j b p (by simp only[wide]at hj;omega) hb),BoxesBk.to hro (λj b q hj hb=>by simp only[bxW]at hj;rw[show K+(l.length+1)+j=K+(l.length+1+j)by omega]at hb;rw[show K'+(l.length+1)+j=K'+(l.length+1+j)by omega];exact hown (l.length+1+j) b q (by omega) hb) H.2⟩
|_,_,[],_::_,_,_,H=>H.elim
|_,_,[],[],_::_,_,H=>H.elim
|_,_,_::_,[],_,_,H=>H.elim
|_,_,_::_,_::_,[],_,H=>H.elim
def Gh.shift(G:Gh)(K:Nat):Gh:={G with own:=λb=>match G.own b with|some (.tmp k p)=>if K<=k then some (.tmp (k-K) p)else none|_=>none}
theorem qis{K b k:Nat}{p:Path}(hb:G.own b=some (.tmp (K+k) p)):(G.shift K).own b=some (.tmp k p):=by simp only[Gh.shift,hb];rw[if_pos (Nat.le_add_right _ _),Nat.add_sub_cancel_left]
theorem qh5{K b:Nat}{x:Lab}(hb:(G.shift K).own b=some x):∃k p,G.own b=some (.tmp (K+k) p)/\x=.tmp k p:=by
 simp only[Gh.shift]at hb;cases e:G.own b with
 |none=>rw[e]at hb;cases hb
 |some y=>
  rw[e]at hb;cases y with
  |blk r q=>cases hb
  |tmp k q=>
   by_cases hk:K<=k;· simp only[if_pos hk]at hb;cases hb;exact⟨k-K,q,by rw[Nat.add_sub_cancel' hk],rfl⟩
   · simp only[if_neg hk]at hb;cases hb
theorem qtv(I:Inv w0 S0 w G h)(K:Nat):Inv w0 S0 w (G.shift K) noBlk:=by
 refine⟨I.os,I.tape,I.output,I.size,I.same,λb x hx=>?_,λb x hx=>?_,λb hb=>?_,I.roLt,I.roIn,λr b p hb=>?_⟩;· obtain⟨k,p,h1,_⟩:=qh5 hx;exact I.mine b _ h1
 · obtain⟨k,p,h1,_⟩:=qh5 hx;exact I.cells b _ h1
 · have:=I.roOwn b hb;simp[Gh.shift,this]
 · obtain⟨k,q,_,h1⟩:=qh5 hb;cases h1
def kvOf(w:World):Nat->List PD->List Value->Nat->Value
|n,p::ps,u::us,m=>if m<n+wide p then(match u with
 |.pointer (some ⟨b,_,_⟩)=>(match w.heap[b]? with|some (.cells c _ _)=>c.toList.getD (m-(n+1)) undef|_=>undef)
 |_=>undef)else kvOf w (n+wide p) ps us m
|_,_,_,_=>undef
theorem qr4:∀{n:Nat}{ps:List PD}{us:List Value},(∀m,n<=m->G.kv m=kvOf w n ps us m)->BxKv w G n ps us
|n,p::ps,u::us,H=>by
 refine⟨?_,qr4 λm hm=>?_⟩
 ·cases p with
  |bx l=>intro b c ty fz hu hc i d x h1 h2;have hi:i<l.length:=(List.getElem?_eq_some_iff.1 h1).1;have:=H (n+1+i) (by omega);rw[this];simp only[kvOf];rw[if_pos (by simp only[wide];omega),hu];simp only[hc];rw[show n+1+i-(n+1)=i by omega,List.getD_eq_getElem?_getD,h2];rfl
  |_=>trivial
 · rw[H m (by omega)];simp only[kvOf];rw[if_neg (by omega)]
|_,[],_,_=>trivial
|_,_::_,[],_=>trivial
def Gh.kvs(G:Gh)(k:KV):Gh:={G with kv:=k}
theorem PRep1.kvs(k:KV){K:Nat}{p:PD}{u:Value}{t:T}(H:PRep1 w G K p u t):PRep1 w (G.kvs k) K p u t:=H.to (G:=G) (G':=G.kvs k) (λ_ _ h=>⟨h,rfl⟩) (λ_ _ h=>⟨h,rfl⟩)
def pdOk1:PD->Bool
|.v c=>!c.isSl
|.ro c=>c.isSl
|.ow c=>c.isSl
|.mv c=>c.isSl
|.fn _=>true
|_=>false
def pdOk:PD->Bool
|.ag l=>l.all pdOk1
|.bx l=>l.all pdOk1
|p=>pdOk1 p
theorem qes{n k r:Nat}{p:PD}{t:T}(hr:r<n):(back1 h n k p t).2 r=h r:=by
 cases p with
 |ow c=>cases c with
  |sl m cs=>exact upd_ne _ _ (by omega)
  |_=>rfl
 |mv c=>cases c with
  |sl m cs=>exact upd_ne _ _ (by unfold MV;omega)
  |_=>rfl
 |ro c=>cases c<;>rfl
 |_=>rfl
theorem qgt{tag:Bool}{t:T}:∀{ps:List PD}{h:Hp}{n j r:Nat},r<n->(backs h n tag ps t j).2 r=h r
|[],_,_,_,_,_=>rfl
|p::ps,h,n,j,r,hr=>(qgt (ps:=ps) (n:=n+1) (j:=j+1) (by omega)).trans (qes (p:=p) (t:=T.cell t j) (k:=tagN tag n) hr)
theorem qwo{tag:Bool}{n r:Nat}{p:PD}{t:T}(hr:r<n):(backR h n tag p t).2 r=h r:=by
 cases p with
 |ag l=>exact qgt hr
 |bx l=>exact(upd_ne _ _ (by omega)).trans (qgt (n:=n+1) (by omega))
 |v c=>exact qes (p:=.v c) (k:=0) hr
 |ro c=>exact qes (p:=.ro c) (k:=0) hr
 |ow c=>exact qes (p:=.ow c) (k:=0) hr
 |mv c=>exact qes (p:=.mv c) (k:=0) hr
 |fn f=>rfl
theorem qf7{tag:Bool}{rr:List T}:∀{ps:List PD}{h:Hp}{n i r:Nat},r<n->(qb8 h n tag ps rr i).2 r=h r
|[],_,_,_,_,_=>rfl
|p::ps,h,n,i,r,hr=>(qf7 (ps:=ps) (n:=n+wide p) (i:=i+1) (by omega)).trans (qwo (p:=p) (t:=nth rr i) hr)
def RowIn(w:World)(G:Gh)(hF:Hp)(r:Nat)(x:CT×Value):Prop:=AVRep w G hF x.2 (.rf r [] 0 none)/\∃m cs l e,x.1=.sl m cs/\hF r=.row m cs l 0 e
def RowsIn(w:World)(G:Gh)(hF:Hp):List Nat->List (CT×Value)->Prop
|[],[]=>True
|r::rs,x::xs=>RowIn w G hF r x/\RowsIn w G hF rs xs
|_,_=>False
theorem RowsIn.append{hF:Hp}:∀{rs rs':List Nat}{xs xs':List (CT×Value)},RowsIn w G hF rs xs->RowsIn w G hF rs' xs'->RowsIn w G hF (rs++rs') (xs++xs')
|[],_,[],_,_,H'=>H'
|_::_,_,_::_,_,H,H'=>⟨H.1,RowsIn.append H.2 H'⟩
|[],_,_::_,_,H,_=>H.elim
|_::_,_,[],_,H,_=>H.elim
theorem RowsIn.rh{hF:Hp}:∀{rs:List Nat}{xs:List (CT×Value)},RowsIn w G hF rs xs->RowsH w G hF rs xs
|[],[],_=>trivial
|r::rs,x::xs,H=>⟨H.1.1,λm cs l v e hr=>by obtain⟨_,m',cs',l',e',h1,h2⟩:=H.1;rw[h2]at hr;cases hr;exact h1,RowsIn.rh H.2⟩
|[],_::_,H=>H.elim
|_::_,[],H=>H.elim
theorem RowsIn.row{hF:Hp}:∀{rs:List Nat}{xs:List (CT×Value)},RowsIn w G hF rs xs->∀r∈rs,∃m cs l e,hF r=.row m cs l 0 e
|[],[],_,_,hr=>by cases hr
|r::rs,x::xs,H,r',hr=>by
 rcases List.mem_cons.1 hr with rfl|hr
 · obtain⟨_,m',cs',l',e',h1,h2⟩:=H.1;exact⟨_,_,_,_,h2⟩
 · exact RowsIn.row H.2 r' hr
|[],_::_,H,_,_=>H.elim
|_::_,[],H,_,_=>H.elim
theorem ow_in{hF:Hp}{n k:Nat}{c:CT}{u:Value}{t:T}(hc:c.isSl=true)(hF1:hF n=(back1 h n k (.ow c) t).2 n)(H:AVRep w G hF u (back1 h n k (.ow c) t).1):RowIn w G hF n (c,u):=by
 cases c with
 |sl m cs=>refine⟨H,m,cs,asL t,false,rfl,?_⟩;rw[hF1];exact upd_same _ _ _
 |_=>cases hc
theorem qiy{tag:Bool}{t:T}{hF:Hp}:∀{ps:List PD}{us:List Value}{h:Hp}{n j:Nat},(∀r,r<n+ps.length->hF r=(backs h n tag ps t j).2 r)->ps.all pdOk1=true->AVReps w G hF us (backs h n tag ps t j).1->RowsIn w G hF (qh7 n ps) (qcs ps us)
|[],us,_,_,_,_,_,H=>by
 cases us with
 |nil=>trivial
 |cons _ _=>exact H.elim
|p::ps,us,h,n,j,hh,hp,H=>by
 cases us with
 |nil=>exact H.elim
 |cons u us=>
  rw[List.all_cons,Bool.and_eq_true]at hp;have tl:=qiy (ps:=ps) (us:=us) (h:=(back1 h n (tagN tag n) p (T.cell t j)).2) (n:=n+1) (j:=j+1) (tag:=tag) (t:=t) (λr hr=>hh r (by simp only[List.length_cons];omega)) hp.2 H.2;cases p with
  |ow c=>exact⟨ow_in (k:=tagN tag n) (t:=T.cell t j) hp.1 ((hh n (by simp only[List.length_cons];omega)).trans (qgt (ps:=ps) (n:=n+1) (j:=j+1) (Nat.lt_succ_self n))) H.1,tl⟩
  |v c=>exact tl
  |ro c=>exact tl
  |mv c=>exact tl
  |fn f=>exact tl
  |ag l=>exact tl
  |bx l=>exact tl
theorem qku{tag:Bool}{rr:List T}{hF:Hp}:∀{ps:List PD}{us:List Value}{h:Hp}{n i:Nat},(∀r,hF r=(qb8 h n tag ps rr i).2 r)->ps.all pdOk=true->AVReps w G hF us (qb8 h n tag ps rr i).1->RowsIn w G hF (qdk n ps) (qg0 ps us)
|[],us,_,_,_,_,_,H=>by
 cases us with
 |nil=>trivial
 |cons _ _=>exact H.elim
|p::ps,us,h,n,i,hh,hp,H=>by
 cases us with
 |nil=>exact H.elim
 |cons u us=>
  rw[List.all_cons,Bool.and_eq_true]at hp;have tl:=qku (ps:=ps) (us:=us) (h:=(backR h n tag p (nth rr i)).2) (n:=n+wide p) (i:=i+1) hh hp.2 H.2;cases p with
  |ow c=>exact⟨ow_in (k:=0) (t:=nth rr i) hp.1 ((hh n).trans (qf7 (ps:=ps) (n:=n+1) (i:=i+1) (Nat.lt_succ_self n))) H.1,tl⟩
  |ag l=>obtain⟨us',rfl,h1⟩:=H.1;exact RowsIn.append (qiy (ps:=l) (h:=h) (n:=n) (j:=0) (t:=nth rr i) (λr hr=>(hh r).trans (qf7 (ps:=ps) (n:=n+l.length) (i:=i+1) (h:=(backs h n false l (nth rr i) 0).2) hr)) hp.1 h1) tl
  |v c=>exact tl
  |ro c=>exact tl
  |mv c=>exact tl
  |fn f=>exact tl
  |bx l=>exact tl
theorem qka{tag:Bool}{rr:List T}{hF:Hp}:∀{ps:List PD}{us:List Value}{h:Hp}{n i:Nat},(∀r,hF r=(qb8 h n tag ps rr i).2 r)->AVReps w G hF us (qb8 h n tag ps rr i).1->BoxesH w G hF (qc0 n ps) (bxUs ps us)/\∀r∈qc0 n ps,∃cs,hF r.1=.box cs
|[],us,_,_,_,_,H=>by
 cases us with
 |nil=>exact⟨trivial,λr hr=>by cases hr⟩
 |cons _ _=>exact H.elim
|p::ps,us,h,n,i,hh,H=>by
 cases us with
 |nil=>exact H.elim
 |cons u us=>
  have tl:=qka (ps:=ps) (us:=us) (h:=(backR h n tag p (nth rr i)).2) (n:=n+wide p) (i:=i+1) hh H.2;cases p with
  |bx l=>
   have hself:hF n=.box (backs h (n+1) tag l (nth rr i) 0).1:=by refine((hh n).trans (qf7 (ps:=ps) (n:=n+(l.length+1)) (i:=i+1) (h:=(backR h n tag (.bx l) (nth rr i)).2) (by omega))).trans ?_;exact upd_same _ _ _
   refine⟨⟨H.1,tl.1⟩,λr hr=>?_⟩;rcases List.mem_cons.1 hr with rfl|hr
   · exact⟨_,hself⟩
   · exact tl.2 r hr
  |v c=>exact tl
  |ro c=>exact tl
  |mv c=>exact tl
  |fn f=>exact tl
  |ow c=>exact tl
  |ag l=>exact tl
end
structure Rel(w0:World)(S0:Nat->Prop)(nt:Nat)(st:St)(a:Act)(w:World)(G:Gh):Prop where
 inv:Inv w0 S0 w G st.h
 slots:∀t,AVRep w G st.h (a.tmps.getD t undef) (st.s t)
 al:∀r,G.al r->r<st.n
 size:a.tmps.size=nt
 defers:a.defers=[]
def qvk:Ex->Exit
|.nrm=>.normal
|.ret=>.ret
|.ex id=>.exit id
def qs6(P:Program)(A:World->KV->Act->Prop)(nt base:Nat)(c:Code)(ev:(α:Type)->St->(Ex->St->Option α)->Option α):Prop:=∀(w0:World)(S0:Nat->Prop)(α:Type)(st:St)(k:Ex->St->Option α)(x:α),ev α st k=some x->∀(a:Act)(w:World)(G:Gh),A w0 G.kv a->Rel w0 S0 nt st a w G->base<=st.n->∀Q:Exit->Act->World->Prop,(∀e st' a' w' G',k e st'=some x->Rel w0 S0 nt st' a' w' G'->base<=st'.n->KeepB base G G' st.h st'.h->Q (qvk e) a' w')->c.wp P Q a w
def qn6(P:Program)(nt base:Nat)(c:Code)(ev:(α:Type)->St->(Ex->St->Option α)->Option α):Prop:=∀(w0:World)(S0:Nat->Prop)(α:Type)(st:St)(k:Ex->St->Option α)(x:α),ev α st k=some x->∀(a:Act)(w:World)(G:Gh),Rel w0 S0 nt st a w G->base<=st.n->∀Q:Exit->Act->World->Prop,(∀e st' a' w' G',k e st'=some x->Rel w0 S0 nt st' a' w' G'->base<=st'.n->KeepB base G G' st.h st'.h->Q (qvk e) a' w')->c.wp P Q a w
def funG(ev:(α:Type)->St->(Ex->St->Option α)->Option α)(E:Env)(fi:Fi)(ts:List T):Option (List T):=
 bif Nat.beq ts.length fi.ps.length&&Nat.ble fi.ps.length fi.fn.ntmps&&!fi.inl then
  match qb8 (λ_=>.dead) 0 true fi.ps ts 0 with
  |(vs,h)=>ev (List T) ⟨argsS vs,h,(fi.ps.map wide).sum+2*MV⟩ λe st=>match e with
   |.ex _=>none
   |_=>finish E fi st
  else none
section
variable{w0 w w':World}{S0:Nat->Prop}{G G':Gh}{h h':Hp}{P:Program}{E:Env}
theorem qkv:∀{ps:List PD}{n r:Nat},r∈qh7 n ps->r<n+ps.length
|[],_,_,h=>by cases h
|p::ps,n,r,h=>by
 have tl:r∈qh7 (n+1) ps->r<n+(ps.length+1):=λh=>by have:=qkv h;omega
 simp only[List.length_cons];cases p with
 |ow c=>
  rcases List.mem_cons.1 h with rfl|h
  · omega
  · exact tl h
 |v c=>exact tl h
 |ro c=>exact tl h
 |mv c=>exact tl h
 |fn f=>exact tl h
 |ag l=>exact tl h
 |bx l=>exact tl h
theorem qys(p:PD):base1 p<=wide p:=by
 cases p with
 |bx l=>
  simp only[base1,wide];cases l.any isOw with
  |true=>simp
  |false=>exact Nat.le_refl _
 |_=>exact Nat.le_refl _
theorem qve{ps:List PD}(h:ps.all flatP=true):∀n,qdk n ps=[]:=by
 induction ps with
 |nil=>intro n;rfl
 |cons p ps ih=>
  rw[List.all_cons,Bool.and_eq_true]at h;intro n;cases p with
  |v c=>exact ih h.2 _
  |ro c=>exact ih h.2 _
  |fn f=>exact ih h.2 _
  |_=>cases h.1
theorem qst{ps:List PD}(h:ps.all flatP=true):∀n,qc0 n ps=[]:=by
 induction ps with
 |nil=>intro n;rfl
 |cons p ps ih=>
  rw[List.all_cons,Bool.and_eq_true]at h;intro n;cases p with
  |v c=>exact ih h.2 _
  |ro c=>exact ih h.2 _
  |fn f=>exact ih h.2 _
  |_=>cases h.1
theorem qwm:∀ps:List PD,baseP ps<=(ps.map wide).sum
|[]=>Nat.le_refl _
|p::ps=>by
 have:=qwm ps;have h1:=qys p;simp only[List.map_cons,List.sum_cons,baseP];cases isBx p&&ps.all flatP with
 |true=>simp only[cond_true];omega
 |false=>simp only[cond_false];omega
theorem qix:∀{ps:List PD}{n r:Nat},r∈qdk n ps->r<n+baseP ps
|[],_,_,h=>by cases h
|p::ps,n,r,h=>by
 cases hc:isBx p&&ps.all flatP with
 |true=>
  rw[Bool.and_eq_true]at hc;cases p with
  |bx l=>rw[show qdk n (.bx l::ps)=qdk (n+wide (.bx l)) ps from rfl,qve hc.2]at h;cases h
  |_=>cases hc.1
 |false=>
  have tl:r∈qdk (n+wide p) ps->r<n+(wide p+baseP ps):=λh=>by have:=qix h;omega
  simp only[baseP,hc,cond_false];cases p with
  |ow c=>
   rcases List.mem_cons.1 h with rfl|h
   · simp only[wide];omega
   · exact tl h
  |ag l=>
   rcases List.mem_append.1 h with h|h
   · have:=qkv h;simp only[wide];omega
   · exact tl h
  |v c=>exact tl h
  |ro c=>exact tl h
  |mv c=>exact tl h
  |fn f=>exact tl h
  |bx l=>exact tl h
theorem qhy:∀{ps:List PD}{n:Nat}{r:Nat×List PD},r∈qc0 n ps->r.1<n+baseP ps
|[],_,_,h=>by cases h
|p::ps,n,r,h=>by
 cases hc:isBx p&&ps.all flatP with
 |true=>
  have hd:=hc;rw[Bool.and_eq_true]at hd;simp only[baseP,hc,cond_true];cases p with
  |bx l=>
   rw[show qc0 n (.bx l::ps)=(n,l)::qc0 (n+wide (.bx l)) ps from rfl,qst hd.2]at h;rcases List.mem_cons.1 h with rfl|h
   ·simp only[base1];cases l.any isOw with
    |true=>exact Nat.lt_succ_self _
    |false=>simp only[cond_false];omega
   · cases h
  |_=>cases hd.1
 |false=>
  have tl:r∈qc0 (n+wide p) ps->r.1<n+(wide p+baseP ps):=λh=>by have:=qhy h;omega
  simp only[baseP,hc,cond_false];cases p with
  |bx l=>
   rcases List.mem_cons.1 h with rfl|h
   · simp only[wide];omega
   · exact tl h
  |ow c=>exact tl h
  |ag l=>exact tl h
  |v c=>exact tl h
  |ro c=>exact tl h
  |mv c=>exact tl h
  |fn f=>exact tl h
theorem qbd:∀{ps:List PD}{n:Nat},(qc0 n ps).map Prod.snd=bxPs ps
|[],_=>rfl
|p::ps,n=>by
 cases p with
 |bx l=>exact congrArg (l::·) (qbd (ps:=ps))
 |ag l=>exact qbd (ps:=ps)
 |v c=>exact qbd (ps:=ps)
 |ro c=>exact qbd (ps:=ps)
 |mv c=>exact qbd (ps:=ps)
 |fn f=>exact qbd (ps:=ps)
 |ow c=>exact qbd (ps:=ps)
theorem RowsBk.length:∀{K:Nat}{xs:List (CT×Value)}{ts:List T},RowsBk w G K xs ts->ts.length=xs.length
|_,[],[],_=>rfl
|_,_::_,_::_,H=>by simp[RowsBk.length H.2]
|_,[],_::_,H=>H.elim
|_,_::_,[],H=>H.elim
theorem RowsH.length{h:Hp}:∀{rs:List Nat}{xs:List (CT×Value)},RowsH w G h rs xs->rs.length=xs.length
|[],[],_=>rfl
|_::_,_::_,H=>by simp[RowsH.length H.2.2]
|[],_::_,H=>H.elim
|_::_,[],H=>H.elim
theorem qbt(hkv:G'.kv=G.kv):∀{ps:List PD}{us:List Value}{n K:Nat}{ts:List T},BxKv w G n ps us->BoxesKv w' G' (qc0 n ps) (bxUs ps us)->BoxesBk w' G' K (bxPs ps) (bxUs ps us) ts->qn7 w w' (bxPs ps) (bxUs ps us)
|[],_,_,_,_,_,_,_=>trivial
|p::ps,[],n,K,ts,H,H',B=>by
 have:∀ps:List PD,bxUs ps []=[]:=λps=>by cases ps with|nil=>rfl|cons p ps=>cases p<;>rfl
 rw[this];cases bxPs (p::ps)<;>trivial
|p::ps,u::us,n,K,ts,H,H',B=>by
 cases p with
 |bx l=>
  cases ts with
  |nil=>exact B.elim
  |cons t ts=>refine⟨?_,qbt hkv (ps:=ps) H.2 H'.2 B.2⟩;intro b c ty fz c' ty' fz' h1 h2 h3 i d x h4 h5;obtain⟨b1,us1,ty1,fz1,ts1,g1,g2,g3,g4,g5⟩:=B.1;rw[h1]at g1;cases g1;rw[h3]at g4;cases g4;have hlen:=g5.length.1;have hi:i<l.length:=(List.getElem?_eq_some_iff.1 h4).1;have hx':c'.toList[i]? =some (c'.toList[i]):=List.getElem?_eq_getElem (by omega);rw[hx',H'.1 b c' ty' fz' h1 h3 i d _ h4 hx',H.1 b c ty fz h1 h2 i d x h4 h5,hkv]
 |ag l=>exact qbt hkv (ps:=ps) H.2 H' B
 |v c=>exact qbt hkv (ps:=ps) H.2 H' B
 |ro c=>exact qbt hkv (ps:=ps) H.2 H' B
 |mv c=>exact qbt hkv (ps:=ps) H.2 H' B
 |fn f=>exact qbt hkv (ps:=ps) H.2 H' B
 |ow c=>exact qbt hkv (ps:=ps) H.2 H' B
theorem qon{us:List Value}{vs:List AV}{m:Nat}:AVReps w G h us vs->∀t,AVRep w G h ((us.toArray++Array.replicate m undef).getD t undef) (argsS vs t):=by
 intro H t;have hl:=H.length;have e:(us.toArray++Array.replicate m undef).getD t undef=us.getD t undef:=by
  simp only[Array.getD_eq_getD_getElem?,List.getD_eq_getElem?_getD,Array.getElem?_append,List.size_toArray,List.getElem?_toArray];by_cases ht:t<us.length;· rw[if_pos ht]
  ·rw[if_neg ht,List.getElem?_eq_none (by omega)];cases hq:(Array.replicate m undef)[t-us.length]? with
   |none=>rfl
   |some q=>
    rw[Array.getElem?_replicate]at hq;split at hq;· cases hq;rfl
    · cases hq
 rw[e];clear e hl;induction vs generalizing us t with
 |nil=>
  cases us with
  |nil=>simp[argsS,AVRep]
  |cons _ _=>exact H.elim
 |cons v vs ih=>
  cases us with
  |nil=>exact H.elim
  |cons u us=>
   cases t with
   |zero=>exact H.1
   |succ t=>exact ih H.2 t
theorem mvAll(ps:List PD):ps.all (mvOk true)=true:=by
 have h1:∀p,mvOk1 true p=true:=λp=>by cases p<;>rfl
 have h2:∀l:List PD,l.all (mvOk1 true)=true:=λl=>List.all_eq_true.2 λp _=>h1 p;exact List.all_eq_true.2 λp _=>by cases p<;>first|exact h2 _|rfl
theorem qrc(O:EnvOk P E){fi:Fi}{f:FuncId}(hf:P.funcs[f]? =some fi.fn)(hW:(fi.ps.map wide).sum<=MV)(hp:fi.ps.all pdOk=true){c:Code}(hb:fi.fn.body=some c){ev:(α:Type)->St->(Ex->St->Option α)->Option α}{G:Gh}{args:List Value}{ts r:List T}(hc:qs6 P (λw' kv a=>w'=w/\kv.r0=G.ro/\a.tmps=args.toArray++Array.replicate (fi.fn.ntmps-args.toArray.size) undef) fi.fn.ntmps (baseP fi.ps) c ev)(I:Inv w S0 w G noBlk)(hal:∀r,¬G.al r)(R:PRepL w G 0 fi.ps args ts)(hr:funG ev E fi ts=some r):Calls P f args.toArray w (Came fi w S0 G args r):=by
 unfold funG at hr;cases hg:(Nat.beq ts.length fi.ps.length&&Nat.ble fi.ps.length fi.fn.ntmps&&!fi.inl)with
 |false=>rw[hg]at hr;cases hr
 |true=>
  rw[hg,cond_true]at hr;rw[Bool.and_eq_true,Bool.and_eq_true]at hg;have hnt:=Nat.le_of_ble_eq_true hg.1.2;let k0:KV:=⟨kvOf w 0 fi.ps args,G.ro⟩;have I0:Inv w S0 w (G.kvs k0) noBlk:=⟨rfl,rfl,rfl,Nat.le_refl _,λ_ _ _=>rfl,I.mine,I.cells,I.roOwn,I.roLt,λb hb=>.inl hb,I.rep⟩;have R0:PRepL w (G.kvs k0) 0 fi.ps args ts:=R.to (G:=G) (G':=G.kvs k0) (λ_ _ h=>⟨h,rfl⟩) (λ_ _ _ _ h=>⟨h,rfl⟩);have V0:BxKv w (G.kvs k0) 0 fi.ps args:=qr4 λm _=>rfl;obtain⟨G1,X1,A1,J1,B1⟩:=qhn (mv:=true) (K:=0) true ts (n:=0) (i:=0) I0.x (mvAll fi.ps) R0 (λj x hx=>by simp only[nth,Nat.zero_add,List.getD_eq_getElem?_getD,hx,Option.getD_some]) (λ_=>V0) (λr _=>hal r) hW;have e0:noBlk=(λ_=>Blk.dead):=rfl;generalize hvh:qb8 noBlk 0 true fi.ps ts 0=vh at X1 A1 J1 B1;rw[e0]at hvh;rw[hvh]at hr;obtain⟨vs,h1⟩:=vh;simp only at hr X1 A1 J1 B1;have I1:Inv w S0 w G1 h1:=X1.inv λr cs _ e=>by
   by_cases hin:inN true 0 (fi.ps.map wide).sum r;· obtain⟨b,c,ty,fz,g1,g2,g3⟩:=B1 r cs hin e;exact⟨b,c,ty,fz,g1,g2,(Gh.onAll w G1 h1 _).avs _ g3⟩
   · rw[(J1.stay r hin).1]at e;cases e
  have A1':AVReps w G1 h1 args vs:=(Gh.onAll w G1 h1 _).avs _ A1;have hh:∀r,h1 r=(qb8 (λ_=>Blk.dead) 0 true fi.ps ts 0).2 r:=λr=>by rw[hvh]
  have Rows1:=qku (ps:=fi.ps) (us:=args) (G:=G1) (w:=w) hh hp (by rw[hvh];exact A1');have Boxes1:=qka (ps:=fi.ps) (us:=args) (G:=G1) (w:=w) hh (by rw[hvh];exact A1');have hargs:args.length=fi.ps.length:=by
   clear hr R0 A1 A1' Rows1 Boxes1 V0 hvh I0 hh;have:∀{K:Nat}{ps:List PD}{us:List Value}{ts:List T},PRepL w G K ps us ts->us.length=ps.length:=by
    intro K ps;induction ps generalizing K with
    |nil=>intro us ts H;cases us with
     |nil=>rfl
     |cons _ _=>exact H.elim
    |cons p ps ih=>intro us ts H;cases us with
     |nil=>exact H.elim
     |cons u us=>cases ts with
      |nil=>exact H.elim
      |cons t ts=>simp[ih H.2]
   exact this R
  refine calls_of_wp hf hb (hc w S0 (List T) _ _ r hr _ w G1 ⟨rfl,by rw[J1.kv];rfl,rfl⟩ ⟨I1,qon A1',λr hr=>?_,?_,rfl⟩ (Nat.le_trans (qwm fi.ps) (Nat.le_add_right _ _)) _ ?_)
  ·rcases J1.alN r hr with h2|h2
   · exact absurd h2 (hal r)
   · have:=qzc h2;simp only[MV]at this|-;simp only[MV]at hW;omega
  · simp only[Array.size_append,List.size_toArray,Array.size_replicate];omega
  ·intro e st' a' w' G2 he R2 _ KB;have key:finish E fi st'=some r->bodyPost P fi.fn (Came fi w S0 G args r) .normal a' w':=by
    intro hfin;unfold finish at hfin;cases hv:resVs E fi.fn st' with
    |none=>rw[hv]at hfin;cases hfin
    |some vs'=>
     rw[hv]at hfin;simp only at hfin;cases h2:qh8 st'.h fi.rs vs' with
     |none=>rw[h2]at hfin;cases hfin
     |some x=>
      obtain⟨ts',hA,bA⟩:=x;rw[h2]at hfin;simp only at hfin;cases h3:qh6 hA (qdk 0 fi.ps)with
      |none=>rw[h3]at hfin;cases hfin
      |some y=>
       obtain⟨us',hB,bB⟩:=y;rw[h3]at hfin;simp only at hfin;cases h4:qf6 hB (qc0 0 fi.ps)with
       |none=>rw[h4]at hfin;cases hfin
       |some z=>
        obtain⟨ws',bC⟩:=z;rw[h4]at hfin;simp only at hfin;cases hbb:(bA&&(bB&&bC))with
        |false=>rw[hbb]at hfin;cases hfin
        |true=>
         rw[hbb,cond_true]at hfin;cases hfin;rw[Bool.and_eq_true,Bool.and_eq_true]at hbb;obtain⟨us,hres,hus⟩:=qj0 (P:=P) O R2.inv R2.slots hv;obtain⟨K,hK⟩:=R2.inv.freshTmp;obtain⟨G3,W3,P3⟩:=qj2 R2.inv hK hus h2 hbb.1;have RH:=(KB.rows (w':=w') (λr hr=>by have:=qix hr;omega) Rows1.row Rows1.rh).keep W3.2.1;have BH:=(KB.boxes (w':=w') (λr hr=>by have:=qhy hr;omega) Boxes1.2 Boxes1.1).keep W3.2.1;obtain⟨G4,W4,P4⟩:=qiw (K:=K+(fi.rs.map wide).sum) W3.1 (λk hk=>W3.2.2.1.fresh (by omega) (hK k (by omega))) RH h3 hbb.2.1;obtain⟨G5,h5,W5,P5,V5⟩:=qhx (K:=K+(fi.rs.map wide).sum+(qdk 0 fi.ps).length) W4.1 (λk hk=>W4.2.2.1.fresh (by omega) (W3.2.2.1.fresh (by omega) (hK k (by omega)))) (BH.keep W4.2.1) h4 hbb.2.2;have hlen:us'.length=(qdk 0 fi.ps).length:=by rw[P4.length,<-RH.length]
         rw[qbd]at P5 W5;have P3':=(P3.out W4.2.1 W4.2.2.1 (λj h1 h2=>by omega)).out W5.2.1 W5.2.2.1 (λj h1 h2=>by omega);have P4':=P4.out W5.2.1 W5.2.2.1 (λj h1 h2=>by have:=RH.length;omega);refine⟨R2.defers,retV us,hres,us,ts',us',ws',G5.shift K,rfl,by simp,qtv W5.1 K,?_,?_,?_,?_,?_,?_⟩;· intro b hb;exact(W5.2.1.ro b (W4.2.1.ro b (W3.2.1.ro b (KB.ro b (by rw[J1.ro];exact hb))).1).1).1
         · intro b hb;have:=W5.1.roIn b hb;rw[W5.2.1.kv,W4.2.1.kv,W3.2.1.kv,KB.kv,J1.kv]at this;exact this
         · exact P3'.to (G:=G5) (G':=G5.shift K) (λ_ b hb=>⟨hb,rfl⟩) (λj b p _ hb=>⟨by simpa using qis (k:=j) hb,rfl⟩)
         · exact P4'.to (λj b p _ hb=>⟨qis (by rw[<-Nat.add_assoc];exact hb),rfl⟩)
         · rw[hlen];exact P5.to (G:=G5) (G':=G5.shift K) (λb hb=>⟨hb,rfl⟩) (λj b p _ hb=>⟨qis (by rw[<-Nat.add_assoc,<-Nat.add_assoc];exact hb),rfl⟩)
         ·refine qbt (G:=G.kvs k0) (G':=G5) ?_ V0 ?_ P5;· rw[W5.2.1.kv,W4.2.1.kv,W3.2.1.kv,KB.kv,J1.kv]
          · have e5:G4.kv=G5.kv:=W5.2.1.kv.symm;exact BoxesKv.kv e5 V5
   cases e with
   |nrm=>exact key he
   |ret=>exact key he
   |ex id=>cases he
theorem qxx(O:EnvOk P E){C:Orc}{lf df:Nat}{fi:Fi}{f:FuncId}(hf:P.funcs[f]? =some fi.fn)(hW:(fi.ps.map wide).sum<=MV)(hp:fi.ps.all pdOk=true)(hc:∀c,fi.fn.body=some c->qn6 P fi.fn.ntmps (baseP fi.ps) c λα st k=>evK C (inlK C E lf df) E lf fi (baseP fi.ps) c α st k):qaq P fi f (funK C E lf df fi):=by
 intro w S0 G args ts r I hal R hr;unfold funK at hr;cases hb:fi.fn.body with
 |none=>rw[hb]at hr;cases hr
 |some c=>rw[hb]at hr;exact qrc O hf hW hp hb (ev:=λα st k=>evK C (inlK C E lf df) E lf fi (baseP fi.ps) c α st k) (λw0 S0 α st k x h a w G _ R hb' Q hQ=>hc c hb w0 S0 α st k x h a w G R hb' Q hQ) I hal R hr
end
def Gh.forCall(G:Gh)(fz:Bool)(K W:Nat):Gh:=
 {
  φ:=G.φ,kv:=⟨G.kv.v,λb=>G.ro b\/(fz=false/\∃r q,G.own b=some (.blk r q))⟩,al:=λ_=>False
  own:=λb=>match G.own b with|some (.tmp k p)=>if K<=k/\k<K+W then some (.tmp (k-K) p)else none|_=>none
  ro:=λb=>G.ro b\/(fz=false/\∃r q,G.own b=some (.blk r q))}
def Hung(w:World)(G0:Gh)(h0:Hp)(G:Gh)(kx r:Nat)(q:Path)(B:Blk)(c:CT)(u:Value):Prop:=∃m cs l v e m' cs' l' M0,B=.row m cs l v e/\G0.al r/\(∃l0 v0 e0,h0 r=.row m cs l0 v0 e0/\v0<=v)/\(M0:Mem).emp=False/\RowRep w M0 [] m cs (G0.φ r) l/\NavH w M0 [] q cs (G0.φ r) u/\PathOk q m cs l/\navR q m cs l=some (m',cs',l')/\c=.sl m' cs'/\(∀b ρ,M0 b ρ->(∃s,ρ=q++s)\/G.own b=some (.tmp kx ρ))/\(e=false->okL m cs l=true)
def RowsAway(w:World)(G0:Gh)(h0:Hp)(G:Gh):Nat->Nat->List (Nat×Path×Blk)->List (CT×Value)->Prop
|_,_,[],[]=>True
|lo,hi,x::xs,y::ys=>∃kx,lo<=kx/\kx<hi/\Hung w G0 h0 G kx x.1 x.2.1 x.2.2 y.1 y.2/\RowsAway w G0 h0 G (kx+1) hi xs ys
|_,_,_,_=>False
def Kept(G G':Gh)(L:Nat->Prop):Prop:=∀k,L k->∀b p,G.own b=some (.tmp k p)->G'.own b=some (.tmp k p)
theorem TmpOut.kept{G G':Gh}{L L':Nat->Prop}(H:TmpOut G G' L)(hL:∀k,L' k->¬L k):Kept G G' L':=λk hk b p hb=>(H k (hL k hk) b p).1 hb
theorem Kept.trans{G G' G'':Gh}{L:Nat->Prop}(H:Kept G G' L)(H':Kept G' G'' L):Kept G G'' L:=λk hk b p hb=>H' k hk b p (H k hk b p hb)
theorem Kept.mono{G G':Gh}{L L':Nat->Prop}(H:Kept G G' L)(hL:∀k,L' k->L k):Kept G G' L':=λk hk=>H k (hL k hk)
def awayF(r:Nat)(q:Path)(k kx:Nat):Lab->Lab
|.blk r' p=>if r'=r then match strip q p with|some s=>.tmp k s|none=>.tmp kx p else .blk r' p
|x=>x
section
variable{w0 w w':World}{S0:Nat->Prop}{G0 G G':Gh}{h0 h h':Hp}
theorem RowsAway.mono:∀{lo lo' hi hi':Nat}{xs:List (Nat×Path×Blk)}{ys:List (CT×Value)},lo'<=lo->hi<=hi'->RowsAway w G0 h0 G lo hi xs ys->RowsAway w G0 h0 G lo' hi' xs ys
|_,_,_,_,[],[],_,_,_=>trivial
|_,_,_,_,_::_,_::_,h1,h2,⟨kx,g1,g2,g3,g4⟩=>⟨kx,Nat.le_trans h1 g1,Nat.lt_of_lt_of_le g2 h2,g3,RowsAway.mono (Nat.le_refl _) h2 g4⟩
|_,_,_,_,[],_::_,_,_,H=>H.elim
|_,_,_,_,_::_,[],_,_,H=>H.elim
theorem RowsAway.append:∀{lo mid hi:Nat}{xs xs':List (Nat×Path×Blk)}{ys ys':List (CT×Value)},lo<=mid->mid<=hi->RowsAway w G0 h0 G lo mid xs ys->RowsAway w G0 h0 G mid hi xs' ys'->RowsAway w G0 h0 G lo hi (xs++xs') (ys++ys')
|_,_,_,[],_,[],_,h1,_,_,H'=>H'.mono h1 (Nat.le_refl _)
|_,_,_,_::_,_,_::_,_,h1,h2,⟨kx,g1,g2,g3,g4⟩,H'=>⟨kx,g1,Nat.lt_of_lt_of_le g2 h2,g3,RowsAway.append (by omega) h2 g4 H'⟩
|_,_,_,[],_,_::_,_,_,_,H,_=>H.elim
|_,_,_,_::_,_,[],_,_,_,H,_=>H.elim
theorem Hung.kept{kx r:Nat}{q:Path}{B:Blk}{c:CT}{u:Value}(J:Kept G G' (λk=>k=kx))(H:Hung w G0 h0 G kx r q B c u):Hung w G0 h0 G' kx r q B c u:=by obtain⟨m,cs,l,v,e,m',cs',l',M0,h1,h2,h3,h4,h5,h6,h7,h8,h9,h10,h11⟩:=H;exact⟨m,cs,l,v,e,m',cs',l',M0,h1,h2,h3,h4,h5,h6,h7,h8,h9,λb ρ hb=>(h10 b ρ hb).imp id (J kx rfl b ρ),h11⟩
theorem RowsAway.kept:∀{lo hi:Nat}{xs:List (Nat×Path×Blk)}{ys:List (CT×Value)},Kept G G' (λk=>lo<=k/\k<hi)->RowsAway w G0 h0 G lo hi xs ys->RowsAway w G0 h0 G' lo hi xs ys
|_,_,[],[],_,_=>trivial
|_,_,_::_,_::_,J,⟨kx,g1,g2,g3,g4⟩=>⟨kx,g1,g2,g3.kept (J.mono λk hk=>by subst hk;exact⟨g1,g2⟩),RowsAway.kept (J.mono λk hk=>by omega) g4⟩
|_,_,[],_::_,_,H=>H.elim
|_,_,_::_,[],_,H=>H.elim
theorem qjv{fz:Bool}{K W b k:Nat}{p:Path}(hk:k<W)(hb:G.own b=some (.tmp (K+k) p)):(G.forCall fz K W).own b=some (.tmp k p):=by simp only[Gh.forCall,hb];rw[if_pos ⟨Nat.le_add_right _ _,by omega⟩,Nat.add_sub_cancel_left]
theorem qbc{fz:Bool}{K W b:Nat}{x:Lab}(hb:(G.forCall fz K W).own b=some x):∃k p,k<W/\G.own b=some (.tmp (K+k) p)/\x=.tmp k p:=by
 simp only[Gh.forCall]at hb;cases e:G.own b with
 |none=>rw[e]at hb;cases hb
 |some y=>
  rw[e]at hb;cases y with
  |blk r q=>cases hb
  |tmp k q=>
   by_cases hk:K<=k/\k<K+W;· simp only[if_pos hk]at hb;cases hb;exact⟨k-K,q,by omega,by rw[Nat.add_sub_cancel' hk.1],rfl⟩
   · simp only[if_neg hk]at hb;cases hb
theorem qpm{fz:Bool}{K W k:Nat}{c:CT}{u:Value}{t:T}(H:CellRep w (G.own.t (K+k)) [] c u t)(hk:k<W)(J:Kept G G' (λx=>x=K+k)):CellRep w ((G'.forCall fz K W).own.t k) [] c u t:=CellRep.moved (M:=G.own.t (K+k)) (M':=(G'.forCall fz K W).own.t k) t ⟨λhf=>False.elim hf,λb ρ hb=>⟨qjv hk (J _ rfl b _ hb),rfl⟩⟩ H
theorem qze(I:Inv w0 S0 w G h)(K0:Keep w w G0 G h0 h)(hal:G.al=G0.al){K W:Nat}{c:CT}{v:AV}{u:Value}{t:T}{b:Bool}(hu:AVRep w G h u v)(hr:readT h c v=some (t,b))(hb:b=true)(K1:Keep w w G G' h h'){fz:Bool}(hfz:fz=true->∀r,¬refIs v r)(hl:fz=false->qbq h0 h' (.ro c) v=true):CellRep w (roM (G'.forCall fz K W).ro) [] c u t/\okC c t=true:=by
 obtain⟨h1,h2⟩:=qu2 I hu hr hb;refine⟨CellRep.moved (M:=roM λb=>G.ro b\/∃r q,refIs v r/\G.own b=some (.blk r q)) (M':=roM (G'.forCall fz K W).ro) t ⟨λ_=>trivial,λb ρ hb=>⟨?_,rfl⟩⟩ h1,h2⟩;rcases hb with hb|⟨r,q,g1,g2⟩
 · exact .inl (K1.ro b hb).1
 ·cases fz with
  |true=>exact absurd g1 (hfz rfl r)
  |false=>
   have hl:=hl rfl;cases v with
   |rf r' p ver sub=>
    have e:r'=r:=g1;subst e;have ha:G.al r':=hu.2.1;have ha0:G0.al r':=by rw[<-hal];exact ha
    have t0:=(K0.al r' ha0).2;have t1:=(K1.al r' ha).2;simp only[qbq]at hl;cases e1:h0 r' with
    |dead=>rw[e1]at hl;cases hl
    |box _=>rw[e1]at hl;cases hl
    |row m1 cs1 l1 v1 z1=>
     cases e2:h' r' with
     |dead=>rw[e1,e2]at hl;cases hl
     |box _=>rw[e1,e2]at hl;cases hl
     |row m2 cs2 l2 v2 z2=>
      rw[e1,e2]at hl;rw[e1]at t0;rw[e2]at t1;cases hh:h r' with
      |dead=>rw[hh]at t1;exact t1.elim
      |box _=>rw[hh]at t1;exact t1.elim
      |row m cs l v z=>
       rw[hh]at t0 t1;obtain⟨_,_,_,t0⟩:=t0;obtain⟨_,_,_,t1⟩:=t1;have hv:v1=v2:=Nat.eq_of_beq_eq_true hl;have t0':v1<=v:=by
        rcases t0 with⟨_,e,_⟩|e
        · exact Nat.le_of_eq e.symm
        · exact Nat.le_of_lt e
       rcases t1 with⟨_,_,t1⟩|t1
       · exact .inr ⟨rfl,_,_,(t1 b q g2).1⟩
       · omega
   |_=>exact g1.elim
theorem qyt(I:Inv w0 S0 w G h)(K0:Keep w w G0 G h0 h)(hal:G.al=G0.al){k kx:Nat}{r:Nat}{q:Path}{ver:Nat}{u:Value}{c:CT}{t:T}{b:Bool}(hu:AVRep w G h u (.rf r q ver none))(hr:readT h c (.rf r q ver none)=some (t,b))(hb:b=true):∃G',Went w0 S0 w G G' h (upd h r .dead) (λx=>x=k\/x=kx)/\(CellRep w (G'.own.t k) [] c u t/\okC c t=true)/\Hung w G0 h0 G' kx r q (h r) c u:=by
 cases c with
 |sl m cs=>
  simp only[readT]at hr;cases hc:cont h (.rf r q ver none)with
  |none=>rw[hc]at hr;cases hr
  |some x=>
   obtain⟨m',cs',l⟩:=x;rw[hc]at hr;simp only at hr;cases hq:CT.beq (.sl m cs) (.sl m' cs')with
   |false=>rw[hq]at hr;cases hr
   |true=>
    rw[hq,cond_true]at hr;cases CT.beq_eq hq;cases hr;obtain⟨m1,cs1,l1,hra,heq⟩:=qer hc;cases heq;obtain⟨m0,cs0,l0,v0,e,hv,g0,g1,g2,g3,g4,g5,g6,g7⟩:=qdc I hu hra;have g6:u=hv:=g6;subst g6;have ha:G.al r:=hu.2.1;have ha0:G0.al r:=by rw[<-hal];exact ha
    have t0:=(K0.al r ha0).2;rw[g0]at t0;have R:=I.rep r;rw[g0]at R;have hback:∀x r' p,r'≠r->awayF r q k kx x=.blk r' p->x=.blk r' p:=by
     intro x r' p hne hx;cases x with
     |tmp a s=>exact hx
     |blk r1 q1=>
      by_cases e1:r1=r;· simp only[awayF,if_pos e1]at hx;split at hx<;>cases hx
      · simp only[awayF,if_neg e1]at hx;exact hx
    have hnot:∀x p,awayF r q k kx x≠.blk r p:=by
     intro x p hx;cases x with
     |tmp a s=>cases hx
     |blk r1 q1=>
      by_cases e1:r1=r;· simp only[awayF,if_pos e1]at hx;split at hx<;>cases hx
      · simp only[awayF,if_neg e1]at hx;cases hx;exact e1 rfl
    have S:Step w w G (G.rel (awayF r q k kx)) h (upd h r .dead) (λx=>x=r):=qdw I _ _ (λr' p hr'=>by simp[awayF,hr']) (λx r' p hr' hx=>hback x r' p hr' hx) (λr' hr'=>upd_ne _ _ hr') (λr' hr' _=>by subst hr';rw[upd_same];cases h r'<;>trivial);have I1:Inv w0 S0 w (G.rel (awayF r q k kx)) (upd h r .dead):=S.inv I λr' hr'=>by subst hr';rw[upd_same];intro b p hb;simp only[Gh.rel,Option.map_eq_some_iff]at hb;obtain⟨y,_,hy⟩:=hb;exact hnot y p hy
    have hT:TmpOut G (G.rel (awayF r q k kx)) (λx=>x=k\/x=kx):=by
     intro k' hk' b p;constructor;· intro hb;simp[Gh.rel,hb,awayF]
     ·intro hb;simp only[Gh.rel,Option.map_eq_some_iff]at hb;obtain⟨y,hy,hy'⟩:=hb;cases y with
      |tmp a s=>rw[hy];exact congrArg some hy'
      |blk r1 q1=>
       by_cases e1:r1=r
       ·simp only[awayF,if_pos e1]at hy';split at hy';· cases hy';exact absurd (.inl rfl) hk'
        · cases hy';exact absurd (.inr rfl) hk'
       · simp only[awayF,if_neg e1]at hy';cases hy'
    refine⟨_,⟨I1,S.keep I,hT,rfl⟩,⟨?_,by simpa[okC]using qfp I hu hra hb⟩,?_⟩;· refine qa6.2 (RowRep.moved (M:=G.own.m r) (π:=q) (π':=[]) ⟨λhf=>False.elim hf,λb ρ hb=>⟨?_,rfl⟩⟩ g7);have hb:G.own b=some (.blk r (q++ρ)):=hb;show(G.rel (awayF r q k kx)).own b=some (.tmp k ([]++ρ));simp[Gh.rel,hb,awayF,qho]
    ·have hφ:G.φ r=G0.φ r/\∃l1 v1 e1,h0 r=.row m0 cs0 l1 v1 e1/\v1<=v0:=by
      cases hh:h0 r with
      |dead=>rw[hh]at t0;exact t0.elim
      |box _=>rw[hh]at t0;exact t0.elim
      |row m9 cs9 l9 v9 e9=>
       rw[hh]at t0;obtain⟨rfl,rfl,t2,t3⟩:=t0;refine⟨t2,l9,v9,e9,rfl,?_⟩;rcases t3 with⟨_,e,_⟩|e
       · exact Nat.le_of_eq e.symm
       · exact Nat.le_of_lt e
     refine⟨m0,cs0,l0,v0,e,m,cs,l1,G.own.m r,g0,ha0,hφ.2,rfl,by rw[<-hφ.1];exact R.2.1,by rw[<-hφ.1];exact g3,g4,g5,rfl,λb ρ hb=>?_,R.2.2⟩;have hb:G.own b=some (.blk r ρ):=hb;by_cases hs:∃s,ρ=q++s;· exact .inl hs
     ·right;have:strip q ρ=none:=by
       cases hst:strip q ρ with
       |none=>rfl
       |some s=>exact absurd ⟨s,qev.1 hst⟩ hs
      simp[Gh.rel,hb,awayF,this]
 |b=>simp[readT,scal]at hr
 |i kk=>simp[readT,scal]at hr
 |s=>simp[readT,scal]at hr
 |o=>simp[readT,scal]at hr
end
theorem qph{h:Hp}{r0 r:Nat}{p:Path}{cs:List AV}(hr:killR h r0 p r=.box cs):h r=.box cs:=by
 unfold killR at hr;cases h1:h r0 with
 |dead=>rw[h1]at hr;exact hr
 |box _=>rw[h1]at hr;exact hr
 |row m cs' l v e=>
  rw[h1]at hr;simp only at hr;have go:∀B:Blk,(∀cs,B≠.box cs)->upd h r0 B r=.box cs->h r=.box cs:=by
   intro B hB hu;by_cases e:r=r0;· subst e;rw[upd_same]at hu;exact absurd hu (hB cs)
   · rw[upd_ne _ _ e]at hu;exact hu
  cases h2:p.getLast? with
  |none=>rw[h2]at hr;exact go _ (λ_=>by simp) hr
  |some ij=>
   rw[h2]at hr;simp only at hr;cases h3:navR p.dropLast m cs' l with
   |none=>rw[h3]at hr;exact go _ (λ_=>by simp) hr
   |some x=>rw[h3]at hr;exact go _ (λ_=>by simp) hr
theorem qdi{h h':Hp}{c:CT}{v:AV}{t:T}{b:Bool}{r:Nat}{cs:List AV}(hs:sink h c v=some (t,h',b))(hr:h' r=.box cs):h r=.box cs:=by
 cases c with
 |sl m cs'=>
  simp only[sink]at hs;cases v with
  |nl m' cs'=>cases hs;exact hr
  |rf r' p ver sub=>
   simp only at hs;split at hs
   ·cases hq:CT.beq (.sl m cs') (.sl _ _)with
    |false=>rw[hq]at hs;cases hs
    |true=>rw[hq,cond_true]at hs;cases hs;exact qph hr
   · cases hs
  |_=>cases hs
 |b=>simp only[sink]at hs;split at hs<;>cases hs;exact hr
 |i k=>simp only[sink]at hs;split at hs<;>cases hs;exact hr
 |s=>simp only[sink]at hs;split at hs<;>cases hs;exact hr
 |o=>simp only[sink]at hs;split at hs<;>cases hs;exact hr
def Done1(w:World)(G0:Gh)(h0:Hp)(fz:Bool)(K W k:Nat)(p:PD)(v:AV)(u:Value)(t:T)(rs:List (Nat×Path×Blk))(G:Gh)(h:Hp):Prop:=∀G' h',Keep w w G G' h h'->Kept G G' (λx=>x=K+k\/x=K+W+k)->(fz=false->qbq h0 h' p v=true)->PRep1 w (G'.forCall fz K W) k p u t/\RowsAway w G0 h0 G' (K+W+k) (K+W+k+1) rs (owVal p u)
def DoneL1(w:World)(G0:Gh)(h0:Hp)(fz:Bool)(K W k:Nat)(ps:List PD)(vs:List AV)(us:List Value)(ts:List T)(rs:List (Nat×Path×Blk))(G:Gh)(h:Hp):Prop:=∀G' h',Keep w w G G' h h'->Kept G G' (λx=>(K+k<=x/\x<K+k+ps.length)\/(K+W+k<=x/\x<K+W+k+ps.length))->(fz=false->qbw h0 h' ps vs=true)->PReps w (G'.forCall fz K W) k ps us ts/\RowsAway w G0 h0 G' (K+W+k) (K+W+k+ps.length) rs (qcs ps us)
section
variable{w0 w w':World}{S0:Nat->Prop}{G0 G G':Gh}{h0 h h':Hp}{fz:Bool}{K W:Nat}
theorem qnh{k:Nat}{c:CT}{v:AV}{u:Value}{t:T}(h1:scal c v=some t)(hu:AVRep w G h u v)(G':Gh):PRep1 w G' k (.v c) u t:=⟨(qfv h1 hu _ _).1,qiu h1⟩
theorem qki(I:Inv w0 S0 w G h)(K0:Keep w w G0 G h0 h)(hal:G.al=G0.al){k:Nat}(hk:k<W)(hf:∀b p,G.own b≠some (.tmp (K+k) p)){p:PD}{v:AV}{u:Value}(hu:AVRep w G h u v){t:T}{b:Bool}{rs:List (Nat×Path×Blk)}(hs:qa7 fz h p v=some (t,h',b,rs))(hb:b=true):∃G',Went w0 S0 w G G' h h' (λx=>x=K+k\/x=K+W+k)/\(∀r cs,h' r=.box cs->h r=.box cs)/\Done1 w G0 h0 fz K W k p v u t rs G' h':=by
 have sinkc:∀{c:CT}{q:PD},(q=.mv c)->sink h c v=some (t,h',b)->rs=[]->∃G',Went w0 S0 w G G' h h' (λx=>x=K+k\/x=K+W+k)/\(∀r cs,h' r=.box cs->h r=.box cs)/\Done1 w G0 h0 fz K W k q v u t rs G' h':=by intro c q hq h1 hrs;subst hq;subst hrs;obtain⟨G1,W1,C1,O1⟩:=qeh I hf hu h1 hb;exact⟨G1,⟨W1.1,W1.2.1,W1.2.2.1.mono (λ_ h=>.inl h),W1.2.2.2⟩,λr cs=>qdi h1,λG' h' K1 J _=>⟨⟨qpm C1 hk (J.mono λ_ h=>.inl h),O1⟩,trivial⟩⟩
 cases p with
 |v c=>
  simp only[qa7]at hs;cases h1:scal c v with
  |none=>rw[h1]at hs;cases hs
  |some t'=>rw[h1]at hs;cases hs;exact⟨G,Went.refl I _,λ_ _ h=>h,λG' h' K1 J _=>⟨qnh h1 hu _,trivial⟩⟩
 |ro c=>
  have rd:(∀r,fz=true->¬refIs v r)->(match readT h c v with|some (t,b)=>(some (t,h,b,[]):Option (T×Hp×Bool×List (Nat×Path×Blk)))|none=>none)=some (t,h',b,rs)->∃G',Went w0 S0 w G G' h h' (λx=>x=K+k\/x=K+W+k)/\(∀r cs,h' r=.box cs->h r=.box cs)/\Done1 w G0 h0 fz K W k (.ro c) v u t rs G' h':=by
   intro hfz hs;cases h1:readT h c v with
   |none=>rw[h1]at hs;cases hs
   |some y=>obtain⟨t',b'⟩:=y;rw[h1]at hs;cases hs;exact⟨G,Went.refl I _,λ_ _ h=>h,λG' h' K1 J hl=>⟨qze I K0 hal hu h1 hb K1 (λe r=>hfz r e) hl,trivial⟩⟩
  cases v with
  |rf r q ver sub=>
   cases fz with
   |true=>
    simp only[qa7]at hs;cases h1:sink h c (.rf r q ver sub)with
    |none=>rw[h1]at hs;cases hs
    |some y=>obtain⟨t',hh,b'⟩:=y;rw[h1]at hs;cases hs;obtain⟨G1,W1,C1,O1⟩:=qqi I hf hu h1 hb;refine⟨G1,⟨W1.1,W1.2.1,W1.2.2.1.mono (λ_ h=>.inl h),W1.2.2.2⟩,λr cs=>qdi h1,λG' h' K1 J _=>⟨⟨?_,O1⟩,trivial⟩⟩;exact CellRep.moved (M:=roM G1.ro) (M':=roM (G'.forCall true K W).ro) t ⟨λ_=>trivial,λb ρ hb=>⟨.inl (K1.ro b hb).1,rfl⟩⟩ C1
   |false=>exact rd (λr hf=>by cases hf) (by simp only[qa7]at hs;exact hs)
  |_=>exact rd (λr _ hr=>hr.elim) (by simp only[qa7]at hs;exact hs)
 |mv c=>
  simp only[qa7]at hs;cases h1:sink h c v with
  |none=>rw[h1]at hs;cases hs
  |some y=>obtain⟨t',hh,b'⟩:=y;rw[h1]at hs;cases hs;exact sinkc rfl h1 rfl
 |ow c=>
  simp only[qa7]at hs;split at hs
  ·rename_i r q ver;cases h1:readT h c (.rf r q ver none)with
   |none=>rw[h1]at hs;cases hs
   |some y=>
    obtain⟨t',b'⟩:=y;rw[h1]at hs;cases hs;obtain⟨G1,W1,C1,H1⟩:=qyt (k:=K+k) (kx:=K+W+k) I K0 hal hu h1 hb;refine⟨G1,W1,λr' cs hr=>?_,λG' h' K1 J _=>⟨⟨qpm C1.1 hk (J.mono λ_ h=>.inl h),C1.2⟩,⟨K+W+k,Nat.le_refl _,Nat.lt_succ_self _,H1.kept (J.mono λ_ h=>.inr h),trivial⟩⟩⟩;by_cases e:r'=r;· subst e;rw[upd_same]at hr;cases hr
    · rw[upd_ne _ _ e]at hr;exact hr
  · cases hs
 |fn f=>
  obtain⟨rfl,rfl,rfl,rfl,rfl⟩:=qdu hs;obtain⟨cs,rfl,h2⟩:=hu;have h3:cs=#[]:=by
   obtain⟨l⟩:=cs;cases l with
   |nil=>rfl
   |cons _ _=>exact h2.elim
  subst h3;exact⟨G,Went.refl I _,λ_ _ h=>h,λG' h' K1 J _=>⟨⟨rfl,rfl⟩,trivial⟩⟩
 |ag l=>cases hs
 |bx l=>cases hs
theorem qnr{p:PD}{ps:List PD}{u:Value}{us:List Value}(hp:∀l,p≠.ag l):qcs (p::ps) (u::us)=owVal p u++qcs ps us:=by
 cases p with
 |ag l=>exact absurd rfl (hp l)
 |_=>rfl
theorem qkh:∀{ps:List PD}{vs:List AV}{us:List Value}{ts:List T}{h h':Hp}{b:Bool}{rs:List (Nat×Path×Blk)}{G:Gh}{k:Nat},Inv w0 S0 w G h->Keep w w G0 G h0 h->G.al=G0.al->k+ps.length<=W->(∀j,k<=j->j<W->∀b p,G.own b≠some (.tmp (K+j) p))->AVReps w G h us vs->qan fz h ps vs=some (ts,h',b,rs)->b=true->∃G',Went w0 S0 w G G' h h' (λx=>(K+k<=x/\x<K+k+ps.length)\/(K+W+k<=x/\x<K+W+k+ps.length))/\(∀r cs,h' r=.box cs->h r=.box cs)/\DoneL1 w G0 h0 fz K W k ps vs us ts rs G' h'
|[],[],us,ts,h,h',b,rs,G,k,I,_,_,_,_,hu,hs,_=>by
 cases hs;cases us with
 |nil=>exact⟨G,Went.refl I _,λ_ _ h=>h,λ_ _ _ _ _=>⟨trivial,trivial⟩⟩
 |cons _ _=>exact hu.elim
|p::ps,v::vs,us,ts,h,h',b,rs,G,k,I,K0,hal,hW,hf,hu,hs,hb=>by
 cases us with
 |nil=>exact hu.elim
 |cons u us=>
  simp only[qan]at hs;cases h1:qa7 fz h p v with
  |none=>rw[h1]at hs;cases hs
  |some x=>
   obtain⟨t,hh,b1,rs1⟩:=x;rw[h1]at hs;simp only at hs;cases h2:qan fz hh ps vs with
   |none=>rw[h2]at hs;cases hs
   |some y=>
    obtain⟨ts',h'',b2,rs2⟩:=y;rw[h2]at hs;cases hs;rw[Bool.and_eq_true]at hb;simp only[List.length_cons]at hW|-;have hp:∀l,p≠.ag l:=λl e=>by subst e;cases h1
    obtain⟨G1,W1,B1,D1⟩:=qki (W:=W) I K0 hal (by omega) (hf k (Nat.le_refl _) (by omega)) hu.1 h1 hb.1;obtain⟨G2,W2,B2,D2⟩:=qkh (k:=k+1) W1.1 (K0.trans W1.2.1) (W1.2.2.2.trans hal) (by omega) (λj h1 h2=>W1.2.2.1.fresh (by omega) (hf j (by omega) h2)) (W1.2.1.avs _ hu.2) h2 hb.2;refine⟨G2,W1.trans W2 (λx hx=>by omega) (λx hx=>by omega),λr cs hr=>B1 r cs (B2 r cs hr),λG' h' K1 J hl=>?_⟩;have hl1:fz=false->qbq h0 h' p v=true/\qbw h0 h' ps vs=true:=λe=>by have:=hl e;simp only[qbw,Bool.and_eq_true]at this;exact this
    obtain⟨R2,A2⟩:=D2 G' h' K1 (J.mono λx hx=>by simp only[List.length_cons];omega) (λe=>(hl1 e).2);obtain⟨R1,A1⟩:=D1 G' h' (W2.2.1.trans K1) ((W2.2.2.1.kept λx hx=>by omega).trans (J.mono λx hx=>by simp only[List.length_cons];omega)) (λe=>(hl1 e).1);refine⟨⟨R1,R2⟩,?_⟩;rw[qnr hp];exact RowsAway.append (by omega) (by simp only[List.length_cons];omega) A1 (A2.mono (by omega) (by simp only[List.length_cons];omega))
|[],_::_,_,_,_,_,_,_,_,_,_,_,_,_,_,_,hs,_=>by cases hs
|_::_,[],_,_,_,_,_,_,_,_,_,_,_,_,_,_,hs,_=>by cases hs
theorem qpx(I:Inv w0 S0 w G h)(K0:Keep w w G0 G h0 h)(hal:G.al=G0.al){k:Nat}(hk:k<W)(hf:∀b p,G.own b≠some (.tmp (K+k) p)){p:PD}{v:AV}{u:Value}(hu:AVRep w G h u v){t:T}{b:Bool}(hs:qaw fz h p v=some (t,h',b))(hb:b=true):∃G',Went w0 S0 w G G' h h' (λx=>x=K+k)/\(∀r cs,h' r=.box cs↔h r=.box cs)/\∀G2 h2,Keep w w G' G2 h' h2->Kept G' G2 (λx=>x=K+k)->(fz=false->qbq h0 h2 p v=true)->PRep1 w (G2.forCall fz K W) k p u t:=by
 cases p with
 |v c=>
  simp only[qaw]at hs;cases h1:scal c v with
  |none=>rw[h1]at hs;cases hs
  |some t'=>rw[h1]at hs;cases hs;exact⟨G,Went.refl I _,λ_ _=>Iff.rfl,λG' h' K1 J _=>qnh h1 hu _⟩
 |ro c=>
  have rd:(∀r,fz=true->¬refIs v r)->(match readT h c v with|some (t,b)=>(some (t,h,b):Option (T×Hp×Bool))|none=>none)=some (t,h',b)->∃G',Went w0 S0 w G G' h h' (λx=>x=K+k)/\(∀r cs,h' r=.box cs↔h r=.box cs)/\∀G2 h2,Keep w w G' G2 h' h2->Kept G' G2 (λx=>x=K+k)->(fz=false->qbq h0 h2 (.ro c) v=true)->PRep1 w (G2.forCall fz K W) k (.ro c) u t:=by
   intro hfz hs;cases h1:readT h c v with
   |none=>rw[h1]at hs;cases hs
   |some y=>obtain⟨t',b'⟩:=y;rw[h1]at hs;cases hs;exact⟨G,Went.refl I _,λ_ _=>Iff.rfl,λG' h' K1 J hl=>qze I K0 hal hu h1 hb K1 (λe r=>hfz r e) hl⟩
  cases v with
  |rf r q ver sub=>
   cases fz with
   |true=>cases hs
   |false=>exact rd (λr hf=>by cases hf) (by simp only[qaw]at hs;exact hs)
  |_=>exact rd (λr _ hr=>hr.elim) (by simp only[qaw]at hs;exact hs)
 |ow c=>obtain⟨G1,W1,C1,O1⟩:=qeh I hf hu hs hb;exact⟨G1,W1,λr cs=>⟨qdi hs,qi7 hs⟩,λG' h' K1 J _=>⟨qpm C1 hk J,O1⟩⟩
 |mv c=>cases hs
 |fn f=>cases hs
 |ag l=>cases hs
 |bx l=>cases hs
theorem qkb:∀{ps:List PD}{vs:List AV}{us:List Value}{ts:List T}{h h':Hp}{b:Bool}{G:Gh}{k:Nat},Inv w0 S0 w G h->Keep w w G0 G h0 h->G.al=G0.al->k+ps.length<=W->(∀j,k<=j->j<W->∀b p,G.own b≠some (.tmp (K+j) p))->AVReps w G h us vs->qav fz h ps vs=some (ts,h',b)->b=true->∃G',Went w0 S0 w G G' h h' (λx=>K+k<=x/\x<K+k+ps.length)/\(∀r cs,h' r=.box cs↔h r=.box cs)/\∀G2 h2,Keep w w G' G2 h' h2->Kept G' G2 (λx=>K+k<=x/\x<K+k+ps.length)->(fz=false->qbw h0 h2 ps vs=true)->PReps w (G2.forCall fz K W) k ps us ts
|[],[],us,ts,h,h',b,G,k,I,_,_,_,_,hu,hs,_=>by
 cases hs;cases us with
 |nil=>exact⟨G,Went.refl I _,λ_ _=>Iff.rfl,λ_ _ _ _ _=>trivial⟩
 |cons _ _=>exact hu.elim
|p::ps,v::vs,us,ts,h,h',b,G,k,I,K0,hal,hW,hf,hu,hs,hb=>by
 cases us with
 |nil=>exact hu.elim
 |cons u us=>
  simp only[qav]at hs;cases h1:qaw fz h p v with
  |none=>rw[h1]at hs;cases hs
  |some x=>
   obtain⟨t,hh,b1⟩:=x;rw[h1]at hs;simp only at hs;cases h2:qav fz hh ps vs with
   |none=>rw[h2]at hs;cases hs
   |some y=>
    obtain⟨ts',h'',b2⟩:=y;rw[h2]at hs;cases hs;rw[Bool.and_eq_true]at hb;simp only[List.length_cons]at hW|-;obtain⟨G1,W1,B1,D1⟩:=qpx (W:=W) I K0 hal (by omega) (hf k (Nat.le_refl _) (by omega)) hu.1 h1 hb.1;obtain⟨G2,W2,B2,D2⟩:=qkb (k:=k+1) W1.1 (K0.trans W1.2.1) (W1.2.2.2.trans hal) (by omega) (λj h1 h2=>W1.2.2.1.fresh (by omega) (hf j (by omega) h2)) (W1.2.1.avs _ hu.2) h2 hb.2;refine⟨G2,W1.trans W2 (λx hx=>by omega) (λx hx=>by omega),λr cs=>(B2 r cs).trans (B1 r cs),λG' h' K1 J hl=>?_⟩;have hl1:fz=false->qbq h0 h' p v=true/\qbw h0 h' ps vs=true:=λe=>by have:=hl e;simp only[qbw,Bool.and_eq_true]at this;exact this
    exact⟨D1 G' h' (W2.2.1.trans K1) ((W2.2.2.1.kept λx hx=>by omega).trans (J.mono λx hx=>by omega)) (λe=>(hl1 e).1),D2 G' h' K1 (J.mono λx hx=>by omega) (λe=>(hl1 e).2)⟩
|[],_::_,_,_,_,_,_,_,_,_,_,_,_,_,_,hs,_=>by cases hs
|_::_,[],_,_,_,_,_,_,_,_,_,_,_,_,_,hs,_=>by cases hs
end
def qx1(G0:Gh)(h0:Hp)(x:Nat×List PD×List AV)(l:List PD)(u:Value):Prop:=x.2.1=l/\G0.al x.1/\h0 x.1=.box x.2.2/\G0.φ x.1=u/\x.2.2.length=l.length
def BoxesAway(G0:Gh)(h0:Hp):List (Nat×List PD×List AV)->List (List PD)->List Value->Prop
|[],[],[]=>True
|x::xs,l::ls,u::us=>qx1 G0 h0 x l u/\BoxesAway G0 h0 xs ls us
|_,_,_=>False
def rng(K W k n x:Nat):Prop:=(K+k<=x/\x<K+k+n)\/(K+W+k<=x/\x<K+W+k+n)
def Done(w:World)(G0:Gh)(h0:Hp)(fz:Bool)(K W k:Nat)(p:PD)(v:AV)(u:Value)(t:T)(rs:List (Nat×Path×Blk))(G:Gh)(h:Hp):Prop:=∀G' h',Keep w w G G' h h'->Kept G G' (rng K W k (wide p))->(fz=false->qad h0 h' [p] [v]=true)->PRep w (G'.forCall fz K W) k p u t/\RowsAway w G0 h0 G' (K+W+k) (K+W+k+wide p) rs (owVal p u)
def DoneL(w:World)(G0:Gh)(h0:Hp)(fz:Bool)(K W k:Nat)(ps:List PD)(vs:List AV)(us:List Value)(ts:List T)(rs:List (Nat×Path×Blk))(G:Gh)(h:Hp):Prop:=∀G' h',Keep w w G G' h h'->Kept G G' (rng K W k (ps.map wide).sum)->(fz=false->qad h0 h' ps vs=true)->PRepL w (G'.forCall fz K W) k ps us ts/\RowsAway w G0 h0 G' (K+W+k) (K+W+k+(ps.map wide).sum) rs (qg0 ps us)
theorem qfg{h0 h:Hp}{p:PD}{ps:List PD}{v:AV}{vs:List AV}:qad h0 h (p::ps) (v::vs)=(qad h0 h [p] [v]&&qad h0 h ps vs):=by cases p<;>cases v<;>simp[qad]
section
variable{w0 w w':World}{S0:Nat->Prop}{G0 G G':Gh}{h0 h h':Hp}{fz:Bool}{K W:Nat}
def qab(fz:Bool)(h:Hp)(p:PD)(v:AV):Option (T×Hp×Bool×List (Nat×Path×Blk)×List (Nat×List PD×List AV)):=
 match p with
 |.ag l=>match v with
  |.ag cs=>match qan fz h l cs with|some (ts,h,b,rs)=>some (.st ts,h,b,rs,[])|none=>none
  |_=>none
 |.bx l=>match v with
  |.bp r 0=>match h r with
   |.box cs=>match qav fz h l cs with|some (ts,h,b)=>some (.st ts,upd h r .dead,b,[],[(r,l,cs)])|none=>none
   |_=>none
  |_=>none
 |p=>match qa7 fz h p v with|some (t,h,b,rs)=>some (t,h,b,rs,[])|none=>none
theorem qoo{p:PD}{ps:List PD}{v:AV}{vs:List AV}{o:Out}(hs:qa9 fz h (p::ps) (v::vs)=some o):∃t h1 b rs bx o',qab fz h p v=some (t,h1,b,rs,bx)/\qa9 fz h1 ps vs=some o'/\o=⟨t::o'.ts,o'.h,b&&o'.b,rs++o'.rows,bx++o'.boxes⟩:=by
 have flat:(match qa7 fz h p v with
 |some (t,h,b,rs)=>match qa9 fz h ps vs with|some o=>some (⟨t::o.ts,o.h,b&&o.b,rs++o.rows,o.boxes⟩:Out)|none=>none
 |none=>none)=some o->∃t h1 b rs o',qa7 fz h p v=some (t,h1,b,rs)/\qa9 fz h1 ps vs=some o'/\o=⟨t::o'.ts,o'.h,b&&o'.b,rs++o'.rows,o'.boxes⟩:=by
  intro hs;cases h1:qa7 fz h p v with
  |none=>rw[h1]at hs;cases hs
  |some x=>
   obtain⟨t,hh,b,rs⟩:=x;rw[h1]at hs;simp only at hs;cases h2:qa9 fz hh ps vs with
   |none=>rw[h2]at hs;cases hs
   |some o'=>rw[h2]at hs;cases hs;exact⟨t,hh,b,rs,o',rfl,h2,rfl⟩
 have done:(∃t h1 b rs o',qa7 fz h p v=some (t,h1,b,rs)/\qa9 fz h1 ps vs=some o'/\o=⟨t::o'.ts,o'.h,b&&o'.b,rs++o'.rows,o'.boxes⟩)->(∀t h1 b rs,qa7 fz h p v=some (t,h1,b,rs)->qab fz h p v=some (t,h1,b,rs,[]))->∃t h1 b rs bx o',qab fz h p v=some (t,h1,b,rs,bx)/\qa9 fz h1 ps vs=some o'/\o=⟨t::o'.ts,o'.h,b&&o'.b,rs++o'.rows,bx++o'.boxes⟩:=by rintro⟨t,h1,b,rs,o',g1,g2,g3⟩ hT;exact⟨t,h1,b,rs,[],o',hT _ _ _ _ g1,g2,g3⟩
 cases p with
 |v c=>exact done (flat (by simp only[qa9]at hs;exact hs)) (λt h1 b rs e=>by simp only[qab,e])
 |ro c=>exact done (flat (by simp only[qa9]at hs;exact hs)) (λt h1 b rs e=>by simp only[qab,e])
 |ow c=>exact done (flat (by simp only[qa9]at hs;exact hs)) (λt h1 b rs e=>by simp only[qab,e])
 |mv c=>exact done (flat (by simp only[qa9]at hs;exact hs)) (λt h1 b rs e=>by simp only[qab,e])
 |fn f=>exact done (flat (by simp only[qa9]at hs;exact hs)) (λt h1 b rs e=>by simp only[qab,e])
 |ag l=>
  simp only[qa9]at hs;cases v with
  |ag cs=>
   simp only at hs;cases h1:qan fz h l cs with
   |none=>rw[h1]at hs;cases hs
   |some x=>
    obtain⟨ts,hh,b,rs⟩:=x;rw[h1]at hs;simp only at hs;cases h2:qa9 fz hh ps vs with
    |none=>rw[h2]at hs;cases hs
    |some o'=>rw[h2]at hs;cases hs;exact⟨.st ts,hh,b,rs,[],o',by simp only[qab,h1],h2,rfl⟩
  |_=>cases hs
 |bx l=>
  simp only[qa9]at hs;split at hs
  ·rename_i r;cases h0:h r with
   |dead=>rw[h0]at hs;cases hs
   |row _ _ _ _ _=>rw[h0]at hs;cases hs
   |box cs=>
    rw[h0]at hs;simp only at hs;cases h1:qav fz h l cs with
    |none=>rw[h1]at hs;cases hs
    |some x=>
     obtain⟨ts,hh,b⟩:=x;rw[h1]at hs;simp only at hs;cases h2:qa9 fz (upd hh r .dead) ps vs with
     |none=>rw[h2]at hs;cases hs
     |some o'=>rw[h2]at hs;cases hs;exact⟨.st ts,upd hh r .dead,b,[],[(r,l,cs)],o',by simp only[qab,h0,h1],h2,rfl⟩
  · cases hs
theorem qkc:∀{ps:List PD}{vs:List AV}{h h':Hp}{ts:List T}{b:Bool},qav fz h ps vs=some (ts,h',b)->vs.length=ps.length
|[],[],_,_,_,_,_=>rfl
|p::ps,v::vs,h,h',ts,b,hs=>by
 simp only[qav]at hs;cases h1:qaw fz h p v with
 |none=>rw[h1]at hs;cases hs
 |some x=>
  obtain⟨t,hh,b1⟩:=x;rw[h1]at hs;simp only at hs;cases h2:qav fz hh ps vs with
  |none=>rw[h2]at hs;cases hs
  |some y=>obtain⟨ts',h'',b2⟩:=y;simp[qkc h2]
|[],_::_,_,_,_,_,hs=>by cases hs
|_::_,[],_,_,_,_,hs=>by cases hs
theorem qpz(I:Inv w0 S0 w G h)(K0:Keep w w G0 G h0 h)(hal:G.al=G0.al)(hbx:∀r cs,h r=.box cs->h0 r=.box cs){k:Nat}{p:PD}(hk:k+wide p<=W)(hf:∀j,k<=j->j<W->∀b p,G.own b≠some (.tmp (K+j) p)){v:AV}{u:Value}(hu:AVRep w G h u v){t:T}{b:Bool}{rs:List (Nat×Path×Blk)}{bx:List (Nat×List PD×List AV)}(hs:qab fz h p v=some (t,h',b,rs,bx))(hb:b=true):∃G',Went w0 S0 w G G' h h' (rng K W k (wide p))/\(∀r cs,h' r=.box cs->h r=.box cs)/\Done w G0 h0 fz K W k p v u t rs G' h'/\BoxesAway G0 h0 bx (bxPs [p]) (bxUs [p] [u]):=by
 have flat:∀{q:PD},p=q->(∀l,q≠.ag l)->(∀l,q≠.bx l)->(match qa7 fz h q v with|some (t,h,b,rs)=>some (t,h,b,rs,[])|none=>none)=some (t,h',b,rs,bx)->wide q=1->∃G',Went w0 S0 w G G' h h' (rng K W k 1)/\(∀r cs,h' r=.box cs->h r=.box cs)/\(∀G2 h2,Keep w w G' G2 h' h2->Kept G' G2 (rng K W k 1)->(fz=false->qbq h0 h2 q v=true)->PRep1 w (G2.forCall fz K W) k q u t/\RowsAway w G0 h0 G2 (K+W+k) (K+W+k+1) rs (owVal q u))/\bx=[]:=by
  intro q hq _ _ hs hw;subst hq;cases h1:qa7 fz h p v with
  |none=>rw[h1]at hs;cases hs
  |some x=>obtain⟨t',hh,b',rs'⟩:=x;rw[h1]at hs;cases hs;obtain⟨G1,W1,B1,D1⟩:=qki (W:=W) I K0 hal (by omega) (hf k (Nat.le_refl _) (by omega)) hu h1 hb;exact⟨G1,⟨W1.1,W1.2.1,W1.2.2.1.mono (λx hx=>by unfold rng;omega),W1.2.2.2⟩,B1,λG2 h2 K1 J hl=>D1 G2 h2 K1 (J.mono λx hx=>by unfold rng;omega) hl,rfl⟩
 cases p with
 |v c=>obtain⟨G1,W1,B1,D1,rfl⟩:=flat (q:=.v c) rfl (by simp) (by simp) hs rfl;exact⟨G1,W1,B1,λG2 h2 K1 J hl=>D1 G2 h2 K1 J (λe=>by simpa[qad]using hl e),trivial⟩
 |ro c=>obtain⟨G1,W1,B1,D1,rfl⟩:=flat (q:=.ro c) rfl (by simp) (by simp) hs rfl;exact⟨G1,W1,B1,λG2 h2 K1 J hl=>D1 G2 h2 K1 J (λe=>by simpa[qad]using hl e),trivial⟩
 |ow c=>obtain⟨G1,W1,B1,D1,rfl⟩:=flat (q:=.ow c) rfl (by simp) (by simp) hs rfl;exact⟨G1,W1,B1,λG2 h2 K1 J hl=>D1 G2 h2 K1 J (λe=>by simpa[qad]using hl e),trivial⟩
 |mv c=>obtain⟨G1,W1,B1,D1,rfl⟩:=flat (q:=.mv c) rfl (by simp) (by simp) hs rfl;exact⟨G1,W1,B1,λG2 h2 K1 J hl=>D1 G2 h2 K1 J (λe=>by simpa[qad]using hl e),trivial⟩
 |fn f=>obtain⟨G1,W1,B1,D1,rfl⟩:=flat (q:=.fn f) rfl (by simp) (by simp) hs rfl;exact⟨G1,W1,B1,λG2 h2 K1 J hl=>D1 G2 h2 K1 J (λe=>by simpa[qad]using hl e),trivial⟩
 |ag l=>
  simp only[qab]at hs;cases v with
  |ag cs=>
   simp only at hs;cases h1:qan fz h l cs with
   |none=>rw[h1]at hs;cases hs
   |some x=>obtain⟨ts,hh,b',rs'⟩:=x;rw[h1]at hs;cases hs;obtain⟨us,rfl,hu⟩:=hu;obtain⟨G1,W1,B1,D1⟩:=qkh I K0 hal hk hf hu h1 hb;refine⟨G1,W1,B1,λG2 h2 K1 J hl=>?_,trivial⟩;obtain⟨R,A⟩:=D1 G2 h2 K1 J (λe=>by simpa[qad]using hl e);exact⟨⟨us,ts,rfl,rfl,R⟩,A⟩
  |_=>cases hs
 |bx l=>
  simp only[qab]at hs;split at hs
  ·rename_i r;cases hr:h r with
   |dead=>rw[hr]at hs;cases hs
   |row _ _ _ _ _=>rw[hr]at hs;cases hs
   |box cs=>
    rw[hr]at hs;simp only at hs;cases h1:qav fz h l cs with
    |none=>rw[h1]at hs;cases hs
    |some x=>
     obtain⟨ts,hh,b'⟩:=x;rw[h1]at hs;cases hs;have R:=I.rep r;rw[hr]at R;obtain⟨_,b0,c,ty,fz0,e1,e2,e3,e4,_⟩:=R;simp only[wide]at hk|-;obtain⟨G1,W1,B1,D1⟩:=qkb (K:=K) (W:=W) (k:=k+1) I K0 hal (by omega) (λj h1 h2=>hf j (by omega) h2) e4 h1 hb;have hbox1:hh r=.box cs:=(B1 r cs).2 hr;obtain⟨g1,g2,g3⟩:=hu;rw[hr]at g3;obtain⟨b1,g3,rfl⟩:=g3;rw[e1]at g3;cases g3;have ht:=(W1.2.1.al r g2).2;rw[hr,hbox1]at ht;have R1:=W1.1.rep r;rw[hbox1]at R1;obtain⟨_,b2,c2,ty2,fz2,k1,k2,k3,_⟩:=R1;rw[show G1.φ r=G.φ r from ht,e1]at k1;cases k1;obtain⟨I2,K2,T2⟩:=qr5 W1.1 (K:=K+k) hbox1;have W2:Went w0 S0 w G1 (G1.rel (killF r [] (K+k))) hh (upd hh r .dead) (λx=>x=K+k):=⟨I2,K2,T2.out rfl,rfl⟩;have h0r:h0 r=.box cs:=hbx r cs hr;have ha0:G0.al r:=by rw[<-hal];exact g2
     have t0:=(K0.al r ha0).2;rw[h0r,hr]at t0;refine⟨_,W1.trans W2 (λx hx=>by unfold rng;omega) (λx hx=>by unfold rng;omega),λr' cs' hr'=>?_,λG2 h2 K1 J hl=>?_,⟨⟨rfl,ha0,h0r,?_,?_⟩,trivial⟩⟩
     ·by_cases e:r'=r;· subst e;rw[upd_same]at hr';cases hr'
      · rw[upd_ne _ _ e]at hr';exact(B1 r' cs').1 hr'
     · refine⟨⟨b0,c,ty,fz0,ts,rfl,rfl,qjv (k:=k) (by omega) (J (K+k) (by unfold rng;simp only[wide];omega) b0 [] (qmn (p:=[]) (s:=[]) k2)),e3,?_⟩,trivial⟩;refine D1 G2 h2 (K2.trans K1) ((W2.2.2.1.kept λx hx=>by omega).trans (J.mono λx hx=>by unfold rng;simp only[wide];omega)) (λe=>?_);have:=hl e;simp only[qad,h0r,Bool.and_true]at this;exact this
     · exact t0.symm.trans e1
     · exact qkc h1
  · cases hs
theorem BoxesAway.append:∀{xs xs':List (Nat×List PD×List AV)}{ls ls':List (List PD)}{us us':List Value},BoxesAway G0 h0 xs ls us->BoxesAway G0 h0 xs' ls' us'->BoxesAway G0 h0 (xs++xs') (ls++ls') (us++us')
|[],_,[],_,[],_,_,H'=>H'
|_::_,_,_::_,_,_::_,_,H,H'=>⟨H.1,BoxesAway.append H.2 H'⟩
|[],_,[],_,_::_,_,H,_=>H.elim
|[],_,_::_,_,_,_,H,_=>H.elim
|_::_,_,[],_,_,_,H,_=>H.elim
|_::_,_,_::_,_,[],_,H,_=>H.elim
theorem qok(p:PD)(ps:List PD):bxPs (p::ps)=bxPs [p]++bxPs ps:=by cases p<;>rfl
theorem qwf(p:PD)(ps:List PD)(u:Value)(us:List Value):bxUs (p::ps) (u::us)=bxUs [p] [u]++bxUs ps us:=by cases p<;>rfl
theorem qkg:∀{ps:List PD}{vs:List AV}{us:List Value}{o:Out}{h:Hp}{G:Gh}{k:Nat},Inv w0 S0 w G h->Keep w w G0 G h0 h->G.al=G0.al->(∀r cs,h r=.box cs->h0 r=.box cs)->k+(ps.map wide).sum<=W->(∀j,k<=j->j<W->∀b p,G.own b≠some (.tmp (K+j) p))->AVReps w G h us vs->qa9 fz h ps vs=some o->o.b=true->∃G',Went w0 S0 w G G' h o.h (rng K W k (ps.map wide).sum)/\(∀r cs,o.h r=.box cs->h r=.box cs)/\DoneL w G0 h0 fz K W k ps vs us o.ts o.rows G' o.h/\BoxesAway G0 h0 o.boxes (bxPs ps) (bxUs ps us)
|[],[],us,o,h,G,k,I,_,_,_,_,_,hu,hs,_=>by
 cases hs;cases us with
 |nil=>exact⟨G,Went.refl I _,λ_ _ h=>h,λ_ _ _ _ _=>⟨trivial,trivial⟩,trivial⟩
 |cons _ _=>exact hu.elim
|p::ps,v::vs,us,o,h,G,k,I,K0,hal,hbx,hW,hf,hu,hs,hb=>by
 cases us with
 |nil=>exact hu.elim
 |cons u us=>
  obtain⟨t,h1,b1,rs,bx,o',g1,g2,rfl⟩:=qoo hs;simp only[Bool.and_eq_true]at hb;simp only[List.map_cons,List.sum_cons]at hW|-;obtain⟨G1,W1,B1,D1,X1⟩:=qpz (W:=W) I K0 hal hbx (by omega) hf hu.1 g1 hb.1;obtain⟨G2,W2,B2,D2,X2⟩:=qkg (k:=k+wide p) W1.1 (K0.trans W1.2.1) (W1.2.2.2.trans hal) (λr cs hr=>hbx r cs (B1 r cs hr)) (by omega) (λj h1 h2=>W1.2.2.1.fresh (by unfold rng;omega) (hf j (by omega) h2)) (W1.2.1.avs _ hu.2) g2 hb.2;refine⟨G2,W1.trans W2 (λx hx=>by unfold rng at hx|-;omega) (λx hx=>by unfold rng at hx|-;omega),λr cs hr=>B1 r cs (B2 r cs hr),λG' h' K1 J hl=>?_,?_⟩
  ·have hl1:fz=false->qad h0 h' [p] [v]=true/\qad h0 h' ps vs=true:=λe=>by have:=hl e;rw[qfg,Bool.and_eq_true]at this;exact this
   obtain⟨R2,A2⟩:=D2 G' h' K1 (J.mono λx hx=>by simp only[List.map_cons,List.sum_cons];unfold rng at hx|-;omega) (λe=>(hl1 e).2);obtain⟨R1,A1⟩:=D1 G' h' (W2.2.1.trans K1) ((W2.2.2.1.kept λx hx=>by unfold rng at hx|-;omega).trans (J.mono λx hx=>by simp only[List.map_cons,List.sum_cons];unfold rng at hx|-;omega)) (λe=>(hl1 e).1);refine⟨⟨R1,R2⟩,?_⟩;simp only[List.map_cons,List.sum_cons];exact RowsAway.append (by omega) (by omega) A1 (A2.mono (by omega) (by omega))
  · rw[qok,qwf];exact X1.append X2
|[],_::_,_,_,_,_,_,_,_,_,_,_,_,_,hs,_=>by cases hs
|p::_,[],_,_,_,_,_,_,_,_,_,_,_,_,hs,_=>by cases p<;>cases hs
theorem qpl(I:Inv w0 S0 w G h)(fz:Bool)(K W:Nat):Inv w (λb=>∃x,(G.forCall fz K W).own b=some x) w (G.forCall fz K W) noBlk:=by
 refine⟨rfl,rfl,rfl,Nat.le_refl _,λ_ _ _=>rfl,λb x hx=>.inl ⟨x,hx⟩,λb x hx=>?_,λb hb=>?_,λb hb=>?_,λb hb=>.inl hb,λr b p hb=>?_⟩;· obtain⟨k,p,_,h1,_⟩:=qbc hx;exact I.cells b _ h1
 ·cases e:(G.forCall fz K W).own b with
  |none=>rfl
  |some x=>
   obtain⟨k,p,_,h1,_⟩:=qbc e;rcases hb with hb|⟨_,r,q,hb⟩
   · rw[I.roOwn b hb]at h1;cases h1
   · rw[hb]at h1;cases h1
 ·rcases hb with hb|⟨_,r,q,hb⟩
  · exact I.roLt b hb
  · exact I.ownLt hb
 · obtain⟨k,q,_,_,h1⟩:=qbc hb;cases h1
end
def Gh.after(G Gc:Gh)(H:Own)(fz:Bool)(K:Nat):Gh:=
 {
  φ:=G.φ,kv:=G.kv,al:=G.al
  own:=λb=>match Gc.own b with
  |some (.tmp k p)=>some (.tmp (K+k) p)
  |_=>match H b with|some _=>none|none=>G.own b
  ro:=λb=>G.ro b\/(fz=true/\Gc.ro b)}
section
variable{w0 w w':World}{S0:Nat->Prop}{G0 G G' Gc:Gh}{h0 h h':Hp}{fz:Bool}{K K2 W:Nat}
theorem qkj{H:Own}{b k:Nat}{p:Path}(hb:Gc.own b=some (.tmp k p)):(G.after Gc H fz K2).own b=some (.tmp (K2+k) p):=by simp only[Gh.after,hb]
theorem qww{H:Own}{b:Nat}(h1:Gc.own b=none)(h2:H b=none):(G.after Gc H fz K2).own b=G.own b:=by simp only[Gh.after,h1,h2]
theorem qf9{H:Own}{b:Nat}{x:Lab}(hb:(G.after Gc H fz K2).own b=some x):(∃k p,Gc.own b=some (.tmp k p)/\x=.tmp (K2+k) p)\/((∀k p,Gc.own b≠some (.tmp k p))/\H b=none/\G.own b=some x):=by
 simp only[Gh.after]at hb;have old:(∀k p,Gc.own b≠some (.tmp k p))->(match H b with|some _=>none|none=>G.own b)=some x->(∃k p,Gc.own b=some (.tmp k p)/\x=.tmp (K2+k) p)\/((∀k p,Gc.own b≠some (.tmp k p))/\H b=none/\G.own b=some x):=by
  intro hn hb;cases e2:H b with
  |some y=>rw[e2]at hb;cases hb
  |none=>rw[e2]at hb;exact .inr ⟨hn,rfl,hb⟩
 have hc:Gc.own b=none\/∃y,Gc.own b=some y:=by cases Gc.own b<;>simp
 rcases hc with e|⟨y,e⟩
 · rw[e]at hb;exact old (λk p=>by rw[e];simp) hb
 ·cases y with
  |tmp k p=>rw[e]at hb;cases hb;exact .inl ⟨k,p,e,rfl⟩
  |blk r q=>rw[e]at hb;exact old (λk p=>by rw[e];simp) hb
theorem qwx(I:Inv w0 S0 w G h)(Ic:Inv w (λb=>∃x,(G.forCall fz K W).own b=some x) w' Gc noBlk)(hro:∀b,Gc.ro b->(G.forCall fz K W).ro b\/(∃x,(G.forCall fz K W).own b=some x)\/w.heap.size<=b)(hroc:∀b,(G.forCall fz K W).ro b->Gc.ro b):Inv w0 S0 w' (G.after Gc (G.forCall fz K W).own fz K2) h/\Keep w w' G (G.after Gc (G.forCall fz K W).own fz K2) h h/\∀b x,G.own b=some x->(G.forCall fz K W).own b=none->(G.after Gc (G.forCall fz K W).own fz K2).own b=some x/\w'.heap[b]? =w.heap[b]? :=by
 have hand:∀b x,(G.forCall fz K W).own b=some x->∃y,G.own b=some y:=λb x hx=>by obtain⟨k,p,_,h1,_⟩:=qbc hx;exact⟨_,h1⟩
 have cnone:∀b,(G.forCall fz K W).own b=none->b<w.heap.size->Gc.own b=none:=by
  intro b h1 h2;cases e:Gc.own b with
  |none=>rfl
  |some x=>
   rcases Ic.mine b x e with⟨y,hy⟩|hlt
   · rw[h1]at hy;cases hy
   · omega
 have hsame:∀b,(G.forCall fz K W).own b=none->b<w.heap.size->w'.heap[b]? =w.heap[b]? :=λb h1 h2=>Ic.same b h2 (λ⟨x,hx⟩=>by rw[h1]at hx;cases hx);have rest:∀b x,G.own b=some x->(G.forCall fz K W).own b=none->(G.after Gc (G.forCall fz K W).own fz K2).own b=some x/\w'.heap[b]? =w.heap[b]? :=by intro b x hx hn;have hlt:=I.ownLt hx;exact⟨by rw[qww (cnone b hn hlt) hn];exact hx,hsame b hn hlt⟩
 have roNone:∀b,G.ro b->(G.forCall fz K W).own b=none:=λb hb=>by
  cases e:(G.forCall fz K W).own b with
  |none=>rfl
  |some x=>obtain⟨y,hy⟩:=hand b x e;rw[I.roOwn b hb]at hy;cases hy
 have blkNone:∀b r p,G.own b=some (.blk r p)->(G.forCall fz K W).own b=none:=λb r p hb=>by
  cases e:(G.forCall fz K W).own b with
  |none=>rfl
  |some x=>obtain⟨k,q,_,h1,_⟩:=qbc e;rw[hb]at h1;cases h1
 have K1:Keep w w' G (G.after Gc (G.forCall fz K W).own fz K2) h h:=by
  refine⟨λb hb=>⟨.inl hb,hsame b (roNone b hb) (I.roLt b hb)⟩,rfl,λr hr=>⟨hr,?_⟩⟩;cases h r with
  |dead=>trivial
  |box _=>rfl
  |row m cs l v e=>exact⟨rfl,rfl,rfl,.inl ⟨rfl,rfl,λb p hb=>rest b _ hb (blkNone b r p hb)⟩⟩
 have blkBack:∀b r p,(G.after Gc (G.forCall fz K W).own fz K2).own b=some (.blk r p)->G.own b=some (.blk r p):=by
  intro b r p hb;rcases qf9 hb with⟨k,q,_,h1⟩|⟨_,_,h1⟩
  · cases h1
  · exact h1
 refine⟨⟨Ic.os.trans I.os,Ic.tape.trans I.tape,Ic.output.trans I.output,Nat.le_trans I.size Ic.size,λb hb hs=>?_,λb x hx=>?_,λb x hx=>?_,λb hb=>?_,λb hb=>?_,λb hb=>?_,λr=>?_⟩,K1,rest⟩
 ·have hn:(G.forCall fz K W).own b=none:=by
   cases e:(G.forCall fz K W).own b with
   |none=>rfl
   |some x=>
    obtain⟨y,hy⟩:=hand b x e;rcases I.mine b y hy with h1|h1
    · exact absurd h1 hs
    · omega
  exact(hsame b hn (Nat.lt_of_lt_of_le hb I.size)).trans (I.same b hb hs)
 ·rcases qf9 hx with⟨k,q,h1,_⟩|⟨_,_,h1⟩
  ·rcases Ic.mine b _ h1 with⟨y,hy⟩|h2
   · obtain⟨z,hz⟩:=hand b y hy;exact I.mine b z hz
   · exact .inr (Nat.le_trans I.size h2)
  · exact I.mine b x h1
 ·rcases qf9 hx with⟨k,q,h1,_⟩|⟨_,h2,h1⟩
  · exact Ic.cells b _ h1
  · obtain⟨c,ty,fz',g1,g2⟩:=I.cells b x h1;exact⟨c,ty,fz',(hsame b h2 (I.ownLt h1)).trans g1,g2⟩
 ·cases e:(G.after Gc (G.forCall fz K W).own fz K2).own b with
  |none=>rfl
  |some x=>
   rcases qf9 e with⟨k,q,h1,_⟩|⟨_,h2,h1⟩
   ·rcases hb with hb|⟨_,hb⟩
    · have:=Ic.roOwn b (hroc b (.inl hb));rw[h1]at this;cases this
    · rw[Ic.roOwn b hb]at h1;cases h1
   ·rcases hb with hb|⟨hf,hb⟩
    · rw[I.roOwn b hb]at h1;cases h1
    ·subst hf;rcases hro b hb with h3|⟨y,hy⟩|h3
     ·rcases h3 with h3|⟨h3,_⟩
      · rw[I.roOwn b h3]at h1;cases h1
      · cases h3
     · rw[h2]at hy;cases hy
     · have:=I.ownLt h1;omega
 ·rcases hb with hb|⟨_,hb⟩
  · exact Nat.lt_of_lt_of_le (I.roLt b hb) Ic.size
  · exact Ic.roLt b hb
 ·rcases hb with hb|⟨hf,hb⟩
  · exact I.roIn b hb
  ·subst hf;rcases hro b hb with h3|⟨y,hy⟩|h3
   ·rcases h3 with h3|⟨h3,_⟩
    · exact I.roIn b h3
    · cases h3
   · obtain⟨z,hz⟩:=hand b y hy;exact .inr (I.mine b z hz)
   · exact .inr (.inr (Nat.le_trans I.size h3))
 ·have R:=I.rep r;cases e:h r with
  |dead=>rw[e]at R;exactλb p hb=>R b p (blkBack b r p hb)
  |box cs=>rw[e]at R;obtain⟨ha,b,c,ty,fz',g1,g2,g3,g4,g5⟩:=R;obtain⟨k1,k2⟩:=rest b _ g2 (blkNone b r [] g2);exact⟨ha,b,c,ty,fz',g1,k1,k2.trans g3,K1.avs cs g4,g5⟩
  |row m cs l v z=>rw[e]at R;obtain⟨ha,g1,g2⟩:=R;exact⟨ha,RowRep.moved (M:=G.own.m r) (π:=[]) ⟨λhf=>False.elim hf,λb ρ hb=>rest b _ hb (blkNone b r _ hb)⟩ g1,g2⟩
end
def Mixs(w:World)(G0:Gh)(h0:Hp)(w':World)(G:Gh)(h:Hp):List Value->List AV->Prop
|[],[]=>True
|u::us,v::vs=>(AVRep w G0 h0 u v\/AVRep w' G h u v)/\Mixs w G0 h0 w' G h us vs
|_,_=>False
structure Back(w0:World)(S0:Nat->Prop)(w w':World)(G0:Gh)(h0:Hp)(A:Nat->Prop)(G:Gh)(h:Hp):Prop where
 x:InvX w0 S0 w' G h
 kp:∀r,G0.al r->Turn w w' G0 G r (h0 r) (h r)
 al:∀r,G.al r->G0.al r\/A r
 mono:∀r,G0.al r->G.al r
 ro:∀b,G0.ro b->G.ro b/\w'.heap[b]? =w.heap[b]?
 kv:G.kv=G0.kv
 new:∀r,A r->¬G0.al r
 box:∀r cs,h r=.box cs->∃b c ty fz,G.φ r=.pointer (some ⟨b,0,none⟩)/\w'.heap[b]? =some (.cells c ty fz)/\Mixs w G0 h0 w' (G.on A) h c.toList cs
section
variable{w0 w w':World}{S0:Nat->Prop}{G0 G G' Gc:Gh}{h0 h h':Hp}{fz:Bool}{K K2 W:Nat}{A A' N L:Nat->Prop}
theorem Mixs.mono(H:∀u v,AVRep w' G h u v->AVRep w' G' h' u v):∀{us:List Value}{vs:List AV},Mixs w G0 h0 w' G h us vs->Mixs w G0 h0 w' G' h' us vs
|[],[],_=>trivial
|u::us,v::vs,M=>⟨M.1.imp id (H u v),Mixs.mono H M.2⟩
|[],_::_,M=>M.elim
|_::_,[],M=>M.elim
theorem Mixs.avs(K:Keep w w' G0 G h0 h):∀{us:List Value}{vs:List AV},Mixs w G0 h0 w' G h us vs->AVReps w' G h us vs
|[],[],_=>trivial
|u::us,v::vs,M=>⟨M.1.elim (K.av v) id,Mixs.avs K M.2⟩
|[],_::_,M=>M.elim
|_::_,[],M=>M.elim
theorem AVReps.mixs:∀{us:List Value}{vs:List AV},AVReps w' G h us vs->Mixs w G0 h0 w' G h us vs
|[],[],_=>trivial
|_::_,_::_,M=>⟨.inr M.1,AVReps.mixs M.2⟩
|[],_::_,M=>M.elim
|_::_,[],M=>M.elim
theorem AVReps.mixs0:∀{us:List Value}{vs:List AV},AVReps w G0 h0 us vs->Mixs w G0 h0 w' G h us vs
|[],[],_=>trivial
|_::_,_::_,M=>⟨.inl M.1,AVReps.mixs0 M.2⟩
|[],_::_,M=>M.elim
|_::_,[],M=>M.elim
theorem Back.keep(B:Back w0 S0 w w' G0 h0 A G h):Keep w w' G0 G h0 h:=⟨B.ro,B.kv,λr hr=>⟨B.mono r hr,B.kp r hr⟩⟩
theorem Back.inv(B:Back w0 S0 w w' G0 h0 A G h):Inv w0 S0 w' G h:=B.x.inv λr cs _ e=>by obtain⟨b,c,ty,fz,g1,g2,g3⟩:=B.box r cs e;exact⟨b,c,ty,fz,g1,g2,(g3.mono λu v hv=>(Gh.onAll w' G h A).av v hv).avs B.keep⟩
theorem Back.step(B:Back w0 S0 w w' G0 h0 A G h)(X:InvX w0 S0 w' G' h')(J:Inst G G' h h' N L)(hA:∀r,A r->A' r)(hAN:∀r,A r->¬N r)(hN:∀r,N r->G'.al r->G0.al r\/A' r)(hnew:∀r,A' r->¬G0.al r)(ht:∀r,N r->G0.al r->Turn w w' G0 G' r (h0 r) (h' r))(hb:∀r cs,N r->h' r=.box cs->∃b c ty fz,G'.φ r=.pointer (some ⟨b,0,none⟩)/\w'.heap[b]? =some (.cells c ty fz)/\Mixs w G0 h0 w' (G'.on A') h' c.toList cs):Back w0 S0 w w' G0 h0 A' G' h':=by
 have up:∀u v,AVRep w' (G.on A) h u v->AVRep w' (G'.on A') h' u v:=λu v hv=>(Gh.onMono w' G' h' hA).av v ((J.keepOn w' hAN).av v hv);refine⟨X,λr hr=>?_,λr hr=>?_,λr hr=>J.al r (B.mono r hr),λb hb=>?_,J.kv.trans B.kv,hnew,λr cs e=>?_⟩
 ·by_cases hn:N r;· exact ht r hn hr
  ·obtain⟨h1,h2,h3⟩:=J.stay r hn;have:=B.kp r hr;rw[h1];cases e1:h0 r<;>cases e2:h r<;>rw[e1,e2]at this<;>first|trivial|exact this.elim|skip
   · exact h2.trans this
   · obtain⟨g1,g2,g3,g4⟩:=this;refine⟨g1,g2,h2.trans g3,g4.imp (λ⟨a1,a2,a3⟩=>⟨a1,a2,λb p hb=>?_⟩) id⟩;obtain⟨k1,k2⟩:=a3 b p hb;exact⟨(h3 b p).2 k1,k2⟩
 ·rcases J.alN r hr with h1|h1
  · exact(B.al r h1).imp id (hA r)
  · exact hN r h1 hr
 · rw[J.ro];exact B.ro b hb
 ·by_cases hn:N r;· exact hb r cs hn e
  · obtain⟨h1,h2,_⟩:=J.stay r hn;rw[h1]at e;obtain⟨b,c,ty,fz,g1,g2,g3⟩:=B.box r cs e;exact⟨b,c,ty,fz,h2.trans g1,g2,g3.mono up⟩
def HungA(w w':World)(G0:Gh)(h0:Hp)(G:Gh)(kx r:Nat)(q:Path)(B:Blk)(c:CT)(u:Value):Prop:=∃m cs l v e m' cs' l' M0,B=.row m cs l v e/\G0.al r/\(∃l0 v0 e0,h0 r=.row m cs l0 v0 e0/\v0<=v)/\(M0:Mem).emp=False/\RowRep w M0 [] m cs (G0.φ r) l/\NavH w M0 [] q cs (G0.φ r) u/\PathOk q m cs l/\navR q m cs l=some (m',cs',l')/\c=.sl m' cs'/\(∀b ρ,M0 b ρ->(∃s,ρ=q++s)\/(G.own b=some (.tmp kx ρ)/\w'.heap[b]? =w.heap[b]?))/\(e=false->okL m cs l=true)
theorem Hung.after{kx r:Nat}{q:Path}{B:Blk}{c:CT}{u:Value}(H:Hung w G0 h0 G kx r q B c u)(J:∀b ρ,G.own b=some (.tmp kx ρ)->G'.own b=some (.tmp kx ρ)/\w'.heap[b]? =w.heap[b]?):HungA w w' G0 h0 G' kx r q B c u:=by obtain⟨m,cs,l,v,e,m',cs',l',M0,h1,h2,h3,h4,h5,h6,h7,h8,h9,h10,h11⟩:=H;exact⟨m,cs,l,v,e,m',cs',l',M0,h1,h2,h3,h4,h5,h6,h7,h8,h9,λb ρ hb=>(h10 b ρ hb).imp id (J b ρ),h11⟩
theorem HungA.kept{kx r:Nat}{q:Path}{B:Blk}{c:CT}{u:Value}(H:HungA w w' G0 h0 G kx r q B c u)(J:∀b ρ,G.own b=some (.tmp kx ρ)->G'.own b=some (.tmp kx ρ)):HungA w w' G0 h0 G' kx r q B c u:=by obtain⟨m,cs,l,v,e,m',cs',l',M0,h1,h2,h3,h4,h5,h6,h7,h8,h9,h10,h11⟩:=H;exact⟨m,cs,l,v,e,m',cs',l',M0,h1,h2,h3,h4,h5,h6,h7,h8,h9,λb ρ hb=>(h10 b ρ hb).imp id (λ⟨a,b⟩=>⟨J _ ρ a,b⟩),h11⟩
def homeF(kx kr r:Nat)(q:Path):Lab->Lab
|.tmp k s=>if k=kx then .blk r s else if k=kr then .blk r (q++s)else .tmp k s
|x=>x
theorem qel(kx kr r:Nat)(q:Path)(k:Nat)(s:Path):homeF kx kr r q (.tmp k s)=if k=kx then .blk r s else if k=kr then .blk r (q++s)else .tmp k s:=rfl
theorem qle{kx kr r:Nat}{q:Path}:∀x r' p,r'≠r->homeF kx kr r q x=.blk r' p->x=.blk r' p:=by
 intro x r' p hr' hx;cases x with
 |blk r1 q1=>exact hx
 |tmp k s=>
  rw[qel]at hx;by_cases e1:k=kx;· rw[if_pos e1]at hx;cases hx;exact absurd rfl hr'
  ·rw[if_neg e1]at hx;by_cases e2:k=kr;· rw[if_pos e2]at hx;cases hx;exact absurd rfl hr'
   · rw[if_neg e2]at hx;cases hx
theorem qva(G:Gh)(h:Hp)(kx kr r:Nat)(q:Path)(v:Value)(B:Blk)(hal:G.al r):Inst G (G.inst (homeF kx kr r q) r v) h (upd h r B) (λx=>x=r) (λk=>k=kx\/k=kr):=by
 refine⟨rfl,rfl,λ_ h=>.inl h,λr' hr'=>?_,λx hx=>⟨upd_ne _ _ hx,upd_ne _ _ hx,λb p=>⟨λhb=>?_,λhb=>?_⟩⟩,λk hk b p=>⟨λhb=>?_,λhb=>?_⟩⟩;· exact hr'
 · simp only[Gh.inst,Option.map_eq_some_iff]at hb;obtain⟨y,hy,hy'⟩:=hb;rw[hy,qle y x p hx hy']
 · simp[Gh.inst,hb,homeF]
 ·have:homeF kx kr r q (.tmp k p)=.tmp k p:=by rw[qel,if_neg (λe=>hk (.inl e)),if_neg (λe=>hk (.inr e))]
  simp[Gh.inst,hb,this]
 ·simp only[Gh.inst,Option.map_eq_some_iff]at hb;obtain⟨y,hy,hy'⟩:=hb;cases y with
  |blk r1 q=>exact absurd hy' (by simp[homeF])
  |tmp k1 s=>
   rw[qel]at hy';by_cases e1:k1=kx;· rw[if_pos e1]at hy';cases hy'
   ·rw[if_neg e1]at hy';by_cases e2:k1=kr;· rw[if_pos e2]at hy';cases hy'
    · rw[if_neg e2]at hy';rw[hy,hy']
theorem Back.row(B:Back w0 S0 w w' G0 h0 A G h){kx kr r:Nat}{q:Path}{Bk:Blk}{c:CT}{u:Value}{t:T}(H:HungA w w' G0 h0 G kx r q Bk c u)(hk:kr≠kx)(C:CellRep w' (G.own.t kr) [] c u t)(O:okC c t=true):∃m cs l v e G',Bk=.row m cs l v e/\Back w0 S0 w w' G0 h0 A G' (upd h r (.row m cs (updR q m cs l λ_=>asL t) (v+1) e))/\Inst G G' h (upd h r (.row m cs (updR q m cs l λ_=>asL t) (v+1) e)) (λx=>x=r) (λk=>k=kx\/k=kr):=by
 obtain⟨m,cs,l,v,e,m',cs',l',M0,rfl,h2,⟨l0,v0,e0,h3,h3'⟩,h4,h5,h6,h7,h8,rfl,h10,h11⟩:=H;obtain⟨lt,rfl,R,Rok⟩:=qp8 C O;have J:=qva G h kx kr r q (G0.φ r) (.row m cs (updR q m cs l λ_=>lt) (v+1) e) (B.mono r h2);have hR:RowRep w' ((G.inst (homeF kx kr r q) r (G0.φ r)).own.m r) [] m cs (G0.φ r) (updR q m cs l λ_=>lt):=by
  refine RowRep.replace (w:=w) (M:=M0) (M':=(G.inst (homeF kx kr r q) r (G0.φ r)).own.m r) q h5 h6 h7 h8 ?_ (λhf=>by rw[h4]at hf;exact hf.elim) (λb ρ hb hs=>?_);· refine RowRep.moved (M:=G.own.t kr) (π:=[]) ⟨λhf=>False.elim hf,λb ρ hb=>⟨?_,rfl⟩⟩ R;have hb:G.own b=some (.tmp kr ρ):=hb;show(G.inst (homeF kx kr r q) r (G0.φ r)).own b=some (.blk r ([]++q++ρ));simp only[Gh.inst,hb,Option.map_some];rw[qel,if_neg hk,if_pos rfl];simp
  ·rcases h10 b _ hb with h9|⟨h9,h9'⟩
   · exact absurd h9 hs
   · refine⟨?_,h9'⟩;show(G.inst (homeF kx kr r q) r (G0.φ r)).own b=some (.blk r ([]++ρ));simp only[Gh.inst,h9,Option.map_some];rw[qel,if_pos rfl]
 have X:=InvX.put B.x (homeF kx kr r q) (r:=r) (v:=G0.φ r) (λ_ _ _=>rfl) qle (.row m cs (updR q m cs l λ_=>lt) (v+1) e) ⟨.inr rfl,by simpa[Gh.inst,upd_same]using hR,λhe=>qg1 q (h11 he) h7 h8 Rok⟩;refine⟨m,cs,l,v,e,_,rfl,B.step X J (λ_ h=>h) (λx hx e=>B.new x hx (e▸h2)) (λx hx _=>by subst hx;exact .inl h2) B.new (λx hx _=>?_) (λx cs hx hb=>?_),J⟩;· subst hx;rw[upd_same,h3];exact⟨rfl,rfl,by simp[Gh.inst,upd_same],.inr (Nat.lt_succ_of_le h3')⟩
 · subst hx;rw[upd_same]at hb;cases hb
end
def RowsAwayA(w w':World)(G0:Gh)(h0:Hp)(G:Gh):Nat->Nat->List (Nat×Path×Blk)->List (CT×Value)->Prop
|_,_,[],[]=>True
|lo,hi,x::xs,y::ys=>∃kx,lo<=kx/\kx<hi/\HungA w w' G0 h0 G kx x.1 x.2.1 x.2.2 y.1 y.2/\RowsAwayA w w' G0 h0 G (kx+1) hi xs ys
|_,_,_,_=>False
def PRepsK(w:World)(G:Gh):Nat->List PD->List Value->List T->Prop
|_,[],[],[]=>True
|K,p::ps,u::us,t::ts=>((∀c,p≠.ro c)->PRep1 w G K p u t)/\PRepsK w G (K+1) ps us ts
|_,_,_,_=>False
def AVRepsK(w:World)(G:Gh)(h:Hp):List PD->List Value->List AV->Prop
|[],[],[]=>True
|p::ps,u::us,v::vs=>((∀c,p≠.ro c)->AVRep w G h u v)/\AVRepsK w G h ps us vs
|_,_,_=>False
def qzn(w:World)(G:Gh)(K:Nat)(l:List PD)(u:Value)(t:T):Prop:=∃b us ty fz ts,u=.pointer (some ⟨b,0,none⟩)/\t=.st ts/\G.own b=some (.tmp K [])/\w.heap[b]? =some (.cells us ty fz)/\PRepsK w G (K+1) l us.toList ts/\(∀v∈us.toList,v.oneCell'=true)/\us.size=l.length
def BoxesBkK(w:World)(G:Gh):Nat->List (List PD)->List Value->List T->Prop
|_,[],[],[]=>True
|K,x::xs,u::us,t::ts=>qzn w G K x u t/\BoxesBkK w G (K+(x.length+1)) xs us ts
|_,_,_,_=>False
section
variable{w0 w w':World}{S0:Nat->Prop}{G0 G G' Gc:Gh}{h0 h h':Hp}{fz:Bool}{K K2 W:Nat}{A A' N L:Nat->Prop}
theorem RowsAway.after(hG:∀k,K<=k->k<K2->∀b ρ,G.own b=some (.tmp k ρ)->G'.own b=some (.tmp k ρ)/\w'.heap[b]? =w.heap[b]?):∀{lo hi:Nat}{xs:List (Nat×Path×Blk)}{ys:List (CT×Value)},K<=lo->hi<=K2->RowsAway w G0 h0 G lo hi xs ys->RowsAwayA w w' G0 h0 G' lo hi xs ys
|_,_,[],[],_,_,_=>trivial
|_,_,_::_,_::_,h1,h2,⟨kx,g1,g2,g3,g4⟩=>⟨kx,g1,g2,g3.after (hG kx (by omega) (by omega)),RowsAway.after hG (by omega) h2 g4⟩
|_,_,[],_::_,_,_,H=>H.elim
|_,_,_::_,[],_,_,H=>H.elim
theorem RowsAwayA.kept:∀{lo hi:Nat}{xs:List (Nat×Path×Blk)}{ys:List (CT×Value)},Kept G G' (λk=>lo<=k/\k<hi)->RowsAwayA w w' G0 h0 G lo hi xs ys->RowsAwayA w w' G0 h0 G' lo hi xs ys
|_,_,[],[],_,_=>trivial
|_,_,_::_,_::_,J,⟨kx,g1,g2,g3,g4⟩=>⟨kx,g1,g2,g3.kept (λb ρ=>J kx ⟨g1,g2⟩ b ρ),RowsAwayA.kept (J.mono λk hk=>by omega) g4⟩
|_,_,[],_::_,_,H=>H.elim
|_,_,_::_,[],_,H=>H.elim
theorem RowsBk.kept:∀{k:Nat}{xs:List (CT×Value)}{ts:List T},Kept G G' (λj=>k<=j/\j<k+xs.length)->RowsBk w G k xs ts->RowsBk w G' k xs ts
|_,[],[],_,_=>trivial
|k,x::xs,t::ts,J,R=>⟨⟨CellRep.moved (M:=G.own.t k) (M':=G'.own.t k) t ⟨λhf=>False.elim hf,λb ρ hb=>⟨J k (by simp) b _ hb,rfl⟩⟩ R.1.1,R.1.2⟩,RowsBk.kept (J.mono λj hj=>by simp only[List.length_cons];omega) R.2⟩
|_,[],_::_,_,H=>H.elim
|_,_::_,[],_,H=>H.elim
theorem Inst.kept(J:Inst G G' h h' N L){M:Nat->Prop}(hM:∀k,M k->¬L k):Kept G G' M:=λk hk b p hb=>(J.tmp k (hM k hk) b p).1 hb
theorem qhr(rr:List T):∀{xs:List (Nat×Path×Blk)}{ys:List (CT×Value)}{ts:List T}{h:Hp}{G:Gh}{lo hi K i:Nat},Back w0 S0 w w' G0 h0 A G h->RowsAwayA w w' G0 h0 G lo hi xs ys->RowsBk w' G K ys ts->hi<=K->(∀j x,ts[j]? =some x->nth rr (i+j)=x)->∃G',Back w0 S0 w w' G0 h0 A G' (qbl h rr xs i)/\Inst G G' h (qbl h rr xs i) G0.al (λk=>(lo<=k/\k<hi)\/(K<=k/\k<K+ys.length))/\ts.length=xs.length
|[],[],[],h,G,lo,hi,K,i,B,_,_,_,_=>⟨G,B,Inst.refl _ _ _ _,rfl⟩
|x::xs,y::ys,t::ts,h,G,lo,hi,K,i,B,⟨kx,g1,g2,g3,g4⟩,R,hK,ht=>by
 obtain⟨m,cs,l,v,e,G1,hB,B1,J1⟩:=B.row g3 (kr:=K) (by omega) R.1.1 R.1.2;have e0:nth rr i=t:=by simpa using ht 0 t rfl
 obtain⟨G2,B2,J2,hl⟩:=qhr rr (K:=K+1) (i:=i+1) B1 (g4.kept (J1.kept λk hk=>by omega)) (R.2.kept (J1.kept λk hk=>by omega)) (by omega) (λj x hx=>by rw[show i+1+j=i+(j+1)by omega];exact ht (j+1) x (by simpa using hx));have hstep:qbl h rr (x::xs) i=qbl (upd h x.1 (.row m cs (updR x.2.1 m cs l λ_=>asL t) (v+1) e)) rr xs (i+1):=by obtain⟨k,p,b⟩:=x;have hB:b=_:=hB;subst hB;simp only[qbl,e0]
 have ha:G0.al x.1:=by obtain⟨_,_,_,_,_,_,_,_,_,_,h2,_⟩:=g3;exact h2
 rw[hstep];refine⟨G2,B2,J1.trans J2 (λr hr=>by subst hr;exact ha) (λ_ h=>h) (λk hk=>?_) (λk hk=>?_),by simp[hl]⟩;· simp only[List.length_cons];omega
 · simp only[List.length_cons];omega
|[],_::_,_,_,_,_,_,_,_,_,H,_,_,_=>H.elim
|_::_,[],_,_,_,_,_,_,_,_,H,_,_,_=>H.elim
|[],[],_::_,_,_,_,_,_,_,_,_,H,_,_=>H.elim
|_::_,_::_,[],_,_,_,_,_,_,_,_,H,_,_=>H.elim
theorem PRepsK.inst(J:Inst G G' h h' N L):∀{K:Nat}{ps:List PD}{us:List Value}{ts:List T},(∀k,K<=k->k<K+ps.length->¬L k)->PRepsK w G K ps us ts->PRepsK w G' K ps us ts
|_,[],[],[],_,_=>trivial
|K,p::ps,u::us,t::ts,hK,H=>⟨λhp=>(H.1 hp).inst J (hK K (Nat.le_refl _) (by simp)),PRepsK.inst J (λk h1 h2=>hK k (by omega) (by simp only[List.length_cons];omega)) H.2⟩
|_,[],_::_,_,_,H=>H.elim
|_,[],[],_::_,_,H=>H.elim
|_,_::_,[],_,_,H=>H.elim
|_,_::_,_::_,[],_,H=>H.elim
theorem BoxesBkK.inst(J:Inst G G' h h' N L):∀{K:Nat}{ls:List (List PD)}{us:List Value}{ts:List T},(∀k,K<=k->k<K+bxW ls->¬L k)->BoxesBkK w G K ls us ts->BoxesBkK w G' K ls us ts
|_,[],[],[],_,_=>trivial
|K,l::ls,u::us,t::ts,hK,H=>by simp only[bxW,List.map_cons,List.sum_cons]at hK;obtain⟨b,us',ty,fz,ts',h1,h2,h3,h4,h5,h6,h7⟩:=H.1;exact⟨⟨b,us',ty,fz,ts',h1,h2,(J.tmp K (hK K (Nat.le_refl _) (by omega)) b []).1 h3,h4,h5.inst J (λk h1 h2=>hK k (by omega) (by omega)),h6,h7⟩,BoxesBkK.inst J (λk h1 h2=>hK k (by omega) (by simp only[bxW]at h2;omega)) H.2⟩
|_,[],_::_,_,_,H=>H.elim
|_,[],[],_::_,_,H=>H.elim
|_,_::_,[],_,_,H=>H.elim
|_,_::_,_::_,[],_,H=>H.elim
theorem AVRepsK.mono(H:∀u v,AVRep w G h u v->AVRep w G' h' u v):∀{ps:List PD}{us:List Value}{vs:List AV},AVRepsK w G h ps us vs->AVRepsK w G' h' ps us vs
|[],[],[],_=>trivial
|_::_,u::us,v::vs,M=>⟨λhp=>H u v (M.1 hp),AVRepsK.mono H M.2⟩
|[],_::_,_,M=>M.elim
|[],[],_::_,M=>M.elim
|_::_,[],_,M=>M.elim
|_::_,_::_,[],M=>M.elim
theorem qlr(t:T):∀{ps:List PD}{us:List Value}{ts:List T}{h:Hp}{G:Gh}{n K j:Nat},InvX w0 S0 w G h->ps.all (mvOk1 false)=true->PRepsK w G K ps us ts->(∀i x,ts[i]? =some x->T.cell t (j+i)=x)->(∀r,inN false n ps.length r->¬G.al r)->ps.length<=MV->∃G',InvX w0 S0 w G' (backs h n false ps t j).2/\AVRepsK w (G'.on (inN false n ps.length)) (backs h n false ps t j).2 ps us (backs h n false ps t j).1/\Inst G G' h (backs h n false ps t j).2 (inN false n ps.length) (λk=>K<=k/\k<K+ps.length)/\∀r cs,inN false n ps.length r->(backs h n false ps t j).2 r≠.box cs
|[],[],[],h,G,n,K,j,I,_,_,_,hn,_=>⟨G,I,trivial,Inst.refl _ _ _ _,λr cs hr=>(qmo hr).elim⟩
|[],_::_,_,_,_,_,_,_,_,_,H,_,_,_=>H.elim
|[],[],_::_,_,_,_,_,_,_,_,H,_,_,_=>H.elim
|_::_,[],_,_,_,_,_,_,_,_,H,_,_,_=>H.elim
|_::_,_::_,[],_,_,_,_,_,_,_,H,_,_,_=>H.elim
|p::ps,u::us,t0::ts,h,G,n,K,j,I,hm,H,ht,hn,hW=>by
 rw[List.all_cons,Bool.and_eq_true]at hm;simp only[List.length_cons]at hn hW|-;have e0:T.cell t j=t0:=by simpa using ht 0 t0 rfl
 have one:∃G',InvX w0 S0 w G' (back1 h n 0 p (T.cell t j)).2/\((∀c,p≠.ro c)->AVRep w (G'.on (inN false n 1)) (back1 h n 0 p (T.cell t j)).2 u (back1 h n 0 p (T.cell t j)).1)/\Inst G G' h (back1 h n 0 p (T.cell t j)).2 (inN false n 1) (λx=>x=K)/\∀r cs,inN false n 1 r->(back1 h n 0 p (T.cell t j)).2 r≠.box cs:=by
  by_cases hp:∀c,p≠.ro c;· obtain⟨G1,I1,A1,J1,B1⟩:=qkf I (n:=n) (k:=0) hm.1 (show PRep1 w G K p u (T.cell t j)by rw[e0];exact H.1 hp) (λhk0=>absurd rfl hk0) (λr hr=>hn r (qe4 (by omega) hr));exact⟨G1,I1,λ_=>A1,J1,B1⟩
  ·have:∃c,p=.ro c:=by
    cases p with
    |ro c=>exact⟨c,rfl⟩
    |_=>exact absurd (λc e=>by cases e) hp
   obtain⟨c,rfl⟩:=this;have e2:(back1 h n 0 (.ro c) (T.cell t j)).2=h:=by cases c<;>rfl
   rw[e2];exact⟨G,I,λhp=>absurd rfl (hp c),Inst.refl _ _ _ _,λr cs hr e=>by rw[I.dead (hn r (qe4 (by omega) hr))]at e;cases e⟩
 obtain⟨G1,I1,A1,J1,B1⟩:=one;have far:∀r,inN false n 1 r->¬inN false (n+1) ps.length r:=λr h1 h2=>qmp (W:=ps.length+1) (by omega) hW h1 (by simpa using h2);have tl:∀r,inN false (n+1) ps.length r->inN false n (ps.length+1) r:=λr hr=>qg8 (a:=1) (by omega) (by simpa using hr);have hd:∀r,inN false n 1 r->inN false n (ps.length+1) r:=λr hr=>qe4 (by omega) hr;obtain⟨G2,I2,A2,J2,B2⟩:=qlr t (n:=n+1) (K:=K+1) (j:=j+1) I1 hm.2 (H.2.inst J1 (λk h1 h2=>by omega)) (λi x hx=>by rw[show j+1+i=j+(i+1)by omega];exact ht (i+1) x (by simpa using hx)) (λr hr ha=>by
  rcases J1.alN r ha with h1|h1
  · exact hn r (tl r hr) h1
  · exact far r h1 hr) (by omega)
 refine⟨G2,I2,⟨λhp=>?_,?_⟩,J1.trans J2 hd tl (λk hk=>by omega) (λk hk=>by omega),λr cs hr=>?_⟩;· exact(Gh.onMono w G2 _ hd).av _ ((J2.keepOn w far).av _ (A1 hp))
 · exact A2.mono λu v hv=>(Gh.onMono w G2 _ tl).av _ hv
 ·by_cases e:inN false (n+1) ps.length r;· exact B2 r cs e
  · have h1:=(J2.stay r e).1;show(backs (back1 h n 0 p (T.cell t j)).2 (n+1) false ps t (j+1)).2 r≠_;rw[h1];exact B1 r cs (qjq (by omega) hr (by simpa using e))
theorem qjn:∀{ps:List PD}{us0 us:List Value}{cs vs:List AV},AVReps w G0 h0 us0 cs->AVRepsK w' G h ps us vs->cs.length=ps.length->(∀(i:Nat) d x,ps[i]? =some (.ro d)->us0[i]? =some x->us[i]? =some x)->Mixs w G0 h0 w' G h us (qd8 ps cs vs)
|[],us0,us,cs,vs,H0,H,hl,_=>by
 cases us with
 |nil=>cases vs with
  |nil=>simp only[qd8];trivial
  |cons _ _=>exact H.elim
 |cons _ _=>exact H.elim
|p::ps,us0,us,cs,vs,H0,H,hl,hro=>by
 cases us with
 |nil=>exact H.elim
 |cons u us=>cases vs with
  |nil=>exact H.elim
  |cons v vs=>cases cs with
   |nil=>simp at hl
   |cons c cs=>cases us0 with
    |nil=>exact H0.elim
    |cons u0 us0=>
     have tl:=qjn (ps:=ps) (us0:=us0) (us:=us) (cs:=cs) (vs:=vs) H0.2 H.2 (by simpa using hl) (λi d x h1 h2=>by simpa using hro (i+1) d x (by simpa using h1) (by simpa using h2));have key:(∀d,p≠.ro d)->qd8 (p::ps) (c::cs) (v::vs)=v::qd8 ps cs vs:=by
      intro hp;cases p with
      |ro d=>exact absurd rfl (hp d)
      |_=>rfl
     by_cases hp:∀d,p≠.ro d;· rw[key hp];exact⟨.inr (H.1 hp),tl⟩
     ·cases p with
      |ro d=>
       have:u=u0:=by simpa using hro 0 d u0 rfl rfl
       subst this;exact⟨.inl H0.1,tl⟩
      |_=>exact absurd (λd e=>by cases e) hp
end
def rngA(n0 n r:Nat):Prop:=n0<=r/\r<n
theorem qcy{n W r:Nat}(h:inN false n W r):n<=r/\r<n+W:=by simp only[inN,Bool.false_eq_true,false_and,or_false]at h;exact h
section
variable{w0 w w':World}{S0:Nat->Prop}{G0 G G' Gc:Gh}{h0 h h':Hp}{fz:Bool}{K K2 W:Nat}{A A' N L:Nat->Prop}
theorem qyo(I0:Inv w0 S0 w G0 h0){n0 n N0:Nat}(B:Back w0 S0 w w' G0 h0 (rngA n0 n) G h)(hn0:∀r,rngA n0 N0 r->¬G0.al r)(hn:n0<=n){k:Nat}{l0 l:List PD}{cs:List AV}{u:Value}{t:T}(hA:qx1 G0 h0 (k,l0,cs) l u)(hB:qzn w' G K l u t)(hS:qs7 w w' l u)(hm:l.all (mvOk1 false)=true)(hl:l.length<=MV)(hN:n+l.length<=N0):∃G',Back w0 S0 w w' G0 h0 (rngA n0 (n+l.length)) G' (upd (backs h n false l t 0).2 k (.box (qd8 l cs (backs h n false l t 0).1)))/\Inst G G' h (upd (backs h n false l t 0).2 k (.box (qd8 l cs (backs h n false l t 0).1))) (λr=>G0.al r\/n<=r) (λx=>K<=x/\x<K+(l.length+1)):=by
 obtain⟨_,ha,h0k,hφ,hlen⟩:=hA;obtain⟨b,us,ty,fz1,ts,rfl,rfl,hb,hc,hR,hone,husl⟩:=hB;have fresh:∀r,inN false n l.length r->¬G.al r:=λr hr ha'=>by
  have:=qcy hr;rcases B.al r ha' with h1|h1
  · exact hn0 r (by unfold rngA;omega) h1
  · unfold rngA at h1;omega
 obtain⟨G1,X1,A1,J1,Bx1⟩:=qlr (.st ts) (n:=n) (j:=0) (K:=K+1) B.x hm hR (λi x hx=>by simp only[T.cell,Nat.zero_add,List.getD_eq_getElem?_getD,hx,Option.getD_some]) fresh hl;have B1:=B.step (A':=rngA n0 (n+l.length)) X1 J1 (λr hr=>by unfold rngA at hr|-;omega) (λr hr hr'=>by have:=qcy hr';unfold rngA at hr;omega) (λr hr _=>.inr (by have:=qcy hr;unfold rngA;omega)) (λr hr hr'=>hn0 r (by unfold rngA at hr|-;omega) hr') (λr hr hr'=>absurd (B.mono r hr') (fresh r hr)) (λr cs hr e=>absurd e (Bx1 r cs hr));have hk1:¬inN false n l.length k:=λhr=>fresh k hr (B.mono k ha);have hb1:G1.own b=some (.tmp K []):=(J1.tmp K (by omega) b []).1 hb;have hback:∀x r' p,r'≠k->qb9 K k [] x=.blk r' p->x=.blk r' p:=by
  intro x r' p hr' hx;cases x with
  |blk r1 q=>exact hx
  |tmp k1 s=>
   rw[qcl]at hx;by_cases e:k1=K;· rw[if_pos e]at hx;cases hx;exact absurd rfl hr'
   · rw[if_neg e]at hx;cases hx
 have R0:=I0.rep k;rw[h0k]at R0;obtain⟨_,b0,c0,ty0,fz0,e1,e2,e3,e4,_⟩:=R0;rw[hφ]at e1;cases e1;have M1:Mixs w G0 h0 w' (G1.on (inN false n l.length)) (backs h n false l (.st ts) 0).2 us.toList (qd8 l cs (backs h n false l (.st ts) 0).1):=qjn e4 A1 hlen λi d x h1 h2=>hS b c0 ty0 fz0 us ty fz1 rfl e3 hc i d x h1 h2;have hsz:us.size=(qd8 l cs (backs h n false l (.st ts) 0).1).length:=by
  have:∀{us:List Value}{vs:List AV},Mixs w G0 h0 w' (G1.on (inN false n l.length)) (backs h n false l (.st ts) 0).2 us vs->us.length=vs.length:=by
   intro us;induction us with
   |nil=>intro vs H;cases vs with
    |nil=>rfl
    |cons _ _=>exact H.elim
   |cons u us ih=>intro vs H;cases vs with
    |nil=>exact H.elim
    |cons v vs=>simp[ih H.2]
  simpa using this M1
 have X2:=InvX.put X1 (qb9 K k []) (r:=k) (v:=.pointer (some ⟨b,0,none⟩)) (λ_ _ _=>rfl) hback (.box (qd8 l cs (backs h n false l (.st ts) 0).1)) ⟨.inr rfl,b,us,ty,fz1,by simp[Gh.inst,upd_same],by simp[Gh.inst,hb1,qb9],hc,hsz,hone⟩;have J2:Inst G1 (G1.inst (qb9 K k []) k (.pointer (some ⟨b,0,none⟩))) (backs h n false l (.st ts) 0).2 (upd (backs h n false l (.st ts) 0).2 k (.box (qd8 l cs (backs h n false l (.st ts) 0).1))) (λx=>x=k) (λx=>x=K):=by
  refine⟨rfl,rfl,λ_ h=>.inl h,λ_ h=>h,λx hx=>⟨upd_ne _ _ hx,upd_ne _ _ hx,λb p=>⟨λhb=>?_,λhb=>?_⟩⟩,λk' hk b p=>⟨λhb=>?_,λhb=>?_⟩⟩;· simp only[Gh.inst,Option.map_eq_some_iff]at hb;obtain⟨y,hy,hy'⟩:=hb;rw[hy,hback y x p hx hy']
  · simp[Gh.inst,hb,qb9]
  · simp[Gh.inst,hb,qb9,hk]
  ·simp only[Gh.inst,Option.map_eq_some_iff]at hb;obtain⟨y,hy,hy'⟩:=hb;cases y with
   |blk r1 q=>exact absurd hy' (by simp[qb9])
   |tmp k1 s=>
    rw[qcl]at hy';by_cases e:k1=K;· rw[if_pos e]at hy';cases hy'
    · rw[if_neg e]at hy';rw[hy,hy']
 have hnk:∀r,rngA n0 (n+l.length) r->r≠k:=λr hr e=>by subst e;exact hn0 r (by unfold rngA at hr|-;omega) ha
 refine⟨_,B1.step X2 J2 (λ_ h=>h) hnk (λr hr _=>by subst hr;exact .inl ha) B1.new (λr hr hr'=>?_) (λr cs' hr e=>?_),J1.trans J2 (λr hr=>.inr (qcy hr).1) (λr hr=>by subst hr;exact .inl ha) (λx hx=>by omega) (λx hx=>by omega)⟩;· subst hr;rw[upd_same,h0k];show(G1.inst (qb9 K r []) r (.pointer (some ⟨b,0,none⟩))).φ r=G0.φ r;rw[hφ];exact upd_same _ _ _
 · subst hr;rw[upd_same]at e;cases e;refine⟨b,us,ty,fz1,by simp[Gh.inst,upd_same],hc,M1.mono λu v hv=>?_⟩;have far:∀x,inN false n l.length x->x≠r:=λx hx e=>hk1 (e▸hx);exact(Gh.onMono w' _ _ (λx hx=>by have:=qcy hx;unfold rngA;omega)).av _ ((J2.keepOn w' far).av _ hv)
theorem qgr(I0:Inv w0 S0 w G0 h0)(rr:List T){n0 N0:Nat}(hn0:∀r,rngA n0 N0 r->¬G0.al r):∀{xs:List (Nat×List PD×List AV)}{ls:List (List PD)}{us:List Value}{ts:List T}{h:Hp}{G:Gh}{n K i:Nat},Back w0 S0 w w' G0 h0 (rngA n0 n) G h->n0<=n->n+(xs.map λb=>b.2.1.length).sum<=N0->BoxesAway G0 h0 xs ls us->BoxesBkK w' G K ls us ts->qn7 w w' ls us->(∀l∈ls,l.all (mvOk1 false)=true/\l.length<=MV)->(∀j x,ts[j]? =some x->nth rr (i+j)=x)->∃G',Back w0 S0 w w' G0 h0 (rngA n0 (n+(xs.map λb=>b.2.1.length).sum)) G' (qbj h n rr xs i)/\Inst G G' h (qbj h n rr xs i) (λr=>G0.al r\/n<=r) (λ_=>True)
|[],[],[],[],h,G,n,K,i,B,_,_,_,_,_,_,_=>⟨G,B,Inst.refl _ _ _ _⟩
|(k,l0,cs)::xs,l::ls,u::us,t::ts,h,G,n,K,i,B,hn,hN,hA,hB,hS,hm,ht=>by
 simp only[List.map_cons,List.sum_cons]at hN;have e0:nth rr i=t:=by simpa using ht 0 t rfl
 have el:l0=l:=hA.1.1;subst el;obtain⟨G1,B1,J1⟩:=qyo I0 B hn0 hn hA.1 hB.1 hS.1 (hm l0 (by simp)).1 (hm l0 (by simp)).2 (by omega);obtain⟨G2,B2,J2⟩:=qgr I0 rr hn0 (n:=n+l0.length) (K:=K+(l0.length+1)) (i:=i+1) B1 (by omega) (by omega) hA.2 (hB.2.inst J1 (λk h1 h2=>by omega)) hS.2 (λl hl=>hm l (by simp[hl])) (λj x hx=>by rw[show i+1+j=i+(j+1)by omega];exact ht (j+1) x (by simpa using hx));have hstep:qbj h n rr ((k,l0,cs)::xs) i=qbj (upd (backs h n false l0 t 0).2 k (.box (qd8 l0 cs (backs h n false l0 t 0).1))) (n+l0.length) rr xs (i+1):=by simp only[qbj,e0]
 rw[hstep];refine⟨G2,?_,J1.trans J2 (λ_ h=>h) (λr hr=>hr.imp id (λh=>by omega)) (λ_ _=>trivial) (λ_ _=>trivial)⟩;simp only[List.map_cons,List.sum_cons];rw[<-Nat.add_assoc];exact B2
|[],_::_,_,_,_,_,_,_,_,_,_,_,H,_,_,_,_=>H.elim
|[],[],_::_,_,_,_,_,_,_,_,_,_,H,_,_,_,_=>H.elim
|[],[],[],_::_,_,_,_,_,_,_,_,_,_,H,_,_,_=>H.elim
|_::_,[],_,_,_,_,_,_,_,_,_,_,H,_,_,_,_=>H.elim
|_::_,_::_,[],_,_,_,_,_,_,_,_,_,H,_,_,_,_=>H.elim
|_::_,_::_,_::_,[],_,_,_,_,_,_,_,_,_,H,_,_,_=>H.elim
end
section
variable{w0 w w':World}{S0:Nat->Prop}{G0 G G' Gc:Gh}{h0 h h':Hp}{fz:Bool}{K K2 W:Nat}{A A' N L:Nat->Prop}{P:Program}{E:Env}
theorem PReps.toK:∀{K K':Nat}{ps:List PD}{us:List Value}{ts:List T},(∀j b p,j<ps.length->G.own b=some (.tmp (K+j) p)->G'.own b=some (.tmp (K'+j) p))->PReps w G K ps us ts->PRepsK w G' K' ps us ts
|_,_,[],[],[],_,_=>trivial
|K,K',p::ps,u::us,t::ts,hown,H=>⟨λhp=>H.1.to (λe=>by
 cases p with
 |ro c=>exact absurd rfl (hp c)
 |_=>cases e) (λb p hb=>⟨hown 0 b p (by simp) hb,rfl⟩),PReps.toK (λj b p hj hb=>by
 rw[show K+1+j=K+(j+1)by omega]at hb;rw[show K'+1+j=K'+(j+1)by omega];exact hown (j+1) b p (by simpa using hj) hb) H.2⟩
|_,_,[],_::_,_,_,H=>H.elim
|_,_,[],[],_::_,_,H=>H.elim
|_,_,_::_,[],_,_,H=>H.elim
|_,_,_::_,_::_,[],_,H=>H.elim
theorem BoxesBk.toK:∀{K K':Nat}{ls:List (List PD)}{us:List Value}{ts:List T},(∀j b p,j<bxW ls->G.own b=some (.tmp (K+j) p)->G'.own b=some (.tmp (K'+j) p))->BoxesBk w G K ls us ts->BoxesBkK w G' K' ls us ts
|_,_,[],[],[],_,_=>trivial
|K,K',l::ls,u::us,t::ts,hown,H=>by
 simp only[bxW,List.map_cons,List.sum_cons]at hown;obtain⟨b,us',ty,fz,ts',h1,h2,h3,h4,h5⟩:=H.1;exact⟨⟨b,us',ty,fz,ts',h1,h2,hown 0 b [] (by omega) h3,h4,h5.toK (λj b p hj hb=>by
  rw[show K+1+j=K+(j+1)by omega]at hb;rw[show K'+1+j=K'+(j+1)by omega];exact hown (j+1) b p (by omega) hb),h5.one,by simpa using h5.length.1⟩,BoxesBk.toK (λj b q hj hb=>by
  simp only[bxW]at hj;rw[show K+(l.length+1)+j=K+(l.length+1+j)by omega]at hb;rw[show K'+(l.length+1)+j=K'+(l.length+1+j)by omega];exact hown (l.length+1+j) b q (by omega) hb) H.2⟩
|_,_,[],_::_,_,_,H=>H.elim
|_,_,[],[],_::_,_,H=>H.elim
|_,_,_::_,[],_,_,H=>H.elim
|_,_,_::_,_::_,[],_,H=>H.elim
theorem PRepL.length:∀{K:Nat}{ps:List PD}{us:List Value}{ts:List T},PRepL w G K ps us ts->us.length=ps.length/\ts.length=ps.length
|_,[],[],[],_=>⟨rfl,rfl⟩
|_,_::_,_::_,_::_,H=>by obtain⟨h1,h2⟩:=PRepL.length H.2;simp[h1,h2]
|_,[],_::_,_,H=>H.elim
|_,[],[],_::_,H=>H.elim
|_,_::_,[],_,H=>H.elim
|_,_::_,_::_,[],H=>H.elim
theorem qtn{us:List Value}{vs:List AV}(H:AVReps w G h us vs):AVRep w G h (retV us) (tup vs):=by
 match us,vs,H with
 |[],[],_=>exact⟨#[],rfl,trivial⟩
 |[u],[v],H=>exact H.1
 |u1::u2::us,v1::v2::vs,H=>exact⟨_,rfl,by simpa using H⟩
 |[_],_::_::_,H=>exact H.2.elim
 |_::_::_,[_],H=>exact H.2.elim
structure FiOk(fi:Fi):Prop where
 rs:fi.rs.all (mvOk false)=true
 bx:∀l∈bxPs fi.ps,l.all (mvOk1 false)=true/\l.length<=MV
theorem qw0{C:Orc}{f:FuncId}{fi:Fi}(F:FiOk fi)(hC:qaq P fi f (C f))(I:Inv w0 S0 w G h){n:Nat}(hal:∀r,rngA n (n+KN) r->¬G.al r){args:List AV}{us:List Value}(hu:AVReps w G h us args){b:Bool}{ts:List T}{kk:List T->AV×Hp}(hs:callS n h f fi args=.chk b (.call f ts kk))(hb:b=true){r:List T}(hr:C f ts=some r):Calls P f us.toArray w λe w'=>∃v G',e=.returned v/\Inv w0 S0 w' G' (kk r).2/\Keep w w' G G' h (kk r).2/\AVRep w' G' (kk r).2 v (kk r).1/\∀r,G'.al r->G.al r\/newR n r:=by
 unfold callS at hs;cases ho:qa9 (fi.rs.any qar) h fi.ps args with
 |none=>rw[ho]at hs;cases hs
 |some o=>
  rw[ho]at hs;simp only at hs;cases hg:(Nat.ble (needs fi.rs o.boxes) KN&&(fi.rs.any qar||qad h o.h fi.ps args))with
  |false=>rw[hg]at hs;cases hs
  |true=>
   rw[hg,cond_true]at hs;cases hs;rw[Bool.and_eq_true]at hg;have hneed:=Nat.le_of_ble_eq_true hg.1;have hlive:fi.rs.any qar=false->qad h o.h fi.ps args=true:=λe=>by have:=hg.2;rw[e,Bool.false_or]at this;exact this
   obtain⟨K,hK⟩:=I.freshTmp;obtain⟨G1,W1,B1,D1,X1⟩:=qkg (fz:=fi.rs.any qar) (K:=K) (W:=(fi.ps.map wide).sum) (k:=0) I (Keep.refl _ _ _) rfl (λ_ _ h=>h) (by omega) (λj _ _=>hK (K+j) (by omega)) hu ho hb;obtain⟨R1,A1⟩:=D1 G1 o.h (Keep.refl _ _ _) (λ_ _ _ _ h=>h) hlive;have Ic:=qpl W1.1 (fi.rs.any qar) K (fi.ps.map wide).sum;refine Calls.mono (hC w _ _ us o.ts r Ic (λ_ h=>h) R1 hr) ?_;rintro e w' ⟨vs,ts',us',ws',Gc,rfl,rfl,Ic',hro,hroIn,P3,P4,P5,P6⟩;obtain⟨K2,hK2,hK2'⟩:∃K2,(∀k,K2<=k->∀b p,G1.own b≠some (.tmp k p))/\K+(fi.ps.map wide).sum+(fi.ps.map wide).sum<=K2:=by obtain⟨K2,hK2⟩:=W1.1.freshTmp;exact⟨max K2 (K+(fi.ps.map wide).sum+(fi.ps.map wide).sum),λk hk=>hK2 k (by omega),by omega⟩
   obtain⟨I2,Kp2,rest⟩:=qwx (K2:=K2) W1.1 Ic' hroIn hro;have Kp:=W1.2.1.trans Kp2;have B0:Back w0 S0 w w' G h (rngA n n) (G1.after Gc (G1.forCall (fi.rs.any qar) K (fi.ps.map wide).sum).own (fi.rs.any qar) K2) o.h:=by
    refine⟨I2.x,λr hr=>(Kp.al r hr).2,λr hr=>?_,λr hr=>(Kp.al r hr).1,Kp.ro,Kp.kv,λr hr=>by unfold rngA at hr;omega,λr cs e=>?_⟩;· left;have:G1.al r:=hr;rw[W1.2.2.2]at this;exact this
    ·have e0:=B1 r cs e;have R:=I.rep r;rw[e0]at R;obtain⟨ha,b,c,ty,fz,g1,g2,g3,g4,_⟩:=R;have Rx:=W1.1.rep r;rw[e]at Rx;obtain⟨_,b1,c1,ty1,fz1,k1,k2,k3,_⟩:=Rx;have ht:=(W1.2.1.al r ha).2;rw[e0,e]at ht;rw[show G1.φ r=G.φ r from ht,g1]at k1;cases k1;have hn:(G1.forCall (fi.rs.any qar) K (fi.ps.map wide).sum).own b=none:=by
      cases e2:(G1.forCall (fi.rs.any qar) K (fi.ps.map wide).sum).own b with
      |none=>rfl
      |some x=>obtain⟨k,q,_,h1,_⟩:=qbc e2;rw[k2]at h1;cases h1
     exact⟨b,c,ty,fz,(show G1.φ r=G.φ r from ht).trans g1,((rest b _ k2 hn).2).trans g3,AVReps.mixs0 g4⟩
   have lts:=P3.length.2;have P3':=P3.to (G:=Gc) (G':=G1.after Gc (G1.forCall (fi.rs.any qar) K (fi.ps.map wide).sum).own (fi.rs.any qar) K2) (K:=0) (K':=K2) (λe b hb=>⟨.inr ⟨e,hb⟩,rfl⟩) (λj b p _ hb=>⟨qkj (by simpa using hb),rfl⟩);have P4':=P4.to (G:=Gc) (G':=G1.after Gc (G1.forCall (fi.rs.any qar) K (fi.ps.map wide).sum).own (fi.rs.any qar) K2) (K':=K2+(fi.rs.map wide).sum) (λj b p _ hb=>⟨by rw[Nat.add_assoc];exact qkj hb,rfl⟩);have P5':=P5.toK (G:=Gc) (G':=G1.after Gc (G1.forCall (fi.rs.any qar) K (fi.ps.map wide).sum).own (fi.rs.any qar) K2) (K':=K2+((fi.rs.map wide).sum+us'.length)) (λj b p _ hb=>by rw[Nat.add_assoc];exact qkj hb);have hWr:(fi.rs.map wide).sum+(o.boxes.map λb=>b.2.1.length).sum<=KN:=hneed;obtain⟨G3,X3,A3,J3,Bx3⟩:=qhn (mv:=false) false (ts'++us'++ws') (n:=n) (i:=0) (K:=K2) B0.x F.rs P3' (λj x hx=>by
    have hj:j<ts'.length:=(List.getElem?_eq_some_iff.1 hx).1;simp only[nth,Nat.zero_add,List.getD_eq_getElem?_getD];rw[List.append_assoc,List.getElem?_append_left hj,hx];rfl) (λhf=>by cases hf) (λr hr ha=>by
    have h1:=qcy hr;rcases B0.al r ha with h2|h2
    · exact hal r (by unfold rngA;omega) h2
    · unfold rngA at h2;omega) (by unfold KN at hWr;unfold MV;omega)
   have B3:=B0.step (A':=rngA n (n+(fi.rs.map wide).sum)) X3 J3 (λr hr=>by unfold rngA at hr|-;omega) (λr hr=>by unfold rngA at hr;omega) (λr hr _=>.inr (qcy hr)) (λr hr ha=>hal r (by unfold rngA at hr|-;omega) ha) (λr hr ha=>absurd ha (hal r (by have:=qcy hr;unfold rngA;omega))) (λr cs hr e=>by obtain⟨b,c,ty,fz,g1,g2,g3⟩:=Bx3 r cs hr e;exact⟨b,c,ty,fz,g1,g2,AVReps.mixs ((Gh.onMono w' G3 _ (λx hx=>qcy hx)).avs _ g3)⟩);have lus:=P4.length;have RA:RowsAwayA w w' G h G3 (K+(fi.ps.map wide).sum) (K+(fi.ps.map wide).sum+(fi.ps.map wide).sum) o.rows (qg0 fi.ps us):=by
    refine(RowsAway.after (K:=K+(fi.ps.map wide).sum) (K2:=K+(fi.ps.map wide).sum+(fi.ps.map wide).sum) (λk h1 h2 b ρ hb=>rest b _ hb ?_) (Nat.le_refl _) (Nat.le_refl _) A1).kept (J3.kept λk hk=>by omega);cases e2:(G1.forCall (fi.rs.any qar) K (fi.ps.map wide).sum).own b with
    |none=>rfl
    |some x=>obtain⟨k',q,h3,h4,_⟩:=qbc e2;rw[hb]at h4;cases h4;omega
   obtain⟨G4,B4,J4,l4⟩:=qhr (ts'++us'++ws') (i:=fi.rs.length) B3 RA (P4'.kept (J3.kept λk hk=>by omega)) (by omega) (λj x hx=>by have hj:j<us'.length:=(List.getElem?_eq_some_iff.1 hx).1;simp only[nth,List.getD_eq_getElem?_getD];rw[List.append_assoc,List.getElem?_append_right (by omega),lts,Nat.add_sub_cancel_left,List.getElem?_append_left hj,hx];rfl);obtain⟨G5,B5,J5⟩:=qgr I (ts'++us'++ws') hal (i:=fi.rs.length+o.rows.length) B4 (by omega) (by omega) X1 ((P5'.inst J3 (λk h1 h2=>by omega)).inst J4 (λk h1 h2=>by omega)) P6 F.bx (λj x hx=>by simp only[nth,List.getD_eq_getElem?_getD];rw[List.getElem?_append_right (by simp only[List.length_append];omega)];rw[show fi.rs.length+o.rows.length+j-(ts'++us').length=j by simp only[List.length_append];omega,hx];rfl);refine⟨retV vs,G5,rfl,B5.inv,B5.keep,?_,λr hr=>?_⟩
   ·refine qtn ((Gh.onAll w' G5 _ (inN false n (fi.rs.map wide).sum)).avs _ ?_);refine(J5.keepOn w' (λr hr h2=>?_)).avs _ ((J4.keepOn w' (λr hr h2=>?_)).avs _ A3)
    ·have h1:=qcy hr;rcases h2 with h2|h2
     · exact hal r (by unfold rngA;omega) h2
     · omega
    · have h1:=qcy hr;exact hal r (by unfold rngA;omega) h2
   · refine(B5.al r hr).imp id λh2=>?_;unfold rngA at h2;unfold newR;omega
end
def qs5(P:Program)(I:(α:Type)->InlK α):Prop:=∀(α:Type)(f:Nat)(args:List AV)(h:Hp)(n:Nat)(kk:AV->Hp->Nat->Option α)(x:α),I α f args h n kk=some x->∀(w0:World)(S0:Nat->Prop)(w:World)(G:Gh)(us:List Value),Inv w0 S0 w G h->(∀r,n<=r->¬G.al r)->AVReps w G h us args->Calls P f us.toArray w λe w'=>∃v v' h' n' G',e=.returned v'/\kk v h' n'=some x/\Inv w0 S0 w' G' h'/\Keep w w' G G' h h'/\AVRep w' G' h' v' v/\n<=n'/\∀r,G'.al r->G.al r\/(n<=r/\r<n')
structure FnsOk(P:Program)(E:Env)(C:Orc)(I:(α:Type)->InlK α):Prop where
 call:∀f fi,E.fi f=some fi->fi.inl=false->qaq P fi f (C f)
 form:∀f fi,E.fi f=some fi->fi.inl=false->FiOk fi
 inl:qs5 P I
section
variable{w0 w w':World}{S0:Nat->Prop}{G0 G G':Gh}{h0 h h':Hp}{P:Program}{E:Env}{C:Orc}{I:(α:Type)->InlK α}{α:Type}
theorem qqj{n:Nat}{st:St}{d:Option Nat}{k:St->Option α}{y:α}{x:Sem Next}:∀(s:Stp),s.Snd P w0 S0 w G st.h n x->s.runK C (I α) st d k=some y->∃v h',Ran P w0 S0 w G st.h n x v h'/\k ⟨updO st.s d v,h',st.n⟩=some y
|.fail,_,h=>by cases h
|.ret v h',H,h=>⟨v,h',H,h⟩
|.chk b s,H,h=>by
 cases b with
 |false=>cases h
 |true=>exact qqj s (H rfl) h
|.call _ _ _,H,_=>H.elim
|.inl _ _,H,_=>H.elim
theorem qtq{t:Nat}{st:St}{k:St->Option α}:splitK t st k=k st:=by
 unfold splitK;have key:∀b,st.s t=.b b->({st with s:=upd st.s t (.b b)}:St)=st:=by
  intro b hb;have:upd st.s t (.b b)=st.s:=by
   funext x;by_cases e:x=t;· subst e;rw[upd_same,hb]
   · rw[upd_ne _ _ e]
  rw[this]
 cases e:st.s t with
 |b x=>
  cases x with
  |true=>simp only[cond_true];rw[key true e]
  |false=>simp only[cond_false];rw[key false e]
 |_=>rfl
theorem qdh:∀{ts:List Nat}{st:St}{k:St->Option α},qm0 ts st k=k st
|[],_,_=>rfl
|t::ts,st,k=>by rw[qm0,qtq,qdh]
theorem AVReps.app:∀{us us':List Value}{vs vs':List AV},AVReps w G h us vs->AVReps w G h us' vs'->AVReps w G h (us++us') (vs++vs')
|[],_,[],_,_,H=>H
|_::_,_,_::_,_,H,H'=>⟨H.1,AVReps.app H.2 H'⟩
|[],_,_::_,_,H,_=>H.elim
|_::_,_,[],_,H,_=>H.elim
theorem qs1{a:Act}{s:Nat->AV}(hs:∀t,AVRep w G h (a.tmps.getD t undef) (s t))(ty:Nat->Option CT):∀(l:List Operand)(i:Nat),AVReps w G h (l.map a.eval) (l.mapIdx λj x=>opd s (ty (i+j)) x)
|[],_=>trivial
|x::l,i=>by
 rw[List.map_cons,List.mapIdx_cons];refine⟨qct hs _ x,?_⟩;have:=qs1 hs ty l (i+1);have e:(λj x=>opd s (ty (i+1+j)) x)=(λj x=>opd s (ty (i+(j+1))) x):=by funext j x;rw[show i+1+j=i+(j+1)by omega]
 rw[e]at this;exact this
theorem call_wp(O:EnvOk P E){o:Oper}{c:Call}{fo:Operand}(hop:o.op=.call c)(hcal:c.callee=.value fo){a:Act}{s:Nat->AV}(hs:∀t,AVRep w G h (a.tmps.getD t undef) (s t)){f:Nat}{caps:List AV}(hf:opd s none fo=.fn f caps){fi:Fi}(hfi:E.fi f=some fi){K:Act->World->Prop}{Q:Exit->Act->World->Prop}(H:∀us,AVReps w G h us (c.args.toList.mapIdx (λj x=>opd s ((c.argTypes[j]?).bind E.ct) x)++caps)->Calls P f us.toArray w λe w'=>∃v,e=.returned v/\K (a.put o.dst v) w'):o.wp P a w K Q:=by
 have hv:=qct (w:=w) (G:=G) (h:=h) hs none fo;rw[hf]at hv;obtain⟨vs,hv,hcaps⟩:=hv;obtain⟨h1,h2,h3⟩:=O.fn f fi hfi;obtain⟨cd,hcd⟩:=Option.isSome_iff_exists.1 h2;have hrun:(execOp a.eval o).run P w=.ok (.enter f (c.args.map a.eval++vs)) w:=by
  unfold execOp;rw[hop];simp only[resolve,hcal,hv,Deferred.ofValue,Sem.run_bind,Sem.run_pure,Result.andThen_ok,invoke];have e0:(#[]:Array Value)++c.args.map a.eval=c.args.map a.eval:=by simp
  rw[e0];have h4:fi.fn.name≠"runtime.NumGoroutine":=by simpa using h3
  simp[callFunc,h1,h4,hcd]
 unfold Oper.wp;rw[hrun,Oper.upon_enter];have hA:=H ((c.args.map a.eval++vs).toList) (by have:=qs1 (w:=w) (G:=G) (h:=h) hs (λj=>(c.argTypes[j]?).bind E.ct) c.args.toList 0;simp only[Nat.zero_add]at this;have:=AVReps.app this hcaps;simpa using this);rw[Array.toArray_toList]at hA;refine hA.mono ?_;rintro e w' ⟨v,rfl,hk⟩;exact hk
theorem qqv(O:EnvOk P E)(Fs:FnsOk P E C I){n:Nat}{st:St}(Iv:Inv w0 S0 w G st.h){a:Act}(hs:∀t,AVRep w G st.h (a.tmps.getD t undef) (st.s t))(hal:∀r,rngA n (n+KN) r->¬G.al r)(hst:∀r,st.n<=r->¬G.al r)(o:Oper){k:St->Option α}{y:α}(hr:(opS E n o st.s st.h).runK C (I α) st o.dst k=some y){K:Act->World->Prop}{Q:Exit->Act->World->Prop}(hK:∀v' w' G' v h' n',Inv w0 S0 w' G' h'->Keep w w' G G' st.h h'->AVRep w' G' h' v' v->st.n<=n'->(∀r,G'.al r->G.al r\/newR n r\/(st.n<=r/\r<n'))->k ⟨updO st.s o.dst v,h',n'⟩=some y->K (a.put o.dst v') w'):o.wp P a w K Q:=by
 by_cases hc:qo0 o.op=false;· have hS:=opS_snd (P:=P) (w0:=w0) (S0:=S0) O Iv (hal n (by unfold rngA KN;omega)) hs o hc;obtain⟨v,h',hR,hk⟩:=qqj _ hS hr;exact Ran.wp hR λv' w' G' I' K' hv ha=>hK v' w' G' v h' st.n I' K' hv (Nat.le_refl _) (λr hr=>(ha r hr).imp id .inl) hk
 ·obtain⟨dst,op,type,pos,after,guard⟩:=o;cases op with
  |call c=>
   cases hcal:c.callee with
   |builtin b=>exact absurd (by simp[qo0,hcal]) hc
   |invoke r n=>exact absurd (by simp[qo0,hcal]) hc
   |value fo=>
    simp only[opS,hcal]at hr;cases hf:opd st.s none fo with
    |fn f caps=>
     rw[hf]at hr;simp only at hr;cases hfi:E.fi f with
     |none=>rw[hfi]at hr;cases hr
     |some fi=>
      rw[hfi]at hr;simp only at hr;refine call_wp O rfl hcal hs hf hfi λus hus=>?_;cases hin:fi.inl with
      |true=>rw[hin]at hr;simp only[Stp.runK]at hr;refine(Fs.inl α f _ _ _ _ _ hr w0 S0 w G us Iv hst hus).mono ?_;rintro e w' ⟨v,v',h',n',G',rfl,hk,I',K',hv,hn,ha⟩;exact⟨v',rfl,hK v' w' G' v h' n' I' K' hv hn (λr hr=>(ha r hr).imp id .inr) hk⟩
      |false=>
       rw[hin]at hr;simp only at hr;cases hS:callS n st.h f fi (c.args.toList.mapIdx (λj x=>opd st.s ((c.argTypes[j]?).bind E.ct) x)++caps)with
       |fail=>rw[hS]at hr;cases hr
       |ret v h'=>
        unfold callS at hS;split at hS
        ·cases hg:(Nat.ble (needs fi.rs _) KN&&(fi.rs.any qar||qad st.h _ fi.ps _))with
         |false=>rw[hg]at hS;cases hS
         |true=>rw[hg]at hS;cases hS
        · cases hS
       |call g ts kk=>
        unfold callS at hS;split at hS
        ·cases hg:(Nat.ble (needs fi.rs _) KN&&(fi.rs.any qar||qad st.h _ fi.ps _))with
         |false=>rw[hg]at hS;cases hS
         |true=>rw[hg]at hS;cases hS
        · cases hS
       |inl g args=>
        unfold callS at hS;split at hS
        ·cases hg:(Nat.ble (needs fi.rs _) KN&&(fi.rs.any qar||qad st.h _ fi.ps _))with
         |false=>rw[hg]at hS;cases hS
         |true=>rw[hg]at hS;cases hS
        · cases hS
       |chk b s=>
        have hform:∃ts kk,s=.call f ts kk:=by
         unfold callS at hS;split at hS
         ·cases hg:(Nat.ble (needs fi.rs _) KN&&(fi.rs.any qar||qad st.h _ fi.ps _))with
          |false=>rw[hg]at hS;cases hS
          |true=>rw[hg]at hS;cases hS;exact⟨_,_,rfl⟩
         · cases hS
        obtain⟨ts,kk,rfl⟩:=hform;rw[hS]at hr;cases b with
        |false=>cases hr
        |true=>
         simp only[Stp.runK,cond_true]at hr;cases hcr:C f ts with
         |none=>rw[hcr]at hr;cases hr
         |some r=>rw[hcr]at hr;simp only[Option.bind_some]at hr;refine(qw0 (Fs.form f fi hfi hin) (Fs.call f fi hfi hin) Iv hal hus hS rfl hcr).mono ?_;rintro e w' ⟨v',G',rfl,I',K',hv,ha⟩;exact⟨v',rfl,hK v' w' G' _ _ st.n I' K' hv (Nat.le_refl _) (λr hr=>(ha r hr).imp id .inl) hr⟩
    |_=>rw[hf]at hr;cases hr
  |_=>exact absurd rfl hc
end
structure RelR(w0:World)(S0:Nat->Prop)(nt n0 N i:Nat)(st:St)(a:Act)(w:World)(G:Gh):Prop where
 inv:Inv w0 S0 w G st.h
 slots:∀t,AVRep w G st.h (a.tmps.getD t undef) (st.s t)
 al:∀r,G.al r->r<n0+KN*i\/(N<=r/\r<st.n)
 le:N<=st.n
 size:a.tmps.size=nt
 defers:a.defers=[]
section
variable{w0 w w':World}{S0:Nat->Prop}{G0 G G':Gh}{h0 h h':Hp}{P:Program}{E:Env}{C:Orc}{I:(α:Type)->InlK α}{α:Type}
theorem put_defers(a:Act)(d:Option Tmp)(v:Value):(a.put d v).defers=a.defers:=by cases d<;>simp[Act.put]
theorem qh9(O:EnvOk P E)(Fs:FnsOk P E C I){nt base:Nat}{ops:Array Oper}(hd:dstOk nt ops.toList=true){n0 N:Nat}(hN:N=n0+KN*ops.size){Q:Exit->Act->World->Prop}{kx:St->Option α}{x:α}:∀(k i:Nat)(rs:List Rec)(st:St)(a:Act)(w:World)(G:Gh),i+k=ops.size->regK C (I α) E n0 ops.toList false (List.range' i k) rs st kx=some x->RelR w0 S0 nt n0 N i st a w G->(∀st' a' w' G',kx st'=some x->RelR w0 S0 nt n0 N ops.size st' a' w' G'->KeepB base G G' st.h st'.h->Q .normal a' w')->wpOps P ops Q (List.range' i k) a w
|0,i,rs,st,a,w,G,hik,hr,R,hQ=>by
 have:regK C (I α) E n0 ops.toList false [] rs st kx=some x:=hr;simp only[regK,Bool.not_false,Bool.true_or,cond_true]at this;have e:i=ops.size:=by omega
 subst e;exact hQ st a w G this R (KeepB.refl _ _ _)
|k+1,i,rs,st,a,w,G,hik,hr,R,hQ=>by
 have hi:i<ops.size:=by omega
 have ho:ops[i]? =some ops[i]:=Array.getElem?_eq_getElem hi;have hol:ops.toList[i]? =some ops[i]:=by simpa using ho
 have hdst:∀t,ops[i].dst=some t->t<a.tmps.size:=by intro t ht;have:=List.all_eq_true.1 hd ops[i] (by simp);rw[ht]at this;rw[R.size];simpa using this
 rw[show List.range' i (k+1)=i::List.range' (i+1) k from List.range'_succ ..]at hr|-;simp only[regK,hol,qdh]at hr;simp only[wpOps,ho];have hKN:n0+KN*(i+1)=n0+KN*i+KN:=by rw[Nat.mul_add];omega
 have hle:n0+KN*(i+1)<=N:=by rw[hN];exact Nat.add_le_add_left (Nat.mul_le_mul_left _ (by omega)) _
 cases hw:wantV ops.toList ops[i] st.s with
 |none=>rw[hw]at hr;cases hr
 |some b=>
  rw[hw]at hr;have hwt:=qil R.slots hw;cases b with
  |true=>
   simp only[Bool.not_false,Bool.true_or,cond_true]at hr;rw[if_pos hwt];left;refine qqv O Fs R.inv R.slots (λr hr ha=>?_) (λr hr ha=>?_) ops[i] hr λv' w' G' v h' n' I' K' hv hn ha hk=>?_
   ·unfold rngA at hr;rcases R.al r ha with h1|h1
    · omega
    · omega
   ·have:=R.le;rcases R.al r ha with h1|h1
    ·have:n0+KN*i<=N:=by omega
     omega
    · omega
   ·refine qh9 O Fs hd hN k (i+1) _ _ _ _ _ (by omega) hk ?_ (λst' a' w'' G'' h1 h2 h3=>hQ st' a' w'' G'' h1 h2 ((K'.b base).trans h3));refine⟨I',qeg R.slots K' hdst hv,λr hr=>?_,Nat.le_trans R.le hn,by rw[qew];exact R.size,by rw[put_defers];exact R.defers⟩;show r<n0+KN*(i+1)\/(N<=r/\r<n');have:=R.le;rcases ha r hr with h1|h1|h1
    ·rcases R.al r h1 with h2|h2
     · omega
     · omega
    · unfold newR at h1;omega
    · omega
  |false=>
   simp only at hr;rw[if_neg (by rw[hwt];simp)];refine qh9 O Fs hd hN k (i+1) _ _ _ _ _ (by omega) hr ?_ hQ;refine⟨R.inv,qeg R.slots (Keep.refl _ _ _) hdst rfl,λr hr=>?_,R.le,by rw[qew];exact R.size,by rw[put_defers];exact R.defers⟩;show r<n0+KN*(i+1)\/(N<=r/\r<st.n);rcases R.al r hr with h2|h2
   · omega
   · exact .inr h2
def qq4(P:Program)(E:Env)(C:Orc)(I:(α:Type)->InlK α):Prop:=∀(α:Type)(nt base:Nat)(w0:World)(S0:Nat->Prop)(id:Nat)(ops:Array Oper)(st:St)(kx:St->Option α)(x:α)(a:Act)(w:World)(G:Gh)(Q:Exit->Act->World->Prop),dstOk nt ops.toList=true->regK C (I α) E st.n ops.toList true (List.range ops.size) [] {st with n:=st.n+KN*ops.size} kx=some x->Rel w0 S0 nt st a w G->(∀st' a' w' G',kx st'=some x->Rel w0 S0 nt st' a' w' G'->st.n<=st'.n->KeepB base G G' st.h st'.h->Q .normal a' w')->(Code.region id ops true).wp P Q a w
theorem qtz(O:EnvOk P E)(Fs:FnsOk P E C I){nt base:Nat}{id:Nat}{ops:Array Oper}(hd:dstOk nt ops.toList=true){Q:Exit->Act->World->Prop}{kx:St->Option α}{x:α}{st:St}{a:Act}(R:Rel w0 S0 nt st a w G)(hr:regK C (I α) E st.n ops.toList false (List.range ops.size) [] {st with n:=st.n+KN*ops.size} kx=some x)(hQ:∀st' a' w' G',kx st'=some x->Rel w0 S0 nt st' a' w' G'->st.n<=st'.n->KeepB base G G' st.h st'.h->Q .normal a' w'):(Code.region id ops false).wp P Q a w:=by
 refine wp_region ?_;rw[List.range_eq_range']at hr|-;refine qh9 (base:=base) (w0:=w0) (S0:=S0) O Fs hd rfl ops.size 0 [] _ a w G (by omega) hr ⟨R.inv,R.slots,λr hr=>.inl (by have:=R.al r hr;omega),Nat.le_refl _,R.size,R.defers⟩ ?_;intro st' a' w' G' h1 h2 h3;refine hQ st' a' w' G' h1 ⟨h2.inv,h2.slots,λr hr=>?_,h2.size,h2.defers⟩ ?_ h3
 ·have:=h2.le;rcases h2.al r hr with h4|h4
  · omega
  · omega
 · have:=h2.le;omega
end
theorem qjs:∀{ks:List Nat}{r i x:Nat},idxN r ks i=some x->∃j,x=i+j/\ks[j]? =some r
|[],_,_,_,h=>by cases h
|k::ks,r,i,x,h=>by
 simp only[idxN]at h;cases hb:Nat.beq r k with
 |true=>rw[hb,cond_true]at h;cases h;have:=Nat.eq_of_beq_eq_true hb;subst this;exact⟨0,rfl,rfl⟩
 |false=>rw[hb,cond_false]at h;obtain⟨j,h1,h2⟩:=qjs h;exact⟨j+1,by omega,by simpa using h2⟩
def oldN(base:Nat)(seen:List Nat)(x:Nat):Nat:=if x<base then x else seen.getD (x-base) 0
theorem qd5{base:Nat}{seen:List Nat}{r x:Nat}(h:renN base seen r=some x):oldN base seen x=r/\x<base+seen.length:=by
 unfold renN at h;cases hb:Nat.blt r base with
 |true=>
  rw[hb,cond_true]at h;cases h;have:r<base:=by simpa using hb
  exact⟨by simp[oldN,this],by omega⟩
 |false=>rw[hb,cond_false]at h;obtain⟨j,rfl,h2⟩:=qjs h;have hj:j<seen.length:=(List.getElem?_eq_some_iff.1 h2).1;refine⟨?_,by omega⟩;unfold oldN;rw[if_neg (by omega),Nat.add_sub_cancel_left,List.getD_eq_getElem?_getD,h2];rfl
def Gh.ren(G:Gh)(base:Nat)(seen:List Nat):Gh:=
 {
  φ:=λx=>G.φ (oldN base seen x),ro:=G.ro,kv:=G.kv,al:=λx=>x<base+seen.length/\G.al (oldN base seen x)
  own:=λb=>match G.own b with
  |some (.blk r p)=>match renN base seen r with|some x=>some (.blk x p)|none=>none
  |_=>none}
section
variable{w0 w w':World}{S0:Nat->Prop}{G G':Gh}{h h':Hp}{base:Nat}{seen:List Nat}
theorem qm6{b r x:Nat}{p:Path}(hb:G.own b=some (.blk r p))(hx:renN base seen r=some x):(G.ren base seen).own b=some (.blk x p):=by simp[Gh.ren,hb,hx]
theorem qi8{b:Nat}{y:Lab}(hb:(G.ren base seen).own b=some y):∃r x p,G.own b=some (.blk r p)/\renN base seen r=some x/\y=.blk x p:=by
 simp only[Gh.ren]at hb;cases e:G.own b with
 |none=>rw[e]at hb;cases hb
 |some z=>
  rw[e]at hb;cases z with
  |tmp k p=>cases hb
  |blk r p=>
   simp only at hb;cases e2:renN base seen r with
   |none=>rw[e2]at hb;cases hb
   |some x=>rw[e2]at hb;cases hb;exact⟨r,x,p,rfl,e2,rfl⟩
mutual
theorem ren_av(hh:∀r x,renN base seen r=some x->h' x=renB h base seen (h r)):∀(v:AV){u:Value},AVRep w G h u v->AVRep w (G.ren base seen) h' u (renA h base seen v)
|.z,_,H=>H
|.u,_,H=>H
|.un,_,H=>H
|.b _,_,H=>H
|.i _ _,_,H=>H
|.s _,_,H=>H
|.nl _ _,_,H=>H
|.np,_,H=>H
|.mp _,_,H=>H
|.ro _ _ _ _,_,H=>H
|.cp _ _ _ _,_,H=>H
|.rf r p v sub,u,H=>by
 have one:u.oneCell'=true:=H.1;simp only[renA];cases hok:okRow h r p v with
 |false=>exact one
 |true=>
  simp only[cond_true];cases hx:renN base seen r with
  |none=>exact one
  |some x=>
   obtain⟨h1,h2,h3⟩:=H;obtain⟨ho,hlt⟩:=qd5 hx;unfold okRow at hok;cases hr:h r with
   |dead=>rw[hr]at hok;cases hok
   |box _=>rw[hr]at hok;cases hok
   |row m cs l v' e=>
    rw[hr]at h3 hok;have hpv:p=[]\/v=v':=by
     cases p with
     |nil=>exact .inl rfl
     |cons a p=>exact .inr (Nat.eq_of_beq_eq_true hok)
    obtain⟨hv,m',cs',l',g1,g2,g3,g4⟩:=h3.2 hpv;refine⟨h1,⟨hlt,by rw[ho];exact h2⟩,?_⟩;rw[hh r x hx,hr];refine⟨Nat.le_refl _,λ_=>⟨hv,m',cs',l',?_,g2,g3,g4⟩⟩;show NavH w ((G.ren base seen).own.m x) [] p cs (G.φ (oldN base seen x)) hv;rw[ho];exact NavH.moved p (λb ρ hb _=>⟨qm6 hb hx,rfl⟩) g1
|.bp r j,u,H=>by
 have one:u.oneCell'=true:=H.1;simp only[renA];cases hx:renN base seen r with
 |none=>exact one
 |some x=>
  obtain⟨h1,h2,h3⟩:=H;obtain⟨ho,hlt⟩:=qd5 hx;refine⟨h1,⟨hlt,by rw[ho];exact h2⟩,?_⟩;rw[hh r x hx];cases hr:h r with
  |dead=>trivial
  |row _ _ _ _ _=>trivial
  |box cs=>rw[hr]at h3;obtain⟨b,g1,g2⟩:=h3;exact⟨b,by show G.φ (oldN base seen x)=_;rw[ho];exact g1,g2⟩
|.rp r p v i j,u,H=>by
 have one:u.oneCell'=true:=H.1;simp only[renA];cases hok:okRow h r p v with
 |false=>exact one
 |true=>
  simp only[cond_true];cases hx:renN base seen r with
  |none=>exact one
  |some x=>
   obtain⟨h1,h2,h3⟩:=H;obtain⟨ho,hlt⟩:=qd5 hx;unfold okRow at hok;cases hr:h r with
   |dead=>rw[hr]at hok;cases hok
   |box _=>rw[hr]at hok;cases hok
   |row m cs l v' e=>
    rw[hr]at h3 hok;have hpv:p=[]\/v=v':=by
     cases p with
     |nil=>exact .inl rfl
     |cons a p=>exact .inr (Nat.eq_of_beq_eq_true hok)
    obtain⟨hv,m',cs',l',b,off,n,cap,g1,g2,g3,g4⟩:=h3.2 hpv;refine⟨h1,⟨hlt,by rw[ho];exact h2⟩,?_⟩;rw[hh r x hx,hr];refine⟨Nat.le_refl _,λ_=>⟨hv,m',cs',l',b,off,n,cap,?_,g2,g3,g4⟩⟩;show NavH w ((G.ren base seen).own.m x) [] p cs (G.φ (oldN base seen x)) hv;rw[ho];exact NavH.moved p (λb ρ hb _=>⟨qm6 hb hx,rfl⟩) g1
|.ag cs,u,H=>by obtain⟨vs,h1,h2⟩:=H;exact⟨vs,h1,qfi hh cs h2⟩
|.tu cs,u,H=>by obtain⟨vs,h1,h2⟩:=H;exact⟨vs,h1,qfi hh cs h2⟩
|.fn f cs,u,H=>by obtain⟨vs,h1,h2⟩:=H;exact⟨vs,h1,qfi hh cs h2⟩
theorem qfi(hh:∀r x,renN base seen r=some x->h' x=renB h base seen (h r)):∀(vs:List AV){us:List Value},AVReps w G h us vs->AVReps w (G.ren base seen) h' us (renAs h base seen vs)
|[],us,H=>by cases us<;>first|trivial|exact H.elim
|x::xs,us,H=>by
 cases us with
 |nil=>exact H.elim
 |cons u us=>exact⟨ren_av hh x H.1,qfi hh xs H.2⟩
end
theorem qty(I:Inv w0 S0 w G h)(hh:∀r x,renN base seen r=some x->h' x=renB h base seen (h r))(ho:∀x,h' x≠.dead->renN base seen (oldN base seen x)=some x):Inv w0 S0 w (G.ren base seen) h':=by
 refine⟨I.os,I.tape,I.output,I.size,I.same,λb y hy=>?_,λb y hy=>?_,λb hb=>?_,I.roLt,I.roIn,λx=>?_⟩;· obtain⟨r,x,p,h1,_,_⟩:=qi8 hy;exact I.mine b _ h1
 · obtain⟨r,x,p,h1,_,_⟩:=qi8 hy;exact I.cells b _ h1
 · have:=I.roOwn b hb;simp[Gh.ren,this]
 ·cases e:h' x with
  |dead=>
   intro b p hb;obtain⟨r,x',p',h1,h2,h3⟩:=qi8 hb;cases h3;have hx:=hh r x h2;rw[e]at hx;have R:=I.rep r;cases hr:h r with
   |dead=>rw[hr]at R;exact R b p h1
   |box _=>rw[hr]at hx;cases hx
   |row _ _ _ _ _=>rw[hr]at hx;cases hx
  |box cs=>
   have hx:=ho x (by rw[e];simp);have hx':=hh _ x hx;rw[e]at hx';obtain⟨_,hlt⟩:=qd5 hx;have R:=I.rep (oldN base seen x);cases hr:h (oldN base seen x)with
   |dead=>rw[hr]at hx';cases hx'
   |row _ _ _ _ _=>rw[hr]at hx';cases hx'
   |box ds=>rw[hr]at hx' R;cases hx';obtain⟨ha,b,c,ty,fz,g1,g2,g3,g4,g5⟩:=R;exact⟨⟨hlt,ha⟩,b,c,ty,fz,g1,qm6 g2 hx,g3,qfi hh ds g4,g5⟩
  |row m cs l v z=>
   have hx:=ho x (by rw[e];simp);have hx':=hh _ x hx;rw[e]at hx';obtain⟨_,hlt⟩:=qd5 hx;have R:=I.rep (oldN base seen x);cases hr:h (oldN base seen x)with
   |dead=>rw[hr]at hx';cases hx'
   |box _=>rw[hr]at hx';cases hx'
   |row m' cs' l' v' z'=>rw[hr]at hx' R;cases hx';obtain⟨ha,g1,g2⟩:=R;exact⟨⟨hlt,ha⟩,RowRep.moved (M:=G.own.m (oldN base seen x)) (M':=(G.ren base seen).own.m x) (π:=[]) ⟨λhf=>False.elim hf,λb ρ hb=>⟨qm6 hb hx,rfl⟩⟩ g1,g2⟩
end
section
variable{w0 w w':World}{S0:Nat->Prop}{G G':Gh}{h h':Hp}{base:Nat}{seen:List Nat}
theorem qg3:∀{vs:List AV}{us:List Value}{h:Hp}{G:Gh}{n:Nat},Inv w0 S0 w G h->(∀r,n<=r->¬G.al r)->AVReps w G h us vs->∃G',Inv w0 S0 w G' (nlFix h n vs).2.1/\Keep w w G G' h (nlFix h n vs).2.1/\AVReps w G' (nlFix h n vs).2.1 us (nlFix h n vs).1/\(∀r,(nlFix h n vs).2.2<=r->¬G'.al r)
|[],us,h,G,n,I,hn,H=>⟨G,I,Keep.refl _ _ _,H,hn⟩
|v::vs,us,h,G,n,I,hn,H=>by
 cases us with
 |nil=>exact H.elim
 |cons u us=>
  have other:(nlFix h n (v::vs)=(v::(nlFix h n vs).1,(nlFix h n vs).2.1,(nlFix h n vs).2.2))->∃G',Inv w0 S0 w G' (nlFix h n (v::vs)).2.1/\Keep w w G G' h (nlFix h n (v::vs)).2.1/\AVReps w G' (nlFix h n (v::vs)).2.1 (u::us) (nlFix h n (v::vs)).1/\(∀r,(nlFix h n (v::vs)).2.2<=r->¬G'.al r):=by intro e;obtain⟨G1,I1,K1,A1,F1⟩:=qg3 (vs:=vs) I hn H.2;rw[e];exact⟨G1,I1,K1,⟨K1.av v H.1,A1⟩,F1⟩
  cases v with
  |nl m cs=>
   have hu:u=.slice none 0 0:=H.1;obtain⟨I1,K1,A1⟩:=qe3 I (hn n (Nat.le_refl _)) id (λ_ _ _=>rfl) (λ_ _ _ _ h=>h) (v:=u) (m:=m) (cs:=cs) (l:=[]) (.inl ⟨.inl hu,rfl⟩) rfl;obtain⟨G2,I2,K2,A2,F2⟩:=qg3 (vs:=vs) (n:=n+1) I1 (λr hr ha=>by
    rcases ha with h1|h1
    · exact hn r (by omega) h1
    · omega) (K1.avs _ H.2)
   exact⟨G2,I2,K1.trans K2,⟨K2.av _ A1,A2⟩,F2⟩
  |_=>exact other rfl
theorem box_set(I:Inv w0 S0 w G h){r:Nat}{cs ws:List AV}(hr:h r=.box cs)(H:∀b c ty fz,G.φ r=.pointer (some ⟨b,0,none⟩)->w.heap[b]? =some (.cells c ty fz)->AVReps w G h c.toList ws):Inv w0 S0 w G (upd h r (.box ws))/\Keep w w G G h (upd h r (.box ws)):=by
 have S:Step w w G G h (upd h r (.box ws)) (λx=>x=r):=by refine⟨rfl,rfl,rfl,Nat.le_refl _,λ_ _ _=>rfl,λb x hx=>.inl ⟨x,hx⟩,I.cells,rfl,rfl,λ_ h=>h,λr' hr'=>⟨upd_ne _ _ hr',rfl,λb p hb=>⟨hb,rfl⟩,λb p hb=>hb⟩,λr' hr' _=>?_⟩;subst hr';rw[upd_same,hr];rfl
 refine⟨S.inv I λr' hr'=>?_,S.keep I⟩;subst hr';rw[upd_same];have R:=I.rep r';rw[hr]at R;obtain⟨ha,b,c,ty,fz,g1,g2,g3,_,g5⟩:=R;exact⟨ha,b,c,ty,fz,g1,g2,g3,(S.keep I).avs _ (H b c ty fz g1 g3),g5⟩
theorem qwi(I:Inv w0 S0 w G h){n r:Nat}(hn:∀r,n<=r->¬G.al r){cs:List AV}(hr:h r=.box cs):∃G',Inv w0 S0 w G' (upd (nlFix h n cs).2.1 r (.box (nlFix h n cs).1))/\Keep w w G G' h (upd (nlFix h n cs).2.1 r (.box (nlFix h n cs).1))/\(∀x,(nlFix h n cs).2.2<=x->¬G'.al x):=by
 have R:=I.rep r;rw[hr]at R;obtain⟨ha,b,c,ty,fz,g1,g2,g3,g4,g5⟩:=R;obtain⟨G1,I1,K1,A1,F1⟩:=qg3 I hn g4;have t:=(K1.al r ha).2;rw[hr]at t;cases e:(nlFix h n cs).2.1 r with
 |dead=>
  exfalso;have:∀{vs:List AV}{h:Hp}{n r:Nat},(nlFix h n vs).2.1 r=.dead->h r=.dead:=by
   intro vs;induction vs with
   |nil=>intro h n r e;exact e
   |cons v vs ih=>
    intro h n r e;cases v with
    |nl m cs=>
     have:=ih (h:=upd h n (.row m cs [] 0 false)) (n:=n+1) e;by_cases e2:r=n;· subst e2;rw[upd_same]at this;cases this
     · rw[upd_ne _ _ e2]at this;exact this
    |_=>exact ih (h:=h) (n:=n) e
  rw[this e]at hr;cases hr
 |row _ _ _ _ _=>rw[e]at t;exact t.elim
 |box ds=>rw[e]at t;obtain⟨I2,K2⟩:=box_set I1 e (ws:=(nlFix h n cs).1) (λb' c' ty' fz' k1 k2=>by rw[show G1.φ r=G.φ r from t,g1]at k1;cases k1;rw[g3]at k2;cases k2;exact A1);exact⟨G1,I2,K1.trans K2,F1⟩
theorem qcg:∀{rs:List Nat}{h:Hp}{G:Gh}{n:Nat},Inv w0 S0 w G h->(∀r,n<=r->¬G.al r)->∃G',Inv w0 S0 w G' (qbk h n rs).2.1/\Keep w w G G' h (qbk h n rs).2.1/\(∀r,(qbk h n rs).2.2<=r->¬G'.al r)
|[],h,G,n,I,hn=>⟨G,I,Keep.refl _ _ _,hn⟩
|r::rs,h,G,n,I,hn=>by
 cases e:h r with
 |box cs=>obtain⟨G1,I1,K1,F1⟩:=qwi I hn e;obtain⟨G2,I2,K2,F2⟩:=qcg (rs:=rs) I1 F1;simp only[qbk,e];exact⟨G2,I2,K1.trans K2,F2⟩
 |dead=>obtain⟨G2,I2,K2,F2⟩:=qcg (rs:=rs) I hn;simp only[qbk,e];exact⟨G2,I2,K2,F2⟩
 |row _ _ _ _ _=>obtain⟨G2,I2,K2,F2⟩:=qcg (rs:=rs) I hn;simp only[qbk,e];exact⟨G2,I2,K2,F2⟩
theorem qbn{r:Nat}:∀{ks:List Nat},memN r ks=true↔r∈ks
|[]=>by simp[memN]
|k::ks=>by
 simp only[memN,Bool.or_eq_true,qbn (ks:=ks),List.mem_cons];constructor
 ·rintro(h|h);· exact .inl (Nat.eq_of_beq_eq_true h)
  · exact .inr h
 ·rintro(rfl|h);· exact .inl (Nat.beq_refl _)
  · exact .inr h
structure SeenOk(base:Nat)(seen:List Nat):Prop where
 ge:∀r∈seen,base<=r
 nodup:seen.Nodup
theorem SeenOk.snoc{r:Nat}(H:SeenOk base seen)(h1:base<=r)(h2:r∉seen):SeenOk base (seen++[r]):=by
 refine⟨λx hx=>?_,?_⟩
 ·rcases List.mem_append.1 hx with h|h
  · exact H.ge x h
  · simp at h;omega
 · rw[List.nodup_append];refine⟨H.nodup,by simp,λa ha b hb e=>?_⟩;simp at hb;subst hb;subst e;exact h2 ha
theorem qtk{d:Dfs}{r:Nat}{vs:List AV}(I:Inv w0 S0 w G d.h)(hn:∀r,d.n<=r->¬G.al r)(hS:SeenOk base d.seen):∃G',Inv w0 S0 w G' (visit base d r vs).2.h/\Keep w w G G' d.h (visit base d r vs).2.h/\(∀x,(visit base d r vs).2.n<=x->¬G'.al x)/\SeenOk base (visit base d r vs).2.seen:=by
 unfold visit;cases hb:(Nat.blt r base||memN r d.seen)with
 |true=>exact⟨G,I,Keep.refl _ _ _,hn,hS⟩
 |false=>
  rw[Bool.or_eq_false_iff]at hb;have h1:base<=r:=by
   have:¬(Nat.blt r base=true):=by rw[hb.1];simp
   simp at this;omega
  have h2:r∉d.seen:=λhm=>by have:=qbn.2 hm;rw[hb.2]at this;cases this
  simp only[cond_false];cases e:d.h r with
  |box cs=>obtain⟨G1,I1,K1,F1⟩:=qwi I hn e;exact⟨G1,I1,K1,F1,hS.snoc h1 h2⟩
  |dead=>exact⟨G,I,Keep.refl _ _ _,hn,hS.snoc h1 h2⟩
  |row _ _ _ _ _=>exact⟨G,I,Keep.refl _ _ _,hn,hS.snoc h1 h2⟩
theorem qpp:∀(f:Nat){vs:List AV}{d:Dfs}{G:Gh},Inv w0 S0 w G d.h->(∀r,d.n<=r->¬G.al r)->SeenOk base d.seen->∃G',Inv w0 S0 w G' (dfs base f vs d).h/\Keep w w G G' d.h (dfs base f vs d).h/\SeenOk base (dfs base f vs d).seen
|0,vs,d,G,I,hn,hS=>⟨G,I,Keep.refl _ _ _,hS⟩
|f+1,[],d,G,I,hn,hS=>⟨G,I,Keep.refl _ _ _,hS⟩
|f+1,v::vs,d,G,I,hn,hS=>by
 have vis:∀r,dfs base (f+1) (v::vs) d=dfs base f (visit base d r vs).1 (visit base d r vs).2->∃G',Inv w0 S0 w G' (dfs base (f+1) (v::vs) d).h/\Keep w w G G' d.h (dfs base (f+1) (v::vs) d).h/\SeenOk base (dfs base (f+1) (v::vs) d).seen:=by intro r e;rw[e];obtain⟨G1,I1,K1,F1,S1⟩:=qtk (r:=r) (vs:=vs) I hn hS;obtain⟨G2,I2,K2,S2⟩:=qpp f (vs:=(visit base d r vs).1) I1 F1 S1;exact⟨G2,I2,K1.trans K2,S2⟩
 cases v with
 |rf r _ _ _=>exact vis r rfl
 |rp r _ _ _ _=>exact vis r rfl
 |bp r _=>exact vis r rfl
 |_=>exact qpp f I hn hS
end
section
variable{w0 w w':World}{S0:Nat->Prop}{G G':Gh}{h h':Hp}{base:Nat}{seen:List Nat}{nt:Nat}
def isBlk(r:Nat):Lab->Bool
|.blk r' _=>Nat.beq r' r
|.tmp _ _=>false
theorem frz_row(I:Inv w0 S0 w G h){r:Nat}{m:Bool}{cs:List CT}{l:List T}{v:Nat}{e:Bool}{u:Value}{ver:Nat}(hr:h r=.row m cs l v e)(hu:AVRep w G h u (.rf r [] ver none))(he:(e&&qao cs)=false):∃G',Inv w0 S0 w G' (upd h r .dead)/\Keep w w G G' h (upd h r .dead)/\AVRep w G' (upd h r .dead) u (.ro 0 m cs l)/\G'.al=G.al:=by
 obtain⟨I1,K1⟩:=qrd (h':=upd h r .dead) I (isBlk r) (λx=>x=r) (λx hx=>by subst hx;exact⟨upd_same _ _ _,λp=>Nat.beq_refl _⟩) (λx hx=>⟨upd_ne _ _ hx,λp=>by
  simp only[isBlk];cases e:Nat.beq x r with
  |false=>rfl
  |true=>exact absurd (Nat.eq_of_beq_eq_true e) hx⟩)
 refine⟨_,I1,K1,?_,rfl⟩;have R:=I.rep r;rw[hr]at R;obtain⟨_,R1,R2⟩:=R;have hφ:u=G.φ r:=by have:=hu.2.2;rw[hr]at this;obtain⟨_,hv,m',cs',l',g1,_,_,g4⟩:=this.imp id (λf=>f (.inl rfl));cases g1;exact g4
 refine⟨?_,?_,λhf=>absurd rfl hf⟩;· rw[hφ];exact RowRep.moved (M:=G.own.m r) (π:=[]) (π':=[]) ⟨λhf=>False.elim hf,λb ρ hb=>⟨.inr ⟨_,hb,by simp[isBlk]⟩,rfl⟩⟩ R1
 ·cases e with
  |false=>exact R2 rfl
  |true=>
   simp only[Bool.true_and]at he;rcases R1 with⟨_,rfl⟩|⟨b,off,cap,c,ty,fz,_,_,_,_,_,hE⟩
   · rfl
   · rw[qbr,List.all_eq_true];intro x hx;obtain⟨k,hk,rfl⟩:=List.mem_iff_getElem.1 hx;exact((qa5 l 0).1 hE k hk).flat he
theorem qm1{a:Act}{s:Nat->AV}(hs:∀t,AVRep w G h (a.tmps.getD t undef) (s t))(K:Keep w w G G' h h'){t:Nat}{v:AV}(hv:AVRep w G' h' (a.tmps.getD t undef) v):∀t',AVRep w G' h' (a.tmps.getD t' undef) (upd s t v t'):=by
 intro t';by_cases e:t'=t;· subst e;rw[upd_same];exact hv
 · rw[upd_ne _ _ e];exact K.av _ (hs t')
theorem qpw{st:St}{a:Act}(I:Inv w0 S0 w G st.h)(hs:∀t,AVRep w G st.h (a.tmps.getD t undef) (st.s t))(t k:Nat):∃G',Inv w0 S0 w G' (qfq st t k).h/\(∀t',AVRep w G' (qfq st t k).h (a.tmps.getD t' undef) ((qfq st t k).s t'))/\Keep w w G G' st.h (qfq st t k).h/\G'.al=G.al/\(qfq st t k).n=st.n:=by
 have same:∃G',Inv w0 S0 w G' st.h/\(∀t',AVRep w G' st.h (a.tmps.getD t' undef) (st.s t'))/\Keep w w G G' st.h st.h/\G'.al=G.al/\st.n=st.n:=⟨G,I,hs,Keep.refl _ _ _,rfl,rfl⟩;unfold qfq;split
 ·rename_i r v hst;have hu:=hs t;rw[hst]at hu;split
  ·rename_i m cs l w1 e hr;split
   ·cases he:(e&&qao cs)with
    |true=>exact same
    |false=>obtain⟨G1,I1,K1,A1,E1⟩:=frz_row I hr hu he;exact⟨G1,I1,qm1 hs K1 A1,K1,E1,rfl⟩
   ·have S:Step w w G G st.h (upd st.h r (.row m cs l w1 true)) (λx=>x=r):=by refine⟨rfl,rfl,rfl,Nat.le_refl _,λ_ _ _=>rfl,λb x hx=>.inl ⟨x,hx⟩,I.cells,rfl,rfl,λ_ h=>h,λr' hr'=>⟨upd_ne _ _ hr',rfl,λb p hb=>⟨hb,rfl⟩,λb p hb=>hb⟩,λr' hr' _=>?_⟩;subst hr';rw[upd_same,hr];exact⟨rfl,rfl,rfl,.inl ⟨rfl,rfl,λb p hb=>⟨hb,rfl⟩⟩⟩
    refine⟨G,S.inv I λr' hr'=>?_,λt'=>(S.keep I).av _ (hs t'),S.keep I,rfl,rfl⟩;subst hr';show qs8 w G (upd st.h r' (.row m cs l w1 true)) r' (upd st.h r' (.row m cs l w1 true) r');rw[upd_same];have R:=I.rep r';rw[hr]at R;exact⟨R.1,R.2.1,λhf=>by cases hf⟩
   ·refine⟨G,I,qm1 hs (Keep.refl _ _ _) ?_,Keep.refl _ _ _,rfl,rfl⟩;obtain⟨h1,h2,h3⟩:=hu;refine⟨h1,h2,?_⟩;rw[hr]at h3|-;refine⟨h3.1,λhp=>?_⟩;obtain⟨hv,m',cs',l',g1,g2,g3,g4⟩:=h3.2 hp;cases g1;have R:=I.rep r;rw[hr]at R;refine⟨_,m',cs',l',rfl,g2,g3,?_⟩;have g4:a.tmps.getD t undef=G.φ r:=g4;rw[g4];rcases R.2.1 with⟨hn,hl⟩|⟨b,off,cap,c,ty,fz,e1,e2,e3,e4,e5,e6⟩
    ·left;rcases hn with hn|⟨hf,_⟩
     · exact⟨hn,rfl,by rw[hl];rfl,hn⟩
     · exact False.elim hf
    · right;exact⟨b,off,l.length,cap,off,cap,e1,by omega,by omega,e1,.inl ⟨by omega,by omega⟩⟩
  · exact same
 ·rename_i m cs hst;split;· refine⟨G,I,qm1 hs (Keep.refl _ _ _) ?_,Keep.refl _ _ _,rfl,rfl⟩;have hu:=hs t;rw[hst]at hu;exact⟨.inl ⟨.inl hu,rfl⟩,rfl,λhf=>absurd rfl hf⟩
  · exact same
 · exact same
theorem qlj:∀(co:List (Nat×Nat)){st:St}{a:Act}{G:Gh},Inv w0 S0 w G st.h->(∀t,AVRep w G st.h (a.tmps.getD t undef) (st.s t))->∃G',Inv w0 S0 w G' (coerce co st).h/\(∀t',AVRep w G' (coerce co st).h (a.tmps.getD t' undef) ((coerce co st).s t'))/\Keep w w G G' st.h (coerce co st).h/\G'.al=G.al/\(coerce co st).n=st.n
|[],st,a,G,I,hs=>⟨G,I,hs,Keep.refl _ _ _,rfl,rfl⟩
|(t,k)::co,st,a,G,I,hs=>by obtain⟨G1,I1,hs1,K1,A1,N1⟩:=qpw I hs t k;obtain⟨G2,I2,hs2,K2,A2,N2⟩:=qlj co I1 hs1;exact⟨G2,I2,hs2,K1.trans K2,A2.trans A1,N2.trans N1⟩
theorem qex{α β:Type}(f:α->β):∀l:List α,mapL f l=l.map f
|[]=>rfl
|x::l=>by rw[mapL,qex f l];rfl
theorem qh3:∀n:Nat,upto n=List.range n
|0=>rfl
|n+1=>by rw[upto,qh3 n,List.range_succ]
theorem qgu:∀(l:List Blk)(i:Nat),atL l i=l.getD i .dead
|[],i=>by simp[atL]
|b::l,0=>rfl
|b::l,i+1=>by rw[atL,qgu l i];simp
theorem qnx{a:Act}:∀{live:List Nat}{vs:List AV},AVReps w G h (live.map λt=>a.tmps.getD t undef) vs->∀t,AVRep w G h (a.tmps.getD t undef) (lookA live vs t)
|[],vs,_,t=>by cases vs<;>exact trivial
|k::ks,vs,H,t=>by
 cases vs with
 |nil=>exact trivial
 |cons v vs=>
  simp only[lookA];cases e:Nat.beq k t with
  |true=>have:=Nat.eq_of_beq_eq_true e;subst this;exact H.1
  |false=>exact qnx H.2 t
theorem qkr{a:Act}{s:Nat->AV}(hs:∀t,AVRep w G h (a.tmps.getD t undef) (s t)):∀live:List Nat,AVReps w G h (live.map λt=>a.tmps.getD t undef) (mapL s live)
|[]=>trivial
|t::live=>⟨hs t,qkr hs live⟩
structure RelC(w0:World)(S0:Nat->Prop)(nt:Nat)(c:CSt)(lv:List Nat)(a:Act)(w:World)(G:Gh):Prop where
 inv:Inv w0 S0 w G (atL c.h)
 vals:AVReps w G (atL c.h) (lv.map λt=>a.tmps.getD t undef) c.s
 al:∀r,G.al r->r<c.h.length
 size:a.tmps.size=nt
 defers:a.defers=[]
theorem RelC.rel{c:CSt}{lv:List Nat}{a:Act}(R:RelC w0 S0 nt c lv a w G):Rel w0 S0 nt (c.st lv) a w G:=⟨R.inv,qnx R.vals,R.al,R.size,R.defers⟩
theorem qk3(co:List (Nat×Nat))(live:List Nat)(base:Nat){st:St}{a:Act}(R:Rel w0 S0 nt st a w G):∃G',RelC w0 S0 nt (canon co live base st) live a w G'/\base<=(canon co live base st).h.length/\KeepB base G G' st.h (atL (canon co live base st).h):=by
 obtain⟨G1,I1,hs1,K1,A1,N1⟩:=qlj co R.inv R.slots;have F1:∀r,(coerce co st).n<=r->¬G1.al r:=λr hr ha=>by rw[A1]at ha;have:=R.al r ha;omega
 obtain⟨G2,I2,K2,V2,F2⟩:=qg3 I1 F1 (qkr hs1 live);obtain⟨G3,I3,K3,F3⟩:=qcg (rs:=upto base) I2 F2;generalize hnl:nlFix (coerce co st).h (coerce co st).n (mapL (coerce co st).s live)=nl at*;obtain⟨vs,hA,nA⟩:=nl;simp only at I2 K2 V2 F2 I3 K3 F3;generalize hbb:qbk hA nA (upto base)=bb at*;obtain⟨ws,hB,nB⟩:=bb;simp only at I3 K3 F3;obtain⟨G4,I4,K4,S4⟩:=qpp (base:=base) 100000 (vs:=ws++vs) (d:=⟨hB,nB,[]⟩) I3 F3 ⟨λ_ h=>by simp at h,List.nodup_nil⟩;have hcan:canon co live base st=⟨renAs (dfs base 100000 (ws++vs) ⟨hB,nB,[]⟩).h base (dfs base 100000 (ws++vs) ⟨hB,nB,[]⟩).seen vs,mapL (λr=>renB (dfs base 100000 (ws++vs) ⟨hB,nB,[]⟩).h base (dfs base 100000 (ws++vs) ⟨hB,nB,[]⟩).seen ((dfs base 100000 (ws++vs) ⟨hB,nB,[]⟩).h r)) (upto base++(dfs base 100000 (ws++vs) ⟨hB,nB,[]⟩).seen)⟩:=by unfold canon;simp only[hnl,hbb]
 rw[hcan];clear hcan;generalize dfs base 100000 (ws++vs) ⟨hB,nB,[]⟩=d at*;obtain⟨hC,nC,seen⟩:=d;simp only at I4 K4 S4|-;have V4:=(K3.trans K4).avs _ V2;have hlen:(mapL (λr=>renB hC base seen (hC r)) (upto base++seen)).length=base+seen.length:=by rw[qex];simp[qh3]
 have hat:∀x,x<base+seen.length->atL (mapL (λr=>renB hC base seen (hC r)) (upto base++seen)) x=renB hC base seen (hC (oldN base seen x)):=by
  intro x hx;rw[qgu,qex,List.getD_eq_getElem?_getD,List.getElem?_map,qh3];unfold oldN;by_cases hb:x<base;· rw[if_pos hb,List.getElem?_append_left (by simpa using hb),List.getElem?_range hb];rfl
  · rw[if_neg hb,List.getElem?_append_right (by simpa using hb)];simp only[List.length_range];rw[List.getElem?_eq_getElem (by omega),List.getD_eq_getElem?_getD,List.getElem?_eq_getElem (by omega)];rfl
 have hat':∀x,base+seen.length<=x->atL (mapL (λr=>renB hC base seen (hC r)) (upto base++seen)) x=.dead:=by intro x hx;rw[qgu,List.getD_eq_getElem?_getD,List.getElem?_eq_none (by rw[hlen];exact hx)];rfl
 have hren:∀x,x<base+seen.length->renN base seen (oldN base seen x)=some x:=by
  intro x hx;unfold oldN renN;by_cases hb:x<base
  ·rw[if_pos hb];have:Nat.blt x base=true:=by simpa using hb
   rw[this];rfl
  ·rw[if_neg hb];have hj:x-base<seen.length:=by omega
   have e:seen.getD (x-base) 0=seen[x-base]:=by rw[List.getD_eq_getElem?_getD,List.getElem?_eq_getElem hj];rfl
   rw[e];have hge:=S4.ge seen[x-base] (List.getElem_mem hj);have:Nat.blt seen[x-base] base=false:=by
    cases e2:Nat.blt seen[x-base] base with
    |false=>rfl
    |true=>
     have:seen[x-base]<base:=by simpa using e2
     omega
   rw[this];simp only[cond_false];have key:∀{ks:List Nat}{j i:Nat},ks.Nodup->(hj:j<ks.length)->idxN ks[j] ks i=some (i+j):=by
    intro ks;induction ks with
    |nil=>intro j i _ hj;simp at hj
    |cons k ks ih=>
     intro j i hn hj;rw[List.nodup_cons]at hn;cases j with
     |zero=>simp[idxN]
     |succ j=>
      simp only[List.getElem_cons_succ,idxN];have hj':j<ks.length:=by simpa using hj
      have hne:Nat.beq ks[j] k=false:=by
       cases e2:Nat.beq ks[j] k with
       |false=>rfl
       |true=>exact absurd (Nat.eq_of_beq_eq_true e2▸List.getElem_mem hj') hn.1
      rw[hne,cond_false,ih hn.2 hj'];congr 1;omega
   rw[key S4.nodup hj];congr 1;omega
 have hh:∀r x,renN base seen r=some x->atL (mapL (λr=>renB hC base seen (hC r)) (upto base++seen)) x=renB hC base seen (hC r):=by intro r x hx;obtain⟨h1,h2⟩:=qd5 hx;rw[hat x h2,h1]
 have I5:=qty (base:=base) (seen:=seen) (h':=atL (mapL (λr=>renB hC base seen (hC r)) (upto base++seen))) I4 hh (λx hx=>by
  by_cases hlt:x<base+seen.length;· exact hren x hlt
  · exact absurd (hat' x (by omega)) hx)
 have KB:=((K1.trans K2).trans (K3.trans K4)).b base;refine⟨G4.ren base seen,⟨I5,qfi hh vs V4,λr hr=>?_,R.size,R.defers⟩,?_,KB.trans ⟨λ_ h=>h,rfl,λr hr ha=>?_⟩⟩;· show r<(mapL (λr=>renB hC base seen (hC r)) (upto base++seen)).length;rw[hlen];exact hr.1
 · show base<=(mapL (λr=>renB hC base seen (hC r)) (upto base++seen)).length;rw[hlen];omega
 ·have ho:oldN base seen r=r:=by unfold oldN;rw[if_pos hr]
  refine⟨⟨by omega,by rw[ho];exact ha⟩,?_,λ_=>by show G4.φ (oldN base seen r)=_;rw[ho]⟩;show TurnB (hC r) (atL (mapL (λr=>renB hC base seen (hC r)) (upto base++seen)) r);rw[hat r (by omega),ho];cases hC r with
  |dead=>trivial
  |box _=>trivial
  |row _ _ _ _ _=>exact⟨rfl,rfl⟩
end
end Go.Proofs.YtcfpgocffglbhaaGreatDoorV
