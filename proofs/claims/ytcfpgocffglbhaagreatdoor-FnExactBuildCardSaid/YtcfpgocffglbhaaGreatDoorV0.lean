/- A part of an evaluator of loaded Go code over values, with its soundness; no condition of its own. -/
import Derived.Calls
import Derived.Laws.Sem
import Derived.Laws.StructEq
import Derived.Laws.Strings
import Derived.Laws.Tables
import Derived.DataReads
set_option linter.unusedVariables false
set_option linter.constructorNameAsVariable false
set_option linter.unusedSimpArgs false
set_option linter.unnecessarySimpa false
namespace Go.Proofs.YtcfpgocffglbhaaGreatDoorV
inductive CT where|b|i (k:IntKind)|s|sl (m:Bool) (cs:List CT)|o
 deriving Inhabited
inductive T where|u|b (x:Bool)|i (k:IntKind) (n:Int)|s (x:ByteArray)|sl (l:List T)|st (l:List T)
 deriving Inhabited
def asB:T->Bool|.b x=>x|_=>false
def asI:T->Int|.i _ n=>n|_=>0
def asS:T->ByteArray|.s x=>x|_=>⟨#[]⟩
def asL:T->List T|.sl l=>l|_=>[]
def T.cell:T->Nat->T|.st l,j=>l.getD j .u|_,_=>.u
def T.setc:T->Nat->T->T|.st l,j,v=>.st (l.set j v)|x,_,_=>x
def nth(r:List T)(i:Nat):T:=r.getD i .u
def elc(m:Bool)(x:T)(j:Nat):T:=match m with|true=>T.cell x j|false=>x
def els(m:Bool)(x:T)(j:Nat)(v:T):T:=match m with|true=>T.setc x j v|false=>v
def qae(s:ByteArray)(i:Int):Int:=((s.toList.getD i.toNat 0).toNat:Int)
def qb7(s:ByteArray):List T:=s.toList.map λc=>T.i .u8 (c.toNat:Int)
def bytesOf(l:List T):ByteArray:=⟨(l.map λx=>UInt8.ofNat (asI x).toNat).toArray⟩
def inR(i:Int)(n:Nat):Bool:=decide (0<=i)&&decide (i<(n:Int))
def imax(x y:Int):Int:=if y>x then y else x
def imin(x y:Int):Int:=if y<x then y else x
def LIM:Nat:=68719476736
def splice(l:List T)(off:Nat)(xs:List T):List T:=l.take off++xs++l.drop (off+xs.length)
abbrev Path:=List (Nat×Nat)
abbrev Sub:=Option (Nat×Nat)
inductive AV where
|z|u|un
|b (x:Bool)|i (k:IntKind) (n:Int)|s (x:ByteArray)
|nl (m:Bool) (cs:List CT)
|ro (k:Nat) (m:Bool) (cs:List CT) (l:List T)
|rf (r:Nat) (p:Path) (v:Nat) (sub:Sub)
|bp (r j:Nat)
|rp (r:Nat) (p:Path) (v i j:Nat)
|cp (m:Bool) (cs:List CT) (x:T) (j:Nat)
|ag (cs:List AV)|tu (vs:List AV)
|fn (f:Nat) (caps:List AV)
|np
|mp (l:List T)
 deriving Inhabited
inductive Blk where
|dead
|box (cs:List AV)
|row (m:Bool) (cs:List CT) (l:List T) (v:Nat) (hole:Bool)
 deriving Inhabited
structure St where
 s:Nat->AV
 h:Nat->Blk
 n:Nat
inductive PD where|v (c:CT)|ro (c:CT)|ow (c:CT)|mv (c:CT)|ag (l:List PD)|bx (l:List PD)|fn (f:Nat)
 deriving Inhabited
inductive TD where
|sl (e:Nat)
|st (fs:List (Nat×Nat))
|o
 deriving Inhabited
structure Ti where
 agg:Bool
 cs:List CT
 d:TD
 deriving Inhabited
inductive Ex where|nrm|ret|ex (id:Nat)
structure CSt where
 s:List AV
 h:List Blk
structure Lp where
 r:Nat
 lv:List Nat
 co:List (Nat×Nat)
 cx:List (CSt×List (Ex×List Nat×CSt))
structure Fi where
 fn:Func
 live:List Lp
 inl:Bool
 ps:List PD
 rs:List PD
structure Env where
 fi:Nat->Option Fi
 ty:Nat->Option Ti
def isC:AV->Bool
|.z|.un|.ag _|.tu _=>false
|_=>true
def upd{α:Type}(f:Nat->α)(r:Nat)(x:α):Nat->α:=λk=>bif Nat.beq k r then x else f k
def updO{α:Type}(f:Nat->α)(r:Option Nat)(x:α):Nat->α:=match r with|some r=>upd f r x|none=>f
def St.put(st:St)(d:Option Nat)(v:AV):St:={st with s:=updO st.s d v}
def CT.beq:CT->CT->Bool
|.b,.b|.s,.s|.o,.o=>true
|.i k,.i k'=>k=k'
|.sl m cs,.sl m' cs'=>(m==m')&&go cs cs'
|_,_=>false
where
 go:List CT->List CT->Bool
 |[],[]=>true
 |c::cs,d::ds=>CT.beq c d&&go cs ds
 |_,_=>false
def CT.isSl:CT->Bool|.sl .. =>true|_=>false
def qeb:CT->Option AV
|.b=>some (.b false)
|.i k=>some (.i k 0)
|.s=>some (.s ⟨#[]⟩)
|.sl m cs=>some (.nl m cs)
|.o=>some .np
def tZero:CT->Option T
|.b=>some (.b false)
|.i k=>some (.i k 0)
|.s=>some (.s ⟨#[]⟩)
|.sl _ _=>some (.sl [])
|.o=>none
def coe:CT->T->AV
|.b,x=>.b (asB x)
|.i k,x=>.i k (asI x)
|.s,x=>.s (asS x)
|.sl m cs,x=>.ro 0 m cs (asL x)
|.o,_=>.z
def coz(r:Nat)(p:Path)(v i j:Nat):CT->T->AV
|.sl _ _,_=>.rf r (p++[(i,j)]) v none
|c,x=>coe c x
def mapO{α β:Type}(f:α->Option β):List α->Option (List β)
|[]=>some []
|x::l=>match f x with|none=>none|some y=>match mapO f l with|none=>none|some ys=>some (y::ys)
def qmv(c:Option CT):Value->AV
|.bool x=>.b x
|.int k n=>.i k n
|.string x=>.s x
|.slice none 0 0=>match c with|some (.sl m cs)=>.nl m cs|_=>.z
|.pointer none=>.np
|.nilFunc=>.np
|_=>.z
def Env.ct(E:Env)(t:Nat):Option CT:=match E.ty t with|some ⟨false,[c],_⟩=>some c|_=>none
def opd(s:Nat->AV)(c:Option CT):Operand->AV
|.tmp t=>s t
|.const v=>qmv c v
|.func f=>.fn f []
|.global _=>.z
def navR:Path->Bool->List CT->List T->Option (Bool×List CT×List T)
|[],m,cs,l=>some (m,cs,l)
|(i,j)::p,m,cs,l=>match cs[j]? with
 |some (.sl m' cs')=>navR p m' cs' (asL (elc m (l.getD i .u) j))
 |_=>none
def updR:Path->Bool->List CT->List T->(List T->List T)->List T
|[],_,_,l,f=>f l
|(i,j)::p,m,cs,l,f=>match cs[j]? with
 |some (.sl m' cs')=>l.set i (els m (l.getD i .u) j (.sl (updR p m' cs' (asL (elc m (l.getD i .u) j)) f)))
 |_=>l
def rowAt(h:Nat->Blk)(r:Nat)(p:Path)(v:Nat):Option (Bool×List CT×List T):=
 match h r with
 |.row m cs l v' _=>match p with
  |[]=>some (m,cs,l)
  |q::p=>bif Nat.beq v v' then navR (q::p) m cs l else none
 |_=>none
def subL(l:List T):Sub->List T
|none=>l
|some (o,n)=>(l.drop o).take n
def subN(l:List T):Sub->Nat
|none=>l.length
|some (_,n)=>n
def subO:Sub->Nat
|none=>0
|some (o,_)=>o
def addO(s:Sub)(n:Nat):Nat:=match s with|none=>n|some (o,_)=>o+n
def cont(h:Nat->Blk):AV->Option (Bool×List CT×List T)
|.nl m cs=>some (m,cs,[])
|.ro _ m cs l=>some (m,cs,l)
|.rf r p v sub=>match rowAt h r p v with|some (m,cs,l)=>some (m,cs,subL l sub)|none=>none
|_=>none
def slen(h:Nat->Blk):AV->Option Nat
|.nl _ _=>some 0
|.ro _ _ _ l=>some l.length
|.rf r p v sub=>match rowAt h r p v with|some (_,_,l)=>some (subN l sub)|none=>none
|_=>none
def holed(h:Nat->Blk):AV->Bool
|.rf r _ _ _=>match h r with|.row _ _ _ _ e=>e|_=>true
|_=>false
def qao(cs:List CT):Bool:=cs.any CT.isSl
def killR(h:Nat->Blk)(r:Nat)(p:Path):Nat->Blk:=
 match h r with
 |.row m cs l v _=>match p.getLast? with
  |none=>upd h r .dead
  |some (i,j)=>match navR p.dropLast m cs l with
   |some (m',_,_)=>upd h r (.row m cs (updR p.dropLast m cs l λq=>q.set i (els m' (q.getD i .u) j .u)) (v+1) true)
   |none=>upd h r .dead
 |_=>h
def scal:CT->AV->Option T
|.b,.b x=>some (.b x)
|.i k,.i k' n=>if k=k' then some (.i k n)else none
|.s,.s x=>some (.s x)
|_,_=>none
mutual
def okC:CT->T->Bool
|.sl m cs,.sl l=>okL m cs l
|.sl _ _,_=>false
|_,_=>true
def okL(m:Bool)(cs:List CT):List T->Bool
|[]=>true
|x::l=>(match m,x with
 |true,.st xs=>okCs cs xs
 |true,_=>false
 |false,x=>match cs with|[c]=>okC c x|_=>false)&&okL m cs l
def okCs:List CT->List T->Bool
|[],[]=>true
|c::cs,x::xs=>okC c x&&okCs cs xs
|_,_=>false
end
def hchk(h:Nat->Blk)(v:AV)(m:Bool)(cs:List CT)(l:List T):Bool:=bif qao cs&&holed h v then okL m cs l else true
def sink(h:Nat->Blk)(c:CT)(v:AV):Option (T×(Nat->Blk)×Bool):=
 match c with
 |.sl m cs=>match v with
  |.nl _ _=>some (.sl [],h,true)
  |.rf r p w sub=>match cont h (.rf r p w sub)with
   |some (m',cs',l)=>bif CT.beq (.sl m cs) (.sl m' cs')then some (.sl l,killR h r p,hchk h (.rf r p w sub) m cs l)else none
   |none=>none
  |_=>none
 |c=>match scal c v with|some t=>some (t,h,true)|none=>none
def sinks(h:Nat->Blk):List CT->List AV->Option (List T×(Nat->Blk)×Bool)
|[],[]=>some ([],h,true)
|c::cs,v::vs=>match sink h c v with
 |some (t,h,b)=>match sinks h cs vs with|some (ts,h,b')=>some (t::ts,h,b&&b')|none=>none
 |none=>none
|_,_=>none
def readT(h:Nat->Blk)(c:CT)(v:AV):Option (T×Bool):=
 match c with
 |.sl m cs=>match cont h v with
  |some (m',cs',l)=>bif CT.beq (.sl m cs) (.sl m' cs')then some (.sl l,hchk h v m cs l)else none
  |none=>none
 |c=>match scal c v with|some t=>some (t,true)|none=>none
def qai:AV->List AV
|.ag cs=>cs
|v=>[v]
def qdd(agg:Bool)(vs:List AV):Option AV:=
 match agg with
 |true=>some (.ag vs)
 |false=>match vs with|[v]=>some v|_=>none
def elem(m:Bool)(ts:List T):Option T:=
 match m with
 |true=>some (.st ts)
 |false=>match ts with|[t]=>some t|_=>none
def qd2:List CT->List CT->Bool
|[],[]=>true
|c::cs,d::ds=>CT.beq c d&&qd2 cs ds
|_,_=>false
def qam{α:Type}(l:List α)(j n:Nat):List α:=(l.drop j).take n
def loadV(ti:Ti)(h:Nat->Blk):AV->Option AV
|.bp r j=>match h r with
 |.box cs=>let vs:=qam cs j ti.cs.length;bif Nat.beq vs.length ti.cs.length then qdd ti.agg vs else none
 |_=>none
|.rp r p v i j=>match h r with
 |.row _ _ _ v' _=>match rowAt h r p v with
  |some (m,cs,l)=>bif qd2 (qam cs j ti.cs.length) ti.cs then qdd ti.agg (ti.cs.mapIdx λk c=>coz r p v' i (j+k) c (elc m (l.getD i .u) (j+k)))else none
  |none=>none
 |_=>none
|.cp m cs x j=>bif qd2 (qam cs j ti.cs.length) ti.cs then qdd ti.agg (ti.cs.mapIdx λk c=>coe c (elc m x (j+k)))else none
|_=>none
def qfm(m:Bool)(x:T):Nat->List CT->Bool
|_,[]=>true
|j,.sl n ds::cs=>okC (.sl n ds) (elc m x j)&&qfm m x (j+1) cs
|j,_::cs=>qfm m x (j+1) cs
def qla(ti:Ti)(h:Nat->Blk):AV->Bool
|.rp r p v i j=>match h r with
 |.row _ _ _ _ e=>match e&&qao ti.cs with
  |false=>true
  |true=>match rowAt h r p v with
   |some (m,_,l)=>qfm m (l.getD i .u) j ti.cs
   |none=>true
 |_=>true
|_=>true
def setCells{α:Type}(l:List α)(j:Nat)(vs:List α):List α:=l.take j++vs++l.drop (j+vs.length)
def qdj(m:Bool)(x:T):Nat->List T->T
|_,[]=>x
|j,t::ts=>qdj m (els m x j t) (j+1) ts
def newEl(m:Bool)(n:Nat)(x:T)(j:Nat)(ts:List T):T:=bif m&&Nat.beq j 0&&Nat.beq ts.length n then .st ts else qdj m x j ts
def qfb(ti:Ti)(h:Nat->Blk)(a v:AV):Option ((Nat->Blk)×Bool):=
 match a with
 |.bp r j=>match h r with
  |.box cs=>bif Nat.beq (qai v).length ti.cs.length&&Nat.ble (j+ti.cs.length) cs.length&&(qai v).all isC then some (upd h r (.box (setCells cs j (qai v))),true)else none
  |_=>none
 |.rp r p w i j=>match sinks h ti.cs (qai v)with
  |some (ts,h,b)=>match h r with
   |.row m cs l v' e=>match rowAt h r p w with
    |some (m',cs',_)=>bif qd2 (qam cs' j ti.cs.length) ti.cs then some (upd h r (.row m cs (updR p m cs l λq=>q.set i (newEl m' cs'.length (q.getD i .u) j ts)) (v'+1) e),b)else none
    |none=>none
   |_=>none
  |none=>none
 |_=>none
abbrev Hp:=Nat->Blk
inductive Stp where
|fail
|ret (v:AV) (h:Hp)
|chk (b:Bool) (s:Stp)
|call (f:Nat) (ts:List T) (k:List T->AV×Hp)
|inl (f:Nat) (args:List AV)
def intBits(o:BinOp)(k:IntKind)(x y:Int):Int:=
 let a:=BitVec.ofInt k.bits x;let b:=BitVec.ofInt k.bits y;match o with
 |.and=>k.wrap (a&&&b).toNat
 |.or=>k.wrap (a|||b).toNat
 |.xor=>k.wrap (a^^^b).toNat
 |_=>k.wrap (a&&& ~~~b).toNat
def cmpB(o:BinOp)(x y:Int):Option Bool:=
 match o with
 |.eql=>some (x==y)|.neq=>some (x !=y)|.lss=>some (decide (x<y))|.leq=>some (decide (x<=y))|.gtr=>some (decide (x>y))|.geq=>some (decide (x>=y))
 |_=>none
def qkt(o:BinOp)(k:IntKind)(x y:Int):Int:=
 match o with
 |.shl=>k.wrap (x*2^(min y.toNat k.bits))
 |_=>x.fdiv (2^(min y.toNat k.bits))
def strB(o:BinOp)(x y:ByteArray):Option Bool:=
 match o with
 |.eql=>some (x.toList==y.toList)|.neq=>some (!(x.toList==y.toList))
 |.lss=>some (Op.bytesLess x.toList y.toList)|.leq=>some (Op.bytesLess x.toList y.toList||x.toList==y.toList)
 |.gtr=>some (!(Op.bytesLess x.toList y.toList||x.toList==y.toList))|.geq=>some (!(Op.bytesLess x.toList y.toList))
 |_=>none
def eqAV:AV->AV->Option Bool
|.b x,.b y=>some (x==y)
|.i k x,.i k' y=>if k=k' then some (x==y)else none
|.s x,.s y=>some (x==y)
|_,_=>none
def qe9:List AV->List AV->Option Bool
|[],[]=>some true
|x::xs,y::ys=>match eqAV x y with
 |some b=>match qe9 xs ys with|some c=>some (b&&c)|none=>none
 |none=>none
|_,_=>none
def fits:List CT->List AV->Bool
|[],[]=>true
|.b::cs,.b _::vs=>fits cs vs
|.i k::cs,.i k' _::vs=>decide (k=k')&&fits cs vs
|.s::cs,.s _::vs=>fits cs vs
|_,_=>false
def binS(h:Hp)(o:BinOp)(x y:AV):Stp:=
 match x,y with
 |.i k a,.i k' b=>
  match o with
  |.shl=>.chk (decide (0<=b)) (.ret (.i k (qkt .shl k a b)) h)
  |.shr=>.chk (decide (0<=b)) (.ret (.i k (qkt .shr k a b)) h)
  |o=>if k=k' then
   match o with
   |.add=>.ret (.i k (k.wrap (a+b))) h
   |.sub=>.ret (.i k (k.wrap (a-b))) h
   |.mul=>.ret (.i k (k.wrap (a*b))) h
   |.quo=>.chk (b !=0) (.ret (.i k (k.wrap (a.tdiv b))) h)
   |.rem=>.chk (b !=0) (.ret (.i k (a.tmod b)) h)
   |.and=>.ret (.i k (intBits .and k a b)) h
   |.or=>.ret (.i k (intBits .or k a b)) h
   |.xor=>.ret (.i k (intBits .xor k a b)) h
   |.andNot=>.ret (.i k (intBits .andNot k a b)) h
   |o=>match cmpB o a b with|some r=>.ret (.b r) h|none=>.fail
   else .fail
 |.s a,.s b=>
  match o with
  |.add=>.chk (decide (a.size+b.size<=LIM)) (.ret (.s (a++b)) h)
  |o=>match strB o a b with|some r=>.ret (.b r) h|none=>.fail
 |.b a,.b b=>
  match o with
  |.eql=>.ret (.b (a==b)) h
  |.neq=>.ret (.b (!(a==b))) h
  |_=>.fail
 |.ag a,.ag b=>
  match o,qe9 a b with
  |.eql,some r=>.ret (.b r) h
  |.neq,some r=>.ret (.b (!r)) h
  |_,_=>.fail
 |_,_=>.fail
def unS(h:Hp)(o:UnOp)(x:AV):Stp:=
 match o,x with
 |.not,.b b=>.ret (.b (!b)) h
 |.neg,.i k n=>.ret (.i k (k.wrap (0-n))) h
 |.xor,.i k n=>.ret (.i k (intBits .xor k (if k.signed then-1 else k.max) n)) h
 |_,_=>.fail
def qa7(fz:Bool)(h:Hp)(p:PD)(v:AV):Option (T×Hp×Bool×List (Nat×Path×Blk)):=
 match p with
 |.v c=>match scal c v with|some t=>some (t,h,true,[])|none=>none
 |.ro c=>match fz,v with
  |true,.rf r q w s=>match sink h c (.rf r q w s)with|some (t,h,b)=>some (t,h,b,[])|none=>none
  |_,v=>match readT h c v with|some (t,b)=>some (t,h,b,[])|none=>none
 |.mv c=>match sink h c v with|some (t,h,b)=>some (t,h,b,[])|none=>none
 |.ow c=>match v with
  |.rf r q w none=>match readT h c (.rf r q w none)with|some (t,b)=>some (t,upd h r .dead,b,[(r,q,h r)])|none=>none
  |_=>none
 |.fn f=>match v with
  |.fn g []=>match Nat.beq f g with|true=>some (.u,h,true,[])|false=>none
  |_=>none
 |_=>none
theorem qdu{fz:Bool}{h h':Hp}{f:Nat}{v:AV}{t:T}{b:Bool}{rs:List (Nat×Path×Blk)}(hs:qa7 fz h (.fn f) v=some (t,h',b,rs)):v=.fn f []/\t=.u/\h'=h/\b=true/\rs=[]:=by
 simp only[qa7]at hs;split at hs
 ·rename_i g;cases e:Nat.beq f g with
  |false=>rw[e]at hs;cases hs
  |true=>rw[e]at hs;cases hs;rw[Nat.eq_of_beq_eq_true e];exact⟨rfl,rfl,rfl,rfl,rfl⟩
 · cases hs
def qan(fz:Bool)(h:Hp):List PD->List AV->Option (List T×Hp×Bool×List (Nat×Path×Blk))
|[],[]=>some ([],h,true,[])
|p::ps,v::vs=>match qa7 fz h p v with
 |some (t,h,b,rs)=>match qan fz h ps vs with|some (ts,h,b',rs')=>some (t::ts,h,b&&b',rs++rs')|none=>none
 |none=>none
|_,_=>none
def qaw(fz:Bool)(h:Hp)(p:PD)(v:AV):Option (T×Hp×Bool):=
 match p with
 |.v c=>match scal c v with|some t=>some (t,h,true)|none=>none
 |.ro c=>match fz,v with
  |true,.rf _ _ _ _=>none
  |_,v=>match readT h c v with|some (t,b)=>some (t,h,b)|none=>none
 |.ow c=>sink h c v
 |_=>none
def qav(fz:Bool)(h:Hp):List PD->List AV->Option (List T×Hp×Bool)
|[],[]=>some ([],h,true)
|p::ps,v::vs=>match qaw fz h p v with
 |some (t,h,b)=>match qav fz h ps vs with|some (ts,h,b')=>some (t::ts,h,b&&b')|none=>none
 |none=>none
|_,_=>none
structure Out where
 ts:List T
 h:Hp
 b:Bool
 rows:List (Nat×Path×Blk)
 boxes:List (Nat×List PD×List AV)
def qa9(fz:Bool)(h:Hp):List PD->List AV->Option Out
|[],[]=>some ⟨[],h,true,[],[]⟩
|p::ps,v::vs=>
 match p with
 |.ag l=>match v with
  |.ag cs=>match qan fz h l cs with
   |some (ts,h,b,rs)=>match qa9 fz h ps vs with|some o=>some ⟨.st ts::o.ts,o.h,b&&o.b,rs++o.rows,o.boxes⟩|none=>none
   |none=>none
  |_=>none
 |.bx l=>match v with
  |.bp r 0=>match h r with
   |.box cs=>match qav fz h l cs with
    |some (ts,h,b)=>match qa9 fz (upd h r .dead) ps vs with|some o=>some ⟨.st ts::o.ts,o.h,b&&o.b,o.rows,(r,l,cs)::o.boxes⟩|none=>none
    |none=>none
   |_=>none
  |_=>none
 |p=>match qa7 fz h p v with
  |some (t,h,b,rs)=>match qa9 fz h ps vs with|some o=>some ⟨t::o.ts,o.h,b&&o.b,rs++o.rows,o.boxes⟩|none=>none
  |none=>none
|_,_=>none
def MV:Nat:=64
def back1(h:Hp)(n k:Nat)(p:PD)(t:T):AV×Hp:=
 match p with
 |.v c=>(coe c t,h)
 |.ro (.sl m cs)=>(.ro k m cs (asL t),h)
 |.ow (.sl m cs)=>(.rf n [] 0 none,upd h n (.row m cs (asL t) 0 false))
 |.mv (.sl m cs)=>(.rf (n+MV) [] 0 none,upd h (n+MV) (.row m cs (asL t) 0 false))
 |.fn f=>(.fn f [],h)
 |_=>(.z,h)
def backs(h:Hp)(n:Nat)(tag:Bool):List PD->T->Nat->List AV×Hp
|[],_,_=>([],h)
|p::ps,t,j=>match back1 h n (match tag with|true=>n|false=>0) p (T.cell t j)with|(v,h)=>match backs h (n+1) tag ps t (j+1)with|(vs,h)=>(v::vs,h)
def wide:PD->Nat
|.ag l=>l.length
|.bx l=>l.length+1
|_=>1
def backR(h:Hp)(n:Nat)(tag:Bool)(p:PD)(t:T):AV×Hp:=
 match p with
 |.ag l=>match backs h n false l t 0 with|(vs,h)=>(.ag vs,h)
 |.bx l=>match backs h (n+1) tag l t 0 with|(vs,h)=>(.bp n 0,upd h n (.box vs))
 |p=>back1 h n 0 p t
def qb8(h:Hp)(n:Nat)(tag:Bool):List PD->List T->Nat->List AV×Hp
|[],_,_=>([],h)
|p::ps,r,i=>match backR h n tag p (nth r i)with|(v,h)=>match qb8 h (n+wide p) tag ps r (i+1)with|(vs,h)=>(v::vs,h)
def tup(vs:List AV):AV:=match vs with|[v]=>v|vs=>.tu vs
def qbl(h:Hp)(r:List T):List (Nat×Path×Blk)->Nat->Hp
|[],_=>h
|(k,p,b)::l,i=>match b with
 |.row m cs c v e=>qbl (upd h k (.row m cs (updR p m cs c λ_=>asL (nth r i)) (v+1) e)) r l (i+1)
 |_=>qbl h r l (i+1)
def qd8:List PD->List AV->List AV->List AV
|.ro _::ps,v::vs,_::ws=>v::qd8 ps vs ws
|_::ps,_::vs,w::ws=>w::qd8 ps vs ws
|_,_,ws=>ws
def qbj(h:Hp)(n:Nat)(r:List T):List (Nat×List PD×List AV)->Nat->Hp
|[],_=>h
|(k,l,cs)::bs,i=>match backs h n false l (nth r i) 0 with|(vs,h)=>qbj (upd h k (.box (qd8 l cs vs))) (n+l.length) r bs (i+1)
def needs(rs:List PD)(boxes:List (Nat×List PD×List AV)):Nat:=(rs.map wide).sum+(boxes.map λb=>b.2.1.length).sum
def KN:Nat:=32
def qbq(h0 h:Hp)(p:PD)(v:AV):Bool:=
 match p,v with
 |.ro _,.rf r _ _ _=>match h0 r,h r with|.row _ _ _ v _,.row _ _ _ v' _=>Nat.beq v v'|_,_=>false
 |_,_=>true
def qbw(h0 h:Hp):List PD->List AV->Bool
|p::ps,v::vs=>qbq h0 h p v&&qbw h0 h ps vs
|_,_=>true
def qad(h0 h:Hp):List PD->List AV->Bool
|.ag l::ps,.ag cs::vs=>qbw h0 h l cs&&qad h0 h ps vs
|.bx l::ps,.bp r _::vs=>(match h0 r with|.box cs=>qbw h0 h l cs|_=>false)&&qad h0 h ps vs
|p::ps,v::vs=>qbq h0 h p v&&qad h0 h ps vs
|_,_=>true
def qiz:PD->Bool
|.ro _=>true
|_=>false
def qar:PD->Bool
|.ag l=>l.any qiz
|.bx l=>l.any qiz
|p=>qiz p
def callS(n:Nat)(h:Hp)(f:Nat)(fi:Fi)(args:List AV):Stp:=
 match qa9 (fi.rs.any qar) h fi.ps args with
 |some o=>bif Nat.ble (needs fi.rs o.boxes) KN&&(fi.rs.any qar||qad h o.h fi.ps args)then .chk o.b (.call f o.ts λr=>match qb8 o.h n false fi.rs r 0 with|(vs,h)=>(tup vs,qbj (qbl h r o.rows fi.rs.length) (n+(fi.rs.map wide).sum) r o.boxes (fi.rs.length+o.rows.length)))else .fail
 |none=>.fail
def natOf:AV->Option Int
|.i _ n=>some n
|_=>none
def idxS(h:Hp)(c:CT)(x i:AV):Stp:=
 match i with
 |.i _ i=>match x with
  |.ro _ m cs l=>bif CT.beq c (.sl m cs)then .chk (inR i l.length) (.ret (.cp m cs (l.getD i.toNat .u) 0) h)else .fail
  |.rf r p v sub=>match slen h (.rf r p v sub),rowAt h r p v with
   |some n,some (m,cs,_)=>bif CT.beq c (.sl m cs)then .chk (inR i n) (.ret (.rp r p v (addO sub i.toNat) 0) h)else .fail
   |_,_=>.fail
  |_=>.fail
 |_=>.fail
def qd3(h:Hp)(c:CT)(x:AV)(lo hi:Option AV):Stp:=
 match x with
 |.s s=>bif CT.beq c .s then match(match lo with|none=>some 0|some v=>natOf v),(match hi with|none=>some (s.size:Int)|some v=>natOf v)with
  |some l,some u=>.chk (decide (0<=l)&&decide (l<=u)&&decide (u<=(s.size:Int))) (.ret (.s (s.extract l.toNat u.toNat)) h)
  |_,_=>.fail else .fail
 |.rf r p v sub=>match slen h (.rf r p v sub),rowAt h r p v with
  |some n,some (m,cs,_)=>bif CT.beq c (.sl m cs)then match(match lo with|none=>some 0|some v=>natOf v),(match hi with|none=>some (n:Int)|some v=>natOf v)with
   |some l,some u=>.chk (decide (0<=l)&&decide (l<=u)&&decide (u<=(n:Int))) (.ret (.rf r p v (some (addO sub l.toNat,u.toNat-l.toNat))) h)
   |_,_=>.fail else .fail
  |_,_=>.fail
 |.ro k m cs q=>bif CT.beq c (.sl m cs)then match lo,hi with
  |none,none=>.ret (.ro k m cs q) h
  |some l,none=>match natOf l with
   |some l=>.chk (decide (0<=l)&&decide (l<=(q.length:Int))) (.ret (.ro 0 m cs (q.drop l.toNat)) h)
   |none=>.fail
  |none,some u=>match natOf u with
   |some u=>.chk (decide (0<=u)&&decide (u<=(q.length:Int))) (.ret (.ro 0 m cs (q.take u.toNat)) h)
   |none=>.fail
  |some l,some u=>match natOf l,natOf u with
   |some l,some u=>.chk (decide (0<=l)&&decide (l<=u)&&decide (u<=(q.length:Int))) (.ret (.ro 0 m cs ((q.drop l.toNat).take (u.toNat-l.toNat))) h)
   |_,_=>.fail
   else .fail
 |.nl m cs=>bif CT.beq c (.sl m cs)then match(match lo with|none=>some 0|some v=>natOf v),(match hi with|none=>some 0|some v=>natOf v)with
  |some l,some u=>.chk (decide (l=0)&&decide (u=0)) (.ret (.nl m cs) h)
  |_,_=>.fail else .fail
 |_=>.fail
def mapL{α β:Type}(f:α->β):List α->List β
|[]=>[]
|x::l=>f x::mapL f l
def qff:List CT->List T->List T
|c::cs,x::xs=>(match c with|.sl _ _=>T.u|_=>x)::qff cs xs
|_,_=>[]
def unEl(m:Bool)(cs:List CT)(x:T):T:=
 match m,x with
 |true,.st xs=>.st (qff cs xs)
 |_,_=>.u
def qec(h:Hp)(m:Bool)(cs:List CT)(x:AV):Option (List T×Hp×Bool):=
 match x with
 |.s s=>match m,cs with|false,[.i .u8]=>some (qb7 s,h,true)|_,_=>none
 |x=>match cont h x with
  |some (m',cs',l)=>bif CT.beq (.sl m cs) (.sl m' cs')then
   bif qao cs then
    match x with
    |.nl _ _=>some ([],h,true)
    |.rf r [] v none=>some (l,killR h r [],hchk h (.rf r [] v none) m cs l)
    |.rf r [] w (some (o,k))=>match h r with
     |.row m cs q v e=>some (l,upd h r (.row m cs (q.take o++mapL (unEl m cs) ((q.drop o).take k)++q.drop (o+k)) (v+1) true),hchk h (.rf r [] w (some (o,k))) m cs l)
     |_=>none
    |_=>none
    else some (l,h,true)
   else none
  |none=>none
def appS(n:Nat)(h:Hp)(m:Bool)(cs:List CT)(d x:AV):Stp:=
 match qec h m cs x with
 |some (xs,h,b)=>match d with
  |.nl _ _=>.chk b (.chk (decide (xs.length<=LIM)) (.ret (.rf n [] 0 none) (upd h n (.row m cs xs 0 false))))
  |.rf r p v sub=>match cont h (.rf r p v sub)with
   |some (m',cs',l)=>bif CT.beq (.sl m cs) (.sl m' cs')then .chk b (.chk (hchk h (.rf r p v sub) m cs l) (.chk (decide (l.length+xs.length<=LIM)) (.ret (.rf n [] 0 none) (upd (killR h r p) n (.row m cs (l++xs) 0 false)))))else .fail
   |none=>.fail
  |_=>.fail
 |none=>.fail
def copyS(h:Hp)(ct:CT)(d x:AV):Stp:=
 match d with
 |.rf r p v sub=>match cont h (.rf r p v sub),h r with
  |some (m,cs,l),.row m0 cs0 q w e=>match(match x with|.s s=>(bif CT.beq (.sl m cs) (.sl false [.i .u8])then some (qb7 s)else none)|x=>match cont h x with|some (m',cs',xs)=>bif CT.beq (.sl m cs) (.sl m' cs')then some xs else none|none=>none)with
   |some xs=>bif qao cs||!(CT.beq ct (.sl m cs))then .fail else .ret (.i .i64 (min xs.length l.length:Nat)) (upd h r (.row m0 cs0 (updR p m0 cs0 q λc=>splice c (subO sub) (xs.take l.length)) (w+1) e))
   |none=>.fail
  |_,_=>.fail
 |_=>.fail
def qau(h:Hp)(m:Bool)(cs:List CT)(z:T):Nat->List (Nat×AV)->Option (List T×Hp×Bool)
|0,[]=>some ([],h,true)
|0,_=>none
|k+1,ps=>match qau h m cs z k (ps.filter λp=>Nat.blt p.1 k)with
 |some (ts,h,b)=>match ps.find? λp=>Nat.beq p.1 k with
  |none=>some (ts++[z],h,b)
  |some (_,v)=>match sinks h cs (qai v)with
   |some (xs,h,b')=>match elem m xs with|some x=>some (ts++[x],h,b&&b')|none=>none
   |none=>none
 |none=>none
def qbf(fs:List (Nat×Nat))(E:Env)(s:Nat->AV)(zs:List AV):List (Nat×Operand)->Option (List AV)
|[]=>some zs
|(i,x)::ps=>match fs[i]? with
 |some (off,t)=>match E.ty t with
  |some ti=>let vs:=qai (opd s (E.ct t) x);bif Nat.beq vs.length ti.cs.length&&Nat.ble (off+ti.cs.length) zs.length&&vs.all isC then qbf fs E s (setCells zs off vs) ps else none
  |none=>none
 |none=>none
def distinct:List Nat->Bool
|[]=>true
|x::xs=>xs.all (λy=>!(Nat.beq x y))&&distinct xs
def imm(cs:List CT):Option (List T):=mapO tZero cs
def qza(E:Env)(ts:Array Nat):Bool:=
 match ts[1]? with
 |some t=>match E.ct t with|some (.i _)=>true|_=>false
 |none=>false
def appZ(n:Nat)(h:Hp)(m:Bool)(cs:List CT)(x:Int):Stp:=
 bif cs.isEmpty then .fail else match(match imm cs with|some zs=>elem m zs|none=>none)with
 |some z=>.chk (decide (1<=x)&&decide (x<=(LIM:Int))) (.ret (.rf n [] 0 none) (upd h n (.row m cs (List.replicate x.toNat z) 0 false)))
 |none=>.fail
def qlm(h:Hp)(ct:CT)(d:AV):Stp:=
 match d with
 |.rf r p v sub=>match cont h (.rf r p v sub),h r with
  |some (m,cs,l),.row m0 cs0 q w e=>match(match imm cs with|some zs=>elem m zs|none=>none)with
   |some z=>bif qao cs||!(CT.beq ct (.sl m cs))then .fail else .ret (.tu []) (upd h r (.row m0 cs0 (updR p m0 cs0 q λc=>splice c (subO sub) (List.replicate l.length z)) (w+1) e))
   |none=>.fail
  |_,_=>.fail
 |_=>.fail
def apArg(E:Env)(ts:Array Nat):Bool:=
 match ts[1]? with
 |some t=>match E.ct t with|some (.sl _ _)=>true|some .s=>true|_=>false
 |none=>false
def liveP(h:Hp):AV->Bool
|.bp r _=>match h r with|.box _=>true|_=>false
|.rp r p v _ _=>match rowAt h r p v with|some _=>true|none=>false
|.cp _ _ _ _=>true
|_=>false
def opS(E:Env)(n:Nat)(o:Oper)(s:Nat->AV)(h:Hp):Stp:=
 let V (t:Nat) (x:Operand):AV:=opd s (E.ct t) x;let W (x:Operand):AV:=opd s none x;match o.op with
 |.move x=>.ret (V o.type x) h
 |.assign x=>.ret (V o.type x) h
 |.pick c a b=>match W c with
  |.b x=>match x with|true=>.ret (V o.type a) h|false=>.ret (V o.type b) h
  |_=>.fail
 |.alloc t=>match E.ty t with
  |some ti=>match mapO qeb ti.cs with|some vs=>.ret (.bp n 0) (upd h n (.box vs))|none=>.fail
  |none=>.fail
 |.box t x=>match E.ty t with
  |some ti=>bif Nat.beq (qai (V t x)).length ti.cs.length&&(qai (V t x)).all isC then .ret (.bp n 0) (upd h n (.box (qai (V t x))))else .fail
  |none=>.fail
 |.build t ps=>match E.ty t with
  |some ⟨_,cs,.st fs⟩=>match mapO qeb cs with
   |some zs=>match qbf fs E s zs ps.toList with|some vs=>.ret (.ag vs) h|none=>.fail
   |none=>.fail
  |_=>.fail
 |.buildSlice t k ps=>match E.ty t with
  |some ⟨_,[.sl m cs],.sl e⟩=>match imm cs with
   |some zs=>match elem m zs with
    |some z=>bif Nat.ble (k*cs.length) 16777216&&distinct (ps.toList.map λp=>p.1)&&(ps.toList.all λp=>Nat.blt p.1 k&&Nat.beq (qai (V e p.2)).length cs.length&&(qai (V e p.2)).all isC)then
     match qau h m cs z k (ps.toList.map λp=>(p.1,V e p.2))with
     |some (ts,h,b)=>.chk b (.ret (.rf n [] 0 none) (upd h n (.row m cs ts 0 false)))
     |none=>.fail
     else .fail
    |none=>.fail
   |none=>.fail
  |_=>.fail
 |.load t a=>match E.ty t with
  |some ti=>match loadV ti h (W a)with|some v=>.chk (qla ti h (W a)) (.ret v h)|none=>.fail
  |none=>.fail
 |.store t a x=>match E.ty t with
  |some ti=>match qfb ti h (W a) (V t x)with|some (h,b)=>.chk b (.ret .un h)|none=>.fail
  |none=>.fail
 |.nilCheck x=>match W x with|v=>bif liveP h v then .ret v h else .fail
 |.binOp op t x y t'=>match V t x with
  |.ag a=>match E.ty t with
   |some ti=>bif ti.agg&&fits ti.cs a then binS h op (.ag a) (V t' y)else .fail
   |none=>.fail
  |.b a=>match E.ct t with|some .b=>binS h op (.b a) (V t' y)|_=>.fail
  |v=>binS h op v (V t' y)
 |.unOp op t x=>unS h op (V t x)
 |.convert a b x=>match E.ct a,E.ct b,W x with
  |some _,some (.i k),.i _ m=>.ret (.i k (k.wrap m)) h
  |some .s,some .s,.s x=>.ret (.s x) h
  |some (.sl false [.i .u8]),some .s,x=>match cont h x with
   |some (false,[.i .u8],l)=>.ret (.s (bytesOf l)) h
   |_=>.fail
  |some .s,some (.sl false [.i .u8]),.s x=>.chk (decide (x.size<=LIM)) (.ret (.rf n [] 0 none) (upd h n (.row false [.i .u8] (qb7 x) 0 false)))
  |_,_,_=>.fail
 |.makeFunc fn first cap=>match fn,first.toList with
  |.func f,[]=>bif (cap.toList.map W).all isC then .ret (.fn f (cap.toList.map W)) h else .fail
  |_,_=>.fail
 |.makeSlice t l c=>match E.ct t,W l,W c with
  |some (.sl m cs),.i _ x,.i _ y=>match imm cs with
   |some zs=>match elem m zs with
    |some z=>.chk (decide (0<=x)&&decide (x<=(LIM:Int))&&decide (x=y)) (.ret (.rf n [] 0 none) (upd h n (.row m cs (List.replicate x.toNat z) 0 false)))
    |none=>.fail
   |none=>.fail
  |_,_,_=>.fail
 |.slice t x lo hi none=>match E.ct t with|some c=>qd3 h c (V t x) (lo.map W) (hi.map W)|none=>.fail
 |.fieldAddr t x f=>match E.ty t with
  |some ⟨_,_,.st fs⟩=>match fs[f]? with
   |some (off,u)=>match E.ty u with
    |some ⟨_,_::_,_⟩=>bif !(liveP h (W x))then .fail else match W x with
     |.bp r j=>.ret (.bp r (j+off)) h
     |.rp r p v i j=>.ret (.rp r p v i (j+off)) h
     |.cp m cs x j=>.ret (.cp m cs x (j+off)) h
     |_=>.fail
    |_=>.fail
   |none=>.fail
  |_=>.fail
 |.field t x f=>match E.ty t,W x with
  |some ⟨_,_,.st fs⟩,.ag vs=>match fs[f]? with
   |some (off,u)=>match E.ty u with
    |some ti=>bif Nat.beq (qam vs off ti.cs.length).length ti.cs.length then(match qdd ti.agg (qam vs off ti.cs.length)with|some v=>.ret v h|none=>.fail)else .fail
    |none=>.fail
   |none=>.fail
  |_,_=>.fail
 |.indexAddr t x i=>match E.ct t with|some (.sl m cs)=>idxS h (.sl m cs) (W x) (W i)|_=>.fail
 |.index t x i=>match E.ct t,W x,W i with
  |some .s,.s x,.i _ i=>.chk (inR i x.size) (.ret (.i .u8 (qae x i)) h)
  |_,_,_=>.fail
 |.extract x i=>match W x with
  |.tu vs=>match vs[i]? with|some v=>.ret v h|none=>.fail
  |_=>.fail
 |.call c=>match c.callee with
  |.builtin b=>
   let args:=c.args.toList.mapIdx λj x=>opd s ((c.argTypes[j]?).bind E.ct) x;match b,args with
   |.len,[x]=>match(c.argTypes[0]?).bind E.ct with
    |some .s=>match x with|.s x=>.ret (.i .i64 (x.size:Int)) h|_=>.fail
    |some (.sl _ _)=>match slen h x with|some k=>.ret (.i .i64 (k:Int)) h|none=>.fail
    |_=>.fail
   |.min,[.i k x,.i _ y]=>.ret (.i k (imin x y)) h
   |.max,[.i k x,.i _ y]=>.ret (.i k (imax x y)) h
   |.cap,[.nl _ _]=>match(c.argTypes[0]?).bind E.ct with|some (.sl _ _)=>.ret (.i .i64 0) h|_=>.fail
   |.append,[.nl _ _,.i _ x]=>match(c.argTypes[0]?).bind E.ct,qza E c.argTypes with|some (.sl m cs),true=>appZ n h m cs x|_,_=>.fail
   |.append,[d,x]=>match(c.argTypes[0]?).bind E.ct,apArg E c.argTypes with|some (.sl m cs),true=>appS n h m cs d x|_,_=>.fail
   |.copy,[d,x]=>match(c.argTypes[0]?).bind E.ct with|some ct=>copyS h ct d x|none=>.fail
   |.clear,[d]=>match(c.argTypes[0]?).bind E.ct with|some ct=>qlm h ct d|none=>.fail
   |_,_=>.fail
  |.value f=>match W f with
   |.fn f caps=>
    let args:=c.args.toList.mapIdx (λj x=>opd s ((c.argTypes[j]?).bind E.ct) x)++caps;match E.fi f with
    |some fi=>match fi.inl with|true=>.inl f args|false=>callS n h f fi args
    |none=>.fail
   |_=>.fail
  |_=>.fail
 |_=>.fail
abbrev Orc:=Nat->List T->Option (List T)
def lookA:List Nat->List AV->Nat->AV
|k::ks,v::vs,t=>bif Nat.beq k t then v else lookA ks vs t
|_,_,_=>.z
def atL:List Blk->Nat->Blk
|[],_=>.dead
|b::_,0=>b
|_::l,k+1=>atL l k
def CSt.st(live:List Nat)(c:CSt):St:=⟨lookA live c.s,atL c.h,c.h.length⟩
structure Dfs where
 h:Hp
 n:Nat
 seen:List Nat
def nlFix(h:Hp)(n:Nat):List AV->List AV×Hp×Nat
|[]=>([],h,n)
|.nl m cs::vs=>match nlFix (upd h n (.row m cs [] 0 false)) (n+1) vs with|(ws,h,k)=>(.rf n [] 0 none::ws,h,k)
|v::vs=>match nlFix h n vs with|(ws,h,k)=>(v::ws,h,k)
def memN(r:Nat):List Nat->Bool
|[]=>false
|k::ks=>Nat.beq r k||memN r ks
def visit(base:Nat)(d:Dfs)(r:Nat)(vs:List AV):List AV×Dfs:=
 bif Nat.blt r base||memN r d.seen then(vs,d)else
  match d.h r with
  |.box cs=>match nlFix d.h d.n cs with|(ws,h,k)=>(ws++vs,⟨upd h r (.box ws),k,d.seen++[r]⟩)
  |_=>(vs,{d with seen:=d.seen++[r]})
def dfs(base:Nat):Nat->List AV->Dfs->Dfs
|0,_,d=>d
|_+1,[],d=>d
|f+1,v::vs,d=>match v with
 |.rf r _ _ _=>match visit base d r vs with|(ws,d)=>dfs base f ws d
 |.rp r _ _ _ _=>match visit base d r vs with|(ws,d)=>dfs base f ws d
 |.bp r _=>match visit base d r vs with|(ws,d)=>dfs base f ws d
 |.ag cs=>dfs base f (cs++vs) d
 |.tu cs=>dfs base f (cs++vs) d
 |.fn _ cs=>dfs base f (cs++vs) d
 |_=>dfs base f vs d
def idxN(r:Nat):List Nat->Nat->Option Nat
|[],_=>none
|k::ks,i=>bif Nat.beq r k then some i else idxN r ks (i+1)
def renN(base:Nat)(seen:List Nat)(r:Nat):Option Nat:=bif Nat.blt r base then some r else idxN r seen base
def okRow(h:Hp)(r:Nat)(p:Path)(v:Nat):Bool:=
 match h r with
 |.row _ _ _ v' _=>match p with|[]=>true|_::_=>Nat.beq v v'
 |_=>false
mutual
def renA(h:Hp)(base:Nat)(seen:List Nat):AV->AV
|.rf r p v sub=>bif okRow h r p v then(match renN base seen r with|some r=>.rf r p 0 sub|none=>.u)else .u
|.rp r p v i j=>bif okRow h r p v then(match renN base seen r with|some r=>.rp r p 0 i j|none=>.u)else .u
|.bp r j=>match renN base seen r with|some r=>.bp r j|none=>.u
|.ag cs=>.ag (renAs h base seen cs)
|.tu cs=>.tu (renAs h base seen cs)
|.fn f cs=>.fn f (renAs h base seen cs)
|v=>v
def renAs(h:Hp)(base:Nat)(seen:List Nat):List AV->List AV
|[]=>[]
|v::vs=>renA h base seen v::renAs h base seen vs
end
def renB(h:Hp)(base:Nat)(seen:List Nat):Blk->Blk
|.box cs=>.box (renAs h base seen cs)
|.row m cs l _ e=>.row m cs l 0 e
|.dead=>.dead
def upto:Nat->List Nat
|0=>[]
|n+1=>upto n++[n]
def qbk(h:Hp)(n:Nat):List Nat->List AV×Hp×Nat
|[]=>([],h,n)
|r::rs=>match h r with
 |.box cs=>match nlFix h n cs with|(ws,h,k)=>match qbk (upd h r (.box ws)) k rs with|(vs,h,k)=>(ws++vs,h,k)
 |_=>qbk h n rs
def qfq(st:St)(t k:Nat):St:=
 match st.s t with
 |.rf r [] v none=>match st.h r with
  |.row m cs l w e=>match k with
   |0=>bif e&&qao cs then st else{st with s:=upd st.s t (.ro 0 m cs l),h:=upd st.h r .dead}
   |1=>{st with h:=upd st.h r (.row m cs l w true)}
   |_=>{st with s:=upd st.s t (.rf r [] v (some (0,l.length)))}
  |_=>st
 |.nl m cs=>match k with
  |0=>{st with s:=upd st.s t (.ro 0 m cs [])}
  |_=>st
 |_=>st
def coerce:List (Nat×Nat)->St->St
|[],st=>st
|(t,k)::l,st=>coerce l (qfq st t k)
def canon(co:List (Nat×Nat))(live:List Nat)(base:Nat)(st₀:St):CSt:=
 match coerce co st₀ with
 |st=>match nlFix st.h st.n (mapL st.s live)with
 |(vs,h,n)=>match qbk h n (upto base)with|(ws,h,n)=>match dfs base 100000 (ws++vs) ⟨h,n,[]⟩with|⟨h,_,seen⟩=>⟨renAs h base seen vs,mapL (λr=>renB h base seen (h r)) (upto base++seen)⟩
def reach(h:Hp):Nat->List AV->List Nat->List Nat
|0,_,seen=>seen
|_+1,[],seen=>seen
|f+1,v::vs,seen=>match v with
 |.rf r _ _ _=>reach h f vs (bif memN r seen then seen else seen++[r])
 |.rp r _ _ _ _=>reach h f vs (bif memN r seen then seen else seen++[r])
 |.bp r _=>bif memN r seen then reach h f vs seen else match h r with
  |.box cs=>reach h f (cs++vs) (seen++[r])
  |_=>reach h f vs (seen++[r])
 |.ag cs=>reach h f (cs++vs) seen
 |.tu cs=>reach h f (cs++vs) seen
 |.fn _ cs=>reach h f (cs++vs) seen
 |_=>reach h f vs seen
def wantV(ops:List Oper)(o:Oper)(s:Nat->AV):Option Bool:=
 match o.guard with
 |none=>some true
 |some (j,g)=>match ops[j]? with
  |some q=>match q.dst with
   |some t=>match s t with
    |.b x=>some (x==g)
    |.un=>some false
    |_=>none
   |none=>none
  |none=>none
abbrev InlK(α:Type):=Nat->List AV->Hp->Nat->(AV->Hp->Nat->Option α)->Option α
def Stp.runK{α:Type}(C:Orc)(I:InlK α)(st:St)(d:Option Nat)(k:St->Option α):Stp->Option α
|.fail=>none
|.ret v h=>k ⟨updO st.s d v,h,st.n⟩
|.chk b x=>bif b then x.runK C I st d k else none
|.call f ts kk=>(C f ts).bind λr=>k ⟨updO st.s d (kk r).1,(kk r).2,st.n⟩
|.inl f args=>I f args st.h st.n λv h n=>k ⟨updO st.s d v,h,n⟩
def splitK{α:Type}(t:Nat)(st:St)(k:St->Option α):Option α:=
 match st.s t with
 |.b x=>bif x then k {st with s:=upd st.s t (.b true)}else k {st with s:=upd st.s t (.b false)}
 |_=>k st
def qm0{α:Type}:List Nat->St->(St->Option α)->Option α
|[],st,k=>k st
|t::ts,st,k=>splitK t st λst=>qm0 ts st k
def asks(ops:List Oper)(o:Oper):List Nat:=
 (match o.guard with
 |some (j,_)=>(match ops[j]? with
  |some q=>(match q.dst with|some t=>[t]|none=>[])
  |none=>[])
 |none=>[])++(match o.op with|.pick (.tmp t) _ _=>[t]|_=>[])
mutual
def inD(D:Nat->Bool):AV->Bool
|.rf r _ _ _=>D r
|.bp r _=>D r
|.rp r _ _ _ _=>D r
|.ag cs=>inDs D cs
|.tu cs=>inDs D cs
|.fn _ cs=>inDs D cs
|_=>true
def inDs(D:Nat->Bool):List AV->Bool
|[]=>true
|v::vs=>inD D v&&inDs D vs
end
def inDo(D:Nat->Bool)(s:Nat->AV):Operand->Bool
|.tmp t=>inD D (s t)
|_=>true
mutual
def drefA:AV->List Nat
|.rf r _ _ _=>[r]
|.bp r _=>[r]
|.rp r _ _ _ _=>[r]
|.ag cs=>drefL cs
|.tu cs=>drefL cs
|.fn _ cs=>drefL cs
|_=>[]
def drefL:List AV->List Nat
|[]=>[]
|v::vs=>drefA v++drefL vs
end
structure Rec where
 i:Nat
 acc:List Nat
 wr:List Nat
 ok:Bool
def rch(h:Hp)(vs:List AV):List Nat:=reach h 100000 vs []
def pdOwn:PD->Bool
|.ow _|.mv _|.bx _=>true
|.ag l=>l.any λp=>match p with|.ow _|.mv _=>true|_=>false
|_=>false
def ownIn(fz:Bool)(W:Nat->Bool):List PD->List AV->Bool
|p::ps,v::vs=>(!(pdOwn p||fz)||inD W v)&&ownIn fz W ps vs
|_,_=>true
def qp6(fz:Bool):List PD->List AV->List AV
|p::ps,v::vs=>bif pdOwn p||fz then v::qp6 fz ps vs else qp6 fz ps vs
|_,_=>[]
def cloB(h:Hp)(a:List Nat):Bool:=a.all λr=>match h r with|.box cs=>inDs (λr=>memN r a) cs|_=>true
def opIn(D:Nat->Bool)(o:Op)(s:Nat->AV):Bool:=
 match o with
 |.load _ a=>inDo D s a
 |.nilCheck x=>inDo D s x
 |.convert _ _ x=>inDo D s x
 |.slice _ x _ _ _=>inDo D s x
 |.indexAddr _ x _=>inDo D s x
 |.fieldAddr _ x _=>inDo D s x
 |.store _ a x=>inDo D s a&&(match opd s none a with|.bp _ _=>true|_=>inDo D s x)
 |.buildSlice _ _ ps=>ps.toList.all λp=>inDo D s p.2
 |.call c=>c.args.toList.all (inDo D s)&&(match c.callee with|.value f=>inDo D s f|_=>true)
 |_=>true
def opWr(E:Env)(W:Nat->Bool)(o:Op)(s:Nat->AV):Bool:=
 match o with
 |.store _ a x=>inDo W s a&&(match opd s none a with|.bp _ _=>true|_=>inDo W s x)
 |.buildSlice _ _ ps=>ps.toList.all λp=>inDo W s p.2
 |.call c=>match c.callee with
  |.builtin .append=>c.args.toList.all (inDo W s)
  |.builtin .copy=>c.args.toList.all (inDo W s)
  |.builtin .clear=>c.args.toList.all (inDo W s)
  |.builtin _=>true
  |.value f=>match opd s none f with
   |.fn f caps=>match E.fi f with
    |some fi=>!fi.inl&&ownIn (fi.rs.any qar) W fi.ps (c.args.toList.mapIdx (λj x=>opd s ((c.argTypes[j]?).bind E.ct) x)++caps)
    |none=>true
   |_=>true
  |_=>true
 |_=>true
def isCl:Op->Bool
|.call c=>match c.callee with|.value _=>true|_=>false
|_=>false
def accOf(o:Op)(s:Nat->AV)(h:Hp):List Nat:=
 let V (x:Operand):AV:=opd s none x;match o with
 |.load _ a=>drefA (V a)
 |.nilCheck x=>drefA (V x)
 |.convert _ _ x=>drefA (V x)
 |.slice _ x _ _ _=>drefA (V x)
 |.indexAddr _ x _=>drefA (V x)
 |.fieldAddr _ x _=>drefA (V x)
 |.store _ a x=>match V a with|.bp r _=>[r]|v=>drefA v++drefA (V x)
 |.buildSlice _ _ ps=>drefL (ps.toList.map λp=>V p.2)
 |.call c=>match c.callee with
  |.value f=>rch h (V f::c.args.toList.map V)
  |_=>drefL (c.args.toList.map V)
 |_=>[]
def wrOf(E:Env)(o:Op)(s:Nat->AV)(h:Hp)(acc:List Nat):List Nat:=
 match o with
 |.store _ _ _=>acc
 |.buildSlice _ _ _=>acc
 |.call c=>match c.callee with
  |.builtin .append=>acc
  |.builtin .copy=>acc
  |.builtin .clear=>acc
  |.value f=>match opd s none f with
   |.fn f caps=>match E.fi f with
    |some fi=>rch h (qp6 (fi.rs.any qar) fi.ps (c.args.toList.map (λx=>opd s none x)++caps))
    |none=>[]
   |_=>[]
  |_=>[]
 |_=>[]
def recOf(E:Env)(i:Nat)(o:Op)(s:Nat->AV)(h:Hp):Rec:=match accOf o s h with|acc=>match wrOf E o s h acc with|wr=>⟨i,acc,wr,opIn (λr=>memN r acc) o s&&(opWr E (λr=>memN r wr) o s&&(wr.all (λr=>memN r acc)&&(!(isCl o)||(cloB h acc&&cloB h wr))))⟩
def disj:List Nat->List Nat->Bool
|[],_=>true
|x::xs,ys=>!(memN x ys)&&disj xs ys
def isNew(n r:Nat):Bool:=Nat.ble n r&&Nat.blt r (n+KN)
def qor(n0:Nat)(x y:Rec):Bool:=disj x.wr y.acc&&(disj y.wr x.acc&&(y.acc.all (λr=>!(isNew (n0+KN*x.i) r))&&x.acc.all (λr=>!(isNew (n0+KN*y.i) r))))
def befB:List Oper->List Nat->List Nat
|[],acc=>acc
|o::ops,acc=>befB ops (acc++[o.after.toList.foldl (λs e=>bif Region.binds .any e then Nat.lor (Nat.lor s (2^e.on)) (acc.getD e.on 0)else s) 0])
def qhu(n0:Nat)(bef:List Nat):List Rec->Bool
|[]=>true
|x::xs=>x.ok&&(xs.all (λy=>Nat.testBit (bef.getD y.i 0) x.i||qor n0 x y)&&qhu n0 bef xs)
def qei(ops:List Oper)(o:Oper):List Nat:=
 (o.op.operands.toList.filterMap λx=>match x with|.tmp t=>some t|_=>none)++(match o.guard with
 |some (j,_)=>(match ops[j]? with|some q=>(match q.dst with|some t=>[t]|none=>[])|none=>[])
 |none=>[])
def qks(ops:List Oper)(x y:Oper):Bool:=
 (match x.dst with
 |some d=>!(memN d (qei ops y))&&(match y.dst with|some d'=>!(Nat.beq d d')|none=>true)
 |none=>true)&&(match y.dst with
  |some d=>!(memN d (qei ops x))
  |none=>true)
def qqf(ops:List Oper)(bef:List Nat)(y:Oper)(j:Nat):List Oper->Nat->Bool
|[],_=>true
|x::xs,i=>(Nat.ble j i||Nat.testBit (bef.getD j 0) i||qks ops x y)&&qqf ops bef y j xs (i+1)
def statR(ops:List Oper)(bef:List Nat):List Oper->Nat->Bool
|[],_=>true
|y::ys,j=>y.after.toList.all (λe=>!(Region.binds .any e)||Nat.blt e.on j)&&(qqf ops bef y j ops 0&&statR ops bef ys (j+1))
def Stp.noInl:Stp->Bool
|.inl _ _=>false
|.chk _ s=>s.noInl
|_=>true
def dstOk(nt:Nat)(ops:List Oper):Bool:=ops.all λo=>match o.dst with|some d=>Nat.blt d nt|none=>true
def regK{α:Type}(C:Orc)(I:InlK α)(E:Env)(n0:Nat)(ops:List Oper)(draw:Bool):List Nat->List Rec->St->(St->Option α)->Option α
|[],rs,st,k=>bif !draw||(match befB ops []with|bef=>statR ops bef ops 0&&qhu n0 bef rs)then k st else none
|i::is,rs,st,k=>match ops[i]? with
 |some o=>qm0 (asks ops o) st λst=>
  match wantV ops o st.s with
  |some true=>match opS E (n0+KN*i) o st.s st.h with|s=>bif !draw||s.noInl then s.runK C I st o.dst λst'=>regK C I E n0 ops draw is (match draw with|true=>rs++[recOf E i o.op st.s st.h]|false=>[]) st' k else none
  |some false=>regK C I E n0 ops draw is rs (st.put o.dst .un) k
  |none=>none
 |none=>none
def qge:Code->Option Nat
|.region id _ _=>some id
|.seq a b=>match qge a with|some r=>some r|none=>qge b
|.block _ c=>qge c
|.loop c=>qge c
|.scope c=>qge c
|.cond _ a b=>match qge a with|some r=>some r|none=>qge b
|_=>none
mutual
def encA:AV->AV->Option (List T)
|.z,_=>some []
|.u,v=>bif isC v then some []else none
|.un,.un=>some []
|.np,.np=>some []
|.b _,.b x=>some [.b x]
|.i k _,.i k' n=>if k=k' then some [.i k' n]else none
|.s _,.s x=>some [.s x]
|.nl m cs,.nl m' cs'=>bif CT.beq (.sl m cs) (.sl m' cs')then some []else none
|.ro k m cs _,.ro k' m' cs' l=>bif CT.beq (.sl m cs) (.sl m' cs')&&Nat.beq k k' then some [.sl l]else none
|.rf r p v sub,.rf r' p' v' sub'=>bif Nat.beq r r'&&Nat.beq v v' then match encP p p',encS sub sub' with|some a,some b=>some (a++b)|_,_=>none else none
|.bp r j,.bp r' j'=>bif Nat.beq r r'&&Nat.beq j j' then some []else none
|.rp r p v _ j,.rp r' p' v' i' j'=>bif Nat.beq r r'&&Nat.beq v v'&&Nat.beq j j' then match encP p p' with|some a=>some (a++[.i .i64 i'])|_=>none else none
|.cp m cs _ j,.cp m' cs' x j'=>bif CT.beq (.sl m cs) (.sl m' cs')&&Nat.beq j j' then some [x]else none
|.mp _,.mp l=>some [.sl l]
|.ag cs,.ag cs'=>encAs cs cs'
|.tu cs,.tu cs'=>encAs cs cs'
|.fn f cs,.fn f' cs'=>bif Nat.beq f f' then encAs cs cs' else none
|_,_=>none
def encAs:List AV->List AV->Option (List T)
|[],[]=>some []
|c::cs,d::ds=>match encA c d with
 |some a=>match encAs cs ds with|some b=>some (a++b)|none=>none
 |none=>none
|_,_=>none
def encP:Path->Path->Option (List T)
|[],[]=>some []
|(_,j)::p,(i,j')::q=>bif Nat.beq j j' then match encP p q with|some a=>some (.i .i64 i::a)|none=>none else none
|_,_=>none
def encS:Sub->Sub->Option (List T)
|none,none=>some []
|some _,some (o,n)=>some [.i .i64 o,.i .i64 n]
|_,_=>none
end
def encB:Blk->Blk->Option (List T)
|.dead,_=>some []
|.box cs,.box ds=>encAs cs ds
|.row m cs _ v e,.row m' cs' l v' e'=>bif CT.beq (.sl m cs) (.sl m' cs')&&Nat.beq v v'&&(e==e')then some [.sl l]else none
|_,_=>none
def encBs:List Blk->List Blk->Option (List T)
|[],[]=>some []
|c::cs,d::ds=>match encB c d with
 |some a=>match encBs cs ds with|some b=>some (a++b)|none=>none
 |none=>none
|_,_=>none
def encC(t c:CSt):Option (List T):=
 match encAs t.s c.s with
 |some a=>match encBs t.h c.h with|some b=>some (a++b)|none=>none
 |none=>none
def natT(t:T):Nat:=(asI t).toNat
mutual
def decA:AV->List T->Nat->AV×Nat
|.b _,r,i=>(.b (asB (nth r i)),i+1)
|.i k _,r,i=>(.i k (asI (nth r i)),i+1)
|.s _,r,i=>(.s (asS (nth r i)),i+1)
|.ro k m cs _,r,i=>(.ro k m cs (asL (nth r i)),i+1)
|.rf k p v sub,r,i=>match decP p r i with|(p,i)=>match sub with|none=>(.rf k p v none,i)|some _=>(.rf k p v (some (natT (nth r i),natT (nth r (i+1)))),i+2)
|.rp k p v _ j,r,i=>match decP p r i with|(p,i)=>(.rp k p v (natT (nth r i)) j,i+1)
|.cp m cs _ j,r,i=>(.cp m cs (nth r i) j,i+1)
|.mp _,r,i=>(.mp (asL (nth r i)),i+1)
|.ag cs,r,i=>match decAs cs r i with|(vs,i)=>(.ag vs,i)
|.tu cs,r,i=>match decAs cs r i with|(vs,i)=>(.tu vs,i)
|.fn f cs,r,i=>match decAs cs r i with|(vs,i)=>(.fn f vs,i)
|v,_,i=>(v,i)
def decAs:List AV->List T->Nat->List AV×Nat
|[],_,i=>([],i)
|c::cs,r,i=>match decA c r i with|(v,i)=>match decAs cs r i with|(vs,i)=>(v::vs,i)
def decP:Path->List T->Nat->Path×Nat
|[],_,i=>([],i)
|(_,j)::p,r,i=>match decP p r (i+1)with|(q,k)=>((natT (nth r i),j)::q,k)
end
def decB:Blk->List T->Nat->Blk×Nat
|.dead,_,i=>(.dead,i)
|.box cs,r,i=>match decAs cs r i with|(vs,i)=>(.box vs,i)
|.row m cs _ v e,r,i=>(.row m cs (asL (nth r i)) v e,i+1)
def decBs:List Blk->List T->Nat->List Blk×Nat
|[],_,i=>([],i)
|c::cs,r,i=>match decB c r i with|(v,i)=>match decBs cs r i with|(vs,i)=>(v::vs,i)
def decC(t:CSt)(r:List T):CSt:=match decAs t.s r 1 with|(s,i)=>match decBs t.h r i with|(h,_)=>⟨s,h⟩
def exBeq:Ex->Ex->Bool
|.nrm,.nrm=>true
|.ret,.ret=>true
|.ex i,.ex j=>Nat.beq i j
|_,_=>false
def leave(base:Nat):List (Ex×List Nat×CSt)->Int->Ex->St->Option (List T)
|[],_,_,_=>none
|(e',lv,t)::xs,i,e,st=>bif exBeq e' e then
 match encC t (canon [] lv base st)with
 |some ls=>some (.i .i64 i::ls)
 |none=>leave base xs (i+1) e st
 else leave base xs (i+1) e st
def come{α:Type}(r:List T)(k:Ex->St->Option α):List (Ex×List Nat×CSt)->Int->Option α
|[],_=>none
|[(e,lv,t)],_=>k e ((decC t r).st lv)
|(e,lv,t)::xs,i=>bif asI (nth r 0)==i then k e ((decC t r).st lv)else come r k xs (i+1)
def qut(fi:Fi)(c:Code):Lp:=
 match qge c with
 |some r=>match fi.live.find? λp=>Nat.beq p.r r with|some p=>p|none=>⟨0,[],[],[]⟩
 |none=>⟨0,[],[],[]⟩
def qe8(c:CSt):List (CSt×List (Ex×List Nat×CSt))->List (Ex×List Nat×CSt)
|[]=>[]
|(t,xs)::l=>match encC t c with|some _=>xs|none=>qe8 c l
def loopK(co:List (Nat×Nat))(live:List Nat)(exits:List (Ex×List Nat×CSt))(base:Nat)(body:St->(Ex->St->Option (List T))->Option (List T)):Nat->CSt->Option (List T)
|0,_=>none
|n+1,c=>body (c.st live) λe st=>match e with
 |.nrm=>loopK co live exits base body n (canon co live base st)
 |e=>leave base exits 0 e st
def evK(C:Orc)(I:(α:Type)->InlK α)(E:Env)(lf:Nat)(fi:Fi)(base:Nat):Code->(α:Type)->St->(Ex->St->Option α)->Option α
|.skip,_,st,k=>k .nrm st
|.label _,_,st,k=>k .nrm st
|.ret,_,st,k=>k .ret st
|.exit id,_,st,k=>k (.ex id) st
|.region _ ops draw,α,st,k=>bif dstOk fi.fn.ntmps ops.toList then regK C (I α) E st.n ops.toList draw (List.range ops.size) [] {st with n:=st.n+KN*ops.size} λst=>k .nrm st else none
|.seq a b,α,st,k=>evK C I E lf fi base a α st λe st=>match e with|.nrm=>evK C I E lf fi base b α st k|e=>k e st
|.cond c a b,α,st,k=>match opd st.s none c with
 |.b x=>bif x then evK C I E lf fi base a α st k else evK C I E lf fi base b α st k
 |_=>none
|.block id c,α,st,k=>evK C I E lf fi base c α st λe st=>match e with
 |.ex j=>bif Nat.beq j id then k .nrm st else k (.ex j) st
 |e=>k e st
|.loop c,_,st,k=>match qut fi c with|⟨_,lv,co,cx⟩=>match canon co lv base st with|c0=>match qe8 c0 cx with|ex=>bif ex.isEmpty then none else(loopK co lv ex base (λst k=>evK C I E lf fi base c (List T) st k) lf c0).bind λr=>come r k ex 0
|_,_,_,_=>none
def resV(E:Env)(st:St):ResultVar->Option AV
|.tmp t=>some (st.s t)
|.cell a t=>match E.ty t,st.s a with|some ti,.bp r j=>loadV ti st.h (.bp r j)|_,_=>none
def resVs(E:Env)(fn:Func)(st:St):Option (List AV):=mapO (resV E st) fn.results.toList
def argsS:List AV->Nat->AV
|[],_=>.un
|v::_,0=>v
|_::vs,t+1=>argsS vs t
mutual
def outA(f s:Nat->Nat):AV->AV
|.rf r p v sub=>.rf (f r) p (s r+v) sub
|.rp r p v i j=>.rp (f r) p (s r+v) i j
|.bp r j=>.bp (f r) j
|.ag cs=>.ag (outAs f s cs)
|.tu cs=>.tu (outAs f s cs)
|.fn g cs=>.fn g (outAs f s cs)
|v=>v
def outAs(f s:Nat->Nat):List AV->List AV
|[]=>[]
|v::vs=>outA f s v::outAs f s vs
end
def outB(f s:Nat->Nat)(r:Nat):Blk->Blk
|.box cs=>.box (outAs f s cs)
|.row m cs l v e=>.row m cs l (s r+v) e
|.dead=>.dead
def getN:List Nat->Nat->Nat
|[],_=>0
|x::_,0=>x
|_::xs,i+1=>getN xs i
def alive:Blk->Bool
|.dead=>false
|_=>true
def verOf:Blk->Nat
|.row _ _ _ v _=>v+1
|_=>0
def toOut(seen:List Nat)(m n r:Nat):Nat:=bif Nat.blt r m then getN seen r else n+(r-m)
def shOf(h:Hp)(seen:List Nat)(m r:Nat):Nat:=bif Nat.blt r m then verOf (h (getN seen r))else 0
def merge(h:Hp)(seen gone:List Nat)(m n:Nat)(h':Hp):Hp:=λx=>
 match idxN x seen 0 with
 |some i=>outB (toOut seen m n) (shOf h seen m) i (h' i)
 |none=>bif memN x gone then .dead else bif Nat.ble n x then outB (toOut seen m n) (shOf h seen m) (x-n+m) (h' (x-n+m))else h x
def rchD:Nat->List AV->List Nat
|0,_=>[]
|_+1,[]=>[]
|f+1,v::vs=>match v with
 |.rf r _ _ _=>r::rchD f vs
 |.rp r _ _ _ _=>r::rchD f vs
 |.bp r _=>r::rchD f vs
 |.ag cs=>rchD f (cs++vs)
 |.tu cs=>rchD f (cs++vs)
 |.fn _ cs=>rchD f (cs++vs)
 |_=>rchD f vs
def isBox:Blk->Bool
|.box _=>true
|_=>false
def allS(fi:Fi):Bool:=
 match fi.ps with
 |[]=>false
 |_=>true
def inlK(C:Orc)(E:Env)(lf:Nat):Nat->(α:Type)->InlK α
|0,_=>λ_ _ _ _ _=>none
|d+1,α=>λf args h n k=>match E.fi f with
 |some fi=>match fi.fn.body with
  |some c=>bif fi.inl&&Nat.ble args.length fi.fn.ntmps then
   match(rch h args).filter (λr=>alive (h r)),rchD 100000 args with
   |all,dir=>match all.filter (λr=>allS fi||(memN r dir||isBox (h r))),all.filter (λr=>!(allS fi||(memN r dir||isBox (h r))))with
    |seen,gone=>evK C (inlK C E lf d) E lf fi seen.length c α ⟨argsS (renAs h 0 (seen++gone) args),atL (mapL (λr=>renB h 0 (seen++gone) (h r)) (seen++gone)),(seen++gone).length⟩ λe st=>match e with
     |.ex _=>none
     |_=>match resVs E fi.fn st with
      |some vs=>k (outA (toOut seen seen.length n) (shOf h seen seen.length) (tup vs)) (merge h seen gone seen.length n st.h) (n+(st.n-seen.length))
      |none=>none
   else none
  |none=>none
 |none=>none
def qh7(n:Nat):List PD->List Nat
|[]=>[]
|.ow _::ps=>n::qh7 (n+1) ps
|_::ps=>qh7 (n+1) ps
def qdk(n:Nat):List PD->List Nat
|[]=>[]
|.ag l::ps=>qh7 n l++qdk (n+wide (.ag l)) ps
|.ow c::ps=>n::qdk (n+wide (.ow c)) ps
|p::ps=>qdk (n+wide p) ps
def qc0(n:Nat):List PD->List (Nat×List PD)
|[]=>[]
|.bx l::ps=>(n,l)::qc0 (n+wide (.bx l)) ps
|p::ps=>qc0 (n+wide p) ps
def qcp(h:Hp)(p:PD)(v:AV):Option (T×Hp×Bool):=
 match p with
 |.v c=>match scal c v with|some t=>some (t,h,true)|none=>none
 |.ro c=>match v with
  |.ro _ m cs l=>bif CT.beq c (.sl m cs)then some (.sl l,h,true)else none
  |v=>sink h c v
 |.ow c=>sink h c v
 |_=>none
def qco(h:Hp):List PD->List AV->Option (List T×Hp×Bool)
|[],[]=>some ([],h,true)
|p::ps,v::vs=>match qcp h p v with
 |some (t,h,b)=>match qco h ps vs with|some (ts,h,b')=>some (t::ts,h,b&&b')|none=>none
 |none=>none
|_,_=>none
def qnj(h:Hp)(p:PD)(v:AV):Option (T×Hp×Bool):=
 match p with
 |.ag l=>match v with
  |.ag cs=>match qco h l cs with|some (ts,h,b)=>some (.st ts,h,b)|none=>none
  |_=>none
 |.bx l=>match v with
  |.bp r 0=>match h r with
   |.box cs=>match qco h l cs with|some (ts,h,b)=>some (.st ts,upd h r .dead,b)|none=>none
   |_=>none
  |_=>none
 |p=>qcp h p v
def qh8(h:Hp):List PD->List AV->Option (List T×Hp×Bool)
|[],[]=>some ([],h,true)
|p::ps,v::vs=>match qnj h p v with
 |some (t,h,b)=>match qh8 h ps vs with|some (ts,h,b')=>some (t::ts,h,b&&b')|none=>none
 |none=>none
|_,_=>none
def qh6(h:Hp):List Nat->Option (List T×Hp×Bool)
|[]=>some ([],h,true)
|r::rs=>match h r with
 |.row m cs l _ e=>match qh6 (upd h r .dead) rs with|some (ts,h,b)=>some (.sl l::ts,h,(bif e&&qao cs then okL m cs l else true)&&b)|none=>none
 |_=>none
def qd1(h:Hp)(n:Nat):List PD->List AV->Option (List T×Hp×Bool)
|[],[]=>some ([],h,true)
|.ro c::ps,v::vs=>match v with
 |.ro k m cs l=>bif Nat.beq k n&&CT.beq c (.sl m cs)then match qd1 h (n+1) ps vs with|some (ts,h,b)=>some (.sl l::ts,h,b)|none=>none else none
 |_=>none
|p::ps,v::vs=>match qaw false h p v with
 |some (t,h,b)=>match qd1 h (n+1) ps vs with|some (ts,h,b')=>some (t::ts,h,b&&b')|none=>none
 |none=>none
|_,_=>none
def qf6(h:Hp):List (Nat×List PD)->Option (List T×Bool)
|[]=>some ([],true)
|(r,l)::bs=>match h r with
 |.box cs=>match qd1 h (r+1) l cs with
  |some (ts,h,b)=>match qf6 (upd h r .dead) bs with|some (us,b')=>some (.st ts::us,b&&b')|none=>none
  |none=>none
 |_=>none
def finish(E:Env)(fi:Fi)(st:St):Option (List T):=
 match resVs E fi.fn st with
 |some vs=>match qh8 st.h fi.rs vs with
  |some (ts,h,b)=>match qh6 h (qdk 0 fi.ps)with
   |some (us,h,b')=>match qf6 h (qc0 0 fi.ps)with
    |some (ws,b'')=>bif b&&(b'&&b'')then some (ts++us++ws)else none
    |none=>none
   |none=>none
  |none=>none
 |none=>none
def isOw:PD->Bool|.ow _=>true|_=>false
def base1:PD->Nat
|.bx l=>bif l.any isOw then 1 else l.length+1
|p=>wide p
def isBx:PD->Bool|.bx _=>true|_=>false
def flatP:PD->Bool|.v _=>true|.ro _=>true|.fn _=>true|_=>false
def baseP:List PD->Nat
|[]=>0
|p::ps=>bif isBx p&&ps.all flatP then base1 p else wide p+baseP ps
def funK(C:Orc)(E:Env)(lf df:Nat)(fi:Fi)(ts:List T):Option (List T):=
 match fi.fn.body with
 |some c=>bif Nat.beq ts.length fi.ps.length&&Nat.ble fi.ps.length fi.fn.ntmps&&!fi.inl then
  match qb8 (λ_=>.dead) 0 true fi.ps ts 0 with
  |(vs,h)=>evK C (inlK C E lf df) E lf fi (baseP fi.ps) c (List T) ⟨argsS vs,h,(fi.ps.map wide).sum+2*MV⟩ λe st=>match e with
   |.ex _=>none
   |_=>finish E fi st
  else none
 |none=>none
def orc(X:Nat->Option (List T->Option (List T)))(E:Env)(lf df:Nat):Nat->Orc
|0=>λ_ _=>none
|d+1=>λf ts=>match X f with
 |some g=>g ts
 |none=>match E.fi f with
  |some fi=>funK (orc X E lf df d) E lf df fi ts
  |none=>none
def lbody(r:Nat):Code->Option Code
|.seq a b=>match lbody r a with|some c=>some c|none=>lbody r b
|.block _ c=>lbody r c
|.cond _ a b=>match lbody r a with|some c=>some c|none=>lbody r b
|.scope c=>lbody r c
|.loop c=>match qge c with
 |some r'=>bif Nat.beq r r' then some c else lbody r c
 |none=>lbody r c
|_=>none
def lcode(fi:Fi)(r:Nat):Code:=match fi.fn.body with|some c=>(match lbody r c with|some c=>c|none=>.skip)|none=>.skip
def lpK(C:Orc)(E:Env)(lf df:Nat)(fi:Fi)(base r:Nat)(co:List (Nat×Nat))(lv:List Nat)(ex:List (Ex×List Nat×CSt))(n:Nat)(c:CSt):Option (List T):=loopK co lv ex base (λst k=>evK C (inlK C E lf df) E lf fi base (lcode fi r) (List T) st k) n c
def qkw(C:Orc)(E:Env)(lf df:Nat)(fi:Fi)(base r:Nat)(co:List (Nat×Nat))(lv:List Nat)(ex:List (Ex×List Nat×CSt))(L:CSt->Option (List T))(c:CSt):Option (List T):=
 evK C (inlK C E lf df) E lf fi base (lcode fi r) (List T) (c.st lv) λe st=>match e with
 |.nrm=>L (canon co lv base st)
 |e=>leave base ex 0 e st
def lookN{α:Type}:List (Nat×α)->Nat->Option α
|[],_=>none
|(k,v)::l,n=>bif Nat.beq k n then some v else lookN l n
def iLt(x y:Int):Bool:=decide (x<y)
def iLe(x y:Int):Bool:=decide (x<=y)
def nLe(x y:Nat):Bool:=decide (x<=y)
theorem iLt_t{x y:Int}(h:x<y):iLt x y=true:=decide_eq_true h
theorem iLt_f{x y:Int}(h:¬x<y):iLt x y=false:=decide_eq_false h
theorem iLe_t{x y:Int}(h:x<=y):iLe x y=true:=decide_eq_true h
theorem iLe_f{x y:Int}(h:¬x<=y):iLe x y=false:=decide_eq_false h
theorem nLe_t{x y:Nat}(h:x<=y):nLe x y=true:=decide_eq_true h
theorem qjt{x y:Int}:iLt x y=true↔x<y:=decide_eq_true_iff
theorem qe5{x y:Int}:iLe x y=true↔x<=y:=decide_eq_true_iff
theorem qp9{x y:Nat}:nLe x y=true↔x<=y:=decide_eq_true_iff
def sortI(l:List T):List T:=((l.map asI).mergeSort λx y=>decide (x<=y)).map (T.i .i64)
def sortF:List T->Option (List T)
|[.sl l]=>bif nLe l.length LIM then some [.sl (sortI l)]else none
|_=>none
def idxL:List UInt8->UInt8->Int
|[],_=> -1
|b::l,c=>if b==c then 0 else if idxL l c== -1 then-1 else idxL l c+1
def qr9:List T->Option (List T)
|[.s s,.s p]=>match p.data.toList with|[c]=>some [.i .i64 (idxL s.data.toList c)]|_=>none
|_=>none
def qrm:List T->Option (List T)
|[.s s,.s p]=>match p.data.toList with|[c]=>some [.i .i64 (s.data.toList.count c:Nat)]|_=>none
|_=>none
def joinT(l:List T)(p:ByteArray):List UInt8:=p.data.toList.intercalate (l.map λx=>(asS x).data.toList)
def joinF:List T->Option (List T)
|[.sl l,.s p]=>bif nLe l.length LIM&&nLe (joinT l p).length LIM then some [.s ⟨(joinT l p).toArray⟩]else none
|_=>none
def qgl:List T->Option (List T)
|[.sl l]=>bif nLe (0+l.length) LIM then some [.sl l]else none
|_=>none
section
variable{C:Orc}{E:Env}{lf df:Nat}{fi:Fi}{base r:Nat}{co:List (Nat×Nat)}{lv:List Nat}{ex:List (Ex×List Nat×CSt)}
theorem lpq1{A1:Type}{c:A1->CSt}{F:Nat->A1->Option (List T)}{S:(A1->Option (List T))->A1->Option (List T)}(hr:∀L a1,qkw C E lf df fi base r co lv ex L (c a1)=S (λa1=>L (c a1)) a1)(h0:∀a1,F 0 a1=none)(hF:∀n a1,F (n+1) a1=S (F n) a1):∀(n:Nat) a1,lpK C E lf df fi base r co lv ex n (c a1)=F n a1
|0,a1=>(h0 a1).symm
|n+1,a1=>by
 have e:(λa1=>lpK C E lf df fi base r co lv ex n (c a1))=F n:=by funext a1;exact lpq1 hr h0 hF n a1
 exact(hr (lpK C E lf df fi base r co lv ex n) a1).trans (by rw[e];exact(hF n a1).symm)
theorem lpq2{A1 A2:Type}{c:A1->A2->CSt}{F:Nat->A1->A2->Option (List T)}{S:(A1->A2->Option (List T))->A1->A2->Option (List T)}(hr:∀L a1 a2,qkw C E lf df fi base r co lv ex L (c a1 a2)=S (λa1 a2=>L (c a1 a2)) a1 a2)(h0:∀a1 a2,F 0 a1 a2=none)(hF:∀n a1 a2,F (n+1) a1 a2=S (F n) a1 a2):∀(n:Nat) a1 a2,lpK C E lf df fi base r co lv ex n (c a1 a2)=F n a1 a2
|0,a1,a2=>(h0 a1 a2).symm
|n+1,a1,a2=>by
 have e:(λa1 a2=>lpK C E lf df fi base r co lv ex n (c a1 a2))=F n:=by funext a1 a2;exact lpq2 hr h0 hF n a1 a2
 exact(hr (lpK C E lf df fi base r co lv ex n) a1 a2).trans (by rw[e];exact(hF n a1 a2).symm)
theorem lpq3{A1 A2 A3:Type}{c:A1->A2->A3->CSt}{F:Nat->A1->A2->A3->Option (List T)}{S:(A1->A2->A3->Option (List T))->A1->A2->A3->Option (List T)}(hr:∀L a1 a2 a3,qkw C E lf df fi base r co lv ex L (c a1 a2 a3)=S (λa1 a2 a3=>L (c a1 a2 a3)) a1 a2 a3)(h0:∀a1 a2 a3,F 0 a1 a2 a3=none)(hF:∀n a1 a2 a3,F (n+1) a1 a2 a3=S (F n) a1 a2 a3):∀(n:Nat) a1 a2 a3,lpK C E lf df fi base r co lv ex n (c a1 a2 a3)=F n a1 a2 a3
|0,a1,a2,a3=>(h0 a1 a2 a3).symm
|n+1,a1,a2,a3=>by
 have e:(λa1 a2 a3=>lpK C E lf df fi base r co lv ex n (c a1 a2 a3))=F n:=by funext a1 a2 a3;exact lpq3 hr h0 hF n a1 a2 a3
 exact(hr (lpK C E lf df fi base r co lv ex n) a1 a2 a3).trans (by rw[e];exact(hF n a1 a2 a3).symm)
theorem lpq4{A1 A2 A3 A4:Type}{c:A1->A2->A3->A4->CSt}{F:Nat->A1->A2->A3->A4->Option (List T)}{S:(A1->A2->A3->A4->Option (List T))->A1->A2->A3->A4->Option (List T)}(hr:∀L a1 a2 a3 a4,qkw C E lf df fi base r co lv ex L (c a1 a2 a3 a4)=S (λa1 a2 a3 a4=>L (c a1 a2 a3 a4)) a1 a2 a3 a4)(h0:∀a1 a2 a3 a4,F 0 a1 a2 a3 a4=none)(hF:∀n a1 a2 a3 a4,F (n+1) a1 a2 a3 a4=S (F n) a1 a2 a3 a4):∀(n:Nat) a1 a2 a3 a4,lpK C E lf df fi base r co lv ex n (c a1 a2 a3 a4)=F n a1 a2 a3 a4
|0,a1,a2,a3,a4=>(h0 a1 a2 a3 a4).symm
|n+1,a1,a2,a3,a4=>by
 have e:(λa1 a2 a3 a4=>lpK C E lf df fi base r co lv ex n (c a1 a2 a3 a4))=F n:=by funext a1 a2 a3 a4;exact lpq4 hr h0 hF n a1 a2 a3 a4
 exact(hr (lpK C E lf df fi base r co lv ex n) a1 a2 a3 a4).trans (by rw[e];exact(hF n a1 a2 a3 a4).symm)
theorem lpq5{A1 A2 A3 A4 A5:Type}{c:A1->A2->A3->A4->A5->CSt}{F:Nat->A1->A2->A3->A4->A5->Option (List T)}{S:(A1->A2->A3->A4->A5->Option (List T))->A1->A2->A3->A4->A5->Option (List T)}(hr:∀L a1 a2 a3 a4 a5,qkw C E lf df fi base r co lv ex L (c a1 a2 a3 a4 a5)=S (λa1 a2 a3 a4 a5=>L (c a1 a2 a3 a4 a5)) a1 a2 a3 a4 a5)(h0:∀a1 a2 a3 a4 a5,F 0 a1 a2 a3 a4 a5=none)(hF:∀n a1 a2 a3 a4 a5,F (n+1) a1 a2 a3 a4 a5=S (F n) a1 a2 a3 a4 a5):∀(n:Nat) a1 a2 a3 a4 a5,lpK C E lf df fi base r co lv ex n (c a1 a2 a3 a4 a5)=F n a1 a2 a3 a4 a5
|0,a1,a2,a3,a4,a5=>(h0 a1 a2 a3 a4 a5).symm
|n+1,a1,a2,a3,a4,a5=>by
 have e:(λa1 a2 a3 a4 a5=>lpK C E lf df fi base r co lv ex n (c a1 a2 a3 a4 a5))=F n:=by funext a1 a2 a3 a4 a5;exact lpq5 hr h0 hF n a1 a2 a3 a4 a5
 exact(hr (lpK C E lf df fi base r co lv ex n) a1 a2 a3 a4 a5).trans (by rw[e];exact(hF n a1 a2 a3 a4 a5).symm)
theorem lpq6{A1 A2 A3 A4 A5 A6:Type}{c:A1->A2->A3->A4->A5->A6->CSt}{F:Nat->A1->A2->A3->A4->A5->A6->Option (List T)}{S:(A1->A2->A3->A4->A5->A6->Option (List T))->A1->A2->A3->A4->A5->A6->Option (List T)}(hr:∀L a1 a2 a3 a4 a5 a6,qkw C E lf df fi base r co lv ex L (c a1 a2 a3 a4 a5 a6)=S (λa1 a2 a3 a4 a5 a6=>L (c a1 a2 a3 a4 a5 a6)) a1 a2 a3 a4 a5 a6)(h0:∀a1 a2 a3 a4 a5 a6,F 0 a1 a2 a3 a4 a5 a6=none)(hF:∀n a1 a2 a3 a4 a5 a6,F (n+1) a1 a2 a3 a4 a5 a6=S (F n) a1 a2 a3 a4 a5 a6):∀(n:Nat) a1 a2 a3 a4 a5 a6,lpK C E lf df fi base r co lv ex n (c a1 a2 a3 a4 a5 a6)=F n a1 a2 a3 a4 a5 a6
|0,a1,a2,a3,a4,a5,a6=>(h0 a1 a2 a3 a4 a5 a6).symm
|n+1,a1,a2,a3,a4,a5,a6=>by
 have e:(λa1 a2 a3 a4 a5 a6=>lpK C E lf df fi base r co lv ex n (c a1 a2 a3 a4 a5 a6))=F n:=by funext a1 a2 a3 a4 a5 a6;exact lpq6 hr h0 hF n a1 a2 a3 a4 a5 a6
 exact(hr (lpK C E lf df fi base r co lv ex n) a1 a2 a3 a4 a5 a6).trans (by rw[e];exact(hF n a1 a2 a3 a4 a5 a6).symm)
end
inductive Lab where
|blk (r:Nat) (p:Path)
|tmp (k:Nat) (p:Path)
abbrev Own:=Nat->Option Lab
structure Mem where
 has:Nat->Path->Prop
 emp:Prop
instance:CoeFun Mem (λ_=>Nat->Path->Prop):=⟨Mem.has⟩
def Own.m(o:Own)(r:Nat):Mem:=⟨λb p=>o b=some (.blk r p),False⟩
def Own.t(o:Own)(k:Nat):Mem:=⟨λb p=>o b=some (.tmp k p),False⟩
def roM(ro:Nat->Prop):Mem:=⟨λb _=>ro b,True⟩
def NilV(M:Mem)(v:Value):Prop:=v=.slice none 0 0\/(M.emp/\∃a c,v=.slice a 0 c)
mutual
def CellRep(w:World)(M:Mem)(π:Path)(ct:CT)(v:Value):T->Prop
|.u=>ct.isSl=true/\v.oneCell'=true
|.b x=>ct=.b/\v=.bool x
|.i k n=>ct=.i k/\v=.int k n
|.s x=>ct=.s/\v=.string x
|.sl l=>∃m cs,ct=.sl m cs/\((NilV M v/\l=[])\/∃b off cap c ty fz,v=.slice (some ⟨b,off,none⟩) l.length cap/\M b π/\w.heap[b]? =some (.cells c ty fz)/\l.length<=cap/\off+cap*cs.length<=c.size/\ElemsRep w M π m cs c off 0 l)
|.st _=>False
def StRep(w:World)(M:Mem)(π:Path)(cs:List CT)(c:Array Value)(o i:Nat):T->Prop
|.st xs=>xs.length=cs.length/\CellsRep w M π cs c o i 0 xs
|_=>False
def ElemsRep(w:World)(M:Mem)(π:Path)(m:Bool)(cs:List CT)(c:Array Value)(off i:Nat):List T->Prop
|[]=>True
|x::l=>(match m with
 |true=>StRep w M π cs c (off+i*cs.length) i x
 |false=>∃ct v,cs=[ct]/\c[off+i]? =some v/\CellRep w M (π++[(i,0)]) ct v x)/\ElemsRep w M π m cs c off (i+1) l
def CellsRep(w:World)(M:Mem)(π:Path)(cs:List CT)(c:Array Value)(o i j:Nat):List T->Prop
|[]=>True
|x::l=>(∃ct v,cs[j]? =some ct/\c[o+j]? =some v/\CellRep w M (π++[(i,j)]) ct v x)/\CellsRep w M π cs c o i (j+1) l
end
def ElemRep(w:World)(M:Mem)(π:Path)(m:Bool)(cs:List CT)(c:Array Value)(o i:Nat)(x:T):Prop:=
 match m with
 |true=>StRep w M π cs c o i x
 |false=>∃ct v,cs=[ct]/\c[o]? =some v/\CellRep w M (π++[(i,0)]) ct v x
def RowRep(w:World)(M:Mem)(π:Path)(m:Bool)(cs:List CT)(v:Value)(l:List T):Prop:=(NilV M v/\l=[])\/∃b off cap c ty fz,v=.slice (some ⟨b,off,none⟩) l.length cap/\M b π/\w.heap[b]? =some (.cells c ty fz)/\l.length<=cap/\off+cap*cs.length<=c.size/\ElemsRep w M π m cs c off 0 l
theorem qa6{w:World}{M:Mem}{π:Path}{m:Bool}{cs:List CT}{v:Value}{l:List T}:CellRep w M π (.sl m cs) v (.sl l)↔RowRep w M π m cs v l:=by
 simp only[CellRep,RowRep];constructor;· rintro⟨m',cs',h,h'⟩;cases h;exact h'
 · exactλh=>⟨m,cs,rfl,h⟩
theorem CellRep.one{w:World}{M:Mem}{π:Path}{ct:CT}{v:Value}{x:T}(h:CellRep w M π ct v x):v.oneCell'=true:=by
 cases x with
 |u=>exact h.2
 |b x=>obtain⟨_,rfl⟩:=h;rfl
 |i k n=>obtain⟨_,rfl⟩:=h;rfl
 |s x=>obtain⟨_,rfl⟩:=h;rfl
 |sl l=>simp only[CellRep]at h;obtain⟨_,_,_,⟨rfl|⟨_,_,_,rfl⟩,_⟩|⟨_,_,_,_,_,_,rfl,_⟩⟩:=h<;>rfl
 |st l=>exact h.elim
def Moved(w w':World)(M M':Mem)(π π':Path):Prop:=(M.emp->M'.emp)/\∀b ρ,M b (π++ρ)->M' b (π'++ρ)/\w'.heap[b]? =w.heap[b]?
theorem Moved.sub{w w':World}{M M':Mem}{π π':Path}(h:Moved w w' M M' π π')(q:Path):Moved w w' M M' (π++q) (π'++q):=by refine⟨h.1,λb ρ hb=>?_⟩;rw[List.append_assoc]at hb|-;exact h.2 b (q++ρ) hb
theorem Moved.here{w w':World}{M M':Mem}{π π':Path}(h:Moved w w' M M' π π'){b:Nat}(hb:M b π):M' b π'/\w'.heap[b]? =w.heap[b]? :=by have:=h.2 b [] (by simpa using hb);simpa using this
mutual
theorem CellRep.moved{w w':World}{M M':Mem}:∀(x:T){π π':Path}{ct:CT}{v:Value},Moved w w' M M' π π'->CellRep w M π ct v x->CellRep w' M' π' ct v x
|.u,_,_,_,_,_,h=>h
|.b _,_,_,_,_,_,h=>h
|.i _ _,_,_,_,_,_,h=>h
|.s _,_,_,_,_,_,h=>h
|.st _,_,_,_,_,_,h=>h
|.sl l,π,π',ct,v,hm,h=>by simp only[CellRep]at h|-;obtain⟨m,cs,hct,h⟩:=h;refine⟨m,cs,hct,h.imp (λh=>⟨h.1.imp id (λh=>⟨hm.1 h.1,h.2⟩),h.2⟩) ?_⟩;rintro⟨b,off,cap,c,ty,fz,hv,hb,hc,h1,h2,h3⟩;obtain⟨hb',hc'⟩:=hm.here hb;exact⟨b,off,cap,c,ty,fz,hv,hb',hc'.trans hc,h1,h2,ElemsRep.moved l hm h3⟩
theorem StRep.moved{w w':World}{M M':Mem}:∀(x:T){π π':Path}{cs:List CT}{c:Array Value}{o i:Nat},Moved w w' M M' π π'->StRep w M π cs c o i x->StRep w' M' π' cs c o i x
|.u,_,_,_,_,_,_,_,h=>h
|.b _,_,_,_,_,_,_,_,h=>h
|.i _ _,_,_,_,_,_,_,_,h=>h
|.s _,_,_,_,_,_,_,_,h=>h
|.sl _,_,_,_,_,_,_,_,h=>h
|.st xs,_,_,_,_,_,_,hm,h=>⟨h.1,CellsRep.moved xs hm h.2⟩
theorem ElemsRep.moved{w w':World}{M M':Mem}:∀(l:List T){π π':Path}{m:Bool}{cs:List CT}{c:Array Value}{off i:Nat},Moved w w' M M' π π'->ElemsRep w M π m cs c off i l->ElemsRep w' M' π' m cs c off i l
|[],_,_,_,_,_,_,_,_,_=>trivial
|x::l,π,π',m,cs,c,off,i,hm,h=>by
 simp only[ElemsRep]at h|-;refine⟨?_,ElemsRep.moved l hm h.2⟩;cases m with
 |true=>exact StRep.moved x hm h.1
 |false=>obtain⟨ct,v,h1,h2,h3⟩:=h.1;exact⟨ct,v,h1,h2,CellRep.moved x (hm.sub _) h3⟩
theorem CellsRep.moved{w w':World}{M M':Mem}:∀(l:List T){π π':Path}{cs:List CT}{c:Array Value}{o i j:Nat},Moved w w' M M' π π'->CellsRep w M π cs c o i j l->CellsRep w' M' π' cs c o i j l
|[],_,_,_,_,_,_,_,_,_=>trivial
|x::l,π,π',cs,c,o,i,j,hm,h=>by simp only[CellsRep]at h|-;obtain⟨⟨ct,v,h1,h2,h3⟩,h4⟩:=h;exact⟨⟨ct,v,h1,h2,CellRep.moved x (hm.sub _) h3⟩,CellsRep.moved l hm h4⟩
end
theorem RowRep.moved{w w':World}{M M':Mem}{π π':Path}{m:Bool}{cs:List CT}{v:Value}{l:List T}(hm:Moved w w' M M' π π')(h:RowRep w M π m cs v l):RowRep w' M' π' m cs v l:=qa6.1 (CellRep.moved (.sl l) hm (qa6.2 h))
theorem ElemRep.moved{w w':World}{M M':Mem}{π π':Path}{m:Bool}{cs:List CT}{c:Array Value}{o i:Nat}{x:T}(hm:Moved w w' M M' π π')(h:ElemRep w M π m cs c o i x):ElemRep w' M' π' m cs c o i x:=by
 cases m with
 |true=>exact StRep.moved x hm h
 |false=>obtain⟨ct,v,h1,h2,h3⟩:=h;exact⟨ct,v,h1,h2,CellRep.moved x (hm.sub _) h3⟩
theorem qa5{w:World}{M:Mem}{π:Path}{m:Bool}{cs:List CT}{c:Array Value}{off:Nat}:∀(l:List T)(i:Nat),ElemsRep w M π m cs c off i l↔∀k(h:k<l.length),ElemRep w M π m cs c (off+(i+k)*cs.length) (i+k) l[k]
|[],i=>by simp[ElemsRep]
|x::l,i=>by
 have e:ElemsRep w M π m cs c off i (x::l)=((match m with
 |true=>StRep w M π cs c (off+i*cs.length) i x
 |false=>∃ct v,cs=[ct]/\c[off+i]? =some v/\CellRep w M (π++[(i,0)]) ct v x)/\ElemsRep w M π m cs c off (i+1) l):=by cases m<;>rfl
 rw[e,qa5 l (i+1)];constructor
 ·rintro⟨h0,h⟩ k hk;cases k with
  |zero=>
   cases m with
   |true=>simpa[ElemRep]using h0
   |false=>obtain⟨ct,v,h1,h2,h3⟩:=h0;refine⟨ct,v,h1,?_,by simpa using h3⟩;rw[h1];simpa using h2
  |succ k=>have:=h k (by simpa using hk);rw[show i+(k+1)=i+1+k by omega];simpa using this
 ·intro h;refine⟨?_,λk hk=>?_⟩
  ·have:=h 0 (by simp);cases m with
   |true=>simpa[ElemRep]using this
   |false=>obtain⟨ct,v,h1,h2,h3⟩:=this;refine⟨ct,v,h1,?_,by simpa using h3⟩;rw[h1]at h2;simpa using h2
  · have:=h (k+1) (by simpa using hk);rw[show i+(k+1)=i+1+k by omega]at this;simpa using this
theorem qag{w:World}{M:Mem}{π:Path}{cs:List CT}{c:Array Value}{o i:Nat}:∀(l:List T)(j:Nat),CellsRep w M π cs c o i j l↔∀k(h:k<l.length),∃ct v,cs[j+k]? =some ct/\c[o+(j+k)]? =some v/\CellRep w M (π++[(i,j+k)]) ct v l[k]
|[],j=>by simp[CellsRep]
|x::l,j=>by
 rw[CellsRep,qag l (j+1)];constructor
 ·rintro⟨h0,h⟩ k hk;cases k with
  |zero=>simpa using h0
  |succ k=>have:=h k (by simpa using hk);rw[show j+(k+1)=j+1+k by omega];simpa using this
 · intro h;refine⟨h 0 (by simp),λk hk=>?_⟩;have:=h (k+1) (by simpa using hk);rw[show j+(k+1)=j+1+k by omega]at this;simpa using this
theorem qak{α:Type}{l:List α}{i:Nat}{d:α}(h:i<l.length):l.getD i d=l[i]:=by simp[List.getD_eq_getElem?_getD,List.getElem?_eq_getElem h]
theorem ElemRep.move{w w':World}{M M':Mem}{π π':Path}{m:Bool}{cs:List CT}{c c':Array Value}{o o' i i':Nat}{x:T}(hm:∀j,Moved w w' M M' (π++[(i,j)]) (π'++[(i',j)]))(hc:∀j,j<cs.length->c'[o'+j]? =c[o+j]?)(h:ElemRep w M π m cs c o i x):ElemRep w' M' π' m cs c' o' i' x:=by
 cases m with
 |true=>
  cases x with
  |st xs=>obtain⟨hl,h⟩:=h;refine⟨hl,?_⟩;rw[qag]at h|-;intro k hk;obtain⟨ct,v,h1,h2,h3⟩:=h k hk;refine⟨ct,v,h1,?_,CellRep.moved _ (by simpa using hm k) (by simpa using h3)⟩;have:=hc k (by omega);simp only[Nat.zero_add]at h2|-;rw[this];exact h2
  |_=>exact h
 |false=>obtain⟨ct,v,h1,h2,h3⟩:=h;refine⟨ct,v,h1,?_,CellRep.moved _ (hm 0) h3⟩;have:=hc 0 (by rw[h1];simp);simp only[Nat.add_zero]at this;rw[this];exact h2
def NavH(w:World)(M:Mem):Path->Path->List CT->Value->Value->Prop
|π,[],_,hv,hv'=>hv'=hv
|π,(i,j)::p,cs,hv,hv'=>∃b off n cap c ty fz v m' cs',hv=.slice (some ⟨b,off,none⟩) n cap/\M b π/\w.heap[b]? =some (.cells c ty fz)/\i<n/\c[off+i*cs.length+j]? =some v/\cs[j]? =some (.sl m' cs')/\NavH w M (π++[(i,j)]) p cs' v hv'
def PathOk:Path->Bool->List CT->List T->Prop
|[],_,_,_=>True
|(i,j)::p,m,cs,l=>i<l.length/\∃m' cs' l',cs[j]? =some (.sl m' cs')/\elc m (l.getD i .u) j=.sl l'/\PathOk p m' cs' l'
theorem NavH.moved{w w':World}{M M':Mem}:∀(p:Path){π π':Path}{cs:List CT}{hv hv':Value},(∀b ρ,M b (π++ρ)->(∃s,p=ρ++s)->M' b (π'++ρ)/\w'.heap[b]? =w.heap[b]?)->NavH w M π p cs hv hv'->NavH w' M' π' p cs hv hv'
|[],_,_,_,_,_,_,h=>h
|(i,j)::p,π,π',cs,hv,hv',hm,h=>by obtain⟨b,off,n,cap,c,ty,fz,v,m',cs',h1,h2,h3,h4,h5,h6,h7⟩:=h;obtain⟨hb',hc'⟩:=hm b [] (by simpa using h2) ⟨_,rfl⟩;refine⟨b,off,n,cap,c,ty,fz,v,m',cs',h1,by simpa using hb',hc'.trans h3,h4,h5,h6,NavH.moved p (λb ρ hb hs=>?_) h7⟩;have:=hm b ((i,j)::ρ) (by simpa using hb) (by obtain⟨s,rfl⟩:=hs;exact⟨s,by simp⟩);simpa using this
theorem NavH.append{w:World}{M:Mem}:∀(p:Path){π:Path}{m:Bool}{cs:List CT}{l:List T}{hv hv' hv'':Value}{m':Bool}{cs':List CT}{l':List T}{q:Path},NavH w M π p cs hv hv'->navR p m cs l=some (m',cs',l')->NavH w M (π++p) q cs' hv' hv''->NavH w M π (p++q) cs hv hv''
|[],π,m,cs,l,hv,hv',hv'',m',cs',l',q,h,hn,h'=>by cases h;simp only[navR,Option.some.injEq,Prod.mk.injEq]at hn;obtain⟨rfl,rfl,rfl⟩:=hn;simpa using h'
|(i,j)::p,π,m,cs,l,hv,hv',hv'',m',cs',l',q,h,hn,h'=>by obtain⟨b,off,n,cap,c,ty,fz,v,m₁,cs₁,h1,h2,h3,h4,h5,h6,h7⟩:=h;simp only[navR,h6]at hn;refine⟨b,off,n,cap,c,ty,fz,v,m₁,cs₁,h1,h2,h3,h4,h5,h6,NavH.append p h7 hn ?_⟩;simpa using h'
theorem RowRep.nav{w:World}{M:Mem}:∀(p:Path){π:Path}{m:Bool}{cs:List CT}{l:List T}{hv hv':Value}{m':Bool}{cs':List CT}{l':List T},RowRep w M π m cs hv l->NavH w M π p cs hv hv'->PathOk p m cs l->navR p m cs l=some (m',cs',l')->RowRep w M (π++p) m' cs' hv' l'
|[],π,m,cs,l,hv,hv',m',cs',l',h,hn,_,hr=>by cases hn;simp only[navR,Option.some.injEq,Prod.mk.injEq]at hr;obtain⟨rfl,rfl,rfl⟩:=hr;simpa using h
|(i,j)::p,π,m,cs,l,hv,hv',m',cs',l',h,hn,hp,hr=>by
 obtain⟨b,off,n,cap,c,ty,fz,v,m₁,cs₁,h1,h2,h3,h4,h5,h6,h7⟩:=hn;obtain⟨hi,m₂,cs₂,l₂,g1,g2,g3⟩:=hp;rw[h6]at g1;cases g1;simp only[navR,h6,g2,asL]at hr;rcases h with⟨hnil,rfl⟩|⟨b',off',cap',c',ty',fz',e1,e2,e3,e4,e5,e6⟩
 · simp at hi
 ·rw[h1]at e1;cases e1;rw[h3]at e3;cases e3;have hE:=(qa5 l 0).1 e6 i hi;simp only[Nat.zero_add]at hE;have hrow:RowRep w M (π++[(i,j)]) m₁ cs₁ v l₂:=by
   rw[qak hi]at g2;cases m with
   |true=>
    cases hx:l[i]with
    |st xs=>
     rw[hx]at hE g2;obtain⟨hl,hE⟩:=hE;have hj:j<xs.length:=by rw[hl];exact(List.getElem?_eq_some_iff.1 h6).1
     obtain⟨ct,v',k1,k2,k3⟩:=(qag xs 0).1 hE j hj;simp only[Nat.zero_add]at k1 k2 k3;rw[h6]at k1;cases k1;rw[h5]at k2;cases k2;have:xs[j]=.sl l₂:=by simpa[elc,T.cell,List.getElem?_eq_getElem hj]using g2
     rw[this]at k3;exact qa6.1 k3
    |_=>rw[hx]at g2;simp[elc,T.cell]at g2
   |false=>
    obtain⟨ct,v',k1,k2,k3⟩:=hE;subst k1;have hj:j=0:=by have:=(List.getElem?_eq_some_iff.1 h6).1;simp at this;exact this
    subst hj;simp at h6;subst h6;simp only[List.length_singleton,Nat.mul_one,Nat.add_zero]at h5 k2;rw[h5]at k2;cases k2;simp only[elc]at g2;rw[g2]at k3;exact qa6.1 k3
  have:=RowRep.nav p hrow h7 g3 hr;simpa using this
theorem RowRep.replace{w w':World}{M M':Mem}{f:List T->List T}:∀(p:Path){π:Path}{m:Bool}{cs:List CT}{l:List T}{hv hv':Value}{m':Bool}{cs':List CT}{l':List T},RowRep w M π m cs hv l->NavH w M π p cs hv hv'->PathOk p m cs l->navR p m cs l=some (m',cs',l')->RowRep w' M' (π++p) m' cs' hv' (f l')->(M.emp->M'.emp)->(∀b ρ,M b (π++ρ)->(¬∃s,ρ=p++s)->M' b (π++ρ)/\w'.heap[b]? =w.heap[b]?)->RowRep w' M' π m cs hv (updR p m cs l f)
|[],π,m,cs,l,hv,hv',m',cs',l',h,hn,_,hr,hf,_,_=>by cases hn;simp only[navR,Option.some.injEq,Prod.mk.injEq]at hr;obtain⟨rfl,rfl,rfl⟩:=hr;simpa[updR]using hf
|(i,j)::p,π,m,cs,l,hv,hv',m',cs',l',h,hn,hp,hr,hf,hM,hm=>by
 obtain⟨b,off,n,cap,c,ty,fz,v,m₁,cs₁,h1,h2,h3,h4,h5,h6,h7⟩:=hn;obtain⟨hi,m₂,cs₂,l₂,g1,g2,g3⟩:=hp;rw[h6]at g1;cases g1;simp only[navR,h6,g2,asL]at hr;rcases h with⟨hnil,rfl⟩|⟨b',off',cap',c',ty',fz',e1,e2,e3,e4,e5,e6⟩
 · simp at hi
 rw[h1]at e1;cases e1;rw[h3]at e3;cases e3;have hE:=(qa5 l 0).1 e6;simp only[Nat.zero_add]at hE;obtain⟨hb',hc'⟩:=hm b [] (by simpa using h2) (by rintro⟨s,hs⟩;simp at hs);simp only[updR,h6,g2,asL];refine .inr ⟨b,off,cap,c,ty,fz,by rw[List.length_set];exact h1,by simpa using hb',hc'.trans h3,by simpa using e4,e5,?_⟩;rw[qa5];intro k hk;simp only[Nat.zero_add];have hk':k<l.length:=by simpa using hk
 by_cases hki:k=i
 ·subst hki;simp only[List.getElem_set_self];have hEi:=hE k hk';rw[qak hi]at g2|-;cases m with
  |true=>
   cases hx:l[k]with
   |st xs=>
    rw[hx]at hEi g2;obtain⟨hl,hEi⟩:=hEi;have hj:j<xs.length:=by rw[hl];exact(List.getElem?_eq_some_iff.1 h6).1
    have hxj:xs[j]=.sl l₂:=by simpa[elc,T.cell,List.getElem?_eq_getElem hj]using g2
    refine⟨by simpa[els,T.setc]using hl,?_⟩;rw[qag];intro q hq;have hq':q<xs.length:=by simpa using hq
    obtain⟨ct,v',k1,k2,k3⟩:=(qag xs 0).1 hEi q hq';simp only[Nat.zero_add]at k1 k2 k3|-;refine⟨ct,v',k1,k2,?_⟩;by_cases hqj:q=j;· subst hqj;rw[h6]at k1;cases k1;rw[h5]at k2;cases k2;simp only[List.getElem_set_self];rw[hxj]at k3;refine qa6.2 (RowRep.replace p (qa6.1 k3) h7 g3 hr (by simpa using hf) hM λb ρ hb hs=>?_);have:=hm b ((k,q)::ρ) (by simpa using hb) (by rintro⟨s,e⟩;simp at e;exact hs ⟨s,e⟩);simpa using this
    · rw[List.getElem_set_ne (by omega)];refine CellRep.moved _ ⟨hM,λb ρ hb=>?_⟩ k3;have:=hm b ((k,q)::ρ) (by simpa using hb) (by rintro⟨s,e⟩;simp at e;omega);simpa using this
   |_=>rw[hx]at g2;simp[elc,T.cell]at g2
  |false=>
   obtain⟨ct,v',k1,k2,k3⟩:=hEi;subst k1;have hj:j=0:=by have:=(List.getElem?_eq_some_iff.1 h6).1;simp at this;exact this
   subst hj;simp at h6;subst h6;refine⟨_,v',rfl,k2,?_⟩;simp only[elc]at g2;simp only[List.length_singleton,Nat.mul_one,Nat.add_zero]at h5 k2;rw[h5]at k2;cases k2;rw[g2]at k3;simp only[els];refine qa6.2 (RowRep.replace p (qa6.1 k3) h7 g3 hr (by simpa using hf) hM λb ρ hb hs=>?_);have:=hm b ((k,0)::ρ) (by simpa using hb) (by rintro⟨s,e⟩;simp at e;exact hs ⟨s,e⟩);simpa using this
 · rw[List.getElem_set_ne (by omega)];refine ElemRep.move (λj'=>⟨hM,λb ρ hb=>?_⟩) (λ_ _=>rfl) (hE k hk');have:=hm b ((k,j')::ρ) (by simpa using hb) (by rintro⟨s,e⟩;simp at e;omega);simpa using this
def okE(m:Bool)(cs:List CT)(x:T):Bool:=
 match m,x with
 |true,.st xs=>okCs cs xs
 |true,_=>false
 |false,x=>match cs with|[c]=>okC c x|_=>false
theorem qi9(m:Bool)(cs:List CT)(x:T)(l:List T):okL m cs (x::l)=(okE m cs x&&okL m cs l):=by cases m<;>cases x<;>first|rfl|(simp only[okL,okE])
structure KV where
 v:Nat->Value
 r0:Nat->Prop
instance:CoeFun KV (λ_=>Nat->Value):=⟨KV.v⟩
structure Gh where
 φ:Nat->Value
 own:Own
 ro:Nat->Prop
 kv:KV
 al:Nat->Prop
def SubH(sz:Nat)(hv v:Value):Sub->Prop
|none=>v=hv
|some (o,n)=>(hv=.slice none 0 0/\o=0/\n=0/\v=.slice none 0 0)\/∃b off len cap off' cap',hv=.slice (some ⟨b,off,none⟩) len cap/\o+n<=len/\o<=cap/\v=.slice (some ⟨b,off',none⟩) n cap'/\((off'=off+o*sz/\o+cap'=cap)\/(cap'=0/\n=0/\off'<=off+o*sz))
def qz0(es:List MapEntry)(l:List T):Prop:=es.map (λe=>(e.key,e.val))=l.map λt=>(Value.int .i64 (asI (T.cell t 0)),Value.int .i64 (asI (T.cell t 1)))
def MapFit(es:List MapEntry)(clock:Nat):Prop:=(∀e∈es,e.born<clock)/\(es.map (·.born)).Nodup
def MapRep(w:World)(ro:Nat->Prop)(v:Value)(l:List T):Prop:=∃b es clock,v=.map (some b)/\ro b/\w.heap[b]? =some (.map es clock)/\MapFit es.toList clock/\qz0 es.toList l
mutual
def AVRep(w:World)(G:Gh)(h:Hp)(v:Value):AV->Prop
|.z=>True
|.u=>v.oneCell'=true
|.un=>v=undef
|.b x=>v=.bool x
|.i k n=>v=.int k n
|.s x=>v=.string x
|.nl _ _=>v=.slice none 0 0
|.ro k m cs l=>RowRep w (roM G.ro) [] m cs v l/\okL m cs l=true/\(k≠0->v=G.kv k)
|.rf r p ver sub=>v.oneCell'=true/\G.al r/\(match h r with
 |.row m cs l ver' _=>ver<=ver'/\((p=[]\/ver=ver')->∃hv m' cs' l',NavH w (G.own.m r) [] p cs (G.φ r) hv/\PathOk p m cs l/\navR p m cs l=some (m',cs',l')/\SubH cs'.length hv v sub)
 |_=>True)
|.bp r j=>v.oneCell'=true/\G.al r/\(match h r with
 |.box _=>∃b,G.φ r=.pointer (some ⟨b,0,none⟩)/\v=.pointer (some ⟨b,j,none⟩)
 |_=>True)
|.rp r p ver i j=>v.oneCell'=true/\G.al r/\(match h r with
 |.row m cs l ver' _=>ver<=ver'/\((p=[]\/ver=ver')->∃hv m' cs' l' b off n cap,NavH w (G.own.m r) [] p cs (G.φ r) hv/\PathOk p m cs l/\navR p m cs l=some (m',cs',l')/\hv=.slice (some ⟨b,off,none⟩) n cap/\i<n/\v=.pointer (some ⟨b,off+i*cs'.length+j,none⟩))
 |_=>True)
|.cp m cs x j=>∃b o c ty fz i,v=.pointer (some ⟨b,o+j,none⟩)/\G.ro b/\w.heap[b]? =some (.cells c ty fz)/\ElemRep w (roM G.ro) [] m cs c o i x/\okE m cs x=true
|.ag cs=>∃vs,v=.agg vs/\AVReps w G h vs.toList cs
|.tu cs=>∃vs,v=.tuple vs/\AVReps w G h vs.toList cs
|.fn f cs=>∃vs,v=.func (.func f) #[] vs/\AVReps w G h vs.toList cs
|.np=>v=.pointer none\/v=.nilFunc
|.mp l=>MapRep w G.ro v l
def AVReps(w:World)(G:Gh)(h:Hp):List Value->List AV->Prop
|[],[]=>True
|v::vs,x::xs=>AVRep w G h v x/\AVReps w G h vs xs
|_,_=>False
end
theorem AVRep.one{w:World}{G:Gh}{h:Hp}{v:Value}{x:AV}(hx:isC x=true)(H:AVRep w G h v x):v.oneCell'=true:=by
 cases x with
 |z|un|ag _|tu _=>simp[isC]at hx
 |u=>exact H
 |b _=>rw[show v=_ from H];rfl
 |i _ _=>rw[show v=_ from H];rfl
 |s _=>rw[show v=_ from H];rfl
 |nl _ _=>rw[show v=_ from H];rfl
 |ro k m cs l=>exact(qa6.2 H.1).one
 |rf _ _ _ _=>exact H.1
 |bp _ _=>exact H.1
 |rp _ _ _ _ _=>exact H.1
 |cp _ _ _ _=>obtain⟨_,_,_,_,_,_,rfl,_⟩:=H;rfl
 |fn _ _=>obtain⟨_,rfl,_⟩:=H;rfl
 |np=>rcases H with rfl|rfl<;>rfl
 |mp _=>obtain⟨_,_,_,rfl,_⟩:=H;rfl
def Free(fz:Nat×Nat)(n:Nat):Prop:=∀i,i<n->¬(fz.1<=i/\i<fz.2)
def qs8(w:World)(G:Gh)(h:Hp)(r:Nat):Blk->Prop
|.dead=>∀b p,G.own b≠some (.blk r p)
|.box cs=>G.al r/\∃b c ty fz,G.φ r=.pointer (some ⟨b,0,none⟩)/\G.own b=some (.blk r [])/\w.heap[b]? =some (.cells c ty fz)/\AVReps w G h c.toList cs/\∀v∈c.toList,v.oneCell'=true
|.row m cs l _ e=>G.al r/\RowRep w (G.own.m r) [] m cs (G.φ r) l/\(e=false->okL m cs l=true)
structure Inv(w0:World)(S0:Nat->Prop)(w:World)(G:Gh)(h:Hp):Prop where
 os:w.os=w0.os
 tape:w.tape=w0.tape
 output:w.output=w0.output
 size:w0.heap.size<=w.heap.size
 same:∀b,b<w0.heap.size->¬S0 b->w.heap[b]? =w0.heap[b]?
 mine:∀b x,G.own b=some x->S0 b\/w0.heap.size<=b
 cells:∀b x,G.own b=some x->∃c ty fz,w.heap[b]? =some (.cells c ty fz)/\Free fz c.size
 roOwn:∀b,G.ro b->G.own b=none
 roLt:∀b,G.ro b->b<w.heap.size
 roIn:∀b,G.ro b->G.kv.r0 b\/S0 b\/w0.heap.size<=b
 rep:∀r,qs8 w G h r (h r)
def Turn(w w':World)(G G':Gh)(r:Nat):Blk->Blk->Prop
|_,.dead=>True
|.row m cs l v _,.row m' cs' l' v' _=>m'=m/\cs'=cs/\G'.φ r=G.φ r/\((l'=l/\v'=v/\(∀b p,G.own b=some (.blk r p)->G'.own b=some (.blk r p)/\w'.heap[b]? =w.heap[b]?))\/v<v')
|.box _,.box _=>G'.φ r=G.φ r
|_,_=>False
structure Keep(w w':World)(G G':Gh)(h h':Hp):Prop where
 ro:∀b,G.ro b->G'.ro b/\w'.heap[b]? =w.heap[b]?
 kv:G'.kv=G.kv
 al:∀r,G.al r->G'.al r/\Turn w w' G G' r (h r) (h' r)
theorem Keep.refl(w:World)(G:Gh)(h:Hp):Keep w w G G h h:=⟨λ_ hb=>⟨hb,rfl⟩,rfl,λr hr=>⟨hr,by cases h r<;>simp[Turn]⟩⟩
theorem Keep.row{w w':World}{G G':Gh}{h h':Hp}(K:Keep w w' G G' h h'){m:Bool}{cs:List CT}{v:Value}{l:List T}(H:RowRep w (roM G.ro) [] m cs v l):RowRep w' (roM G'.ro) [] m cs v l:=RowRep.moved ⟨λ_=>trivial,λb _ hb=>K.ro b hb⟩ H
mutual
theorem Keep.av{w w':World}{G G':Gh}{h h':Hp}(K:Keep w w' G G' h h'):∀(x:AV){v:Value},AVRep w G h v x->AVRep w' G' h' v x
|.z,_,H=>H
|.u,_,H=>H
|.un,_,H=>H
|.b _,_,H=>H
|.i _ _,_,H=>H
|.s _,_,H=>H
|.nl _ _,_,H=>H
|.np,_,H=>H
|.mp _,_,H=>by obtain⟨b,es,clock,h1,h2,h3,h4⟩:=H;exact⟨b,es,clock,h1,(K.ro b h2).1,by rw[(K.ro b h2).2];exact h3,h4⟩
|.ro k m cs l,v,H=>by refine⟨K.row H.1,H.2.1,λhk=>?_⟩;rw[K.kv];exact H.2.2 hk
|.rf r p ver sub,v,H=>by
 obtain⟨h1,h2,h3⟩:=H;obtain⟨h2',ht⟩:=K.al r h2;refine⟨h1,h2',?_⟩;cases hr':h' r with
 |dead=>trivial
 |box _=>trivial
 |row m' cs' l' v' e'=>
  rw[hr']at ht;cases hr:h r with
  |dead=>rw[hr]at ht;exact ht.elim
  |box _=>rw[hr]at ht;exact ht.elim
  |row m cs l w₁ e=>
   rw[hr]at ht h3;obtain⟨rfl,rfl,hφ,ht⟩:=ht;obtain⟨hle,h3⟩:=h3;rcases ht with⟨rfl,rfl,hb⟩|hlt
   · refine⟨hle,λhp=>?_⟩;obtain⟨hv,m₁,cs₁,l₁,g1,g2,g3,g4⟩:=h3 hp;exact⟨hv,m₁,cs₁,l₁,by rw[hφ];exact NavH.moved p (λb ρ hb' _=>by simpa[Own.m]using hb b ρ (by simpa[Own.m]using hb')) g1,g2,g3,g4⟩
   ·refine⟨Nat.le_of_lt (Nat.lt_of_le_of_lt hle hlt),λhp=>?_⟩;rcases hp with rfl|rfl
    · obtain⟨hv,m₁,cs₁,l₁,g1,g2,g3,g4⟩:=h3 (.inl rfl);simp only[navR,Option.some.injEq,Prod.mk.injEq]at g3;obtain⟨rfl,rfl,rfl⟩:=g3;exact⟨hv,_,_,l',by rw[hφ];exact g1,trivial,rfl,g4⟩
    · omega
|.bp r j,v,H=>by
 obtain⟨h1,h2,h3⟩:=H;obtain⟨h2',ht⟩:=K.al r h2;refine⟨h1,h2',?_⟩;cases hr':h' r with
 |dead=>trivial
 |row _ _ _ _ _=>trivial
 |box _=>
  rw[hr']at ht;cases hr:h r with
  |dead=>rw[hr]at ht;exact ht.elim
  |row _ _ _ _ _=>rw[hr]at ht;exact ht.elim
  |box _=>rw[hr]at ht h3;obtain⟨b,g1,g2⟩:=h3;exact⟨b,ht.trans g1,g2⟩
|.rp r p ver i j,v,H=>by
 obtain⟨h1,h2,h3⟩:=H;obtain⟨h2',ht⟩:=K.al r h2;refine⟨h1,h2',?_⟩;cases hr':h' r with
 |dead=>trivial
 |box _=>trivial
 |row m' cs' l' v' e'=>
  rw[hr']at ht;cases hr:h r with
  |dead=>rw[hr]at ht;exact ht.elim
  |box _=>rw[hr]at ht;exact ht.elim
  |row m cs l w₁ e=>
   rw[hr]at ht h3;obtain⟨rfl,rfl,hφ,ht⟩:=ht;obtain⟨hle,h3⟩:=h3;rcases ht with⟨rfl,rfl,hb⟩|hlt
   · refine⟨hle,λhp=>?_⟩;obtain⟨hv,m₁,cs₁,l₁,b,off,n,cap,g1,g2,g3,g4⟩:=h3 hp;exact⟨hv,m₁,cs₁,l₁,b,off,n,cap,by rw[hφ];exact NavH.moved p (λb ρ hb' _=>by simpa[Own.m]using hb b ρ (by simpa[Own.m]using hb')) g1,g2,g3,g4⟩
   ·refine⟨Nat.le_of_lt (Nat.lt_of_le_of_lt hle hlt),λhp=>?_⟩;rcases hp with rfl|rfl
    · obtain⟨hv,m₁,cs₁,l₁,b,off,n,cap,g1,g2,g3,g4⟩:=h3 (.inl rfl);simp only[navR,Option.some.injEq,Prod.mk.injEq]at g3;obtain⟨rfl,rfl,rfl⟩:=g3;exact⟨hv,_,_,l',b,off,n,cap,by rw[hφ];exact g1,trivial,rfl,g4⟩
    · omega
|.cp m cs x j,v,H=>by obtain⟨b,o,c,ty,fz,i,h1,h2,h3,h4,h5⟩:=H;obtain⟨h2',h3'⟩:=K.ro b h2;exact⟨b,o,c,ty,fz,i,h1,h2',h3'.trans h3,ElemRep.moved ⟨λ_=>trivial,λb _ hb=>K.ro b hb⟩ h4,h5⟩
|.ag cs,v,H=>by obtain⟨vs,h1,h2⟩:=H;exact⟨vs,h1,Keep.avs K cs h2⟩
|.tu cs,v,H=>by obtain⟨vs,h1,h2⟩:=H;exact⟨vs,h1,Keep.avs K cs h2⟩
|.fn f cs,v,H=>by obtain⟨vs,h1,h2⟩:=H;exact⟨vs,h1,Keep.avs K cs h2⟩
theorem Keep.avs{w w':World}{G G':Gh}{h h':Hp}(K:Keep w w' G G' h h'):∀(xs:List AV){vs:List Value},AVReps w G h vs xs->AVReps w' G' h' vs xs
|[],vs,H=>by cases vs<;>first|trivial|exact H.elim
|x::xs,vs,H=>by
 cases vs with
 |nil=>exact H.elim
 |cons v vs=>exact⟨Keep.av K x H.1,Keep.avs K xs H.2⟩
end
theorem AVReps.length{w:World}{G:Gh}{h:Hp}:∀{vs:List Value}{xs:List AV},AVReps w G h vs xs->vs.length=xs.length
|[],[],_=>rfl
|_::_,_::_,H=>by simp[AVReps.length H.2]
|[],_::_,H=>H.elim
|_::_,[],H=>H.elim
theorem AVReps.get{w:World}{G:Gh}{h:Hp}:∀{vs:List Value}{xs:List AV}(_:AVReps w G h vs xs)(i:Nat){x:AV}(_:xs[i]? =some x),∃v,vs[i]? =some v/\AVRep w G h v x
|[],[],_,i,x,hx=>by simp at hx
|v::_,y::_,H,0,x,hx=>by simp at hx;subst hx;exact⟨v,rfl,H.1⟩
|_::_,_::_,H,i+1,x,hx=>by simpa using AVReps.get H.2 i (by simpa using hx)
|[],_::_,H,_,_,_=>H.elim
|_::_,[],H,_,_,_=>H.elim
section
variable{P:Program}{w:World}
theorem qa4{t:TypeId}{d:TypeDesc}(h:P.underlying t=some d):(underlying t).run P w=.ok d w:=by simp[underlying,h]
theorem qkz{t:TypeId}{i:TypeInfo}(h:P.info? t=some i):(typeInfo t).run P w=.ok i w:=by simp[typeInfo,h]
theorem qdl{t:TypeId}{i:TypeInfo}(h:P.info? t=some i):(sizeOf t).run P w=.ok i.size w:=by simp[sizeOf,qkz h]
theorem qnm{t:TypeId}{i:TypeInfo}{z:Value}(h:P.info? t=some i)(hz:i.zero=some z):(zeroValue t).run P w=.ok z w:=by simp[zeroValue,qkz h,hz]
def qjo:TypeDesc->Bool
|.struct _|.array _ _=>true
|_=>false
theorem qp5{t:TypeId}{d:TypeDesc}(h:P.underlying t=some d):(isAgg t).run P w=.ok (qjo d) w:=by cases d<;>simp[isAgg,qa4 h,qjo]
theorem cell_of{b o:Nat}{c:Array Value}{ty:TypeId}{fz:Nat×Nat}(h:w.heap[b]? =some (.cells c ty fz)):w.cell? ⟨b,o,none⟩=c[o]? :=by simp[World.cell?,h]
theorem qc3(b o k:Nat):(⟨b,o,none⟩:Addr).add k=⟨b,o+k,none⟩:=by
 unfold Addr.add;split;· rename_i h;simp[h]
 · rfl
theorem qz5{b o:Nat}{c:Array Value}{ty:TypeId}{fz:Nat×Nat}{v:Value}(h:w.heap[b]? =some (.cells c ty fz))(hv:c[o]? =some v):(load ⟨b,o,none⟩).run P w=.ok v w:=by simp[cell_of h,hv]
theorem qky{b o:Nat}{c:Array Value}{ty:TypeId}{fz:Nat×Nat}(h:w.heap[b]? =some (.cells c ty fz)):∀(n i:Nat)(acc:Array Value)(vs:List Value),vs.length=n->(∀k(hk:k<vs.length),c[o+i+k]? =some vs[k])->(loadCellsFrom ⟨b,o,none⟩ i n acc).run P w=.ok (acc++vs.toArray) w
|0,i,acc,vs,hl,_=>by have:vs=[]:=List.length_eq_zero_iff.1 hl;subst this;simp[loadCellsFrom]
|n+1,i,acc,vs,hl,hc=>by
 cases vs with
 |nil=>simp at hl
 |cons v vs=>have h0:=hc 0 (by simp);simp only[Nat.add_zero,List.getElem_cons_zero]at h0;simp only[loadCellsFrom,Sem.run_bind,qc3];rw[qz5 h h0];simp only[Result.andThen_ok];rw[qky h n (i+1) (acc.push v) vs (by simpa using hl) (λk hk=>by have:=hc (k+1) (by simpa using hk);rw[show o+(i+1)+k=o+i+(k+1)by omega];simpa using this)];simp
theorem qfj{b o n:Nat}{c:Array Value}{ty:TypeId}{fz:Nat×Nat}{vs:List Value}(h:w.heap[b]? =some (.cells c ty fz))(hl:vs.length=n)(hc:∀k(hk:k<vs.length),c[o+k]? =some vs[k]):(loadCells ⟨b,o,none⟩ n).run P w=.ok vs.toArray w:=by unfold loadCells;rw[qky h n 0 #[] vs hl (by simpa using hc)];simp
def putA:Array Value->Nat->List Value->Array Value
|c,_,[]=>c
|c,o,v::vs=>putA (c.setIfInBounds o v) (o+1) vs
theorem qbb:∀(vs:List Value)(c:Array Value)(o:Nat),(putA c o vs).size=c.size
|[],_,_=>rfl
|_::vs,c,o=>by simp[putA,qbb vs]
theorem qfk:∀(vs:List Value)(c:Array Value)(o k:Nat),(k<o\/o+vs.length<=k)->(putA c o vs)[k]? =c[k]?
|[],_,_,_,_=>rfl
|v::vs,c,o,k,h=>by rw[putA,qfk vs _ (o+1) k (by simp at h;omega),Array.getElem?_setIfInBounds_ne (by simp at h;omega)]
theorem qhb:∀(vs:List Value)(c:Array Value)(o k:Nat)(hk:k<vs.length),o+vs.length<=c.size->(putA c o vs)[o+k]? =some vs[k]
|v::vs,c,o,0,_,h=>by
 rw[Nat.add_zero,putA,qfk vs _ (o+1) o (by omega)];have:o<c.size:=by simp only[List.length_cons]at h;omega
 simp[this]
|v::vs,c,o,k+1,hk,h=>by rw[putA,show o+(k+1)=o+1+k by omega,qhb vs _ (o+1) k (by simpa using hk) (by simp at h|-;omega)];simp
def putC(w:World)(b:Nat)(c:Array Value):World:=
 {w with heap:=w.heap.modify b λ
 |.cells _ ty fz=>.cells c ty fz
 |o=>o}
theorem qcr(w:World){b:Nat}{c c':Array Value}{ty:TypeId}{fz:Nat×Nat}(h:w.heap[b]? =some (.cells c ty fz)):(putC w b c').heap[b]? =some (.cells c' ty fz):=by simp[putC,Array.getElem?_modify,h]
theorem qdy(w:World){b b':Nat}(c':Array Value)(h:b'≠b):(putC w b c').heap[b']? =w.heap[b']? :=by simp[putC,Array.getElem?_modify,Ne.symm h]
theorem qnn(w:World)(b:Nat)(c':Array Value):(putC w b c').heap.size=w.heap.size:=by simp[putC]
theorem qj5(b o:Nat)(ty:TypeId)(fz:Nat×Nat):∀(vs:List Value)(i:Nat)(c:Array Value)(w:World),w.heap[b]? =some (.cells c ty fz)->Free fz c.size->o+i+vs.length<=c.size->(∀v∈vs,v.oneCell'=true)->(storeCells ⟨b,o,none⟩ vs i).run P w=.ok () (putC w b (putA c (o+i) vs))
|[],i,c,w,h,_,_,_=>by
 have:putC w b c=w:=by
  unfold putC;congr 1;apply Array.ext_getElem?;intro k;rw[Array.getElem?_modify];by_cases hk:b=k;· subst hk;simp[h]
  · simp[hk]
 simp[storeCells,putA,this]
|v::vs,i,c,w,h,hf,hl,h1=>by
 have hlt:o+i<c.size:=by simp at hl;omega
 simp only[storeCells,Sem.run_bind,qc3];rw[run_store P w _ v .plain (h1 v (by simp))];have hc:w.cell? ⟨b,o+i,none⟩=some c[o+i]:=by rw[cell_of h];simp[hlt]
 have hz:w.frozen? ⟨b,o+i,none⟩=false:=by
  simp only[World.frozen?,h];have:=hf (o+i) hlt;simp only[Bool.and_eq_false_iff,decide_eq_false_iff_not];by_cases h1:fz.1<=o+i;· right;intro h2;exact this ⟨h1,h2⟩
  · left;exact h1
 simp only[hc,hz,Bool.false_eq_true,if_false,Result.andThen_ok];have hw:w.setCell ⟨b,o+i,none⟩ v=putC w b (c.setIfInBounds (o+i) v):=by
  unfold World.setCell putC;congr 1;apply Array.ext_getElem?;intro k;simp only[Array.getElem?_modify];by_cases hk:b=k;· subst hk;simp[h]
  · simp[hk]
 rw[hw,qj5 b o ty fz vs (i+1) (c.setIfInBounds (o+i) v) _ (qcr w h) (by simpa using hf) (by simp at hl|-;omega) (λu hu=>h1 u (by simp[hu]))];congr 1;rw[show o+(i+1)=o+i+1 by omega];unfold putC;congr 1;apply Array.ext_getElem?;intro k;simp only[Array.getElem?_modify];by_cases hk:b=k;· subst hk;simp[h,putA]
 · simp[hk]
theorem qej{b o:Nat}{c:Array Value}{ty:TypeId}{fz:Nat×Nat}{vs:List Value}(h:w.heap[b]? =some (.cells c ty fz))(hf:Free fz c.size)(hl:o+vs.length<=c.size)(h1:∀v∈vs,v.oneCell'=true):(storeCells ⟨b,o,none⟩ vs).run P w=.ok () (putC w b (putA c o vs)):=by have:=qj5 (P:=P) b o ty fz vs 0 c w h hf (by simpa using hl) h1;simpa using this
theorem qdx(t:TypeId)(c:Array Value):(newRow t c).run P w=.ok ⟨w.heap.size,0,none⟩ {w with heap:=w.heap.push (.cells c t)}:=by simp[newRow]
end
def setL:List T->Nat->List T->List T
|xs,_,[]=>xs
|xs,j,t::ts=>setL (xs.set j t) (j+1) ts
theorem qfu:∀(ts xs:List T)(j:Nat),qdj true (.st xs) j ts=.st (setL xs j ts)
|[],_,_=>rfl
|t::ts,xs,j=>by simp[qdj,els,T.setc,setL,qfu ts]
theorem qcn:∀(ts xs:List T)(j:Nat),(setL xs j ts).length=xs.length
|[],_,_=>rfl
|t::ts,xs,j=>by simp[setL,qcn ts]
theorem qm2:∀(ts xs:List T)(j k:Nat),(k<j\/j+ts.length<=k)->(setL xs j ts)[k]? =xs[k]?
|[],_,_,_,_=>rfl
|t::ts,xs,j,k,h=>by rw[setL,qm2 ts _ (j+1) k (by simp at h;omega),List.getElem?_set_ne (by simp at h;omega)]
theorem qm3:∀(ts xs:List T)(j k:Nat)(hk:k<ts.length),j+ts.length<=xs.length->(setL xs j ts)[j+k]? =some ts[k]
|t::ts,xs,j,0,_,h=>by
 rw[Nat.add_zero,setL,qm2 ts _ (j+1) j (by omega)];have:j<xs.length:=by simp only[List.length_cons]at h;omega
 simp[this]
|t::ts,xs,j,k+1,hk,h=>by rw[setL,show j+(k+1)=j+1+k by omega,qm3 ts _ (j+1) k (by simpa using hk) (by simp at h|-;omega)];simp
theorem ElemRep.put{w w':World}{M M':Mem}{π:Path}{m:Bool}{cs:List CT}{c c':Array Value}{o i j:Nat}{x:T}{ts:List T}(h:ElemRep w M π m cs c o i x)(hj:j+ts.length<=cs.length)(hold:∀k,k<cs.length->(k<j\/j+ts.length<=k)->c'[o+k]? =c[o+k]? /\Moved w w' M M' (π++[(i,k)]) (π++[(i,k)]))(hnew:∀k(hk:k<ts.length),∃ct v,cs[j+k]? =some ct/\c'[o+(j+k)]? =some v/\CellRep w' M' (π++[(i,j+k)]) ct v ts[k]):ElemRep w' M' π m cs c' o i (qdj m x j ts):=by
 cases m with
 |true=>
  cases x with
  |st xs=>
   obtain⟨hl,h⟩:=h;rw[qfu];refine⟨by rw[qcn];exact hl,?_⟩;rw[qag];intro k hk;have hk':k<xs.length:=by rw[qcn]at hk;exact hk
   by_cases hr:k<j\/j+ts.length<=k;· obtain⟨ct,v,h1,h2,h3⟩:=(qag xs 0).1 h k hk';obtain⟨g1,g2⟩:=hold k (by omega) hr;simp only[Nat.zero_add]at h1 h2 h3|-;refine⟨ct,v,h1,g1.trans h2,?_⟩;have hx:=qm2 ts xs j k hr;rw[List.getElem?_eq_getElem hk,List.getElem?_eq_getElem hk']at hx;rw[Option.some.inj hx];exact CellRep.moved _ g2 h3
   · obtain⟨q,rfl⟩:∃q,k=j+q:=⟨k-j,by omega⟩;obtain⟨ct,v,h1,h2,h3⟩:=hnew q (by omega);have hx:=qm3 ts xs j q (by omega) (by omega);rw[List.getElem?_eq_getElem hk]at hx;simp only[Nat.zero_add];refine⟨ct,v,h1,h2,?_⟩;rw[Option.some.inj hx];exact h3
  |_=>exact h.elim
 |false=>
  obtain⟨ct,v,h1,h2,h3⟩:=h;subst h1;cases ts with
  |nil=>obtain⟨g1,g2⟩:=hold 0 (by simp) (by simp at hj|-;omega);exact⟨ct,v,rfl,by simpa using g1.trans (by simpa using h2),CellRep.moved _ g2 h3⟩
  |cons t ts=>
   have hts:ts=[]/\j=0:=by simp at hj;refine⟨List.length_eq_zero_iff.1 (by omega),by omega⟩
   obtain⟨rfl,rfl⟩:=hts;obtain⟨ct',v',g1,g2,g3⟩:=hnew 0 (by simp);simp at g1;subst g1;exact⟨ct,v',rfl,by simpa using g2,by simpa[qdj,els]using g3⟩
theorem Inv.fresh{w0:World}{S0:Nat->Prop}{w:World}{G:Gh}{h:Hp}(I:Inv w0 S0 w G h){r:Nat}(hr:¬G.al r):∀b p,G.own b≠some (.blk r p):=by
 have:=I.rep r;cases e:h r with
 |dead=>rw[e]at this;exact this
 |box cs=>rw[e]at this;exact absurd this.1 hr
 |row m cs l v z=>rw[e]at this;exact absurd this.1 hr
theorem Inv.ownLt{w0:World}{S0:Nat->Prop}{w:World}{G:Gh}{h:Hp}(I:Inv w0 S0 w G h){b:Nat}{x:Lab}(hb:G.own b=some x):b<w.heap.size:=by obtain⟨c,ty,fz,hc,_⟩:=I.cells b x hb;exact(Array.getElem?_eq_some_iff.1 hc).1
theorem Inv.newNone{w0:World}{S0:Nat->Prop}{w:World}{G:Gh}{h:Hp}(I:Inv w0 S0 w G h){b:Nat}(hb:w.heap.size<=b):G.own b=none:=by
 cases e:G.own b with
 |none=>rfl
 |some x=>exact absurd (I.ownLt e) (by omega)
structure Step(w w':World)(G G':Gh)(h h':Hp)(tc:Nat->Prop):Prop where
 os:w'.os=w.os
 tape:w'.tape=w.tape
 output:w'.output=w.output
 size:w.heap.size<=w'.heap.size
 same:∀b,b<w.heap.size->G.own b=none->w'.heap[b]? =w.heap[b]?
 mine:∀b x,G'.own b=some x->(∃y,G.own b=some y)\/w.heap.size<=b
 cells:∀b x,G'.own b=some x->∃c ty fz,w'.heap[b]? =some (.cells c ty fz)/\Free fz c.size
 ro:G'.ro=G.ro
 kv:G'.kv=G.kv
 al:∀r,G.al r->G'.al r
 stay:∀r,¬tc r->h' r=h r/\G'.φ r=G.φ r/\(∀b p,G.own b=some (.blk r p)->G'.own b=some (.blk r p)/\w'.heap[b]? =w.heap[b]?)/\∀b p,G'.own b=some (.blk r p)->G.own b=some (.blk r p)
 turn:∀r,tc r->G.al r->Turn w w' G G' r (h r) (h' r)
section
variable{w0 w w':World}{S0:Nat->Prop}{G G':Gh}{h h':Hp}{tc:Nat->Prop}
theorem Step.keep(I:Inv w0 S0 w G h)(T:Step w w' G G' h h' tc):Keep w w' G G' h h':=by
 refine⟨λb hb=>⟨by rw[T.ro];exact hb,T.same b (I.roLt b hb) (I.roOwn b hb)⟩,T.kv,λr hr=>⟨T.al r hr,?_⟩⟩;by_cases ht:tc r;· exact T.turn r ht hr
 ·obtain⟨h1,h2,h3,_⟩:=T.stay r ht;rw[h1];cases h r with
  |dead=>trivial
  |box _=>exact h2
  |row m cs l v e=>exact⟨rfl,rfl,h2,.inl ⟨rfl,rfl,h3⟩⟩
theorem Step.inv(I:Inv w0 S0 w G h)(T:Step w w' G G' h h' tc)(hrep:∀r,tc r->qs8 w' G' h' r (h' r)):Inv w0 S0 w' G' h':=by
 have K:=T.keep I;refine⟨T.os.trans I.os,T.tape.trans I.tape,T.output.trans I.output,Nat.le_trans I.size T.size,λb hb hs=>?_,λb x hx=>?_,T.cells,λb hb=>?_,λb hb=>?_,λb hb=>?_,λr=>?_⟩
 ·have hlt:b<w.heap.size:=Nat.lt_of_lt_of_le hb I.size;have hn:G.own b=none:=by
   cases e:G.own b with
   |none=>rfl
   |some x=>
    rcases I.mine b x e with h1|h1
    · exact absurd h1 hs
    · omega
  exact(T.same b hlt hn).trans (I.same b hb hs)
 ·rcases T.mine b x hx with⟨y,hy⟩|h1
  · exact I.mine b y hy
  · exact .inr (Nat.le_trans I.size h1)
 ·rw[T.ro]at hb;cases e:G'.own b with
  |none=>rfl
  |some x=>
   rcases T.mine b x e with⟨y,hy⟩|h1
   · rw[I.roOwn b hb]at hy;cases hy
   · have:=I.roLt b hb;omega
 · rw[T.ro]at hb;exact Nat.lt_of_lt_of_le (I.roLt b hb) T.size
 · rw[T.ro]at hb;rw[T.kv];exact I.roIn b hb
 ·by_cases ht:tc r;· exact hrep r ht
  ·obtain⟨h1,h2,h3,h4⟩:=T.stay r ht;have R:=I.rep r;rw[h1];cases e:h r with
   |dead=>rw[e]at R;exactλb p hb=>R b p (h4 b p hb)
   |box cs=>rw[e]at R;obtain⟨ha,b,c,ty,fz,g1,g2,g3,g4,g5⟩:=R;obtain⟨g2',g3'⟩:=h3 b [] g2;exact⟨T.al r ha,b,c,ty,fz,h2.trans g1,g2',g3'.trans g3,K.avs cs g4,g5⟩
   |row m cs l v z=>rw[e]at R;obtain⟨ha,g1,g2⟩:=R;refine⟨T.al r ha,?_,g2⟩;rw[h2];exact RowRep.moved (M:=G.own.m r) (M':=G'.own.m r) ⟨λhf=>False.elim hf,λb ρ hb=>h3 b ([]++ρ) hb⟩ g1
end
def pushC(w:World)(c:Array Value)(t:TypeId):World:={w with heap:=w.heap.push (.cells c t)}
theorem qbx(w:World)(c:Array Value)(t:TypeId){b:Nat}(h:b<w.heap.size):(pushC w c t).heap[b]? =w.heap[b]? :=by unfold pushC;simp only[Array.getElem?_push,if_neg (Nat.ne_of_lt h)]
theorem qdm(w:World)(c:Array Value)(t:TypeId):(pushC w c t).heap[w.heap.size]? =some (.cells c t (0,0)):=by unfold pushC;simp only[Array.getElem?_push_size]
theorem free0(n:Nat):Free (0,0) n:=λi _ h=>by omega
def Gh.alloc(G:Gh)(r b:Nat)(v:Value):Gh:={G with φ:=upd G.φ r v,own:=upd G.own b (some (.blk r [])),al:=λx=>G.al x\/x=r}
theorem upd_same{α:Type}(f:Nat->α)(r:Nat)(x:α):upd f r x r=x:=by simp[upd]
theorem upd_ne{α:Type}(f:Nat->α){r k:Nat}(x:α)(h:k≠r):upd f r x k=f k:=by
 unfold upd;cases e:Nat.beq k r with
 |true=>exact absurd (Nat.eq_of_beq_eq_true e) h
 |false=>rfl
theorem qls{w0 w:World}{S0:Nat->Prop}{G:Gh}{h:Hp}(I:Inv w0 S0 w G h){r:Nat}(hr:¬G.al r)(c:Array Value)(t:TypeId)(v:Value)(B:Blk):Step w (pushC w c t) G (G.alloc r w.heap.size v) h (upd h r B) (λx=>x=r):=by
 have hn:G.own w.heap.size=none:=I.newNone (Nat.le_refl _);refine⟨rfl,rfl,rfl,by simp[pushC],λb hb _=>qbx w c t hb,λb x hx=>?_,λb x hx=>?_,rfl,rfl,λr h=>.inl h,λx hx=>⟨upd_ne _ _ hx,upd_ne _ _ hx,λb p hb=>?_,λb p hb=>?_⟩,λx hx ha=>?_⟩
 ·by_cases e:b=w.heap.size;· right;omega
  · left;exact⟨x,by simpa[Gh.alloc,upd_ne _ _ e]using hx⟩
 ·by_cases e:b=w.heap.size;· subst e;exact⟨c,t,(0,0),qdm w c t,free0 _⟩
  ·have hx':G.own b=some x:=by simpa[Gh.alloc,upd_ne _ _ e]using hx
   obtain⟨c',ty,fz,h1,h2⟩:=I.cells b x hx';exact⟨c',ty,fz,(qbx w c t (I.ownLt hx')).trans h1,h2⟩
 · have e:b≠w.heap.size:=Nat.ne_of_lt (I.ownLt hb);exact⟨by simpa[Gh.alloc,upd_ne _ _ e]using hb,qbx w c t (I.ownLt hb)⟩
 ·by_cases e:b=w.heap.size;· subst e;simp[Gh.alloc,upd_same]at hb;exact absurd hb.1.symm hx
  · simpa[Gh.alloc,upd_ne _ _ e]using hb
 · exact absurd (hx▸ha) hr
theorem qot{w0 w:World}{S0:Nat->Prop}{G:Gh}{h:Hp}(I:Inv w0 S0 w G h){r:Nat}(hr:¬G.al r){c:Array Value}{cs:List AV}(t:TypeId)(H:AVReps w G h c.toList cs)(h1:∀v∈c.toList,v.oneCell'=true):Inv w0 S0 (pushC w c t) (G.alloc r w.heap.size (.pointer (some ⟨w.heap.size,0,none⟩))) (upd h r (.box cs))/\Keep w (pushC w c t) G (G.alloc r w.heap.size (.pointer (some ⟨w.heap.size,0,none⟩))) h (upd h r (.box cs))/\AVRep (pushC w c t) (G.alloc r w.heap.size (.pointer (some ⟨w.heap.size,0,none⟩))) (upd h r (.box cs)) (.pointer (some ⟨w.heap.size,0,none⟩)) (.bp r 0):=by
 have T:=qls I hr c t (.pointer (some ⟨w.heap.size,0,none⟩)) (.box cs);have K:=T.keep I;refine⟨T.inv I λx hx=>?_,K,?_⟩;· subst hx;rw[upd_same];exact⟨.inr rfl,w.heap.size,c,t,(0,0),by simp[Gh.alloc,upd_same],by simp[Gh.alloc,upd_same],qdm w c t,K.avs cs H,h1⟩
 · refine⟨rfl,.inr rfl,?_⟩;rw[upd_same];exact⟨w.heap.size,by simp[Gh.alloc,upd_same],rfl⟩
theorem qos{w0 w:World}{S0:Nat->Prop}{G:Gh}{h:Hp}(I:Inv w0 S0 w G h){r:Nat}(hr:¬G.al r){c:Array Value}{m:Bool}{cs:List CT}{l:List T}{n cap:Nat}(t:TypeId)(hn:l.length=n)(hl:n<=cap)(hc:cap*cs.length<=c.size)(H:ElemsRep (pushC w c t) ((G.alloc r w.heap.size (.slice (some ⟨w.heap.size,0,none⟩) n cap)).own.m r) [] m cs c 0 0 l)(hok:okL m cs l=true):Inv w0 S0 (pushC w c t) (G.alloc r w.heap.size (.slice (some ⟨w.heap.size,0,none⟩) n cap)) (upd h r (.row m cs l 0 false))/\Keep w (pushC w c t) G (G.alloc r w.heap.size (.slice (some ⟨w.heap.size,0,none⟩) n cap)) h (upd h r (.row m cs l 0 false))/\AVRep (pushC w c t) (G.alloc r w.heap.size (.slice (some ⟨w.heap.size,0,none⟩) n cap)) (upd h r (.row m cs l 0 false)) (.slice (some ⟨w.heap.size,0,none⟩) n cap) (.rf r [] 0 none):=by
 have T:=qls I hr c t (.slice (some ⟨w.heap.size,0,none⟩) n cap) (.row m cs l 0 false);have K:=T.keep I;refine⟨T.inv I λx hx=>?_,K,?_⟩;· subst hx;rw[upd_same];refine⟨.inr rfl,.inr ⟨w.heap.size,0,cap,c,t,(0,0),by simp[Gh.alloc,upd_same,hn],by simp[Own.m,Gh.alloc,upd_same],qdm w c t,by omega,by omega,H⟩,λ_=>hok⟩
 · refine⟨rfl,.inr rfl,?_⟩;rw[upd_same];exact⟨Nat.le_refl _,λ_=>⟨_,m,cs,l,rfl,trivial,rfl,by simp[Gh.alloc,upd_same,SubH]⟩⟩
theorem CT.beq_eq:∀{a b:CT},CT.beq a b=true->a=b
|.b,.b,_=>rfl
|.s,.s,_=>rfl
|.o,.o,_=>rfl
|.i k,.i k',h=>by simp[CT.beq]at h;rw[h]
|.sl m cs,.sl m' cs',h=>by simp only[CT.beq,Bool.and_eq_true,beq_iff_eq]at h;rw[h.1,go h.2]
|.b,.i _,h|.b,.s,h|.b,.sl _ _,h|.b,.o,h=>by simp[CT.beq]at h
|.i _,.b,h|.i _,.s,h|.i _,.sl _ _,h|.i _,.o,h=>by simp[CT.beq]at h
|.s,.b,h|.s,.i _,h|.s,.sl _ _,h|.s,.o,h=>by simp[CT.beq]at h
|.sl _ _,.b,h|.sl _ _,.i _,h|.sl _ _,.s,h|.sl _ _,.o,h=>by simp[CT.beq]at h
|.o,.b,h|.o,.i _,h|.o,.s,h|.o,.sl _ _,h=>by simp[CT.beq]at h
where
 go:∀{a b:List CT},CT.beq.go a b=true->a=b
 |[],[],_=>rfl
 |c::cs,d::ds,h=>by simp only[CT.beq.go,Bool.and_eq_true]at h;rw[CT.beq_eq h.1,go h.2]
 |[],_::_,h=>by simp[CT.beq.go]at h
 |_::_,[],h=>by simp[CT.beq.go]at h
theorem qcm:∀{a b:List CT},qd2 a b=true->a=b
|[],[],_=>rfl
|c::cs,d::ds,h=>by simp only[qd2,Bool.and_eq_true]at h;rw[CT.beq_eq h.1,qcm h.2]
|[],_::_,h=>by simp[qd2]at h
|_::_,[],h=>by simp[qd2]at h
def qbv:CT->Value->Bool
|.b,.bool x=>!x
|.i k,.int k' n=>decide (k=k')&&decide (n=0)
|.s,.string x=>x.data.isEmpty
|.sl _ _,.slice none 0 0=>true
|.o,.pointer none=>true
|.o,.nilFunc=>true
|_,_=>false
def qc4:List CT->List Value->Bool
|[],[]=>true
|c::cs,v::vs=>qbv c v&&qc4 cs vs
|_,_=>false
theorem qs9{c:CT}{v:Value}(h:qbv c v=true):v.oneCell'=true:=by cases c<;>cases v<;>simp_all[qbv,Value.oneCell']
theorem qtl{c:CT}{v:Value}{x:AV}(h:qbv c v=true)(hx:qeb c=some x)(w:World)(G:Gh)(hp:Hp):AVRep w G hp v x:=by
 cases c with
 |b=>cases v<;>simp_all[qbv,qeb];subst hx;rfl
 |i k=>cases v<;>simp_all[qbv,qeb];subst hx;rfl
 |s=>
  cases v with
  |string x=>
   simp only[qeb,Option.some.injEq]at hx;subst hx;obtain⟨d⟩:=x;have:d=#[]:=by simpa[qbv]using h
   subst this;rfl
  |_=>simp[qbv]at h
 |sl m cs=>simp only[qeb,Option.some.injEq]at hx;subst hx;unfold qbv at h;split at h<;>first|rfl|simp_all
 |o=>simp only[qeb,Option.some.injEq]at hx;subst hx;unfold qbv at h;split at h<;>first|exact .inl rfl|exact .inr rfl|simp_all
theorem qow{c:CT}{v:Value}{x:T}(h:qbv c v=true)(hx:tZero c=some x)(w:World)(M:Mem)(π:Path):CellRep w M π c v x:=by
 cases c with
 |b=>cases v<;>simp_all[qbv,tZero];subst hx;exact⟨rfl,rfl⟩
 |i k=>cases v<;>simp_all[qbv,tZero];subst hx;exact⟨rfl,rfl⟩
 |s=>
  cases v with
  |string x=>
   simp only[tZero,Option.some.injEq]at hx;subst hx;obtain⟨d⟩:=x;have:d=#[]:=by simpa[qbv]using h
   subst this;exact⟨rfl,rfl⟩
  |_=>simp[qbv]at h
 |sl m cs=>
  simp only[tZero,Option.some.injEq]at hx;subst hx;have:v=.slice none 0 0:=by unfold qbv at h;split at h<;>first|rfl|simp_all
  subst this;exact qa6.2 (.inl ⟨.inl rfl,rfl⟩)
 |o=>simp[tZero]at hx
theorem qb3:∀{cs:List CT}{vs:List Value},qc4 cs vs=true->vs.length=cs.length
|[],[],_=>rfl
|c::cs,v::vs,h=>by simp only[qc4,Bool.and_eq_true]at h;simp[qb3 h.2]
|[],_::_,h=>by simp[qc4]at h
|_::_,[],h=>by simp[qc4]at h
theorem qch:∀{cs:List CT}{vs:List Value},qc4 cs vs=true->∀{j:Nat}{c:CT},cs[j]? =some c->∃v,vs[j]? =some v/\qbv c v=true
|[],[],_,j,c,hc=>by simp at hc
|c::cs,v::vs,h,0,d,hd=>by simp only[qc4,Bool.and_eq_true]at h;simp at hd;subst hd;exact⟨v,rfl,h.1⟩
|c::cs,v::vs,h,j+1,d,hd=>by simp only[qc4,Bool.and_eq_true]at h;simpa using qch h.2 (by simpa using hd)
|[],_::_,h,_,_,_=>by simp[qc4]at h
|_::_,[],h,_,_,_=>by simp[qc4]at h
theorem qh2(w:World)(G:Gh)(hp:Hp):∀{cs:List CT}{vs:List Value}{xs:List AV},qc4 cs vs=true->mapO qeb cs=some xs->AVReps w G hp vs xs
|[],[],xs,_,h=>by cases h;trivial
|c::cs,v::vs,xs,h,hx=>by
 simp only[qc4,Bool.and_eq_true]at h;unfold mapO at hx;split at hx;· cases hx
 ·rename_i y hy;split at hx;· cases hx
  · rename_i ys hys;cases hx;exact⟨qtl h.1 hy w G hp,qh2 w G hp h.2 hys⟩
|[],_::_,_,h,_=>by simp[qc4]at h
|_::_,[],_,h,_=>by simp[qc4]at h
theorem qe0{α β:Type}{f:α->Option β}:∀{l:List α}{r:List β},mapO f l=some r->r.length=l.length
|[],r,h=>by cases h;rfl
|x::l,r,h=>by
 unfold mapO at h;split at h;· cases h
 ·split at h;· cases h
  · rename_i ys hys;cases h;simp[qe0 hys]
theorem qr0{α β:Type}{f:α->Option β}:∀{l:List α}{r:List β},mapO f l=some r->∀{i:Nat}{y:β},r[i]? =some y->∃x,l[i]? =some x/\f x=some y
|[],r,h,i,y,hy=>by cases h;simp at hy
|x::l,r,h,i,y,hy=>by
 unfold mapO at h;split at h;· cases h
 ·rename_i z hz;split at h;· cases h
  ·rename_i ys hys;cases h;cases i with
   |zero=>simp at hy;subst hy;exact⟨x,rfl,hz⟩
   |succ i=>simpa using qr0 hys (i:=i) (by simpa using hy)
def descB(E:Env)(ti:Ti)(d:TypeDesc):Bool:=
 match ti with
 |⟨true,_,.st fs⟩=>match d with|.struct F=>F.toList.map (λf=>(f.offset,f.type))==fs|_=>false
 |⟨false,[.sl m cs],.sl e⟩=>match d with
  |.slice e'=>Nat.beq e' e&&(match E.ty e with|some tie=>(tie.agg==m)&&qd2 tie.cs cs|none=>false)
  |_=>false
 |⟨false,[.b],.o⟩=>match d with|.bool=>true|_=>false
 |⟨false,[.i k],.o⟩=>match d with|.int k'=>decide (k'=k)|_=>false
 |⟨false,[.s],.o⟩=>match d with|.string=>true|_=>false
 |⟨false,[.o],.o⟩=>match d with|.pointer _=>true|.func .. =>true|_=>false
 |_=>false
def qzb(P:Program):TypeDesc->Bool
|.struct F=>F.toList.all λf=>(P.info? f.type).isSome
|_=>true
def tyOkB(P:Program)(E:Env)(t:Nat)(ti:Ti):Bool:=
 match P.info? t,P.underlying t with
 |some i,some d=>Nat.beq i.size ti.cs.length&&Nat.ble i.bytes 512&&(match i.zero with
  |some (.agg cs)=>ti.agg&&qc4 ti.cs cs.toList
  |some v=>!ti.agg&&qc4 ti.cs [v]
  |none=>false)&&descB E ti d&&qzb P d
 |_,_=>false
theorem qvr{E:Env}{ti:Ti}{d:TypeDesc}(h:descB E ti d=true):qjo d=ti.agg:=by unfold descB at h;repeat' split at h;all_goals first|rfl|simp_all[qjo]
theorem tyOk{P:Program}{E:Env}{t:Nat}{ti:Ti}(h:tyOkB P E t ti=true):∃i d z,P.info? t=some i/\P.underlying t=some d/\i.size=ti.cs.length/\i.bytes<=512/\i.zero=some z/\qc4 ti.cs z.cells.toList=true/\descB E ti d=true/\qjo d=ti.agg/\(match ti.agg with|true=>∃cs,z=.agg cs|false=>z.cells=#[z]):=by
 unfold tyOkB at h;split at h
 ·rename_i i d hi hd;simp only[Bool.and_eq_true]at h;obtain⟨⟨⟨⟨h1,h2⟩,h3⟩,h4⟩,_⟩:=h;have h5:=qvr h4;split at h3;· rename_i cs hz;simp only[Bool.and_eq_true]at h3;refine⟨i,d,_,hi,hd,Nat.eq_of_beq_eq_true h1,Nat.le_of_ble_eq_true h2,hz,h3.2,h4,h5,?_⟩;rw[h3.1];exact⟨cs,rfl⟩
  ·rename_i v hv hz;simp only[Bool.and_eq_true,Bool.not_eq_true']at h3;have hc:v.cells=#[v]:=by cases v<;>first|rfl|exact absurd rfl (hv _)
   refine⟨i,d,v,hi,hd,Nat.eq_of_beq_eq_true h1,Nat.le_of_ble_eq_true h2,hz,by rw[hc];exact h3.2,h4,h5,?_⟩;rw[h3.1];exact hc
  · cases h3
 · cases h
theorem qsb{P:Program}{E:Env}{t:Nat}{ti:Ti}(h:tyOkB P E t ti=true){F:Array Field}(hd:P.underlying t=some (.struct F)):∀f∈F.toList,∃i,P.info? f.type=some i:=by
 unfold tyOkB at h;rw[hd]at h;split at h;· rename_i i d hi hd';cases hd';simp only[Bool.and_eq_true,qzb,List.all_eq_true]at h;exactλf hf=>Option.isSome_iff_exists.1 (h.2 f hf)
 · cases h
def newR(n r:Nat):Prop:=n<=r/\r<n+KN
def Ran(P:Program)(w0:World)(S0:Nat->Prop)(w:World)(G:Gh)(h:Hp)(n:Nat)(x:Sem Next)(v:AV)(h':Hp):Prop:=∃v' w' G',(x.run P w=.ok (.value v') w'\/(x.run P w=.ok .skip w'/\v'=undef))/\Inv w0 S0 w' G' h'/\Keep w w' G G' h h'/\AVRep w' G' h' v' v/\∀r,G'.al r->G.al r\/newR n r
def Stp.Snd(P:Program)(w0:World)(S0:Nat->Prop)(w:World)(G:Gh)(h:Hp)(n:Nat)(x:Sem Next):Stp->Prop
|.ret v h'=>Ran P w0 S0 w G h n x v h'
|.chk b s=>b=true->s.Snd P w0 S0 w G h n x
|.fail=>True
|_=>False
section
variable{P:Program}{w0 w:World}{S0:Nat->Prop}{G:Gh}{h:Hp}{n:Nat}
theorem Ran.pure(I:Inv w0 S0 w G h){x:Sem Value}{v':Value}{v:AV}(hx:x.run P w=.ok v' w)(hv:AVRep w G h v' v):Ran P w0 S0 w G h n (do pure (.value (<-x))) v h:=⟨v',w,G,.inl (by simp[hx]),I,Keep.refl _ _ _,hv,λ_ hr=>.inl hr⟩
theorem qpu(c:Option CT)(v:Value):AVRep w G h v (qmv c v):=by
 unfold qmv;split;· rfl
 · rfl
 · rfl
 ·split;· rfl
  · trivial
 · exact .inl rfl
 · exact .inr rfl
 · trivial
theorem qct{a:Act}{s:Nat->AV}(hs:∀t,AVRep w G h (a.tmps.getD t undef) (s t))(c:Option CT)(x:Operand):AVRep w G h (a.eval x) (opd s c x):=by
 cases x with
 |tmp t=>exact hs t
 |const v=>exact qpu c v
 |global g=>trivial
 |func f=>exact⟨#[],rfl,trivial⟩
theorem qga(o:BinOp)(t:TypeId)(x y:Operand)(a b:Value)(ha:∀cs,a≠.agg cs)(hb:a≠.nilIface):(eqGuard o t x y a b).run P w=.ok () w:=by unfold eqGuard;cases o<;>simp<;>(split<;>simp_all)
theorem qcx(o:BinOp)(k:IntKind)(x y:Int)(ho:o=.and\/o=.or\/o=.xor\/o=.andNot):(Op.intBits o k x y).run P w=.ok (.int k (intBits o k x y)) w:=by rcases ho with rfl|rfl|rfl|rfl<;>simp[Op.intBits,intBits]
theorem cmp_run{o:BinOp}{x y:Int}{r:Bool}(h:cmpB o x y=some r):(Op.intCmp o x y).run P w=.ok (.bool r) w:=by cases o<;>simp[cmpB]at h<;>subst h<;>simp[Op.intCmp]
theorem qzr{o:BinOp}{x y:ByteArray}{r:Bool}(h:strB o x y=some r):(Op.stringOp o x y).run P w=.ok (.bool r) w:=by cases o<;>simp only[strB,Option.some.injEq,reduceCtorEq]at h<;>subst h<;>simp[Op.stringOp]
theorem qsc{x y:ByteArray}(h:x.size+y.size<=LIM):(Op.stringOp .add x y).run P w=.ok (.string (x++y)) w:=by
 have:¬(((x.size+y.size:Nat):Int)>IntKind.i64.max):=by
  have e:IntKind.i64.max=9223372036854775807:=by decide
  unfold LIM at h;rw[e];omega
 simp only[Op.stringOp];rw[if_neg this];rfl
abbrev binM(o:BinOp)(t:TypeId)(x y:Operand)(a b:Value):Sem Next:=do pure (.value (<-(do eqGuard o t x y a b;binOp o t a b)))
theorem qyq(I:Inv w0 S0 w G h)(o:BinOp)(t:TypeId)(x y:Operand)(k k':IntKind)(a b:Int):(binS h o (.i k a) (.i k' b)).Snd P w0 S0 w G h n (binM o t x y (.int k a) (.int k' b)):=by
 have hg:=qga (P:=P) (w:=w) o t x y (.int k a) (.int k' b) (by simp) (by simp);have fin:∀{v':Value}{v:AV},(binOp o t (.int k a) (.int k' b)).run P w=.ok v' w->AVRep w G h v' v->Ran P w0 S0 w G h n (binM o t x y (.int k a) (.int k' b)) v h:=λh1 h2=>Ran.pure I (by simp only[Sem.run_bind,hg,Result.andThen_ok];exact h1) h2;unfold binS;simp only;split
 ·intro hb;have hb':¬b<0:=by simpa using hb
  refine fin (v':=.int k (qkt .shl k a b)) ?_ rfl;simp[binOp,Op.shift,hb',qkt]
 ·intro hb;have hb':¬b<0:=by simpa using hb
  refine fin (v':=.int k (qkt .shr k a b)) ?_ rfl;simp[binOp,Op.shift,hb',qkt]
 ·rename_i h1 h2;by_cases hk:k=k'
  ·subst hk;rw[if_pos rfl];cases o with
   |shl=>exact absurd rfl h1
   |shr=>exact absurd rfl h2
   |add=>exact fin (v':=.int k (k.wrap (a+b))) (by simp[binOp,Op.intArith]) rfl
   |sub=>exact fin (v':=.int k (k.wrap (a-b))) (by simp[binOp,Op.intArith]) rfl
   |mul=>exact fin (v':=.int k (k.wrap (a*b))) (by simp[binOp,Op.intArith]) rfl
   |quo=>
    intro hb;have hb':b≠0:=by simpa using hb
    exact fin (v':=.int k (k.wrap (a.tdiv b))) (by simp[binOp,Op.intDiv,hb']) rfl
   |rem=>
    intro hb;have hb':b≠0:=by simpa using hb
    exact fin (v':=.int k (a.tmod b)) (by simp[binOp,Op.intDiv,hb']) rfl
   |and=>exact fin (v':=.int k (intBits .and k a b)) (by simp only[binOp];rw[if_neg (by simp)];exact qcx _ _ _ _ (by simp)) rfl
   |or=>exact fin (v':=.int k (intBits .or k a b)) (by simp only[binOp];rw[if_neg (by simp)];exact qcx _ _ _ _ (by simp)) rfl
   |xor=>exact fin (v':=.int k (intBits .xor k a b)) (by simp only[binOp];rw[if_neg (by simp)];exact qcx _ _ _ _ (by simp)) rfl
   |andNot=>exact fin (v':=.int k (intBits .andNot k a b)) (by simp only[binOp];rw[if_neg (by simp)];exact qcx _ _ _ _ (by simp)) rfl
   |_=>exact fin (v':=.bool _) (by simp only[binOp];rw[if_neg (by simp)];exact cmp_run rfl) rfl
  · rw[if_neg hk];trivial
theorem qtd(I:Inv w0 S0 w G h)(o:BinOp)(t:TypeId)(x y:Operand)(a b:ByteArray):(binS h o (.s a) (.s b)).Snd P w0 S0 w G h n (binM o t x y (.string a) (.string b)):=by
 have hg:=qga (P:=P) (w:=w) o t x y (.string a) (.string b) (by simp) (by simp);have fin:∀{v':Value}{v:AV},(binOp o t (.string a) (.string b)).run P w=.ok v' w->AVRep w G h v' v->Ran P w0 S0 w G h n (binM o t x y (.string a) (.string b)) v h:=λh1 h2=>Ran.pure I (by simp only[Sem.run_bind,hg,Result.andThen_ok];exact h1) h2;unfold binS;simp only;split;· intro hb;exact fin (v':=.string (a++b)) (by simp only[binOp];exact qsc (by simpa using hb)) rfl
 ·cases hr:strB o a b with
  |none=>trivial
  |some r=>exact fin (v':=.bool r) (by cases o<;>simp only[binOp]<;>exact qzr hr) rfl
end
def flatB:List CT->Bool
|[]=>true
|.b::cs=>flatB cs
|.i _::cs=>flatB cs
|.s::cs=>flatB cs
|_=>false
def qdr(P:Program):List Field->List CT->Nat->Bool
|[],[],_=>true
|f::fs,c::cs,i=>!(f.name=="_")&&Nat.beq f.offset i&&(match c,P.underlying f.type with
 |.b,some .bool=>true
 |.i k,some (.int k')=>decide (k=k')
 |.s,some .string=>true
 |_,_=>false)&&qdr P fs cs (i+1)
|_,_,_=>false
def eqTyB(P:Program)(t:Nat)(ti:Ti):Bool:=
 match P.underlying t with
 |some (.struct F)=>qdr P F.toList ti.cs 0&&!P.stoodInHeld t&&!P.eqGuardType P.depth t
 |_=>false
theorem qd0:∀{cs:List CT}{a:List AV},fits cs a=true->flatB cs=true
|[],[],_=>rfl
|.b::cs,.b _::a,h=>by simpa[flatB]using qd0 (by simpa[fits]using h)
|.i k::cs,.i k' _::a,h=>by simp only[fits,Bool.and_eq_true]at h;simpa[flatB]using qd0 h.2
|.s::cs,.s _::a,h=>by simpa[flatB]using qd0 (by simpa[fits]using h)
|[],_::_,h=>by simp[fits]at h
|c::_,[],h=>by cases c<;>simp[fits]at h
|.sl _ _::_,x::_,h=>by simp[fits]at h
|.o::_,x::_,h=>by simp[fits]at h
|.b::_,x::_,h=>by cases x<;>first|(simp[fits]at h;done)|simpa[flatB]using qd0 (by simpa[fits]using h)
|.i _::_,x::_,h=>by cases x<;>first|(simp[fits]at h;done)|(simp only[fits,Bool.and_eq_true]at h;simpa[flatB]using qd0 h.2)
|.s::_,x::_,h=>by cases x<;>first|(simp[fits]at h;done)|simpa[flatB]using qd0 (by simpa[fits]using h)
section
variable{P:Program}{w:World}{G:Gh}{h:Hp}
theorem qqr{t:TypeId}{d:TypeDesc}{cs:Array Value}{off:Nat}{v:Value}(hd:P.underlying t=some d)(ha:qjo d=false)(hv:cs[off]? =some v):(part t cs off).run P w=.ok v w:=by unfold part;simp only[Sem.run_bind,qp5 hd,ha,Result.andThen_ok];simp[hv]
theorem qhw{d:Nat}{xs ys:Array Value}:∀(F:List Field)(cs:List CT)(i:Nat)(a b:List AV)(r:Bool),qdr P F cs i=true->fits cs a=true->qe9 a b=some r->(∀j x,a[j]? =some x->∃v,xs[i+j]? =some v/\AVRep w G h v x)->(∀j x,b[j]? =some x->∃v,ys[i+j]? =some v/\AVRep w G h v x)->(Op.eqFields (d+1) xs ys F).run P w=.ok r w
|[],[],i,a,b,r,_,hf,he,_,_=>by
 cases a with
 |nil=>
  cases b with
  |nil=>simp[qe9]at he;subst he;simp[Op.eqFields]
  |cons _ _=>simp[qe9]at he
 |cons _ _=>simp[fits]at hf
|f::F,c::cs,i,a,b,r,hF,hf,he,ha,hb=>by
 cases a with
 |nil=>cases c<;>simp[fits]at hf
 |cons x a=>
  cases b with
  |nil=>simp[qe9]at he
  |cons y b=>
   simp only[qe9]at he;cases h1:eqAV x y with
   |none=>rw[h1]at he;cases he
   |some r1=>
    cases h2:qe9 a b with
    |none=>rw[h1,h2]at he;cases he
    |some r2=>
     rw[h1,h2]at he;simp only[Option.some.injEq]at he;subst he;simp only[qdr,Bool.and_eq_true,Bool.not_eq_true',beq_eq_false_iff_ne]at hF;obtain⟨⟨⟨hn,ho⟩,hk⟩,hF⟩:=hF;have ho:f.offset=i:=Nat.eq_of_beq_eq_true ho;obtain⟨u,hu,hu'⟩:=ha 0 x rfl;obtain⟨v,hv,hv'⟩:=hb 0 y rfl;rw[Nat.add_zero]at hu hv;have rest:=λhf=>qhw (d:=d) (xs:=xs) (ys:=ys) F cs (i+1) a b r2 hF hf h2 (λj x hx=>by
      have:=ha (j+1) x (by simpa using hx);rw[show i+(j+1)=i+1+j by omega]at this;exact this) (λj x hx=>by
      have:=hb (j+1) x (by simpa using hx);rw[show i+(j+1)=i+1+j by omega]at this;exact this)
     have key:∀(dd:TypeDesc),P.underlying f.type=some dd->qjo dd=false->(Op.equalIn (d+1) f.type u v).run P w=.ok r1 w->(Op.eqFields (d+1) xs ys F).run P w=.ok r2 w->(Op.eqFields (d+1) xs ys (f::F)).run P w=.ok (r1&&r2) w:=by
      intro dd hd hag heq hrest;rw[Op.eqFields];simp only[if_pos hn,Sem.run_bind,qqr hd hag (ho▸hu),qqr hd hag (ho▸hv),heq,Result.andThen_ok];cases r1;· simp
      · simpa using hrest
     cases c with
     |b=>
      cases hd:P.underlying f.type with
      |none=>rw[hd]at hk;simp at hk
      |some dd=>rw[hd]at hk;cases dd<;>simp at hk;cases x<;>simp[fits]at hf;cases y<;>simp[eqAV]at h1;have hu':u=_:=hu';have hv':v=_:=hv';subst hu' hv' h1;exact key _ hd rfl (by simp[Op.equalIn,qa4 hd]) (rest hf)
     |i k=>
      cases hd:P.underlying f.type with
      |none=>rw[hd]at hk;simp at hk
      |some dd=>rw[hd]at hk;cases dd<;>simp at hk;cases x<;>simp[fits]at hf;cases y<;>simp[eqAV]at h1;have hu':u=_:=hu';have hv':v=_:=hv';subst hu' hv';obtain⟨hkk,h1⟩:=h1;subst hkk h1;exact key _ hd rfl (by simp[Op.equalIn,qa4 hd]) (rest hf.2)
     |s=>
      cases hd:P.underlying f.type with
      |none=>rw[hd]at hk;simp at hk
      |some dd=>rw[hd]at hk;cases dd<;>simp at hk;cases x<;>simp[fits]at hf;cases y<;>simp[eqAV]at h1;have hu':u=_:=hu';have hv':v=_:=hv';subst hu' hv' h1;exact key _ hd rfl (by simp[Op.equalIn,qa4 hd]) (rest hf)
     |sl _ _=>simp at hk
     |o=>simp at hk
|[],_::_,_,_,_,_,hF,_,_,_,_=>by simp[qdr]at hF
|_::_,[],_,_,_,_,hF,_,_,_,_=>by simp[qdr]at hF
theorem qwk{w0:World}{S0:Nat->Prop}{n:Nat}(I:Inv w0 S0 w G h)(o:BinOp)(t:TypeId)(x y:Operand){a b:List AV}{xs ys:Array Value}{ti:Ti}(ht:eqTyB P t ti=true)(hf:fits ti.cs a=true)(ha:AVReps w G h xs.toList a)(hb:AVReps w G h ys.toList b):(binS h o (.ag a) (.ag b)).Snd P w0 S0 w G h n (binM o t x y (.agg xs) (.agg ys)):=by
 unfold binS;simp only;have ha':∀j x,a[j]? =some x->∃v,xs[0+j]? =some v/\AVRep w G h v x:=λj x hx=>by obtain⟨v,h1,h2⟩:=AVReps.get ha j hx;exact⟨v,by simpa using h1,h2⟩
 have hb':∀j x,b[j]? =some x->∃v,ys[0+j]? =some v/\AVRep w G h v x:=λj x hx=>by obtain⟨v,h1,h2⟩:=AVReps.get hb j hx;exact⟨v,by simpa using h1,h2⟩
 unfold eqTyB at ht;cases hd:P.underlying t with
 |none=>rw[hd]at ht;cases ht
 |some d=>
  rw[hd]at ht;cases d with
  |struct F=>
   simp only[Bool.and_eq_true,Bool.not_eq_true']at ht;obtain⟨⟨h1,h2⟩,h3⟩:=ht;have hF:P.fieldsOf t=F:=by simp[Program.fieldsOf,hd]
   have heq:∀r,qe9 a b=some r->(Op.equal t (.agg xs) (.agg ys)).run P w=.ok r w:=by intro r hr;unfold Op.equal;rw[show Op.maxDepth=9998+1+1 from rfl,run_equalIn_struct (P:=P) w (9998+1) t xs ys (by rw[hF];exact hd) h2,hF];exact qhw F.toList ti.cs 0 a b r h1 hf hr ha' hb'
   have hg:(eqGuard o t x y (.agg xs) (.agg ys)).run P w=.ok () w:=by unfold eqGuard;cases o<;>simp[h3]
   split;· rename_i r hr;exact Ran.pure I (v':=.bool r) (by simp only[Sem.run_bind,hg,Result.andThen_ok,binOp];simp[heq r hr]) rfl
   · rename_i r hr;exact Ran.pure I (v':=.bool (!r)) (by simp only[Sem.run_bind,hg,Result.andThen_ok,binOp];simp[heq r hr]) rfl
   · trivial
  |_=>cases ht
theorem qyr{w0:World}{S0:Nat->Prop}{n:Nat}(I:Inv w0 S0 w G h)(o:BinOp)(t:TypeId)(x y:Operand)(a b:Bool)(ht:P.underlying t=some .bool):(binS h o (.b a) (.b b)).Snd P w0 S0 w G h n (binM o t x y (.bool a) (.bool b)):=by
 have hg:=qga (P:=P) (w:=w) o t x y (.bool a) (.bool b) (by simp) (by simp);have heq:(Op.equal t (.bool a) (.bool b)).run P w=.ok (a==b) w:=by
  have key:∀d,(Op.equalIn (d+1) t (.bool a) (.bool b)).run P w=.ok (a==b) w:=λd=>by simp[Op.equalIn,qa4 ht]
  exact key 9999
 unfold binS;simp only;split;· exact Ran.pure I (v':=.bool (a==b)) (by simp only[Sem.run_bind,hg,Result.andThen_ok,binOp];simp[heq]) rfl
 · exact Ran.pure I (v':=.bool (!(a==b))) (by simp only[Sem.run_bind,hg,Result.andThen_ok,binOp];simp[heq]) rfl
 · trivial
end
structure EnvOk(P:Program)(E:Env):Prop where
 ty:∀t ti,E.ty t=some ti->tyOkB P E t ti=true
 eq:∀t ti,E.ty t=some ti->ti.agg=true->flatB ti.cs=true->eqTyB P t ti=true
 fn:∀f fi,E.fi f=some fi->P.funcs[f]? =some fi.fn/\fi.fn.body.isSome=true/\(fi.fn.name=="runtime.NumGoroutine")=false
 mixed:P.follows .mixedOrders=true
section
variable{P:Program}{E:Env}
theorem ct_ty{t:Nat}{c:CT}(h:E.ct t=some c):∃d,E.ty t=some ⟨false,[c],d⟩:=by
 unfold Env.ct at h;split at h;· rename_i c' d hd;cases h;exact⟨d,hd⟩
 · cases h
theorem EnvOk.ct_i(O:EnvOk P E){t:Nat}{k:IntKind}(h:E.ct t=some (.i k)):P.underlying t=some (.int k):=by obtain⟨d,hd⟩:=ct_ty h;obtain⟨_,dd,_,_,hu,_,_,_,_,hb,_⟩:=tyOk (O.ty _ _ hd);cases d<;>cases dd<;>simp_all[descB]
theorem EnvOk.ct_b(O:EnvOk P E){t:Nat}(h:E.ct t=some .b):P.underlying t=some .bool:=by obtain⟨d,hd⟩:=ct_ty h;obtain⟨_,dd,_,_,hu,_,_,_,_,hb,_⟩:=tyOk (O.ty _ _ hd);cases d<;>cases dd<;>simp_all[descB]
theorem EnvOk.ct_s(O:EnvOk P E){t:Nat}(h:E.ct t=some .s):P.underlying t=some .string:=by obtain⟨d,hd⟩:=ct_ty h;obtain⟨_,dd,_,_,hu,_,_,_,_,hb,_⟩:=tyOk (O.ty _ _ hd);cases d<;>cases dd<;>simp_all[descB]
theorem EnvOk.ct_sl(O:EnvOk P E){t:Nat}{m:Bool}{cs:List CT}(h:E.ct t=some (.sl m cs)):∃e tie,P.underlying t=some (.slice e)/\E.ty e=some tie/\tie.agg=m/\tie.cs=cs:=by
 obtain⟨d,hd⟩:=ct_ty h;obtain⟨_,dd,_,_,hu,_,_,_,_,hb,_⟩:=tyOk (O.ty _ _ hd);cases d with
 |sl e=>
  cases dd with
  |slice e'=>
   simp only[descB,Bool.and_eq_true]at hb;obtain⟨h1,h2⟩:=hb;obtain rfl:e'=e:=Nat.eq_of_beq_eq_true h1;cases he:E.ty e' with
   |none=>rw[he]at h2;cases h2
   |some tie=>rw[he]at h2;simp only[Bool.and_eq_true,beq_iff_eq]at h2;exact⟨e',tie,hu,he,h2.1,qcm h2.2⟩
  |_=>simp[descB]at hb
 |_=>cases dd<;>simp[descB]at hb
theorem EnvOk.size(O:EnvOk P E){t:Nat}{ti:Ti}(h:E.ty t=some ti):∃i,P.info? t=some i/\i.size=ti.cs.length/\i.bytes<=512:=by obtain⟨i,_,_,h1,_,h2,h3,_⟩:=tyOk (O.ty _ _ h);exact⟨i,h1,h2,h3⟩
end
section
variable{w0 w:World}{S0:Nat->Prop}{G:Gh}{h:Hp}
def SlRep(w:World)(M:Mem)(π:Path)(i0:Nat)(m:Bool)(cs:List CT)(v:Value)(l:List T):Prop:=(l=[]/\∃a cap,v=.slice a 0 cap)\/∃b off cap c ty fz,v=.slice (some ⟨b,off,none⟩) l.length cap/\w.heap[b]? =some (.cells c ty fz)/\M b π/\l.length<=cap/\off+cap*cs.length<=c.size/\∀k(hk:k<l.length),ElemRep w M π m cs c (off+k*cs.length) (i0+k) l[k]
theorem RowRep.sl{M:Mem}{π:Path}{m:Bool}{cs:List CT}{v:Value}{l:List T}(H:RowRep w M π m cs v l):SlRep w M π 0 m cs v l:=by
 rcases H with⟨hn,rfl⟩|⟨b,off,cap,c,ty,fz,h1,h2,h3,h4,h5,h6⟩
 ·left;rcases hn with rfl|⟨_,a,cap,rfl⟩
  · exact⟨rfl,_,_,rfl⟩
  · exact⟨rfl,_,_,rfl⟩
 · right;refine⟨b,off,cap,c,ty,fz,h1,h3,h2,h4,h5,λk hk=>?_⟩;have:=(qa5 l 0).1 h6 k hk;simpa using this
theorem SlRep.len{M:Mem}{π:Path}{i0:Nat}{m:Bool}{cs:List CT}{v:Value}{l:List T}(H:SlRep w M π i0 m cs v l):∃a cap,v=.slice a l.length cap:=by
 rcases H with⟨rfl,a,cap,rfl⟩|⟨b,off,cap,c,ty,fz,h1,_⟩
 · exact⟨a,cap,rfl⟩
 · exact⟨_,_,h1⟩
theorem SlRep.part{M:Mem}{π:Path}{m:Bool}{cs:List CT}{hv v:Value}{l:List T}{sub:Sub}(H:RowRep w M π m cs hv l)(hs:SubH cs.length hv v sub):SlRep w M π (subO sub) m cs v (subL l sub):=by
 cases sub with
 |none=>have:v=hv:=hs;subst this;exact H.sl
 |some on=>
  obtain⟨o,n⟩:=on;rcases hs with⟨rfl,rfl,rfl,rfl⟩|⟨b,off,len,cap,off',cap',rfl,h1,h2,rfl,h3⟩
  · left;exact⟨by simp[subL],_,_,rfl⟩
  ·rcases H with⟨hn,rfl⟩|⟨b',off₁,cap₁,c,ty,fz,e1,e2,e3,e4,e5,e6⟩
   ·rcases hn with hn|⟨_,a,cap₂,hn⟩
    · cases hn
    ·cases hn;left;have:n=0:=by omega
     subst this;exact⟨by simp[subL],_,_,rfl⟩
   ·cases e1;have hlen:(subL l (some (o,n))).length=n:=by simp[subL];omega
    rcases h3 with⟨rfl,h3⟩|⟨rfl,rfl,h3⟩
    ·right;refine⟨b,off+o*cs.length,cap',c,ty,fz,by rw[hlen],e3,e2,by omega,?_,λk hk=>?_⟩
     ·have:off+o*cs.length+cap'*cs.length=off+cap*cs.length:=by rw[<-h3,Nat.add_mul];omega
      omega
     ·have hk':o+k<l.length:=by rw[hlen]at hk;omega
      have:=(qa5 l 0).1 e6 (o+k) hk';simp only[Nat.zero_add]at this;rw[show off+o*cs.length+k*cs.length=off+(o+k)*cs.length by rw[Nat.add_mul];omega];have e:(subL l (some (o,n)))[k]=l[o+k]:=by simp[subL,List.getElem_take,List.getElem_drop]
      rw[e];exact this
    · left;exact⟨by simp[subL],_,_,rfl⟩
theorem qdc(I:Inv w0 S0 w G h){r:Nat}{p:Path}{ver:Nat}{sub:Sub}{v:Value}{m:Bool}{cs:List CT}{l:List T}(H:AVRep w G h v (.rf r p ver sub))(hr:rowAt h r p ver=some (m,cs,l)):∃m0 cs0 l0 v0 e hv,h r=.row m0 cs0 l0 v0 e/\ver<=v0/\(p=[]\/ver=v0)/\NavH w (G.own.m r) [] p cs0 (G.φ r) hv/\PathOk p m0 cs0 l0/\navR p m0 cs0 l0=some (m,cs,l)/\SubH cs.length hv v sub/\RowRep w (G.own.m r) p m cs hv l:=by
 obtain⟨h1,h2,h3⟩:=H;have R:=I.rep r;unfold rowAt at hr;cases hh:h r with
 |dead=>rw[hh]at hr;cases hr
 |box _=>rw[hh]at hr;cases hr
 |row m0 cs0 l0 v0 e=>
  rw[hh]at hr h3 R;simp only at hr;have hpv:(p=[]\/ver=v0)/\navR p m0 cs0 l0=some (m,cs,l):=by
   cases p with
   |nil=>exact⟨.inl rfl,hr⟩
   |cons q p=>
    cases hb:Nat.beq ver v0 with
    |false=>simp[hb]at hr
    |true=>simp only[hb,cond_true]at hr;exact⟨.inr (Nat.eq_of_beq_eq_true hb),hr⟩
  obtain⟨hv,m',cs',l',g1,g2,g3,g4⟩:=h3.2 hpv.1;rw[hpv.2]at g3;cases g3;refine⟨m0,cs0,l0,v0,e,hv,rfl,h3.1,hpv.1,g1,g2,hpv.2,g4,?_⟩;simpa using RowRep.nav p R.2.1 g1 g2 hpv.2
theorem qpt(I:Inv w0 S0 w G h){x:AV}{v:Value}{m:Bool}{cs:List CT}{l:List T}(H:AVRep w G h v x)(hc:cont h x=some (m,cs,l)):∃M π i0,SlRep w M π i0 m cs v l:=by
 cases x with
 |nl m' cs'=>simp only[cont,Option.some.injEq,Prod.mk.injEq]at hc;obtain⟨rfl,rfl,rfl⟩:=hc;have H:v=_:=H;subst H;exact⟨roM G.ro,[],0,.inl ⟨rfl,_,_,rfl⟩⟩
 |ro k m' cs' l'=>simp only[cont,Option.some.injEq,Prod.mk.injEq]at hc;obtain⟨rfl,rfl,rfl⟩:=hc;exact⟨_,_,_,H.1.sl⟩
 |rf r p ver sub=>
  simp only[cont]at hc;split at hc;· rename_i m' cs' l' hr;simp only[Option.some.injEq,Prod.mk.injEq]at hc;obtain⟨rfl,rfl,rfl⟩:=hc;obtain⟨_,_,_,_,_,hv,_,_,_,_,_,_,g1,g2⟩:=qdc I H hr;exact⟨_,_,_,SlRep.part g2 g1⟩
  · cases hc
 |_=>simp[cont]at hc
theorem qqg(I:Inv w0 S0 w G h){x:AV}{v:Value}{k:Nat}(H:AVRep w G h v x)(hc:slen h x=some k):∃a cap,v=.slice a k cap:=by
 cases x with
 |nl m' cs'=>simp only[slen,Option.some.injEq]at hc;subst hc;exact⟨_,_,H⟩
 |ro k m' cs' l'=>simp only[slen,Option.some.injEq]at hc;subst hc;exact H.1.sl.len
 |rf r p ver sub=>
  simp only[slen]at hc;split at hc
  ·rename_i m' cs' l' hr;simp only[Option.some.injEq]at hc;subst hc;obtain⟨_,_,_,_,_,hv,_,_,_,_,_,_,g1,g2⟩:=qdc I H hr;cases sub with
   |none=>have:v=hv:=g1;subst this;exact g2.sl.len
   |some on=>
    obtain⟨o,n⟩:=on;rcases g1 with⟨_,_,rfl,rfl⟩|⟨b,off,len,cap,off',cap',_,_,_,rfl,_⟩
    · exact⟨_,_,rfl⟩
    · exact⟨_,_,rfl⟩
  · cases hc
 |_=>simp[slen]at hc
end
theorem qia:∀{cs:List CT}{xs:List T},okCs cs xs=true->∀{j:Nat}{c:CT},cs[j]? =some c->∃x,xs[j]? =some x/\okC c x=true
|[],[],_,j,c,hc=>by simp at hc
|c::cs,x::xs,h,0,d,hd=>by simp only[okCs,Bool.and_eq_true]at h;simp at hd;subst hd;exact⟨x,rfl,h.1⟩
|c::cs,x::xs,h,j+1,d,hd=>by simp only[okCs,Bool.and_eq_true]at h;simpa using qia h.2 (by simpa using hd)
|[],_::_,h,_,_,_=>by simp[okCs]at h
|_::_,[],h,_,_,_=>by simp[okCs]at h
theorem quc{m:Bool}{cs:List CT}{x:T}(h:okC (.sl m cs) x=true):∃l,x=.sl l/\okL m cs l=true:=by cases x<;>simp[okC]at h;exact⟨_,rfl,h⟩
theorem qfl{m:Bool}{cs:List CT}:∀{l:List T},okL m cs l=true->∀{i:Nat}(hi:i<l.length),okE m cs l[i]=true
|[],_,i,hi=>by simp at hi
|x::l,h,0,_=>by rw[qi9,Bool.and_eq_true]at h;exact h.1
|x::l,h,i+1,hi=>by rw[qi9,Bool.and_eq_true]at h;simpa using qfl h.2 (i:=i) (by simpa using hi)
theorem qme{m:Bool}{cs:List CT}{x:T}(h:okE m cs x=true){j:Nat}{c:CT}(hc:cs[j]? =some c):okC c (elc m x j)=true:=by
 cases m with
 |true=>
  cases x with
  |st xs=>obtain⟨y,h1,h2⟩:=qia (by simpa[okE]using h) hc;simpa[elc,T.cell,h1]using h2
  |_=>simp[okE]at h
 |false=>
  match cs,hc,h with
  |[c'],hc,h=>
   have hj:j=0:=by have:=(List.getElem?_eq_some_iff.1 hc).1;simpa using this
   subst hj;simp at hc;subst hc;simpa[okE,elc]using h
theorem qmd:∀(p:Path){m:Bool}{cs:List CT}{l:List T}{m':Bool}{cs':List CT}{l':List T},okL m cs l=true->navR p m cs l=some (m',cs',l')->okL m' cs' l'=true
|[],m,cs,l,m',cs',l',h,hn=>by simp only[navR,Option.some.injEq,Prod.mk.injEq]at hn;obtain⟨rfl,rfl,rfl⟩:=hn;exact h
|(i,j)::p,m,cs,l,m',cs',l',h,hn=>by
 simp only[navR]at hn;split at hn
 ·rename_i m1 cs1 hc;refine qmd p ?_ hn;by_cases hi:i<l.length;· rw[qak hi];obtain⟨l1,h1,h2⟩:=quc (qme (qfl h hi) hc);rw[h1];exact h2
  ·have:l.getD i .u=.u:=by simp[List.getD_eq_getElem?_getD,List.getElem?_eq_none (Nat.le_of_not_lt hi)]
   rw[this];cases m<;>simp[elc,T.cell,asL,okL]
 · cases hn
theorem ElemRep.cell{w:World}{M:Mem}{π:Path}{m:Bool}{cs:List CT}{c:Array Value}{o i:Nat}{x:T}(H:ElemRep w M π m cs c o i x){j:Nat}{ct:CT}(hc:cs[j]? =some ct):∃v,c[o+j]? =some v/\CellRep w M (π++[(i,j)]) ct v (elc m x j):=by
 cases m with
 |true=>
  cases x with
  |st xs=>
   obtain⟨hl,H⟩:=H;have hj:j<xs.length:=by rw[hl];exact(List.getElem?_eq_some_iff.1 hc).1
   obtain⟨ct',v,h1,h2,h3⟩:=(qag xs 0).1 H j hj;simp only[Nat.zero_add]at h1 h2 h3;rw[hc]at h1;cases h1;exact⟨v,h2,by simpa[elc,T.cell,List.getElem?_eq_getElem hj]using h3⟩
  |_=>exact H.elim
 |false=>
  obtain⟨ct',v,h1,h2,h3⟩:=H;subst h1;have hj:j=0:=by have:=(List.getElem?_eq_some_iff.1 hc).1;simpa using this
  subst hj;simp at hc;subst hc;exact⟨v,by simpa using h2,h3⟩
theorem qci{α:Type}{l:List α}{j n k:Nat}(hk:k<n):(qam l j n)[k]? =l[j+k]? :=by unfold qam;rw[List.getElem?_take_of_lt hk,List.getElem?_drop]
section
variable{w0 w:World}{S0:Nat->Prop}{G:Gh}{h:Hp}
theorem qf2{M:Mem}{π:Path}{c:CT}{v:Value}{x:T}(H:CellRep w M π c v x)(hc:c.isSl=false)(ho:c≠.o):AVRep w G h v (coe c x):=by
 cases x with
 |u=>rw[H.1]at hc;cases hc
 |b x=>obtain⟨rfl,rfl⟩:=H;rfl
 |i k n=>obtain⟨rfl,rfl⟩:=H;rfl
 |s x=>obtain⟨rfl,rfl⟩:=H;rfl
 |sl l=>obtain⟨m,cs,rfl,_⟩:=H;simp[CT.isSl]at hc
 |st l=>exact H.elim
theorem coe_rep{π:Path}{c:CT}{v:Value}{x:T}(H:CellRep w (roM G.ro) π c v x)(hok:okC c x=true):AVRep w G h v (coe c x):=by
 cases c with
 |sl m cs=>obtain⟨l,rfl,hl⟩:=quc hok;refine⟨?_,hl,λh=>absurd rfl h⟩;have H:=qa6.1 H;exact RowRep.moved (M:=roM G.ro) (M':=roM G.ro) (π:=π) (π':=[]) ⟨λ_=>trivial,λb ρ hb=>⟨hb,rfl⟩⟩ H
 |o=>trivial
 |b=>exact qf2 H rfl (by simp)
 |i k=>exact qf2 H rfl (by simp)
 |s=>exact qf2 H rfl (by simp)
theorem AVReps.mk:∀{vs:List Value}{xs:List AV},vs.length=xs.length->(∀(k:Nat)(x:AV)(v:Value),xs[k]? =some x->vs[k]? =some v->AVRep w G h v x)->AVReps w G h vs xs
|[],[],_,_=>trivial
|v::vs,x::xs,hl,H=>⟨H 0 x v rfl rfl,AVReps.mk (by simpa using hl) (λk y u hy hu=>H (k+1) y u (by simpa using hy) (by simpa using hu))⟩
|[],_::_,hl,_=>by simp at hl
|_::_,[],hl,_=>by simp at hl
theorem qcu{agg:Bool}{xs:List AV}{vs:List Value}{v:AV}(hof:qdd agg xs=some v)(H:AVReps w G h vs xs):∃v',(match agg with|true=>v'=.agg vs.toArray|false=>vs=[v'])/\AVRep w G h v' v:=by
 cases agg with
 |true=>simp only[qdd,Option.some.injEq]at hof;subst hof;exact⟨_,rfl,vs.toArray,rfl,by simpa using H⟩
 |false=>
  cases xs with
  |nil=>simp[qdd]at hof
  |cons x xs=>
   cases xs with
   |cons _ _=>simp[qdd]at hof
   |nil=>
    simp only[qdd,Option.some.injEq]at hof;subst hof;cases vs with
    |nil=>exact H.elim
    |cons u us=>
     cases us with
     |cons _ _=>exact H.2.elim
     |nil=>exact⟨u,rfl,H.1⟩
theorem qe2{P:Program}{E:Env}(O:EnvOk P E){t:Nat}{ti:Ti}(ht:E.ty t=some ti){b o:Nat}{c:Array Value}{ty:TypeId}{fz:Nat×Nat}{vs:List Value}{v':Value}(hh:w.heap[b]? =some (.cells c ty fz))(hl:vs.length=ti.cs.length)(hc:∀k(hk:k<vs.length),c[o+k]? =some vs[k])(hv:match ti.agg with|true=>v'=.agg vs.toArray|false=>vs=[v']):(loadVar t ⟨b,o,none⟩).run P w=.ok v' w:=by
 obtain⟨i,d,z,hi,hd,hs,_,_,_,_,hag,_⟩:=tyOk (O.ty _ _ ht);unfold loadVar;simp only[Sem.run_bind,qp5 hd,hag,Result.andThen_ok];cases ha:ti.agg with
 |true=>rw[ha]at hv;subst hv;simp only[if_true,Sem.run_bind,qdl hi,Result.andThen_ok,hs,qfj hh hl hc];rfl
 |false=>rw[ha]at hv;subst hv;have:=hc 0 (by simp);simp only[Bool.false_eq_true,if_false];exact qz5 hh (by simpa using this)
theorem qm4(I:Inv w0 S0 w G h){r:Nat}{p:Path}{ver i j:Nat}{v:Value}{m:Bool}{cs:List CT}{l:List T}(H:AVRep w G h v (.rp r p ver i j))(hr:rowAt h r p ver=some (m,cs,l)):∃m0 cs0 l0 v0 e b off cap c ty fz,h r=.row m0 cs0 l0 v0 e/\ver<=v0/\(p=[]\/ver=v0)/\NavH w (G.own.m r) [] p cs0 (G.φ r) (.slice (some ⟨b,off,none⟩) l.length cap)/\PathOk p m0 cs0 l0/\navR p m0 cs0 l0=some (m,cs,l)/\i<l.length/\v=.pointer (some ⟨b,off+i*cs.length+j,none⟩)/\G.own.m r b p/\w.heap[b]? =some (.cells c ty fz)/\l.length<=cap/\off+cap*cs.length<=c.size/\ElemsRep w (G.own.m r) p m cs c off 0 l/\(e=false->okL m0 cs0 l0=true)/\G.al r:=by
 obtain⟨h1,h2,h3⟩:=H;have R:=I.rep r;unfold rowAt at hr;cases hh:h r with
 |dead=>rw[hh]at hr;cases hr
 |box _=>rw[hh]at hr;cases hr
 |row m0 cs0 l0 v0 e=>
  rw[hh]at hr h3 R;simp only at hr;have hpv:(p=[]\/ver=v0)/\navR p m0 cs0 l0=some (m,cs,l):=by
   cases p with
   |nil=>exact⟨.inl rfl,hr⟩
   |cons q p=>
    cases hb:Nat.beq ver v0 with
    |false=>simp[hb]at hr
    |true=>simp only[hb,cond_true]at hr;exact⟨.inr (Nat.eq_of_beq_eq_true hb),hr⟩
  obtain⟨hv,m',cs',l',b,off,n,cap,g1,g2,g3,g4,g5,g6⟩:=h3.2 hpv.1;rw[hpv.2]at g3;cases g3;have Q:=RowRep.nav p R.2.1 g1 g2 hpv.2;subst g4;rcases Q with⟨hn,rfl⟩|⟨b',off',cap',c,ty,fz,e1,e2,e3,e4,e5,e6⟩
  ·rcases hn with hn|⟨hf,_⟩
   · cases hn
   · exact False.elim hf
  · cases e1;exact⟨m0,cs0,l0,v0,e,b,off,cap,c,ty,fz,rfl,h3.1,hpv.1,g1,g2,hpv.2,g5,g6,by simpa using e2,e3,e4,e5,by simpa using e6,R.2.2,R.1⟩
end
theorem exL{α:Type}{R:Nat->α->Prop}(n:Nat)(h:∀i,i<n->∃x,R i x):∃l:List α,l.length=n/\∀(i:Nat)(x:α),l[i]? =some x->R i x:=by
 induction n with
 |zero=>exact⟨[],rfl,λi x hx=>by simp at hx⟩
 |succ n ih=>
  obtain⟨l,hl,hr⟩:=ih (λi hi=>h i (by omega));obtain⟨x,hx⟩:=h n (by omega);refine⟨l++[x],by simp[hl],λi y hy=>?_⟩;by_cases e:i<n;· rw[List.getElem?_append_left (by omega)]at hy;exact hr i y hy
  ·have hi:=(List.getElem?_eq_some_iff.1 hy).1;simp at hi;obtain rfl:i=n:=by omega
   rw[List.getElem?_append_right (by omega),hl]at hy;simp at hy;subst hy;exact hx
theorem qja:∀(p:Path){m:Bool}{cs:List CT}{l:List T}{m':Bool}{cs':List CT}{l':List T}{q:Path},navR p m cs l=some (m',cs',l')->navR (p++q) m cs l=navR q m' cs' l'
|[],m,cs,l,m',cs',l',q,h=>by simp only[navR,Option.some.injEq,Prod.mk.injEq]at h;obtain⟨rfl,rfl,rfl⟩:=h;rfl
|(i,j)::p,m,cs,l,m',cs',l',q,h=>by
 simp only[navR]at h;simp only[List.cons_append,navR];split at h;· rename_i m1 cs1 hc;exact qja p h
 · cases h
theorem PathOk.append:∀(p:Path){m:Bool}{cs:List CT}{l:List T}{m':Bool}{cs':List CT}{l':List T}{q:Path},PathOk p m cs l->navR p m cs l=some (m',cs',l')->PathOk q m' cs' l'->PathOk (p++q) m cs l
|[],m,cs,l,m',cs',l',q,_,h,hq=>by simp only[navR,Option.some.injEq,Prod.mk.injEq]at h;obtain⟨rfl,rfl,rfl⟩:=h;exact hq
|(i,j)::p,m,cs,l,m',cs',l',q,hp,h,hq=>by obtain⟨hi,m1,cs1,l1,g1,g2,g3⟩:=hp;simp only[navR,g1,g2,asL]at h;exact⟨hi,m1,cs1,l1,g1,g2,PathOk.append p g3 h hq⟩
section
variable{P:Program}{E:Env}{w0 w:World}{S0:Nat->Prop}{G:Gh}{h:Hp}{n:Nat}
theorem coz_rep{r:Nat}{p:Path}{v0 i jk:Nat}{m0:Bool}{cs0:List CT}{l0:List T}{e:Bool}{m:Bool}{cs:List CT}{l:List T}{b off cap:Nat}{ca:Array Value}{ty:TypeId}{fz:Nat×Nat}{ct:CT}{v:Value}(hh:h r=.row m0 cs0 l0 v0 e)(hal:G.al r)(hN:NavH w (G.own.m r) [] p cs0 (G.φ r) (.slice (some ⟨b,off,none⟩) l.length cap))(hP:PathOk p m0 cs0 l0)(hn:navR p m0 cs0 l0=some (m,cs,l))(hi:i<l.length)(hM:G.own.m r b p)(hb:w.heap[b]? =some (.cells ca ty fz))(hcs:cs[jk]? =some ct)(hv:ca[off+i*cs.length+jk]? =some v)(H:CellRep w (G.own.m r) (p++[(i,jk)]) ct v (elc m (l.getD i .u) jk))(hok:ct.isSl=true->okC ct (elc m (l.getD i .u) jk)=true):AVRep w G h v (coz r p v0 i jk ct (elc m (l.getD i .u) jk)):=by
 cases ct with
 |sl m1 cs1=>
  obtain⟨l1,hx,_⟩:=quc (hok rfl);refine⟨H.one,hal,?_⟩;rw[hh];refine⟨Nat.le_refl _,λ_=>⟨v,m1,cs1,l1,?_,PathOk.append p hP hn ⟨hi,m1,cs1,l1,hcs,hx,trivial⟩,?_,rfl⟩⟩;· refine NavH.append p hN hn ?_;exact⟨b,off,l.length,cap,ca,ty,fz,v,m1,cs1,rfl,by simpa using hM,hb,hi,hv,hcs,rfl⟩
  · rw[qja p hn];simp only[navR,hcs,hx,asL]
 |o=>trivial
 |b=>exact qf2 H rfl (by simp)
 |i k=>exact qf2 H rfl (by simp)
 |s=>exact qf2 H rfl (by simp)
theorem qj8{m:Bool}{x:T}:∀{cs:List CT}{j:Nat},qfm m x j cs=true->∀k ct,cs[k]? =some ct->ct.isSl=true->okC ct (elc m x (j+k))=true
|[],_,_,k,_,hk,_=>by simp at hk
|c::cs,j,h,0,ct,hk,hs=>by
 simp only[List.getElem?_cons_zero,Option.some.injEq]at hk;subst hk;cases c with
 |sl n ds=>simp only[qfm,Bool.and_eq_true]at h;exact h.1
 |_=>cases hs
|c::cs,j,h,k+1,ct,hk,hs=>by
 rw[List.getElem?_cons_succ]at hk;have:qfm m x (j+1) cs=true:=by
  cases c with
  |sl n ds=>simp only[qfm,Bool.and_eq_true]at h;exact h.2
  |_=>exact h
 have:=qj8 this k ct hk hs;rw[show j+(k+1)=j+1+k by omega];exact this
theorem qxm(O:EnvOk P E)(I:Inv w0 S0 w G h){t:Nat}{ti:Ti}(ht:E.ty t=some ti){a:AV}{a':Value}(ha:AVRep w G h a' a){v:AV}(hl:loadV ti h a=some v)(hck:qla ti h a=true):Ran P w0 S0 w G h n (do pure (.value (<-Instr.loadAt t a'))) v h:=by
 cases a with
 |bp r j=>
  obtain⟨h1,h2,h3⟩:=ha;have R:=I.rep r;simp only[loadV]at hl;cases hh:h r with
  |dead=>rw[hh]at hl;cases hl
  |row _ _ _ _ _=>rw[hh]at hl;cases hl
  |box cs=>
   rw[hh]at hl h3 R;simp only at hl;obtain⟨b0,g1,rfl⟩:=h3;obtain⟨_,b,c,ty,fz,e1,e2,e3,e4,e5⟩:=R;rw[g1]at e1;cases e1;cases hlen:Nat.beq (qam cs j ti.cs.length).length ti.cs.length with
   |false=>simp[hlen]at hl
   |true=>
    simp only[hlen,cond_true]at hl;have hlen:=Nat.eq_of_beq_eq_true hlen;have hget:∀k,k<ti.cs.length->∃u x,c[j+k]? =some u/\(qam cs j ti.cs.length)[k]? =some x/\AVRep w G h u x:=by intro k hk;have hx:(qam cs j ti.cs.length)[k]? =some (qam cs j ti.cs.length)[k]:=List.getElem?_eq_getElem (by omega);have hx':=hx;rw[qci hk]at hx';obtain⟨u,hu,hu'⟩:=AVReps.get e4 (j+k) hx';exact⟨u,_,by simpa using hu,hx,hu'⟩
    obtain⟨vs,hvl,hvs⟩:=exL (R:=λk u=>∃x,c[j+k]? =some u/\(qam cs j ti.cs.length)[k]? =some x/\AVRep w G h u x) ti.cs.length hget;have hrep:AVReps w G h vs (qam cs j ti.cs.length):=AVReps.mk (by omega) λk x u hx hu=>by obtain⟨x',_,h2,h3⟩:=hvs k u hu;rw[hx]at h2;cases h2;exact h3
    obtain⟨v',hv1,hv2⟩:=qcu hl hrep;refine Ran.pure I (v':=v') ?_ hv2;unfold Instr.loadAt;simp only[Sem.run_bind,Instr.sureAddr,Sem.run_pure,Result.andThen_ok];exact qe2 O ht e3 hvl (λk hk=>by obtain⟨x',h1,_⟩:=hvs k _ (List.getElem?_eq_getElem hk);exact h1) hv1
 |rp r p ver i j=>
  simp only[loadV]at hl;cases hh:h r with
  |dead=>rw[hh]at hl;cases hl
  |box _=>rw[hh]at hl;cases hl
  |row m0 cs0 l0 v0 e=>
   rw[hh]at hl;simp only at hl;cases hr:rowAt h r p ver with
   |none=>rw[hr]at hl;cases hl
   |some x=>
    obtain⟨m,cs,l⟩:=x;rw[hr]at hl;simp only at hl;obtain⟨m0',cs0',l0',v0',e',b,off,cap,c,ty,fz,g0,g1,g2,g3,g4,g5,g6,rfl,g8,g9,g10,g11,g12,g13,g14⟩:=qm4 I ha hr;rw[hh]at g0;cases g0;cases hty:qd2 (qam cs j ti.cs.length) ti.cs with
    |false=>rw[hty,cond_false]at hl;cases hl
    |true=>
     rw[hty,cond_true]at hl;have hty1:=qcm hty;have hE:=(qa5 l 0).1 g12 i g6;simp only[Nat.zero_add]at hE;have hget:∀k,k<ti.cs.length->∃u ct,ti.cs[k]? =some ct/\c[off+i*cs.length+j+k]? =some u/\AVRep w G h u (coz r p v0 i (j+k) ct (elc m (l.getD i .u) (j+k))):=by
      intro k hk;have hct:ti.cs[k]? =some ti.cs[k]:=List.getElem?_eq_getElem hk;have hct':cs[j+k]? =some ti.cs[k]:=by rw[<-qci (l:=cs) (j:=j) hk,hty1];exact hct
      obtain⟨u,hu,hu'⟩:=ElemRep.cell hE hct';rw[<-qak (d:=T.u) g6]at hu';refine⟨u,_,hct,by rw[Nat.add_assoc];exact hu,coz_rep hh g14 g3 g4 g5 g6 g8 g9 hct' hu hu' λhsl=>?_⟩;cases he:e with
      |false=>have:=qfl (qmd p (g13 he) g5) g6;rw[qak g6];exact qme this hct'
      |true=>
       have hn:qao ti.cs=true:=by unfold qao;rw[List.any_eq_true];exact⟨_,List.getElem_mem hk,hsl⟩
       simp only[qla,hh,he,hn,Bool.and_self,hr]at hck;exact qj8 hck k _ hct hsl
     obtain⟨vs,hvl,hvs⟩:=exL (R:=λk u=>∃ct,ti.cs[k]? =some ct/\c[off+i*cs.length+j+k]? =some u/\AVRep w G h u (coz r p v0 i (j+k) ct (elc m (l.getD i .u) (j+k)))) ti.cs.length hget;have hrep:AVReps w G h vs (ti.cs.mapIdx λk c=>coz r p v0 i (j+k) c (elc m (l.getD i .u) (j+k))):=AVReps.mk (by simpa using hvl) λk x u hx hu=>by obtain⟨ct,h1,_,h3⟩:=hvs k u hu;rw[List.getElem?_mapIdx,h1]at hx;simp at hx;subst hx;exact h3
     obtain⟨v',hv1,hv2⟩:=qcu hl hrep;refine Ran.pure I (v':=v') ?_ hv2;unfold Instr.loadAt;simp only[Sem.run_bind,Instr.sureAddr,Sem.run_pure,Result.andThen_ok];exact qe2 O ht g9 hvl (λk hk=>by obtain⟨ct,_,h1,_⟩:=hvs k _ (List.getElem?_eq_getElem hk);exact h1) hv1
 |cp m cs x j=>
  simp only[loadV]at hl;obtain⟨b,o,c,ty,fz,i,rfl,h2,h3,h4,h5⟩:=ha;cases hty:qd2 (qam cs j ti.cs.length) ti.cs with
  |false=>rw[hty,cond_false]at hl;cases hl
  |true=>
   rw[hty,cond_true]at hl;have hty1:=qcm hty;have hget:∀k,k<ti.cs.length->∃u ct,ti.cs[k]? =some ct/\c[o+j+k]? =some u/\AVRep w G h u (coe ct (elc m x (j+k))):=by
    intro k hk;have hct:ti.cs[k]? =some ti.cs[k]:=List.getElem?_eq_getElem hk;have hct':cs[j+k]? =some ti.cs[k]:=by rw[<-qci (l:=cs) (j:=j) hk,hty1];exact hct
    obtain⟨u,hu,hu'⟩:=ElemRep.cell h4 hct';exact⟨u,_,hct,by rw[Nat.add_assoc];exact hu,coe_rep hu' (qme h5 hct')⟩
   obtain⟨vs,hvl,hvs⟩:=exL (R:=λk u=>∃ct,ti.cs[k]? =some ct/\c[o+j+k]? =some u/\AVRep w G h u (coe ct (elc m x (j+k)))) ti.cs.length hget;have hrep:AVReps w G h vs (ti.cs.mapIdx λk c=>coe c (elc m x (j+k))):=AVReps.mk (by simpa using hvl) λk x u hx hu=>by obtain⟨ct,h1,_,h3⟩:=hvs k u hu;rw[List.getElem?_mapIdx,h1]at hx;simp at hx;subst hx;exact h3
   obtain⟨v',hv1,hv2⟩:=qcu hl hrep;refine Ran.pure I (v':=v') ?_ hv2;unfold Instr.loadAt;simp only[Sem.run_bind,Instr.sureAddr,Sem.run_pure,Result.andThen_ok];exact qe2 O ht h3 hvl (λk hk=>by obtain⟨ct,_,h1,_⟩:=hvs k _ (List.getElem?_eq_getElem hk);exact h1) hv1
 |_=>simp[loadV]at hl
end
section
variable{P:Program}{E:Env}{w0 w:World}{S0:Nat->Prop}{G:Gh}{h:Hp}{n:Nat}
abbrev valM(s:Sem Value):Sem Next:=do pure (.value (<-s))
theorem un_snd(I:Inv w0 S0 w G h)(o:UnOp){x:AV}{v:Value}(hv:AVRep w G h v x):(unS h o x).Snd P w0 S0 w G h n (valM (Op.unary o v)):=by
 unfold unS;split;· have hv:v=_:=hv;subst hv;exact Ran.pure I (v':=.bool _) (by simp[Op.unary]) rfl
 · have hv:v=_:=hv;subst hv;exact Ran.pure I (v':=.int _ _) (by simp[Op.unary,Op.intArith]) rfl
 · rename_i k m;have hv:v=_:=hv;subst hv;exact Ran.pure I (v':=.int k (intBits .xor k (if k.signed then-1 else k.max) m)) (by simp only[Op.unary];exact qcx .xor k _ _ (by simp)) rfl
 · trivial
theorem qtc{s:ByteArray}{i:Int}(hi:inR i s.size=true):(if 0<=i then s[i.toNat]? else none)=some (s.toList.getD i.toNat 0):=by
 simp only[inR,Bool.and_eq_true,decide_eq_true_eq]at hi;have h1:i.toNat<s.size:=by omega
 rw[if_pos hi.1,ByteArray.getElem?_lt' s _ h1,ByteArray.toList_eq];have h2:i.toNat<s.data.toList.length:=by simpa using h1
 rw[List.getD_eq_getElem?_getD,List.getElem?_eq_getElem h2];rfl
theorem qv5(O:EnvOk P E)(I:Inv w0 S0 w G h){t:Nat}(ht:E.ct t=some .s){s:ByteArray}{k:IntKind}{i:Int}(hi:inR i s.size=true):Ran P w0 S0 w G h n (valM (Instr.index t (.string s) (.int k i))) (.i .u8 (qae s i)) h:=by refine Ran.pure I (v':=.int .u8 (qae s i)) ?_ rfl;unfold Instr.index;simp only[Sem.run_bind,asIntOf,Sem.run_pure,Result.andThen_ok,qa4 (O.ct_s ht)];rw[qtc hi];rfl
theorem qpn(I:Inv w0 S0 w G h){vs:List AV}{v:AV}{i:Nat}(hv:vs[i]? =some v){x:Value}(hx:AVRep w G h x (.tu vs)):Ran P w0 S0 w G h n (valM (Instr.extract x i)) v h:=by
 obtain⟨us,rfl,hus⟩:=hx;obtain⟨u,hu,hu'⟩:=AVReps.get hus i hv;refine Ran.pure I (v':=u) ?_ hu';have hu:us[i]? =some u:=by simpa using hu
 simp[Instr.extract,hu]
theorem EnvOk.st(O:EnvOk P E){t:Nat}{agg:Bool}{cs:List CT}{fs:List (Nat×Nat)}(h:E.ty t=some ⟨agg,cs,.st fs⟩):∃F,P.underlying t=some (.struct F)/\F.toList.map (λf=>(f.offset,f.type))=fs:=by
 obtain⟨_,dd,_,_,hu,_,_,_,_,hb,_⟩:=tyOk (O.ty _ _ h);cases agg with
 |true=>
  cases dd with
  |struct F=>refine⟨F,hu,?_⟩;simpa[descB]using hb
  |_=>simp[descB]at hb
 |false=>
  match cs with
  |[]=>simp[descB]at hb
  |[c]=>cases c<;>simp[descB]at hb
  |_::_::_=>simp[descB]at hb
theorem qms{F:Array Field}{fs:List (Nat×Nat)}(hF:F.toList.map (λf=>(f.offset,f.type))=fs){i off u:Nat}(hf:fs[i]? =some (off,u)):∃f,F[i]? =some f/\f.offset=off/\f.type=u:=by
 subst hF;rw[List.getElem?_map]at hf;cases e:F.toList[i]? with
 |none=>rw[e]at hf;cases hf
 |some f=>rw[e]at hf;simp only[Option.map_some,Option.some.injEq,Prod.mk.injEq]at hf;exact⟨f,by simpa using e,hf.1,hf.2⟩
theorem qe7(O:EnvOk P E)(I:Inv w0 S0 w G h){t:Nat}{agg:Bool}{cs:List CT}{fs:List (Nat×Nat)}(ht:E.ty t=some ⟨agg,cs,.st fs⟩){i off u:Nat}(hf:fs[i]? =some (off,u)){ti:Ti}(hu:E.ty u=some ti)(hne:ti.cs≠[]){b o:Nat}{v:AV}(hv:AVRep w G h (.pointer (some ⟨b,o+off,none⟩)) v):Ran P w0 S0 w G h n (valM (Instr.fieldAt t (.pointer (some ⟨b,o,none⟩)) i)) v h:=by
 obtain⟨F,h1,h2⟩:=O.st ht;obtain⟨f,h3,h4,h5⟩:=qms h2 hf;obtain⟨inf,h6,h7,_⟩:=O.size hu;refine Ran.pure I ?_ hv;have hsz:inf.size≠0:=by rw[h7];intro h;exact hne (List.length_eq_zero_iff.1 h)
 unfold Instr.fieldAt;simp only[Sem.run_bind,qa4 h1,Result.andThen_ok,h3,Instr.sureAddr,Sem.run_pure,fieldPlace,h5,qdl h6,if_neg hsz,qc3,h4]
theorem qvj(O:EnvOk P E)(I:Inv w0 S0 w G h){t:Nat}{agg:Bool}{cs:List CT}{fs:List (Nat×Nat)}(ht:E.ty t=some ⟨agg,cs,.st fs⟩){i off u:Nat}(hf:fs[i]? =some (off,u)){ti:Ti}(hu:E.ty u=some ti){vs:List AV}{x:Value}(hx:AVRep w G h x (.ag vs))(hl:(qam vs off ti.cs.length).length=ti.cs.length){v:AV}(hv:qdd ti.agg (qam vs off ti.cs.length)=some v):Ran P w0 S0 w G h n (valM (Instr.field t x i)) v h:=by
 obtain⟨F,h1,h2⟩:=O.st ht;obtain⟨f,h3,h4,h5⟩:=qms h2 hf;obtain⟨inf,d,_,h6,h7,h8,_,_,_,_,h9,_⟩:=tyOk (O.ty _ _ hu);obtain⟨us,rfl,hus⟩:=hx;have hget:∀k,k<ti.cs.length->∃u x,us[off+k]? =some u/\(qam vs off ti.cs.length)[k]? =some x/\AVRep w G h u x:=by intro k hk;have hx:(qam vs off ti.cs.length)[k]? =some (qam vs off ti.cs.length)[k]:=List.getElem?_eq_getElem (by omega);have hx':=hx;rw[qci hk]at hx';obtain⟨u,hu,hu'⟩:=AVReps.get hus (off+k) hx';exact⟨u,_,by simpa using hu,hx,hu'⟩
 obtain⟨ws,hwl,hws⟩:=exL (R:=λk u=>∃x,us[off+k]? =some u/\(qam vs off ti.cs.length)[k]? =some x/\AVRep w G h u x) ti.cs.length hget;have hrep:AVReps w G h ws (qam vs off ti.cs.length):=AVReps.mk (by omega) λk x u hx hu=>by obtain⟨x',_,h2,h3⟩:=hws k u hu;rw[hx]at h2;cases h2;exact h3
 obtain⟨v',hv1,hv2⟩:=qcu hv hrep;refine Ran.pure I (v':=v') ?_ hv2;unfold Instr.field;simp only[Sem.run_bind,qa4 h1,Result.andThen_ok,h3,asAgg,Sem.run_pure,part,h5,qp5 h7,h9];cases ha:ti.agg with
 |true=>
  rw[ha]at hv1;subst hv1;simp only[if_true,Sem.run_bind,qdl h6,Result.andThen_ok,h8,Sem.run_pure,h4];congr 3;apply Array.ext_getElem?;intro k;rw[Array.getElem?_extract];by_cases hk:k<ti.cs.length;· obtain⟨x',hh,_⟩:=hws k _ (List.getElem?_eq_getElem (by omega));have hlt:=(Array.getElem?_eq_some_iff.1 hh).1;rw[if_pos (by omega),hh];simp[List.getElem?_eq_getElem (show k<ws.length by omega)]
  · rw[if_neg (by omega)];simp[List.getElem?_eq_none (show ws.length<=k by omega)]
 |false=>
  rw[ha]at hv1;subst hv1;have:us[f.offset]? =some v':=by obtain⟨x',hh,_⟩:=hws 0 v' rfl;rw[h4];simpa using hh
  simp[this]
end
section
variable{P:Program}{E:Env}{w0 w:World}{S0:Nat->Prop}{G:Gh}{h:Hp}{n:Nat}
theorem qjp(O:EnvOk P E){t:Nat}{m:Bool}{cs:List CT}(ht:E.ct t=some (.sl m cs)){b off len cap:Nat}{k:IntKind}{i:Int}(h0:0<=i)(h1:i<len):(Instr.indexAt t (.slice (some ⟨b,off,none⟩) len cap) (.int k i)).run P w=.ok (.pointer (some ⟨b,off+i.toNat*cs.length,none⟩)) w:=by obtain⟨e,tie,hu,he,_,rfl⟩:=O.ct_sl ht;obtain⟨inf,hi,hs,_⟩:=O.size he;unfold Instr.indexAt;simp only[Sem.run_bind,asIntOf,Sem.run_pure,Result.andThen_ok,qa4 hu];rw[if_pos ⟨h0,h1⟩];simp only[Sem.run_bind,qdl hi,Result.andThen_ok,Sem.run_pure,qc3,hs]
theorem idx_snd(O:EnvOk P E)(I:Inv w0 S0 w G h){t:Nat}{m:Bool}{cs:List CT}(ht:E.ct t=some (.sl m cs)){x i:AV}{x' i':Value}(hx:AVRep w G h x' x)(hi:AVRep w G h i' i):(idxS h (.sl m cs) x i).Snd P w0 S0 w G h n (valM (Instr.indexAt t x' i')):=by
 cases i with
 |i k i=>
  have hi:i'=_:=hi;subst hi;cases x with
  |ro k' m' cs' l=>
   simp only[idxS];cases hb:CT.beq (.sl m cs) (.sl m' cs')with
   |false=>trivial
   |true=>
    cases CT.beq_eq hb;intro hr;simp only[inR,Bool.and_eq_true,decide_eq_true_eq]at hr;have hlt:i.toNat<l.length:=by omega
    obtain⟨h1,h2,_⟩:=hx;rcases h1 with⟨_,rfl⟩|⟨b,off,cap,c,ty,fz,rfl,e2,e3,e4,e5,e6⟩
    · simp at hlt
    · refine Ran.pure I (qjp O ht hr.1 hr.2) ?_;have hE:=(qa5 l 0).1 e6 i.toNat hlt;simp only[Nat.zero_add]at hE;rw[qak hlt];refine⟨b,off+i.toNat*cs.length,c,ty,fz,i.toNat,by simp,e2,e3,hE,qfl h2 hlt⟩
  |rf r p v sub=>
   simp only[idxS];cases hs:slen h (.rf r p v sub)with
   |none=>trivial
   |some nn=>
    cases hr:rowAt h r p v with
    |none=>trivial
    |some q=>
     obtain⟨m',cs',l⟩:=q;simp only;cases hb:CT.beq (.sl m cs) (.sl m' cs')with
     |false=>trivial
     |true=>
      cases CT.beq_eq hb;intro hin;simp only[inR,Bool.and_eq_true,decide_eq_true_eq]at hin;have hal:G.al r:=hx.2.1;obtain⟨m0,cs0,l0,v0,e,hv,g0,g1,g2,g3,g4,g5,g6,g7⟩:=qdc I hx hr;have hnn:nn=subN l sub:=by simp only[slen,hr,Option.some.injEq]at hs;exact hs.symm
      subst hnn;have key:∃b off len cap off' cap',hv=.slice (some ⟨b,off,none⟩) len cap/\x'=.slice (some ⟨b,off',none⟩) (subN l sub) cap'/\off'=off+subO sub*cs.length/\subO sub+i.toNat<len:=by
       rcases g7 with⟨hn,rfl⟩|⟨b,off,cap,c,ty,fz,rfl,e2,e3,e4,e5,e6⟩
       ·rcases hn with rfl|⟨hf,_⟩
        ·cases sub with
         |none=>simp[subN]at hin;omega
         |some on=>
          obtain⟨o,k⟩:=on;rcases g6 with⟨_,_,rfl,_⟩|⟨_,_,_,_,_,_,hh,_⟩
          · simp[subN]at hin;omega
          · cases hh
        · exact False.elim hf
       ·cases sub with
        |none=>have g6:x'=_:=g6;subst g6;exact⟨b,off,l.length,cap,off,cap,rfl,rfl,by simp[subO],by simp only[subO,subN]at hin|-;omega⟩
        |some on=>
         obtain⟨o,k⟩:=on;rcases g6 with⟨hh,_⟩|⟨b',off₁,len,cap₁,off',cap',hh,k1,k2,k3,k4⟩
         · cases hh
         ·cases hh;rcases k4 with⟨k4,_⟩|⟨_,k4,_⟩
          · exact⟨b,off,l.length,cap,off',cap',rfl,k3,by simpa[subO]using k4,by simp only[subO,subN]at hin|-;omega⟩
          · subst k4;simp[subN]at hin;omega
      obtain⟨b,off,len,cap,off',cap',rfl,rfl,rfl,hlt⟩:=key;refine Ran.pure I (qjp O ht hin.1 hin.2) ⟨rfl,hal,?_⟩;rw[g0];have ha:addO sub i.toNat=subO sub+i.toNat:=by cases sub<;>simp[addO,subO]
      rw[ha];exact⟨g1,λ_=>⟨_,m,cs,l,b,off,len,cap,g3,g4,g5,rfl,hlt,by rw[Nat.add_mul];simp[Nat.add_assoc]⟩⟩
  |_=>trivial
 |_=>cases x<;>trivial
theorem len_snd(O:EnvOk P E)(I:Inv w0 S0 w G h){t:Nat}{m:Bool}{cs:List CT}(ht:E.ct t=some (.sl m cs)){ts:Array Nat}(h0:ts[0]? =some t)(u:TypeId){x:AV}{x':Value}(hx:AVRep w G h x' x){k:Nat}(hk:slen h x=some k):Ran P w0 S0 w G h n (valM (Builtin.len_ ts u #[x'])) (.i .i64 k) h:=by obtain⟨e,tie,hu,_⟩:=O.ct_sl ht;obtain⟨a,cap,rfl⟩:=qqg I hx hk;refine Ran.pure I (v':=.int .i64 k) ?_ rfl;simp[Builtin.len_,h0,qa4 hu,goInt]
theorem qxo(O:EnvOk P E)(I:Inv w0 S0 w G h){t:Nat}(ht:E.ct t=some .s){ts:Array Nat}(h0:ts[0]? =some t)(u:TypeId)(s:ByteArray):Ran P w0 S0 w G h n (valM (Builtin.len_ ts u #[.string s])) (.i .i64 s.size) h:=by refine Ran.pure I (v':=.int .i64 s.size) ?_ rfl;simp[Builtin.len_,h0,qa4 (O.ct_s ht),goInt]
def bndOk(v:Option Value)(d i:Int):Prop:=match v with|none=>i=d|some x=>∃k,x=.int k i
theorem qkd{x:Value}{k:IntKind}{i:Int}{y:Nat}{c:BoundsCode}(hx:x=.int k i)(h0:0<=i)(h1:i<=y):(Instr.sliceBound x y c).run P w=.ok i.toNat w:=by subst hx;unfold Instr.sliceBound;simp only[Sem.run_bind,asIntOf,Sem.run_pure,Result.andThen_ok];rw[if_pos ⟨h0,h1⟩];rfl
theorem qlq{isS:Bool}{len cap:Nat}{lo hi:Option Value}{l u:Int}(hl:bndOk lo 0 l)(hu:bndOk hi len u)(h0:0<=l)(h1:l<=u)(h2:u<=len)(hc:len<=cap):(Instr.sliceBounds isS len cap lo hi none).run P w=.ok (l.toNat,u.toNat,cap) w:=by
 unfold Instr.sliceBounds;cases hi with
 |none=>
  have hu:u=len:=hu;subst hu;cases lo with
  |none=>have hl:l=0:=hl;subst hl;simp
  |some x=>obtain⟨k,hk⟩:=hl;simp only[Sem.run_bind,Sem.run_pure,Result.andThen_ok,qkd hk h0 h1];simp
 |some y=>
  obtain⟨k',hk'⟩:=hu;have hb:=λc=>qkd (P:=P) (w:=w) (c:=c) hk' (by omega) (show u<=(cap:Int)by omega);cases lo with
  |none=>have hl:l=0:=hl;subst hl;simp only[Sem.run_bind,Sem.run_pure,Result.andThen_ok,hb];simp
  |some x=>obtain⟨k,hk⟩:=hl;have hb':=λc=>qkd (P:=P) (w:=w) (c:=c) hk h0 (show l<=((u.toNat:Nat):Int)by omega);simp only[Sem.run_bind,Sem.run_pure,Result.andThen_ok,hb,hb']
theorem qcc(O:EnvOk P E){t:Nat}{m:Bool}{cs:List CT}(ht:E.ct t=some (.sl m cs)){a:Option Addr}{len cap:Nat}{lo hi:Option Value}{l u:Int}(hl:bndOk lo 0 l)(hu:bndOk hi len u)(h0:0<=l)(h1:l<=u)(h2:u<=len)(hc:len<=cap):(Instr.sliceAt t (.slice a len cap) lo hi none).run P w=.ok (.slice (if cap=l.toNat then a else a.map (·.add (l.toNat*cs.length))) (u.toNat-l.toNat) (cap-l.toNat)) w:=by obtain⟨e,tie,hud,he,_,rfl⟩:=O.ct_sl ht;obtain⟨inf,hi',hs,_⟩:=O.size he;unfold Instr.sliceAt;simp only[Sem.run_bind,qa4 hud,Result.andThen_ok];unfold Instr.slice;simp only[Sem.run_bind,qa4 hud,Result.andThen_ok,qlq hl hu h0 h1 h2 hc,qdl hi',Sem.run_pure,hs]
theorem qkk(O:EnvOk P E){t:Nat}(ht:E.ct t=some .s){s:ByteArray}{lo hi:Option Value}{l u:Int}(hl:bndOk lo 0 l)(hu:bndOk hi s.size u)(h0:0<=l)(h1:l<=u)(h2:u<=s.size):(Instr.sliceAt t (.string s) lo hi none).run P w=.ok (.string (s.extract l.toNat u.toNat)) w:=by unfold Instr.sliceAt;simp only[Sem.run_bind,qa4 (O.ct_s ht),Result.andThen_ok];unfold Instr.slice;simp only[Sem.run_bind,qa4 (O.ct_s ht),Result.andThen_ok];simp[qlq (P:=P) (w:=w) (isS:=false) hl hu h0 h1 h2 (Nat.le_refl _)]
end
theorem qbr(m:Bool)(cs:List CT):∀(l:List T),okL m cs l=l.all (okE m cs)
|[]=>rfl
|x::l=>by rw[qi9,qbr m cs l];rfl
theorem qqx{m:Bool}{cs:List CT}{l:List T}(h:okL m cs l=true)(o n:Nat):okL m cs ((l.drop o).take n)=true:=by rw[qbr,List.all_eq_true]at*;exactλx hx=>h x (List.mem_of_mem_drop (List.mem_of_mem_take hx))
theorem add_zero(a:Addr):a.add 0=a:=by unfold Addr.add;simp
section
variable{P:Program}{E:Env}{w0 w:World}{S0:Nat->Prop}{G:Gh}{h:Hp}{n:Nat}
theorem qzt{m:Bool}{cs:List CT}{q:List T}{a:Option Addr}{cap:Nat}(H:RowRep w (roM G.ro) [] m cs (.slice a q.length cap) q){l u:Nat}(h1:l<=u)(h2:u<=q.length):RowRep w (roM G.ro) [] m cs (.slice (if cap=l then a else a.map (·.add (l*cs.length))) (u-l) (cap-l)) ((q.drop l).take (u-l)):=by
 by_cases he:u-l=0;· left;rw[he];exact⟨.inr ⟨trivial,_,_,rfl⟩,by simp⟩
 ·rcases H with⟨_,rfl⟩|⟨b,off,cap',c,ty,fz,e1,e2,e3,e4,e5,e6⟩
  · simp at h2;omega
  ·cases e1;rw[if_neg (by omega)];right;have hlen:((q.drop l).take (u-l)).length=u-l:=by simp;omega
   refine⟨b,off+l*cs.length,cap-l,c,ty,fz,by rw[hlen];simp[qc3],e2,e3,by omega,?_,?_⟩
   ·have:off+l*cs.length+(cap-l)*cs.length=off+cap*cs.length:=by rw[Nat.add_assoc,<-Nat.add_mul];congr 2;omega
    omega
   ·rw[qa5];intro k hk;rw[hlen]at hk;have hE:=(qa5 q 0).1 e6 (l+k) (by omega);simp only[Nat.zero_add]at hE|-;have e:((q.drop l).take (u-l))[k]'(by omega)=q[l+k]'(by omega):=by simp[List.getElem_take,List.getElem_drop]
    rw[e];refine ElemRep.move (M:=roM G.ro) (M':=roM G.ro) (π:=[]) (π':=[]) (i:=l+k) (i':=k) (λj=>⟨id,λb ρ(hb:G.ro b)=>⟨hb,rfl⟩⟩) (λj _=>?_) hE;rw[show off+l*cs.length+k*cs.length=off+(l+k)*cs.length by rw[Nat.add_mul];omega]
theorem qx5{sz:Nat}{hv:Value}{a:Option Addr}{len cap:Nat}{sub:Sub}(H:SubH sz hv (.slice a len cap) sub){l u:Nat}(h1:l<=u)(h2:u<=len)(hc:len<=cap)(hnil:hv=.slice none 0 0\/∃b off ln cp,hv=.slice (some ⟨b,off,none⟩) ln cp):SubH sz hv (.slice (if cap=l then a else a.map (·.add (l*sz))) (u-l) (cap-l)) (some (addO sub l,u-l)):=by
 cases sub with
 |none=>
  have H:Value.slice a len cap=hv:=H;subst H;rcases hnil with hh|⟨b,off,ln,cp,hh⟩
  ·cases hh;have:l=0/\u=0:=by omega
   obtain⟨rfl,rfl⟩:=this;left;simp[addO]
  ·cases hh;right;by_cases hcl:cap=l;· rw[if_pos hcl];exact⟨b,off,len,cap,off,cap-l,rfl,by simp only[addO];omega,by simp only[addO];omega,rfl,.inr ⟨by omega,by omega,by omega⟩⟩
   · rw[if_neg hcl];exact⟨b,off,len,cap,off+l*sz,cap-l,rfl,by simp only[addO];omega,by simp only[addO];omega,by simp[qc3],.inl ⟨by simp[addO],by simp only[addO];omega⟩⟩
 |some on=>
  obtain⟨o,k⟩:=on;rcases H with⟨rfl,rfl,rfl,hh⟩|⟨b,off,ln,cp,off',cap',rfl,k1,k2,hh,k4⟩
  ·cases hh;have:l=0/\u=0:=by omega
   obtain⟨rfl,rfl⟩:=this;left;simp[addO]
  ·cases hh;right;by_cases hcl:cap=l
   ·rw[if_pos hcl];refine⟨b,off,ln,cp,off',cap-l,rfl,by simp only[addO];omega,?_,rfl,.inr ⟨by omega,by omega,?_⟩⟩;· simp only[addO];rcases k4 with⟨_,k4⟩|⟨_,_,_⟩<;>omega
    · simp only[addO];rw[Nat.add_mul];rcases k4 with⟨k4,_⟩|⟨_,_,k4⟩<;>omega
   ·rw[if_neg hcl];rcases k4 with⟨k4,k5⟩|⟨k4,k5,k6⟩
    · refine⟨b,off,ln,cp,off'+l*sz,cap-l,rfl,by simp only[addO];omega,by simp only[addO];omega,by simp[qc3],.inl ⟨?_,by simp only[addO];omega⟩⟩;simp only[addO];rw[Nat.add_mul];omega
    · omega
def qu7(w:World)(G:Gh)(h:Hp):Option Value->Option AV->Prop
|none,none=>True
|some v,some x=>AVRep w G h v x
|_,_=>False
theorem qda{lo:Option AV}{lo':Option Value}{d:Int}{l:Int}(hl:(match lo with|none=>some d|some v=>natOf v)=some l)(hr:qu7 w G h lo' lo):bndOk lo' d l:=by
 cases lo with
 |none=>
  cases lo' with
  |none=>simpa[bndOk]using hl.symm
  |some _=>exact hr.elim
 |some x=>
  cases lo' with
  |none=>exact hr.elim
  |some v=>cases x<;>simp[natOf]at hl;subst hl;exact⟨_,hr⟩
theorem qtt(O:EnvOk P E)(I:Inv w0 S0 w G h){t:Nat}{c:CT}(ht:E.ct t=some c){x:AV}{x':Value}(hx:AVRep w G h x' x){lo hi:Option AV}{lo' hi':Option Value}(hlo:qu7 w G h lo' lo)(hhi:qu7 w G h hi' hi):(qd3 h c x lo hi).Snd P w0 S0 w G h n (valM (Instr.sliceAt t x' lo' hi' none)):=by
 cases x with
 |s s=>
  have hx:x'=_:=hx;subst hx;simp only[qd3];cases hb:CT.beq c .s with
  |false=>trivial
  |true=>
   cases CT.beq_eq hb;simp only[cond_true];split;· rename_i l u hl hu;intro hc;simp only[Bool.and_eq_true,decide_eq_true_eq]at hc;exact Ran.pure I (qkk O ht (qda hl hlo) (qda hu hhi) hc.1.1 hc.1.2 hc.2) rfl
   · trivial
 |rf r p v sub=>
  simp only[qd3];cases hs:slen h (.rf r p v sub)with
  |none=>trivial
  |some nn=>
   cases hr:rowAt h r p v with
   |none=>trivial
   |some q=>
    obtain⟨m,cs,lst⟩:=q;simp only;cases hb:CT.beq c (.sl m cs)with
    |false=>trivial
    |true=>
     cases CT.beq_eq hb;simp only[cond_true];split
     ·rename_i l u hl hu;intro hc;simp only[Bool.and_eq_true,decide_eq_true_eq]at hc;obtain⟨a,cap,rfl⟩:=qqg I hx hs;obtain⟨m0,cs0,l0,v0,e,hv,g0,g1,g2,g3,g4,g5,g6,g7⟩:=qdc I hx hr;have hnil:hv=.slice none 0 0\/∃b off ln cp,hv=.slice (some ⟨b,off,none⟩) ln cp:=by
       rcases g7 with⟨hn,_⟩|⟨b,off,cap,_,_,_,rfl,_⟩
       ·rcases hn with rfl|⟨hf,_⟩
        · exact .inl rfl
        · exact False.elim hf
       · exact .inr ⟨_,_,_,_,rfl⟩
      have hcap:nn<=cap:=by
       have hnn:nn=subN lst sub:=by simp only[slen,hr,Option.some.injEq]at hs;exact hs.symm
       rcases SlRep.part g7 g6 with⟨hh,a',cap',e'⟩|⟨b,off,cap',_,_,_,e',_,_,hle,_⟩
       · cases e';omega
       · cases e';exact hle
      have hal:=hx.2.1;refine Ran.pure I (qcc O ht (qda hl hlo) (qda hu hhi) hc.1.1 hc.1.2 hc.2 hcap) ⟨rfl,hal,?_⟩;rw[g0];exact⟨g1,λ_=>⟨hv,m,cs,lst,g3,g4,g5,qx5 g6 (by omega) (by omega) hcap hnil⟩⟩
     · trivial
 |ro k m cs q=>
  simp only[qd3];cases hb:CT.beq c (.sl m cs)with
  |false=>trivial
  |true=>
   cases CT.beq_eq hb;simp only[cond_true];obtain⟨h1,h2,h3⟩:=hx;obtain⟨a,cap,rfl⟩:=h1.sl.len;have hcap:q.length<=cap\/q.length=0:=by
    rcases h1 with⟨_,rfl⟩|⟨b,off,cap',_,_,_,e',_,_,hle,_⟩
    · exact .inr rfl
    · cases e';exact .inl hle
   have hcap:q.length<=cap:=by omega
   have fin:∀{l u:Int},bndOk lo' 0 l->bndOk hi' q.length u->0<=l->l<=u->u<=q.length->∀{q':List T},q'=(q.drop l.toNat).take (u.toNat-l.toNat)->Ran P w0 S0 w G h n (valM (Instr.sliceAt t (.slice a q.length cap) lo' hi' none)) (.ro 0 m cs q') h:=by intro l u hl hu h4 h5 h6 q' hq';subst hq';exact Ran.pure I (qcc O ht hl hu h4 h5 h6 hcap) ⟨qzt h1 (by omega) (by omega),qqx h2 _ _,λhh=>absurd rfl hh⟩
   cases lo with
   |none=>
    cases hi with
    |none=>have hl0:bndOk lo' 0 0:=qda (d:=0) (l:=0) rfl hlo;have hu0:bndOk hi' q.length q.length:=qda (d:=q.length) (l:=q.length) rfl hhi;refine Ran.pure I (v':=.slice a q.length cap) ?_ ⟨h1,h2,h3⟩;rw[qcc O ht hl0 hu0 (by omega) (by omega) (by omega) hcap];simp[add_zero]
    |some hv=>
     simp only;cases hu:natOf hv with
     |none=>trivial
     |some u=>intro hc;simp only[Bool.and_eq_true,decide_eq_true_eq]at hc;exact fin (l:=0) (u:=u) (qda (lo:=none) (d:=0) rfl hlo) (qda (lo:=some hv) (d:=q.length) hu hhi) (by omega) hc.1 hc.2 (by simp)
   |some lv=>
    cases hi with
    |none=>
     simp only;cases hl:natOf lv with
     |none=>trivial
     |some l=>intro hc;simp only[Bool.and_eq_true,decide_eq_true_eq]at hc;exact fin (l:=l) (u:=q.length) (qda (lo:=some lv) (d:=0) hl hlo) (qda (lo:=none) (d:=q.length) rfl hhi) hc.1 hc.2 (by omega) (by rw[List.take_of_length_le (by simp)])
    |some hv=>
     simp only;cases hl:natOf lv with
     |none=>trivial
     |some l=>
      cases hu:natOf hv with
      |none=>trivial
      |some u=>intro hc;simp only[Bool.and_eq_true,decide_eq_true_eq]at hc;exact fin (l:=l) (u:=u) (qda (lo:=some lv) (d:=0) hl hlo) (qda (lo:=some hv) (d:=q.length) hu hhi) hc.1.1 hc.1.2 hc.2 rfl
 |nl m cs=>
  have hx:x'=_:=hx;subst hx;simp only[qd3];cases hb:CT.beq c (.sl m cs)with
  |false=>trivial
  |true=>
   cases CT.beq_eq hb;simp only[cond_true];split;· rename_i l u hl hu;intro hc;simp only[Bool.and_eq_true,decide_eq_true_eq]at hc;obtain⟨rfl,rfl⟩:=hc;refine Ran.pure I (v':=.slice none 0 0) ?_ rfl;rw[qcc O ht (qda (d:=0) hl hlo) (qda (d:=0) hu hhi) (by omega) (by omega) (by simp) (Nat.le_refl _)];simp
   · trivial
 |_=>trivial
end
theorem qua{v:Value}(h:v.oneCell'=true):v.cells=#[v]:=by cases v<;>simp_all[Value.oneCell',Value.cells]
section
variable{P:Program}{E:Env}{w0 w:World}{S0:Nat->Prop}{G:Gh}{h:Hp}{n:Nat}
theorem AVReps.one:∀{vs:List Value}{xs:List AV},AVReps w G h vs xs->xs.all isC=true->∀v∈vs,v.oneCell'=true
|[],[],_,_=>by simp
|v::vs,x::xs,H,ha=>by
 simp only[List.all_cons,Bool.and_eq_true]at ha;intro u hu;rcases List.mem_cons.1 hu with rfl|hu
 · exact AVRep.one ha.1 H.1
 · exact AVReps.one H.2 ha.2 u hu
|[],_::_,H,_=>H.elim
|_::_,[],H,_=>H.elim
theorem qdt{x:AV}{v:Value}(hx:AVRep w G h v x)(ha:(qai x).all isC=true):AVReps w G h v.cells.toList (qai x)/\∀u∈v.cells.toList,u.oneCell'=true:=by
 cases x with
 |ag cs=>obtain⟨us,rfl,hus⟩:=hx;exact⟨hus,AVReps.one hus ha⟩
 |_=>have h1:v.oneCell'=true:=AVRep.one (by simpa[qai]using ha) hx;rw[qua h1];exact⟨⟨hx,trivial⟩,by simpa using h1⟩
theorem qit{α:Type}(l:List α)(j:Nat)(vs:List α)(h:j+vs.length<=l.length):(setCells l j vs).length=l.length:=by unfold setCells;simp;omega
theorem qhq{α:Type}(l:List α)(j:Nat)(vs:List α)(h:j+vs.length<=l.length)(k:Nat):(setCells l j vs)[k]? =if j<=k/\k<j+vs.length then vs[k-j]? else l[k]? :=by
 unfold setCells;have hl:(l.take j).length=j:=by simp;omega
 by_cases h1:k<j;· rw[if_neg (by omega),List.append_assoc,List.getElem?_append_left (by omega),List.getElem?_take_of_lt h1]
 ·rw[List.append_assoc,List.getElem?_append_right (by omega),hl];by_cases h2:k<j+vs.length;· rw[if_pos (by omega),List.getElem?_append_left (by omega)]
  · rw[if_neg (by omega),List.getElem?_append_right (by omega),List.getElem?_drop];congr 1;omega
theorem AVReps.set{c:Array Value}{cs vs:List AV}{us:List Value}{j:Nat}(H:AVReps w G h c.toList cs)(Hv:AVReps w G h us vs)(hj:j+vs.length<=cs.length):AVReps w G h (putA c j us).toList (setCells cs j vs):=by
 have hl:=AVReps.length H;have hlv:=AVReps.length Hv;have hsz:c.size=cs.length:=by simpa using hl
 refine AVReps.mk (by rw[qit _ _ _ hj];simp[qbb,hsz]) λk x v hx hv=>?_;rw[qhq _ _ _ hj]at hx;have hv:(putA c j us)[k]? =some v:=by simpa using hv
 by_cases hk:j<=k/\k<j+vs.length;· rw[if_pos hk]at hx;obtain⟨u,hu,hu'⟩:=AVReps.get Hv _ hx;have:=qhb us c j (k-j) (by omega) (by omega);rw[show j+(k-j)=k by omega,hv]at this;have e:us[k-j]? =some (us[k-j]'(by omega)):=List.getElem?_eq_getElem (by omega);rw[hu]at e;rw[Option.some.inj this,<-Option.some.inj e];exact hu'
 ·rw[if_neg hk]at hx;obtain⟨u,hu,hu'⟩:=AVReps.get H _ hx;rw[qfk us c j k (by omega)]at hv;have hu:c[k]? =some u:=by simpa using hu
  rw[hv]at hu;cases hu;exact hu'
theorem qqn:∀(us:List Value)(c:Array Value)(j:Nat),(∀v∈c.toList,v.oneCell'=true)->(∀v∈us,v.oneCell'=true)->∀v∈(putA c j us).toList,v.oneCell'=true
|[],c,j,h,_=>h
|u::us,c,j,h,hu=>by
 refine qqn us _ (j+1) (λv hv=>?_) (λv hv=>hu v (by simp[hv]));rw[Array.toList_setIfInBounds]at hv;rcases List.mem_or_eq_of_mem_set hv with h1|h1
 · exact h v h1
 · exact h1▸hu u (by simp)
theorem qo2:∀(us:List Value)(k off:Nat)(c:Array Value),(us.zipIdx k).foldl (λcs x=>cs.setIfInBounds (off+x.2) x.1) c=putA c (off+k) us
|[],_,_,_=>rfl
|u::us,k,off,c=>by simp only[List.zipIdx_cons,List.foldl_cons,putA];rw[qo2 us (k+1) off];rfl
theorem qo8{place:Nat->Option (Nat×Nat)}{c:Array Value}{i off size:Nat}{v:Value}{rest:List (Nat×Value)}(hp:place i=some (off,size))(hs:v.cells.size=size)(ho:off+size<=c.size):Instr.fill place c ((i,v)::rest)=Instr.fill place (putA c off v.cells.toList) rest:=by
 rw[Instr.fill];rw[hp];have hb:(v.cells.size≠size||off+v.cells.size>c.size)=false:=by simp[hs];omega
 simp only[hb,Bool.false_eq_true,if_false];have e:=qo2 v.cells.toList 0 off c;rw[Nat.add_zero]at e;rw[<-e];congr 1;rw[<-Array.foldl_toList,Array.toList_zipIdx]
theorem qfc(O:EnvOk P E){fs:List (Nat×Nat)}{F:Array Field}{places:List (Nat×Nat)}(hF:F.toList.map (λf=>(f.offset,f.type))=fs)(hpl:F.toList.mapM (λf=>(P.info? f.type).map λi=>(f.offset,i.size))=some places){a:Act}{s:Nat->AV}(hs:∀t,AVRep w G h (a.tmps.getD t undef) (s t)):∀(ps:List (Nat×Operand)){c:Array Value}{zs vs:List AV},AVReps w G h c.toList zs->qbf fs E s zs ps=some vs->∃c',Instr.fill (places.toArray[·]?) c (ps.map λ(i,x)=>(i,a.eval x))=some c'/\AVReps w G h c'.toList vs
|[],c,zs,vs,H,hb=>by simp only[qbf,Option.some.injEq]at hb;subst hb;exact⟨c,rfl,H⟩
|(i,x)::ps,c,zs,vs,H,hb=>by
 unfold qbf at hb;split at hb
 ·rename_i off t hfs;split at hb
  ·rename_i ti hti;simp only[Bool.cond_eq_ite]at hb;split at hb
   ·rename_i hc;simp only[Bool.and_eq_true]at hc;obtain⟨⟨h1,h2⟩,h3⟩:=hc;have h1:=Nat.eq_of_beq_eq_true h1;have h2:=Nat.le_of_ble_eq_true h2;have hx:=qct hs (E.ct t) x;obtain⟨hcr,_⟩:=qdt hx h3;obtain⟨inf,hi,hsz,_⟩:=O.size hti;obtain⟨f,hf,hf1,hf2⟩:=qms hF hfs;have hpi:places[i]? =some (off,inf.size):=by have:=mapM_some_get hpl i f (by simpa using hf);rw[<-this,hf2,hi,hf1];rfl
    have hlen:=AVReps.length hcr;have hlz:=AVReps.length H;have hcs:(a.eval x).cells.size=inf.size:=by rw[hsz,<-h1,<-hlen];simp
    have ho:off+inf.size<=c.size:=by
     have:c.size=zs.length:=by simpa using hlz
     omega
    simp only[List.map_cons];rw[qo8 (place:=(places.toArray[·]?)) (by simpa using hpi) hcs ho];exact qfc O hF hpl hs ps (AVReps.set H hcr (by omega)) hb
   · cases hb
  · cases hb
 · cases hb
theorem ql7:∀{F:List Field},(∀f∈F,∃i,P.info? f.type=some i)->∃places,F.mapM (λf=>(P.info? f.type).map λi=>(f.offset,i.size))=some places
|[],_=>⟨[],by simp⟩
|f::F,H=>by obtain⟨i,hi⟩:=H f (by simp);obtain⟨ps,hps⟩:=ql7 (F:=F) λg hg=>H g (by simp[hg]);exact⟨(f.offset,i.size)::ps,by simp[List.mapM_cons,hi,hps]⟩
theorem qwg(O:EnvOk P E)(I:Inv w0 S0 w G h){t:Nat}{agg:Bool}{cs:List CT}{fs:List (Nat×Nat)}(ht:E.ty t=some ⟨agg,cs,.st fs⟩){a:Act}{s:Nat->AV}(hs:∀t,AVRep w G h (a.tmps.getD t undef) (s t)){zs vs:List AV}(hz:mapO qeb cs=some zs){ps:Array (Nat×Operand)}(hb:qbf fs E s zs ps.toList=some vs):Ran P w0 S0 w G h n (valM (Instr.build t (ps.map λ(i,x)=>(i,a.eval x)))) (.ag vs) h:=by obtain⟨F,hu,hF⟩:=O.st ht;obtain⟨places,hpl⟩:=ql7 (P:=P) (qsb (O.ty _ _ ht) hu);obtain⟨inf,_,z,hi,_,hsz,_,hiz,hzz,_,_,_⟩:=tyOk (O.ty _ _ ht);obtain⟨c',hc',hrep⟩:=qfc O hF hpl hs ps.toList (qh2 w G h hzz hz) hb;refine Ran.pure I (v':=.agg c') (run_build w t _ c' ?_) ⟨c',rfl,hrep⟩;unfold Program.built;simp only[hi,hu,hiz,hpl];simpa using hc'
end
theorem Turn.trans{w w' w'':World}{G G' G'':Gh}{r:Nat}:∀{x y z:Blk},Turn w w' G G' r x y->Turn w' w'' G' G'' r y z->Turn w w'' G G'' r x z
|_,_,.dead,_,_=>trivial
|.row m cs l v e,.row m' cs' l' v' e',.row m'' cs'' l'' v'' e'',h1,h2=>by
 obtain⟨rfl,rfl,a1,b1⟩:=h1;obtain⟨rfl,rfl,a2,b2⟩:=h2;refine⟨rfl,rfl,a2.trans a1,?_⟩;rcases b1 with⟨rfl,rfl,c1⟩|c1
 ·rcases b2 with⟨rfl,rfl,c2⟩|c2
  · refine .inl ⟨rfl,rfl,λb p hb=>?_⟩;obtain⟨d1,d2⟩:=c1 b p hb;obtain⟨d3,d4⟩:=c2 b p d1;exact⟨d3,d4.trans d2⟩
  · exact .inr c2
 ·rcases b2 with⟨_,rfl,_⟩|c2
  · exact .inr c1
  · exact .inr (Nat.lt_trans c1 c2)
|.box _,.box _,.box _,h1,h2=>Eq.trans h2 h1
|.dead,.row ..,.row ..,h1,_=>h1.elim
|.dead,.box ..,.box ..,h1,_=>h1.elim
|.dead,.dead,.row ..,_,h2=>h2.elim
|.dead,.dead,.box ..,_,h2=>h2.elim
|.row ..,.dead,.row ..,_,h2=>h2.elim
|.row ..,.dead,.box ..,_,h2=>h2.elim
|.box ..,.dead,.row ..,_,h2=>h2.elim
|.box ..,.dead,.box ..,_,h2=>h2.elim
|.box ..,.row ..,_,h1,_=>h1.elim
|.row ..,.box ..,_,h1,_=>h1.elim
|_,.row ..,.box ..,_,h2=>h2.elim
|_,.box ..,.row ..,_,h2=>h2.elim
theorem Keep.trans{w w' w'':World}{G G' G'':Gh}{h h' h'':Hp}(K:Keep w w' G G' h h')(K':Keep w' w'' G' G'' h' h''):Keep w w'' G G'' h h'':=⟨λb hb=>⟨(K'.ro b (K.ro b hb).1).1,(K'.ro b (K.ro b hb).1).2.trans (K.ro b hb).2⟩,K'.kv.trans K.kv,λr hr=>⟨(K'.al r (K.al r hr).1).1,(K.al r hr).2.trans (K'.al r (K.al r hr).1).2⟩⟩
section
variable{P:Program}{E:Env}{w0 w:World}{S0:Nat->Prop}{G:Gh}{h:Hp}{n:Nat}
theorem qnu(n:Nat):newR n n:=⟨Nat.le_refl _,by unfold KN;omega⟩
theorem qh1{r b:Nat}{v:Value}(hr:(G.alloc n b v).al r):G.al r\/newR n r:=by
 rcases hr with h1|h1
 · exact .inl h1
 · subst h1;exact .inr (qnu _)
theorem qwu(O:EnvOk P E)(I:Inv w0 S0 w G h)(hn:¬G.al n){t:Nat}{ti:Ti}(ht:E.ty t=some ti){vs:List AV}(hz:mapO qeb ti.cs=some vs):Ran P w0 S0 w G h n (valM (Instr.alloc t true (.tuple #[]))) (.bp n 0) (upd h n (.box vs)):=by
 obtain⟨inf,_,z,hi,_,hsz,_,hiz,hzz,_,_,_⟩:=tyOk (O.ty _ _ ht);obtain⟨I',K,hv⟩:=qot I hn t (qh2 w G h hzz hz) (λv hv=>by
  obtain⟨j,hj⟩:=List.mem_iff_getElem?.1 hv;have hlt:j<ti.cs.length:=by rw[<-qb3 hzz];exact(List.getElem?_eq_some_iff.1 hj).1
  obtain⟨v',h1,h2⟩:=qch hzz (List.getElem?_eq_getElem hlt);rw[hj]at h1;cases h1;exact qs9 h2)
 refine⟨_,_,_,.inl ?_,I',K,hv,λr hr=>qh1 hr⟩;unfold Instr.alloc;simp only[Sem.run_bind,qnm hi hiz,Result.andThen_ok];unfold newVar;simp only[Sem.run_bind,qdx,Result.andThen_ok,Sem.run_pure];rfl
theorem box_snd(I:Inv w0 S0 w G h)(hn:¬G.al n)(t:Nat){x:AV}{v:Value}(hx:AVRep w G h v x)(hc:(qai x).all isC=true):Ran P w0 S0 w G h n (valM (Instr.box t v)) (.bp n 0) (upd h n (.box (qai x))):=by obtain⟨h1,h2⟩:=qdt hx hc;obtain⟨I',K,hv⟩:=qot I hn t h1 h2;refine⟨_,_,_,.inl ?_,I',K,hv,λr hr=>qh1 hr⟩;unfold Instr.box newVar;simp only[Sem.run_bind,qdx,Result.andThen_ok,Sem.run_pure];rfl
theorem qfw(I:Inv w0 S0 w G h){r b:Nat}{p:Path}{c c':Array Value}{ty:TypeId}{fz:Nat×Nat}{B:Blk}(hb:G.own b=some (.blk r p))(hc:w.heap[b]? =some (.cells c ty fz))(hs:c'.size=c.size)(hT:G.al r->Turn w (putC w b c') G G r (h r) B):Step w (putC w b c') G G h (upd h r B) (λx=>x=r):=by
 refine⟨rfl,rfl,rfl,Nat.le_of_eq (qnn w b c').symm,λb' _ hn=>?_,λb' x hx=>.inl ⟨x,hx⟩,λb' x hx=>?_,rfl,rfl,λ_ h=>h,λx hx=>⟨upd_ne _ _ hx,rfl,λb' q hb'=>⟨hb',?_⟩,λb' q hb'=>hb'⟩,λx hx ha=>?_⟩;· exact qdy w c' (λe=>by subst e;rw[hb]at hn;cases hn)
 ·obtain⟨c1,ty1,fz1,h1,h2⟩:=I.cells b' x hx;by_cases e:b'=b;· subst e;rw[hc]at h1;cases h1;exact⟨c',ty,fz,qcr w hc,hs▸h2⟩
  · exact⟨c1,ty1,fz1,(qdy w c' e).trans h1,h2⟩
 · exact qdy w c' (λe=>by subst e;rw[hb]at hb';cases hb';exact hx rfl)
 · subst hx;rw[upd_same];exact hT ha
theorem qhp(O:EnvOk P E){t:Nat}{ti:Ti}(ht:E.ty t=some ti){b o:Nat}{c:Array Value}{ty:TypeId}{fz:Nat×Nat}{v:Value}(hh:w.heap[b]? =some (.cells c ty fz))(hf:Free fz c.size)(hl:v.cells.size=ti.cs.length)(ho:o+ti.cs.length<=c.size)(h1:∀u∈v.cells.toList,u.oneCell'=true):(storeVar t ⟨b,o,none⟩ v).run P w=.ok () (putC w b (putA c o v.cells.toList)):=by obtain⟨inf,hi,hs,_⟩:=O.size ht;unfold storeVar;simp only[Sem.run_bind,qdl hi,Result.andThen_ok];rw[if_neg (by rw[hs];simpa using hl)];exact qej hh hf (by simpa[hl]using ho) h1
theorem qnd(O:EnvOk P E)(I:Inv w0 S0 w G h){t:Nat}{ti:Ti}(ht:E.ty t=some ti){r j:Nat}{a':Value}(ha:AVRep w G h a' (.bp r j)){x:AV}{v:Value}(hx:AVRep w G h v x){cs:List AV}(hr:h r=.box cs)(h1:(qai x).length=ti.cs.length)(h2:j+ti.cs.length<=cs.length)(h3:(qai x).all isC=true):Ran P w0 S0 w G h n (do Instr.storeAt t a' v;pure .skip) .un (upd h r (.box (setCells cs j (qai x)))):=by
 obtain⟨_,hal,ha⟩:=ha;rw[hr]at ha;obtain⟨b0,g1,rfl⟩:=ha;have R:=I.rep r;rw[hr]at R;obtain⟨_,b,c,ty,fz,e1,e2,e3,e4,e5⟩:=R;rw[g1]at e1;cases e1;obtain⟨hc1,hc2⟩:=qdt hx h3;obtain⟨c1,ty1,fz1,k1,k2⟩:=I.cells b0 _ e2;rw[e3]at k1;cases k1;have hlen:=AVReps.length hc1;have hlc:=AVReps.length e4;have hsz:v.cells.size=ti.cs.length:=by rw[<-h1,<-hlen];simp
 have hcsz:c.size=cs.length:=by simpa using hlc
 have S:=qfw (c':=putA c j v.cells.toList) (B:=.box (setCells cs j (qai x))) I e2 e3 (qbb _ _ _) (λ_=>by rw[hr];exact rfl);have K:=S.keep I;refine⟨undef,_,_,.inr ⟨?_,rfl⟩,S.inv I λy hy=>?_,K,rfl,λ_ h=>.inl h⟩;· unfold Instr.storeAt;simp only[Sem.run_bind,Instr.sureAddr,Sem.run_pure,Result.andThen_ok];rw[qhp O ht e3 k2 hsz (by omega) hc2];rfl
 · subst hy;rw[upd_same];refine⟨hal,b0,putA c j v.cells.toList,ty,fz,g1,e2,qcr w e3,?_,qqn _ _ _ e5 hc2⟩;exact AVReps.set (K.avs cs e4) (K.avs _ hc1) (by omega)
end
def strip:Path->Path->Option Path
|[],q=>some q
|_::_,[]=>none
|a::p,b::q=>if a=b then strip p q else none
theorem qev:∀{p q s:Path},strip p q=some s↔q=p++s
|[],q,s=>by simp[strip]
|_::_,[],s=>by simp[strip]
|a::p,b::q,s=>by
 unfold strip;by_cases e:a=b;· subst e;rw[if_pos rfl,qev];simp
 · rw[if_neg e];simp[Ne.symm e]
theorem qho(p s:Path):strip p (p++s)=some s:=qev.2 rfl
def killF(r:Nat)(p:Path)(k:Nat):Lab->Lab
|.blk r' q=>if r'=r then match strip p q with|some s=>.tmp k s|none=>.blk r' q else .blk r' q
|x=>x
def qb9(k r:Nat)(π:Path):Lab->Lab
|.tmp k' s=>if k'=k then .blk r (π++s)else .tmp k' s
|x=>x
def Gh.rel(G:Gh)(f:Lab->Lab):Gh:={G with own:=λb=>(G.own b).map f}
section
variable{w0 w:World}{S0:Nat->Prop}{G:Gh}{h h':Hp}
theorem qdw(I:Inv w0 S0 w G h)(f:Lab->Lab)(tc:Nat->Prop)(hf:∀r p,¬tc r->f (.blk r p)=.blk r p)(hf':∀x r p,¬tc r->f x=.blk r p->x=.blk r p)(hh:∀r,¬tc r->h' r=h r)(ht:∀r,tc r->G.al r->Turn w w G (G.rel f) r (h r) (h' r)):Step w w G (G.rel f) h h' tc:=by
 refine⟨rfl,rfl,rfl,Nat.le_refl _,λ_ _ _=>rfl,λb x hx=>?_,λb x hx=>?_,rfl,rfl,λ_ h=>h,λr hr=>⟨hh r hr,rfl,λb p hb=>⟨?_,rfl⟩,λb p hb=>?_⟩,ht⟩;· left;simp only[Gh.rel,Option.map_eq_some_iff]at hx;obtain⟨y,hy,_⟩:=hx;exact⟨y,hy⟩
 · simp only[Gh.rel,Option.map_eq_some_iff]at hx;obtain⟨y,hy,_⟩:=hx;exact I.cells b y hy
 · simp[Gh.rel,hb,hf r p hr]
 · simp only[Gh.rel,Option.map_eq_some_iff]at hb;obtain⟨y,hy,hy'⟩:=hb;rw[hy,hf' y r p hr hy']
theorem Inv.freshTmp(I:Inv w0 S0 w G h):∃K,∀k,K<=k->∀b p,G.own b≠some (.tmp k p):=by
 have key:∀n,∃K,∀k,K<=k->∀b p,b<n->G.own b≠some (.tmp k p):=by
  intro n;induction n with
  |zero=>exact⟨0,λ_ _ _ _ hb=>absurd hb (by omega)⟩
  |succ n ih=>
   obtain⟨K,hK⟩:=ih;cases e:G.own n with
   |none=>
    refine⟨K,λk hk b p hb=>?_⟩;by_cases hbn:b=n;· subst hbn;rw[e];simp
    · exact hK k hk b p (by omega)
   |some x=>
    cases x with
    |blk r q=>
     refine⟨K,λk hk b p hb=>?_⟩;by_cases hbn:b=n;· subst hbn;rw[e];simp
     · exact hK k hk b p (by omega)
    |tmp k0 q=>
     refine⟨max K (k0+1),λk hk b p hb=>?_⟩;by_cases hbn:b=n
     ·subst hbn;rw[e];intro hh;have:k0=k:=by simpa using congrArg (λx=>match x with|some (.tmp k _)=>k|_=>0) hh
      omega
     · exact hK k (by omega) b p (by omega)
 obtain⟨K,hK⟩:=key w.heap.size;exact⟨K,λk hk b p hb=>hK k hk b p (I.ownLt hb) hb⟩
theorem qxa:∀(ts xs:List T),ts.length=xs.length->setL xs 0 ts=ts:=by
 intro ts xs hl;apply List.ext_getElem?;intro k;by_cases hk:k<ts.length;· have:=qm3 ts xs 0 k hk (by omega);rw[Nat.zero_add]at this;rw[this,List.getElem?_eq_getElem hk]
 · rw[List.getElem?_eq_none (by rw[qcn];omega),List.getElem?_eq_none (by omega)]
theorem qqz{w:World}{M:Mem}{π:Path}{m:Bool}{cs:List CT}{c:Array Value}{o i j:Nat}{x:T}{ts:List T}(H:ElemRep w M π m cs c o i x):newEl m cs.length x j ts=qdj m x j ts:=by
 unfold newEl;cases hb:(m&&Nat.beq j 0&&Nat.beq ts.length cs.length)with
 |false=>rfl
 |true=>
  simp only[Bool.and_eq_true]at hb;obtain⟨⟨rfl,hj⟩,hl⟩:=hb;have hj:=Nat.eq_of_beq_eq_true hj;have hl:=Nat.eq_of_beq_eq_true hl;subst hj;cases x with
  |st xs=>rw[cond_true,qfu,qxa _ _ (hl.trans H.1.symm)]
  |_=>exact H.elim
theorem RowRep.setEl{w w':World}{M M':Mem}{π:Path}{m:Bool}{cs:List CT}{c c':Array Value}{b off cap i j:Nat}{ty:TypeId}{fz:Nat×Nat}{l:List T}{ts:List T}(H:ElemsRep w M π m cs c off 0 l)(hM:M' b π)(hc:w'.heap[b]? =some (.cells c' ty fz))(hl:l.length<=cap)(hcap:off+cap*cs.length<=c'.size)(hi:i<l.length)(hj:j+ts.length<=cs.length)(hold:∀i' j',i'<l.length->j'<cs.length->(i'≠i\/j'<j\/j+ts.length<=j')->c'[off+i'*cs.length+j']? =c[off+i'*cs.length+j']? /\Moved w w' M M' (π++[(i',j')]) (π++[(i',j')]))(hnew:∀k(hk:k<ts.length),∃ct v,cs[j+k]? =some ct/\c'[off+i*cs.length+(j+k)]? =some v/\CellRep w' M' (π++[(i,j+k)]) ct v ts[k]):RowRep w' M' π m cs (.slice (some ⟨b,off,none⟩) l.length cap) (l.set i (qdj m (l.getD i .u) j ts)):=by
 right;refine⟨b,off,cap,c',ty,fz,by rw[List.length_set],hM,hc,by simpa using hl,hcap,?_⟩;rw[qa5]at H|-;intro k hk;have hk':k<l.length:=by simpa using hk
 have hE:=H k hk';simp only[Nat.zero_add]at hE|-;by_cases e:k=i;· subst e;rw[List.getElem_set_self,qak hi];exact ElemRep.put hE hj (λq hq hr=>hold k q hk' hq (.inr hr)) hnew
 ·rw[List.getElem_set_ne (Ne.symm e)];cases m with
  |true=>
   cases hx:l[k]with
   |st xs=>rw[hx]at hE;obtain⟨h1,h2⟩:=hE;refine⟨h1,?_⟩;rw[qag]at h2|-;intro q hq;obtain⟨ct,v,g1,g2,g3⟩:=h2 q hq;simp only[Nat.zero_add]at g1 g2 g3|-;obtain⟨k1,k2⟩:=hold k q hk' (by omega) (.inl e);exact⟨ct,v,g1,k1.trans g2,CellRep.moved _ k2 g3⟩
   |_=>rw[hx]at hE;exact hE.elim
  |false=>obtain⟨ct,v,g1,g2,g3⟩:=hE;subst g1;obtain⟨k1,k2⟩:=hold k 0 hk' (by simp) (.inl e);simp only[Nat.add_zero]at k1;exact⟨ct,v,rfl,k1.trans g2,CellRep.moved _ k2 g3⟩
theorem ql2:∀(p:Path){q:Path}{m:Bool}{cs:List CT}{l:List T}{x:Bool×List CT×List T},navR (p++q) m cs l=some x->∃m' cs' l',navR p m cs l=some (m',cs',l')/\navR q m' cs' l'=some x
|[],q,m,cs,l,x,h=>⟨m,cs,l,rfl,h⟩
|(i,j)::p,q,m,cs,l,x,h=>by
 simp only[List.cons_append,navR]at h|-;split at h;· exact ql2 p h
 · cases h
theorem NavH.split{w:World}{M:Mem}:∀(p:Path){π q:Path}{m:Bool}{cs:List CT}{l:List T}{m':Bool}{cs':List CT}{l':List T}{hv hv':Value},NavH w M π (p++q) cs hv hv'->navR p m cs l=some (m',cs',l')->∃h1,NavH w M π p cs hv h1/\NavH w M (π++p) q cs' h1 hv'
|[],π,q,m,cs,l,m',cs',l',hv,hv',H,hn=>by simp only[navR,Option.some.injEq,Prod.mk.injEq]at hn;obtain⟨rfl,rfl,rfl⟩:=hn;exact⟨hv,rfl,by simpa using H⟩
|(i,j)::p,π,q,m,cs,l,m',cs',l',hv,hv',H,hn=>by obtain⟨b,off,n,cap,c,ty,fz,v,m₁,cs₁,h1,h2,h3,h4,h5,h6,h7⟩:=H;simp only[navR,h6]at hn;obtain⟨g,g1,g2⟩:=NavH.split p h7 hn;exact⟨g,⟨b,off,n,cap,c,ty,fz,v,m₁,cs₁,h1,h2,h3,h4,h5,h6,g1⟩,by simpa using g2⟩
theorem PathOk.split:∀(p:Path){q:Path}{m:Bool}{cs:List CT}{l:List T}{m':Bool}{cs':List CT}{l':List T},PathOk (p++q) m cs l->navR p m cs l=some (m',cs',l')->PathOk p m cs l/\PathOk q m' cs' l'
|[],q,m,cs,l,m',cs',l',H,hn=>by simp only[navR,Option.some.injEq,Prod.mk.injEq]at hn;obtain⟨rfl,rfl,rfl⟩:=hn;exact⟨trivial,H⟩
|(i,j)::p,q,m,cs,l,m',cs',l',H,hn=>by obtain⟨hi,m1,cs1,l1,g1,g2,g3⟩:=H;simp only[navR,g1,g2,asL]at hn;obtain⟨k1,k2⟩:=PathOk.split p g3 hn;exact⟨⟨hi,m1,cs1,l1,g1,g2,k1⟩,k2⟩
theorem qhg{r k:Nat}{p:Path}{r':Nat}{q:Path}(h:r'≠r):killF r p k (.blk r' q)=.blk r' q:=by simp[killF,h]
theorem qdn{r k:Nat}{p:Path}{x:Lab}{r':Nat}{q:Path}(h:killF r p k x=.blk r' q):x=.blk r' q:=by
 cases x with
 |tmp k' s=>simp[killF]at h
 |blk r1 q1=>
  unfold killF at h;simp only at h;split at h
  ·split at h;· cases h
   · exact h
  · exact h
theorem qmn{r k:Nat}{p:Path}{b:Nat}{s:Path}(hb:G.own b=some (.blk r (p++s))):(G.rel (killF r p k)).own b=some (.tmp k s):=by simp[Gh.rel,hb,killF,qho]
theorem qsp{r k:Nat}{p:Path}{b:Nat}{q:Path}(hb:G.own b=some (.blk r q))(hq:¬∃s,q=p++s):(G.rel (killF r p k)).own b=some (.blk r q):=by
 have:strip p q=none:=by
  cases e:strip p q with
  |none=>rfl
  |some s=>exact absurd ⟨s,qev.1 e⟩ hq
 simp[Gh.rel,hb,killF,this]
theorem qny{r:Nat}{m:Bool}{cs:List CT}{l:List T}{v:Nat}{e:Bool}(hr:h r=.row m cs l v e):killR h r []=upd h r .dead:=by simp[killR,hr]
theorem qxr(I:Inv w0 S0 w G h){r:Nat}{p:Path}{m0:Bool}{cs0:List CT}{l0:List T}{v0:Nat}{e:Bool}{m:Bool}{cs:List CT}{l:List T}{hv:Value}{k:Nat}(hk:∀b p,G.own b≠some (.tmp k p))(hr:h r=.row m0 cs0 l0 v0 e)(hal:G.al r)(hN:NavH w (G.own.m r) [] p cs0 (G.φ r) hv)(hP:PathOk p m0 cs0 l0)(hn:navR p m0 cs0 l0=some (m,cs,l))(H:RowRep w (G.own.m r) p m cs hv l):Inv w0 S0 w (G.rel (killF r p k)) (killR h r p)/\Keep w w G (G.rel (killF r p k)) h (killR h r p)/\RowRep w ((G.rel (killF r p k)).own.t k) [] m cs hv l/\∀k' b p',k'≠k->G.own b=some (.tmp k' p')->(G.rel (killF r p k)).own b=some (.tmp k' p'):=by
 have hrow:RowRep w ((G.rel (killF r p k)).own.t k) [] m cs hv l:=RowRep.moved (M:=G.own.m r) (M':=(G.rel (killF r p k)).own.t k) (π:=p) (π':=[]) ⟨λhf=>False.elim hf,λb ρ hb=>⟨qmn hb,rfl⟩⟩ H;have htmp:∀k' b p',k'≠k->G.own b=some (.tmp k' p')->(G.rel (killF r p k)).own b=some (.tmp k' p'):=λk' b p' _ hb=>by simp[Gh.rel,hb,killF]
 have hdead:∀b q,p=[]->(G.rel (killF r p k)).own b≠some (.blk r q):=by intro b q hp hb;subst hp;simp only[Gh.rel,Option.map_eq_some_iff]at hb;obtain⟨y,hy,hy'⟩:=hb;have:=qdn hy';subst this;simp[killF,strip]at hy'
 rcases List.eq_nil_or_concat p with hp|⟨p0,ij,hp⟩
 · subst hp;rw[qny hr];have S:Step w w G (G.rel (killF r [] k)) h (upd h r .dead) (λx=>x=r):=qdw I _ _ (λr' q hr'=>qhg hr') (λx r' q _ hx=>qdn hx) (λr' hr'=>upd_ne _ _ hr') (λr' hr' _=>by subst hr';rw[upd_same];cases h r'<;>trivial);refine⟨S.inv I λr' hr'=>?_,S.keep I,hrow,htmp⟩;subst hr';rw[upd_same];exactλb q=>hdead b q rfl
 ·obtain⟨i,j⟩:=ij;rw[List.concat_eq_append]at hp;subst hp;obtain⟨m',cs',l',hn1,hn2⟩:=ql2 p0 hn;obtain⟨h1,hN1,hN2⟩:=NavH.split p0 hN hn1;obtain⟨hP1,hP2⟩:=PathOk.split p0 hP hn1;obtain⟨b,off,n,cap,c,ty,fz,vv,m1,cs1,rfl,e2,e3,e4,e5,e6,e7⟩:=hN2;obtain⟨hi,m2,cs2,l2,f1,f2,_⟩:=hP2;have R:=I.rep r;rw[hr]at R;have hrow0:=RowRep.nav p0 R.2.1 hN1 hP1 hn1;have hkr:killR h r (p0++[(i,j)])=upd h r (.row m0 cs0 (updR p0 m0 cs0 l0 λq=>q.set i (els m' (q.getD i .u) j .u)) (v0+1) true):=by simp[killR,hr,hn1]
  rw[hkr];have S:Step w w G (G.rel (killF r (p0++[(i,j)]) k)) h (upd h r (.row m0 cs0 (updR p0 m0 cs0 l0 λq=>q.set i (els m' (q.getD i .u) j .u)) (v0+1) true)) (λx=>x=r):=qdw I _ _ (λr' q hr'=>qhg hr') (λx r' q _ hx=>qdn hx) (λr' hr'=>upd_ne _ _ hr') (λr' hr' _=>by subst hr';rw[upd_same,hr];exact⟨rfl,rfl,rfl,.inr (Nat.lt_succ_self _)⟩);refine⟨S.inv I λr' hr'=>?_,S.keep I,hrow,htmp⟩;subst hr';rw[upd_same];refine⟨hal,?_,λhf=>by cases hf⟩;have hM:∀(b:Nat)(ρ:Path),G.own.m r' b ρ->(¬∃s,ρ=(p0++[(i,j)])++s)->(G.rel (killF r' (p0++[(i,j)]) k)).own.m r' b ρ:=λb ρ hb hq=>qsp hb hq;refine RowRep.replace (M:=G.own.m r') (M':=(G.rel (killF r' (p0++[(i,j)]) k)).own.m r') p0 R.2.1 hN1 hP1 hn1 ?_ (λhf=>False.elim hf) (λb ρ hb hs=>⟨hM b _ hb (by rintro⟨s,hs'⟩;exact hs ⟨[(i,j)]++s,by simpa using hs'⟩),rfl⟩);rcases hrow0 with⟨hnil,rfl⟩|⟨b',off',cap',c',ty',fz',g1,g2,g3,g4,g5,g6⟩
  · simp at hi
  ·cases g1;rw[e3]at g3;cases g3;have hE:=(qa5 l' 0).1 g6 i hi;simp only[Nat.zero_add]at hE;obtain⟨u,hu,hu'⟩:=ElemRep.cell hE f1;have hjlt:j<cs'.length:=(List.getElem?_eq_some_iff.1 f1).1;have:=RowRep.setEl (w:=w) (w':=w) (M:=G.own.m r') (M':=(G.rel (killF r' (p0++[(i,j)]) k)).own.m r') (π:=[]++p0) (c:=c) (c':=c) (i:=i) (j:=j) (ts:=[T.u]) g6 (hM b _ (by simpa using g2) (by rintro⟨s,hs⟩;simp at hs)) e3 g4 g5 hi (show j+1<=_ from hjlt) (λi' j' _ _ hne=>⟨rfl,λhf=>False.elim hf,λb2 ρ hb2=>⟨hM b2 _ hb2 (by
    rintro⟨s,hs⟩;simp at hs;simp at hne;omega),rfl⟩⟩) (λk0 hk0=>by
    have:k0=0:=by simpa using hk0
    subst this;exact⟨_,u,by simpa using f1,by simpa using hu,rfl,hu'.one⟩)
   exact this
end
def qd4(k o:Nat):Lab->Lab
|.tmp k' ((i,j)::s)=>if k'=k then .tmp k' ((i-o,j)::s)else .tmp k' ((i,j)::s)
|x=>x
theorem qmq{c:CT}(hc:c.isSl=false)(x:T):okC c x=true:=by cases c<;>simp[CT.isSl]at hc<;>cases x<;>rfl
theorem qo4:∀{cs:List CT}{xs:List T},qao cs=false->xs.length=cs.length->okCs cs xs=true
|[],[],_,_=>rfl
|c::cs,x::xs,hn,hl=>by simp only[qao,List.any_cons,Bool.or_eq_false_iff]at hn;simp only[okCs,Bool.and_eq_true];exact⟨qmq hn.1 x,qo4 hn.2 (by simpa using hl)⟩
|[],_::_,_,hl=>by simp at hl
|_::_,[],_,hl=>by simp at hl
theorem ElemRep.flat{w:World}{M:Mem}{π:Path}{m:Bool}{cs:List CT}{c:Array Value}{o i:Nat}{x:T}(H:ElemRep w M π m cs c o i x)(hn:qao cs=false):okE m cs x=true:=by
 cases m with
 |true=>
  cases x with
  |st xs=>exact qo4 hn H.1
  |_=>exact H.elim
 |false=>obtain⟨ct,v,rfl,_⟩:=H;simp only[qao,List.any_cons,List.any_nil,Bool.or_false]at hn;exact qmq hn x
theorem SlRep.flat{w:World}{M:Mem}{π:Path}{i0:Nat}{m:Bool}{cs:List CT}{v:Value}{l:List T}(H:SlRep w M π i0 m cs v l)(hn:qao cs=false):okL m cs l=true:=by
 rcases H with⟨rfl,_⟩|⟨b,off,cap,c,ty,fz,_,_,_,_,_,h⟩
 · rfl
 · rw[qbr,List.all_eq_true];intro x hx;obtain⟨k,hk,rfl⟩:=List.mem_iff_getElem.1 hx;exact(h k hk).flat hn
section
variable{w0 w:World}{S0:Nat->Prop}{G:Gh}{h h':Hp}
theorem qfp(I:Inv w0 S0 w G h){r:Nat}{p:Path}{ver:Nat}{sub:Sub}{v:Value}{m:Bool}{cs:List CT}{l:List T}(H:AVRep w G h v (.rf r p ver sub))(hr:rowAt h r p ver=some (m,cs,l))(hc:hchk h (.rf r p ver sub) m cs (subL l sub)=true):okL m cs (subL l sub)=true:=by
 obtain⟨m0,cs0,l0,v0,e,hv,g0,_,_,_,_,g5,g6,g7⟩:=qdc I H hr;unfold hchk at hc;cases hn:qao cs with
 |false=>exact(SlRep.part g7 g6).flat hn
 |true=>
  cases e with
  |true=>simpa[hn,holed,g0]using hc
  |false=>
   have R:=I.rep r;rw[g0]at R;have hl:=qmd p (R.2.2 rfl) g5;cases sub with
   |none=>exact hl
   |some on=>exact qqx hl on.1 on.2
theorem qsd(I:Inv w0 S0 w G h)(k o:Nat):Inv w0 S0 w (G.rel (qd4 k o)) h/\Keep w w G (G.rel (qd4 k o)) h h:=by
 have S:Step w w G (G.rel (qd4 k o)) h h (λ_=>False):=qdw I _ _ (λ_ _ _=>rfl) (λx r p _ hx=>by
  cases x with
  |blk r1 q1=>exact hx
  |tmp k' s=>
   cases s with
   |nil=>cases hx
   |cons a s=>obtain⟨i,j⟩:=a;unfold qd4 at hx;simp only at hx;split at hx<;>cases hx) (λ_ _=>rfl) (λ_ hf=>hf.elim)
 exact⟨S.inv I λ_ hf=>hf.elim,S.keep I⟩
def TmpSame(G G':Gh)(k:Nat):Prop:=∀k' b p,k'≠k->(G.own b=some (.tmp k' p)↔G'.own b=some (.tmp k' p))
theorem TmpSame.trans{G G' G'':Gh}{k:Nat}(H:TmpSame G G' k)(H':TmpSame G' G'' k):TmpSame G G'' k:=λk' b p hk=>(H k' b p hk).trans (H' k' b p hk)
theorem qmm(G:Gh)(r:Nat)(p:Path)(k:Nat):TmpSame G (G.rel (killF r p k)) k:=by
 intro k' b p' hk;constructor;· intro hb;simp[Gh.rel,hb,killF]
 ·intro hb;simp only[Gh.rel,Option.map_eq_some_iff]at hb;obtain⟨y,hy,hy'⟩:=hb;cases y with
  |tmp k1 s=>have hy':Lab.tmp k1 s=.tmp k' p':=hy';rw[hy,hy']
  |blk r1 q1=>
   unfold killF at hy';simp only at hy';split at hy'
   ·split at hy';· cases hy';exact absurd rfl hk
    · cases hy'
   · cases hy'
theorem qtu(G:Gh)(k o:Nat):TmpSame G (G.rel (qd4 k o)) k:=by
 intro k' b p' hk;constructor
 ·intro hb;cases p' with
  |nil=>simp[Gh.rel,hb,qd4]
  |cons a s=>obtain⟨i,j⟩:=a;simp[Gh.rel,hb,qd4,hk]
 ·intro hb;simp only[Gh.rel,Option.map_eq_some_iff]at hb;obtain⟨y,hy,hy'⟩:=hb;cases y with
  |blk r1 q1=>exact Lab.noConfusion hy'
  |tmp k1 s=>
   cases s with
   |nil=>have hy':Lab.tmp k1 []=.tmp k' p':=hy';rw[hy,hy']
   |cons a s=>
    obtain⟨i,j⟩:=a;unfold qd4 at hy';simp only at hy';split at hy';· rename_i hk1;subst hk1;cases hy';exact absurd rfl hk
    · rw[hy,hy']
theorem qi6(I:Inv w0 S0 w G h){r:Nat}{p:Path}{ver:Nat}{sub:Sub}{v:Value}{m:Bool}{cs:List CT}{l:List T}{k:Nat}(hk:∀b p,G.own b≠some (.tmp k p))(H:AVRep w G h v (.rf r p ver sub))(hr:rowAt h r p ver=some (m,cs,l)):∃G',Inv w0 S0 w G' (killR h r p)/\Keep w w G G' h (killR h r p)/\RowRep w (G'.own.t k) [] m cs v (subL l sub)/\TmpSame G G' k/\G'.al=G.al:=by
 obtain⟨m0,cs0,l0,v0,e,hv,g0,g1,g2,g3,g4,g5,g6,g7⟩:=qdc I H hr;obtain⟨I1,K1,R1,_⟩:=qxr I hk g0 H.2.1 g3 g4 g5 g7;cases sub with
 |none=>have g6:v=hv:=g6;subst g6;exact⟨_,I1,K1,R1,qmm _ _ _ _,rfl⟩
 |some on=>
  obtain⟨o,n⟩:=on;obtain⟨I2,K2⟩:=qsd I1 k o;refine⟨_,I2,K1.trans K2,?_,(qmm _ _ _ _).trans (qtu _ _ _),rfl⟩;have hmv:∀(b:Nat)(ρ:Path),(G.rel (killF r p k)).own.t k b ρ->∀{i j:Nat}{s:Path},ρ=(o+i,j)::s->((G.rel (killF r p k)).rel (qd4 k o)).own.t k b ((i,j)::s):=by intro b ρ hb i j s hρ;subst hρ;have hb:(G.rel (killF r p k)).own b=some (.tmp k ((o+i,j)::s)):=hb;show((G.rel (killF r p k)).rel (qd4 k o)).own b=some (.tmp k ((i,j)::s));unfold Gh.rel at hb|-;simp only at hb|-;rw[hb];simp[qd4]
  have hmv0:∀(b:Nat),(G.rel (killF r p k)).own.t k b []->((G.rel (killF r p k)).rel (qd4 k o)).own.t k b []:=by intro b hb;have hb:(G.rel (killF r p k)).own b=some (.tmp k []):=hb;show((G.rel (killF r p k)).rel (qd4 k o)).own b=some (.tmp k []);unfold Gh.rel at hb|-;simp only at hb|-;rw[hb];rfl
  rcases g6 with⟨rfl,rfl,rfl,rfl⟩|⟨b,off,len,cap,off',cap',rfl,k1,k2,rfl,k4⟩
  · left;exact⟨.inl rfl,by simp[subL]⟩
  ·rcases R1 with⟨hn,rfl⟩|⟨b1,off1,cap1,c,ty,fz,e1,e2,e3,e4,e5,e6⟩
   ·rcases hn with hn|⟨hf,_⟩
    · cases hn
    · exact False.elim hf
   ·cases e1;have hlen:(subL l (some (o,n))).length=n:=by simp[subL];omega
    right;refine⟨b,off',cap',c,ty,fz,by rw[hlen],hmv0 b e2,e3,?_,?_,?_⟩;· rw[hlen];rcases k4 with⟨_,k4⟩|⟨_,k4,_⟩<;>omega
    ·rcases k4 with⟨rfl,k4⟩|⟨rfl,_,k4⟩
     ·have:off+o*cs.length+cap'*cs.length=off+cap*cs.length:=by rw[<-k4,Nat.add_mul];omega
      omega
     · have:o*cs.length<=cap*cs.length:=Nat.mul_le_mul_right _ k2;omega
    ·rw[qa5];intro q hq;rw[hlen]at hq;have ho:off'=off+o*cs.length:=by rcases k4 with⟨k4,_⟩|⟨_,k4,_⟩<;>omega
     have hE:=(qa5 l 0).1 e6 (o+q) (by omega);simp only[Nat.zero_add]at hE|-;have e:(subL l (some (o,n)))[q]'(by omega)=l[o+q]'(by omega):=by simp[subL,List.getElem_take,List.getElem_drop]
     rw[e];refine ElemRep.move (M:=(G.rel (killF r p k)).own.t k) (M':=((G.rel (killF r p k)).rel (qd4 k o)).own.t k) (π:=[]) (π':=[]) (i:=o+q) (i':=q) (λj=>⟨λhf=>False.elim hf,λb ρ hb=>⟨hmv b _ hb rfl,rfl⟩⟩) (λj _=>?_) hE;rw[ho,show off+o*cs.length+q*cs.length=off+(o+q)*cs.length by rw[Nat.add_mul];omega]
theorem qfv{c:CT}{v:AV}{t:T}{u:Value}(hs:scal c v=some t)(hu:AVRep w G h u v)(M:Mem)(π:Path):CellRep w M π c u t/\okC c t=true:=by
 unfold scal at hs;split at hs;· cases hs;have hu:u=_:=hu;subst hu;exact⟨⟨rfl,rfl⟩,rfl⟩
 ·split at hs;· rename_i hk;subst hk;cases hs;have hu:u=_:=hu;subst hu;exact⟨⟨rfl,rfl⟩,rfl⟩
  · cases hs
 · cases hs;have hu:u=_:=hu;subst hu;exact⟨⟨rfl,rfl⟩,rfl⟩
 · cases hs
theorem qer{r:Nat}{p:Path}{ver:Nat}{sub:Sub}{x:Bool×List CT×List T}(h1:cont h (.rf r p ver sub)=some x):∃m cs l,rowAt h r p ver=some (m,cs,l)/\x=(m,cs,subL l sub):=by
 simp only[cont]at h1;split at h1;· rename_i m cs l hr;cases h1;exact⟨m,cs,l,hr,rfl⟩
 · cases h1
theorem qqh(I:Inv w0 S0 w G h){k:Nat}(hk:∀b p,G.own b≠some (.tmp k p)){c:CT}{v:AV}{u:Value}(hu:AVRep w G h u v){t:T}{b:Bool}(hs:sink h c v=some (t,h',b))(hb:b=true):∃G',Inv w0 S0 w G' h'/\Keep w w G G' h h'/\CellRep w (G'.own.t k) [] c u t/\okC c t=true/\TmpSame G G' k/\G'.al=G.al:=by
 have flat:∀{t':T},scal c v=some t'->(some (t',h,true):Option (T×(Nat->Blk)×Bool))=some (t,h',b)->∃G',Inv w0 S0 w G' h'/\Keep w w G G' h h'/\CellRep w (G'.own.t k) [] c u t/\okC c t=true/\TmpSame G G' k/\G'.al=G.al:=by intro t' h1 h2;cases h2;obtain⟨h3,h4⟩:=qfv h1 hu (G.own.t k) [];exact⟨G,I,Keep.refl _ _ _,h3,h4,λ_ _ _ _=>Iff.rfl,rfl⟩
 cases c with
 |sl m cs=>
  simp only[sink]at hs;cases v with
  |nl m' cs'=>cases hs;have hu:u=_:=hu;subst hu;exact⟨G,I,Keep.refl _ _ _,qa6.2 (.inl ⟨.inl rfl,rfl⟩),rfl,λ_ _ _ _=>Iff.rfl,rfl⟩
  |rf r p ver sub=>
   simp only at hs;cases hc:cont h (.rf r p ver sub)with
   |none=>rw[hc]at hs;cases hs
   |some x=>
    obtain⟨m',cs',l,hr,rfl⟩:=qer hc;rw[hc]at hs;simp only at hs;cases hq:CT.beq (.sl m cs) (.sl m' cs')with
    |false=>rw[hq]at hs;cases hs
    |true=>rw[hq,cond_true]at hs;cases CT.beq_eq hq;cases hs;obtain⟨G',I',K',R',T',A'⟩:=qi6 I hk hu hr;exact⟨G',I',K',qa6.2 R',by simpa[okC]using qfp I hu hr hb,T',A'⟩
  |_=>cases hs
 |b=>simp only[sink]at hs;cases h1:scal .b v with
  |none=>rw[h1]at hs;cases hs
  |some t'=>rw[h1]at hs;exact flat h1 hs
 |i kk=>simp only[sink]at hs;cases h1:scal (.i kk) v with
  |none=>rw[h1]at hs;cases hs
  |some t'=>rw[h1]at hs;exact flat h1 hs
 |s=>simp only[sink]at hs;cases h1:scal .s v with
  |none=>rw[h1]at hs;cases hs
  |some t'=>rw[h1]at hs;exact flat h1 hs
 |o=>simp only[sink]at hs;cases h1:scal .o v with
  |none=>rw[h1]at hs;cases hs
  |some t'=>rw[h1]at hs;exact flat h1 hs
end
section
variable{w0 w:World}{S0:Nat->Prop}{G:Gh}{h h':Hp}
def Sunk(w:World)(G:Gh):Nat->List CT->List Value->List T->Prop
|_,[],[],[]=>True
|K,c::cs,u::us,t::ts=>CellRep w (G.own.t K) [] c u t/\okC c t=true/\Sunk w G (K+1) cs us ts
|_,_,_,_=>False
theorem qir:∀{cs:List CT}{vs:List AV}{us:List Value}{ts:List T}{h h':Hp}{b:Bool}{G:Gh}{K:Nat},Inv w0 S0 w G h->(∀k,K<=k->∀b p,G.own b≠some (.tmp k p))->AVReps w G h us vs->sinks h cs vs=some (ts,h',b)->b=true->∃G',Inv w0 S0 w G' h'/\Keep w w G G' h h'/\Sunk w G' K cs us ts/\(∀k b p,k<K->(G.own b=some (.tmp k p)↔G'.own b=some (.tmp k p)))/\(∀k b p,K+cs.length<=k->G'.own b≠some (.tmp k p))/\G'.al=G.al
|[],[],us,ts,h,h',b,G,K,I,hK,H,hs,_=>by
 cases hs;cases us with
 |nil=>exact⟨G,I,Keep.refl _ _ _,trivial,λ_ _ _ _=>Iff.rfl,λk b p hk=>hK k (by simpa using hk) b p,rfl⟩
 |cons _ _=>exact H.elim
|c::cs,v::vs,us,ts,h,h',b,G,K,I,hK,H,hs,hb=>by
 cases us with
 |nil=>exact H.elim
 |cons u us=>
  unfold sinks at hs;split at hs
  ·rename_i t h1 b1 hs1;split at hs;· rename_i ts1 h2 b2 hs2;cases hs;simp only[Bool.and_eq_true]at hb;obtain⟨G1,I1,K1,R1,O1,T1,A1⟩:=qqh I (hK K (Nat.le_refl _)) H.1 hs1 hb.1;have hK1:∀k,K+1<=k->∀b p,G1.own b≠some (.tmp k p):=λk hk b p hh=>hK k (by omega) b p ((T1 k b p (by omega)).2 hh);obtain⟨G2,I2,K2,R2,T2,F2,A2⟩:=qir I1 hK1 (K1.avs vs H.2) hs2 hb.2;refine⟨G2,I2,K1.trans K2,⟨?_,O1,R2⟩,λk b p hk=>(T1 k b p (by omega)).trans (T2 k b p (by omega)),λk b p hk=>F2 k b p (by simp only[List.length_cons]at hk;omega),A2.trans A1⟩;exact CellRep.moved (M:=G1.own.t K) (M':=G2.own.t K) t ⟨λhf=>False.elim hf,λb ρ hb=>⟨(T2 K b _ (by omega)).1 hb,rfl⟩⟩ R1
   · cases hs
  · cases hs
|[],_::_,_,_,_,_,_,_,_,_,_,_,hs,_=>by simp[sinks]at hs
|_::_,[],_,_,_,_,_,_,_,_,_,_,hs,_=>by simp[sinks]at hs
theorem Sunk.length:∀{K:Nat}{cs:List CT}{us:List Value}{ts:List T},Sunk w G K cs us ts->us.length=cs.length/\ts.length=cs.length
|_,[],[],[],_=>⟨rfl,rfl⟩
|K,c::cs,u::us,t::ts,H=>by obtain⟨h1,h2⟩:=Sunk.length H.2.2;simp[h1,h2]
|_,[],_::_,_,H=>H.elim
|_,[],[],_::_,H=>H.elim
|_,_::_,[],_,H=>H.elim
|_,_::_,_::_,[],H=>H.elim
theorem Sunk.get:∀{K:Nat}{cs:List CT}{us:List Value}{ts:List T},Sunk w G K cs us ts->∀{j:Nat}{c:CT},cs[j]? =some c->∃u t,us[j]? =some u/\ts[j]? =some t/\CellRep w (G.own.t (K+j)) [] c u t/\okC c t=true
|_,[],[],[],_,j,c,hc=>by simp at hc
|K,c::cs,u::us,t::ts,H,0,d,hd=>by simp at hd;subst hd;exact⟨u,t,rfl,rfl,H.1,H.2.1⟩
|K,c::cs,u::us,t::ts,H,j+1,d,hd=>by obtain⟨u',t',g1,g2,g3,g4⟩:=Sunk.get H.2.2 (j:=j) (by simpa using hd);refine⟨u',t',by simpa using g1,by simpa using g2,?_,g4⟩;rw[show K+(j+1)=K+1+j by omega];exact g3
|_,[],_::_,_,H,_,_,_=>H.elim
|_,[],[],_::_,H,_,_,_=>H.elim
|_,_::_,[],_,H,_,_,_=>H.elim
|_,_::_,_::_,[],H,_,_,_=>H.elim
def qbh(K n r:Nat)(π:Path)(i j:Nat):Lab->Lab
|.tmp k s=>if K<=k/\k<K+n then .blk r (π++(i,j+(k-K))::s)else .tmp k s
|x=>x
theorem qtf{K n r:Nat}{π:Path}{i j k:Nat}{b:Nat}{s:Path}(hb:G.own b=some (.tmp (K+k) s))(hk:k<n):(G.rel (qbh K n r π i j)).own b=some (.blk r (π++(i,j+k)::s)):=by simp only[Gh.rel,hb,Option.map_some,qbh];rw[if_pos (by omega)];congr 5;omega
theorem qc1{K n r:Nat}{π:Path}{i j:Nat}{b r':Nat}{q:Path}(hb:G.own b=some (.blk r' q)):(G.rel (qbh K n r π i j)).own b=some (.blk r' q):=by simp[Gh.rel,hb,qbh]
theorem qq3(I:Inv w0 S0 w G h)(K n r:Nat)(π:Path)(i j:Nat):Inv w0 S0 w (G.rel (qbh K n r π i j)) h/\Keep w w G (G.rel (qbh K n r π i j)) h h\/¬(G.al r/\h r≠.dead):=by
 by_cases hr:G.al r/\h r≠.dead
 ·left;have S:Step w w G (G.rel (qbh K n r π i j)) h h (λx=>x=r):=qdw I _ _ (λ_ _ _=>rfl) (λx r' p hr' hx=>by
   cases x with
   |blk r1 q1=>exact hx
   |tmp k' s=>
    unfold qbh at hx;simp only at hx;split at hx;· cases hx;exact absurd rfl hr'
    · cases hx) (λ_ _=>rfl) (λr' hr' _=>by
    subst hr';cases e:h r' with
    |dead=>trivial
    |box _=>exact rfl
    |row m cs l v z=>exact⟨rfl,rfl,rfl,.inl ⟨rfl,rfl,λb p hb=>⟨qc1 hb,rfl⟩⟩⟩)
  have K':=S.keep I;refine⟨S.inv I λr' hr'=>?_,K'⟩;subst hr';have R:=I.rep r';cases e:h r' with
  |dead=>exact absurd e hr.2
  |box cs=>rw[e]at R;obtain⟨ha,b,c,ty,fz,g1,g2,g3,g4,g5⟩:=R;exact⟨ha,b,c,ty,fz,g1,qc1 g2,g3,K'.avs cs g4,g5⟩
  |row m cs l v z=>rw[e]at R;obtain⟨ha,g1,g2⟩:=R;exact⟨ha,RowRep.moved (M:=G.own.m r') (M':=(G.rel (qbh K n r' π i j)).own.m r') ⟨λhf=>False.elim hf,λb ρ hb=>⟨qc1 hb,rfl⟩⟩ g1,g2⟩
 · exact .inr hr
end
section
variable{P:Program}{E:Env}{w0 w:World}{S0:Nat->Prop}{G:Gh}{h:Hp}{n:Nat}
theorem qub{m:Bool}{cs:List CT}{l:List T}(h:okL m cs l=true){i:Nat}{x:T}(hx:okE m cs x=true):okL m cs (l.set i x)=true:=by
 rw[qbr,List.all_eq_true]at*;intro y hy;rcases List.mem_or_eq_of_mem_set hy with h1|h1
 · exact h y h1
 · exact h1▸hx
theorem qmf:∀{cs:List CT}{xs:List T},xs.length=cs.length->(∀(j:Nat)(c:CT)(x:T),cs[j]? =some c->xs[j]? =some x->okC c x=true)->okCs cs xs=true
|[],[],_,_=>rfl
|c::cs,x::xs,hl,H=>by simp only[okCs,Bool.and_eq_true];exact⟨H 0 c x rfl rfl,qmf (by simpa using hl) λj d y hd hy=>H (j+1) d y (by simpa using hd) (by simpa using hy)⟩
|[],_::_,hl,_=>by simp at hl
|_::_,[],hl,_=>by simp at hl
theorem okE_set{w:World}{M:Mem}{π:Path}{m:Bool}{cs:List CT}{c:Array Value}{o i j:Nat}{x:T}{ts:List T}(H:ElemRep w M π m cs c o i x)(hx:okE m cs x=true)(hj:j+ts.length<=cs.length)(ht:∀(k:Nat)(d:CT)(t:T),cs[j+k]? =some d->ts[k]? =some t->okC d t=true):okE m cs (qdj m x j ts)=true:=by
 cases m with
 |true=>
  cases x with
  |st xs=>
   rw[qfu];refine qmf (by rw[qcn];exact H.1) λq d y hd hy=>?_;have hxs:okCs cs xs=true:=hx;have hl:xs.length=cs.length:=H.1;by_cases hq:q<j\/j+ts.length<=q;· rw[qm2 _ _ _ _ hq]at hy;obtain⟨y',h1,h2⟩:=qia hxs hd;rw[hy]at h1;cases h1;exact h2
   · have:=qm3 ts xs j (q-j) (by omega) (by omega);rw[show j+(q-j)=q by omega,hy]at this;refine ht (q-j) d y (by rw[show j+(q-j)=q by omega];exact hd) ?_;rw[List.getElem?_eq_getElem (by omega)];exact this.symm
  |_=>exact H.elim
 |false=>
  obtain⟨ct,v,rfl,_⟩:=H;cases ts with
  |nil=>exact hx
  |cons t ts=>
   have:ts=[]/\j=0:=by simp at hj;exact⟨List.length_eq_zero_iff.1 (by omega),by omega⟩
   obtain⟨rfl,rfl⟩:=this;have:=ht 0 ct t rfl rfl;simpa[qdj,els,okE]using this
theorem qg1{f:List T->List T}:∀(p:Path){m:Bool}{cs:List CT}{l:List T}{m':Bool}{cs':List CT}{l':List T},okL m cs l=true->PathOk p m cs l->navR p m cs l=some (m',cs',l')->okL m' cs' (f l')=true->okL m cs (updR p m cs l f)=true
|[],m,cs,l,m',cs',l',h,_,hn,hf=>by simp only[navR,Option.some.injEq,Prod.mk.injEq]at hn;obtain⟨rfl,rfl,rfl⟩:=hn;exact hf
|(i,j)::p,m,cs,l,m',cs',l',h,hp,hn,hf=>by
 obtain⟨hi,m1,cs1,l1,g1,g2,g3⟩:=hp;simp only[navR,g1,g2,asL]at hn;simp only[updR,g1,g2,asL];refine qub h ?_;have hE:=qfl h hi;rw[qak hi]at g2|-;have hE':=qme hE g1;rw[g2]at hE';have hin:=qg1 p (by simpa[okC]using hE') g3 hn hf;cases m with
 |true=>
  cases hx:l[i]with
  |st xs=>
   rw[hx]at hE;have hE:okCs cs xs=true:=hE;simp only[els,T.setc];refine qmf ?_ λq d y hd hy=>?_
   ·rw[List.length_set];have key:∀{cs:List CT}{xs:List T},okCs cs xs=true->xs.length=cs.length:=by
     intro cs;induction cs with
     |nil=>intro xs h;cases xs<;>simp[okCs]at h|-
     |cons c cs ih=>intro xs h;cases xs<;>simp[okCs]at h|-;exact ih h.2
    exact key hE
   ·by_cases e:q=j;· subst e;rw[g1]at hd;cases hd;have hlt:=(List.getElem?_eq_some_iff.1 hy).1;rw[List.getElem?_set_self (by simpa using hlt)]at hy;cases hy;simpa[okC]using hin
    · rw[List.getElem?_set_ne (Ne.symm e)]at hy;obtain⟨y',k1,k2⟩:=qia hE hd;rw[hy]at k1;cases k1;exact k2
  |_=>rw[hx]at hE;simp[okE]at hE
 |false=>
  match cs,g1,hE with
  |[c],g1,hE=>
   have:j=0:=by have:=(List.getElem?_eq_some_iff.1 g1).1;simpa using this
   subst this;simp at g1;subst g1;simpa[els,okE,okC]using hin
end
theorem qnf:∀{h h':Hp}{cs:List CT}{vs:List AV}{ts:List T}{b:Bool},sinks h cs vs=some (ts,h',b)->vs.all isC=true
|_,_,[],[],_,_,_=>rfl
|h,h',c::cs,v::vs,ts,b,hs=>by
 unfold sinks at hs;split at hs
 ·rename_i t h1 b1 hs1;split at hs
  ·rename_i ts1 h2 b2 hs2;simp only[List.all_cons,Bool.and_eq_true];refine⟨?_,qnf hs2⟩;cases c with
   |sl m cs=>simp only[sink]at hs1;cases v<;>first|rfl|cases hs1
   |_=>simp only[sink]at hs1;cases v<;>first|rfl|(simp[scal]at hs1)
  · cases hs
 · cases hs
|_,_,[],_::_,_,_,hs=>by simp[sinks]at hs
|_,_,_::_,[],_,_,hs=>by simp[sinks]at hs
theorem qzf{i i' j j' n sz:Nat}(hj':j'<sz)(hj:j+n<=sz)(h:i'≠i\/j'<j\/j+n<=j'):i'*sz+j'<i*sz+j\/i*sz+j+n<=i'*sz+j':=by
 rcases Nat.lt_trichotomy i' i with h1|h1|h1
 · left;have:(i'+1)*sz<=i*sz:=Nat.mul_le_mul_right _ h1;rw[Nat.add_mul]at this;omega
 · subst h1;omega
 · right;have:(i+1)*sz<=i'*sz:=Nat.mul_le_mul_right _ h1;rw[Nat.add_mul]at this;omega
section
variable{P:Program}{E:Env}{w0 w:World}{S0:Nat->Prop}{G:Gh}{h h':Hp}{n:Nat}
theorem qzx(I:Inv w0 S0 w G h){r:Nat}{p:Path}{m0:Bool}{cs0:List CT}{l0:List T}{v0:Nat}{e:Bool}{m:Bool}{cs:List CT}{l:List T}{b off cap i j:Nat}{c:Array Value}{ty:TypeId}{fz:Nat×Nat}{tcs:List CT}{us:List Value}{ts:List T}{K:Nat}(hr:h r=.row m0 cs0 l0 v0 e)(hal:G.al r)(hN:NavH w (G.own.m r) [] p cs0 (G.φ r) (.slice (some ⟨b,off,none⟩) l.length cap))(hP:PathOk p m0 cs0 l0)(hn:navR p m0 cs0 l0=some (m,cs,l))(hi:i<l.length)(hM:G.own.m r b p)(hc:w.heap[b]? =some (.cells c ty fz))(hlc:l.length<=cap)(hcap:off+cap*cs.length<=c.size)(H:ElemsRep w (G.own.m r) p m cs c off 0 l)(hS:Sunk w G K tcs us ts)(htc:qam cs j tcs.length=tcs):∃G',Inv w0 S0 (putC w b (putA c (off+i*cs.length+j) us)) G' (upd h r (.row m0 cs0 (updR p m0 cs0 l0 λq=>q.set i (newEl m cs.length (q.getD i .u) j ts)) (v0+1) e))/\Keep w (putC w b (putA c (off+i*cs.length+j) us)) G G' h (upd h r (.row m0 cs0 (updR p m0 cs0 l0 λq=>q.set i (newEl m cs.length (q.getD i .u) j ts)) (v0+1) e))/\G'.al=G.al:=by
 obtain⟨hl1,hl2⟩:=hS.length;have hj:j+tcs.length<=cs.length\/tcs=[]:=by
  by_cases h0:tcs=[];· exact .inr h0
  ·left;have:(qam cs j tcs.length).length=tcs.length:=by rw[htc]
   unfold qam at this;simp only[List.length_take,List.length_drop]at this;have:0<tcs.length:=List.length_pos_iff.2 h0;omega
 obtain⟨I2,K2⟩:=(qq3 I K tcs.length r p i j).resolve_right (λhbad=>hbad ⟨hal,by rw[hr];simp⟩);have hM2:(G.rel (qbh K tcs.length r p i j)).own b=some (.blk r p):=qc1 hM;have S:=qfw (c':=putA c (off+i*cs.length+j) us) (B:=.row m0 cs0 (updR p m0 cs0 l0 λq=>q.set i (newEl m cs.length (q.getD i .u) j ts)) (v0+1) e) I2 hM2 hc (qbb _ _ _) (λ_=>by rw[hr];exact⟨rfl,rfl,rfl,.inr (Nat.lt_succ_self _)⟩);refine⟨_,S.inv I2 λr' hr'=>?_,K2.trans (S.keep I2),rfl⟩;subst hr';rw[upd_same];have R:=I.rep r';rw[hr]at R;have hE:=(qa5 l 0).1 H i hi;simp only[Nat.zero_add]at hE;have hfar:∀b2:Nat,b2≠b->(putC w b (putA c (off+i*cs.length+j) us)).heap[b2]? =w.heap[b2]? :=λb2 hb2=>qdy w _ hb2;have hnotb:∀(b2:Nat)(ρ:Path),G.own.m r' b2 ρ->ρ≠p->b2≠b:=by intro b2 ρ hb2 hne hh;subst hh;have h1:G.own b2=some (.blk r' ρ):=hb2;have h2:G.own b2=some (.blk r' p):=hM;rw[h1]at h2;cases h2;exact hne rfl
 have tocell:∀k(d:CT),tcs[k]? =some d->cs[j+k]? =some d:=by intro k d hd;have hk:k<tcs.length:=(List.getElem?_eq_some_iff.1 hd).1;rw[<-qci (l:=cs) (j:=j) hk,htc];exact hd
 have hRow:RowRep (putC w b (putA c (off+i*cs.length+j) us)) ((G.rel (qbh K tcs.length r' p i j)).own.m r') p m cs (.slice (some ⟨b,off,none⟩) l.length cap) (l.set i (qdj m (l.getD i .u) j ts)):=by
  have H2:ElemsRep w ((G.rel (qbh K tcs.length r' p i j)).own.m r') p m cs c off 0 l:=ElemsRep.moved (M:=G.own.m r') (M':=(G.rel (qbh K tcs.length r' p i j)).own.m r') l ⟨λhf=>False.elim hf,λb ρ hb=>⟨qc1 hb,rfl⟩⟩ H;have H1:ElemsRep w (G.own.m r') p m cs c off 0 l:=H;by_cases h0:tcs=[]
  ·subst h0;have:us=[]:=List.length_eq_zero_iff.1 hl1;subst this;have:ts=[]:=List.length_eq_zero_iff.1 hl2;subst this;have hset:l.set i (qdj m (l.getD i .u) j [])=l:=by rw[qak hi];simp[qdj]
   rw[hset];have hput:putC w b (putA c (off+i*cs.length+j) [])=w:=by
    simp only[putA];unfold putC;congr 1;apply Array.ext_getElem?;intro k;rw[Array.getElem?_modify];by_cases hk:b=k;· subst hk;simp[hc]
    · simp[hk]
   rw[hput];exact .inr ⟨b,off,cap,c,ty,fz,rfl,hM2,hc,hlc,hcap,H2⟩
  ·have hj:j+tcs.length<=cs.length:=hj.resolve_right h0;have hsize:off+i*cs.length+j+us.length<=c.size:=by have:(i+1)*cs.length<=cap*cs.length:=Nat.mul_le_mul_right _ (by omega);rw[Nat.add_mul]at this;omega
   refine RowRep.setEl (w:=w) (M:=G.own.m r') (c:=c) (c':=putA c (off+i*cs.length+j) us) H1 hM2 (qcr w hc) hlc (by rw[qbb];exact hcap) hi (by omega) (λi' j' hi' hj' hne=>⟨?_,λhf=>False.elim hf,λb2 ρ hb2=>⟨?_,?_⟩⟩) (λk hk=>?_);· have:=qzf (i:=i) (i':=i') (j:=j) (j':=j') (n:=ts.length) (sz:=cs.length) hj' (by omega) hne;exact qfk us c _ _ (by omega)
   · exact qc1 hb2
   · exact hfar b2 (hnotb b2 _ hb2 (λhh=>by simpa using congrArg List.length hh))
   ·obtain⟨u,t,g1,g2,g3,_⟩:=hS.get (List.getElem?_eq_getElem (show k<tcs.length by omega));have hu:us[k]? =some us[k]:=List.getElem?_eq_getElem (by omega);rw[hu]at g1;have ht:ts[k]? =some ts[k]:=List.getElem?_eq_getElem hk;rw[ht]at g2;cases g1;cases g2;refine⟨tcs[k],us[k],tocell k _ (List.getElem?_eq_getElem (by omega)),?_,?_⟩;· have:=qhb us c (off+i*cs.length+j) k (by omega) hsize;rw[<-Nat.add_assoc];exact this
    ·refine CellRep.moved (M:=G.own.t (K+k)) (M':=(G.rel (qbh K tcs.length r' p i j)).own.m r') _ ⟨λhf=>False.elim hf,λb2 ρ hb2=>⟨?_,?_⟩⟩ g3;· have hb2:G.own b2=some (.tmp (K+k) ρ):=hb2;have:=qtf (r:=r') (π:=p) (i:=i) (j:=j) hb2 (show k<tcs.length by omega);show(G.rel (qbh K tcs.length r' p i j)).own b2=some (.blk r' ((p++[(i,j+k)])++ρ));rw[this];simp
     · refine hfar b2 λhh=>?_;subst hh;have h1:G.own b2=some (.tmp (K+k) ρ):=hb2;have h2:G.own b2=some (.blk r' p):=hM;rw[h1]at h2;cases h2
 refine⟨hal,?_,λhe=>?_⟩;· refine RowRep.replace (w:=w) (M:=G.own.m r') (M':=(G.rel (qbh K tcs.length r' p i j)).own.m r') p R.2.1 hN hP hn ?_ (λhf=>False.elim hf) (λb2 ρ hb2 hs=>⟨qc1 hb2,hfar b2 (hnotb b2 _ hb2 (λhh=>hs ⟨[],by simpa using hh⟩))⟩);rw[qak hi,qqz hE,<-qak (d:=T.u) hi];simpa using hRow
 ·have hl:=qmd p (R.2.2 he) hn;refine qg1 p (R.2.2 he) hP hn (qub hl ?_);rw[qak hi,qqz hE];by_cases h0:tcs=[];· subst h0;have:ts=[]:=List.length_eq_zero_iff.1 hl2;subst this;exact qfl hl hi
  ·have hj:j+tcs.length<=cs.length:=hj.resolve_right h0;refine okE_set hE (qfl hl hi) (by omega) λk d t hd ht=>?_;have hk:k<tcs.length:=by have:=(List.getElem?_eq_some_iff.1 ht).1;omega
   have hd':=tocell k _ (List.getElem?_eq_getElem hk);rw[hd]at hd';cases hd';obtain⟨u,t',_,g2,_,g4⟩:=hS.get (List.getElem?_eq_getElem hk);rw[ht]at g2;cases g2;exact g4
theorem qnc(O:EnvOk P E)(I:Inv w0 S0 w G h){t:Nat}{ti:Ti}(ht:E.ty t=some ti){r:Nat}{p:Path}{ver i j:Nat}{a':Value}(ha:AVRep w G h a' (.rp r p ver i j)){x:AV}{v:Value}(hx:AVRep w G h v x){hb:Hp×Bool}(hs:qfb ti h (.rp r p ver i j) x=some hb)(hok:hb.2=true):Ran P w0 S0 w G h n (do Instr.storeAt t a' v;pure .skip) .un hb.1:=by
 simp only[qfb]at hs;cases h1:sinks h ti.cs (qai x)with
 |none=>rw[h1]at hs;cases hs
 |some y=>
  obtain⟨ts,h2,b⟩:=y;rw[h1]at hs;simp only at hs;obtain⟨hc1,hc2⟩:=qdt hx (qnf h1);cases hr:h2 r with
  |dead=>rw[hr]at hs;cases hs
  |box _=>rw[hr]at hs;cases hs
  |row m0 cs0 l0 v0 e=>
   rw[hr]at hs;simp only at hs;cases hra:rowAt h2 r p ver with
   |none=>rw[hra]at hs;cases hs
   |some q=>
    obtain⟨m,cs,l⟩:=q;rw[hra]at hs;simp only at hs;cases hty:qd2 (qam cs j ti.cs.length) ti.cs with
    |false=>rw[hty,cond_false]at hs;cases hs
    |true=>
     rw[hty,cond_true]at hs;cases hs;have htc:=qcm hty;obtain⟨K,hK⟩:=I.freshTmp;obtain⟨G1,I1,K1,S1,_,_,A1⟩:=qir I hK hc1 h1 hok;have ha1:=K1.av _ ha;obtain⟨m0',cs0',l0',v0',e',bb,off,cap,c,ty,fz,g0,g1,g2,g3,g4,g5,g6,rfl,g8,g9,g10,g11,g12,g13,g14⟩:=qm4 I1 ha1 hra;rw[hr]at g0;cases g0;obtain⟨G2,I2,K2,A2⟩:=qzx I1 (j:=j) hr g14 g3 g4 g5 g6 g8 g9 g10 g11 g12 S1 htc;obtain⟨c1,ty1,fz1,k1,k2⟩:=I1.cells bb _ g8;rw[g9]at k1;cases k1;obtain⟨hl1,hl2⟩:=S1.length;refine⟨undef,_,G2,.inr ⟨?_,rfl⟩,I2,K1.trans K2,rfl,λr hr=>.inl (by rw[A2,A1]at hr;exact hr)⟩;unfold Instr.storeAt;simp only[Sem.run_bind,Instr.sureAddr,Sem.run_pure,Result.andThen_ok];by_cases h0:ti.cs=[]
     ·have hnil:v.cells.toList=[]:=List.length_eq_zero_iff.1 (by rw[hl1,h0];rfl);obtain⟨inf,hi,hsz,_⟩:=O.size ht;unfold storeVar;simp only[Sem.run_bind,qdl hi,Result.andThen_ok];rw[if_neg (by
       rw[hsz,h0];have:v.cells.size=v.cells.toList.length:=by simp
       rw[this,hnil];simp)]
      rw[hnil];have hput:putC w bb (putA c (off+i*cs.length+j) [])=w:=by
       simp only[putA];unfold putC;congr 1;apply Array.ext_getElem?;intro k;rw[Array.getElem?_modify];by_cases hk:bb=k;· subst hk;simp[g9]
       · simp[hk]
      rw[hput];simp[storeCells]
     ·have hj:j+ti.cs.length<=cs.length:=by
       have:(qam cs j ti.cs.length).length=ti.cs.length:=by rw[htc]
       unfold qam at this;simp only[List.length_take,List.length_drop]at this;have:0<ti.cs.length:=List.length_pos_iff.2 h0;omega
      have hsize:off+i*cs.length+j+ti.cs.length<=c.size:=by have:(i+1)*cs.length<=cap*cs.length:=Nat.mul_le_mul_right _ (by omega);rw[Nat.add_mul]at this;omega
      rw[qhp O ht g9 k2 (by simpa using hl1) hsize hc2];rfl
end
def Gh.inst(G:Gh)(f:Lab->Lab)(r:Nat)(v:Value):Gh:={G with φ:=upd G.φ r v,own:=λb=>(G.own b).map f,al:=λx=>G.al x\/x=r}
section
variable{w0 w:World}{S0:Nat->Prop}{G:Gh}{h:Hp}{n:Nat}
theorem qq2{f:Lab->Lab}{v:Value}{r:Nat}(hr:(G.inst f n v).al r):G.al r\/newR n r:=by
 rcases hr with h1|h1
 · exact .inl h1
 · subst h1;exact .inr (qnu _)
theorem qe3(I:Inv w0 S0 w G h){r:Nat}(hr:¬G.al r)(f:Lab->Lab)(hf:∀r' p,r'≠r->f (.blk r' p)=.blk r' p)(hf':∀x r' p,r'≠r->f x=.blk r' p->x=.blk r' p){v:Value}{m:Bool}{cs:List CT}{l:List T}(H:RowRep w ((G.inst f r v).own.m r) [] m cs v l)(hok:okL m cs l=true):Inv w0 S0 w (G.inst f r v) (upd h r (.row m cs l 0 false))/\Keep w w G (G.inst f r v) h (upd h r (.row m cs l 0 false))/\AVRep w (G.inst f r v) (upd h r (.row m cs l 0 false)) v (.rf r [] 0 none):=by
 have S:Step w w G (G.inst f r v) h (upd h r (.row m cs l 0 false)) (λx=>x=r):=by
  refine⟨rfl,rfl,rfl,Nat.le_refl _,λ_ _ _=>rfl,λb x hx=>?_,λb x hx=>?_,rfl,rfl,λ_ h=>.inl h,λr' hr'=>⟨upd_ne _ _ hr',upd_ne _ _ hr',λb p hb=>⟨?_,rfl⟩,λb p hb=>?_⟩,λr' hr' ha=>absurd (hr'▸ha) hr⟩;· left;simp only[Gh.inst,Option.map_eq_some_iff]at hx;obtain⟨y,hy,_⟩:=hx;exact⟨y,hy⟩
  · simp only[Gh.inst,Option.map_eq_some_iff]at hx;obtain⟨y,hy,_⟩:=hx;exact I.cells b y hy
  · simp[Gh.inst,hb,hf r' p hr']
  · simp only[Gh.inst,Option.map_eq_some_iff]at hb;obtain⟨y,hy,hy'⟩:=hb;rw[hy,hf' y r' p hr' hy']
 refine⟨S.inv I λr' hr'=>?_,S.keep I,?_⟩;· subst hr';rw[upd_same];refine⟨.inr rfl,?_,λ_=>hok⟩;simpa[Gh.inst,upd_same]using H
 · refine⟨(qa6.2 H).one,.inr rfl,?_⟩;rw[upd_same];exact⟨Nat.le_refl _,λ_=>⟨v,m,cs,l,by simp[Gh.inst,upd_same,NavH],trivial,rfl,rfl⟩⟩
def Gh.giv(G:Gh)(b:Nat)(x:Lab):Gh:={G with own:=upd G.own b (some x)}
theorem qqo(I:Inv w0 S0 w G h)(k:Nat)(p:Path)(c:Array Value)(t:TypeId):Inv w0 S0 (pushC w c t) (G.giv w.heap.size (.tmp k p)) h/\Keep w (pushC w c t) G (G.giv w.heap.size (.tmp k p)) h h:=by
 have S:Step w (pushC w c t) G (G.giv w.heap.size (.tmp k p)) h h (λ_=>False):=by
  refine⟨rfl,rfl,rfl,by simp[pushC],λb hb _=>qbx w c t hb,λb x hx=>?_,λb x hx=>?_,rfl,rfl,λr h=>h,λr _=>⟨rfl,rfl,λb q hb=>?_,λb q hb=>?_⟩,λ_ hf=>hf.elim⟩
  ·by_cases e:b=w.heap.size;· right;omega
   · left;exact⟨x,by simpa[Gh.giv,upd_ne _ _ e]using hx⟩
  ·by_cases e:b=w.heap.size;· subst e;exact⟨c,t,(0,0),qdm w c t,free0 _⟩
   ·have hx':G.own b=some x:=by simpa[Gh.giv,upd_ne _ _ e]using hx
    obtain⟨c',ty,fz,h1,h2⟩:=I.cells b x hx';exact⟨c',ty,fz,(qbx w c t (I.ownLt hx')).trans h1,h2⟩
  · have e:b≠w.heap.size:=Nat.ne_of_lt (I.ownLt hb);exact⟨by simpa[Gh.giv,upd_ne _ _ e]using hb,qbx w c t (I.ownLt hb)⟩
  ·by_cases e:b=w.heap.size;· subst e;simp[Gh.giv,upd_same]at hb
   · simpa[Gh.giv,upd_ne _ _ e]using hb
 exact⟨S.inv I λ_ hf=>hf.elim,S.keep I⟩
theorem qzw(I:Inv w0 S0 w G h){b k:Nat}{p:Path}{c c':Array Value}{ty:TypeId}{fz:Nat×Nat}(hb:G.own b=some (.tmp k p))(hc:w.heap[b]? =some (.cells c ty fz))(hs:c'.size=c.size):Inv w0 S0 (putC w b c') G h/\Keep w (putC w b c') G G h h:=by
 have S:Step w (putC w b c') G G h h (λ_=>False):=by
  refine⟨rfl,rfl,rfl,Nat.le_of_eq (qnn w b c').symm,λb' _ hn=>?_,λb' x hx=>.inl ⟨x,hx⟩,λb' x hx=>?_,rfl,rfl,λ_ h=>h,λr _=>⟨rfl,rfl,λb' q hb'=>⟨hb',?_⟩,λb' q hb'=>hb'⟩,λ_ hf=>hf.elim⟩;· exact qdy w c' (λe=>by subst e;rw[hb]at hn;cases hn)
  ·obtain⟨c1,ty1,fz1,h1,h2⟩:=I.cells b' x hx;by_cases e:b'=b;· subst e;rw[hc]at h1;cases h1;exact⟨c',ty,fz,qcr w hc,hs▸h2⟩
   · exact⟨c1,ty1,fz1,(qdy w c' e).trans h1,h2⟩
  · exact qdy w c' (λe=>by subst e;rw[hb]at hb';cases hb')
 exact⟨S.inv I λ_ hf=>hf.elim,S.keep I⟩
theorem ElemRep.mk{M:Mem}{π:Path}{m:Bool}{cs:List CT}{c:Array Value}{o i:Nat}{ts:List T}{x:T}(hx:elem m ts=some x)(hl:ts.length=cs.length)(H:∀(j:Nat)(ct:CT),cs[j]? =some ct->∃v t,c[o+j]? =some v/\ts[j]? =some t/\CellRep w M (π++[(i,j)]) ct v t):ElemRep w M π m cs c o i x:=by
 cases m with
 |true=>simp only[elem,Option.some.injEq]at hx;subst hx;refine⟨hl,?_⟩;rw[qag];intro k hk;obtain⟨v,t,h1,h2,h3⟩:=H k _ (List.getElem?_eq_getElem (show k<cs.length by omega));simp only[Nat.zero_add];rw[List.getElem?_eq_getElem hk]at h2;cases h2;exact⟨_,v,List.getElem?_eq_getElem (by omega),h1,h3⟩
 |false=>match ts,cs,hx,hl,H with|[t],[ct],hx,hl,H=>simp only[elem,Option.some.injEq]at hx;subst hx;obtain⟨v,t',h1,h2,h3⟩:=H 0 ct rfl;cases h2;exact⟨ct,v,rfl,by simpa using h1,h3⟩
theorem qz8{m:Bool}{cs:List CT}{ts:List T}{x:T}(hx:elem m ts=some x)(hl:ts.length=cs.length)(H:∀(j:Nat)(ct:CT)(t:T),cs[j]? =some ct->ts[j]? =some t->okC ct t=true):okE m cs x=true:=by
 cases m with
 |true=>simp only[elem,Option.some.injEq]at hx;subst hx;exact qmf hl H
 |false=>match ts,cs,hx,hl,H with|[t],[ct],hx,hl,H=>simp only[elem,Option.some.injEq]at hx;subst hx;exact H 0 ct t rfl rfl
theorem qv7{cs:List CT}{zs:List T}(hz:imm cs=some zs){j:Nat}{ct:CT}(hc:cs[j]? =some ct):∃t,zs[j]? =some t/\tZero ct=some t:=by
 have hlt:j<zs.length:=by rw[qe0 hz];exact(List.getElem?_eq_some_iff.1 hc).1
 obtain⟨c',h1,h2⟩:=qr0 hz (List.getElem?_eq_getElem hlt);rw[hc]at h1;cases h1;exact⟨_,List.getElem?_eq_getElem hlt,h2⟩
theorem qx3{c:CT}{t:T}(h:tZero c=some t):okC c t=true:=by cases c<;>simp[tZero]at h<;>subst h<;>rfl
theorem qfs{M:Mem}{π:Path}{m:Bool}{cs:List CT}{c:Array Value}{o i:Nat}{zs:List T}{z:T}(hz:imm cs=some zs)(he:elem m zs=some z)(H:∀(j:Nat)(ct:CT),cs[j]? =some ct->∃v,c[o+j]? =some v/\qbv ct v=true):ElemRep w M π m cs c o i z:=ElemRep.mk he (qe0 hz) λj ct hc=>by obtain⟨v,h1,h2⟩:=H j ct hc;obtain⟨t,h3,h4⟩:=qv7 hz hc;exact⟨v,t,h1,h3,qow h2 h4 w M _⟩
theorem qov{m:Bool}{cs:List CT}{zs:List T}{z:T}(hz:imm cs=some zs)(he:elem m zs=some z):okE m cs z=true:=qz8 he (qe0 hz) λj ct t hc ht=>by obtain⟨t',h3,h4⟩:=qv7 hz hc;rw[ht]at h3;cases h3;exact qx3 h4
theorem qfr{zs:Array Value}{n i j:Nat}(hj:j<zs.size)(hi:i<n):((Array.range (n*zs.size)).map (zs[· %zs.size]!))[i*zs.size+j]? =zs[j]? :=by
 have h1:i*zs.size+j<n*zs.size:=by have:(i+1)*zs.size<=n*zs.size:=Nat.mul_le_mul_right _ hi;rw[Nat.add_mul]at this;omega
 rw[Array.getElem?_map,Array.getElem?_eq_getElem (by simpa using h1)];simp only[Array.getElem_range,Option.map_some];have h2:(i*zs.size+j)%zs.size=j:=by rw[Nat.add_comm,Nat.add_mul_mod_self_right,Nat.mod_eq_of_lt hj]
 rw[h2];rw[getElem!_pos zs j hj,Array.getElem?_eq_getElem hj]
end
section
variable{P:Program}{E:Env}{w0 w:World}{S0:Nat->Prop}{G:Gh}{h:Hp}{n:Nat}
theorem wrap_small{x:Int}(h0:0<=x)(h1:x<=(LIM:Int)):IntKind.i64.wrap x=x:=by unfold LIM at h1;have hm:x%(2^IntKind.i64.bits:Int)=x:=Int.emod_eq_of_lt h0 (by show x<(2^64:Int);omega);unfold IntKind.wrap;simp only[hm];rw[if_neg];simp only[Bool.and_eq_true,decide_eq_true_eq,not_and];intro _;show¬x>=(2^63:Int);omega
theorem qmk(O:EnvOk P E)(I:Inv w0 S0 w G h)(hn:¬G.al n){t:Nat}{m:Bool}{cs:List CT}(ht:E.ct t=some (.sl m cs)){k1 k2:IntKind}{x:Int}(h0:0<=x)(h1:x<=(LIM:Int)){zs:List T}{z:T}(hz:imm cs=some zs)(he:elem m zs=some z):Ran P w0 S0 w G h n (valM (Instr.makeSlice t (.int k1 x) (.int k2 x))) (.rf n [] 0 none) (upd h n (.row m cs (List.replicate x.toNat z) 0 false)):=by
 obtain⟨e,tie,hu,hty,rfl,rfl⟩:=O.ct_sl ht;obtain⟨inf,d,zv,hi,hd,hsz,hby,hiz,hzz,_,_,_⟩:=tyOk (O.ty _ _ hty);have hzl:=qb3 hzz;have hzl':zv.cells.size=tie.cs.length:=by simpa using hzl
 obtain⟨cells,hcells,hrow⟩:∃cells:Array Value,(∀i j ct,i<x.toNat->tie.cs[j]? =some ct->∃v,cells[i*tie.cs.length+j]? =some v/\qbv ct v=true)/\(x.toNat*tie.cs.length=cells.size/\(Instr.makeSlice t (.int k1 x) (.int k2 x)).run P w=.ok (.slice (some ⟨w.heap.size,0,none⟩) x.toNat x.toNat) (pushC w cells e)):=by
  have hw:=wrap_small h0 h1;have hbig:¬(inf.bytes:Int)*x>2^48:=by have:(inf.bytes:Int)*x<=512*x:=Int.mul_le_mul_of_nonneg_right (by omega) h0;unfold LIM at h1;omega
  have hcond:((x<0||(inf.bytes:Int)*x>2^48)||x<0||x>x)=false:=by simp only[Bool.or_eq_false_iff,decide_eq_false_iff_not];exact⟨⟨⟨by omega,hbig⟩,by omega⟩,by omega⟩
  by_cases hn0:x.toNat*tie.cs.length=0
  ·refine⟨#[],λi j ct hi hj=>?_,by simpa using hn0,?_⟩;· exfalso;have:=(List.getElem?_eq_some_iff.1 hj).1;rcases Nat.mul_eq_zero.1 hn0 with h|h<;>omega
   · unfold Instr.makeSlice;simp only[Sem.run_bind,qa4 hu,Result.andThen_ok,asInt,asIntOf,Sem.run_pure,qkz hi,hw,hcond,Bool.false_eq_true,if_false,run_askRoom,qdl hi,hsz,hn0,if_true];simp[qdx,pushC,show Array.range 0=#[]from rfl]
  ·refine⟨(Array.range (x.toNat*zv.cells.size)).map (zv.cells[· %zv.cells.size]!),λi j ct hi hj=>?_,by simp[hzl'],?_⟩;· have hjlt:=(List.getElem?_eq_some_iff.1 hj).1;obtain⟨v,h2,h3⟩:=qch hzz hj;refine⟨v,?_,h3⟩;rw[<-hzl',qfr (by omega) hi];simpa using h2
   · unfold Instr.makeSlice;simp only[Sem.run_bind,qa4 hu,Result.andThen_ok,asInt,asIntOf,Sem.run_pure,qkz hi,hw,hcond,Bool.false_eq_true,if_false,run_askRoom,qdl hi,hsz,hn0,qnm hi hiz];simp[qdx,pushC,hzl']
 obtain⟨hsize,hrun⟩:=hrow;have hE:ElemsRep (pushC w cells e) ((G.alloc n w.heap.size (.slice (some ⟨w.heap.size,0,none⟩) x.toNat x.toNat)).own.m n) [] tie.agg tie.cs cells 0 0 (List.replicate x.toNat z):=by rw[qa5];intro k hk;simp only[List.length_replicate]at hk;simp only[Nat.zero_add,List.getElem_replicate];exact qfs hz he λj ct hj=>hcells k j ct hk hj
 obtain⟨I',K,hv⟩:=qos I hn e (by simp) (Nat.le_refl _) (Nat.le_of_eq hsize) hE (by rw[qbr,List.all_eq_true];intro y hy;rw[(List.mem_replicate.1 hy).2];exact qov hz he);exact⟨_,_,_,.inl (by simp only[Sem.run_bind,hrun,Result.andThen_ok];rfl),I',K,hv,λr hr=>qh1 hr⟩
end
theorem CellRep.flat{w w':World}{M M':Mem}{π π':Path}{c:CT}{v:Value}{x:T}(H:CellRep w M π c v x)(hc:c.isSl=false):CellRep w' M' π' c v x:=by
 cases x with
 |u=>rw[H.1]at hc;cases hc
 |sl l=>obtain⟨m,cs,rfl,_⟩:=H;simp[CT.isSl]at hc
 |st l=>exact H.elim
 |_=>exact H
section
variable{P:Program}{E:Env}{w0 w:World}{S0:Nat->Prop}{G:Gh}{h h':Hp}{n:Nat}
theorem qjy{M:Mem}{π:Path}{i0:Nat}{m:Bool}{cs:List CT}{v:Value}{l:List T}(H:SlRep w M π i0 m cs v l):∃cv:Array Value,(Builtin.firstCells cs.length l.length v).run P w=.ok cv w/\cv.size=l.length*cs.length/\∀k(hk:k<l.length),ElemRep w M π m cs cv (k*cs.length) (i0+k) l[k]:=by
 rcases H with⟨rfl,a,cap,rfl⟩|⟨b,off,cap,c,ty,fz,rfl,h2,h3,h4,h5,h6⟩
 ·refine⟨#[],?_,by simp,λk hk=>by simp at hk⟩;cases a with
  |none=>simp[Builtin.firstCells]
  |some a=>simp[Builtin.firstCells,loadCells,loadCellsFrom]
 ·have hle:l.length*cs.length<=cap*cs.length:=Nat.mul_le_mul_right _ h4;have hlen:((c.toList.drop off).take (l.length*cs.length)).length=l.length*cs.length:=by simp;omega
  have hget:∀k,k<l.length*cs.length->((c.toList.drop off).take (l.length*cs.length))[k]? =c[off+k]? :=by intro k hk;rw[List.getElem?_take_of_lt hk,List.getElem?_drop];simp
  refine⟨((c.toList.drop off).take (l.length*cs.length)).toArray,?_,by simpa using hlen,λk hk=>?_⟩;· simp only[Builtin.firstCells];exact qfj h2 hlen λk hk=>by rw[<-hget k (by omega)];exact List.getElem?_eq_getElem hk
  ·refine ElemRep.move (M:=M) (M':=M) (λj=>⟨id,λb ρ hb=>⟨hb,rfl⟩⟩) (λj hj=>?_) (h6 k hk);have:k*cs.length+j<l.length*cs.length:=by have:(k+1)*cs.length<=l.length*cs.length:=Nat.mul_le_mul_right _ hk;rw[Nat.add_mul]at this;omega
   have e:=hget _ this;rw[Nat.add_assoc,<-e];simp
theorem qna(s:ByteArray):(Builtin.firstCells 1 s.size (.string s)).run P w=.ok (s.data.map λb=>.int .u8 (b.toNat:Int)) w/\(s.data.map λb=>(Value.int .u8 (b.toNat:Int))).size=(qb7 s).length:=by
 constructor
 ·simp only[Builtin.firstCells];have:s.extract 0 s.size=s:=by
   first
   |exact ByteArray.extract_zero_size
   |simp
  rw[this];rfl
 · simp[qb7,ByteArray.toList_eq]
theorem qnb(s:ByteArray)(M:Mem)(π:Path):∀k(hk:k<(qb7 s).length),ElemRep w M π false [.i .u8] (s.data.map λb=>.int .u8 (b.toNat:Int)) (k*1) (0+k) (qb7 s)[k]:=by
 intro k hk;have hk':k<s.data.size:=by simpa[qb7,ByteArray.toList_eq]using hk
 refine⟨.i .u8,.int .u8 (s.data[k].toNat:Int),rfl,?_,?_⟩;· rw[Nat.mul_one,Array.getElem?_map,Array.getElem?_eq_getElem hk'];rfl
 ·have:(qb7 s)[k]=T.i .u8 (s.data[k].toNat:Int):=by simp[qb7,ByteArray.toList_eq]
  rw[this];exact⟨rfl,rfl⟩
def partF(r o n k:Nat):Lab->Lab
|.blk r' ((i,j)::s)=>if r'=r/\o<=i/\i<o+n then .tmp k ((i-o,j)::s)else .blk r' ((i,j)::s)
|x=>x
theorem ql0{r o n k:Nat}{b r':Nat}{q:Path}(hb:G.own b=some (.blk r' q))(hq:r'≠r\/∀i j s,q=(i,j)::s->¬(o<=i/\i<o+n)):(G.rel (partF r o n k)).own b=some (.blk r' q):=by
 simp only[Gh.rel,hb,Option.map_some];cases q with
 |nil=>rfl
 |cons a s=>
  obtain⟨i,j⟩:=a;simp only[partF];rw[if_neg];rintro⟨h1,h2⟩;rcases hq with hq|hq
  · exact hq h1
  · exact hq i j s rfl h2
theorem qzy{r o n k i j:Nat}{b:Nat}{s:Path}(hb:G.own b=some (.blk r ((o+i,j)::s)))(hi:i<n):(G.rel (partF r o n k)).own b=some (.tmp k ((i,j)::s)):=by simp only[Gh.rel,hb,Option.map_some,partF];rw[if_pos ⟨trivial,by omega,by omega⟩,Nat.add_sub_cancel_left]
theorem qxg(G:Gh)(r o n k:Nat):TmpSame G (G.rel (partF r o n k)) k:=by
 intro k' b p' hk;constructor;· intro hb;simp[Gh.rel,hb,partF]
 ·intro hb;simp only[Gh.rel,Option.map_eq_some_iff]at hb;obtain⟨y,hy,hy'⟩:=hb;cases y with
  |tmp k1 s=>have hy':Lab.tmp k1 s=.tmp k' p':=hy';rw[hy,hy']
  |blk r1 q1=>
   cases q1 with
   |nil=>exact Lab.noConfusion hy'
   |cons a s=>
    obtain⟨i,j⟩:=a;unfold partF at hy';simp only at hy';split at hy';· cases hy';exact absurd rfl hk
    · cases hy'
theorem qe1{α β:Type}(f:α->β):∀(l:List α),(mapL f l).length=l.length
|[]=>rfl
|x::l=>by simp[mapL,qe1 f l]
theorem qr1{α β:Type}(f:α->β):∀(l:List α)(k:Nat)(hk:k<l.length),(mapL f l)[k]'(by rw[qe1];exact hk)=f l[k]
|[],k,hk=>by simp at hk
|x::l,0,_=>rfl
|x::l,k+1,hk=>by simpa[mapL]using qr1 f l k (by simpa using hk)
theorem qdb:∀(cs:List CT)(xs:List T),xs.length=cs.length->(qff cs xs).length=cs.length
|[],_,_=>by simp[qff]
|c::cs,[],hl=>by simp at hl
|c::cs,x::xs,hl=>by simp[qff,qdb cs xs (by simpa using hl)]
theorem qin:∀(cs:List CT)(xs:List T)(_:xs.length=cs.length)(k:Nat)(c:CT)(x:T),cs[k]? =some c->xs[k]? =some x->(qff cs xs)[k]? =some (match c with|.sl _ _=>T.u|_=>x)
|[],_,_,k,c,x,hc,_=>by simp at hc
|c::cs,[],hl,_,_,_,_,_=>by simp at hl
|c::cs,x::xs,hl,0,d,y,hd,hy=>by simp at hd hy;subst hd hy;rfl
|c::cs,x::xs,hl,k+1,d,y,hd,hy=>by simpa[qff]using qin cs xs (by simpa using hl) k d y (by simpa using hd) (by simpa using hy)
theorem ElemRep.un{w:World}{M M':Mem}{π:Path}{m:Bool}{cs:List CT}{c:Array Value}{o i:Nat}{x:T}(H:ElemRep w M π m cs c o i x)(hn:qao cs=true):ElemRep w M' π m cs c o i (unEl m cs x):=by
 cases m with
 |true=>
  cases x with
  |st xs=>
   obtain⟨hl,H⟩:=H;refine⟨qdb cs xs hl,?_⟩;rw[qag]at H|-;intro k hk;have hk':k<xs.length:=by rw[qdb cs xs hl]at hk;omega
   obtain⟨ct,v,h1,h2,h3⟩:=H k hk';simp only[Nat.zero_add]at h1 h2 h3|-;refine⟨ct,v,h1,h2,?_⟩;have hg:=qin cs xs hl k ct _ h1 (List.getElem?_eq_getElem hk');rw[List.getElem?_eq_getElem hk]at hg;rw[Option.some.inj hg];cases ct with
   |sl m1 cs1=>exact⟨rfl,h3.one⟩
   |_=>exact h3.flat rfl
  |_=>exact H.elim
 |false=>
  obtain⟨ct,v,rfl,h2,h3⟩:=H;have hs:ct.isSl=true:=by simpa[qao]using hn
  refine⟨ct,v,rfl,h2,?_⟩;cases x<;>exact⟨hs,h3.one⟩
theorem qsa{q:List T}{o n:Nat}(f:T->T)(hq:o+n<=q.length)(k:Nat)(hk:k<(q.take o++mapL f ((q.drop o).take n)++q.drop (o+n)).length):∃hk':k<q.length,(q.take o++mapL f ((q.drop o).take n)++q.drop (o+n))[k]=if o<=k/\k<o+n then f q[k]else q[k]:=by
 have h1:(q.take o).length=o:=by simp;omega
 have h2:(mapL f ((q.drop o).take n)).length=n:=by rw[qe1];simp;omega
 have hk':k<q.length:=by simp only[List.length_append,h1,h2,List.length_drop]at hk;omega
 refine⟨hk',?_⟩;by_cases c1:k<o;· rw[if_neg (by omega),List.getElem_append_left (by simp only[List.length_append,h1,h2];omega),List.getElem_append_left (by omega),List.getElem_take]
 ·by_cases c2:k<o+n;· rw[if_pos (by omega),List.getElem_append_left (by simp only[List.length_append,h1,h2];omega),List.getElem_append_right (by omega)];rw[qr1 f _ _ (by simp only[h1,List.length_take,List.length_drop];omega)];congr 1;rw[List.getElem_take,List.getElem_drop];congr 1;omega
  · rw[if_neg (by omega),List.getElem_append_right (by simp only[List.length_append,h1,h2];omega),List.getElem_drop];congr 1;simp only[List.length_append,h1,h2];omega
end
theorem ElemRep.anywhere{w w':World}{M M':Mem}{π π':Path}{m:Bool}{cs:List CT}{c:Array Value}{o i i':Nat}{x:T}(H:ElemRep w M π m cs c o i x)(hn:qao cs=false):ElemRep w' M' π' m cs c o i' x:=by
 have hfl:∀(j:Nat)(ct:CT),cs[j]? =some ct->ct.isSl=false:=by intro j ct hj;unfold qao at hn;rw[List.any_eq_false]at hn;simpa using hn ct (List.mem_of_getElem? hj)
 cases m with
 |true=>
  cases x with
  |st xs=>obtain⟨hl,H⟩:=H;refine⟨hl,?_⟩;rw[qag]at H|-;intro k hk;obtain⟨ct,v,h1,h2,h3⟩:=H k hk;exact⟨ct,v,h1,h2,h3.flat (hfl _ _ h1)⟩
  |_=>exact H.elim
 |false=>obtain⟨ct,v,rfl,h2,h3⟩:=H;exact⟨ct,v,rfl,h2,h3.flat (hfl 0 ct rfl)⟩
theorem qvn{w:World}{M:Mem}{π:Path}{m:Bool}{cs:List CT}{cv:Array Value}{l:List T}{i0:Nat}(hs:cv.size=l.length*cs.length)(H:∀k(hk:k<l.length),ElemRep w M π m cs cv (k*cs.length) (i0+k) l[k]):∀v∈cv.toList,v.oneCell'=true:=by
 intro v hv;obtain⟨q,hq⟩:=List.mem_iff_getElem?.1 hv;have hq:cv[q]? =some v:=by simpa using hq
 have hlt:=(Array.getElem?_eq_some_iff.1 hq).1;have hpos:0<cs.length:=by
  rcases Nat.eq_zero_or_pos cs.length with h0|h0
  · rw[h0,Nat.mul_zero]at hs;omega
  · exact h0
 have h1:q/cs.length<l.length:=(Nat.div_lt_iff_lt_mul hpos).2 (by omega);have h2:q%cs.length<cs.length:=Nat.mod_lt _ hpos;obtain⟨u,hu,hu'⟩:=ElemRep.cell (H _ h1) (List.getElem?_eq_getElem h2);have:q/cs.length*cs.length+q%cs.length=q:=by rw[Nat.mul_comm];exact Nat.div_add_mod q cs.length
 rw[this,hq]at hu;cases hu;exact hu'.one
section
variable{P:Program}{w0 w:World}{S0:Nat->Prop}{G:Gh}{h h1:Hp}
def SrcOk(P:Program)(w:World)(G1:Gh)(k:Nat)(m:Bool)(cs:List CT)(x':Value)(xs:List T):Prop:=∃cv:Array Value,(∀w1,(Builtin.lenOf x').run P w1=.ok xs.length w1)/\(Builtin.firstCells cs.length xs.length x').run P w=.ok cv w/\cv.size=xs.length*cs.length/\(∀i(hi:i<xs.length),ElemRep w (G1.own.t k) [] m cs cv (i*cs.length) i xs[i])/\okL m cs xs=true/\∀v∈cv.toList,v.oneCell'=true
theorem SrcOk.mk{G1:Gh}{k:Nat}{M:Mem}{π:Path}{i0:Nat}{m:Bool}{cs:List CT}{x':Value}{xs:List T}(H:SlRep w M π i0 m cs x' xs)(hok:okL m cs xs=true)(hmv:∀{cv:Array Value},∀i(hi:i<xs.length),ElemRep w M π m cs cv (i*cs.length) (i0+i) xs[i]->ElemRep w (G1.own.t k) [] m cs cv (i*cs.length) i xs[i]):SrcOk P w G1 k m cs x' xs:=by obtain⟨cv,h1,h2,h3⟩:=qjy (P:=P) H;obtain⟨a,cap,rfl⟩:=H.len;exact⟨cv,by simp[Builtin.lenOf],h1,h2,λi hi=>hmv i hi (h3 i hi),hok,qvn h2 h3⟩
theorem qxs(I:Inv w0 S0 w G h){r o kk k:Nat}{m:Bool}{cs:List CT}{q:List T}{v:Nat}{e:Bool}{x':Value}(hk:∀b p,G.own b≠some (.tmp k p))(hr:h r=.row m cs q v e)(hal:G.al r)(hs:SubH cs.length (G.φ r) x' (some (o,kk)))(hn:qao cs=true)(hok:okL m cs (subL q (some (o,kk)))=true):∃G1,Inv w0 S0 w G1 (upd h r (.row m cs (q.take o++mapL (unEl m cs) ((q.drop o).take kk)++q.drop (o+kk)) (v+1) true))/\Keep w w G G1 h (upd h r (.row m cs (q.take o++mapL (unEl m cs) ((q.drop o).take kk)++q.drop (o+kk)) (v+1) true))/\SrcOk P w G1 k m cs x' (subL q (some (o,kk)))/\TmpSame G G1 k/\G1.al=G.al:=by
 have R:=I.rep r;rw[hr]at R;obtain⟨_,R,_⟩:=R;have S:Step w w G (G.rel (partF r o kk k)) h (upd h r (.row m cs (q.take o++mapL (unEl m cs) ((q.drop o).take kk)++q.drop (o+kk)) (v+1) true)) (λx=>x=r):=
  qdw I _ _ (λr' p hr'=>by
   cases p with
   |nil=>rfl
   |cons a s=>obtain⟨i,j⟩:=a;simp[partF,hr']) (λx r' p hr' hx=>by
   cases x with
   |tmp k' s=>exact hx
   |blk r1 q1=>
    cases q1 with
    |nil=>exact hx
    |cons a s=>
     obtain⟨i,j⟩:=a;unfold partF at hx;simp only at hx;split at hx;· cases hx
     · exact hx) (λr' hr'=>upd_ne _ _ hr') (λr' hr' _=>by
   subst hr';rw[upd_same,hr];exact⟨rfl,rfl,rfl,.inr (Nat.lt_succ_self _)⟩)
 have hlen:o+kk<=q.length\/(o=0/\kk=0):=by
  rcases hs with⟨_,rfl,rfl,_⟩|⟨b,off,len,cap,off',cap',hh,k1,_⟩
  · exact .inr ⟨rfl,rfl⟩
  ·left;rw[hh]at R;rcases R with⟨hn,_⟩|⟨b1,off1,cap1,c,ty,fz,e1,_⟩
   ·rcases hn with hn|⟨hf,_⟩
    · cases hn
    · exact False.elim hf
   · cases e1;exact k1
 have hlen:o+kk<=q.length:=by omega
 refine⟨_,S.inv I λr' hr'=>?_,S.keep I,?_,qxg _ _ _ _ _,rfl⟩
 ·subst hr';rw[upd_same];refine⟨hal,?_,λhf=>by cases hf⟩;have hll:(q.take o++mapL (unEl m cs) ((q.drop o).take kk)++q.drop (o+kk)).length=q.length:=by simp only[List.length_append,List.length_take,qe1,List.length_drop];omega
  rcases R with⟨hn',hq⟩|⟨b,off,cap,c,ty,fz,e1,e2,e3,e4,e5,e6⟩
  ·left;subst hq;refine⟨?_,by simpa using hll⟩;rcases hn' with hn'|⟨hf,_⟩
   · exact .inl hn'
   · exact False.elim hf
  ·right;have e2':G.own b=some (.blk r' []):=e2;refine⟨b,off,cap,c,ty,fz,by rw[hll];exact e1,ql0 e2' (.inr (by intro i j s hh;cases hh)),e3,by rw[hll];exact e4,e5,?_⟩;rw[qa5];intro k0 hk0;obtain⟨hk',hg⟩:=qsa (unEl m cs) hlen k0 hk0;rw[hg];have hE:=(qa5 q 0).1 e6 k0 hk';simp only[Nat.zero_add]at hE|-;by_cases hin:o<=k0/\k0<o+kk;· rw[if_pos hin];exact ElemRep.un hE hn
   · rw[if_neg hin];refine ElemRep.move (M:=G.own.m r') (M':=(G.rel (partF r' o kk k)).own.m r') (π:=[]) (π':=[]) (i:=k0) (i':=k0) (λj=>⟨λhf=>False.elim hf,λb2 ρ hb2=>⟨ql0 hb2 (.inr ?_),rfl⟩⟩) (λ_ _=>rfl) hE;intro i j' s hh;cases hh;exact hin
 ·refine SrcOk.mk (SlRep.part R hs) hok λi hi hE=>?_;have hi':i<kk:=by
   have:(subL q (some (o,kk))).length=kk:=by simp[subL];omega
   omega
  refine ElemRep.move (M:=G.own.m r) (M':=(G.rel (partF r o kk k)).own.t k) (π:=[]) (π':=[]) (i:=subO (some (o,kk))+i) (i':=i) (λj=>⟨λhf=>False.elim hf,λb2 ρ hb2=>⟨qzy hb2 hi',rfl⟩⟩) (λ_ _=>rfl) hE
theorem qte(I:Inv w0 S0 w G h){k:Nat}(hk:∀b p,G.own b≠some (.tmp k p)){m:Bool}{cs:List CT}{x:AV}{x':Value}(hx:AVRep w G h x' x){xs:List T}{b:Bool}(hs:qec h m cs x=some (xs,h1,b))(hb:b=true):∃G1,Inv w0 S0 w G1 h1/\Keep w w G G1 h h1/\SrcOk P w G1 k m cs x' xs/\TmpSame G G1 k/\G1.al=G.al:=by
 have same:TmpSame G G k:=λ_ _ _ _=>Iff.rfl;have gen:∀{y:AV},y=x->(∀s,y≠.s s)->(match cont h y with
 |some (m',cs',l)=>bif CT.beq (.sl m cs) (.sl m' cs')then
  bif qao cs then
   match y with
   |.nl _ _=>some ([],h,true)
   |.rf r [] v none=>some (l,killR h r [],hchk h (.rf r [] v none) m cs l)
   |.rf r [] w (some (o,k))=>match h r with
    |.row m cs q v e=>some (l,upd h r (.row m cs (q.take o++mapL (unEl m cs) ((q.drop o).take k)++q.drop (o+k)) (v+1) true),hchk h (.rf r [] w (some (o,k))) m cs l)
    |_=>none
   |_=>none
   else some (l,h,true)
  else none
 |none=>none)=some (xs,h1,b)->∃G1,Inv w0 S0 w G1 h1/\Keep w w G G1 h h1/\SrcOk P w G1 k m cs x' xs/\TmpSame G G1 k/\G1.al=G.al:=by
  intro y hy _ hs';clear hs;have hs:=hs';clear hs';subst hy;cases hc:cont h y with
  |none=>rw[hc]at hs;cases hs
  |some q=>
   obtain⟨m',cs',l⟩:=q;rw[hc]at hs;simp only at hs;cases hq:CT.beq (.sl m cs) (.sl m' cs')with
   |false=>rw[hq,cond_false]at hs;cases hs
   |true=>
    rw[hq,cond_true]at hs;cases CT.beq_eq hq;cases hn:qao cs with
    |false=>rw[hn,cond_false]at hs;cases hs;obtain⟨M,π,i0,H⟩:=qpt I hx hc;exact⟨G,I,Keep.refl _ _ _,SrcOk.mk H (H.flat hn) (λi hi hE=>hE.anywhere hn),same,rfl⟩
    |true=>
     rw[hn,cond_true]at hs;split at hs;· cases hs;simp only[cont,Option.some.injEq,Prod.mk.injEq]at hc;obtain⟨rfl,rfl,rfl⟩:=hc;have hx:x'=_:=hx;subst hx;exact⟨G,I,Keep.refl _ _ _,SrcOk.mk (M:=roM G.ro) (π:=[]) (i0:=0) (.inl ⟨rfl,_,_,rfl⟩) rfl (λi hi _=>by simp at hi),same,rfl⟩
     · rename_i r ver _;cases hs;obtain⟨m2,cs2,l2,hra,heq⟩:=qer hc;cases heq;obtain⟨G1,I1,K1,R1,T1,A1⟩:=qi6 I hk hx hra;refine⟨G1,I1,K1,SrcOk.mk R1.sl (qfp I hx hra hb) (λi hi hE=>?_),T1,A1⟩;simpa using hE
     ·rename_i r ver o kk _;obtain⟨m2,cs2,l2,hra,heq⟩:=qer hc;cases heq;cases hr:h r with
      |dead=>rw[hr]at hs;cases hs
      |box _=>rw[hr]at hs;cases hs
      |row m3 cs3 q v e=>
       rw[hr]at hs;simp only at hs;have e3:m3=m/\cs3=cs/\q=l2:=by simp only[rowAt,hr,Option.some.injEq,Prod.mk.injEq]at hra;exact hra
       obtain⟨rfl,rfl,rfl⟩:=e3;cases hs;obtain⟨m0,cs0,l0,v0,e0,hv,g0,g1,g2,g3,g4,g5,g6,g7⟩:=qdc I hx hra;have g3:hv=G.φ r:=g3;subst g3;exact qxs I hk hr hx.2.1 g6 hn (qfp I hx hra hb)
     · cases hs
 cases x with
 |s s=>
  simp only[qec]at hs;split at hs
  ·cases hs;have hx:x'=_:=hx;subst hx;obtain⟨h2,h3⟩:=qna (P:=P) (w:=w) s;have hlen:(qb7 s).length=s.size:=by simp[qb7,ByteArray.toList_eq]
   refine⟨G,I,Keep.refl _ _ _,⟨_,by simp[Builtin.lenOf,hlen],by rw[hlen];exact h2,by rw[h3];simp,λi hi=>?_,?_,?_⟩,same,rfl⟩;· have:=qnb (w:=w) s (G.own.t k) [] i hi;simpa using this
   · rw[qbr,List.all_eq_true];intro y hy;exact qmq (c:=.i .u8) rfl y
   · intro v hv;simp only[Array.toList_map,List.mem_map]at hv;obtain⟨_,_,rfl⟩:=hv;rfl
  · cases hs
 |_=>exact gen rfl (by simp) hs
end
def finF(K n len:Nat):Lab->Lab
|.tmp k s=>if k=K then .blk n s else if k=K+1 then(match s with|(i,j)::s'=>.blk n ((len+i,j)::s')|[]=>.tmp k [])else .tmp k s
|x=>x
section
variable{P:Program}{E:Env}{w0 w:World}{S0:Nat->Prop}{G:Gh}{h:Hp}{n:Nat}
theorem qxz{K n len:Nat}{x:Lab}{r':Nat}{p:Path}(hr:r'≠n)(h:finF K n len x=.blk r' p):x=.blk r' p:=by
 cases x with
 |blk _ _=>exact h
 |tmp k s=>
  unfold finF at h;simp only at h;split at h;· cases h;exact absurd rfl hr
  ·split at h
   ·cases s with
    |nil=>cases h
    |cons a s=>obtain⟨i,j⟩:=a;cases h;exact absurd rfl hr
   · cases h
theorem qws(I:Inv w0 S0 w G h)(hn:¬G.al n){K B O C:Nat}{c:Array Value}{ty:TypeId}{fz:Nat×Nat}{m:Bool}{cs:List CT}{l xs:List T}(hB:G.own B=some (.tmp K []))(hc:w.heap[B]? =some (.cells c ty fz))(h1:l.length+xs.length<=C)(h2:O+C*cs.length<=c.size)(hold:∀i(hi:i<l.length),ElemRep w (G.own.t K) [] m cs c (O+i*cs.length) i l[i])(hnew:∀i(hi:i<xs.length),ElemRep w (G.own.t (K+1)) [] m cs c (O+(l.length+i)*cs.length) i xs[i])(hok:okL m cs l=true)(hok':okL m cs xs=true):∃G',Inv w0 S0 w G' (upd h n (.row m cs (l++xs) 0 false))/\Keep w w G G' h (upd h n (.row m cs (l++xs) 0 false))/\AVRep w G' (upd h n (.row m cs (l++xs) 0 false)) (.slice (some ⟨B,O,none⟩) (l.length+xs.length) C) (.rf n [] 0 none)/\∀r,G'.al r->G.al r\/newR n r:=by
 obtain⟨I',K',H'⟩:=qe3 (v:=.slice (some ⟨B,O,none⟩) (l.length+xs.length) C) (m:=m) (cs:=cs) (l:=l++xs) I hn (finF K n l.length) (λ_ _ _=>rfl) (λx r' p hr' hx=>qxz hr' hx) (by
  right;refine⟨B,O,C,c,ty,fz,by simp,by simp[Own.m,Gh.inst,hB,finF],hc,by simpa using h1,h2,?_⟩;rw[qa5];intro k hk;simp only[Nat.zero_add];by_cases hkl:k<l.length;· rw[List.getElem_append_left hkl];refine ElemRep.move (M:=G.own.t K) (M':=(G.inst (finF K n l.length) n _).own.m n) (π:=[]) (π':=[]) (i:=k) (i':=k) (λj=>⟨λhf=>False.elim hf,λb ρ hb=>⟨?_,rfl⟩⟩) (λ_ _=>rfl) (hold k hkl);have hb:G.own b=some (.tmp K ((k,j)::ρ)):=hb;show((G.own b).map (finF K n l.length))=some (.blk n ((k,j)::ρ));rw[hb];simp[finF]
  ·rw[List.getElem_append_right (by omega)];have hk2:k-l.length<xs.length:=by simp only[List.length_append]at hk;omega
   have hE:=hnew (k-l.length) hk2;rw[show l.length+(k-l.length)=k by omega]at hE;refine ElemRep.move (M:=G.own.t (K+1)) (M':=(G.inst (finF K n l.length) n _).own.m n) (π:=[]) (π':=[]) (i:=k-l.length) (i':=k) (λj=>⟨λhf=>False.elim hf,λb ρ hb=>⟨?_,rfl⟩⟩) (λ_ _=>rfl) hE;have hb:G.own b=some (.tmp (K+1) ((k-l.length,j)::ρ)):=hb;show((G.own b).map (finF K n l.length))=some (.blk n ((k,j)::ρ));rw[hb];simp only[Option.map_some,finF];rw[if_neg (by omega),if_pos trivial,show l.length+(k-l.length)=k by omega]) (by
  rw[qbr,List.all_append,<-qbr,<-qbr,hok,hok'];rfl)
 exact⟨_,I',K',H',λr hr=>qq2 hr⟩
theorem app_nil(I:Inv w0 S0 w G h)(hn:¬G.al n)(m:Bool)(cs:List CT):∃G',Inv w0 S0 w G' (upd h n (.row m cs [] 0 false))/\Keep w w G G' h (upd h n (.row m cs [] 0 false))/\AVRep w G' (upd h n (.row m cs [] 0 false)) (.slice none 0 0) (.rf n [] 0 none)/\∀r,G'.al r->G.al r\/newR n r:=by obtain⟨I',K',H'⟩:=qe3 (v:=.slice none 0 0) (m:=m) (cs:=cs) (l:=[]) I hn id (λ_ _ _=>rfl) (λx r' p _ hx=>hx) (.inl ⟨.inl rfl,rfl⟩) rfl;exact⟨_,I',K',H',λr hr=>qq2 hr⟩
theorem qod(I:Inv w0 S0 w G h)(d:Nat):Inv w0 S0 {w with drawn:=d} G h/\Keep w {w with drawn:=d} G G h h:=by have S:Step w {w with drawn:=d} G G h h (λ_=>False):=⟨rfl,rfl,rfl,Nat.le_refl _,λ_ _ _=>rfl,λb x hx=>.inl ⟨x,hx⟩,λb x hx=>I.cells b x hx,rfl,rfl,λ_ h=>h,λr _=>⟨rfl,rfl,λb p hb=>⟨hb,rfl⟩,λb p hb=>hb⟩,λ_ hf=>hf.elim⟩;exact⟨S.inv I λ_ hf=>hf.elim,S.keep I⟩
theorem qq0{sType elem:TypeId}{ts:Array Nat}{u:TypeId}{inf:TypeInfo}(h0:ts[0]? =some sType)(hu:P.underlying sType=some (.slice elem))(hi:P.info? elem=some inf)(hz:∃t d,ts[1]? =some t/\P.underlying t=some d/\∀k,d≠.int k){base:Option Addr}{sLen sCap nx:Nat}{x':Value}(hl:(Builtin.lenOf x').run P w=.ok nx w)(hroom:sLen+nx<=sCap){cv:Array Value}(hcv:(Builtin.firstCells inf.size nx x').run P w=.ok cv w):(Builtin.append_ ts u #[.slice base sLen sCap,x']).run P w=(match base with|none=>Result.ok (.slice none (sLen+nx) sCap) w|some a=>((storeCells (a.add (sLen*inf.size)) cv.toList).run P w).andThen λ_ w'=>.ok (.slice (some a) (sLen+nx) sCap) w'):=by
 obtain⟨t,d,hz1,hz2,hz3⟩:=hz;have hd:(match d with|.int _=>true|_=>false)=false:=by cases d<;>first|rfl|exact absurd rfl (hz3 _)
 have e0:(#[Value.slice base sLen sCap,x']:Array Value)[0]? =some (.slice base sLen sCap):=rfl;have e1:(#[Value.slice base sLen sCap,x']:Array Value)[1]? =some x':=rfl;unfold Builtin.append_;simp only[h0,e0,e1,Sem.run_bind,qa4 hu,Result.andThen_ok,qdl hi,hz1,qa4 hz2,Sem.run_pure,hd];simp only[Bool.false_eq_true,if_false,hl,Result.andThen_ok,if_pos hroom,Sem.run_bind];simp only[Bool.not_false,if_true,hcv,Result.andThen_ok];cases base with
 |none=>simp
 |some a=>simp
theorem qq1{sType elem:TypeId}{ts:Array Nat}{u:TypeId}{inf:TypeInfo}{z:Value}(h0:ts[0]? =some sType)(hu:P.underlying sType=some (.slice elem))(hi:P.info? elem=some inf)(hz:inf.zero=some z)(hz':∃t d,ts[1]? =some t/\P.underlying t=some d/\∀k,d≠.int k){base:Option Addr}{sLen sCap nx:Nat}{x':Value}(hl:(Builtin.lenOf x').run P w=.ok nx w)(hroom:¬sLen+nx<=sCap)(hb:inf.bytes<=512)(hlim:sLen+nx<=LIM){w1:World}(hw1:w1={w with drawn:=w.drawn+1}){co cv:Array Value}(hco:(Builtin.firstCells inf.size sLen (.slice base sLen sCap)).run P w1=.ok co w1)(hcv:(Builtin.firstCells inf.size nx x').run P w1=.ok cv w1):∃newCap,sLen+nx<=newCap/\(Builtin.append_ ts u #[.slice base sLen sCap,x']).run P w=.ok (.slice (some ⟨w1.heap.size,0,none⟩) (sLen+nx) newCap) (pushC w1 (co++cv++Builtin.zeroCells z.cells (newCap-(sLen+nx))) elem):=by
 obtain⟨t,d,hz1,hz2,hz3⟩:=hz';have hd:(match d with|.int _=>true|_=>false)=false:=by cases d<;>first|rfl|exact absurd rfl (hz3 _)
 have hgrow:∀(k c:Nat),c<sLen+nx+1->Builtin.growBy (sLen+nx) k c<=2*(sLen+nx)+512:=by
  intro k;induction k with
  |zero=>intro c hc;simp only[Builtin.growBy];omega
  |succ k ih=>
   intro c hc;simp only[Builtin.growBy];split;· omega
   ·by_cases hc2:c+(c+768)/4<sLen+nx+1;· exact ih _ hc2
    ·cases k with
     |zero=>simp only[Builtin.growBy];omega
     |succ k=>simp only[Builtin.growBy];rw[if_pos (by omega)];omega
 have hcap:Builtin.nextslicecap (sLen+nx) sCap<=2*(sLen+nx)+512:=by
  unfold Builtin.nextslicecap;split;· omega
  ·split;· omega
   · exact hgrow 4 sCap (by omega)
 have hbytes:¬Builtin.nextslicecap (sLen+nx) sCap*inf.bytes>2^48:=by have:Builtin.nextslicecap (sLen+nx) sCap*inf.bytes<=(2*(sLen+nx)+512)*512:=Nat.mul_le_mul hcap hb;unfold LIM at hlim;omega
 have hint:¬((((sLen+nx:Nat):Int)>IntKind.i64.max)/\(false=true\/inf.bytes=0)):=by
  rintro⟨h1,_⟩;have e:IntKind.i64.max=9223372036854775807:=by decide
  unfold LIM at hlim;rw[e]at h1;omega
 refine⟨(Question.appendCap (sLen+nx) sCap elem).cut (w.tape w.drawn (Question.appendCap (sLen+nx) sCap elem)),by simp[Question.cut],?_⟩;subst hw1;have e0:(#[Value.slice base sLen sCap,x']:Array Value)[0]? =some (.slice base sLen sCap):=rfl;have e1:(#[Value.slice base sLen sCap,x']:Array Value)[1]? =some x':=rfl;unfold Builtin.append_;simp only[h0,e0,e1,Sem.run_bind,qa4 hu,Result.andThen_ok,qdl hi,hz1,qa4 hz2,Sem.run_pure,hd];simp only[Bool.false_eq_true,if_false,hl,Result.andThen_ok,if_neg hroom,Sem.run_bind,qkz hi,Sem.run_pure];simp only[Bool.false_eq_true]at hint;simp only[if_neg hint,qkz hi,Result.andThen_ok,if_neg hbytes,Sem.run_bind,Sem.run_pure,run_choose,Question.forced,Bool.false_eq_true,if_false,run_askRoom];simp only[hco,hcv,Bool.not_false,if_true,Result.andThen_ok,qnm hi hz,qdx];rfl
end
section
variable{P:Program}{E:Env}{w0 w:World}{S0:Nat->Prop}{G:Gh}{h:Hp}{n:Nat}
def AppOk(P:Program)(w0:World)(S0:Nat->Prop)(w w1:World)(G2:Gh)(h2:Hp)(n:Nat)(m:Bool)(cs:List CT)(l xs:List T)(s:Sem Value):Prop:=∃v' w' G',s.run P w=.ok v' w'/\Inv w0 S0 w' G' (upd h2 n (.row m cs (l++xs) 0 false))/\Keep w1 w' G2 G' h2 (upd h2 n (.row m cs (l++xs) 0 false))/\AVRep w' G' (upd h2 n (.row m cs (l++xs) 0 false)) v' (.rf n [] 0 none)/\∀r,G'.al r->G2.al r\/newR n r
theorem qs2(O:EnvOk P E){ts:Array Nat}(h:apArg E ts=true):∃t d,ts[1]? =some t/\P.underlying t=some d/\∀k,d≠.int k:=by
 unfold apArg at h;split at h
 ·rename_i t ht;split at h;· rename_i m cs hct;obtain⟨e,_,hu,_⟩:=O.ct_sl hct;exact⟨t,_,ht,hu,by simp⟩
  · rename_i hct;exact⟨t,_,ht,O.ct_s hct,by simp⟩
  · cases h
 · cases h
theorem qyx(O:EnvOk P E)(I:Inv w0 S0 w G h)(hn:¬G.al n){t:Nat}{m:Bool}{cs:List CT}(ht:E.ct t=some (.sl m cs)){ts:Array Nat}{u:TypeId}(h0:ts[0]? =some t)(hap:apArg E ts=true){K:Nat}{base:Option Addr}{cap:Nat}{x':Value}{l xs:List T}(H:RowRep w (G.own.t K) [] m cs (.slice base l.length cap) l)(hs:SrcOk P w G (K+1) m cs x' xs)(hok:okL m cs l=true)(hroom:l.length+xs.length<=cap):AppOk P w0 S0 w w G h n m cs l xs (Builtin.append_ ts u #[.slice base l.length cap,x']):=by
 obtain⟨e,tie,hu,hty,rfl,rfl⟩:=O.ct_sl ht;obtain⟨inf,hi,hsz,hby⟩:=O.size hty;obtain⟨cv,s1,s2,s3,s4,s5,s6⟩:=hs;have hrun:=qq0 (u:=u) h0 hu hi (qs2 O hap) (base:=base) (sLen:=l.length) (s1 w) hroom (by rw[hsz];exact s2);rcases H with⟨hnil,rfl⟩|⟨b,off,cap',c,ty,fz,e1,e2,e3,e4,e5,e6⟩
 ·rcases hnil with hnil|⟨hf,_⟩
  ·cases hnil;have:xs=[]:=by simpa using hroom
   subst this;obtain⟨G',I',K',H',A'⟩:=app_nil I hn tie.agg tie.cs;exact⟨_,_,G',hrun,I',K',by simpa using H',A'⟩
  · exact False.elim hf
 ·cases e1;have hb:G.own b=some (.tmp K []):=e2;obtain⟨c1,ty1,fz1,k1,k2⟩:=I.cells b _ hb;rw[e3]at k1;cases k1;have hle:(l.length+xs.length)*tie.cs.length<=cap*tie.cs.length:=Nat.mul_le_mul_right _ hroom;rw[Nat.add_mul]at hle;have hcl:cv.toList.length=xs.length*tie.cs.length:=by simpa using s3
  have hfit:off+l.length*tie.cs.length+cv.toList.length<=c.size:=by rw[hcl];omega
  have hst:=qej (P:=P) (w:=w) (o:=off+l.length*tie.cs.length) e3 k2 hfit s6;simp only at hrun;rw[qc3,hsz,hst,Result.andThen_ok]at hrun;obtain⟨I3,K3⟩:=qzw (c':=putA c (off+l.length*tie.cs.length) cv.toList) I hb e3 (qbb _ _ _);have hother:∀(b2 k2:Nat)(q:Path),G.own b2=some (.tmp k2 q)->(k2≠K\/q≠[])->(putC w b (putA c (off+l.length*tie.cs.length) cv.toList)).heap[b2]? =w.heap[b2]? :=by intro b2 k2 q hb2 hne;refine qdy w _ λhh=>?_;subst hh;rw[hb]at hb2;cases hb2;rcases hne with hne|hne<;>exact hne rfl
  obtain⟨G',I',K',H',A'⟩:=qws (O:=off) (C:=cap) (l:=l) (xs:=xs) I3 hn hb (qcr w e3) hroom (by rw[qbb];exact e5) (λi hi=>by
   have hE:=(qa5 l 0).1 e6 i hi;simp only[Nat.zero_add]at hE;refine ElemRep.move (M:=G.own.t K) (M':=G.own.t K) (π:=[]) (π':=[]) (i:=i) (i':=i) (λj=>⟨id,λb2 ρ hb2=>⟨hb2,hother b2 K _ hb2 (.inr (by simp))⟩⟩) (λj hj=>?_) hE;have:(i+1)*tie.cs.length<=l.length*tie.cs.length:=Nat.mul_le_mul_right _ hi;rw[Nat.add_mul]at this;exact qfk _ _ _ _ (by omega)) (λi hi=>by
   refine ElemRep.move (M:=G.own.t (K+1)) (M':=G.own.t (K+1)) (π:=[]) (π':=[]) (i:=i) (i':=i) (λj=>⟨id,λb2 ρ hb2=>⟨hb2,hother b2 (K+1) _ hb2 (.inl (by omega))⟩⟩) (λj hj=>?_) (s4 i hi);have:(i+1)*tie.cs.length<=xs.length*tie.cs.length:=Nat.mul_le_mul_right _ hi;rw[Nat.add_mul]at this;have hlt:i*tie.cs.length+j<cv.toList.length:=by rw[hcl];omega
   have:=qhb cv.toList c (off+l.length*tie.cs.length) (i*tie.cs.length+j) hlt hfit;rw[show off+(l.length+i)*tie.cs.length+j=off+l.length*tie.cs.length+(i*tie.cs.length+j)by rw[Nat.add_mul];omega,this,Array.getElem_toList];exact(Array.getElem?_eq_getElem _).symm) hok s5
  exact⟨_,_,G',hrun,I',K3.trans K',H',A'⟩
theorem qyy(O:EnvOk P E){w1:World}(hw1:w1={w with drawn:=w.drawn+1})(I:Inv w0 S0 w1 G h)(hn:¬G.al n){t:Nat}{m:Bool}{cs:List CT}(ht:E.ct t=some (.sl m cs)){ts:Array Nat}{u:TypeId}(h0:ts[0]? =some t)(hap:apArg E ts=true){K:Nat}{base:Option Addr}{cap:Nat}{x':Value}{l xs:List T}(H:RowRep w1 (G.own.t K) [] m cs (.slice base l.length cap) l)(hs:SrcOk P w1 G (K+1) m cs x' xs)(hok:okL m cs l=true)(hroom:¬l.length+xs.length<=cap)(hlim:l.length+xs.length<=LIM):AppOk P w0 S0 w w1 G h n m cs l xs (Builtin.append_ ts u #[.slice base l.length cap,x']):=by
 obtain⟨e,tie,hu,hty,rfl,rfl⟩:=O.ct_sl ht;obtain⟨inf,_,z,hi,_,hsz,hby,hiz,hzz,_,_,_⟩:=tyOk (O.ty _ _ hty);obtain⟨cv,s1,s2,s3,s4,s5,s6⟩:=hs;obtain⟨co,f1,f2,f3⟩:=qjy (P:=P) H.sl;have hzl:z.cells.size=tie.cs.length:=by simpa using qb3 hzz
 obtain⟨newCap,hnc,hrun⟩:=qq1 (u:=u) h0 hu hi hiz (qs2 O hap) (base:=base) (sLen:=l.length) (sCap:=cap) (s1 w) hroom hby hlim hw1 (by rw[hsz];exact f1) (by rw[hsz];exact s2);obtain⟨I3,K3⟩:=qqo I K [] (co++cv++Builtin.zeroCells z.cells (newCap-(l.length+xs.length))) e;have hlt:∀(b2:Nat)(x:Lab),G.own b2=some x->b2≠w1.heap.size:=λb2 x hb2=>Nat.ne_of_lt (I.ownLt hb2);have hkeep:∀(k2 b2:Nat)(q:Path),G.own b2=some (.tmp k2 q)->(G.giv w1.heap.size (.tmp K [])).own b2=some (.tmp k2 q):=λk2 b2 q hb2=>by show upd G.own w1.heap.size _ b2=_;rw[upd_ne _ _ (hlt b2 _ hb2)];exact hb2
 have hsize:(co++cv++Builtin.zeroCells z.cells (newCap-(l.length+xs.length))).size=newCap*tie.cs.length:=by simp only[Array.size_append,f2,s3,Builtin.zeroCells,Array.size_map,Array.size_range,hzl];rw[<-Nat.add_mul,<-Nat.add_mul];congr 1;omega
 obtain⟨G',I',K',H',A'⟩:=qws (B:=w1.heap.size) (O:=0) (C:=newCap) (l:=l) (xs:=xs) (m:=tie.agg) (cs:=tie.cs) I3 hn (by show upd G.own _ _ _=_;rw[upd_same]) (qdm _ _ _) hnc (by rw[hsize];omega) (λi hi=>by
  have hE:=f3 i hi;refine ElemRep.move (M:=G.own.t K) (M':=(G.giv w1.heap.size (.tmp K [])).own.t K) (π:=[]) (π':=[]) (i:=0+i) (i':=i) (λj=>⟨λhf=>False.elim hf,λb2 ρ hb2=>⟨?_,qbx _ _ _ (I.ownLt hb2)⟩⟩) (λj hj=>?_) hE;· rw[Nat.zero_add]at hb2;exact hkeep K b2 _ hb2
  · have:(i+1)*tie.cs.length<=l.length*tie.cs.length:=Nat.mul_le_mul_right _ hi;rw[Nat.add_mul]at this;rw[Nat.zero_add,Array.getElem?_append_left (by simp only[Array.size_append,f2];omega),Array.getElem?_append_left (by rw[f2];omega)]) (λi hi=>by
  refine ElemRep.move (M:=G.own.t (K+1)) (M':=(G.giv w1.heap.size (.tmp K [])).own.t (K+1)) (π:=[]) (π':=[]) (i:=i) (i':=i) (λj=>⟨λhf=>False.elim hf,λb2 ρ hb2=>⟨hkeep (K+1) b2 _ hb2,qbx _ _ _ (I.ownLt hb2)⟩⟩) (λj hj=>?_) (s4 i hi);have:(i+1)*tie.cs.length<=xs.length*tie.cs.length:=Nat.mul_le_mul_right _ hi;rw[Nat.add_mul]at this;rw[Nat.zero_add,Nat.add_mul,Array.getElem?_append_left (by simp only[Array.size_append,f2,s3];omega),Array.getElem?_append_right (by rw[f2];omega)];congr 1;rw[f2];omega) hok s5
 exact⟨_,_,G',hrun,I',K3.trans K',H',A'⟩
end
section
variable{P:Program}{E:Env}{w0 w:World}{S0:Nat->Prop}{G:Gh}{h h1 h2:Hp}{n:Nat}
theorem SrcOk.moved{G1 G2:Gh}{k:Nat}{m:Bool}{cs:List CT}{x':Value}{xs:List T}(H:SrcOk P w G1 k m cs x' xs)(ht:∀b p,G1.own b=some (.tmp k p)->G2.own b=some (.tmp k p)):SrcOk P w G2 k m cs x' xs:=by obtain⟨cv,s1,s2,s3,s4,s5,s6⟩:=H;exact⟨cv,s1,s2,s3,λi hi=>ElemRep.move (M:=G1.own.t k) (M':=G2.own.t k) (π:=[]) (π':=[]) (i:=i) (i':=i) (λj=>⟨λhf=>False.elim hf,λb ρ hb=>⟨ht b _ hb,rfl⟩⟩) (λ_ _=>rfl) (s4 i hi),s5,s6⟩
def Dest(h1 h2:Hp)(m:Bool)(cs:List CT)(d:AV)(l:List T):Prop:=(∃m0 cs0,d=.nl m0 cs0/\l=[]/\h2=h1)\/∃r p v sub l0,d=.rf r p v sub/\rowAt h1 r p v=some (m,cs,l0)/\l=subL l0 sub/\h2=killR h1 r p/\hchk h1 (.rf r p v sub) m cs l=true
theorem qwr(I:Inv w0 S0 w G h){m:Bool}{cs:List CT}{d x:AV}{d' x':Value}(hd:AVRep w G h d' d)(hx:AVRep w G h x' x){xs l:List T}{b:Bool}(hs:qec h m cs x=some (xs,h1,b))(hb:b=true)(hdest:Dest h1 h2 m cs d l):∃K G2,Inv w0 S0 w G2 h2/\Keep w w G G2 h h2/\RowRep w (G2.own.t K) [] m cs d' l/\SrcOk P w G2 (K+1) m cs x' xs/\okL m cs l=true/\G2.al=G.al:=by
 obtain⟨K,hK⟩:=I.freshTmp;obtain⟨G1,I1,K1,S1,T1,A1⟩:=qte (P:=P) I (hK (K+1) (by omega)) hx hs hb;have hd1:=K1.av d hd;rcases hdest with⟨m0,cs0,rfl,rfl,rfl⟩|⟨r,p,v,sub,l0,rfl,hr,rfl,rfl,hc⟩
 · have hd1:d'=_:=hd1;subst hd1;exact⟨K,G1,I1,K1,.inl ⟨.inl rfl,rfl⟩,S1,rfl,A1⟩
 · have hfresh:∀b p,G1.own b≠some (.tmp K p):=λb p hh=>hK K (Nat.le_refl _) b p ((T1 K b p (by omega)).2 hh);obtain⟨G2,I2,K2,R2,T2,A2⟩:=qi6 I1 hfresh hd1 hr;exact⟨K,G2,I2,K1.trans K2,R2,S1.moved λb p hb=>(T2 (K+1) b p (by omega)).1 hb,qfp I1 hd1 hr hc,A2.trans A1⟩
theorem qwt(O:EnvOk P E)(I:Inv w0 S0 w G h)(hn:¬G.al n){t:Nat}{m:Bool}{cs:List CT}(ht:E.ct t=some (.sl m cs)){ts:Array Nat}(u:TypeId)(h0:ts[0]? =some t)(hap:apArg E ts=true){d x:AV}{d' x':Value}(hd:AVRep w G h d' d)(hx:AVRep w G h x' x){xs l:List T}{b:Bool}(hs:qec h m cs x=some (xs,h1,b))(hb:b=true)(hdest:Dest h1 h2 m cs d l)(hlim:l.length+xs.length<=LIM):Ran P w0 S0 w G h n (valM (Builtin.append_ ts u #[d',x'])) (.rf n [] 0 none) (upd h2 n (.row m cs (l++xs) 0 false)):=by
 obtain⟨K,G2,I2,K2,R2,S2,O2,A2⟩:=qwr (P:=P) I hd hx hs hb hdest;obtain⟨base,cap,rfl⟩:=R2.sl.len;have fin:∀{w1:World}{G2:Gh},Keep w w1 G G2 h h2->G2.al=G.al->AppOk P w0 S0 w w1 G2 h2 n m cs l xs (Builtin.append_ ts u #[.slice base l.length cap,x'])->Ran P w0 S0 w G h n (valM (Builtin.append_ ts u #[.slice base l.length cap,x'])) (.rf n [] 0 none) (upd h2 n (.row m cs (l++xs) 0 false)):=by rintro w1 G2 hk ha ⟨v',w',G',hrun,I',K',H',A'⟩;exact⟨v',w',G',.inl (by simp only[Sem.run_bind,hrun,Result.andThen_ok];rfl),I',hk.trans K',H',λr hr=>by rw[<-ha];exact A' r hr⟩
 by_cases hroom:l.length+xs.length<=cap;· exact fin K2 A2 (qyx O I2 (by rw[A2];exact hn) ht h0 hap R2 S2 O2 hroom)
 · obtain⟨I1,K1⟩:=qod I (w.drawn+1);obtain⟨K',G3,I3,K3,R3,S3,O3,A3⟩:=qwr (P:=P) I1 (K1.av d hd) (K1.av x hx) hs hb hdest;exact fin (K1.trans K3) A3 (qyy O rfl I3 (by rw[A3];exact hn) ht h0 hap R3 S3 O3 hroom hlim)
theorem app_snd(O:EnvOk P E)(I:Inv w0 S0 w G h)(hn:¬G.al n){t:Nat}{m:Bool}{cs:List CT}(ht:E.ct t=some (.sl m cs)){ts:Array Nat}(u:TypeId)(h0:ts[0]? =some t)(hap:apArg E ts=true){d x:AV}{d' x':Value}(hd:AVRep w G h d' d)(hx:AVRep w G h x' x):(appS n h m cs d x).Snd P w0 S0 w G h n (valM (Builtin.append_ ts u #[d',x'])):=by
 unfold appS;split
 ·rename_i xs h1 b hs;cases d with
  |nl m0 cs0=>
   intro hb hl;have hl:xs.length<=LIM:=by simpa using hl
   exact qwt (h2:=h1) (l:=[]) O I hn ht u h0 hap hd hx hs hb (.inl ⟨_,_,rfl,rfl,rfl⟩) (by simpa using hl)
  |rf r p v sub=>
   simp only;cases hc:cont h1 (.rf r p v sub)with
   |none=>trivial
   |some q=>
    obtain⟨m',cs',l0,hr,rfl⟩:=qer hc;simp only;cases hq:CT.beq (.sl m cs) (.sl m' cs')with
    |false=>trivial
    |true=>cases CT.beq_eq hq;intro hb hh hl;exact qwt O I hn ht u h0 hap hd hx hs hb (.inr ⟨r,p,v,sub,l0,rfl,hr,rfl,rfl,hh⟩) (by simpa using hl)
  |_=>trivial
 · trivial
end
end Go.Proofs.YtcfpgocffglbhaaGreatDoorV
