import PyProof.Rows.All
import PySem.Syntax
import PySem.Value
import PySem.Builtin.Bytes.Common
import PyProof.StrBlockL
import PyProof.StrReplace2
import Wide.All
import OpenK.AllK
import Wide.FinOn
import PyProof.Cells
import PyProof.CompFree
import KE.KEqDict
import PyProof.NeKinds
import KE.KxBytes
import PyProof.Rows.TupAdd
import PyProof.Rows.ListMul
import PyProof.NoPylong
import PyProof.ListIndexNeg
import PyProof.LetGo
import PyProof.SliceList
import PyProof.SliceSyntax
import KE.KBytesCut
import KE.KRevSl
import PySem.Builtin.Bytes.W1Methods
import KE.KIsBytes
import KE.BytesMake
import KE.KDictSum
import PyProof.ListRange
import PyProof.TupleOfSeq
import PyProof.CallStr
import PyProof.Conv_int
import PyProof.WalkInts
import PyProof.Rows.SortShell
import PyProof.DictCalls
import PyProof.CallRoads3
import PyProof.NsCount
import PyProof.TupleIter
import PyProof.Rows.TupAssign
import PyProof.RulesMatch
import PyProof.WalksMore
import PyProof.DictWalks
import PyProof.StrWalks
import PyProof.WalksEnum
import PyProof.EnumMake
import PyProof.ForRange
import KE.KBytesWalk
import PyProof.CompMap
import PyProof.Rows.TupDisplay
import KE.KSortTup
import KE.KDictOf
import PyProof.AttrMissSeq
import PyProof.MeetsStr3
import OpenK.ZHead
import PyProof.TableCode
import PySem.Challenge.RW_nt0069_01
set_option Elab.async false
set_option linter.unusedVariables false
set_option linter.unusedSectionVars false
set_option bootstrap.genMatcherCode false
set_option genSizeOf false
set_option backward.match.sparseCases false
set_option maxRecDepth 100000
set_option tactic.hygienic false
namespace Mine.Internal
open PySem (Str Operator CmpOp)
theorem oN{α β:Sort _}{P:α->β->Prop}{G:Prop}(h:∃a b,P a b)(k:∀a b,P a b->G):G:=h.elim λa z=>z.elim λb z=>k a b z
theorem Bk{α β γ:Sort _}{P:α->β->γ->Prop}{G:Prop}(h:∃a b c,P a b c)(k:∀a b c,P a b c->G):G:=h.elim λa z=>oN z λb c z=>k a b c z
theorem uU{α β γ δ:Sort _}{P:α->β->γ->δ->Prop}{G:Prop}(h:∃a b c d,P a b c d)(k:∀a b c d,P a b c d->G):G:=h.elim λa z=>Bk z λb c d z=>k a b c d z
theorem uJ{n i k:Nat}(h:k=n+1 - i)(hi:i<n):n+1 - (i+1)<k:=h▸Nat.sub_lt_sub_left (Nat.lt_succ_of_lt hi) (Nat.lt_succ_self i)
theorem O4{a b:Int}:(if a<b then b - a else 0)=((b - a).toNat:Int):=by split<;>lia
theorem PI{n:Int}{l:Nat}(h1:n=-1)(h2:0<l):l - 1<l/\n<0/\-(l:Int)<=n/\l - 1=(n+l).toNat:=by subst h1;refine⟨?_,?_,?_,?_⟩<;>lia
theorem O7{i:Int}{n:Nat}(h1:n<1000000)(h2:0<=i)(h3:i<=n):-(2 ^ 63)<=i/\i<2 ^ 63/\i.toNat<=n:=⟨Int.le_trans (by decide) h2,Int.lt_of_le_of_lt h3 (Int.lt_trans (Int.ofNat_lt.mpr h1) (by decide)),Int.toNat_le.mpr h3⟩
inductive Key where
 | i (n:Int)
 | s (x:Str)
 deriving DecidableEq
mutual
inductive O where
 | none
 | bool (b:Bool)
 | int (i:Int)
 | str (s:Str)
 | bytes (b:List UInt8)
 | tup (vs:List O)
 | ao (c:AC)
 | ref (l:Nat)
inductive AC where
 | list (vs:List O)
 | dict (es:List (Key×O))
 | inst (c:Nat) (fs:List (Key×O))
end
abbrev HH:=List AC
inductive VS where
 | val (v:O)
 | own (c:AC)
inductive ER where
 | val (v:O)
 | own (c:AC)
 | loc (i:Nat)
structure St where
 σ:List (Option VS)
 lk:List Bool
 κ:List (List (Option O))
 H:HH
abbrev FT:=Nat->List VS->HH->(VS->List VS->HH->Prop)->Prop
set_option genInjectivity false
inductive BF where
 | ord | chr | len | sorted | bytes | str | ic | max | tuple | dict | all | any | int | iX
set_option genCtorIdx false
inductive MN where
 | join | split | strip | find | startswith | endswith | index | get | append | insert | pop | update
 | user (m:Nat)
mutual
inductive ME where
 | bz | fP (b:Bool) | aj (i:Int) | ai (s:Str) | aC (l:List UInt8)
 | slot (i:Nat) | ay (d i:Nat) | glob (k:Nat)
 | bin (op:Operator) (a b:ME)
 | neg (a:ME) | not (a:ME) | and (a b:ME) | or (a b:ME) | ite (t a b:ME)
 | cmp (op:CmpOp) (a b:ME) | fS (a b c:ME)
 | bS (a:ME) | bF (a:ME)
 | call (f:Nat) (as:aW) | new (c:Nat) (as:aW) | aG (b:BF) (as:aW) | aw (m:MN) (o:ME) (as:aW)
 | attr (o:ME) (a:Str) | idx (o i:ME) | bu (o lo hi:ME) | rev (o:ME) | repl (o:ME) (a t:Str)
 | tup (es:aW) | lst (es:aW) | dct (es:aW) | qR
 | comp (n:Nat) (t:MT) (it:MI) (c:aW) (e:ME)
 | omit
inductive aW where
 | nil
 | cons (e:ME) (r:aW)
inductive MI where
 | of (e:ME)
 | eF (e:ME)
 | xK (a b:ME)
 | enum (e:ME)
inductive MT where
 | slot (i:Nat)
 | ay (i:Nat)
 | idx (o i:ME)
 | attr (o:ME) (a:Str)
 | tup (ts:bI)
inductive bI where
 | nil
 | cons (t:MT) (r:bI)
end
noncomputable def bI.len:bI->Nat
 | .nil=>0
 | .cons _ r=>r.len+1
noncomputable def bI.nR:bI->bI->bI
 | .nil,a=>a
 | .cons t r,a=>bI.nR r (.cons t a)
mutual
inductive MS where
 | assign (t:MT) (e:ME)
 | bK (sw:Bool) (ts:bI) (es:aW)
 | aug (i:Nat) (e:ME)
 | aD (t:ME) (b o:bj)
 | while (t:ME) (b:bj)
 | for (t:MT) (it:MI) (b:bj)
 | ret (e:ME)
 | expr (e:ME)
 | try (b:bj)
 | stuck
inductive bj where
 | nil
 | cons (s:MS) (r:bj)
end
set_option genCtorIdx true
noncomputable def ax:Nat:=1000000
noncomputable def keyOf:O->Option Key
 | .int n=>some (.i n)
 | .str x=>some (.s x)
 | _=>none
noncomputable def fJ:Key->O
 | .i n=>.int n
 | .s x=>.str x
noncomputable def bt(es:List (Key×O))(k:Key):Option O:=(es.find? λe=>e.1=k).map (·.2)
noncomputable def cg(es:List (Key×O))(k:Key):Bool:=es.any λe=>e.1=k
noncomputable def dput(es:List (Key×O))(k:Key)(v:O):List (Key×O):=
 if cg es k then es.map (λe=>if e.1=k then(e.1,v) else e) else es++[(k,v)]
section
variable{β:Type}
noncomputable def rI(v:O)(f:Int->Option β):Option β:=match v with
 | .int n=>f n
 | _=>none
noncomputable def rS(v:O)(f:Str->Option β):Option β:=match v with
 | .str n=>f n
 | _=>none
noncomputable def rB(v:O)(f:List UInt8->Option β):Option β:=match v with
 | .bytes n=>f n
 | _=>none
noncomputable def rT(v:O)(f:List O->Option β):Option β:=match v with
 | .tup n=>f n
 | _=>none
noncomputable def rF(v:O)(f:AC->Option β):Option β:=match v with
 | .ao n=>f n
 | _=>none
noncomputable def cL(c:AC)(f:List O->Option β):Option β:=match c with
 | .list n=>f n
 | _=>none
noncomputable def cD(c:AC)(f:List (Key×O)->Option β):Option β:=match c with
 | .dict n=>f n
 | _=>none
noncomputable def rL(v:O)(f:List O->Option β):Option β:=rF v λc=>cL c f
noncomputable def rD(v:O)(f:List (Key×O)->Option β):Option β:=rF v λc=>cD c f
noncomputable def r0(as:List O)(x:Option β):Option β:=match as with
 | []=>x
 | _::_=>none
noncomputable def rc(as:List O)(f:O->List O->Option β):Option β:=match as with
 | []=>none
 | a::r=>f a r
noncomputable def r1(as:List O)(f:O->Option β):Option β:=rc as λa r=>r0 r (f a)
noncomputable def r2(as:List O)(f:O->O->Option β):Option β:=rc as λa r=>r1 r (f a)
variable{r:β}{v:O}{as:List O}{c:AC}
theorem sX{f:Int->Option β}(h:rI v f=some r):∃n,v=.int n/\f n=some r:=by cases v<;>first | exact⟨_,rfl,h⟩ | exact nomatch h
theorem xI{f:Str->Option β}(h:rS v f=some r):∃n,v=.str n/\f n=some r:=by cases v<;>first | exact⟨_,rfl,h⟩ | exact nomatch h
theorem xH{f:List UInt8->Option β}(h:rB v f=some r):∃n,v=.bytes n/\f n=some r:=by cases v<;>first | exact⟨_,rfl,h⟩ | exact nomatch h
theorem sZ{f:List O->Option β}(h:rT v f=some r):∃n,v=.tup n/\f n=some r:=by cases v<;>first | exact⟨_,rfl,h⟩ | exact nomatch h
theorem sW{f:AC->Option β}(h:rF v f=some r):∃n,v=.ao n/\f n=some r:=by cases v<;>first | exact⟨_,rfl,h⟩ | exact nomatch h
theorem oF{f:List O->Option β}(h:cL c f=some r):∃n,c=.list n/\f n=some r:=by cases c<;>first | exact⟨_,rfl,h⟩ | exact nomatch h
theorem uw{f:List (Key×O)->Option β}(h:cD c f=some r):∃n,c=.dict n/\f n=some r:=by cases c<;>first | exact⟨_,rfl,h⟩ | exact nomatch h
theorem sY{f:List O->Option β}(h:rL v f=some r):∃n,v=.ao (.list n)/\f n=some r:=by
 obtain⟨c,rfl,h⟩:=sW h
 obtain⟨n,rfl,h⟩:=oF h
 exact⟨n,rfl,h⟩
theorem Gh{f:List (Key×O)->Option β}(h:rD v f=some r):∃n,v=.ao (.dict n)/\f n=some r:=by
 obtain⟨c,rfl,h⟩:=sW h
 obtain⟨n,rfl,h⟩:=uw h
 exact⟨n,rfl,h⟩
theorem Tq{x:Option β}(h:r0 as x=some r):as=[]/\x=some r:=by cases as<;>first | exact⟨rfl,h⟩ | exact nomatch h
theorem Gf{f:O->Option β}(h:r1 as f=some r):∃a,as=[a]/\f a=some r:=by
 cases as with
 | nil=>exact nomatch h
 | cons a q=>obtain⟨rfl,h⟩:=Tq (as:=q) h;exact⟨a,rfl,h⟩
theorem Tr{f:O->O->Option β}(h:r2 as f=some r):∃a b,as=[a,b]/\f a b=some r:=by
 cases as with
 | nil=>exact nomatch h
 | cons a q=>obtain⟨b,rfl,h⟩:=Gf (as:=q) h;exact⟨a,b,rfl,h⟩
end
noncomputable def dW(f:O->O->Option Bool):List O->List O->Option Bool
 | [],[]=>some true
 | a::r,b::q=>match f a b,dW f r q with
  | some x,some y=>some (x&&y)
  | _,_=>none
 | _,_=>some false
noncomputable def kN:O->Nat
 | .none=>0
 | .int _=>1
 | .str _=>2
 | .tup _=>3
 | .bytes _=>4
 | .bool _=>5
 | .ao _=>6
 | .ref _=>7
noncomputable def cQ(i j:Nat):Bool:=(Nat.blt i 4&&Nat.blt j 4)||(Nat.beq i 4&&Nat.beq j 0)||(Nat.beq i 0&&Nat.beq j 4)
noncomputable def rO(v:O)(f:Bool->Option Bool):Option Bool:=match v with
 | .bool b=>f b
 | _=>none
noncomputable def td(f:O->O->Option Bool)(a b:O):Option Bool:=match a with
 | .none=>some true
 | .int x=>rI b λy=>some (x==y)
 | .str x=>rS b λy=>some (x==y)
 | .tup x=>rT b λy=>dW f x y
 | .bytes x=>rB b λy=>some (x==y)
 | .bool x=>rO b λy=>some (x==y)
 | .ao x=>cL x λx=>rL b λy=>dW f x y
 | .ref _=>none
noncomputable def eU:Nat->O->O->Option Bool
 | 0,_,_=>none
 | n+1,a,b=>bif Nat.beq (kN a) (kN b) then td (eU n) a b else bif cQ (kN a) (kN b) then some false else none
noncomputable def dU(a b:O):Option Bool:=eU 6 a b
noncomputable def X1:AC->Option Bool
 | .list vs=>some (vs.length != 0)
 | .dict es=>some (es.length != 0)
 | _=>none
noncomputable def gX:O->Option Bool
 | .none=>some false
 | .bool b=>some b
 | .int i=>some (i != 0)
 | .str s=>some (s.length != 0)
 | .bytes b=>some (b.length != 0)
 | .tup vs=>some (vs.length != 0)
 | .ao c=>X1 c
 | .ref _=>none
noncomputable def Hq:Option (Option VS)->Option O
 | some (some (.own c))=>some (.ao c)
 | some (some (.val v))=>some v
 | _=>none
noncomputable def view(r:ER)(st:St):Option O:=match r with
 | .val v=>some v
 | .own c=>some (.ao c)
 | .loc i=>Hq st.σ[i]?
noncomputable def small(i:Int):Bool:=i.natAbs<2 ^ 62
noncomputable def ft(n:Nat)(i:Int):Nat:=(max 0 (min (if i<0 then i+n else i) n)).toNat
noncomputable def fu{α:Type}(l:List α)(lo hi:Option Int):List α:=(l.drop (lo.elim 0 (ft l.length))).take (hi.elim l.length (ft l.length) - lo.elim 0 (ft l.length))
noncomputable def zl(a b:O):Option ER:=match a with
 | .int x=>rI b λy=>some (.val (.int (x+y)))
 | .bytes x=>rB b λy=>if x.length+y.length<=ax then some (.val (.bytes (x++y))) else none
 | .str x=>rS b λy=>if x.length+y.length<=ax then some (.val (.str (x++y))) else none
 | .tup x=>rT b λy=>if x.length+y.length<=ax then some (.val (.tup (x++y))) else none
 | .ao x=>cL x λx=>rL b λy=>if x.length+y.length<=ax then some (.own (.list (x++y))) else none
 | _=>none
noncomputable def E7(a b:O):Option ER:=match a with
 | .int x=>rI b λy=>if small x&&small y then some (.val (.int (x*y))) else none
 | .ao x=>cL x λx=>r1 x λx=>rI b λn=>if 0<=n&&n<=ax then some (.own (.list (List.replicate n.toNat x))) else none
 | _=>none
noncomputable def wz(op:Operator)(x y:Int):Option Int:=match op with
 | .Sub=>some (x - y)
 | .FloorDiv=>if 0<y/\y<1000000000 then some (x / y) else none
 | .Mod=>if 0<y then some (x % y) else none
 | .Pow=>if x=10&&y=9 then some 1000000000 else none
 | .RShift=>if y=4 then some (x / 16) else none
 | .BitAnd=>if y=15&&x≥0 then some (x % 16) else none
 | _=>none
noncomputable def iF(op:Operator)(a b:O):Option ER:=match op with
 | .Add=>zl a b
 | .Mult=>E7 a b
 | op=>rI a λx=>rI b λy=>(wz op x y).map λn=>.val (.int n)
noncomputable def gv(x:O):List O->Option Bool
 | []=>some false
 | y::r=>match dU y x,gv x r with
  | some a,some b=>some (a||b)
  | _,_=>none
noncomputable def O5(x:O)(c:AC):Option Bool:=match c with
 | .list vs=>gv x vs
 | .dict es=>(keyOf x).map (cg es)
 | _=>none
noncomputable def wt(x c:O):Option Bool:=match c with
 | .tup vs=>gv x vs
 | .ao c=>O5 x c
 | _=>none
noncomputable def pS(f:Int->Int->Bool)(a b:O):Option Bool:=rI a λx=>rI b λy=>some (f x y)
noncomputable def w7(a b:O)(c:AC):Option Bool:=match c with
 | .dict x=>rD b λl=>match l with
  | []=>some (!x.isEmpty)
  | _::_=>none
 | _=>(dU a b).map not
noncomputable def w6(a b:O):Option Bool:=match a with
 | .ao c=>w7 a b c
 | _=>(dU a b).map not
noncomputable def cz(op:CmpOp)(a b:O):Option Bool:=match op with
 | .Eq=>dU a b
 | .NotEq=>w6 a b
 | .In=>wt a b
 | .NotIn=>(wt a b).map not
 | .Lt=>pS (λx y=>decide (x<y)) a b
 | .LtE=>pS (λx y=>decide (x<=y)) a b
 | .Gt=>pS (λx y=>decide (x > y)) a b
 | .GtE=>pS (λx y=>decide (x≥y)) a b
 | _=>none
noncomputable def j8:O->Option Int
 | .int n=>some n
 | .tup (.int n::_)=>some n
 | _=>none
noncomputable def gf:List O->Option (List (Int×O))
 | []=>some []
 | v::r=>match j8 v,gf r with
  | some k,some l=>some ((k,v)::l)
  | _,_=>none
noncomputable def iT(x:Int×O):List (Int×O)->List (Int×O)
 | []=>[x]
 | y::r=>if x.1<y.1 then x::y::r else y::iT x r
noncomputable def d8:List (Int×O)->List (Int×O)
 | []=>[]
 | x::r=>iT x (d8 r)
noncomputable def allInts:List O->Bool
 | []=>true
 | .int _::r=>allInts r
 | _=>false
noncomputable def mx:List O->Bool
 | []=>true
 | .tup _::r=>mx r
 | _=>false
noncomputable def gU(vs:List O):Option (List O):=match gf vs with
 | some l=>if (l.map (·.1)).Nodup/\(l.length<64/\allInts vs=true∨l.length<=5/\mx vs=true) then some ((d8 l).map (·.2)) else none
 | none=>none
noncomputable def dy:List UInt8->List UInt8->Bool
 | [],_=>true
 | _::_,[]=>false
 | a::r,b::q=>a==b&&dy r q
noncomputable def split1(c:UInt8):List UInt8->List (List UInt8)
 | []=>[[]]
 | a::r=>if a==c then[]::split1 c r else match split1 c r with
  | []=>[[a]]
  | p::q=>(a::p)::q
noncomputable def splitM(b sep:List UInt8):List (List UInt8):=
 let places:=(PySem.Builtin.Bytes.occurrences b.toArray sep.toArray 0 b.toArray.size).take (b.toArray.size+1)
 if places.isEmpty then[b] else(PySem.Builtin.Bytes.between b.toArray sep.toArray.size places).map (·.toList)
noncomputable def qd(b sep:List UInt8):Option (List (List UInt8)):=match sep with
 | []=>none
 | [c]=>some (split1 c b)
 | _=>if (splitM b sep).length<=ax/\∀x∈splitM b sep,x.length<=ax then some (splitM b sep) else none
noncomputable def de(b cs:List UInt8):List UInt8:=((b.dropWhile cs.contains).reverse.dropWhile cs.contains).reverse
noncomputable def findB(b sub:List UInt8):Int:=match sub with
 | [c]=>match b.findIdx? (·==c) with | some i=>i | none=>-1
 | _=>-2
noncomputable def aP(sep:List UInt8):List (List UInt8)->List UInt8
 | []=>[]
 | [x]=>x
 | x::r=>x++sep++aP sep r
noncomputable def jv:List O->Option (List (List UInt8))
 | []=>some []
 | .bytes b::r=>(jv r).map (b::·)
 | _=>none
noncomputable def qf:List O->Option (List Str)
 | []=>some []
 | .str b::r=>(qf r).map (b::·)
 | _=>none
noncomputable def pQ:List O->Option (List UInt8)
 | []=>some []
 | .int n::r=>if 0<=n&&n<256 then(pQ r).map (UInt8.ofNat n.toNat::·) else none
 | _=>none
noncomputable def mG:List O->Option (List Bool)
 | []=>some []
 | .bool n::r=>(mG r).map (n::·)
 | _=>none
noncomputable def pV:List O->Option (List (Key×O))
 | []=>some []
 | a::r=>rT a λl=>r2 l λk v=>(keyOf k).bind λk=>(pV r).map ((k,v)::·)
noncomputable def jZ:List O->Option (List (Key×O))
 | []=>some []
 | k::v::r=>match keyOf k,jZ r with
  | some k,some l=>some ((k,v)::l)
  | _,_=>none
 | _=>none
noncomputable def dN(n:Nat):Str:=PySem.Str.ofString (toString n)
noncomputable def i7(s a:Str):List Nat:=PySem.Builtin.Str.occurrences s a 0 s.length 1
noncomputable def replaceA(s a t:Str):Str:=if (i7 s a).isEmpty then s else PySem.Builtin.Str.glued t (PySem.Builtin.Str.partsBetween s (i7 s a) a.length)
noncomputable def Tv(s a t:Str):Option ER:=if (a.length==0)=false/\(a==t)=false/\s.length+(i7 s a).length*t.length<=PySem.sizeLine/\(replaceA s a t).length<=ax then some (.val (.str (replaceA s a t))) else none
noncomputable def yD:MN->Bool
 | .join=>true
 | .split=>true
 | _=>false
noncomputable def oneChar(n:Nat):Str:=⟨#[n]⟩
noncomputable def JG(a:O):Option ER:=match a with
 | .str s=>some (.val (.int s.length))
 | .bytes s=>some (.val (.int s.length))
 | .tup s=>some (.val (.int s.length))
 | .ao c=>match c with
  | .list s=>some (.val (.int s.length))
  | .dict s=>some (.val (.int s.length))
  | _=>none
 | _=>none
noncomputable def JH(c:AC):Option ER:=match c with
 | .list vs=>(gU vs).map λl=>.own (.list l)
 | .dict es=>(gU (es.map λe=>fJ e.1)).map λl=>.own (.list l)
 | _=>none
noncomputable def zJ(v:O):Option ER:=match v with
 | .bool _=>some (.val (.bool true))
 | .ref _=>none
 | .ao c=>match c with
  | .inst _ _=>none
  | _=>some (.val (.bool false))
 | _=>some (.val (.bool false))
noncomputable def g6(f:BF)(as:List O):Option ER:=match f with
 | .ord=>r1 as λa=>rS a λs=>match s.cps.toList with | [n]=>some (.val (.int n)) | _=>none
 | .chr=>r1 as λa=>rI a λn=>if 0<=n&&n<128 then some (.val (.str (oneChar n.toNat))) else none
 | .len=>r1 as JG
 | .sorted=>r1 as λa=>rF a JH
 | .bytes=>r1 as λa=>rL a λvs=>(pQ vs).map λl=>.val (.bytes l)
 | .str=>r1 as λa=>rI a λn=>if 0<=n&&n<1000 then some (.val (.str (dN n.toNat))) else none
 | .ic=>r1 as zJ
 | .max=>r2 as λa b=>rI a λa=>rI b λb=>some (.val (.int (if a<b then b else a)))
 | .tuple=>r1 as λa=>rL a λvs=>some (.val (.tup vs))
 | .dict=>r1 as λa=>rL a λvs=>(pV vs).map λl=>.own (.dict (l.foldl (λd e=>dput d e.1 e.2) []))
 | .all=>r1 as λa=>rL a λvs=>(mG vs).map λl=>.val (.bool (l.all id))
 | .any=>r1 as λa=>rL a λvs=>(mG vs).map λl=>.val (.bool (l.any id))
 | .int=>r1 as λa=>rI a λn=>some (.val (.int n))
 | .iX=>r2 as λa b=>rI a λa=>rI b λb=>if small a&&small b&&b - a<=ax then some (.own (.list ((List.range (b - a).toNat).map λ(k:Nat)=>.int (a+(k:Int))))) else none
noncomputable def PW(sep:List UInt8)(vs:List O):Option ER:=(jv vs).bind λl=>if (aP sep l).length<=ax then some (.val (.bytes (aP sep l))) else none
noncomputable def PX(sep:Str)(vs:List O):Option ER:=(qf vs).bind λl=>if PySem.JoinOk sep l=true/\(PySem.Txt.join sep l).length<=ax then some (.val (.str (PySem.Txt.join sep l))) else none
noncomputable def PY(b sep:List UInt8):Option ER:=if b.length<ax then(qd b sep).map λl=>.own (.list (l.map .bytes)) else none
noncomputable def PZ(s t:Str):Option ER:=if (t.length==0)=false/\(PySem.Txt.split s t).length<=ax/\∀x∈PySem.Txt.split s t,x.length<=ax then some (.own (.list ((PySem.Txt.split s t).map .str))) else none
noncomputable def Gg(o:O)(f:List UInt8->Option ER)(g:Str->Option ER):Option ER:=match o with
 | .bytes b=>f b
 | .str s=>g s
 | _=>none
noncomputable def MX(es:List (Key×O))(as:List O):Option ER:=rc as λk r=>(keyOf k).bind λk=>match r with
 | []=>some (.val ((bt es k).getD .none))
 | d::r=>r0 r (some (.val ((bt es k).getD d)))
noncomputable def dH(m:MN)(o:O)(as:List O):Option ER:=match m with
 | .join=>r1 as λa=>rL a λvs=>Gg o (λsep=>PW sep vs) (λsep=>PX sep vs)
 | .split=>r1 as λa=>Gg o (λb=>rB a λsep=>PY b sep) (λs=>rS a λt=>PZ s t)
 | .strip=>r1 as λa=>rB a λcs=>rB o λb=>some (.val (.bytes (de b cs)))
 | .find=>r1 as λa=>rB a λsub=>rB o λb=>if sub.length=1 then some (.val (.int (findB b sub))) else none
 | .startswith=>r1 as λa=>rB a λp=>rB o λb=>some (.val (.bool (dy p b)))
 | .endswith=>r1 as λa=>rB a λp=>rB o λb=>some (.val (.bool (dy p.reverse b.reverse)))
 | .index=>r1 as λa=>rB a λcs=>rB o λb=>match cs with
  | [c]=>(b.findIdx? (·==c)).map λ(i:Nat)=>.val (.int (i:Int))
  | _=>none
 | .get=>rD o λes=>MX es as
 | _=>none
noncomputable def qL(m:MN)(c:AC)(as:List O):Option (AC×O):=match m with
 | .append=>cL c λvs=>r1 as λv=>if vs.length<ax then some (.list (vs++[v]),.none) else none
 | .insert=>cL c λvs=>r2 as λi v=>rI i λi=>if vs.length<ax&&0<=i&&i<=vs.length then some (.list (vs.take i.toNat++v::vs.drop i.toNat),.none) else none
 | .pop=>cL c λvs=>r0 as (vs.getLast?.map λv=>(.list vs.dropLast,v))
 | .update=>cD c λes=>r1 as λd=>rD d λds=>if es.length+ds.length<=ax then some (.dict (ds.foldl (λd e=>dput d e.1 e.2) es),.none) else none
 | _=>none
noncomputable def gb(c:AC)(i v:O):Option AC:=match c with
 | .list vs=>match i with
  | .int n=>if 0<=n&&n<vs.length then some (.list (vs.set n.toNat v)) else if n=-1&&0<vs.length then some (.list (vs.set (vs.length - 1) v)) else none
  | _=>none
 | .dict es=>(keyOf i).bind λk=>if es.length<ax then some (.dict (dput es k v)) else none
 | .inst _ _=>none
noncomputable def fH{α:Type}(l:List α)(n:Int):Option α:=
 if small n then(if 0<=n then l[n.toNat]? else if 0<=n+l.length then l[(n+l.length).toNat]? else none) else none
noncomputable def O2(c:AC)(i:O):Option O:=match c with
 | .list vs=>rI i λn=>fH vs n
 | .dict es=>(keyOf i).bind (bt es)
 | .inst _ _=>none
noncomputable def e7(o i:O):Option O:=match o with
 | .tup vs=>rI i λn=>fH vs n
 | .bytes b=>rI i λn=>if 0<=n then(b[n.toNat]?).map λx=>.int x.toNat else none
 | .ao c=>O2 c i
 | _=>none
noncomputable def xA:O->Option (Option Int)
 | .none=>some none
 | .int n=>some (some n)
 | _=>none
noncomputable def UZ(o:O)(a b:Option Int):Option ER:=match o with
 | .bytes l=>some (.val (.bytes (fu l a b)))
 | .ao c=>cL c λl=>some (.own (.list (fu l a b)))
 | _=>none
noncomputable def nU(o lo hi:O):Option ER:=(xA lo).bind λa=>(xA hi).bind λb=>UZ o a b
noncomputable def JE(c:AC)(a:Str):Option O:=match c with
 | .inst _ fs=>bt fs (.s a)
 | _=>none
noncomputable def nv:List Str:=[⟨#[103,101,116]⟩,⟨#[112,117,116]⟩,⟨#[109,97,112,95,111,102]⟩,⟨#[119,111,114,100]⟩,⟨#[111,110,101,95,111,102]⟩,⟨#[99,111,100,101,95,111,114,95,110,111,110,101]⟩,⟨#[105,115,95,114,97,110,103,101]⟩]
noncomputable def lH:Key->Bool
 | .s x=>!nv.contains x
 | .i _=>false
noncomputable def lQ(c:AC)(a:Str)(v:O):Option AC:=match c with
 | .inst k fs=>if lH (.s a)&&fs.length<20 then some (.inst k (dput fs (.s a) v)) else none
 | _=>none
noncomputable def nh:O->Option (List O)
 | .tup vs=>some vs
 | .ao (.list vs)=>some vs
 | .ao (.dict es)=>some (es.map λe=>fJ e.1)
 | .bytes b=>some (b.map λx=>.int x.toNat)
 | .str s=>some (s.cps.toList.map λn=>.str (oneChar n))
 | _=>none
structure Tab where
 kX:List O
 o3:Nat->Bool
 init:Nat->Nat
 aw:Nat->Nat->Option Nat
structure Fn where
 n:Nat
 m:Nat
 d:List O
 body:bj
inductive FL where
 | next
 | ret (r:ER)
noncomputable def ll:VS->Bool
 | .own _=>true
 | _=>false
noncomputable def fill(fn:Fn)(as:List VS):List VS:=as++(fn.d.drop (fn.d.length - (fn.n - as.length))).map .val
noncomputable def params:List (Option VS)->Option (List VS)
 | []=>some []
 | some x::r=>(params r).map (x::·)
 | none::_=>none
noncomputable def bB:VS->ER
 | .val v=>.val v
 | .own c=>.own c
noncomputable def tj(i:Nat):Option (Option VS)->Option ER
 | some (some (.val v))=>some (.val v)
 | some (some (.own _))=>some (.loc i)
 | _=>none
noncomputable def tq(i:Nat)(st:St):Option ER:=tj i st.σ[i]?
noncomputable def vy(i:Nat)(fr:List (Option O)):Option O:=match fr[i]? with
 | some (some v)=>some v
 | _=>none
noncomputable def uG(d i:Nat)(st:St):Option O:=match st.κ[d]? with
 | some fr=>vy i fr
 | none=>none
noncomputable def my(r:ER)(st:St):Option VS:=match r with
 | .val v=>some (.val v)
 | .own c=>some (.own c)
 | .loc i=>match st.σ[i]? with
  | some (some x)=>some x
  | _=>none
noncomputable def dB:List ER->St->Option (List VS)
 | [],_=>some []
 | r::rs,st=>match my r st,dB rs st with
  | some a,some l=>some (a::l)
  | _,_=>none
noncomputable def wY:ER->Option Nat
 | .loc i=>some i
 | _=>none
noncomputable def fY(l:List ER):List Nat:=l.filterMap wY
noncomputable def fy:List ER->St->Option (List O)
 | [],_=>some []
 | r::rs,st=>match view r st,fy rs st with
  | some a,some l=>some (a::l)
  | _,_=>none
noncomputable def instOf(r:ER)(st:St):Option (Nat×AC):=match view r st with
 | some (.ref l)=>match st.H[l]? with
  | some (.inst c fs)=>some (c,.inst c fs)
  | _=>none
 | some (.ao (.inst c fs))=>some (c,.inst c fs)
 | _=>none
noncomputable def bJ(r:ER)(st:St):Option O:=match view r st with
 | some (.ref l)=>(st.H[l]?).map .ao
 | x=>x
noncomputable def ownAt(r:ER)(st:St):Option (Nat×AC):=match r with
 | .loc i=>match st.σ[i]? with
  | some (some (.own c))=>some (i,c)
  | _=>none
 | _=>none
noncomputable def lM(r:ER)(st:St):Option (Nat×AC):=match view r st with
 | some (.ref l)=>(st.H[l]?).map λc=>(l,c)
 | _=>none
noncomputable def JC:O->Option Int
 | .int n=>some n
 | _=>none
noncomputable def e8(r:ER)(st:St):Option Int:=match view r st with
 | some v=>JC v
 | none=>none
noncomputable def JB:O->Option (List UInt8)
 | .bytes n=>some n
 | _=>none
noncomputable def jw(r:ER)(st:St):Option (List UInt8):=match view r st with
 | some v=>JB v
 | none=>none
noncomputable def isNone:O->Bool
 | .none=>true
 | _=>false
noncomputable def R2(v:O):Option ER:=rI v λn=>some (.val (.int (-n)))
noncomputable def cY(v:O)(a:Str):Option O:=rF v λc=>JE c a
noncomputable def Gr(v:O):Option ER:=rL v λl=>some (.own (.list l.reverse))
noncomputable def Tw(v:O)(a t:Str):Option ER:=rS v λs=>Tv s a t
inductive MK where
 | fn (f:Nat)
 | lst | dct | kK | str
noncomputable def ng(o:Option O):Option MK:=match o with
 | some (.ao (.list _))=>some .lst
 | _=>none
noncomputable def m8(o:Option O):Option MK:=match o with
 | some (.ao (.dict _))=>some .dct
 | _=>none
noncomputable def wJ(m:MN)(o:Option O):Option MK:=match o with
 | some (.bytes _)=>some .kK
 | some (.str _)=>if yD m then some .str else none
 | _=>none
noncomputable def fc(T:Tab)(m:MN)(r:ER)(st:St):Option MK:=match m with
 | .user k=>match instOf r st with
  | some (c,_)=>(T.aw c k).map .fn
  | none=>none
 | .get=>match instOf r st with
  | some (c,_)=>(T.aw c 1000).map .fn
  | none=>m8 (bJ r st)
 | .append=>ng (bJ r st)
 | .insert=>ng (bJ r st)
 | .pop=>ng (bJ r st)
 | .update=>m8 (bJ r st)
 | m=>wJ m (view r st)
noncomputable def A7(v:O):Option (List O):=rL v λvs=>some (vs.zipIdx.map λp=>.tup [.int p.2,p.1])
noncomputable def Ts(n m:Int):Option (List O):=if small n&&small m&&m - n<=ax then some ((List.range (m - n).toNat).map λ(k:Nat)=>.int (n+(k:Int))) else none
noncomputable def xJ(n:Int):Option (List O):=if small n&&n<=ax then some ((List.range n.toNat).map λ(k:Nat)=>.int (k:Int)) else none
noncomputable def leave(r:ER)(st:St):Option VS:=match r with
 | .val v=>some (.val v)
 | .own c=>some (.own c)
 | .loc i=>if st.lk.getD i false then none else match st.σ[i]? with
  | some (some (.own c))=>some (.own c)
  | some (some (.val v))=>some (.val v)
  | _=>none
noncomputable def qw:Nat:=1000
end Mine.Internal
set_option genInjectivity false
set_option genCtorIdx false
namespace Mine.Internal
open PySem (Str)
noncomputable def CF:List Str:=[⟨#[77,65,88,95,67,79,68,69]⟩,⟨#[72,73,71,72,95,70,73,82,83,84]⟩,⟨#[76,79,87,95,76,65,83,84]⟩,⟨#[72,69,88,95,68,73,71,73,84,83]⟩,⟨#[76,69,65,83,84,95,72,69,88]⟩,⟨#[77,79,83,84,95,72,69,88]⟩,⟨#[85,67,68,95,66,76,65,78,75,83]⟩,⟨#[85,67,68,95,77,65,82,75]⟩,⟨#[85,67,68,95,77,73,83,83,73,78,71]⟩,⟨#[85,67,68,95,70,73,69,76,68,83]⟩,⟨#[85,67,68,95,70,73,82,83,84]⟩,⟨#[85,67,68,95,76,65,83,84]⟩,⟨#[85,67,68,95,77,79,83,84,95,67,76,65,83,83]⟩,⟨#[85,67,68,95,67,65,84,69,71,79,82,73,69,83]⟩,⟨#[85,67,68,95,68,73,82,69,67,84,73,79,78,83]⟩,⟨#[85,67,68,95,84,65,71,83]⟩,⟨#[95,108,97,119,95,112,108,97,99,101,115]⟩,⟨#[95,108,97,119,95,115,111,109,101]⟩,⟨#[95,108,97,119,95,110,117,109,98,101,114,115]⟩]
noncomputable def Mz:O:=.int 1114111
noncomputable def Mu:O:=.int 55296
noncomputable def My:O:=.int 57343
noncomputable def Ms:O:=.bytes [48,49,50,51,52,53,54,55,56,57,65,66,67,68,69,70]
noncomputable def Mw:O:=.int 4
noncomputable def MA:O:=.int 6
noncomputable def MB:O:=.bytes [32,9,13]
noncomputable def MG:O:=.bytes [239,187,191]
noncomputable def MH:O:=.bytes [64,109,105,115,115,105,110,103,58]
noncomputable def MC:O:=.int 15
noncomputable def MD:O:=.bytes [44,32,70,105,114,115,116,62]
noncomputable def MF:O:=.bytes [44,32,76,97,115,116,62]
noncomputable def MJ:O:=.int 254
noncomputable def rq:O:=.tup [.str ⟨#[76,117]⟩,.str ⟨#[76,108]⟩,.str ⟨#[76,116]⟩,.str ⟨#[76,109]⟩,.str ⟨#[76,111]⟩,.str ⟨#[77,110]⟩,.str ⟨#[77,99]⟩,.str ⟨#[77,101]⟩,.str ⟨#[78,100]⟩,.str ⟨#[78,108]⟩,.str ⟨#[78,111]⟩,.str ⟨#[80,99]⟩,.str ⟨#[80,100]⟩,.str ⟨#[80,115]⟩,.str ⟨#[80,101]⟩,.str ⟨#[80,105]⟩,.str ⟨#[80,102]⟩,.str ⟨#[80,111]⟩,.str ⟨#[83,109]⟩,.str ⟨#[83,99]⟩,.str ⟨#[83,107]⟩,.str ⟨#[83,111]⟩,.str ⟨#[90,115]⟩,.str ⟨#[90,108]⟩,.str ⟨#[90,112]⟩,.str ⟨#[67,99]⟩,.str ⟨#[67,102]⟩,.str ⟨#[67,115]⟩,.str ⟨#[67,111]⟩,.str ⟨#[67,110]⟩]
noncomputable def ru:O:=.tup [.str ⟨#[76]⟩,.str ⟨#[82]⟩,.str ⟨#[65,76]⟩,.str ⟨#[69,78]⟩,.str ⟨#[69,83]⟩,.str ⟨#[69,84]⟩,.str ⟨#[65,78]⟩,.str ⟨#[67,83]⟩,.str ⟨#[78,83,77]⟩,.str ⟨#[66,78]⟩,.str ⟨#[66]⟩,.str ⟨#[83]⟩,.str ⟨#[87,83]⟩,.str ⟨#[79,78]⟩,.str ⟨#[76,82,69]⟩,.str ⟨#[76,82,79]⟩,.str ⟨#[82,76,69]⟩,.str ⟨#[82,76,79]⟩,.str ⟨#[80,68,70]⟩,.str ⟨#[76,82,73]⟩,.str ⟨#[82,76,73]⟩,.str ⟨#[70,83,73]⟩,.str ⟨#[80,68,73]⟩]
noncomputable def CB:O:=.tup [.str ⟨#[102,111,110,116]⟩,.str ⟨#[110,111,66,114,101,97,107]⟩,.str ⟨#[105,110,105,116,105,97,108]⟩,.str ⟨#[109,101,100,105,97,108]⟩,.str ⟨#[102,105,110,97,108]⟩,.str ⟨#[105,115,111,108,97,116,101,100]⟩,.str ⟨#[99,105,114,99,108,101]⟩,.str ⟨#[115,117,112,101,114]⟩,.str ⟨#[115,117,98]⟩,.str ⟨#[118,101,114,116,105,99,97,108]⟩,.str ⟨#[119,105,100,101]⟩,.str ⟨#[110,97,114,114,111,119]⟩,.str ⟨#[115,109,97,108,108]⟩,.str ⟨#[115,113,117,97,114,101]⟩,.str ⟨#[102,114,97,99,116,105,111,110]⟩,.str ⟨#[99,111,109,112,97,116]⟩]
noncomputable def MM:O:=.tup [.int 40,.int 65,.int 97,.int 189,.int 453,.int 769,.int 1488,.int 1633,.int 9312,.int 12296,.int 66560,.int 8232]
noncomputable def MO:O:=.tup [.int 98,.int 99,.int 770,.int 66561,.int 1114111,.int 172]
noncomputable def ML:O:=.tup [.tup [.str ⟨#[]⟩,.none,.none],.tup [.str ⟨#[55,59,55,59,55]⟩,.str ⟨#[100,101]⟩,.tup [.int 7,.int 1]],.tup [.str ⟨#[59,50,59,50]⟩,.str ⟨#[100,105]⟩,.tup [.int 2,.int 1]],.tup [.str ⟨#[59,59,49,47,50]⟩,.str ⟨#[110,117]⟩,.tup [.int 1,.int 2]],.tup [.str ⟨#[59,59,45,49,47,50]⟩,.str ⟨#[110,117]⟩,.tup [.int (-1),.int 2]],.tup [.str ⟨#[59,59,53,48,48,48]⟩,.str ⟨#[110,117]⟩,.tup [.int 5000,.int 1]]]
noncomputable def kX:List O:=[Mz,Mu,My,Ms,Mw,MA,MB,MG,MH,MC,MD,MF,MJ,rq,ru,CB,MM,MO,ML]
noncomputable def By:Fn:=⟨1,1,[],(.cons (.ret (.fS (.glob 1) (.slot 0) (.glob 2))) .nil)⟩
noncomputable def QU:List Str:=[⟨#[99,111,100,101]⟩]
noncomputable def LR:Fn:=⟨1,1,[],(.cons (.ret (.comp 1 (.ay 0) (.of (.slot 0)) .nil (.aG .ord (.cons (.ay 0 0) .nil)))) .nil)⟩
noncomputable def QO:List Str:=[⟨#[115,105,103,110,115]⟩]
noncomputable def BK:Fn:=⟨1,3,[],(.cons (.assign (.slot 1) (.call 1 (.cons (.slot 0) .nil))) (.cons (.for (.slot 2) (.of (.slot 1)) (.cons (.aD (.cmp .Gt (.slot 2) (.aj 127)) (.cons .stuck .nil) .nil) .nil)) (.cons (.ret (.aG .bytes (.cons (.slot 1) .nil))) .nil)))⟩
noncomputable def Rc:List Str:=[⟨#[115,105,103,110,115]⟩,⟨#[110,117,109,98,101,114,115]⟩,⟨#[110,117,109,98,101,114]⟩]
noncomputable def LO:Fn:=⟨1,2,[],(.cons (.for (.slot 1) (.of (.slot 0)) (.cons (.aD (.cmp .Gt (.slot 1) (.aj 127)) (.cons .stuck .nil) .nil) .nil)) (.cons (.ret (.aw .join (.ai ⟨#[]⟩) (.cons (.comp 1 (.ay 0) (.of (.slot 0)) .nil (.aG .chr (.cons (.ay 0 0) .nil))) .nil))) .nil))⟩
noncomputable def QL:List Str:=[⟨#[111,99,116,101,116,115]⟩,⟨#[111,99,116,101,116]⟩]
noncomputable def Bx:Fn:=⟨1,3,[],(.cons (.assign (.slot 1) (.lst .nil)) (.cons (.assign (.slot 2) (.slot 0)) (.cons (.while (.or (.cmp .Gt (.slot 2) (.aj 0)) (.cmp .Lt (.aG .len (.cons (.slot 1) .nil)) (.glob 4))) (.cons (.expr (.aw .append (.slot 1) (.cons (.idx (.glob 3) (.bin .BitAnd (.slot 2) (.aj 15))) .nil))) (.cons (.assign (.slot 2) (.bin .RShift (.slot 2) (.aj 4))) .nil))) (.cons (.ret (.aG .bytes (.cons (.rev (.slot 1)) .nil))) .nil))))⟩
noncomputable def QS:List Str:=[⟨#[99,111,100,101]⟩,⟨#[102,111,117,110,100]⟩,⟨#[114,101,115,116]⟩]
noncomputable def LW:Fn:=⟨1,1,[],(.cons (.aD (.fS (.aj 48) (.slot 0) (.aj 57)) (.cons (.ret (.bin .Sub (.slot 0) (.aj 48))) .nil) .nil) (.cons (.aD (.fS (.aj 65) (.slot 0) (.aj 70)) (.cons (.ret (.bin .Sub (.slot 0) (.aj 55))) .nil) .nil) (.cons (.aD (.fS (.aj 97) (.slot 0) (.aj 102)) (.cons (.ret (.bin .Sub (.slot 0) (.aj 87))) .nil) .nil) (.cons (.ret .bz) .nil))))⟩
noncomputable def QT:List Str:=[⟨#[111,99,116,101,116]⟩]
noncomputable def LQ:Fn:=⟨1,4,[],(.cons (.aD (.not (.fS (.aj 1) (.aG .len (.cons (.slot 0) .nil)) (.glob 5))) (.cons .stuck .nil) .nil) (.cons (.assign (.slot 1) (.aj 0)) (.cons (.for (.slot 2) (.of (.slot 0)) (.cons (.assign (.slot 3) (.call 5 (.cons (.slot 2) .nil))) (.cons (.aD (.bS (.slot 3)) (.cons .stuck .nil) .nil) (.cons (.assign (.slot 1) (.bin .Add (.bin .Mult (.aj 16) (.slot 1)) (.slot 3))) .nil)))) (.cons (.aD (.cmp .Gt (.slot 1) (.glob 0)) (.cons .stuck .nil) .nil) (.cons (.ret (.slot 1)) .nil)))))⟩
noncomputable def QN:List Str:=[⟨#[111,99,116,101,116,115]⟩,⟨#[110,117,109,98,101,114]⟩,⟨#[111,99,116,101,116]⟩,⟨#[100,105,103,105,116]⟩]
noncomputable def B8:Fn:=⟨1,3,[],(.cons (.aD (.cmp .Eq (.aG .len (.cons (.slot 0) .nil)) (.aj 0)) (.cons (.ret .bz) .nil) .nil) (.cons (.assign (.slot 1) (.aj 0)) (.cons (.for (.slot 2) (.of (.slot 0)) (.cons (.aD (.not (.fS (.aj 48) (.slot 2) (.aj 57))) (.cons (.ret .bz) .nil) .nil) (.cons (.assign (.slot 1) (.bin .Sub (.bin .Add (.bin .Mult (.aj 10) (.slot 1)) (.slot 2)) (.aj 48))) .nil))) (.cons (.ret (.slot 1)) .nil))))⟩
noncomputable def RQ:List Str:=[⟨#[111,99,116,101,116,115]⟩,⟨#[110,117,109,98,101,114]⟩,⟨#[111,99,116,101,116]⟩]
noncomputable def BM:Fn:=⟨2,5,[],(.cons (.assign (.slot 2) (.aj 0)) (.cons (.assign (.slot 3) (.aG .len (.cons (.slot 0) .nil))) (.cons (.while (.cmp .Lt (.slot 2) (.slot 3)) (.cons (.assign (.slot 4) (.bin .FloorDiv (.bin .Add (.slot 2) (.slot 3)) (.aj 2))) (.cons (.aD (.cmp .LtE (.idx (.slot 0) (.slot 4)) (.slot 1)) (.cons (.assign (.slot 2) (.bin .Add (.slot 4) (.aj 1))) .nil) (.cons (.assign (.slot 3) (.slot 4)) .nil)) .nil))) (.cons (.ret (.bin .Sub (.slot 2) (.aj 1))) .nil))))⟩
noncomputable def Rd:List Str:=[⟨#[102,105,114,115,116,115]⟩,⟨#[110,117,109,98,101,114]⟩,⟨#[108,111,119]⟩,⟨#[104,105,103,104]⟩,⟨#[109,105,100,100,108,101]⟩]
noncomputable def oQ:Fn:=⟨9,9,[],(.cons (.assign (.attr (.slot 0) ⟨#[99,111,100,101]⟩) (.slot 1)) (.cons (.assign (.attr (.slot 0) ⟨#[110,97,109,101]⟩) (.slot 2)) (.cons (.assign (.attr (.slot 0) ⟨#[103,99]⟩) (.slot 3)) (.cons (.assign (.attr (.slot 0) ⟨#[99,99,99]⟩) (.slot 4)) (.cons (.assign (.attr (.slot 0) ⟨#[98,99]⟩) (.slot 5)) (.cons (.assign (.attr (.slot 0) ⟨#[115,99,114,105,112,116]⟩) (.slot 6)) (.cons (.assign (.attr (.slot 0) ⟨#[116,97,103]⟩) (.slot 7)) (.cons (.assign (.attr (.slot 0) ⟨#[112,97,114,116,115]⟩) (.slot 8)) (.cons (.assign (.attr (.slot 0) ⟨#[117,112,112,101,114]⟩) .bz) (.cons (.assign (.attr (.slot 0) ⟨#[108,111,119,101,114]⟩) .bz) (.cons (.assign (.attr (.slot 0) ⟨#[116,105,116,108,101]⟩) .bz) (.cons (.assign (.attr (.slot 0) ⟨#[110,117,109,98,101,114]⟩) (.ai ⟨#[]⟩)) .nil))))))))))))⟩
noncomputable def QF:List Str:=[⟨#[115,101,108,102]⟩,⟨#[99,111,100,101]⟩,⟨#[110,97,109,101]⟩,⟨#[103,99]⟩,⟨#[99,99,99]⟩,⟨#[98,99]⟩,⟨#[115,99,114,105,112,116]⟩,⟨#[116,97,103]⟩,⟨#[112,97,114,116,115]⟩]
noncomputable def LX:Fn:=⟨1,1,[],(.cons (.ret (.call 6 (.cons (.call 2 (.cons (.slot 0) .nil)) .nil))) .nil)⟩
noncomputable def Ro:List Str:=[⟨#[119,111,114,100]⟩]
noncomputable def LY:Fn:=⟨1,2,[],(.cons (.assign (.slot 1) (.aw .split (.slot 0) (.cons (.ai ⟨#[45]⟩) .nil))) (.cons (.ret (.aG .iX (.cons (.call 10 (.cons (.idx (.slot 1) (.aj 0)) .nil)) (.cons (.bin .Add (.call 10 (.cons (.idx (.slot 1) (.neg (.aj 1))) .nil)) (.aj 1)) .nil)))) .nil))⟩
noncomputable def Rx:List Str:=[⟨#[119,111,114,100]⟩,⟨#[101,110,100,115]⟩]
noncomputable def BW:Fn:=⟨0,0,[],(.cons (.ret (.lst (.cons (.tup (.cons (.aj 13312) (.cons (.aj 19903) (.cons (.ai ⟨#[67,74,75,32,73,100,101,111,103,114,97,112,104,32,69,120,116,101,110,115,105,111,110,32,65]⟩) (.cons (.ai ⟨#[76,111]⟩) (.cons (.ai ⟨#[72,97,110,105]⟩) (.cons (.ai ⟨#[73,68]⟩) (.cons (.ai ⟨#[87]⟩) .nil)))))))) (.cons (.tup (.cons (.aj 19968) (.cons (.aj 40959) (.cons (.ai ⟨#[67,74,75,32,73,100,101,111,103,114,97,112,104]⟩) (.cons (.ai ⟨#[76,111]⟩) (.cons (.ai ⟨#[72,97,110,105]⟩) (.cons (.ai ⟨#[73,68]⟩) (.cons (.ai ⟨#[87]⟩) .nil)))))))) (.cons (.tup (.cons (.aj 44032) (.cons (.aj 55203) (.cons (.ai ⟨#[72,97,110,103,117,108,32,83,121,108,108,97,98,108,101]⟩) (.cons (.ai ⟨#[76,111]⟩) (.cons (.ai ⟨#[72,97,110,103]⟩) (.cons (.ai ⟨#[]⟩) (.cons (.ai ⟨#[87]⟩) .nil)))))))) (.cons (.tup (.cons (.aj 55296) (.cons (.aj 56191) (.cons (.ai ⟨#[78,111,110,32,80,114,105,118,97,116,101,32,85,115,101,32,72,105,103,104,32,83,117,114,114,111,103,97,116,101]⟩) (.cons (.ai ⟨#[67,115]⟩) (.cons (.ai ⟨#[90,122,122,122]⟩) (.cons (.ai ⟨#[83,71]⟩) (.cons (.ai ⟨#[78]⟩) .nil)))))))) (.cons (.tup (.cons (.aj 56192) (.cons (.aj 56319) (.cons (.ai ⟨#[80,114,105,118,97,116,101,32,85,115,101,32,72,105,103,104,32,83,117,114,114,111,103,97,116,101]⟩) (.cons (.ai ⟨#[67,115]⟩) (.cons (.ai ⟨#[90,122,122,122]⟩) (.cons (.ai ⟨#[83,71]⟩) (.cons (.ai ⟨#[78]⟩) .nil)))))))) (.cons (.tup (.cons (.aj 56320) (.cons (.aj 57343) (.cons (.ai ⟨#[76,111,119,32,83,117,114,114,111,103,97,116,101]⟩) (.cons (.ai ⟨#[67,115]⟩) (.cons (.ai ⟨#[90,122,122,122]⟩) (.cons (.ai ⟨#[83,71]⟩) (.cons (.ai ⟨#[78]⟩) .nil)))))))) (.cons (.tup (.cons (.aj 57344) (.cons (.aj 63743) (.cons (.ai ⟨#[80,114,105,118,97,116,101,32,85,115,101]⟩) (.cons (.ai ⟨#[67,111]⟩) (.cons (.ai ⟨#[90,122,122,122]⟩) (.cons (.ai ⟨#[88,88]⟩) (.cons (.ai ⟨#[65]⟩) .nil)))))))) (.cons (.tup (.cons (.aj 131072) (.cons (.aj 173791) (.cons (.ai ⟨#[67,74,75,32,73,100,101,111,103,114,97,112,104,32,69,120,116,101,110,115,105,111,110,32,66]⟩) (.cons (.ai ⟨#[76,111]⟩) (.cons (.ai ⟨#[72,97,110,105]⟩) (.cons (.ai ⟨#[73,68]⟩) (.cons (.ai ⟨#[87]⟩) .nil)))))))) .nil)))))))))) .nil)⟩
noncomputable def Rw:List Str:=[]
noncomputable def BU:Fn:=⟨1,6,[],(.cons (.assign (.slot 1) (.dct .nil)) (.cons (.for (.slot 2) (.of (.aw .split (.slot 0) (.cons (.ai ⟨#[44]⟩) .nil))) (.cons (.assign (.slot 3) (.aw .split (.slot 2) (.cons (.ai ⟨#[32]⟩) .nil))) (.cons (.for (.slot 4) (.of (.bu (.slot 3) (.aj 1) .omit)) (.cons (.for (.slot 5) (.of (.call 11 (.cons (.slot 4) .nil))) (.cons (.assign (.idx (.slot 1) (.slot 5)) (.idx (.slot 3) (.aj 0))) .nil)) .nil)) .nil))) (.cons (.ret (.slot 1)) .nil)))⟩
noncomputable def Rr:List Str:=[⟨#[119,111,114,100,115]⟩,⟨#[102,111,117,110,100]⟩,⟨#[114,111,119]⟩,⟨#[112,97,114,116,115]⟩,⟨#[112,97,114,116]⟩,⟨#[99,111,100,101]⟩]
noncomputable def ve:Fn:=⟨1,7,[],(.cons (.assign (.slot 1) (.lst .nil)) (.cons (.for (.tup (.cons (.slot 2) (.cons (.slot 3) (.cons (.slot 4) .nil)))) (.of (.aG .sorted (.cons (.slot 0) .nil))) (.cons (.aD (.and (.cmp .NotEq (.slot 1) (.lst .nil)) (.and (.cmp .Eq (.idx (.idx (.slot 1) (.neg (.aj 1))) (.aj 2)) (.slot 4)) (.cmp .Eq (.bin .Add (.idx (.idx (.slot 1) (.neg (.aj 1))) (.aj 1)) (.aj 1)) (.slot 2)))) (.cons (.assign (.idx (.slot 1) (.neg (.aj 1))) (.tup (.cons (.idx (.idx (.slot 1) (.neg (.aj 1))) (.aj 0)) (.cons (.slot 3) (.cons (.slot 4) .nil))))) .nil) (.cons (.expr (.aw .append (.slot 1) (.cons (.tup (.cons (.slot 2) (.cons (.slot 3) (.cons (.slot 4) .nil)))) .nil))) .nil)) .nil)) (.cons (.assign (.slot 5) (.lst .nil)) (.cons (.for (.tup (.cons (.slot 2) (.cons (.slot 3) (.cons (.slot 4) .nil)))) (.of (.slot 1)) (.cons (.assign (.slot 6) (.ite (.cmp .Eq (.slot 2) (.slot 3)) (.call 4 (.cons (.slot 2) .nil)) (.bin .Add (.bin .Add (.call 4 (.cons (.slot 2) .nil)) (.aC [46,46])) (.call 4 (.cons (.slot 3) .nil))))) (.cons (.expr (.aw .append (.slot 5) (.cons (.bin .Add (.bin .Add (.bin .Add (.slot 6) (.aC [32,59,32])) (.call 2 (.cons (.slot 4) .nil))) (.aC [10])) .nil))) .nil))) (.cons (.ret (.aw .join (.aC []) (.cons (.slot 5) .nil))) .nil)))))⟩
noncomputable def Rq:List Str:=[⟨#[118,97,108,117,101,115]⟩,⟨#[106,111,105,110,101,100]⟩,⟨#[102,105,114,115,116]⟩,⟨#[108,97,115,116]⟩,⟨#[118,97,108,117,101]⟩,⟨#[111,117,116]⟩,⟨#[115,112,97,110]⟩]
noncomputable def rh:Fn:=⟨1,1,[],(.cons (.ret (.aw .join (.aC [32]) (.cons (.comp 1 (.ay 0) (.of (.slot 0)) .nil (.call 4 (.cons (.ay 0 0) .nil))) .nil))) .nil)⟩
noncomputable def Rp:List Str:=[⟨#[99,111,100,101,115]⟩]
noncomputable def BV:Fn:=⟨1,1,[],(.cons (.ret (.ite (.bS (.slot 0)) (.aC []) (.call 4 (.cons (.slot 0) .nil)))) .nil)⟩
noncomputable def Ru:List Str:=[⟨#[99,111,100,101]⟩]
noncomputable def oU:Fn:=⟨1,18,[],(.cons (.assign (.slot 1) (.call 13 (.cons (.ai ⟨#[89,32,48,48,50,56,32,48,48,50,57,32,48,48,51,67,32,48,48,51,69,32,48,48,53,66,32,48,48,53,68,32,48,48,55,66,32,48,48,55,68,32,48,48,65,66,32,48,48,66,66,32,50,50,48,56,32,50,50,48,66,32,50,50,54,48,32,50,50,54,69,32,50,51,50,57,32,50,51,50,65,32,51,48,48,56,32,51,48,48,57,32,51,48,48,67,32,51,48,48,68]⟩) .nil))) (.cons (.assign (.slot 2) (.dct .nil)) (.cons (.for (.slot 3) (.of (.slot 0)) (.cons (.assign (.slot 4) (.idx (.slot 0) (.slot 3))) (.cons (.assign (.slot 5) (.call 15 (.cons (.attr (.slot 4) ⟨#[112,97,114,116,115]⟩) .nil))) (.cons (.aD (.and (.bF (.attr (.slot 4) ⟨#[116,97,103]⟩)) (.cmp .NotEq (.attr (.slot 4) ⟨#[116,97,103]⟩) (.ai ⟨#[]⟩))) (.cons (.assign (.slot 5) (.bin .Add (.bin .Add (.bin .Add (.aC [60]) (.call 2 (.cons (.attr (.slot 4) ⟨#[116,97,103]⟩) .nil))) (.aC [62,32])) (.slot 5))) .nil) .nil) (.cons (.assign (.slot 6) (.lst (.cons (.call 4 (.cons (.slot 3) .nil)) (.cons (.call 2 (.cons (.attr (.slot 4) ⟨#[110,97,109,101]⟩) .nil)) (.cons (.call 2 (.cons (.attr (.slot 4) ⟨#[103,99]⟩) .nil)) (.cons (.call 2 (.cons (.aG .str (.cons (.attr (.slot 4) ⟨#[99,99,99]⟩) .nil)) .nil)) .nil)))))) (.cons (.assign (.slot 6) (.bin .Add (.slot 6) (.lst (.cons (.call 2 (.cons (.attr (.slot 4) ⟨#[98,99]⟩) .nil)) (.cons (.slot 5) (.cons (.call 2 (.cons (.ite (.cmp .NotEq (.attr (.slot 4) ⟨#[110,117,109,98,101,114]⟩) (.ai ⟨#[]⟩)) (.attr (.slot 4) ⟨#[110,117,109,98,101,114]⟩) (.ai ⟨#[59,59]⟩)) .nil)) .nil)))))) (.cons (.assign (.slot 6) (.bin .Add (.slot 6) (.lst (.cons (.call 2 (.cons (.aw .get (.slot 1) (.cons (.slot 3) (.cons (.ai ⟨#[78]⟩) .nil))) .nil)) (.cons (.aC []) (.cons (.aC []) .nil)))))) (.cons (.assign (.slot 7) (.ite (.bF (.attr (.slot 4) ⟨#[116,105,116,108,101]⟩)) (.attr (.slot 4) ⟨#[116,105,116,108,101]⟩) (.attr (.slot 4) ⟨#[117,112,112,101,114]⟩))) (.cons (.assign (.idx (.slot 2) (.slot 3)) (.lst (.cons (.aw .join (.aC [59]) (.cons (.bin .Add (.slot 6) (.comp 1 (.ay 0) (.of (.tup (.cons (.attr (.slot 4) ⟨#[117,112,112,101,114]⟩) (.cons (.attr (.slot 4) ⟨#[108,111,119,101,114]⟩) (.cons (.slot 7) .nil))))) .nil (.call 16 (.cons (.ay 0 0) .nil)))) .nil)) .nil))) .nil))))))))) (.cons (.for (.tup (.cons (.slot 8) (.cons (.slot 9) (.cons (.slot 10) (.cons (.slot 11) (.cons (.slot 12) (.cons (.slot 13) (.cons (.slot 14) .nil)))))))) (.of (.call 12 .nil)) (.cons (.assign (.slot 15) (.lst .nil)) (.cons (.for (.tup (.cons (.slot 3) (.cons (.slot 16) .nil))) (.of (.tup (.cons (.tup (.cons (.slot 8) (.cons (.ai ⟨#[70,105,114,115,116]⟩) .nil))) (.cons (.tup (.cons (.slot 9) (.cons (.ai ⟨#[76,97,115,116]⟩) .nil))) .nil)))) (.cons (.assign (.slot 17) (.call 2 (.cons (.bin .Add (.bin .Add (.bin .Add (.bin .Add (.bin .Add (.ai ⟨#[60]⟩) (.slot 10)) (.ai ⟨#[44,32]⟩)) (.slot 16)) (.ai ⟨#[62,59]⟩)) (.slot 11)) .nil))) (.cons (.expr (.aw .append (.slot 15) (.cons (.bin .Add (.bin .Add (.bin .Add (.call 4 (.cons (.slot 3) .nil)) (.aC [59])) (.slot 17)) (.aC [59,48,59,76,59,59,59,59,59,78,59,59,59,59,59])) .nil))) .nil))) (.cons (.assign (.idx (.slot 2) (.slot 8)) (.slot 15)) .nil)))) (.cons (.ret (.aw .join (.aC []) (.cons (.comp 1 (.ay 0) (.of (.aG .sorted (.cons (.slot 2) .nil))) .nil (.bin .Add (.aw .join (.aC [10]) (.cons (.idx (.slot 2) (.ay 0 0)) .nil)) (.aC [10]))) .nil))) .nil)))))⟩
noncomputable def Rt:List Str:=[⟨#[115,105,103,110,115]⟩,⟨#[109,105,114,114,111,114,101,100]⟩,⟨#[114,111,119,115]⟩,⟨#[99,111,100,101]⟩,⟨#[115,105,103,110]⟩,⟨#[109,97,100,101]⟩,⟨#[104,101,97,100]⟩,⟨#[116,105,116,108,101]⟩,⟨#[102,105,114,115,116]⟩,⟨#[108,97,115,116]⟩,⟨#[110,97,109,101]⟩,⟨#[103,99]⟩,⟨#[115,99,114,105,112,116]⟩,⟨#[108,105,110,101]⟩,⟨#[119,105,100,116,104]⟩,⟨#[101,110,100,115]⟩,⟨#[119,111,114,100]⟩,⟨#[108,97,98,101,108]⟩]
noncomputable def vf:Fn:=⟨0,11,[],(.cons (.assign (.slot 0) (.tup (.cons (.tup (.cons (.ai ⟨#[48,48,50,56]⟩) (.cons (.ai ⟨#[48,48,50,57]⟩) .nil))) (.cons (.tup (.cons (.ai ⟨#[48,48,53,66]⟩) (.cons (.ai ⟨#[48,48,53,68]⟩) .nil))) (.cons (.tup (.cons (.ai ⟨#[48,48,55,66]⟩) (.cons (.ai ⟨#[48,48,55,68]⟩) .nil))) (.cons (.tup (.cons (.ai ⟨#[50,51,50,57]⟩) (.cons (.ai ⟨#[50,51,50,65]⟩) .nil))) (.cons (.tup (.cons (.ai ⟨#[51,48,48,56]⟩) (.cons (.ai ⟨#[51,48,48,57]⟩) .nil))) .nil))))))) (.cons (.assign (.slot 0) (.bin .Add (.slot 0) (.tup (.cons (.tup (.cons (.ai ⟨#[51,48,48,67]⟩) (.cons (.ai ⟨#[51,48,48,68]⟩) .nil))) .nil)))) (.cons (.bK true (.cons (.slot 1) (.cons (.slot 2) .nil)) (.cons (.lst .nil) (.cons (.lst .nil) .nil))) (.cons (.for (.tup (.cons (.slot 3) (.cons (.slot 4) .nil))) (.of (.slot 0)) (.cons (.assign (.slot 1) (.bin .Add (.slot 1) (.lst (.cons (.bin .Add (.bin .Add (.bin .Add (.slot 3) (.ai ⟨#[59,32]⟩)) (.slot 4)) (.ai ⟨#[59,32,111]⟩)) (.cons (.bin .Add (.bin .Add (.bin .Add (.slot 4) (.ai ⟨#[59,32]⟩)) (.slot 3)) (.ai ⟨#[59,32,99]⟩)) .nil))))) .nil)) (.cons (.for (.tup (.cons (.slot 3) (.cons (.slot 4) .nil))) (.of (.bin .Add (.slot 0) (.tup (.cons (.tup (.cons (.ai ⟨#[48,48,51,67]⟩) (.cons (.ai ⟨#[48,48,51,69]⟩) .nil))) (.cons (.tup (.cons (.ai ⟨#[48,48,65,66]⟩) (.cons (.ai ⟨#[48,48,66,66]⟩) .nil))) (.cons (.tup (.cons (.ai ⟨#[50,50,48,56]⟩) (.cons (.ai ⟨#[50,50,48,66]⟩) .nil))) .nil)))))) (.cons (.assign (.slot 2) (.bin .Add (.slot 2) (.lst (.cons (.bin .Add (.bin .Add (.slot 3) (.ai ⟨#[59,32]⟩)) (.slot 4)) (.cons (.bin .Add (.bin .Add (.slot 4) (.ai ⟨#[59,32]⟩)) (.slot 3)) .nil))))) .nil)) (.cons (.assign (.slot 5) (.lst (.cons (.ai ⟨#[48,51,48,49,32,59,32,67,121,114,108,32,71,114,101,107,32,76,97,116,110]⟩) (.cons (.ai ⟨#[48,51,52,53,32,59,32,71,114,101,107]⟩) (.cons (.ai ⟨#[48,54,48,67,32,59,32,65,114,97,98,32,83,121,114,99,32,84,104,97,97]⟩) (.cons (.ai ⟨#[48,54,52,48,32,59,32,65,114,97,98,32,83,121,114,99]⟩) (.cons (.ai ⟨#[48,54,52,66,32,59,32,65,114,97,98,32,83,121,114,99]⟩) (.cons (.ai ⟨#[48,54,53,49,32,59,32,65,114,97,98,32,83,121,114,99]⟩) (.cons (.ai ⟨#[48,54,54,48,46,46,48,54,54,57,32,59,32,65,114,97,98,32,84,104,97,97]⟩) (.cons (.ai ⟨#[48,57,54,52,32,59,32,66,101,110,103,32,68,101,118,97]⟩) (.cons (.ai ⟨#[51,48,48,49,46,46,51,48,48,50,32,59,32,72,97,110,103,32,72,97,110,105,32,72,105,114,97,32,75,97,110,97]⟩) (.cons (.ai ⟨#[51,48,48,56,46,46,51,48,48,57,32,59,32,72,97,110,103,32,72,97,110,105,32,72,105,114,97,32,75,97,110,97]⟩) (.cons (.ai ⟨#[51,48,48,67,46,46,51,48,48,68,32,59,32,72,97,110,103,32,72,97,110,105,32,72,105,114,97,32,75,97,110,97]⟩) (.cons (.ai ⟨#[51,48,57,57,32,59,32,72,105,114,97,32,75,97,110,97]⟩) (.cons (.ai ⟨#[51,48,70,67,32,59,32,72,105,114,97,32,75,97,110,97]⟩) .nil))))))))))))))) (.cons (.assign (.slot 6) (.lst (.cons (.ai ⟨#[48,54,48,48,59,32,78,85,77,66,69,82,32,83,73,71,78,59,32,85,59,32,78,111,95,74,111,105,110,105,110,103,95,71,114,111,117,112]⟩) (.cons (.ai ⟨#[48,54,50,50,59,32,65,76,69,70,32,87,73,84,72,32,77,65,68,68,65,32,65,66,79,86,69,59,32,82,59,32,65,76,69,70]⟩) (.cons (.ai ⟨#[48,54,50,55,59,32,65,76,69,70,59,32,82,59,32,65,76,69,70]⟩) (.cons (.ai ⟨#[48,54,50,56,59,32,66,69,72,59,32,68,59,32,66,69,72]⟩) (.cons (.ai ⟨#[48,54,52,48,59,32,84,65,84,87,69,69,76,59,32,67,59,32,78,111,95,74,111,105,110,105,110,103,95,71,114,111,117,112]⟩) (.cons (.ai ⟨#[48,54,52,52,59,32,76,65,77,59,32,68,59,32,76,65,77]⟩) (.cons (.ai ⟨#[48,54,52,53,59,32,77,69,69,77,59,32,68,59,32,77,69,69,77]⟩) (.cons (.ai ⟨#[50,48,48,67,59,32,90,69,82,79,32,87,73,68,84,72,32,78,79,78,45,74,79,73,78,69,82,59,32,85,59,32,78,111,95,74,111,105,110,105,110,103,95,71,114,111,117,112]⟩) (.cons (.ai ⟨#[50,48,48,68,59,32,90,69,82,79,32,87,73,68,84,72,32,74,79,73,78,69,82,59,32,67,59,32,78,111,95,74,111,105,110,105,110,103,95,71,114,111,117,112]⟩) .nil))))))))))) (.cons (.assign (.slot 7) (.lst (.cons (.ai ⟨#[48,48,48,48,59,78,85,76,76,59,99,111,110,116,114,111,108]⟩) (.cons (.ai ⟨#[48,48,48,57,59,67,72,65,82,65,67,84,69,82,32,84,65,66,85,76,65,84,73,79,78,59,99,111,110,116,114,111,108]⟩) (.cons (.ai ⟨#[48,48,48,57,59,84,65,66,59,97,98,98,114,101,118,105,97,116,105,111,110]⟩) (.cons (.ai ⟨#[48,48,48,65,59,76,73,78,69,32,70,69,69,68,59,99,111,110,116,114,111,108]⟩) (.cons (.ai ⟨#[48,48,48,65,59,76,70,59,97,98,98,114,101,118,105,97,116,105,111,110]⟩) (.cons (.ai ⟨#[48,48,48,68,59,67,65,82,82,73,65,71,69,32,82,69,84,85,82,78,59,99,111,110,116,114,111,108]⟩) (.cons (.ai ⟨#[48,48,56,53,59,78,69,88,84,32,76,73,78,69,59,99,111,110,116,114,111,108]⟩) (.cons (.ai ⟨#[48,48,65,68,59,83,72,89,59,97,98,98,114,101,118,105,97,116,105,111,110]⟩) (.cons (.ai ⟨#[50,48,48,68,59,90,87,74,59,97,98,98,114,101,118,105,97,116,105,111,110]⟩) (.cons (.ai ⟨#[70,69,70,70,59,66,89,84,69,32,79,82,68,69,82,32,77,65,82,75,59,97,108,116,101,114,110,97,116,101]⟩) .nil)))))))))))) (.cons (.assign (.slot 8) (.ai ⟨#[48,48,51,48,32,48,48,52,70,44,48,48,51,49,32,48,48,54,67,44,48,48,52,57,32,48,48,54,67,44,48,48,54,68,32,48,48,55,50,32,48,48,54,69,44,48,48,55,67,32,48,48,54,67,44,48,49,51,49,32,48,48,54,57,44,48,51,55,69,32,48,48,51,66,44,48,51,57,49,32,48,48,52,49,44,48,51,57,57,32,48,48,54,67,44,48,51,57,70,32,48,48,52,70,44,48,51,66,70,32,48,48,54,70,44,48,52,48,54,32,48,48,54,67,44,48,52,49,48,32,48,48,52,49,44,48,52,49,50,32,48,48,52,50,44,48,52,49,53,32,48,48,52,53,44,48,52,51,48,32,48,48,54,49,44,48,52,51,53,32,48,48,54,53,44,48,52,53,54,32,48,48,54,57,44,50,48,49,48,32,48,48,50,68,44,50,48,49,51,32,48,48,50,68,44,50,48,49,57,32,48,48,50,55,44,48,53,67,49,32,48,51,48,55,44,49,68,55,67,69,32,48,48,52,70,44,70,70,48,49,32,48,48,50,49]⟩)) (.cons (.assign (.slot 9) (.comp 1 (.ay 0) (.of (.aw .split (.slot 8) (.cons (.ai ⟨#[44]⟩) .nil))) .nil (.bin .Add (.repl (.ay 0 0) ⟨#[32]⟩ ⟨#[32,59,32]⟩) (.ai ⟨#[32,59,32,77,65]⟩)))) (.cons (.assign (.slot 10) (.dct (.cons (.ai ⟨#[66,105,100,105,66,114,97,99,107,101,116,115,46,116,120,116]⟩) (.cons (.slot 1) (.cons (.ai ⟨#[66,105,100,105,77,105,114,114,111,114,105,110,103,46,116,120,116]⟩) (.cons (.slot 2) (.cons (.ai ⟨#[83,99,114,105,112,116,69,120,116,101,110,115,105,111,110,115,46,116,120,116]⟩) (.cons (.slot 5) .nil)))))))) (.cons (.expr (.aw .update (.slot 10) (.cons (.dct (.cons (.ai ⟨#[65,114,97,98,105,99,83,104,97,112,105,110,103,46,116,120,116]⟩) (.cons (.slot 6) (.cons (.ai ⟨#[78,97,109,101,65,108,105,97,115,101,115,46,116,120,116]⟩) (.cons (.slot 7) (.cons (.ai ⟨#[99,111,110,102,117,115,97,98,108,101,115,46,116,120,116]⟩) (.cons (.slot 9) .nil))))))) .nil))) (.cons (.assign (.idx (.slot 10) (.ai ⟨#[67,111,109,112,111,115,105,116,105,111,110,69,120,99,108,117,115,105,111,110,115,46,116,120,116]⟩)) (.lst (.cons (.ai ⟨#[48,57,53,56]⟩) (.cons (.ai ⟨#[70,66,50,65]⟩) (.cons (.ai ⟨#[49,68,49,53,69]⟩) .nil))))) (.cons (.ret (.aG .dict (.cons (.comp 1 (.ay 0) (.of (.slot 10)) .nil (.tup (.cons (.ay 0 0) (.cons (.aw .join (.aC []) (.cons (.comp 1 (.ay 0) (.of (.idx (.slot 10) (.ay 0 0))) .nil (.bin .Add (.call 2 (.cons (.ay 0 0) .nil)) (.aC [10]))) .nil)) .nil)))) .nil))) .nil))))))))))))))⟩
noncomputable def Rv:List Str:=[⟨#[98,114,97,99,107,101,116,115]⟩,⟨#[111,112,101,110,101,100]⟩,⟨#[109,105,114,114,111,114,115]⟩,⟨#[111,110,101]⟩,⟨#[111,116,104,101,114]⟩,⟨#[115,99,114,105,112,116,115]⟩,⟨#[106,111,105,110,105,110,103]⟩,⟨#[110,97,109,101,115]⟩,⟨#[97,108,105,107,101]⟩,⟨#[99,111,110,102,117,115,97,98,108,101,115]⟩,⟨#[102,105,108,101,115]⟩]
noncomputable def BO:Fn:=⟨2,2,[],(.cons (.ret (.and (.cmp .Eq (.slot 0) (.slot 1)) (.cmp .Eq (.aG .ic (.cons (.slot 0) .nil)) (.aG .ic (.cons (.slot 1) .nil))))) .nil)⟩
noncomputable def Rf:List Str:=[⟨#[111,110,101]⟩,⟨#[111,116,104,101,114]⟩]
noncomputable def oP:Fn:=⟨2,2,[],(.cons (.assign (.attr (.slot 0) ⟨#[100,101,102,97,117,108,116]⟩) (.slot 1)) (.cons (.assign (.attr (.slot 0) ⟨#[115,116,97,114,116,115]⟩) (.lst (.cons (.aj 0) .nil))) (.cons (.assign (.attr (.slot 0) ⟨#[118,97,108,117,101,115]⟩) (.lst (.cons (.slot 1) .nil))) .nil)))⟩
noncomputable def QD:List Str:=[⟨#[115,101,108,102]⟩,⟨#[100,101,102,97,117,108,116]⟩]
noncomputable def Bs:Fn:=⟨2,2,[],(.cons (.ret (.idx (.attr (.slot 0) ⟨#[118,97,108,117,101,115]⟩) (.call 8 (.cons (.attr (.slot 0) ⟨#[115,116,97,114,116,115]⟩) (.cons (.slot 1) .nil))))) .nil)⟩
noncomputable def QC:List Str:=[⟨#[115,101,108,102]⟩,⟨#[99,111,100,101]⟩]
noncomputable def Bt:Fn:=⟨4,9,[],(.cons (.aD (.cmp .Gt (.slot 1) (.slot 2)) (.cons (.ret .bz) .nil) .nil) (.cons (.assign (.slot 4) (.bin .Add (.call 8 (.cons (.attr (.slot 0) ⟨#[115,116,97,114,116,115]⟩) (.cons (.bin .Sub (.slot 1) (.aj 1)) .nil))) (.aj 1))) (.cons (.assign (.slot 5) (.bin .Add (.call 8 (.cons (.attr (.slot 0) ⟨#[115,116,97,114,116,115]⟩) (.cons (.bin .Add (.slot 2) (.aj 1)) .nil))) (.aj 1))) (.cons (.assign (.slot 6) (.idx (.attr (.slot 0) ⟨#[118,97,108,117,101,115]⟩) (.bin .Sub (.slot 5) (.aj 1)))) (.cons (.bK true (.cons (.slot 7) (.cons (.slot 8) .nil)) (.cons (.lst (.cons (.slot 1) .nil)) (.cons (.lst (.cons (.slot 3) .nil)) .nil))) (.cons (.aD (.and (.cmp .Lt (.slot 2) (.glob 0)) (.not (.call 19 (.cons (.slot 6) (.cons (.slot 3) .nil))))) (.cons (.expr (.aw .append (.slot 7) (.cons (.bin .Add (.slot 2) (.aj 1)) .nil))) (.cons (.expr (.aw .append (.slot 8) (.cons (.slot 6) .nil))) .nil)) .nil) (.cons (.aD (.and (.cmp .Gt (.slot 4) (.aj 0)) (.call 19 (.cons (.idx (.attr (.slot 0) ⟨#[118,97,108,117,101,115]⟩) (.bin .Sub (.slot 4) (.aj 1))) (.cons (.slot 3) .nil)))) (.cons (.bK true (.cons (.slot 7) (.cons (.slot 8) .nil)) (.cons (.bu (.slot 7) (.aj 1) .omit) (.cons (.bu (.slot 8) (.aj 1) .omit) .nil))) .nil) .nil) (.cons (.assign (.attr (.slot 0) ⟨#[115,116,97,114,116,115]⟩) (.bin .Add (.bin .Add (.bu (.attr (.slot 0) ⟨#[115,116,97,114,116,115]⟩) .omit (.slot 4)) (.slot 7)) (.bu (.attr (.slot 0) ⟨#[115,116,97,114,116,115]⟩) (.slot 5) .omit))) (.cons (.assign (.attr (.slot 0) ⟨#[118,97,108,117,101,115]⟩) (.bin .Add (.bin .Add (.bu (.attr (.slot 0) ⟨#[118,97,108,117,101,115]⟩) .omit (.slot 4)) (.slot 8)) (.bu (.attr (.slot 0) ⟨#[118,97,108,117,101,115]⟩) (.slot 5) .omit))) .nil)))))))))⟩
noncomputable def QE:List Str:=[⟨#[115,101,108,102]⟩,⟨#[102,105,114,115,116]⟩,⟨#[108,97,115,116]⟩,⟨#[118,97,108,117,101]⟩,⟨#[108,111,119]⟩,⟨#[104,105,103,104]⟩,⟨#[98,101,104,105,110,100]⟩,⟨#[115,116,97,114,116,115]⟩,⟨#[118,97,108,117,101,115]⟩]
noncomputable def LU:Fn:=⟨0,2,[],(.cons (.assign (.slot 0) (.dct (.cons (.ai ⟨#[103,99]⟩) (.cons (.ai ⟨#[67,110]⟩) (.cons (.ai ⟨#[99,99,99]⟩) (.cons (.aj 0) (.cons (.ai ⟨#[98,99]⟩) (.cons (.ai ⟨#[76]⟩) (.cons (.ai ⟨#[108,98]⟩) (.cons (.ai ⟨#[88,88]⟩) (.cons (.ai ⟨#[101,97]⟩) (.cons (.ai ⟨#[78]⟩) (.cons (.ai ⟨#[115,99]⟩) (.cons (.ai ⟨#[90,122,122,122]⟩) (.cons (.ai ⟨#[106,116]⟩) (.cons (.ai ⟨#[85]⟩) (.cons (.ai ⟨#[105,110,99,98]⟩) (.cons (.ai ⟨#[78,111,110,101]⟩) .nil)))))))))))))))))) (.cons (.for (.slot 1) (.of (.tup (.cons (.ai ⟨#[103,99,98]⟩) (.cons (.ai ⟨#[119,98]⟩) (.cons (.ai ⟨#[115,98]⟩) .nil))))) (.cons (.assign (.idx (.slot 0) (.slot 1)) (.ai ⟨#[79,116,104,101,114]⟩)) .nil)) (.cons (.for (.slot 1) (.of (.tup (.cons (.ai ⟨#[101,120]⟩) (.cons (.ai ⟨#[115,100]⟩) (.cons (.ai ⟨#[99,97,115,101,100]⟩) (.cons (.ai ⟨#[99,105]⟩) (.cons (.ai ⟨#[101,112]⟩) (.cons (.ai ⟨#[100,105]⟩) (.cons (.ai ⟨#[105,100,115]⟩) (.cons (.ai ⟨#[105,100,99]⟩) (.cons (.ai ⟨#[120,105,100,115]⟩) (.cons (.ai ⟨#[120,105,100,99]⟩) (.cons (.ai ⟨#[112,97,116,95,115,121,110]⟩) (.cons (.ai ⟨#[112,97,116,95,119,115]⟩) (.cons (.ai ⟨#[105,100,115,116]⟩) .nil))))))))))))))) (.cons (.assign (.idx (.slot 0) (.slot 1)) (.fP false)) .nil)) (.cons (.for (.slot 1) (.of (.tup (.cons (.ai ⟨#[100,109]⟩) (.cons (.ai ⟨#[117,99]⟩) (.cons (.ai ⟨#[108,99]⟩) (.cons (.ai ⟨#[116,99]⟩) (.cons (.ai ⟨#[99,102]⟩) (.cons (.ai ⟨#[98,109]⟩) (.cons (.ai ⟨#[98,112,98]⟩) (.cons (.ai ⟨#[115,99,120]⟩) (.cons (.ai ⟨#[110,116]⟩) (.cons (.ai ⟨#[110,118]⟩) (.cons (.ai ⟨#[110,97,109,101]⟩) (.cons (.ai ⟨#[99,111,110,102]⟩) (.cons (.ai ⟨#[110,102,107,99,95,99,102]⟩) .nil))))))))))))))) (.cons (.assign (.idx (.slot 0) (.slot 1)) .bz) .nil)) (.cons (.for (.slot 1) (.of (.tup (.cons (.ai ⟨#[115,117,99]⟩) (.cons (.ai ⟨#[115,108,99]⟩) (.cons (.ai ⟨#[115,116,99]⟩) (.cons (.ai ⟨#[97,108,105,97,115]⟩) .nil)))))) (.cons (.assign (.idx (.slot 0) (.slot 1)) (.tup .nil)) .nil)) (.cons (.assign (.idx (.slot 0) (.ai ⟨#[105,100,110,97]⟩)) (.tup (.cons (.ai ⟨#[100,105,115,97,108,108,111,119,101,100]⟩) (.cons (.tup .nil) .nil)))) (.cons (.ret (.slot 0)) .nil)))))))⟩
noncomputable def QQ:List Str:=[⟨#[102,111,117,110,100]⟩,⟨#[110,97,109,101]⟩]
noncomputable def oO:Fn:=⟨1,1,[],(.cons (.assign (.attr (.slot 0) ⟨#[100,101,102,97,117,108,116,115]⟩) (.call 23 .nil)) (.cons (.assign (.attr (.slot 0) ⟨#[109,97,112,115]⟩) .qR) (.cons (.assign (.attr (.slot 0) ⟨#[112,114,111,112,101,114,116,105,101,115]⟩) (.dct .nil)) (.cons (.assign (.attr (.slot 0) ⟨#[119,111,114,100,115]⟩) (.dct .nil)) .nil))))⟩
noncomputable def Qz:List Str:=[⟨#[115,101,108,102]⟩]
noncomputable def Br:Fn:=⟨5,5,[],(.cons (.expr (.aw (.user 4) (.aw (.user 5) (.slot 0) (.cons (.slot 1) .nil)) (.cons (.slot 2) (.cons (.slot 3) (.cons (.slot 4) .nil))))) .nil)⟩
noncomputable def QB:List Str:=[⟨#[115,101,108,102]⟩,⟨#[110,97,109,101]⟩,⟨#[102,105,114,115,116]⟩,⟨#[108,97,115,116]⟩,⟨#[118,97,108,117,101]⟩]
noncomputable def Bq:Fn:=⟨3,3,[],(.cons (.aD (.cmp .In (.slot 1) (.attr (.slot 0) ⟨#[109,97,112,115]⟩)) (.cons (.ret (.aw .get (.idx (.attr (.slot 0) ⟨#[109,97,112,115]⟩) (.slot 1)) (.cons (.slot 2) .nil))) .nil) .nil) (.cons (.ret (.aw .get (.attr (.slot 0) ⟨#[100,101,102,97,117,108,116,115]⟩) (.cons (.slot 1) .nil))) .nil))⟩
noncomputable def Qy:List Str:=[⟨#[115,101,108,102]⟩,⟨#[110,97,109,101]⟩,⟨#[99,111,100,101]⟩]
noncomputable def uY:Fn:=⟨2,2,[],(.cons (.aD (.cmp .NotIn (.slot 1) (.attr (.slot 0) ⟨#[109,97,112,115]⟩)) (.cons (.assign (.idx (.attr (.slot 0) ⟨#[109,97,112,115]⟩) (.slot 1)) (.new 2 (.cons (.aw .get (.attr (.slot 0) ⟨#[100,101,102,97,117,108,116,115]⟩) (.cons (.slot 1) .nil)) .nil))) .nil) .nil) (.cons (.ret (.idx (.attr (.slot 0) ⟨#[109,97,112,115]⟩) (.slot 1))) .nil))⟩
noncomputable def QA:List Str:=[⟨#[115,101,108,102]⟩,⟨#[110,97,109,101]⟩]
noncomputable def B2:Fn:=⟨1,2,[],(.cons (.assign (.slot 1) (.ite (.aw .startswith (.slot 0) (.cons (.glob 7) .nil)) (.bu (.slot 0) (.aG .len (.cons (.glob 7) .nil)) .omit) (.slot 0))) (.cons (.ret (.aw .split (.slot 1) (.cons (.aC [10]) .nil))) .nil))⟩
noncomputable def RB:List Str:=[⟨#[111,99,116,101,116,115]⟩,⟨#[98,97,114,101]⟩]
noncomputable def BQ:Fn:=⟨1,8,[],(.cons (.assign (.slot 1) (.lst .nil)) (.cons (.for (.tup (.cons (.slot 2) (.cons (.slot 3) .nil))) (.enum (.call 28 (.cons (.slot 0) .nil))) (.cons (.assign (.slot 4) (.aw .find (.slot 3) (.cons (.aC [35]) .nil))) (.cons (.assign (.slot 5) (.ite (.cmp .Lt (.slot 4) (.aj 0)) (.slot 3) (.bu (.slot 3) .omit (.slot 4)))) (.cons (.assign (.slot 6) (.ite (.cmp .Lt (.slot 4) (.aj 0)) (.aC []) (.bu (.slot 3) (.bin .Add (.slot 4) (.aj 1)) .omit))) (.cons (.aD (.cmp .NotEq (.aw .strip (.slot 5) (.cons (.glob 6) .nil)) (.aC [])) (.cons (.assign (.slot 7) (.comp 1 (.ay 0) (.of (.aw .split (.slot 5) (.cons (.aC [59]) .nil))) .nil (.aw .strip (.ay 0 0) (.cons (.glob 6) .nil)))) (.cons (.expr (.aw .append (.slot 1) (.cons (.tup (.cons (.bin .Add (.slot 2) (.aj 1)) (.cons (.slot 7) (.cons (.aw .strip (.slot 6) (.cons (.glob 6) .nil)) .nil)))) .nil))) .nil)) .nil) .nil))))) (.cons (.ret (.slot 1)) .nil)))⟩
noncomputable def Rn:List Str:=[⟨#[111,99,116,101,116,115]⟩,⟨#[102,111,117,110,100]⟩,⟨#[97,116]⟩,⟨#[108,105,110,101]⟩,⟨#[99,117,116]⟩,⟨#[98,111,100,121]⟩,⟨#[114,101,109,97,114,107]⟩,⟨#[102,105,101,108,100,115]⟩]
noncomputable def BJ:Fn:=⟨1,8,[],(.cons (.assign (.slot 1) (.lst .nil)) (.cons (.for (.tup (.cons (.slot 2) (.cons (.slot 3) .nil))) (.enum (.call 28 (.cons (.slot 0) .nil))) (.cons (.assign (.slot 4) (.aw .find (.slot 3) (.cons (.aC [35]) .nil))) (.cons (.assign (.slot 5) (.ite (.cmp .Lt (.slot 4) (.aj 0)) (.aC []) (.aw .strip (.bu (.slot 3) (.bin .Add (.slot 4) (.aj 1)) .omit) (.cons (.glob 6) .nil)))) (.cons (.aD (.and (.cmp .GtE (.slot 4) (.aj 0)) (.and (.cmp .Eq (.aw .strip (.bu (.slot 3) .omit (.slot 4)) (.cons (.glob 6) .nil)) (.aC [])) (.aw .startswith (.slot 5) (.cons (.glob 8) .nil)))) (.cons (.assign (.slot 6) (.bu (.slot 5) (.aG .len (.cons (.glob 8) .nil)) .omit)) (.cons (.assign (.slot 7) (.aw .find (.slot 6) (.cons (.aC [35]) .nil))) (.cons (.assign (.slot 6) (.ite (.cmp .Lt (.slot 7) (.aj 0)) (.slot 6) (.bu (.slot 6) .omit (.slot 7)))) (.cons (.expr (.aw .append (.slot 1) (.cons (.tup (.cons (.bin .Add (.slot 2) (.aj 1)) (.cons (.comp 1 (.ay 0) (.of (.aw .split (.slot 6) (.cons (.aC [59]) .nil))) .nil (.aw .strip (.ay 0 0) (.cons (.glob 6) .nil))) .nil))) .nil))) .nil)))) .nil) .nil)))) (.cons (.ret (.slot 1)) .nil)))⟩
noncomputable def Rb:List Str:=[⟨#[111,99,116,101,116,115]⟩,⟨#[102,111,117,110,100]⟩,⟨#[97,116]⟩,⟨#[108,105,110,101]⟩,⟨#[99,117,116]⟩,⟨#[114,101,115,116]⟩,⟨#[116,111,108,100]⟩,⟨#[102,117,114,116,104,101,114]⟩]
noncomputable def Bv:Fn:=⟨2,2,[],(.cons (.aD (.cmp .Lt (.aG .len (.cons (.slot 0) .nil)) (.aj 4)) (.cons .stuck .nil) .nil) (.cons (.try (.cons (.ret (.call 6 (.cons (.slot 0) .nil))) .nil)) .nil))⟩
noncomputable def QM:List Str:=[⟨#[102,105,101,108,100]⟩,⟨#[110,117,109,98,101,114]⟩]
noncomputable def BP:Fn:=⟨2,5,[.int 0],(.cons (.assign (.slot 2) (.aw .split (.slot 0) (.cons (.aC [46,46]) .nil))) (.cons (.aD (.cmp .Gt (.aG .len (.cons (.slot 2) .nil)) (.aj 2)) (.cons .stuck .nil) .nil) (.cons (.bK true (.cons (.slot 3) (.cons (.slot 4) .nil)) (.cons (.call 31 (.cons (.idx (.slot 2) (.aj 0)) (.cons (.slot 1) .nil))) (.cons (.call 31 (.cons (.idx (.slot 2) (.neg (.aj 1))) (.cons (.slot 1) .nil))) .nil))) (.cons (.aD (.cmp .Gt (.slot 3) (.slot 4)) (.cons .stuck .nil) .nil) (.cons (.ret (.tup (.cons (.slot 3) (.cons (.slot 4) .nil)))) .nil)))))⟩
noncomputable def Rg:List Str:=[⟨#[102,105,101,108,100]⟩,⟨#[110,117,109,98,101,114]⟩,⟨#[112,97,114,116,115]⟩,⟨#[102,105,114,115,116]⟩,⟨#[108,97,115,116]⟩]
noncomputable def Bw:Fn:=⟨2,4,[.int 0],(.cons (.assign (.slot 2) (.lst .nil)) (.cons (.for (.slot 3) (.of (.aw .split (.slot 0) (.cons (.aC [32]) .nil))) (.cons (.aD (.cmp .NotEq (.slot 3) (.aC [])) (.cons (.expr (.aw .append (.slot 2) (.cons (.call 31 (.cons (.slot 3) (.cons (.slot 1) .nil))) .nil))) .nil) .nil) .nil)) (.cons (.ret (.aG .tuple (.cons (.slot 2) .nil))) .nil)))⟩
noncomputable def QP:List Str:=[⟨#[102,105,101,108,100]⟩,⟨#[110,117,109,98,101,114]⟩,⟨#[102,111,117,110,100]⟩,⟨#[112,97,114,116]⟩]
noncomputable def B9:Fn:=⟨2,2,[],(.cons (.try (.cons (.ret (.call 3 (.cons (.slot 0) .nil))) .nil)) .nil)⟩
noncomputable def RT:List Str:=[⟨#[102,105,101,108,100]⟩,⟨#[110,117,109,98,101,114]⟩]
noncomputable def LV:Fn:=⟨2,8,[.int 0],(.cons (.assign (.slot 2) (.aw .startswith (.slot 0) (.cons (.aC [45]) .nil))) (.cons (.assign (.slot 3) (.aw .split (.ite (.slot 2) (.bu (.slot 0) (.aj 1) .omit) (.slot 0)) (.cons (.aC [47]) .nil))) (.cons (.bK true (.cons (.slot 4) (.cons (.slot 5) .nil)) (.cons (.call 7 (.cons (.idx (.slot 3) (.aj 0)) .nil)) (.cons (.ite (.cmp .Eq (.aG .len (.cons (.slot 3) .nil)) (.aj 1)) (.aj 1) (.call 7 (.cons (.idx (.slot 3) (.neg (.aj 1))) .nil))) .nil))) (.cons (.aD (.or (.cmp .Gt (.aG .len (.cons (.slot 3) .nil)) (.aj 2)) (.or (.bS (.slot 4)) (.or (.bS (.slot 5)) (.cmp .Eq (.slot 5) (.aj 0))))) (.cons .stuck .nil) .nil) (.cons (.bK true (.cons (.slot 6) (.cons (.slot 7) .nil)) (.cons (.slot 4) (.cons (.slot 5) .nil))) (.cons (.while (.cmp .Gt (.slot 7) (.aj 0)) (.cons (.bK true (.cons (.slot 6) (.cons (.slot 7) .nil)) (.cons (.slot 7) (.cons (.bin .Mod (.slot 6) (.slot 7)) .nil))) .nil)) (.cons (.ret (.tup (.cons (.ite (.slot 2) (.bin .FloorDiv (.neg (.slot 4)) (.slot 6)) (.bin .FloorDiv (.slot 4) (.slot 6))) (.cons (.bin .FloorDiv (.slot 5) (.slot 6)) .nil)))) .nil)))))))⟩
noncomputable def QR:List Str:=[⟨#[102,105,101,108,100]⟩,⟨#[110,117,109,98,101,114]⟩,⟨#[105,115,95,108,101,115,115]⟩,⟨#[112,97,114,116,115]⟩,⟨#[97,98,111,118,101]⟩,⟨#[98,101,108,111,119]⟩,⟨#[111,110,101]⟩,⟨#[111,116,104,101,114]⟩]
noncomputable def oS:Fn:=⟨5,5,[],(.cons (.assign (.attr (.slot 0) ⟨#[102,105,114,115,116]⟩) (.slot 1)) (.cons (.assign (.attr (.slot 0) ⟨#[108,97,115,116]⟩) (.slot 2)) (.cons (.assign (.attr (.slot 0) ⟨#[102,105,101,108,100,115]⟩) (.slot 3)) (.cons (.assign (.attr (.slot 0) ⟨#[110,117,109,98,101,114]⟩) (.slot 4)) .nil))))⟩
noncomputable def QH:List Str:=[⟨#[115,101,108,102]⟩,⟨#[102,105,114,115,116]⟩,⟨#[108,97,115,116]⟩,⟨#[102,105,101,108,100,115]⟩,⟨#[110,117,109,98,101,114]⟩]
noncomputable def LK:Fn:=⟨2,2,[],(.cons (.ret (.call 34 (.cons (.idx (.attr (.slot 0) ⟨#[102,105,101,108,100,115]⟩) (.slot 1)) (.cons (.attr (.slot 0) ⟨#[110,117,109,98,101,114]⟩) .nil)))) .nil)⟩
noncomputable def QK:List Str:=[⟨#[115,101,108,102]⟩,⟨#[97,116]⟩]
noncomputable def uZ:Fn:=⟨3,4,[],(.cons (.assign (.slot 3) (.aw (.user 0) (.slot 0) (.cons (.slot 1) .nil))) (.cons (.aD (.cmp .NotIn (.slot 3) (.slot 2)) (.cons .stuck .nil) .nil) (.cons (.ret (.slot 3)) .nil)))⟩
noncomputable def QJ:List Str:=[⟨#[115,101,108,102]⟩,⟨#[97,116]⟩,⟨#[119,111,114,100,115]⟩,⟨#[119,111,114,100]⟩]
noncomputable def LJ:Fn:=⟨2,2,[],(.cons (.ret (.ite (.cmp .Eq (.idx (.attr (.slot 0) ⟨#[102,105,101,108,100,115]⟩) (.slot 1)) (.aC [])) .bz (.call 31 (.cons (.idx (.attr (.slot 0) ⟨#[102,105,101,108,100,115]⟩) (.slot 1)) (.cons (.attr (.slot 0) ⟨#[110,117,109,98,101,114]⟩) .nil))))) .nil)⟩
noncomputable def QG:List Str:=[⟨#[115,101,108,102]⟩,⟨#[97,116]⟩]
noncomputable def Bu:Fn:=⟨1,1,[],(.cons (.ret (.aw .endswith (.idx (.attr (.slot 0) ⟨#[102,105,101,108,100,115]⟩) (.aj 1)) (.cons (.glob 11) .nil))) .nil)⟩
noncomputable def QI:List Str:=[⟨#[115,101,108,102]⟩]
noncomputable def rj:Fn:=⟨1,9,[],(.cons (.bK true (.cons (.slot 1) (.cons (.slot 2) (.cons (.slot 3) .nil))) (.cons (.lst .nil) (.cons .bz (.cons (.neg (.aj 1)) .nil)))) (.cons (.for (.tup (.cons (.slot 4) (.cons (.slot 5) (.cons (.slot 6) .nil)))) (.of (.call 29 (.cons (.slot 0) .nil))) (.cons (.aD (.cmp .NotEq (.aG .len (.cons (.slot 5) .nil)) (.glob 9)) (.cons .stuck .nil) .nil) (.cons (.bK true (.cons (.slot 7) (.cons (.slot 8) .nil)) (.cons (.call 31 (.cons (.idx (.slot 5) (.aj 0)) (.cons (.slot 4) .nil))) (.cons (.idx (.slot 5) (.aj 1)) .nil))) (.cons (.aD (.cmp .LtE (.slot 7) (.slot 3)) (.cons .stuck .nil) .nil) (.cons (.assign (.slot 3) (.slot 7)) (.cons (.aD (.bF (.slot 2)) (.cons (.aD (.not (.aw .endswith (.slot 8) (.cons (.glob 11) .nil))) (.cons .stuck .nil) .nil) (.cons (.aD (.cmp .NotEq (.bu (.slot 5) (.aj 2) .omit) (.bu (.attr (.slot 2) ⟨#[102,105,101,108,100,115]⟩) (.aj 2) .omit)) (.cons .stuck .nil) .nil) (.cons (.aD (.cmp .NotEq (.bu (.slot 8) .omit (.neg (.aG .len (.cons (.glob 11) .nil)))) (.bu (.idx (.attr (.slot 2) ⟨#[102,105,101,108,100,115]⟩) (.aj 1)) .omit (.neg (.aG .len (.cons (.glob 10) .nil))))) (.cons .stuck .nil) .nil) (.cons (.expr (.aw .append (.slot 1) (.cons (.new 1 (.cons (.attr (.slot 2) ⟨#[102,105,114,115,116]⟩) (.cons (.slot 7) (.cons (.slot 5) (.cons (.slot 4) .nil))))) .nil))) (.cons (.assign (.slot 2) .bz) .nil))))) (.cons (.aD (.and (.aw .startswith (.slot 8) (.cons (.aC [60]) .nil)) (.aw .endswith (.slot 8) (.cons (.glob 10) .nil))) (.cons (.assign (.slot 2) (.new 1 (.cons (.slot 7) (.cons (.slot 7) (.cons (.slot 5) (.cons (.slot 4) .nil)))))) .nil) (.cons (.aD (.aw .endswith (.slot 8) (.cons (.glob 11) .nil)) (.cons .stuck .nil) (.cons (.expr (.aw .append (.slot 1) (.cons (.new 1 (.cons (.slot 7) (.cons (.slot 7) (.cons (.slot 5) (.cons (.slot 4) .nil))))) .nil))) .nil)) .nil)) .nil)) .nil)))))) (.cons (.aD (.bF (.slot 2)) (.cons .stuck .nil) .nil) (.cons (.ret (.slot 1)) .nil))))⟩
noncomputable def RP:List Str:=[⟨#[111,99,116,101,116,115]⟩,⟨#[102,111,117,110,100]⟩,⟨#[98,101,103,117,110]⟩,⟨#[108,97,115,116]⟩,⟨#[110,117,109,98,101,114]⟩,⟨#[102,105,101,108,100,115]⟩,⟨#[114,101,109,97,114,107]⟩,⟨#[99,111,100,101]⟩,⟨#[110,97,109,101]⟩]
noncomputable def BX:Fn:=⟨1,3,[],(.cons (.assign (.slot 1) (.call 7 (.cons (.idx (.attr (.slot 0) ⟨#[102,105,101,108,100,115]⟩) (.aj 3)) .nil))) (.cons (.aD (.or (.bS (.slot 1)) (.or (.cmp .Gt (.slot 1) (.glob 12)) (.cmp .NotIn (.idx (.attr (.slot 0) ⟨#[102,105,101,108,100,115]⟩) (.aj 9)) (.tup (.cons (.aC [89]) (.cons (.aC [78]) .nil)))))) (.cons .stuck .nil) .nil) (.cons (.assign (.slot 2) (.lst (.cons (.tup (.cons (.ai ⟨#[103,99]⟩) (.cons (.aw (.user 1) (.slot 0) (.cons (.aj 2) (.cons (.glob 13) .nil))) .nil))) (.cons (.tup (.cons (.ai ⟨#[98,99]⟩) (.cons (.aw (.user 1) (.slot 0) (.cons (.aj 4) (.cons (.glob 14) .nil))) .nil))) .nil)))) (.cons (.aD (.cmp .Gt (.slot 1) (.aj 0)) (.cons (.expr (.aw .append (.slot 2) (.cons (.tup (.cons (.ai ⟨#[99,99,99]⟩) (.cons (.slot 1) .nil))) .nil))) .nil) .nil) (.cons (.ret (.slot 2)) .nil)))))⟩
noncomputable def Ry:List Str:=[⟨#[114,111,119]⟩,⟨#[97,98,111,118,101]⟩,⟨#[102,111,117,110,100]⟩]
noncomputable def B4:Fn:=⟨1,3,[],(.cons (.assign (.slot 1) (.idx (.attr (.slot 0) ⟨#[102,105,101,108,100,115]⟩) (.aj 1))) (.cons (.aD (.and (.aw .startswith (.slot 1) (.cons (.aC [60]) .nil)) (.aw .endswith (.slot 1) (.cons (.aC [62]) .nil))) (.cons (.ret (.lst .nil)) .nil) .nil) (.cons (.for (.slot 2) (.of (.slot 1)) (.cons (.aD (.not (.or (.fS (.aj 65) (.slot 2) (.aj 90)) (.or (.fS (.aj 48) (.slot 2) (.aj 57)) (.cmp .In (.slot 2) (.tup (.cons (.aj 32) (.cons (.aj 45) .nil))))))) (.cons .stuck .nil) .nil) .nil)) (.cons (.aD (.cmp .Eq (.slot 1) (.aC [])) (.cons .stuck .nil) .nil) (.cons (.ret (.lst (.cons (.tup (.cons (.ai ⟨#[110,97,109,101]⟩) (.cons (.slot 1) .nil))) .nil))) .nil)))))⟩
noncomputable def RE:List Str:=[⟨#[114,111,119]⟩,⟨#[110,97,109,101]⟩,⟨#[111,99,116,101,116]⟩]
noncomputable def ri:Fn:=⟨1,5,[],(.cons (.bK true (.cons (.slot 1) (.cons (.slot 2) .nil)) (.cons (.idx (.attr (.slot 0) ⟨#[102,105,101,108,100,115]⟩) (.aj 5)) (.cons (.ai ⟨#[]⟩) .nil))) (.cons (.aD (.cmp .Eq (.slot 1) (.aC [])) (.cons (.ret (.lst .nil)) .nil) .nil) (.cons (.aD (.aw .startswith (.slot 1) (.cons (.aC [60]) .nil)) (.cons (.assign (.slot 3) (.aw .find (.slot 1) (.cons (.aC [62]) .nil))) (.cons (.assign (.slot 2) (.call 34 (.cons (.bu (.slot 1) (.aj 1) (.aG .max (.cons (.slot 3) (.cons (.aj 1) .nil)))) (.cons (.attr (.slot 0) ⟨#[110,117,109,98,101,114]⟩) .nil)))) (.cons (.aD (.cmp .NotIn (.slot 2) (.glob 15)) (.cons .stuck .nil) .nil) (.cons (.assign (.slot 1) (.bu (.slot 1) (.bin .Add (.slot 3) (.aj 1)) .omit)) .nil)))) .nil) (.cons (.assign (.slot 4) (.call 33 (.cons (.slot 1) (.cons (.attr (.slot 0) ⟨#[110,117,109,98,101,114]⟩) .nil)))) (.cons (.aD (.or (.cmp .Eq (.slot 4) (.tup .nil)) (.or (.and (.cmp .Eq (.slot 2) (.ai ⟨#[]⟩)) (.cmp .Gt (.aG .len (.cons (.slot 4) .nil)) (.aj 2))) (.cmp .In (.attr (.slot 0) ⟨#[102,105,114,115,116]⟩) (.slot 4)))) (.cons .stuck .nil) .nil) (.cons (.aD (.cmp .NotEq (.comp 1 (.ay 0) (.of (.slot 4)) (.cons (.call 0 (.cons (.ay 0 0) .nil)) .nil) (.ay 0 0)) (.lst .nil)) (.cons .stuck .nil) .nil) (.cons (.ret (.lst (.cons (.tup (.cons (.ai ⟨#[100,109]⟩) (.cons (.tup (.cons (.slot 2) (.cons (.slot 4) .nil))) .nil))) .nil))) .nil)))))))⟩
noncomputable def RC:List Str:=[⟨#[114,111,119]⟩,⟨#[102,105,101,108,100]⟩,⟨#[116,97,103]⟩,⟨#[101,110,100]⟩,⟨#[99,111,100,101,115]⟩]
noncomputable def B5:Fn:=⟨1,6,[],(.cons (.bK true (.cons (.slot 1) (.cons (.slot 2) (.cons (.slot 3) .nil))) (.cons (.idx (.attr (.slot 0) ⟨#[102,105,101,108,100,115]⟩) (.aj 6)) (.cons (.idx (.attr (.slot 0) ⟨#[102,105,101,108,100,115]⟩) (.aj 7)) (.cons (.idx (.attr (.slot 0) ⟨#[102,105,101,108,100,115]⟩) (.aj 8)) .nil)))) (.cons (.aD (.cmp .Eq (.slot 3) (.aC [])) (.cons (.aD (.or (.cmp .NotEq (.slot 1) (.aC [])) (.cmp .NotEq (.slot 2) (.aC []))) (.cons .stuck .nil) .nil) (.cons (.ret (.lst .nil)) .nil)) .nil) (.cons (.assign (.slot 4) (.call 35 (.cons (.slot 3) (.cons (.attr (.slot 0) ⟨#[110,117,109,98,101,114]⟩) .nil)))) (.cons (.aD (.or (.and (.cmp .NotEq (.slot 1) (.aC [])) (.cmp .NotEq (.slot 2) (.slot 1))) (.and (.cmp .NotEq (.slot 2) (.aC [])) (.or (.cmp .NotEq (.slot 2) (.slot 3)) (.cmp .NotEq (.aG .len (.cons (.slot 2) .nil)) (.aj 1))))) (.cons .stuck .nil) .nil) (.cons (.assign (.slot 5) (.ite (.cmp .NotEq (.slot 1) (.aC [])) (.ai ⟨#[100,101]⟩) (.ite (.cmp .NotEq (.slot 2) (.aC [])) (.ai ⟨#[100,105]⟩) (.ai ⟨#[110,117]⟩)))) (.cons (.ret (.lst (.cons (.tup (.cons (.ai ⟨#[110,116]⟩) (.cons (.slot 5) .nil))) (.cons (.tup (.cons (.ai ⟨#[110,118]⟩) (.cons (.slot 4) .nil))) .nil)))) .nil))))))⟩
noncomputable def RF:List Str:=[⟨#[114,111,119]⟩,⟨#[100,101,99,105,109,97,108]⟩,⟨#[100,105,103,105,116]⟩,⟨#[118,97,108,117,101]⟩,⟨#[116,111,108,100]⟩,⟨#[107,105,110,100]⟩]
noncomputable def BZ:Fn:=⟨1,7,[],(.cons (.bK true (.cons (.slot 1) (.cons (.slot 2) (.cons (.slot 3) .nil))) (.cons (.aw (.user 2) (.slot 0) (.cons (.aj 12) .nil)) (.cons (.aw (.user 2) (.slot 0) (.cons (.aj 13) .nil)) (.cons (.aw (.user 2) (.slot 0) (.cons (.aj 14) .nil)) .nil)))) (.cons (.assign (.slot 3) (.ite (.bS (.slot 3)) (.slot 1) (.slot 3))) (.cons (.assign (.slot 4) (.lst .nil)) (.cons (.for (.tup (.cons (.slot 5) (.cons (.slot 6) .nil))) (.of (.tup (.cons (.tup (.cons (.ai ⟨#[117,99]⟩) (.cons (.slot 1) .nil))) (.cons (.tup (.cons (.ai ⟨#[108,99]⟩) (.cons (.slot 2) .nil))) (.cons (.tup (.cons (.ai ⟨#[116,99]⟩) (.cons (.slot 3) .nil))) .nil))))) (.cons (.aD (.bF (.slot 6)) (.cons (.expr (.aw .append (.slot 4) (.cons (.tup (.cons (.slot 5) (.cons (.slot 6) .nil))) .nil))) .nil) .nil) .nil)) (.cons (.ret (.slot 4)) .nil)))))⟩
noncomputable def Rz:List Str:=[⟨#[114,111,119]⟩,⟨#[117,112,112,101,114]⟩,⟨#[108,111,119,101,114]⟩,⟨#[116,105,116,108,101]⟩,⟨#[102,111,117,110,100]⟩,⟨#[110,97,109,101]⟩,⟨#[99,111,100,101]⟩]
noncomputable def vg:Fn:=⟨1,3,[],(.cons (.assign (.slot 1) (.call 42 (.cons (.slot 0) .nil))) (.cons (.assign (.slot 2) (.bin .Add (.bin .Add (.bin .Add (.call 43 (.cons (.slot 0) .nil)) (.call 44 (.cons (.slot 0) .nil))) (.call 45 (.cons (.slot 0) .nil))) (.call 46 (.cons (.slot 0) .nil)))) (.cons (.aD (.and (.aw (.user 3) (.slot 0) .nil) (.cmp .NotEq (.slot 2) (.lst .nil))) (.cons .stuck .nil) .nil) (.cons (.ret (.bin .Add (.slot 1) (.slot 2))) .nil))))⟩
noncomputable def RH:List Str:=[⟨#[114,111,119]⟩,⟨#[102,111,117,110,100]⟩,⟨#[109,111,114,101]⟩]
noncomputable def rd:Fn:=⟨2,8,[],(.cons (.assign (.slot 2) (.lst .nil)) (.cons (.for (.slot 3) (.of (.call 41 (.cons (.slot 0) .nil))) (.cons (.for (.tup (.cons (.slot 4) (.cons (.slot 5) .nil))) (.of (.call 47 (.cons (.slot 3) .nil))) (.cons (.expr (.aw .append (.slot 2) (.cons (.tup (.cons (.slot 4) (.cons (.attr (.slot 3) ⟨#[102,105,114,115,116]⟩) (.cons (.attr (.slot 3) ⟨#[108,97,115,116]⟩) (.cons (.slot 5) .nil))))) .nil))) .nil)) .nil)) (.cons (.for (.tup (.cons (.slot 4) (.cons (.slot 6) (.cons (.slot 7) (.cons (.slot 5) .nil))))) (.of (.slot 2)) (.cons (.expr (.aw (.user 4) (.slot 1) (.cons (.slot 4) (.cons (.slot 6) (.cons (.slot 7) (.cons (.slot 5) .nil)))))) .nil)) .nil)))⟩
noncomputable def Rl:List Str:=[⟨#[111,99,116,101,116,115]⟩,⟨#[100,97,116,97]⟩,⟨#[112,117,116,115]⟩,⟨#[114,111,119]⟩,⟨#[110,97,109,101]⟩,⟨#[118,97,108,117,101]⟩,⟨#[102,105,114,115,116]⟩,⟨#[108,97,115,116]⟩]
noncomputable def B7:Fn:=⟨3,4,[],(.cons (.assign (.slot 3) (.call 34 (.cons (.slot 0) (.cons (.slot 2) .nil)))) (.cons (.aD (.bS (.slot 1)) (.cons (.ret (.slot 3)) .nil) .nil) (.cons (.aD (.cmp .NotIn (.slot 3) (.slot 1)) (.cons .stuck .nil) .nil) (.cons (.ret (.idx (.slot 1) (.slot 3))) .nil))))⟩
noncomputable def RK:List Str:=[⟨#[102,105,101,108,100]⟩,⟨#[118,97,108,117,101,115]⟩,⟨#[110,117,109,98,101,114]⟩,⟨#[119,111,114,100]⟩]
noncomputable def B1:Fn:=⟨1,5,[],(.cons (.assign (.slot 1) .bz) (.cons (.for (.tup (.cons (.slot 2) (.cons (.slot 3) (.cons (.slot 4) .nil)))) (.of (.aG .sorted (.cons (.slot 0) .nil))) (.cons (.aD (.and (.bF (.slot 1)) (.cmp .LtE (.slot 2) (.idx (.slot 1) (.aj 1)))) (.cons .stuck .nil) .nil) (.cons (.aD (.or (.bS (.slot 1)) (.cmp .Gt (.slot 3) (.idx (.slot 1) (.aj 1)))) (.cons (.assign (.slot 1) (.tup (.cons (.slot 2) (.cons (.slot 3) (.cons (.slot 4) .nil))))) .nil) .nil) .nil))) .nil))⟩
noncomputable def RA:List Str:=[⟨#[108,111,116,115]⟩,⟨#[97,104,101,97,100]⟩,⟨#[102,105,114,115,116]⟩,⟨#[108,97,115,116]⟩,⟨#[110,117,109,98,101,114]⟩]
noncomputable def B6:Fn:=⟨2,8,[],(.cons (.assign (.slot 2) (.lst .nil)) (.cons (.for (.tup (.cons (.slot 3) (.cons (.slot 4) (.cons (.slot 5) .nil)))) (.of (.call 29 (.cons (.slot 0) .nil))) (.cons (.aD (.cmp .NotEq (.aG .len (.cons (.slot 4) .nil)) (.slot 1)) (.cons .stuck .nil) .nil) (.cons (.assign (.tup (.cons (.slot 6) (.cons (.slot 7) .nil))) (.call 32 (.cons (.idx (.slot 4) (.aj 0)) (.cons (.slot 3) .nil)))) (.cons (.expr (.aw .append (.slot 2) (.cons (.tup (.cons (.slot 6) (.cons (.slot 7) (.cons (.slot 4) (.cons (.slot 3) .nil))))) .nil))) .nil)))) (.cons (.ret (.slot 2)) .nil)))⟩
noncomputable def RJ:List Str:=[⟨#[111,99,116,101,116,115]⟩,⟨#[109,97,110,121]⟩,⟨#[102,111,117,110,100]⟩,⟨#[110,117,109,98,101,114]⟩,⟨#[102,105,101,108,100,115]⟩,⟨#[114,101,109,97,114,107]⟩,⟨#[102,105,114,115,116]⟩,⟨#[108,97,115,116]⟩]
noncomputable def B3:Fn:=⟨3,8,[],(.cons (.assign (.slot 3) (.lst .nil)) (.cons (.for (.tup (.cons (.slot 4) (.cons (.slot 5) .nil))) (.of (.call 30 (.cons (.slot 0) .nil))) (.cons (.aD (.or (.and (.cmp .Eq (.aG .len (.cons (.slot 5) .nil)) (.aj 2)) (.bS (.slot 1))) (.and (.cmp .Eq (.aG .len (.cons (.slot 5) .nil)) (.aj 3)) (.cmp .In (.slot 1) (.tup (.cons .bz (.cons (.idx (.slot 5) (.aj 1)) .nil)))))) (.cons (.assign (.tup (.cons (.slot 6) (.cons (.slot 7) .nil))) (.call 32 (.cons (.idx (.slot 5) (.aj 0)) (.cons (.slot 4) .nil)))) (.cons (.expr (.aw .append (.slot 3) (.cons (.tup (.cons (.slot 6) (.cons (.slot 7) (.cons (.call 49 (.cons (.idx (.slot 5) (.neg (.aj 1))) (.cons (.slot 2) (.cons (.slot 4) .nil)))) .nil)))) .nil))) .nil)) .nil) .nil)) (.cons (.ret (.slot 3)) .nil)))⟩
noncomputable def RD:List Str:=[⟨#[111,99,116,101,116,115]⟩,⟨#[119,111,114,100]⟩,⟨#[118,97,108,117,101,115]⟩,⟨#[102,111,117,110,100]⟩,⟨#[110,117,109,98,101,114]⟩,⟨#[102,105,101,108,100,115]⟩,⟨#[102,105,114,115,116]⟩,⟨#[108,97,115,116]⟩]
noncomputable def vd:Fn:=⟨4,11,[.none],(.cons (.assign (.slot 4) (.call 52 (.cons (.slot 0) (.cons .bz (.cons (.slot 3) .nil))))) (.cons (.assign (.slot 5) (.call 51 (.cons (.slot 0) (.cons (.aj 2) .nil)))) (.cons (.expr (.call 50 (.cons (.comp 4 (.tup (.cons (.ay 0) (.cons (.ay 1) (.cons (.ay 2) (.cons (.ay 3) .nil))))) (.of (.slot 5)) .nil (.tup (.cons (.ay 0 0) (.cons (.ay 0 1) (.cons (.ay 0 3) .nil))))) .nil))) (.cons (.for (.tup (.cons (.slot 6) (.cons (.slot 7) (.cons (.slot 8) (.cons (.slot 9) .nil))))) (.of (.slot 5)) (.cons (.expr (.aw .append (.slot 4) (.cons (.tup (.cons (.slot 6) (.cons (.slot 7) (.cons (.call 49 (.cons (.idx (.slot 8) (.aj 1)) (.cons (.slot 3) (.cons (.slot 9) .nil)))) .nil)))) .nil))) .nil)) (.cons (.for (.tup (.cons (.slot 6) (.cons (.slot 7) (.cons (.slot 10) .nil)))) (.of (.slot 4)) (.cons (.expr (.aw (.user 4) (.slot 1) (.cons (.slot 2) (.cons (.slot 6) (.cons (.slot 7) (.cons (.slot 10) .nil)))))) .nil)) .nil)))))⟩
noncomputable def Rk:List Str:=[⟨#[111,99,116,101,116,115]⟩,⟨#[100,97,116,97]⟩,⟨#[110,97,109,101]⟩,⟨#[118,97,108,117,101,115]⟩,⟨#[112,117,116,115]⟩,⟨#[108,111,116,115]⟩,⟨#[102,105,114,115,116]⟩,⟨#[108,97,115,116]⟩,⟨#[102,105,101,108,100,115]⟩,⟨#[110,117,109,98,101,114]⟩,⟨#[118,97,108,117,101]⟩]
noncomputable def L0:Fn:=⟨3,7,[],(.cons (.assign (.slot 3) (.lst .nil)) (.cons (.for (.tup (.cons (.slot 4) (.cons (.slot 5) (.cons (.slot 6) .nil)))) (.of (.call 29 (.cons (.slot 0) .nil))) (.cons (.aD (.and (.cmp .Gt (.aG .len (.cons (.slot 5) .nil)) (.slot 1)) (.cmp .Eq (.idx (.slot 5) (.neg (.aj 1))) (.aC []))) (.cons (.assign (.slot 5) (.bu (.slot 5) .omit (.neg (.aj 1)))) .nil) .nil) (.cons (.aD (.not (.fS (.slot 1) (.aG .len (.cons (.slot 5) .nil)) (.slot 2))) (.cons .stuck .nil) .nil) (.cons (.expr (.aw .append (.slot 3) (.cons (.tup (.cons (.slot 4) (.cons (.slot 5) .nil))) .nil))) .nil)))) (.cons (.ret (.slot 3)) .nil)))⟩
noncomputable def RM:List Str:=[⟨#[111,99,116,101,116,115]⟩,⟨#[108,101,97,115,116]⟩,⟨#[109,111,115,116]⟩,⟨#[102,111,117,110,100]⟩,⟨#[110,117,109,98,101,114]⟩,⟨#[102,105,101,108,100,115]⟩,⟨#[114,101,109,97,114,107]⟩]
noncomputable def LZ:Fn:=⟨3,3,[],(.cons (.aD (.cmp .In (.slot 2) (.slot 0)) (.cons .stuck .nil) .nil) (.cons (.assign (.idx (.slot 0) (.slot 2)) (.fP true)) .nil))⟩
noncomputable def RL:List Str:=[⟨#[99,111,100,101,115]⟩,⟨#[110,117,109,98,101,114]⟩,⟨#[99,111,100,101]⟩]
noncomputable def vi:Fn:=⟨3,6,[],(.cons (.for (.tup (.cons (.slot 3) (.cons (.slot 4) (.cons (.slot 5) .nil)))) (.of (.slot 2)) (.cons (.expr (.aw (.user 4) (.slot 0) (.cons (.slot 1) (.cons (.slot 3) (.cons (.slot 4) (.cons (.slot 5) .nil)))))) .nil)) .nil)⟩
noncomputable def RO:List Str:=[⟨#[100,97,116,97]⟩,⟨#[110,97,109,101]⟩,⟨#[112,117,116,115]⟩,⟨#[102,105,114,115,116]⟩,⟨#[108,97,115,116]⟩,⟨#[118,97,108,117,101]⟩]
noncomputable def ra:Fn:=⟨2,9,[],(.cons (.bK false (.cons (.slot 2) (.cons (.slot 3) .nil)) (.cons (.dct .nil) (.cons (.dct .nil) .nil))) (.cons (.for (.tup (.cons (.slot 4) (.cons (.slot 5) .nil))) (.of (.call 54 (.cons (.slot 0) (.cons (.aj 3) (.cons (.aj 3) .nil))))) (.cons (.bK true (.cons (.slot 6) (.cons (.slot 7) .nil)) (.cons (.call 31 (.cons (.idx (.slot 5) (.aj 0)) (.cons (.slot 4) .nil))) (.cons (.call 34 (.cons (.idx (.slot 5) (.aj 2)) (.cons (.slot 4) .nil))) .nil))) (.cons (.expr (.call 55 (.cons (.slot 3) (.cons (.slot 4) (.cons (.slot 6) .nil))))) (.cons (.assign (.idx (.slot 3) (.slot 6)) (.slot 4)) (.cons (.aD (.cmp .NotIn (.slot 7) (.tup (.cons (.ai ⟨#[111]⟩) (.cons (.ai ⟨#[99]⟩) .nil)))) (.cons .stuck .nil) .nil) (.cons (.assign (.idx (.slot 2) (.slot 6)) (.tup (.cons (.slot 7) (.cons (.call 31 (.cons (.idx (.slot 5) (.aj 1)) (.cons (.slot 4) .nil))) .nil)))) .nil)))))) (.cons (.for (.slot 6) (.of (.aG .sorted (.cons (.slot 2) .nil))) (.cons (.assign (.tup (.cons (.slot 7) (.cons (.slot 8) .nil))) (.idx (.slot 2) (.slot 6))) (.cons (.aD (.cmp .NotEq (.aw .get (.slot 2) (.cons (.slot 8) .nil)) (.tup (.cons (.ite (.cmp .Eq (.slot 7) (.ai ⟨#[111]⟩)) (.ai ⟨#[99]⟩) (.ai ⟨#[111]⟩)) (.cons (.slot 6) .nil)))) (.cons .stuck .nil) .nil) .nil))) (.cons (.expr (.call 56 (.cons (.slot 1) (.cons (.ai ⟨#[98,112,98]⟩) (.cons (.comp 1 (.ay 0) (.of (.aG .sorted (.cons (.slot 2) .nil))) .nil (.tup (.cons (.ay 0 0) (.cons (.ay 0 0) (.cons (.idx (.slot 2) (.ay 0 0)) .nil))))) .nil))))) .nil))))⟩
noncomputable def Rh:List Str:=[⟨#[111,99,116,101,116,115]⟩,⟨#[100,97,116,97]⟩,⟨#[116,111,108,100]⟩,⟨#[110,117,109,98,101,114,115]⟩,⟨#[110,117,109,98,101,114]⟩,⟨#[102,105,101,108,100,115]⟩,⟨#[99,111,100,101]⟩,⟨#[115,111,114,116]⟩,⟨#[111,116,104,101,114]⟩]
noncomputable def u9:Fn:=⟨2,7,[],(.cons (.bK true (.cons (.slot 2) (.cons (.slot 3) .nil)) (.cons (.lst .nil) (.cons (.dct .nil) .nil))) (.cons (.for (.tup (.cons (.slot 4) (.cons (.slot 5) .nil))) (.of (.call 54 (.cons (.slot 0) (.cons (.aj 2) (.cons (.aj 2) .nil))))) (.cons (.assign (.slot 6) (.call 31 (.cons (.idx (.slot 5) (.aj 0)) (.cons (.slot 4) .nil)))) (.cons (.expr (.call 55 (.cons (.slot 3) (.cons (.slot 4) (.cons (.slot 6) .nil))))) (.cons (.expr (.aw .append (.slot 2) (.cons (.tup (.cons (.slot 6) (.cons (.slot 6) (.cons (.call 31 (.cons (.idx (.slot 5) (.aj 1)) (.cons (.slot 4) .nil))) .nil)))) .nil))) .nil)))) (.cons (.expr (.call 56 (.cons (.slot 1) (.cons (.ai ⟨#[98,109]⟩) (.cons (.slot 2) .nil))))) .nil)))⟩
noncomputable def Rj:List Str:=[⟨#[111,99,116,101,116,115]⟩,⟨#[100,97,116,97]⟩,⟨#[112,117,116,115]⟩,⟨#[107,110,111,119,110]⟩,⟨#[110,117,109,98,101,114]⟩,⟨#[102,105,101,108,100,115]⟩,⟨#[99,111,100,101]⟩]
noncomputable def u6:Fn:=⟨2,8,[],(.cons (.bK true (.cons (.slot 2) (.cons (.slot 3) .nil)) (.cons (.lst .nil) (.cons (.dct .nil) .nil))) (.cons (.for (.tup (.cons (.slot 4) (.cons (.slot 5) .nil))) (.of (.call 54 (.cons (.slot 0) (.cons (.aj 3) (.cons (.aj 3) .nil))))) (.cons (.bK true (.cons (.slot 6) (.cons (.slot 7) .nil)) (.cons (.call 31 (.cons (.idx (.slot 5) (.aj 0)) (.cons (.slot 4) .nil))) (.cons (.call 33 (.cons (.idx (.slot 5) (.aj 1)) (.cons (.slot 4) .nil))) .nil))) (.cons (.expr (.call 55 (.cons (.slot 3) (.cons (.slot 4) (.cons (.slot 6) .nil))))) (.cons (.aD (.or (.cmp .Eq (.slot 7) (.tup .nil)) (.cmp .NotEq (.idx (.slot 5) (.aj 2)) (.aC [77,65]))) (.cons .stuck .nil) .nil) (.cons (.expr (.aw .append (.slot 2) (.cons (.tup (.cons (.slot 6) (.cons (.slot 6) (.cons (.slot 7) .nil)))) .nil))) .nil))))) (.cons (.expr (.call 56 (.cons (.slot 1) (.cons (.ai ⟨#[99,111,110,102]⟩) (.cons (.slot 2) .nil))))) .nil)))⟩
noncomputable def Ri:List Str:=[⟨#[111,99,116,101,116,115]⟩,⟨#[100,97,116,97]⟩,⟨#[112,117,116,115]⟩,⟨#[107,110,111,119,110]⟩,⟨#[110,117,109,98,101,114]⟩,⟨#[102,105,101,108,100,115]⟩,⟨#[99,111,100,101]⟩,⟨#[99,111,100,101,115]⟩]
noncomputable def BA:Fn:=⟨2,3,[],(.cons (.assign (.slot 2) (.idx (.slot 0) (.aj 1))) (.cons (.assign (.idx (.slot 0) (.aj 1)) (.bin .Add (.slot 2) (.aj 1))) (.cons (.ret (.bin .Mod (.ite (.cmp .Lt (.slot 2) (.aG .len (.cons (.idx (.slot 0) (.aj 0)) .nil))) (.idx (.idx (.slot 0) (.aj 0)) (.slot 2)) (.bin .Add (.bin .Mult (.aj 41) (.slot 2)) (.aj 3))) (.slot 1))) .nil)))⟩
noncomputable def QW:List Str:=[⟨#[112,101,110]⟩,⟨#[109,97,110,121]⟩,⟨#[97,116]⟩]
noncomputable def BE:Fn:=⟨2,2,[],(.cons (.ret (.idx (.slot 1) (.call 60 (.cons (.slot 0) (.cons (.aG .len (.cons (.slot 1) .nil)) .nil))))) .nil)⟩
noncomputable def Q6:List Str:=[⟨#[112,101,110]⟩,⟨#[114,111,119]⟩]
noncomputable def BG:Fn:=⟨1,1,[],(.cons (.ret (.aG .bytes (.cons (.comp 1 (.ay 0) (.of (.slot 0)) .nil (.aG .ord (.cons (.ay 0 0) .nil))) .nil))) .nil)⟩
noncomputable def Q7:List Str:=[⟨#[119,111,114,100]⟩]
noncomputable def BC:Fn:=⟨1,2,[],(.cons (.assign (.slot 1) (.aC [])) (.cons (.while (.or (.cmp .Gt (.slot 0) (.aj 0)) (.cmp .Lt (.aG .len (.cons (.slot 1) .nil)) (.aj 4))) (.cons (.assign (.slot 1) (.bin .Add (.bu (.aC [48,49,50,51,52,53,54,55,56,57,65,66,67,68,69,70]) (.bin .Mod (.slot 0) (.aj 16)) (.bin .Add (.bin .Mod (.slot 0) (.aj 16)) (.aj 1))) (.slot 1))) (.cons (.assign (.slot 0) (.bin .FloorDiv (.slot 0) (.aj 16))) .nil))) (.cons (.ret (.slot 1)) .nil)))⟩
noncomputable def QY:List Str:=[⟨#[99,111,100,101]⟩,⟨#[100,105,103,105,116,115]⟩]
noncomputable def BD:Fn:=⟨1,3,[],(.cons (.assign (.slot 1) (.aj 0)) (.cons (.for (.slot 2) (.of (.slot 0)) (.cons (.assign (.slot 1) (.bin .Add (.bin .Mult (.aj 16) (.slot 1)) (.aw .index (.aC [48,49,50,51,52,53,54,55,56,57,65,66,67,68,69,70]) (.cons (.aG .bytes (.cons (.lst (.cons (.slot 2) .nil)) .nil)) .nil)))) .nil)) (.cons (.ret (.slot 1)) .nil)))⟩
noncomputable def Q4:List Str:=[⟨#[102,105,101,108,100]⟩,⟨#[110,117,109,98,101,114]⟩,⟨#[100,105,103,105,116]⟩]
noncomputable def u0:Fn:=⟨1,1,[],(.cons (.ret (.aw .join (.aC [32]) (.cons (.comp 1 (.ay 0) (.of (.slot 0)) (.cons (.bF (.ay 0 0)) .nil) (.call 63 (.cons (.ay 0 0) .nil))) .nil))) .nil)⟩
noncomputable def QZ:List Str:=[⟨#[99,111,100,101,115]⟩]
noncomputable def BH:Fn:=⟨2,21,[],(.cons (.assign (.slot 2) (.call 61 (.cons (.slot 0) (.cons (.tup (.cons (.ai ⟨#[76,117]⟩) (.cons (.ai ⟨#[76,108]⟩) (.cons (.ai ⟨#[76,116]⟩) (.cons (.ai ⟨#[77,110]⟩) (.cons (.ai ⟨#[78,100]⟩) (.cons (.ai ⟨#[78,111]⟩) (.cons (.ai ⟨#[76,111]⟩) (.cons (.ai ⟨#[80,115]⟩) .nil))))))))) .nil)))) (.cons (.assign (.slot 3) (.call 61 (.cons (.slot 0) (.cons (.tup (.cons (.aj 0) (.cons (.aj 230) (.cons (.aj 1) (.cons (.aj 220) (.cons (.aj 240) .nil)))))) .nil)))) (.cons (.assign (.slot 4) (.call 61 (.cons (.slot 0) (.cons (.tup (.cons (.ai ⟨#[76]⟩) (.cons (.ai ⟨#[82]⟩) (.cons (.ai ⟨#[65,76]⟩) (.cons (.ai ⟨#[69,78]⟩) (.cons (.ai ⟨#[78,83,77]⟩) (.cons (.ai ⟨#[79,78]⟩) .nil))))))) .nil)))) (.cons (.assign (.slot 5) (.call 61 (.cons (.slot 0) (.cons (.tup (.cons .bz (.cons (.ai ⟨#[]⟩) (.cons (.ai ⟨#[102,111,110,116]⟩) (.cons .bz (.cons (.ai ⟨#[99,111,109,112,97,116]⟩) .nil)))))) .nil)))) (.cons (.assign (.slot 6) (.ite (.bS (.slot 5)) (.aj 0) (.bin .Add (.aj 1) (.call 60 (.cons (.slot 0) (.cons (.ite (.cmp .Eq (.slot 5) (.ai ⟨#[]⟩)) (.aj 2) (.aj 3)) .nil)))))) (.cons (.assign (.slot 7) (.aG .tuple (.cons (.comp 1 (.ay 0) (.eF (.slot 6)) .nil (.call 61 (.cons (.slot 0) (.cons (.glob 17) .nil)))) .nil))) (.cons (.bK true (.cons (.slot 8) (.cons (.slot 9) (.cons (.slot 10) .nil))) (.cons (.call 61 (.cons (.slot 0) (.cons (.tup (.cons .bz (.cons (.aj 65) (.cons (.aj 7838) .nil)))) .nil))) (.cons (.call 61 (.cons (.slot 0) (.cons (.tup (.cons .bz (.cons (.aj 97) (.cons (.aj 66600) .nil)))) .nil))) (.cons (.call 61 (.cons (.slot 0) (.cons (.tup (.cons .bz (.cons (.aj 453) .nil))) .nil))) .nil)))) (.cons (.assign (.tup (.cons (.slot 11) (.cons (.slot 12) (.cons (.slot 13) .nil)))) (.call 61 (.cons (.slot 0) (.cons (.glob 18) .nil)))) (.cons (.assign (.slot 14) (.call 61 (.cons (.slot 0) (.cons (.tup (.cons (.ai ⟨#[83,73,71,78,32,79,70,32,65]⟩) (.cons (.ai ⟨#[76,69,84,84,69,82,45,66]⟩) (.cons (.ai ⟨#[67]⟩) .nil)))) .nil)))) (.cons (.assign (.slot 15) (.new 0 (.cons (.slot 1) (.cons (.slot 14) (.cons (.slot 2) (.cons (.slot 3) (.cons (.slot 4) (.cons (.ai ⟨#[76,97,116,110]⟩) (.cons (.slot 5) (.cons (.slot 7) .nil)))))))))) (.cons (.bK false (.cons (.attr (.slot 15) ⟨#[117,112,112,101,114]⟩) (.cons (.attr (.slot 15) ⟨#[108,111,119,101,114]⟩) (.cons (.attr (.slot 15) ⟨#[116,105,116,108,101]⟩) (.cons (.attr (.slot 15) ⟨#[110,117,109,98,101,114]⟩) .nil)))) (.cons (.slot 8) (.cons (.slot 9) (.cons (.slot 10) (.cons (.slot 11) .nil))))) (.cons (.assign (.slot 16) (.ite (.bF (.slot 10)) (.slot 10) (.slot 8))) (.cons (.assign (.slot 17) (.bin .Add (.ite (.and (.bF (.slot 5)) (.cmp .NotEq (.slot 5) (.ai ⟨#[]⟩))) (.call 62 (.cons (.bin .Add (.bin .Add (.ai ⟨#[60]⟩) (.slot 5)) (.ai ⟨#[62,32]⟩)) .nil)) (.aC [])) (.call 65 (.cons (.slot 7) .nil)))) (.cons (.assign (.slot 18) (.ite (.cmp .NotEq (.slot 11) (.ai ⟨#[]⟩)) (.comp 1 (.ay 0) (.of (.aw .split (.slot 11) (.cons (.ai ⟨#[59]⟩) .nil))) .nil (.call 62 (.cons (.ay 0 0) .nil))) (.lst (.cons (.aC []) (.cons (.aC []) (.cons (.aC []) .nil)))))) (.cons (.assign (.slot 19) (.bin .Add (.lst (.cons (.call 63 (.cons (.slot 1) .nil)) (.cons (.call 62 (.cons (.slot 14) .nil)) (.cons (.call 62 (.cons (.slot 2) .nil)) (.cons (.call 62 (.cons (.aG .str (.cons (.slot 3) .nil)) .nil)) (.cons (.call 62 (.cons (.slot 4) .nil)) (.cons (.slot 17) .nil))))))) (.slot 18))) (.cons (.assign (.slot 19) (.bin .Add (.slot 19) (.lst (.cons (.ite (.cmp .In (.slot 1) (.tup (.cons (.aj 40) (.cons (.aj 12296) .nil)))) (.aC [89]) (.aC [78])) (.cons (.aC []) (.cons (.aC []) (.cons (.call 65 (.cons (.lst (.cons (.slot 8) .nil)) .nil)) (.cons (.call 65 (.cons (.lst (.cons (.slot 9) .nil)) .nil)) (.cons (.call 65 (.cons (.lst (.cons (.slot 16) .nil)) .nil)) .nil))))))))) (.cons (.assign (.slot 20) (.lst (.cons (.tup (.cons (.ai ⟨#[103,99]⟩) (.cons (.slot 2) .nil))) (.cons (.tup (.cons (.ai ⟨#[99,99,99]⟩) (.cons (.slot 3) .nil))) (.cons (.tup (.cons (.ai ⟨#[98,99]⟩) (.cons (.slot 4) .nil))) (.cons (.tup (.cons (.ai ⟨#[100,109]⟩) (.cons (.ite (.bS (.slot 5)) .bz (.tup (.cons (.slot 5) (.cons (.slot 7) .nil)))) .nil))) (.cons (.tup (.cons (.ai ⟨#[117,99]⟩) (.cons (.slot 8) .nil))) (.cons (.tup (.cons (.ai ⟨#[108,99]⟩) (.cons (.slot 9) .nil))) .nil)))))))) (.cons (.ret (.tup (.cons (.slot 15) (.cons (.slot 19) (.cons (.bin .Add (.slot 20) (.lst (.cons (.tup (.cons (.ai ⟨#[116,99]⟩) (.cons (.slot 16) .nil))) (.cons (.tup (.cons (.ai ⟨#[110,116]⟩) (.cons (.slot 12) .nil))) (.cons (.tup (.cons (.ai ⟨#[110,118]⟩) (.cons (.slot 13) .nil))) (.cons (.tup (.cons (.ai ⟨#[110,97,109,101]⟩) (.cons (.call 62 (.cons (.slot 14) .nil)) .nil))) .nil)))))) .nil))))) .nil))))))))))))))))))⟩
noncomputable def Q8:List Str:=[⟨#[112,101,110]⟩,⟨#[99,111,100,101]⟩,⟨#[103,99]⟩,⟨#[99,99,99]⟩,⟨#[98,99]⟩,⟨#[116,97,103]⟩,⟨#[109,97,110,121]⟩,⟨#[112,97,114,116,115]⟩,⟨#[98,105,103]⟩,⟨#[108,105,116,116,108,101]⟩,⟨#[104,101,97,100]⟩,⟨#[110,117,109,98,101,114]⟩,⟨#[115,111,114,116]⟩,⟨#[119,111,114,116,104]⟩,⟨#[110,97,109,101]⟩,⟨#[115,105,103,110]⟩,⟨#[102,105,114,115,116]⟩,⟨#[109,97,112,112,105,110,103]⟩,⟨#[102,105,103,117,114,101,115]⟩,⟨#[114,111,119]⟩,⟨#[116,111,108,100]⟩]
noncomputable def u5:Fn:=⟨2,10,[],(.cons (.assign (.slot 2) (.comp 1 (.ay 0) (.of (.aw .split (.slot 0) (.cons (.aC [10]) .nil))) .nil (.aw .split (.ay 0 0) (.cons (.aC [59]) .nil)))) (.cons (.bK false (.cons (.slot 3) (.cons (.slot 4) (.cons (.slot 5) (.cons (.slot 6) .nil)))) (.cons (.aj 0) (.cons (.neg (.aj 1)) (.cons (.aj 0) (.cons (.lst .nil) .nil))))) (.cons (.aD (.cmp .NotEq (.aw .pop (.slot 2) .nil) (.lst (.cons (.aC []) .nil))) (.cons (.ret .bz) .nil) .nil) (.cons (.while (.cmp .Lt (.slot 3) (.aG .len (.cons (.slot 2) .nil))) (.cons (.bK true (.cons (.slot 7) (.cons (.slot 8) .nil)) (.cons (.idx (.slot 2) (.slot 3)) (.cons (.call 64 (.cons (.idx (.idx (.slot 2) (.slot 3)) (.aj 0)) .nil)) .nil))) (.cons (.aD (.or (.cmp .NotEq (.aG .len (.cons (.slot 7) .nil)) (.aj 15)) (.cmp .LtE (.slot 8) (.slot 4))) (.cons (.ret .bz) .nil) .nil) (.cons (.aD (.cmp .In (.slot 8) (.slot 1)) (.cons (.aD (.cmp .NotEq (.slot 7) (.idx (.slot 1) (.slot 8))) (.cons (.ret .bz) .nil) .nil) (.cons (.bK true (.cons (.slot 3) (.cons (.slot 4) (.cons (.slot 5) .nil))) (.cons (.bin .Add (.slot 3) (.aj 1)) (.cons (.slot 8) (.cons (.bin .Add (.slot 5) (.aj 1)) .nil)))) .nil)) (.cons (.aD (.or (.cmp .NotEq (.bu (.idx (.slot 7) (.aj 1)) (.neg (.aj 8)) .omit) (.aC [44,32,70,105,114,115,116,62])) (.cmp .Eq (.bin .Add (.slot 3) (.aj 1)) (.aG .len (.cons (.slot 2) .nil)))) (.cons (.ret .bz) .nil) .nil) (.cons (.assign (.slot 9) (.idx (.slot 2) (.bin .Add (.slot 3) (.aj 1)))) (.cons (.assign (.slot 4) (.call 64 (.cons (.idx (.slot 9) (.aj 0)) .nil))) (.cons (.aD (.or (.cmp .NotEq (.idx (.slot 9) (.aj 1)) (.bin .Add (.bu (.idx (.slot 7) (.aj 1)) .omit (.neg (.aj 8))) (.aC [44,32,76,97,115,116,62]))) (.or (.cmp .NotEq (.bu (.slot 9) (.aj 2) .omit) (.bu (.slot 7) (.aj 2) .omit)) (.cmp .LtE (.slot 4) (.slot 8)))) (.cons (.ret .bz) .nil) .nil) (.cons (.expr (.aw .append (.slot 6) (.cons (.tup (.cons (.slot 8) (.cons (.slot 4) (.cons (.idx (.slot 7) (.aj 2)) .nil)))) .nil))) (.cons (.assign (.slot 3) (.bin .Add (.slot 3) (.aj 2))) .nil))))))) .nil)))) (.cons (.ret (.ite (.cmp .Eq (.slot 5) (.aG .len (.cons (.slot 1) .nil))) (.slot 6) .bz)) .nil)))))⟩
noncomputable def Q9:List Str:=[⟨#[111,99,116,101,116,115]⟩,⟨#[100,117,101]⟩,⟨#[114,111,119,115]⟩,⟨#[97,116]⟩,⟨#[108,97,115,116]⟩,⟨#[115,101,101,110]⟩,⟨#[102,111,117,110,100]⟩,⟨#[114,111,119]⟩,⟨#[99,111,100,101]⟩,⟨#[111,116,104,101,114]⟩]
noncomputable def u3:Fn:=⟨1,14,[],(.cons (.bK true (.cons (.slot 1) (.cons (.slot 2) (.cons (.slot 3) .nil))) (.cons (.dct .nil) (.cons (.dct .nil) (.cons (.dct .nil) .nil)))) (.cons (.for (.slot 4) (.eF (.bin .Add (.aj 1) (.call 60 (.cons (.slot 0) (.cons (.aj 5) .nil))))) (.cons (.assign (.slot 5) (.call 61 (.cons (.slot 0) (.cons (.glob 16) .nil)))) (.cons (.aD (.cmp .NotIn (.slot 5) (.slot 1)) (.cons (.assign (.tup (.cons (.idx (.slot 1) (.slot 5)) (.cons (.idx (.slot 2) (.slot 5)) (.cons (.idx (.slot 3) (.slot 5)) .nil)))) (.call 66 (.cons (.slot 0) (.cons (.slot 5) .nil)))) .nil) .nil) .nil))) (.cons (.assign (.slot 6) (.call 17 (.cons (.slot 1) .nil))) (.cons (.bK true (.cons (.slot 7) (.cons (.slot 8) .nil)) (.cons (.call 67 (.cons (.slot 6) (.cons (.slot 2) .nil))) (.cons (.new 3 .nil) .nil))) (.cons (.aD (.bS (.slot 7)) (.cons (.ret (.fP false)) .nil) .nil) (.cons (.expr (.call 48 (.cons (.slot 6) (.cons (.slot 8) .nil)))) (.cons (.for (.slot 5) (.of (.slot 3)) (.cons (.for (.tup (.cons (.slot 9) (.cons (.slot 10) .nil))) (.of (.idx (.slot 3) (.slot 5))) (.cons (.aD (.cmp .NotEq (.aw .get (.slot 8) (.cons (.slot 9) (.cons (.slot 5) .nil))) (.slot 10)) (.cons (.ret (.fP false)) .nil) .nil) .nil)) .nil)) (.cons (.for (.tup (.cons (.slot 11) (.cons (.slot 12) (.cons (.slot 13) .nil)))) (.of (.slot 7)) (.cons (.aD (.or (.cmp .NotEq (.call 62 (.cons (.aw .get (.slot 8) (.cons (.ai ⟨#[103,99]⟩) (.cons (.slot 11) .nil))) .nil)) (.slot 13)) (.cmp .NotEq (.call 62 (.cons (.aw .get (.slot 8) (.cons (.ai ⟨#[103,99]⟩) (.cons (.slot 12) .nil))) .nil)) (.slot 13))) (.cons (.ret (.fP false)) .nil) .nil) .nil)) (.cons (.ret (.and (.cmp .Eq (.aw .get (.slot 8) (.cons (.ai ⟨#[103,99]⟩) (.cons (.aj 122) .nil))) (.ai ⟨#[67,110]⟩)) (.bS (.aw .get (.slot 8) (.cons (.ai ⟨#[100,109]⟩) (.cons (.aj 122) .nil)))))) .nil)))))))))⟩
noncomputable def Q0:List Str:=[⟨#[112,101,110]⟩,⟨#[115,105,103,110,115]⟩,⟨#[100,117,101]⟩,⟨#[116,111,108,100]⟩,⟨#[116,117,114,110]⟩,⟨#[99,111,100,101]⟩,⟨#[111,99,116,101,116,115]⟩,⟨#[115,112,97,110,115]⟩,⟨#[100,97,116,97]⟩,⟨#[110,97,109,101]⟩,⟨#[118,97,108,117,101]⟩,⟨#[102,105,114,115,116]⟩,⟨#[108,97,115,116]⟩,⟨#[103,99]⟩]
noncomputable def oT:Fn:=⟨1,13,[],(.cons (.bK true (.cons (.slot 1) (.cons (.slot 2) (.cons (.slot 3) .nil))) (.cons (.lst .nil) (.cons (.lst .nil) (.cons (.aj 0) .nil)))) (.cons (.for (.slot 4) (.eF (.call 60 (.cons (.slot 0) (.cons (.aj 6) .nil)))) (.cons (.bK true (.cons (.slot 5) (.cons (.slot 6) (.cons (.slot 7) .nil))) (.cons (.call 60 (.cons (.slot 0) (.cons (.aj 3) .nil))) (.cons (.bin .Add (.aj 1) (.call 60 (.cons (.slot 0) (.cons (.aj 4) .nil)))) (.cons (.call 61 (.cons (.slot 0) (.cons (.tup (.cons (.ai ⟨#[65]⟩) (.cons (.ai ⟨#[66,99]⟩) .nil))) .nil))) .nil)))) (.cons (.assign (.slot 2) (.bin .Add (.bin .Add (.slot 2) (.bin .Mult (.lst (.cons .bz .nil)) (.slot 5))) (.bin .Mult (.lst (.cons (.slot 7) .nil)) (.slot 6)))) (.cons (.assign (.slot 3) (.bin .Add (.bin .Add (.slot 3) (.slot 5)) (.slot 6))) (.cons (.expr (.aw .insert (.slot 1) (.cons (.call 60 (.cons (.slot 0) (.cons (.bin .Add (.aG .len (.cons (.slot 1) .nil)) (.aj 1)) .nil))) (.cons (.tup (.cons (.bin .Sub (.slot 3) (.slot 6)) (.cons (.bin .Sub (.slot 3) (.aj 1)) (.cons (.slot 7) .nil)))) .nil)))) .nil))))) (.cons (.bK false (.cons (.slot 8) (.cons (.slot 9) .nil)) (.cons (.aC []) (.cons (.aj 0) .nil))) (.cons (.for (.slot 10) (.eF (.bin .Add (.aG .len (.cons (.slot 2) .nil)) (.aj 1))) (.cons (.aD (.or (.cmp .Eq (.slot 10) (.aG .len (.cons (.slot 2) .nil))) (.and (.cmp .Gt (.slot 10) (.aj 0)) (.cmp .NotEq (.idx (.slot 2) (.slot 10)) (.idx (.slot 2) (.bin .Sub (.slot 10) (.aj 1)))))) (.cons (.aD (.and (.cmp .Gt (.slot 10) (.aj 0)) (.bF (.idx (.slot 2) (.bin .Sub (.slot 10) (.aj 1))))) (.cons (.aug 8 (.bin .Add (.call 63 (.cons (.slot 9) .nil)) (.ite (.cmp .Gt (.bin .Sub (.slot 10) (.aj 1)) (.slot 9)) (.bin .Add (.aC [46,46]) (.call 63 (.cons (.bin .Sub (.slot 10) (.aj 1)) .nil))) (.aC [])))) (.cons (.aug 8 (.bin .Add (.bin .Add (.aC [32,59,32]) (.call 62 (.cons (.idx (.slot 2) (.bin .Sub (.slot 10) (.aj 1))) .nil))) (.aC [10]))) .nil)) .nil) (.cons (.assign (.slot 9) (.slot 10)) .nil)) .nil) .nil)) (.cons (.bK false (.cons (.slot 11) (.cons (.slot 12) .nil)) (.cons (.call 14 (.cons (.slot 1) .nil)) (.cons (.new 3 .nil) .nil))) (.cons (.aD (.cmp .NotEq (.slot 11) (.slot 8)) (.cons (.ret (.fP false)) .nil) .nil) (.cons (.expr (.call 53 (.cons (.slot 11) (.cons (.slot 12) (.cons (.ai ⟨#[115,99]⟩) .nil))))) (.cons (.ret (.cmp .Eq (.comp 1 (.ay 0) (.eF (.bin .Add (.aG .len (.cons (.slot 2) .nil)) (.aj 1))) .nil (.aw .get (.slot 12) (.cons (.ai ⟨#[115,99]⟩) (.cons (.ay 0 0) .nil)))) (.bin .Add (.comp 1 (.ay 0) (.of (.slot 2)) .nil (.ite (.bF (.ay 0 0)) (.ay 0 0) (.ai ⟨#[90,122,122,122]⟩))) (.lst (.cons (.ai ⟨#[90,122,122,122]⟩) .nil))))) .nil))))))))⟩
noncomputable def QX:List Str:=[⟨#[112,101,110]⟩,⟨#[114,111,119,115]⟩,⟨#[108,105,110,101]⟩,⟨#[97,116]⟩,⟨#[116,117,114,110]⟩,⟨#[103,97,112]⟩,⟨#[109,97,110,121]⟩,⟨#[118,97,108,117,101]⟩,⟨#[100,117,101]⟩,⟨#[98,101,103,117,110]⟩,⟨#[99,111,100,101]⟩,⟨#[111,99,116,101,116,115]⟩,⟨#[100,97,116,97]⟩]
noncomputable def BI:Fn:=⟨1,4,[],(.cons (.assign (.slot 1) (.lst .nil)) (.cons (.for (.slot 2) (.of (.aw .split (.slot 0) (.cons (.aC [10]) .nil))) (.cons (.assign (.slot 3) (.aw .strip (.idx (.aw .split (.slot 2) (.cons (.aC [35]) .nil)) (.aj 0)) (.cons (.aC [32,9]) .nil))) (.cons (.aD (.cmp .NotEq (.slot 3) (.aC [])) (.cons (.expr (.aw .append (.slot 1) (.cons (.comp 1 (.ay 0) (.of (.aw .split (.slot 3) (.cons (.aC [59]) .nil))) .nil (.aw .strip (.ay 0 0) (.cons (.aC [32,9]) .nil))) .nil))) .nil) .nil) .nil))) (.cons (.ret (.slot 1)) .nil)))⟩
noncomputable def Ra:List Str:=[⟨#[111,99,116,101,116,115]⟩,⟨#[114,111,119,115]⟩,⟨#[108,105,110,101]⟩,⟨#[99,111,110,116,101,110,116]⟩]
noncomputable def mU:Fn:=⟨1,11,[],(.cons (.bK false (.cons (.slot 1) (.cons (.slot 2) .nil)) (.cons (.call 18 .nil) (.cons (.new 3 .nil) .nil))) (.cons (.aD (.cmp .Eq (.slot 0) (.aj 0)) (.cons (.assign (.slot 3) (.idx (.slot 1) (.ai ⟨#[99,111,110,102,117,115,97,98,108,101,115,46,116,120,116]⟩))) (.cons (.expr (.call 59 (.cons (.slot 3) (.cons (.slot 2) .nil)))) (.cons (.assign (.slot 4) (.comp 1 (.ay 0) (.of (.call 70 (.cons (.slot 3) .nil))) .nil (.tup (.cons (.call 64 (.cons (.idx (.ay 0 0) (.aj 0)) .nil)) (.cons (.aG .tuple (.cons (.comp 1 (.ay 0) (.of (.aw .split (.idx (.ay 0 0) (.aj 1)) (.cons (.aC [32]) .nil))) .nil (.call 64 (.cons (.ay 0 0) .nil))) .nil)) .nil))))) (.cons (.assign (.slot 5) (.comp 2 (.tup (.cons (.ay 0) (.cons (.ay 1) .nil))) (.of (.slot 4)) .nil (.ay 0 0))) (.cons (.ret (.and (.cmp .NotEq (.slot 4) (.lst .nil)) (.aG .all (.cons (.comp 2 (.tup (.cons (.ay 0) (.cons (.ay 1) .nil))) (.of (.slot 4)) .nil (.and (.cmp .Eq (.aw .get (.slot 2) (.cons (.ai ⟨#[99,111,110,102]⟩) (.cons (.ay 0 0) .nil))) (.ay 0 1)) (.not (.aG .any (.cons (.comp 1 (.ay 0) (.of (.ay 0 1)) .nil (.cmp .In (.ay 0 0) (.slot 5))) .nil))))) .nil)))) .nil))))) .nil) (.cons (.assign (.slot 6) (.aG .dict (.cons (.comp 1 (.ay 0) (.of (.call 70 (.cons (.idx (.slot 1) (.ai ⟨#[66,105,100,105,77,105,114,114,111,114,105,110,103,46,116,120,116]⟩)) .nil))) .nil (.tup (.cons (.call 64 (.cons (.idx (.ay 0 0) (.aj 0)) .nil)) (.cons (.call 64 (.cons (.idx (.ay 0 0) (.aj 1)) .nil)) .nil)))) .nil))) (.cons (.aD (.cmp .Eq (.slot 0) (.aj 1)) (.cons (.expr (.call 58 (.cons (.idx (.slot 1) (.ai ⟨#[66,105,100,105,77,105,114,114,111,114,105,110,103,46,116,120,116]⟩)) (.cons (.slot 2) .nil)))) (.cons (.ret (.and (.cmp .NotEq (.slot 6) (.dct .nil)) (.aG .all (.cons (.comp 1 (.ay 0) (.of (.slot 6)) .nil (.and (.cmp .Eq (.aw .get (.slot 2) (.cons (.ai ⟨#[98,109]⟩) (.cons (.ay 0 0) .nil))) (.idx (.slot 6) (.ay 0 0))) (.cmp .Eq (.aw .get (.slot 6) (.cons (.idx (.slot 6) (.ay 0 0)) .nil)) (.ay 0 0)))) .nil)))) .nil)) .nil) (.cons (.assign (.slot 3) (.idx (.slot 1) (.ai ⟨#[66,105,100,105,66,114,97,99,107,101,116,115,46,116,120,116]⟩))) (.cons (.expr (.call 57 (.cons (.slot 3) (.cons (.slot 2) .nil)))) (.cons (.for (.slot 7) (.of (.call 70 (.cons (.slot 3) .nil))) (.cons (.bK true (.cons (.slot 8) (.cons (.slot 9) (.cons (.slot 10) .nil))) (.cons (.call 64 (.cons (.idx (.slot 7) (.aj 0)) .nil)) (.cons (.call 64 (.cons (.idx (.slot 7) (.aj 1)) .nil)) (.cons (.ite (.cmp .Eq (.idx (.slot 7) (.aj 2)) (.aC [111])) (.ai ⟨#[111]⟩) (.ai ⟨#[99]⟩)) .nil)))) (.cons (.aD (.or (.cmp .NotEq (.aw .get (.slot 2) (.cons (.ai ⟨#[98,112,98]⟩) (.cons (.slot 8) .nil))) (.tup (.cons (.slot 10) (.cons (.slot 9) .nil)))) (.cmp .NotEq (.aw .get (.slot 2) (.cons (.ai ⟨#[98,112,98]⟩) (.cons (.slot 9) .nil))) (.tup (.cons (.ite (.cmp .Eq (.slot 10) (.ai ⟨#[111]⟩)) (.ai ⟨#[99]⟩) (.ai ⟨#[111]⟩)) (.cons (.slot 8) .nil))))) (.cons (.ret (.fP false)) .nil) .nil) (.cons (.aD (.cmp .NotEq (.aw .get (.slot 6) (.cons (.slot 8) .nil)) (.slot 9)) (.cons (.ret (.fP false)) .nil) .nil) .nil)))) (.cons (.ret (.and (.cmp .Eq (.aw .get (.slot 2) (.cons (.ai ⟨#[98,112,98]⟩) (.cons (.aj 40) .nil))) (.tup (.cons (.ai ⟨#[111]⟩) (.cons (.aj 41) .nil)))) (.bS (.aw .get (.slot 2) (.cons (.ai ⟨#[98,112,98]⟩) (.cons (.aj 65) .nil)))))) .nil))))))))⟩
noncomputable def Q5:List Str:=[⟨#[119,97,121]⟩,⟨#[102,105,108,101,115]⟩,⟨#[100,97,116,97]⟩,⟨#[111,99,116,101,116,115]⟩,⟨#[116,111,108,100]⟩,⟨#[109,97,114,107,101,100]⟩,⟨#[109,105,114,114,111,114,115]⟩,⟨#[114,111,119]⟩,⟨#[99,111,100,101]⟩,⟨#[111,116,104,101,114]⟩,⟨#[115,111,114,116]⟩]
noncomputable def Bz:Fn:=⟨1,3,[],(.cons (.assign (.slot 1) (.lst (.cons (.comp 1 (.ay 0) (.of (.bu (.slot 0) .omit (.aj 63))) .nil (.bin .Mod (.aG .int (.cons (.ay 0 0) .nil)) (.bin .Pow (.aj 10) (.aj 9)))) (.cons (.aj 0) .nil)))) (.cons (.aD (.or (.not (.call 68 (.cons (.slot 1) .nil))) (.not (.call 69 (.cons (.slot 1) .nil)))) (.cons (.ret (.fP false)) .nil) .nil) (.cons (.assign (.slot 2) (.comp 1 (.ay 0) (.eF (.call 60 (.cons (.slot 1) (.cons (.aj 4) .nil)))) .nil (.call 61 (.cons (.slot 1) (.cons (.glob 17) .nil))))) (.cons (.ret (.and (.cmp .Eq (.call 15 (.cons (.slot 2) .nil)) (.call 65 (.cons (.slot 2) .nil))) (.call 71 (.cons (.call 60 (.cons (.slot 1) (.cons (.aj 3) .nil))) .nil)))) .nil))))⟩
noncomputable def QV:List Str:=[⟨#[115,99,114,105,112,116]⟩,⟨#[112,101,110]⟩,⟨#[99,111,100,101,115]⟩]
noncomputable def vt:List Fn:=[By,LR,BK,LO,Bx,LW,LQ,B8,BM,oQ,LX,LY,BW,BU,ve,rh,BV,oU,vf,BO,oP,Bs,Bt,LU,oO,Br,Bq,uY,B2,BQ,BJ,Bv,BP,Bw,B9,LV,oS,LK,uZ,LJ,Bu,rj,BX,B4,ri,B5,BZ,vg,rd,B7,B1,B6,B3,vd,L0,LZ,vi,ra,u9,u6,BA,BE,BG,BC,BD,u0,BH,u5,u3,oT,BI,mU,Bz]
noncomputable def fns(f:Nat):Option Fn:=vt[f]?
noncomputable def sz:List (Nat×Nat×Nat):=[(1,0,37),(1,1,38),(1,2,39),(1,3,40),(2,4,22),(2,1000,21),(3,4,25),(3,5,27),(3,1000,26)]
noncomputable def EH(c k:Nat):Option Nat:=(sz.find? λe=>Nat.beq e.1 c&&Nat.beq e.2.1 k).map (·.2.2)
noncomputable def r5:Nat->Nat
 | 0=>9
 | 1=>36
 | 2=>20
 | _=>24
noncomputable def tab:Tab:={kX:=kX,o3:=λc=>c==2||c==3,init:=r5,aw:=EH}
end Mine.Internal
namespace Mine.Internal
def OK{α:Type}(o:Option α)(Q:α->Prop):Prop:=match o with
 | some a=>Q a
 | none=>False
theorem aM{α:Type}{o:Option α}{Q:α->Prop}{G:Prop}(h:OK o Q)(k:∀a,o=some a->Q a->G):G:=match o,h,k with
 | some a,h,k=>k a rfl h
def BR(c:Bool)(p q:Prop):Prop:=match c with
 | true=>p
 | false=>q
theorem ef{c:Bool}{p q G:Prop}(h:BR c p q)(t:c=true->p->G)(f:c=false->q->G):G:=match c,h,t,f with
 | true,h,t,_=>t rfl h
 | false,h,_,f=>f rfl h
abbrev KE:=ER->St->Prop
abbrev KT:=Bool->St->Prop
abbrev KS:=FL->St->Prop
noncomputable def fO:Option VS->(Option VS->Prop)->Prop
 | none,Q=>Q none
 | some (.val v),Q=>Q (some (.val v))
 | some (.own c),Q=>Q (some (.own c))
noncomputable def fL:List (Option VS)->(List (Option VS)->Prop)->Prop
 | [],Q=>Q []
 | a::l,Q=>fO a λa=>fL l λl=>Q (a::l)
theorem LI:∀(x:Option VS) {Q:Option VS->Prop},fO x Q->Q x
 | none,_,h=>h
 | some (.val _),_,h=>h
 | some (.own _),_,h=>h
theorem Bo:∀(x:List (Option VS)) {Q:List (Option VS)->Prop},fL x Q->Q x
 | [],_,h=>h
 | a::l,_,h=>Bo l (LI a h)
noncomputable def mS:List Bool->(List Bool->Prop)->Prop
 | [],Q=>Q []
 | true::l,Q=>mS l λl=>Q (true::l)
 | false::l,Q=>mS l λl=>Q (false::l)
theorem uX:∀(x:List Bool) {Q:List Bool->Prop},mS x Q->Q x
 | [],_,h=>h
 | true::l,_,h=>uX l h
 | false::l,_,h=>uX l h
noncomputable def dQ{α:Type}(x:α):List α->Nat->(List α->Prop)->Prop
 | [],_,Q=>Q []
 | _::l,0,Q=>Q (x::l)
 | a::l,n+1,Q=>dQ x l n λl=>Q (a::l)
theorem jb{α:Type}(x:α):∀(l:List α) (n:Nat) {Q:List α->Prop},dQ x l n Q->Q (l.set n x)
 | [],_,_,h=>h
 | _::_,0,_,h=>h
 | _::l,n+1,_,h=>jb x l n h
noncomputable def sj(i:Nat)(σ:List (Option VS))(lk:List Bool)(κ:List (List (Option O)))(H:HH)(Q:O->St->Prop):Option (Option VS)->Prop
 | some (some (.own c))=>dQ (some (.val (.ao c))) σ i λσ=>Q (.ao c) ⟨σ,lk,κ,H⟩
 | some (some (.val v))=>Q v ⟨σ,lk,κ,H⟩
 | _=>False
def ct(r:ER)(st:St)(Q:O->St->Prop):Prop:=match r with
 | .val v=>Q v st
 | .own c=>Q (.ao c) st
 | .loc i=>match st with
  | ⟨σ,lk,κ,H⟩=>sj i σ lk κ H Q σ[i]?
def IJ(r:ER)(st:St)(Q:VS->St->Prop):Prop:=match r with
 | .val v=>Q (.val v) st
 | .own c=>Q (.own c) st
 | .loc i=>ct (.loc i) st λv st=>Q (.val v) st
def jc(i:Nat)(x:VS)(st:St)(Q:St->Prop):Prop:=match st with
 | ⟨σ,lk,κ,H⟩=>BR (lk.getD i false) False (BR (decide (i<σ.length)) (dQ (some x) σ i λσ=>Q ⟨σ,lk,κ,H⟩) False)
def yf(i:Nat)(v:O)(st:St)(Q:St->Prop):Prop:=match st with
 | ⟨σ,lk,fr::r,H⟩=>BR (decide (i<fr.length)) (dQ (some v) fr i λfr=>Q ⟨σ,lk,fr::r,H⟩) False
 | _=>False
def dD(r:ER)(st:St)(g:AC->Option (AC×O))(Q:ER->St->Prop):Prop:=match st with
 | ⟨σ,lk,κ,H⟩=>match ownAt r ⟨σ,lk,κ,H⟩ with
  | some (i,c)=>OK (g c) λp=>match p with
   | (c',v)=>dQ (some (.own c')) σ i λσ=>Q (.val v) ⟨σ,lk,κ,H⟩
  | none=>OK (lM r ⟨σ,lk,κ,H⟩) λq=>match q with
   | (l,c)=>OK (g c) λp=>match p with
    | (c',v)=>Q (.val v) ⟨σ,lk,κ,H.set l c'⟩
noncomputable def dZ:List ER->List VS->St->(St->Prop)->Prop
 | [],_,st,Q=>Q st
 | r::rs,fin,st,Q=>match fin with
  | []=>False
  | x::xs=>match r with
   | .loc i=>match st with
    | ⟨σ,lk,κ,H⟩=>match σ[i]? with
     | some (some (.own _))=>dQ (some x) σ i λσ=>dZ rs xs ⟨σ,lk,κ,H⟩ Q
     | _=>dZ rs xs ⟨σ,lk,κ,H⟩ Q
   | _=>dZ rs xs st Q
noncomputable def gR:List ER->St->(List ER->St->Prop)->Prop
 | [],st,Q=>Q [] st
 | r::rs,st,Q=>match r with
  | .loc i=>ct (.loc i) st λv st=>gR rs st λl st=>Q (.val v::l) st
  | x=>gR rs st λl st=>Q (x::l) st
@[irreducible] def GK(F:FT)(f:Nat)(as:List VS)(H:HH)(Q:VS->List VS->HH->Prop):Prop:=F f as H Q
def CK(F:FT)(f:Nat)(rs:List ER)(st:St)(Q:KE):Prop:=
 BR (decide (fY rs).Nodup) (OK (dB rs st) λas=>match st with
  | ⟨σ,lk,κ,H⟩=>GK F f as H λx fin H=>dZ rs fin ⟨σ,lk,κ,H⟩ λst=>Q (bB x) st) False
def sC(T:Tab)(c:Nat)(rs:List ER)(σ:List (Option VS))(lk:List Bool)(κ:List (List (Option O)))(Q:KE)(x:VS)(fin:List VS)(H:HH):Prop:=match x with
 | .val .none=>match fin with
  | .own i::fin=>dZ rs fin ⟨σ,lk,κ,H⟩ λst=>BR (T.o3 c) (match st with | ⟨σ,lk,κ,H⟩=>Q (.val (.ref H.length)) ⟨σ,lk,κ,H++[i]⟩) (Q (.own i) st)
  | _=>False
 | _=>False
def NK(T:Tab)(F:FT)(c:Nat)(rs:List ER)(st:St)(Q:KE):Prop:=
 BR (decide (fY rs).Nodup) (OK (dB rs st) λas=>match st with
  | ⟨σ,lk,κ,H⟩=>GK F (T.init c) (.own (.inst c [])::as) H λx fin H=>sC T c rs σ lk κ Q x fin H) False
noncomputable def mA(m:MN)(vs:List O)(c:AC):Option (AC×O):=cL c λl=>qL m (.list l) vs
noncomputable def zE(m:MN)(vs:List O)(c:AC):Option (AC×O):=cD c λl=>qL m (.dict l) vs
section
variable(T:Tab)(F:FT)
noncomputable def fR:Nat->(List (Option O)->Prop)->Prop
 | 0,Q=>Q []
 | n+1,Q=>fR n λl=>Q (none::l)
theorem Bp:∀(n:Nat) {Q:List (Option O)->Prop},fR n Q->Q (List.replicate n none)
 | 0,_,h=>h
 | n+1,_,h=>Bp n h
def pX(st:St)(Q:St->Prop):Prop:=match st with
 | ⟨σ,lk,κ,H⟩=>match κ with
  | _::κ=>Q ⟨σ,lk,κ,H⟩
  | []=>False
noncomputable def wCs(n:Nat)(bd:O->St->(St->Prop)->Prop)(c:St->KT->Prop)(e:St->KE->Prop):List O->List O->St->(List O->St->Prop)->Prop
 | [],acc,st,Q=>Q acc st
 | x::xs,acc,st,Q=>match st with
  | ⟨σ,lk,κ,H⟩=>fR n λfr=>bd x ⟨σ,lk,fr::κ,H⟩ λst=>c st λok st=>
   BR ok (e st λr st=>ct r st λv st=>pX st λst=>BR (decide (acc.length<ax)) (wCs n bd c e xs (acc++[v]) st Q) False) (pX st λst=>wCs n bd c e xs acc st Q)
noncomputable def di(s:O->St->(St->Prop)->Prop)(b:St->KS->Prop):List O->St->KS->Prop
 | [],st,Q=>Q .next st
 | x::xs,st,Q=>s x st λst=>b st λf st=>match f with
  | .next=>di s b xs st Q
  | .ret r=>Q (.ret r) st
noncomputable def n5(t:St->KT->Prop)(b:St->KS->Prop):Nat->St->KS->Prop
 | 0,_,_=>False
 | n+1,st,Q=>t st λc st=>BR c (b st λf st=>match f with
  | .next=>n5 t b n st Q
  | .ret r=>Q (.ret r) st) (Q .next st)
@[irreducible] def CC(n:Nat)(bd:O->St->(St->Prop)->Prop)(c:St->KT->Prop)(e:St->KE->Prop)(items acc:List O)(st:St)(Q:List O->St->Prop):Prop:=wCs n bd c e items acc st Q
@[irreducible] def n9(s:O->St->(St->Prop)->Prop)(b:St->KS->Prop)(items:List O)(st:St)(Q:KS):Prop:=di s b items st Q
@[irreducible] def om(t:St->KT->Prop)(b:St->KS->Prop)(n:Nat)(st:St)(Q:KS):Prop:=n5 t b n st Q
mutual
noncomputable def wB:MT->O->St->(St->Prop)->Prop
 | .ay i=>λv st Q=>yf i v st Q
 | .tup ts=>λv st Q=>match v with
  | .tup vs=>ql ts vs st Q
  | _=>False
 | _=>λZ Z Z=>False
noncomputable def ql:bI->List O->St->(St->Prop)->Prop
 | .nil=>λvs st Q=>match vs with
  | []=>Q st
  | _=>False
 | .cons t r=>λvs st Q=>match vs with
  | v::vs=>wB t v st λst=>ql r vs st Q
  | []=>False
end
def kv(f:St->KE->Prop):St->KT->Prop:=λst Q=>f st λx st=>OK (view x st) λv=>OK (gX v) λb=>Q b st
noncomputable def kl(f:St->KE->Prop):(St->KE->Prop)×(St->KT->Prop):=(f,kv f)
mutual
noncomputable def wE:ME->(St->KE->Prop)×(St->KT->Prop)
 | .bz=>kl λst Q=>Q (.val .none) st
 | .fP b=>kl λst Q=>Q (.val (.bool b)) st
 | .aj b=>kl λst Q=>Q (.val (.int b)) st
 | .ai b=>kl λst Q=>Q (.val (.str b)) st
 | .aC b=>kl λst Q=>Q (.val (.bytes b)) st
 | .omit=>kl λst Q=>Q (.val .none) st
 | .slot i=>kl λst Q=>OK (tq i st) λr=>Q r st
 | .ay d i=>kl λst Q=>OK (uG d i st) λv=>Q (.val v) st
 | .glob k=>kl λst Q=>OK (T.kX[k]?) λv=>Q (.val v) st
 | .bin op a b=>kl λst Q=>(wE a).1 st λx st=>(wE b).1 st λy st=>OK (view x st) λv=>OK (view y st) λu=>OK (iF op v u) λr=>Q r st
 | .neg a=>kl λst Q=>(wE a).1 st λx st=>OK (view x st) λv=>OK (R2 v) λr=>Q r st
 | .not a=>(λst Q=>(wE a).1 st λx st=>OK (view x st) λv=>OK (gX v) λb=>Q (.val (.bool (!b))) st,λst Q=>(wE a).2 st λb st=>Q (!b) st)
 | .and a b=>(λst Q=>(wE a).1 st λx st=>OK (view x st) λv=>OK (gX v) λc=>BR c ((wE b).1 st Q) (Q x st),
   λst Q=>(wE a).2 st λc st=>BR c ((wE b).2 st Q) (Q false st))
 | .or a b=>(λst Q=>(wE a).1 st λx st=>OK (view x st) λv=>OK (gX v) λc=>BR c (Q x st) ((wE b).1 st Q),
   λst Q=>(wE a).2 st λc st=>BR c (Q true st) ((wE b).2 st Q))
 | .ite t a b=>(λst Q=>(wE t).2 st λc st=>BR c ((wE a).1 st Q) ((wE b).1 st Q),λst Q=>(wE t).2 st λc st=>BR c ((wE a).2 st Q) ((wE b).2 st Q))
 | .cmp op a b=>kl λst Q=>(wE a).1 st λx st=>(wE b).1 st λy st=>OK (view x st) λv=>OK (bJ y st) λu=>OK (cz op v u) λr=>Q (.val (.bool r)) st
 | .fS a b c=>kl λst Q=>(wE a).1 st λx st=>(wE b).1 st λy st=>OK (e8 x st) λn=>OK (e8 y st) λm=>
   BR (decide (n<=m)) ((wE c).1 st λz st=>OK (e8 z st) λk=>Q (.val (.bool (decide (m<=k)))) st) (Q (.val (.bool false)) st)
 | .bS a=>kl λst Q=>(wE a).1 st λx st=>OK (view x st) λv=>Q (.val (.bool (isNone v))) st
 | .bF a=>kl λst Q=>(wE a).1 st λx st=>OK (view x st) λv=>Q (.val (.bool (!isNone v))) st
 | .call f as=>kl λst Q=>wEs as st λrs st=>CK F f rs st Q
 | .new c as=>kl λst Q=>wEs as st λrs st=>NK T F c rs st Q
 | .aG f as=>kl λst Q=>wEs as st λrs st=>OK (fy rs st) λvs=>OK (g6 f vs) λr=>Q r st
 | .aw m o as=>kl λst Q=>(wE o).1 st λr st=>OK (fc T m r st) λkd=>match kd with
  | .fn f=>wEs as st λrs st=>CK F f (r::rs) st Q
  | .lst=>ed as st λvs st=>dD r st (mA m vs) Q
  | .dct=>match m with
   | .get=>ed as st λvs st=>OK (bJ r st) λo=>OK (dH .get o vs) λx=>Q x st
   | m=>ed as st λvs st=>dD r st (zE m vs) Q
  | _=>wEs as st λrs st=>OK (fy rs st) λvs=>OK (view r st) λo=>OK (dH m o vs) λx=>Q x st
 | .attr o a=>kl λst Q=>(wE o).1 st λr st=>OK (bJ r st) λo=>OK (cY o a) λv=>Q (.val v) st
 | .idx o i=>kl λst Q=>(wE o).1 st λr st=>(wE i).1 st λk st=>OK (bJ r st) λv=>OK (view k st) λu=>OK (e7 v u) λx=>Q (.val x) st
 | .bu o lo hi=>kl λst Q=>(wE o).1 st λr st=>(wE lo).1 st λa st=>(wE hi).1 st λb st=>OK (view r st) λv=>OK (view a st) λx=>OK (view b st) λy=>OK (nU v x y) λr=>Q r st
 | .repl o a t=>kl λst Q=>(wE o).1 st λr st=>OK (view r st) λv=>OK (Tw v a t) λr=>Q r st
 | .rev o=>kl λst Q=>(wE o).1 st λr st=>OK (view r st) λv=>OK (Gr v) λr=>Q r st
 | .tup es=>kl λst Q=>ed es st λvs st=>Q (.val (.tup vs)) st
 | .lst es=>kl λst Q=>ed es st λvs st=>Q (.own (.list vs)) st
 | .dct es=>kl λst Q=>ed es st λvs st=>OK (jZ vs) λl=>Q (.own (.dict (l.foldl (λd e=>dput d e.1 e.2) []))) st
 | .qR=>kl λst Q=>match st with
  | ⟨σ,lk,κ,H⟩=>Q (.val (.ref H.length)) ⟨σ,lk,κ,H++[.dict []]⟩
 | .comp n t it c e=>kl λst Q=>wI it st λitems st=>CC n (wB t) (wC c) (wE e).1 items [] st λacc st=>Q (.own (.list acc)) st
noncomputable def wEs:aW->St->(List ER->St->Prop)->Prop
 | .nil=>λst Q=>Q [] st
 | .cons e r=>λst Q=>(wE e).1 st λx st=>wEs r st λxs st=>Q (x::xs) st
noncomputable def ed:aW->St->(List O->St->Prop)->Prop
 | .nil=>λst Q=>Q [] st
 | .cons e r=>λst Q=>(wE e).1 st λx st=>ct x st λv st=>ed r st λxs st=>Q (v::xs) st
noncomputable def wI:MI->St->(List O->St->Prop)->Prop
 | .of e=>λst Q=>(wE e).1 st λr st=>ct r st λv st=>OK (nh v) λl=>Q l st
 | .eF e=>λst Q=>(wE e).1 st λr st=>OK (e8 r st) λn=>OK (xJ n) λl=>Q l st
 | .xK a b=>λst Q=>(wE a).1 st λx st=>(wE b).1 st λy st=>OK (e8 x st) λn=>OK (e8 y st) λm=>OK (Ts n m) λl=>Q l st
 | .enum e=>λst Q=>(wE e).1 st λr st=>ct r st λv st=>OK (A7 v) λl=>Q l st
noncomputable def wC:aW->St->KT->Prop
 | .nil=>λst Q=>Q true st
 | .cons e _=>λst Q=>(wE e).2 st Q
end
mutual
noncomputable def cM:MT->ER->St->(St->Prop)->Prop
 | .slot i=>λr st Q=>IJ r st λx st=>jc i x st Q
 | .ay i=>λr st Q=>ct r st λv st=>yf i v st Q
 | .idx o i=>λr st Q=>ct r st λv st=>(wE T F o).1 st λx st=>(wE T F i).1 st λk st=>OK (view k st) λk=>
  dD x st (λc=>(gb c k v).map λc=>(c,.none)) λZ st=>Q st
 | .attr o a=>λr st Q=>ct r st λv st=>(wE T F o).1 st λx st=>
  dD x st (λc=>(lQ c a v).map λc=>(c,.none)) λZ st=>Q st
 | .tup ts=>λr st Q=>ct r st λv st=>match v with
  | .tup vs=>BR (Nat.beq vs.length ts.len) (ji ts (vs.map .val) st Q) False
  | _=>False
noncomputable def ji:bI->List ER->St->(St->Prop)->Prop
 | .nil=>λrs st Q=>match rs with
  | []=>Q st
  | _=>False
 | .cons t r=>λrs st Q=>match rs with
  | v::vs=>cM t v st λst=>ji r vs st Q
  | []=>False
end
mutual
noncomputable def wS:MS->St->KS->Prop
 | .assign t e=>λst Q=>(wE T F e).1 st λr st=>cM T F t r st λst=>Q .next st
 | .bK sw ts es=>λst Q=>wEs T F es st λrs st=>gR rs st λrs st=>BR (Nat.beq rs.length ts.len) (match sw with
  | true=>ji T F (ts.nR .nil) rs.reverse st λst=>Q .next st
  | false=>ji T F ts rs st λst=>Q .next st) False
 | .aug i e=>λst Q=>(wE T F (.slot i)).1 st λx st=>(wE T F e).1 st λy st=>OK (jw x st) λa=>OK (jw y st) λb=>
  BR (decide (a.length+b.length<=ax)) (jc i (.val (.bytes (a++b))) st λst=>Q .next st) False
 | .aD t b o=>λst Q=>(wE T F t).2 st λc st=>BR c (wSs b st Q) (wSs o st Q)
 | .while t b=>λst Q=>om (wE T F t).2 (wSs b) qw st Q
 | .for t it b=>λst Q=>wI T F it st λitems st=>n9 (λx=>cM T F t (.val x)) (wSs b) items st Q
 | .ret e=>λst Q=>(wE T F e).1 st λr st=>Q (.ret r) st
 | .expr e=>λst Q=>(wE T F e).1 st λr st=>match r with
  | .val .none=>Q .next st
  | _=>False
 | .try b=>wSs b
 | .stuck=>λZ Z=>False
noncomputable def wSs:bj->St->KS->Prop
 | .nil=>λst Q=>Q .next st
 | .cons s r=>λst Q=>wS s st λf st=>match f with
  | .next=>wSs r st Q
  | .ret x=>Q (.ret x) st
end
noncomputable def EK(n:Nat)(Q:VS->List VS->HH->Prop):KS:=λf st=>OK (params (st.σ.take n)) λfin=>match f with
 | .next=>Q (.val .none) fin st.H
 | .ret r=>OK (leave r st) λx=>Q x fin st.H
def wF(fn:Fn)(uc:List VS)(H:HH)(Q:VS->List VS->HH->Prop):Prop:=
 BR (Nat.beq (fill fn uc).length fn.n) (mS ((fill fn uc).map ll) λlk=>fL ((fill fn uc).map some++List.replicate (fn.m - fn.n) none) λσ=>wSs T F fn.body ⟨σ,lk,[],H⟩ (EK fn.n Q)) False
end
noncomputable def F:Nat->FT
 | 0=>λZ Z Z Z=>False
 | k+1=>λf as H Q=>OK (fns f) λfn=>wF tab (F k) fn as H Q
end Mine.Internal
namespace Mine.Internal
open PySem PySem.Calls PyProof.Rows PySem.W
set_option genInjectivity true in
set_option genCtorIdx true in
inductive Ow where
 | slot (i:Nat)
 | heap (l:Nat)
 | tmp (j:Nat)
 | env
 | other
structure Cf where
 γ:List Addr
 ow:Addr->Option Ow
noncomputable def Cf.set(c:Cf)(a:Addr)(o:Option Ow):Cf:=⟨c.γ,λb=>if b=a then o else c.ow b⟩
noncomputable def Cf.map(c:Cf)(φ:Ow->Option Ow):Cf:=⟨c.γ,λb=>(c.ow b).bind φ⟩
def qq(w:World)(k:Key)(e:DictEntry):Prop:=match k with
 | .i n=>(∃t,e.key=.int n t)/\e.hash=hashInt n
 | .s x=>(∃t,e.key=.str x t)/\e.hash=hashStr w x/\x.length<=ax
noncomputable def cy:Nat->Addr
 | 0=>142
 | 1=>411
 | 2=>255
 | _=>304
noncomputable abbrev cP(items:Array Value)(n:Nat):Obj:={cls:=.type "list",data:=.seq items n}
noncomputable abbrev jf(items:Array Value)(n:Nat):Obj:={cls:=.type "tuple",data:=.seq items n}
noncomputable abbrev mM(es:Array DictEntry)(n:Nat):Obj:={cls:=.type "dict",data:=.dict es n}
def kr(h:Heap)(a:Addr)(c:Nat)(dx:Addr):Prop:=∃o,h.get? a=some o/\o.cls=.ref (cy c)/\(∀d,o.data≠.cls d)/\o.dict=some dx
section
variable(w:World)(c:Cf)(h:Heap)
mutual
noncomputable def VR:O->Value->Prop
 | .none,v=>v=.none
 | .bool b,v=>v=.bool b
 | .int i,v=>∃t,v=.int i t
 | .str s,v=>s.length<=ax/\∃t,v=.str s t
 | .bytes b,v=>b.length<=ax/\∃t,v=.bytes b.toArray t
 | .tup vs,v=>vs.length<=ax/\∃a items n,v=.ref a/\c.ow a=none/\h.get? a=some (jf items n)/\aq vs items.toList
 | .ao k,v=>∃a,v=.ref a/\OR k none a
 | .ref l,v=>∃a,v=.ref a/\c.γ[l]?=some a
noncomputable def aq:List O->List Value->Prop
 | [],l=>l=[]
 | v::r,l=>∃x q,l=x::q/\VR v x/\aq r q
noncomputable def OR:AC->Option Ow->Addr->Prop
 | .list vs,o,a=>c.ow a=o/\vs.length<=ax/\∃items n,h.get? a=some (cP items n)/\aq vs items.toList
 | .dict es,o,a=>c.ow a=o/\(a==sysModules)=false/\es.length<=ax/\(es.map (·.1)).Nodup/\∃ents n,h.get? a=some (mM ents n)/\bC es ents.toList
 | .inst k fs,o,a=>c.ow a=o/\(fs.length<=20/\∀e∈fs,lH e.1=true)/\(fs.map (·.1)).Nodup/\∃dx m,c.ow dx=o/\a≠dx/\kr h a k dx/\h.Ns1 dx m/\cf fs m/\∀x,cg fs (.s x)=false->m x=none
noncomputable def cf:List (Key×O)->(Str->Option Value)->Prop
 | [],_=>True
 | (k,v)::r,m=>(∃x u,k=.s x/\x.length<=ax/\m x=some u/\VR v u)/\cf r m
noncomputable def bC:List (Key×O)->List DictEntry->Prop
 | [],l=>l=[]
 | (k,v)::r,l=>∃e q,l=e::q/\qq w k e/\VR v e.val/\bC r q
end
noncomputable def VW:O->Value->Prop
 | .ao k,v=>∃a o,v=.ref a/\OR w c h k o a
 | a,v=>VR w c h a v
end
structure Le(c:Cf)(h:Heap)(c':Cf)(h':Heap):Prop where
 g:∀(l:Nat) (a:Addr),c.γ[l]?=some a->c'.γ[l]?=some a
 k:∀b x,c.ow b=none->h.get? b=some x->c'.ow b=none/\h'.get? b=some x
def Kp(c:Cf)(h:Heap)(o:Option Ow)(c':Cf)(h':Heap)(o':Option Ow):Prop:=∀b x,c.ow b=o->h.get? b=some x->c'.ow b=o'/\h'.get? b=some x
section
variable{w:World}{c c' kL:Cf}{h h' gF:Heap}
theorem Le.refl(c:Cf)(h:Heap):Le c h c h:=⟨λZ Z e=>e,λZ Z e e'=>⟨e,e'⟩⟩
theorem Le.trans(a:Le c h c' h')(b:Le c' h' kL gF):Le c h kL gF:=⟨λl x e=>b.g l x (a.g l x e),λx o e e'=>b.k x o (a.k x o e e').1 (a.k x o e e').2⟩
theorem Kp.trans{o o' pP:Option Ow}(a:Kp c h o c' h' o')(b:Kp c' h' o' kL gF pP):Kp c h o kL gF pP:=λx y e e'=>b x y (a x y e e').1 (a x y e e').2
theorem kr.kp{a dx:Addr}{k:Nat}(i:kr h a k dx)(q:∀x,h.get? a=some x->h'.get? a=some x):kr h' a k dx:=i.elim λo e=>⟨o,q o e.1,e.2⟩
section
variable(L:Le c h c' h')
include L
mutual
theorem VR.le:∀(v:O) {x:Value},VR w c h v x->VR w c' h' v x
 | .none,_,e=>e
 | .bool _,_,e=>e
 | .int _,_,e=>e
 | .str _,_,e=>e
 | .bytes _,_,e=>e
 | .tup vs,_,e=>e.imp id λe=>e.elim λa e=>e.elim λit e=>e.elim λn e=>⟨a,it,n,e.1,(L.k a _ e.2.1 e.2.2.1).1,(L.k a _ e.2.1 e.2.2.1).2,aq.le vs e.2.2.2⟩
 | .ao k,_,e=>e.elim λa e=>⟨a,e.1,OR.le k L.k e.2⟩
 | .ref _,_,e=>e.elim λa e=>⟨a,e.1,L.g _ a e.2⟩
theorem aq.le:∀(v:List O) {x:List Value},aq w c h v x->aq w c' h' v x
 | [],_,e=>e
 | v::r,_,e=>e.elim λx e=>e.elim λq e=>⟨x,q,e.1,VR.le v e.2.1,aq.le r e.2.2⟩
theorem OR.le:∀(k:AC) {o o':Option Ow} {a:Addr},Kp c h o c' h' o'->OR w c h k o a->OR w c' h' k o' a
 | .list vs,_,_,a,K,e=>e.2.2.elim λit p=>p.elim λn p=>⟨(K a _ e.1 p.1).1,e.2.1,it,n,(K a _ e.1 p.1).2,aq.le vs p.2⟩
 | .dict es,_,_,a,K,e=>e.2.2.2.2.elim λit p=>p.elim λn p=>⟨(K a _ e.1 p.1).1,e.2.1,e.2.2.1,e.2.2.2.1,it,n,(K a _ e.1 p.1).2,bC.le es p.2⟩
 | .inst k fs,_,_,a,K,e=>e.2.2.2.elim λdx p=>p.elim λm p=>p.2.2.1.elim λo i=>
   ⟨(K a o e.1 i.1).1,e.2.1,e.2.2.1,dx,m,p.2.2.2.1.elim λo' n=>(K dx o' p.1 n.choose_spec.choose_spec.1).1,p.2.1,p.2.2.1.kp λx q=>(K a x e.1 q).2,p.2.2.2.1.at λx q=>(K dx x p.1 q).2,cf.le fs p.2.2.2.2.1,p.2.2.2.2.2⟩
theorem cf.le:∀(fs:List (Key×O)) {m:Str->Option Value},cf w c h fs m->cf w c' h' fs m
 | [],_,_=>trivial
 | (_,v)::r,_,e=>⟨e.1.elim λx p=>p.elim λu p=>⟨x,u,p.1,p.2.1,p.2.2.1,VR.le v p.2.2.2⟩,cf.le r e.2⟩
theorem bC.le:∀(es:List (Key×O)) {ds:List DictEntry},bC w c h es ds->bC w c' h' es ds
 | [],_,e=>e
 | (_,v)::r,_,e=>e.elim λd e=>e.elim λq e=>⟨d,q,e.1,e.2.1,VR.le v e.2.2.1,bC.le r e.2.2.2⟩
end
end
theorem OR.live:∀(k:AC) {o:Option Ow} {a:Addr},OR w c h k o a->∃x,h.get? a=some x
 | .list _,_,_,e=>e.2.2.elim λit p=>p.elim λn p=>⟨_,p.1⟩
 | .dict _,_,_,e=>e.2.2.2.2.elim λit p=>p.elim λn p=>⟨_,p.1⟩
 | .inst _ _,_,_,e=>e.2.2.2.elim λdx p=>p.elim λm p=>p.2.2.1.elim λo i=>⟨_,i.1⟩
theorem OR.ow:∀(k:AC) {o:Option Ow} {a:Addr},OR w c h k o a->c.ow a=o
 | .list _,_,_,e=>e.1
 | .dict _,_,_,e=>e.1
 | .inst _ _,_,_,e=>e.1
theorem VR.vw:∀{a:O} {v:Value},VR w c h a v->VW w c h a v
 | .ao _,_,x=>x.elim λa e=>⟨a,none,e⟩
 | .none,_,x=>x
 | .bool _,_,x=>x
 | .int _,_,x=>x
 | .str _,_,x=>x
 | .bytes _,_,x=>x
 | .tup _,_,x=>x
 | .ref _,_,x=>x
section
variable{v:Value}{P:Value->Prop}
@[elab_as_elim] theorem VW.int{i:Int}(x:VW w c h (.int i) v)(k:∀t,P (.int i t)):P v:=x.elim λt e=>e▸k t
@[elab_as_elim] theorem VW.str{i:Str}(x:VW w c h (.str i) v)(k:i.length<=ax->∀t,P (.str i t)):P v:=x.2.elim λt e=>e▸k x.1 t
@[elab_as_elim] theorem VW.bytes{i:List UInt8}(x:VW w c h (.bytes i) v)(k:i.length<=ax->∀t,P (.bytes i.toArray t)):P v:=x.2.elim λt e=>e▸k x.1 t
@[elab_as_elim] theorem VW.ref{l:Nat}(x:VW w c h (.ref l) v)(k:∀a,c.γ[l]?=some a->P (.ref a)):P v:=x.elim λa e=>e.1▸k a e.2
@[elab_as_elim] theorem VW.tup{vs:List O}(x:VW w c h (.tup vs) v)(k:∀a it n,vs.length<=ax->c.ow a=none->h.get? a=some (jf it n)->aq w c h vs it.toList->P (.ref a)):P v:=
 x.2.elim λa p=>p.elim λit p=>p.elim λn p=>p.1▸k a it n x.1 p.2.1 p.2.2.1 p.2.2.2
@[elab_as_elim] theorem VW.list{vs:List O}(x:VW w c h (.ao (.list vs)) v)(k:∀a it n,vs.length<=ax->h.get? a=some (cP it n)->aq w c h vs it.toList->P (.ref a)):P v:=
 x.elim λa p=>p.elim λo p=>p.2.2.2.elim λit q=>q.elim λn q=>p.1▸k a it n p.2.2.1 q.1 q.2
@[elab_as_elim] theorem VW.dict{es:List (Key×O)}(x:VW w c h (.ao (.dict es)) v)(k:∀a it n,(a==sysModules)=false->es.length<=ax->(es.map (·.1)).Nodup->h.get? a=some (mM it n)->bC w c h es it.toList->P (.ref a)):P v:=
 x.elim λa p=>p.elim λo p=>p.2.2.2.2.2.elim λit q=>q.elim λn q=>p.1▸k a it n p.2.2.1 p.2.2.2.1 p.2.2.2.2.1 q.1 q.2
end
@[elab_as_elim] theorem aq.nil{vs:List Value}{P:List Value->Prop}(x:aq w c h [] vs)(k:P []):P vs:=Eq.symm x▸k
@[elab_as_elim] theorem aq.cons{a:O}{r:List O}{vs:List Value}{P:List Value->Prop}(x:aq w c h (a::r) vs)(k:∀v q,VR w c h a v->aq w c h r q->P (v::q)):P vs:=
 x.elim λv e=>e.elim λq e=>e.1▸k v q e.2.1 e.2.2
theorem aq.mk{a:O}{r:List O}{v:Value}{vs:List Value}(x:VR w c h a v)(y:aq w c h r vs):aq w c h (a::r) (v::vs):=⟨v,vs,rfl,x,y⟩
theorem aq.get:∀{as:List O} {vs:List Value},aq w c h as vs->as.length=vs.length/\∀(i:Nat) a v,as[i]?=some a->vs[i]?=some v->VR w c h a v
 | [],_,x=>x.nil ⟨rfl,λi a v e=>nomatch e⟩
 | a::r,_,x=>x.cons λv q xv xr=>⟨congrArg Nat.succ (aq.get xr).1,λi b u e e'=>match i,e,e' with
  | 0,e,e'=>Option.some.inj e▸Option.some.inj e'▸xv
  | i+1,e,e'=>(aq.get xr).2 i b u e e'⟩
theorem aq.size{vs:List O}{it:Array Value}(x:aq w c h vs it.toList):it.size=vs.length:=x.get.1.symm▸rfl
theorem aq.append:∀{vs us:List O} {l m:List Value},aq w c h vs l->aq w c h us m->aq w c h (vs++us) (l++m)
 | [],_,_,_,x,y=>x.nil (P:=λl=>aq w c h _ (l++_)) y
 | _::_,_,_,_,x,y=>x.cons (P:=λl=>aq w c h _ (l++_)) λv q xv xr=>.mk xv (xr.append y)
theorem aq.snoc{vs:List O}{l:List Value}{v:O}{u:Value}(x:aq w c h vs l)(y:VR w c h v u):aq w c h (vs++[v]) (l++[u]):=x.append (.mk y rfl)
theorem Le.map(φ:Ow->Option Ow):Le c h (c.map φ) h:=⟨λZ Z e=>e,λb x e e'=>⟨by show(c.ow b).bind φ=none;rw[e];rfl,e'⟩⟩
theorem Kp.map{φ:Ow->Option Ow}{o:Ow}{o':Option Ow}(e:φ o=o'):Kp c h (some o) (c.map φ) h o':=λb x q q'=>⟨by show(c.ow b).bind φ=o';rw[q];exact e,q'⟩
theorem Le.set{a:Addr}{o:Option Ow}(n:h.get? a=none):Le c h (c.set a o) h:=⟨λZ Z e=>e,λb x e e'=>⟨(if_neg λq=>by rw[q,n] at e';cases e').trans e,e'⟩⟩
end
def Sub(h h':Heap):Prop:=∀b o,h.get? b=some o->h'.get? b=some o
theorem Sub.refl(h:Heap):Sub h h:=λZ Z e=>e
theorem Sub.trans{h h' gF:Heap}(a:Sub h h')(b:Sub h' gF):Sub h gF:=λx o e=>b x o (a x o e)
theorem Sub.le{c:Cf}{h h':Heap}(s:Sub h h'):Le c h c h':=⟨λZ Z e=>e,λb x e e'=>⟨e,s b x e'⟩⟩
theorem Sub.kp{c:Cf}{h h':Heap}{o:Option Ow}(s:Sub h h'):Kp c h o c h' o:=λb x e e'=>⟨e,s b x e'⟩
theorem Sub.push(h:Heap)(o:Obj):Sub h (h.push o):=λZ Z e=>Heap.get?_push_of_some o e
theorem dF(h:Heap):h.get? h.objs.size=none:=by
 cases e:h.get? h.objs.size with
 | none=>rfl
 | some o=>exact absurd (Heap.lt_size e) (Nat.lt_irrefl _)
section
variable(w:World)(B:Heap)(c:Cf)(h:Heap)
noncomputable def SV(o:Ow):VS->Value->Prop
 | .val a,v=>VR w c h a v
 | .own k,v=>∃a,v=.ref a/\OR w c h k (some o) a
def Full(st:St)(i:Nat):Prop:=∃x,st.σ[i]?=some (some x)
noncomputable def RR(st:St)(ak:Nat->Value)(o:Ow):ER->Value->Prop
 | .val a,v=>VR w c h a v
 | .own k,v=>∃a,v=.ref a/\OR w c h k (some o) a
 | .loc i,v=>v=ak i/\Full st i
noncomputable def aZ(st:St)(ak:Nat->Value):List ER->List Value->Prop
 | [],l=>l=[]
 | r::rs,l=>∃v q,l=v::q/\RR w c h st ak (.tmp rs.length) r v/\aZ st ak rs q
structure Gd(st:St)(ak:Nat->Value)(aN:Nat->Nat->Value)(rs:List ER)(vs:List Value):Prop where
 base:Sub B h
 ok:∀b o,c.ow b=some o->B.get? b=none/\∃x,h.get? b=some x
 cO:c.γ.length=st.H.length
 cq:∀(l:Nat) k a,st.H[l]?=some k->c.γ[l]?=some a->OR w c h k (some (.heap l)) a
 slt:∀(i:Nat) x,st.σ[i]?=some (some x)->SV w c h (.slot i) x (ak i)
 dc:∀(d i:Nat) (fr:List (Option O)) v,st.κ[d]?=some fr->fr[i]?=some (some v)->VR w c h v (aN d i)
 bw:aZ w c h st ak rs vs
end
structure Mv(c:Cf)(s:Shared)(c':Cf)(s':Shared):Prop where
 se:s'={s with heap:=s'.heap,toks:=s'.toks}
 le:Le c s.heap c' s'.heap
 ko:Kp c s.heap (some .other) c' s'.heap (some .other)
structure Shape(st st':St):Prop where
 κ:st'.κ=st.κ
 lk:st'.lk=st.lk
 len:st'.σ.length=st.σ.length
 full:∀i,Full st' i ↔ Full st i
theorem Shape.refl(st:St):Shape st st:=⟨rfl,rfl,rfl,λZ=>Iff.rfl⟩
theorem Shape.trans{a b c:St}(x:Shape a b)(y:Shape b c):Shape a c:=⟨y.κ.trans x.κ,y.lk.trans x.lk,y.len.trans x.len,λi=>(y.full i).trans (x.full i)⟩
section
variable{w:World}{B:Heap}{c c':Cf}{h h':Heap}{st st':St}{ak:Nat->Value}{aN:Nat->Nat->Value}{rs:List ER}{vs:List Value}
theorem SV.kp(L:Le c h c' h'){o o':Ow}(K:Kp c h (some o) c' h' (some o')):∀{x:VS} {v:Value},SV w c h o x v->SV w c' h' o' x v
 | .val a,_,x=>VR.le L a x
 | .own k,_,x=>x.elim λa x=>⟨a,x.1,OR.le L k K x.2⟩
theorem RR.kp(L:Le c h c' h'){o o':Ow}(K:Kp c h (some o) c' h' (some o'))(f:∀i,Full st i->Full st' i):∀{r:ER} {v:Value},RR w c h st ak o r v->RR w c' h' st' ak o' r v
 | .val a,_,x=>VR.le L a x
 | .own k,_,x=>x.elim λa x=>⟨a,x.1,OR.le L k K x.2⟩
 | .loc i,_,x=>x.imp id (f i)
theorem aZ.kp(L:Le c h c' h')(f:∀i,Full st i->Full st' i):∀{rs:List ER} {vs:List Value},(∀j,j<rs.length->Kp c h (some (.tmp j)) c' h' (some (.tmp j)))->aZ w c h st ak rs vs->aZ w c' h' st' ak rs vs
 | [],_,_,x=>x
 | _::_,_,K,x=>x.elim λv x=>x.elim λq x=>⟨v,q,x.1,x.2.1.kp L (K _ (Nat.lt_succ_self _)) f,aZ.kp L f (λj hj=>K j (Nat.lt_succ_of_lt hj)) x.2.2⟩
@[elab_as_elim] theorem aZ.cons{r:ER}{P:List Value->Prop}(x:aZ w c h st ak (r::rs) vs)(k:∀v q,RR w c h st ak (.tmp rs.length) r v->aZ w c h st ak rs q->P (v::q)):P vs:=
 x.elim λv x=>x.elim λq x=>x.1▸k v q x.2.1 x.2.2
theorem aZ.hd{r:ER}{v:Value}(x:aZ w c h st ak (r::rs) (v::vs)):RR w c h st ak (.tmp rs.length) r v:=x.elim λv x=>x.elim λq x=>(List.cons.inj x.1).1▸x.2.1
theorem aZ.tl{r:ER}{v:Value}(x:aZ w c h st ak (r::rs) (v::vs)):aZ w c h st ak rs vs:=x.elim λv x=>x.elim λq x=>(List.cons.inj x.1).2▸x.2.2
theorem aZ.mk{r:ER}{v:Value}(x:RR w c h st ak (.tmp rs.length) r v)(y:aZ w c h st ak rs vs):aZ w c h st ak (r::rs) (v::vs):=⟨v,vs,rfl,x,y⟩
theorem Gd.ext(g:Gd w B c h st ak aN rs vs)(L:Le c h c' h')(jL:c'.γ=c.γ)(K:∀o,o≠.env->o≠.other->Kp c h (some o) c' h' (some o))(I:Sub B h')(ok:∀b o,c'.ow b=some o->B.get? b=none/\∃x,h'.get? b=some x) :
  Gd w B c' h' st ak aN rs vs where
 base:=I
 ok:=ok
 cO:=jL▸g.cO
 cq:=λl k a e e'=>OR.le L k (K (.heap l) nofun nofun) (g.cq l k a e (jL▸e'))
 slt:=λi x e=>(g.slt i x e).kp L (K (.slot i) nofun nofun)
 dc:=λd i fr v e e'=>VR.le L v (g.dc d i fr v e e')
 bw:=g.bw.kp L (λZ q=>q) λj Z=>K (.tmp j) nofun nofun
theorem Gd.grow(g:Gd w B c h st ak aN rs vs)(s:Sub h h'):Gd w B c h' st ak aN rs vs:=g.ext s.le rfl (λZ Z Z=>s.kp) (g.base.trans s) λb o e=>(g.ok b o e).imp id λp=>p.imp λx q=>s b x q
theorem Gd.nb(g:Gd w B c h st ak aN rs vs){a:Addr}(n:h.get? a=none):B.get? a=none:=match e:B.get? a with
 | none=>rfl
 | some o=>nomatch n.symm.trans (g.base a o e)
theorem Gd.new(g:Gd w B c h st ak aN rs vs)(s:Sub h h')(jL:c'.γ=c.γ)(q:∀b x,h.get? b=some x->c'.ow b=c.ow b)(lv:∀b o,h.get? b=none->c'.ow b=some o->∃x,h'.get? b=some x):Gd w B c' h' st ak aN rs vs:=
 g.ext ⟨λZ Z e=>jL▸e,λb x e e'=>⟨(q b x e').trans e,s b x e'⟩⟩ jL (λo' Z Z b x e e'=>⟨(q b x e').trans e,s b x e'⟩) (g.base.trans s) λb o e=>match z:h.get? b with
  | none=>⟨g.nb z,lv b o z e⟩
  | some x=>⟨(g.ok b o ((q b x z).symm.trans e)).1,x,s b x z⟩
theorem Mv.refl(c:Cf)(s:Shared):Mv c s c s:=⟨rfl,.refl _ _,λZ Z e e'=>⟨e,e'⟩⟩
theorem Mv.trans{c c' kL:Cf}{s s' GN:Shared}(a:Mv c s c' s')(b:Mv c' s' kL GN):Mv c s kL GN:=⟨b.se.trans (by rw[a.se]),a.le.trans b.le,a.ko.trans b.ko⟩
theorem Gd.p0(g:Gd w B c h st ak aN rs vs){φ:Ow->Option Ow}{st':St}{aR:Nat->Value}{D1:Nat->Nat->Value}{iA:List ER}{gm:List Value}(hh:∀l,φ (.heap l)=some (.heap l))(H:st'.H=st.H)
  (sl:∀(i:Nat) x,st'.σ[i]?=some (some x)->SV w (c.map φ) h (.slot i) x (aR i)) (kv:∀(d i:Nat) (fr:List (Option O)) v,st'.κ[d]?=some fr->fr[i]?=some (some v)->VR w (c.map φ) h v (D1 d i)) (sk:aZ w (c.map φ) h st' aR iA gm) :
  Gd w B (c.map φ) h st' aR D1 iA gm where
 base:=g.base
 ok:=λb o e=>match q:c.ow b with
  | some o'=>g.ok b o' q
  | none=>nomatch (show(none:Option Ow)=some o from(congrArg (·.bind φ) q).symm.trans e)
 cO:=H▸g.cO
 cq:=λl k a e e'=>OR.le (.map φ) k (.map (hh l)) (g.cq l k a (H▸e) e')
 slt:=sl
 dc:=kv
 bw:=sk
open Classical in
noncomputable def chg(o:Ow)(n:Option Ow)(x:Ow):Option Ow:=if x=o then n else some x
theorem uB{o:Ow}{n:Option Ow}:chg o n o=n:=if_pos rfl
theorem iJ{o x:Ow}{n:Option Ow}(e:x≠o):chg o n x=some x:=if_neg e
theorem Mv.chg{c:Cf}{s s':Shared}{c':Cf}{o:Ow}{n:Option Ow}(m:Mv c s c' s')(e:Ow.other≠o):Mv c s (c'.map (chg o n)) s':=⟨m.se,m.le.trans (.map _),m.ko.trans (.map (iJ e))⟩
theorem Hj{α:Type}(l:List α)(i:Nat)(x:α)(j:Nat):(l.set i x)[j]?=if i=j then(if i<l.length then some x else none) else l[j]?:=List.getElem?_set
theorem cu{α:Type}{l:List α}{i:Nat}{x:α}(h:l[i]?=some x):i<l.length:=(List.getElem?_eq_some_iff.mp h).1
theorem yh{α:Type}{l:List α}{i:Nat}(x:α)(h:i<l.length):(l.set i x)[i]?=some x:=(Hj l i x i).trans ((if_pos rfl).trans (if_pos h))
theorem qc{α:Type}{l:List α}{i j:Nat}{x:α}(h:i≠j):(l.set i x)[j]?=l[j]?:=(Hj l i x j).trans (if_neg h)
theorem set_inv{α:Type}{l:List α}{i j:Nat}{x y:α}(e:(l.set i x)[j]?=some y):(i=j/\y=x)∨(i≠j/\l[j]?=some y):=by
 by_cases q:i=j
 .subst q;exact .inl ⟨rfl,(Option.some.inj ((yh x (List.length_set▸cu e)).symm.trans e)).symm⟩
 .exact .inr ⟨q,(qc q).symm.trans e⟩
theorem Full.set{i:Nat}{x:VS}(hi:Full st i):∀j,Full {st with σ:=st.σ.set i (some x)} j ↔ Full st j:=λj=>by
 by_cases q:i=j
 .subst q;exact⟨λZ=>hi,λZ=>⟨x,yh _ (hi.elim λZ e=>cu e)⟩⟩
 .exact⟨λp=>p.imp λy e=>(qc q).symm.trans e,λp=>p.imp λy e=>(qc q).trans e⟩
theorem Shape.set{i:Nat}{x:VS}(hi:Full st i):Shape st {st with σ:=st.σ.set i (some x)}:=⟨rfl,rfl,List.length_set,hi.set⟩
end
structure au where
 sc:Scope
 sl:List Str
 kl:List (List Str)
def eh(env:Env)(b:Addr):Prop:=b=env.locals∨∃x,env.cells.lookup x=some b
def Seen(env:Env)(h:Heap)(x:Str)(o:Option Value):Prop:=match env.kindOf x with
 | some .local=>∃m,h.Ns env.locals m/\m x=o
 | some .cell=>∃a,env.cells.lookup x=some a/\h.IsCell a o
 | some .free=>∃a,env.cells.lookup x=some a/\h.IsCell a o
 | _=>True
structure tT(env:Env):Prop where
 fn:env.scope.kind=.function
 gl:env.globals=mainGlobals
 bi:env.builtins=builtinsNs
 apart:env.cells.Pairwise λx y=>x.2≠y.2
 lc:∀x a,(x,a)∈env.cells->a≠env.locals
noncomputable def dm(x:Str):Bool:=x != ("__debug__" : Str)&&x != ("__classdict__" : Str)
def y6(st:St)(d i:Nat):Prop:=∃fr v,st.κ[d]?=some fr/\fr[i]?=some (some v)
structure eO(D:au)(env:Env)(c:Cf)(h:Heap)(st:St)(ak:Nat->Value)(aN:Nat->Nat->Value):Prop where
 sc:env.scope=D.sc
 fr:tT env
 ns:∃m,h.Ns env.locals m
 y:∀b,eh env b->c.ow b=some .env/\∃x,h.get? b=some x
 slots:∀(i:Nat) x,D.sl[i]?=some x->x∉D.kl.flatten->∃o,Seen env h x o/\(Full st i->o=some (ak i))
 comps:∀(d i:Nat) fr x,D.kl[d]?=some fr->fr[i]?=some x->x∉(D.kl.take d).flatten->∃o,Seen env h x o/\(y6 st d i->o=some (aN d i))
structure Om where
 w:World
 B:Heap
 k:Nat
 D:au
structure Fm where
 A:Around
 E:Value->Shared->Prop
 env:Env
 aN:Nat->Nat->Value
 c:Cf
 st:St
 ak:Nat->Value
 s:Shared
@[irreducible] noncomputable def aL:Program:=PySem.Challenge.rw_nt0069_01.row.prog
noncomputable abbrev Om.M(J:Om):Model:=model aL J.w
def Rm(A:Around)(k:Nat):Prop:=A.handled=none/\A.depth+5*k<=500/\A.units+20*k<=2000
structure Ok(J:Om)(φ:Fm):Prop where
 rm:Rm φ.A J.k
 bQ:eO J.D φ.env φ.c φ.s.heap φ.st φ.ak φ.aN
structure aF(J:Om)(φ:Fm)(c:Cf)(rs:List ER)(vs:List Value)(st:St)(s:Shared):Prop where
 ok:Ok J φ
 mv:Mv φ.c φ.s c s
 ke:Kp φ.c φ.s.heap (some .env) c s.heap (some .env)
 sh:Shape φ.st st
 gd:Gd J.w J.B c s.heap st φ.ak φ.aN rs vs
def At(J:Om)(φ:Fm)(rs:List ER)(vs:List Value)(st:St)(s:Shared):Prop:=∃c,aF J φ c rs vs st s
theorem Seen.AJ{env:Env}{h h':Heap}{x:Str}{o:Option Value}(k:∀b,eh env b->∀p,h.get? b=some p->h'.get? b=some p)(s:Seen env h x o):Seen env h' x o:=by
 unfold Seen at s ⊢
 split at s
 .exact s.imp λm p=>p.imp (λq=>q.at' (k _ (.inl rfl))) id
 .exact s.imp λa p=>⟨p.1,p.2.imp λq r=>⟨k a (.inr ⟨x,p.1⟩) q r.1,r.2⟩⟩
 .exact s.imp λa p=>⟨p.1,p.2.imp λq r=>⟨k a (.inr ⟨x,p.1⟩) q r.1,r.2⟩⟩
 .trivial
theorem sL{x:Str}(ho:dm x=true):(x==("__debug__" : Str))=false:=Bool.eq_false_iff.mpr λq=>by
 unfold dm at ho
 rw[bne,q] at ho;cases ho
section
variable{w:World}{A:Around}{E:Value->Shared->Prop}{s:Shared}{env:Env}{prog:Program}
theorem Seen.load{x:Str}{v:Value}{Q:Value->Shared->Prop}(f:tT env)(hk:env.kindOf x=some .local∨env.kindOf x=some .cell∨env.kindOf x=some .free)(hx:dm x=true)
  (k:Seen env s.heap x (some v)) (h:Q v s):wpAny (model prog w) A (loadName env x) Q E s:=by
 unfold Seen at k
 rcases hk with e | e | e<;>rw[e] at k
 .exact k.elim λm k=>wpAny_loadName_local f.fn e k.1 k.2 h
 .exact k.elim λa k=>wpAny_loadName_cell f.fn e k.1 k.2 h
 .exact k.elim λa k=>wpAny_loadName_free f.fn e k.1 k.2 h (Bool.eq_false_iff.mpr λq=>by
   unfold dm at hx
   rw[bne,bne,q,Bool.and_comm] at hx;cases hx)
theorem W9{x:Str}{v:Value}{o₀:Option Value}{Q:Unit->Shared->Prop}(f:tT env)(hk:env.kindOf x=some .local∨env.kindOf x=some .cell)(fX:∃m,s.heap.Ns env.locals m)
  (k:Seen env s.heap x o₀)
  (h:∀h' tk,(∃m,h'.Ns env.locals m)->Seen env h' x (some v)->(∀y o,y≠x->Seen env s.heap y o->Seen env h' y o)->(∀b o,¬eh env b->s.heap.get? b=some o->h'.get? b=some o)->
   (∀b o,s.heap.get? b=some o->∃o',h'.get? b=some o')->Q () {s with heap:=h',toks:=tk}) :
  wpAny (model prog w) A (storeName env x v) Q E s:=by
 have lv:∀{a:Addr} {h':Heap},Heap.SameBut a s.heap h'->(∃o,h'.get? a=some o)->∀b o,s.heap.get? b=some o->∃o',h'.get? b=some o':=λ{a h'} hs Y b o q=>by
  by_cases z:b=a
  .exact z▸Y
  .exact⟨o,(hs.2 b z).trans q⟩
 -- Yt the others read
 have ot:∀{a:Addr} {h':Heap},Heap.SameBut a s.heap h'->(∀y er,y≠x->env.cells.lookup y=some er->er≠a)->(∀y o,y≠x->(∃m,s.heap.Ns env.locals m/\m y=o)->∃m,h'.Ns env.locals m/\m y=o)->∀y o,y≠x->Seen env s.heap y o->Seen env h' y o:=by
  intro a h' hs hc Y y o ny sy
  unfold Seen at sy ⊢
  split at sy
  .exact Y y o ny sy
  .exact sy.imp λer p=>⟨p.1,p.2.sameBut hs (hc y er ny p.1)⟩
  .exact sy.imp λer p=>⟨p.1,p.2.sameBut hs (hc y er ny p.1)⟩
  .trivial
 rcases hk with e | e<;>(unfold Seen at k;rw[e] at k)
 .refine k.elim λm k=>wpAny_storeName_local e k.1 (λh' dk hs=>h h' _ ⟨_,dk⟩ ?_ (ot hs (λy a Z ha=>f.lc y a (mem_of_lookup ha)) λy o ny p=>p.elim λm₂ p=>⟨_,dk,(if_neg ny).trans ((k.1.agree p.1 y).trans p.2)⟩) (λb o n q=>(hs.2 b λz=>n (.inl z)).trans q) (lv hs (dk.imp λZ p=>p.choose_spec.choose_spec.1))) (by rw[f.fn];rfl)
  unfold Seen;rw[e];exact⟨_,dk,if_pos rfl⟩
 .refine k.elim λa k=>?_
  have CU:=f.lc x a (mem_of_lookup k.1)
  refine wpAny_storeName_cell f.fn e k.1 k.2 λh' mX hs=>h h' s.toks (fX.imp λm hn=>hn.sameBut hs (Ne.symm CU)) ?_ (ot hs (λy er ny ha z=>ny (name_of_addr f.apart (mem_of_lookup ha) (z▸mem_of_lookup k.1))) λy o ny p=>p.imp λm₂ p=>p.imp (λq=>q.sameBut hs (Ne.symm CU)) id)
   (λb o n q=>(hs.2 b λz=>n (.inr ⟨x,z▸k.1⟩)).trans q) (lv hs (mX.imp λZ p=>p.1))
  unfold Seen;rw[e];exact⟨a,k.1,mX⟩
end
section
variable{D:au}{env:Env}{c c':Cf}{h h':Heap}{st st':St}{ak:Nat->Value}{aN:Nat->Nat->Value}
theorem eO.to(V:eO D env c h st ak aN)(K:Kp c h (some .env) c' h' (some .env))(f:∀i,Full st' i->Full st i)(OQ:st'.κ=st.κ):eO D env c' h' st' ak aN:=
 have k:∀b,eh env b->∀p,h.get? b=some p->h'.get? b=some p:=λb y p e=>(K b p (V.y b y).1 e).2
 {sc:=V.sc
  fr:=V.fr
  ns:=V.ns.imp λm hn=>hn.at' (k _ (.inl rfl))
  y:=λb y=>(V.y b y).2.elim λx e=>⟨(K b x (V.y b y).1 e).1,x,k b y x e⟩
  slots:=λi x e n=>(V.slots i x e n).imp λo p=>⟨p.1.AJ k,λq=>p.2 (f i q)⟩
  comps:=λd i fr x e e' n=>(V.comps d i fr x e e' n).imp λo p=>⟨p.1.AJ k,λq=>p.2 (by unfold y6 at q;rw[OQ] at q;exact q)⟩}
end
section
variable{J:Om}{φ:Fm}{c:Cf}{rs:List ER}{vs:List Value}{st:St}{s:Shared}
theorem aF.bQ(a:aF J φ c rs vs st s):eO J.D φ.env c s.heap st φ.ak φ.aN:=a.ok.bQ.to a.ke (λi=>(a.sh.full i).mp) a.sh.κ
theorem At.ok(p:At J φ rs vs st s):Ok J φ:=p.elim λZ a=>a.ok
theorem At.base(p:At J φ rs vs st s):Sub J.B s.heap:=p.elim λZ a=>a.gd.base
theorem Mv.tok{c:Cf}{s:Shared}{c':Cf}{s':Shared}(m:Mv c s c' s')(tk:Nat):Mv c s c' {s' with toks:=tk}:=⟨by rw[m.se],m.le,m.ko⟩
theorem At.tok(p:At J φ rs vs st s)(tk:Nat):At J φ rs vs st {s with toks:=tk}:=p.imp λc a=>⟨a.ok,a.mv.tok tk,a.ke,a.sh,a.gd⟩
end
theorem xV{M:Model}{Γ:Ctx}{p:Pos}{t:Sem Fin}{fs:List Frame}{s s':Shared}{e:End}(h:Runs M Γ p t fs s e s'):s.toks<=s'.toks:=by
 have key:∀(s:Shared) g x,(s.setGen g x).toks=s.toks:=λZ Z Z=>rfl
 induction h<;>(try simp only[key] at*)<;>first | assumption | exact Nat.le_of_lt (by assumption) | exact Nat.le_trans (by assumption) (by assumption) | lia | (dsimp only at*;lia)
theorem Ys{M:Model}{Γ:Ctx}{p:Pos}{g:Nat}{r:Resume}{s s':Shared}{res:GenResult}(h:Wakes M Γ p g r s res s'):s.toks<=s'.toks:=by
 unfold Wakes at h
 split at h
 .exact h.elim
 .split at h
  .obtain⟨e,aJ,hr,_,_,rfl⟩:=h
   have:=xV hr
   simpa[Shared.setGen] using this
  .obtain⟨_,rfl⟩:=h;exact Nat.le_refl _
  .obtain⟨_,rfl⟩:=h;exact Nat.le_refl _
 .obtain⟨e,aJ,hr,_,_,rfl⟩:=h
  have:=xV hr
  simpa[Shared.setGen] using this
 .obtain⟨_,rfl⟩:=h;exact Nat.le_refl _
 .obtain⟨_,rfl⟩:=h;exact Nat.le_refl _
theorem wp_toks{X:Type}{post:X->Pos->Shared->Prop}{exc:Value->Pos->Shared->Prop}(M:Model)(Γ:Ctx)(n:Nat)(t:Sem X):∀(p:Pos) (s:Shared),n<=s.toks->Sem.wp M Γ t post exc p s->
  Sem.wp M Γ t (λx p' s'=>post x p' s'/\n<=s'.toks) (λx p' s'=>exc x p' s'/\n<=s'.toks) p s:=by
 induction t with
 | pure x=>exact λp s hn h=>⟨h,hn⟩
 | raise v=>exact λp s hn h=>⟨h,hn⟩
 | unsupported | finish | yield | fork | await | register=>exact λp s hn h=>h
 | rule _ k ih | «at» _ k ih | alloc _ k ih | loadIfAlive _ k ih | point _ k ih | ask k ih | os _ _ k ih | handled _ k ih | newGen _ k ih | stack k ih | thread k ih=>exact λp s hn h=>ih _ _ _ hn h
 | fresh k ih=>exact λp s hn h=>ih _ _ _ (Nat.le_succ_of_le hn) h
 | load a _ k ih | genState a k ih=>exact λp s hn ⟨o,ho,h⟩=>⟨o,ho,ih _ _ _ hn h⟩
 | update a _ f k ih=>exact λp s hn ⟨o,h⟩=>⟨o,ih _ _ _ hn h⟩
 | choose _ n k ih=>exact λp s hn ⟨o,h⟩=>⟨o,ih _ _ _ hn h⟩
 | call c h g l k ih=>exact λp s hn ⟨r,s',hr,h⟩=>⟨r,s',hr,ih _ _ _ (Nat.le_trans hn (xV hr)) h⟩
 | resume g r l k ih=>exact λp s hn ⟨r,s',hr,h⟩=>⟨r,s',hr,ih _ _ _ (Nat.le_trans hn (Ys hr)) h⟩
theorem wpAny_toks{α:Type}{M:Model}{A:Around}{t:Sem α}{Q:α->Shared->Prop}{E:Value->Shared->Prop}{s:Shared}{n:Nat}(hn:n<=s.toks)(h:wpAny M A t Q E s):wpAny M A t (λa s'=>Q a s'/\n<=s'.toks) E s:=
 λΓ p OO=>Sem.wp_mono M Γ t (λZ Z Z h=>h) (λZ Z Z h=>h.1) p s (wp_toks M Γ n t p s hn (h Γ p OO))
def aE(w:World)(c:Cf)(s:Shared)(r:ER)(v:Value)(s':Shared):Prop:=
 ∃h' tk,s'={s with heap:=h',toks:=tk}/\Sub s.heap h'/\match r with
  | .val a=>VR w c h' a v
  | .own k=>∃a,v=.ref a/\s.heap.get? a=none/\∀o,OR w (c.set a o) h' k o a
  | .loc _=>False
def Fr(c:Cf)(h:Heap):Prop:=∀b,h.get? b=none->c.ow b=none
section
variable{w:World}{c:Cf}{s:Shared}
theorem aE.jh{a:O}{v:Value}(x:VR w c s.heap a v)(tk:Nat):aE w c s (.val a) v {s with toks:=tk}:=⟨s.heap,tk,rfl,Sub.refl _,x⟩
theorem aE.val{a:O}{v:Value}(x:VR w c s.heap a v):aE w c s (.val a) v s:=aE.jh x s.toks
theorem aE.int(i:Int)(t:Tok)(tk:Nat):aE w c s (.val (.int i)) (.int i t) {s with toks:=tk}:=aE.jh (a:=.int i) ⟨t,rfl⟩ tk
theorem aE.bool(b:Bool):aE w c s (.val (.bool b)) (.bool b) s:=aE.val (a:=.bool b) rfl
theorem aE.str{x:Str}(hx:x.length<=ax)(t:Tok)(tk:Nat):aE w c s (.val (.str x)) (.str x t) {s with toks:=tk}:=aE.jh (a:=.str x) ⟨hx,t,rfl⟩ tk
theorem aE.bytes{x:List UInt8}{y:Array UInt8}(hx:x.length<=ax)(hy:y=x.toArray)(t:Tok)(tk:Nat):aE w c s (.val (.bytes x)) (.bytes y t) {s with toks:=tk}:=hy▸aE.jh (a:=.bytes x) ⟨hx,t,rfl⟩ tk
theorem aq.push{vs:List O}{l:List Value}(o:Obj)(x:aq w c s.heap vs l):aq w c (s.heap.push o) vs l:=aq.le (Sub.push _ _).le vs x
theorem aE.list{vs:List O}{items:Array Value}{n tk:Nat}(hv:aq w c s.heap vs items.toList)(Y:vs.length<=ax) :
  aE w c s (.own (.list vs)) (.ref s.heap.objs.size) {s with heap:=s.heap.push (cP items n),toks:=tk}:=
 ⟨_,tk,rfl,Sub.push _ _,s.heap.objs.size,rfl,dF _,λo=>⟨if_pos rfl,Y,items,n,Heap.get?_push_size _ rfl,aq.le ((Le.set (dF _)).trans (Sub.push _ _).le) vs hv⟩⟩
theorem aE.tup{vs:List O}{items:Array Value}{n tk:Nat}(hf:Fr c s.heap)(hv:aq w c s.heap vs items.toList)(Y:vs.length<=ax) :
  aE w c s (.val (.tup vs)) (.ref s.heap.objs.size) {s with heap:=s.heap.push (jf items n),toks:=tk}:=
 ⟨_,tk,rfl,Sub.push _ _,Y,s.heap.objs.size,items,n,rfl,hf _ (dF _),Heap.get?_push_size _ rfl,hv.push _⟩
end
section
variable{w:World}{B:Heap}{c:Cf}{h:Heap}{st:St}{ak:Nat->Value}{aN:Nat->Nat->Value}{rs:List ER}{vs:List Value}
theorem Gd.fr(g:Gd w B c h st ak aN rs vs):Fr c h:=λb e=>match q:c.ow b with
 | none=>rfl
 | some o=>(g.ok b o q).2.elim λx z=>nomatch e.symm.trans z
theorem Gd.view(g:Gd w B c h st ak aN rs vs){o:Ow}{r:ER}{v:Value}{a:O}(x:RR w c h st ak o r v)(e:view r st=some a):VW w c h a v:=by
 cases r with
 | val b=>exact Option.some.inj e▸VR.vw x
 | own k=>exact Option.some.inj e▸x.imp λa x=>⟨_,x⟩
 | loc i=>
  refine x.2.elim λy hy=>x.1▸?_
  have e:Hq (some (some y))=some a:=hy▸e
  have z:=g.slt i y hy
  cases y with
  | own k=>exact Option.some.inj e▸z.imp λa x=>⟨_,x⟩
  | val b=>exact Option.some.inj e▸VR.vw z
set_option tactic.hygienic true in
theorem Gd.bJ(g:Gd w B c h st ak aN rs vs){o:Ow}{r:ER}{v:Value}{a:O}(x:RR w c h st ak o r v)(e:bJ r st=some a):VW w c h a v:=by
 unfold Mine.Internal.bJ at e
 split at e
 .rename_i l Y
  refine(g.view x Y).ref λad hg=>?_
  refine(Option.map_eq_some_iff.mp e).elim λk p=>p.2▸⟨ad,_,rfl,g.cq l k ad p.1 hg⟩
 .exact g.view x e
end
section
variable{w:World}{c:Cf}{h:Heap}{a:O}{v:Value}{β:Type}{r:β}{P:Value->Prop}
@[elab_as_elim] theorem VW.rI{f:Int->Option β}(x:VW w c h a v)(e:rI a f=some r)(k:∀n t,f n=some r->P (.int n t)):P v:=(sX e).elim λn p=>VW.int (P:=P) (p.1▸x) λt=>k n t p.2
@[elab_as_elim] theorem VW.rS{f:Str->Option β}(x:VW w c h a v)(e:rS a f=some r)(k:∀n t,n.length<=ax->f n=some r->P (.str n t)):P v:=(xI e).elim λn p=>VW.str (P:=P) (p.1▸x) λl t=>k n t l p.2
@[elab_as_elim] theorem VW.rB{f:List UInt8->Option β}(x:VW w c h a v)(e:rB a f=some r)(k:∀n t,n.length<=ax->f n=some r->P (.bytes n.toArray t)):P v:=(xH e).elim λn p=>VW.bytes (P:=P) (p.1▸x) λl t=>k n t l p.2
@[elab_as_elim] theorem VW.rT{f:List O->Option β}(x:VW w c h a v)(e:rT a f=some r)(k:∀vs ad it n,vs.length<=ax->c.ow ad=none->h.get? ad=some (jf it n)->aq w c h vs it.toList->f vs=some r->P (.ref ad)):P v:=
 (sZ e).elim λvs p=>VW.tup (P:=P) (p.1▸x) λa it n l o g q=>k vs a it n l o g q p.2
@[elab_as_elim] theorem VW.rL{f:List O->Option β}(x:VW w c h a v)(e:rL a f=some r)(k:∀vs ad it n,vs.length<=ax->h.get? ad=some (cP it n)->aq w c h vs it.toList->f vs=some r->P (.ref ad)):P v:=
 (sY e).elim λvs p=>VW.list (P:=P) (p.1▸x) λa it n l g q=>k vs a it n l g q p.2
@[elab_as_elim] theorem VW.rD{f:List (Key×O)->Option β}(x:VW w c h a v)(e:rD a f=some r)(k:∀es ad it n,(ad==sysModules)=false->es.length<=ax->(es.map (·.1)).Nodup->h.get? ad=some (mM it n)->bC w c h es it.toList->f es=some r->P (.ref ad)):P v:=
 (Gh e).elim λvs p=>VW.dict (P:=P) (p.1▸x) λa it n s l u g q=>k vs a it n s l u g q p.2
@[elab_as_elim] theorem VW.cL{q:AC}{f:List O->Option β}(x:VW w c h (.ao q) v)(e:cL q f=some r)(k:∀vs ad it n,vs.length<=ax->h.get? ad=some (cP it n)->aq w c h vs it.toList->f vs=some r->P (.ref ad)):P v:=VW.rL (P:=P) x e k
@[elab_as_elim] theorem VW.cD{q:AC}{f:List (Key×O)->Option β}(x:VW w c h (.ao q) v)(e:cD q f=some r)(k:∀es ad it n,(ad==sysModules)=false->es.length<=ax->(es.map (·.1)).Nodup->h.get? ad=some (mM it n)->bC w c h es it.toList->f es=some r->P (.ref ad)):P v:=VW.rD (P:=P) x e k
end
theorem bh{c:Prop}[Decidable c]{β:Type}{x:Option β}{r:β}(e:(if c then x else none)=some r):c/\x=some r:=Option.ite_none_right_eq_some.mp e
section
variable{J:Om}{φ:Fm}{c:Cf}{rs:List ER}{vs:List Value}{st:St}{s s':Shared}{x y z:ER}{v u t:Value}{G:Prop}
theorem aF.pop(a:aF J φ c (x::rs) (v::vs) st s):aF J φ c rs vs st s:=⟨a.ok,a.mv,a.ke,a.sh,{a.gd with bw:=a.gd.bw.tl}⟩
theorem aF.hd(a:aF J φ c (x::rs) (v::vs) st s):RR J.w c s.heap st φ.ak (.tmp rs.length) x v:=a.gd.bw.hd
theorem aF.grow(a:aF J φ c rs vs st s){h':Heap}(sub:Sub s.heap h')(tk:Nat):aF J φ c rs vs st {s with heap:=h',toks:=tk}:=
 ⟨a.ok,⟨by rw[a.mv.se],a.mv.le.trans sub.le,a.mv.ko.trans sub.kp⟩,a.ke.trans sub.kp,a.sh,a.gd.grow sub⟩
theorem aF.w8(a:aF J φ c rs vs st s){h':Heap}{c':Cf}(sub:Sub s.heap h')(tk:Nat)(jL:c'.γ=c.γ)(q:∀b x,s.heap.get? b=some x->c'.ow b=c.ow b)(lv:∀b o,s.heap.get? b=none->c'.ow b=some o->∃x,h'.get? b=some x):aF J φ c' rs vs st {s with heap:=h',toks:=tk}:=
 have k:∀{o'},Kp c s.heap o' c' h' o':=λb x e e'=>⟨(q b x e').trans e,sub b x e'⟩
 ⟨a.ok,⟨by rw[a.mv.se],a.mv.le.trans ⟨λZ Z e=>jL▸e,k⟩,a.mv.ko.trans k⟩,a.ke.trans k,a.sh,a.gd.new sub jL q lv⟩
theorem aF.new(a:aF J φ c rs vs st s){h':Heap}(sub:Sub s.heap h')(tk:Nat){ad:Addr}{o:Option Ow}(n:s.heap.get? ad=none)(l:∃x,h'.get? ad=some x):aF J φ (c.set ad o) rs vs st {s with heap:=h',toks:=tk}:=
 a.w8 sub tk rfl (λb x e=>if_neg λz=>nomatch (z▸n).symm.trans e) λb o' z e=>by
  by_cases q:b=ad
  .exact q▸l
  .exact nomatch (a.gd.fr b z).symm.trans ((if_neg q).symm.trans e)
theorem aF.push(a:aF J φ c rs vs st s)(q:RR J.w c s.heap st φ.ak (.tmp rs.length) x v):At J φ (x::rs) (v::vs) st s:=⟨c,a.ok,a.mv,a.ke,a.sh,{a.gd with bw:=.mk q a.gd.bw}⟩
theorem aF.op(a:aF J φ c rs vs st s)(o:aE J.w c s x v s'):At J φ (x::rs) (v::vs) st s':=by
 refine o.elim λh' o=>o.elim λtk o=>?_
 rw[o.1]
 cases x with
 | val b=>exact(a.grow o.2.1 tk).push o.2.2
 | own k=>exact o.2.2.elim λad p=>(a.new o.2.1 tk p.2.1 (OR.live k (p.2.2 none))).push ⟨ad,p.1,p.2.2 _⟩
 | loc i=>exact o.2.2.elim
theorem At.gL(p:At J φ rs vs st s){a:O}(q:∀c h,VR J.w c h a v)(tk:Nat):At J φ (.val a::rs) (v::vs) st {s with toks:=tk}:=p.elim λc a=>a.op (.jh (q _ _) tk)
theorem At.v1{K:O->Prop}(p:At J φ (x::rs) (v::vs) st s)(e:OK (view x st) K)(k:∀c a,K a->VW J.w c s.heap a v->aF J φ c rs vs st s->G):G:=
 aM e λa e h=>p.elim λc q=>k c a h (q.gd.view q.hd e) q.pop
theorem At.c1{K:O->Prop}(p:At J φ (x::rs) (v::vs) st s)(e:OK (bJ x st) K)(k:∀c a,K a->VW J.w c s.heap a v->aF J φ c rs vs st s->G):G:=
 aM e λa e h=>p.elim λc q=>k c a h (q.gd.bJ q.hd e) q.pop
theorem At.v2{K:O->O->Prop}(p:At J φ (y::x::rs) (u::v::vs) st s)(e:OK (view x st) λa=>OK (view y st) λb=>K a b)(k:∀c a b,K a b->VW J.w c s.heap a v->VW J.w c s.heap b u->aF J φ c rs vs st s->G):G:=
 aM e λa e h=>aM h λb e' h=>p.elim λc q=>k c a b h (q.gd.view q.pop.hd e) (q.gd.view q.hd e') q.pop.pop
theorem At.c2{K:O->O->Prop}(p:At J φ (y::x::rs) (u::v::vs) st s)(e:OK (bJ x st) λa=>OK (view y st) λb=>K a b)(k:∀c a b,K a b->VW J.w c s.heap a v->VW J.w c s.heap b u->aF J φ c rs vs st s->G):G:=
 aM e λa e h=>aM h λb e' h=>p.elim λc q=>k c a b h (q.gd.bJ q.pop.hd e) (q.gd.view q.hd e') q.pop.pop
theorem At.vc{K:O->O->Prop}(p:At J φ (y::x::rs) (u::v::vs) st s)(e:OK (view x st) λa=>OK (Mine.Internal.bJ y st) λb=>K a b)(k:∀c a b,K a b->VW J.w c s.heap a v->VW J.w c s.heap b u->aF J φ c rs vs st s->G):G:=
 aM e λa e h=>aM h λb e' h=>p.elim λc q=>k c a b h (q.gd.view q.pop.hd e) (q.gd.bJ q.hd e') q.pop.pop
set_option tactic.hygienic true in
theorem O8{r:ER}{n:Int}(e:e8 r st=some n):view r st=some (.int n):=by
 unfold e8 at e
 split at e
 .rename_i a h
  cases a<;>first | exact h.trans (congrArg (λn=>some (O.int n)) (Option.some.inj e)) | exact nomatch e
 .cases e
set_option tactic.hygienic true in
theorem z8{r:ER}{n:List UInt8}(e:jw r st=some n):view r st=some (.bytes n):=by
 unfold jw at e
 split at e
 .rename_i a h
  cases a<;>first | exact h.trans (congrArg (λn=>some (O.bytes n)) (Option.some.inj e)) | exact nomatch e
 .cases e
end
end Mine.Internal
namespace Mine.Internal
open PySem PySem.Calls PyProof.Rows PySem.W PySem.SeqAt
noncomputable def lz:Key->Value->Bool
 | .i n,v=>Value.isInt n v
 | .s x,v=>Value.isStrOf x v
theorem e9{n:Int}{v:Value}(h:lz (.i n) v=true):∃t,v=.int n t:=Value.isInt_shape h
theorem fb{x:Str}{v:Value}(h:lz (.s x) v=true):∃t,v=.str x t:=Value.isStrOf_shape h
set_option tactic.hygienic true in
noncomputable def keyKind(prog:Program)(w:World):KeyKind prog w Key where
 is:=lz
 hash:=λk=>match k with | .i n=>hashInt n | .s x=>hashStr w x
 inj:=by
  intro v a b ha I
  cases a<;>cases b
  .obtain⟨t,rfl⟩:=e9 ha;obtain⟨u,e⟩:=e9 I;cases e;rfl
  .obtain⟨t,rfl⟩:=e9 ha;obtain⟨u,e⟩:=fb I;cases e
  .obtain⟨t,rfl⟩:=fb ha;obtain⟨u,e⟩:=e9 I;cases e
  .obtain⟨t,rfl⟩:=fb ha;obtain⟨u,e⟩:=fb I;cases e;rfl
 byValue:=by
  intro k v h
  cases k
  .obtain⟨t,rfl⟩:=e9 h;rfl
  .obtain⟨t,rfl⟩:=fb h;rfl
 pyHash:=by
  intro A E s k v Q h hq
  cases k
  .obtain⟨t,rfl⟩:=e9 h;exact wpAny_pyHash_int hq
  .obtain⟨t,rfl⟩:=fb h;exact wpAny_pyHash_str hq
 eqBool:=by
  intro A E s a b u v Q ha I hq
  cases a<;>cases b
  .obtain⟨t,rfl⟩:=e9 ha;obtain⟨t',rfl⟩:=e9 I
   refine wpAny_eqBool_int ?_
   rename_i n m
   by_cases h:n=m
   .subst h;simpa using hq
   .have h':¬(Key.i n=Key.i m):=λe=>h (by cases e;rfl)
    rw[decide_eq_false h'] at hq
    have:(n==m)=false:=by simp[h]
    rw[this];exact hq
  .obtain⟨t,rfl⟩:=e9 ha;obtain⟨t',rfl⟩:=fb I
   rw[decide_eq_false (by intro e;cases e)] at hq
   exact EqAt.int_str _ _ _ _ prog w E Q hq
  .obtain⟨t,rfl⟩:=fb ha;obtain⟨t',rfl⟩:=e9 I
   rw[decide_eq_false (by intro e;cases e)] at hq
   exact EqAt.str_int _ _ _ _ prog w E Q hq
  .obtain⟨t,rfl⟩:=fb ha;obtain⟨t',rfl⟩:=fb I
   refine wpAny_eqBool_str ?_
   rename_i n m
   by_cases h:n=m
   .subst h;simpa using hq
   .have h':¬(Key.s n=Key.s m):=λe=>h (by cases e;rfl)
    rw[decide_eq_false h'] at hq
    rw[decide_eq_false h];exact hq
 «strs»:=by
  intro k x t v h
  cases k
  .obtain⟨t,e⟩:=e9 h;cases e
  .rename_i y
   obtain⟨u,e⟩:=fb h
   cases e
   exact(isStr_of _ _).symm
theorem D2{w:World}{k:Key}{e:DictEntry}(h:qq w k e):lz k e.key=true:=by
 cases k with
 | i n=>obtain⟨⟨t,e⟩,_⟩:=h;rw[e];simp[lz,Value.isInt]
 | s x=>obtain⟨⟨t,e⟩,_⟩:=h;rw[e];simp[lz,Value.isStrOf]
section
variable{w:World}{c c':Cf}{h:Heap}
@[elab_as_elim] theorem VW.none{v:Value}{P:Value->Prop}(x:VW w c h .none v)(k:P .none):P v:=Eq.symm x▸k
@[elab_as_elim] theorem VW.bool{b:Bool}{v:Value}{P:Value->Prop}(x:VW w c h (.bool b) v)(k:P (.bool b)):P v:=Eq.symm x▸k
@[elab_as_elim] theorem bC.cons{k:Key}{a:O}{r:List (Key×O)}{ds:List DictEntry}{P:List DictEntry->Prop}(x:bC w c h ((k,a)::r) ds)(f:∀e q,qq w k e->VR w c h a e.val->bC w c h r q->P (e::q)):P ds:=
 x.elim λe x=>x.elim λq x=>x.1▸f e q x.2.1 x.2.2.1 x.2.2.2
@[elab_as_elim] theorem bC.nil{ds:List DictEntry}{P:List DictEntry->Prop}(x:bC w c h [] ds)(f:P []):P ds:=Eq.symm x▸f
noncomputable def dh:List (Key×O)->List DictEntry->List (Key×Value)
 | [],_=>[]
 | p::r,l=>match l with
  | e::q=>(p.1,e.val)::dh r q
  | []=>[]
theorem yS:∀{es:List (Key×O)} {ds:List DictEntry},bC w c h es ds->(dh es ds).map (·.1)=es.map (·.1)
 | [],_,_=>rfl
 | _::_,_,x=>bC.cons (P:=λds=>(dh (_::_) ds).map (·.1)=_) x λe q Z Z xr=>congrArg (List.cons _) (yS xr)
theorem iB{es:List (Key×O)}{ds:List DictEntry}(x:bC w c h es ds):(dh es ds).length=es.length:=by
 rw[←List.length_map (f:=(·.1)),yS x,List.length_map]
theorem bC.key:∀{es:List (Key×O)} {ds:List DictEntry} {e:DictEntry},bC w c h es ds->e∈ds->∃k,qq w k e
 | [],_,_,x,m=>nomatch (x.nil (P:=λl=>_∈l->_∈[]) id m)
 | _::_,_,_,x,m=>bC.cons (P:=λl=>_∈l->_) x (λd q hk Z xr m=>(List.mem_cons.mp m).elim (λz=>⟨_,z▸hk⟩) λm=>xr.key m) m
theorem bC.pairs{prog:Program}:∀{es:List (Key×O)} {ds:List DictEntry},bC w c h es ds->Pairs (keyKind prog w) ds (dh es ds)
 | [],_,x=>x.nil (P:=λds=>Pairs (keyKind prog w) ds (dh [] ds)) .nil
 | _::_,_,x=>bC.cons (P:=λds=>Pairs (keyKind prog w) ds (dh (_::_) ds)) x λd q hk Z xr=>.cons (D2 hk) rfl xr.pairs
theorem eP{prog:Program}{a:Addr}{es:List (Key×O)}{ds:Array DictEntry}{n:Nat}(ho:h.get? a=some (mM ds n))(hn:(es.map (·.1)).Nodup)
  (x:bC w c h es ds.toList):h.DictOf (keyKind prog w) a (dh es ds.toList):=
 ⟨_,ds,n,ho,⟨rfl,rfl,rfl⟩,rfl,λe he=>(x.key (Array.mem_toList_iff.mpr he)).imp λk hk=>⟨D2 hk,match k,hk with
  | .i _,hk=>hk.2
  | .s _,hk=>hk.2.1⟩,x.pairs,(yS x).symm▸hn⟩
end
section
variable{A:Around}{s:Shared}
theorem RcAt.mH(a:Array UInt8)(t:Tok)(b:Array UInt8)(u:Tok):RcAt A s (.bytes a t) (.bytes b u) (a.toList==b.toList):=λprog w E Q h=>eq_bytes h
theorem EqAt.mH(a:Array UInt8)(t:Tok)(b:Array UInt8)(u:Tok):EqAt A s (.bytes a t) (.bytes b u) (a.toList==b.toList):=λprog w E Q h=>by
 unfold eqBool
 refine wpAny_holding ?_
 refine wpAny_ite_split (λhO=>?_) (λZ=>?_)
 .have e:a=b:=by have:=eq_of_beq hO;injection this
  subst e
  exact wpAny_bind (wpAny_rule (wpAny_pure (by simpa using h)))
 .exact wpAny_bind (RcAt.mH a t b u prog w E _ (wpAny_truthy_bool h))
theorem Ep:Slot "bytes" (cmpInfo .Eq).2.2 "bytes.__eq__":=FB.slot_bytes_eq
theorem Et:Slot "bytes" (cmpInfo .NotEq).2.2 "bytes.__ne__":=FB.slot_bytes_ne
theorem H7:isSubtype (.type "bytes") (.type "NoneType")=pure false:=by rw[isSubtype_type];kernel_rfl
theorem tC:isSubtype (.type "NoneType") (.type "bytes")=pure false:=by rw[isSubtype_type];kernel_rfl
theorem za(a:Array UInt8)(t:Tok):Gives (Builtin.«NoneType.__eq__» ⟨[.none,.bytes a t],[]⟩) (.val .notImplemented):=
 .of_wp λM A E s Q h=>by obtain⟨hp,g,d,tk,os⟩:=s;wp_walk;exact⟨_,rfl,h⟩
theorem zb(a:Array UInt8)(t:Tok):Gives (Builtin.«NoneType.__ne__» ⟨[.none,.bytes a t],[]⟩) (.val .notImplemented):=
 .of_wp λM A E s Q h=>by obtain⟨hp,g,d,tk,os⟩:=s;wp_walk;exact⟨_,rfl,h⟩
theorem z9(b:Array UInt8)(t:Tok):Gives (Builtin.«bytes.__eq__» ⟨[.bytes b t,.none],[]⟩) (.val .notImplemented):=by
 refine .of_wp λM A E s Q hq=>?_
 have e:Builtin.«bytes.__eq__» ⟨[.bytes b t,.none],[]⟩=(isInstance .none (.type "bytes") >>= λr=>if (!r)=true then(do rule s!"bytes.{"__eq__"}.declined";ret .notImplemented) else(do
   let x ←Builtin.Bytes.payload (.bytes b t)
   let y ←Builtin.Bytes.payload .none
   ret (.bool (Builtin.Bytes.holds "__eq__" (Builtin.Bytes.order x.toList y.toList))))):=rfl
 rw[e]
 refine wpAny_bind (wpAny_isInstance (T:="NoneType") rfl tC ?_)
 exact wpAny_bind (wpAny_rule (wpAny_pure ⟨_,rfl,hq⟩))
theorem Aa(b:Array UInt8)(t:Tok):Gives (Builtin.«bytes.__ne__» ⟨[.bytes b t,.none],[]⟩) (.val .notImplemented):=by
 refine .of_wp λM A E s Q hq=>?_
 have e:Builtin.«bytes.__ne__» ⟨[.bytes b t,.none],[]⟩=(isInstance .none (.type "bytes") >>= λr=>if (!r)=true then(do rule s!"bytes.{"__ne__"}.declined";ret .notImplemented) else(do
   let x ←Builtin.Bytes.payload (.bytes b t)
   let y ←Builtin.Bytes.payload .none
   ret (.bool (Builtin.Bytes.holds "__ne__" (Builtin.Bytes.order x.toList y.toList))))):=rfl
 rw[e]
 refine wpAny_bind (wpAny_isInstance (T:="NoneType") rfl tC ?_)
 exact wpAny_bind (wpAny_rule (wpAny_pure ⟨_,rfl,hq⟩))
theorem RcAt.sE(b:Array UInt8)(u:Tok):RcAt A s .none (.bytes b u) false:=λprog w E Q h=>
 rc_eq_decline_or (k:=false) rfl (typeIs_bytes s b u) (by decide) H7 F.slot_NoneType_eq Ep
  (λZ hq=>call_gives F.slot_NoneType_eq rfl F.entry_NoneType_eq (F.args_NoneType_eq_2 _ _) (za b u) hq)
  (λZ hq=>call_gives Ep (typeIs_bytes s b u) FB.entry_bytes_eq (FB.args_bytes_eq_2 _ _) (z9 b u) hq)
  (λZ hq=>wpAny_of_eq (rfl:isSame .none (.bytes b u)=pure false) hq) (.inl rfl) h
theorem RcAt.qI(b:Array UInt8)(u:Tok):RcAt A s (.bytes b u) .none false:=λprog w E Q h=>
 rc_eq_decline_or (k:=false) (typeIs_bytes s b u) rfl (by decide) tC FB.slot_bytes_eq F.slot_NoneType_eq_refl
  (λZ hq=>call_gives FB.slot_bytes_eq (typeIs_bytes s b u) FB.entry_bytes_eq (FB.args_bytes_eq_2 _ _) (z9 b u) hq)
  (λZ hq=>call_gives F.slot_NoneType_eq_refl rfl F.entry_NoneType_eq (F.args_NoneType_eq_2 _ _) (za b u) hq)
  (λZ hq=>wpAny_of_eq (rfl:isSame (.bytes b u) .none=pure false) hq) (.inl rfl) h
theorem RcNeAt.sE(b:Array UInt8)(u:Tok):RcNeAt A s .none (.bytes b u) true:=λprog w E Q h=>
 rc_ne_decline_or (k:=false) rfl (typeIs_bytes s b u) (by decide) H7 F.slot_NoneType_ne Et
  (λZ hq=>call_gives F.slot_NoneType_ne rfl F.entry_NoneType_ne (F.args_NoneType_ne_2 _ _) (zb b u) hq)
  (λZ hq=>call_gives Et (typeIs_bytes s b u) FB.entry_bytes_ne (FB.args_bytes_ne_2 _ _) (Aa b u) hq)
  (λZ hq=>wpAny_of_eq (rfl:isSame .none (.bytes b u)=pure false) hq) (.inl rfl) h
theorem RcNeAt.qI(b:Array UInt8)(u:Tok):RcNeAt A s (.bytes b u) .none true:=λprog w E Q h=>
 rc_ne_decline_or (k:=false) (typeIs_bytes s b u) rfl (by decide) tC FB.slot_bytes_ne F.slot_NoneType_ne_refl
  (λZ hq=>call_gives FB.slot_bytes_ne (typeIs_bytes s b u) FB.entry_bytes_ne (FB.args_bytes_ne_2 _ _) (Aa b u) hq)
  (λZ hq=>call_gives F.slot_NoneType_ne_refl rfl F.entry_NoneType_ne (F.args_NoneType_ne_2 _ _) (zb b u) hq)
  (λZ hq=>wpAny_of_eq (rfl:isSame (.bytes b u) .none=pure false) hq) (.inl rfl) h
theorem RcNeAt.mH(a:Array UInt8)(t:Tok)(b:Array UInt8)(u:Tok):RcNeAt A s (.bytes a t) (.bytes b u) (!(a.toList==b.toList)):=λprog w E Q h=>ne_bytes h
theorem EqAt.of_rc{a b:Value}{k:Bool}(bE:(a==b)=false)(N8:∀x t,a≠.float x t)(h:RcAt A s a b k):EqAt A s a b k:=λprog w E Q hq=>by
 unfold eqBool
 refine wpAny_holding ?_
 refine wpAny_ite_split (λhO=>by rw[bE] at hO;cases hO) (λZ=>?_)
 cases a<;>first | exact absurd rfl (N8 _ _) | exact wpAny_bind (h prog w E _ (wpAny_truthy_bool hq))
noncomputable def jE(f:O->O->Option Bool)(as bs:List O)(j:Nat):Bool:=match as[j]?,bs[j]? with
 | some a,some b=>(f a b).getD false
 | _,_=>false
theorem Bb{f:O->O->Option Bool}{a b:O}{p q:List O}{r:Bool}(e:dW f (a::p) (b::q)=some r):∃x y,f a b=some x/\dW f p q=some y/\r=(x&&y):=by
 have e:(match f a b,dW f p q with | some x,some y=>some (x&&y) | _,_=>none)=some r:=e
 cases hx:f a b with
 | none=>rw[hx] at e;cases e
 | some x=>rw[hx] at e;cases hy:dW f p q with
  | none=>rw[hy] at e;cases e
  | some y=>rw[hy] at e;exact⟨x,y,rfl,rfl,(Option.some.inj e).symm⟩
theorem A0{f:O->O->Option Bool}{a b:O}{p q:List O}{x:Bool}(h:f a b=some x):jE f (a::p) (b::q) 0=x:=congrArg (Option.getD · false) h
theorem uP{f:O->O->Option Bool}:∀{as bs:List O} {r:Bool},dW f as bs=some r->
  (∀(j:Nat) a b,as[j]?=some a->bs[j]?=some b->f a b=some (jE f as bs j))/\r=((List.range (min as.length bs.length)).all (jE f as bs)&&as.length==bs.length)
 | [],[],r,e=>⟨nofun,(Option.some.inj e).symm⟩
 | [],b::q,r,e=>⟨nofun,(Option.some.inj e).symm⟩
 | a::p,[],r,e=>⟨λZ Z Z Z h=>(nomatch h),(Option.some.inj e).symm⟩
 | a::p,b::q,r,e=>(Bb e).elim λx h=>h.elim λy h=>by
  have ih:=uP h.2.1
  refine⟨λj a' b' ha I=>?_,?_⟩
  .cases j with
   | zero=>exact Option.some.inj ha▸Option.some.inj I▸h.1.trans (congrArg some (A0 h.1).symm)
   | succ j=>exact ih.1 j a' b' ha I
  .have e1:min (a::p).length (b::q).length=min p.length q.length+1:=Nat.succ_min_succ _ _
   rw[e1,List.range_succ_eq_map,List.all_cons,List.all_map,A0 h.1,h.2.2,ih.2,Bool.and_assoc]
   exact congrArg (λz=>x&&(_&&z)) (Bool.eq_iff_iff.mpr (by rw[beq_iff_eq,beq_iff_eq];exact Nat.succ_inj.symm))
theorem Gi{v:O}{f:Bool->Option Bool}{r:Bool}(h:rO v f=some r):∃n,v=.bool n/\f n=some r:=by cases v<;>first | exact⟨_,rfl,h⟩ | exact nomatch h
theorem GY{h:Heap}{v:Value}{l l':Addr}{o o':Obj}{it bG:Array Value}{m m':Nat}(e:v=.ref l)(e':v=.ref l')(q:h.get? l=some o)(q':h.get? l'=some o')(d:o.data=.seq it m)(d':o'.data=.seq bG m'):it=bG:=
 (Data.seq.inj (d.symm.trans ((congrArg Obj.data (Option.some.inj (q.symm.trans ((congrArg h.get? (Value.ref.inj (e.symm.trans e'))).trans q')))).trans d'))).1
section
variable{w:World}{c c':Cf}{h:Heap}{f:O->O->Option Bool}
theorem uQ(hf:∀{a b:O} {v:Value} {r:Bool},VW w c h a v->VW w c' h b v->f a b=some r->r=true):∀{as bs:List O} {l:List Value} {r:Bool},aq w c h as l->aq w c' h bs l->dW f as bs=some r->r=true
 | [],[],_,_,_,_,e=>(Option.some.inj e).symm
 | [],_::_,_,_,p,q,_=>q.elim λZ q=>q.elim λZ q=>nomatch (Eq.symm p).trans q.1
 | _::_,[],_,_,p,q,_=>p.elim λZ p=>p.elim λZ p=>nomatch (Eq.symm q).trans p.1
 | a::t,b::t',_,_,p,q,e=>(Bb e).elim λx g=>g.elim λy g=>p.elim λc₁ p=>p.elim λl₁ p=>q.elim λc₂ q=>q.elim λl₂ q=>by
   have z:=List.cons.inj (p.1.symm.trans q.1)
   rw[g.2.2,hf p.2.1.vw (z.1▸q.2.1.vw) g.1,uQ hf p.2.2 (z.2▸q.2.2) g.2.1];rfl
theorem GX(hf:∀{a b:O} {v:Value} {r:Bool},VW w c h a v->VW w c' h b v->f a b=some r->r=true){a b:O}{v:Value}{r:Bool}(x:VW w c h a v)(y:VW w c' h b v)(e:td f a b=some r):r=true:=by
 cases a with
 | none=>exact(Option.some.inj e).symm
 | ref _=>cases e
 | int i=>exact(sX e).elim λj p=>x.elim λt x=>(p.1▸y:VW w c' h (.int j) v).elim λt' y=>(Option.some.inj p.2).symm.trans (beq_iff_eq.mpr (Value.int.inj (x.symm.trans y)).1)
 | str i=>exact(xI e).elim λj p=>x.2.elim λt x=>(p.1▸y:VW w c' h (.str j) v).2.elim λt' y=>(Option.some.inj p.2).symm.trans (beq_iff_eq.mpr (Value.str.inj (x.symm.trans y)).1)
 | bool i=>exact(Gi e).elim λj p=>(Option.some.inj p.2).symm.trans (beq_iff_eq.mpr (Value.bool.inj ((Eq.symm x).trans (p.1▸y:VW w c' h (.bool j) v))))
 | bytes i=>exact(xH e).elim λj p=>x.2.elim λt x=>(p.1▸y:VW w c' h (.bytes j) v).2.elim λt' y=>(Option.some.inj p.2).symm.trans (beq_iff_eq.mpr (congrArg Array.toList (Value.bytes.inj (x.symm.trans y)).1))
 | tup as=>exact(sZ e).elim λbs p=>x.2.elim λl x=>x.elim λit x=>x.elim λm x=>(p.1▸y:VW w c' h (.tup bs) v).2.elim λl' y=>y.elim λbG y=>y.elim λm' y=>uQ hf x.2.2.2 (GY x.1 y.1 x.2.2.1 y.2.2.1 rfl rfl▸y.2.2.2) p.2
 | ao k=>exact(oF e).elim λas p=>(sY p.2).elim λbs p'=>(p.1▸x:VW w c h (.ao (.list as)) v).elim λl x=>x.elim λo x=>x.2.2.2.elim λit u=>u.elim λm u=>(p'.1▸y:VW w c' h (.ao (.list bs)) v).elim λl' y=>y.elim λo' y=>y.2.2.2.elim λbG u'=>u'.elim λm' u'=>uQ hf u.2 (GY x.1 y.1 u.1 u'.1 rfl rfl▸u'.2) p'.2
def kV(h:Heap)(k:Nat)(v:Value):Prop:=match k with
 | 0=>v=.none
 | 1=>∃i t,v=.int i t
 | 2=>∃i t,v=.str i t
 | 3=>∃l it,v=.ref l/\h.IsTuple l it
 | 4=>∃i t,v=.bytes i t
 | _=>True
noncomputable def nj:Value->Nat
 | .none=>0
 | .int _ _=>1
 | .str _ _=>2
 | .ref _=>3
 | .bytes _ _=>4
 | _=>5
theorem pB{a:O}{v:Value}(x:VW w c h a v):kV h (kN a) v:=match a,x with
 | .none,x=>x
 | .int i,x=>x.elim λt x=>⟨i,t,x⟩
 | .str i,x=>x.2.elim λt x=>⟨i,t,x⟩
 | .tup _,x=>x.2.elim λl x=>x.elim λit x=>x.elim λm x=>⟨l,it,x.1,_,x.2.2.1,rfl,m,rfl⟩
 | .bytes i,x=>x.2.elim λt x=>⟨_,t,x⟩
 | .bool _,_=>trivial
 | .ao _,_=>trivial
 | .ref _,_=>trivial
theorem DZ{h:Heap}{v:Value}:∀{k:Nat},Nat.blt k 5=true->kV h k v->nj v=k
 | 0,_,x=>congrArg nj x
 | 1,_,x=>x.elim λi x=>x.elim λt x=>congrArg nj x
 | 2,_,x=>x.elim λi x=>x.elim λt x=>congrArg nj x
 | 3,_,x=>x.elim λi x=>x.elim λt x=>congrArg nj x.1
 | 4,_,x=>x.elim λi x=>x.elim λt x=>congrArg nj x
 | _+5,e,_=>nomatch e
theorem xm:∀{i j:Nat},cQ i j=true->Nat.blt i 5=true/\Nat.blt j 5=true:=by
 intro i j e
 unfold cQ at e
 rw[Bool.or_eq_true,Bool.or_eq_true,Bool.and_eq_true,Bool.and_eq_true,Bool.and_eq_true,Nat.blt_eq,Nat.blt_eq,Nat.beq_eq,Nat.beq_eq,Nat.beq_eq,Nat.beq_eq] at e
 rw[Nat.blt_eq,Nat.blt_eq]
 exact e.elim (λe=>e.elim (λe=>⟨Nat.lt_succ_of_lt e.1,Nat.lt_succ_of_lt e.2⟩) λe=>by rw[e.1,e.2];decide) λe=>by rw[e.1,e.2];decide
theorem Bg{n:Nat}{a b:O}{r:Bool}(e:eU (n+1) a b=some r):(Nat.beq (kN a) (kN b)=true/\td (eU n) a b=some r)∨(Nat.beq (kN a) (kN b)=false/\cQ (kN a) (kN b)=true/\r=false):=by
 have e:(bif Nat.beq (kN a) (kN b) then td (eU n) a b else bif cQ (kN a) (kN b) then some false else none)=some r:=e
 cases q:Nat.beq (kN a) (kN b) with
 | true=>rw[q] at e;exact .inl ⟨rfl,e⟩
 | false=>
  rw[q] at e
  cases p:cQ (kN a) (kN b) with
  | true=>rw[p] at e;exact .inr ⟨rfl,rfl,(Option.some.inj e).symm⟩
  | false=>rw[p] at e;cases e
theorem Bi:∀(n:Nat) {a b:O} {v:Value} {r:Bool},VW w c h a v->VW w c' h b v->eU n a b=some r->r=true
 | 0,_,_,_,_,_,_,e=>nomatch e
 | n+1,a,b,v,r,x,y,e=>(Bg e).elim (λp=>GX (Bi n) x y p.2) λp=>nomatch p.1.symm.trans (Nat.beq_eq.mpr ((DZ (xm p.2.1).1 (pB x)).symm.trans (DZ (xm p.2.1).2 (pB y))))
end
section
variable{A:Around}{s:Shared}
def EQ(A:Around)(s:Shared)(u v:Value)(r:Bool):Prop:=EqAt A s u v r/\RcAt A s u v r/\RcNeAt A s u v (!r)
theorem EQ.none(hu:A.units<cLine){v:Value}:∀{j:Nat},Nat.beq 0 j=false->cQ 0 j=true->kV s.heap j v->EQ A s .none v false
 | 0,h,_,_=>nomatch h
 | 1,_,_,x=>x.elim λi x=>x.elim λt x=>x▸⟨EqAt.none_int _ _,RcAt.none_int _ _,RcNeAt.none_int _ _⟩
 | 2,_,_,x=>x.elim λi x=>x.elim λt x=>x▸⟨EqAt.none_str _ _,RcAt.none_str _ _,RcNeAt.none_str _ _⟩
 | 3,_,_,x=>x.elim λi x=>x.elim λt x=>x.1▸⟨EqAt.none_tuple x.2 hu,RcAt.none_tuple x.2 hu,RcNeAt.none_tuple x.2 hu⟩
 | 4,_,_,x=>x.elim λi x=>x.elim λt x=>x▸⟨EqAt.of_rc rfl (λZ Z h=>nomatch h) (RcAt.sE _ _),RcAt.sE _ _,RcNeAt.sE _ _⟩
 | _+5,_,h,_=>nomatch h
theorem EQ.int(hu:A.units<cLine){n:Int}{u:Tok}{v:Value}:∀{j:Nat},Nat.beq 1 j=false->cQ 1 j=true->kV s.heap j v->EQ A s (.int n u) v false
 | 0,_,_,x=>Eq.symm x▸⟨EqAt.int_none _ _,RcAt.int_none _ _,RcNeAt.int_none _ _⟩
 | 1,h,_,_=>nomatch h
 | 2,_,_,x=>x.elim λi x=>x.elim λt x=>x▸⟨EqAt.int_str _ _ _ _,RcAt.int_str _ _ _ _,RcNeAt.int_str _ _ _ _⟩
 | 3,_,_,x=>x.elim λi x=>x.elim λt x=>x.1▸⟨EqAt.int_tuple _ _ x.2 hu,RcAt.int_tuple _ _ x.2 hu,RcNeAt.int_tuple _ _ x.2 hu⟩
 | _+4,_,h,_=>nomatch h
theorem EQ.str(hu:A.units<cLine){n:Str}{u:Tok}{v:Value}:∀{j:Nat},Nat.beq 2 j=false->cQ 2 j=true->kV s.heap j v->EQ A s (.str n u) v false
 | 0,_,_,x=>Eq.symm x▸⟨EqAt.str_none _ _,RcAt.str_none _ _,RcNeAt.str_none _ _⟩
 | 1,_,_,x=>x.elim λi x=>x.elim λt x=>x▸⟨EqAt.str_int _ _ _ _,RcAt.str_int _ _ _ _,RcNeAt.str_int _ _ _ _⟩
 | 2,h,_,_=>nomatch h
 | 3,_,_,x=>x.elim λi x=>x.elim λt x=>x.1▸⟨EqAt.str_tuple _ _ x.2 hu,RcAt.str_tuple _ _ x.2 hu,RcNeAt.str_tuple _ _ x.2 hu⟩
 | _+4,_,h,_=>nomatch h
theorem EQ.tup(hu:A.units<cLine){l:Addr}{it:Array Value}(q:s.heap.IsTuple l it){v:Value}:∀{j:Nat},Nat.beq 3 j=false->cQ 3 j=true->kV s.heap j v->EQ A s (.ref l) v false
 | 0,_,_,x=>Eq.symm x▸⟨EqAt.tuple_none q hu,RcAt.tuple_none q hu,RcNeAt.tuple_none q hu⟩
 | 1,_,_,x=>x.elim λi x=>x.elim λt x=>x▸⟨EqAt.tuple_int _ _ q hu,RcAt.tuple_int _ _ q hu,RcNeAt.tuple_int _ _ q hu⟩
 | 2,_,_,x=>x.elim λi x=>x.elim λt x=>x▸⟨EqAt.tuple_str _ _ q hu,RcAt.tuple_str _ _ q hu,RcNeAt.tuple_str _ _ q hu⟩
 | 3,h,_,_=>nomatch h
 | _+4,_,h,_=>nomatch h
theorem EQ.bytes{b:Array UInt8}{u:Tok}{v:Value}:∀{j:Nat},Nat.beq 4 j=false->cQ 4 j=true->kV s.heap j v->EQ A s (.bytes b u) v false
 | 0,_,_,x=>Eq.symm x▸⟨EqAt.of_rc rfl (λZ Z h=>nomatch h) (RcAt.qI _ _),RcAt.qI _ _,RcNeAt.qI _ _⟩
 | 1,_,h,_=>nomatch h
 | 2,_,h,_=>nomatch h
 | 3,_,h,_=>nomatch h
 | 4,h,_,_=>nomatch h
 | _+5,_,h,_=>nomatch h
theorem EQ.ne(hu:A.units<cLine){u v:Value}{j:Nat}:∀{i:Nat},Nat.beq i j=false->cQ i j=true->kV s.heap i u->kV s.heap j v->EQ A s u v false
 | 0,h,h',x,y=>Eq.symm x▸EQ.none hu h h' y
 | 1,h,h',x,y=>x.elim λi x=>x.elim λt x=>x▸EQ.int hu h h' y
 | 2,h,h',x,y=>x.elim λi x=>x.elim λt x=>x▸EQ.str hu h h' y
 | 3,h,h',x,y=>x.elim λi x=>x.elim λt x=>x.1▸EQ.tup hu x.2 h h' y
 | 4,h,h',x,y=>x.elim λi x=>x.elim λt x=>x▸EQ.bytes h h' y
 | _+5,_,h,_,_=>nomatch (xm h).1
theorem Bj{w:World}{c c':Cf}{f:O->O->Option Bool}(hf:∀{a b:O} {u v:Value} {r:Bool},VW w c s.heap a u->VW w c' s.heap b v->f a b=some r->EQ A.in1 s u v r){as bs:List O}{l m:Array Value}(p:aq w c s.heap as l.toList)(q:aq w c' s.heap bs m.toList)
  (he:∀(j:Nat) a b,as[j]?=some a->bs[j]?=some b->f a b=some (jE f as bs j)) (j:Nat) (h1:j<l.size) (h2:j<m.size):EqAt A.in1 s l[j] m[j] (jE f as bs j):=
 have ha:=List.getElem?_eq_getElem (l:=as) (i:=j) (p.size▸h1)
 have I:=List.getElem?_eq_getElem (l:=bs) (i:=j) (q.size▸h2)
 (hf (p.get.2 j _ _ ha (List.getElem?_eq_getElem h1)).vw (q.get.2 j _ _ I (List.getElem?_eq_getElem h2)).vw (he j _ _ ha I)).1
theorem qX{w:World}{c c':Cf}:∀(n:Nat) {A:Around} {a b:O} {u v:Value} {r:Bool},A.units+n<cLine->VW w c s.heap a u->VW w c' s.heap b v->eU n a b=some r->EQ A s u v r
 | 0,_,_,_,_,_,_,_,_,_,e=>nomatch e
 | n+1,A,a,b,u,v,r,hu,x,y,e=>by
  have lh:A.units<cLine:=Nat.lt_of_le_of_lt (Nat.le_add_right _ _) hu
  refine(Bg e).elim (λp=>?_) λp=>p.2.2▸EQ.ne lh p.1 p.2.1 (pB x) (pB y)
  have ih:∀{a b:O} {u v:Value} {r:Bool},VW w c s.heap a u->VW w c' s.heap b v->eU n a b=some r->EQ A.in1 s u v r:=qX n (by show A.units+1+n<cLine;rw[Nat.add_assoc,Nat.add_comm 1];exact hu)
  have one:=λ(z:u=v)=>GX (Bi n) (z▸x:VW w c s.heap a v) y p.2
  have two:∀{l l':Addr},u=.ref l->v=.ref l'->RcAt A s u v r->RcNeAt A s u v (!r)->EQ A s u v r:=λ{l l'} e e' R N=>by
   refine⟨?_,R,N⟩
   by_cases z:l=l'
   .have z:u=v:=e.trans ((congrArg Value.ref z).trans e'.symm)
    rw[one z,z];exact EqAt.same _
   .subst e e';exact EqAt.of_refs z R
  have e:=p.2
  cases a with
  | none=>
   have q:kV s.heap 0 v:=(Nat.eq_of_beq_eq_true p.1:0=kN b)▸pB y
   exact Eq.symm x▸Eq.symm q▸Option.some.inj e▸⟨EqAt.same _,RcAt.none_none,RcNeAt.none_none⟩
  | ref _=>cases e
  | int i=>exact(sX e).elim λj p=>x.elim λt x=>(p.1▸y:VW w c' s.heap (.int j) v).elim λt' y=>x▸y▸Option.some.inj p.2▸⟨EqAt.int_int _ _ _ _,RcAt.int_int _ _ _ _,RcNeAt.int_int _ _ _ _⟩
  | str i=>exact(xI e).elim λj p=>x.2.elim λt x=>(p.1▸y:VW w c' s.heap (.str j) v).2.elim λt' y=>x▸y▸Option.some.inj p.2▸⟨EqAt.str_str _ _ _ _,RcAt.str_str _ _ _ _,RcNeAt.str_str _ _ _ _⟩
  | bool i=>exact(Gi e).elim λj p=>Eq.symm x▸Eq.symm (p.1▸y:VW w c' s.heap (.bool j) v)▸Option.some.inj p.2▸⟨EqAt.bool_bool _ _,RcAt.bool_bool _ _,RcNeAt.bool_bool _ _⟩
  | bytes i=>exact(xH e).elim λj p=>x.2.elim λt x=>(p.1▸y:VW w c' s.heap (.bytes j) v).2.elim λt' y=>x▸y▸Option.some.inj p.2▸⟨EqAt.mH _ t _ t',RcAt.mH _ t _ t',RcNeAt.mH _ t _ t'⟩
  | tup as=>
   exact(sZ e).elim λbs p=>x.2.elim λl x=>x.elim λit x=>x.elim λm x=>(p.1▸y:VW w c' s.heap (.tup bs) v).2.elim λl' y=>y.elim λbG y=>y.elim λm' y=>by
    have g:=uP p.2
    have ah:=Bj ih x.2.2.2 y.2.2.2 g.1
    have z:((List.range (min it.size bG.size)).all (jE (eU n) as bs)&&it.size==bG.size)=r:=by rw[x.2.2.2.size,y.2.2.2.size];exact g.2.symm
    have Y:s.heap.IsTuple l it:=⟨_,x.2.2.1,rfl,m,rfl⟩
    have c4:s.heap.IsTuple l' bG:=⟨_,y.2.2.1,rfl,m',rfl⟩
    refine two x.1 y.1 ?_ ?_
    .rw[x.1,y.1];exact z▸RcAt.tuples Y c4 lh ah
    .rw[x.1,y.1];exact z▸RcNeAt.tuples Y c4 lh ah
  | ao k=>
   exact(oF e).elim λas p=>(sY p.2).elim λbs p'=>(p.1▸x:VW w c s.heap (.ao (.list as)) u).elim λl x=>x.elim λo x=>x.2.2.2.elim λit q=>q.elim λm q=>(p'.1▸y:VW w c' s.heap (.ao (.list bs)) v).elim λl' y=>y.elim λo' y=>y.2.2.2.elim λbG q'=>q'.elim λm' q'=>by
    have g:=uP p'.2
    have ah:=Bj ih q.2 q'.2 g.1
    have z:((List.range (min it.size bG.size)).all (jE (eU n) as bs)&&it.size==bG.size)=r:=by rw[q.2.size,q'.2.size];exact g.2.symm
    have Y:s.heap.IsList l it:=⟨_,q.1,rfl,m,rfl⟩
    have c4:s.heap.IsList l' bG:=⟨_,q'.1,rfl,m',rfl⟩
    by_cases hs:it.size=bG.size
    .have z:(List.range it.size).all (jE (eU n) as bs)=r:=by rw[←z,←hs,Nat.min_self,beq_self_eq_true,Bool.and_true]
     refine two x.1 y.1 ?_ ?_
     .rw[x.1,y.1];exact z▸RcAt.lists Y c4 hs lh ah
     .rw[x.1,y.1];exact z▸RcNeAt.lists Y c4 hs lh ah
    .have z:false=r:=by rw[←z,beq_eq_false_iff_ne.mpr hs,Bool.and_false]
     refine two x.1 y.1 ?_ ?_
     .rw[x.1,y.1];exact z▸RcAt.lists_lengths Y c4 (bne_iff_ne.mpr hs) lh
     .rw[x.1,y.1];exact z▸RcNeAt.lists_lengths Y c4 (bne_iff_ne.mpr hs) lh
end
end
theorem Jb:ax<=16777216:=by decide
theorem qs:ax<=sizeLine:=by decide
theorem Js(x:Int)(h:0<=x):Builtin.bitAnd x 15=x % 16:=by
 obtain⟨n,rfl⟩:=Int.eq_ofNat_of_zero_le h
 have h15:decide ((0:Int)<=15)=true:=by decide
 have hn:decide ((0:Int)<=(n:Int))=true:=by simp
 unfold Builtin.bitAnd
 rw[hn,h15]
 show((n&&& 15:Nat):Int)=_
 have:n&&& 15=n % 16:=Nat.and_two_pow_sub_one_eq_mod n 4
 rw[this];lia
theorem U9{x:Int}(h:small x=true):Builtin.Int.intBits x<=64:=by
 unfold small at h
 have h':x.natAbs<2 ^ 62:=by simpa using h
 exact intBits_le_64 (by omega) (by omega)
theorem foldl_rep(n:Nat)(x:Value):(List.foldl (λx1 x2=>x1++x2) #[] (List.replicate n #[x])).toList=List.replicate n x:=by
 have:∀(n:Nat) (acc:Array Value),(List.foldl (λx1 x2=>x1++x2) acc (List.replicate n #[x])).toList=acc.toList++List.replicate n x:=by
  intro n
  induction n with
  | zero=>intro acc;simp
  | succ n ih=>intro acc;rw[List.replicate_succ,List.foldl_cons,ih];simp[List.replicate_succ]
 simpa using this n #[]
theorem Xu(x y:Str):(x++y).length=x.length+y.length:=by
 show(Str.append x y).length=_
 simp[Str.append,Str.length]
theorem bX{n:Nat}(h:n<=ax):n<=sizeLine:=Nat.le_trans h qs
theorem iD{n:Nat}(h:n<=ax):(n:Int)<2 ^ 63:=Int.lt_of_le_of_lt (Int.ofNat_le.mpr h) (by decide)
theorem y8{n:Nat}(h:n<=ax):n<=1099511627776:=Nat.le_trans h (by decide)
theorem aq.rep{w:World}{c:Cf}{h:Heap}{v:O}{u:Value}(x:VR w c h v u):∀n,aq w c h (List.replicate n v) (List.replicate n u)
 | 0=>rfl
 | n+1=>.mk x (aq.rep x n)
section
variable{prog:Program}{w:World}{c:Cf}{A:Around}{E:Value->Shared->Prop}{s:Shared}{a b:O}{u v:Value}{r:ER}
theorem aq.cat{as bs:List O}{it bG:Array Value}{h:Heap}(x:aq w c h as it.toList)(y:aq w c h bs bG.toList):aq w c h (as++bs) (it++bG).toList:=(Array.toList_append (xs:=it) (ys:=bG)).symm▸x.append y
theorem ux{α:Type}{x y:List α}{n:Nat}(h:x.length+y.length<=n):(x++y).length<=n:=List.length_append▸h
theorem Im{as bs:List O}{it bG:Array Value}{h:Heap}(x:aq w c h as it.toList)(y:aq w c h bs bG.toList)(l:as.length+bs.length<=ax):it.size+bG.size<=sizeLine:=bX (x.size▸y.size▸l)
theorem aq.E6{as:List O}{it:Array Value}{h:Heap}(x:aq w c h as it.toList)(e:it.isEmpty=true):as=[]:=List.eq_nil_of_length_eq_zero (x.size.symm.trans (congrArg Array.size (Array.isEmpty_iff.1 e)))
theorem Jn(hf:Fr c s.heap)(x:VW w c s.heap a u)(y:VW w c s.heap b v)(e:zl a b=some r):wpAny (model prog w) A (binaryOp .Add u v) (aE w c s r) E s:=by
 cases a with
 | int i=>exact VW.int x λt=>VW.rI y e λj t' e=>Option.some.inj e▸add_int (.int _ _ _)
 | bytes i=>exact VW.bytes x λZ t=>VW.rB y e λj t' Z e=>Option.some.inj (bh e).2▸KBy.add_bytes (Nat.le_trans (bh e).1 Jb) λtE k=>.bytes (ux (bh e).1) (by simp) tE k
 | str i=>exact VW.str x λZ t=>VW.rS y e λj t' Z e=>Option.some.inj (bh e).2▸add_str (λtE k=>.str (Xu _ _▸(bh e).1) tE k) (Nat.le_trans (bh e).1 qs)
 | tup as=>
  refine VW.tup x λl it m Z hx ho hv=>VW.rT y e λbs l' bG m' Z aU cH dG e=>Option.some.inj (bh e).2▸?_
  have k:=(bh e).1
  by_cases h0:it.isEmpty=true
  .refine concat_meets ⟨_,ho,rfl⟩ ⟨_,cH,rfl⟩ noFill_tuple_add seq_tuple_add PySem.F.slot_tuple_add PySem.F.entry_tuple_add (PySem.F.args_tuple_add_2 _ _) (tuple_addW0 l l' it bG m m' _ _ _ _ h0) ⟨ho,cH,.val ?_⟩
   exact hv.E6 h0▸⟨Nat.le_trans (Nat.le_add_left _ _) k,l',bG,m',rfl,aU,cH,dG⟩
  .by_cases h1:bG.isEmpty=true
   .refine concat_meets ⟨_,ho,rfl⟩ ⟨_,cH,rfl⟩ noFill_tuple_add seq_tuple_add PySem.F.slot_tuple_add PySem.F.entry_tuple_add (PySem.F.args_tuple_add_2 _ _) (tuple_addW1 l l' it bG m m' _ _ _ _ h0 h1) ⟨ho,cH,.val ?_⟩
    exact dG.E6 h1▸(List.append_nil as).symm▸⟨Nat.le_trans (Nat.le_add_right _ _) k,l,it,m,rfl,hx,ho,hv⟩
   .exact concat_meets ⟨_,ho,rfl⟩ ⟨_,cH,rfl⟩ noFill_tuple_add seq_tuple_add PySem.F.slot_tuple_add PySem.F.entry_tuple_add (PySem.F.args_tuple_add_2 _ _) (tuple_addW2 l l' it bG m m' _ _ _ _ h0 h1 (Im hv dG k)) ⟨ho,cH,aE.tup hf (hv.cat dG) (ux k)⟩
 | ao k=>
  refine VW.cL x e λas l it m Z ho hv e=>VW.rL y e λbs l' bG m' Z cH dG e=>Option.some.inj (bh e).2▸?_
  exact concat_meets ⟨_,ho,rfl⟩ ⟨_,cH,rfl⟩ noFill_list_add seq_list_add PySem.F.slot_list_add PySem.F.entry_list_add (PySem.F.args_list_add_2 _ _) (list_addW l l' it bG m m' _ _ _ _ (Im hv dG (bh e).1)) ⟨ho,cH,aE.list (hv.cat dG) (ux (bh e).1)⟩
 | _=>exact nomatch e
theorem Qv(x:VW w c s.heap a u)(y:VW w c s.heap b v)(e:E7 a b=some r):wpAny (model prog w) A (binaryOp .Mult u v) (aE w c s r) E s:=by
 cases a with
 | int i=>exact VW.int x λt=>VW.rI y e λj t' e=>Option.some.inj (bh e).2▸mul_int (.int _ _ _) (.of_left (U9 (Bool.and_eq_true_iff.mp (bh e).1).1))
 | ao k=>
  refine VW.cL x e λas l it m Z ho hv e=>(Gf e).elim λx0 q=>VW.rI y q.2 λn t e=>Option.some.inj (bh e).2▸?_
  have hv:aq w c s.heap [x0] it.toList:=q.1▸hv
  have hs:=(bh e).1
  rw[Bool.and_eq_true,decide_eq_true_eq,decide_eq_true_eq] at hs
  refine hv.elim λz hc=>hc.elim λq hc=>?_
  have hit:it=#[z]:=Array.ext' (hc.1.trans (congrArg (List.cons z) hc.2.2))
  subst hit
  have hn:(n.toNat:Int)=n:=Int.toNat_of_nonneg hs.1
  have hL:ax=1000000:=rfl
  refine wpAny_binaryOp_repeat_ref (T:="list") (U:="int") (by decide) ⟨_,ho,rfl⟩ (λs'=>typeIs_int s' n t) noFill_list_mul F.fills_int_mul F.slot_int_rmul repeat_list F.slot_int_index.lookup
   (call_meets F.slot_int_rmul (typeIs_int s n t) F.entry_int_rmul (F.args_int_rmul_2 _ _) (int___rmul___int_list n t l #[z] m)
    ⟨ho,rfl,⟨_,ho,rfl⟩,call_meets F.slot_list_mul ⟨_,ho,rfl⟩ F.entry_list_mul (F.args_list_mul_2 _ _)
     (AutoListH.list___mul___list_int_3 l #[z] m n t (by simp[Builtin.List.listFitsIndex];lia) (by have hz:(#[z]:Array Value).size=1:=rfl;rw[hz];lia) (by simp[Builtin.List.listTooLong,sizeLine];try lia))
     ⟨ho,?_⟩⟩)
  exact aE.list (vs:=List.replicate n.toNat x0) ((foldl_rep n.toNat z).symm▸aq.rep hc.2.1 _) (by rw[List.length_replicate];lia)
 | _=>exact nomatch e
theorem O9{op:Operator}{i j n:Int}{t t':Tok}(e:wz op i j=some n):wpAny (model prog w) A (binaryOp op (.int i t) (.int j t')) (aE w c s (.val (.int n))) E s:=by
 cases op with
 | Sub=>exact Option.some.inj e▸sub_int (.int _ _ _)
 | FloorDiv=>
  have h:=(bh e).1
  exact Option.some.inj (bh e).2▸floordiv_int (Int.ne_of_gt h.1) (Int.fdiv_eq_ediv_of_nonneg _ (Int.le_of_lt h.1)▸.int _ _ _) (.inl (PyProof.noPylong_small (by omega)))
 | Mod=>
  have h:=(bh e).1
  exact Option.some.inj (bh e).2▸mod_int' (Int.ne_of_gt h) (Int.fmod_eq_emod_of_nonneg _ (Int.le_of_lt h)▸.int _ _ _)
 | Pow=>
  have e:(if (i=10&&j=9)=true then some (1000000000:Int) else none)=some n:=e
  have h:=Bool.and_eq_true_iff.mp (bh e).1
  have z:=Option.some.inj (bh e).2
  clear e
  have h1:=of_decide_eq_true h.1;have h2:=of_decide_eq_true h.2
  subst h1 h2
  exact z▸pow_int (by decide) (by decide+kernel) (.int _ _ _)
 | RShift=>
  have h:=(bh e).1
  have z:=Option.some.inj (bh e).2
  clear e
  subst h
  refine z▸rshift_int (by decide) ?_
  rw[show((2:Int) ^ (4:Int).toNat)=16 from rfl,Int.fdiv_eq_ediv_of_nonneg _ (by decide)]
  exact .int _ _ _
 | BitAnd=>
  have h:=Bool.and_eq_true_iff.mp (bh e).1
  have z:=Option.some.inj (bh e).2
  clear e
  have h1:=of_decide_eq_true h.1
  subst h1
  exact z▸and_int (Js _ (of_decide_eq_true h.2)▸.int _ _ _)
 | _=>exact nomatch e
theorem zP(hf:Fr c s.heap){op:Operator}(x:VW w c s.heap a u)(y:VW w c s.heap b v)(e:iF op a b=some r):wpAny (model prog w) A (binaryOp op u v) (aE w c s r) E s:=by
 have go:((rI a λx=>rI b λy=>(wz op x y).map λn=>ER.val (.int n))=some r)->wpAny (model prog w) A (binaryOp op u v) (aE w c s r) E s:=λe=>
  VW.rI x e λi t e=>VW.rI y e λj t' e=>(Option.map_eq_some_iff.mp e).elim λn p=>p.2▸O9 p.1
 cases op with
 | Add=>exact Jn hf x y e
 | Mult=>exact Qv x y e
 | _=>exact go e
theorem zY{α:Type}{n:Nat}{l:List α}(z:n=l.length):(decide (n=0)).not=(l.length != 0):=z▸rfl
theorem tK{b:Bool}{Q:Bool->Shared->Prop}(x:VW w c s.heap a v)(e:gX a=some b)(h:∀tk,Q b {s with toks:=tk}):wpAny (model prog w) A (truthy v) Q E s:=by
 cases a with
 | none=>cases e;exact VW.none x λZ Z Z=>h s.toks
 | bool i=>exact VW.bool x (wpAny_truthy_bool ((Option.some.inj e).symm▸h s.toks))
 | int i=>exact VW.int x λt=>truthy_int ((Option.some.inj e).symm▸h s.toks)
 | str y=>exact VW.str x λY t=>P.truthy_str (Int.not_le.mpr (iD Y)) ((show((y.length:Int) != 0)=b from(by rw[←Option.some.inj e];exact Bool.eq_iff_iff.mpr (by rw[bne_iff_ne,bne_iff_ne];exact not_congr Int.natCast_eq_zero)))▸h _)
 | bytes y=>exact VW.bytes x λY t=>truthy_bytes (y8 Y) ((show((y.toArray.size:Int) != 0)=b from(by rw[←Option.some.inj e];exact Bool.eq_iff_iff.mpr (by rw[bne_iff_ne,bne_iff_ne];exact not_congr Int.natCast_eq_zero)))▸h _)
 | tup y=>exact VW.tup x λl it m Y Z ho hv=>truthy_tuple ⟨_,ho,rfl,m,rfl⟩ (iD (hv.size▸Y)) ((show(!it.isEmpty)=b from(zY hv.size).trans (Option.some.inj e))▸h _)
 | ao k=>cases k with
  | list y=>exact VW.list x λl it m Y ho hv=>wpAny_truthy_list ⟨_,ho,rfl,m,rfl⟩ (iD (hv.size▸Y)) ((show(!it.isEmpty)=b from(zY hv.size).trans (Option.some.inj e))▸h _)
  | dict y=>
   refine VW.dict x λl it m hs Y hn ho hv=>wpAny_truthy_dict hs (eP (prog:=prog) ho hn hv) (iD (iB hv▸Y)) ?_
   have:(!(dh y it.toList).isEmpty)=b:=by
    rw[←Option.some.inj e,←iB hv]
    cases dh y it.toList<;>rfl
   exact this▸h _
  | inst _ _=>exact nomatch e
 | ref _=>exact nomatch e
end
section
variable{prog:Program}{w:World}{c c':Cf}{A:Around}{E:Value->Shared->Prop}{s:Shared}{a b:O}{u v:Value}{h:Heap}
theorem Jt{x y:O}{q:List O}{r:Bool}(e:gv x (y::q)=some r):∃a b,dU y x=some a/\gv x q=some b/\r=(a||b):=by
 have e:(match dU y x,gv x q with | some a,some b=>some (a||b) | _,_=>none)=some r:=e
 cases hx:dU y x with
 | none=>rw[hx] at e;cases e
 | some a=>rw[hx] at e;cases hy:gv x q with
  | none=>rw[hy] at e;cases e
  | some b=>rw[hy] at e;exact⟨a,b,rfl,rfl,(Option.some.inj e).symm⟩
open Classical in
theorem zx{x:O}{vx:Value}(hu:A.units+8<cLine)(hx:VW w c' s.heap x vx):∀{l:List O} {cs:List Value} {r:Bool},aq w c s.heap l cs->gv x l=some r->
  (∀y∈cs,∃b,EqAt A.in1 s y vx b)/\(r=true->∃y∈cs,EqAt A.in1 s y vx true)/\(r=false->∀y∈cs,EqAt A.in1 s y vx false)
 | [],cs,r,hv,e=>aq.nil hv ⟨λZ m=>(nomatch m),λq=>(nomatch (Option.some.inj e).trans q),λZ Z m=>(nomatch m)⟩
 | a::l,cs,r,hv,e=>aq.cons hv λy q ha hr=>(Jt e).elim λb p=>p.elim λd p=>by
  have ih:=zx hu hx hr p.2.1
  have k:EqAt A.in1 s y vx b:=(qX 6 (by show A.units+1+6<cLine;exact Nat.le_of_lt (by assumption)) ha.vw hx p.1).1
  refine⟨λz hz=>(List.mem_cons.mp hz).elim (λhz=>⟨b,hz▸k⟩) (ih.1 z),λhq=>?_,λhq z hz=>?_⟩
  .rw[p.2.2,Bool.or_eq_true] at hq
   exact hq.elim (λz=>⟨y,.head _,z▸k⟩) λz=>(ih.2.1 z).imp λZ q=>⟨.tail _ q.1,q.2⟩
  .rw[p.2.2,Bool.or_eq_false_iff] at hq
   exact(List.mem_cons.mp hz).elim (λhz=>hz▸hq.1▸k) (ih.2.2 hq.2 z)
open Classical in
theorem zu{x:O}{vx:Value}(hu:A.units+8<cLine)(hx:VW w c' s.heap x vx){l:List O}{it:Array Value}{r:Bool}(hv:aq w c s.heap l it.toList)(e:gv x l=some r):∃f:Value->Bool,(∀y∈it,EqAt A.in1 s y vx (f y))/\it.any f=r:=by
 have k:=zx hu hx hv e
 refine⟨λy=>decide (r=true/\EqAt A.in1 s y vx true),λy hy=>?_,?_⟩
 .by_cases q:r=true/\EqAt A.in1 s y vx true
  .dsimp only;rw[decide_eq_true q];exact q.2
  .dsimp only;rw[decide_eq_false q]
   have hy:=Array.mem_toList_iff.mpr hy
   cases r with
   | false=>exact k.2.2 rfl y hy
   | true=>
    refine(k.1 y hy).elim λb z=>?_
    cases b with
    | true=>exact absurd ⟨rfl,z⟩ q
    | false=>exact z
 .rw[←Array.any_toList]
  cases r with
  | true=>exact(k.2.1 rfl).elim λy z=>List.any_eq_true.mpr ⟨y,z.1,decide_eq_true ⟨rfl,z.2⟩⟩
  | false=>exact List.any_eq_false.mpr λy Z z=>nomatch (of_decide_eq_true z).1
theorem lA{x:O}{k:Key}(hx:VW w c h x v)(e:keyOf x=some k):(keyKind prog w).is k v=true:=by
 cases x with
 | int n=>exact Option.some.inj e▸VW.int hx λt=>beq_self_eq_true n
 | str n=>exact Option.some.inj e▸VW.str hx λZ t=>beq_self_eq_true n
 | _=>cases e
theorem KQ{k k':Key}{a:O}{r:List (Key×O)}(q:k'≠k):bt ((k',a)::r) k=bt r k:=by
 unfold bt;rw[List.find?_cons_of_neg (by simpa using q)]
theorem Yq{k k':Key}{a:Value}{r:List (Key×Value)}(q:k'≠k):valueAt ((k',a)::r) k=valueAt r k:=by
 unfold valueAt;rw[List.find?_cons_of_neg (by simpa using q)]
theorem KP{k:Key}{a:O}{r:List (Key×O)}:bt ((k,a)::r) k=some a:=by
 unfold bt;rw[List.find?_cons_of_pos (by simp)];rfl
theorem Yp{k:Key}{a:Value}{r:List (Key×Value)}:valueAt ((k,a)::r) k=some a:=by
 unfold valueAt;rw[List.find?_cons_of_pos (by simp)];rfl
def OV(w:World)(c:Cf)(h:Heap)(o:Option O)(p:Option Value):Prop:=match o with
 | some v=>∃u,p=some u/\VR w c h v u
 | none=>p=none
theorem tN:∀{es:List (Key×O)} {ds:List DictEntry} (k:Key),bC w c h es ds->OV w c h (bt es k) (valueAt (dh es ds) k)
 | [],_,_,_=>rfl
 | (k',a)::r,ds,k,x=>by
  refine bC.cons (P:=λds=>OV w c h _ (valueAt (dh _ ds) k)) x λd q Z hv hr=>?_
  by_cases z:k'=k
  .subst z;rw[KP];exact⟨d.val,Yp,hv⟩
  .rw[KQ z];exact(Yq z (a:=d.val)).symm▸tN k hr
theorem jC(es:List (Key×O))(k:Key):cg es k=(bt es k).isSome:=by
 unfold cg bt;rw[Option.isSome_map,List.isSome_find?]
theorem OV.wG{o:Option O}{p:Option Value}(x:OV w c h o p):p.isSome=o.isSome:=match o,x with
 | some _,x=>x.elim λZ q=>congrArg Option.isSome q.1
 | none,x=>congrArg Option.isSome x
theorem DH(hu:A.units+8<cLine){r:Bool}(x:VW w c s.heap a u)(y:VW w c s.heap b v)(e:wt a b=some r):(∀{Q:Value->Shared->Prop},(∀tk,Q (.bool r) {s with toks:=tk})->wpAny (model prog w) A (compareOp .In u v) Q E s)/\
   (∀{Q:Value->Shared->Prop},(∀tk,Q (.bool (!r)) {s with toks:=tk})->wpAny (model prog w) A (compareOp .NotIn u v) Q E s):=by
 cases b with
 | tup vs=>exact VW.tup y λl it m Z Z ho hv=>(zu hu x hv e).elim λf p=>⟨λq=>in_tupleAt f ⟨_,ho,rfl,m,rfl⟩ p.1 (p.2.symm▸q s.toks),λq=>notIn_tupleAt f ⟨_,ho,rfl,m,rfl⟩ p.1 (p.2.symm▸q s.toks)⟩
 | ao k=>cases k with
  | list vs=>exact VW.list y λl it m Z ho hv=>(zu hu x hv e).elim λf p=>⟨λq=>in_listAt f ⟨_,ho,rfl,m,rfl⟩ p.1 (p.2.symm▸q s.toks),λq=>notIn_listAt f ⟨_,ho,rfl,m,rfl⟩ p.1 (p.2.symm▸q s.toks)⟩
  | dict es=>
   exact(Option.map_eq_some_iff.mp e).elim λk p=>VW.dict y λl it m hs Z hn ho hv=>by
    have hz:(valueAt (dh es it.toList) k).isSome=r:=(tN k hv).wG.trans ((jC es k).symm.trans p.2)
    have D:=(eP (prog:=prog) ho hn hv).mapOf
    exact⟨λq=>wpAny_in_of (lA x p.1) hs D (hz.symm▸q _),λq=>wpAny_notIn_of (lA x p.1) hs D (hz.symm▸q _)⟩
  | inst _ _=>exact nomatch e
 | _=>exact nomatch e
theorem IB{l:List DictEntry}:dh [] l=[]:=rfl
theorem RY(hu:A.units+8<cLine){r:Bool}{Q:Value->Shared->Prop}(x:VW w c s.heap a u)(y:VW w c s.heap b v)(e:w6 a b=some r)(h:Q (.bool r) s):wpAny (model prog w) A (compareOp .NotEq u v) Q E s:=by
 have go:(dU a b).map not=some r->wpAny (model prog w) A (compareOp .NotEq u v) Q E s:=λe=>(Option.map_eq_some_iff.mp e).elim λr' p=>(qX 6 (by lia) x y p.1).2.2 prog w E Q (p.2.symm▸h)
 cases a with
 | ao k=>cases k with
  | dict es=>
   refine VW.dict x λl it m hs Y hn ho hv=>VW.rD y e λuT l' bG m' pf Z dk cH dG e=>?_
   cases uT with
   | cons _ _=>cases e
   | nil=>
    refine keq_ne (r:=true) hs pf (eP (prog:=prog) ho hn hv) (eP (prog:=prog) cH dk dG) (by lia) (λz=>?_) ?_
    .rw[IB] at z;rw[List.eq_nil_of_length_eq_zero z];exact .nil
    .rw[IB,iB hv]
     cases es with
     | nil=>exact(Option.some.inj e).symm▸h
     | cons _ _=>exact(Option.some.inj e).symm▸h
  | list _=>exact go e
  | inst _ _=>exact go e
 | _=>exact go e
theorem sO{f:Int->Int->Bool}{op:CmpOp}{r:Bool}{Q:Value->Shared->Prop}(x:VW w c s.heap a u)(y:VW w c s.heap b v)(e:pS f a b=some r)(h:Q (.bool r) s)(k:∀{i j t t'},Q (.bool (f i j)) s->wpAny (model prog w) A (compareOp op (.int i t) (.int j t')) Q E s):wpAny (model prog w) A (compareOp op u v) Q E s:=
 VW.rI x e λi t e=>VW.rI y e λj t' e=>k ((Option.some.inj e).symm▸h)
theorem KC(hu:A.units+8<cLine){op:CmpOp}{r:Bool}{Q:Value->Shared->Prop}(x:VW w c s.heap a u)(y:VW w c s.heap b v)(e:cz op a b=some r)(h:∀tk,Q (.bool r) {s with toks:=tk}):wpAny (model prog w) A (compareOp op u v) Q E s:=by
 cases op with
 | Eq=>exact(qX 6 (by lia) x y e).2.1 prog w E Q (h s.toks)
 | NotEq=>exact RY hu x y e (h s.toks)
 | In=>exact(DH hu x y e).1 h
 | NotIn=>exact(Option.map_eq_some_iff.mp e).elim λr' p=>(DH hu x y p.1).2 (p.2.symm▸h)
 | Lt=>exact sO x y e (h s.toks) lt_int
 | LtE=>exact sO x y e (h s.toks) le_int
 | Gt=>exact sO x y e (h s.toks) gt_int
 | GtE=>exact sO x y e (h s.toks) ge_int
 | _=>exact nomatch e
end
end Mine.Internal
namespace Mine.Internal
set_option backward.match.sparseCases true
open PySem PySem.Calls PyProof.Rows PySem.W
section
variable(J:Om)
structure eN(f:St->KE->Prop)(x:Expr):Prop where
 run:∀{φ:Fm} {rs:List ER} {vs:List Value} {st:St} {s:Shared} {K:KE} {Q:Value->Shared->Prop},
 At J φ rs vs st s->f st K->(∀r st' v s',K r st'->At J φ (r::rs) (v::vs) st' s'->Q v s')->wpAny J.M φ.A (eval x φ.env) Q φ.E s
structure zh(f:St->KT->Prop)(x:Expr):Prop where
 run:∀{φ:Fm} {rs:List ER} {vs:List Value} {st:St} {s:Shared} {K:KT} {Q:Bool->Shared->Prop},
 At J φ rs vs st s->f st K->(∀b st' s',K b st'->At J φ rs vs st' s'->Q b s')->wpAny J.M φ.A (isTrue x φ.env (eval x φ.env)) Q φ.E s
structure aB(m:ME)(x:Expr):Prop where
 e:eN J (wE tab (F J.k) m).1 x
 t:zh J (wE tab (F J.k) m).2 x
end
structure Cx(J:Om)(A:Around)(c:Cf)(s:Shared):Prop where
 hd:A.handled=none
 un:A.units<=2000
 fr:Fr c s.heap
 base:Sub J.B s.heap
theorem Kk{n:Nat}(h:n<=2000):n+8<cLine:=Nat.lt_of_le_of_lt (Nat.add_le_add_right h 8) (by decide)
theorem r7{w:World}{c:Cf}{h:Heap}{a:O}{v:Value}(x:VW w c h a v):(v==Value.none)=isNone a:=by
 cases a with
 | none=>exact VW.none x rfl
 | bool b=>exact VW.bool x rfl
 | int i=>exact VW.int x λZ=>rfl
 | str i=>exact VW.str x λZ Z=>rfl
 | bytes i=>exact VW.bytes x λZ Z=>rfl
 | tup _=>exact VW.tup x λZ Z Z Z Z Z Z=>rfl
 | ao k=>exact x.elim λa x=>x.elim λo x=>x.1▸rfl
 | ref _=>exact VW.ref x λZ Z=>rfl
section
variable{J:Om}{φ:Fm}{c:Cf}{rs:List ER}{vs:List Value}{st:St}{s:Shared}{x y z:Expr}{f g:St->KE->Prop}{pos:Pos}
theorem aF.cx(a:aF J φ c rs vs st s):Cx J φ.A c s:=⟨a.ok.rm.1,Nat.le_trans (Nat.le_add_right _ _) a.ok.rm.2.2,a.gd.fr,a.gd.base⟩
theorem eN.test(h:eN J f x)(hx:∀env (whole:Sem Value),isTrue x env whole=(do let v ←whole;standAt x.pos;holding [v] (truthy v))):zh J (kv f) x:=⟨λP e q=>
 wpAny_isTrue_value (h.run P e λr st' v s' e P=>P.v1 e λc a e y z=>aM e λb e k=>tK y e λtk=>q b st' _ k (At.tok ⟨c,z⟩ tk)) (hx _ _)⟩
theorem aB.val{e:ME}(h:eN J (wE tab (F J.k) e).1 x)(hx:∀env (whole:Sem Value),isTrue x env whole=(do let v ←whole;standAt x.pos;holding [v] (truthy v)))(h2:(wE tab (F J.k) e).2=kv (wE tab (F J.k) e).1:=by rfl):aB J e x:=⟨h,h2▸h.test hx⟩
theorem eN.SU{X:Expr}{o:O->Option ER}{m:Value->Sem Value}(h:eN J f x)(sh:∀{A:Around} {Q:Value->Shared->Prop} {E:Value->Shared->Prop} {s:Shared} {env:Env},wpAny J.M A (eval x env) (λv aJ=>wpAny J.M A (m v) Q E aJ) E s->wpAny J.M A (eval X env) Q E s)
  (rule:∀{A:Around} {E:Value->Shared->Prop} {c:Cf} {s:Shared} {a:O} {v:Value} {r:ER},Cx J A c s->VW J.w c s.heap a v->o a=some r->wpAny J.M A (m v) (aE J.w c s r) E s):eN J (λst Q=>f st λx st=>OK (view x st) λv=>OK (o v) λr=>Q r st) X:=⟨λP e q=>
 sh (h.run P e λr st' v s' e P=>P.v1 e λc a e y z=>aM e λr e k=>wpAny_mono (rule z.cx y e) (λv s' p=>q r st' v s' k (z.op p)) λZ Z y=>y)⟩
theorem eN.SW{X:Expr}{o:O->O->Option ER}{m:Value->Value->Sem Value}(h:eN J f x)(h':eN J g y)(sh:∀{A:Around} {Q:Value->Shared->Prop} {E:Value->Shared->Prop} {s:Shared} {env:Env},wpAny J.M A (eval x env) (λv aJ=>wpAny J.M A (eval y env) (λu aA=>wpAny J.M A (m v u) Q E aA) E aJ) E s->wpAny J.M A (eval X env) Q E s)
  (rule:∀{A:Around} {E:Value->Shared->Prop} {c:Cf} {s:Shared} {a b:O} {v u:Value} {r:ER},Cx J A c s->VW J.w c s.heap a v->VW J.w c s.heap b u->o a b=some r->wpAny J.M A (m v u) (aE J.w c s r) E s) :
  eN J (λst Q=>f st λx st=>g st λy st=>OK (view x st) λv=>OK (view y st) λu=>OK (o v u) λr=>Q r st) X:=⟨λP e q=>
 sh (h.run P e λZ Z Z Z e P=>h'.run P e λr st' v s' e P=>P.v2 e λc a b e y y' z=>aM e λr e k=>wpAny_mono (rule z.cx y y' e) (λv s' p=>q r st' v s' k (z.op p)) λZ Z y=>y)⟩
theorem VV{j}:aB J .bz (.Constant .none j pos):=.val ⟨λP e q=>wpAny_Constant_none (q _ _ _ _ e (P.gL (a:=.none) (λZ Z=>rfl) _))⟩ λZ Z=>rfl
theorem VN{b j}:aB J (.fP b) (.Constant (.bool b) j pos):=.val ⟨λP e q=>wpAny_Constant_bool (q _ _ _ _ e (P.gL (a:=.bool b) (λZ Z=>rfl) _))⟩ λZ Z=>rfl
theorem VP{i j}:aB J (.aj i) (.Constant (.int i) j pos):=.val ⟨λP e q=>wpAny_Constant_int (q _ _ _ _ e (P.gL (a:=.int i) (λZ Z=>⟨_,rfl⟩) _))⟩ λZ Z=>rfl
theorem VZ{i j}(Y:i.length<=ax):aB J (.ai i) (.Constant (.str i) j pos):=.val ⟨λP e q=>wpAny_Constant_str (q _ _ _ _ e (P.gL (a:=.str i) (λZ Z=>⟨Y,_,rfl⟩) _))⟩ λZ Z=>rfl
theorem VO{i j}(Y:i.length<=ax):aB J (.aC i) (.Constant (.bytes i) j pos):=.val ⟨λP e q=>show wpAny _ _ (constValue _ (.bytes i)) _ _ _ from λZ Z Z=>q _ _ _ _ e (P.gL (a:=.bytes i) (λZ Z=>⟨Y,_,rfl⟩) _)⟩ λZ Z=>rfl
def isVar(sc:Scope)(x:Str):Prop:=sc.names.lookup x=some .local∨sc.names.lookup x=some .cell∨sc.names.lookup x=some .free
theorem lB{D:au}{env:Env}{c:Cf}{h:Heap}{st:St}{ak:Nat->Value}{aN:Nat->Nat->Value}(V:eO D env c h st ak aN)(x:Str):env.kindOf x=D.sc.names.lookup x:=congrArg (λs:Scope=>s.names.lookup x) V.sc
theorem U7{i:Nat}{r:ER}(e:tq i st=some r):∃x,st.σ[i]?=some (some x)/\tj i (some (some x))=some r:=by
 unfold tq at e
 cases q:st.σ[i]? with
 | none=>rw[q] at e;cases e
 | some o=>cases o with
  | none=>rw[q] at e;cases e
  | some x=>exact⟨x,rfl,q▸e⟩
theorem Ek{i:Nat}{n:Str}{K:KE}{Q:Value->Shared->Prop}(hs:J.D.sl[i]?=some n)(hn:n∉J.D.kl.flatten)(hk:isVar J.D.sc n)(ho:dm n=true)(P:At J φ rs vs st s)(e:OK (tq i st) λr=>K r st)(q:∀r st' v s',K r st'->At J φ (r::rs) (v::vs) st' s'->Q v s') :
  wpAny J.M φ.A (loadName φ.env n) Q φ.E s:=P.elim λc a=>aM e λr e k=>(U7 e).elim λx p=>(a.bQ.slots i n hs hn).elim λo S=>by
 refine Seen.load (v:=φ.ak i) a.bQ.fr (lB a.bQ n▸hk) ho (S.2 ⟨x,p.1⟩▸S.1) (q r st _ s k (a.push ?_))
 have g:=a.gd.slt i x p.1
 cases x with
 | val b=>exact Option.some.inj p.2▸g
 | own b=>exact Option.some.inj p.2▸⟨rfl,_,p.1⟩
theorem WL{i:Nat}{n:Str}(hs:J.D.sl[i]?=some n)(hn:n∉J.D.kl.flatten)(hk:isVar J.D.sc n)(ho:dm n=true):aB J (.slot i) (.Name n pos):=
 .val ⟨λP e q=>wpAny_Name (Ek hs hn hk ho P e q) (sL ho)⟩ λZ Z=>rfl
theorem KG{d i:Nat}{v:O}(e:uG d i st=some v):∃fr,st.κ[d]?=some fr/\fr[i]?=some (some v):=by
 unfold uG at e
 cases q:st.κ[d]? with
 | none=>rw[q] at e;cases e
 | some fr=>
  rw[q] at e
  have e:vy i fr=some v:=e
  unfold vy at e
  cases p:fr[i]? with
  | none=>rw[p] at e;cases e
  | some o=>cases o with
   | none=>rw[p] at e;cases e
   | some x=>rw[p] at e;exact⟨fr,rfl,Option.some.inj e▸p⟩
theorem VY{d i:Nat}{fr:List Str}{n:Str}(hf:J.D.kl[d]?=some fr)(hs:fr[i]?=some n)(hn:n∉(J.D.kl.take d).flatten)(hk:isVar J.D.sc n)(ho:dm n=true):aB J (.ay d i) (.Name n pos):=
 .val ⟨λP e q=>P.elim λc a=>aM e λv e k=>(KG e).elim λfr p=>(a.bQ.comps d i _ n hf hs hn).elim λo S=>
  wpAny_Name (Seen.load a.bQ.fr (lB a.bQ n▸hk) ho (S.2 ⟨fr,v,p⟩▸S.1) (q _ _ _ _ k (a.push (a.gd.dc d i fr v p.1 p.2)))) (sL ho)⟩ λZ Z=>rfl
theorem VL{op:Operator}{a b:ME}(ha:aB J a x)(I:aB J b y):aB J (.bin op a b) (.BinOp x op y pos):=.val (ha.e.SW I.e wpAny_BinOp λC y y' e=>zP C.fr y y' e) λZ Z=>rfl
theorem WB{a:ME}(ha:aB J a x):aB J (.neg a) (.UnaryOp .USub x pos):=.val (ha.e.SU wpAny_UnaryOp λC y e=>VW.rI y e λn t e=>Option.some.inj e▸neg_int (.int _ _ _)) λZ Z=>rfl
theorem WD{a:ME}(ha:aB J a x):aB J (.not a) (.UnaryOp .Not x pos):=
 ⟨⟨λP e q=>wpAny_UnaryOp (ha.e.run P e λr st' v s' e P=>P.v1 e λc a e y z=>aM e λb e k=>not_value (tK y e λtk=>q _ _ _ _ k (z.op (.jh (a:=.bool _) rfl tk))))⟩,
  ⟨λP e q=>wpAny_isTrue_Not (ha.t.run P e λb st' s' k P=>q _ _ _ k P)⟩⟩
theorem V8{t a b:ME}(ht:aB J t x)(ha:aB J a y)(I:aB J b z):aB J (.ite t a b) (.IfExp x y z pos):=
 ⟨⟨λP e q=>wpAny_IfExp (ht.t.run P e λb st' s' k P=>match b,k with
  | true,k=>ha.e.run P k q
  | false,k=>I.e.run P k q)⟩,
  ⟨λ{φ _ _ _ _ _ _} P e q=>by
  rw[arm_isTrue_IfExp]
  exact wpAny_bind (ht.t.run P e λb st' s' k P=>match b,k with
  | true,k=>ha.t.run P k q
  | false,k=>I.t.run P k q)⟩⟩
theorem snd_and{a b:ME}{rest:List Expr}(ha:aB J a x)(I:aB J b y)(h1:∀env,eval y env=boolOp pos .And (evalEach rest env))(h2:∀env,isTrue y env (eval y env)=allTrue .And rest env∨rest=[y])(hr:rest≠[]):aB J (.and a b) (.BoolOp .And (x::rest) pos):=by
 refine⟨⟨λ{φ rs vs st s K Q} P e q=>?_⟩,⟨λ{φ rs vs st s K Q} P e q=>wpAny_isTrue_BoolOp (wpAny_allTrue_And_cons (ha.t.run P e λcj st' s' k P=>?_))⟩⟩
 .have vu:eval (.BoolOp .And (x::rest) pos) φ.env=(do
    let v ←eval x φ.env
    standAt pos
    let t ←holding [v] (truthy v)
    match BoolOp.And,t with
    | .And,false | .Or,true=>pure v
    | _,_=>boolOp pos .And (evalEach rest φ.env)):=by
   cases rest with
   | nil=>exact absurd rfl hr
   | cons z zs=>rfl
  rw[vu]
  refine wpAny_bind (ha.e.run P e λr st' v s' e P=>wpAny_bind (wpAny_standAt (wpAny_bind (wpAny_holding (P.v1 e λc a e y z=>aM e λb e k=>tK y e λtk=>?_)))))
  cases b with
  | true=>exact h1 φ.env▸I.e.run (At.tok ⟨c,z⟩ tk) k q
  | false=>exact wpAny_pure (q _ _ _ _ k (P.tok tk))
 .cases cj with
  | false=>exact q _ _ _ k P
  | true=>
   refine(h2 φ.env).elim (λz=>z▸I.t.run P k q) λz=>z▸wpAny_allTrue_And_cons (I.t.run P k λfM df aA k P=>?_)
   cases fM with
   | false=>exact q _ _ _ k P
   | true=>exact wpAny_allTrue_And_nil (q _ _ _ k P)
theorem WG{a b:ME}{rest:List Expr}(ha:aB J a x)(I:aB J b y)(h1:∀env,eval y env=boolOp pos .Or (evalEach rest env))(h2:∀env,isTrue y env (eval y env)=allTrue .Or rest env∨rest=[y])(hr:rest≠[]):aB J (.or a b) (.BoolOp .Or (x::rest) pos):=by
 refine⟨⟨λ{φ rs vs st s K Q} P e q=>?_⟩,⟨λ{φ rs vs st s K Q} P e q=>wpAny_isTrue_BoolOp (wpAny_allTrue_Or_cons (ha.t.run P e λcj st' s' k P=>?_))⟩⟩
 .have vu:eval (.BoolOp .Or (x::rest) pos) φ.env=(do
    let v ←eval x φ.env
    standAt pos
    let t ←holding [v] (truthy v)
    match BoolOp.Or,t with
    | .And,false | .Or,true=>pure v
    | _,_=>boolOp pos .Or (evalEach rest φ.env)):=by
   cases rest with
   | nil=>exact absurd rfl hr
   | cons z zs=>rfl
  rw[vu]
  refine wpAny_bind (ha.e.run P e λr st' v s' e P=>wpAny_bind (wpAny_standAt (wpAny_bind (wpAny_holding (P.v1 e λc a e y z=>aM e λb e k=>tK y e λtk=>?_)))))
  cases b with
  | false=>exact h1 φ.env▸I.e.run (At.tok ⟨c,z⟩ tk) k q
  | true=>exact wpAny_pure (q _ _ _ _ k (P.tok tk))
 .cases cj with
  | true=>exact q _ _ _ k P
  | false=>
   refine(h2 φ.env).elim (λz=>z▸I.t.run P k q) λz=>z▸wpAny_allTrue_Or_cons (I.t.run P k λfM df aA k P=>?_)
   cases fM with
   | true=>exact q _ _ _ k P
   | false=>exact wpAny_allTrue_Or_nil (q _ _ _ k P)
theorem Ay{op:CmpOp}{K:KT}{Q:Value->Shared->Prop}(ha:eN J f x)(I:eN J g y)(P:At J φ rs vs st s)(e:f st λx st=>g st λy st=>OK (view x st) λv=>OK (bJ y st) λu=>OK (cz op v u) λr=>K r st)(q:∀r st' s',K r st'->At J φ rs vs st' s'->Q (.bool r) s') :
  wpAny J.M φ.A (eval x φ.env) (λa aJ=>wpAny J.M φ.A (eval y φ.env) (λb aA=>wpAny J.M φ.A (compareOp op a b) Q φ.E aA) φ.E aJ) φ.E s:=
 ha.run P e λZ Z Z Z e P=>I.run P e λr st' v s' e P=>P.vc e λc a b e y y' z=>aM e λr e k=>KC (Kk z.cx.un) y y' e λtk=>q _ _ _ k (At.tok ⟨c,z⟩ tk)
theorem VQ{op:CmpOp}{a b:ME}(ha:aB J a x)(I:aB J b y)(hm:behindInMarks op y=false):aB J (.cmp op a b) (.Compare x [op] [y] pos):=
 ⟨⟨λ{φ _ _ st _ K _} P e q=>wpAny_Compare1 (Ay (K:=λr st=>K (.val (.bool r)) st) ha.e I.e P e λr st' s' k P=>q _ _ _ _ k (P.gL (a:=.bool r) (λZ Z=>rfl) _)) hm⟩,
  ⟨λ{φ _ _ st _ K _} P e q=>wpAny_isTrue_Compare1 (Ay (K:=K) ha.e I.e P e λr st' s' k P=>wpAny_truthy_bool (q _ _ _ k P)) hm⟩⟩
theorem V6{a:ME}{j p}(ha:aB J a x):aB J (.bS a) (.Compare x [.Is] [.Constant .none j p] pos):=
 ⟨⟨λP e q=>wpAny_Compare1 (ha.e.run P e λZ Z Z Z e P=>wpAny_Constant_none (is_none (P.v1 e λc a k y z=>r7 y▸q _ _ _ _ k (z.op (.bool _))))) rfl⟩,
  ⟨λP e q=>wpAny_isTrue_Compare1 (ha.e.run P e λZ Z Z Z e P=>wpAny_Constant_none (is_none (P.v1 e λc a k y z=>wpAny_truthy_bool (r7 y▸q _ _ _ k ⟨c,z⟩)))) rfl⟩⟩
theorem V7{a:ME}{j p}(ha:aB J a x):aB J (.bF a) (.Compare x [.IsNot] [.Constant .none j p] pos):=
 ⟨⟨λP e q=>wpAny_Compare1 (ha.e.run P e λZ Z Z Z e P=>wpAny_Constant_none (isNot_none (P.v1 e λc a k y z=>r7 y▸q _ _ _ _ k (z.op (.bool _))))) rfl⟩,
  ⟨λP e q=>wpAny_isTrue_Compare1 (ha.e.run P e λZ Z Z Z e P=>wpAny_Constant_none (isNot_none (P.v1 e λc a k y z=>wpAny_truthy_bool (r7 y▸q _ _ _ k ⟨c,z⟩)))) rfl⟩⟩
end
end Mine.Internal
namespace Mine.Internal
open PySem PySem.Calls PyProof.Rows PySem.W
section
variable{J:Om}{φ:Fm}{c:Cf}{rs iA:List ER}{vs gm:List Value}{st st':St}{s:Shared}{r:ER}{v:Value}{G:Prop}
theorem aF.chg(a:aF J φ c rs vs st s){o:Ow}{n:Option Ow}(h1:Ow.other≠o)(h2:Ow.env≠o)(sh:Shape st st')(g:Gd J.w J.B (c.map (chg o n)) s.heap st' φ.ak φ.aN iA gm):aF J φ (c.map (Mine.Internal.chg o n)) iA gm st' s:=
 ⟨a.ok,a.mv.chg h1,a.ke.trans (.map (iJ h2)),a.sh.trans sh,g⟩
theorem Gd.D5{w:World}{B:Heap}{h:Heap}{ak:Nat->Value}{aN:Nat->Nat->Value}(g:Gd w B c h st ak aN rs vs){c':Cf}(L:Le c h c' h)(e:st'.κ=st.κ)(d i:Nat)(fr:List (Option O))(a:O)(q:st'.κ[d]?=some fr)(p:fr[i]?=some (some a)):VR w c' h a (aN d i):=VR.le L a (g.dc d i fr a (e▸q) p)
theorem Gd.U8{w:World}{B:Heap}{h:Heap}{ak:Nat->Value}{aN:Nat->Nat->Value}(g:Gd w B c h st ak aN rs vs){j:Nat}{n:Option Ow}(i:Nat)(x:VS)(e:st.σ[i]?=some (some x)):SV w (c.map (chg (.tmp j) n)) h (.slot i) x (ak i):=
 (g.slt i x e).kp (.map _) (.map (iJ (o:=.tmp j) (x:=.slot i) nofun))
theorem aZ.low{w:World}{h:Heap}{ak:Nat->Value}(x:aZ w c h st ak rs vs){o:Ow}{n:Option Ow}(ho:∀j,j<rs.length->Ow.tmp j≠o)(f:∀i,Full st i->Full st' i):aZ w (c.map (chg o n)) h st' ak rs vs:=x.kp (.map _) f λj hj=>.map (iJ (ho j hj))
theorem aF.freeze{k:AC}(a:aF J φ c (.own k::rs) (v::vs) st s):At J φ (.val (.ao k)::rs) (v::vs) st s:=by
 refine⟨c.map (Mine.Internal.chg (.tmp rs.length) none),a.chg nofun nofun (.refl _) (a.gd.p0 (λl=>iJ nofun) rfl a.gd.U8 (a.gd.D5 (.map _) rfl) (.mk ?_ (a.gd.bw.tl.low (λj hj e=>Nat.ne_of_lt hj (Ow.tmp.inj e)) λZ q=>q)))⟩
 exact a.hd.imp λad p=>⟨p.1,OR.le (.map _) k (.map uB) p.2⟩
theorem aF.ao{k:AC}{i:Nat}(a:aF J φ c rs vs st s)(e:st.σ[i]?=some (some (.own k))):aF J φ (c.map (Mine.Internal.chg (.slot i) none)) rs vs {st with σ:=st.σ.set i (some (.val (.ao k)))} s/\VR J.w (c.map (Mine.Internal.chg (.slot i) none)) s.heap (.ao k) (φ.ak i):=by
 have fi:Full st i:=⟨_,e⟩
 have new:VR J.w (c.map (Mine.Internal.chg (.slot i) none)) s.heap (.ao k) (φ.ak i):=(a.gd.slt i _ e).imp λad p=>⟨p.1,OR.le (.map _) k (.map uB) p.2⟩
 refine⟨a.chg nofun nofun (.set fi) (a.gd.p0 (λl=>iJ nofun) rfl (λj x q=>?_) (a.gd.D5 (.map _) rfl) (a.gd.bw.low (λj hj=>nofun) λj q=>(fi.set j).mpr q)),new⟩
 rcases set_inv q with⟨rfl,z⟩ | ⟨z,q⟩
 .exact Option.some.inj z▸new
 .exact(a.gd.slt j x q).kp (.map _) (.map (iJ (x:=.slot j) λp=>z (Ow.slot.inj p).symm))
theorem At.last{K:O->St->Prop}(p:At J φ (r::rs) (v::vs) st s)(e:ct r st K)(k:∀a st',K a st'->At J φ (.val a::rs) (v::vs) st' s->G):G:=by
 cases r with
 | val b=>exact k b st e p
 | own b=>exact p.elim λc a=>k _ st e a.freeze
 | loc i=>
  refine p.elim λc a=>a.hd.2.elim λy hy=>?_
  obtain⟨σ,lk,κ,H⟩:=st
  have e:sj i σ lk κ H K (some (some y)):=(hy:σ[i]?=_)▸e
  cases y with
  | own b=>exact k _ _ (jb _ _ _ e) ((a.pop.ao hy).1.push (a.hd.1.symm▸(a.pop.ao hy).2))
  | val b=>exact k _ _ e (a.pop.push (a.hd.1▸a.gd.slt i _ hy))
end
noncomputable def notStar:Expr->Bool
 | .Starred ..=>false
 | _=>true
theorem gV{x:Expr}(h:notStar x=true)(rest:List Expr)(env:Env):starEach (x::rest) env=(false,eval x env)::starEach rest env:=by
 cases x<;>first | rfl | cases h
noncomputable def aW.len:aW->Nat
 | .nil=>0
 | .cons _ r=>r.len+1
section
variable(J:Om)
structure cW(es:aW)(xs:List Expr):Prop where
 run:∀{φ:Fm} {rs:List ER} {vs:List Value} {st:St} {s:Shared} {K:List ER->St->Prop} {Q:List Value->Shared->Prop} (pos:Pos),At J φ rs vs st s->wEs tab (F J.k) es st K->
  (∀l st' us s',K l st'->l.length=us.length->At J φ (l.reverseAux rs) (us.reverseAux vs) st' s'->Q us s')->wpAny J.M φ.A (spliced (backTo pos (starEach xs φ.env))) Q φ.E s
 last:∀{φ:Fm} {rs:List ER} {vs:List Value} {st:St} {s:Shared} {K:List O->St->Prop} {Q:List Value->Shared->Prop} (pos:Pos),At J φ rs vs st s->ed tab (F J.k) es st K->
  (∀l st' us s',K l st'->l.length=es.len->l.length=us.length->At J φ ((l.map ER.val).reverseAux rs) (us.reverseAux vs) st' s'->Q us s')->wpAny J.M φ.A (spliced (backTo pos (starEach xs φ.env))) Q φ.E s
 ns:xs.all notStar=true
end
section
variable{J:Om}{φ:Fm}{c:Cf}{rs:List ER}{vs:List Value}{st:St}{s:Shared}{x y z:Expr}{es:aW}{xs:List Expr}{pos:Pos}
theorem HI:cW J .nil []:=⟨λZ P e q=>wpAny_items_nil (q [] _ [] _ e rfl P),λZ P e q=>wpAny_items_nil (q [] _ [] _ e rfl rfl P),rfl⟩
theorem yp{e:ME}(hx:notStar x=true)(h:aB J e x)(hs:cW J es xs):cW J (.cons e es) (x::xs):=
 ⟨λpos P e q=>wpAny_items_cons (h.e.run P e λr Z Z Z e P=>hs.run pos P e λl Z us Z e z P=>q (r::l) _ (_::us) _ e (congrArg _ z) P) (gV hx xs _),
  λpos P e q=>wpAny_items_cons (h.e.run P e λr Z Z Z e P=>P.last e λa Z e P=>hs.last pos P e λl Z us Z e n z P=>q (a::l) _ (_::us) _ e (congrArg _ n) (congrArg _ z) P) (gV hx xs _),
  (congrArg (·&&_) hx).trans hs.ns⟩
theorem aF.vals:∀{l:List O} {us vs:List Value} {rs:List ER},l.length=us.length->aF J φ c ((l.map ER.val).reverseAux rs) (us.reverseAux vs) st s->aF J φ c rs vs st s/\aq J.w c s.heap l us
 | [],[],_,_,_,a=>⟨a,rfl⟩
 | _::_,[],_,_,e,_=>nomatch e
 | [],_::_,_,_,e,_=>nomatch e
 | b::l,u::us,vs,rs,e,a=>have p:=aF.vals (l:=l) (us:=us) (vs:=u::vs) (rs:=.val b::rs) (Nat.succ.inj e) a;⟨p.1.pop,.mk p.1.hd p.2⟩
theorem WM{j}(h:cW J es xs)(Y:es.len<=1000):aB J (.tup es) (.Tuple xs j pos):=
 .val ⟨λ{φ rs vs st s K Q} P e q=>wpAny_Tuple (h.last pos P e λl Z us s' k n z P=>P.elim λc a=>
  have p:=a.vals z
  have n:l.length<=ax:=Nat.le_trans (n▸Y) (by decide)
  ⟨bX (z▸n),q _ _ _ _ k (p.1.op (aE.tup (n:=0) (tk:=s'.toks) a.gd.fr (List.toList_toArray.symm▸p.2) n))⟩)⟩ λZ Z=>rfl
theorem We(h:cW J es xs)(Y:es.len<=1000):aB J (.lst es) (.List xs pos):=
 .val ⟨λ{φ rs vs st s K Q} P e q=>wpAny_List (h.last pos P e λl Z us s' k n z P=>P.elim λc a=>
  have p:=a.vals z
  have n:l.length<=ax:=Nat.le_trans (n▸Y) (by decide)
  ⟨bX (z▸n),q _ _ _ _ k (p.1.op (aE.list (n:=0) (tk:=s'.toks) (List.toList_toArray.symm▸p.2) n))⟩)⟩ λZ Z=>rfl
theorem zN(e:Expr):behindInMarks .LtE e=false:=by
 cases e<;>first | rfl | (unfold behindInMarks;simp)
theorem Av{M:Model}{A:Around}{E:Value->Shared->Prop}{env:Env}{α:Type}{m n:Value->Value->Value->Sem α}{e:Sem α}{Q:α->Shared->Prop}(he:e=(do
   let left ←eval x env
   let rv ←holding [left] (eval y env)
   standAt pos
   let c ←holding [left,rv] (compareOp .LtE left rv)
   release [left,rv] [c]
   if ←holding [c,rv] (truthy c) then m left rv c else n left rv c))
  (h:wpAny M A (eval x env) (λa aJ=>wpAny M A (eval y env) (λb aA=>wpAny M A (compareOp .LtE a b) (λc cU=>wpAny M A (truthy c)
   (λt cV=>wpAny M A (if t then m a b c else n a b c) Q E cV) E cU) E aA) E aJ) E s):wpAny M A e Q E s:=by
 rw[he]
 refine wpAny_bind (wpAny_mono h (λa aJ h=>wpAny_bind (wpAny_holding (wpAny_mono h (λb aA h=>wpAny_bind (wpAny_standAt (wpAny_bind (wpAny_holding (wpAny_mono h (λc cU h=>wpAny_bind (wpAny_release' (wpAny_bind (wpAny_holding (wpAny_mono h (λt cV h=>?_) λZ Z y=>y))))) λZ Z y=>y))))) λZ Z y=>y))) λZ Z y=>y)
 cases t<;>exact h
theorem mz{w:World}{h:Heap}{r:ER}{st:St}{n:Int}{ak:Nat->Value}{aN:Nat->Nat->Value}{B:Heap}{o:Ow}{v:Value}{P:Value->Prop}(g:Gd w B c h st ak aN rs vs)(x:RR w c h st ak o r v)(e:e8 r st=some n)(k:∀t,P (.int n t)):P v:=VW.int (P:=P) (g.view x (O8 e)) k
theorem Aw{a b d:ME}{K:KT}{Q R:Value->Shared->Prop}(ha:aB J a x)(I:aB J b y)(hc:aB J d z)(P:At J φ rs vs st s)(e:(wE tab (F J.k) a).1 st λx st=>(wE tab (F J.k) b).1 st λy st=>OK (e8 x st) λn=>OK (e8 y st) λm=>
   BR (decide (n<=m)) ((wE tab (F J.k) d).1 st λz st=>OK (e8 z st) λk=>K (decide (m<=k)) st) (K false st))
  (q:∀r st' s',K r st'->At J φ rs vs st' s'->Q (.bool r) s') (q':∀st' s',K false st'->At J φ rs vs st' s'->R (.bool false) s') :
  wpAny J.M φ.A (eval x φ.env) (λa aJ=>wpAny J.M φ.A (eval y φ.env) (λb aA=>wpAny J.M φ.A (compareOp .LtE a b) (λc cU=>wpAny J.M φ.A (truthy c)
   (λt cV=>(t=true->wpAny J.M φ.A (eval z φ.env) (λd j9=>wpAny J.M φ.A (compareOp .LtE b d) Q φ.E j9) φ.E cV)/\(t=false->R c cV)) φ.E cU) φ.E aA) φ.E aJ) φ.E s:=
 ha.e.run P e λZ Z Z Z e P=>I.e.run P e λr dz v aJ e P=>aM e λn en e=>aM e λm em e=>P.elim λc a=>by
  refine mz a.gd a.pop.hd en (P:=λv=>wpAny _ _ (compareOp .LtE v _) _ _ _) λt=>?_
  have P:At J φ rs vs dz aJ:=⟨c,a.pop.pop⟩
  have low:=a.hd
  refine mz a.gd a.hd em (P:=λu=>wpAny _ _ (compareOp .LtE _ u) (λc cU=>wpAny J.M φ.A (truthy c) (λt cV=>(t=true->wpAny J.M φ.A (eval z φ.env) (λd j9=>wpAny J.M φ.A (compareOp .LtE u d) Q φ.E j9) φ.E cV)/\(t=false->R c cV)) φ.E cU) _ _) λt'=>le_int (wpAny_truthy_bool ?_)
  refine ef e (λh e=>⟨λZ=>hc.e.run P e λr₂ df IL aA e P=>aM e λk ek e=>P.elim λc a=>mz a.gd a.hd ek (P:=λv=>wpAny _ _ (compareOp .LtE _ v) _ _ _) λtE=>le_int (q _ _ _ e ⟨c,a.pop⟩),λz=>nomatch h.symm.trans z⟩) λh e=>⟨λz=>(nomatch h.symm.trans z),λZ=>h▸q' _ _ e P⟩
theorem VU{a b d:ME}(ha:aB J a x)(I:aB J b y)(hc:aB J d z):aB J (.fS a b d) (.Compare x [.LtE,.LtE] [y,z] pos):=by
 refine⟨⟨λ{φ rs vs st s K Q} P e q=>Av (pos:=pos) (x:=x) (y:=y) (env:=φ.env) (m:=λa b c=>do
    let p8 ←holding [b] (markedBehindIn .LtE z (eval z φ.env))
    standAt pos
    operate [b,p8] (compareOp .LtE b p8)) (n:=λa b c=>pure c) rfl ?_⟩,⟨λ{φ rs vs st s K Q} P e q=>Av (pos:=pos) (x:=x) (y:=y) (env:=φ.env) (m:=λa b c=>do
    let p8 ←holding [b] (markedBehindIn .LtE z (eval z φ.env))
    standAt pos
    let c ←operate [b,p8] (compareOp .LtE b p8)
    holding [c] (truthy c)) (n:=λa b c=>pure false) rfl ?_⟩⟩
 .refine wpAny_mono (Aw (K:=λr st=>K (.val (.bool r)) st) (R:=Q) (Q:=Q) ha I hc P e (λr st' s' k P=>q _ _ _ _ k (P.gL (a:=.bool r) (λZ Z=>rfl) _)) λst' s' k P=>q _ _ _ _ k (P.gL (a:=.bool false) (λZ Z=>rfl) _)) (λa aJ h=>wpAny_mono h (λb aA h=>wpAny_mono h (λc cU h=>wpAny_mono h (λt cV h=>?_) λZ Z y=>y) λZ Z y=>y) λZ Z y=>y) λZ Z y=>y
  cases t with
  | false=>exact wpAny_pure (h.2 rfl)
  | true=>
   simp only[if_true,markedBehindIn_of_false (zN z)]
   exact wpAny_bind (wpAny_holding (wpAny_mono (h.1 rfl) (λd j9 h=>wpAny_bind (wpAny_standAt (wpAny_operating h))) λZ Z y=>y))
 .refine wpAny_mono (Aw (K:=K) (R:=λc s=>Q false s) (Q:=λc s=>wpAny J.M φ.A (truthy c) Q φ.E s) ha I hc P e (λr st' s' k P=>wpAny_truthy_bool (q _ _ _ k P)) λst' s' k P=>q _ _ _ k P) (λa aJ h=>wpAny_mono h (λb aA h=>wpAny_mono h (λc cU h=>wpAny_mono h (λt cV h=>?_) λZ Z y=>y) λZ Z y=>y) λZ Z y=>y) λZ Z y=>y
  cases t with
  | false=>exact wpAny_pure (h.2 rfl)
  | true=>
   simp only[if_true,markedBehindIn_of_false (zN z)]
   exact wpAny_bind (wpAny_holding (wpAny_mono (h.1 rfl) (λd j9 h=>wpAny_bind (wpAny_standAt (wpAny_bind (wpAny_operating (wpAny_mono h (λc Y3 h=>wpAny_holding h) λZ Z y=>y))))) λZ Z y=>y))
end
section
variable{prog:Program}{w:World}{A:Around}{E:Value->Shared->Prop}{s:Shared}{c:Cf}
theorem je{value slice:Expr}{o i:Value}{T id:String}{Q:Value->Shared->Prop}(hT:s.TypeIs o T)
  (Y:typeLookup (.type T) "__getitem__" = pure (some (.builtin id))) (h:wpAny (model prog w) A (getItem o i) Q E s)
  (hs:subscripted slice false o i=operate [o,i] (getItem o i)∨subscripted slice false o i=operate [i,o] (getItem o i)) :
  wpAny (model prog w) A (subscriptTail value slice o i) Q E s:=by
 unfold subscriptTail
 refine wpAny_bind ?_
 rw[getitemInPython_of_ne hT.not_modules]
 refine wpAny_bind (wpAny_specialOf hT Y ?_)
 have fin:wpAny (model prog w) A (subscripted slice false o i) (λr cU=>wpAny (model prog w) A (letTemporaryGo value o r >>= λZ=>pure r) Q E cU) E s:=
  hs.elim (λhs=>hs▸wpAny_operating (wpAny_mono h (λr cU m6=>wpAny_bind (wpAny_letTemporaryGo (wpAny_pure m6))) λZ Z x=>x)) λhs=>hs▸wpAny_operating (wpAny_mono h (λr cU m6=>wpAny_bind (wpAny_letTemporaryGo (wpAny_pure m6))) λZ Z x=>x)
 first
  | exact wpAny_pure (wpAny_bind fin)
  | exact wpAny_bind (wpAny_pure (wpAny_bind fin))
  | exact wpAny_bind fin
noncomputable def sd:Expr->Bool
 | .Slice ..=>true
 | _=>false
theorem nX{slice:Expr}(h:sd slice=false)(o i:Value):subscripted slice false o i=operate [o,i] (getItem o i):=by
 cases slice<;>first | rfl | cases h
theorem yl{n:Int}(h:small n=true):-(2 ^ 63)<=n/\n<2 ^ 63:=by
 have h':n.natAbs<2 ^ 62:=of_decide_eq_true h
 omega
theorem aq.at{h:Heap}{vs:List O}{it:Array Value}(x:aq w c h vs it.toList){j:Nat}{a:O}(e:vs[j]?=some a):∃u,it[j]?=some u/\VR w c h a u:=
 have hj:=x.size.symm▸cu e
 ⟨it[j],Array.getElem?_eq_getElem hj,x.get.2 j a _ e (List.getElem?_eq_getElem (l:=it.toList) hj)⟩
set_option tactic.hygienic true in
theorem zH{α:Type}{l:List α}{n:Int}{x:α}(e:fH l n=some x):(0<=n/\n<2 ^ 63/\l[n.toNat]?=some x)∨(n<0/\-(2 ^ 63)<=n/\0<=n+l.length/\l[(n+l.length).toNat]?=some x):=by
 unfold fH at e
 split at e
 .rename_i hs
  have hs:=yl hs
  split at e
  .exact .inl ⟨‹_›,hs.2,e⟩
  .split at e
   .exact .inr ⟨Int.not_le.mp ‹_›,hs.1,‹_›,e⟩
   .cases e
 .cases e
theorem Pq{value slice:Expr}{o i x:O}{u v:Value}(hx:VW w c s.heap o u)(hy:VW w c s.heap i v)(e:e7 o i=some x)(hp:sd slice=false) :
  wpAny (model prog w) A (subscriptTail value slice u v) (aE w c s (.val x)) E s:=by
 cases o with
 | tup vs=>
  refine VW.rI hy e λn t e=>VW.tup hx λl it m Y Z ho hv=>?_
  have ht:IsTup s.heap l it:=⟨_,ho,rfl,m,rfl⟩
  refine(zH e).elim (λp=>(hv.at p.2.2).elim λq hc=>?_) λp=>(hv.at p.2.2.2).elim λq hc=>?_
  .exact je ht.typeIs slot_tuple_getitem.lookup (getItem_tuple ht (by lia) p.2.1 (seqIndex_of p.1 (by have:=cu p.2.2;have:=hv.size;lia)) hc.1 (.val hc.2)) (.inl (nX hp _ _))
  .exact je ht.typeIs slot_tuple_getitem.lookup (getItem_tuple ht p.2.1 (by lia) (seqIndex_neg p.1 (by have:=hv.size;lia)) (hv.size.symm▸hc.1) (.val hc.2)) (.inl (nX hp _ _))
 | bytes b=>
  refine VW.rI hy e λn t e=>VW.bytes hx λY t'=>?_
  have p:=bh e
  refine(Option.map_eq_some_iff.mp p.2).elim λy q=>q.2▸?_
  have hL:ax=1000000:=rfl
  have hj:=cu q.1
  have z:b.getD n.toNat 0=y:=by rw[List.getD_eq_getElem?_getD,q.1];rfl
  exact je (typeIs_bytes s _ t') FB.slot_bytes_getitem.lookup (getItem_bytes (by exact Nat.le_trans (by assumption) (by decide)) p.1 (by lia) (show aE w c s _ (.int ((b.getD n.toNat 0).toNat:Int) _) _ from z▸.int _ _ _)) (.inl (nX hp _ _))
 | ao k=>cases k with
  | list vs=>
   refine VW.rI hy e λn t e=>VW.list hx λl it m Y ho hv=>?_
   have ht:s.heap.IsList l it:=⟨_,ho,rfl,m,rfl⟩
   refine(zH e).elim (λp=>(hv.at p.2.2).elim λq hc=>?_) λp=>(hv.at p.2.2.2).elim λq hc=>?_
   .exact je ht.typeIs slot_list_getitem.lookup (wpAny_getItem_list ht p.1 p.2.1 hc.1 (.val hc.2)) (.inl (nX hp _ _))
   .exact je ht.typeIs slot_list_getitem.lookup (wpAny_getItem_list_neg ht p.1 (by have:=hv.size;lia) p.2.1 (x:=q) (hv.size.symm▸hc.1) (.val hc.2)) (.inl (nX hp _ _))
  | dict es=>
   refine(Option.bind_eq_some_iff.mp e).elim λk p=>VW.dict hx λl it m Z Z hn ho hv=>?_
   have D:=(eP (prog:=prog) ho hn hv).mapOf
   have z:OV w c s.heap (some x) _:=p.2▸tN k hv
   exact z.elim λq hc=>je D.typeIs slot_dict_getitem.lookup (wpAny_getItem_of (lA hy p.1) D hc.1 (aE.jh hc.2 _)) (.inl (nX hp _ _))
  | inst _ _=>exact nomatch e
 | _=>exact nomatch e
theorem Ho{α:Type}(l:List α)(lo hi:Option Int):fu l lo hi=(l.drop (lo.elim 0 (clipAt l.length))).take (hi.elim l.length (clipAt l.length) - lo.elim 0 (clipAt l.length)):=rfl
theorem aq.drop{h:Heap}:∀(n:Nat) {vs:List O} {l:List Value},aq w c h vs l->aq w c h (vs.drop n) (l.drop n)
 | 0,_,_,x=>x
 | _+1,[],_,x=>x.nil (P:=λl=>aq w c h _ (l.drop _)) rfl
 | n+1,_::_,_,x=>x.cons (P:=λl=>aq w c h _ (l.drop _)) λv q Z hr=>aq.drop n hr
theorem aq.take{h:Heap}:∀(n:Nat) {vs:List O} {l:List Value},aq w c h vs l->aq w c h (vs.take n) (l.take n)
 | 0,_,_,_=>rfl
 | _+1,[],_,x=>x.nil (P:=λl=>aq w c h _ (l.take _)) rfl
 | n+1,_::_,_,x=>x.cons (P:=λl=>aq w c h _ (l.take _)) λv q hv hr=>.mk hv (aq.take n hr)
theorem aq.reverse{h:Heap}:∀{vs:List O} {l:List Value},aq w c h vs l->aq w c h vs.reverse l.reverse
 | [],_,x=>x.nil (P:=λl=>aq w c h _ l.reverse) rfl
 | _::_,_,x=>x.cons (P:=λl=>aq w c h _ l.reverse) λv q hv hr=>by rw[List.reverse_cons,List.reverse_cons];exact(aq.reverse hr).snoc hv
theorem Hp{α:Type}(l:List α)(lo hi:Option Int):(fu l lo hi).length<=l.length:=Nat.le_trans (List.length_take_le' _ _) (List.length_drop▸Nat.sub_le _ _)
theorem aq.slice{h:Heap}{vs:List O}{it:Array Value}(x:aq w c h vs it.toList)(lo hi:Option Int):aq w c h (fu vs lo hi) (slicePick it lo hi none).toList:=by
 rw[slicePick_plain,Ho,←x.size]
 exact(x.drop _).take _
theorem DP{a:O}{v:Value}{p:Option Int}(x:VW w c s.heap a v)(e:xA a=some p):IsPart v p:=by
 cases a with
 | none=>exact VW.none x (Option.some.inj e▸.none)
 | int i=>exact VW.int x λt=>Option.some.inj e▸.int _ _
 | _=>cases e
theorem aE.nP{o:Obj}{r:ER}{v:Value}{s':Shared}{k:Nat}(p:aE w c {s with heap:=s.heap.push o,toks:=k} r v s'):aE w c s r v s':=by
 refine p.elim λh' p=>p.elim λtk p=>⟨h',tk,p.1,(Sub.push _ _).trans p.2.1,?_⟩
 have q:=p.2.2
 cases r with
 | val a=>exact q
 | own kk=>exact q.imp λa z=>⟨z.1,(match e:s.heap.get? a with
   | none=>rfl
   | some o'=>nomatch z.2.1.symm.trans (Sub.push s.heap o a o' e)),z.2.2⟩
 | loc i=>exact q
noncomputable abbrev lT(u v:Value)(t:Value):Obj:={cls:=.type "slice",data:=.fields #[u,v,t]}
theorem U5{lower upper:Option Expr}{vx:Expr}{p:Pos}{o lo hi:O}{vo vl vh:Value}{r:ER}(hx:VW w c s.heap o vo)(Y:VW w c s.heap lo vl)(hh:VW w c s.heap hi vh)(e:nU o lo hi=some r) :
  wpAny (model prog w) A (subscriptTail vx (.Slice lower upper none p) vo (.ref s.heap.objs.size)) (aE w c s r) E {s with heap:=s.heap.push (lT vl vh .none)}:=by
 refine(Option.bind_eq_some_iff.mp e).elim λa q=>(Option.bind_eq_some_iff.mp q.2).elim λb q'=>?_
 have pl:=DP Y q.1
 have ph:=DP hh q'.1
 have e:=q'.2
 cases o with
 | bytes l=>
  refine Option.some.inj e▸VW.bytes hx λeZ t=>?_
  have hz:KBy.picked l.toArray a b=(fu l a b).toArray:=by rw[KBc.picked_eq,Ho,List.size_toArray,List.toList_toArray]
  exact je (typeIs_bytes _ _ t) FB.slot_bytes_getitem.lookup (getItem_meets (typeIs_bytes _ _ _) (by decide) FB.slot_bytes_getitem FB.entry_bytes_getitem (FB.args_bytes_getitem_2 _ _) (KBc.meets_slice2 _ t _ pl ph)
   ⟨Heap.IsSliceOf.new _ _ _ _,bX (Nat.le_trans (KBc.size_picked_le _ _ _) eZ),λt' k=>aE.nP (o:=lT vl vh .none) (k:=k) (aE.bytes (Nat.le_trans (Hp l a b) eZ) hz t' k)⟩) (.inr rfl)
 | ao k=>
  refine VW.cL hx e λl ad it m eZ ho hv e=>Option.some.inj e▸?_
  have ht:(s.heap.push (lT vl vh .none)).IsList ad it:=⟨_,Heap.get?_push_of_some _ ho,rfl,m,rfl⟩
  have hz:=iD (hv.size.symm▸eZ)
  refine je ht.typeIs slot_list_getitem.lookup (wpAny_getItem_list_slice ht (Heap.IsSliceOf.new _ _ _ _) pl ph .none (by simp) ?_ (bX (hv.size.symm▸eZ))) (.inr rfl)
  exact aE.nP (o:=lT vl vh .none) (k:=s.toks) (aE.list (n:=0) (tk:=s.toks) (aq.slice (hv.push (s:=s) _) a b) (Nat.le_trans (Hp l a b) eZ))
 | _=>cases e
theorem Tz{vx st:Expr}{p:Pos}{o:O}{vo:Value}{t:Tok}{k:Nat}{r:ER}(hx:VW w c s.heap o vo)(e:Gr o=some r) :
  wpAny (model prog w) A (subscriptTail vx (.Slice none none (some st) p) vo (.ref s.heap.objs.size)) (aE w c s r) E {s with heap:=s.heap.push (lT .none .none (.int (-1) t)),toks:=k}:=by
 refine VW.rL hx e λl ad it m eZ ho hv e=>Option.some.inj e▸?_
 have ht:(s.heap.push (lT .none .none (.int (-1) t))).IsList ad it:=⟨_,Heap.get?_push_of_some _ ho,rfl,m,rfl⟩
 refine je ht.typeIs slot_list_getitem.lookup (wpAny_getItem_list_slice ht (Heap.IsSliceOf.new _ _ _ _) .none .none (.int _ _) (by simp) ?_ (bX (hv.size.symm▸eZ))) (.inl rfl)
 exact aE.nP (o:=lT .none .none (.int (-1) t)) (k:=k) (aE.list (n:=0) (tk:=k) ((krv_pick it).symm▸aq.push (s:=s) _ hv.reverse) (by rw[List.length_reverse];exact eZ))
end
section
variable{J:Om}{x y z:Expr}{pos:Pos}
theorem V4{o i:ME}(ho:aB J o x)(hi:aB J i y)(hp:sd y=false):aB J (.idx o i) (.Subscript x y pos):=
 .val ⟨λP e q=>Subscript_ (ho.e.run P e λZ Z Z Z e P=>hi.e.run P e λZ Z Z Z e P=>P.c2 e λc a b e y y' z=>aM e λr e k=>wpAny_mono (Pq y y' e hp) (λv s' p=>q _ _ _ _ k (z.op p)) λZ Z y=>y)⟩ λZ Z=>rfl
def qu(J:Om)(e:ME)(x:Option Expr):Prop:=match x with
 | none=>e=.omit
 | some y=>aB J e y
theorem HD{e:ME}{x:Option Expr}(h:qu J e x){φ:Fm}{rs:List ER}{vs:List Value}{st:St}{s:Shared}{K:KE}{Q:Value->Shared->Prop}(P:At J φ rs vs st s)(k:(wE tab (F J.k) e).1 st K)(q:∀r st' v s',K r st'->At J φ (r::rs) (v::vs) st' s'->Q v s'):wpAny J.M φ.A (evalPart x φ.env) Q φ.E s:=
 match x,h with
 | none,h=>wpAny_pure (q (.val .none) _ _ _ ((congrArg (λe=>(wE tab (F J.k) e).1 st K) h).mp k) (P.gL (a:=.none) (λZ Z=>rfl) s.toks))
 | some _,h=>h.e.run P k q
theorem At.v3{φ:Fm}{rs:List ER}{vs:List Value}{st:St}{s:Shared}{x y z:ER}{v u t:Value}{G:Prop}{K:O->O->O->Prop}(p:At J φ (z::y::x::rs) (t::u::v::vs) st s)(e:OK (view x st) λa=>OK (view y st) λb=>OK (view z st) λd=>K a b d)
  (k:∀c a b d,K a b d->VW J.w c s.heap a v->VW J.w c s.heap b u->VW J.w c s.heap d t->aF J φ c rs vs st s->G):G:=
 aM e λa e h=>aM h λb e' h=>aM h λd K2 h=>p.elim λc q=>k c a b d h (q.gd.view q.pop.pop.hd e) (q.gd.view q.pop.hd e') (q.gd.view q.hd K2) q.pop.pop.pop
theorem WK{o lo hi:ME}{l u:Option Expr}{p}(ho:aB J o x)(Y:qu J lo l)(hh:qu J hi u):aB J (.bu o lo hi) (.Subscript x (.Slice l u none p) pos):=
 .val ⟨λP e q=>Subscript_ (ho.e.run P e λZ Z Z Z e P=>wpAny_Slice (HD Y P e λZ Z Z Z e P=>HD hh P e λZ Z Z Z e P=>(evalPart_none (env:=_))▸wpAny_pure (P.v3 e λc a b d e y y' Yv z=>aM e λr e k=>wpAny_mono (U5 y y' Yv e) (λv s' p=>q _ _ _ _ k (z.op p)) λZ Z y=>y)))⟩ λZ Z=>rfl
theorem WH{o:ME}{j p1 p2 p}(ho:aB J o x):aB J (.rev o) (.Subscript x (.Slice none none (some (.UnaryOp .USub (.Constant (.int 1) j p1) p2)) p) pos):=
 .val ⟨λ{φ rs vs st s K Q} P e q=>Subscript_ (ho.e.run P e λZ Z Z Z e P=>wpAny_Slice (by
  rw[evalPart_none,evalPart_some]
  exact wpAny_pure (wpAny_pure (wpAny_UnaryOp (wpAny_Constant_int (neg_int (P.v1 e λc a e y z=>aM e λr e k=>wpAny_mono (Tz y e) (λv s' p=>q _ _ _ _ k (z.op p)) λZ Z y=>y)))))))⟩ λZ Z=>rfl
end
end Mine.Internal
namespace Mine.Internal
open PySem
noncomputable def LC:List Nat:=[73,78,85,90,97,104,111,118,125,139,153,160,167,174,181,186,193,198,203,210,224,231,238,266,280,287,294,301,318,323,328,335,343,351,358,366,380,387,394,401,408,422,429,436,441,448,455,462,469,476,483,490,497,503,510,517,524,529,536,543,564,571,576,583,590,595,600,605,612,617,622,627,632]
noncomputable def vr:List (Option Str):=[some ("is_surrogate" : Str),some ("codes_of" : Str),some ("octets_of_ascii" : Str),some ("ascii_of" : Str),some ("hex_code" : Str),some ("hex_value" : Str),some ("code_of_hex" : Str),some ("whole_of" : Str),some ("place_by_half" : Str),none,some ("small_code" : Str),some ("small_span" : Str),some ("small_ranges" : Str),some ("small_listed" : Str),some ("small_file" : Str),some ("small_codes" : Str),some ("small_optional" : Str),some ("small_main_file" : Str),some ("small_pair_files" : Str),some ("range_are_like" : Str),none,none,none,some ("data_defaults" : Str),none,none,none,none,some ("ucd_lines" : Str),some ("rows_of" : Str),some ("missing_rows" : Str),some ("code_of_field" : Str),some ("range_of" : Str),some ("codes_of_field" : Str),some ("word_of_field" : Str),some ("fraction_of" : Str),none,none,none,none,none,some ("unicode_rows" : Str),some ("ucd_basic_puts" : Str),some ("ucd_name_puts" : Str),some ("ucd_mapping_puts" : Str),some ("ucd_number_puts" : Str),some ("ucd_case_puts" : Str),some ("ucd_puts_of" : Str),some ("read_unicode_data" : Str),some ("ucd_value" : Str),some ("ucd_check_apart" : Str),some ("ucd_ranged" : Str),some ("ucd_missing_puts" : Str),some ("read_property" : Str),some ("ucdmore_fields" : Str),some ("ucdmore_check_once" : Str),some ("ucdmore_put" : Str),some ("read_brackets" : Str),some ("read_mirrors" : Str),some ("read_confusables" : Str),some ("_law_draw" : Str),some ("_law_pick" : Str),some ("_law_plain" : Str),some ("_law_hex" : Str),some ("_law_number" : Str),some ("_law_hexes" : Str),some ("_law_sign" : Str),some ("_law_spans" : Str),some ("_law_main_right" : Str),some ("_law_file_right" : Str),some ("_law_split" : Str),some ("_law_pairs_right" : Str),some ("law" : Str)]
noncomputable def Vc:List (List Str):=[QU,QO,Rc,QL,QS,QT,QN,RQ,Rd,QF,Ro,Rx,Rw,Rr,Rq,Rp,Ru,Rt,Rv,Rf,QD,QC,QE,QQ,Qz,QB,Qy,QA,RB,Rn,Rb,QM,Rg,QP,RT,QR,QH,QK,QJ,QG,QI,RP,Ry,RE,RC,RF,Rz,RH,Rl,RK,RA,RJ,RD,Rk,RM,RL,RO,Rh,Rj,Ri,QW,Q6,Q7,QY,Q4,QZ,Q8,Q9,Q0,QX,Ra,Q5,QV]
noncomputable def Az:List Str:=["SmallSign","UnicodeRow","RangeMap","Data"]
noncomputable def Qr:List Str:=["word","one_of","code_or_none","is_range","put","map_of"]
noncomputable def iM:List Str:=["bc","ccc","code","default","defaults","fields","first","gc","last","lower","maps","name","number","parts","properties","script","starts","tag","title","upper","values","words"]
noncomputable def PA:List Nat:=[142,141,139,411,410,380,387,394,401,408,255,254,224,231,238,304,303,280,287,294,301]
noncomputable def fA(f:Nat):Addr:=LC.getD f 0
noncomputable def fN(f:Nat):Option Str:=(vr[f]?).join
noncomputable def cN(c:Nat):Option Str:=Az[c]?
noncomputable def gN(k:Nat):Option Str:=CF[k]?
noncomputable def mN(k:Nat):Option Str:=if k=1000 then some "get" else Qr[k]?
end Mine.Internal
namespace Mine.Internal
open PySem PySem.Calls PyProof.Rows PySem.W
noncomputable def cR(vals:List Value):Nat->Value:=λi=>vals.getD i .none
noncomputable abbrev ie:Nat->Nat->Value:=λZ Z=>.none
noncomputable abbrev qe(as:List VS)(H:HH):St:=⟨as.map some,[],[],H⟩
structure tY(w:World)(B:Heap)(c:Cf)(s:Shared)(as:List VS)(vals:List Value)(x:VS)(fin:List VS)(H':HH)(v:Value)(c':Cf)(s':Shared):Prop where
 mv:Mv c s c' s'
 len:as.length<=fin.length
 gd:Gd w B c' s'.heap ⟨[],[],[],H'⟩ (cR vals) ie [bB x] [v]
 sl:∀(i:Nat) k y,as[i]?=some (.own k)->fin[i]?=some y->SV w c' s'.heap (.slot i) y (cR vals i)
def mn(A:Around)(k:Nat):Prop:=A.handled=none/\A.depth+5*k<=504/\A.units+20*k<=2010
theorem Rm.f{A:Around}{k:Nat}(R:Rm A k):mn A k:=⟨R.1,Nat.le_trans R.2.1 (by decide),Nat.le_trans R.2.2 (by decide)⟩
structure fF(w:World)(B:Heap)(k:Nat)(F:FT):Prop where
 run:∀{f:Nat} {as:List VS} {H:HH} {K:VS->List VS->HH->Prop} {A:Around} {s:Shared} {c:Cf} {vals:List Value} {R:Result->Shared->Prop},F f as H K->mn A k->vals.length=as.length->Gd w B c s.heap (qe as H) (cR vals) ie [] []->
  (∀x fin H' v s' c',K x fin H'->tY w B c s as vals x fin H' v c' s'->R (.ok (.ret v)) s')->codeAny (model aL w) A (.call (.ref (fA f)) ⟨vals,[]⟩) R s
noncomputable def px(j:Nat):ER->Bool
 | .loc i=>Nat.beq i j
 | _=>false
noncomputable def posOf:List ER->Nat->Option Nat
 | [],_=>none
 | r::l,j=>bif px j r then some 0 else(posOf l j).map (·+1)
theorem DN{j:Nat}{r:ER}(e:px j r=true):r=.loc j:=by
 cases r<;>first | exact congrArg ER.loc (Nat.eq_of_beq_eq_true e) | cases e
theorem Ga{j:Nat}:∀{l:List ER} {i:Nat},posOf l j=some i->l[i]?=some (.loc j)
 | [],_,e=>nomatch e
 | r::l,i,e=>by
  unfold posOf at e
  cases q:px j r with
  | true=>rw[q] at e;exact Option.some.inj e▸congrArg some (DN q)
  | false=>
   rw[q] at e
   refine(Option.map_eq_some_iff.mp e).elim λa p=>?_
   rw[←p.2]
   exact show l[a]?=_ from Ga p.1
theorem F9:∀{l:List ER} {i j:Nat},(fY l).Nodup->l[i]?=some (.loc j)->posOf l j=some i
 | [],_,_,_,e=>nomatch e
 | r::l,0,j,_,e=>by
  unfold posOf
  rw[Option.some.inj e,show px j (.loc j)=true from Nat.beq_refl j];rfl
 | r::l,i+1,j,hn,e=>by
  unfold posOf
  have m:j∈fY l:=List.mem_filterMap.mpr ⟨.loc j,List.mem_of_getElem? e,rfl⟩
  cases q:px j r with
  | true=>rw[DN q] at hn;exact absurd m (List.nodup_cons.mp hn).1
  | false=>rw[F9 (l:=l) (i:=i) (hn.sublist ((List.sublist_cons_self _ _).filterMap wY)) e];rfl
noncomputable def wU:Option Nat->Ow
 | some i=>.slot i
 | none=>.other
noncomputable def lend(m:Nat)(g:Nat->Nat)(l:List ER):Ow->Option Ow
 | .slot j=>some (wU (posOf l j))
 | .tmp j=>some (bif Nat.ble m j then .slot (g j) else .other)
 | .heap a=>some (.heap a)
 | _=>some .other
noncomputable def zS(d:Option Ow):Option ER->Option Ow
 | some (.loc j)=>some (.slot j)
 | _=>d
noncomputable def bk(l:List ER)(n:Ow->Option Ow):Ow->Option Ow
 | .slot i=>zS (n (.slot i)) l[i]?
 | .heap a=>some (.heap a)
 | o=>n o
noncomputable def mE(ψ:Ow->Option Ow)(o:Option Ow):Option Ow->Option Ow
 | some .other=>o
 | some x=>ψ x
 | none=>none
noncomputable def Cf.back(c c':Cf)(ψ:Ow->Option Ow):Cf:=⟨c'.γ,λb=>mE ψ (c.ow b) (c'.ow b)⟩
section
variable{c c':Cf}{s s':Shared}{φ ψ:Ow->Option Ow}
theorem qD(M:Mv (c.map φ) s c' s'){o:Ow}(e:φ o=some .other):Kp c s.heap (some o) (c.back c' ψ) s'.heap (some o):=λb x q q'=>
 have p:=M.ko b x ((congrArg (·.bind φ) q).trans e) q'
 ⟨(congrArg (mE ψ (c.ow b)) p.1).trans q,p.2⟩
theorem oz(M:Mv (c.map φ) s c' s'):Le c s.heap (c.back c' ψ) s'.heap:=⟨λl a e=>M.le.g l a e,λb x q q'=>
 have p:=M.le.k b x (congrArg (·.bind φ) q) q'
 ⟨congrArg (mE ψ (c.ow b)) p.1,p.2⟩⟩
theorem qC{h:Heap}{o:Ow}{n:Option Ow}(ho:o≠.other)(e:ψ o=n):Kp c' h (some o) (c.back c' ψ) h n:=λb x q q'=>
 ⟨(congrArg (mE ψ (c.ow b)) q).trans (match o,ho,e with
  | .other,ho,_=>absurd rfl ho
  | .slot _,_,e=>e
  | .tmp _,_,e=>e
  | .heap _,_,e=>e
  | .env,_,e=>e),q'⟩
theorem oA{h:Heap}:Le c' h (c.back c' ψ) h:=⟨λZ Z e=>e,λb x q q'=>⟨congrArg (mE ψ (c.ow b)) q,q'⟩⟩
theorem JU{b:Addr}{o:Ow}(e:(c.back c' ψ).ow b=some o):∃o',c'.ow b=some o':=match q:c'.ow b with
 | some o'=>⟨o',rfl⟩
 | none=>nomatch (congrArg (mE ψ (c.ow b)) q).symm.trans e
end
structure Back(l:List ER)(fin:List VS)(st st':St):Prop where
 κ:st'.κ=st.κ
 lk:st'.lk=st.lk
 H:st'.H=st.H
 len:st'.σ.length=st.σ.length
 full:∀i,Full st' i ↔ Full st i
 sl:∀(j:Nat) y,st'.σ[j]?=some (some y)->(st.σ[j]?=some (some y)/\((∀i:Nat,l[i]?≠some (.loc j))∨∃a,y=.val a))∨∃(i:Nat) (k:AC),l[i]?=some (.loc j)/\st.σ[j]?=some (some (.own k))/\fin[i]?=some y
theorem Back.skip{r:ER}{l:List ER}{x:VS}{fin:List VS}{st st':St}(b:Back l fin st st')(h:∀j,r=ER.loc j->∀k:AC,st.σ[j]?≠some (some (VS.own k))):Back (r::l) (x::fin) st st':=
 ⟨b.κ,b.lk,b.H,b.len,b.full,λj y e=>(b.sl j y e).elim (λp=>.inl ⟨p.1,p.2.elim (λn=>match y,p.1 with
  | .val a,_=>.inr ⟨a,rfl⟩
  | .own k,p1=>.inl λi=>match i with
   | 0=>λz=>h j (Option.some.inj z) k p1
   | i+1=>n i) .inr⟩) λp=>.inr (p.elim λi p=>⟨i+1,p⟩)⟩
theorem Back.put{i:Nat}{l:List ER}{x:VS}{fin:List VS}{st st':St}{k:AC}(b:Back l fin {st with σ:=st.σ.set i (some x)} st')(e:st.σ[i]?=some (some (.own k)))(n:i∉fY l):Back (.loc i::l) (x::fin) st st':=
 have fi:Full st i:=⟨_,e⟩
 ⟨b.κ,b.lk,b.H,b.len.trans List.length_set,λj=>(b.full j).trans (fi.set j),λj y q=>(b.sl j y q).elim
  (λp=>(set_inv p.1).elim (λz=>z.1▸.inr ⟨0,k,rfl,e,congrArg some (Option.some.inj z.2).symm⟩) λz=>.inl ⟨z.2,p.2.imp (λn i'=>match i' with
   | 0=>λz'=>z.1 (ER.loc.inj (Option.some.inj z'))
   | i'+1=>n i') id⟩)
  λp=>.inr (p.elim λi' p=>p.elim λk' p=>⟨i'+1,k',p.1,(set_inv p.2.1).elim (λz=>absurd (List.mem_filterMap (f:=wY).mpr ⟨ER.loc j,List.mem_of_getElem? p.1,rfl⟩) (z.1▸n)) (·.2),p.2.2⟩)⟩
theorem mW:∀{l:List ER} {fin:List VS} {st:St} {K:St->Prop},(fY l).Nodup->dZ l fin st K->∃st',K st'/\Back l fin st st'
 | [],_,st,_,_,e=>⟨st,e,rfl,rfl,rfl,rfl,λZ=>Iff.rfl,λj y q=>.inl ⟨q,.inl λi=>nofun⟩⟩
 | _::_,[],_,_,_,e=>e.elim
 | .val a::l,x::fin,_,_,n,e=>(mW (l:=l) n e).imp λst' p=>⟨p.1,p.2.skip λj=>nofun⟩
 | .own a::l,x::fin,_,_,n,e=>(mW (l:=l) n e).imp λst' p=>⟨p.1,p.2.skip λj=>nofun⟩
 | .loc i::l,x::fin,⟨σ,lk,κ,H⟩,K,n,e=>by
  have n:(i::fY l).Nodup:=n
  have e:(match σ[i]? with
   | some (some (.own _))=>dQ (some x) σ i λσ=>dZ l fin ⟨σ,lk,κ,H⟩ K
   | _=>dZ l fin ⟨σ,lk,κ,H⟩ K):=e
  have skip:dZ l fin ⟨σ,lk,κ,H⟩ K->(∀k:AC,σ[i]?≠some (some (VS.own k)))->∃st',K st'/\Back (.loc i::l) (x::fin) ⟨σ,lk,κ,H⟩ st':=λe h=>
   (mW (List.nodup_cons.mp n).2 e).imp λst' p=>⟨p.1,p.2.skip λj z=>ER.loc.inj z▸h⟩
  match q:σ[i]? with
  | some (some (.own k))=>rw[q] at e;exact(mW (List.nodup_cons.mp n).2 (jb _ _ _ e)).imp λst' p=>⟨p.1,p.2.put q (List.nodup_cons.mp n).1⟩
  | some (some (.val a))=>rw[q] at e;exact skip e λk z=>nomatch q.symm.trans z
  | some none=>rw[q] at e;exact skip e λk z=>nomatch q.symm.trans z
  | none=>rw[q] at e;exact skip e λk z=>nomatch q.symm.trans z
theorem kG:∀{l:List ER} {st:St} {as:List VS},dB l st=some as->l.length=as.length/\∀(i:Nat) x,as[i]?=some x->∃r,l[i]?=some r/\my r st=some x
 | [],_,_,e=>Option.some.inj e▸⟨rfl,λi x q=>nomatch q⟩
 | r::l,st,as,e=>by
  unfold dB at e
  match q:my r st,q':dB l st with
  | some a,some zD=>
   rw[q,q'] at e
   exact Option.some.inj e▸⟨congrArg Nat.succ (kG q').1,λi x z=>match i,z with
    | 0,z=>⟨r,rfl,q.trans z⟩
    | i+1,z=>(kG q').2 i x z⟩
  | some _,none=>rw[q,q'] at e;cases e
  | none,_=>rw[q] at e;cases e
theorem aZ.args{w:World}{c:Cf}{h:Heap}{st:St}{ak:Nat->Value}:∀{l:List ER} {us:List Value} {rs:List ER} {vs:List Value},l.length=us.length->aZ w c h st ak (l.reverseAux rs) (us.reverseAux vs)->
  aZ w c h st ak rs vs/\∀(i:Nat) r u,l[i]?=some r->us[i]?=some u->RR w c h st ak (.tmp (rs.length+i)) r u
 | [],[],_,_,_,x=>⟨x,λi r u e=>nomatch e⟩
 | _::_,[],_,_,e,_=>nomatch e
 | [],_::_,_,_,e,_=>nomatch e
 | r::l,u::us,rs,vs,e,x=>have p:=aZ.args (l:=l) (us:=us) (rs:=r::rs) (vs:=u::vs) (Nat.succ.inj e) x
  ⟨p.1.tl,λi r' u' q q'=>match i,q,q' with
   | 0,q,q'=>Option.some.inj q▸Option.some.inj q'▸p.1.hd
   | i+1,q,q'=>(show rs.length+1+i=rs.length+(i+1) by exact Nat.add_right_comm _ _ _)▸p.2 i r' u' q q'⟩
section
variable{w:World}{B:Heap}{c:Cf}{h:Heap}{st st':St}{ak:Nat->Value}{aN:Nat->Nat->Value}{rs l:List ER}{vs us:List Value}{as fin:List VS}{m:Nat}{g:Nat->Nat}
def Pl(w:World)(c:Cf)(h:Heap)(st:St)(ak:Nat->Value)(m:Nat)(g:Nat->Nat)(l:List ER)(us:List Value):Prop:=∀(i:Nat) r,l[i]?=some r->∃j,m<=j/\g j=i/\RR w c h st ak (.tmp j) r (cR us i)
theorem Jv{i:Nat}{u:Value}(e:us[i]?=some u):cR us i=u:=by unfold cR;rw[List.getD_eq_getElem?_getD,e];rfl
theorem Gd.lend(G:Gd w B c h st ak aN rs vs)(nd:(fY l).Nodup)(ha:dB l st=some as)(pl:Pl w c h st ak m g l us):Gd w B (c.map (lend m g l)) h (qe as st.H) (cR us) ie [] []:=
 G.p0 (λZ=>rfl) rfl (λi x e=>by
  have e:(as.map some)[i]?=some (some x):=e
  rw[List.getElem?_map] at e
  refine(Option.map_eq_some_iff.mp e).elim λx' e=>((kG ha).2 i x (e.1.trans (congrArg some (Option.some.inj e.2)))).elim λr p=>(pl i r p.1).elim λj q=>?_
  have z:=q.2.2
  have lt:Mine.Internal.lend m g l (.tmp j)=some (.slot i):=by
   show some (bif Nat.ble m j then Ow.slot (g j) else .other)=_
   rw[Nat.ble_eq_true_of_le q.1,q.2.1];rfl
  cases r with
  | val a=>exact Option.some.inj p.2▸VR.le (.map _) a z
  | own k=>exact Option.some.inj p.2▸z.imp λa z=>⟨z.1,OR.le (.map _) k (.map lt) z.2⟩
  | loc s=>
   refine z.2.elim λy hy=>z.1▸?_
   have e:(match st.σ[s]? with
    | some (some x)=>some x
    | _=>none)=some x:=p.2
   rw[hy] at e
   exact Option.some.inj e▸(G.slt s y hy).kp (c':=c.map (Mine.Internal.lend m g l)) (.map _) (.map (o:=.slot s) (congrArg (λo=>some (wU o)) (F9 nd p.1)))) (λd i fr v e=>nomatch e) rfl
theorem J3{i j:Nat}{n:Ow->Option Ow}(e:l[i]?=some (.loc j)):bk l n (.slot i)=some (.slot j):=congrArg (zS _) e
end
section
variable{J:Om}{φ:Fm}{c c':Cf}{st st':St}{s s':Shared}{rs l:List ER}{vs us:List Value}{as fin:List VS}{g:Nat->Nat}{x:VS}{H:HH}{v:Value}{n:Ow->Option Ow}
theorem aF.back(a:aF J φ c rs vs st s)(pl:Pl J.w c s.heap st φ.ak rs.length g l us)(ha:dB l st=some as)(p:tY J.w J.B (c.map (lend rs.length g l)) s as us x fin H v c' s')(b:Back l fin ⟨st.σ,st.lk,st.κ,H⟩ st') :
  aF J φ (c.back c' (bk l n)) rs vs st' s' where
 ok:=a.ok
 mv:=⟨p.mv.se.trans (by rw[a.mv.se]),a.mv.le.trans (oz p.mv),a.mv.ko.trans (qD p.mv rfl)⟩
 ke:=a.ke.trans (qD p.mv rfl)
 sh:=a.sh.trans ⟨b.κ,b.lk,b.len,b.full⟩
 gd:={
  base:=p.gd.base
  ok:=λd o e=>(JU e).elim λo' e=>p.gd.ok d o' e
  cO:=p.gd.cO.trans (congrArg List.length b.H.symm)
  cq:=λi k d e e'=>OR.le oA k (qC (o:=.heap i) nofun rfl) (p.gd.cq i k d (b.H▸e) e')
  slt:=λj y e=>(b.sl j y e).elim
   (λq=>match y,q with
    | .val d,q=>VR.le (oz p.mv) d (a.gd.slt j _ q.1)
    | .own k,q=>q.2.elim (λn=>(a.gd.slt j _ q.1).kp (oz p.mv) (qD p.mv (by
      show some (wU (posOf l j))=_
      cases z:posOf l j with
      | none=>rfl
      | some i=>exact absurd (Ga z) (n i)))) λz=>z.elim λZ z=>nomatch z)
   λq=>q.elim λi q=>q.elim λk q=>(pl i _ q.1).elim λj' z=>by
    refine z.2.2.1▸(p.sl i k y ?_ q.2.2).kp oA (qC (o:=.slot i) nofun (J3 q.1))
    have il:i<as.length:=(kG ha).1▸cu q.1
    refine((kG ha).2 i _ (List.getElem?_eq_getElem il)).elim λr w=>?_
    have e:r=.loc j:=Option.some.inj (w.1.symm.trans q.1)
    rw[e] at w
    have e:(match st.σ[j]? with
     | some (some x)=>some x
     | _=>none)=some as[i]:=w.2
    rw[show st.σ[j]?=_ from q.2.1] at e
    exact(List.getElem?_eq_getElem il).trans e.symm
  dc:=λd i fr v e e'=>VR.le (oz p.mv) v (a.gd.dc d i fr v (b.κ▸e) e')
  bw:=aZ.kp (st:=st) (oz p.mv) (λi=>(b.full i).mpr) (λj hj=>qD p.mv (by
   show some (bif Nat.ble rs.length j then Ow.slot (g j) else .other)=_
   rw[Bool.eq_false_iff.mpr λz=>Nat.lt_irrefl _ (Nat.lt_of_lt_of_le hj (Nat.le_of_ble_eq_true z))];rfl)) a.gd.bw}
end
end Mine.Internal
namespace Mine.Internal
open PySem PySem.Calls PyProof.Rows PySem.W Builtin Builtin.ObjectAttr
noncomputable def dE(h:Heap):Frag:=PA.filterMap λa=>(h.get? a).map λo=>(a,o)
theorem EG:∀{l:List (Addr×Obj)} {a:Addr} {o:Obj},l.lookup a=some o->(a,o)∈l
 | [],a,o,e=>nomatch e
 | (b,p)::r,a,o,e=>by
  rw[List.lookup_cons] at e
  cases q:a==b with
  | true=>rw[q] at e;exact eq_of_beq q▸Option.some.inj e▸List.mem_cons_self
  | false=>rw[q] at e;exact List.mem_cons_of_mem _ (EG e)
theorem oY{h:Heap}:(dE h).In h:=λa o e=>(List.mem_filterMap.mp (EG e)).elim λb q=>(Option.map_eq_some_iff.mp q.2).elim λo' p=>(Prod.mk.inj p.2).1▸(Prod.mk.inj p.2).2▸p.1
structure y4(K:Frag)(c:Nat):Prop where
 make:makesIn K (cy c)=true
 init:findIn K (.ref (cy c)) "__init__" = some (some (.ref (fA (tab.init c))))
 wu:typeIn K (.ref (fA (tab.init c)))=some (.type "function")
 ga:findIn K (.ref (cy c)) "__getattribute__" = some (some (.builtin "object.__getattribute__"))
 gk:findIn K (.ref (cy c)) "__getattr__" = some none
 sa:findIn K (.ref (cy c)) "__setattr__" = some (some (.builtin "object.__setattr__"))
 plain:plainOver K (cy c)=true
 dct:(clsIn K (cy c)).any (·.hasDict)=true
 fld:∀x∈iM,findIn K (.ref (cy c)) x=some none
 aw:∀k f,tab.aw c k=some f->∃x,mN k=some x/\x∈nv/\findIn K (.ref (cy c)) x=some (some (.ref (fA f)))/\typeIn K (.ref (fA f))=some (.type "function")
noncomputable def mg(B:Heap):Str->Option Value:=B.nsMap mainGlobals
noncomputable abbrev c0:Cf:=⟨[],λZ=>none⟩
def FO(B:Heap)(f:Nat):Prop:=∃o fd,B.get? (fA f)=some o/\o.data=.func fd
structure Wd(w:World)(B:Heap):Prop where
 g:B.Ns mainGlobals (mg B)
 b:B.Ns builtinsNs (B.nsMap builtinsNs)
 bi:∀x:Str,x≠"__name__"->B.nsMap builtinsNs x=bootBuiltins x
 fn:∀f x,fN f=some x->mg B x=some (.ref (fA f))/\FO B f
 gl:∀k x,gN k=some x->∃v a,mg B x=some v/\tab.kX[k]?=some a/\VR w c0 B a v
 cl:∀c x,cN c=some x->mg B x=some (.ref (cy c))
 cls:∀c,y4 (dE B) c
 mf:∀c k f,tab.aw c k=some f->FO B f
section
variable{w:World}{c:Cf}{h:Heap}
theorem cf.get:∀{fs:List (Key×O)} {m:Str->Option Value} {x:Str} {a:O},cf w c h fs m->bt fs (.s x)=some a->∃u,m x=some u/\VR w c h a u
 | [],_,_,_,_,e=>nomatch e
 | (k,v)::r,m,x,a,f,e=>by
  by_cases q:k=.s x
  .have e1:bt ((k,v)::r) (.s x)=some v:=congrArg (Option.map _) (List.find?_cons_of_pos (by exact decide_eq_true q))
   refine f.1.elim λy f=>f.elim λu f=>⟨u,?_,Option.some.inj (e1.symm.trans e)▸f.2.2.2⟩
   exact Key.s.inj (f.1.symm.trans q)▸f.2.2.1
  .have e1:bt ((k,v)::r) (.s x)=bt r (.s x):=congrArg (Option.map _) (List.find?_cons_of_neg (by exact λz=>q (of_decide_eq_true z)))
   exact cf.get f.2 (e1.symm.trans e)
set_option tactic.hygienic true in
theorem kr.at{a dx:Addr}{k:Nat}{m:Str->Option Value}(i:kr h a k dx)(n:h.Ns1 dx m):∃ox od es ep,h.get? a=some ox/\h.get? dx=some od/\od.data=.dict es ep/\ox.dict=some dx/\InstAt h a ox (cy k) (some od)/\∀x,lookIn x od=some (m x):=by
 refine i.elim λox i=>n.elim λod n=>n.elim λes n=>n.elim λep n=>⟨ox,od,es,ep,i.1,n.1,n.2.1,i.2.2.2,⟨i.1,i.2.1,?_,i.2.2.2▸n.1⟩,λx=>?_⟩
 .unfold notCls
  split
  .rename_i d hh;exact absurd hh (i.2.2.1 d)
  .rfl
 .unfold lookIn
  rw[n.2.1]
  dsimp only
  have e1:m x=(es.toList.find? (·.key.isStr x)).map (·.val):=by
   rw[←n.2.2.2.2 x]
   unfold nsFind findBy
   rw[←Array.find?_toList]
  cases q:es.toList.find? (·.key.isStr x) with
  | some e=>rw[e1,q];rfl
  | none=>
   rw[e1,q,List.any_eq_false.mpr λe he=>by
    refine(n.2.2.1 e (Array.mem_toList_iff.mp he)).elim λs z=>z.elim λt z=>?_
    unfold DictEntry.refKey
    rw[z]
    exact Bool.false_ne_true];rfl
theorem Ng:∀{a:O} {v:Value},VR w c h a v->handedIn v=true
 | .none,_,x=>VW.none (VR.vw x) rfl
 | .bool _,_,x=>VW.bool (VR.vw x) rfl
 | .int _,_,x=>VW.int (VR.vw x) λZ=>rfl
 | .str _,_,x=>VW.str (VR.vw x) λZ Z=>rfl
 | .bytes _,_,x=>VW.bytes (VR.vw x) λZ Z=>rfl
 | .tup _,_,x=>VW.tup (VR.vw x) λZ Z Z Z Z Z Z=>rfl
 | .ao _,_,x=>x.elim λa e=>e.1▸rfl
 | .ref _,_,x=>x.elim λa e=>e.1▸rfl
end
section
variable{w:World}{B:Heap}{A:Around}{E:Value->Shared->Prop}{s:Shared}{c:Cf}
@[elab_as_elim] theorem VW.inst{k:Nat}{fs:List (Key×O)}{v:Value}{h:Heap}{P:Value->Prop}(x:VW w c h (.ao (.inst k fs)) v)(q:∀a dx m,(fs.length<=20/\∀e∈fs,lH e.1=true)->kr h a k dx->h.Ns1 dx m->cf w c h fs m->(∀x,cg fs (.s x)=false->m x=Option.none)->P (.ref a)):P v:=
 x.elim λa x=>x.elim λo x=>x.1▸x.2.2.2.2.elim λdx y=>y.elim λm y=>q a dx m x.2.2.1 y.2.2.1 y.2.2.2.1 y.2.2.2.2.1 y.2.2.2.2.2
theorem JF{prog:Program}{expr:Bool}{v:O}{x:Str}{a:O}{u:Value}(W:Wd w B)(hB:Sub B s.heap)(hx:VW w c s.heap v u)(hf:x∈iM)(e:cY v x=some a) :
  wpAny (model prog w) A (getAttr u x expr) (aE w c s (.val a)) E s:=by
 refine(sW e).elim λk p=>?_
 cases k with
 | inst n fs=>
  refine VW.inst (P:=λu=>wpAny (model prog w) A (getAttr u x expr) (aE w c s (.val a)) E s) (p.1▸hx) λl dx m Z hi hn hv hz=>(hi.at hn).elim λox p1=>p1.elim λod p1=>p1.elim λes p1=>p1.elim λep ah=>(hv.get p.2).elim λy hy=>?_
  have C:=W.cls n
  refine(any_some C.dct).elim λcd hc=>get_value (oY.keeps hB) ah.2.2.2.2.1 C.ga (v:=y) ?_ (Ng hy.2) (aE.val hy.2)
  unfold findObj
  rw[hc.1,C.fld x hf]
  simp only[Option.bind_some,PySem.W.ownOf,hc.2,if_true,ah.2.2.2.2.2 x,hy.1]
 | _=>exact nomatch p.2
theorem Qe{prog:Program}{pl:Sem Bool}{n k f:Nat}{fs:List (Key×O)}{x:Str}{v:Value}{Q:Value×List Value->Shared->Prop}(W:Wd w B)(hB:Sub B s.heap)(hx:VW w c s.heap (.ao (.inst n fs)) v)
  (hm:tab.aw n k=some f) (hn:mN k=some x) (h:Q (.ref (fA f),[v]) s):wpAny (model prog w) A (getMethod v x pl) Q E s:=by
 have C:=W.cls n
 refine(C.aw k f hm).elim λx' z=>?_
 have e:x'=x:=Option.some.inj (z.1.symm.trans hn)
 rw[e] at z
 refine VW.inst (P:=λv=>Q (.ref (fA f),[v]) s->wpAny (model prog w) A (getMethod v x pl) Q E s) hx (λl dx m ok hi dk hv hz h=>(hi.at dk).elim λox p1=>p1.elim λod p1=>p1.elim λes p1=>p1.elim λep ah=>method_fn (oY.keeps hB) ah.2.2.2.2.1 C.ga C.gk z.2.2.1 z.2.2.2 ?_ h) h
 have e:m x=none:=hz x (List.any_eq_false.mpr λe he q=>by
  have h1:=ok.2 e he
  rw[of_decide_eq_true q] at h1
  have h2:(!nv.contains x)=true:=h1
  rw[List.contains_iff_mem.mpr z.2.1] at h2
  exact nomatch h2)
 unfold shadowIn
 dsimp only
 rw[ah.2.2.2.2.2 x,e];rfl
end
section
variable{J:Om}{φ:Fm}{c:Cf}{rs:List ER}{vs:List Value}{st:St}{s:Shared}{p:Pos}{x:Str}{v:Value}{Q:Value->Shared->Prop}
theorem At.glob(P:At J φ rs vs st s)(W:Wd J.w J.B)(hk:J.D.sc.names.lookup x=some .globalImplicit)(hd:dm x=true)(hv:mg J.B x=some v)(h:Q v s):wpAny J.M φ.A (eval (.Name x p) φ.env) Q φ.E s:=
 have V:=P.ok.bQ
 Name_function_global V.fr.fn ((lB V x).trans hk) (loadGlobal_global (by rw[V.fr.gl];exact W.g.keeps P.base) hv h) (sL hd)
theorem At.bi(P:At J φ rs vs st s)(W:Wd J.w J.B)(hk:J.D.sc.names.lookup x=some .globalImplicit)(hd:dm x=true)(hm:mg J.B x=none)(hn:x≠"__name__")(hv:bootBuiltins x=some v)(h:Q v s):wpAny J.M φ.A (eval (.Name x p) φ.env) Q φ.E s:=
 have V:=P.ok.bQ
 Name_function_global V.fr.fn ((lB V x).trans hk) (loadGlobal_builtin (by rw[V.fr.gl];exact W.g.keeps P.base) hm (by rw[V.fr.bi];exact W.b.keeps P.base) ((W.bi x hn).trans hv) h) (sL hd)
theorem aF.xf(a:aF J φ c rs vs st s):Le c0 J.B c s.heap:=⟨λl a e=>(nomatch e),λb x Z e=>⟨match q:c.ow b with
 | none=>rfl
 | some o=>(nomatch e.symm.trans (a.gd.ok b o q).1),a.gd.base b x e⟩⟩
theorem V3{i:Nat}{pos}(W:Wd J.w J.B)(hk:J.D.sc.names.lookup x=some .globalImplicit)(hd:dm x=true)(hn:gN i=some x):aB J (.glob i) (.Name x pos):=
 .val ⟨λP e q=>aM e λa e k=>(W.gl i x hn).elim λv g=>g.elim λa' g=>P.glob W hk hd g.1 (q _ _ _ _ k (P.elim λc A=>A.push (VR.le A.xf _ (Option.some.inj (g.2.1.symm.trans e)▸g.2.2))))⟩ λZ Z=>rfl
set_option tactic.hygienic true in
theorem Gd.inst{w:World}{B:Heap}{h:Heap}{ak:Nat->Value}{aN:Nat->Nat->Value}{o:Ow}{r:ER}{n:Nat}{k:AC}(g:Gd w B c h st ak aN rs vs)(x:RR w c h st ak o r v)(e:instOf r st=some (n,k)):∃fs,VW w c h (.ao (.inst n fs)) v:=by
 unfold instOf at e
 split at e
 .rename_i l Y
  split at e
  .rename_i c' fs hf
   exact(g.view x Y).ref λa hg=>⟨fs,(Prod.mk.inj (Option.some.inj e)).1▸⟨a,_,rfl,g.cq l _ a hf hg⟩⟩
  .cases e
 .rename_i c' fs hf
  exact⟨fs,(Prod.mk.inj (Option.some.inj e)).1▸g.view x hf⟩
 .cases e
theorem VI{o:ME}{a:Str}{y:Expr}{pos}(W:Wd J.w J.B)(ho:aB J o y)(hf:a∈iM)(I:∀env,attributeBase y a env (eval y env)=eval y env):aB J (.attr o a) (.Attribute y a pos):=
 .val ⟨λ{φ _ _ _ _ _ _} P e q=>by
  rw[arm_eval_Attribute,I]
  exact wpAny_bind (ho.e.run P e λr st' v s' e P=>wpAny_bind (wpAny_standAt (wpAny_bind (wpAny_holding (P.c1 e λc b e y z=>aM e λx e k=>wpAny_mono (JF W z.gd.base y hf e) (λv cU o=>wpAny_bind (wpAny_letTemporaryGo (wpAny_pure (q _ _ _ _ k (z.op o))))) λZ Z y=>y)))))⟩ λZ Z=>rfl
end
end Mine.Internal
namespace Mine.Internal
open PySem PySem.Calls PyProof.Rows PySem.W
section
variable{M:Model}{A:Around}{E:Value->Shared->Prop}{s:Shared}{env:Env}
theorem pO{x:Expr}{xs:List Expr}(h:(x::xs).all notStar=true):notStar x=true/\xs.all notStar=true:=Bool.and_eq_true_iff.mp h
theorem mR{f:Value}{xs:List Expr}{pos:Pos}{Q:Args->Shared->Prop}(hs:xs.all notStar=true)(h:wpAny M A (spliced (backTo pos (starEach xs env))) (λvs s'=>Q ⟨vs,[]⟩ s') E s) :
  wpAny M A (evalArgs f true (backTo pos (starEach xs env)) []) Q E s:=by
 cases xs with
 | nil=>
  unfold evalArgs
  show wpAny M A (spliced [] >>= _) Q E s
  refine wpAny_bind (wpAny_mono h (λvs s' h'=>?_) λZ Z x=>x)
  first
   | exact wpAny_holding (wpAny_bind (wpAny_pure (wpAny_bind (wpAny_pure (wpAny_pure h')))))
   | exact wpAny_bind (wpAny_pure (wpAny_holding (wpAny_bind (wpAny_pure (wpAny_bind (wpAny_pure (wpAny_pure h')))))))
 | cons x r=>
  rw[gV (pO hs).1] at h ⊢
  exact evalArgs_plain h
theorem nH:∀{xs:List Expr} {pos:Pos},xs.all notStar=true->(backTo pos (starEach xs env)).any (·.1)=false
 | [],pos,_=>rfl
 | x::r,pos,hs=>by
  rw[gV (pO hs).1]
  exact(congrArg (false||·) (nH (pO hs).2)).trans rfl
theorem Kq{w:World}{K:Frag}{C:Addr}{pos:Pos}{args:List (Bool×Sem Value)}{Q:Value->Shared->Prop}(hm:makesIn K C=true)(hp:args.any (·.1)=false)
  (h:wpAny (model aL w) A (evalArgs (.ref C) true args []) (λa aJ=>a.kw=[]/\K.In aJ.heap/\wpAny (model aL w) A (call (.ref C) a.pos) Q E aJ) E s) :
  wpAny (model aL w) A (callWith pos (.ref C) [] args []) Q E s:=by
 unfold callWith
 refine wpAny_bind (wpAny_holding (wpAny_mono h (λa aJ aV=>?_) λZ Z x=>x))
 obtain⟨A3,X,hc⟩:=aV
 obtain⟨ps,kw⟩:=a
 dsimp only at A3 hc
 subst A3
 have af:=makes_of (M:=model aL w) X hm
 obtain⟨oc,od,cd,sl,hC,_⟩:=af.obj
 refine wpAny_bind (wpAny_standAt ?_)
 show wpAny _ _ (keeperOf (.ref C) >>= _) _ _ _
 unfold keeperOf
 refine wpAny_bind (wpAny_bind (wpAny_load hC ?_))
 refine wpAny_bind (af.call.here ?_)
 refine wpAny_pure ?_
 rw[if_pos (by rfl),hp]
 exact wpAny_bind (wpAny_mono hc (λr s' hr=>wpAny_bind (wpAny_holding (wpAny_point (wpAny_pure hr)))) λZ Z x=>x)
end
noncomputable def J2(m:Nat):Ow->Option Ow
 | .tmp 0=>some (.tmp m)
 | _=>none
noncomputable def J1(m:Nat):Ow->Option Ow
 | .slot 0=>some (.tmp m)
 | _=>none
theorem Jj{t:St->KT->Prop}{b:St->KS->Prop}{n:Nat}{st:St}{Q:KS}(h:om t b n st Q):n5 t b n st Q:=by unfold om at h;exact h
theorem I9{s:O->St->(St->Prop)->Prop}{b:St->KS->Prop}{l:List O}{st:St}{Q:KS}(h:n9 s b l st Q):di s b l st Q:=by unfold n9 at h;exact h
theorem I1{n:Nat}{bd:O->St->(St->Prop)->Prop}{c:St->KT->Prop}{e:St->KE->Prop}{items acc:List O}{st:St}{Q:List O->St->Prop}(h:CC n bd c e items acc st Q):wCs n bd c e items acc st Q:=by unfold CC at h;exact h
theorem y5{F:FT}{f:Nat}{as:List VS}{H:HH}{Q:VS->List VS->HH->Prop}(h:GK F f as H Q):F f as H Q:=by unfold GK at h;exact h
section
variable{J:Om}{φ:Fm}{c c':Cf}{l rs:List ER}{us vs:List Value}{st:St}{s s':Shared}{p pos:Pos}{x:Str}{xs:List Expr}{as:aW}{v:Value}{K:KE}{Q:Value->Shared->Prop}
theorem aF.args(a:aF J φ c (l.reverseAux rs) (us.reverseAux vs) st s)(Y:l.length=us.length):aF J φ c rs vs st s/\Pl J.w c s.heap st φ.ak rs.length (· - rs.length) l us:=
 have q:=aZ.args Y a.gd.bw
 ⟨⟨a.ok,a.mv,a.ke,a.sh,{a.gd with bw:=q.1}⟩,λi r e=>
  have lt:i<us.length:=Y▸cu e
  ⟨rs.length+i,Nat.le_add_right _ _,Nat.add_sub_cancel_left _ _,Jv (List.getElem?_eq_getElem lt)▸q.2 i r _ e (List.getElem?_eq_getElem lt)⟩⟩
theorem Ac{f:Nat}(SF:fF J.w J.B J.k (F J.k))(P:At J φ (l.reverseAux rs) (us.reverseAux vs) st s)(Y:l.length=us.length)(e:CK (F J.k) f l st K)(q:∀r st' v s',K r st'->At J φ (r::rs) (v::vs) st' s'->Q v s') :
  wpAny J.M φ.A (call (.ref (fA f)) us) Q φ.E s:=
 P.elim λc a=>ef e (λnd e=>aM e λas ha e=>by
  have nd:=of_decide_eq_true nd
  obtain⟨σ,lk,κ,H⟩:=st
  have A:=a.args Y
  refine wpAny_call (SF.run (y5 e) A.1.ok.rm.f (Y▸(kG ha).1) (A.1.gd.lend nd ha A.2) λx fin H' v s' c' k p=>?_)
  refine(mW nd k).elim λst' k=>q _ _ _ _ k.1 ((A.1.back (n:=J2 rs.length) A.2 ha p k.2).push ?_)
  have z:=p.gd.bw.hd
  cases x with
  | val b=>exact VR.le oA b z
  | own k'=>exact z.imp λa z=>⟨z.1,OR.le oA k' (qC (o:=.tmp 0) nofun rfl) z.2⟩) λZ e=>e.elim
theorem VM{f:Nat}(W:Wd J.w J.B)(SF:fF J.w J.B J.k (F J.k))(hs:cW J as xs)(hk:J.D.sc.names.lookup x=some .globalImplicit)(hd:dm x=true)(hn:fN f=some x):aB J (.call f as) (.Call (.Name x p) xs [] pos):=
 .val ⟨λP e q=>(W.fn f x hn).2.elim λo z=>z.elim λfd z=>Call_ (P.glob W hk hd (W.fn f x hn).1 (callWith_function (o:=o) (fd:=fd) (mR hs.ns (hs.run pos P e λl st' us s' k Y P=>⟨⟨P.base _ _ z.1,z.2⟩,Ac SF P Y k q⟩))))⟩ λZ Z=>rfl
theorem At.Ij{i:AC}(P:At J φ (.own i::rs) (v::vs) st s):At J φ (.val (.ref st.H.length)::rs) (v::vs) {st with H:=st.H++[i]} s:=by
 refine P.elim λc a=>a.hd.elim λad z=>?_
 have gl:=a.gd.cO
 have g1:∀(l:Nat) b,c.γ[l]?=some b->(c.γ++[ad])[l]?=some b:=λl b e=>(List.getElem?_append_left (cu e)).trans e
 have L:Le c s.heap ⟨c.γ++[ad],(c.map (chg (.tmp rs.length) (some (.heap c.γ.length)))).ow⟩ s.heap:=⟨g1,(Le.map _).k⟩
 have K:∀{o:Ow},o≠.tmp rs.length->Kp c s.heap (some o) ⟨c.γ++[ad],(c.map (chg (.tmp rs.length) (some (.heap c.γ.length)))).ow⟩ s.heap (some o):=λ{o} n b x q q'=>Kp.map (φ:=chg (.tmp rs.length) (some (.heap c.γ.length))) (iJ n) b x q q'
 refine⟨⟨c.γ++[ad],(c.map (chg (.tmp rs.length) (some (.heap c.γ.length)))).ow⟩,a.ok,⟨a.mv.se,a.mv.le.trans L,a.mv.ko.trans (K nofun)⟩,a.ke.trans (K nofun),⟨a.sh.κ,a.sh.lk,a.sh.len,a.sh.full⟩,{
  base:=a.gd.base
  ok:=λb o e=>match q:c.ow b with
   | some o'=>a.gd.ok b o' q
   | none=>nomatch (congrArg (·.bind (chg (.tmp rs.length) (some (.heap c.γ.length)))) q).symm.trans e
  cO:=by rw[List.length_append,List.length_append,gl];rfl
  cq:=λl k b e e'=>?_
  slt:=λj y e=>(a.gd.slt j y e).kp L (K (o:=.slot j) nofun)
  dc:=λd i fr u e e'=>VR.le L u (a.gd.dc d i fr u e e')
  bw:=aZ.mk (show ∃b,v=.ref b/\(c.γ++[ad])[st.H.length]?=some b from⟨ad,z.1,by rw[←gl,List.getElem?_append_right (Nat.le_refl _),Nat.sub_self];rfl⟩) (aZ.kp (st:=st) (st':={st with H:=st.H++[i]}) L (λZ q=>q) (λj hj=>K λe=>Nat.ne_of_lt hj (Ow.tmp.inj e)) a.gd.bw.tl)}⟩
 have e:(st.H++[i])[l]?=some k:=e
 have e':(c.γ++[ad])[l]?=some b:=e'
 by_cases Y:l<c.γ.length
 .rw[List.getElem?_append_left (gl▸Y)] at e
  rw[List.getElem?_append_left Y] at e'
  exact OR.le L k (K nofun) (a.gd.cq l k b e e')
 .have l0:l=c.γ.length:=by
   have:=cu e'
   rw[List.length_append] at this
   exact Nat.le_antisymm (Nat.lt_succ_iff.mp this) (Nat.not_lt.mp Y)
  rw[l0,gl,List.getElem?_append_right (Nat.le_refl _),Nat.sub_self] at e
  rw[l0,List.getElem?_append_right (Nat.le_refl _),Nat.sub_self] at e'
  have e:=Option.some.inj e
  have e':=Option.some.inj e'
  rw[l0,←e,←e']
  exact OR.le L i (λb x q q'=>Kp.map (φ:=chg (.tmp rs.length) (some (.heap c.γ.length))) uB b x q q') z.2
theorem aF.inst{n:Nat}(a:aF J φ c (l.reverseAux rs) (us.reverseAux vs) st s)(Y:l.length=us.length):∃c' g,aF J φ c' rs vs st {s with heap:=(s.heap.push emptyDict).push (instObj (cy n) s.heap.objs.size)}/\
  Pl J.w c' ((s.heap.push emptyDict).push (instObj (cy n) s.heap.objs.size)) st φ.ak rs.length g (.own (.inst n [])::l) (.ref (s.heap.objs.size+1)::us):=by
 have h1:(s.heap.push emptyDict).get? s.heap.objs.size=some emptyDict:=Heap.get?_push_size _ rfl
 have h2:((s.heap.push emptyDict).push (instObj (cy n) s.heap.objs.size)).get? (s.heap.objs.size+1)=some (instObj (cy n) s.heap.objs.size):=by heap_get
 have f2:(s.heap.push emptyDict).get? (s.heap.objs.size+1)=none:=Heap.get?_none_of_le (Nat.le_of_eq (Heap.size_push _ _))
 have a1:=(a.new (o:=some (.tmp (rs.length+l.length))) (Sub.push _ emptyDict) s.toks (dF _) ⟨_,h1⟩).new (o:=some (.tmp (rs.length+l.length))) (Sub.push _ (instObj (cy n) s.heap.objs.size)) s.toks f2 ⟨_,h2⟩
 have A:=a1.args Y
 refine⟨_,λj=>bif Nat.beq j (rs.length+l.length) then 0 else j - rs.length+1,A.1,λi=>match i with
  | 0=>λr e=>⟨rs.length+l.length,Nat.le_add_right _ _,congrArg (λb=>bif b then 0 else _) (Nat.beq_refl _),Option.some.inj e▸?_⟩
  | i+1=>λr e=>(A.2 i r e).elim λj q=>⟨j,q.1,?_,q.2.2⟩⟩
 .refine⟨_,rfl,if_pos rfl,⟨Nat.zero_le _,λe he=>nomatch he⟩,.nil,s.heap.objs.size,λZ=>none,(if_neg (Nat.ne_of_lt (Nat.lt_succ_self _))).trans (if_pos rfl),Nat.succ_ne_self _,⟨_,h2,rfl,(λd q=>nomatch q),rfl⟩,?_,trivial,λZ Z=>rfl⟩
  exact Heap.Ns1.of_empty ⟨_,#[],_,Heap.get?_push_of_some _ h1,rfl,λe he=>absurd he (by simp),λZ=>rfl⟩
 .have lt:i<l.length:=cu e
  have ne:Nat.beq j (rs.length+l.length)=false:=Bool.eq_false_iff.mpr λz=>by
   have:=Nat.eq_of_beq_eq_true z
   have:=q.2.1
   lia
  exact(congrArg (λb=>bif b then 0 else j - rs.length+1) ne).trans (congrArg Nat.succ q.2.1)
theorem Jc{T:Tab}{F:FT}{n:Nat}{G:Prop}(h:NK T F n l st K)(k:(fY l).Nodup->∀as,dB l st=some as->F (T.init n) (.own (.inst n [])::as) st.H (λx fin H=>sC T n l st.σ st.lk st.κ K x fin H)->G):G:=
 ef h (λnd e=>aM e λas ha e=>by obtain⟨σ,lk,κ,H⟩:=st;exact k (of_decide_eq_true nd) as ha (y5 e)) λZ e=>e.elim
theorem R3{T:Tab}{n:Nat}{x:VS}{fin:List VS}{H:HH}(h:sC T n l st.σ st.lk st.κ K x fin H):∃i vj,x=.val .none/\fin=.own i::vj/\dZ l vj ⟨st.σ,st.lk,st.κ,H⟩ λst=>BR (T.o3 n) (K (.val (.ref st.H.length)) {st with H:=st.H++[i]}) (K (.own i) st):=by
 unfold sC at h
 split at h
 .split at h
  .exact⟨_,_,rfl,rfl,h⟩
  .exact h.elim
 .exact h.elim
theorem R4{n:Nat}(W:Wd J.w J.B)(SF:fF J.w J.B J.k (F J.k))(P:At J φ (l.reverseAux rs) (us.reverseAux vs) st s)(Y:l.length=us.length)(e:NK tab (F J.k) n l st K)(q:∀r st' v s',K r st'->At J φ (r::rs) (v::vs) st' s'->Q v s') :
  wpAny J.M φ.A (call (.ref (cy n)) us) Q φ.E s:=
 P.elim λc a=>Jc e λnd as ha e=>(a.inst (n:=n) Y).elim λc' A=>A.elim λg A=>by
  have o2:dB (.own (.inst n [])::l) st=some (.own (.inst n [])::as):=by
   rw[dB,ha];rfl
  have C:=W.cls n
  have X:=(oY (h:=J.B)).keeps P.base
  have R:=a.ok.rm.f
  have R:mn {φ.A with depth:=φ.A.depth+1,units:=φ.A.units+1} J.k:=⟨R.1,by show φ.A.depth+1+5*J.k<=504;have:=a.ok.rm.2.1;lia,by show φ.A.units+1+20*J.k<=2010;have:=a.ok.rm.2.2;lia⟩
  obtain⟨hh,gs,d,t,os⟩:=s
  refine wpAny_call (make_core (makes_of X C.make) (looks_findIn X C.init) (λself=>bind_fn X self C.wu) (.inl rfl) (SF.run e R (congrArg Nat.succ (Y▸(kG ha).1)) (A.1.gd.lend (l:=.own (.inst n [])::l) nd o2 A.2) λx fin H' v s' c₂ k p=>?_))
  obtain⟨i,vj,rfl,rfl,k⟩:=R3 k
  refine⟨p.gd.bw.hd,(mW nd k).elim λst' k=>?_⟩
  have z:=(A.1.back (n:=J1 rs.length) A.2 o2 p (k.2.skip λj=>nofun)).push (x:=.own i) ((p.sl 0 (.inst n []) (.own i) rfl rfl).imp λb z=>⟨z.1,OR.le oA i (qC (o:=.slot 0) nofun rfl) z.2⟩)
  exact ef k.1 (λZ k=>q _ _ _ _ k z.Ij) λZ k=>q _ _ _ _ k z
theorem WC{n:Nat}(W:Wd J.w J.B)(SF:fF J.w J.B J.k (F J.k))(hs:cW J as xs)(hk:J.D.sc.names.lookup x=some .globalImplicit)(hd:dm x=true)(hn:cN n=some x):aB J (.new n as) (.Call (.Name x p) xs [] pos):=
 .val ⟨λP e q=>Call_ (P.glob W hk hd (W.cl n x hn) (Kq (W.cls n).make (nH hs.ns) (mR hs.ns (hs.run pos P e λl st' us s' k Y P=>⟨rfl,oY.keeps P.base,R4 W SF P Y k q⟩))))⟩ λZ Z=>rfl
end
section
variable{w:World}{B:Heap}{c:Cf}{h h':Heap}{x:Addr}{o:Ow}
theorem SameBut.kp(sb:Heap.SameBut x h h'){o':Option Ow}(n:c.ow x≠o'):Kp c h o' c h' o':=λb p e e'=>⟨e,(sb.2 b λz=>n (z▸e)).trans e'⟩
theorem SameBut.le(sb:Heap.SameBut x h h')(n:c.ow x≠none):Le c h c h':=⟨λZ Z e=>e,SameBut.kp sb n⟩
variable{st st':St}{ak:Nat->Value}{aN:Nat->Nat->Value}{rs:List ER}{vs:List Value}
theorem Gd.w5(g:Gd w B c h st ak aN rs vs)(sb:Heap.SameBut x h h')(ox:c.ow x=some o)(lx:∃p,h'.get? x=some p)(ho:∀j,j<rs.length->Ow.tmp j≠o)(cO:c.γ.length=st'.H.length)(κ:st'.κ=st.κ)(full:∀i,Full st' i ↔ Full st i)
  (cq:∀(l:Nat) k a,st'.H[l]?=some k->c.γ[l]?=some a->OR w c h' k (some (.heap l)) a) (slt:∀(i:Nat) y,st'.σ[i]?=some (some y)->SV w c h' (.slot i) y (ak i)):Gd w B c h' st' ak aN rs vs:=
 have K:∀{o':Ow},o≠o'->Kp c h (some o') c h' (some o'):=λn=>SameBut.kp sb λz=>n (Option.some.inj (ox.symm.trans z))
 have L:Le c h c h':=SameBut.le sb λz=>nomatch ox.symm.trans z
 {base:=λb p q=>(sb.2 b λz=>nomatch (z▸q).symm.trans (g.ok x o ox).1).trans (g.base b p q)
  ok:=λb o' e=>(g.ok b o' e).imp id λp=>by
   by_cases z:b=x
   .exact z▸lx
   .exact p.imp λZ q=>(sb.2 b z).trans q
  cO:=cO
  cq:=cq
  slt:=slt
  dc:=λd i fr v e e'=>VR.le L v (g.dc d i fr v (κ▸e) e')
  bw:=g.bw.kp L (λi=>(full i).mpr) λj hj=>K λz=>ho j hj z.symm}
end
section
variable{J:Om}{φ:Fm}{c:Cf}{rs:List ER}{vs:List Value}{st:St}{s:Shared}{r:ER}{v:Value}
set_option tactic.hygienic true in
theorem aF.change{gg:AC->Option (AC×O)}{Q:ER->St->Prop}{o₀:Ow}(a:aF J φ c rs vs st s)(y:RR J.w c s.heap st φ.ak o₀ r v)(e:dD r st gg Q){G:Prop}
  (q:∀k k' u ad o st',v=.ref ad->OR J.w c s.heap k (some o) ad->gg k=some (k',u)->Q (.val u) st'->
   (∀x h' tk,c.ow x=some o->Heap.SameBut x s.heap h'->(∃p,h'.get? x=some p)->OR J.w c h' k' (some o) ad->aF J φ c rs vs st' {s with heap:=h',toks:=tk})->G):G:=by
 have fin:∀{o:Ow} {st':St} {x:Addr} {h':Heap} {tk:Nat},Shape st st'->c.ow x=some o->Heap.SameBut x s.heap h'->o≠.other->o≠.env->Gd J.w J.B c h' st' φ.ak φ.aN rs vs->aF J φ c rs vs st' {s with heap:=h',toks:=tk}:=λ{o st' x h' tk} sh ox sb n1 n2 g=>
  ⟨a.ok,⟨by rw[a.mv.se],a.mv.le.trans (SameBut.le sb λz=>nomatch ox.symm.trans z),a.mv.ko.trans (SameBut.kp sb λz=>n1 (Option.some.inj (ox.symm.trans z)))⟩,a.ke.trans (SameBut.kp sb λz=>n2 (Option.some.inj (ox.symm.trans z))),a.sh.trans sh,g⟩
 obtain⟨σ,lk,κ,H⟩:=st
 have e:(match ownAt r ⟨σ,lk,κ,H⟩ with
  | some (i,c)=>OK (gg c) λp=>match p with
   | (c',v)=>dQ (some (.own c')) σ i λσ=>Q (.val v) ⟨σ,lk,κ,H⟩
  | none=>OK (lM r ⟨σ,lk,κ,H⟩) λq=>match q with
   | (l,c)=>OK (gg c) λp=>match p with
    | (c',v)=>Q (.val v) ⟨σ,lk,κ,H.set l c'⟩):=e
 match z:ownAt r ⟨σ,lk,κ,H⟩ with
 | some (i,k)=>
  rw[z] at e
  refine aM e λp hg e=>?_
  have e1:=jb _ _ _ e
  clear e
  clear e
  cases r with
  | loc j=>
   have z:(match σ[j]? with
    | some (some (.own c))=>some (j,c)
    | _=>none)=some (i,k):=z
   split at z
   .rename_i k₂ hk
    have z:=Prod.mk.inj (Option.some.inj z)
    rw[←z.1] at e1
    have fi:Full ⟨σ,lk,κ,H⟩ j:=⟨_,hk⟩
    refine(a.gd.slt j _ hk).elim λad w=>q k p.1 p.2 ad (.slot j) _ (y.1.trans w.1) (z.2▸w.2) hg e1 λx h' tk ox sb lx o'=>fin (Shape.set fi) ox sb nofun nofun ?_
    refine a.gd.w5 sb ox lx (λZ Z=>nofun) a.gd.cO rfl fi.set (λl k a' e e'=>OR.le (SameBut.le sb λz=>nomatch ox.symm.trans z) k (SameBut.kp sb λz=>nomatch Option.some.inj (ox.symm.trans z)) (a.gd.cq l k a' e e')) λi' y' e=>?_
    rcases set_inv e with⟨r1,r2⟩ | ⟨r1,r2⟩
    .rw[←r1,Option.some.inj r2]
     exact⟨ad,w.1,o'⟩
    .exact(a.gd.slt i' y' r2).kp (SameBut.le sb λz=>nomatch ox.symm.trans z) (SameBut.kp sb λz=>r1 (Ow.slot.inj (Option.some.inj (ox.symm.trans z))))
   .cases z
  | _=>exact nomatch z
 | none=>
  rw[z] at e
  refine aM e λp Y e=>aM e λp' hg e=>?_
  unfold lM at Y
  split at Y
  .rename_i l hv
   refine(Option.map_eq_some_iff.mp Y).elim λk₂ w=>(a.gd.view y hv).elim λad f=>?_
   have hk:H[p.1]?=some p.2:=w.2▸w.1
   have hr:c.γ[p.1]?=some ad:=w.2▸f.2
   refine q p.2 p'.1 p'.2 ad (.heap p.1) _ f.1 (a.gd.cq p.1 p.2 ad hk hr) hg e λx h' tk ox sb lx o'=>fin ⟨rfl,rfl,rfl,λZ=>Iff.rfl⟩ ox sb nofun nofun ?_
   refine a.gd.w5 sb ox lx (λZ Z=>nofun) (a.gd.cO.trans List.length_set.symm) rfl (λZ=>Iff.rfl) (λl₂ k₂ er e e'=>?_) λi' y' e=>(a.gd.slt i' y' e).kp (SameBut.le sb λz=>nomatch ox.symm.trans z) (SameBut.kp (o':=some (.slot i')) sb λz=>nomatch Option.some.inj (ox.symm.trans z))
   by_cases hj:p.1=l₂
   .have e:(H.set p.1 p'.1)[l₂]?=some k₂:=e
    rw[←hj,yh _ (cu hk)] at e
    rw[←hj,hr] at e'
    rw[←hj,←Option.some.inj e,←Option.some.inj e']
    exact o'
   .exact OR.le (SameBut.le sb λz=>nomatch ox.symm.trans z) k₂ (SameBut.kp sb λz=>hj (Ow.heap.inj (Option.some.inj (ox.symm.trans z)))) (a.gd.cq l₂ k₂ er ((qc hj).symm.trans e) e')
  .cases Y
end
noncomputable def iq:Key->Prop
 | .i _=>True
 | .s x=>x.length<=ax
section
variable(w:World)(c:Cf)(h:Heap)
noncomputable def KV:List (Key×O)->List (Key×Value)->Prop
 | [],l=>l=[]
 | e::r,l=>∃v q,l=(e.1,v)::q/\(iq e.1/\VR w c h e.2 v)/\KV r q
end
section
variable{w:World}{c c':Cf}{h h':Heap}
@[elab_as_elim] theorem KV.nil{l:List (Key×Value)}{P:List (Key×Value)->Prop}(x:KV w c h [] l)(k:P []):P l:=Eq.symm x▸k
@[elab_as_elim] theorem KV.cons{e:Key×O}{r:List (Key×O)}{l:List (Key×Value)}{P:List (Key×Value)->Prop}(x:KV w c h (e::r) l)(k:∀v q,iq e.1/\VR w c h e.2 v->KV w c h r q->P ((e.1,v)::q)):P l:=
 x.elim λv x=>x.elim λq x=>x.1▸k v q x.2.1 x.2.2
theorem KV.mk{e:Key×O}{r:List (Key×O)}{v:Value}{q:List (Key×Value)}(x:iq e.1/\VR w c h e.2 v)(y:KV w c h r q):KV w c h (e::r) ((e.1,v)::q):=⟨v,q,rfl,x,y⟩
theorem KV.of:∀{es:List (Key×O)} {ds:List DictEntry},bC w c h es ds->KV w c h es (dh es ds)
 | [],ds,_=>by cases ds<;>rfl
 | e::_,_,x=>bC.cons (P:=λds=>KV w c h _ (dh (_::_) ds)) x λd q hk xv xr=>.mk ⟨match e.1,hk with
  | .i _,_=>trivial
  | .s _,hk=>hk.2.2,xv⟩ (KV.of xr)
theorem KV.le(L:Le c h c' h'):∀{es:List (Key×O)} {l:List (Key×Value)},KV w c h es l->KV w c' h' es l
 | [],_,x=>x
 | _::_,_,x=>x.cons λv q p xr=>.mk ⟨p.1,VR.le L _ p.2⟩ (KV.le L xr)
theorem KV.keys:∀{es:List (Key×O)} {l:List (Key×Value)},KV w c h es l->l.map (·.1)=es.map (·.1)
 | [],_,x=>x.nil (P:=λl=>l.map _=_) rfl
 | _::_,_,x=>x.cons (P:=λl=>l.map _=_) λv q p xr=>congrArg (List.cons _) xr.keys
theorem KV.len{es:List (Key×O)}{l:List (Key×Value)}(x:KV w c h es l):l.length=es.length:=(List.length_map _).symm.trans ((congrArg List.length x.keys).trans (List.length_map _))
theorem KV.any{es:List (Key×O)}{l:List (Key×Value)}(k:Key)(x:KV w c h es l):l.any (λe=>decide (e.1=k))=cg es k:=
 (List.any_map (l:=l) (f:=λe:Key×Value=>e.1) (p:=λz=>decide (z=k))).symm.trans ((congrArg (λl=>List.any l λz=>decide (z=k)) x.keys).trans (List.any_map (f:=λe:Key×O=>e.1)))
theorem KV.snoc{k:Key}{a:O}{v:Value}(p:iq k/\VR w c h a v):∀{es:List (Key×O)} {l:List (Key×Value)},KV w c h es l->KV w c h (es++[(k,a)]) (l++[(k,v)])
 | [],_,x=>x.nil (P:=λl=>KV w c h _ (l++_)) (.mk (e:=(k,a)) p rfl)
 | _::_,_,x=>x.cons (P:=λl=>KV w c h _ (l++_)) λv q p' xr=>.mk p' (xr.snoc p)
theorem KV.upd{k:Key}{a:O}{v:Value}(p:iq k/\VR w c h a v):∀{es:List (Key×O)} {l:List (Key×Value)},KV w c h es l->KV w c h (es.map λe=>if e.1=k then(e.1,a) else e) (l.map λe=>if e.1=k then(e.1,v) else e)
 | [],_,x=>x.nil (P:=λl=>KV w c h _ (l.map _)) rfl
 | e::_,_,x=>x.cons (P:=λl=>KV w c h _ (l.map _)) λv q p' xr=>by
  rw[List.map_cons,List.map_cons]
  by_cases q':e.1=k
  .rw[if_pos q',if_pos q'];exact .mk (e:=(e.1,a)) ⟨p'.1,p.2⟩ (xr.upd p)
  .rw[if_neg q',if_neg q'];exact .mk p' (xr.upd p)
theorem KV.put{es:List (Key×O)}{l:List (Key×Value)}{k:Key}{a:O}{v:Value}(x:KV w c h es l)(p:iq k/\VR w c h a v):KV w c h (dput es k a) (stored l k v):=by
 unfold dput stored
 rw[x.any k]
 split
 .exact x.upd p
 .exact x.snoc p
theorem KV.merge:∀{ds es:List (Key×O)} {l m:List (Key×Value)},KV w c h es l->KV w c h ds m->KV w c h (ds.foldl (λd e=>dput d e.1 e.2) es) (merged l m)
 | [],_,l,_,x,y=>y.nil (P:=λm=>KV w c h _ (merged l m)) x
 | e::_,es,l,_,x,y=>y.cons (P:=λm=>KV w c h _ (merged l m)) λv q p yr=>KV.merge (es:=dput es e.1 e.2) (l:=stored l e.1 v) (x.put p) yr
theorem oJ(es:List (Key×O))(k:Key)(v:O):(dput es k v).length<=es.length+1:=by
 unfold dput
 split
 .rw[List.length_map];exact Nat.le_succ _
 .rw[List.length_append];exact Nat.le_refl _
set_option tactic.hygienic true in
theorem uM(es:List (Key×O))(k:Key)(v:O)(hn:(es.map (·.1)).Nodup):((dput es k v).map (·.1)).Nodup:=by
 unfold dput
 split
 .rw[List.map_map,show((·.1)∘λe:Key×O=>if e.1=k then(e.1,v) else e)=(·.1) from funext λe=>by
   show(if e.1=k then(e.1,v) else e).1=e.1
   split<;>rfl]
  exact hn
 .rename_i hh
  rw[List.map_append]
  exact List.nodup_append.mpr ⟨hn,List.nodup_cons.mpr ⟨List.not_mem_nil,.nil⟩,λa ha b I e=>hh ((List.mem_map.mp ha).elim λp q=>List.any_eq_true.mpr ⟨p,q.1,decide_eq_true (q.2.trans (e.trans (List.mem_singleton.mp I)))⟩)⟩
theorem oK:∀(ds es:List (Key×O)),(ds.foldl (λd e=>dput d e.1 e.2) es).length<=es.length+ds.length
 | [],_=>Nat.le_refl _
 | p::r,es=>Nat.le_trans (oK r (dput es p.1 p.2)) (Nat.le_trans (Nat.add_le_add_right (oJ es p.1 p.2) _) (by rw[List.length_cons];lia))
theorem qT:∀(ds es:List (Key×O)),(es.map (·.1)).Nodup->((ds.foldl (λd e=>dput d e.1 e.2) es).map (·.1)).Nodup
 | [],_,h=>h
 | p::r,es,h=>qT r _ (uM es p.1 p.2 h)
theorem bC.of{prog:Program}:∀{es:List (Key×O)} {l:List (Key×Value)} {ds:List DictEntry},KV w c h es l->(l.map (·.1)).Nodup->Pairs (keyKind prog w) ds l->(∀e∈ds,∃k,(keyKind prog w).is k e.key=true/\e.hash=(keyKind prog w).hash k)->bC w c h es ds
 | [],_,_,x,_,p,_=>by cases x;cases p;rfl
 | e::_,_,_,x,hn,p,hk=>by
  refine x.elim λv x=>x.elim λq x=>?_
  cases x.1
  cases p with
  | cons h1 h2 h3=>
   refine⟨_,_,rfl,?_,h2▸x.2.1.2,bC.of x.2.2 (List.nodup_cons.mp hn).2 h3 λe he=>hk e (.tail _ he)⟩
   refine(hk _ (.head _)).elim λk' z=>?_
   have e':k'=e.1:=(keyKind prog w).inj _ _ _ z.1 h1
   rw[e'] at z
   obtain⟨k,a⟩:=e
   cases k with
   | i n=>exact⟨e9 z.1,z.2⟩
   | s y=>exact⟨fb z.1,z.2,x.2.1.1⟩
theorem OR.dictOf{prog:Program}{a:Addr}{o:Option Ow}{es:List (Key×O)}{l:List (Key×Value)}(ho:c.ow a=o)(D:h.DictOf (keyKind prog w) a l)(x:KV w c h es l)(hs:(a==sysModules)=false)(Y:es.length<=ax)(hn:(es.map (·.1)).Nodup):OR w c h (.dict es) o a:=by
 obtain⟨⟨cl,d,dt,sl⟩,ents,ep,hg,⟨hc,hd,Dy⟩,C2,hk,hp,dk⟩:=D
 dsimp only at hc hd Dy C2
 subst hc hd Dy C2
 exact⟨ho,hs,Y,hn,ents,ep,hg,bC.of x dk hp λe he=>hk e (Array.mem_toList_iff.mp he)⟩
end
end Mine.Internal
section
namespace Mine.Internal.BF
open PySem PySem.W
theorem Ht:Slot "bytes" "find" "bytes.find":=
 .of (owner:="bytes") (n:="find") (by rw[typeLookup_type,builtinLookup_eq_fast];kernel_rfl) (by decide+kernel) (by decide+kernel) (by decide+kernel) (by first | exact .inl (by decide+kernel) | exact .inr (by decide+kernel)) (by rw[isSubtype_type];kernel_rfl)
theorem X3:typeOf (.builtin "bytes.find")=pure (.type "method_descriptor"):=by show builtinType _=_;rw[builtinType_eq_fast];kernel_rfl
theorem Ln:entryFor table "bytes.find" = some Builtin.«bytes.find»:=entryFor_of_tree (by kernel_rfl)
theorem Jw(a b:Value):argsOk "bytes.find" ⟨[a,b],[]⟩:=by
 unfold argsOk;rw[signature?_of (id:="bytes.find") (n:="dnif".toList) (o:=['s','e','t','y','b']) (by kernel_rfl) FB.owner_bytes];kernel_rfl
theorem Hu:Slot "bytes" "index" "bytes.index":=
 .of (owner:="bytes") (n:="index") (by rw[typeLookup_type,builtinLookup_eq_fast];kernel_rfl) (by decide+kernel) (by decide+kernel) (by decide+kernel) (by first | exact .inl (by decide+kernel) | exact .inr (by decide+kernel)) (by rw[isSubtype_type];kernel_rfl)
theorem X4:typeOf (.builtin "bytes.index")=pure (.type "method_descriptor"):=by show builtinType _=_;rw[builtinType_eq_fast];kernel_rfl
theorem Lp:entryFor table "bytes.index" = some Builtin.«bytes.index»:=entryFor_of_tree (by kernel_rfl)
theorem Jx(a b:Value):argsOk "bytes.index" ⟨[a,b],[]⟩:=by
 unfold argsOk;rw[signature?_of (id:="bytes.index") (n:="xedni".toList) (o:=['s','e','t','y','b']) (by kernel_rfl) FB.owner_bytes];kernel_rfl
theorem Hy:Slot "bytes" "strip" "bytes.strip":=
 .of (owner:="bytes") (n:="strip") (by rw[typeLookup_type,builtinLookup_eq_fast];kernel_rfl) (by decide+kernel) (by decide+kernel) (by decide+kernel) (by first | exact .inl (by decide+kernel) | exact .inr (by decide+kernel)) (by rw[isSubtype_type];kernel_rfl)
theorem X7:typeOf (.builtin "bytes.strip")=pure (.type "method_descriptor"):=by show builtinType _=_;rw[builtinType_eq_fast];kernel_rfl
theorem Ls:entryFor table "bytes.strip" = some Builtin.«bytes.strip»:=entryFor_of_tree (by kernel_rfl)
theorem JA(a b:Value):argsOk "bytes.strip" ⟨[a,b],[]⟩:=by
 unfold argsOk;rw[signature?_of (id:="bytes.strip") (n:="pirts".toList) (o:=['s','e','t','y','b']) (by kernel_rfl) FB.owner_bytes];kernel_rfl
theorem Hx:Slot "bytes" "split" "bytes.split":=
 .of (owner:="bytes") (n:="split") (by rw[typeLookup_type,builtinLookup_eq_fast];kernel_rfl) (by decide+kernel) (by decide+kernel) (by decide+kernel) (by first | exact .inl (by decide+kernel) | exact .inr (by decide+kernel)) (by rw[isSubtype_type];kernel_rfl)
theorem X6:typeOf (.builtin "bytes.split")=pure (.type "method_descriptor"):=by show builtinType _=_;rw[builtinType_eq_fast];kernel_rfl
theorem Lr:entryFor table "bytes.split" = some Builtin.«bytes.split»:=entryFor_of_tree (by kernel_rfl)
theorem Jz(a b:Value):argsOk "bytes.split" ⟨[a,b],[]⟩:=by
 unfold argsOk;rw[signature?_of (id:="bytes.split") (n:="tilps".toList) (o:=['s','e','t','y','b']) (by kernel_rfl) FB.owner_bytes];kernel_rfl
theorem Hv:Slot "bytes" "join" "bytes.join":=
 .of (owner:="bytes") (n:="join") (by rw[typeLookup_type,builtinLookup_eq_fast];kernel_rfl) (by decide+kernel) (by decide+kernel) (by decide+kernel) (by first | exact .inl (by decide+kernel) | exact .inr (by decide+kernel)) (by rw[isSubtype_type];kernel_rfl)
theorem X5:typeOf (.builtin "bytes.join")=pure (.type "method_descriptor"):=by show builtinType _=_;rw[builtinType_eq_fast];kernel_rfl
theorem Lq:entryFor table "bytes.join" = some Builtin.«bytes.join»:=entryFor_of_tree (by kernel_rfl)
theorem Jy(a b:Value):argsOk "bytes.join" ⟨[a,b],[]⟩:=by
 unfold argsOk;rw[signature?_of (id:="bytes.join") (n:="nioj".toList) (o:=['s','e','t','y','b']) (by kernel_rfl) FB.owner_bytes];kernel_rfl
end Mine.Internal.BF
namespace Mine.Internal
open PySem PySem.Calls PyProof.Rows PySem.W Builtin
theorem HJ{id nm:String}(x y:Value):selfAndSome id nm 1 3 ⟨[x,y],[]⟩=pure (x,[y]):=rfl
theorem WO{id nm:String}(x y:Value):selfAndSome id nm 0 1 ⟨[x,y],[]⟩=pure (x,[y]):=rfl
section
variable{M:Model}{A:Around}{E:Value->Shared->Prop}{s:Shared}{b sub:Array UInt8}{t u:Tok}
theorem IW(n:Nat):Bytes.window n none none=(0,(n:Int)):=by
 unfold Bytes.window
 simp only[Option.getD_none]
 rw[if_neg (by lia),if_neg (by lia)]
 simp
theorem UJ{nm:String}{Q:Array UInt8×Array UInt8×Option (Nat×Nat)->Shared->Prop}(h:Q (b,sub,if b.size<sub.size then none else some (0,b.size)) s) :
  wpAny M A (Bytes.searchArgs .bytes nm ⟨[.bytes b t,.bytes sub u],[]⟩) Q E s:=by
 unfold Bytes.searchArgs
 dsimp only
 rw[HJ]
 refine wpAny_bind (wpAny_pure (wpAny_bind (wpAny_pure (wpAny_bind (wpAny_pure ?_)))))
 dsimp only[List.headD]
 refine wpAny_bind (wpAny_of_eq KBy.buffer_eq ?_)
 dsimp only
 refine wpAny_bind (wpAny_pure ?_)
 refine wpAny_bind (wpAny_of_eq (a:=b) rfl ?_)
 rw[IW]
 refine wpAny_pure ?_
 have:(if (b.size:Int) - 0<(sub.size:Int) then none else some ((0:Int).toNat,(b.size:Int).toNat))=if b.size<sub.size then none else some (0,b.size):=by
  by_cases q:b.size<sub.size
  .rw[if_pos q,if_pos (by lia)]
  .rw[if_neg q,if_neg (by lia)];rfl
 rw[this];exact h
theorem Bl(b:List UInt8)(i:Nat)(c:UInt8)(hi:i<b.length):(b.toArray.extract i (i+1)==#[c])=(b[i]==c):=by
 have:b.toArray.extract i (i+1)=#[b[i]]:=by
  apply Array.ext'
  simp only[Array.toList_extract]
  rw[List.extract_eq_take_drop,Nat.add_sub_cancel_left,List.drop_eq_getElem_cons hi]
  rfl
 rw[this]
 by_cases q:b[i]=c
 .rw[q];simp
 .have:(b[i]==c)=false:=beq_eq_false_iff_ne.mpr q
  rw[this]
  apply beq_eq_false_iff_ne.mpr
  intro e;apply q;simpa using e
theorem Tt(l:List UInt8)(c:UInt8):∀(k:Nat) (p:Nat->Bool),(∀i (h:i<l.length),p (k+i)=(l[i]==c))->((List.range l.length).map (·+k)).find? p=(l.findIdx? (·==c)).map (·+k):=by
 induction l with
 | nil=>intro k p _;rfl
 | cons a r ih=>
  intro k p hp
  rw[List.length_cons,List.range_succ_eq_map,List.map_cons,List.find?_cons,List.findIdx?_cons]
  have h0:=hp 0 (by simp)
  have M4:p (0+k)=(a==c):=by rw[Nat.zero_add];simpa using h0
  rw[M4]
  cases q:a==c with
  | true=>simp
  | false=>
   have:=ih (k+1) p (λi h=>by have:=hp (i+1) (by simpa using h);rw[show k+1+i=k+(i+1) by exact Nat.add_right_comm _ _ _];simpa using this)
   simp only[List.map_map,Bool.false_eq_true,if_false]
   have e:((λx=>x+k)∘Nat.succ)=λx=>x+(k+1):=by funext x;simp only[Function.comp];lia
   rw[e,this]
   cases r.findIdx? (·==c) with
   | none=>rfl
   | some i=>simp only[Option.map_some];congr 1;lia
theorem Mb(b:List UInt8)(c:UInt8):(if b.toArray.size<#[c].size then none else Bytes.find? b.toArray #[c] 0 b.toArray.size)=b.findIdx? (·==c):=by
 have e1:(#[c]:Array UInt8).size=1:=rfl
 rw[e1,List.size_toArray]
 by_cases q:b.length<1
 .rw[if_pos q]
  have:b=[]:=by cases b with | nil=>rfl | cons a r=>simp at q
  subst this;rfl
 .rw[if_neg q]
  unfold Bytes.find?
  rw[e1,show b.length+1 - (0+1)=b.length by lia]
  rw[Tt b c 0 _ (λi h=>by rw[Nat.zero_add];exact Bl b i c h)]
  simp
theorem Cg{nm:String}{st:Bool}{b:List UInt8}{c:UInt8}{Q:Fin->Shared->Prop}(h:∀tk i,(match b.findIdx? (·==c) with | some i=>some (i:Int) | none=>if st then none else some (-1))=some i->Q (.done (.ret (.int i tk))) {s with toks:=s.toks+1})
  (hs:st=true->(b.findIdx? (·==c)).isSome=true) :
  wpAny M A (Bytes.searchM .bytes nm false st ⟨[.bytes b.toArray t,.bytes #[c] u],[]⟩) Q E s:=by
 unfold Bytes.searchM
 refine wpAny_bind (UJ ?_)
 have e:((if b.toArray.size<#[c].size then none else some (0,b.toArray.size):Option (Nat×Nat)).bind λ(lo,hi)=>if false=true then Bytes.rfind? b.toArray #[c] lo hi else Bytes.find? b.toArray #[c] lo hi)=b.findIdx? (·==c):=by
  rw[←Mb]
  by_cases q:b.toArray.size<#[c].size
  .rw[if_pos q,if_pos q];rfl
  .rw[if_neg q,if_neg q];rfl
 dsimp only
 rw[e]
 cases q:b.findIdx? (·==c) with
 | some i=>exact wpAny_bind (wpAny_mkInt (wpAny_pure (h _ i (by rw[q]))))
 | none=>
  cases st with
  | true=>rw[q] at hs;cases hs rfl
  | false=>exact wpAny_bind (wpAny_rule (wpAny_bind (wpAny_mkInt (wpAny_pure (h _ (-1) (by rw[q];rfl))))))
theorem sub_bytes_tuple:isSubtype (.type "bytes") (.type "tuple")=pure false:=by rw[isSubtype_type];kernel_rfl
theorem r9:∀(p b:List UInt8),dy p b=true ↔ b.take p.length=p
 | [],b=>by simp[dy]
 | _::_,[]=>by simp[dy]
 | x::p,y::b=>by
  rw[dy,Bool.and_eq_true,r9 p b]
  simp only[List.length_cons,List.take_succ_cons,List.cons.injEq,beq_iff_eq]
  constructor<;>rintro⟨h1,h2⟩<;>exact⟨h1.symm,h2⟩
theorem qZ(b:List UInt8)(i j:Nat):(b.toArray.extract i j).toList=(b.drop i).take (j - i):=by
 rw[Array.toList_extract,List.extract_eq_take_drop]
theorem zC(a b:Array UInt8):(a==b)=(a.toList==b.toList):=by
 by_cases q:a=b
 .subst q;simp
 .have:(a==b)=false:=beq_eq_false_iff_ne.mpr q
  rw[this]
  symm
  apply beq_eq_false_iff_ne.mpr
  exact λe=>q (Array.ext' e)
theorem Gb{x y:List UInt8}(Y:y.length<x.length):dy x y=false:=Bool.eq_false_iff.mpr λq=>by
 have:=congrArg List.length ((r9 x y).mp q)
 rw[List.length_take] at this
 exact absurd (Nat.le_trans (Nat.le_of_eq this.symm) (Nat.min_le_right _ _)) (Nat.not_le.mpr Y)
theorem tail_eq(en:Bool)(b p:List UInt8):(if (b.toArray.size:Int) - 0<(p.toArray.size:Int) then false
   else if en=true then b.toArray.extract ((b.toArray.size:Int).toNat - p.toArray.size) (b.toArray.size:Int).toNat==p.toArray
   else b.toArray.extract (0:Int).toNat ((0:Int).toNat+p.toArray.size)==p.toArray)=(if en then dy p.reverse b.reverse else dy p b):=by
 rw[zC,zC,qZ,qZ,List.size_toArray,List.size_toArray,Int.toNat_natCast,Int.sub_zero]
 by_cases q:b.length<p.length
 .rw[if_pos (Int.ofNat_lt.mpr q)]
  cases en
  .exact(Gb q).symm
  .exact(Gb (by rw[List.length_reverse,List.length_reverse];exact q)).symm
 .rw[if_neg λz=>q (Int.ofNat_lt.mp z)]
  have hle:=Nat.not_lt.mp q
  refine Bool.eq_iff_iff.mpr ?_
  cases en
  .exact beq_iff_eq.trans ((r9 p b).trans (by show b.take p.length=p ↔ (b.drop 0).take (0+p.length - 0)=p;rw[Nat.zero_add];rfl)).symm
  .refine beq_iff_eq.trans ((r9 _ _).trans ?_).symm
   rw[List.length_reverse,List.take_reverse,List.reverse_inj,Nat.sub_sub_self hle,List.take_of_length_le (Nat.le_of_eq (by rw[List.length_drop,Nat.sub_sub_self hle]))]
theorem Ie{nm:String}{en:Bool}{b p:List UInt8}{Q:Fin->Shared->Prop}(h:Q (.done (.ret (.bool (if en then dy p.reverse b.reverse else dy p b)))) s) :
  wpAny M A (Bytes.tailMatchM .bytes nm en ⟨[.bytes b.toArray t,.bytes p.toArray u],[]⟩) Q E s:=by
 unfold Bytes.tailMatchM
 refine wpAny_bind (wpAny_of_eq (HJ _ _) (wpAny_bind (wpAny_pure (wpAny_bind (wpAny_pure (wpAny_bind (wpAny_of_eq (a:=b.toArray) rfl ?_)))))))
 dsimp only
 rw[IW]
 refine wpAny_bind (wpAny_isInstance (typeIs_bytes s p.toArray u) sub_bytes_tuple (wpAny_bind (wpAny_of_eq KBy.buffer_eq (wpAny_pure ?_))))
 exact(tail_eq en b p).symm▸h
theorem dropWhile_len{α:Type}(p:α->Bool):∀(l:List α),(l.dropWhile p).length<=l.length/\((l.dropWhile p).length=l.length->l.dropWhile p=l)
 | []=>⟨Nat.le_refl _,λZ=>rfl⟩
 | a::r=>by
  have ih:=dropWhile_len p r
  rw[List.dropWhile_cons]
  split
  .refine⟨Nat.le_succ_of_le ih.1,λe=>?_⟩
   have:=ih.1
   simp only[List.length_cons] at e;lia
  .exact⟨Nat.le_refl _,λZ=>rfl⟩
theorem H4(b cs:List UInt8):(de b cs).length<=b.length/\((de b cs).length=b.length->de b cs=b):=by
 unfold de
 have h1:=dropWhile_len cs.contains b
 have h2:=dropWhile_len cs.contains (b.dropWhile cs.contains).reverse
 simp only[List.length_reverse] at h2 ⊢
 refine⟨by lia,λe=>?_⟩
 rw[h2.2 (by lia),List.reverse_reverse,h1.2 (by lia)]
theorem GZ{Q:Value->Shared->Prop}(h:Q (.bytes b t) s):wpAny M A (Bytes.Kind.same .bytes (.bytes b t)) Q E s:=by
 unfold Bytes.Kind.same
 dsimp only
 rw[if_pos (by rfl)]
 refine wpAny_bind (wpAny_typeOf (typeIs_bytes s b t) ?_)
 rw[if_pos (by rfl)]
 exact wpAny_pure h
theorem Xw{nm:String}{b cs:List UInt8}{Q:Fin->Shared->Prop}(I:b.length<=sizeLine)(h:∀t' tk,Q (.done (.ret (.bytes (de b cs).toArray t'))) {s with toks:=tk}) :
  wpAny M A (Bytes.stripM .bytes nm true true ⟨[.bytes b.toArray t,.bytes cs.toArray u],[]⟩) Q E s:=by
 unfold Bytes.stripM
 dsimp only
 rw[WO]
 refine wpAny_bind (wpAny_pure ?_)
 dsimp only
 refine wpAny_bind (wpAny_bind ?_)
 refine wpAny_of_eq KBy.buffer_eq (wpAny_pure (wpAny_bind (wpAny_pure ?_)))
 refine wpAny_bind (wpAny_of_eq (a:=b.toArray) rfl ?_)
 simp only[if_true]
 have e:(((b.toArray.toList.dropWhile cs.toArray.contains).reverse.dropWhile cs.toArray.contains).reverse)=de b cs:=by
  have:cs.toArray.contains=cs.contains:=by funext x;simp
  unfold de
  rw[this]
 rw[e]
 have Y:=H4 b cs
 by_cases q:((de b cs).length==b.toArray.size)=true
 .rw[if_pos q]
  have q':(de b cs).length=b.length:=by simpa using q
  refine wpAny_bind (wpAny_rule (wpAny_bind (GZ ?_)))
  have:=h t s.toks
  rw[Y.2 q'] at this
  exact wpAny_pure this
 .rw[if_neg q]
  exact wpAny_bind (wpAny_mkBytes (wpAny_pure (h _ _)) (by rw[List.size_toArray];lia))
theorem yA{c:UInt8}:∀{p:List UInt8},c∉p->split1 c p=[p]
 | [],_=>rfl
 | a::r,h=>by
  have ha:(a==c)=false:=beq_eq_false_iff_ne.mpr λe=>h (e▸.head _)
  rw[split1,ha,yA λm=>h (.tail _ m)];rfl
theorem HV{c:UInt8}:∀{p r:List UInt8},c∉p->split1 c (p++c::r)=p::split1 c r
 | [],r,_=>by rw[List.nil_append,split1];simp
 | a::q,r,h=>by
  have ha:(a==c)=false:=beq_eq_false_iff_ne.mpr λe=>h (e▸.head _)
  rw[List.cons_append,split1,ha,HV λm=>h (.tail _ m)];rfl
noncomputable def dP(c:UInt8):Nat->List UInt8->List Nat
 | _,[]=>[]
 | k,a::r=>if a==c then k::dP c (k+1) r else dP c (k+1) r
noncomputable def sG(p:Nat->Bool)(acc:List Nat×Nat)(i:Nat):List Nat×Nat:=if (decide (i≥acc.2)&&p i)=true then(i::acc.1,i+1) else acc
theorem xc(c:UInt8)(p:Nat->Bool):∀(l:List UInt8) (k:Nat) (acc:List Nat) (m:Nat),m<=k->(∀i (h:i<l.length),p (k+i)=(l[i]==c))->
  (((List.range l.length).map (·+k)).foldl (sG p) (acc,m)).1=(dP c k l).reverse++acc
 | [],k,acc,m,_,_=>rfl
 | a::r,k,acc,m,hm,hp=>by
  rw[List.length_cons,List.range_succ_eq_map,List.map_cons,List.foldl_cons,Nat.zero_add]
  have h0:p k=(a==c):=hp 0 (Nat.succ_pos _)
  have e:((List.range r.length).map Nat.succ).map (·+k)=(List.range r.length).map (·+(k+1)):=by
   rw[List.map_map];apply List.map_congr_left;intro x _;simp only[Function.comp];lia
  rw[e]
  have o9:∀i (h:i<r.length),p (k+1+i)=(r[i]==c):=λi h=>by
   have:=hp (i+1) (by simpa using h);rw[show k+1+i=k+(i+1) by exact Nat.add_right_comm _ _ _];simpa using this
  have hs:sG p (acc,m) k=if (a==c)=true then(k::acc,k+1) else(acc,m):=by
   unfold sG
   rw[h0,decide_eq_true (show k≥(acc,m).2 from hm),Bool.true_and]
  rw[hs]
  unfold dP
  cases q:a==c with
  | true=>rw[if_pos rfl,if_pos rfl,xc c p r (k+1) (k::acc) (k+1) (Nat.le_refl _) o9];simp
  | false=>rw[if_neg (by simp),if_neg (by simp),xc c p r (k+1) acc m (by exact Nat.le_succ_of_le (by assumption)) o9]
theorem occ_eq(b:List UInt8)(c:UInt8):Bytes.occurrences b.toArray #[c] 0 b.toArray.size=dP c 0 b:=by
 have e1:(#[c]:Array UInt8).size=1:=rfl
 unfold Bytes.occurrences
 rw[e1,List.size_toArray,show b.length+1 - (0+1)=b.length by lia]
 have:=xc c (λi=>b.toArray.extract i (i+1)==#[c]) b 0 [] 0 (Nat.le_refl _) (λi h=>by rw[Nat.zero_add];exact Bl b i c h)
 have h2:(((List.range b.length).map (·+0)).foldl (sG λi=>b.toArray.extract i (i+1)==#[c]) ([],0)).1.reverse=dP c 0 b:=by rw[this];simp
 exact h2
noncomputable def qE(b:Array UInt8)(x:Array (Array UInt8)×Nat)(p:Nat):Array (Array UInt8)×Nat:=(x.1.push (b.extract x.2 p),p+1)
theorem ui(c:UInt8)(b:List UInt8):∀(l cj pre:List UInt8) (parts:Array (Array UInt8)),b=cj++pre++l->c∉pre->
  (((dP c (cj.length+pre.length) l).foldl (qE b.toArray) (parts,cj.length)).1.push (b.toArray.extract ((dP c (cj.length+pre.length) l).foldl (qE b.toArray) (parts,cj.length)).2 b.toArray.size)).toList=parts.toList++(split1 c (pre++l)).map List.toArray
 | [],cj,pre,parts,I,hc=>by
  have:b.toArray.extract cj.length b.toArray.size=pre.toArray:=by
   apply Array.ext'
   rw[qZ,I]
   simp
  simp only[dP,List.foldl_nil,List.append_nil]
  rw[yA hc,this];simp
 | a::r,cj,pre,parts,I,hc=>by
  unfold dP
  cases q:a==c with
  | true=>
   have ea:a=c:=by simpa using q
   subst ea
   rw[if_pos rfl,List.foldl_cons]
   have e1:qE b.toArray (parts,cj.length) (cj.length+pre.length)=(parts.push pre.toArray,(cj++pre++[a]).length):=by
    unfold qE
    have:b.toArray.extract cj.length (cj.length+pre.length)=pre.toArray:=by
     apply Array.ext'
     rw[qZ,I]
     simp
    dsimp only
    rw[this]
    simp[Nat.add_assoc]
   rw[e1]
   have ih:=ui a b r (cj++pre++[a]) [] (parts.push pre.toArray) (by rw[I];simp) (by simp)
   have e2:cj.length+pre.length+1=(cj++pre++[a]).length+([]:List UInt8).length:=by simp[Nat.add_assoc]
   rw[e2,ih,HV hc]
   simp
  | false=>
   have ha:a≠c:=by simpa using q
   rw[if_neg (by simp)]
   have ih:=ui c b r cj (pre++[a]) parts (by rw[I];simp) (λm=>(List.mem_append.mp m).elim hc λm=>ha (List.mem_singleton.mp m).symm)
   have e2:cj.length+pre.length+1=cj.length+(pre++[a]).length:=by simp[Nat.add_assoc]
   rw[e2,ih]
   simp
theorem JV(b:List UInt8)(c:UInt8):Bytes.between b.toArray 1 (dP c 0 b)=(split1 c b).map List.toArray:=by
 have:=ui c b b [] [] #[] rfl (by simp)
 simp only[List.length_nil,Nat.add_zero,List.nil_append] at this
 exact this
theorem F7(c:UInt8):∀(k:Nat) (l:List UInt8),(dP c k l).length<=l.length
 | _,[]=>Nat.le_refl _
 | k,a::r=>by
  unfold dP
  have:=F7 c (k+1) r
  split<;>simp only[List.length_cons]<;>lia
set_option tactic.hygienic true in
theorem F8(c:UInt8):∀(k:Nat) (l:List UInt8),dP c k l=[]->c∉l
 | _,[],_=>by simp
 | k,a::r,e=>by
  unfold dP at e
  split at e
  .cases e
  .rename_i h
   intro m
   rcases List.mem_cons.mp m with q | m
   .exact h (by simp[q])
   .exact F8 c (k+1) r e m
end
end Mine.Internal
end
namespace Mine.Internal
open PySem PySem.Calls PyProof.Rows PySem.W Builtin
noncomputable def oE:Nat->List (List UInt8)->List Value
 | _,[]=>[]
 | tk,x::r=>.bytes x.toArray tk::oE (tk+1) r
section
variable{M:Model}{A:Around}{E:Value->Shared->Prop}
theorem ED:∀(xs:List (List UInt8)) (s:Shared) (Q:List Value->Shared->Prop),(∀x∈xs,x.length<=sizeLine)->(∀tk,Q (oE s.toks xs) {s with toks:=tk})->wpAny M A ((xs.map List.toArray).mapM (Bytes.Kind.new .bytes)) Q E s
 | [],s,Q,_,h=>by rw[List.map_nil,List.mapM_nil];exact wpAny_pure (h s.toks)
 | x::r,s,Q,hx,h=>by
  rw[List.map_cons,List.mapM_cons]
  refine wpAny_bind (wpAny_mkBytes (wpAny_bind (ED r _ _ (λy hy=>hx y (List.mem_cons_of_mem _ hy)) λtk=>wpAny_pure (h tk))) ?_)
  rw[List.size_toArray];exact hx x (List.mem_cons_self ..)
theorem z7:∀(tk:Nat) (xs:List (List UInt8)),(oE tk xs).length=xs.length
 | _,[]=>rfl
 | tk,_::r=>by rw[oE,List.length_cons,List.length_cons,z7 (tk+1) r]
theorem z6{w:World}{c:Cf}{h:Heap}:∀(tk:Nat) (xs:List (List UInt8)),(∀x∈xs,x.length<=ax)->aq w c h (xs.map .bytes) (oE tk xs)
 | _,[],_=>rfl
 | tk,x::r,hx=>⟨_,_,rfl,⟨hx x (List.mem_cons_self ..),tk,rfl⟩,z6 (tk+1) r λy hy=>hx y (List.mem_cons_of_mem _ hy)⟩
set_option tactic.hygienic true in
theorem yy(c:UInt8):∀(b:List UInt8),(split1 c b).length<=b.length+1/\∀x∈split1 c b,x.length<=b.length
 | []=>⟨Nat.le_refl _,λx hx=>by rw[List.mem_singleton.mp hx];exact Nat.le_refl _⟩
 | a::r=>by
  have h1:=(yy c r).1
  have h2:=(yy c r).2
  unfold split1
  split
  .refine⟨by simp only[List.length_cons];lia,λx hx=>?_⟩
   rcases List.mem_cons.mp hx with rfl | hx
   .exact Nat.zero_le _
   .exact Nat.le_succ_of_le (h2 x hx)
  .split
   .exact⟨by simp,λx hx=>by rw[List.mem_singleton.mp hx];simp⟩
   .rename_i p q Oq
    rw[Oq] at h1 h2
    refine⟨by simp only[List.length_cons] at h1 ⊢;exact Nat.le_succ_of_le (by assumption),λx hx=>?_⟩
    rcases List.mem_cons.mp hx with rfl | hx
    .have:=h2 p (.head _);simp only[List.length_cons];lia
    .have:=h2 x (.tail _ hx);simp only[List.length_cons];exact Nat.le_succ_of_le (by assumption)
theorem J0{id:String}(x:Value):Bytes.bindOptional id "split" ["sep","maxsplit"] [x] []=pure [some x,none]:=rfl
set_option tactic.hygienic true in
theorem W5{w:World}{c:Cf}{s:Shared}{nm:String}(rN:nm = "split"){b sep:List UInt8}{t u:Tok}{l:List (List UInt8)}(I:b.length<ax)(e:qd b sep=some l) :
  wpAny M A (Bytes.splitM .bytes nm false ⟨[.bytes b.toArray t,.bytes sep.toArray u],[]⟩) (λfin s'=>∃v,fin=.done (.ret v)/\aE w c s (.own (.list (l.map .bytes))) v s') E s:=by
 subst rN
 have hL:ax=1000000:=rfl
 -- Yt the parts are
 have key:sep.toArray.isEmpty=false/\l.length<=ax/\(∀x∈l,x.length<=ax)/\
   (((Bytes.occurrences b.toArray sep.toArray 0 b.toArray.size).take (b.toArray.size+1)).isEmpty=true->l=[b])/\
   (((Bytes.occurrences b.toArray sep.toArray 0 b.toArray.size).take (b.toArray.size+1)).isEmpty=false->Bytes.between b.toArray sep.toArray.size ((Bytes.occurrences b.toArray sep.toArray 0 b.toArray.size).take (b.toArray.size+1))=l.map List.toArray):=by
  cases sep with
  | nil=>cases e
  | cons c q=>
   cases q with
   | nil=>
    cases e
    have Y:=yy c b
    have ho:(Bytes.occurrences b.toArray [c].toArray 0 b.toArray.size).take (b.toArray.size+1)=dP c 0 b:=by
     have:=occ_eq b c
     rw[show([c]:List UInt8).toArray=#[c] from rfl,this]
     exact List.take_of_length_le (by have:=F7 c 0 b;rw[List.size_toArray];exact Nat.le_succ_of_le (by assumption))
    refine⟨rfl,by lia,λx hx=>by have:=Y.2 x hx;lia,λz=>?_,λz=>?_⟩
    .rw[ho] at z
     exact yA (F8 c 0 b (by simpa using z))
    .rw[ho];exact JV b c
   | cons d r=>
    simp only[qd] at e
    split at e
    .rename_i hh
     cases e
     refine⟨rfl,hh.1,hh.2,λz=>?_,λz=>?_⟩
     .unfold splitM
      rw[if_pos z]
     .unfold splitM
      dsimp only
      rw[z]
      simp only[Bool.false_eq_true,if_false]
      rw[List.map_map]
      simp[Function.comp_def]
    .cases e
 have k1:=key.1
 have k2:=key.2.1
 have k3:=key.2.2.1
 have k4:=key.2.2.2.1
 have k5:=key.2.2.2.2
 unfold Bytes.splitM
 dsimp only
 rw[J0]
 refine wpAny_bind (wpAny_pure ?_)
 dsimp only
 refine wpAny_bind (wpAny_pure (wpAny_bind (wpAny_of_eq (a:=b.toArray) rfl ?_)))
 refine wpAny_bind (wpAny_bind (wpAny_of_eq KBy.buffer_eq (wpAny_pure ?_)))
 rw[k1]
 simp only[Bool.false_eq_true,if_false,show((-1:Int)<0)=True from by simp,if_true]
 cases q:((Bytes.occurrences b.toArray sep.toArray 0 b.toArray.size).take (b.toArray.size+1)).isEmpty with
 | true=>
  rw[if_pos rfl]
  refine wpAny_bind (wpAny_rule (wpAny_bind (GZ (wpAny_bind (wpAny_newList (wpAny_pure ⟨_,rfl,?_⟩) (by show 1<=sizeLine;decide))))))
  rw[k4 q]
  exact aE.list (n:=0) (tk:=s.toks) ⟨_,[],rfl,⟨by exact Nat.le_of_lt (by assumption),t,rfl⟩,rfl⟩ (by show 1<=ax;decide)
 | false=>
  rw[if_neg (by simp),k5 q]
  refine wpAny_bind (ED l s _ (λx hx=>bX (k3 x hx)) λtk=>wpAny_bind (wpAny_newList (wpAny_pure ⟨_,rfl,?_⟩) (by rw[z7];exact bX k2)))
  exact aE.list (s:=s) (n:=0) (tk:=tk) (by simpa using z6 s.toks l k3) (by rw[List.length_map];exact k2)
theorem XI{nm:String}{b:Array UInt8}{t:Tok}:Bytes.takeBuffer? nm (.bytes b t) 0=pure (some (b,none)):=by
 unfold Bytes.takeBuffer?
 rw[KBy.special_eq KBy.look_buffer,KBy.own_buffer]
 have e:(0==Bytes.fullReadOnly)=false:=by decide
 simp only[pure_bind,e,KBy.buffer_eq]
 kernel_rfl
theorem XH{nm:String}{b:Array UInt8}{t:Tok}:Bytes.takeBufferQuiet? nm (.bytes b t) 0=pure (some (b,none)):=by
 unfold Bytes.takeBufferQuiet?
 rw[XI]
 rfl
end
theorem SQ{nm:String}(x y:Value):selfAndOne nm ⟨[x,y],[]⟩=pure (x,y):=rfl
section
variable{M:Model}{A:Around}{E:Value->Shared->Prop}{s:Shared}
theorem Pw{l:Addr}{it:Array Value}{n:Nat}{Q:Value->Shared->Prop}(ho:s.heap.get? l=some (cP it n))(h:Q (.ref l) s):wpAny M A (Bytes.joinItems (.ref l)) Q E s:=by
 unfold Bytes.joinItems
 refine wpAny_bind (wpAny_typeOf (T:="list") ⟨_,ho,rfl⟩ ?_)
 rw[if_pos (by decide)]
 exact wpAny_pure h
theorem DW{Q:Unit->Shared->Prop}(h:Q () s):∀(l:List (Value×Option Value)) (keep:List Value),(∀p∈l,p.2=none)->wpAny M A (Bytes.joinLetGo l keep) Q E s
 | [],keep,_=>wpAny_pure h
 | (x,w)::r,keep,hn=>by
  have hw:w=none:=hn (x,w) (.head _)
  subst hw
  unfold Bytes.joinLetGo
  dsimp only
  exact wpAny_bind (wpAny_letGo (DW h r keep λp hp=>hn p (.tail _ hp)))
theorem DY(sep:Array UInt8):∀(l:List (List UInt8)) (k:Nat) (acc:Array UInt8),0<k->(((l.map List.toArray).zipIdx k).foldl (λout (p:Array UInt8×Nat)=>(if p.2 > 0 then out++sep else out)++p.1) acc).toList=acc.toList++(l.map λx=>sep.toList++x).flatten
 | [],k,acc,_=>by simp
 | x::r,k,acc,hk=>by
  rw[List.map_cons,List.zipIdx_cons,List.foldl_cons,DY sep r (k+1) _ (Nat.succ_pos _)]
  simp[hk]
theorem wL(sep:List UInt8):∀(x:List UInt8) (r:List (List UInt8)),aP sep (x::r)=x++(r.map λy=>sep++y).flatten
 | x,[]=>by simp[aP]
 | x,y::r=>by
  rw[aP,wL sep y r]
  simp
  intro e;cases e
theorem DX(sep:List UInt8)(vs:List (List UInt8)):Bytes.joined sep.toArray (vs.map List.toArray)=(aP sep vs).toArray:=by
 apply Array.ext'
 unfold Bytes.joined
 cases vs with
 | nil=>rfl
 | cons x r=>
  have:=DY sep.toArray r 1 x.toArray (by decide)
  rw[wL]
  rw[List.map_cons,List.zipIdx_cons,List.foldl_cons]
  have e:(if (x.toArray,0).2 > 0 then(#[]:Array UInt8)++sep.toArray else #[])++(x.toArray,0).1=x.toArray:=by simp
  simp only[Nat.lt_irrefl,if_false,Array.empty_append,gt_iff_lt]
  exact this
theorem Hm:∀(l:List (List UInt8)) (n:Nat),(l.map List.toArray).foldl (λn x=>n+x.size) n=n+(l.map List.length).sum
 | [],n=>by simp
 | x::r,n=>by
  rw[List.map_cons,List.foldl_cons,Hm r]
  simp[Nat.add_assoc]
theorem jQ(sep:List UInt8):∀(vs:List (List UInt8)),(aP sep vs).length=(vs.map List.length).sum+sep.length*(vs.length - 1)
 | []=>by simp[aP]
 | x::r=>by
  rw[wL,List.length_append]
  have:∀(r:List (List UInt8)),(r.map λy=>sep++y).flatten.length=(r.map List.length).sum+sep.length*r.length:=by
   intro r
   induction r with
   | nil=>simp
   | cons y q ih=>simp only[List.map_cons,List.flatten_cons,List.length_append,ih,List.sum_cons,List.length_cons,Nat.mul_add,Nat.mul_one];lia
  rw[this]
  simp[Nat.add_assoc]
theorem Qc{items:Array Value}{f:Value->Sem Fin}{g:Sem Fin}{Q:Fin->Shared->Prop}(h1:∀x,items=#[x]->wpAny M A (f x) Q E s)(h2:wpAny M A g Q E s):wpAny M A (match items with
  | #[x]=>f x
  | _=>g) Q E s:=by
 obtain⟨_ | ⟨x,_ | ⟨_,_⟩⟩⟩:=items
 .exact h2
 .exact h1 x rfl
 .exact h2
theorem join_one{w:World}{c:Cf}{h:Heap}{x:Value}:∀{vs:List (List UInt8)},aq w c h (vs.map .bytes) [x]->∃v tk,vs=[v]/\x=.bytes v.toArray tk/\VR w c h (.bytes v) x
 | [],hv=>nomatch hv
 | v::r,hv=>by
  obtain⟨c',q',e,I,hr⟩:=hv
  cases e
  cases r with
  | nil=>exact I.2.elim λtk e=>⟨v,tk,rfl,e,I⟩
  | cons _ _=>obtain⟨_,_,e,_⟩:=hr;cases e
def JJ(vs:List (List UInt8))(rest:List Nat)(ps:Array (Array UInt8)):Prop:=∃i,i<=vs.length/\rest=List.range' i (vs.length - i)/\ps=((vs.take i).map List.toArray).toArray
theorem JJ.step{vs:List (List UInt8)}{x:Nat}{rest:List Nat}{ps:Array (Array UInt8)}(h:JJ vs (x::rest) ps):∃v,vs[x]?=some v/\JJ vs rest (ps.push v.toArray):=by
 obtain⟨i,hi,hr,hp⟩:=h
 have bD:i<vs.length:=(Nat.lt_or_ge i vs.length).resolve_right λq=>by rw[Nat.sub_eq_zero_of_le q] at hr;cases hr
 rw[show vs.length - i=(vs.length - (i+1))+1 from(Nat.sub_add_cancel (Nat.sub_pos_of_lt bD)).symm,List.range'_succ] at hr
 cases hr
 refine⟨_,List.getElem?_eq_getElem bD,x+1,bD,rfl,?_⟩
 rw[hp]
 apply Array.ext'
 rw[Array.toList_push,List.take_add_one,List.getElem?_eq_getElem bD,List.map_append]
 rfl
theorem JJ.fin{vs:List (List UInt8)}{ps:Array (Array UInt8)}(h:JJ vs [] ps):ps=(vs.map List.toArray).toArray:=by
 obtain⟨i,hi,hr,hp⟩:=h
 have:=congrArg List.length hr
 rw[List.length_range'] at this
 rw[hp,Nat.le_antisymm hi (Nat.sub_eq_zero_iff_le.mp this.symm),List.take_length]
theorem Pz{sep:List UInt8}{vs:List (List UInt8)}(hj:(aP sep vs).length<=ax):decide (Bytes.tooLong (Array.foldl (λx1 x2=>x1+x2.size) (sep.toArray.size*((vs.map List.toArray).toArray.size - 1)) (vs.map List.toArray).toArray)=true)=false:=by
 rw[List.foldl_toArray,Hm,List.size_toArray,List.size_toArray,List.length_map,Nat.add_comm,←jQ sep vs]
 exact decide_eq_false λh=>Nat.not_lt.mpr (Nat.le_trans hj qs) (of_decide_eq_true h)
theorem Py{w:World}{c:Cf}{sep:List UInt8}{t:Tok}{l:Addr}{it:Array Value}{n:Nat}{vs:List (List UInt8)}(ho:s.heap.get? l=some (cP it n))(hv:aq w c s.heap (vs.map .bytes) it.toList)(hj:(aP sep vs).length<=ax) :
  wpAny M A (Bytes.joinM .bytes ⟨[.bytes sep.toArray t,.ref l],[]⟩) (λfin s'=>∃v,fin=.done (.ret v)/\aE w c s (.val (.bytes (aP sep vs))) v s') E s:=by
 have item:∀{i v},vs[i]?=some v->∃tk,it.getD i .none=.bytes v.toArray tk:=λ{i v} h=>
  (hv.at (List.getElem?_map.trans (congrArg _ h))).elim λv p=>p.2.2.elim λtk q=>⟨tk,by rw[Array.getD_eq_getD_getElem?,p.1,q];rfl⟩
 refine wpAny_bind (wpAny_of_eq (SQ _ _) (wpAny_bind (Pw ho (wpAny_bind (wpAny_seqItems ho rfl (Qc (λx hx=>?_) (wpAny_bind ?_)))))))
 .refine oN (join_one (hx▸hv:aq w c s.heap _ [x])) λv tk e=>wpAny_bind (wpAny_typeOf (e.2.1▸typeIs_bytes s _ tk) (wpAny_ite_true rfl (wpAny_bind (wpAny_rule (wpAny_pure ⟨_,rfl,by rw[e.1];exact aE.val e.2.2⟩)))))
 .rw[Std.Legacy.Range.forIn_eq_forIn_range']
  refine wpAny_forIn_list _ (λrest b s'=>s'=s/\JJ vs rest b.1/\∀p∈b.2,p.2=none/\p.1.onHeap=false) _ (λx rest b s' h=>?_) (λb s' h=>?_) _ _ ⟨rfl,⟨0,Nat.zero_le _,?_,rfl⟩,λp hp=>nomatch hp⟩
  .have cH:s'.heap.get? l=some (cP it n):=h.1▸ho
   refine wpAny_bind (wpAny_seqItems cH rfl (h.2.1.step.elim λv j=>(item j.1).elim λtk hx=>?_))
   refine wpAny_ite_false (decide_eq_false λz=>?_) (wpAny_bind (wpAny_holding (wpAny_of_eq (hx▸XH) (wpAny_bind (wpAny_seqItems cH rfl (wpAny_ite_false (decide_eq_false λz=>?_) (wpAny_pure ⟨h.1,j.2,λp hp=>?_⟩)))))))
   .exact(List.any_eq_true.mp z).elim λp q=>Bool.false_ne_true ((h.2.2 p q.1).2.symm.trans q.2)
   .exact bne_iff_ne.mp z rfl
   .exact(List.mem_append.mp hp).elim (h.2.2 p) λhp=>List.mem_singleton.mp hp▸⟨rfl,hx▸rfl⟩
  .have j:=h.2.1.fin
   refine wpAny_bind (wpAny_of_eq (a:=sep.toArray) rfl (wpAny_ite_false (j▸Pz hj) (wpAny_bind (wpAny_mkBytes (wpAny_bind (wpAny_holding (wpAny_point (wpAny_bind (DW (wpAny_pure ⟨_,rfl,?_⟩) _ _ λp hp=>(h.2.2 p hp).1))))) ?_))))
   .rw[j,DX,List.size_toArray];exact bX hj
   .rw[j,DX];exact h.1▸aE.bytes hj rfl _ _
  .show List.range' 0 ((it.size - 0+1 - 1) / 1) 1=_
   rw[show it.size=vs.length from hv.size.trans (List.length_map _),Nat.div_one];rfl
end
end Mine.Internal
namespace Mine.Internal
open PySem PySem.Calls PyProof.Rows PySem.W
section
variable(w:World)(c:Cf)(h:Heap)
noncomputable def dj:List O->List Value->Prop
 | [],l=>l=[]
 | a::r,l=>∃v q,l=v::q/\VW w c h a v/\dj r q
end
section
variable{w:World}{c:Cf}{h:Heap}{β:Type}{r:β}{as:List O}{vals:List Value}{P:List Value->Prop}
@[elab_as_elim] theorem dj.r0{x:Option β}(y:dj w c h as vals)(e:Mine.Internal.r0 as x=some r)(k:x=some r->P []):P vals:=match as,y,e with
 | [],y,e=>Eq.symm y▸k e
 | _::_,_,e=>nomatch e
@[elab_as_elim] theorem dj.rc{f:O->List O->Option β}(y:dj w c h as vals)(e:Mine.Internal.rc as f=some r)(k:∀a l v q,VW w c h a v->dj w c h l q->f a l=some r->P (v::q)):P vals:=match as,y,e with
 | [],_,e=>nomatch e
 | a::l,y,e=>y.elim λv y=>y.elim λq y=>y.1▸k a l v q y.2.1 y.2.2 e
@[elab_as_elim] theorem dj.r1{f:O->Option β}(y:dj w c h as vals)(e:Mine.Internal.r1 as f=some r)(k:∀a v,VW w c h a v->f a=some r->P [v]):P vals:=
 dj.rc (P:=P) y e λa l v q z zs e=>dj.r0 (P:=λq=>P (v::q)) zs e λe=>k a v z e
@[elab_as_elim] theorem dj.r2{f:O->O->Option β}(y:dj w c h as vals)(e:Mine.Internal.r2 as f=some r)(k:∀a b v u,VW w c h a v->VW w c h b u->f a b=some r->P [v,u]):P vals:=
 dj.rc (P:=P) y e λa l v q z zs e=>dj.r1 (P:=λq=>P (v::q)) zs e λb u z' e=>k a b v u z z' e
end
section
variable{J:Om}{φ:Fm}{c:Cf}{st:St}{s:Shared}
theorem IC{r:ER}{l:List ER}{as:List O}(e:fy (r::l) st=some as):∃a b,as=a::b/\view r st=some a/\fy l st=some b:=by
 unfold fy at e
 match q:view r st,q':fy l st with
 | some a,some b=>rw[q,q'] at e;exact⟨a,b,(Option.some.inj e).symm,rfl,rfl⟩
 | some _,none=>rw[q,q'] at e;cases e
 | none,_=>rw[q] at e;cases e
theorem aF.views:∀{l:List ER} {us vs:List Value} {rs:List ER} {as:List O},l.length=us.length->aF J φ c (l.reverseAux rs) (us.reverseAux vs) st s->fy l st=some as->aF J φ c rs vs st s/\dj J.w c s.heap as us
 | [],[],_,_,_,_,a,e=>⟨a,Option.some.inj e▸rfl⟩
 | _::_,[],_,_,_,e,_,_=>nomatch e
 | [],_::_,_,_,_,e,_,_=>nomatch e
 | r::l,u::us,vs,rs,_,e,a,e'=>(IC e').elim λb q=>q.elim λbs q=>
  have p:=aF.views (l:=l) (us:=us) (vs:=u::vs) (rs:=r::rs) (Nat.succ.inj e) a q.2.2
  ⟨p.1.pop,q.1▸⟨u,us,rfl,p.1.gd.view p.1.hd q.2.1,p.2⟩⟩
end
structure bR(fv:Value)(f:BF):Prop where
 run:∀{J:Om} {A:Around} {E:Value->Shared->Prop} {c:Cf} {s:Shared} {as:List O} {vals:List Value} {r:ER},Cx J A c s->dj J.w c s.heap as vals->g6 f as=some r->wpAny J.M A (call fv vals) (aE J.w c s r) E s
section
variable{w:World}{c:Cf}{h:Heap}
theorem Sj{v:O}{r:List O}{bs:List UInt8}(e:pQ (v::r)=some bs):∃n b,v=.int n/\(0<=n/\n<256)/\pQ r=some b/\bs=UInt8.ofNat n.toNat::b:=by
 cases v with
 | int n=>
  have p:=bh (c:=(0<=n&&n<256)=true) e
  have q:=Bool.and_eq_true_iff.mp p.1
  exact(Option.map_eq_some_iff.mp p.2).elim λb z=>⟨n,b,rfl,⟨of_decide_eq_true q.1,of_decide_eq_true q.2⟩,z.1,z.2.symm⟩
 | _=>exact nomatch e
def tX(bs:List UInt8)(l:List Value):Prop:=∃ns:List Int,IntsAre l ns/\(∀n∈ns,0<=n/\n<256)/\byteArr ns=bs.toArray/\ns.length=bs.length
theorem Fv:∀{vs:List O} {l:List Value} {bs:List UInt8},aq w c h vs l->pQ vs=some bs->tX bs l
 | [],l,bs,x,e=>x.nil (P:=tX bs) (Option.some.inj e▸⟨[],.nil,(λn h=>nomatch h),rfl,rfl⟩)
 | v::r,l,bs,x,e=>(Sj e).elim λn z=>z.elim λb z=>x.cons (P:=tX bs) λu q xv xr=>(Fv xr z.2.2.1).elim λns k=>
  have xv:VR w c h (.int n) u:=z.1▸xv
  xv.elim λt et=>⟨n::ns,et▸.cons n t k.1,λm hm=>(List.mem_cons.mp hm).elim (λe=>e▸z.2.1) (k.2.1 m),
   z.2.2.2▸congrArg (λl=>(UInt8.ofNat n.toNat::l).toArray) (show(ns.map λn=>n.toNat.toUInt8)=b from congrArg Array.toList k.2.2.1),z.2.2.2▸congrArg Nat.succ k.2.2.2⟩
theorem J7{v:O}{r:List O}{bs:List Bool}(e:mG (v::r)=some bs):∃n b,v=.bool n/\mG r=some b/\bs=n::b:=by
 cases v with
 | bool n=>exact(Option.map_eq_some_iff.mp e).elim λb z=>⟨n,b,rfl,z.1,z.2.symm⟩
 | _=>exact nomatch e
theorem uo:∀{vs:List O} {l:List Value} {bs:List Bool},aq w c h vs l->mG vs=some bs->l=bs.map Value.bool
 | [],l,bs,x,e=>Option.some.inj e▸x
 | v::r,l,bs,x,e=>(J7 e).elim λn z=>z.elim λb z=>x.cons (P:=λl=>l=_) λu q xv xr=>by
  rw[z.1] at xv
  rw[z.2.2,uo xr z.2.1,show u=.bool n from xv];rfl
end
theorem SR{x:Str}{n:Nat}(h:x.cps.toList=[n]):x=oneChar n:=by
 obtain⟨⟨l⟩⟩:=x
 have h:l=[n]:=h
 rw[h];rfl
theorem wV:1<=ax:=by decide
set_option tactic.hygienic true in
theorem JQ:bR (.builtin "ord") .ord:=⟨λC x e=>x.r1 e λa v y e=>y.rS e λn t Z e=>by
 split at e
 .rename_i n hn
  exact Option.some.inj e▸SR hn▸P.ord_of_char (aE.int _ _ _)
 .cases e⟩
theorem JM:bR (.builtin "chr") .chr:=⟨λC x e=>x.r1 e λa v y e=>y.rI e λn t e=>by
 have p:=bh e
 have q:=Bool.and_eq_true_iff.mp p.1
 have q1:=of_decide_eq_true q.1
 have q2:=of_decide_eq_true q.2
 exact Option.some.inj p.2▸P.chr_of_int (by rw[decide_eq_false (Int.not_lt.mpr q1),decide_eq_false (by omega)];rfl) (aE.str (x:=oneChar n.toNat) wV _ _)⟩
theorem JO:bR (.builtin "len") .len:=⟨λ{J A E c s as vals r} C x e=>x.r1 e λa v y e=>by
 cases a with
 | str n=>exact VW.str y λY t=>Option.some.inj e▸P.len_str (Int.not_le.mpr (iD Y)) (aE.int _ _ _)
 | bytes n=>exact VW.bytes y λY t=>Option.some.inj e▸len_bytes (List.size_toArray▸y8 Y) (List.size_toArray▸aE.int _ _ _)
 | tup n=>exact VW.tup y λad it m Y Z ho hv=>Option.some.inj e▸len_tuple ⟨_,ho,rfl,m,rfl⟩ (hv.size.symm▸iD Y) (hv.size.symm▸aE.int _ _ _)
 | ao k=>cases k with
  | list n=>exact VW.list y λad it m Y ho hv=>Option.some.inj e▸call_len_list ⟨_,ho,rfl,m,rfl⟩ (hv.size.symm▸iD Y) (hv.size.symm▸aE.int _ _ _)
  | dict n=>exact VW.dict y λad it m hs Y hn ho hv=>Option.some.inj e▸call_len_dict (knd:=keyKind aL J.w) hs (eP ho hn hv) ((iB hv).symm▸iD Y) ((iB hv).symm▸aE.int _ _ _)
  | inst _ _=>exact nomatch e
 | _=>exact nomatch e⟩
theorem JL:bR (.type "bytes") .bytes:=⟨λC x e=>x.r1 e λa v y e=>y.rL e λvs ad it m Y ho hv e=>by
 refine(Option.map_eq_some_iff.mp e).elim λbs q=>(Fv hv q.1).elim λns k=>q.2▸?_
 have hz:bs.length<=ax:=by
  have:=k.1.length
  rw[Array.length_toList,hv.size] at this
  omega
 exact call_bytes_ints (vs:=it.toList) ⟨_,ho,rfl,m,rfl⟩ k.1 k.2.1 (by rw[Array.length_toList,hv.size];exact bX Y) C.hd λh' t tk hk=>⟨h',tk,rfl,hk,hz,t,congrArg (λb=>Value.bytes b t) k.2.2.1⟩⟩
theorem JS:bR (.type "str") .str:=⟨λ{J A E c s as vals r} C x e=>x.r1 e λa v y e=>y.rI e λn t e=>by
 have p:=bh e
 have q:=Bool.and_eq_true_iff.mp p.1
 have q1:=of_decide_eq_true q.1
 have q2:=of_decide_eq_true q.2
 have N1:n.natAbs.log2<1920:=by
  by_cases q:n.natAbs=0
  .rw[q];decide
  .exact Nat.lt_of_lt_of_le ((Nat.log2_lt q).mpr (show n.natAbs<2 ^ 10 by omega)) (by decide)
 have e1:(Str.ofString (toString n))=dN n.toNat:=(Int.eq_ofNat_of_zero_le q1).elim λk z=>z▸rfl
 have Y:(dN n.toNat).length<=ax:=by
  have:=len_str_of_int n
  rw[←e1]
  have hL:ax=1000000:=rfl
  have:((Str.ofString (toString n)).length:Int)<=n.natAbs+2:=this
  omega
 exact Option.some.inj p.2▸P.str_of_int N1 (show aE J.w c s _ (.str (Str.ofString (toString n)) s.toks) _ from e1▸aE.str (e1▸Y) _ _)⟩
theorem JN:bR (.type "int") .int:=⟨λ{J A E c s as vals r} C x e=>x.r1 e λa v y e=>y.rI e λn t e=>Option.some.inj e▸call_int_int (aE.int _ _ s.toks)⟩
theorem JP:bR (.builtin "max") .max:=⟨λC x e=>x.r2 e λa b v u y z e=>y.rI e λn t e=>z.rI e λm t' e=>Option.some.inj e▸max_two_ints C.hd λh' tk hk=>⟨h',tk,rfl,hk,by
 by_cases q:n<m
 .rw[if_pos q,if_pos q];exact⟨t',rfl⟩
 .rw[if_neg q,if_neg q];exact⟨t,rfl⟩⟩⟩
theorem JT:bR (.type "tuple") .tuple:=⟨λ{J A E c s as vals r} C x e=>x.r1 e λa v y e=>y.rL e λvs ad it m Y ho hv e=>Option.some.inj e▸call_tuple_list (items:=it) ⟨_,ho,rfl,m,rfl⟩ (λh' hk=>⟨h'.push (jf it 0),s.toks,rfl,λb o q=>Sub.push _ _ b o (hk b o q),
  Y,h'.objs.size,it,0,rfl,match q:c.ow h'.objs.size with
   | none=>rfl
   | some o=>(match q':s.heap.get? h'.objs.size with
    | none=>(nomatch q.symm.trans (C.fr _ q'))
    | some p=>(nomatch (dF h').symm.trans (hk _ _ q'))),Heap.get?_push_size _ rfl,aq.le (Sub.le (Sub.trans (λb o q=>hk b o q) (Sub.push h' _))) vs hv⟩) (hv.size.symm▸bX Y)⟩
theorem hN{α:Type}{l:List α}{i:Nat}{x d:α}(e:l[i]?=some x):l.getD i d=x:=by rw[List.getD_eq_getElem?_getD,e];rfl
theorem IT{prog:Program}{w:World}{A:Around}{E:Value->Shared->Prop}{s:Shared}{l:Addr}{it:Array Value}{m:Nat}{bs:List Bool}{Q:Bool->Value->Shared->Prop}{fn:List Nat->(Nat->Bool)->Bool}{r:Bool}(hh:A.handled=none)(ho:s.heap.get? l=some (cP it m))(I:it.toList=bs.map Value.bool)
  (hr:fn (List.range bs.length) (λi=>bs.getD i false)=r) (hQ:∀h' tk,Sub s.heap h'->Q r (.bool r) {s with heap:=h',toks:=tk}) :
  wpAny (model prog w) A (pyIter (.ref l)) (λit aA=>∃ah fp wr n P St tr,it=.ref ah/\Walks prog w A ah fp wr n P St/\St 0 aA.heap/\TruthOf prog w A P tr/\
   ∀h' tk,(∀b o,b∉wr->aA.heap.get? b=some o->h'.get? b=some o)->Q (fn (List.range n) tr) (.bool (fn (List.range n) tr)) {aA with heap:=h',toks:=tk}) E s:=by
 refine wpAny_pyIter_list ⟨_,ho,rfl,m,rfl⟩ ⟨s.heap.objs.size,_,_,_,_,_,λi=>bs.getD i false,rfl,Walks.list (A:=A) hh s.heap.objs.size l (Nat.ne_of_lt (Heap.lt_size ho)) it,⟨⟨_,Heap.get?_push_size _ rfl,rfl,rfl⟩,⟨_,Heap.get?_push_of_some _ ho,rfl,m,rfl⟩⟩,?_,λh' tk hk=>?_⟩
 .intro i v s' Q' E' hp hq
  have o9:it.toList[i]?=some v:=Array.getElem?_toList.trans hp
  rw[I,List.getElem?_map] at o9
  refine(Option.map_eq_some_iff.mp o9).elim λb q=>q.2▸wpAny_truthy_bool ?_
  have hq:Q' (bs.getD i false) s':=hq
  exact hN (d:=false) q.1▸hq
 .have hz:it.size=bs.length:=(congrArg List.length I).trans (List.length_map _)
  rw[hz,hr]
  exact hQ h' tk λb o e=>hk b o (λq=>nomatch (List.mem_singleton.mp q▸dF s.heap).symm.trans e) (Heap.get?_push_of_some _ e)
theorem Gl:∀(bs:List Bool),(List.range bs.length).map (λi=>bs.getD i false)=bs
 | bs=>List.ext_getElem? λi=>by
  rw[List.getElem?_map]
  by_cases h:i<bs.length
  .rw[List.getElem?_range h,Option.map_some,hN (List.getElem?_eq_getElem h),List.getElem?_eq_getElem h]
  .rw[List.getElem?_eq_none (by rw[List.length_range];exact Nat.not_lt.mp h),List.getElem?_eq_none (Nat.not_lt.mp h)];rfl
theorem JI:bR (.builtin "all") .all:=⟨λ{J A E c s as vals r} C x e=>x.r1 e λa v y e=>y.rL e λvs ad it m Y ho hv e=>(Option.map_eq_some_iff.mp e).elim λbs q=>q.2▸
 call_all_walk (IT (A:=A.in1) (fn:=λl p=>l.all p) (Q:=λZ v s'=>aE J.w c s _ v s') C.hd ho (uo hv q.1) ((List.all_map (p:=id)).symm.trans (congrArg (List.all · id) (Gl bs))) λh' tk hk=>⟨h',tk,rfl,hk,rfl⟩)⟩
theorem JK:bR (.builtin "any") .any:=⟨λ{J A E c s as vals r} C x e=>x.r1 e λa v y e=>y.rL e λvs ad it m Y ho hv e=>(Option.map_eq_some_iff.mp e).elim λbs q=>q.2▸
 call_any_walk (IT (A:=A.in1) (fn:=λl p=>l.any p) (Q:=λZ v s'=>aE J.w c s _ v s') C.hd ho (uo hv q.1) ((List.any_map (p:=id)).symm.trans (congrArg (List.any · id) (Gl bs))) λh' tk hk=>⟨h',tk,rfl,hk,rfl⟩)⟩
theorem jT(h:Heap):Frag.In [] h:=λa o e=>nomatch e
theorem Pk{prog:Program}{w:World}{c:Cf}{A:Around}{E:Value->Shared->Prop}{s:Shared}{a:O}{v:Value}{r:ER}(x:VW w c s.heap a v)(e:zJ a=some r):wpAny (model prog w) A (call (.builtin "isinstance") [v,.type "bool"]) (aE w c s r) E s:=by
 have hq:∀{b:Bool},∀tk,aE w c s (.val (.bool b)) (.bool b) {s with toks:=tk}:=λ{b} tk=>aE.jh (a:=.bool b) rfl tk
 cases a with
 | none=>exact Option.some.inj e▸VW.none x (kia_one (K:=[]) (b:=false) kitx_none (jT _) trivial (by rfl) nofun λtk=>hq tk)
 | bool b=>exact Option.some.inj e▸VW.bool x (kia_one (K:=[]) (b:=true) kitx_bool (jT _) trivial (by rfl) nofun λtk=>hq tk)
 | int i=>exact Option.some.inj e▸VW.int x λZ=>kia_one (K:=[]) (b:=false) kitx_int (jT _) trivial (by rfl) nofun λtk=>hq tk
 | str i=>exact Option.some.inj e▸VW.str x λZ Z=>kia_one (K:=[]) (b:=false) kitx_str (jT _) trivial (by rfl) nofun λtk=>hq tk
 | bytes i=>exact Option.some.inj e▸VW.bytes x λZ Z=>kia_one (K:=[]) (b:=false) kitx_bytes (jT _) trivial (by rfl) nofun λtk=>hq tk
 | tup vs=>exact Option.some.inj e▸VW.tup x λl it m Z Z ho hv=>kia_one (K:=[]) (b:=false) kitx_tuple (jT _) ⟨_,ho,rfl⟩ (by rfl) nofun λtk=>hq tk
 | ao k=>
  cases k with
  | list vs=>exact Option.some.inj e▸VW.list x λl it m Z ho hv=>kia_one (K:=[]) (b:=false) kitx_list (jT _) ⟨_,ho,rfl⟩ (by rfl) nofun λtk=>hq tk
  | dict es=>exact Option.some.inj e▸VW.dict x λl it m Z Z Z ho hv=>kia_one (K:=[]) (b:=false) kitx_dict (jT _) ⟨_,ho,rfl⟩ (by rfl) nofun λtk=>hq tk
  | inst c fs=>exact nomatch e
 | ref l=>exact nomatch e
section
variable{w:World}{c:Cf}{h:Heap}
theorem aq.xg:∀{as:List O} {vs:List Value},as.length=vs.length->(∀(i:Nat) a v,as[i]?=some a->vs[i]?=some v->VR w c h a v)->aq w c h as vs
 | [],[],_,_=>rfl
 | [],_::_,e,_=>nomatch e
 | _::_,[],e,_=>nomatch e
 | a::r,v::q,e,k=>.mk (k 0 a v rfl rfl) (aq.xg (Nat.succ.inj e) λi=>k (i+1))
theorem ItemsOf.IG{acc:Array Value}{n:Nat}{P:Nat->Value->Prop}{f:Nat->O}(x:ItemsOf P acc n)(hf:∀i v,P i v->VR w c h (f i) v):aq w c h ((List.range n).map f) acc.toList:=
 .xg (by rw[List.length_map,List.length_range,Array.length_toList];exact x.1.symm) λi a v e e'=>by
  rw[List.getElem?_map] at e
  refine(Option.map_eq_some_iff.mp e).elim λj q=>q.2▸?_
  have:j=i:=by
   have:=cu q.1
   rw[List.length_range] at this
   exact(Option.some.inj ((List.getElem?_range this).symm.trans q.1)).symm
  exact this▸hf i v (x.2 i v (Array.getElem?_toList▸e'))
theorem PQ{prog:Program}{A:Around}{E:Value->Shared->Prop}{s:Shared}{a b:Int}{t u:Tok}{r:ER}(hh:A.handled=none)(e:g6 .iX [.int a,.int b]=some r){Q:Value->Shared->Prop}
  (hQ:∀v s',aE w c s r v s'->Q v s') :
  wpAny (model prog w) A (call (.type "range") [.int a t,.int b u]) (λv aJ=>wpAny (model prog w) A (call (.type "list") [v]) Q E aJ) E s:=by
 have p:=bh (c:=(small a&&small b&&decide (b - a<=ax))=true) e
 have p1:=Bool.and_eq_true_iff.mp p.1
 have p2:=Bool.and_eq_true_iff.mp p1.1
 have o2:=yl p2.1
 have hL:ax=1000000:=rfl
 have kZ:=yl p2.2
 have hlen:=of_decide_eq_true p1.2
 have lg:Builtin.Range.rangeSize a b 1=(((b - a).toNat:Nat):Int):=by
  rw[rangeSize_one]
  exact O4
 refine call_range_2 (call_list_range (n:=(b - a).toNat) hh (IsRange.new _ _ _ _ _ _ _) ?_ lg (by lia) λh' tk Jm c' hk hg hI=>?_)
 .have YD:a.natAbs<2 ^ 62:=of_decide_eq_true p2.1
  have YF:b.natAbs<2 ^ 62:=of_decide_eq_true p2.2
  exact small_one (by lia) (by lia) (by lia) (by lia)
 .have hQ:=Option.some.inj p.2▸hQ
  refine hQ _ _ ⟨h',tk,rfl,λb o q=>hk b o (Sub.push _ _ _ _ q),_,rfl,Heap.get?_none_of_le (by rw[Heap.size_push];exact Nat.le_succ _),λo=>⟨if_pos rfl,by rw[List.length_map,List.length_range];lia,Jm,c',hg,Mine.Internal.ItemsOf.IG hI λi v z=>z.elim λt ev=>⟨t,ev.trans (by rw[Int.mul_one])⟩⟩⟩
end
section
variable{J:Om}{x:Str}{xs:List Expr}{as:aW}{fv:Value}{p pos:Pos}
theorem jx{w:World}{env:Env}{A:Around}{E:Value->Shared->Prop}{s:Shared}{Q:Value->Shared->Prop}(hf:(∃id,fv=.builtin id)∨∃T,fv=.type T)(hx:xs.all notStar=true)
  (h:wpAny (model aL w) A (spliced (backTo pos (starEach xs env))) (λvs aJ=>wpAny (model aL w) A (call fv vs) Q E aJ) E s) :
  wpAny (model aL w) A (callWith pos fv [] (backTo pos (starEach xs env)) []) Q E s:=
 hf.elim (λz=>z.elim λid e=>e▸callWith_builtin (nH hx) (mR hx (e▸h))) λz=>z.elim λT e=>e▸PySem.callWith_type (nH hx) (mR hx (e▸h))
structure fB(D:au)(B:Heap)(x:Str)(fv:Value):Prop where
 k:D.sc.names.lookup x=some .globalImplicit
 d:dm x=true
 m:mg B x=none
 n:x≠"__name__"
 v:bootBuiltins x=some fv
 f:(∃id,fv=.builtin id)∨∃T,fv=.type T
theorem At.iH{φ:Fm}{rs:List ER}{vs:List Value}{st:St}{s:Shared}{Q:Value->Shared->Prop}(P:At J φ rs vs st s)(W:Wd J.w J.B)(N:fB J.D J.B x fv)(h:Q fv s):wpAny J.M φ.A (eval (.Name x p) φ.env) Q φ.E s:=P.bi W N.k N.d N.m N.n N.v h
theorem VK{f:BF}(W:Wd J.w J.B)(I:bR fv f)(N:fB J.D J.B x fv)(hs:cW J as xs):aB J (.aG f as) (.Call (.Name x p) xs [] pos):=
 .val ⟨λP e q=>Call_ (P.iH W N (jx N.f hs.ns (hs.run pos P e λl st' us s' k Y P=>aM k λas ha k=>aM k λr hr k=>P.elim λc a=>
  have p:=a.views Y ha
  wpAny_mono (I.run p.1.cx p.2 hr) (λv s' o=>q _ _ _ _ k (p.1.op o)) λZ Z y=>y)))⟩ λZ Z=>rfl
theorem V5{a:ME}{e:Expr}{p2}{y:Str}(W:Wd J.w J.B)(N:fB J.D J.B x (.builtin "isinstance"))(N2:fB J.D J.B y (.type "bool"))(ha:aB J a e)(hn:notStar e=true) :
  aB J (.aG .ic (.cons a .nil)) (.Call (.Name x p) [e,.Name y p2] [] pos):=
 .val ⟨λ{φ _ _ _ _ _ _} P e q=>Call_ (P.iH W N (jx N.f (congrArg (·&&true) hn) (wpAny_items_cons (ha.e.run P e λr st' v s' e P=>wpAny_items_cons (P.iH W N2 (wpAny_items_nil (aM e λas ha e=>aM e λr hr k=>
  (IC ha).elim λb z=>z.elim λbs z=>P.elim λc a=>wpAny_mono (Pk (a.gd.view a.hd z.2.1) (by
   rw[z.1,show bs=[] from(Option.some.inj z.2.2).symm] at hr
   exact hr)) (λv s' o=>q _ _ _ _ k (a.pop.op o)) λZ Z y=>y))) (gV rfl _ φ.env)) (gV hn _ φ.env))))⟩ λZ Z=>rfl
theorem V9{a b:ME}{y:Str}{dK jG:Expr}{p2 p3}(W:Wd J.w J.B)(N:fB J.D J.B x (.type "list"))(N2:fB J.D J.B y (.type "range"))(ha:aB J a dK)(I:aB J b jG)(hn:notStar dK=true)(iO:notStar jG=true) :
  aB J (.aG .iX (.cons a (.cons b .nil))) (.Call (.Name x p) [.Call (.Name y p2) [dK,jG] [] p3] [] pos):=
 have hs:cW J (.cons a (.cons b .nil)) [dK,jG]:=yp hn ha (yp iO I HI)
 .val ⟨λ{φ _ _ st _ K Q} P e q=>
  have e:wEs tab (F J.k) (.cons a (.cons b .nil)) st (λrs st=>OK (fy rs st) λvs=>OK (g6 .iX vs) λr=>K r st):=e
  Call_ (P.iH W N (jx N.f rfl (wpAny_items_cons (Call_ (P.iH W N2 (jx N2.f hs.ns (hs.run p3 P e λl st' us s' k Y P=>aM k λas ha k=>aM k λr hr k=>P.elim λc a=>by
  have p:=a.views Y ha
  have e:=hr
  refine dj.r2 (P:=λus=>wpAny J.M φ.A (call (.type "range") us) _ φ.E s') p.2 e λa' b' v u y z e=>?_
  refine y.rI e λn t e=>z.rI e λm t' e=>?_
  exact wpAny_mono (PQ (E:=φ.E) (s:=s') (Q:=λv aA=>Q v aA) p.1.cx.hd e λv aA o=>q _ _ _ _ k (p.1.op o)) (λv aA h=>wpAny_items_nil h) λZ Z y=>y)))) (gV rfl _ φ.env))))⟩ λZ Z=>rfl
end
structure jm(x:Expr)(a:Str)(apos pos:Pos)(xs:List Expr):Prop where
 base:∀env,attributeBase x a env (eval x env)=eval x env
 few:xs.length<30
 line:(apos.endLine==pos.line)=true
 ns:xs.all notStar=true
section
variable{M:Model}{A:Around}{E:Value->Shared->Prop}{s:Shared}{env:Env}
theorem call_meth{x:Expr}{a:Str}{apos pos:Pos}{xs:List Expr}{Q:Value->Shared->Prop}(S:jm x a apos pos xs)
  (h:wpAny M A (eval x env) (λov aJ=>∀pl,wpAny M A (getMethod ov a pl) (λfx aA=>wpAny M A (callWith pos fx.1 fx.2 (backTo pos (starEach xs env)) []) Q E aA) E aJ) E s) :
  wpAny M A (eval (.Call (.Attribute x a apos) xs [] pos) env) Q E s:=by
 have NC:methodCallForm (xs.length+([]:List Keyword).length) (backTo pos (starEach xs env)) (backToKw pos (keywordEach [] env))=true:=by
  have h2:(backTo pos (starEach xs env)).all (λx=>!x.1)=true:=by rw[←List.not_any_eq_all_not,nH S.ns];rfl
  unfold methodCallForm
  rw[h2,show(backToKw pos (keywordEach [] env)).all (λx=>x.1.isSome)=true from rfl,Bool.true_and]
  exact decide_eq_true S.few
 have Ol:methodCallPos true x env apos pos=pure pos:=by unfold methodCallPos;rw[S.line];rfl
 rw[arm_eval_Call,S.base]
 refine wpAny_bind (wpAny_mono h (λov aJ aV=>wpAny_bind (wpAny_standAt ?_)) λZ Z e=>e)
 unfold methodCall
 rw[NC]
 exact wpAny_bind (wpAny_holding (wpAny_mono (aV _) (λfx aA ia=>wpAny_bind (wpAny_of_eq Ol ia)) λZ Z e=>e))
end
def tW(m:MN)(a:Str)(T:String)(o:O)(ov:Value):Prop:=
 ∃id,PlainAttrs T/\Slot T a id/\typeOf (.builtin id)=pure (.type "method_descriptor")/\
  ∀{w:World} {A:Around} {E:Value->Shared->Prop} {s:Shared} {c:Cf} {as:List O} {vals:List Value} {r:ER},A.handled=none->dj w c s.heap as vals->dH m o as=some r->wpAny (model aL w) A (call (.builtin id) (ov::vals)) (aE w c s r) E s
structure MV(m:MN)(a:Str):Prop where
 kK:∀b t,b.length<=ax->tW m a "bytes" (.bytes b) (.bytes b.toArray t)
 str:yD m=true->∀x t,x.length<=ax->tW m a "str" (.str x) (.str x t)
noncomputable def yR:MN->Bool
 | .user _=>false
 | .get=>false
 | .append=>false
 | .insert=>false
 | .pop=>false
 | .update=>false
 | _=>true
theorem nG{p:Prop}(h:false=true):p:=nomatch h
theorem VW.wD{w:World}{c:Cf}{h:Heap}{o:O}{b:List UInt8}{t:Tok}(x:VW w c h o (.bytes b.toArray t)):o=.bytes b:=by
 cases o with
 | bytes l=>exact x.2.elim λt' e=>congrArg O.bytes (List.toArray_inj (Value.bytes.inj e).1).symm
 | none=>exact nomatch (show Value.bytes _ _=Value.none from x)
 | bool b=>exact nomatch (show Value.bytes _ _=Value.bool b from x)
 | int i=>exact x.elim λt e=>nomatch e
 | str i=>exact x.2.elim λt e=>nomatch e
 | tup i=>exact x.2.elim λa p=>p.elim λit p=>p.elim λn p=>nomatch p.1
 | ao k=>exact x.elim λa p=>p.elim λo p=>nomatch p.1
 | ref l=>exact x.elim λa p=>nomatch p.1
theorem VW.wG{w:World}{c:Cf}{h:Heap}{o:O}{b:Str}{t:Tok}(x:VW w c h o (.str b t)):o=.str b:=by
 cases o with
 | str l=>exact x.2.elim λt' e=>congrArg O.str (Value.str.inj e).1.symm
 | none=>exact nomatch (show Value.str _ _=Value.none from x)
 | bool b=>exact nomatch (show Value.str _ _=Value.bool b from x)
 | int i=>exact x.elim λt e=>nomatch e
 | bytes i=>exact x.2.elim λt e=>nomatch e
 | tup i=>exact x.2.elim λa p=>p.elim λit p=>p.elim λn p=>nomatch p.1
 | ao k=>exact x.elim λa p=>p.elim λo p=>nomatch p.1
 | ref l=>exact x.elim λa p=>nomatch p.1
theorem qJ{w:World}{env:Env}{A:Around}{E:Value->Shared->Prop}{s:Shared}{id:String}{first:List Value}{pos:Pos}{xs:List Expr}{Q:Value->Shared->Prop}(hx:xs.all notStar=true)
  (h:wpAny (model aL w) A (spliced (backTo pos (starEach xs env))) (λvs aJ=>wpAny (model aL w) A (call (.builtin id) (first++vs)) Q E aJ) E s) :
  wpAny (model aL w) A (callWith pos (.builtin id) first (backTo pos (starEach xs env)) []) Q E s:=callWith_builtin (nH hx) (mR hx h)
set_option tactic.hygienic true in
theorem PF{T:Tab}{m:MN}(hm:yR m=true){r:ER}{st:St}{kd:MK}(e:fc T m r st=some kd):(∃b,view r st=some (.bytes b)/\kd=.kK)∨(∃x,view r st=some (.str x)/\kd=.str/\yD m=true):=by
 have key:wJ m (view r st)=some kd:=by
  cases m<;>first | exact e | cases hm
 unfold wJ at key
 split at key
 .rename_i b I;exact .inl ⟨b,I,(Option.some.inj key).symm⟩
 .rename_i x hx;exact .inr ⟨x,hx,(Option.some.inj (bh key).2).symm,(bh key).1⟩
 .cases key
section
variable{J:Om}{φ:Fm}{rs:List ER}{vs:List Value}{st:St}{s:Shared}{r:ER}{v:Value}{x:Expr}{a:Str}{xs:List Expr}{apos pos:Pos}{o:ME}{as:aW}{m:MN}{pl:Sem Bool}{K:KE}{Q:Value->Shared->Prop}
theorem EV{T':String}{ov:O}(hT:s.TypeIs v T')(Oa:∀ad,v≠.ref ad)(hv:∀{c h FX},VW J.w c h FX v->FX=ov)(R:tW m a T' ov v)(hs:cW J as xs)(P:At J φ (r::rs) (v::vs) st s)
  (e:wEs tab (F J.k) as st λrs st=>OK (fy rs st) λvs=>OK (view r st) λo=>OK (dH m o vs) λx=>K x st) (q:∀r st' v s',K r st'->At J φ (r::rs) (v::vs) st' s'->Q v s') :
  wpAny J.M φ.A (getMethod v a pl) (λfx aA=>wpAny J.M φ.A (callWith pos fx.1 fx.2 (backTo pos (starEach xs φ.env)) []) Q φ.E aA) φ.E s:=
 R.elim λid R=>getMethod_builtin hT R.1 R.2.1 R.2.2.1 (λad q=>absurd q (Oa ad)) (qJ hs.ns (hs.run pos P e λl st' us s' k Y P=>aM k λas ha k=>aM k λo ho k=>aM k λx hx k=>P.elim λc A=>
  have p:=A.views Y ha
  wpAny_mono (R.2.2.2 p.1.cx.hd p.2 (hv (p.1.gd.view p.1.hd ho)▸hx)) (λv cU o=>q _ _ _ _ k (p.1.pop.op o)) λZ Z y=>y))
theorem Ww(hm:yR m=true)(hv:MV m a)(S:jm x a apos pos xs)(ho:aB J o x)(hs:cW J as xs):aB J (.aw m o as) (.Call (.Attribute x a apos) xs [] pos):=
 .val ⟨λP e q=>call_meth S (ho.e.run P e λr st' v s' e P pl=>aM e λkd hk e=>P.elim λc A=>(PF hm hk).elim
  (λz=>z.elim λb z=>VW.bytes (P:=λv=>v=_->_) (A.gd.view A.hd z.1) (λY t ev=>by
   rw[z.2] at e
   rw[←ev] at P ⊢
   exact EV (typeIs_bytes _ _ _) nofun VW.wD (hv.kK b t Y) hs P e q) rfl)
  λz=>z.elim λb z=>VW.str (P:=λv=>v=_->_) (A.gd.view A.hd z.1) (λY t ev=>by
   rw[z.2.1] at e
   rw[←ev] at P ⊢
   exact EV (typeIs_str _ _ _) nofun VW.wG (hv.str z.2.2 b t Y) hs P e q) rfl)⟩ λZ Z=>rfl
end
theorem m_find:MV .find "find":=⟨λb t Y=>⟨_,FB.plainAttrs_bytes,BF.Ht,BF.X3,λhh x e=>x.r1 e λa v y e=>y.rB e λsub u Z e=>by
 have p:=bh (c:=sub.length=1) e
 have z:=p.1
 obtain _ | ⟨c,_ | ⟨_,_⟩⟩:=sub
 .cases z
 rotate_left
 .cases z
 .refine Option.some.inj p.2▸wpAny_call_entry BF.Ht (typeIs_bytes _ _ _) BF.Ln (Cg (st:=false) (λtk i hi=>⟨_,rfl,?_⟩) nG) (BF.Jw _ _)
  have:i=findB b [c]:=by
   unfold findB
   cases q:b.findIdx? (·==c) with
   | some j=>rw[q] at hi;dsimp only;rw[q];exact(Option.some.inj hi).symm
   | none=>rw[q] at hi;dsimp only;rw[q];exact(Option.some.inj hi).symm
  exact this▸aE.int _ _ _⟩,nG⟩
theorem P0:MV .index "index":=⟨λb t Y=>⟨_,FB.plainAttrs_bytes,BF.Hu,BF.X4,λhh x e=>x.r1 e λa v y e=>y.rB e λsub u Z e=>by
 match sub,e with
 | [c],e=>
  refine(Option.map_eq_some_iff.mp e).elim λi q=>q.2▸wpAny_call_entry BF.Hu (typeIs_bytes _ _ _) BF.Lp (Cg (st:=true) (λtk j hj=>⟨_,rfl,?_⟩) (λZ=>by rw[q.1];rfl)) (BF.Jx _ _)
  rw[q.1] at hj
  exact Option.some.inj hj▸aE.int _ _ _⟩,nG⟩
theorem m_startswith:MV .startswith "startswith":=⟨λb t Y=>⟨_,FB.plainAttrs_bytes,FB.slot_bytes_startswith,FB.type_bytes_startswith,λhh x e=>x.r1 e λa v y e=>y.rB e λp u Z e=>
 Option.some.inj e▸wpAny_call_entry FB.slot_bytes_startswith (typeIs_bytes _ _ _) FB.entry_bytes_startswith (Ie (en:=false) ⟨_,rfl,aE.bool _⟩) (FB.args_bytes_startswith_2 _ _)⟩,nG⟩
theorem m_endswith:MV .endswith "endswith":=⟨λb t Y=>⟨_,FB.plainAttrs_bytes,FB.slot_bytes_endswith,FB.type_bytes_endswith,λhh x e=>x.r1 e λa v y e=>y.rB e λp u Z e=>
 Option.some.inj e▸wpAny_call_entry FB.slot_bytes_endswith (typeIs_bytes _ _ _) FB.entry_bytes_endswith (Ie (en:=true) ⟨_,rfl,aE.bool _⟩) (FB.args_bytes_endswith_2 _ _)⟩,nG⟩
theorem m_strip:MV .strip "strip":=⟨λb t Y=>⟨_,FB.plainAttrs_bytes,BF.Hy,BF.X7,λhh x e=>x.r1 e λa v y e=>y.rB e λcs u Z e=>
 Option.some.inj e▸wpAny_call_entry BF.Hy (typeIs_bytes _ _ _) BF.Ls (Xw (bX Y) λt' tk=>⟨_,rfl,aE.bytes (Nat.le_trans (H4 b cs).1 Y) rfl _ _⟩) (BF.JA _ _)⟩,nG⟩
section
variable{w:World}{c:Cf}{h:Heap}
theorem Xs{v:O}{r:List O}{bs:List Str}(e:qf (v::r)=some bs):∃n b,v=.str n/\qf r=some b/\bs=n::b:=by
 cases v with
 | str n=>exact(Option.map_eq_some_iff.mp e).elim λb z=>⟨n,b,rfl,z.1,z.2.symm⟩
 | _=>exact nomatch e
theorem H0:∀{vs:List O} {l:List Value} {bs:List Str},aq w c h vs l->qf vs=some bs->∃ps:List (Str×Tok),l=strValues ps/\ps.map (·.1)=bs
 | [],l,bs,x,e=>⟨[],x,Option.some.inj e⟩
 | v::r,l,bs,x,e=>(Xs e).elim λn z=>z.elim λb z=>x.cons (P:=λl=>∃ps:List (Str×Tok),l=strValues ps/\ps.map (·.1)=bs) λu q xv xr=>
  have xv:VR w c h (.str n) u:=z.1▸xv
  xv.2.elim λt et=>(H0 xr z.2.1).elim λps k=>⟨(n,t)::ps,by rw[k.1,et];rfl,by rw[z.2.2,←k.2];rfl⟩
theorem Kg{v:O}{r:List O}{bs:List (List UInt8)}(e:jv (v::r)=some bs):∃n b,v=.bytes n/\jv r=some b/\bs=n::b:=by
 cases v with
 | bytes n=>exact(Option.map_eq_some_iff.mp e).elim λb z=>⟨n,b,rfl,z.1,z.2.symm⟩
 | _=>exact nomatch e
theorem z4:∀{vs:List O} {bs:List (List UInt8)},jv vs=some bs->vs=bs.map .bytes
 | [],bs,e=>Option.some.inj e▸rfl
 | v::r,bs,e=>(Kg e).elim λn z=>z.elim λb z=>by rw[z.1,z.2.2,z4 z.2.1];rfl
theorem H5:∀(ps:List (Str×Tok)),(∀p∈ps,p.1.length<=ax)->aq w c h ((ps.map (·.1)).map .str) (strValues ps)
 | [],_=>rfl
 | p::r,hp=>.mk ⟨hp p (.head _),p.2,rfl⟩ (H5 r λq hq=>hp q (.tail _ hq))
end
theorem Qa:MV .join "join":=⟨λb t Y=>⟨_,FB.plainAttrs_bytes,BF.Hv,BF.X5,λhh x e=>x.r1 e λa v y e=>y.rL e λvs ad it m Z ho hv e=>(Option.bind_eq_some_iff.mp e).elim λbs q=>
  have p:=bh q.2
  Option.some.inj p.2▸wpAny_call_entry BF.Hv (typeIs_bytes _ _ _) BF.Lq (Py ho (z4 q.1▸hv) p.1) (BF.Jy _ _)⟩,
 λZ x t Y=>⟨_,PySem.F.plainAttrs_str,PySem.F.slot_str_join,PySem.F.type_str_join,λhh y e=>y.r1 e λa v y e=>y.rL e λvs ad it m Z ho hv e=>(Option.bind_eq_some_iff.mp e).elim λbs q=>(H0 hv q.1).elim λps k=>by
  have p:=bh q.2
  have h9:JoinOk x (ps.map (·.1))=true:=k.2.symm▸p.1.1
  unfold JoinOk at h9
  rw[Bool.not_eq_true'] at h9
  refine Option.some.inj p.2▸call_meets PySem.F.slot_str_join (typeIs_str _ _ _) PySem.F.entry_str_join (PySem.F.args_str_join_2 _ _) (meets_str_join_list x t ad ps h9) ⟨⟨_,ho,rfl,m,by rw[←k.1]⟩,post_join ps ⟨joinFit_length h9,λt' tk=>k.2▸aE.str (k.2.symm▸p.1.2) _ _⟩⟩⟩⟩
theorem m_split:MV .split "split":=⟨λb t Y=>⟨_,FB.plainAttrs_bytes,BF.Hx,BF.X6,λhh x e=>x.r1 e λa v y e=>y.rB e λsep u Z e=>
  have p:=bh (c:=b.length<ax) e
  (Option.map_eq_some_iff.mp p.2).elim λl q=>q.2▸wpAny_call_entry BF.Hx (typeIs_bytes _ _ _) BF.Lr (W5 rfl p.1 q.1) (BF.Jz _ _)⟩,
 λZ x t Y=>⟨_,PySem.F.plainAttrs_str,PySem.F.slot_str_split,PySem.F.type_str_split,λ{w A E s c as vals r} hh y e=>y.r1 e λa v y e=>y.rS e λsep u Z e=>by
  have p:=bh (c:=(sep.length==0)=false/\(Txt.split x sep).length<=ax/\∀y∈Txt.split x sep,y.length<=ax) e
  obtain⟨⟨hy,hlen,vG⟩,p⟩:=p
  rw[←Option.some.inj p]
  have one:∀{k},Txt.split x sep=[x]->aE w c s (.own (.list ((Txt.split x sep).map .str))) (.ref s.heap.objs.size) {s with toks:=k,heap:=s.heap.push {cls:=.type "list",data:=.seq #[.str x t]}}:=λ{k} e=>by
   rw[e]
   exact aE.list (n:=0) (tk:=k) (.mk ⟨Y,t,rfl⟩ rfl) wV
  cases h1:(decide (x.length<sep.length)||decide (PySem.Builtin.Str.strKind x<PySem.Builtin.Str.strKind sep))
  .cases hf:(PySem.Builtin.Str.occurrences x sep 0 x.length (x.length+1)).isEmpty
   .have e1:Txt.split x sep=PySem.Builtin.Str.partsBetween x (PySem.Builtin.Str.occurrences x sep 0 x.length (x.length+1)) sep.length:=(if_neg (ne_true_of_eq_false h1)).trans (if_neg (ne_true_of_eq_false hf))
    refine call_meets PySem.F.slot_str_split (typeIs_str _ _ _) PySem.F.entry_str_split (PySem.F.args_str_split_2 _ _) (meets_str_split_sep x sep t u h1 hy hf (bX Y) (e1▸bX hlen)) ?_
    rw[strsFrom_eq,←e1]
    refine aE.list (s:=s) (n:=0) (tk:=s.toks+(Txt.split x sep).length) ?_ (by rw[List.length_map];exact hlen)
    have:=H5 (w:=w) (c:=c) (h:=s.heap) (numbered s.toks (Txt.split x sep)) λp hp=>vG _ (numbered_texts s.toks (Txt.split x sep)▸List.mem_map_of_mem (f:=λp:Str×Tok=>p.1) hp)
    rw[numbered_texts] at this
    rw[List.toList_toArray]
    exact this
   .exact call_meets PySem.F.slot_str_split (typeIs_str _ _ _) PySem.F.entry_str_split (PySem.F.args_str_split_2 _ _) (meets_str_split_not_found x sep t u h1 hy hf) (one ((if_neg (ne_true_of_eq_false h1)).trans (if_pos hf)))
  .exact call_meets PySem.F.slot_str_split (typeIs_str _ _ _) PySem.F.entry_str_split (PySem.F.args_str_split_2 _ _) (meets_str_split_cannot_occur x sep t u h1) (one (if_pos h1))⟩⟩
theorem pE{h:Heap}{a:Addr}{items:Array Value}{n:Nat}(g:Array Value->Array Value)(ho:h.get? a=some (cP items n)) :
  ∃n',(h.update a (Obj.mapSeq g)).get? a=some (cP (g items) n')/\Heap.SameBut a h (h.update a (Obj.mapSeq g)):=
 ⟨_,Heap.get?_update_self _ ho rfl,Heap.SameBut.update ..⟩
def kn(m:MN)(a:Str)(T:String):Prop:=
 ∃id,PlainAttrs T/\Slot T a id/\typeOf (.builtin id)=pure (.type "method_descriptor")/\
  ∀{w:World} {A:Around} {E:Value->Shared->Prop} {s:Shared} {c:Cf} {o:Ow} {k k':AC} {x':O} {ad:Addr} {as:List O} {vals:List Value} {Q:Value->Shared->Prop},A.handled=none->OR w c s.heap k (some o) ad->
   aq w c s.heap as vals->qL m k as=some (k',x')->(∀h' tk v',Heap.SameBut ad s.heap h'->OR w c h' k' (some o) ad->VR w c h' x' v'->Q v' {s with heap:=h',toks:=tk})->
   wpAny (model aL w) A (call (.builtin id) (.ref ad::vals)) Q E s
section
variable{w:World}{c:Cf}{h:Heap}{β:Type}{r:β}{as:List O}{vals:List Value}{P:List Value->Prop}
@[elab_as_elim] theorem aq.rc{f:O->List O->Option β}(y:aq w c h as vals)(e:Mine.Internal.rc as f=some r)(k:∀a l v q,VR w c h a v->aq w c h l q->f a l=some r->P (v::q)):P vals:=match as,y,e with
 | [],_,e=>nomatch e
 | a::l,y,e=>y.elim λv y=>y.elim λq y=>y.1▸k a l v q y.2.1 y.2.2 e
@[elab_as_elim] theorem aq.r0{x:Option β}(y:aq w c h as vals)(e:Mine.Internal.r0 as x=some r)(k:x=some r->P []):P vals:=match as,y,e with
 | [],y,e=>Eq.symm y▸k e
 | _::_,_,e=>nomatch e
@[elab_as_elim] theorem aq.r1{f:O->Option β}(y:aq w c h as vals)(e:Mine.Internal.r1 as f=some r)(k:∀a v,VR w c h a v->f a=some r->P [v]):P vals:=
 aq.rc (P:=P) y e λa l v q z zs e=>aq.r0 (P:=λq=>P (v::q)) zs e λe=>k a v z e
theorem OR.cL{k:AC}{o:Option Ow}{a:Addr}{f:List O->Option β}(x:OR w c h k o a)(e:Mine.Internal.cL k f=some r){G:Prop}(q:∀vs it n,vs.length<=ax->h.get? a=some (cP it n)->aq w c h vs it.toList->f vs=some r->G):G:=
 (oF e).elim λvs p=>have y:OR w c h (.list vs) o a:=p.1▸x;y.2.2.elim λit z=>z.elim λn z=>q vs it n y.2.1 z.1 z.2 p.2
theorem OR.cD{k:AC}{o:Option Ow}{a:Addr}{f:List (Key×O)->Option β}(x:OR w c h k o a)(e:Mine.Internal.cD k f=some r){G:Prop}(q:∀es it n,(a==sysModules)=false->es.length<=ax->(es.map (·.1)).Nodup->h.get? a=some (mM it n)->bC w c h es it.toList->f es=some r->G):G:=
 (uw e).elim λes p=>have y:OR w c h (.dict es) o a:=p.1▸x;y.2.2.2.2.elim λit z=>z.elim λn z=>q es it n y.2.1 y.2.2.1 y.2.2.2.1 z.1 z.2 p.2
theorem eE{o:Ow}{a:Addr}{h':Heap}(e:c.ow a=some o)(sb:Heap.SameBut a h h'):Le c h c h':=SameBut.le sb λz=>nomatch e.symm.trans z
end
theorem sP{k k':AC}{x x':O}(e:some (k,x)=some (k',x')):k=k'/\x=x':=Prod.mk.inj (Option.some.inj e)
theorem Kl:kn .append "append" "list":=⟨_,PySem.F.plainAttrs_list,PySem.F.slot_list_append,PySem.F.type_list_append,λhh o hv e hq=>o.cL e λvs it n Y ho hi e=>hv.r1 (P:=λvals=>wpAny _ _ (call _ (_::vals)) _ _ _) e λa v xv e=>by
 have p:=bh (c:=vs.length<ax) e
 have z:=sP p.2
 refine call_meets PySem.F.slot_list_append ⟨_,ho,rfl⟩ PySem.F.entry_list_append (PySem.F.args_list_append_2 _ _) (AutoListH.list_append_list_val_0 _ it n v (hi.size.symm▸bX Y)) ⟨ho,?_⟩
 refine(pE (λx=>x.push v) ho).elim λn' k=>hq _ _ _ k.2 (z.1▸⟨o.ow,by rw[List.length_append];exact p.1,_,n',k.1,?_⟩) (z.2▸rfl)
 rw[Array.toList_push]
 exact(aq.le (eE o.ow k.2) _ hi).snoc (VR.le (eE o.ow k.2) _ xv)⟩
theorem Km:kn .insert "insert" "list":=⟨_,PySem.F.plainAttrs_list,PySem.F.slot_list_insert,PySem.F.type_list_insert,λhh o hv e hq=>o.cL e λvs it n Y ho hi e=>
 hv.rc (P:=λvals=>wpAny _ _ (call _ (_::vals)) _ _ _) e λa l u q xu hv e=>hv.r1 (P:=λq=>wpAny _ _ (call _ (_::u::q)) _ _ _) e λb v xv e=>(sX e).elim λi p=>by
 have xu:=p.1▸xu
 refine xu.elim λt eu=>?_
 have p:=bh (c:=(decide (vs.length<ax)&&decide (0<=i)&&decide (i<=vs.length))=true) p.2
 have z:=sP p.2
 have p1:=Bool.and_eq_true_iff.mp p.1
 have p2:=Bool.and_eq_true_iff.mp p1.1
 have h1:=of_decide_eq_true p2.1
 have h2:=of_decide_eq_true p2.2
 have h3:=of_decide_eq_true p1.2
 have hz:=hi.size
 have hf:=O7 h1 h2 h3
 rw[eu]
 refine call_meets PySem.F.slot_list_insert ⟨_,ho,rfl⟩ PySem.F.entry_list_insert (PySem.F.args_list_insert_3 _ _ _) (AutoListH.list_insert_list_int_val_1 _ it n i t v (by
  unfold Builtin.List.listFitsIndex
  rw[decide_eq_true hf.1,decide_eq_true hf.2.1]
  exact Bool.false_ne_true) (hz.symm▸bX Y)) ⟨ho,?_⟩
 refine(pE (λxs=>have k:=if i<0 then(i+((xs.size:Nat):Int)).toNat else min i.toNat xs.size;(xs.extract 0 k).push v++xs.extract k) ho).elim λn' k=>hq _ _ _ k.2 (z.1▸⟨o.ow,by rw[List.length_append,List.length_cons,List.length_take,List.length_drop,Nat.min_eq_left hf.2.2,←Nat.add_assoc,Nat.add_sub_cancel' hf.2.2];exact h1,_,n',k.1,?_⟩) (z.2▸rfl)
 have o6:(if i<0 then(i+((it.size:Nat):Int)).toNat else min i.toNat it.size)=i.toNat:=by
  rw[if_neg (Int.not_lt.mpr h2),hz];exact Nat.min_eq_left hf.2.2
 have jJ:=aq.le (eE o.ow k.2) _ hi
 dsimp only
 rw[o6,Array.toList_append,Array.toList_push,Array.toList_extract,Array.toList_extract,List.extract_eq_take_drop,List.extract_eq_take_drop,List.append_assoc,List.take_of_length_le (l:=List.drop i.toNat it.toList) (by rw[List.length_drop];exact Nat.le_refl _)]
 exact(jJ.take i.toNat).append (.mk (VR.le (eE o.ow k.2) _ xv) (jJ.drop i.toNat))⟩
theorem Kn:kn .pop "pop" "list":=⟨_,PySem.F.plainAttrs_list,PySem.F.slot_list_pop,PySem.F.type_list_pop,λ{w A E s c ow k k' x' ad as vals Q} hh o hv e hq=>o.cL e λvs it n Y ho hi e=>hv.r0 (P:=λvals=>wpAny _ _ (call _ (_::vals)) _ _ _) e λe=>by
 refine(Option.map_eq_some_iff.mp e).elim λu p=>?_
 have z:=sP (congrArg some p.2)
 have hz:=hi.size
 have mZ:=p.1
 rw[List.getLast?_eq_getElem?] at mZ
 refine(hi.at mZ).elim λv hc=>?_
 rw[←hz] at hc
 refine call_meets PySem.F.slot_list_pop ⟨_,ho,rfl⟩ PySem.F.entry_list_pop (PySem.F.args_list_pop_1 _) (MeetsSeq.list_pop_last ad it n v hc.1 (hz.symm▸bX Y)) ⟨ho,?_⟩
 refine(pE (λxs=>xs.eraseIdxIfInBounds (it.size - 1)) ho).elim λn' k=>hq _ _ _ k.2 (z.1▸⟨o.ow,Nat.le_trans (List.length_dropLast▸Nat.sub_le _ _) Y,_,n',k.1,?_⟩) (z.2▸VR.le (eE o.ow k.2) _ hc.2)
 have jJ:=(aq.le (eE o.ow k.2) _ hi).take (vs.length - 1)
 rw[←List.dropLast_eq_take] at jJ
 have e:(it.eraseIdxIfInBounds (it.size - 1)).toList=it.toList.take (vs.length - 1):=by
  unfold Array.eraseIdxIfInBounds
  rw[dif_pos (Array.getElem?_eq_some_iff.mp hc.1).1,Array.toList_eraseIdx,←hz,List.eraseIdx_eq_take_drop_succ,List.drop_of_length_le (by rw[Array.length_toList];omega),List.append_nil]
 exact e▸jJ⟩
theorem Ko:kn .update "update" "dict":=⟨_,PySem.F.plainAttrs_dict,PySem.F.slot_dict_update,PySem.F.type_dict_update,λ{w A E s c ow k k' x' ad as vals Q} hh o hv e hq=>o.cD e λes it n hs Y hn ho hi e=>hv.r1 (P:=λvals=>wpAny _ _ (call _ (_::vals)) _ _ _) e λa v xv e=>by
 refine(Gh e).elim λds p=>?_
 have xv:=p.1▸xv
 refine xv.elim λer xv=>?_
 rw[xv.1]
 refine OR.cD (f:=some) xv.2 rfl λZ it₂ YW rV YL Ob Og vW e'=>?_
 rw[←Option.some.inj e'] at p
 have p:=bh (c:=es.length+_<=ax) p.2
 have z:=sP p.2
 have D:=eP (prog:=aL) ho hn hi
 have I8:=eP (prog:=aL) Og Ob vW
 have bE:ad≠er:=λq=>nomatch (q▸o.ow).symm.trans xv.2.ow
 refine call_meetsIn PySem.F.slot_dict_update ⟨_,ho,rfl⟩ PySem.F.entry_dict_update (PySem.F.args_dict_update_2 _ _) (meets_dict_update (keyKind aL w) ad er bE rV) ⟨_,_,D,I8,?_,λh' hU Z d0=>hq _ _ _ d0 (z.1▸?_) (z.2▸rfl)⟩
 .rw[iB hi,iB vW];exact bX p.1
 .exact OR.dictOf o.ow hU (KV.merge (KV.le (eE o.ow d0) (KV.of hi)) (KV.le (eE o.ow d0) (KV.of vW))) hs (Nat.le_trans (oK _ _) p.1) (qT _ _ hn)⟩
noncomputable def EA:MN->Bool
 | .append=>true
 | .insert=>true
 | .pop=>true
 | _=>false
theorem Pj{o:Option O}{kd:MK}(e:ng o=some kd):kd=.lst/\∃l,o=some (.ao (.list l)):=by
 unfold ng at e
 split at e
 .exact⟨(Option.some.inj e).symm,_,rfl⟩
 .cases e
theorem DM{o:Option O}{kd:MK}(e:m8 o=some kd):kd=.dct/\∃l,o=some (.ao (.dict l)):=by
 unfold m8 at e
 split at e
 .exact⟨(Option.some.inj e).symm,_,rfl⟩
 .cases e
section
variable{J:Om}{φ:Fm}{rs:List ER}{vs:List Value}{st:St}{s:Shared}{r:ER}{v:Value}{x:Expr}{a:Str}{xs:List Expr}{apos pos:Pos}{o:ME}{as:aW}{m:MN}{pl:Sem Bool}{K:KE}{Q:Value->Shared->Prop}
theorem EL{T':String}(R:kn m a T'){gg:List O->AC->Option (AC×O)}(hg:∀vs k p,gg vs k=some p->qL m k vs=some p)(hs:cW J as xs)(P:At J φ (r::rs) (v::vs) st s)
  (hv:∃ad o,v=.ref ad/\s.heap.get? ad=some o/\o.cls=.type T'/\o.dict=none)
  (e:ed tab (F J.k) as st λvs st=>dD r st (gg vs) K) (q:∀r st' v s',K r st'->At J φ (r::rs) (v::vs) st' s'->Q v s') :
  wpAny J.M φ.A (getMethod v a pl) (λfx aA=>wpAny J.M φ.A (callWith pos fx.1 fx.2 (backTo pos (starEach xs φ.env)) []) Q φ.E aA) φ.E s:=
 R.elim λid R=>hv.elim λad hv=>hv.elim λob hv=>getMethod_builtin (hv.1▸⟨ob,hv.2.1,hv.2.2.1⟩) R.1 R.2.1 R.2.2.1 (λt8 q=>⟨ob,Value.ref.inj (hv.1.symm.trans q)▸hv.2.1,hv.2.2.2⟩) (qJ hs.ns (hs.last pos P e λl st' us s' k n Y P=>P.elim λc A=>
  have p:=A.vals Y
  p.1.pop.change p.1.hd k λk k' u t8 o HX dG oR hG kQ go=>dG▸R.2.2.2 p.1.cx.hd oR p.2 (hg l k _ hG) λh' tk v' sb pP xv=>q _ _ _ _ kQ ((go t8 h' tk oR.ow sb (OR.live k' pP) pP).push xv)))
theorem Wf{T':String}(hm:(EA m=true/\T' = "list")∨(m=.update/\T' = "dict"))(R:kn m a T')(S:jm x a apos pos xs)(ho:aB J o x)(hs:cW J as xs):aB J (.aw m o as) (.Call (.Attribute x a apos) xs [] pos):=
 .val ⟨λ{φ rs vs st s K Q} P e q=>call_meth S (ho.e.run P e λr st' v s' e P pl=>aM e λkd hk e=>P.elim λc A=>by
  rcases hm with hm | hm
  .have hk:ng (bJ r st')=some kd:=by
    cases m<;>first | exact hk | cases hm.1
   have z:=Pj hk
   rw[z.1] at e
   have e:ed tab (F J.k) as st' λvs st=>dD r st (mA m vs) K:=e
   exact EL (hm.2▸R) (λvs k p e=>(oF e).elim λl q=>q.1▸q.2) hs P (z.2.elim λl w=>VW.list (P:=λv=>∃ad o,v=.ref ad/\s'.heap.get? ad=some o/\o.cls=.type "list"/\o.dict=none) (A.gd.bJ A.hd w) λad it n Z h Z=>⟨ad,_,rfl,h,rfl,rfl⟩) e q
  .obtain⟨rfl,hm⟩:=hm
   have z:=DM hk
   rw[z.1] at e
   have e:ed tab (F J.k) as st' λvs st=>dD r st (zE .update vs) K:=e
   exact EL (hm▸R) (λvs k p e=>(uw e).elim λl q=>q.1▸q.2) hs P (z.2.elim λl w=>VW.dict (P:=λv=>∃ad o,v=.ref ad/\s'.heap.get? ad=some o/\o.cls=.type "dict"/\o.dict=none) (A.gd.bJ A.hd w) λad it n Z Z Z h Z=>⟨ad,_,rfl,h,rfl,rfl⟩) e q)⟩ λZ Z=>rfl
theorem EP{n i f:Nat}{k:AC}(W:Wd J.w J.B)(SF:fF J.w J.B J.k (F J.k))(hs:cW J as xs)(P:At J φ (r::rs) (v::vs) st s)(hi:instOf r st=some (n,k))(hm:tab.aw n i=some f)(hn:mN i=some a)
  (e:wEs tab (F J.k) as st λl st=>CK (F J.k) f (r::l) st K) (q:∀r st' v s',K r st'->At J φ (r::rs) (v::vs) st' s'->Q v s') :
  wpAny J.M φ.A (getMethod v a pl) (λfx aA=>wpAny J.M φ.A (callWith pos fx.1 fx.2 (backTo pos (starEach xs φ.env)) []) Q φ.E aA) φ.E s:=
 P.elim λc A=>(A.gd.inst A.hd hi).elim λfs hv=>(W.mf n i f hm).elim λo z=>z.elim λfd z=>Qe W A.gd.base hv hm hn (callWith_function (o:=o) (fd:=fd) (mR hs.ns (hs.run pos P e λl st' us s' k Y P=>⟨⟨P.base _ _ z.1,z.2⟩,Ac SF (l:=r::l) (us:=v::us) P (congrArg Nat.succ Y) k q⟩)))
set_option tactic.hygienic true in
theorem PE{T:Tab}{i:Nat}{kd:MK}(e:(match instOf r st with
  | some (c,_)=>(T.aw c i).map MK.fn
  | none=>none)=some kd):∃n k f,instOf r st=some (n,k)/\T.aw n i=some f/\kd=.fn f:=by
 split at e
 .rename_i n k h
  exact(Option.map_eq_some_iff.mp e).elim λf z=>⟨n,k,f,h,z.1,z.2.symm⟩
 .cases e
set_option tactic.hygienic true in
theorem PD{T:Tab}{kd:MK}(e:fc T .get r st=some kd):(∃n k f,instOf r st=some (n,k)/\T.aw n 1000=some f/\kd=.fn f)∨m8 (bJ r st)=some kd:=by
 have e:(match instOf r st with
  | some (c,_)=>(T.aw c 1000).map MK.fn
  | none=>m8 (bJ r st))=some kd:=e
 split at e
 .rename_i n k h
  exact .inl ((Option.map_eq_some_iff.mp e).elim λf z=>⟨n,k,f,h,z.1,z.2.symm⟩)
 .exact .inr e
theorem Wj{i:Nat}(W:Wd J.w J.B)(SF:fF J.w J.B J.k (F J.k))(hn:mN i=some a)(S:jm x a apos pos xs)(ho:aB J o x)(hs:cW J as xs):aB J (.aw (.user i) o as) (.Call (.Attribute x a apos) xs [] pos):=
 .val ⟨λP e q=>call_meth S (ho.e.run P e λr st' v s' e P pl=>aM e λkd hk e=>(PE hk).elim λn z=>z.elim λk z=>z.elim λf z=>by
  rw[z.2.2] at e
  exact EP W SF hs P z.1 z.2.1 hn e q)⟩ λZ Z=>rfl
theorem Wi(W:Wd J.w J.B)(SF:fF J.w J.B J.k (F J.k))(S:jm x "get" apos pos xs)(ho:aB J o x)(hs:cW J as xs):aB J (.aw .get o as) (.Call (.Attribute x "get" apos) xs [] pos):=
 .val ⟨λ{φ rs vs st s K Q} P e q=>call_meth S (ho.e.run P e λr st' v s' e P pl=>aM e λkd hk e=>(PD hk).elim (λz=>z.elim λn z=>z.elim λk z=>z.elim λf z=>by
  rw[z.2.2] at e
  exact EP W SF hs P z.1 z.2.1 rfl e q) λz=>by
  have z:=DM z
  rw[z.1] at e
  have e:ed tab (F J.k) as st' λvs st=>OK (bJ r st) λo=>OK (dH .get o vs) λx=>K x st:=e
  have hv:∃ad o,v=.ref ad/\s'.heap.get? ad=some o/\o.cls=.type "dict"/\o.dict=none:=P.elim λc A=>z.2.elim λl w=>VW.dict (P:=λv=>∃ad o,v=.ref ad/\s'.heap.get? ad=some o/\o.cls=.type "dict"/\o.dict=none) (A.gd.bJ A.hd w) λad it n Z Z Z h Z=>⟨ad,_,rfl,h,rfl,rfl⟩
  refine hv.elim λad hv=>hv.elim λob hv=>getMethod_builtin (hv.1▸⟨ob,hv.2.1,hv.2.2.1⟩) PySem.F.plainAttrs_dict PySem.F.slot_dict_get PySem.F.type_dict_get (λt8 q=>⟨ob,Value.ref.inj (hv.1.symm.trans q)▸hv.2.1,hv.2.2.2⟩) (qJ hs.ns (hs.last pos P e λl df us aA k n Y P=>aM k λov ho k=>aM k λx' hx k=>P.elim λc A=>?_))
  have p:=A.vals Y
  have fin:∀{a v' tk},x'=.val a->VR J.w c aA.heap a v'->Q v' {aA with heap:=aA.heap,toks:=tk}:=λ{a v' tk} ex y=>q x' _ _ _ k (ex▸p.1.pop.op (aE.jh y tk))
  refine VW.rD (P:=λv=>wpAny J.M φ.A (call (.builtin "dict.get") (v::us)) Q φ.E aA) (p.1.gd.bJ p.1.hd ho) hx λes a' it m hs c4 hn hg hi hx=>?_
  refine p.2.rc (P:=λus=>wpAny J.M φ.A (call (.builtin "dict.get") (_::us)) Q φ.E aA) hx λka l' kv q' hk hr hx=>(Option.bind_eq_some_iff.mp hx).elim λkey w=>?_
  have D:=(eP (prog:=aL) hg hn hi).mapOf
  have k1:=lA (prog:=aL) hk.vw w.1
  have kg:=tN key hi
  cases l' with
  | nil=>
   refine aq.nil (P:=λq=>wpAny J.M φ.A (call (.builtin "dict.get") (_::_::q)) Q φ.E aA) hr ?_
   have ex:=Option.some.inj w.2
   refine call_meetsIn PySem.F.slot_dict_get ⟨_,hg,rfl⟩ PySem.F.entry_dict_get (PySem.F.args_dict_get_2 _ _) (meets_dict_get (keyKind aL J.w) a' k1 hs) ⟨_,D,?_⟩
   cases hd:bt es key with
   | some u=>rw[hd] at kg ex;exact kg.elim λcc z=>by rw[z.1];exact fin ex.symm z.2
   | none=>rw[hd] at kg ex;rw[show _=none from kg];exact fin (a:=.none) ex.symm rfl
  | cons da l'=>
   refine hr.cons (P:=λq=>wpAny J.M φ.A (call (.builtin "dict.get") (_::_::q)) Q φ.E aA) λdv Y1 Nq hr=>aq.r0 (P:=λq=>wpAny J.M φ.A (call (.builtin "dict.get") (_::_::_::q)) Q φ.E aA) hr w.2 λex=>?_
   have ex:=Option.some.inj ex
   refine call_meetsIn PySem.F.slot_dict_get ⟨_,hg,rfl⟩ PySem.F.entry_dict_get (PySem.F.args_dict_get_3 _ _ _) (meets_dict_get_default (keyKind aL J.w) a' k1 hs dv) ⟨_,D,?_⟩
   cases hd:bt es key with
   | some u=>rw[hd] at kg ex;exact kg.elim λcc z=>by rw[z.1];exact fin ex.symm z.2
   | none=>rw[hd] at kg ex;rw[show _=none from kg];exact fin ex.symm Nq)⟩ λZ Z=>rfl
end
structure mj(st st':St)(ak aR:Nat->Value):Prop where
 κ:st'.κ=st.κ
 lk:st'.lk=st.lk
 len:st'.σ.length=st.σ.length
 keep:∀i,st.lk.getD i false=true->aR i=ak i
theorem Shape.cE{st st':St}(sh:Shape st st')(ak:Nat->Value):mj st st' ak ak:=⟨sh.κ,sh.lk,sh.len,λZ Z=>rfl⟩
theorem mj.trans{a b c:St}{u v w:Nat->Value}(x:mj a b u v)(y:mj b c v w):mj a c u w:=
 ⟨y.κ.trans x.κ,y.lk.trans x.lk,y.len.trans x.len,λi h=>(y.keep i (by rw[x.lk];exact h)).trans (x.keep i h)⟩
structure iC(D:au):Prop where
 kl:D.kl=[]
 nd:D.sl.Nodup
 kind:∀x∈D.sl,D.sc.names.lookup x=some .local∨D.sc.names.lookup x=some .cell
noncomputable abbrev Fm.to(φ:Fm)(c:Cf)(st:St)(ak:Nat->Value)(s:Shared):Fm:={φ with c:=c,st:=st,ak:=ak,s:=s}
structure Sd(J:Om)(φ:Fm)(c:Cf)(rs:List ER)(vs:List Value)(st:St)(ak:Nat->Value)(s:Shared):Prop where
 ok:Ok J (φ.to c st ak s)
 mv:Mv φ.c φ.s c s
 cE:mj φ.st st φ.ak ak
 gd:Gd J.w J.B c s.heap st ak φ.aN rs vs
def gq(rs:List ER):Prop:=∀r∈rs,∀i,r≠.loc i
theorem nF:gq []:=λr h=>nomatch h
noncomputable def upd(ak:Nat->Value)(i:Nat)(v:Value):Nat->Value:=λj=>if j=i then v else ak j
noncomputable def put(i m:Nat):Ow->Option Ow
 | .slot j=>if j=i then none else some (.slot j)
 | .tmp j=>some (if j=m then .slot i else .tmp j)
 | x=>some x
theorem aZ.Fd{w:World}{c c':Cf}{h h':Heap}{st st':St}{ak aR:Nat->Value}(L:Le c h c' h'):∀{rs:List ER} {vs:List Value},gq rs->(∀j,j<rs.length->Kp c h (some (.tmp j)) c' h' (some (.tmp j)))->aZ w c h st ak rs vs->aZ w c' h' st' aR rs vs
 | [],_,_,_,x=>x
 | r::rs,_,n,K,x=>x.cons λv q xr xs=>.mk (match r,n r (.head _),xr with
  | .val a,_,x=>VR.le L a x
  | .own k,_,x=>x.imp λa x=>⟨x.1,OR.le L k (K _ (Nat.lt_succ_self _)) x.2⟩
  | .loc i,n,_=>absurd rfl (n i)) (aZ.Fd L (λr h=>n r (.tail _ h)) (λj hj=>K j (Nat.lt_succ_of_lt hj)) xs)
section
variable{J:Om}{φ:Fm}{c c':Cf}{rs iA:List ER}{vs gm:List Value}{st st':St}{ak:Nat->Value}{s s':Shared}{r:ER}{v:Value}{G:Prop}
theorem Sd.at(a:Sd J φ c rs vs st ak s):At J (φ.to c st ak s) rs vs st s:=⟨c,a.ok,.refl _ _,λZ Z e e'=>⟨e,e'⟩,.refl _,a.gd⟩
theorem Sd.of(a:Sd J φ c rs vs st ak s)(b:aF J (φ.to c st ak s) c' iA gm st' s'):Sd J φ c' iA gm st' ak s':=⟨⟨a.ok.rm,b.bQ⟩,a.mv.trans b.mv,a.cE.trans (b.sh.cE _),b.gd⟩
theorem Sd.pop(a:Sd J φ c (r::rs) (v::vs) st ak s):Sd J φ c rs vs st ak s:=⟨a.ok,a.mv,a.cE,{a.gd with bw:=a.gd.bw.tl}⟩
theorem Sd.sub(a:Sd J φ c [] [] st ak s)(b:Sd J (φ.to c st ak s) c' rs vs st' aR s'):Sd J φ c' rs vs st' aR s':=⟨⟨a.ok.rm,b.ok.bQ⟩,a.mv.trans b.mv,a.cE.trans b.cE,b.gd⟩
theorem Sd.last{K:O->St->Prop}(a:Sd J φ c (r::rs) (v::vs) st ak s)(e:ct r st K)(k:∀c b st',K b st'->Sd J φ c (.val b::rs) (v::vs) st' ak s->G):G:=
 a.at.last e λb st' e P=>P.elim λc' p=>k c' b st' e (a.of p)
theorem Sd.II{K:VS->St->Prop}(a:Sd J φ c (r::rs) (v::vs) st ak s)(e:IJ r st K)(k:∀c y st',K y st'->Sd J φ c (bB y::rs) (v::vs) st' ak s->G):G:=by
 cases r with
 | val b=>exact k c (.val b) st e a
 | own b=>exact k c (.own b) st e a
 | loc i=>exact a.last (K:=λv st=>K (.val v) st) e λc b st' e a=>k c (.val b) st' e a
theorem UP{i:Nat}{y:VS}{K:St->Prop}(e:jc i y st K):st.lk.getD i false=false/\i<st.σ.length/\K {st with σ:=st.σ.set i (some y)}:=by
 obtain⟨σ,lk,κ,H⟩:=st
 exact ef e (λZ e=>e.elim) λh e=>ef e (λh' e=>⟨h,of_decide_eq_true h',jb _ _ _ e⟩) λZ e=>e.elim
theorem Sd.store{i:Nat}{x:Str}{y:VS}{Q:Unit->Shared->Prop}{K:St->Prop}(ok:iC J.D)(hs:J.D.sl[i]?=some x)(nl:gq rs)(a:Sd J φ c (bB y::rs) (v::vs) st ak s)(e:jc i y st K)
  (q:∀c' st' aR s',K st'->Sd J φ c' rs vs st' aR s'->Q () s'):wpAny J.M φ.A (storeName φ.env x v) Q φ.E s:=by
 have e:=UP e
 have V:=a.ok.bQ
 have OL:x∈J.D.sl:=List.mem_of_getElem? hs
 refine(V.slots i x hs (by rw[ok.kl];exact List.not_mem_nil)).elim λo₀ sn=>W9 (o₀:=o₀) V.fr (by rw[lB V];exact ok.kind x OL) V.ns sn.1 λh' eM fX seen others keep lv=>?_
 have kp:∀{o:Ow} {n:Option Ow},o≠.env->put i rs.length o=n->Kp c s.heap (some o) (c.map (put i rs.length)) h' n:=λ{o n} ne en b p e1 e2=>
  ⟨(congrArg (·.bind (put i rs.length)) e1).trans en,keep b p (λy=>ne (Option.some.inj (e1.symm.trans (V.y b y).1))) e2⟩
 have L:Le c s.heap (c.map (put i rs.length)) h':=⟨λZ Z e=>e,λb p e1 e2=>⟨congrArg (·.bind (put i rs.length)) e1,keep b p (λy=>nomatch e1.symm.trans (V.y b y).1) e2⟩⟩
 refine q (c.map (put i rs.length)) _ (upd ak i v) _ e.2.2 ⟨⟨a.ok.rm,?_⟩,a.mv.trans ⟨rfl,L,kp nofun rfl⟩,a.cE.trans ⟨rfl,rfl,List.length_set,λj hj=>if_neg λz=>nomatch (z▸e.1).symm.trans hj⟩,?_⟩
 .have bQ:∀{j:Nat} {z:Str} (o:Option Value),J.D.sl[j]?=some z->z∉J.D.kl.flatten->∃o,Seen φ.env h' z o/\(Full {st with σ:=st.σ.set i (some y)} j->o=some (upd ak i v j)):=λ{j z} Z ez nz=>by
   by_cases hj:j=i
   .have hx:z=x:=Option.some.inj (ez.symm.trans (hj▸hs))
    rw[hx]
    exact⟨some v,seen,λZ=>congrArg some (if_pos hj).symm⟩
   .refine(V.slots j z ez nz).imp λo p=>⟨others z o (λq=>hj ?_) p.1,λf=>(p.2 (f.imp λy' w=>(qc λz=>hj z.symm).symm.trans w)).trans (congrArg some (if_neg hj).symm)⟩
    exact(List.getElem_inj ok.nd).mp ((List.getElem?_eq_some_iff.mp ez).2.trans (q.trans (List.getElem?_eq_some_iff.mp hs).2.symm))
  exact{sc:=V.sc,fr:=V.fr,ns:=fX,y:=λb I=>⟨congrArg (·.bind (put i rs.length)) (V.y b I).1,(V.y b I).2.elim λp z=>lv b p z⟩,slots:=λj z ez nz=>bQ none ez nz,comps:=λd j f z e1=>by rw[ok.kl] at e1;cases e1}
 .exact{
   base:=λb p z=>keep b p (λy=>nomatch z.symm.trans (a.gd.ok b _ (V.y b y).1).1) (a.gd.base b p z)
   ok:=λb o z=>match w:c.ow b with
    | some o'=>(a.gd.ok b o' w).imp id λp=>p.elim λp z=>lv b p z
    | none=>nomatch (congrArg (·.bind (put i rs.length)) w).symm.trans z
   cO:=a.gd.cO
   cq:=λl k b e1 e2=>OR.le L k (kp (o:=.heap l) nofun rfl) (a.gd.cq l k b e1 e2)
   slt:=λj z ez=>by
    rcases set_inv ez with⟨r1,r2⟩ | ⟨r1,r2⟩
    .rw[←r1,Option.some.inj r2,show upd ak i v i=v from if_pos rfl]
     have hd:=a.gd.bw.hd
     have K:Kp c s.heap (some (.tmp rs.length)) (c.map (put i rs.length)) h' (some (.slot i)):=kp nofun (congrArg some (if_pos rfl))
     cases y with
     | val b=>exact VR.le L b hd
     | own k=>exact hd.imp λb p=>⟨p.1,OR.le L k K p.2⟩
    .rw[show upd ak i v j=ak j from if_neg λz=>r1 z.symm]
     exact(a.gd.slt j z r2).kp L (kp (o:=.slot j) nofun (if_neg λz=>r1 z.symm))
   dc:=λd j fr u e1 e2=>VR.le L u (a.gd.dc d j fr u e1 e2)
   bw:=a.gd.bw.tl.Fd L nl λj hj=>kp (o:=.tmp j) nofun (congrArg some (if_neg (Nat.ne_of_lt hj)))}
section
variable(J)
structure g5(t:MT)(x:Expr):Prop where
 run:∀{φ:Fm} {c:Cf} {rs:List ER} {vs:List Value} {st:St} {ak:Nat->Value} {s:Shared} {r:ER} {v:Value} {K:St->Prop} {Q:Unit->Shared->Prop},gq rs->Sd J φ c (r::rs) (v::vs) st ak s->cM tab (F J.k) t r st K->
  (∀c' st' aR s',K st'->Sd J φ c' rs vs st' aR s'->Q () s')->wpAny J.M φ.A (assign x φ.env v) Q φ.E s
structure oj(ts:bI)(stores:Env->List (Value->Sem Unit)):Prop where
 run:∀{φ:Fm} {c:Cf} {l rs:List ER} {us vs:List Value} {st:St} {ak:Nat->Value} {s:Shared} {K:St->Prop} {Q:Unit->Shared->Prop},gq (l++rs)->l.length=us.length->Sd J φ c (l++rs) (us++vs) st ak s->ji tab (F J.k) ts l st K->
  (∀c' st' aR s',K st'->Sd J φ c' rs vs st' aR s'->Q () s')->wpAny J.M φ.A (assignInOrder (stores φ.env) us) Q φ.E s
end
theorem ym{i:Nat}{x:Str}{pos}(ok:iC J.D)(hs:J.D.sl[i]?=some x):g5 J (.slot i) (.Name x pos):=
 ⟨λ{φ c rs vs st ak s r v K Q} nl a e q=>PySem.wpAny_assign_Name (a.II (K:=λy st=>jc i y st K) e λc y st' e a=>a.store ok hs nl e q)⟩
theorem HC:oj J .nil (λZ=>[]):=⟨λ{φ c l rs us vs st ak s K Q} nl Y a e q=>by
 cases l with
 | cons _ _=>exact False.elim e
 | nil=>cases us with
  | nil=>exact wpAny_assignInOrder_none (q _ _ _ _ e a)
  | cons _ _=>cases Y⟩
theorem HA{t:MT}{ts:bI}{x:Env->Value->Sem Unit}{xs:Env->List (Value->Sem Unit)}
  (h:∀{φ:Fm} {c:Cf} {rs:List ER} {vs:List Value} {st:St} {ak:Nat->Value} {s:Shared} {r:ER} {v:Value} {K:St->Prop} {Q:Unit->Shared->Prop},gq rs->Sd J φ c (r::rs) (v::vs) st ak s->cM tab (F J.k) t r st K->
   (∀c' st' aR s',K st'->Sd J φ c' rs vs st' aR s'->Q () s')->wpAny J.M φ.A (x φ.env v) Q φ.E s)
  (hs:oj J ts xs):oj J (.cons t ts) (λenv=>x env::xs env):=⟨λ{φ c l rs us vs st ak s K Q} nl Y a e q=>by
 cases l with
 | nil=>exact False.elim e
 | cons r l=>cases us with
  | nil=>cases Y
  | cons v us=>exact wpAny_assignInOrder_more (h (λr hr=>nl r (.tail _ hr)) a e λc' st' aR s' e a=>hs.run (λr hr=>nl r (.tail _ hr)) (Nat.succ.inj Y) a e q)⟩
end
end Mine.Internal
namespace Mine.Internal
open PySem PySem.Calls PyProof.Rows PySem.W Builtin Builtin.ObjectAttr
section
variable{prog:Program}{w:World}{A:Around}{E:Value->Shared->Prop}{s:Shared}
theorem UO{l:Addr}{items:Array Value}{n:Nat}{k:Int}{t:Tok}{v:Value}{Q:Unit->Shared->Prop}{j:Nat}(ho:s.heap.get? l=some (cP items n))(hj:j<items.size)(hz:items.size<=sizeLine)
  (hk:k=(j:Int)∨(k<0/\-(items.size:Int)<=k/\j=(k+items.size).toNat)) (hQ:Q () {s with heap:=s.heap.update l (Obj.mapSeq (·.setIfInBounds j v))}) :
  wpAny (model prog w) A (setItem (.ref l) (.int k t) v) Q E s:=by
 have Y:s.heap.IsList l items:=⟨_,ho,rfl,⟨_,rfl⟩⟩
 have YJ:j<16777216:=Nat.lt_of_lt_of_le hj hz
 have YT:items.size<=16777216:=hz
 clear hz
 have vC:(2:Int) ^ 63=9223372036854775808:=by decide
 have aU:items[j]?=some items[j]:=Array.getElem?_eq_getElem hj
 unfold setItem
 try with_reducible refine wpAny_holding ?_
 first | refine wpAny_bind (wpAny_pure ?_) | skip
 refine wpAny_bind (wpAny_sequenceKey Y.typeIs (by decide) ?_)
 refine wpAny_bind (wpAny_callSpecial?_slot (name:=Str.ofString "__setitem__") Y.typeIs slot_list_setitem
  (wpAny_call_entry slot_list_setitem Y.typeIs entry_list_setitem ?_ (args_list_setitem _ _ _)))
 show wpAny _ _ (Builtin.List.listSubscript? (.int k t) >>= _) _ _ s
 have C7:Builtin.List.listFitsIndex k=true:=hk.elim (λq=>fitsIndex_of (by lia) (by rw[vC];lia)) λq=>fitsIndex_neg q.1 (by rw[vC];lia)
 refine wpAny_bind (wpAny_listSubscript_int C7 ?_)
 clear C7 vC
 rcases hk with rfl | ⟨h0,h1,rJ⟩
 .show wpAny _ _ ((seqItemAt l j >>= λr=>pure (r.map (j,·))) >>= _) _ _ s
  refine wpAny_bind (wpAny_bind (wpAny_seqItemAt ho rfl (wpAny_pure ?_)))
  rw[aU]
  show wpAny _ _ (setSeqItemAt l j v >>= _) _ _ s
  refine wpAny_bind (wpAny_setSeqItemAt ho rfl ?_)
  first
   | exact wpAny_bind (wpAny_pure (wpAny_pure ⟨.none,rfl,wpAny_pure hQ⟩))
   | exact wpAny_pure ⟨.none,rfl,wpAny_pure hQ⟩
 .have Dh:=seqIndex_neg h0 h1
  rw[←rJ] at Dh
  obtain⟨i,rfl⟩:∃i:Nat,k=Int.negSucc i:=by
   cases k with
   | ofNat n=>exact absurd h0 (Int.not_lt.mpr (Int.natCast_nonneg n))
   | negSucc n=>exact⟨n,rfl⟩
  show wpAny _ _ ((Builtin.List.listItems (.ref l) >>= λxs=>pure ((seqIndex? (Int.negSucc i) xs.size).bind λi=>xs[i]?.map (i,·))) >>= _) _ _ s
  refine wpAny_bind (wpAny_bind ?_)
  show wpAny _ _ (seqItems? (.ref l) >>= _) _ _ s
  refine wpAny_bind (wpAny_seqItems ho rfl (wpAny_pure (wpAny_pure ?_)))
  rw[Dh,Option.bind_some,aU,Option.map_some]
  show wpAny _ _ (setSeqItemAt l j v >>= _) _ _ s
  refine wpAny_bind (wpAny_setSeqItemAt ho rfl ?_)
  first
   | exact wpAny_bind (wpAny_pure (wpAny_pure ⟨.none,rfl,wpAny_pure hQ⟩))
   | exact wpAny_pure ⟨.none,rfl,wpAny_pure hQ⟩
end
section
variable{w:World}{c:Cf}{h:Heap}
theorem aq.put{v:O}{u:Value}(y:VR w c h v u):∀{vs:List O} {l:List Value} (j:Nat),aq w c h vs l->aq w c h (vs.set j v) (l.set j u)
 | [],_,_,x=>x.nil (P:=λl=>aq w c h _ (l.set _ _)) rfl
 | _::_,_,0,x=>x.cons (P:=λl=>aq w c h _ (l.set _ _)) λZ Z Z xr=>.mk y xr
 | _::_,_,j+1,x=>x.cons (P:=λl=>aq w c h _ (l.set _ _)) λZ Z xv xr=>.mk xv (aq.put y j xr)
theorem Yk(es:List (Key×O))(k:Key)(v:O)(k':Key):cg (es.map λe=>if e.1=k then(e.1,v) else e) k'=cg es k':=
 List.any_map.trans (congrArg (List.any es) (funext λe=>by
  show decide ((if e.1=k then(e.1,v) else e).1=k')=_
  split<;>rfl))
set_option tactic.hygienic true in
theorem R7{es:List (Key×O)}{k:Key}{v:O}{k':Key}(e:cg (dput es k v) k'=false):k≠k'/\cg es k'=false:=by
 unfold dput at e
 split at e
 .rename_i hh
  rw[Yk] at e
  exact⟨λz=>(nomatch (z▸hh).symm.trans e),e⟩
 .unfold cg at e
  rw[List.any_append,Bool.or_eq_false_iff] at e
  refine⟨λz=>?_,e.1⟩
  have h:=e.2
  rw[List.any_cons,decide_eq_true z] at h
  cases h
theorem cf.mk{e:Key×O}{r:List (Key×O)}{m:Str->Option Value}(x:∃y u,e.1=.s y/\y.length<=ax/\m y=some u/\VR w c h e.2 u)(y:cf w c h r m):cf w c h (e::r) m:=by cases e;exact⟨x,y⟩
theorem cf.upd{m:Str->Option Value}{x:Str}{a:O}{v:Value}(Y:x.length<=ax)(xv:VR w c h a v):∀{fs:List (Key×O)},cf w c h fs m->cf w c h (fs.map λe=>if e.1=.s x then(e.1,a) else e) (λy=>if y=x then some v else m y)
 | [],_=>trivial
 | (k,u)::r,f=>.mk (by
  by_cases q:k=.s x
  .rw[show(λe:Key×O=>if e.1=.s x then(e.1,a) else e) (k,u)=(k,a) from if_pos q];exact⟨x,v,q,Y,if_pos rfl,xv⟩
  .rw[show(λe:Key×O=>if e.1=.s x then(e.1,a) else e) (k,u)=(k,u) from if_neg q];exact f.1.imp λy p=>p.imp λw p=>⟨p.1,p.2.1,(if_neg λz=>q (p.1.trans (congrArg Key.s z))).trans p.2.2.1,p.2.2.2⟩) (cf.upd Y xv f.2)
theorem cf.snoc{m:Str->Option Value}{x:Str}{a:O}{v:Value}(Y:x.length<=ax)(xv:VR w c h a v):∀{fs:List (Key×O)},cg fs (.s x)=false->cf w c h fs m->cf w c h (fs++[(.s x,a)]) (λy=>if y=x then some v else m y)
 | [],_,_=>⟨⟨x,v,rfl,Y,if_pos rfl,xv⟩,trivial⟩
 | (k,u)::r,e,f=>
  have e:=Bool.or_eq_false_iff.mp (show(decide (k=.s x)||cg r (.s x))=false from e)
  ⟨f.1.imp λy p=>p.imp λw p=>⟨p.1,p.2.1,(if_neg λz=>of_decide_eq_false e.1 (p.1.trans (congrArg Key.s z))).trans p.2.2.1,p.2.2.2⟩,cf.snoc Y xv e.2 f.2⟩
set_option tactic.hygienic true in
theorem cf.put{m:Str->Option Value}{x:Str}{a:O}{v:Value}(Y:x.length<=ax)(xv:VR w c h a v){fs:List (Key×O)}(f:cf w c h fs m):cf w c h (dput fs (.s x) a) (λy=>if y=x then some v else m y):=by
 unfold dput
 split
 .exact f.upd Y xv
 .rename_i hh;exact f.snoc Y xv (Bool.eq_false_iff.mpr hh)
theorem KX{fs:List (Key×O)}{x:Str}{a:O}(h9:∀e∈fs,lH e.1=true)(hx:lH (.s x)=true):∀e∈dput fs (.s x) a,lH e.1=true:=λe he=>by
 unfold dput at he
 split at he
 .refine(List.mem_map.mp he).elim λp q=>q.2▸?_
  split
  .exact h9 p q.1
  .exact h9 p q.1
 .exact(List.mem_append.mp he).elim (h9 e) λhe=>List.mem_singleton.mp he▸hx
variable{B:Heap}{A:Around}{E:Value->Shared->Prop}{s:Shared}
theorem UU{k k':AC}{x:Str}{a:O}{o:Ow}{ad:Addr}{v:Value}{Q:Unit->Shared->Prop}(W:Wd w B)(hB:Sub B s.heap)(oR:OR w c s.heap k (some o) ad)(hf:x∈iM)(Y:x.length<=ax)
  (xv:VR w c s.heap a v) (e:lQ k x a=some k') (hq:∀d h' tk,c.ow d=some o->Heap.SameBut d s.heap h'->(∃p,h'.get? d=some p)->OR w c h' k' (some o) ad->Q () {s with heap:=h',toks:=tk}) :
  wpAny (model aL w) A (setAttr (.ref ad) x v) Q E s:=by
 cases k with
 | inst n fs=>
  have p:=bh (c:=(lH (.s x)&&decide (fs.length<20))=true) e
  have p1:=Bool.and_eq_true_iff.mp p.1
  have bD:=of_decide_eq_true p1.2
  obtain⟨Oc,⟨hlen,h9⟩,hZ,dx,m,vN,bE,hi,hn,hv,hz⟩:=oR
  obtain⟨ox,od,es,ep,ho,YN,YH,hd,ah,Dm⟩:=hi.at hn
  have C:=W.cls n
  have XK:=(oY (h:=B)).keeps hB
  have ht:takerIn (dE B) (cy n) x=some none:=by unfold takerIn;rw[C.fld x hf];rfl
  refine set_plain XK ah C.sa (osa_open (s:={s with toks:=s.toks+1}) XK ah C.plain ht λb=>?_)
  refine(any_some C.dct).elim λcd z=>?_
  have jI:=z.1
  have vM:=z.2
  obtain⟨hx,mY,YM,-⟩:=ah
  obtain⟨oc,YY,YX,YZ⟩:=ox
  dsimp only at mY hd
  subst mY hd
  refine wpAny_bind (wpAny_pure (wpAny_bind (wpAny_bind (wpAny_loadPart hx (wpAny_bind (Looks.here (s:={s with toks:=s.toks+1}) (looks_clsIn XK jI) ?_))))))
  rw[vM]
  refine wpAny_pure (a:=some dx) (wpAny_bind (wpAny_pure (wpAny_bind (wpAny_nsSet1 hn λh' dk d0=>?_))))
  have wi:Within (λy=>if y=x then some v else m y) (x::fs.map λe=>match e.1 with | .s y=>y | .i _=>x):=λy hy=>by
   by_cases q:y=x
   .rw[q];exact .head _
   .refine .tail _ ?_
    have hy:m y≠none:=λz=>hy ((if_neg q).trans z)
    have:cg fs (.s y)=true:=by
     cases z:cg fs (.s y) with
     | true=>rfl
     | false=>exact absurd (hz y z) hy
    exact(List.any_eq_true.mp this).elim λp q=>List.mem_map.mpr ⟨p,q.1,by rw[of_decide_eq_true q.2]⟩
  refine Bk (dk.count wi) λo' uT Lv z=>?_
  have cH:=z.1
  have hU:=z.2.1
  have OM:=z.2.2
  refine wpAny_bind (wpAny_lookBehind cH (by rw[hU];exact pastItsLine_dict (by rw[List.length_cons,List.length_map] at OM;rw[sizeLine_eq];lia)) ?_)
  have L:=eE vN d0
  refine wpAny_pure (hq dx h' _ vN d0 ⟨_,cH⟩ (Option.some.inj p.2▸⟨Oc,⟨by have:=oJ fs (.s x) a;exact Nat.le_trans (by assumption) (by assumption),KX h9 p1.1⟩,uM _ _ _ hZ,dx,_,vN,bE,?_,dk,cf.put Y (VR.le L _ xv) (cf.le L _ hv),λy hy=>?_⟩))
  .exact hi.kp λx q=>(d0.2 ad bE).trans q
  .have hy:=R7 hy
   exact(if_neg λz=>hy.1 (congrArg Key.s z.symm)).trans (hz y hy.2)
 | _=>cases e
set_option tactic.hygienic true in
theorem UW{k k':AC}{i a:O}{o:Ow}{ad:Addr}{iv v:Value}{Q:Unit->Shared->Prop}(oR:OR w c s.heap k (some o) ad)(xi:VW w c s.heap i iv)(xv:VR w c s.heap a v)(e:gb k i a=some k')
  (hq:∀h' tk,Heap.SameBut ad s.heap h'->OR w c h' k' (some o) ad->Q () {s with heap:=h',toks:=tk}):wpAny (model aL w) A (setItem (.ref ad) iv v) Q E s:=by
 cases k with
 | inst k fs=>cases e
 | list vs=>
  cases i with
  | int n=>
   refine xi.elim λt et=>et▸?_
   obtain⟨how,hlen,items,nn,ho,hv⟩:=oR
   have hz:=hv.size
   have fin:∀j,j<items.size->(n=(j:Int)∨(n<0/\-(items.size:Int)<=n/\j=(n+items.size).toNat))->.list (vs.set j a)=k'->wpAny (model aL w) A (setItem (.ref ad) (.int n t) v) Q E s:=λj hj hk hc=>
    UO ho hj (hz.symm▸bX hlen) hk ((pE (λx=>x.setIfInBounds j v) ho).elim λn' q=>hq _ _ q.2 (hc▸⟨how,by rw[List.length_set];exact hlen,_,n',q.1,by
     rw[Array.toList_setIfInBounds]
     exact aq.put (VR.le (eE how q.2) _ xv) j (aq.le (eE how q.2) _ hv)⟩))
   have e:(if (decide (0<=n)&&decide (n<vs.length))=true then some (AC.list (vs.set n.toNat a)) else if (decide (n=-1)&&decide (0<vs.length))=true then some (.list (vs.set (vs.length - 1) a)) else none)=some k':=e
   split at e
   .rename_i hc
    have hc:=Bool.and_eq_true_iff.mp hc
    have h1:=of_decide_eq_true hc.1
    have h2:=of_decide_eq_true hc.2
    exact fin n.toNat (by rw[hz];exact(Int.toNat_lt h1).mpr h2) (.inl (Int.toNat_of_nonneg h1).symm) (Option.some.inj e)
   .have e:=bh e
    have hc:=Bool.and_eq_true_iff.mp e.1
    have h1:=of_decide_eq_true hc.1
    have h2:=of_decide_eq_true hc.2
    have q:=PI h1 h2
    exact fin (vs.length - 1) (hz▸q.1) (.inr ⟨q.2.1,hz▸q.2.2.1,hz▸q.2.2.2⟩) (Option.some.inj e.2)
  | _=>cases e
 | dict es=>
  refine(Option.bind_eq_some_iff.mp e).elim λk p=>?_
  have p':=bh (c:=es.length<ax) p.2
  obtain⟨how,hs,hlen,hn,items,nn,ho,hv⟩:=oR
  refine wpAny_setItem_pairs (knd:=keyKind aL w) (k:=k) (lA xi p.1) (eP ho hn hv) (λh' hU d0=>hq _ _ d0 (Option.some.inj p'.2▸OR.dictOf how hU ((KV.le (eE how d0) (KV.of hv)).put ⟨?_,VR.le (eE how d0) _ xv⟩) hs (Nat.le_trans (oJ _ _ _) p'.1) (uM _ _ _ hn))) (by rw[iB hv];exact bX hlen)
  have hk:=p.1
  unfold keyOf at hk
  split at hk
  .exact Option.some.inj hk▸trivial
  .exact Option.some.inj hk▸xi.1
  .cases hk
end
section
variable{J:Om}{o i:ME}{a:Str}{x y:Expr}{pos:Pos}
theorem Vp(W:Wd J.w J.B)(ho:aB J o x)(hf:a∈iM)(Y:a.length<=ax):g5 J (.attr o a) (.Attribute x a pos):=⟨λ{φ c rs vs st ak s r v K Q} nl b e q=>by
 have e:ct r st λv st=>(wE tab (F J.k) o).1 st λx st=>dD x st (λc=>(lQ c a v).map λc=>(c,.none)) λZ st=>K st:=e
 rw[arm_assign_Attribute]
 exact b.last e λc av st' e b=>wpAny_bind (wpAny_holding (ho.e.run (φ:=φ.to c st' ak s) b.at e λr HX u s' e P=>wpAny_bind (wpAny_standAt (wpAny_bind (wpAny_holding (P.elim λc' A=>A.pop.pop.change A.hd e λk k' x' ad ow df hv oR hg kQ go=>(Option.map_eq_some_iff.mp hg).elim λk₂ z=>hv▸
  UU W A.gd.base oR hf Y A.pop.hd z.1 λd h' tk od sb lx o'=>wpAny_release' (q _ _ _ _ kQ (b.pop.of (go d h' tk od sb lx ((Prod.mk.inj z.2).1▸o'))))))))))⟩
theorem Vq(ho:aB J o x)(hi:aB J i y):g5 J (.idx o i) (.Subscript x y pos):=⟨λ{φ c rs vs st ak s r v K Q} nl b e q=>by
 have e:ct r st λv st=>(wE tab (F J.k) o).1 st λx st=>(wE tab (F J.k) i).1 st λk st=>OK (view k st) λk=>dD x st (λc=>(gb c k v).map λc=>(c,.none)) λZ st=>K st:=e
 rw[arm_assign_Subscript]
 exact b.last e λc av st' e b=>wpAny_bind (wpAny_holding (ho.e.run (φ:=φ.to c st' ak s) b.at e λr HX u s' e P=>wpAny_bind (wpAny_holding (hi.e.run (φ:=φ.to c st' ak s) P e λr₂ tA Y5 cU e P=>wpAny_bind (wpAny_standAt (wpAny_bind (wpAny_holding (aM e λkv hk e=>P.elim λc' A=>A.pop.pop.pop.change A.pop.hd e λk k' x' ad ow df hv oR hg kQ go=>(Option.map_eq_some_iff.mp hg).elim λk₂ z=>hv▸
  UW oR (A.gd.view A.hd hk) A.pop.pop.hd z.1 λh' tk sb o'=>wpAny_release' (q _ _ _ _ kQ (b.pop.of (go ad h' tk oR.ow sb (OR.live _ o') ((Prod.mk.inj z.2).1▸o'))))))))))))⟩
end
end Mine.Internal
namespace Mine.Internal
open PySem PySem.Calls PyProof.Rows PySem.W
theorem mB{x:Expr}(h:notStar x=true)(rest:List Expr)(env:Env):assignEach (x::rest) env=(false,assign x env)::assignEach rest env:=by
 cases x<;>first | rfl | cases h
section
variable{J:Om}
theorem kH:∀{xs:List Expr} {env:Env},xs.all notStar=true->(assignEach xs env).length=xs.length/\(assignEach xs env).findIdx? (·.1)=none
 | [],_,_=>⟨rfl,rfl⟩
 | x::r,env,h=>by
  have ih:=kH (env:=env) (pO h).2
  rw[mB (pO h).1]
  exact⟨congrArg Nat.succ ih.1,by rw[List.findIdx?_cons,ih.2];rfl⟩
structure mw(J:Om)(ts:bI)(xs:List Expr):Prop where
 ns:xs.all notStar=true
 ms:oj J ts (λenv=>(assignEach xs env).map (·.2))
theorem Vt:mw J .nil []:=⟨rfl,HC⟩
theorem Vs{t:MT}{ts:bI}{x:Expr}{xs:List Expr}(hn:notStar x=true)(h:g5 J t x)(hs:mw J ts xs):mw J (.cons t ts) (x::xs):=
 ⟨(congrArg (·&&_) hn).trans hs.ns,(show(λenv=>(assignEach (x::xs) env).map (·.2))=λenv=>(λv=>assign x env v)::(assignEach xs env).map (·.2) from funext λenv=>by rw[mB hn];rfl)▸HA (x:=λenv v=>assign x env v) h.run hs.ms⟩
noncomputable def qO:Option Str->Option (List Str)->Option (List Str)
 | some x,some l=>some (x::l)
 | _,_=>none
noncomputable def WN(D:au)(t:MT)(o:Option (List Str)):Option (List Str):=match t with
 | .slot i=>qO D.sl[i]? o
 | _=>none
noncomputable def slotNames(D:au):bI->Option (List Str)
 | .nil=>some []
 | .cons t r=>WN D t (slotNames D r)
theorem AK:∀{a:Option Str} {b:Option (List Str)} {ns:List Str},qO a b=some ns->∃x l,a=some x/\b=some l/\ns=x::l
 | some x,some l,_,e=>⟨x,l,rfl,rfl,(Option.some.inj e).symm⟩
 | some _,none,_,e=>nomatch e
 | none,_,_,e=>nomatch e
theorem yk{D:au}{t:MT}{r:bI}{ns:List Str}(e:slotNames D (.cons t r)=some ns):∃i x l,t=.slot i/\D.sl[i]?=some x/\slotNames D r=some l/\ns=x::l:=by
 cases t with
 | slot i=>exact(AK e).elim λx z=>z.elim λl z=>⟨i,x,l,rfl,z.1,z.2.1,z.2.2⟩
 | _=>exact nomatch e
theorem U6{D:au}{i:Nat}{r:bI}{x:Str}{l:List Str}(e:D.sl[i]?=some x)(e':slotNames D r=some l):slotNames D (.cons (.slot i) r)=some (x::l):=by
 show qO D.sl[i]? (slotNames D r)=_
 rw[e,e'];rfl
theorem HB(ok:iC J.D):∀{ts:bI} {ns:List Str},slotNames J.D ts=some ns->oj J ts (λenv=>ns.map λn=>bindName env n)
 | .nil,ns,e=>Option.some.inj e▸HC
 | .cons t r,ns,e=>(yk e).elim λi z=>z.elim λx z=>z.elim λl z=>z.1▸z.2.2.2▸HA (t:=.slot i) (x:=λenv v=>bindName env x v) (λ{φ c rs vs st ak s r v K Q} nl a e q=>wpAny_bindName (a.II (K:=λy st=>jc i y st K) e λc y st' e a=>a.store ok z.2.1 nl e q)) (HB ok z.2.2.1)
theorem Hr{D:au}:∀{ts:bI} {ns:List Str},slotNames D ts=some ns->ns.length=ts.len
 | .nil,_,e=>Option.some.inj e▸rfl
 | .cons t r,ns,e=>(yk e).elim λi z=>z.elim λx z=>z.elim λl z=>z.2.2.2▸congrArg Nat.succ (Hr z.2.2.1)
theorem Hs{D:au}:∀{ts a:bI} {l m:List Str},slotNames D ts=some l->slotNames D a=some m->slotNames D (ts.nR a)=some (l.reverse++m)
 | .nil,a,l,m,e,e'=>Option.some.inj e▸e'
 | .cons t r,a,l,m,e,e'=>(yk e).elim λi z=>z.elim λx z=>z.elim λl' z=>by
  rw[z.1,z.2.2.2,List.reverse_cons,List.append_assoc]
  exact Hs (ts:=r) (a:=.cons (.slot i) a) z.2.2.1 (U6 z.2.1 e')
theorem aZ.vals{w:World}{c:Cf}{h:Heap}{st:St}{ak:Nat->Value}{rs:List ER}{vs:List Value}(x:aZ w c h st ak rs vs):∀{as:List O} {us:List Value},aq w c h as us->aZ w c h st ak (as.map .val++rs) (us++vs)
 | [],_,y=>y.nil (P:=λus=>aZ w c h st ak _ (us++vs)) x
 | _::_,_,y=>y.cons (P:=λus=>aZ w c h st ak _ (us++vs)) λv q xv xr=>aZ.mk (r:=.val _) xv (aZ.vals x xr)
theorem Sd.grow{φ:Fm}{c:Cf}{rs:List ER}{vs:List Value}{st:St}{ak:Nat->Value}{s:Shared}(a:Sd J φ c rs vs st ak s){h':Heap}(sub:Sub s.heap h')(tk:Nat):Sd J φ c rs vs st ak {s with heap:=h',toks:=tk}:=
 a.at.elim λc' p=>⟨⟨a.ok.rm,a.ok.bQ.to sub.kp (λZ q=>q) rfl⟩,⟨by rw[a.mv.se],a.mv.le.trans sub.le,a.mv.ko.trans sub.kp⟩,a.cE,a.gd.grow sub⟩
theorem ExtBut.sub{h h':Heap}(he:Heap.ExtBut h.objs.size h h'):Sub h h':=λb o q=>he b o (Nat.ne_of_lt (Heap.lt_size q)) q
theorem R6{vs:List O}{rs:List ER}(n:gq rs):gq (vs.map .val++rs):=λr hr=>(List.mem_append.mp hr).elim (λh=>(List.mem_map.mp h).elim λa e=>e.2▸nofun) (n r)
theorem Vr{ts:bI}{xs:List Expr}{j pos}(h:mw J ts xs)(Y:ts.len=xs.length):g5 J (.tup ts) (.Tuple xs j pos):=⟨λ{φ c rs vs st ak s r v K Q} nl a e q=>by
 have e:ct r st λv st=>match v with
  | .tup vs=>BR (Nat.beq vs.length ts.len) (ji tab (F J.k) ts (vs.map .val) st K) False
  | _=>False:=e
 refine a.last e λc av st' e a=>?_
 cases av with
 | tup us=>exact ef e (λhz e=>by
   refine a.gd.bw.hd.2.elim λl p=>p.elim λit p=>p.elim λm p=>p.1▸wpAny_assign_Tuple a.ok.rm.1 ⟨_,p.2.2.1,rfl,m,rfl⟩ ?_ (kH h.ns).2 λh' he=>?_
   .exact(kH h.ns).1.trans (Y.symm.trans ((Nat.eq_of_beq_eq_true hz).symm.trans p.2.2.2.size.symm))
   .have sub:=ExtBut.sub he
    have g:=a.pop.grow sub s.toks
    exact h.ms.run (R6 nl) ((List.length_map _).trans p.2.2.2.get.1) (⟨g.ok,g.mv,g.cE,{g.gd with bw:=g.gd.bw.vals (aq.le sub.le _ p.2.2.2)}⟩:Sd J φ c _ _ _ _ _) e q) λZ e=>e.elim
 | _=>exact e.elim⟩
end
section
variable{J:Om}{φ:Fm}{c:Cf}{rs l:List ER}{vs us:List Value}{st:St}{ak:Nat->Value}{s:Shared}
def mm(w:World)(c:Cf)(h:Heap)(st:St)(ak:Nat->Value)(p:Nat->Nat)(l:List ER)(us:List Value):Prop:=∀(i:Nat) r u,l[i]?=some r->us[i]?=some u->RR w c h st ak (.tmp (p i)) r u
theorem aZ.xh{w:World}{h:Heap}:∀{rs:List ER} {vs:List Value},rs.length=vs.length->(∀(i:Nat) r v,rs[i]?=some r->vs[i]?=some v->RR w c h st ak (.tmp (rs.length - 1 - i)) r v)->aZ w c h st ak rs vs
 | [],[],_,_=>rfl
 | [],_::_,e,_=>nomatch e
 | _::_,[],e,_=>nomatch e
 | r::rs,v::vs,e,k=>.mk (k 0 r v rfl rfl) (aZ.xh (Nat.succ.inj e) λi r v q q'=>(show rs.length+1 - 1 - (i+1)=rs.length - 1 - i by lia)▸k (i+1) r v q q')
theorem Fe:∀{l:List ER} {us:List Value} {c:Cf} {st:St} {K:List ER->St->Prop} {p:Nat->Nat},l.length=us.length->aF J φ c [] [] st s->mm J.w c s.heap st φ.ak p l us->gR l st K->
  ∃c' l' st',K l' st'/\aF J φ c' [] [] st' s/\l'.length=us.length/\gq l'/\mm J.w c' s.heap st' φ.ak p l' us/\Le c s.heap c' s.heap/\∀j,Kp c s.heap (some (.tmp j)) c' s.heap (some (.tmp j))
 | [],[],c,st,_,_,_,a,_,e=>⟨c,[],st,e,a,rfl,(λr h=>nomatch h),(λi r u e=>nomatch e),.refl _ _,λZ Z Z e e'=>⟨e,e'⟩⟩
 | [],_::_,_,_,_,_,e,_,_,_=>nomatch e
 | _::_,[],_,_,_,_,e,_,_,_=>nomatch e
 | r::l,u::us,c,st,K,p,e,a,x,k=>by
  have go:∀{c₁:Cf} {dz:St} {r':ER},(∀i,r'≠.loc i)->aF J φ c₁ [] [] dz s->Le c s.heap c₁ s.heap->(∀j,Kp c s.heap (some (.tmp j)) c₁ s.heap (some (.tmp j)))->(∀i,Full st i->Full dz i)->RR J.w c₁ s.heap dz φ.ak (.tmp (p 0)) r' u->gR l dz (λl st=>K (r'::l) st)->
    ∃c' l' st',K l' st'/\aF J φ c' [] [] st' s/\l'.length=(u::us).length/\gq l'/\mm J.w c' s.heap st' φ.ak p l' (u::us)/\Le c s.heap c' s.heap/\∀j,Kp c s.heap (some (.tmp j)) c' s.heap (some (.tmp j)):=λ{c₁ dz r'} nr a L T f xr k=>by
   obtain⟨c',l',st',k,a',Y,nl,pl,L',T'⟩:=Fe (p:=λi=>p (i+1)) (Nat.succ.inj e) a (λi r v q q'=>(x (i+1) r v q q').kp L (T _) f) k
   refine⟨c',r'::l',st',k,a',congrArg Nat.succ Y,λr h=>(List.mem_cons.mp h).elim (λe=>e▸nr) (nl r),λi r v q q'=>?_,L.trans L',λj=>(T j).trans (T' j)⟩
   match i,q,q' with
   | 0,q,q'=>
    rw[←Option.some.inj q,←Option.some.inj q']
    cases r' with
    | val b=>exact VR.le L' b xr
    | own b=>exact xr.imp λa z=>⟨z.1,OR.le L' b (T' _) z.2⟩
    | loc i=>exact absurd rfl (nr i)
   | i+1,q,q'=>exact pl i r v q q'
  have x0:=x 0 r u rfl rfl
  cases r with
  | val b=>exact go (r':=.val b) nofun a (.refl _ _) (λZ Z Z e e'=>⟨e,e'⟩) (λZ q=>q) x0 k
  | own b=>exact go (r':=.own b) nofun a (.refl _ _) (λZ Z Z e e'=>⟨e,e'⟩) (λZ q=>q) x0 k
  | loc i=>
   refine x0.2.elim λy hy=>?_
   obtain⟨σ,lk,κ,H⟩:=st
   have k:sj i σ lk κ H (λv st=>gR l st λl st=>K (.val v::l) st) (some (some y)):=(hy:σ[i]?=_)▸k
   cases y with
   | val b=>exact go (r':=.val b) nofun a (.refl _ _) (λZ Z Z e e'=>⟨e,e'⟩) (λZ q=>q) (x0.1▸a.gd.slt i _ hy) k
   | own b=>exact go (r':=.val (.ao b)) nofun (a.ao hy).1 (.map _) (λj=>.map (iJ (x:=.tmp j) nofun)) (λj q=>(Full.set ⟨_,hy⟩ j).mpr q) (x0.1▸(a.ao hy).2) (jb _ _ _ k)
noncomputable def flip(n:Nat):Ow->Option Ow
 | .tmp j=>some (.tmp (n - 1 - j))
 | x=>some x
theorem Sd.down(a:Sd J φ c [] [] st ak s)(Y:l.length=us.length)(x:mm J.w c s.heap st ak (λi=>i) l us):Sd J φ (c.map (flip l.length)) l us st ak s:=
 have K:∀{o:Ow},flip l.length o=some o->Kp c s.heap (some o) (c.map (flip l.length)) s.heap (some o):=λe=>.map e
 ⟨⟨a.ok.rm,a.ok.bQ.to (K rfl) (λZ q=>q) rfl⟩,⟨a.mv.se,a.mv.le.trans (.map _),a.mv.ko.trans (K rfl)⟩,a.cE,a.gd.p0 (λZ=>rfl) rfl (λi x e=>(a.gd.slt i x e).kp (.map _) (K (o:=.slot i) rfl)) (λd i fr v e e'=>VR.le (.map _) v (a.gd.dc d i fr v e e'))
  (.xh Y λi r v e e'=>(x i r v e e').kp (c':=c.map (flip l.length)) (.map _) (.map rfl) λZ q=>q)⟩
theorem Sd.up(a:Sd J φ c [] [] st ak s)(Y:l.length=us.length)(x:mm J.w c s.heap st ak (λi=>i) l us):Sd J φ c l.reverse us.reverse st ak s:=
 ⟨a.ok,a.mv,a.cE,{a.gd with bw:=.xh (by rw[List.length_reverse,List.length_reverse,Y]) (λi r v e e'=>by
  have hi:i<l.length:=List.length_reverse▸cu e
  rw[List.getElem?_reverse hi] at e
  rw[List.getElem?_reverse (Y▸hi),←Y] at e'
  rw[List.length_reverse]
  exact x _ r v e e')}⟩
end
set_option backward.match.sparseCases true in
noncomputable def nY(sc:Scope)(ts vs:List Expr):Option (Option (List Str)):=
 if !(ts.length==2||ts.length==3)||vs.length != ts.length||sc.kind != .function then some none
 else if vs.any (λ| .Starred ..=>true | _=>false) then some none
 else
  let line:=(ts.head?.map (·.pos.line)).getD 0
  let names:=ts.filterMap λ
   | .Name id pos=>if sc.names.lookup id==some .local&&pos.line==line then some id else none
   | _=>none
  if names.length != ts.length||names.eraseDups.length != names.length then some none
  else if vs.all (foldedForSure 8) then some none
  else if vs.all (constantsAlone 8) then none
  else some (some names)
set_option tactic.hygienic true in
theorem H8{ts vs:List Expr}{j p j' p':_}{env:Env}(hk:env.scope.kind=.function){r:Option (List Str)}(h:nY env.scope ts vs=some r) :
  swappedStores [.Tuple ts j p] (.Tuple vs j' p') env=pure r:=by
 have I:env.blockKind=env.scope.kind:=by unfold Env.blockKind;rw[hk];rfl
 unfold nY at h
 unfold swappedStores
 dsimp only at h ⊢
 rw[I]
 split at h
 .rename_i c;cases h;refine(if_pos ?_).trans rfl;exact c
 .rename_i c
  refine Eq.trans (if_neg ?_) ?_
  .exact c
  split at h
  .rename_i c;cases h;refine(if_pos ?_).trans rfl;exact c
  .rename_i c
   refine Eq.trans (if_neg ?_) ?_
   .exact c
   split at h
   .rename_i c;cases h;refine(if_pos ?_).trans rfl;exact c
   .rename_i c
    refine Eq.trans (if_neg ?_) ?_
    .exact c
    split at h
    .rename_i c;cases h;refine(if_pos ?_).trans rfl;exact c
    .rename_i c
     refine Eq.trans (if_neg ?_) ?_
     .exact c
     split at h
     .cases h
     .rename_i c;cases h;refine(if_neg ?_).trans rfl;exact c
section
variable(J:Om)(n:Nat)
structure cX(m:MS)(x:Stmt):Prop where
 run:∀{φ:Fm} {c:Cf} {st:St} {ak:Nat->Value} {s:Shared} {K:KS} {Q:Flow->Shared->Prop},n<=s.toks->Sd J φ c [] [] st ak s->wS tab (F J.k) m st K->(∀c' st' aR s',K .next st'->Sd J φ c' [] [] st' aR s'->Q .next s')->
  (∀r v c' st' aR s',K (.ret r) st'->Sd J φ c' [r] [v] st' aR s'->Q (.ret v) s')->wpAny J.M φ.A (exec x φ.env) Q φ.E s
structure dJ(ms:bj)(xs:List Stmt):Prop where
 run:∀{φ:Fm} {c:Cf} {st:St} {ak:Nat->Value} {s:Shared} {K:KS} {Q:Flow->Shared->Prop},n<=s.toks->Sd J φ c [] [] st ak s->wSs tab (F J.k) ms st K->(∀c' st' aR s',K .next st'->Sd J φ c' [] [] st' aR s'->Q .next s')->
  (∀r v c' st' aR s',K (.ret r) st'->Sd J φ c' [r] [v] st' aR s'->Q (.ret v) s')->wpAny J.M φ.A (execs xs φ.env) Q φ.E s
end
section
variable{J:Om}{n:Nat}{ts:bI}{es:aW}{xs kh:List Expr}{j tp j' vp pos:_}
theorem tuple_parts{φ:Fm}{c:Cf}{st:St}{ak:Nat->Value}{s:Shared}{m:Nat}{K:List ER->St->Prop}{Q:Value->Shared->Prop}{jj pp:_}(gI:cW J es kh)(Y:m<=1000)(a:Sd J φ c [] [] st ak s)(e:wEs tab (F J.k) es st λrs st=>gR rs st λrs st=>BR (Nat.beq rs.length m) (K rs st) False)
  (h:∀l us c st ad s,K l st->s.heap.IsTuple ad us.toArray->l.length=us.length->l.length=m->gq l->Sd J φ c [] [] st ak s->mm J.w c s.heap st ak (λi=>i) l us->Q (.ref ad) s) :
  wpAny J.M φ.A (eval (.Tuple kh jj pp) φ.env) Q φ.E s:=
 wpAny_Tuple (gI.run (φ:=φ.to c st ak s) pp a.at e λl st' us s' e hz P=>P.elim λc' p=>by
  have q:=aZ.args (l:=l) (us:=us) (rs:=[]) (vs:=[]) hz p.gd.bw
  obtain⟨c₂,l',df,e,a',c4,nl,pl,_,_⟩:=Fe (φ:=φ.to c st ak s) (p:=λi=>i) hz ⟨p.ok,p.mv,p.ke,p.sh,{p.gd with bw:=rfl}⟩ (λi r u x y=>Nat.zero_add i▸q.2 i r u x y) e
  refine ef e (λhm e=>?_) λZ e=>e.elim
  have hm:=Nat.eq_of_beq_eq_true hm
  have sub:Sub s'.heap (s'.heap.push (jf us.toArray 0)):=Sub.push _ _
  have g:=(a.of a').grow sub s'.toks
  exact⟨Nat.le_trans (Nat.le_of_eq (c4.symm.trans hm)) (Nat.le_trans Y (by decide)),h l' us c₂ df _ _ e ⟨_,Heap.get?_push_size _ rfl,rfl,0,rfl⟩ c4 hm nl g λi r u x y=>(pl i r u x y).kp sub.le sub.kp λZ q=>q⟩)
theorem Vw(wg:mw J ts xs)(Y:ts.len=xs.length)(gI:cW J es kh)(vP:ts.len<=1000)(hw:nY J.D.sc xs kh=some none):cX J n (.bK false ts es) (.Assign [.Tuple xs j tp] (.Tuple kh j' vp) pos):=⟨λ{φ c st ak s K Q} Z a e q Z=>
 wpAny_Assign_stores (tuple_parts (K:=λrs st=>ji tab (F J.k) ts rs st λst=>K .next st) gI vP a e λl us c st ad s e ht hz hm nl a pl=>by
  rw[mB rfl]
  show wpAny _ _ (assign (.Tuple xs j tp) φ.env (.ref ad)) _ _ _
  refine wpAny_assign_Tuple a.ok.rm.1 ht (by rw[(kH wg.ns).1,List.size_toArray,←hz,hm,Y]) (kH wg.ns).2 λh' he=>?_
  have sub:=ExtBut.sub he
  have g:=(a.down hz pl).grow sub s.toks
  exact wg.ms.run (l:=l) (rs:=[]) (vs:=[]) (us:=us) (by rw[List.append_nil];exact nl) hz (by rw[List.append_nil,List.append_nil];exact g) e λc' st' aR s' k a=>q c' st' aR s' k a) rfl (H8 a.ok.bQ.fr.fn (by rw[show φ.env.scope=_ from a.ok.bQ.sc];exact hw))⟩
theorem Vv{ns:List Str}(ok:iC J.D)(fX:slotNames J.D ts=some ns)(gI:cW J es kh)(vP:ts.len<=1000)(hw:nY J.D.sc xs kh=some (some ns)):cX J n (.bK true ts es) (.Assign [.Tuple xs j tp] (.Tuple kh j' vp) pos):=⟨λ{φ c st ak s K Q} Z a e q Z=>
 Assign_Tuple_swapped (names:=ns) (tuple_parts (K:=λrs st=>ji tab (F J.k) (ts.nR .nil) rs.reverse st λst=>K .next st) gI vP a e λl us c st ad s e ht hz hm nl a pl=>by
  have Ov:slotNames J.D (ts.nR .nil)=some ns.reverse:=(Hs fX (a:=.nil) (m:=[]) rfl).trans (congrArg some (List.append_nil _))
  rw[show ns.length=us.toArray.size by rw[Hr fX,List.size_toArray,←hz,hm]]
  refine wpAny_unpackItems_tuple a.ok.rm.1 ht λh' he=>?_
  have g:=(a.up hz pl).grow (ExtBut.sub he) s.toks
  exact(HB ok Ov).run (l:=l.reverse) (rs:=[]) (vs:=[]) (us:=us.reverse) (λr hr=>nl r (List.mem_reverse.mp (List.append_nil l.reverse▸hr))) (by rw[List.length_reverse,List.length_reverse,hz]) (by rw[List.append_nil,List.append_nil];exact g) e λc' st' aR s' k a=>q c' st' aR s' k a) rfl
  (H8 a.ok.bQ.fr.fn (by rw[show φ.env.scope=_ from a.ok.bQ.sc];exact hw))⟩
end
noncomputable def m7:Expr->Bool
 | .ListComp ..=>true
 | .SetComp ..=>true
 | .DictComp ..=>true
 | _=>false
noncomputable def ib:Expr->Bool
 | .Tuple ..=>true
 | .List ..=>true
 | _=>false
noncomputable def r6:Expr->Bool
 | .Name ..=>true
 | _=>false
theorem yG{value:Expr}(h:m7 value=false)(t:Option Expr)(l:Nat)(env:Env):swapsWith value t l env=pure false:=by
 cases value<;>first | rfl | cases h
theorem Xx{t:Expr}(h:r6 t=false)(value:Expr)(l:Nat)(env:Env):swapsWith value (some t) l env=pure false:=by
 cases value<;>first | rfl | (cases t<;>first | rfl | cases h)
theorem yF{t value:Expr}(h:(ib t&&ib value)=false)(env:Env):swappedStores [t] value env=pure none:=by
 cases t<;>first | rfl | (cases value<;>first | rfl | cases h)
theorem R5:typeLookup (.type "bytes") (dunderI "add")=pure none:=by rw[typeLookup_type,builtinLookup_eq_fast];kernel_rfl
section
variable{J:Om}{n:Nat}{m:MS}{ms b o:bj}{x:Stmt}{xs xb xo:List Stmt}{e t:ME}{y:Expr}{pos:Pos}
theorem cX.of(h:cX J 0 m x):cX J n m x:=⟨λZ=>h.run (Nat.zero_le _)⟩
theorem HG:dJ J n .nil []:=⟨λZ a e q Z=>wpAny_execs_nil (q _ _ _ _ e a)⟩
theorem HF{n':Nat}(h:∀{φ:Fm} {c:Cf} {st:St} {ak:Nat->Value} {s:Shared} {K:KS} {Q:Flow->Shared->Prop},n<=s.toks->Sd J φ c [] [] st ak s->wS tab (F J.k) m st K->(∀c' st' aR s',K .next st'->Sd J φ c' [] [] st' aR s'->n'<=s'.toks->Q .next s')->
  (∀r v c' st' aR s',K (.ret r) st'->Sd J φ c' [r] [v] st' aR s'->Q (.ret v) s')->wpAny J.M φ.A (exec x φ.env) Q φ.E s) (hs:dJ J n' ms xs):dJ J n (.cons m ms) (x::xs):=
 ⟨λ{φ c st ak s K Q} ht a e q r=>wpAny_execs_cons (h ht a e (λc' st' aR s' e a ht=>hs.run ht a e q r) λr' v c' st' aR s' k a=>r _ _ _ _ _ _ k a)⟩
theorem yo(h:cX J n m x)(hs:dJ J n ms xs):dJ J n (.cons m ms) (x::xs):=
 HF (λ{φ c st ak s K Q} ht a e q r=>wpAny_mono (wpAny_toks ht (h.run (Q:=λf s'=>n<=s'.toks->Q f s') ht a e (λc' st' aR s' k a ht=>q _ _ _ _ k a ht) λr' v c' st' aR s' k a Z=>r _ _ _ _ _ _ k a)) (λf s' p=>p.1 p.2) λZ Z y=>y) hs
theorem VA(ht:aB J t y)(I:dJ J 0 b xb)(ho:dJ J 0 o xo):cX J n (.aD t b o) (.If y xb xo pos):=
 ⟨λ{φ c st ak s K Q} Z a e q r=>wpAny_If (ht.t.run (φ:=φ.to c st ak s) a.at e λv st' s' e P=>P.elim λc' p=>match v,e with
  | true,e=>I.run (Nat.zero_le _) (a.of p) e q r
  | false,e=>ho.run (Nat.zero_le _) (a.of p) e q r)⟩
theorem VC(h:aB J e y):cX J n (.ret e) (.Return (some y) pos):=
 ⟨λ{φ c st ak s K Q} Z a e q r=>wpAny_Return_some (h.e.run (φ:=φ.to c st ak s) a.at e λv st' u s' e P=>P.elim λc' p=>r _ _ _ _ _ _ e (a.of p))⟩
theorem VD:cX J n (.ret .bz) (.Return none pos):=
 ⟨λ{φ c st ak s K Q} Z a e q r=>wpAny_Return_none ((a.at.gL (a:=.none) (v:=.none) (λZ Z=>rfl) s.toks).elim λc' p=>r _ _ _ _ _ _ e (a.of p))⟩
theorem Vy(h:aB J e y)(hc:m7 y=false):cX J n (.expr e) (.Expr y pos):=
 ⟨λ{φ c st ak s K Q} Z a e q r=>wpAny_Expr (h.e.run (φ:=φ.to c st ak s) a.at e λv st' u s' e P=>P.elim λc' p=>match v,e,p with
  | .val .none,e,p=>by
   rw[show u=Value.none from p.hd]
   exact q _ _ _ _ e (a.of p.pop)) (by unfold interactive;rw[a.ok.bQ.fr.fn];rfl) (yG hc _ _ _)⟩
theorem VF{hs:List ExceptHandler}(h:dJ J 0 b xb):cX J n (.try b) (.Try xb hs [] [] pos):=
 ⟨λ{φ c st ak s K Q} Z a e q r=>by
  rw[show exec (.Try xb hs [] [] pos) φ.env=(do standAt pos;tryStmt false (execs xb φ.env) hs (pure .next) [] φ.env) from rfl]
  refine wpAny_bind (wpAny_standAt ?_)
  unfold tryStmt
  exact wpAny_bind (wpAny_attempt (wpAny_mono (h.run (Q:=Q) (φ:={φ with E:=λZ Z=>False}) (Nat.zero_le _) ⟨⟨a.ok.rm,a.ok.bQ⟩,a.mv,a.cE,a.gd⟩ e (λc' st' aR s' k a=>q _ _ _ _ k ⟨⟨a.ok.rm,a.ok.bQ⟩,a.mv,a.cE,a.gd⟩) λr' v c' st' aR s' k a=>r _ _ _ _ _ _ k ⟨⟨a.ok.rm,a.ok.bQ⟩,a.mv,a.cE,a.gd⟩) (λf s' p=>by
   cases f<;>exact wpAny_pure p) λZ Z y=>y.elim))⟩
theorem VE:cX J n .stuck x:=⟨λZ Z e=>e.elim⟩
theorem JD{tm:MT}{xt:Expr}{φ:Fm}{ak:Nat->Value}{s:Shared}{K:St->Prop}{Q:Flow->Shared->Prop}(ht:g5 J tm xt)(hn:notStar xt=true)(hc:m7 y=false∨r6 xt=false)(hw:(ib xt&&ib y)=false)
  (h:∀{R:Value->Shared->Prop},(∀r v c' st' s',cM tab (F J.k) tm r st' K->Sd J φ c' [r] [v] st' ak s'->R v s')->wpAny J.M φ.A (eval y φ.env) R φ.E s) (q:∀c' st' aR s',K st'->Sd J φ c' [] [] st' aR s'->Q .next s'):wpAny J.M φ.A (exec (.Assign [xt] y pos) φ.env) Q φ.E s:=
 wpAny_Assign_stores (h λr v c' st' s' e a=>by
  rw[mB hn]
  exact(ht.run (Q:=λZ s=>Q .next s) nF a e q:wpAny _ _ (assign xt φ.env v) _ _ _)) (show swapsWith y (some xt) pos.line φ.env=pure false from hc.elim (λhc=>yG hc _ _ _) λhc=>Xx hc _ _ _) (yF hw φ.env)
theorem Vu{tm:MT}{xt:Expr}(ht:g5 J tm xt)(h:aB J e y)(hn:notStar xt=true)(hc:m7 y=false∨r6 xt=false)(hw:(ib xt&&ib y)=false):cX J n (.assign tm e) (.Assign [xt] y pos):=
 ⟨λ{φ c st ak s K Q} Z a e q r=>JD (K:=λst=>K .next st) ht hn hc hw (λ{R} k=>h.e.run (φ:=φ.to c st ak s) a.at e λv st' u s' e P=>P.elim λc' p=>k _ _ _ _ _ e (a.of p)) q⟩
theorem VH{tm:MT}{z:Str}{xt:Expr}{j p}(Y:z.length<=ax)(ht:g5 J tm xt)(hn:notStar xt=true)(hw:ib xt=false)(hs:dJ J 1 ms xs):dJ J n (.cons (.assign tm (.ai z)) ms) (.Assign [xt] (.Constant (.str z) j p) pos::xs):=
 HF (n':=1) (λ{φ c st ak s K Q} Z a e q r=>wpAny_Assign_stores (wpAny_Constant_str (by
  rw[mB hn]
  refine(a.at.gL (a:=.str z) (v:=.str z s.toks) (λZ Z=>⟨Y,_,rfl⟩) (s.toks+1)).elim λc' p=>?_
  exact(wpAny_mono (wpAny_toks (n:=1) (s:={s with toks:=s.toks+1}) (Nat.succ_le_succ (Nat.zero_le _)) (ht.run (Q:=λZ s=>1<=s.toks->Q .next s) nF (a.of p) e λc' st' aR s' k a h=>q _ _ _ _ k a h)) (λZ s' p=>p.1 p.2) λZ Z y=>y:wpAny _ _ (assign xt φ.env _) _ _ _)))
  (yG (value:=.Constant (.str z) j p) rfl (some xt) pos.line φ.env) (yF (by rw[hw];rfl) φ.env)) hs
theorem Vx{i:Nat}{nm:Str}{Ti}(ok:iC J.D)(hs:J.D.sl[i]?=some nm)(ho:dm nm=true)(h:aB J e y):cX J n (.aug i e) (.AugAssign (.Name nm Ti) .Add y pos):=
 ⟨λ{φ c st ak s K Q} Z jq LA q Z=>wpAny_AugAssign_Name (Ek (φ:=φ.to c st ak s) (K:=λx st=>(wE tab (F J.k) e).1 st λy st=>OK (jw x st) λa=>OK (jw y st) λb=>
  BR (decide (a.length+b.length<=ax)) (jc i (.val (.bytes (a++b))) st λst=>K .next st) False) hs (by rw[ok.kl];exact List.not_mem_nil) ((ok.kind nm (List.mem_of_getElem? hs)).imp id .inl) ho jq.at LA λr st' v s' e P=>h.e.run (φ:=φ.to c st ak s) P e λr₂ df u aA e P=>aM e λa ea e=>aM e λb eb e=>ef e (λY e=>P.elim λc' p=>by
  have Y:=of_decide_eq_true Y
  have base:=p.pop.pop
  have store:∀(w:Array UInt8) t tk,w=a.toArray++b.toArray->wpAny J.M φ.A (storeName φ.env nm (.bytes w t)) (λZ=>Q .next) φ.E {aA with toks:=tk}:=λw t tk ew=>
   (base.op (aE.bytes (x:=a++b) (y:=w) (by rw[List.length_append];exact Y) (by rw[ew,List.append_toArray]) t tk)).elim λkR Tj=>(jq.of Tj).store (y:=.val (.bytes (a++b))) ok hs nF e q
  have va:a.length<=ax/\∃t,v=.bytes a.toArray t:=p.gd.view p.pop.hd (z8 ea)
  have vb:b.length<=ax/\∃t,u=.bytes b.toArray t:=p.gd.view p.hd (z8 eb)
  refine va.2.elim λt ev=>vb.2.elim λt' eu=>?_
  rw[ev,eu]
  refine iconcat_gives (typeIs_bytes aA _ t) (typeIs_bytes aA _ t') R5 KBy.noFill_bytes_add KBy.seq_bytes_add FB.slot_bytes_add FB.entry_bytes_add (FB.args_bytes_add_2 _ _) (KBy.gives_bytes_add (KBy.tooLong_not ?_)) ?_
  .rw[List.size_toArray,List.size_toArray];exact bX Y
  .by_cases vH:a.toArray.isEmpty=true
   .rw[if_pos vH]
    exact store _ t' aA.toks (by rw[Array.isEmpty_iff.mp vH,Array.empty_append])
   .rw[if_neg vH]
    by_cases vK:b.toArray.isEmpty=true
    .rw[if_pos vK]
     exact store _ t aA.toks (by rw[Array.isEmpty_iff.mp vK,Array.append_empty])
    .rw[if_neg vK]
     exact⟨by rw[Array.size_append,List.size_toArray,List.size_toArray];exact bX Y,store _ aA.toks (aA.toks+1) rfl⟩) λZ e=>e.elim)⟩
theorem Sd.kj{φ:Fm}{c:Cf}{rs:List ER}{vs:List Value}{st:St}{ak:Nat->Value}{s:Shared}(E:Value->Shared->Prop)(a:Sd J φ c rs vs st ak s):Sd J {φ with E:=E} c rs vs st ak s:=⟨⟨a.ok.rm,a.ok.bQ⟩,a.mv,a.cE,a.gd⟩
theorem VG(ht:aB J t y)(I:dJ J 0 b xb):cX J n (.while t b) (.While y xb [] pos):=
 ⟨λ{φ c st ak s K Q} Z a e q r=>by
  have e:n5 (wE tab (F J.k) t).2 (wSs tab (F J.k) b) qw st K:=Jj e
  refine wpAny_While (codeAny_whileLoop (λn s'=>∃c' dz aR,Sd J φ c' [] [] dz aR s'/\n5 (wE tab (F J.k) t).2 (wSs tab (F J.k) b) n dz K) (λn s' z=>z.elim λc' z=>z.elim λdz z=>z.elim λaR z=>?_) qw ⟨c,st,ak,a,e⟩)
  have e:=z.2
  cases n with
  | zero=>exact e.elim
  | succ n=>
   refine ht.t.run (φ:={φ.to c' dz aR s' with E:=_}) (z.1.kj _).at e λv df aA e P=>P.elim λc₂ p=>?_
   have a:=(z.1.kj _).of p
   cases v with
   | false=>exact wpAny_execs_nil (q _ _ _ _ e (a.kj φ.E))
   | true=>exact I.run (Nat.zero_le _) a e (λkR tA uI cU e a=>⟨n,Nat.lt_succ_self _,kR,tA,uI,a.kj φ.E,e⟩) λr' v c' st' aR s' k a=>r _ _ _ _ _ _ k (a.kj φ.E)⟩
end
end Mine.Internal
namespace Mine.Internal
set_option backward.match.sparseCases true
open PySem PySem.Calls PyProof.Rows PySem.W
def kq(o:Ow):Prop:=o=.other∨o=.env
def Nw(φ:Fm)(o:Ow)(b:Addr):Prop:=φ.c.ow b=some o->φ.s.heap.get? b=none
section
variable{w:World}{B:Heap}{c c':Cf}{h h':Heap}{st:St}{ak:Nat->Value}{aN:Nat->Nat->Value}{rs:List ER}{vs:List Value}{P:Addr->Prop}
structure Alt(c:Cf)(h:Heap)(P:Addr->Prop)(c':Cf)(h':Heap):Prop where
 γ:c'.γ=c.γ
 own:∀b,P b->∃o,kq o/\c.ow b=some o
 hk:∀b o,¬P b->h.get? b=some o->h'.get? b=some o
 hc:∀b,¬P b->c'.ow b=c.ow b
 lv:∀b o,P b->c'.ow b=some o->∃x,h'.get? b=some x
theorem Alt.le(a:Alt c h P c' h'):Le c h c' h':=⟨λl x e=>by rw[a.γ];exact e,λb x e e'=>have n:¬P b:=λp=>(a.own b p).elim λo q=>(nomatch q.2.symm.trans e);⟨(a.hc b n).trans e,a.hk b x n e'⟩⟩
theorem Alt.kp(a:Alt c h P c' h'){o:Ow}(f:¬kq o):Kp c h (some o) c' h' (some o):=λb x e e'=>have n:¬P b:=λp=>(a.own b p).elim λo' q=>f (Option.some.inj (q.2.symm.trans e)▸q.1);⟨(a.hc b n).trans e,a.hk b x n e'⟩
theorem Alt.from{c₀:Cf}{h₀:Heap}{o:Ow}(a:Alt c h P c' h')(n:∀b,P b->c₀.ow b=some o->h₀.get? b=none)(K:Kp c₀ h₀ (some o) c h (some o)):Kp c₀ h₀ (some o) c' h' (some o):=λb x e e'=>
 have q:¬P b:=λp=>(nomatch (n b p e).symm.trans e')
 ⟨(a.hc b q).trans (K b x e e').1,a.hk b x q (K b x e e').2⟩
theorem Gd.alt(g:Gd w B c h st ak aN rs vs)(a:Alt c h P c' h'):Gd w B c' h' st ak aN rs vs:=
 g.ext a.le a.γ (λo n1 n2=>a.kp λf=>f.elim n2 n1) (λb x e=>a.hk b x (λp=>(a.own b p).elim λo q=>(nomatch e.symm.trans (g.ok b o q.2).1)) (g.base b x e)) λb o e=>by
  by_cases p:P b
  .exact(a.own b p).elim λo' q=>⟨(g.ok b o' q.2).1,a.lv b o p e⟩
  .exact(g.ok b o ((a.hc b p).symm.trans e)).imp id λz=>z.imp λx z=>a.hk b x p z
end
section
variable{J:Om}{φ:Fm}{c c':Cf}{rs:List ER}{vs:List Value}{st:St}{ak:Nat->Value}{s:Shared}{h':Heap}{P:Addr->Prop}
theorem aF.alt(a:aF J φ c rs vs st s)(l:Alt c s.heap P c' h')(n:∀b,P b->Nw φ .other b/\Nw φ .env b)(tk:Nat):aF J φ c' rs vs st {s with heap:=h',toks:=tk}:=
 ⟨a.ok,⟨by rw[a.mv.se],a.mv.le.trans l.le,l.from (λb p=>(n b p).1) a.mv.ko⟩,l.from (λb p=>(n b p).2) a.ke,a.sh,a.gd.alt l⟩
theorem Sd.alt(a:Sd J φ c rs vs st ak s)(l:Alt c s.heap P c' h')(n:∀b,P b->c.ow b=some .other/\Nw φ .other b)(tk:Nat):Sd J φ c' rs vs st ak {s with heap:=h',toks:=tk}:=
 ⟨⟨a.ok.rm,a.ok.bQ.to (λb x e e'=>have q:¬P b:=λp=>(nomatch (Option.some.inj ((n b p).1.symm.trans e)));⟨(l.hc b q).trans e,l.hk b x q e'⟩) (λZ q=>q) rfl⟩,⟨by rw[a.mv.se],a.mv.le.trans l.le,l.from (λb p=>(n b p).2) a.mv.ko⟩,a.cE,a.gd.alt l⟩
theorem aF.nw(a:aF J φ c rs vs st s){b:Addr}(n:s.heap.get? b=none):Nw φ .other b/\Nw φ .env b:=
 ⟨λe=>match q:φ.s.heap.get? b with
  | none=>rfl
  | some x=>(nomatch n.symm.trans (a.mv.ko b x e q).2),λe=>match q:φ.s.heap.get? b with
  | none=>rfl
  | some x=>nomatch n.symm.trans (a.ke b x e q).2⟩
end
structure Iter(w:World)(A:Around)(aI:Expr)(ah:Addr)(Ps:List Addr)(as:List O)(ae:Cf->Heap->Nat->Prop):Prop where
 mono:∀{c c':Cf} {h h':Heap} {i:Nat},ae c h i->Le c h c' h'->(∀b∈Ps,∀o,h.get? b=some o->h'.get? b=some o)->ae c' h' i
 item:∀{i:Nat} {a:O} {c:Cf} {s:Shared} {E:Value->Shared->Prop} {P:Value->Shared->Prop},as[i]?=some a->Fr c s.heap->(∀b∈Ps,c.ow b=some .other)->ae c s.heap i->
  (∀v h' tk,VR w c h' a v->ae c h' (i+1)->(∀b o,b∉Ps->s.heap.get? b=some o->h'.get? b=some o)->(∀b∈Ps,∃o,h'.get? b=some o)->P v {s with heap:=h',toks:=tk})->
  wpAny (model aL w) A (pyNext (.ref ah)) (λr aJ=>∃v,r=some v/\wpAny (model aL w) A (letOwnedTupleGo aI (.ref ah) v) (λZ aA=>P v aA) E aJ) E s
 done:∀{c:Cf} {s:Shared} {E:Value->Shared->Prop} {Q:Option Value->Shared->Prop},ae c s.heap as.length->(∀h' tk,(∀b o,b∉Ps->s.heap.get? b=some o->h'.get? b=some o)->Q none {s with heap:=h',toks:=tk})->wpAny (model aL w) A (pyNext (.ref ah)) Q E s
 self:∀{i:Nat} {c:Cf} {s:Shared} {E:Value->Shared->Prop} {Q:Value->Shared->Prop},ae c s.heap i->Q (.ref ah) s->wpAny (model aL w) A (pyIter (.ref ah)) Q E s
noncomputable def vA:List String:=["enumerate","zip","dict_itemiterator","dict_reverseitemiterator","odict_iterator","itertools.zip_longest","itertools.pairwise"]
set_option tactic.hygienic true in
theorem MZ{M:Model}{A:Around}{E:Value->Shared->Prop}{s:Shared}{aI:Expr}{ah:Addr}{v:Value}{o:Obj}{nm:String}{Q:Unit->Shared->Prop}(ho:s.heap.get? ah=some o)(hc:o.cls=.type nm)(hn:vA.contains nm=false)(h:Q () s) :
  wpAny M A (letOwnedTupleGo aI (.ref ah) v) Q E s:=by
 have key:∀a,wpAny M A (do
   let o ←load ah
   match o.cls,o.data with
   | .type n,.fields vs=>
    if ["enumerate","zip","dict_itemiterator","dict_reverseitemiterator","odict_iterator","itertools.zip_longest","itertools.pairwise"].contains n&&vs[0]?==some (rawInt a) then
     rule "for.unpacks-the-owned-tuple"
     updateField ah 0 .none
   | _,_=>pure ()) Q E s:=by
  intro a
  refine wpAny_bind (wpAny_load ho ?_)
  rw[hc]
  cases o.data<;>try exact wpAny_pure h
  rename_i vs
  have e:(["enumerate","zip","dict_itemiterator","dict_reverseitemiterator","odict_iterator","itertools.zip_longest","itertools.pairwise"].contains nm)=false:=hn
  show wpAny M A (if (["enumerate","zip","dict_itemiterator","dict_reverseitemiterator","odict_iterator","itertools.zip_longest","itertools.pairwise"].contains nm&&vs[0]?==some (rawInt a))=true then _ else _) Q E s
  rw[e,Bool.false_and,if_neg Bool.false_ne_true]
  exact wpAny_pure h
 unfold letOwnedTupleGo
 split
 .cases v<;>first | exact key _ | exact wpAny_pure h
 .cases v<;>first | exact key _ | exact wpAny_pure h
 .exact wpAny_pure h
section
variable{w:World}{A:Around}{E:Value->Shared->Prop}{aI:Expr}{as:List O}{P:Nat->Value->Prop}{St:Nat->Heap->Prop}{G:Cf->Heap->Prop}
theorem Iter.Sp{ah:Addr}{fp:List Addr}(W:Walks aL w A ah fp [ah] as.length P St)(mY:∀i h,St i h->∃o nm,h.get? ah=some o/\o.cls=.type nm/\vA.contains nm=false)
  (hG:∀{c c' h h'},G c h->Le c h c' h'->G c' h') (hP:∀{c h i v a},G c h->as[i]?=some a->P i v->VR w c h a v) :
  Iter w A aI ah [ah] as (λc h i=>St i h/\G c h/\∀b∈fp,b≠ah->c.ow b=none/\∃o,h.get? b=some o) where
 mono:=λ{c c' h h' i} j L hk=>by
  refine⟨W.frame i h h' j.1 λb I o e=>?_,hG j.2.1 L,λb I bE=>(j.2.2 b I bE).2.elim λo e=>⟨(L.k b o (j.2.2 b I bE).1 e).1,o,(L.k b o (j.2.2 b I bE).1 e).2⟩⟩
  by_cases q:b=ah
  .exact hk b (q▸List.mem_singleton_self _) o e
  .exact(L.k b o (j.2.2 b I q).1 e).2
 item:=λ{i a c s E Pp} ha Z hI j h=>W.item i s _ _ (cu ha) j.1 λv h' tk hp st' hk=>⟨v,rfl,by
  have L:Le c s.heap c h':=⟨λZ Z e=>e,λb o e e'=>⟨e,hk b o (λq=>nomatch (hI b q).symm.trans e) e'⟩⟩
  refine(mY (i+1) h' st').elim λo z=>z.elim λnm z=>MZ (s:={s with heap:=h',toks:=tk}) z.1 z.2.1 z.2.2 (h v h' tk (hP (hG j.2.1 L) ha hp) ⟨st',hG j.2.1 L,λb I bE=>⟨(j.2.2 b I bE).1,(j.2.2 b I bE).2.imp λo e=>(L.k b o (j.2.2 b I bE).1 e).2⟩⟩ hk λb I=>⟨o,List.mem_singleton.mp I▸z.1⟩)⟩
 done:=λ{c s E Q} j h=>W.done s _ _ j.1 λh' tk hk=>h h' tk hk
 self:=λ{i c s E Q} j h=>W.self i s Q E j.1 h
variable{c:Cf}{s:Shared}{Q:Value->Shared->Prop}
theorem Td(o:Obj)(n:Option Ow):Le c s.heap (c.set s.heap.objs.size n) (s.heap.push o):=(Le.set (dF _)).trans (Sub.push _ _).le
def qp(w:World)(A:Around)(aI:Expr)(as:List O)(c:Cf)(s:Shared)(Q:Value->Shared->Prop):Prop:=∀(o:Obj) ae,(s.heap.push o).get? s.heap.objs.size=some o->Iter w A aI s.heap.objs.size [s.heap.objs.size] as ae->ae (c.set s.heap.objs.size (some .other)) (s.heap.push o) 0->Q (.ref s.heap.objs.size) {s with heap:=s.heap.push o}
theorem lr{fp:List Addr}{o:Obj}(h:qp w A aI as c s Q)(ho:(s.heap.push o).get? s.heap.objs.size=some o)(W:Walks aL w A s.heap.objs.size fp [s.heap.objs.size] as.length P St)(mY:∀i h,St i h->∃o nm,h.get? s.heap.objs.size=some o/\o.cls=.type nm/\vA.contains nm=false)
  (hG:∀{c c' h h'},G c h->Le c h c' h'->G c' h') (hP:∀{c h i v a},G c h->as[i]?=some a->P i v->VR w c h a v) (s0:St 0 (s.heap.push o)) (g0:G c s.heap) (hf:∀b∈fp,b≠s.heap.objs.size->c.ow b=none/\∃o,s.heap.get? b=some o):Q (.ref s.heap.objs.size) {s with heap:=s.heap.push o}:=
 h o _ ho (Iter.Sp W mY hG hP) ⟨s0,hG g0 (Td o _),λb I bE=>⟨(if_neg bE).trans (hf b I bE).1,(hf b I bE).2.imp λx e=>Sub.push _ _ b x e⟩⟩
theorem bC.wM:∀{es:List (Key×O)} {ds:List DictEntry},bC w c s.heap es ds->∀(i:Nat) k a,es[i]?=some (k,a)->(∃u,(dh es ds)[i]?=some (k,u))/\iq k
 | [],_,_,i,k,a,e=>nomatch e
 | p::r,l,x,i,k,a,ei=>bC.cons (P:=λl=>(∃u,(dh (_::_) l)[i]?=some (k,u))/\iq k) x λe q hk Z xr=>match i,ei with
  | 0,ei=>⟨⟨e.val,congrArg (λp:Key×O=>some (p.1,e.val)) (Option.some.inj ei)⟩,match k,(congrArg Prod.fst (Option.some.inj ei):p.1=k)▸hk with
   | .i _,_=>trivial
   | .s _,hk=>hk.2.2⟩
  | i+1,ei=>bC.wM xr i k a ei
theorem zi{h:Heap}{k:Key}{v:Value}(e:lz k v=true)(Y:iq k):VR w c h (fJ k) v:=match k,e,Y with
 | .i n,e,_=>e9 e
 | .s x,e,Y=>⟨Y,fb e⟩
theorem sD{ah:Addr}{p:Addr->Prop}:∀b∈[ah],b≠ah->p b:=λb I n=>absurd (List.mem_singleton.mp I) n
theorem yM{ah l:Addr}{p:Addr->Prop}(h:p l):∀b∈[ah,l],b≠ah->p b:=λb I n=>(List.mem_cons.mp I).elim (λe=>absurd e n) λI=>List.mem_singleton.mp I▸h
theorem me{ah:Addr}{fp wr:List Addr}{n m:Nat}(W:Walks aL w A ah fp wr n P St)(e:n=m):Walks aL w A ah fp wr m P St:=e▸W
theorem Th(hh:A.handled=none){av:O}{v:Value}(e:nh av=some as)(x:VR w c s.heap av v)(h:qp w A aI as c s Q):wpAny (model aL w) A (pyIter v) Q E s:=by
 cases av with
 | tup vs=>
  refine x.2.elim λl x=>x.elim λit x=>x.elim λm x=>x.1▸?_
  obtain⟨_,hx,ho,hv⟩:=x
  have e:=Option.some.inj e
  subst e
  have W:=Walks.tuple (prog:=aL) (w:=w) hh s.heap.objs.size l (Nat.ne_of_lt (Heap.lt_size ho)) it
  have W:=me W hv.size
  exact wpAny_pyIter_tuple ⟨_,ho,rfl,m,rfl⟩ (lr h (Heap.get?_push_size _ rfl) W (λi h st=>st.1.elim λo q=>⟨o,_,q.1,q.2.1,by decide⟩) (G:=λc h=>aq w c h vs it.toList) (λg L=>aq.le L _ g) (λ{c h i v a} g ha hp=>g.get.2 i a v ha (Array.getElem?_toList.trans hp))
   ⟨⟨_,Heap.get?_push_size _ rfl,rfl,rfl⟩,⟨_,Heap.get?_push_of_some _ ho,rfl,m,rfl⟩⟩ hv (yM ⟨hx,_,ho⟩))
 | ao k=>
  refine x.elim λl x=>x.1▸?_
  cases k with
  | list vs=>
   obtain⟨_,hx,_,it,m,ho,hv⟩:=x
   have e:=Option.some.inj e
   subst e
   have W:=Walks.list (prog:=aL) (w:=w) hh s.heap.objs.size l (Nat.ne_of_lt (Heap.lt_size ho)) it
   have W:=me W hv.size
   exact wpAny_pyIter_list ⟨_,ho,rfl,m,rfl⟩ (lr h (Heap.get?_push_size _ rfl) W (λi h st=>st.1.elim λo q=>⟨o,_,q.1,q.2.1,by decide⟩) (G:=λc h=>aq w c h vs it.toList) (λg L=>aq.le L _ g) (λ{c h i v a} g ha hp=>g.get.2 i a v ha (Array.getElem?_toList.trans hp))
    ⟨⟨_,Heap.get?_push_size _ rfl,rfl,rfl⟩,⟨_,Heap.get?_push_of_some _ ho,rfl,m,rfl⟩⟩ hv (yM ⟨hx,_,ho⟩))
  | dict es=>
   obtain⟨_,hx,hs,_,hn,it,m,ho,hv⟩:=x
   have e:=Option.some.inj e
   subst e
   refine(eP (prog:=aL) ho hn hv).dictAt.elim λep D=>?_
   have W:=Walks.dictKeys (knd:=keyKind aL w) hh s.heap.objs.size l (Nat.ne_of_lt (Heap.lt_size ho)) (dh es it.toList) ep
   have W:=me W ((iB hv).trans (List.length_map (λe:Key×O=>fJ e.1)).symm)
   refine wpAny_pyIter_dict hs D (lr h (Heap.get?_push_size _ rfl) W (λi h st=>st.1.elim λo q=>⟨o,_,q.1,q.2.1,by decide⟩) (G:=λZ Z=>True) (λZ Z=>trivial) (λ{c h i v a} g ha hp=>hp.elim λk hp=>hp.elim λu hp=>?_)
    ⟨⟨_,Heap.get?_push_size _ rfl,rfl,rfl⟩,D.at' λo e=>Heap.get?_push_of_some _ e⟩ trivial (yM ⟨hx,_,ho⟩))
   rw[List.getElem?_map] at ha
   refine(Option.map_eq_some_iff.mp ha).elim λe q=>q.2▸?_
   have z:=hv.wM i e.1 e.2 q.1
   refine z.1.elim λu' hu=>?_
   have ek:e.1=k:=congrArg Prod.fst (Option.some.inj (hu.symm.trans hp.1))
   exact zi (ek.symm▸hp.2) z.2
  | inst _ _=>cases e
 | bytes b=>
  refine x.2.elim λt ex=>ex▸?_
  have e:=Option.some.inj e
  subst e
  have W:=KBw.walks (prog:=aL) (w:=w) hh s.heap.objs.size b.toArray t
  have W:=me W (List.size_toArray.trans (List.length_map (λx:UInt8=>O.int x.toNat)).symm)
  refine KBw.pyIter_bytes (lr h (Heap.get?_push_size _ rfl) W (λi h st=>st.elim λo q=>⟨o,_,q.1,q.2.1,by decide⟩) (G:=λZ Z=>True) (λZ Z=>trivial) (λ{c h i v a} g ha hp=>hp.elim λx hp=>hp.elim λu hp=>?_) ⟨_,Heap.get?_push_size _ rfl,rfl,rfl⟩ trivial sD)
  rw[List.getElem?_map] at ha
  refine(Option.map_eq_some_iff.mp ha).elim λy q=>q.2▸⟨u,?_⟩
  have:x=y:=Option.some.inj ((List.getElem?_toArray.symm.trans hp.1).symm.trans q.1)
  exact this▸hp.2
 | str y=>
  refine x.2.elim λt ex=>ex▸?_
  have e:=Option.some.inj e
  have hP:∀{c:Cf} {h:Heap} {i v a},as[i]?=some a->SignAt y i v->VR w c h a v:=λ{c h i v a} ha hp=>hp.elim λn hp=>hp.elim λu hp=>by
   rw[←e,List.getElem?_map] at ha
   refine(Option.map_eq_some_iff.mp ha).elim λn' q=>q.2▸⟨wV,u,?_⟩
   have:n=n':=Option.some.inj ((Array.getElem?_toList.trans hp.1).symm.trans q.1)
   exact this▸hp.2
  have z:y.cps.size=as.length:=by rw[←e,List.length_map,Array.length_toList]
  cases ha:y.cps.all (·<128)
  .have W:=Walks.strWide (prog:=aL) (w:=w) hh s.heap.objs.size y t
   have W:=me W z
   exact wpAny_pyIter_wide ha (lr h (Heap.get?_push_size _ rfl) W (λi h st=>st.elim λo q=>⟨o,_,q.1,q.2.1,by decide⟩) (G:=λZ Z=>True) (λZ Z=>trivial) (λg ha hp=>hP ha hp) ⟨_,Heap.get?_push_size _ rfl,rfl,rfl⟩ trivial sD)
  .have W:=Walks.strAscii (prog:=aL) (w:=w) hh s.heap.objs.size y t
   have W:=me W z
   exact wpAny_pyIter_ascii ha (lr h (Heap.get?_push_size _ rfl) W (λi h st=>st.elim λo q=>⟨o,_,q.1,q.2.1,by decide⟩) (G:=λZ Z=>True) (λZ Z=>trivial) (λg ha hp=>hP ha hp) ⟨_,Heap.get?_push_size _ rfl,rfl,rfl⟩ trivial sD)
 | _=>cases e
end
noncomputable def iU:Expr->Bool
 | .Set ..=>true
 | _=>false
theorem w9{x:Expr}(h:iU x=false)(env:Env)(v:Value):foldedSetIterable x env v=pure v:=by
 cases x<;>first | rfl | cases h
structure gu(J:Om)(it:MI)(aI x:Expr):Prop where
 run:∀{φ:Fm} {rs:List ER} {vs:List Value} {st:St} {s:Shared} {K:List O->St->Prop} {Q:Value->Shared->Prop},At J φ rs vs st s->wI tab (F J.k) it st K->
  (∀as st' c ah Ps ae s',K as st'->aF J φ c rs vs st' s'->(∀b∈Ps,c.ow b=some .other/\Nw φ .other b/\Nw φ .env b)->Iter J.w φ.A aI ah Ps as ae->ae c s'.heap 0->Q (.ref ah) s')->
  wpAny J.M φ.A (eval x φ.env) (λxv aJ=>wpAny J.M φ.A (pyIter xv) Q φ.E aJ) φ.E s
section
variable{J:Om}{φ:Fm}{c:Cf}{rs:List ER}{vs:List Value}{st:St}{s:Shared}{e a b:ME}{x aI dK jG:Expr}{p pos:Pos}{nm:Str}
theorem aF.wK(A:aF J φ c rs vs st s){as:List O}{K:List O->St->Prop}{Q:Value->Shared->Prop}(k:K as st)(q:∀as st' c ah Ps ae s',K as st'->aF J φ c rs vs st' s'->(∀b∈Ps,c.ow b=some .other/\Nw φ .other b/\Nw φ .env b)->Iter J.w φ.A aI ah Ps as ae->ae c s'.heap 0->Q (.ref ah) s'):qp J.w φ.A aI as c s Q:=
 λo ae ho it j=>q as st _ _ _ ae _ k (A.new (Sub.push _ o) s.toks (dF _) ⟨o,ho⟩) (λb I=>(List.mem_singleton.mp I).symm▸⟨if_pos rfl,A.nw (dF s.heap)⟩) it j
theorem Vm(h:aB J e x):gu J (.of e) aI x:=
 ⟨λP e q=>h.e.run P e λr st' v s' e P=>P.last e λa df e P=>aM e λl Y k=>P.elim λc A=>Th A.ok.rm.1 Y A.hd (A.pop.wK k q)⟩
theorem Gk{w:World}{A:Around}{E:Value->Shared->Prop}{r:Addr}{a b:Int}{t u v:Tok}{Q:Value->Shared->Prop}(hh:A.handled=none)(ha:small a=true)(I:small b=true)(hr:IsRange s.heap r a b 1 t u v)
  (h:qp w A aI ((List.range (b - a).toNat).map λ(k:Nat)=>O.int (a+(k:Int))) c s Q):wpAny (model aL w) A (pyIter (.ref r)) Q E s:=by
 have ha:a.natAbs<2 ^ 62:=of_decide_eq_true ha
 have I:b.natAbs<2 ^ 62:=of_decide_eq_true I
 have lg:Builtin.Range.rangeSize a b 1=(((b - a).toNat:Nat):Int):=by
  rw[rangeSize_one];split<;>lia
 refine wpAny_pyIter_range hr (small_one (by lia) (by lia) (by lia) (by lia)) (lr h (Heap.get?_push_size _ rfl) (me (Walks.range (prog:=aL) (w:=w) hh s.heap.objs.size a 1 (b - a).toNat) (by rw[List.length_map,List.length_range])) (λi h st=>⟨_,_,st,rfl,by decide⟩) (G:=λZ Z=>True) (λZ Z=>trivial) (λ{c h i v av} Z hi hp=>hp.elim λt ev=>?_) ?_ trivial sD)
 .rw[List.getElem?_map] at hi
  refine(Option.map_eq_some_iff.mp hi).elim λy q=>q.2▸⟨t,?_⟩
  have hy:=cu q.1
  rw[List.length_range] at hy
  rw[ev,←Option.some.inj ((List.getElem?_range hy).symm.trans q.1),Int.mul_one]
 .show IsRangeIter _ _ (a+((0:Nat):Int)*1) (((b - a).toNat:Int) - ((0:Nat):Int)) 1
  rw[Int.mul_one,show a+((0:Nat):Int)=a from Int.add_zero a,show(((b - a).toNat:Nat):Int) - ((0:Nat):Int)=Builtin.Range.rangeSize a b 1 from(Int.sub_zero _).trans lg.symm]
  exact Heap.get?_push_size _ rfl
theorem aF.nP(A:aF J φ c rs vs st s)(o:Obj)(tk:Nat):aF J φ c rs vs st {s with heap:=s.heap.push o,toks:=tk}:=A.grow (Sub.push _ o) tk
theorem Vn(W:Wd J.w J.B)(N:fB J.D J.B nm (.type "range"))(ha:aB J a dK)(hn:notStar dK=true):gu J (.eF a) aI (.Call (.Name nm p) [dK] [] pos):=
 ⟨λ{φ rs vs st s K Q} P e q=>Call_ (P.iH W N (jx N.f (congrArg (·&&true) hn) (wpAny_items_cons (ha.e.run P e λr st' v s' e P=>aM e λn hv e=>aM e λl Y k=>P.elim λc A=>wpAny_items_nil (by
  refine mz A.gd A.hd hv (P:=λv=>wpAny _ _ (call (.type "range") [v]) _ _ _) λt=>call_range_1 ?_
  have p:=bh (c:=(small n&&decide (n<=ax))=true) Y
  refine Gk (aI:=aI) A.ok.rm.1 (by decide) (Bool.and_eq_true_iff.mp p.1).1 (IsRange.new _ _ _ _ _ _ _) ((A.pop.nP _ _).wK (as:=(List.range (n - 0).toNat).map λ(k:Nat)=>O.int (0+(k:Int))) ?_ q)
  rw[Int.sub_zero,show(λ(k:Nat)=>O.int (0+(k:Int)))=λ(k:Nat)=>O.int (k:Int) from funext λk=>by rw[Int.zero_add]]
  exact Option.some.inj p.2▸k)) (gV hn _ φ.env))))⟩
theorem Vo(W:Wd J.w J.B)(N:fB J.D J.B nm (.type "range"))(ha:aB J a dK)(I:aB J b jG)(hn:notStar dK=true)(iO:notStar jG=true):gu J (.xK a b) aI (.Call (.Name nm p) [dK,jG] [] pos):=
 ⟨λ{φ rs vs st s K Q} P e q=>Call_ (P.iH W N (jx N.f ((congr (congrArg and hn) (congrArg (·&&true) iO)):_) (wpAny_items_cons (ha.e.run P e λr st' v s' e P=>wpAny_items_cons (I.e.run P e λr₂ df IL aA e P=>aM e λn hv e=>aM e λm hw e=>aM e λl Y k=>P.elim λc A=>wpAny_items_nil (by
  refine mz A.gd A.pop.hd hv (P:=λv=>wpAny _ _ (call (.type "range") [v,IL]) _ _ _) λt=>mz A.gd A.hd hw (P:=λu=>wpAny _ _ (call (.type "range") [.int n t,u]) _ _ _) λu=>call_range_2 ?_
  have p:=bh (c:=(small n&&small m&&decide (m - n<=ax))=true) Y
  have p1:=Bool.and_eq_true_iff.mp (Bool.and_eq_true_iff.mp p.1).1
  exact Gk (aI:=aI) A.ok.rm.1 p1.1 p1.2 (IsRange.new _ _ _ _ _ _ _) ((A.pop.pop.nP _ _).wK (Option.some.inj p.2▸k) q))) (gV iO _ φ.env)) (gV hn _ φ.env))))⟩
theorem Iter.enum{w:World}{A:Around}(hh:A.handled=none){elts:List Expr}{kk:Nat}{tp:Pos}{e it l:Addr}(C4:e≠it)(hle:l≠e)(NY:l≠it){vs:List O}{items:Array Value} :
  Iter w A (.Tuple elts kk tp) e [e,it] (vs.zipIdx.map λp=>O.tup [.int p.2,p.1])
   (λc h i=>((∃old,IsEnum h e it i old)/\h.IsListIter it l i/\h.IsList l items)/\aq w c h vs items.toList/\c.ow l=none) where
 mono:=λ{c c' h h' i} j L hk=>by
  obtain⟨⟨⟨old,he⟩,hit,Y⟩,hv,nx⟩:=j
  exact⟨⟨⟨old,hk e (.head _) _ he⟩,hit.at λo x=>hk it (.tail _ (.head _)) o x,Y.at λo x=>(L.k l o nx x).2⟩,aq.le L _ hv,Y.elim λo x=>(L.k l o nx x.1).1⟩
 item:=λ{i a c s E Pp} ha XL hI j h=>by
  obtain⟨⟨⟨old,he⟩,hit,Y⟩,hv,nx⟩:=j
  rw[List.getElem?_map] at ha
  refine(Option.map_eq_some_iff.mp ha).elim λpr hp=>?_
  have rR:=hp.1
  rw[List.getElem?_zipIdx] at rR
  refine(Option.map_eq_some_iff.mp rR).elim λav z=>?_
  have ea:O.tup [.int (i:Int),av]=a:=(show O.tup [.int ((0+i:Nat):Int),av]=O.tup [.int (i:Int),av] by rw[Nat.zero_add]).symm.trans ((congrArg (λp:O×Nat=>O.tup [.int p.2,p.1]) z.2).trans hp.2)
  have hx:=(hv.at z.1).choose_spec
  have oe:=hI e (.head _)
  have oi:=hI it (.tail _ (.head _))
  refine wpAny_pyNext_enum_item he hit Y hx.1 C4 λh' cH NP hT lg hk=>⟨_,rfl,?_⟩
  refine wpAny_letOwnedTupleGo_enum cH λgF C3 v9=>?_
  have ke:∀b o,b≠e->b≠it->s.heap.get? b=some o->gF.get? b=some o:=λb o n1 n2 q=>(v9.2 b n1).trans (hk b o n1 n2 q)
  have nT:s.heap.objs.size≠e:=Nat.ne_of_gt (Heap.lt_size he)
  have L:Le c s.heap c gF:=⟨λZ Z e=>e,λb o q q'=>⟨q,ke b o (λz=>nomatch (z▸oe).symm.trans q) (λz=>nomatch (z▸oi).symm.trans q) q'⟩⟩
  have dG:=aq.le L _ hv
  have Dj:=NP.at λo x=>(v9.2 it C4.symm).trans x
  refine(ea.symm▸h) _ gF _ ⟨show 2<=ax by decide,_,_,0,rfl,XL _ (dF _),(v9.2 _ nT).trans hT,aq.mk ⟨_,rfl⟩ (.mk (VR.le L _ hx.2) rfl)⟩ ⟨⟨⟨_,C3⟩,Dj,Y.at λo x=>ke l o hle NY x⟩,dG,nx⟩ (λb o nb q=>ke b o (λz=>nb (List.mem_cons.mpr (.inl z))) (λz=>nb (List.mem_cons.mpr (.inr (List.mem_singleton.mpr z)))) q) λb I=>?_
  rcases List.mem_cons.mp I with z | I
  .exact z▸⟨_,C3⟩
  .rw[List.mem_singleton.mp I]
   exact Dj.elim λo q=>⟨o,q.1⟩
 done:=λ{c s E Q} j h=>by
  obtain⟨⟨⟨old,he⟩,hit,Y⟩,hv,nx⟩:=j
  rw[List.length_map,List.length_zipIdx] at he hit
  exact wpAny_pyNext_enum_end hh he hit Y (Array.getElem?_eq_none (Nat.le_of_eq hv.size)) λh' hx=>h h' s.toks λb o I y=>hx b o (λe'=>I (List.mem_cons.mpr (.inr (List.mem_singleton.mpr e')))) y
 self:=λ{i c s E Q} j h=>j.1.1.elim λold he=>wpAny_pyIter_enum he h
theorem Vl{elts:List Expr}{kk:Nat}{tp:Pos}(W:Wd J.w J.B)(N:fB J.D J.B nm (.type "enumerate"))(ha:aB J a dK)(hn:notStar dK=true):gu J (.enum a) (.Tuple elts kk tp) (.Call (.Name nm p) [dK] [] pos):=
 ⟨λ{φ rs vs st s K Q} P e q=>Call_ (P.iH W N (jx N.f (congrArg (·&&true) hn) (wpAny_items_cons (ha.e.run P e λr st' v s' e P=>P.last e λav df e P=>aM e λas Y k=>P.elim λc A=>wpAny_items_nil (by
  refine(sY Y).elim λgm z=>?_
  have hd:=A.hd
  have hd:VR J.w c s'.heap (.ao (.list gm)) v:=z.1▸hd
  refine hd.elim λl x=>x.1▸?_
  obtain⟨_,nx,_,it,n,ho,hv⟩:=x
  have lI:=Heap.lt_size ho
  have s1:l≠s'.heap.objs.size+1:=Nat.ne_of_lt (Nat.lt_succ_of_lt lI)
  have s2:l≠s'.heap.objs.size:=Nat.ne_of_lt lI
  refine call_enumerate_list (l:=l) (items:=it) ⟨_,ho,rfl,n,rfl⟩ λh' he hit lg hk=>wpAny_pyIter_enum (s:={s' with heap:=h'}) he ?_
  have oi:∃o,h'.get? s'.heap.objs.size=some o:=hit.elim λo q=>⟨o,q.1⟩
  have f2:s'.heap.get? (s'.heap.objs.size+1)=none:=Heap.get?_none_of_le (Nat.le_succ _)
  have own:∀b∈[s'.heap.objs.size+1,s'.heap.objs.size],s'.heap.get? b=none/\∃o,h'.get? b=some o:=λb I=>(List.mem_cons.mp I).elim (λz=>z▸⟨f2,_,he⟩) λI=>List.mem_singleton.mp I▸⟨dF _,oi⟩
  have A1:=A.pop.w8 (h':=h') (c':=⟨c.γ,λb=>if b∈[s'.heap.objs.size+1,s'.heap.objs.size] then some .other else c.ow b⟩) hk s'.toks rfl (λb x e=>if_neg λm=>nomatch (own b m).1.symm.trans e) λb o z e=>by
   by_cases m:b∈[s'.heap.objs.size+1,s'.heap.objs.size]
   .exact(own b m).2
   .exact nomatch (A.gd.fr b z).symm.trans ((if_neg m).symm.trans e)
  have nl:l∉[s'.heap.objs.size+1,s'.heap.objs.size]:=λm=>(List.mem_cons.mp m).elim s1 λm=>s2 (List.mem_singleton.mp m)
  have L:Le c s'.heap ⟨c.γ,λb=>if b∈[s'.heap.objs.size+1,s'.heap.objs.size] then some .other else c.ow b⟩ h':=⟨λZ Z e=>e,λb x e e'=>⟨(if_neg λm=>nomatch (own b m).1.symm.trans e').trans e,hk b x e'⟩⟩
  exact q as df _ _ [s'.heap.objs.size+1,s'.heap.objs.size] _ _ k A1 (λb m=>⟨if_pos m,A.nw (own b m).1⟩) (Option.some.inj z.2▸Iter.enum (items:=it) A.ok.rm.1 (Nat.succ_ne_self _) s1 s2) ⟨⟨⟨_,he⟩,hit,⟨_,hk _ _ ho,rfl,n,rfl⟩⟩,aq.le L _ hv,(if_neg nl).trans nx⟩)) (gV hn _ φ.env))))⟩
end
end Mine.Internal
namespace Mine.Internal
open PySem PySem.Calls PyProof.Rows PySem.W
section
variable{J:Om}{φ:Fm}{c c':Cf}{rs:List ER}{vs:List Value}{st st':St}{ak aR:Nat->Value}{s s':Shared}
theorem Sd.base(a:Sd J φ c [] [] st ak s):Sd J (φ.to c st ak s) c [] [] st ak s:=⟨a.ok,.refl _ _,(Shape.refl _).cE _,a.gd⟩
theorem Sd.push(a:Sd J φ c [] [] st ak s){x:O}{v:Value}(y:VR J.w c s.heap x v):Sd J φ c [.val x] [v] st ak s:=⟨a.ok,a.mv,a.cE,{a.gd with bw:=aZ.mk (r:=.val x) (rs:=[]) (vs:=[]) y rfl}⟩
theorem Nw.of{b:Addr}(a:Mv φ.c φ.s c s)(n:c.ow b=some .other->s.heap.get? b=none):Nw φ .other b:=λe=>match q:φ.s.heap.get? b with
 | none=>rfl
 | some x=>nomatch (n (a.ko b x e q).1).symm.trans (a.ko b x e q).2
noncomputable def Cf.nS(c:Cf)(Ps:List Addr):Cf:=⟨c.γ,λb=>if b∈Ps then none else c.ow b⟩
theorem Alt.nS{h h':Heap}{Ps:List Addr}(o:∀b∈Ps,∃o,kq o/\c.ow b=some o)(hk:∀b o,b∉Ps->h.get? b=some o->h'.get? b=some o):Alt c h (·∈Ps) (c.nS Ps) h':=
 ⟨rfl,o,hk,λb n=>if_neg n,λb o p e=>nomatch (show(c.nS Ps).ow b=none from if_pos p).symm.trans e⟩
theorem Alt.same{h h':Heap}{Ps:List Addr}(o:∀b∈Ps,∃o,kq o/\c.ow b=some o)(hk:∀b o,b∉Ps->h.get? b=some o->h'.get? b=some o)(Y:∀b∈Ps,∃o,h'.get? b=some o):Alt c h (·∈Ps) c h':=
 ⟨rfl,o,hk,λZ Z=>rfl,λb o p Z=>Y b p⟩
variable{n:Nat}{t:MT}{it:MI}{b:bj}{xt x:Expr}{xb:List Stmt}{pos:Pos}
structure FI(J:Om)(φ:Fm)(Ps:List Addr)(ae:Cf->Heap->Nat->Prop)(W:List O->St->Prop)(as:List O)(i:Nat)(c:Cf)(st:St)(ak:Nat->Value)(s:Shared):Prop where
 le:i<=as.length
 a:Sd J φ c [] [] st ak s
 ps:∀b∈Ps,c.ow b=some .other/\Nw φ .other b
 j:ae c s.heap i
 e:W (as.drop i) st
theorem Vz(ht:g5 J t xt)(hi:gu J it xt x)(I:dJ J 0 b xb)(hs:iU x=false):cX J n (.for t it b) (.For xt x xb [] pos):=
 ⟨λ{φ c st ak s K Q} Z a e q r=>wpAny_For (hi.run (φ:=φ.to c st ak s) a.at e λas dz c₁ ah Ps ae aA k A ps bG j=>by
  have k:di (λx=>cM tab (F J.k) t (.val x)) (wSs tab (F J.k) b) as dz K:=I9 k
  refine codeAny_forLoop_any (λn s'=>∃i c' st' aR,n=as.length+1 - i/\FI J φ Ps ae (λl st=>di (λx=>cM tab (F J.k) t (.val x)) (wSs tab (F J.k) b) l st K) as i c' st' aR s') (λn s' z=>uU z λi c' st' aR z=>?_) (as.length+1)
   ⟨0,c₁,dz,ak,rfl,Nat.zero_le _,a.of A,λb I=>⟨(ps b I).1,.of a.mv (ps b I).2.1⟩,j,k⟩
  obtain⟨hn,f⟩:=z
  have own:∀b∈Ps,∃o,kq o/\c'.ow b=some o:=λb I=>⟨_,.inl rfl,(f.ps b I).1⟩
  by_cases bD:i<as.length
  .have e:=f.e
   rw[List.drop_eq_getElem_cons bD] at e
   refine wpAny_mono (bG.item (i:=i) (a:=as[i]) (P:=λv aA=>VR J.w c' aA.heap as[i] v/\ae c' aA.heap (i+1)/\Sd J φ c' [] [] st' aR aA/\∀b∈Ps,∃o,aA.heap.get? b=some o) (List.getElem?_eq_getElem bD) f.a.gd.fr (λb I=>(f.ps b I).1) f.j
    (λv h' eM xv j' hk Y=>⟨xv,j',f.a.alt (.same own hk Y) f.ps eM,Y⟩)) (λr' aJ h=>h.elim λv h=>h.1▸wpAny_mono h.2 (λZ aJ h=>?_) λZ Z y=>y) λZ Z y=>y
   have ud:=h.2.2.1
   refine ht.run (φ:={φ.to c' st' aR aJ with E:=_}) nF ((ud.base.push h.1).kj _) e λc₂ df AO aA e er=>?_
   refine I.run (Nat.zero_le _) er e (λkR tA uI cU e qB=>⟨as.length+1 - (i+1),uJ hn bD,i+1,kR,tA,uI,rfl,bD,ud.sub (qB.kj φ.E),λb I=>⟨(h.2.2.2 b I).elim λo z=>(qB.mv.ko b o (f.ps b I).1 z).1,(f.ps b I).2⟩,
    bG.mono h.2.1 qB.mv.le λb I o z=>(qB.mv.ko b o (f.ps b I).1 z).2,e⟩) λr' v c' st' aR s' k a=>r _ _ _ _ _ _ k (ud.sub (a.kj φ.E))
  .have gJ:i=as.length:=Nat.le_antisymm f.le (Nat.not_lt.mp bD)
   have e:=f.e
   rw[gJ,List.drop_length] at e
   exact bG.done (gJ▸f.j) λh' eM hk=>wpAny_execs_nil (q _ _ _ _ e (f.a.alt (.nS own hk) f.ps eM))) (w9 hs φ.env)⟩
end
noncomputable def mK:Nat->Nat->bI
 | _,0=>.nil
 | j,n+1=>.cons (.ay j) (mK (j+1) n)
noncomputable def nameOf:Expr->Option Str
 | .Name x _=>some x
 | _=>none
noncomputable def namesOf:List Expr->Option (List Str)
 | []=>some []
 | x::r=>qO (nameOf x) (namesOf r)
theorem RU{x:Expr}{n:Str}(e:nameOf x=some n):∃p,x=.Name n p:=by
 cases x<;>first | exact⟨_,congrArg (λn=>Expr.Name n _) (Option.some.inj e)⟩ | cases e
theorem Hh{pre:List O}{n:Nat}{σ:List (Option VS)}{lk:List Bool}{κ:List (List (Option O))}{H:HH}{v:O}{K:St->Prop}(h:yf pre.length v ⟨σ,lk,(pre.map some++List.replicate (n+1) none)::κ,H⟩ K):K ⟨σ,lk,((pre++[v]).map some++List.replicate n none)::κ,H⟩:=
 ef h (λZ h=>by
  have h:=jb _ _ _ h
  rw[List.set_append_right _ _ (by rw[List.length_map];exact Nat.le_refl _),List.length_map,Nat.sub_self,List.replicate_succ,List.set_cons_zero] at h
  rw[List.map_append,List.append_assoc]
  exact h) λZ h=>h.elim
theorem IM{σ:List (Option VS)}{lk:List Bool}{κ:List (List (Option O))}{H:HH}{K:St->Prop}:∀{n:Nat} {pre vs:List O},ql (mK pre.length n) vs ⟨σ,lk,(pre.map some++List.replicate n none)::κ,H⟩ K->vs.length=n/\K ⟨σ,lk,(pre++vs).map some::κ,H⟩
 | 0,pre,[],e=>⟨rfl,by
  rw[List.append_nil]
  have e:K ⟨σ,lk,(pre.map some++[])::κ,H⟩:=e
  rw[List.append_nil] at e
  exact e⟩
 | 0,_,_::_,e=>e.elim
 | _+1,_,[],e=>e.elim
 | n+1,pre,v::vs,e=>by
  have e:ql (mK (pre.length+1) n) vs ⟨σ,lk,((pre++[v]).map some++List.replicate n none)::κ,H⟩ K:=Hh (K:=λst=>ql (mK (pre.length+1) n) vs st K) e
  have:=IM (pre:=pre++[v]) (n:=n) (vs:=vs) (by rw[List.length_append];exact e)
  rw[List.append_assoc] at this
  exact⟨congrArg Nat.succ this.1,this.2⟩
section
variable{w:World}{A:Around}{s:Shared}
theorem zF{cenv:Env}{E:Value->Shared->Prop}(hk:cenv.scope.kind=.function):∀{xs:List Expr} {ns:List Str} {vals:List Value} {s:Shared} {m:Str->Option Value} {Q:Unit->Shared->Prop},namesOf xs=some ns->ns.length=vals.length->ns.Nodup->(∀y∈ns,cenv.kindOf y=some .local)->
  s.heap.Ns cenv.locals m->(∀h' tk m',h'.Ns cenv.locals m'->Heap.SameBut cenv.locals s.heap h'->(∀(i:Nat) y,ns[i]?=some y->m' y=vals[i]?)->(∀y,y∉ns->m' y=m y)->Q () {s with heap:=h',toks:=tk})->
  wpAny (model aL w) A (assignInOrder ((assignEach xs cenv).map (·.2)) vals) Q E s
 | [],ns,vals,s,m,Q,e,Y,hn,gK,hm,hq=>by
  have e:=Option.some.inj e
  subst e
  cases vals with
  | nil=>exact wpAny_assignInOrder_none (hq s.heap s.toks m hm (.refl ..) (λi y q=>nomatch q) λZ Z=>rfl)
  | cons v r=>cases Y
 | x::xs,ns,vals,s,m,Q,e,Y,hn,gK,hm,hq=>(AK e).elim λa z=>z.elim λl z=>(RU z.1).elim λp ex=>by
  obtain⟨_,z2,z3⟩:=z
  subst z3 ex
  cases vals with
  | nil=>cases Y
  | cons v vals=>
   have hn:=List.nodup_cons.mp hn
   refine wpAny_assignInOrder_more (wpAny_assign_Name (wpAny_storeName_local (gK _ (.head _)) hm (λaV vZ pj=>zF hk z2 (Nat.succ.inj Y) hn.2 (λz hz=>gK z (.tail _ hz)) vZ λh' tk m' vY pf h1 h2=>hq h' tk m' vY (pj.trans pf) (λi z q=>?_) λz hz=>?_) (by rw[hk];rfl)))
   .cases i with
    | zero=>rw[←Option.some.inj q,h2 _ hn.1];exact if_pos rfl
    | succ i=>exact h1 i z q
   .exact(h2 z λq=>hz (.tail _ q)).trans (if_neg λq=>hz (List.mem_cons.mpr (.inl q)))
end
structure kz(n:Nat)(t:MT)(aI:Expr)(fr:List Str):Prop where
 run:∀{w:World} {A:Around} {cenv:Env} {s:Shared} {m:Str->Option Value} {c:Cf} {x:O} {v:Value} {σ:List (Option VS)} {lk:List Bool} {κ:List (List (Option O))} {H:HH} {K:St->Prop} {E:Value->Shared->Prop} {Q:Unit->Shared->Prop},
  A.handled=none->cenv.scope.kind=.function->(∀y∈fr,cenv.kindOf y=some .local)->s.heap.Ns cenv.locals m->c.ow cenv.locals≠none->VR w c s.heap x v->wB t x ⟨σ,lk,List.replicate n none::κ,H⟩ K->
  (∀h' tk m' as vals,(∀b o,b≠cenv.locals->s.heap.get? b=some o->h'.get? b=some o)->h'.Ns cenv.locals m'->K ⟨σ,lk,as.map some::κ,H⟩->aq w c h' as vals->(∀(i:Nat) y,fr[i]?=some y->m' y=vals[i]?)->Q () {s with heap:=h',toks:=tk})->
  wpAny (model aL w) A (assign aI cenv v) Q E s
theorem uv{c:Cf}{h h':Heap}{C:Addr}(n:c.ow C≠none)(k:∀b o,b≠C->h.get? b=some o->h'.get? b=some o):Le c h c h':=⟨λZ Z e=>e,λb x e e'=>⟨e,k b x (λz=>n (z▸e)) e'⟩⟩
theorem Vd{y:Str}{p:Pos}:kz 1 (.ay 0) (.Name y p) [y]:=⟨λ{w A cenv s m c x v σ lk κ H K E Q} hh hk gK hm hX xv e hq=>
 have e:=Hh (pre:=[]) (n:=0) e
 wpAny_assign_Name (wpAny_storeName_local (gK _ (.head _)) hm (λaV vZ pj=>by
  have k:∀b o,b≠cenv.locals->s.heap.get? b=some o->aV.get? b=some o:=λb o n q=>(pj.2 b n).trans q
  refine hq aV _ _ [x] [v] k vZ e (.mk (VR.le (uv hX k) _ xv) rfl) λi z q=>?_
  cases i with
  | zero=>exact if_pos (Option.some.inj q).symm
  | succ i=>cases q) (by rw[hk];rfl))⟩
theorem Ve{xs:List Expr}{fr:List Str}{n:Nat}{j:Nat}{p:Pos}{ts:bI}(ht:ts=mK 0 n)(hx:namesOf xs=some fr)(hs:xs.all notStar=true)(hn:fr.length=n)(hZ:fr.Nodup)(Y:xs.length=n):kz n (.tup ts) (.Tuple xs j p) fr:=⟨λ{w A cenv s m c x v σ lk κ H K E Q} hh hk gK hm hX xv e hq=>by
 subst ht
 cases x with
 | tup vs=>
  have h1:=IM (pre:=[]) (n:=n) (vs:=vs) e
  refine xv.2.elim λa xv=>xv.elim λit xv=>xv.elim λnn xv=>xv.1▸?_
  obtain⟨_,YR,ho,hv⟩:=xv
  refine wpAny_assign_Tuple hh ⟨_,ho,rfl,nn,rfl⟩ ((kH hs).1.trans (Y.trans (h1.1.symm.trans hv.size.symm))) (kH hs).2 λh' he=>?_
  have sub:=ExtBut.sub he
  refine zF (s:={s with heap:=h'}) hk hx (hn.trans (h1.1.symm.trans hv.get.1)) hZ gK (hm.keeps sub) λia tk m' vY pf h3 h4=>?_
  have k:∀b o,b≠cenv.locals->s.heap.get? b=some o->ia.get? b=some o:=λb o n q=>(pf.2 b n).trans (sub b o q)
  exact hq ia tk m' vs it.toList k vY h1.2 (aq.le (uv hX k) _ hv) h3
 | _=>exact e.elim⟩
noncomputable def j5(sc:Scope)(n:Str)(k:NameKind):NameKind:=if (k==.free&&sc.kind==.function&&sc.names.lookup n==some .cell) then .cell else k
noncomputable def pZ(scope sc:Scope):Scope:={scope with names:=scope.names.map λ(n,k)=>if (k==.free&&sc.kind==.function&&sc.names.lookup n==some .cell) then(n,.cell) else(n,k)}
theorem PV(scope sc:Scope)(x:Str):(pZ scope sc).names.lookup x=(scope.names.lookup x).map (j5 sc x):=by
 unfold pZ
 dsimp only
 generalize scope.names=l
 induction l with
 | nil=>rfl
 | cons p r ih=>
  obtain⟨n,k⟩:=p
  have e1:(if (k==NameKind.free&&sc.kind==.function&&sc.names.lookup n==some .cell)=true then(n,NameKind.cell) else(n,k))=(n,j5 sc n k):=by
   unfold j5;split<;>rfl
  show List.lookup x ((if (k==NameKind.free&&sc.kind==.function&&sc.names.lookup n==some .cell)=true then(n,NameKind.cell) else(n,k))::_)=_
  rw[e1,List.lookup_cons,List.lookup_cons]
  cases q:x==n with
  | true=>rw[←eq_of_beq q];rfl
  | false=>exact ih
noncomputable def iK(D:au)(scope:Scope)(fr:List Str):au:=⟨pZ scope D.sc,D.sl,fr::D.kl⟩
structure gn(D:au)(scope:Scope)(fr:List Str):Prop where
 kind:scope.kind=.function
 free:∀y∈scope.names,y.2=.free->y.1∈D.sl/\y.1∉D.kl.flatten/\D.sc.names.lookup y.1=some .cell
 cell:∀y∈scope.names,y.2≠.cell
 names:∀y∈scope.names,y.2=.local->scope.names.lookup y.1=some .local
 nd:(scope.names.map (·.1)).Nodup
 own:∀x∈fr,scope.names.lookup x=some .local
 slots:∀x∈D.sl,x∉fr->scope.names.lookup x≠some .local
 outer:∀x∈D.kl.flatten,x∉fr->scope.names.lookup x≠some .local/\scope.names.lookup x≠some .free
noncomputable def cZ(env:Env):List (Str×NameKind)->List (Str×Addr)->List (Str×Addr)
 | [],acc=>acc
 | (n,k)::r,acc=>cZ env r (if k==.free then(n,(env.cells.lookup n).getD 0)::acc else acc)
theorem KA{scope:Scope}{env:Env}(h:∀y∈scope.names,y.2=.free->∃a,env.cells.lookup y.1=some a):closureFor scope env=pure (cZ env scope.names []):=by
 unfold closureFor
 have:∀(l:List (Str×NameKind)) (acc:List (Str×Addr)),(∀y∈l,y.2=.free->∃a,env.cells.lookup y.1=some a)->
   (forIn l acc λ(x:Str×NameKind) (r:List (Str×Addr))=>(if (x.2==NameKind.free)=true then do let a ←cellOf env x.1;pure (ForInStep.yield ((x.1,a)::r)) else pure (ForInStep.yield r):Sem (ForInStep (List (Str×Addr)))))=pure (cZ env l acc):=by
  intro l
  induction l with
  | nil=>intro acc _;rfl
  | cons p r ih=>
   intro acc Y
   obtain⟨n,k⟩:=p
   rw[List.forIn_cons,cZ]
   have hr:=λy hy=>Y y (.tail _ hy)
   dsimp only
   cases q:(k==NameKind.free) with
   | true=>
    refine(Y _ (.head _) (eq_of_beq q)).elim λa ha=>?_
    rw[if_pos rfl,if_pos rfl,show cellOf env n=pure a by unfold cellOf;rw[ha],ha]
    exact ih _ hr
   | false=>
    rw[if_neg Bool.false_ne_true,if_neg Bool.false_ne_true]
    exact ih _ hr
 have h2:=this scope.names [] h
 first
  | exact h2
  | (rw[bind_pure];exact h2)
  | (show(forIn _ _ _ >>= λx=>pure x)=_;rw[bind_pure];exact h2)
theorem lookup_mem{α β:Type}[BEq α][LawfulBEq α]:∀{l:List (α×β)} {x:α} {a:β},l.lookup x=some a->(x,a)∈l
 | [],x,a,h=>nomatch h
 | (y,b)::r,x,a,h=>by
  rw[List.lookup_cons] at h
  cases q:x==y with
  | true=>rw[q] at h;exact Option.some.inj h▸eq_of_beq q▸.head _
  | false=>rw[q] at h;exact .tail _ (lookup_mem h)
theorem mem_lookup{α β:Type}[BEq α][LawfulBEq α]:∀{l:List (α×β)} {x:α} {a:β},(x,a)∈l->∃b,l.lookup x=some b
 | [],x,a,h=>nomatch h
 | (y,b)::r,x,a,h=>by
  rw[List.lookup_cons]
  cases q:x==y with
  | true=>exact⟨b,rfl⟩
  | false=>exact(List.mem_cons.mp h).elim (λh=>absurd (congrArg Prod.fst h) (ne_of_beq_false q)) mem_lookup
theorem uE{env:Env}:∀{l:List (Str×NameKind)} {acc:List (Str×Addr)},(∀y∈l,y.2=.free->∃a,env.cells.lookup y.1=some a)->(∀x a,(x,a)∈acc->env.cells.lookup x=some a)->
  (∀x a,(x,a)∈cZ env l acc->env.cells.lookup x=some a)/\(∀p∈acc,p∈cZ env l acc)/\∀x,(x,.free)∈l->∃a,(x,a)∈cZ env l acc
 | [],acc,_,ha=>⟨ha,λp h=>h,λx h=>(nomatch h)⟩
 | (n,k)::r,acc,Y,ha=>by
  have hr:=λy hy=>Y y (.tail _ hy)
  cases q:(k==NameKind.free) with
  | true=>
   have e:k=.free:=eq_of_beq q
   refine(Y _ (.head _) e).elim λa hn=>?_
   rw[cZ,q,if_pos rfl,show env.cells.lookup n=some a from hn]
   have ih:=uE (env:=env) (l:=r) (acc:=(n,a)::acc) hr λx b h=>(List.mem_cons.mp h).elim (λh=>(Prod.mk.inj h).1.symm▸(Prod.mk.inj h).2.symm▸hn) (ha x b)
   exact⟨ih.1,λp h=>ih.2.1 p (.tail _ h),λx h=>(List.mem_cons.mp h).elim (λh=>⟨a,(Prod.mk.inj h).1.symm▸ih.2.1 _ (.head _)⟩) (ih.2.2 x)⟩
  | false=>
   rw[cZ,q,if_neg Bool.false_ne_true]
   have ih:=uE (env:=env) (l:=r) (acc:=acc) hr ha
   exact⟨ih.1,ih.2.1,λx h=>(List.mem_cons.mp h).elim (λh=>absurd (congrArg Prod.snd h).symm (ne_of_beq_false q)) (ih.2.2 x)⟩
theorem Au{env:Env}:∀{l:List (Str×NameKind)} {acc:List (Str×Addr)},((l.map (·.1))++acc.map (·.1)).Nodup->((cZ env l acc).map (·.1)).Nodup
 | [],acc,h=>h
 | (n,k)::r,acc,h=>by
  rw[cZ]
  refine Au ?_
  split
  .exact(List.perm_middle.nodup_iff).mpr h
  .exact(List.nodup_cons.mp h).2
theorem zy{cs:List (Str×Addr)}:∀{cl:List (Str×Addr)},cs.Pairwise (λx y=>x.2≠y.2)->(cl.map (·.1)).Nodup->(∀p∈cl,p∈cs)->cl.Pairwise λx y=>x.2≠y.2
 | [],_,_,_=>.nil
 | p::r,ap,hk,hm=>.cons (λq hq e=>(List.nodup_cons.mp hk).1 (List.mem_map.mpr ⟨q,hq,(name_of_addr ap (hm p (.head _)) (e▸hm q (.tail _ hq))).symm⟩)) (zy ap (List.nodup_cons.mp hk).2 λq hq=>hm q (.tail _ hq))
theorem KI{w:World}{A:Around}{R:Result->Shared->Prop}{s:Shared}{elt target iter:Expr}{ifs:List Expr}{scope:Scope}{pos:Pos}{it acc:Value}{env:Env}(ah:Nat->Shared->Prop)
  (turn:∀n s,ah n s->wpAny (model aL w) A (pyNext it) (λr aJ=>match r with
   | none=>R (.ok .next) aJ
   | some v=>wpAny (model aL w) A (letOwnedTupleGo target it v) (λZ aJ=>wpAny (model aL w) A (assign target env v) (λZ aA=>
     wpAny (model aL w) A (forIn ifs true λc r=>if r=true then do let ok ←isTrue c env (eval c env);pure (ForInStep.yield ok) else pure (ForInStep.yield r)) (λok cU=>
      if ok=true then wpAny (model aL w) A (eval elt env) (λx cV=>
       wpAny (model aL w) A (call (.builtin "list.append") [acc,x]) (λZ j9=>∃m,m<n/\ah m j9) (notedBy (model aL w) A env λe s'=>R (.error e) s') cV) (notedBy (model aL w) A env λe s'=>R (.error e) s') cU
      else ∃m,m<n/\ah m cU) (notedBy (model aL w) A env λe s'=>R (.error e) s') aA) (notedBy (model aL w) A env λe s'=>R (.error e) s') aJ) (notedBy (model aL w) A env λe s'=>R (.error e) s') aJ)
    (notedBy (model aL w) A env λe s'=>R (.error e) s') s)
  (n:Nat) (h:ah n s) :
  codeAny (model aL w) A (.compLoop (.ListComp elt [⟨target,iter,ifs,0⟩] scope pos) 0 it acc env) R s:=by
 refine codeAny_loop rfl ah (λn s hI=>?_) n h
 show wpAny _ A ((compTurn (.ListComp elt [⟨target,iter,ifs,0⟩] scope pos) 0 it acc env).onRaise (λx=>do noteFrame x env;theTreesLotGoes x)) _ _ s
 refine wpAny_noted ?_
 rw[compTurn_list]
 refine wpAny_bind (wpAny_standAt (wpAny_bind (wpAny_mono (turn n s hI) (λr aJ aV=>?_) λZ Z h'=>h')))
 cases r with
 | none=>exact wpAny_pure aV
 | some v=>
  refine wpAny_bind (wpAny_mono aV (λZ aJ aV=>wpAny_bind (wpAny_mono aV (λZ aA ia=>wpAny_bind (wpAny_mono ia (λok cU m6=>?_) λZ Z h'=>h')) λZ Z h'=>h')) λZ Z h'=>h')
  cases ok with
  | false=>exact wpAny_pure ⟨rfl,m6⟩
  | true=>
   exact wpAny_bind (wpAny_bind (wpAny_mono m6 (λx cV wo=>wpAny_bind (wpAny_mono wo (λZ j9 OS=>wpAny_pure (wpAny_pure ⟨rfl,OS⟩)) λZ Z h'=>h')) λZ Z h'=>h'))
noncomputable def kx(vals:List Value)(aN:Nat->Nat->Value):Nat->Nat->Value
 | 0,i=>vals.getD i .none
 | d+1,i=>aN d i
noncomputable abbrev St.bb(st:St)(fr:List (Option O)):St:=⟨st.σ,st.lk,fr::st.κ,st.H⟩
noncomputable abbrev St.out(st:St):St:=⟨st.σ,st.lk,st.κ.tail,st.H⟩
section
variable{w:World}{B:Heap}{ak:Nat->Value}{aN:Nat->Nat->Value}{c c':Cf}{st st':St}{h h':Heap}{D:au}{env:Env}{rs:List ER}{vs:List Value}{scope:Scope}{fr:List Str}
theorem Gd.bb{as:List O}{vals:List Value}(g:Gd w B c h st ak aN rs vs)(x:aq w c h as vals):Gd w B c h (st.bb (as.map some)) ak (kx vals aN) rs vs:=
 {base:=g.base,ok:=g.ok,cO:=g.cO,cq:=g.cq,slt:=g.slt,bw:=aZ.kp (st:=st) (st':=st.bb (as.map some)) (.refl _ _) (λZ q=>q) (λZ Z Z Z e e'=>⟨e,e'⟩) g.bw
  dc:=λd i fr v e e'=>match d,e with
   | 0,e=>by
    have e':(as.map some)[i]?=some (some v):=Option.some.inj e▸e'
    rw[List.getElem?_map] at e'
    refine(Option.map_eq_some_iff.mp e').elim λa q=>?_
    have hi:i<vals.length:=x.get.1▸cu q.1
    exact Option.some.inj q.2▸(show kx vals aN 0 i=vals[i] from hN (List.getElem?_eq_getElem hi))▸x.get.2 i a _ q.1 (List.getElem?_eq_getElem hi)
   | d+1,e=>g.dc d i fr v e e'}
theorem Gd.out{vals:List Value}(g:Gd w B c h st ak (kx vals aN) rs vs):Gd w B c h st.out ak aN rs vs:=
 {base:=g.base,ok:=g.ok,cO:=g.cO,cq:=g.cq,slt:=g.slt,bw:=aZ.kp (st:=st) (st':=st.out) (.refl _ _) (λZ q=>q) (λZ Z Z Z e e'=>⟨e,e'⟩) g.bw
  dc:=λd i fr v e e'=>g.dc (d+1) i fr v (List.getElem?_tail.symm.trans e) e'}
theorem Shape.out{fr:List (Option O)}{df:St}(sh:Shape (st.bb fr) df):Shape st df.out:=⟨congrArg List.tail sh.κ,sh.lk,sh.len,sh.full⟩
theorem Seen.cell{x:Str}{o:Option Value}(e:env.kindOf x=some .cell)(s:Seen env h x o):∃a,env.cells.lookup x=some a/\h.IsCell a o:=by
 unfold Seen at s;rw[e] at s;exact s
theorem Seen.E2{x:Str}{o:Option Value}(e:env.kindOf x=some .cell)(s:∃a,env.cells.lookup x=some a/\h.IsCell a o):Seen env h x o:=by
 unfold Seen;rw[e];exact s
theorem Seen.E3{x:Str}{o:Option Value}(e:env.kindOf x=some .local)(s:∃m,h.Ns env.locals m/\m x=o):Seen env h x o:=by
 unfold Seen;rw[e];exact s
theorem Seen.tJ{x:Str}{o:Option Value}(h1:env.kindOf x≠some .local)(h2:env.kindOf x≠some .cell)(h3:env.kindOf x≠some .free):Seen env h x o:=by
 unfold Seen
 split
 .exact absurd ‹_› h1
 .exact absurd ‹_› h2
 .exact absurd ‹_› h3
 .trivial
theorem AH(ok:gn D scope fr)(V:eO D env c h st ak aN):∀y∈scope.names,y.2=.free->∃a,env.cells.lookup y.1=some a:=λy hy hf=>
 have q:=ok.free y hy hf
 (List.mem_iff_getElem?.mp q.1).elim λi hi=>(V.slots i y.1 hi q.2.1).elim λo s=>(s.1.cell ((lB V y.1).trans q.2.2)).imp λa z=>z.1
theorem oG(ok:gn D scope fr)(V:eO D env c h st ak aN):(∀x a,(x,a)∈cZ env scope.names []->env.cells.lookup x=some a)/\∀x,(x,.free)∈scope.names->∃a,(x,a)∈cZ env scope.names []:=
 have q:=uE (env:=env) (l:=scope.names) (acc:=[]) (AH ok V) λx a h=>(nomatch h)
 ⟨q.1,q.2.2⟩
theorem KJ(ok:gn D scope fr)(V:eO D env c h st ak aN){C b:Addr}(ho:eh (compEnvC scope (cZ env scope.names []) C env) b):b=C∨eh env b:=
 ho.imp id λz=>z.elim λx z=>.inr ⟨x,(oG ok V).1 x b (lookup_mem z)⟩
theorem wO{C:Addr}(V:eO D env c h st ak aN)(x:Str):(compEnvC scope (cZ env scope.names []) C env).kindOf x=(scope.names.lookup x).map (j5 env.scope x):=PV scope env.scope x
theorem Gq{sc:Scope}{x:Str}{k:NameKind}(n:k≠.free):j5 sc x k=k:=by
 unfold j5
 rw[show(k==NameKind.free)=false from beq_eq_false_iff_ne.mpr n];rfl
theorem KL{C:Addr}{m:Str->Option Value}{as:List O}{vals:List Value}(ok:gn D scope fr)(V:eO D env c h st ak aN)(hC:∀b,eh env b->b≠C)(hY:c.ow C=some .env/\∃x,h.get? C=some x)(hn:h.Ns C m)
  (hv:∀(i:Nat) y,fr[i]?=some y->m y=vals[i]?) (Y:as.length=vals.length):eO (iK D scope fr) (compEnvC scope (cZ env scope.names []) C env) c h (st.bb (as.map some)) ak (kx vals aN) where
 sc:=show pZ scope env.scope=pZ scope D.sc by rw[V.sc]
 fr:={
  fn:=ok.kind
  gl:=V.fr.gl
  bi:=V.fr.bi
  apart:=zy V.fr.apart (Au (env:=env) (l:=scope.names) (acc:=[]) (by rw[List.map_nil,List.append_nil];exact ok.nd)) λp hp=>lookup_mem ((oG ok V).1 p.1 p.2 hp)
  lc:=λx a hx=>hC a (.inr ⟨x,(oG ok V).1 x a hx⟩)}
 ns:=⟨m,hn⟩
 y:=λb I=>(KJ ok V I).elim (λe=>e▸hY) (V.y b)
 slots:=λi x e n=>by
  have n:=λz=>n (List.flatten_cons▸z)
  have nf:x∉fr:=λz=>n (List.mem_append_left _ z)
  have nk:x∉D.kl.flatten:=λz=>n (List.mem_append_right _ z)
  have kk:=wO (scope:=scope) (C:=C) V x
  cases q:scope.names.lookup x with
  | none=>rw[q] at kk;exact⟨_,Seen.tJ (kk▸nofun) (kk▸nofun) (kk▸nofun),λZ=>rfl⟩
  | some kd=>
   rw[q] at kk
   by_cases hf:kd=.free
   .have h3:=ok.free _ (lookup_mem q) hf
    have ke:j5 env.scope x kd=.cell:=by
     unfold j5
     rw[V.fr.fn,V.sc,h3.2.2,hf];rfl
    refine(V.slots i x e nk).imp λo p=>⟨.E2 (kk.trans (congrArg some ke)) ((p.1.cell ((lB V x).trans h3.2.2)).elim λa z=>?_),p.2⟩
    refine((oG ok V).2 x (hf▸lookup_mem q)).elim λa' h'=>(mem_lookup h').elim λb I=>⟨b,I,?_⟩
    exact Option.some.inj (z.1.symm.trans ((oG ok V).1 x b (lookup_mem I)))▸z.2
   .have kk:=kk.trans (congrArg some (Gq hf))
    exact⟨_,Seen.tJ (λz=>ok.slots x (List.mem_of_getElem? e) nf (q.trans (kk.symm.trans z))) (λz=>ok.cell _ (lookup_mem q) (Option.some.inj (kk.symm.trans z))) (λz=>hf (Option.some.inj (kk.symm.trans z))),λZ=>rfl⟩
 comps:=λd i Mj x e e' n=>by
  have kk:=wO (scope:=scope) (C:=C) V x
  cases d with
  | zero=>
   have e:=Option.some.inj e
   subst e
   rw[ok.own x (List.mem_of_getElem? e')] at kk
   refine⟨vals[i]?,.E3 kk ⟨m,hn,hv i x e'⟩,λf=>f.elim λYB f=>f.elim λv f=>?_⟩
   have q:=f.2
   rw[←Option.some.inj f.1,List.getElem?_map] at q
   have hi:i<vals.length:=Y▸(Option.map_eq_some_iff.mp q).elim λa z=>cu z.1
   rw[List.getElem?_eq_getElem hi]
   exact congrArg some (hN (List.getElem?_eq_getElem hi)).symm
  | succ d=>
   have hm:x∈D.kl.flatten:=List.mem_flatten.mpr ⟨Mj,List.mem_of_getElem? e,List.mem_of_getElem? e'⟩
   have nf:x∉fr:=λz=>n (by rw[show(iK D scope fr).kl=fr::D.kl from rfl,List.take_succ_cons,List.flatten_cons];exact List.mem_append_left _ z)
   have o:=ok.outer x hm nf
   cases q:scope.names.lookup x with
   | none=>rw[q] at kk;exact⟨_,Seen.tJ (kk▸nofun) (kk▸nofun) (kk▸nofun),λZ=>rfl⟩
   | some kd=>
    rw[q] at kk
    have hf:kd≠.free:=λz=>o.2 (q.trans (congrArg some z))
    have kk:=kk.trans (congrArg some (Gq hf))
    exact⟨_,Seen.tJ (λz=>o.1 (q.trans (kk.symm.trans z))) (λz=>ok.cell _ (lookup_mem q) (Option.some.inj (kk.symm.trans z))) (λz=>hf (Option.some.inj (kk.symm.trans z))),λZ=>rfl⟩
end
theorem km{α:Type}{M:Model}{A:Around}{t:Sem α}{Q:α->Shared->Prop}{E:Value->Shared->Prop}{s:Shared}{n:Nat}(hn:n<=s.toks)(h:wpAny M A t (λa s'=>n<=s'.toks->Q a s') E s):wpAny M A t Q E s:=
 wpAny_mono (wpAny_toks hn h) (λa s' p=>p.1 p.2) λZ Z y=>y
section
variable(J:Om)
structure fE(n:Nat)(e:ME)(x:Expr):Prop where
 run:∀{φ:Fm} {rs:List ER} {vs:List Value} {st:St} {s:Shared} {K:KE} {Q:Value->Shared->Prop},n<=s.toks->
  At J φ rs vs st s->(wE tab (F J.k) e).1 st K->(∀r st' v s',K r st'->At J φ (r::rs) (v::vs) st' s'->Q v s')->wpAny J.M φ.A (eval x φ.env) Q φ.E s
structure jo(c:aW)(ifs:List Expr):Prop where
 run:∀{φ:Fm} {rs:List ER} {vs:List Value} {st:St} {s:Shared} {K:KT} {Q:Bool->Shared->Prop},At J φ rs vs st s->wC tab (F J.k) c st K->(∀b st' s',K b st'->At J φ rs vs st' s'->Q b s')->
  wpAny J.M φ.A (forIn ifs true λc r=>if r=true then do let ok ←isTrue c φ.env (eval c φ.env);pure (ForInStep.yield ok) else pure (ForInStep.yield r)) Q φ.E s
noncomputable abbrev Om.bb(scope:Scope)(fr:List Str):Om:={J with D:=iK J.D scope fr}
end
noncomputable abbrev Fm.bb(φ:Fm)(E:Value->Shared->Prop)(env:Env)(vals:List Value)(c:Cf)(st:St)(s:Shared):Fm:={A:=φ.A,E:=E,env:=env,aN:=kx vals φ.aN,c:=c,st:=st,ak:=φ.ak,s:=s}
section
variable{J:Om}{φ:Fm}{c c':Cf}{rs:List ER}{vs:List Value}{st st':St}{s s':Shared}{scope:Scope}{fr:List Str}
theorem fE.of{n:Nat}{e:ME}{x:Expr}(h:aB J e x):fE J n e x:=⟨λZ=>h.e.run⟩
theorem Vf:jo J .nil []:=⟨λP e q=>wpAny_pure (q _ _ _ e P)⟩
theorem Vg{e:ME}{r:aW}{x:Expr}(h:aB J e x):jo J (.cons e r) [x]:=⟨λ{φ rs vs st s K Q} P e q=>by
 rw[List.forIn_cons,if_pos rfl]
 exact wpAny_bind (wpAny_bind (h.t.run P e λb st' s' k P=>wpAny_pure (wpAny_pure (q _ _ _ k P))))⟩
theorem aF.bb{E:Value->Shared->Prop}{C:Addr}{m:Str->Option Value}{as:List O}{vals:List Value}(f:aF J φ c rs vs st s)(ok:gn J.D scope fr)(hC:c.ow C=some .env/\Nw φ .env C)(hn:s.heap.Ns C m)(hv:∀(i:Nat) y,fr[i]?=some y->m y=vals[i]?)(x:aq J.w c s.heap as vals) :
  aF (J.bb scope fr) (φ.bb E (compEnvC scope (cZ φ.env scope.names []) C φ.env) vals c (st.bb (as.map some)) s) c rs vs (st.bb (as.map some)) s:=
 ⟨⟨f.ok.rm,KL ok f.bQ (λb I e=>by
  subst e
  exact(f.ok.bQ.y b I).2.elim λx z=>nomatch (hC.2 (f.ok.bQ.y b I).1).symm.trans z) ⟨hC.1,hn.elim λo z=>z.elim λZ z=>z.elim λZ z=>⟨o,z.1⟩⟩ hn hv x.get.1⟩,.refl _ _,λZ Z e e'=>⟨e,e'⟩,.refl _,f.gd.bb x⟩
theorem aF.FW{E:Value->Shared->Prop}{env:Env}{vals:List Value}{Mp:List (Option O)}(f:aF J φ c rs vs st s)(p:aF (J.bb scope fr) (φ.bb E env vals c (st.bb Mp) s) c' rs vs st' s'):aF J φ c' rs vs st'.out s':=
 ⟨f.ok,f.mv.trans p.mv,f.ke.trans p.ke,f.sh.trans p.sh.out,p.gd.out⟩
theorem F6{K:St->Prop}(h:pX st K):K st.out:=by
 obtain⟨σ,lk,κ,H⟩:=st
 cases κ with
 | nil=>exact h.elim
 | cons a κ=>exact h
def gZ(φ:Fm)(c:Cf)(o:Ow)(b:Addr):Prop:=c.ow b=some o/\Nw φ .other b/\Nw φ .env b
theorem gZ.kp{o:Ow}{b:Addr}{h h':Heap}(x:gZ φ c o b)(K:Kp c h (some o) c' h' (some o))(l:∃p,h.get? b=some p):gZ φ c' o b:=⟨l.elim λp e=>(K b p x.1 e).1,x.2⟩
theorem Ju{w:World}{A:Around}{E:Value->Shared->Prop}{vs:List O}{v:O}{ad:Addr}{items:Array Value}{n:Nat}{u:Value}{Q:Value->Shared->Prop}(Y:vs.length<ax)(ho:s.heap.get? ad=some (cP items n))(hX:c.ow ad≠none)
  (hi:aq w c s.heap vs items.toList) (hc:VR w c s.heap v u) (hq:∀h' tk bG n',Heap.SameBut ad s.heap h'->h'.get? ad=some (cP bG n')->aq w c h' (vs++[v]) bG.toList->Q .none {s with heap:=h',toks:=tk}) :
  wpAny (model aL w) A (call (.builtin "list.append") [.ref ad,u]) Q E s:=by
 refine call_meets PySem.F.slot_list_append ⟨_,ho,rfl⟩ PySem.F.entry_list_append (PySem.F.args_list_append_2 _ _) (AutoListH.list_append_list_val_0 ad items n u (hi.size.symm▸bX (Nat.le_of_lt Y))) ⟨ho,?_⟩
 refine(pE (λx=>x.push u) ho).elim λn' k=>hq _ _ _ _ k.2 k.1 ?_
 rw[Array.toList_push]
 exact(aq.le (SameBut.le k.2 hX) _ hi).snoc (VR.le (SameBut.le k.2 hX) _ hc)
structure CI(J:Om)(φ:Fm)(rs:List ER)(vs:List Value)(Ps:List Addr)(ae:Cf->Heap->Nat->Prop)(Dd C:Addr)(n₀:Nat)(W:List O->List O->St->Prop)(as:List O)(i:Nat)(acc:List O)(c:Cf)(st:St)(s:Shared):Prop where
 tk:n₀<=s.toks
 le:i<=as.length
 a:aF J φ c rs vs st s
 ps:∀b∈Ps,gZ φ c .other b
 dd:gZ φ c .other Dd
 cc:gZ φ c .env C
 j:ae c s.heap i
 d:∃items nn,s.heap.get? Dd=some (cP items nn)/\aq J.w c s.heap acc items.toList
 len:acc.length<=ax
 ns:∃m,s.heap.Ns C m
 e:W (as.drop i) acc st
theorem AG{n₀ n:Nat}{t:MT}{it:MI}{cc:aW}{el:ME}{elt iter aI:Expr}{ifs:List Expr}{pos:Pos}{use:Option (Value->Sem Unit)}{K:List O->St->Prop}{Q:Value->Shared->Prop}(ok:gn J.D scope fr)(hI:gu J it aI iter)(I:kz n t aI fr)
  (hc:jo (J.bb scope fr) cc ifs) (he:fE (J.bb scope fr) n₀ el elt) (hs:∀env x,foldedSetIterable iter env x=pure x) (ht:n₀<=s.toks) (P:At J φ rs vs st s)
  (e:wI tab (F J.k) it st λitems st=>CC n (wB t) (wC tab (F J.k) cc) (wE tab (F J.k) el).1 items [] st K)
  (fin:∀ou c' st' Dd C s',K ou st'->aF J φ c' (.own (.list ou)::rs) (.ref Dd::vs) st' s'->gZ φ c' .other C->(∃m,s'.heap.Ns C m)->compPost (model aL J.w) φ.A φ.E use Q (.ref Dd) C (.ok .next) s') :
  wpAny J.M φ.A (comprehension (.ListComp elt [⟨aI,iter,ifs,0⟩] scope pos) scope φ.env (firstIterPos [⟨aI,iter,ifs,0⟩] pos) (newList []) false (eval iter φ.env) use) Q φ.E s:=by
 have free:∀y∈scope.names,y.2=.free->∃a,φ.env.cells.lookup y.1=some a:=P.elim λc A=>AH ok A.bQ
 refine wpAny_comprehension_free (use:=use) rfl (hs φ.env) (KA free) ok.kind ok.names (wpAny_mono (wpAny_toks ht (hI.run (Q:=λYV aA=>n₀<=aA.toks->_) P e λas dz c₁ ah Ps ae aA k A ps lu j0 wh=>?_)) (λxv aJ aV=>km aV.2 aV.1) λZ Z e=>e)
 have k:=I1 k
 refine wpAny_newObj_type (wpAny_newFunctionEnv ok.cell (λy hy=>nomatch hy) (λh₀ o8 pg=>?_) ok.kind)
 dsimp only at o8 pg wh ⊢
 rw[Heap.size_push] at o8 pg ⊢
 have fD:=dF aA.heap
 have fC:aA.heap.get? (aA.heap.objs.size+1)=none:=Heap.get?_none_of_le (Nat.le_succ _)
 have pN:aA.heap.objs.size≠aA.heap.objs.size+1:=(Nat.succ_ne_self _).symm
 have tB:Sub aA.heap h₀:=λb o q=>(pg.2 b (λz=>nomatch (z▸fC).symm.trans q)).trans (Heap.get?_push_of_some _ (Heap.get?_push_of_some _ q))
 have vE:h₀.get? aA.heap.objs.size=some (cP #[] 0):=(pg.2 _ pN).trans (Heap.get?_push_of_some _ (Heap.get?_push_size _ rfl))
 have Cm:=A.gd.fr _ fD
 have Ct:=A.gd.fr _ fC
 have Ft:=A.nw fD
 have Fs:=A.nw fC
 generalize Nb:aA.heap.objs.size=Dd at*
 generalize M8:Dd+1=C at*
 have oC:∃o,h₀.get? C=some o:=o8.elim λo z=>z.elim λZ z=>z.elim λZ z=>⟨o,z.1⟩
 have FY:((c₁.set Dd (some .other)).set C (some .env)).ow Dd=some .other:=(if_neg pN).trans (if_pos rfl)
 have pT:∀b,b≠Dd->b≠C->((c₁.set Dd (some .other)).set C (some .env)).ow b=c₁.ow b:=λb n1 n2=>(if_neg n2).trans (if_neg n1)
 have lv:∀{b x},aA.heap.get? b=some x->b≠Dd/\b≠C:=λe=>⟨λz=>(nomatch (z▸fD).symm.trans e),λz=>(nomatch (z▸fC).symm.trans e)⟩
 have A1:=A.w8 (c':=(c₁.set Dd (some .other)).set C (some .env)) tB aA.toks rfl (λb x e=>pT b (lv e).1 (lv e).2) λb o z e=>by
  by_cases q:b=Dd
  .exact q▸⟨_,vE⟩
  .by_cases q':b=C
   .exact q'▸oC
   .exact nomatch (A.gd.fr b z).symm.trans ((pT b q q').symm.trans e)
 have i5:∀b∈Ps,b≠Dd/\b≠C:=λb I=>⟨λz=>(nomatch (z▸Cm).symm.trans (ps b I).1),λz=>(nomatch (z▸Ct).symm.trans (ps b I).1)⟩
 have jP:ae ((c₁.set Dd (some .other)).set C (some .env)) h₀ 0:=lu.mono j0 ⟨λZ Z e=>e,λb x e e'=>⟨(pT b (lv e').1 (lv e').2).trans e,tB b x e'⟩⟩ λb Z o q=>tB b o q
 have start:CI J φ rs vs Ps ae Dd C n₀ (λl acc st=>wCs n (wB t) (wC tab (F J.k) cc) (wE tab (F J.k) el).1 l acc st K) as 0 [] ((c₁.set Dd (some .other)).set C (some .env)) dz {aA with heap:=h₀}:=
  ⟨wh,Nat.zero_le _,A1,λb I=>⟨(pT b (i5 b I).1 (i5 b I).2).trans (ps b I).1,(ps b I).2⟩,⟨FY,Ft⟩,⟨if_pos rfl,Fs⟩,jP,⟨#[],0,vE,rfl⟩,Nat.zero_le _,⟨_,o8⟩,k⟩
 clear Nb M8 A1 jP pT lv oC vE tB fD fC Cm Ct Ft Fs o8 pg k j0 ps A wh FY
 refine codeAny_compStart_list (pos:=pos) (scope:=scope) ?h0 (lu.self (i:=0) start.j ?h0)
 refine KI (λkk s'=>∃i acc c' st',kk=as.length+1 - i/\CI J φ rs vs Ps ae Dd C n₀ (λl acc st=>wCs n (wB t) (wC tab (F J.k) cc) (wE tab (F J.k) el).1 l acc st K) as i acc c' st' s') (λkk s' z=>uU z λi acc c' st' z=>?_) _ ⟨0,[],_,dz,rfl,start⟩
 have gK:=z.1
 have f:=z.2
 have xC:∀b∈Ps,∃o,kq o/\c'.ow b=some o:=λb I=>⟨_,.inl rfl,(f.ps b I).1⟩
 refine oN f.d λitems nn hd=>f.ns.elim λm hn=>?_
 have hD:=hd.1
 have hv:=hd.2
 generalize (notedBy (model aL J.w) φ.A _ _:Value->Shared->Prop)=EX
 by_cases bD:i<as.length
 .have e:=f.e
  rw[List.drop_eq_getElem_cons bD] at e
  have e:=Bp n e
  refine km f.tk (wpAny_mono (lu.item (i:=i) (a:=as[i]) (P:=λv aA=>VR J.w c' aA.heap as[i] v/\ae c' aA.heap (i+1)/\aF J φ c' rs vs st' aA/\(∀b o,b∉Ps->s'.heap.get? b=some o->aA.heap.get? b=some o)/\∀b∈Ps,∃o,aA.heap.get? b=some o) (List.getElem?_eq_getElem bD) f.a.gd.fr (λb I=>(f.ps b I).1) f.j
   (λv h' eM xv j' hk Y=>⟨xv,j',f.a.alt (.same xC hk Y) (λb I=>(f.ps b I).2) eM,hk,Y⟩)) (λr' aJ h ht=>h.elim λv h=>h.1▸km ht (wpAny_mono h.2 (λZ aJ h ht=>?_) λZ Z y=>y)) λZ Z y=>y)
  have xv:=h.1
  have j1:=h.2.1
  have A1:=h.2.2.1
  have o6:=h.2.2.2.1
  have k7:=h.2.2.2.2
  have M9:=o6 Dd _ (λz=>(i5 Dd z).1 rfl) hD
  have N6:aJ.heap.Ns C m:=hn.at' λo q=>o6 C o (λz=>(i5 C z).2 rfl) q
  have rW:=aq.le (Alt.same xC o6 k7).le _ hv
  have AA:c'.ow C≠none:=λz=>nomatch z.symm.trans f.cc.1
  refine km ht (I.run (n:=n) (A:=φ.A) (cenv:=compEnvC scope (cZ φ.env scope.names []) C φ.env) (m:=m) f.a.ok.rm.1 ok.kind (λy hy=>(wO (scope:=scope) (C:=C) A1.bQ y).trans (by rw[ok.own y hy];rfl)) N6 AA xv e λh' tk m' zD vals jK iO e xs N4 ht=>?_)
  have A2:=A1.alt (h':=h') (.same (Ps:=[C]) (λb I=>List.mem_singleton.mp I▸⟨_,.inr rfl,f.cc.1⟩) (λb o n q=>jK b o (λz=>n (List.mem_singleton.mpr z)) q) (λb I=>List.mem_singleton.mp I▸iO.elim λo z=>z.elim λZ z=>z.elim λZ z=>⟨o,z.1⟩)) (λb I=>List.mem_singleton.mp I▸f.cc.2) tk
  have L2:=uv AA jK
  have j2:=lu.mono j1 L2 λb I o q=>jK b o (i5 b I).2 q
  have CL:=jK Dd _ pN M9
  have NW:∀b∈Ps,∃o,h'.get? b=some o:=λb I=>(k7 b I).imp λo q=>jK b o (i5 b I).2 q
  have B:=A2.bb (E:=EX) ok ⟨f.cc.1,f.cc.2.2⟩ iO N4 xs
  refine km ht (hc.run (φ:=φ.bb EX (compEnvC scope (cZ φ.env scope.names []) C φ.env) vals c' _ _) ⟨c',B⟩ e λSN df cU e Jd ht=>Jd.elim λkR tQ=>?_)
  have back:∀{mL H6 cV iA gm},aF (J.bb scope fr) (φ.bb EX (compEnvC scope (cZ φ.env scope.names []) C φ.env) vals c' (st'.bb (zD.map some)) {aJ with heap:=h',toks:=tk}) mL iA gm H6 cV->(∀b∈Ps,gZ φ mL .other b/\∀o,h'.get? b=some o->cV.heap.get? b=some o)/\gZ φ mL .other Dd/\gZ φ mL .env C/\cV.heap.get? Dd=some (cP items nn)/\aq J.w mL cV.heap acc items.toList/\cV.heap.Ns C m'/\ae mL cV.heap (i+1):=λp=>
   ⟨λb I=>⟨(f.ps b I).kp p.mv.ko (NW b I),λo q=>(p.mv.ko b o (f.ps b I).1 q).2⟩,f.dd.kp p.mv.ko ⟨_,CL⟩,f.cc.kp p.ke (iO.elim λo z=>z.elim λZ z=>z.elim λZ z=>⟨o,z.1⟩),(p.mv.ko Dd _ f.dd.1 CL).2,aq.le p.mv.le _ (aq.le L2 _ rW),iO.at' λo q=>(p.ke C o f.cc.1 q).2,lu.mono j2 p.mv.le λb I o q=>(p.mv.ko b o (f.ps b I).1 q).2⟩
  cases SN with
  | false=>
   rw[if_neg Bool.false_ne_true]
   have q:=back tQ
   exact⟨as.length+1 - (i+1),uJ gK bD,i+1,acc,kR,_,rfl,ht,bD,A2.FW tQ,λb I=>(q.1 b I).1,q.2.1,q.2.2.1,q.2.2.2.2.2.2,⟨items,nn,q.2.2.2.1,q.2.2.2.2.1⟩,f.len,⟨m',q.2.2.2.2.2.1⟩,F6 (K:=λst=>wCs n (wB t) (wC tab (F J.k) cc) (wE tab (F J.k) el).1 (as.drop (i+1)) acc st K) e⟩
  | true=>
   rw[if_pos rfl]
   refine km ht (he.run (φ:=φ.bb EX (compEnvC scope (cZ φ.env scope.names []) C φ.env) vals c' _ _) ht ⟨kR,tQ⟩ e λr H6 v cV e Je ht=>Je.last e λvv Y2 e Jf=>Jf.elim λqQ tR=>ef (F6 e) (λY e=>?_) λZ e=>e.elim)
   have Y:=of_decide_eq_true Y
   have q:=back tR.pop
   have dn:qQ.ow Dd≠none:=λz=>nomatch z.symm.trans q.2.1.1
   refine km ht (Ju (c:=qQ) Y q.2.2.2.1 dn q.2.2.2.2.1 tR.hd λOT XX bG n' sb CN OD ht=>?_)
   have oD:∀b∈[Dd],∃o,kq o/\qQ.ow b=some o:=λb I=>List.mem_singleton.mp I▸⟨_,.inl rfl,q.2.1.1⟩
   have NS:∀b o,b∉[Dd]->cV.heap.get? b=some o->OT.get? b=some o:=λb o n z=>(sb.2 b λw=>n (List.mem_singleton.mpr w)).trans z
   have A6:=(A2.FW tR.pop).alt (.same oD NS λb I=>List.mem_singleton.mp I▸⟨_,CN⟩) (λb I=>List.mem_singleton.mp I▸q.2.1.2) XX
   exact⟨as.length+1 - (i+1),uJ gK bD,i+1,acc++[vv],qQ,_,rfl,ht,bD,A6,λb I=>(q.1 b I).1,q.2.1,q.2.2.1,lu.mono q.2.2.2.2.2.2 (SameBut.le sb dn) λb I o z=>(sb.2 b (i5 b I).1).trans z,⟨bG,n',CN,OD⟩,by rw[List.length_append];exact Y,⟨m',q.2.2.2.2.2.1.at' λo z=>(sb.2 C pN.symm).trans z⟩,e⟩
 .have gJ:i=as.length:=Nat.le_antisymm f.le (Nat.not_lt.mp bD)
  have e:=f.e
  rw[gJ,List.drop_length] at e
  refine lu.done (gJ▸f.j) λh' eM hk=>?_
  have kD:=hk Dd _ (λz=>(i5 Dd z).1 rfl) hD
  have kC:=hn.at' λo q=>hk C o (λz=>(i5 C z).2 rfl) q
  have alt:Alt c' s'.heap (λb=>b=Dd∨b=C∨b∈Ps) (((c'.nS Ps).set C (some .other)).set Dd (some (.tmp rs.length))) h':={
   γ:=rfl
   own:=λb z=>z.elim (λz=>z▸⟨_,.inl rfl,f.dd.1⟩) λz=>z.elim (λz=>z▸⟨_,.inr rfl,f.cc.1⟩) (xC b)
   hk:=λb o n q=>hk b o (λz=>n (.inr (.inr z))) q
   hc:=λb n=>(if_neg λz=>n (.inl z)).trans ((if_neg λz=>n (.inr (.inl z))).trans (if_neg λz=>n (.inr (.inr z))))
   lv:=λb o z e=>by
    by_cases q:b=Dd
    .exact q▸⟨_,kD⟩
    .by_cases q':b=C
     .exact q'▸kC.elim λo z=>z.elim λZ z=>z.elim λZ z=>⟨o,z.1⟩
     .have m:=(z.resolve_left q).resolve_left q'
      exact nomatch ((if_neg q).trans ((if_neg q').trans (if_pos m)):(((c'.nS Ps).set C (some .other)).set Dd (some (.tmp rs.length))).ow b=none).symm.trans e}
  have A:=f.a.alt alt (λb z=>z.elim (λz=>z▸f.dd.2) λz=>z.elim (λz=>z▸f.cc.2) λm=>(f.ps b m).2) eM
  exact fin acc _ st' Dd C _ e ⟨A.ok,A.mv,A.ke,A.sh,{A.gd with bw:=aZ.mk (r:=.own (.list acc)) ⟨Dd,rfl,if_pos rfl,f.len,items,nn,kD,aq.le alt.le _ hv⟩ A.gd.bw}⟩ ⟨(if_neg pN.symm).trans (if_pos rfl),f.cc.2⟩ ⟨_,kC⟩
end
section
variable{J:Om}{n₀ n:Nat}{t:MT}{it:MI}{cc:aW}{el:ME}{elt iter aI:Expr}{ifs:List Expr}{scope:Scope}{fr:List Str}{pos py HW:Pos}
theorem Hz(ok:gn J.D scope fr)(hI:gu J it aI iter)(I:kz n t aI fr)(hc:jo (J.bb scope fr) cc ifs)(he:fE (J.bb scope fr) n₀ el elt)(hs:iU iter=false):fE J n₀ (.comp n t it cc el) (.ListComp elt [⟨aI,iter,ifs,0⟩] scope pos):=
 ⟨λ{φ rs vs st s K Q} ht P e q=>by
  rw[eval_ListComp]
  exact AG (K:=λacc st=>K (.own (.list acc)) st) ok hI I hc he (λenv x=>w9 hs env x) ht P e λou c' st' Dd C s' k A hC hn=>hn.elim λm hn=>⟨m,hn,λwo wc=>q _ st' _ _ k ⟨c'.set C none,A.alt (c':=c'.set C none) ⟨rfl,λb (z:b=C)=>z▸⟨_,.inl rfl,hC.1⟩,λb o n z=>(wc.2 b n).trans z,λb n=>if_neg n,λb o z e=>nomatch ((if_pos z:(c'.set C none).ow b=none).symm.trans e)⟩ (λb z=>z▸hC.2) s'.toks⟩⟩⟩
theorem VX(ok:gn J.D scope fr)(hI:gu J it aI iter)(I:kz n t aI fr)(hc:jo (J.bb scope fr) cc ifs)(he:aB (J.bb scope fr) el elt)(hs:iU iter=false):aB J (.comp n t it cc el) (.ListComp elt [⟨aI,iter,ifs,0⟩] scope pos):=
 .val ⟨λP e q=>(Hz (n₀:=0) ok hI I hc (fE.of he) hs).run (Nat.zero_le _) P e q⟩ λZ Z=>rfl
noncomputable def AF(sc scope:Scope)(y:Str)(py cp:Pos):Bool:=sc.names.lookup y==some .local&&py.line==cp.line&&!(scope.names.any λ(n,k)=>n==y&&(k==.local||k==.cell))
theorem KH{env:Env}{gens:List Comprehension}{cp:Pos}{y:Str}{l:Nat}(hk:env.scope.kind=.function):swapsWith (.ListComp elt gens scope cp) (some (.Name y py)) l env=pure (AF env.scope scope y py cp):=by
 have I:env.blockKind=.function:=by unfold Env.blockKind;rw[hk];rfl
 show(pure (env.blockKind==.function&&env.kindOf y==some .local&&py.line==cp.line&&!(scope.names.any λ(n,k)=>n==y&&(k==.local||k==.cell))):Sem Bool)=_
 rw[I]
 exact congrArg pure (by rw[show(ScopeKind.function==ScopeKind.function)=true from rfl,Bool.true_and];rfl)
theorem HE{i:Nat}{y:Str}(fe:iC J.D)(hy:J.D.sl[i]?=some y)(ok:gn J.D scope fr)(hI:gu J it aI iter)(I:kz n t aI fr)(hc:jo (J.bb scope fr) cc ifs)(he:fE (J.bb scope fr) n₀ el elt)(hs:iU iter=false) :
  cX J n₀ (.assign (.slot i) (.comp n t it cc el)) (.Assign [.Name y py] (.ListComp elt [⟨aI,iter,ifs,0⟩] scope pos) HW):=
 ⟨λ{φ c st ak s K Q} ht a e q Z=>by
  have rU:=KH (elt:=elt) (gens:=[⟨aI,iter,ifs,0⟩]) (scope:=scope) (cp:=pos) (py:=py) (y:=y) (l:=HW.line) a.ok.bQ.fr.fn
  cases kZ:AF φ.env.scope scope y py pos with
  | false=>
   rw[kZ] at rU
   refine wpAny_Assign_stores ((Hz ok hI I hc he hs).run (φ:=φ.to c st ak s) ht a.at e λv st' u s' e P=>P.elim λc' p=>?_) rU (yF rfl φ.env)
   rw[mB rfl]
   exact((ym fe hy).run (Q:=λZ s=>Q .next s) nF (a.of p) e q:wpAny _ _ (assign (.Name y py) φ.env u) _ _ _)
  | true=>
   rw[kZ] at rU
   rw[exec_Assign_Name_used _ _ _ _ rU]
   refine wpAny_bind (wpAny_standAt (wpAny_bind ?_))
   show wpAny _ _ (do let _ ←comprehension (.ListComp elt [⟨aI,iter,ifs,0⟩] scope pos) scope φ.env (firstIterPos [⟨aI,iter,ifs,0⟩] pos) (newList []) false (eval iter φ.env) (some (assign (.Name y py) φ.env))) _ _ s
   refine wpAny_bind (wpAny_mono (Q:=λZ s'=>Q .next s') (AG (φ:=φ.to c st ak s) (use:=some (assign (.Name y py) φ.env)) (Q:=λZ s'=>Q .next s') (K:=λacc st=>cM tab (F J.k) (.slot i) (.own (.list acc)) st λst=>K .next st) ok hI I hc he (λenv x=>w9 hs env x) ht a.at e λou c' st' Dd C s' e A hC hn=>?_)
    (λZ s' hq=>wpAny_pure (wpAny_pure hq)) λZ Z e=>e)
   have b:=a.of A
   have b1:Sd J (φ.to c' st' ak s') c' [.own (.list ou)] [.ref Dd] st' ak s':=⟨b.ok,.refl _ _,(Shape.refl _).cE _,b.gd⟩
   refine(ym fe hy).run (φ:=φ.to c' st' ak s') nF b1 e λc₂ df AO aA k fM=>?_
   refine hn.elim λm hn=>?_
   have oC:∀o,s'.heap.get? C=some o->c₂.ow C=some .other/\aA.heap.get? C=some o:=λo z=>fM.mv.ko C o hC.1 z
   have Fu:c₂.ow C=some .other:=hn.elim λo z=>z.elim λZ z=>z.elim λZ z=>(oC o z.1).1
   refine⟨m,hn.at' λo z=>(oC o z).2,λwo wc=>q _ _ _ _ k (Sd.alt (c:=c₂) (c':=c₂.set C none) (P:=(·=C)) (⟨⟨a.ok.rm,fM.ok.bQ⟩,b.mv.trans fM.mv,b.cE.trans fM.cE,fM.gd⟩:Sd J φ c₂ [] [] df AO aA) ⟨rfl,λb (z:b=C)=>z▸⟨_,.inl rfl,Fu⟩,λb o n z=>(wc.2 b n).trans z,λb n=>if_neg n,λb o z e=>nomatch ((if_pos z:(c₂.set C none).ow b=none).symm.trans e)⟩
    (λb z=>z▸⟨Fu,Nw.of a.mv hC.2.1⟩) aA.toks)⟩⟩
end
section
variable{J:Om}{φ:Fm}{c:Cf}{rs:List ER}{vs:List Value}{st:St}{s:Shared}{pos:Pos}
theorem E9{w:World}{B h:Heap}(W:Wd w B)(hB:Sub B h):(h.objs.size==sysModules)=false:=by
 obtain⟨o,es,ep,ho,_⟩:=W.g
 have h1:(3:Nat)<h.objs.size:=Heap.lt_size (hB _ _ ho)
 exact beq_false_of_ne λq=>absurd (q▸h1) (by decide)
theorem A4{w:World}{B:Heap}{s:Shared}(W:Wd w B)(hB:Sub B s.heap):aE w c s (.own (.dict [])) (.ref s.heap.objs.size) {s with heap:=s.heap.push emptyDict}:=
 ⟨_,s.toks,rfl,Sub.push _ _,s.heap.objs.size,rfl,dF _,λo=>⟨if_pos rfl,E9 W hB,Nat.zero_le _,.nil,#[],0,Heap.get?_push_size _ rfl,rfl⟩⟩
theorem AR{Q:Value->Shared->Prop}(W:Wd J.w J.B)(P:At J φ rs vs st s)(q:At J φ (.own (.dict [])::rs) (.ref s.heap.objs.size::vs) st {s with heap:=s.heap.push emptyDict}->Q (.ref s.heap.objs.size) {s with heap:=s.heap.push emptyDict}):wpAny J.M φ.A (eval (.Dict [] [] pos) φ.env) Q φ.E s:=by
 rw[eval_Dict_empty]
 refine wpAny_bind (wpAny_standAt ?_)
 unfold newDict newObj
 exact wpAny_bind (wpAny_alloc (wpAny_pure (q (P.elim λc a=>a.op (A4 W a.gd.base)))))
theorem V2(W:Wd J.w J.B):aB J .qR (.Dict [] [] pos):=.val ⟨λ{φ rs vs st s K Q} P e q=>AR W P λP=>q _ _ _ _ (show K (.val (.ref st.H.length)) {st with H:=st.H++[.dict []]} by obtain⟨σ,lk,κ,H⟩:=st;exact e) P.Ij⟩ λZ Z=>rfl
theorem V1(W:Wd J.w J.B):aB J (.dct .nil) (.Dict [] [] pos):=.val ⟨λ{φ rs vs st s K Q} P e q=>AR W P λP=>q _ _ _ _ (show K (.own (.dict [])) st from e) P⟩ λZ Z=>rfl
structure mr(J:Om)(es:aW)(keys:List (Option Expr))(values:List Expr):Prop where
 run:∀{φ:Fm} {rs:List ER} {vs:List Value} {st:St} {s:Shared} {K:List O->St->Prop} {Q:List (Value×Value)->Shared->Prop} (pos:Pos),At J φ rs vs st s->ed tab (F J.k) es st K->
  (∀l st' us s',K l st'->l.length=es.len->l.length=(us.flatMap λp=>[p.1,p.2]).length->At J φ ((l.map ER.val).reverseAux rs) ((us.flatMap λp=>[p.1,p.2]).reverseAux vs) st' s'->Q us s')->wpAny J.M φ.A (evalPairs (pairTrees keys values φ.env pos)) Q φ.E s
theorem Vi:mr J .nil [] []:=⟨λpos P e q=>evalPairs_nil (q [] _ [] _ e rfl rfl P)⟩
theorem Vh{e e':ME}{x y:Expr}{es:aW}{ks:List (Option Expr)}{ws:List Expr}(h:aB J e x)(h':aB J e' y)(hs:mr J es ks ws):mr J (.cons e (.cons e' es)) (some x::ks) (y::ws):=
 ⟨λpos P e q=>evalPairs_cons (h.e.run P e λr Z v Z e P=>P.last e λa Z e P=>wpAny_bind (h'.e.run P e λr Z u Z e P=>P.last e λb Z e P=>wpAny_bind (wpAny_standAt (wpAny_pure (hs.run pos P e λl Z us Z e n z P=>q (a::b::l) _ ((v,u)::us) _ e (congrArg (·+2) n) (congrArg (·+2) z) P)))))⟩
set_option tactic.hygienic true in
theorem FZ{k v:O}{r:List O}{ps:List (Key×O)}(e:jZ (k::v::r)=some ps):∃k' l,keyOf k=some k'/\jZ r=some l/\ps=(k',v)::l:=by
 have e:(match keyOf k,jZ r with
  | some k,some l=>some ((k,v)::l)
  | _,_=>none)=some ps:=e
 split at e
 .rename_i h1 h2;exact⟨_,_,h1,h2,(Option.some.inj e).symm⟩
 .cases e
theorem F0:∀{l:List O} {ps:List (Key×O)},jZ l=some ps->ps.length<=l.length
 | [],ps,e=>Option.some.inj e▸Nat.le_refl _
 | [_],ps,e=>nomatch e
 | k::v::r,ps,e=>(FZ e).elim λk' z=>z.elim λl z=>z.2.2▸Nat.le_succ_of_le (Nat.succ_le_succ (F0 z.2.1))
theorem D4{w:World}{c:Cf}{h:Heap}{a:O}{v:Value}{k:Key}(x:VR w c h a v)(e:keyOf a=some k):iq k:=by
 unfold keyOf at e
 split at e
 .exact Option.some.inj e▸trivial
 .exact Option.some.inj e▸x.1
 .cases e
theorem F1{w:World}{c:Cf}{h:Heap}:∀{us:List (Value×Value)} {as:List O} {ps:List (Key×O)},aq w c h as (us.flatMap λp=>[p.1,p.2])->jZ as=some ps->∃d1,Carries (keyKind aL w) us d1/\KV w c h ps d1
 | [],[],ps,_,e=>⟨[],trivial,Option.some.inj e▸rfl⟩
 | [],_::_,_,x,_=>x.elim λv x=>x.elim λq x=>nomatch x.1
 | _::_,[],_,x,_=>nomatch x
 | _::_,[_],_,_,e=>nomatch e
 | (kv,vv)::us,a::b::r,ps,x,e=>(FZ e).elim λk z=>z.elim λl z=>by
  refine x.elim λv1 x=>x.elim λq1 x=>x.2.2.elim λv2 y=>y.elim λq2 y=>?_
  have e1:=List.cons.inj (show kv::vv::(us.flatMap λp=>[p.1,p.2])=v1::q1 from x.1)
  have e2:=List.cons.inj (e1.2.trans y.1)
  have xa:VR w c h a kv:=e1.1.symm▸x.2.1
  have xb:VR w c h b vv:=e2.1.symm▸y.2.1
  have xr:aq w c h r (us.flatMap λp=>[p.1,p.2]):=e2.2.symm▸y.2.2
  exact(F1 xr z.2.1).imp' ((k,vv)::·) λd1 p=>⟨⟨lA xa.vw z.1,rfl,p.1⟩,z.2.2▸KV.mk (e:=(k,b)) ⟨D4 xa z.1,xb⟩ p.2⟩
theorem V0{es:aW}{keys:List (Option Expr)}{values:List Expr}(W:Wd J.w J.B)(h:mr J es keys values)(vG:keys.all (·.isSome)=true)(Y:keys.length=values.length)(h0:keys≠[])(hlen:keys.length<=15)(gI:es.len<=30):aB J (.dct es) (.Dict keys values pos):=
 .val ⟨λ{φ rs vs st s K Q} P e q=>wpAny_Dict_any vG Y h0 hlen (P.elim λc a=>by
  have P1:=a.op (A4 W a.gd.base)
  have e:ed tab (F J.k) es st λvs st=>OK (jZ vs) λl=>K (.own (.dict (l.foldl (λd e=>dput d e.1 e.2) []))) st:=e
  refine h.run pos P1 e λl st' us s' k n z P=>aM k λps dw k=>P.elim λc' A=>?_
  have p:=A.vals z
  have Dx:ps.length<=ax:=Nat.le_trans (F0 dw) (Nat.le_trans (Nat.le_of_eq n) (Nat.le_trans gI (by decide)))
  refine(F1 p.2 dw).elim λd1 hk=>p.1.hd.elim λad o=>?_
  obtain⟨how,OA,_,_,it,nn,hg,hv⟩:=o.2
  have I7:s'.heap.DictOf (keyKind aL J.w) ad []:=eP (prog:=aL) (es:=[]) hg .nil hv
  rw[show s.heap.objs.size=ad from Value.ref.inj o.1]
  unfold PySem.storeAll
  refine wpAny_storeAll (knd:=keyKind aL J.w) us d1 [] s' _ hk.1 I7 (by rw[hk.2.len];exact Nat.le_trans (Nat.le_of_eq (Nat.zero_add _)) (bX Dx)) λh' hU d0=>?_
  have lD:∃x,h'.get? ad=some x:=hU.elim λo z=>z.elim λZ z=>z.elim λZ z=>⟨o,z.1⟩
  have B:=p.1.pop
  have L:=eE how d0
  have ne:∀{o:Ow},o≠.tmp rs.length->Kp c' s'.heap (some o) c' h' (some o):=λn=>SameBut.kp d0 λz=>n (Option.some.inj (z.symm.trans how))
  refine q _ _ _ _ k (aF.push (c:=c') ⟨B.ok,⟨by rw[B.mv.se],B.mv.le.trans L,B.mv.ko.trans (ne nofun)⟩,B.ke.trans (ne nofun),B.sh,B.gd.w5 d0 how lD (λj hj z=>Nat.ne_of_lt hj (Ow.tmp.inj z)) B.gd.cO rfl (λZ=>Iff.rfl) (λl k a e e'=>OR.le L k (ne nofun) (B.gd.cq l k a e e')) λi y e=>(B.gd.slt i y e).kp L (ne (o:=.slot i) nofun)⟩
   ⟨ad,rfl,OR.dictOf (prog:=aL) how hU (KV.merge (es:=[]) (l:=[]) rfl (KV.le L hk.2)) OA (Nat.le_trans (oK _ _) (Nat.le_trans (Nat.le_of_eq (Nat.zero_add _)) Dx)) (qT _ _ .nil)⟩))⟩ λZ Z=>rfl
end
noncomputable def runK{α:Type}(n:Nat)(c:Nat->Nat->Bool):KasT α->Option α
 | .ret a=>some a
 | .ask i j k=>if i<n/\j<n/\i≠j then runK n c (k (c i j)) else none
set_option tactic.hygienic true in
theorem GI{α:Type}{n:Nat}{c:Nat->Nat->Bool}{cmp:Nat->Nat->(Bool->Shared->Prop)->Shared->Prop}{Q:α->Shared->Prop}{s:Shared}(hc:∀i j C,i<n->j<n->i≠j->C (c i j) s->cmp i j C s) :
  ∀(t:KasT α) (a:α),runK n c t=some a->Q a s->t.kasWp cmp Q s
 | .ret b,a,e,q=>by cases e;exact q
 | .ask i j k,a,e,q=>by
  rw[runK] at e
  split at e
  .rename_i h
   exact hc i j _ h.1 h.2.1 h.2.2 (GI hc (k (c i j)) a e q)
  .cases e
noncomputable def lists(k:Nat):Nat->List (List Nat)
 | 0=>[[]]
 | n+1=>(lists k n).flatMap λl=>(List.range k).map λx=>x::l
theorem EF{k:Nat}:∀{l:List Nat},(∀x∈l,x<k)->l∈lists k l.length
 | [],_=>by simp[lists]
 | x::l,h=>by
  rw[List.length_cons,lists,List.mem_flatMap]
  exact⟨l,EF (λy hy=>h y (.tail _ hy)),List.mem_map.mpr ⟨x,List.mem_range.mpr (h x (.head _)),rfl⟩⟩
noncomputable def mI(n:Nat)(r:List Nat):Bool:=match runK n (λi j=>decide (r.getD i 0<r.getD j 0)) (kas_sort n) with
 | some p=>p.toList.isPerm (List.range n)&&(p.toList.map λi=>r.getD i 0)==List.range n
 | none=>false
theorem Kv:∀r∈lists 2 2,r.Nodup->mI 2 r=true:=by decide+kernel
theorem Kw:∀r∈lists 3 3,r.Nodup->mI 3 r=true:=by decide+kernel
theorem Kx:∀r∈lists 4 4,r.Nodup->mI 4 r=true:=by decide+kernel
theorem Ky:∀r∈lists 5 5,r.Nodup->mI 5 r=true:=by decide+kernel
theorem Kz{n:Nat}(h2:2<=n)(h5:n<=5){r:List Nat}(Y:r.length=n)(I:∀x∈r,x<n)(hn:r.Nodup):mI n r=true:=by
 have hm:=EF I
 rw[Y] at hm
 obtain rfl | rfl | rfl | rfl:n=2∨n=3∨n=4∨n=5:=by lia
 .exact Kv r hm hn
 .exact Kw r hm hn
 .exact Kx r hm hn
 .exact Ky r hm hn
theorem uH(x y:Int)(h:x<=y):∀l:List Int,l.countP (·<y)=l.countP (·<x)+l.countP (λz=>x<=z&&z<y)
 | []=>rfl
 | z::r=>by
  rw[List.countP_cons,List.countP_cons,List.countP_cons,uH x y h r]
  by_cases h1:z<x
  .have h2:z<y:=by lia
   have h3:¬x<=z:=by lia
   simp[h1,h2,h3];exact Nat.add_right_comm _ _ _
  .by_cases h2:z<y
   .have h3:x<=z:=by lia
    simp[h1,h2,h3];exact Nat.add_assoc _ _ _
   .simp[h1,h2]
noncomputable def rk(l:List Int)(x:Int):Nat:=l.countP (·<x)
theorem xO{l:List Int}{x y:Int}(hx:x∈l)(h:x<y):rk l x<rk l y:=by
 unfold rk
 rw[uH x y (Int.le_of_lt h)]
 have:0<l.countP (λz=>x<=z&&z<y):=List.countP_pos_iff.mpr ⟨x,hx,by simp[h]⟩
 omega
theorem TF{l:List Int}{x y:Int}(h:x<=y):rk l x<=rk l y:=by
 unfold rk;rw[uH x y h];exact Nat.le_add_right _ _
theorem Gw{l:List Int}{x y:Int}(hx:x∈l):rk l x<rk l y ↔ x<y:=by
 constructor
 .intro h
  by_cases q:x<y
  .exact q
  .have:=TF (l:=l) (x:=y) (y:=x) (by lia);lia
 .exact xO hx
theorem TB{l:List Int}{x:Int}(hx:x∈l):rk l x<l.length:=by
 have key:∀m:List Int,x∈m->m.countP (·<x)<m.length:=by
  intro m
  induction m with
  | nil=>intro h;cases h
  | cons z r ih=>
   intro h
   rw[List.countP_cons,List.length_cons]
   have hle:=List.countP_le_length (p:=λz=>decide (z<x)) (l:=r)
   rcases List.mem_cons.mp h with rfl | h
   .simp;omega
   .have:=ih h
    split<;>omega
 exact key l hx
theorem TC{l:List Int}{x y:Int}(hx:x∈l)(hy:y∈l)(h:rk l x=rk l y):x=y:=by
 by_cases h1:x<y
 .have:=xO hx h1;lia
 .by_cases h2:y<x
  .have:=xO hy h2;lia
  .lia
theorem Gx{k:List Int}:∀{l:List Int},(∀x∈l,x∈k)->l.Nodup->(l.map (rk k)).Nodup
 | [],_,_=>.nil
 | x::r,h,hn=>by
  rw[List.nodup_cons] at hn
  rw[List.map_cons,List.nodup_cons]
  refine⟨λm=>?_,Gx (λy hy=>h y (.tail _ hy)) hn.2⟩
  obtain⟨y,hy,e⟩:=List.mem_map.mp m
  exact hn.1 (TC (h y (.tail _ hy)) (h x (.head _)) e▸hy)
theorem s8{α:Type}{f:α->Int}:∀{l m:List α},l.Perm m->l.Pairwise (λa b=>f a<f b)->m.Pairwise (λa b=>f a<f b)->l=m
 | [],m,h,_,_=>by rw[List.nil_perm.mp h]
 | a::l,[],h,_,_=>by simp at h
 | a::l,b::m,h,Y,hm=>by
  rw[List.pairwise_cons] at Y hm
  have ha:a=b∨a∈m:=List.mem_cons.mp (h.subset (.head _))
  have I:b=a∨b∈l:=List.mem_cons.mp (h.symm.subset (.head _))
  have e:a=b:=by
   rcases ha with e | ha
   .exact e
   .rcases I with e | I
    .exact e.symm
    .have h1:=Y.1 b I
     have h2:=hm.1 a ha
     lia
  subst e
  rw[s8 h.cons_inv Y.2 hm.2]
theorem wy(x:Int×O):∀l,(iT x l).Perm (x::l)
 | []=>.refl _
 | y::r=>by
  rw[iT]
  split
  .exact .refl _
  .exact((wy x r).cons y).trans (List.Perm.swap x y r)
theorem lW:∀l,(d8 l).Perm l
 | []=>.refl _
 | x::r=>by rw[d8];exact(wy x _).trans ((lW r).cons x)
set_option tactic.hygienic true in
theorem DK(x:Int×O):∀l:List (Int×O),(∀y∈l,y.1≠x.1)->l.Pairwise (λa b=>a.1<b.1)->(iT x l).Pairwise (λa b=>a.1<b.1)
 | [],_,_=>by simp[iT]
 | y::r,bE,h=>by
  rw[List.pairwise_cons] at h
  rw[iT]
  have hy:=bE y (.head _)
  split
  .rename_i q
   refine List.pairwise_cons.mpr ⟨λz hz=>?_,List.pairwise_cons.mpr h⟩
   rcases List.mem_cons.mp hz with rfl | hz
   .exact q
   .have:=h.1 z hz;lia
  .rename_i q
   refine List.pairwise_cons.mpr ⟨λz hz=>?_,DK x r (λz hz=>bE z (.tail _ hz)) h.2⟩
   rcases List.mem_cons.mp ((wy x r).subset hz) with rfl | hz
   .lia
   .exact h.1 z hz
theorem tx:∀l:List (Int×O),(l.map (·.1)).Nodup->(d8 l).Pairwise (λa b=>a.1<b.1)
 | [],_=>.nil
 | x::r,h=>by
  rw[List.map_cons,List.nodup_cons] at h
  rw[d8]
  refine DK x _ (λy hy e=>?_) (tx r h.2)
  exact h.1 (List.mem_map.mpr ⟨y,(lW r).subset hy,e⟩)
theorem s7{α:Type}(d:α):∀l:List α,(List.range l.length).map (λi=>l.getD i d)=l:=by
 intro l
 apply List.ext_getElem?
 intro i
 rw[List.getElem?_map]
 by_cases h:i<l.length
 .rw[List.getElem?_range h];simp[h]
 .rw[List.getElem?_eq_none (by simp;lia),List.getElem?_eq_none (by lia)];rfl
set_option tactic.hygienic true in
theorem TZ{l:List (Int×O)}{n:Nat}(Y:l.length=n)(h2:2<=n)(h5:n<=5)(hn:(l.map (·.1)).Nodup) :
  ∃p,runK n (λi j=>decide ((l.map (·.1)).getD i 0<(l.map (·.1)).getD j 0)) (kas_sort n)=some p/\p.toList.map (λi=>l.getD i (0,.none))=d8 l/\∀i∈p.toList,i<n:=by
 have hm:∀x∈(l.map (·.1)).map (rk (l.map (·.1))),x<n:=λx hx=>by
  obtain⟨y,hy,rfl⟩:=List.mem_map.mp hx
  have:=TB hy
  rw[List.length_map,Y] at this;exact this
 have hc:=Kz h2 h5 (r:=(l.map (·.1)).map (rk (l.map (·.1)))) (by simp[Y]) hm (Gx (λZ h=>h) hn)
 have hg:∀i,i<n->((l.map (·.1)).map (rk (l.map (·.1)))).getD i 0=rk (l.map (·.1)) ((l.map (·.1)).getD i 0):=λi hi=>by
  have h1:i<l.length:=by lia
  simp[List.getD,h1]
 have hk:∀i,i<n->(l.map (·.1)).getD i 0∈l.map (·.1):=λi hi=>by
  have h1:i<(l.map (·.1)).length:=by simp[Y,hi]
  have:(l.map (·.1)).getD i 0=(l.map (·.1))[i]:=by rw[List.getD_eq_getElem?_getD,List.getElem?_eq_getElem h1];rfl
  rw[this];exact List.getElem_mem _
 have same:∀{α:Type} (t:KasT α),runK n (λi j=>decide (((l.map (·.1)).map (rk (l.map (·.1)))).getD i 0<((l.map (·.1)).map (rk (l.map (·.1)))).getD j 0)) t=runK n (λi j=>decide ((l.map (·.1)).getD i 0<(l.map (·.1)).getD j 0)) t:=by
  intro α t
  induction t with
  | ret a=>rfl
  | ask i j k ih=>
   rw[runK,runK]
   by_cases q:i<n/\j<n/\i≠j
   .rw[if_pos q,if_pos q]
    have e:decide (((l.map (·.1)).map (rk (l.map (·.1)))).getD i 0<((l.map (·.1)).map (rk (l.map (·.1)))).getD j 0)=decide ((l.map (·.1)).getD i 0<(l.map (·.1)).getD j 0):=by
     rw[hg i q.1,hg j q.2.1]
     exact decide_eq_decide.mpr (Gw (hk i q.1))
    rw[e];exact ih _
   .rw[if_neg q,if_neg q]
 unfold mI at hc
 rw[same] at hc
 split at hc
 .rename_i p hp
  rw[Bool.and_eq_true,List.isPerm_iff] at hc
  obtain⟨pp,pr⟩:=hc
  have pr:=eq_of_beq pr
  have pb:∀i∈p.toList,i<n:=λi hi=>List.mem_range.mp (pp.subset hi)
  refine⟨p,hp,s8 (f:=(·.1)) ?_ ?_ (tx l hn),pb⟩
  .refine(pp.map _).trans ?_
   rw[←Y,s7]
   exact(lW l).symm
  .rw[List.pairwise_map]
   have h3:(p.toList.map λi=>((l.map (·.1)).map (rk (l.map (·.1)))).getD i 0).Pairwise (·<·):=by rw[pr];exact List.pairwise_lt_range
   rw[List.pairwise_map] at h3
   refine List.Pairwise.imp_of_mem (λ{a b} ha I h=>?_) h3
   rw[hg a (pb a ha),hg b (pb b I),Gw (hk a (pb a ha))] at h
   have e:∀i,(l.getD i (0,.none)).1=(l.map (·.1)).getD i 0:=λi=>by
    simp only[List.getD,List.getElem?_map]
    cases l[i]?<;>rfl
   rw[e,e];exact h
 .cases hc
section
variable{prog:Program}{w:World}{A:Around}{E:Value->Shared->Prop}{s:Shared}{c:Cf}
theorem WT{h:Heap}{a:Addr}{vs:List Value}{out:Array Value}:∀b o,b≠a->h.get? b=some o->(sortedHeap h a vs out).get? b=some o:=λb o n e=>by
 unfold sortedHeap
 rw[Heap.get?_update_ne _ _ _ _ n]
 refine Heap.get?_push_of_some _ (Heap.get?_push_of_some _ ?_)
 rw[Heap.get?_update_ne _ _ _ _ n]
 exact e
theorem WR{h:Heap}{a:Addr}{vs:List Value}{out:Array Value}{n:Nat}(ho:h.get? a=some (seqObj "list" vs.toArray n)):∃n',(sortedHeap h a vs out).get? a=some (cP out n'):=by
 obtain⟨e1,rP⟩:∃e1,(h.update a (Obj.mapSeq λZ=>#[])).get? a=some (seqObj "list" #[] e1):=⟨_,get?_update_seq ho (λZ=>#[])⟩
 have Od:(((h.update a (Obj.mapSeq λZ=>#[])).push (seqObj "tuple" vs.toArray 0)).push (seqObj "list" #[] 0)).get? a=some (seqObj "list" #[] e1):=Heap.get?_push_of_some _ (Heap.get?_push_of_some _ rP)
 exact⟨_,get?_update_seq Od (λZ=>out)⟩
set_option tactic.hygienic true in
theorem yt{v:O}{r:List O}{kv:List (Int×O)}(e:gf (v::r)=some kv):∃k l,j8 v=some k/\gf r=some l/\kv=(k,v)::l:=by
 have e:(match j8 v,gf r with
  | some k,some l=>some ((k,v)::l)
  | _,_=>none)=some kv:=e
 split at e
 .rename_i h1 h2;exact⟨_,_,h1,h2,(Option.some.inj e).symm⟩
 .cases e
theorem yu:∀{vs:List O} {kv:List (Int×O)},gf vs=some kv->kv.map (·.2)=vs
 | [],kv,e=>Option.some.inj e▸rfl
 | v::r,kv,e=>(yt e).elim λk z=>z.elim λl z=>z.2.2▸congrArg (v::·) (yu z.2.1)
theorem Jp{v:O}{r:List O}(e:allInts (v::r)=true):∃n,v=.int n/\allInts r=true:=by
 cases v with
 | int n=>exact⟨n,rfl,e⟩
 | _=>cases e
theorem Jr{v:O}{r:List O}(e:mx (v::r)=true):∃n,v=.tup n/\mx r=true:=by
 cases v with
 | tup n=>exact⟨n,rfl,e⟩
 | _=>cases e
theorem ints_of{h:Heap}:∀{vs:List O} {l:List Value} {kv:List (Int×O)},aq w c h vs l->allInts vs=true->gf vs=some kv->IntsAre l (kv.map (·.1))/\∀p∈kv,p.2=.int p.1
 | [],l,kv,x,_,e=>Option.some.inj e▸x.nil (P:=λl=>IntsAre l _/\_) ⟨.nil,λp hp=>nomatch hp⟩
 | v::r,l,kv,x,ha,e=>(Jp ha).elim λn q=>(yt e).elim λk z=>z.elim λm z=>x.cons (P:=λl=>IntsAre l _/\_) λu us xv xr=>by
  have ih:=ints_of xr q.2 z.2.1
  have xv:VR w c h (.int n) u:=q.1▸xv
  have hk:k=n:=(Option.some.inj ((congrArg j8 q.1).symm.trans z.1)).symm
  refine xv.elim λt et=>?_
  rw[z.2.2,et,hk]
  exact⟨.cons n t ih.1,λp hp=>(List.mem_cons.mp hp).elim (λe=>e▸q.1) (ih.2 p)⟩
theorem Gv:∀{l:List Int},l.Nodup->l.Pairwise (·<=·)->l.Pairwise (λa b=>id a<id b)
 | [],_,_=>.nil
 | x::r,hn,h=>by
  rw[List.nodup_cons] at hn
  rw[List.pairwise_cons] at h
  refine List.pairwise_cons.mpr ⟨λy hy=>?_,Gv hn.2 h.2⟩
  have h1:=h.1 y hy
  have h2:x≠y:=λq=>hn.1 (q▸hy)
  show x<y
  lia
theorem IH{h:Heap}{l:List Value}{ns:List Int}(x:IntsAre l ns):aq w c h (ns.map .int) l:=by
 induction x with
 | nil=>exact rfl
 | cons n t hr ih=>exact⟨_,_,rfl,⟨t,rfl⟩,ih⟩
theorem Pa{h:Heap}{kv:List (Int×O)}{nI:List Int}{out:Array Value}(hn:(kv.map (·.1)).Nodup)(hi:∀p∈kv,p.2=.int p.1)(hI:IntsAre out.toList nI)(hp:nI.Perm (kv.map (·.1)))(hs:nI.Pairwise (·<=·)):aq w c h ((d8 kv).map (·.2)) out.toList:=by
 have e:nI=(d8 kv).map (·.1):=by
  refine s8 (f:=id) (hp.trans ((lW kv).map _).symm) (Gv (hp.nodup_iff.mpr hn) hs) ?_
  rw[List.pairwise_map];exact tx kv hn
 have e2:(d8 kv).map (·.2)=nI.map .int:=by
  rw[e,List.map_map]
  exact List.map_congr_left λp hp=>hi p ((lW kv).subset hp)
 rw[e2];exact IH hI
def TupAt(h:Heap)(v:Value)(k:Int):Prop:=∃b m t r,v=.ref b/\h.get? b=some (jf ⟨.int k t::r⟩ m)
theorem TupAt.of{h:Heap}{v:Value}{k:Int}{t:Tok}{b:Addr}{xs:Array Value}{m:Nat}(e:v=.ref b)(ho:h.get? b=some (jf xs m))(hx:xs[0]?=some (.int k t)):TupAt h v k:=by
 obtain⟨_ | ⟨y,r⟩⟩:=xs
 .cases hx
 .exact⟨b,m,t,r,e,Option.some.inj hx▸ho⟩
noncomputable def ej(h:Heap):List Value->List Int->Prop
 | [],[]=>True
 | v::vs,k::ks=>TupAt h v k/\ej h vs ks
 | _,_=>False
theorem ej.len{h:Heap}:∀{vs:List Value} {ks:List Int},ej h vs ks->ks.length=vs.length
 | [],[],_=>rfl
 | v::vs,k::ks,x=>congrArg Nat.succ x.2.len
 | [],_::_,x=>x.elim
 | _::_,[],x=>x.elim
theorem ej.mono{h h':Heap}(hk:∀b o,h.get? b=some o->o.cls=.type "tuple"->h'.get? b=some o):∀{vs:List Value} {ks:List Int},ej h vs ks->ej h' vs ks
 | [],[],_=>trivial
 | v::vs,k::ks,x=>⟨x.1.imp λb x=>x.imp λm x=>x.imp λt x=>x.imp λr x=>⟨x.1,hk b _ x.2 rfl⟩,x.2.mono hk⟩
 | [],_::_,x=>x.elim
 | _::_,[],x=>x.elim
theorem ej.get{h:Heap}:∀{vs:List Value} {ks:List Int},ej h vs ks->∀i,i<vs.length->TupAt h (vs.getD i .none) (ks.getD i 0)
 | v::vs,k::ks,x,0,hi=>x.1
 | v::vs,k::ks,x,i+1,hi=>x.2.get i (Nat.lt_of_succ_lt_succ hi)
 | [],_::_,x,_,_=>x.elim
 | _::_,[],x,_,_=>x.elim
theorem X2{prog:Program}{w:World}{A:Around}{E:Value->Shared->Prop}{s:Shared}{v v':Value}{k k':Int}{C:Bool->Shared->Prop}(x:TupAt s.heap v k)(y:TupAt s.heap v' k')(bE:(k==k')=false)(hC:C (decide (k<k')) s) :
  wpAny (model prog w) A (keyLt' (tuples' true) v v') C E s:=by
 obtain⟨b,m,t,r,e1,g1⟩:=x
 obtain⟨b',m',t',r',e2,g2⟩:=y
 rw[e1,e2]
 refine kat_lt g1 rfl g2 rfl ?_
 rw[List.zip_cons_cons]
 refine kat_cons (wpAny_eqBool_int ?_)
 rw[bE]
 exact kat_no (oneLt_int hC)
theorem MR{l:List Int}(hn:l.Nodup){i j:Nat}(hi:i<l.length)(hj:j<l.length)(vV:i≠j):(l.getD i 0==l.getD j 0)=false:=by
 rw[beq_eq_false_iff_ne,List.getD_eq_getElem?_getD,List.getD_eq_getElem?_getD,List.getElem?_eq_getElem hi,List.getElem?_eq_getElem hj]
 exact λq=>vV ((List.getElem_inj hn).mp q)
theorem ej.D0{h:Heap}:∀{vs:List Value} {ks:List Int},ej h vs ks->∃fs,KatTups h vs fs/\fs.length=vs.length/\∀v∈fs,∃n t,v=Value.int n t
 | [],[],_=>⟨[],.nil,rfl,λv hv=>by cases hv⟩
 | v::vs,k::ks,x=>uU x.1 λb m t r e=>x.2.D0.elim λfs z=>⟨_::fs,e.1▸.cons e.2 rfl rfl rfl z.1,congrArg Nat.succ z.2.1,λv hv=>(List.mem_cons.mp hv).elim (λh=>h▸⟨k,t,rfl⟩) (z.2.2 v)⟩
 | [],_::_,x=>x.elim
 | _::_,[],x=>x.elim
theorem WQ:∀{kv:List (Int×O)},kv.length<2->d8 kv=kv
 | [],_=>rfl
 | [_],_=>rfl
 | _::_::r,h=>absurd h (Nat.not_lt.mpr (Nat.le_add_left 2 r.length))
theorem PS{a:Addr}{vs:List Value}{kv:List (Int×O)}{n:Nat}{P:PySem.Fin->Shared->Prop}(ho:s.heap.get? a=some (seqObj "list" vs.toArray n))(ht:ej s.heap vs (kv.map (·.1)))(hn:(kv.map (·.1)).Nodup)(h5:vs.length<=5)
  (h:∀p:List Nat,p.map (λi=>kv.getD i (0,.none))=d8 kv->(∀i∈p,i<vs.length)->P (.done (.ret .none)) {s with heap:=sortedHeap s.heap a vs (p.map λi=>vs.getD i .none).toArray}) :
  wpAny (model prog w) A (Builtin.«list.sort» ⟨[.ref a],[]⟩) P E s:=by
 rw[list_sort_plain]
 have ha:a<s.heap.objs.size:=Heap.lt_size ho
 have k6:kv.length=vs.length:=by have:=ht.len;rw[List.length_map] at this;exact this
 refine wpAny_bind (listItems_at ho rfl ?_)
 refine wpAny_bind (listUpdate_at ho rfl ?_ (by rw[List.size_toArray,sizeLine_eq];exact Nat.le_trans (by assumption) (by decide)) (Nat.zero_le _))
 obtain⟨e1,rP⟩:∃e1,(s.heap.update a (Obj.mapSeq λZ=>(#[]:Array Value))).get? a=some (seqObj "list" #[] e1):=⟨_,get?_update_seq ho (λZ=>#[])⟩
 refine wpAny_bind (seqEpoch_at rP rfl ?_)
 refine wpAny_bind (wpAny_newTuple ?_ (by show vs.length<=_;rw[sizeLine_eq];exact Nat.le_trans (by assumption) (by decide)))
 refine wpAny_bind (wpAny_newList ?_ (Nat.zero_le _))
 refine wpAny_holding ?_
 have rQ:(((s.heap.update a (Obj.mapSeq λZ=>(#[]:Array Value))).push (seqObj "tuple" vs.toArray 0)).push (seqObj "list" #[] 0)).get? a=some (seqObj "list" #[] e1):=Heap.get?_push_of_some _ (Heap.get?_push_of_some _ rP)
 show wpAny (model prog w) A _ P E {s with heap:=((s.heap.update a (Obj.mapSeq λZ=>(#[]:Array Value))).push (seqObj "tuple" vs.toArray 0)).push (seqObj "list" #[] 0)}
 dsimp only
 have lg:vs.toArray.size=vs.length:=by simp
 have YP:∀l:List Nat,(l.map λi=>vs.getD i Value.none).toArray.size<=sizeLine+1->True:=λZ Z=>trivial
 by_cases h2:vs.toArray.size<2
 .rw[if_pos h2,if_pos h2]
  refine wpAny_bind (wpAny_pure ?_)
  rw[StateT.run_pure]
  refine wpAny_bind (wpAny_pure ?_)
  dsimp only
  refine wpAny_bind (seqEpoch_at rQ rfl ?_)
  refine wpAny_bind (listUpdate_at rQ rfl ?_ (Nat.zero_le _) (by rw[Array.size_map];show(pairsOf vs).size<=_;rw[pairsOf_size,sizeLine_eq];exact Nat.le_trans (by assumption) (by decide)))
  simp only[bne_self_eq_false,Bool.false_eq_true,if_false]
  refine wpAny_pure ?_
  have key:=h (List.range vs.length) (by
   rw[←k6,s7]
   exact(WQ (Nat.lt_of_le_of_lt (Nat.le_of_eq (k6.trans lg.symm)) h2)).symm) (λi hi=>List.mem_range.mp hi)
  rw[s7] at key
  have e:((arrOf (SortSt.mk' general' (vs.toArray.zip vs.toArray) #[] 7 none)).map (·.2))=vs.toArray:=by
   show(vs.toArray.zip vs.toArray).map (·.2)=vs.toArray
   apply Array.ext'
   simp[List.map_snd_zip]
  rw[e]
  exact key
 .rw[if_neg h2,if_neg h2]
  have Dz:2<=vs.length:=by lia
  have tk:∀b o,s.heap.get? b=some o->o.cls=.type "tuple"->(((s.heap.update a (Obj.mapSeq λZ=>(#[]:Array Value))).push (seqObj "tuple" vs.toArray 0)).push (seqObj "list" #[] 0)).get? b=some o:=λb o q hc=>by
   refine Heap.get?_push_of_some _ (Heap.get?_push_of_some _ ?_)
   rw[Heap.get?_update_ne _ _ _ _ (λz=>by rw[z,ho] at q;cases q;exact absurd (Value.type.inj hc) (by decide))]
   exact q
  have pq:=ht.mono tk
  obtain⟨fs,kt,kl,ki⟩:=pq.D0
  refine wpAny_bind (kat_kind (s:={s with heap:=((s.heap.update a (Obj.mapSeq λZ=>(#[]:Array Value))).push (seqObj "tuple" vs.toArray 0)).push (seqObj "list" #[] 0)}) (T:=.type "int") kt (by lia) (λv hv=>by
   obtain⟨n,t,rfl⟩:=ki v hv
   exact Looks.now) rfl ?_)
  have I:(Value.type "int" != Value.type "tuple")=true:=by decide
  rw[I]
  obtain⟨p,hp,dw,Oj⟩:=TZ k6 Dz h5 hn
  refine wpAny_bind (wpAny_mono (kat_run (vs:=vs) (ks:=vs) (κ:=tuples' true) (s:={s with heap:=((s.heap.update a (Obj.mapSeq λZ=>(#[]:Array Value))).push (seqObj "tuple" vs.toArray 0)).push (seqObj "list" #[] 0)})
   (Q:=λst' s'=>s'={s with heap:=((s.heap.update a (Obj.mapSeq λZ=>(#[]:Array Value))).push (seqObj "tuple" vs.toArray 0)).push (seqObj "list" #[] 0)}/\p.size=vs.length/\arrOf st'=p.map (kas_item (vs.toArray.zip vs.toArray))/\failedOf st'=none)
   (G:=λp' s'=>p'=p/\s'={s with heap:=((s.heap.update a (Obj.mapSeq λZ=>(#[]:Array Value))).push (seqObj "tuple" vs.toArray 0)).push (seqObj "list" #[] 0)})
   rfl Dz (by exact Nat.lt_of_le_of_lt (by assumption) (by decide)) (λp' st' s' h1 h2 h3 h4=>by obtain⟨rfl,rfl⟩:=h4;exact⟨rfl,h1,h2,h3⟩) (GI (λi j C hi hj vV hC=>?_) _ _ hp ⟨rfl,rfl⟩)) (λr s' hr=>?_) λZ Z e=>e)
  .exact X2 (pq.get i hi) (pq.get j hj) (MR hn (by rw[List.length_map,k6];exact hi) (by rw[List.length_map,k6];exact hj) vV) hC
  .obtain⟨⟨⟩,st'⟩:=r
   obtain⟨rfl,rR,iP,pd⟩:=hr
   dsimp only at iP pd ⊢
   have A8:=kat_snds (vs:=vs) (ks:=vs) rfl iP
   refine wpAny_bind (seqEpoch_at rQ rfl ?_)
   refine wpAny_bind (listUpdate_at rQ rfl ?_ (Nat.zero_le _) (by rw[A8,List.size_toArray,List.length_map,Array.length_toList,rR,sizeLine_eq];exact Nat.le_trans (by assumption) (by decide)))
   rw[pd]
   simp only[bne_self_eq_false,Bool.false_eq_true,if_false]
   refine wpAny_pure ?_
   rw[A8]
   exact h p.toList dw Oj
end
section
variable{prog:Program}{w:World}{A:Around}{E:Value->Shared->Prop}{s:Shared}{c:Cf}
theorem HP{v:Value}{P:Heap->List Value->Prop}{Q:Value->Shared->Prop}(hh:A.handled=none)
  (hc:∀{A':Around} {R:List Value->Shared->Prop},A'.handled=none->(∀h' tk vs,Sub s.heap h'->P h' vs->R vs {s with heap:=h',toks:=tk})->wpAny (model prog w) A' (collect v) R E s) (hlen:∀h' vs,P h' vs->vs.length<=sizeLine)
  (hs:∀{A':Around} {R:PySem.Fin->Shared->Prop} (h' aV:Heap) (tk:Nat) (D:Addr) (vs:List Value),Sub s.heap h'->P h' vs->Sub h' aV->aV.get? D=some (seqObj "list" vs.toArray 0)->h'.get? D=none->(∀s',Q (.ref D) s'->R (.done (.ret .none)) s')->wpAny (model prog w) A' (Builtin.«list.sort» ⟨[.ref D],[]⟩) R E {s with heap:=aV,toks:=tk}) :
  wpAny (model prog w) A (call (.builtin "sorted") [v]) Q E s:=by
 refine Calls.call_function_entry kind_sorted plain_sorted entry_sorted (args_sorted1 _) ?_
 unfold Builtin.«sorted»
 refine wpAny_bind (m:=checkCount "sorted" 1 1 _) (wpAny_pure ?_)
 refine wpAny_bind (hc (A':=A.in1) hh λh' tk vs sub hp=>?_)
 refine wpAny_bind (wpAny_newList ?_ (hlen h' vs hp))
 have Ds:(h'.push (seqObj "list" vs.toArray 0)).get? h'.objs.size=some (seqObj "list" vs.toArray 0):=Heap.get?_push_size _ rfl
 refine wpAny_bind (wpAny_holding (wpAny_call_entry slot_list_sort ⟨_,Ds,rfl⟩ entry_list_sort ?body (args_list_sort _)))
 case body=>
  refine hs h' (h'.push (seqObj "list" vs.toArray 0)) tk h'.objs.size vs sub hp (Sub.push _ _) Ds (dF _) λs' hq=>⟨_,rfl,?_⟩
  exact wpAny_pure ⟨_,rfl,hq⟩
theorem KD{a:Addr}{items:Array Value}{n:Nat}(ho:s.heap.get? a=some (cP items n))(Y:items.size<=sizeLine){A':Around}{R:List Value->Shared->Prop}
  (h:∀h' tk vs,Sub s.heap h'->vs=items.toList->R vs {s with heap:=h',toks:=tk}):wpAny (model prog w) A' (collect (.ref a)) R E s:=by
 have hL:s.heap.IsList a items.toList.toArray:=by rw[Array.toArray_toList];exact⟨_,ho,rfl,n,rfl⟩
 refine collect_list hL (h _ s.toks _ (λb o q=>?_) rfl) (by simpa using Y)
 have I:b<s.heap.objs.size:=Heap.lt_size q
 rw[Heap.get?_update_ne _ _ _ _ (Nat.ne_of_lt I)]
 exact Heap.get?_push_of_some _ q
theorem Il{h:Heap}:∀{vs:List O} {l:List Value} {kv:List (Int×O)},aq w c h vs l->mx vs=true->gf vs=some kv->ej h l (kv.map (·.1))
 | [],l,kv,x,_,e=>Option.some.inj e▸x.nil (P:=λl=>ej h l _) trivial
 | v::r,l,kv,x,ha,e=>(Jr ha).elim λts q=>(yt e).elim λk z=>z.elim λm z=>x.cons (P:=λl=>ej h l _) λu us xv xr=>by
  have ih:=Il xr q.2 z.2.1
  have xv:VR w c h (.tup ts) u:=q.1▸xv
  have hk:j8 (.tup ts)=some k:=q.1▸z.1
  rw[z.2.2]
  refine⟨?_,ih⟩
  cases ts with
  | nil=>cases hk
  | cons a ts=>cases a with
   | int n=>
    refine xv.2.elim λa p=>p.elim λit p=>p.elim λnn p=>p.2.2.2.elim λu' y=>y.elim λq' y=>y.2.1.elim λt et=>.of (t:=t) p.1 p.2.2.1 ?_
    rw[←Array.getElem?_toList,y.1,et]
    exact congrArg (λk=>some (Value.int k t)) (Option.some.inj hk)
   | _=>cases hk
set_option tactic.hygienic true in
theorem HO{A':Around}{R:PySem.Fin->Shared->Prop}{h' aV:Heap}{tk:Nat}{D:Addr}{vs:List Value}{as l:List O}(sub:Sub s.heap h')(hv:aq w c h' as vs)(nW:Sub h' aV)(ho:aV.get? D=some (seqObj "list" vs.toArray 0))(hf:h'.get? D=none)(Y:as.length<=ax)
  (e:gU as=some l) (hR:∀s',aE w c s (.own (.list l)) (.ref D) s'->R (.done (.ret .none)) s'):wpAny (model prog w) A' (Builtin.«list.sort» ⟨[.ref D],[]⟩) R E {s with heap:=aV,toks:=tk}:=by
 unfold gU at e
 split at e
 case h_2=>cases e
 rename_i kv hk
 have e:=bh e
 obtain⟨⟨hn,hc⟩,e⟩:=e
 have e:=Option.some.inj e
 have YS:vs.length=as.length:=hv.get.1.symm
 have k6:kv.length=as.length:=(List.length_map _).symm.trans (congrArg List.length (yu hk))
 have rW:aq w c aV as vs:=aq.le nW.le _ hv
 have N7:∀b o,h'.get? b=some o->b≠D:=λb o q z=>nomatch (z▸hf).symm.trans q
 have fin:∀out:Array Value,aq w c h' ((d8 kv).map (·.2)) out.toList->R (.done (.ret .none)) {s with heap:=sortedHeap aV D vs out,toks:=tk}:=λout Oe=>by
  have k:Sub h' (sortedHeap aV D vs out):=λb o q=>WT b o (N7 b o q) (nW b o q)
  refine(WR (out:=out) ho).elim λn' dk=>hR _ ⟨_,tk,rfl,λb o q=>k b o (sub b o q),D,rfl,?_,λo=>⟨if_pos rfl,?_,out,n',dk,e▸aq.le ((Le.set hf).trans k.le) _ Oe⟩⟩
  .cases q:s.heap.get? D with
   | none=>rfl
   | some o=>exact nomatch hf.symm.trans (sub D o q)
  .rw[←e,List.length_map,(lW kv).length_eq,k6];exact Y
 rcases hc with⟨YC,hi⟩ | ⟨h5,ht⟩
 .have q:=ints_of rW hi hk
  exact list_sort_tree (s:={s with heap:=aV,toks:=tk}) ho q.1 (by lia) λout nI a1 a2 a3=>fin out (Pa hn q.2 a1 a2 a3)
 .refine PS (s:={s with heap:=aV,toks:=tk}) ho (Il rW ht hk) hn (by lia) λp hp I=>fin _ ?_
  rw[←hp,List.map_map]
  refine .xg (by rw[List.length_map,List.toList_toArray,List.length_map]) λi a v ea ev=>?_
  rw[List.getElem?_map] at ea
  rw[List.toList_toArray,List.getElem?_map] at ev
  refine(Option.map_eq_some_iff.mp ea).elim λj q=>?_
  have ev:=(congrArg (Option.map _) q.1).symm.trans ev
  have hj:=I j (List.mem_of_getElem? q.1)
  have rJ:j<kv.length:=by lia
  refine q.2▸Option.some.inj ev▸hv.get.2 j _ _ ?_ ?_
  .rw[←yu hk,List.getElem?_map,List.getElem?_eq_getElem rJ]
   exact congrArg (λp:Int×O=>some p.2) (hN (d:=(0,O.none)) (List.getElem?_eq_getElem rJ)).symm
  .rw[List.getElem?_eq_getElem hj]
   exact congrArg some (hN (d:=Value.none) (List.getElem?_eq_getElem hj)).symm
end
theorem JR:bR (.builtin "sorted") .sorted:=⟨λ{J A E c s as vals r} C x e=>x.r1 e λa v y e=>by
 refine(sW e).elim λk p=>?_
 have y:=p.1▸y
 cases k with
 | inst _ _=>exact nomatch p.2
 | list vs=>
  refine(Option.map_eq_some_iff.mp p.2).elim λout q=>q.2▸VW.list y λl items n hlen ho wj=>HP (P:=λh' us=>us=items.toList) C.hd (λDe h=>KD ho (wj.size.symm▸bX hlen) λh' tk us sub e=>h h' tk us sub e) (λh' us e=>by rw[e,Array.length_toList,wj.size];exact bX hlen) λh' aV tk D us sub e nW hD hf hR=>?_
  exact HO sub (e▸aq.le sub.le _ wj) nW hD hf hlen q.1 hR
 | dict es=>
  refine(Option.map_eq_some_iff.mp p.2).elim λout q=>q.2▸VW.dict y λl items n hs hlen N9 ho gI=>?_
  refine(eP (prog:=aL) ho N9 gI).dictAt.elim λep DA=>?_
  have z:=iB gI
  refine HP (P:=λh' us=>aq J.w c h' (es.map λe=>fJ e.1) us) C.hd (λDe h=>kdu_collect (kdl_dict (knd:=keyKind aL J.w) (ep:=ep) hs) De DA (by rw[z];exact bX hlen) λh' tk acc sub hI=>h h' tk _ sub ?_) (λh' us e=>by rw[←e.get.1,List.length_map];exact bX hlen) λh' aV tk D us sub e nW hD hf hR=>?_
  .have OG:=Mine.Internal.ItemsOf.IG (w:=J.w) (c:=c) (h:=h') (f:=λi=>(es.map λe=>fJ e.1).getD i .none) hI λi v hp=>hp.elim λk hp=>hp.elim λu hp=>by
    have NM:i<es.length:=z▸cu hp.1
    have he:es[i]?=some (es[i].1,es[i].2):=List.getElem?_eq_getElem NM
    have w:=gI.wM i _ _ he
    refine w.1.elim λu' hu=>?_
    have ek:es[i].1=k:=congrArg Prod.fst (Option.some.inj (hu.symm.trans hp.1))
    rw[show(es.map λe=>fJ e.1).getD i .none=fJ es[i].1 from hN (by rw[List.getElem?_map,he];rfl)]
    exact zi (ek.symm▸hp.2) w.2
   have e2:(List.range (dh es items.toList).length).map (λi=>(es.map λe=>fJ e.1).getD i .none)=es.map λe=>fJ e.1:=by
    rw[z,←List.length_map (f:=λe:Key×O=>fJ e.1)]
    exact s7 O.none _
   exact e2▸OG
  .exact HO sub e nW hD hf (by rw[List.length_map];exact hlen) q.1 hR⟩
end Mine.Internal
namespace Mine.Internal
open PySem PySem.Calls PyProof.Rows PySem.W
open Sem (wp)
theorem PR:typeLookup (.type "list") "keys" = pure none:=by rw[typeLookup_type,builtinLookup_eq_fast];kernel_rfl
theorem MQ{prog:Program}{w:World}{A:Around}{E:Value->Shared->Prop}{s:Shared}{a:Addr}{xs:Array Value}{k:Nat}{Q:Option Value->Shared->Prop}
  (hx:s.heap.get? a=some {cls:=.type "list",data:=.seq xs k}) (hA:A.handled=none) (h:∀h' tk,(∀b o,s.heap.get? b=some o->h'.get? b=some o)->Q none {s with heap:=h',toks:=tk}) :
  wpAny (model prog w) A (getAttr? (.ref a) "keys") Q E s:=by
 obtain⟨hp,g,d,tk,os⟩:=s
 have hT:∀eM,(⟨hp,g,d,eM,os⟩:Shared).TypeIs (.ref a) "list":=λZ=>⟨_,hx,rfl⟩
 have f1:=sub_AttributeError
 have f3:=PySem.F.slot_list_getattribute.lookup
 have f4:=PySem.F.slot_list_getattribute.bind (.ref a)
 have f5:=am_list_getattr_none
 unfold getAttr?
 refine wpAny_bind (wpAny_mkText ?_)
 unfold getAttrBy?
 refine wpAny_bind (wpAny_attempt ?_)
 unfold getAttrBy
 repeat (any_goals (first | assumption | exact hT _ | ((with_reducible show wpAny _ _ (call (Value.builtin "list.__getattribute__") _) _ _ _);refine call_meets PySem.F.slot_list_getattribute (hT _) am_entry_list_getattribute (PySem.F.args_list_getattribute_2 _ _) (meets_getattribute_miss_list a xs k #[] "keys" _ PR (by decide+kernel) (by decide+kernel)) ⟨hx,hA,λh' tk e aU=>?_⟩) | wp_step))
 refine oN aU.there λt' u' he=>?_
 show wpAny _ _ (getattributeRaised _ _ _ _ _ _ _) _ _ _
 unfold getattributeRaised
 repeat (any_goals (first | assumption | wp_step))
 exact h _ _ aU.keeps
theorem A5:entryFor table "dict.update.loop" = some Builtin.«dict.update.loop»:=entryFor_of_tree (by kernel_rfl)
theorem sU:plainId "dict.update.loop" = true:=by decide+kernel
section
variable{prog:Program}{w:World}{A:Around}{E:Value->Shared->Prop}{s:Shared}{c:Cf}
theorem S0{v:Addr}{items:Array Value}{n:Nat}{Q:List Value->Shared->Prop}(ho:s.heap.get? v=some (jf items n))(h:Q items.toList s):wpAny (model prog w) A (Builtin.Dict.pairItems (.ref v)) Q E s:=by
 unfold Builtin.Dict.pairItems
 refine wpAny_bind (wpAny_typeOf ⟨_,ho,rfl⟩ ?_)
 rw[if_pos (by decide)]
 refine wpAny_bind ?_
 unfold seqItems?
 refine wpAny_bind (wpAny_load ho ?_)
 exact wpAny_pure (wpAny_pure h)
theorem sQ:∀{as:List O} {ps:List (Key×O)},pV as=some ps->ps.length=as.length/\∀(i:Nat) (a:O),as[i]?=some a->∃kv v k,a=O.tup [kv,v]/\keyOf kv=some k/\ps[i]?=some (k,v)
 | [],ps,e=>Option.some.inj e▸⟨rfl,λi a h=>nomatch h⟩
 | a::r,ps,e=>(sZ e).elim λl z=>oN (Tr z.2) λk v y=>(Option.bind_eq_some_iff.mp y.2).elim λkk q=>(Option.map_eq_some_iff.mp q.2).elim λl' p=>by
  have ih:=sQ p.1
  rw[←p.2,z.1,y.1]
  exact⟨congrArg Nat.succ ih.1,λi a hi=>match i,hi with
   | 0,hi=>⟨k,v,kk,(Option.some.inj hi).symm,q.1,rfl⟩
   | i+1,hi=>ih.2 i a hi⟩
theorem DictOf.kp{w:World}{h h':Heap}{d:Addr}{d1:List (Key×Value)}(x:h.DictOf (keyKind prog w) d d1)(k:∀o,h.get? d=some o->h'.get? d=some o):h'.DictOf (keyKind prog w) d d1:=x.imp λo x=>x.imp λes x=>x.imp λep x=>⟨k o x.1,x.2⟩
theorem Ez(hh:A.handled=none){ah l d:Addr}{as:List O}{items:Array Value}{nl:Nat}{ps:List (Key×O)}{R:Result->Shared->Prop}(dw:pV as=some ps)(hlen:as.length<=ax)(kY:ah≠d)(Y:l≠ah)(Dk:l≠d)(CT:c.ow d≠none)(rz:c.ow ah≠none)
  (hR:∀h' eM wQ,h'.DictOf (keyKind prog w) d wQ->KV w c h' (ps.foldl (λd e=>dput d e.1 e.2) []) wQ->(∀b o,b≠ah->b≠d->s.heap.get? b=some o->h'.get? b=some o)->R (.ok (.ret .none)) {s with heap:=h',toks:=eM}) :
  ∀(m i:Nat) (h:Heap) (tk:Nat) (acc:List (Key×O)) (d1:List (Key×Value)),m=as.length - i->i<=as.length->h.IsListIter ah l i->h.get? l=some (cP items nl)->aq w c h as items.toList->h.DictOf (keyKind prog w) d d1->KV w c h acc d1->acc=(ps.take i).foldl (λd e=>dput d e.1 e.2) []->(∀b o,b≠ah->b≠d->s.heap.get? b=some o->h.get? b=some o)->
   codeAny (model prog w) A (.builtin "dict.update.loop" ⟨[.ref d,.ref ah,rawInt i,.none],[]⟩) R {s with heap:=h,toks:=tk}
 | 0,i,h,tk,acc,d1,hm,hi,hit,ho,hv,hd,o7,rA,hk=>by
  have Di:i=as.length:=Nat.le_antisymm hi (Nat.le_of_sub_eq_zero hm.symm)
  refine codeAny_builtin A5 ?_
  rw[Around.under_plainId sU _]
  show wpAny _ _ (Builtin.«dict.update.loop» ⟨[.ref d,.ref ah,.int (i:Int) 0,.none],[]⟩) _ _ _
  unfold Builtin.«dict.update.loop»
  refine wpAny_bind (wpAny_pyNext_list_end (s:={s with heap:=h,toks:=tk}) hh hit ⟨_,ho,rfl,nl,rfl⟩ (Array.getElem?_eq_none (by rw[hv.size,Di];exact Nat.le_refl _)) λh' hx=>?_)
  show wpAny _ _ (Builtin.Dict.addKeywords d [] >>= _) _ _ _
  refine wpAny_bind (wpAny_pure (wpAny_pure (hR h' tk d1 (DictOf.kp hd λo q=>hx d o kY.symm q) ?_ λb o n1 n2 q=>hx b o n1 (hk b o n1 n2 q))))
  rw[rA,Di,←(sQ dw).1,List.take_length] at o7
  exact KV.le ⟨λZ Z e=>e,λb o e e'=>⟨e,hx b o (λz=>rz (z▸e)) e'⟩⟩ o7
 | m+1,i,h,tk,acc,d1,hm,hi,hit,ho,hv,hd,o7,rA,hk=>by
  have bD:i<as.length:=by lia
  have pl:=sQ dw
  refine(hv.at (List.getElem?_eq_getElem bD)).elim λx hx=>(pl.2 i as[i] (List.getElem?_eq_getElem bD)).elim λkv z=>z.elim λv z=>z.elim λkey z=>?_
  have xv:VR w c h (.tup [kv,v]) x:=z.1▸hx.2
  refine xv.2.elim λa p=>p.elim λni p=>p.elim λn p=>p.2.2.2.elim λck y=>y.elim λq y=>y.2.2.elim λcv y'=>y'.elim λq2 y'=>?_
  have Lk:ni.toList=[ck,cv]:=y.1.trans (congrArg (ck::·) (y'.1.trans (congrArg (cv::·) y'.2.2)))
  refine codeAny_builtin A5 ?_
  rw[Around.under_plainId sU _]
  show wpAny _ _ (Builtin.«dict.update.loop» ⟨[.ref d,.ref ah,.int (i:Int) 0,.none],[]⟩) _ _ _
  unfold Builtin.«dict.update.loop»
  refine wpAny_bind (wpAny_pyNext_list_item (s:={s with heap:=h,toks:=tk}) hit ⟨_,ho,rfl,nl,rfl⟩ hx.1 λaV NQ pj=>?_)
  have k1:∀b o,b≠ah->h.get? b=some o->aV.get? b=some o:=λb o nb e=>(pj.2 b nb).trans e
  rw[p.1]
  refine wpAny_bind (wpAny_holding (wpAny_bind (wpAny_tryCatch (S0 (s:={s with heap:=aV,toks:=tk}) (k1 a _ (λz=>rz (z▸p.2.1)) p.2.2.1) ?_))))
  rw[Lk]
  have Nf:acc.length<=ax:=by
   rw[rA]
   have:=oK (ps.take i) []
   rw[List.length_take,List.length_nil,Nat.zero_add] at this
   lia
  refine wpAny_holding (wpAny_dictSet_pairs (s:={s with heap:=aV,toks:=tk}) (lA (prog:=prog) (w:=w) (VR.vw y.2.1) z.2.1) (DictOf.kp hd λo q=>k1 d o kY.symm q) (λia Nt rV=>?_) (by rw[o7.len];exact bX Nf))
  have k2:∀b o,b≠ah->b≠d->h.get? b=some o->ia.get? b=some o:=λb o n1 n2 e=>(rV.2 b n2).trans (k1 b o n1 e)
  have L:Le c h c ia:=⟨λZ Z e=>e,λb o e e'=>⟨e,k2 b o (λz=>rz (z▸e)) (λz=>CT (z▸e)) e'⟩⟩
  refine wpAny_pure ⟨plainId_quiet sU _,?_⟩
  rw[show rawInt ((i:Int)+1)=rawInt ((i+1:Nat):Int) by rw[Int.natCast_add];rfl]
  refine Ez hh dw hlen kY Y Dk CT rz hR m (i+1) ia _ (dput acc key v) (stored d1 key cv) (by lia) bD (NQ.at λo e=>(rV.2 ah kY).trans e) (k2 l _ Y Dk ho) (aq.le L _ hv) Nt ((KV.le L o7).put ⟨D4 y.2.1 z.2.1,VR.le L _ y'.2.1⟩) ?_ λb o n1 n2 q=>k2 b o n1 n2 (hk b o n1 n2 q)
  rw[List.take_add_one,z.2.2,List.foldl_append,←rA]
  rfl
theorem Kr(hh:A.handled=none){l:Addr}{items:Array Value}{n:Nat}{as:List O}{ps:List (Key×O)}(ho:s.heap.get? l=some (cP items n))(hv:aq w c s.heap as items.toList)(hlen:as.length<=ax)(dw:pV as=some ps)(hs:(s.heap.objs.size==sysModules)=false) :
  wpAny (model prog w) A (call (.type "dict") [.ref l]) (aE w c s (.own (.dict (ps.foldl (λd e=>dput d e.1 e.2) [])))) E s:=by
 refine callType_codes (Q₁:=λobj aJ=>obj=.ref s.heap.objs.size/\aJ={s with heap:=s.heap.push {cls:=.type "dict",data:=.dict #[]}}) PySem.F.kt_called_dict (PySem.F.kt_typeCall_dict_1 _) PySem.F.entry_dict_init (kt_code_dict_new _ ⟨rfl,rfl⟩) ?_
 rintro obj aJ ⟨rfl,rfl⟩
 have eC:(s.heap.push {cls:=.type "dict",data:=.dict #[]}).DictOf (keyKind prog w) s.heap.objs.size []:=Heap.DictOf.new s.heap
 have cH:(s.heap.push {cls:=.type "dict",data:=.dict #[]}).get? l=some (cP items n):=Heap.get?_push_of_some _ ho
 refine⟨eC.typeIs,PySem.F.args_dict_init_2 _ _,?_⟩
 unfold Builtin.«dict.__init__»
 refine wpAny_bind ?_
 unfold Builtin.Dict.selfAndRest
 refine wpAny_bind (wpAny_notOrdered_dict eC.typeIs ?_)
 show wpAny _ _ (pure (s.heap.objs.size,[Value.ref l])) _ _ _
 refine wpAny_pure ?_
 show wpAny _ _ (Builtin.Dict.updateFrom "dict.__init__" s.heap.objs.size (.ref l) [] .none) _ _ _
 unfold Builtin.Dict.updateFrom
 refine wpAny_bind (wpAny_typeOf ⟨_,cH,rfl⟩ ?_)
 rw[if_pos (by decide)]
 refine wpAny_bind (MQ (s:={s with heap:=s.heap.push {cls:=.type "dict",data:=.dict #[]}}) cH hh λaV tk k₁=>?_)
 have Dt:=k₁ _ _ cH
 refine wpAny_bind (wpAny_rule (wpAny_bind (wpAny_pyIter_list (s:={s with heap:=aV,toks:=tk}) ⟨_,Dt,rfl,n,rfl⟩ ?_)))
 refine wpAny_pure ⟨plainId_quiet sU _,?_⟩
 have k0:Sub s.heap aV:=λb o e=>k₁ b o (Heap.get?_push_of_some _ e)
 have fd:s.heap.get? s.heap.objs.size=none:=dF _
 have Nr:=k₁ _ _ (Heap.get?_push_size _ rfl)
 have Bm:=dF aV
 have kY:aV.objs.size≠s.heap.objs.size:=λz=>nomatch (z▸Bm).symm.trans Nr
 have fI:s.heap.get? aV.objs.size=none:=match q:s.heap.get? aV.objs.size with
  | none=>rfl
  | some o=>nomatch Bm.symm.trans (k0 _ _ q)
 have nn:∀{b o},s.heap.get? b=some o->b≠aV.objs.size/\b≠s.heap.objs.size:=λe=>⟨λz=>(nomatch (z▸fI).symm.trans e),λz=>(nomatch (z▸fd).symm.trans e)⟩
 have L:Le c s.heap ((c.set s.heap.objs.size (some .other)).set aV.objs.size (some .other)) (aV.push {cls:=.type "list_iterator",data:=.fields #[.ref l,.int 0 0]}):=((Le.set fd).trans (Le.set fI)).trans (k0.trans (Sub.push _ _)).le
 refine Ez (A:=A.in1) (s:={s with toks:=tk}) (c:=(c.set s.heap.objs.size (some .other)).set aV.objs.size (some .other)) hh dw hlen kY (nn ho).1 (nn ho).2 (λz=>nomatch ((if_neg kY.symm).trans (if_pos rfl):((c.set s.heap.objs.size (some .other)).set aV.objs.size (some .other)).ow s.heap.objs.size=some .other).symm.trans z) (λz=>nomatch (if_pos rfl:((c.set s.heap.objs.size (some .other)).set aV.objs.size (some .other)).ow aV.objs.size=some .other).symm.trans z)
  (λh' eM wQ hU NV NR=>⟨rfl,h',eM,rfl,λb o e=>NR b o (nn e).1 (nn e).2 e,s.heap.objs.size,rfl,fd,λo=>?_⟩) as.length 0 (aV.push {cls:=.type "list_iterator",data:=.fields #[.ref l,.int 0 0]}) tk [] [] rfl (Nat.zero_le _)
  ⟨_,Heap.get?_push_size _ rfl,rfl,rfl⟩ (Heap.get?_push_of_some _ Dt) (aq.le L _ hv) (DictOf.kp eC λo q=>Heap.get?_push_of_some _ (k₁ _ _ q)) rfl rfl λb o n1 n2 q=>Heap.get?_push_of_some _ (k0 b o q)
 have LL:Le ((c.set s.heap.objs.size (some .other)).set aV.objs.size (some .other)) h' (c.set s.heap.objs.size o) h':=⟨λZ Z e=>e,λb x e e'=>by
  have n1:b≠aV.objs.size:=λz=>nomatch ((if_pos z:((c.set s.heap.objs.size (some .other)).set aV.objs.size (some .other)).ow b=some .other).symm.trans e)
  have n2:b≠s.heap.objs.size:=λz=>nomatch (((if_neg n1).trans (if_pos z):((c.set s.heap.objs.size (some .other)).set aV.objs.size (some .other)).ow b=some .other).symm.trans e)
  exact⟨(if_neg n2).trans (((if_neg n1).trans (if_neg n2):((c.set s.heap.objs.size (some .other)).set aV.objs.size (some .other)).ow b=c.ow b).symm.trans e),e'⟩⟩
 exact OR.dictOf (prog:=prog) (c:=c.set s.heap.objs.size o) (if_pos rfl) hU (KV.le LL NV) hs (Nat.le_trans (oK ps []) (by rw[(sQ dw).1];exact Nat.le_trans (Nat.le_of_eq (Nat.zero_add _)) hlen)) (qT ps [] .nil)
end
theorem VJ{J:Om}{x:Str}{xs:List Expr}{as:aW}{p pos:Pos}(W:Wd J.w J.B)(N:fB J.D J.B x (.type "dict"))(hs:cW J as xs):aB J (.aG .dict as) (.Call (.Name x p) xs [] pos):=
 .val ⟨λ{φ _ _ _ _ _ _} P e q=>Call_ (P.iH W N (jx N.f hs.ns (hs.run pos P e λl st' us s' k Y P=>aM k λas ha k=>aM k λr hr k=>P.elim λc a=>
  have p:=a.views Y ha
  dj.r1 (P:=λus=>wpAny J.M φ.A (call (.type "dict") us) _ φ.E s') p.2 hr λv u y hr=>y.rL hr λvs ad it m c4 ho hv hr=>(Option.map_eq_some_iff.mp hr).elim λps z=>
   wpAny_mono (Kr p.1.cx.hd ho hv c4 z.1 (E9 W p.1.gd.base)) (λv s' o=>q _ _ _ _ k (p.1.op (z.2▸o))) λZ Z y=>y)))⟩ λZ Z=>rfl
end Mine.Internal
namespace Mine.Internal
open PySem PySem.Calls PyProof.Rows PySem.W
open Builtin Builtin.Str
theorem MY(x y z:Str)(t u v q:Tok)(h0:(y.length==0)=false)
  (hf:(u==0||v==0)=false/\(u==v)=false/\(y==z)=false/\tooLong (x.length+(i7 x y).length*z.length)=false) :
  Gives («str.replace» ⟨[.str x t,.str y u,.str z v,.int 1 q],[]⟩) (if (i7 x y).isEmpty=true then .val (.str x t) else .str (glued z (partsBetween x (i7 x y) y.length))):=by
 have hc:=countLimit_int "str.replace" 1 q (x.length+1) (by decide)
 show Gives (do
  let limit ←countLimit "str.replace" (some (.int 1 q)) (x.length+1)
  if ((occurrences x y 0 x.length limit).isEmpty||(y.length==0&&z.length==0))=true then(do rule "str.replace.nothing";ret (.str x t)) else(do
   let same ←isSame (.str y u) (.str z v)
   if same=true then(do rule "str.replace.old-is-new";ret (.str x t)) else
   if tooLong (x.length+(occurrences x y 0 x.length limit).length*z.length)=true then unsupported "str.replace:memory" else
   retStr (glued z (partsBetween x (occurrences x y 0 x.length limit) y.length)))) _
 rw[hc]
 simp only[pure_bind]
 have e1:(if (1:Int)<0 then x.length+1 else Int.toNat 1)=1:=by rw[if_neg (by decide)];rfl
 rw[e1]
 have h1:=hf.1
 have h2:=hf.2.1
 have h3:=hf.2.2.1
 have h4:=hf.2.2.2
 unfold i7 at h4 ⊢
 rw[h0,Bool.false_and,Bool.or_false]
 cases hc:(occurrences x y 0 x.length 1).isEmpty
 .rw[isSame_str_other y z u v h1 h2 h3,h4]
  exact .of_eq rfl
 .exact .rule (.of_eq rfl)
section
variable{J:Om}{x y:Expr}{a t:Str}{apos pos ja pa jt pt jn pn:_}
theorem Vk{o:ME}(S:jm x "replace" apos pos [.Constant (.str a) ja pa,.Constant (.str t) jt pt,.Constant (.int 1) jn pn])(ho:aB J o x) :
  fE J 1 (.repl o a t) (.Call (.Attribute x "replace" apos) [.Constant (.str a) ja pa,.Constant (.str t) jt pt,.Constant (.int 1) jn pn] [] pos):=
 ⟨λ{φ rs vs st s K Q} ht P e q=>call_meth S (km ht (ho.e.run P e λr st' v s' e P ht pl=>P.v1 e λc b e y A=>aM e λr' hr k=>VW.rS (P:=λv=>wpAny J.M φ.A (getMethod v "replace" pl) (λfx aA=>wpAny J.M φ.A (callWith pos fx.1 fx.2 (backTo pos (starEach [.Constant (.str a) ja pa,.Constant (.str t) jt pt,.Constant (.int 1) jn pn] φ.env)) []) Q φ.E aA) φ.E s') y hr λn tk Y hr=>by
  have p:=bh (c:=(a.length==0)=false/\(a==t)=false/\n.length+(i7 n a).length*t.length<=PySem.sizeLine/\(replaceA n a t).length<=ax) hr
  obtain⟨⟨h0,h1,h2,h3⟩,p⟩:=p
  refine getMethod_builtin (typeIs_str _ _ _) PySem.F.plainAttrs_str PySem.F.slot_str_replace PySem.F.type_str_replace nofun (qJ S.ns (wpAny_items_cons (wpAny_Constant_str (wpAny_items_cons (wpAny_Constant_str (wpAny_items_cons (wpAny_Constant_int (wpAny_items_nil ?_))))))))
  have hu:(s'.toks==0)=false:=beq_eq_false_iff_ne.mpr (by lia)
  have hv:(s'.toks+1==0)=false:=beq_eq_false_iff_ne.mpr (by lia)
  have OC:(s'.toks==s'.toks+1)=false:=beq_eq_false_iff_ne.mpr (by lia)
  refine call_gives PySem.F.slot_str_replace (typeIs_str _ _ _) PySem.F.entry_str_replace (PySem.F.args_str_replace_4 _ _ _ _) (MY n a t tk s'.toks (s'.toks+1) (s'.toks+1+1) h0 ⟨by rw[hu,hv];rfl,OC,h1,by unfold tooLong;exact decide_eq_false (Nat.not_lt.mpr h2)⟩) ?_
  have fin:∀u k',Q (.str (replaceA n a t) u) {s' with toks:=k'}:=λu k'=>q _ _ _ _ k (A.op (Option.some.inj p▸aE.str h3 u k'))
  unfold replaceA at h3 fin
  cases jI:(i7 n a).isEmpty
  .rw[jI,if_neg Bool.false_ne_true] at h3
   rw[jI] at fin
   exact⟨Nat.le_trans h3 qs,fin _ _⟩
  .rw[jI] at fin
   exact fin _ _))⟩
theorem Vj{n₀:Nat}{op:Operator}{cj fM:ME}(ha:fE J n₀ cj x)(I:aB J fM y):fE J n₀ (.bin op cj fM) (.BinOp x op y pos):=
 ⟨λht P e q=>wpAny_BinOp (ha.run ht P e λZ Z Z Z e P=>I.e.run P e λr st' v s' e P=>P.v2 e λc a b e y y' z=>aM e λr e k=>wpAny_mono (zP z.cx.fr y y' e) (λv s' p=>q r st' v s' k (z.op p)) λZ Z y=>y)⟩
end
end Mine.Internal
namespace Mine.Internal
open PySem PySem.Calls PyProof.Rows PySem.W
theorem y0{ns:List Str}{vs:List Value}{x:Str}(h:x∉ns):(ns.zip vs).lookup x=none:=by
 cases q:(ns.zip vs).lookup x with
 | none=>rfl
 | some v=>exact absurd (List.of_mem_zip (mem_of_lookup q)).1 h
theorem yZ:∀{ns:List Str} {vs:List Value} {i:Nat} {x:Str},ns.Nodup->ns.length=vs.length->ns[i]?=some x->(ns.zip vs).lookup x=vs[i]?
 | [],_,_,_,_,_,h=>nomatch h
 | _::_,[],_,_,_,h,_=>nomatch h
 | n::ns,v::vs,i,x,hn,Y,hx=>by
  rw[List.zip_cons_cons,List.lookup_cons]
  cases i with
  | zero=>rw[Option.some.inj hx,beq_self_eq_true];rfl
  | succ i=>
   rw[show(x==n)=false from beq_eq_false_iff_ne.mpr λq=>(List.nodup_cons.mp hn).1 (q▸List.mem_of_getElem? (i:=i) hx)]
   exact yZ (i:=i) (List.nodup_cons.mp hn).2 (Nat.succ.inj Y) hx
theorem Ey{n x:Str}{v:Value}{l:List (Str×Value)}(h:x=n->l.lookup x=none)(m:Option Value):(match ((n,v)::l).lookup x with | some v=>some v | none=>m)=match l.lookup x with | some v=>some v | none=>if x=n then some v else m:=by
 rw[List.lookup_cons]
 by_cases q:x=n
 .rw[h q,if_pos q,beq_iff_eq.mpr q]
 .rw[if_neg q,show(x==n)=false from beq_eq_false_iff_ne.mpr q]
theorem zR{ko:Str->Option NameKind}{x:Str}(hk:ko x=some .local):∀{ns:List Str} {vs:List Value} {m:Str->Option Value},ns.Nodup->ns.length=vs.length->
  bindL ko (ns.zip vs) m x=match (ns.zip vs).lookup x with | some v=>some v | none=>m x
 | [],vs,m,_,_=>rfl
 | n::ns,[],m,_,h=>nomatch h
 | n::ns,v::vs,m,hn,Y=>by
  rw[List.zip_cons_cons,Ey λq=>y0 (q▸(List.nodup_cons.mp hn).1),bindL,zR hk (List.nodup_cons.mp hn).2 (Nat.succ.inj Y)]
  by_cases q:x=n
  .rw[if_pos q,if_pos (q▸hk)]
   cases(ns.zip vs).lookup x with
   | some _=>rfl
   | none=>exact if_pos q
  .rw[if_neg q]
   cases(ns.zip vs).lookup x with
   | some _=>rfl
   | none=>
    dsimp only
    split
    .exact if_neg q
    .rfl
theorem zQ{ko:Str->Option NameKind}{x:Str}(hk:ko x≠some .local):∀{ns:List Str} {vs:List Value} {m:Str->Option Value},ns.Nodup->ns.length=vs.length->
  PySem.bindC ko (ns.zip vs) m x=match (ns.zip vs).lookup x with | some v=>some v | none=>m x
 | [],vs,m,_,_=>rfl
 | n::ns,[],m,_,h=>nomatch h
 | n::ns,v::vs,m,hn,Y=>by
  rw[List.zip_cons_cons,Ey λq=>y0 (q▸(List.nodup_cons.mp hn).1),PySem.bindC,zQ hk (List.nodup_cons.mp hn).2 (Nat.succ.inj Y)]
  by_cases q:x=n
  .rw[if_pos q,if_neg (q▸hk)]
   cases(ns.zip vs).lookup x with
   | some _=>rfl
   | none=>exact if_pos q
  .rw[if_neg q]
   cases(ns.zip vs).lookup x with
   | some _=>rfl
   | none=>
    dsimp only
    split
    .rfl
    .exact if_neg q
set_option tactic.hygienic true in
theorem cellsFrom_some{x:Str}:∀{names:List (Str×NameKind)} {n:Nat} {acc:List (Str×Addr)},(names.lookup x=some .cell∨(acc.lookup x).isSome=true)->((cellsFrom n names acc).lookup x).isSome=true
 | [],n,acc,h=>h.elim (λh=>nomatch h) id
 | (nm,kd)::r,n,acc,h=>by
  unfold cellsFrom
  rw[List.lookup_cons] at h
  by_cases hx:x=nm
  .rw[beq_iff_eq.mpr hx] at h
   split
   .exact cellsFrom_some (.inr (by rw[List.lookup_cons,beq_iff_eq.mpr hx];rfl))
   .rename_i q
    exact cellsFrom_some (.inr (h.resolve_left λz=>q (by rw[Option.some.inj z];rfl)))
  .have I:(x==nm)=false:=beq_eq_false_iff_ne.mpr hx
   rw[I] at h
   split
   .exact cellsFrom_some (h.imp id λh=>by rw[List.lookup_cons,I];exact h)
   .exact cellsFrom_some h
structure tS(w:World)(B:Heap)(f:Nat)(fn:Fn)(fd:FuncData)(D:au)(body:List Stmt):Prop where
 obj:∃o,B.get? (fA f)=some o/\o.data=.func fd
 code:B.CodeRec fd.code fd.qualname
 zM:fd.body=.stmts body
 co:fd.scope.isCoroutine=false
 gen:fd.scope.isGenerator=false
 kind:fd.scope.kind=.function
 glob:fd.globals=mainGlobals
 blt:fd.builtins=builtinsNs
 As:fd.closure=[]
 sc:D.sc=fd.scope
 oB:iC D
 m:D.sl.length=fn.m
 jR:fn.n<=fn.m
 bind:∀{s:Shared} (vals:List Value),Sub B s.heap->vals.length<=fn.n->fn.n - vals.length<=fn.d.length->
  ∃ds:List Value,BindsTo s fd ⟨vals,[]⟩ ((D.sl.take fn.n).zip (vals++ds))/\(vals++ds).length=fn.n/\aq w c0 B (fn.d.drop (fn.d.length - (fn.n - vals.length))) ds
 snd:∀{k:Nat},fF w B k (F k)->dJ ⟨w,B,k,D⟩ 0 fn.body body
theorem F2:∀{l:List (Option VS)} {r:List VS},params l=some r->l=r.map some
 | [],r,e=>Option.some.inj e▸rfl
 | some x::l,r,e=>(Option.map_eq_some_iff.mp e).elim λq p=>p.2▸congrArg _ (F2 p.1)
 | none::l,r,e=>nomatch e
section
variable{w:World}{B:Heap}{c:Cf}{as:List VS}{dv:List O}{vals ds:List Value}{H:HH}{h:Heap}{m:Nat}{lk:List Bool}
theorem xf{ak:Nat->Value}{aN:Nat->Nat->Value}{st:St}{rs:List ER}{vs:List Value}(g:Gd w B c h st ak aN rs vs):Le c0 B c h:=⟨λl a e=>(nomatch e),λb x Z e=>⟨match q:c.ow b with
 | none=>rfl
 | some o=>(nomatch e.symm.trans (g.ok b o q).1),g.base b x e⟩⟩
theorem Gd.entry(g:Gd w B c h (qe as H) (cR vals) ie [] [])(hv:vals.length=as.length)(hd:aq w c0 B dv ds):Gd w B c h ⟨(as++dv.map VS.val).map some++List.replicate m none,lk,[],H⟩ (cR (vals++ds)) ie [] []:=
 {base:=g.base,ok:=g.ok,cO:=g.cO,cq:=g.cq,dc:=λd i fr v e=>(nomatch e),bw:=rfl
  slt:=λi y e=>by
   have e:((as++dv.map VS.val).map some++List.replicate m none)[i]?=some (some y):=e
   by_cases hi:i<as.length
   .rw[List.getElem?_append_left (by rw[List.length_map,List.length_append];lia),List.map_append,List.getElem?_append_left (by rw[List.length_map];exact hi)] at e
    rw[show cR (vals++ds) i=cR vals i by unfold cR;rw[List.getD_eq_getElem?_getD,List.getD_eq_getElem?_getD,List.getElem?_append_left (hv▸hi)]]
    exact g.slt i y e
   .have rH:i<(as++dv.map VS.val).length:=by
     refine Nat.lt_of_not_le λz=>?_
     rw[List.getElem?_append_right (by rw[List.length_map];exact z)] at e
     exact nomatch List.eq_of_mem_replicate (List.mem_of_getElem? e)
    rw[List.getElem?_append_left (by rw[List.length_map];exact rH),List.map_append,List.getElem?_append_right (by rw[List.length_map];exact Nat.not_lt.mp hi),List.length_map,List.getElem?_map,List.getElem?_map] at e
    refine(Option.map_eq_some_iff.mp e).elim λz p=>(Option.map_eq_some_iff.mp p.1).elim λa q=>?_
    have hj:i - as.length<ds.length:=hd.get.1▸cu q.1
    rw[←Option.some.inj p.2,←q.2,show cR (vals++ds) i=ds[i - as.length] from hN (by rw[List.getElem?_append_right (by lia),hv];exact List.getElem?_eq_getElem hj)]
    exact VR.le (xf g) a (hd.get.2 _ a _ q.1 (List.getElem?_eq_getElem hj))}
end
theorem mn.deeper{A:Around}{k:Nat}(R:mn A (k+1))(env:Env):Rm (A.deeper env) k:=
 ⟨R.1,by show A.depth+1+5*k<=500;have:=R.2.1;lia,by show A.units+3+20*k<=2000;have:=R.2.2;lia⟩
open Classical in
noncomputable def Cf.frame(c:Cf)(env:Env):Cf:=⟨c.γ,λb=>if eh env b then some .env else c.ow b⟩
noncomputable def lL(as:List VS)(i:Nat):Bool:=((as[i]?).map ll).getD false
noncomputable def quit(as:List VS)(t:Option Nat):Ow->Option Ow
 | .slot i=>if t=some i then some (.tmp 0) else if lL as i then some (.slot i) else none
 | .tmp i=>if i=0 then some (.tmp 0) else none
 | .heap l=>some (.heap l)
 | .other=>some .other
 | .env=>none
theorem Ej{as:List VS}{fn:Fn}{i:Nat}(h:lL as i=true):((fill fn as).map ll).getD i false=true:=by
 unfold lL at h
 cases q:as[i]? with
 | none=>rw[q] at h;cases h
 | some x=>
  rw[q] at h
  exact hN (by rw[List.getElem?_map];unfold fill;rw[List.getElem?_append_left (cu q),q];exact congrArg some h)
section
variable{w:World}{B:Heap}{k f:Nat}{fn:Fn}{fd:FuncData}{D:au}{body:List Stmt}{as:List VS}{vals ds:List Value}{H:HH}{s aJ:Shared}{c:Cf}{env:Env}{A:Around}{E:Value->Shared->Prop}
noncomputable abbrev yB(fn:Fn)(as:List VS)(H:HH):St:=⟨(fill fn as).map some++List.replicate (fn.m - fn.n) none,(fill fn as).map ll,[],H⟩
noncomputable abbrev y1(A:Around)(E:Value->Shared->Prop)(env:Env)(c:Cf)(fn:Fn)(as:List VS)(H:HH)(vals:List Value)(s:Shared):Fm:={A:=A,E:=E,env:=env,aN:=ie,c:=c.frame env,st:=yB fn as H,ak:=cR vals,s:=s}
theorem Cd(hlen:(fill fn as).length=fn.n):as.length<=fn.n/\fn.n - as.length<=fn.d.length:=by
 have:(fill fn as).length=as.length+(fn.d.length - (fn.d.length - (fn.n - as.length))):=by unfold fill;rw[List.length_append,List.length_map,List.length_drop]
 have e:=hlen.symm.trans this
 exact⟨Nat.le.intro e.symm,Nat.sub_le_iff_le_add'.mpr (Nat.le_trans (Nat.le_of_eq e) (Nat.add_le_add_left (Nat.sub_le _ _) _))⟩
theorem SY(he:env=newEnv fd.scope s.heap.objs.size fd.globals (cellsFrom (s.heap.objs.size+1) fd.scope.names []) q1 q2 q3 none q4){m cm:Str->Option Value}(X:InCallC s env.locals m env.cells cm aJ){b:Addr}(I:eh env b):s.heap.get? b=none/\∃o,aJ.heap.get? b=some o:=by
 have hL:env.locals=s.heap.objs.size:=by rw[he];rfl
 rcases I with q | ⟨x,q⟩
 .exact X.toInCall.ns.elim λo z=>z.elim λZ z=>z.elim λZ z=>⟨q▸hL▸dF _,o,q▸z.1⟩
 .have hO:=X.above x b (mem_of_lookup q)
  refine(X.cell x b q).elim λo z=>⟨?_,o,z.1⟩
  cases z:s.heap.get? b with
  | none=>rfl
  | some o'=>exact absurd (Heap.lt_size z) (Nat.not_lt.mpr (Nat.le_of_lt (hL▸hO)))
theorem Mo(ok:tS w B f fn fd D body)(hlen:(fill fn as).length=fn.n)(CX:(vals++ds).length=fn.n)(wa:env.scope=D.sc)(hg:env.globals=mainGlobals)(Nk:env.builtins=builtinsNs)(Nn:∀y,D.sc.names.lookup y=some .cell->(env.cells.lookup y).isSome=true)(hO:∀x a,(x,a)∈env.cells->a≠env.locals)
  (X:InCallC s env.locals (bindL env.kindOf ((D.sl.take fn.n).zip (vals++ds)) λZ=>none) env.cells (PySem.bindC env.kindOf ((D.sl.take fn.n).zip (vals++ds)) λZ=>none) aJ) (eC:∀b,eh env b->∃o,aJ.heap.get? b=some o) :
  eO D env (c.frame env) aJ.heap (yB fn as H) (cR (vals++ds)) ie:=by
 have wd:(D.sl.take fn.n).length=(vals++ds).length:=by rw[CX,List.length_take,ok.m];exact Nat.min_eq_left ok.jR
 have we:(D.sl.take fn.n).Nodup:=ok.oB.nd.sublist (List.take_sublist _ _)
 have rK:∀z,env.kindOf z=D.sc.names.lookup z:=λz=>congrArg (λsc:Scope=>sc.names.lookup z) wa
 refine{sc:=wa,fr:=⟨wa▸ok.sc▸ok.kind,hg,Nk,X.apart,hO⟩,ns:=⟨_,X.toInCall.ns⟩,y:=λb I=>⟨if_pos I,eC b I⟩,slots:=λi y ey Z=>⟨((D.sl.take fn.n).zip (vals++ds)).lookup y,?_,λfl=>?_⟩,comps:=λd i fr y e1=>by rw[ok.oB.kl] at e1;cases e1}
 .rcases ok.oB.kind y (List.mem_of_getElem? ey) with q | q
  .refine .E3 ((rK y).trans q) ⟨_,X.toInCall.ns,(zR ((rK y).trans q) we wd).trans ?_⟩
   cases((D.sl.take fn.n).zip (vals++ds)).lookup y<;>rfl
  .refine .E2 ((rK y).trans q) ((Option.isSome_iff_exists.mp (Nn y q)).imp λa ha=>⟨ha,?_⟩)
   have:=X.cell y a ha
   rw[zQ (by rw[rK,q];exact nofun) we wd] at this
   cases z:((D.sl.take fn.n).zip (vals++ds)).lookup y with
   | none=>rw[z] at this;exact this
   | some v=>rw[z] at this;exact this
 .have hi:i<fn.n:=by
   refine Nat.lt_of_not_le λz=>fl.elim λx e=>?_
   have e:((fill fn as).map some++List.replicate (fn.m - fn.n) none)[i]?=some (some x):=e
   rw[List.getElem?_append_right (by rw[List.length_map,hlen];exact z)] at e
   exact nomatch List.eq_of_mem_replicate (List.mem_of_getElem? e)
  have rH:i<(vals++ds).length:=CX.symm▸hi
  rw[yZ we wd (i:=i) (by rw[List.getElem?_take,if_pos hi];exact ey),List.getElem?_eq_getElem rH]
  exact congrArg some (hN (List.getElem?_eq_getElem rH)).symm
theorem Ml(g:Gd w B c s.heap (qe as H) (cR vals) ie [] [])(hv:vals.length=as.length)(rC:aq w c0 B (fn.d.drop (fn.d.length - (fn.n - as.length))) ds)(sub:Sub s.heap aJ.heap)(eC:∀b,eh env b->s.heap.get? b=none/\∃o,aJ.heap.get? b=some o) :
  Gd w B (c.frame env) aJ.heap (yB fn as H) (cR (vals++ds)) ie [] []:=
 (g.entry hv rC).new sub rfl (λb x e=>if_neg λy=>nomatch (eC b y).1.symm.trans e) λb o z e=>by
  by_cases y:eh env b
  .exact(eC b y).2
  .exact nomatch (g.fr b z).symm.trans ((if_neg y).symm.trans e)
theorem Mm(hs:∃h' tk,aJ={s with heap:=h',toks:=tk})(sub:Sub s.heap aJ.heap)(eC:∀b,eh env b->s.heap.get? b=none):Mv c s (c.frame env) aJ:=by
 have K:∀{o},Kp c s.heap o (c.frame env) aJ.heap o:=λb x e e'=>⟨(if_neg λy=>nomatch (eC b y).symm.trans e').trans e,sub b x e'⟩
 exact⟨hs.elim λh' z=>z.elim λtk z=>by rw[z],⟨λZ Z e=>e,K⟩,K⟩
theorem pY{J:Om}{st':St}{aR:Nat->Value}{aA:Shared}{c₂:Cf}{rs:List ER}{vs:List Value}{fin:List VS}{x:VS}{v:Value}{t:Option Nat}(hw:J.w=w)(hB:J.B=B)(mv:Mv c s (c.frame env) aJ)(a:Sd J (y1 A E env c fn as H (vals++ds) aJ) c₂ rs vs st' aR aA)
  (hv:vals.length=as.length) (hlen:(fill fn as).length=fn.n) (jR:fn.n<=fn.m) (hf:params (st'.σ.take fn.n)=some fin) (ht:∀i,t=some i->lL as i=false) (xr:RR w (c₂.map (quit as t)) aA.heap ⟨[],[],[],st'.H⟩ (cR vals) (.tmp 0) (bB x) v) :
  tY w B c s as vals x fin st'.H v (c₂.map (quit as t)) aA:=by
 subst hw hB
 have Du:=F2 hf
 have Y:=(Cd hlen).1
 refine⟨⟨a.mv.se.trans (by rw[show(y1 A E env c fn as H (vals++ds) aJ).s=aJ from rfl,mv.se]),(mv.le.trans a.mv.le).trans (.map _),(mv.ko.trans a.mv.ko).trans (.map rfl)⟩,?_,a.gd.p0 (λZ=>rfl) rfl (λi x e=>nomatch e) (λd i fr u e=>nomatch e) (aZ.mk (rs:=[]) (vs:=[]) xr rfl),λi k y ei ey=>?_⟩
 .have:=congrArg List.length Du
  rw[List.length_map,List.length_take,a.cE.len,List.length_append,List.length_map,List.length_replicate,hlen] at this
  lia
 .have ho:lL as i=true:=by unfold lL;rw[ei];rfl
  have hi:=cu ei
  have e2:st'.σ[i]?=some (some y):=by
   have e2:(st'.σ.take fn.n)[i]?=some (some y):=by rw[Du,List.getElem?_map,ey];rfl
   rw[List.getElem?_take] at e2
   split at e2
   .exact e2
   .cases e2
  have ec:aR i=cR vals i:=(a.cE.keep i (Ej ho)).trans (by show cR (vals++ds) i=_;unfold cR;rw[List.getD_eq_getElem?_getD,List.getD_eq_getElem?_getD,List.getElem?_append_left (hv▸hi)])
  have nt:t≠some i:=λz=>nomatch (ht i z).symm.trans ho
  exact ec▸(a.gd.slt i y e2).kp (c':=c₂.map (quit as t)) (.map _) (.map (show quit as t (.slot i)=some (.slot i) from(if_neg nt).trans (if_pos ho)))
set_option tactic.hygienic true in
theorem WU(NB:∀f fn,fns f=some fn->∃fd D body,tS w B f fn fd D body)(NZ:B.NoLimit)(h:fF w B k (F k)):fF w B (k+1) (F (k+1)):=⟨λ{f as H K A s c vals R} e R₀ hv g q=>by
 have e:OK (fns f) λfn=>wF tab (F k) fn as H K:=e
 refine aM e λfn hf e=>(NB f fn hf).elim λfd z=>z.elim λD z=>z.elim λbody ok=>ok.obj.elim λo ho=>?_
 refine ef e (λhlen e=>?_) λZ e=>e.elim
 have hlen:=Nat.eq_of_beq_eq_true hlen
 have e:=Bo _ (uX _ e)
 have Y:=Cd hlen
 have base:=g.base
 refine(ok.bind (s:=s) vals base (hv▸Y.1) (hv▸Y.2)).elim λds b=>?_
 have rC:=b.2.2
 rw[hv] at rC
 refine codeAny_call_function (Nat.lt_of_le_of_lt (show A.depth<=504 from Nat.le_trans (Nat.le_add_right _ _) R₀.2.1) (by decide)) (base _ _ ho.1) ho.2 ok.co ok.gen ok.zM (ok.code.keeps base) (b.1 _ _ _ _ ?_)
 rw[ok.As]
 refine wpAny_newFunctionEnv_cells ok.kind (λy hy=>?_) λenv he aJ X=>⟨(NZ.keeps base).keeps X.toInCall.keep,codeAny_func ?_⟩
 .have hm:=(List.of_mem_zip hy).1
  exact(ok.oB.kind y.1 (List.mem_of_mem_take hm)).imp (λq=>ok.sc▸q) λq=>⟨ok.sc▸q,cellsFrom_some (.inl (ok.sc▸q))⟩
 have eC:=λb (I:eh env b)=>SY he X I
 have sub:Sub s.heap aJ.heap:=X.toInCall.keep
 have V:=Mo (c:=c) (as:=as) (H:=H) ok hlen b.2.1 (by rw[he];exact ok.sc.symm) (by rw[he];exact ok.glob) (by rw[he];exact ok.blt) (λy q=>by rw[he];exact cellsFrom_some (.inl (ok.sc▸q))) (λx a hm=>Nat.ne_of_gt (X.above x a hm)) X λb I=>(eC b I).2
 have G:=Ml (fn:=fn) g hv rC sub eC
 have M:=Mm (c:=c) (env:=env) (by obtain⟨aV,XW,dK⟩:=X.toInCall.same;exact⟨aV,XW,dK⟩) sub λb I=>(eC b I).1
 refine(ok.snd h).run (φ:=y1 (A.deeper env) _ env c fn as H (vals++ds) aJ) (Nat.zero_le _) ⟨⟨R₀.deeper env,V⟩,.refl _ _,(Shape.refl _).cE _,G⟩ e (λc₂ st' aR aA e a=>?_) λr v c₂ st' aR aA e a=>?_
 .exact aM e λfin hf e=>q _ _ _ .none aA _ e (pY (t:=none) rfl rfl M a hv hlen ok.jR hf nofun rfl)
 .have e:OK (params (st'.σ.take fn.n)) λfin=>OK (leave r st') λx=>K x fin st'.H:=e
  refine aM e λfin hf e=>aM e λx hx ek=>?_
  have hd:=a.gd.bw.hd
  cases r with
  | val av=>obtain rfl:=Option.some.inj hx;exact q _ _ _ v aA _ ek (pY (t:=none) rfl rfl M a hv hlen ok.jR hf nofun (VR.le (.map _) av hd))
  | own kk=>obtain rfl:=Option.some.inj hx;exact q _ _ _ v aA _ ek (pY (t:=none) rfl rfl M a hv hlen ok.jR hf nofun (hd.imp λad z=>⟨z.1,OR.le (.map _) kk (.map rfl) z.2⟩))
  | loc i=>
   have hx:(if st'.lk.getD i false=true then none else match st'.σ[i]? with
    | some (some (.own c))=>some (VS.own c)
    | some (some (.val v))=>some (.val v)
    | _=>none)=some x:=hx
   split at hx
   .cases hx
   .rename_i Dm
    refine hd.2.elim λy hy=>?_
    rw[hy] at hx
    have hs:=a.gd.slt i y hy
    have no:lL as i=false:=Bool.eq_false_iff.mpr λz=>Dm (a.cE.lk.symm▸Ej z)
    cases y with
    | own kk=>exact q _ _ _ v aA _ ek (pY (t:=some i) rfl rfl M a hv hlen ok.jR hf (λj z=>Option.some.inj z▸no) (by obtain rfl:=Option.some.inj hx;exact hd.1▸hs.imp λad z=>⟨z.1,OR.le (.map _) kk (.map (show quit as (some i) (.slot i)=some (.tmp 0) from if_pos rfl)) z.2⟩))
    | val av=>exact q _ _ _ v aA _ ek (pY (t:=none) rfl rfl M a hv hlen ok.jR hf nofun (by obtain rfl:=Option.some.inj hx;exact hd.1▸VR.le (.map _) av hs))⟩
end
noncomputable def oM(a b:Str):Bool:=PySem.W.Fast.sEq a b
theorem qY{a b:Str}(h:oM a b=true):a=b:=PySem.W.Fast.sEq_iff.mp h
noncomputable def qF:BF->String
 | .ord=>"ord" | .chr=>"chr" | .len=>"len" | .sorted=>"sorted" | .bytes=>"bytes" | .str=>"str" | .ic=>"isinstance" | .max=>"max" | .tuple=>"tuple" | .dict=>"dict" | .all=>"all" | .any=>"any" | .int=>"int" | .iX=>"list"
noncomputable def JW:BF->Bool
 | .bytes=>true | .str=>true | .tuple=>true | .dict=>true | .int=>true | .iX=>true
 | _=>false
noncomputable def mD(f:BF):Value:=if JW f then .type (qF f) else .builtin (qF f)
noncomputable def js:List Str:=["ord","chr","len","sorted","bytes","str","isinstance","max","tuple","dict","all","any","int","list","range","enumerate","bool"]
noncomputable def uh:Expr->Bool
 | .Call (.Name _ _) [] [] _=>false
 | _=>true
theorem zL{o:Expr}(h:uh o=true)(a:Str)(env:Env):attributeBase o a env (eval o env)=eval o env:=by
 cases o with
 | Call f as ks p=>cases f with
  | Name x q=>cases as with
   | nil=>cases ks with
    | nil=>cases h
    | cons _ _=>rfl
   | cons _ _=>rfl
  | _=>rfl
 | _=>rfl
noncomputable def sI(D:au)(x:Str):Bool:=D.sc.names.lookup x==some .local||D.sc.names.lookup x==some .cell||D.sc.names.lookup x==some .free
theorem FC{D:au}{x:Str}(h:sI D x=true):D.sc.names.lookup x=some .local∨D.sc.names.lookup x=some .cell∨D.sc.names.lookup x=some .free:=by
 unfold sI at h
 simpa[or_assoc] using h
noncomputable def nL(D:au)(x:Str):Bool:=D.sc.names.lookup x==some .globalImplicit&&dm x
noncomputable def fe(D:au)(x:Str)(y:String):Bool:=nL D x&&x==Str.ofString y&&js.contains x
noncomputable def sH(D:au)(scope:Scope)(fr:List Str):Bool:=
 scope.kind==.function&&
 scope.names.all (λy=>y.2 != .free||(D.sl.contains y.1&&!D.kl.flatten.contains y.1&&D.sc.names.lookup y.1==some .cell))&&
 scope.names.all (λy=>y.2 != .cell)&&
 scope.names.all (λy=>y.2 != .local||scope.names.lookup y.1==some .local)&&
 decide (scope.names.map (·.1)).Nodup&&
 fr.all (λx=>scope.names.lookup x==some .local)&&
 D.sl.all (λx=>fr.contains x||scope.names.lookup x != some .local)&&
 D.kl.flatten.all (λx=>fr.contains x||(scope.names.lookup x != some .local&&scope.names.lookup x != some .free))
noncomputable def sN(x:Expr)(apos pos:Pos)(xs:List Expr):Bool:=uh x&&xs.length<30&&apos.endLine==pos.line&&xs.all notStar
theorem J9(f:BF):bootBuiltins (Str.ofString (qF f))=some (mD f):=by
 cases f<;>(with_unfolding_all decide+kernel)
theorem boot_range:bootBuiltins (Str.ofString "range")=some (.type "range"):=by decide+kernel
theorem boot_enumerate:bootBuiltins (Str.ofString "enumerate")=some (.type "enumerate"):=by decide+kernel
theorem Ka:bootBuiltins (Str.ofString "bool")=some (.type "bool"):=by decide+kernel
theorem Kc:bootBuiltins (Str.ofString "list")=some (.type "list"):=by decide+kernel
theorem boot_isinstance:bootBuiltins (Str.ofString "isinstance")=some (.builtin "isinstance"):=by decide+kernel
theorem JY:∀x∈js,x≠("__name__" : Str):=by decide+kernel
theorem lJ{D:au}{x:Str}(h:nL D x=true):D.sc.names.lookup x=some .globalImplicit/\dm x=true:=by
 unfold nL at h
 simpa[Bool.and_eq_true] using h
theorem jV{D:au}{x:Str}{y:String}{B:Heap}{fv:Value}(hB:∀x∈js,mg B x=none)(hv:bootBuiltins (Str.ofString y)=some fv)(hf:(∃id,fv=.builtin id)∨∃T,fv=.type T)(h:fe D x y=true):fB D B x fv:=by
 unfold fe at h
 rw[Bool.and_eq_true,Bool.and_eq_true] at h
 obtain⟨⟨h1,h2⟩,h3⟩:=h
 obtain⟨g1,g2⟩:=lJ h1
 have h2:=eq_of_beq h2
 have h3:x∈js:=List.contains_iff_mem.mp h3
 exact⟨g1,g2,hB x h3,JY x h3,by rw[h2];exact hv,hf⟩
theorem JX(f:BF):(∃id,mD f=.builtin id)∨∃T,mD f=.type T:=by
 unfold mD;split
 .exact .inr ⟨_,rfl⟩
 .exact .inl ⟨_,rfl⟩
theorem Fz{D:au}{scope:Scope}{fr:List Str}(h:sH D scope fr=true):gn D scope fr:=by
 unfold sH at h
 simp only[Bool.and_eq_true,beq_iff_eq,decide_eq_true_eq,List.all_eq_true,Bool.or_eq_true,bne_iff_ne,ne_eq,Bool.not_eq_true',List.contains_iff_mem] at h
 obtain⟨⟨⟨⟨⟨⟨⟨h1,h2⟩,h3⟩,h4⟩,h5⟩,h6⟩,h7⟩,h8⟩:=h
 have nc:∀{l:List Str} {x:Str},l.contains x=false->x∉l:=λ{l x} q m=>by
  have:=List.contains_iff_mem.mpr m;rw[q] at this;cases this
 exact{
  kind:=h1
  free:=λy hy hf=>by
   rcases h2 y hy with q | ⟨⟨q1,q2⟩,q3⟩
   .exact absurd hf q
   .exact⟨q1,nc q2,q3⟩
  cell:=h3
  names:=λy hy hf=>by
   rcases h4 y hy with q | q
   .exact absurd hf q
   .exact q
  nd:=h5
  own:=h6
  slots:=λx hx hn=>by
   rcases h7 x hx with q | q
   .exact absurd q hn
   .exact q
  outer:=λx hx hn=>by
   rcases h8 x hx with q | q
   .exact absurd q hn
   .exact q}
theorem FH{x:Expr}{a:Str}{apos pos:Pos}{xs:List Expr}(h:sN x apos pos xs=true):jm x a apos pos xs:=by
 unfold sN at h
 simp only[Bool.and_eq_true,decide_eq_true_eq] at h
 exact⟨λenv=>zL h.1.1.1 a env,h.1.1.2,h.1.2,h.2⟩
inductive af(P:Prop):Type
 | no
 | yes (h:P)
noncomputable def af.ok{P:Prop}:af P->Bool
 | .no=>false
 | .yes _=>true
theorem af.get{P:Prop}:(y:af P)->y.ok=true->P
 | .yes h,_=>h
 | .no,h=>nomatch h
noncomputable def af.bd{P Q:Prop}(y:af P)(f:P->af Q):af Q:=match y with
 | .no=>.no
 | .yes h=>f h
noncomputable def af.or{P:Prop}(a b:af P):af P:=match a with
 | .no=>b
 | .yes h=>.yes h
noncomputable def tt{Q:Prop}:(b:Bool)->(b=true->af Q)->af Q
 | true,f=>f rfl
 | false,_=>.no
noncomputable def ff{Q:Prop}:(b:Bool)->(b=false->af Q)->af Q
 | false,f=>f rfl
 | true,_=>.no
theorem nc{l:List Str}{x:Str}(q:l.contains x=false)(m:x∈l):False:=by
 have:=List.contains_iff_mem.mpr m;rw[q] at this;cases this
noncomputable def DL(j:Nat)(t:MT):af (t=.ay j):=match t with
 | .ay i=>tt (i==j) λh=>.yes (congrArg _ (eq_of_beq h))
 | _=>.no
noncomputable def A9:(n j:Nat)->(ts:bI)->af (ts=mK j n)
 | 0,j,ts=>match ts with
  | .nil=>.yes rfl
  | _=>.no
 | n+1,j,ts=>match ts with
  | .cons t r=>(DL j t).bd λh=>(A9 n (j+1) r).bd λh'=>.yes (congr (congrArg _ h) h')
  | _=>.no
abbrev SB(n:Nat)(t:MT)(aI:Expr)(fr:List Str):Prop:=kz n t aI fr
noncomputable def FJ(n:Nat)(t:MT)(aI:Expr)(fr:List Str):af (SB n t aI fr):=match aI with
 | .Name x _=>(DL 0 t).bd λh=>tt (n==1) λh1=>tt (fr==[x]) λh2=>.yes (by rw[h,eq_of_beq h1,eq_of_beq h2];exact Vd)
 | .Tuple xs _ _=>match t with
  | .tup ts=>(A9 n 0 ts).bd λh=>tt (namesOf xs==some fr) λh1=>tt (xs.all notStar) λh2=>tt (fr.length==n) λh3=>tt (xs.length==n) λh4=>tt (decide fr.Nodup) λh5=>.yes (Ve h (eq_of_beq h1) h2 (eq_of_beq h3) (of_decide_eq_true h5) (eq_of_beq h4))
  | _=>.no
 | _=>.no
noncomputable def fU:Expr->List Str
 | .Name x _=>[x]
 | .Tuple xs _ _=>(namesOf xs).getD []
 | _=>[]
structure Cz where
 w:World
 B:Heap
 k:Nat
 W:Wd w B
 S:fF w B k (F k)
 h:∀x∈js,mg B x=none
noncomputable abbrev Cz.J(C:Cz)(D:au):Om:=⟨C.w,C.B,C.k,D⟩
section
abbrev Cz.E(C:Cz)(e:ME)(D:au)(x:Expr):Prop:=aB (C.J D) e x
abbrev Cz.Es(C:Cz)(e:aW)(D:au)(x:List Expr):Prop:=cW (C.J D) e x
abbrev SE(e:ME)(D:au)(x:Expr):Prop:=∀C:Cz,C.E e D x
abbrev Jh(e:aW)(D:au)(x:List Expr):Prop:=∀C:Cz,C.Es e D x
abbrev zg(f:BF):Prop:=∀(C:Cz) {D:au} {as:aW} {x:Str} {xs:List Expr} {p pos:Pos},fB D C.B x (mD f)->C.Es as D xs->C.E (.aG f as) D (.Call (.Name x p) xs [] pos)
theorem gT{f:BF}(h:bR (mD f) f):zg f:=λC Z Z Z Z Z Z h1 h2=>VK C.W h h1 h2
noncomputable def sb:(f:BF)->af (zg f)
 | .ord=>.yes (gT JQ)
 | .chr=>.yes (gT JM)
 | .len=>.yes (gT JO)
 | .sorted=>.yes (gT JR)
 | .bytes=>.yes (gT JL)
 | .str=>.yes (gT JS)
 | .ic=>.no
 | .max=>.yes (gT JP)
 | .tuple=>.yes (gT JT)
 | .dict=>.yes λC Z Z Z Z Z Z h1 h2=>VJ C.W h1 h2
 | .all=>.yes (gT JI)
 | .any=>.yes (gT JK)
 | .int=>.yes (gT JN)
 | .iX=>.no
abbrev t2(m:MN)(a:Str):Prop:=∀(C:Cz) {D:au} {o:ME} {as:aW} {x:Expr} {xs:List Expr} {apos pos:Pos},jm x a apos pos xs->C.E o D x->C.Es as D xs->C.E (.aw m o as) D (.Call (.Attribute x a apos) xs [] pos)
noncomputable def lU(m:MN)(jq a:Str)(hm:yR m=true)(h:MV m jq):af (t2 m a):=tt (a==jq) λq=>.yes λC Z Z Z Z Z Z Z=>eq_of_beq q▸Ww hm h
noncomputable def tu(m:MN)(jq a:Str)(T:String)(hm:EA m=true/\T = "list"∨m=.update/\T = "dict")(h:kn m jq T):af (t2 m a):=tt (a==jq) λq=>.yes λC Z Z Z Z Z Z Z=>eq_of_beq q▸Wf hm h
noncomputable def Vb(a:Str):(m:MN)->af (t2 m a)
 | .user i=>tt (mN i==some a) λh=>.yes λC Z Z Z Z Z Z Z=>Wj C.W C.S (eq_of_beq h)
 | .get=>tt (a=="get") λh=>.yes λC Z Z Z Z Z Z Z=>eq_of_beq h▸Wi C.W C.S
 | .join=>lU _ _ a rfl Qa
 | .split=>lU _ _ a rfl m_split
 | .strip=>lU _ _ a rfl m_strip
 | .find=>lU _ _ a rfl m_find
 | .startswith=>lU _ _ a rfl m_startswith
 | .endswith=>lU _ _ a rfl m_endswith
 | .index=>lU _ _ a rfl P0
 | .append=>tu _ _ a _ (.inl ⟨rfl,rfl⟩) Kl
 | .insert=>tu _ _ a _ (.inl ⟨rfl,rfl⟩) Km
 | .pop=>tu _ _ a _ (.inl ⟨rfl,rfl⟩) Kn
 | .update=>tu _ _ a _ (.inr ⟨rfl,rfl⟩) Ko
noncomputable def chain(op:BoolOp)(pos:Pos)(r:Expr):List Expr->Expr
 | []=>r
 | q::rs=>.BoolOp op (r::q::rs) pos
theorem Ai{op:BoolOp}{pos:Pos}{r:Expr}(env:Env):∀rs,eval (chain op pos r rs) env=boolOp pos op (evalEach (r::rs) env)
 | []=>by cases op<;>rfl
 | _::_=>by cases op<;>rfl
theorem Aj{op:BoolOp}{pos:Pos}{r:Expr}(env:Env):∀rs,PySem.isTrue (chain op pos r rs) env (eval (chain op pos r rs) env)=allTrue op (r::rs) env∨r::rs=[chain op pos r rs]
 | []=>.inr rfl
 | _::_=>.inl (by cases op<;>rfl)
noncomputable def Sx(e:ME):af (e=.omit):=match e with
 | .omit=>.yes rfl
 | _=>.no
noncomputable def Sw(e:aW):af (e=.nil):=match e with
 | .nil=>.yes rfl
 | _=>.no
noncomputable def FE(e:ME)(D:au)(f:(x:Expr)->af (SE e D x))(x:Option Expr):af (∀C:Cz,qu (C.J D) e x):=match x with
 | none=>(Sx e).bd λh=>.yes λC=>show _=_ from h
 | some x=>(f x).bd λh=>.yes h
mutual
noncomputable def aY:(e:ME)->(D:au)->(x:Expr)->af (SE e D x)
 | .bz,D,x=>match x with
  | .Constant .none _ _=>.yes λC=>VV
  | _=>.no
 | .fP b,D,x=>match x with
  | .Constant (.bool b') _ _=>tt (b==b') λh=>.yes λC=>eq_of_beq h▸VN
  | _=>.no
 | .aj i,D,x=>match x with
  | .Constant (.int j) _ _=>tt (i==j) λh=>.yes λC=>eq_of_beq h▸VP
  | _=>.no
 | .ai s,D,x=>match x with
  | .Constant (.str t) _ _=>tt (oM s t) λh=>tt (Nat.ble s.length ax) λl=>.yes λC=>qY h▸VZ (Nat.le_of_ble_eq_true l)
  | _=>.no
 | .aC s,D,x=>match x with
  | .Constant (.bytes t) _ _=>tt (s==t) λh=>tt (Nat.ble s.length ax) λl=>.yes λC=>eq_of_beq h▸VO (Nat.le_of_ble_eq_true l)
  | _=>.no
 | .slot i,D,x=>match x with
  | .Name y _=>tt (D.sl[i]?==some y) λh1=>ff (D.kl.flatten.contains y) λh2=>tt (sI D y) λh3=>tt (dm y) λh4=>.yes λC=>WL (eq_of_beq h1) (nc h2) (FC h3) h4
  | _=>.no
 | .ay d i,D,x=>match x with
  | .Name y _=>tt ((D.kl[d]?.bind λfr=>fr[i]?)==some y) λh1=>ff ((D.kl.take d).flatten.contains y) λh2=>tt (sI D y) λh3=>tt (dm y) λh4=>.yes λC=>match Option.bind_eq_some_iff.mp (eq_of_beq h1) with
   | ⟨fr,hf,e⟩=>VY hf e (nc h2) (FC h3) h4
  | _=>.no
 | .glob k,D,x=>match x with
  | .Name y _=>tt (nL D y) λh=>tt (gN k==some y) λh'=>.yes λC=>V3 C.W (lJ h).1 (lJ h).2 (eq_of_beq h')
  | _=>.no
 | .bin op a b,D,x=>match x with
  | .BinOp l pR r _=>tt (op==pR) λh=>(aY a D l).bd λha=>(aY b D r).bd λI=>.yes λC=>eq_of_beq h▸VL (ha C) (I C)
  | _=>.no
 | .neg a,D,x=>match x with
  | .UnaryOp .USub l _=>(aY a D l).bd λha=>.yes λC=>WB (ha C)
  | _=>.no
 | .not a,D,x=>match x with
  | .UnaryOp .Not l _=>(aY a D l).bd λha=>.yes λC=>WD (ha C)
  | _=>.no
 | .and a b,D,x=>match x with
  | .BoolOp .And (l::r::rs) pos=>(aY a D l).bd λha=>(aY b D (chain .And pos r rs)).bd λI=>.yes λC=>snd_and (ha C) (I C) (λenv=>Ai env rs) (λenv=>Aj env rs) (λh=>nomatch h)
  | _=>.no
 | .or a b,D,x=>match x with
  | .BoolOp .Or (l::r::rs) pos=>(aY a D l).bd λha=>(aY b D (chain .Or pos r rs)).bd λI=>.yes λC=>WG (ha C) (I C) (λenv=>Ai env rs) (λenv=>Aj env rs) (λh=>nomatch h)
  | _=>.no
 | .ite t a b,D,x=>match x with
  | .IfExp u l r _=>(aY t D u).bd λht=>(aY a D l).bd λha=>(aY b D r).bd λI=>.yes λC=>V8 (ht C) (ha C) (I C)
  | _=>.no
 | .cmp op a b,D,x=>match x with
  | .Compare l [pR] [r] _=>tt (op==pR) λh=>ff (behindInMarks op r) λh0=>(aY a D l).bd λha=>(aY b D r).bd λI=>.yes λC=>eq_of_beq h▸VQ (ha C) (I C) h0
  | _=>.no
 | .fS a b c,D,x=>match x with
  | .Compare l [.LtE,.LtE] [r,q] _=>(aY a D l).bd λha=>(aY b D r).bd λI=>(aY c D q).bd λhc=>.yes λC=>VU (ha C) (I C) (hc C)
  | _=>.no
 | .bS a,D,x=>match x with
  | .Compare l [.Is] [.Constant .none _ _] _=>(aY a D l).bd λha=>.yes λC=>V6 (ha C)
  | _=>.no
 | .bF a,D,x=>match x with
  | .Compare l [.IsNot] [.Constant .none _ _] _=>(aY a D l).bd λha=>.yes λC=>V7 (ha C)
  | _=>.no
 | .call f as,D,x=>match x with
  | .Call (.Name y _) xs [] _=>tt (nL D y) λh=>tt (fN f==some y) λh'=>(jW as D xs).bd λha=>.yes λC=>VM C.W C.S (ha C) (lJ h).1 (lJ h).2 (eq_of_beq h')
  | _=>.no
 | .new c as,D,x=>match x with
  | .Call (.Name y _) xs [] _=>tt (nL D y) λh=>tt (cN c==some y) λh'=>(jW as D xs).bd λha=>.yes λC=>WC C.W C.S (ha C) (lJ h).1 (lJ h).2 (eq_of_beq h')
  | _=>.no
 | .aG f as,D,x=>match x with
  | .Call (.Name y _) xs [] _=>match f with
   | .ic=>match as,xs with
    | .cons a .nil,[e,.Name z _]=>tt (fe D y "isinstance") λh1=>tt (fe D z "bool") λh2=>tt (notStar e) λh3=>(aY a D e).bd λha=>.yes λC=>V5 C.W (jV C.h boot_isinstance (.inl ⟨_,rfl⟩) h1) (jV C.h Ka (.inr ⟨_,rfl⟩) h2) (ha C) h3
    | _,_=>.no
   | .iX=>match as,xs with
    | .cons a (.cons b .nil),[.Call (.Name z _) [l,r] [] _]=>tt (fe D y "list") λh1=>tt (fe D z "range") λh2=>tt (notStar l) λh3=>tt (notStar r) λh4=>(aY a D l).bd λha=>(aY b D r).bd λI=>.yes λC=>V9 C.W (jV C.h Kc (.inr ⟨_,rfl⟩) h1) (jV C.h boot_range (.inr ⟨_,rfl⟩) h2) (ha C) (I C) h3 h4
    | _,_=>.no
   | f=>(sb f).bd λI=>tt (fe D y (qF f)) λh1=>(jW as D xs).bd λha=>.yes λC=>I C (jV C.h (J9 f) (JX f) h1) (ha C)
  | _=>.no
 | .aw m o as,D,x=>match x with
  | .Call (.Attribute y a apos) xs [] pos=>tt (sN y apos pos xs) λh1=>(Vb a m).bd λhm=>(aY o D y).bd λho=>(jW as D xs).bd λhs=>.yes λC=>hm C (FH h1) (ho C) (hs C)
  | _=>.no
 | .attr o a,D,x=>match x with
  | .Attribute y b _=>tt (a==b) λh=>tt (iM.contains a) λh1=>tt (uh y) λh2=>(aY o D y).bd λho=>.yes λC=>eq_of_beq h▸VI C.W (ho C) (List.contains_iff_mem.mp h1) (λenv=>zL h2 _ env)
  | _=>.no
 | .idx o i,D,x=>match x with
  | .Subscript y z _=>ff (sd z) λh=>(aY o D y).bd λho=>(aY i D z).bd λhi=>.yes λC=>V4 (ho C) (hi C) h
  | _=>.no
 | .bu o lo hi,D,x=>match x with
  | .Subscript y (.Slice l u none _) _=>(aY o D y).bd λho=>(FE lo D (λx=>aY lo D x) l).bd λh1=>(FE hi D (λx=>aY hi D x) u).bd λh2=>.yes λC=>WK (ho C) (h1 C) (h2 C)
  | _=>.no
 | .rev o,D,x=>match x with
  | .Subscript y (.Slice none none (some (.UnaryOp .USub (.Constant (.int 1) _ _) _)) _) _=>(aY o D y).bd λho=>.yes λC=>WH (ho C)
  | _=>.no
 | .repl _ _ _,_,_=>.no
 | .tup es,D,x=>match x with
  | .Tuple xs _ _=>tt (Nat.ble es.len 1000) λl=>(jW es D xs).bd λhs=>.yes λC=>WM (hs C) (Nat.le_of_ble_eq_true l)
  | _=>.no
 | .lst es,D,x=>match x with
  | .List xs _=>tt (Nat.ble es.len 1000) λl=>(jW es D xs).bd λhs=>.yes λC=>We (hs C) (Nat.le_of_ble_eq_true l)
  | _=>.no
 | .dct es,D,x=>match x with
  | .Dict keys vals _=>match keys,vals with
   | [],[]=>(Sw es).bd λh=>.yes λC=>h▸V1 C.W
   | q::keys,vals=>(FA es D (q::keys) vals).bd λh1=>tt ((q::keys).all (·.isSome)) λh2=>tt ((q::keys).length==vals.length) λh3=>tt (Nat.ble (q::keys).length 15) λh5=>tt (Nat.ble es.len 30) λh6=>.yes λC=>V0 C.W (h1 C) h2 (eq_of_beq h3) (λh=>nomatch h) (Nat.le_of_ble_eq_true h5) (Nat.le_of_ble_eq_true h6)
   | _,_=>.no
  | _=>.no
 | .qR,_,x=>match x with
  | .Dict [] [] _=>.yes λC=>V2 C.W
  | _=>.no
 | .comp n t it cc el,D,x=>match x with
  | .ListComp elt [⟨aI,iter,ifs,0⟩] scope _=>(FJ n t aI (fU aI)).bd λh1=>tt (sH D scope (fU aI)) λh2=>(xk it D aI iter).bd λh3=>ff (iU iter) λh4=>(Fy cc (iK D scope (fU aI)) ifs).bd λh5=>(aY el (iK D scope (fU aI)) elt).bd λh6=>.yes λC=>VX (Fz h2) (h3 C) h1 (h5 C) (h6 C) h4
  | _=>.no
 | .omit,_,_=>.no
noncomputable def jW:(es:aW)->(D:au)->(xs:List Expr)->af (Jh es D xs)
 | .nil,D,xs=>match xs with
  | []=>.yes λC=>HI
  | _=>.no
 | .cons e r,D,xs=>match xs with
  | x::xs=>tt (notStar x) λh=>(aY e D x).bd λhe=>(jW r D xs).bd λhr=>.yes λC=>yp h (he C) (hr C)
  | []=>.no
noncomputable def Fy:(es:aW)->(D:au)->(xs:List Expr)->af (∀C:Cz,jo (C.J D) es xs)
 | .nil,D,xs=>match xs with
  | []=>.yes λC=>Vf
  | _=>.no
 | .cons e r,D,xs=>match xs with
  | [x]=>(aY e D x).bd λhe=>.yes λC=>Vg (he C)
  | _=>.no
noncomputable def FA:(es:aW)->(D:au)->(ks:List (Option Expr))->(vs:List Expr)->af (∀C:Cz,mr (C.J D) es ks vs)
 | .nil,D,ks,vs=>match ks,vs with
  | [],[]=>.yes λC=>Vi
  | _,_=>.no
 | .cons e r,D,ks,vs=>match ks,vs with
  | some x::ks,v::vs=>(aY e D x).bd λhe=>(Sv r D ks v vs).bd λhr=>.yes λC=>match hr with
   | ⟨e',r',q,h1,h2⟩=>q▸Vh (he C) (h1 C) (h2 C)
  | _,_=>.no
noncomputable def Sv:(es:aW)->(D:au)->(ks:List (Option Expr))->(v:Expr)->(vs:List Expr)->af (∃e' r',es=.cons e' r'/\SE e' D v/\∀C:Cz,mr (C.J D) r' ks vs)
 | .nil,_,_,_,_=>.no
 | .cons e r,D,ks,v,vs=>(aY e D v).bd λhe=>(FA r D ks vs).bd λhr=>.yes ⟨e,r,rfl,he,hr⟩
noncomputable def xk:(it:MI)->(D:au)->(aI:Expr)->(x:Expr)->af (∀C:Cz,gu (C.J D) it aI x)
 | .of e,D,aI,x=>(aY e D x).bd λhe=>.yes λC=>Vm (he C)
 | .eF e,D,aI,x=>match x with
  | .Call (.Name y _) [l] [] _=>tt (fe D y "range") λh=>tt (notStar l) λh1=>(aY e D l).bd λhe=>.yes λC=>Vn C.W (jV C.h boot_range (.inr ⟨_,rfl⟩) h) (he C) h1
  | _=>.no
 | .xK a b,D,aI,x=>match x with
  | .Call (.Name y _) [l,r] [] _=>tt (fe D y "range") λh=>tt (notStar l) λh1=>tt (notStar r) λh2=>(aY a D l).bd λha=>(aY b D r).bd λI=>.yes λC=>Vo C.W (jV C.h boot_range (.inr ⟨_,rfl⟩) h) (ha C) (I C) h1 h2
  | _=>.no
 | .enum e,D,aI,x=>match aI,x with
  | .Tuple _ _ _,.Call (.Name y _) [l] [] _=>tt (fe D y "enumerate") λh=>tt (notStar l) λh1=>(aY e D l).bd λhe=>.yes λC=>Vl C.W (jV C.h boot_enumerate (.inr ⟨_,rfl⟩) h) (he C) h1
  | _,_=>.no
end
end
section
abbrev Cz.M(C:Cz)(e:MT)(D:au)(x:Expr):Prop:=g5 (C.J D) e x
abbrev Cz.Mx(C:Cz)(e:bI)(D:au)(x:List Expr):Prop:=mw (C.J D) e x
abbrev Cz.St(C:Cz)(e:MS)(D:au)(x:Stmt):Prop:=cX (C.J D) 0 e x
abbrev Cz.Ss(C:Cz)(e:bj)(D:au)(x:List Stmt):Prop:=dJ (C.J D) 0 e x
abbrev Cz.Sn(C:Cz)(tk:Bool)(e:bj)(D:au)(x:List Stmt):Prop:=dJ (C.J D) tk.toNat e x
variable(D:au)(ok:iC D)
theorem nt{b:Bool}(h:(!b)=true):b=false:=by
 cases b with
 | false=>rfl
 | true=>cases h
mutual
noncomputable def sJ:(t:MT)->(x:Expr)->af (∀C:Cz,C.M t D x)
 | .slot i,x=>match x with
  | .Name y _=>tt (D.sl[i]?==some y) λh=>.yes λC=>ym ok (eq_of_beq h)
  | _=>.no
 | .ay _,_=>.no
 | .idx o i,x=>match x with
  | .Subscript y z _=>(aY o D y).bd λho=>(aY i D z).bd λhi=>.yes λC=>Vq (ho C) (hi C)
  | _=>.no
 | .attr o a,x=>match x with
  | .Attribute y b _=>tt (a==b) λh=>tt (iM.contains a) λh1=>tt (Nat.ble a.length ax) λh2=>(aY o D y).bd λho=>.yes λC=>eq_of_beq h▸Vp C.W (ho C) (List.contains_iff_mem.mp h1) (Nat.le_of_ble_eq_true h2)
  | _=>.no
 | .tup ts,x=>match x with
  | .Tuple xs _ _=>tt (ts.len==xs.length) λh=>(xl ts xs).bd λhs=>.yes λC=>Vr (hs C) (eq_of_beq h)
  | _=>.no
noncomputable def xl:(ts:bI)->(xs:List Expr)->af (∀C:Cz,C.Mx ts D xs)
 | .nil,xs=>match xs with
  | []=>.yes λC=>Vt
  | _=>.no
 | .cons t r,xs=>match xs with
  | x::xs=>tt (notStar x) λh=>(sJ t x).bd λht=>(xl r xs).bd λhr=>.yes λC=>Vs h (ht C) (hr C)
  | []=>.no
end
structure I6(n:Nat)(t':MT)(it:MI)(cc:aW)(aI iter:Expr)(ifs:List Expr)(scope:Scope):Prop where
 c:gn D scope (fU aI)
 i:∀C:Cz,gu (C.J D) it aI iter
 b:SB n t' aI (fU aI)
 f:∀C:Cz,jo (C.J (iK D scope (fU aI))) cc ifs
 s:iU iter=false
noncomputable def ck(n:Nat)(t':MT)(it:MI)(cc:aW)(aI iter:Expr)(ifs:List Expr)(scope:Scope):af (I6 D n t' it cc aI iter ifs scope):=
 (FJ n t' aI (fU aI)).bd λh1=>tt (sH D scope (fU aI)) λh2=>(xk it D aI iter).bd λh3=>ff (iU iter) λh4=>(Fy cc (iK D scope (fU aI)) ifs).bd λh5=>.yes ⟨Fz h2,h3,h1,h5,h4⟩
noncomputable def Sq(t:MT)(e:ME)(xt v:Expr)(pos:Pos):af (∀C:Cz,C.St (.assign t e) D (.Assign [xt] v pos)):=match t with
 | .slot i=>match e with
  | .comp n t' it cc el=>match xt with
   | .Name y _=>match v with
    | .ListComp elt [⟨aI,iter,ifs,0⟩] scope _=>tt (D.sl[i]?==some y) λh=>(ck D n t' it cc aI iter ifs scope).bd λq=>(aY el (iK D scope (fU aI)) elt).bd λhe=>.yes λC=>HE ok (eq_of_beq h) q.c (q.i C) q.b (q.f C) (fE.of (he C)) q.s
    | _=>.no
   | _=>.no
  | _=>.no
 | _=>.no
abbrev Jg(o:ME)(a z:Str)(b:ME)(op:Operator)(D:au)(elt:Expr):Prop:=∀C:Cz,fE (C.J D) 1 (.bin op (.repl o a z) b) elt
noncomputable def Sy(o:ME)(a z:Str)(b:ME)(op:Operator)(D:au)(elt:Expr):af (Jg o a z b op D elt):=match elt with
 | .BinOp l pR r _=>match l with
  | .Call f xs [] pos=>match f with
   | .Attribute xo at' apos=>match xs with
    | [.Constant (.str a') ja pa,.Constant (.str z') jz pz,.Constant (.int 1) jn pn]=>tt (op==pR) λh1=>tt (a==a') λh2=>tt (z==z') λh3=>tt (at'=="replace") λh4=>tt (sN xo apos pos [.Constant (.str a') ja pa,.Constant (.str z') jz pz,.Constant (.int 1) jn pn]) λh5=>
     (aY o D xo).bd λho=>(aY b D r).bd λI=>.yes λC=>by
      cases eq_of_beq h1;cases eq_of_beq h2;cases eq_of_beq h3;cases eq_of_beq h4
      exact Vj (Vk (FH h5) (ho C)) (I C)
    | _=>.no
   | _=>.no
  | _=>.no
 | _=>.no
noncomputable def Sr(t:MT)(e:ME)(xt v:Expr)(pos:Pos):af (∀C:Cz,cX (C.J D) 1 (.assign t e) (.Assign [xt] v pos)):=match t with
 | .slot i=>match e with
  | .comp n t' it cc (.bin op (.repl o a z) b)=>match xt with
   | .Name y _=>match v with
    | .ListComp elt [⟨aI,iter,ifs,0⟩] scope _=>tt (D.sl[i]?==some y) λh=>(ck D n t' it cc aI iter ifs scope).bd λq=>(Sy o a z b op (iK D scope (fU aI)) elt).bd λhe=>.yes λC=>HE ok (eq_of_beq h) q.c (q.i C) q.b (q.f C) (he C) q.s
    | _=>.no
   | _=>.no
  | _=>.no
 | _=>.no
noncomputable def Pb(e:ME):af (e=.bz):=match e with
 | .bz=>.yes rfl
 | _=>.no
mutual
noncomputable def FG:(m:MS)->(x:Stmt)->af (∀C:Cz,C.St m D x)
 | .assign t e,x=>match x with
  | .Assign [xt] v pos=>af.or (P:=∀C:Cz,C.St (.assign t e) D (.Assign [xt] v pos)) ((sJ D ok t xt).bd λht=>(aY e D v).bd λhe=>tt (notStar xt) λh1=>tt (!m7 v||!r6 xt) λh2=>ff (ib xt&&ib v) λh3=>.yes λC=>
    Vu (ht C) (he C) h1 ((Bool.or_eq_true_iff.mp h2).imp nt nt) h3) (Sq D ok t e xt v pos)
  | _=>.no
 | .bK sw ts es,x=>match x with
  | .Assign [.Tuple xs _ _] (.Tuple vs _ _) _=>(jW es D vs).bd λh1=>tt (Nat.ble ts.len 1000) λh2=>match sw with
   | true=>tt ((slotNames D ts).isSome&&nY D.sc xs vs==some (slotNames D ts)) λh=>.yes λC=>Vv ok (Option.some_get (Bool.and_eq_true_iff.mp h).1).symm (h1 C) (Nat.le_of_ble_eq_true h2) ((eq_of_beq (Bool.and_eq_true_iff.mp h).2).trans (congrArg some (Option.some_get (Bool.and_eq_true_iff.mp h).1).symm))
   | false=>(xl D ok ts xs).bd λh3=>tt (ts.len==xs.length) λh4=>tt (nY D.sc xs vs==some none) λh5=>.yes λC=>Vw (h3 C) (eq_of_beq h4) (h1 C) (Nat.le_of_ble_eq_true h2) (eq_of_beq h5)
  | _=>.no
 | .aug i e,x=>match x with
  | .AugAssign (.Name y _) .Add v _=>tt (D.sl[i]?==some y) λh=>tt (dm y) λh1=>(aY e D v).bd λhe=>.yes λC=>Vx ok (eq_of_beq h) h1 (he C)
  | _=>.no
 | .aD t b o,x=>match x with
  | .If u xb xo _=>(aY t D u).bd λht=>(lK b xb).bd λI=>(lK o xo).bd λho=>.yes λC=>VA (ht C) (I C) (ho C)
  | _=>.no
 | .while t b,x=>match x with
  | .While u xb [] _=>(aY t D u).bd λht=>(lK b xb).bd λI=>.yes λC=>VG (ht C) (I C)
  | _=>.no
 | .for t it b,x=>match x with
  | .For xt u xb [] _=>(sJ D ok t xt).bd λht=>(xk it D xt u).bd λhi=>(lK b xb).bd λI=>ff (iU u) λh=>.yes λC=>Vz (ht C) (hi C) (I C) h
  | _=>.no
 | .ret e,x=>match x with
  | .Return v _=>match v with
   | some v=>(aY e D v).bd λhe=>.yes λC=>VC (he C)
   | none=>(Pb e).bd λh=>.yes λC=>h▸VD
  | _=>.no
 | .expr e,x=>match x with
  | .Expr v _=>(aY e D v).bd λhe=>ff (m7 v) λh=>.yes λC=>Vy (he C) h
  | _=>.no
 | .try b,x=>match x with
  | .Try xb _ [] [] _=>(lK b xb).bd λI=>.yes λC=>VF (I C)
  | _=>.no
 | .stuck,_=>.yes λC=>VE
noncomputable def lK:(ms:bj)->(xs:List Stmt)->af (∀C:Cz,C.Ss ms D xs)
 | .nil,xs=>match xs with
  | []=>.yes λC=>HG
  | _=>.no
 | .cons m r,xs=>match xs with
  | x::xs=>(FG m x).bd λh=>(lK r xs).bd λhr=>.yes λC=>yo (h C) (hr C)
  | []=>.no
end
noncomputable def SA(m:MS)(x:Stmt):af (∀(C:Cz) n r xs,C.Sn true r D xs->dJ (C.J D) n (.cons m r) (x::xs)):=match m with
 | .assign t (.ai z)=>match x with
  | .Assign [xt] (.Constant (.str z') _ _) _=>tt (oM z z') λh=>tt (Nat.ble z.length ax) λh1=>(sJ D ok t xt).bd λht=>tt (notStar xt) λh2=>ff (ib xt) λh3=>.yes λC n r xs hr=>qY h▸VH (Nat.le_of_ble_eq_true h1) (ht C) h2 h3 hr
  | _=>.no
 | _=>.no
noncomputable def Sz(m:MS)(x:Stmt):af (∀C:Cz,cX (C.J D) 1 m x):=match m with
 | .assign t e=>match x with
  | .Assign [xt] v pos=>Sr D ok t e xt v pos
  | _=>.no
 | _=>.no
noncomputable def sM:(ms:bj)->(tk:Bool)->(xs:List Stmt)->af (∀C:Cz,C.Sn tk ms D xs)
 | .nil,tk,xs=>match xs with
  | []=>.yes λC=>HG
  | _=>.no
 | .cons m r,tk,xs=>match xs with
  | x::xs=>af.or (P:=∀C:Cz,C.Sn tk (.cons m r) D (x::xs)) ((FG D ok m x).bd λh=>(sM r tk xs).bd λhr=>.yes λC=>yo (cX.of (h C)) (hr C))
    (af.or (P:=∀C:Cz,C.Sn tk (.cons m r) D (x::xs)) ((SA D ok m x).bd λh=>(sM r true xs).bd λhr=>.yes λC=>h C _ r xs (hr C))
    (match tk with
     | true=>(Sz D ok m x).bd λh=>(sM r true xs).bd λhr=>.yes λC=>yo (h C) (hr C)
     | false=>.no))
  | []=>.no
noncomputable def Su(ms:bj)(xs:List Stmt):af (∀C:Cz,C.Ss ms D xs):=(lK D ok ms xs).or ((sM D ok ms false xs).bd λh=>.yes h)
end
theorem ro:∀{ns:List Str} {vs:List Value} (pre:List (Str×Value)),ns.Nodup->(∀x∈ns,pre.lookup x=none)->ns.length=vs.length->
  ns.filterMap (λn=>((pre++ns.zip vs).lookup n).map (n,·))=ns.zip vs
 | [],vs,_,_,_,_=>rfl
 | n::ns,[],_,_,_,h=>by simp at h
 | n::ns,v::vs,pre,hn,hp,Y=>by
  rw[List.nodup_cons] at hn
  have e:(pre++(n::ns).zip (v::vs)).lookup n=some v:=by
   rw[List.lookup_append,hp n (by simp)];simp
  rw[List.filterMap_cons,e]
  show(n,v)::_=_
  rw[List.zip_cons_cons]
  refine congrArg _ ?_
  have:=ro (pre++[(n,v)]) hn.2 (λx hx=>by
   rw[List.lookup_append,hp x (List.mem_cons_of_mem _ hx)]
   have:(x==n)=false:=beq_eq_false_iff_ne.mpr λq=>hn.1 (q▸hx)
   simp[List.lookup_cons,this]) (by simpa using Y)
  rwa [List.append_assoc] at this
theorem wZ{ns:List Str}{vs:List Value}(hn:ns.Nodup)(Y:ns.length=vs.length):ns.filter (λn=>((ns.zip vs).lookup n).isNone)=[]:=by
 rw[List.filter_eq_nil_iff]
 intro x hx
 obtain⟨i,hi⟩:=List.mem_iff_getElem?.mp hx
 rw[yZ hn Y hi]
 have:i<vs.length:=Y▸cu hi
 simp[this]
theorem Yu{α:Type}{M:Model}{A:Around}{t t':Sem α}{Q:α->Shared->Prop}{E:Value->Shared->Prop}{s:Shared}(e:t=t')(h:wpAny M A t' Q E s):wpAny M A t Q E s:=e▸h
noncomputable def oI(arr:Option (Array Value))(n:Nat):List Value:=(arr.getD #[]).toList.drop ((arr.getD #[]).toList.length - n)
theorem bindG{s:Shared}{fd:FuncData}{as:List Arg}{ks:List (Option Expr)}{dl:List Expr}{ns:List Str}{vals:List Value}{arr:Option (Array Value)}{sl:List (Str×Value)}(hp:fd.params=⟨[],as,none,[],ks,none,dl⟩)(fX:as.map (·.arg)=ns)
  (hd:∀{M:Model} {A:Around} {E:Value->Shared->Prop} {Q:Option (Array Value)->Shared->Prop},Q arr s->wpAny M A (seqItems? fd.defaults) Q E s)
  (h1:vals.length<=ns.length) (hm:(ns.take (ns.length - (oI arr ns.length).length)).filter (λn=>((ns.zip vals).lookup n).isNone)=[])
  (hf:∀f:Str×Value->List (Str×Value)->Sem (ForInStep (List (Str×Value))),(∀x r,f x r=pure (.yield (if (r.lookup x.1).isNone=true then r++[x] else r)))->
   forIn ((ns.drop (ns.length - (oI arr ns.length).length)).zip (oI arr ns.length)) (ns.zip vals) f=pure sl) :
  BindsTo s fd ⟨vals,[]⟩ ((ns++[]).filterMap λn=>(sl.lookup n).map (n,·)):=by
 intro M A E Q hq
 obtain⟨p,x1,x2,d,x4⟩:=fd
 dsimp only at hp
 subst hp fX
 refine wpAny_bind (wpAny_pure ?_)
 refine wpAny_bind (hd ?_)
 refine wpAny_ite_false ?_ ?_
 .exact decide_eq_false λz=>Nat.not_lt.mpr h1 (of_decide_eq_true (Bool.and_eq_true_iff.mp z).1)
 refine wpAny_ite_false ?_ ?_
 .exact decide_eq_false λz=>by
   have z:=(congrArg (λl=>!List.isEmpty l) hm).symm.trans z
   cases z
 refine wpAny_bind (Yu (hf _ λx r=>?_) (wpAny_pure ?_))
 .by_cases h:(r.lookup x.1).isNone=true
  .rw[if_pos h];exact if_pos h
  .rw[if_neg h];exact if_neg h
 refine wpAny_bind (wpAny_pure ?_)
 refine wpAny_ite_false rfl ?_
 exact wpAny_pure hq
theorem JZ{s:Shared}{fd:FuncData}{as:List Arg}{ks:List (Option Expr)}{dl:List Expr}{ns:List Str}{vals:List Value}(hp:fd.params=⟨[],as,none,[],ks,none,dl⟩)(fX:as.map (·.arg)=ns)(hn:ns.Nodup)(hd:fd.defaults=.none)(Y:vals.length=ns.length) :
  BindsTo s fd ⟨vals,[]⟩ (ns.zip vals):=by
 have z:oI none ns.length=[]:=List.drop_nil
 have h:=bindG (s:=s) (arr:=none) (sl:=ns.zip vals) hp fX (λhq=>hd▸wpAny_pure hq) (Nat.le_of_eq Y) (by rw[z];exact(congrArg _ List.take_length).trans (wZ hn Y.symm)) λf Z=>by rw[z,List.zip_nil_right];rfl
 rw[List.append_nil] at h
 exact ro (vs:=vals) [] hn (λZ Z=>rfl) Y.symm▸h
theorem KY{α:Type}{l:List α}{x:α}{n:Nat}(h:n=(l++[x]).length):(l++[x]).drop (n - 1)=[x]/\(l++[x]).take (n - 1)=l:=by
 subst h
 rw[List.length_append]
 exact⟨List.drop_left,List.take_left⟩
theorem bind1{s:Shared}{fd:FuncData}{as:List Arg}{ks:List (Option Expr)}{dl:List Expr}{ns:List Str}{vals:List Value}{T:Addr}{o:Obj}{d:Value}{n:Nat}(hp:fd.params=⟨[],as,none,[],ks,none,dl⟩)(fX:as.map (·.arg)=ns)(hn:ns.Nodup)
  (hd:fd.defaults=.ref T) (ho:s.heap.get? T=some o) (hs:o.data=.seq #[d] n) (h0:0<ns.length) (Y:vals.length=ns.length∨vals.length+1=ns.length) :
  BindsTo s fd ⟨vals,[]⟩ (ns.zip (vals++if vals.length=ns.length then[] else[d])):=by
 obtain⟨l,x,e⟩:∃l x,ns=l++[x]:=⟨ns.dropLast,ns.getLast (List.ne_nil_of_length_pos h0),(List.dropLast_concat_getLast _).symm⟩
 have z:oI (some #[d]) ns.length=[d]:=congrArg (λk=>[d].drop k) (Nat.sub_eq_zero_of_le h0)
 have q:=KY (congrArg List.length e)
 rw[←e] at q
 have hx:x∉l/\l.Nodup:=by
  rw[e,List.nodup_append] at hn
  exact⟨λm=>hn.2.2 x m x (List.mem_singleton.mpr rfl) rfl,hn.1⟩
 have el:ns.length=l.length+1:=(congrArg List.length e).trans List.length_append
 have key:∀sl,((ns.zip vals).lookup x=none->sl=ns.zip vals++[(x,d)])->((ns.zip vals).lookup x≠none->sl=ns.zip vals)->(l.filter λn=>((ns.zip vals).lookup n).isNone)=[]->BindsTo s fd ⟨vals,[]⟩ ((ns++[]).filterMap λn=>(sl.lookup n).map (n,·)):=λsl s1 s2 hm=>
  bindG (arr:=some #[d]) hp fX (λhq=>hd▸wpAny_seqItems ho hs hq) (Y.elim Nat.le_of_eq λh=>h▸Nat.le_succ _) (by rw[z];exact q.2▸hm) λf hf=>by
   rw[z,show ns.drop (ns.length - [d].length)=[x] from q.1]
   refine(List.forIn_cons ..).trans ?_
   rw[hf]
   show(pure _:Sem _)=_
   refine congrArg _ ?_
   cases h:(ns.zip vals).lookup x with
   | none=>exact(s1 h).symm
   | some y=>exact(s2 λz=>nomatch h.symm.trans z).symm
 rcases Y with Y | Y
 .have hz:=wZ hn Y.symm
  have k:=key (ns.zip vals) (λw=>by
   have w':((ns.zip vals).lookup x).isNone=true:=by rw[w];rfl
   exact(List.filter_eq_nil_iff.mp hz x (e▸List.mem_append_right _ (List.mem_singleton.mpr rfl)) w').elim) (λZ=>rfl) (List.filter_eq_nil_iff.mpr λy hy=>List.filter_eq_nil_iff.mp hz y (e▸List.mem_append_left _ hy))
  rw[if_pos Y,List.append_nil]
  rw[List.append_nil] at k
  exact ro (vs:=vals) [] hn (λZ Z=>rfl) Y.symm▸k
 .have vX:l.length=vals.length:=Nat.succ.inj (el.symm.trans Y.symm)
  have wm:ns.zip vals=l.zip vals:=by
   have:=List.zip_append (r₁:=[x]) (r₂:=[]) vX
   rwa [List.append_nil,←e,List.zip_nil_right,List.append_nil] at this
  have hq:l.zip vals++[(x,d)]=ns.zip (vals++[d]):=by rw[e,List.zip_append vX];rfl
  have k:=key (ns.zip (vals++[d])) (λZ=>by rw[wm];exact hq.symm) (λw=>(w (wm▸y0 hx.1)).elim) (wm▸wZ hx.2 vX)
  rw[List.append_nil] at k
  rw[if_neg λz=>by rw[z] at Y;exact Nat.succ_ne_self _ Y]
  exact ro (vs:=vals++[d]) [] hn (λZ Z=>rfl) (by rw[List.length_append];exact Y.symm)▸k
end Mine.Internal
namespace Mine.Internal
set_option maxHeartbeats 4000000
open PySem PySem.Calls PyProof.Rows PySem.W
noncomputable def iu{α:Type}{P:Prop}:(o:Option α)->((a:α)->o=some a->af P)->af P
 | some a,f=>f a rfl
 | none,_=>.no
section
variable(h:Heap)
abbrev VB(a:O)(v:Value):Prop:=∀{w:World},VR w c0 h a v
mutual
noncomputable def yT:(a:O)->(v:Value)->af (VB h a v)
 | .none,v=>match v with
  | .none=>.yes rfl
  | _=>.no
 | .bool b,v=>match v with
  | .bool c=>tt (b==c) λq=>.yes (congrArg _ (eq_of_beq q).symm)
  | _=>.no
 | .int i,v=>match v with
  | .int j _=>tt (i==j) λq=>.yes (eq_of_beq q▸⟨_,rfl⟩)
  | _=>.no
 | .str s,v=>match v with
  | .str t _=>tt (oM s t) λq=>tt (Nat.ble s.length ax) λl=>.yes (qY q▸⟨Nat.le_of_ble_eq_true l,_,rfl⟩)
  | _=>.no
 | .bytes b,v=>match v with
  | .bytes c _=>tt (b==c.toList) λq=>tt (Nat.ble b.length ax) λl=>.yes (by cases eq_of_beq q;exact⟨Nat.le_of_ble_eq_true l,_,rfl⟩)
  | _=>.no
 | .tup vs,v=>match v with
  | .ref a=>tt (Nat.ble vs.length ax) λl=>iu (h.get? a) λo ho=>match o,ho with
   | ⟨c,none,.seq items n,⟨[]⟩⟩,ho=>tt (c==.type "tuple") λq=>(IE vs items.toList).bd λhv=>.yes (by cases eq_of_beq q;exact⟨Nat.le_of_ble_eq_true l,_,_,_,rfl,rfl,ho,hv⟩)
   | _,_=>.no
  | _=>.no
 | .ao _,_=>.no
 | .ref _,_=>.no
noncomputable def IE:(vs:List O)->(l:List Value)->af (∀{w:World},aq w c0 h vs l)
 | [],l=>match l with
  | []=>.yes rfl
  | _=>.no
 | v::r,l=>match l with
  | c::q=>(yT v c).bd λh1=>(IE r q).bd λh2=>.yes ⟨_,_,rfl,h1,h2⟩
  | []=>.no
end
noncomputable def codeB(cd:Value)(q:Str):af (h.CodeRec cd q):=match cd with
 | .ref c=>iu (h.get? c) λo ho=>match o,ho with
  | ⟨_,_,.fields vs,_⟩,ho=>iu (vs[1]?:Option Value) λv hv=>match v,hv with
   | .str q' _,hv=>tt (oM q q') λe=>.yes (by cases qY e;exact⟨_,_,_,_,rfl,ho,rfl,hv⟩)
   | _,_=>.no
  | _,_=>.no
 | _=>.no
noncomputable def uj(D:au):Bool:=D.kl.isEmpty&&decide D.sl.Nodup&&D.sl.all λx=>D.sc.names.lookup x==some .local||D.sc.names.lookup x==some .cell
theorem uk{D:au}(e:uj D=true):iC D:=by
 unfold uj at e
 simp only[Bool.and_eq_true,decide_eq_true_eq,List.isEmpty_iff,List.all_eq_true,Bool.or_eq_true,beq_iff_eq] at e
 exact⟨e.1.1,e.1.2,e.2⟩
abbrev PB(fd:FuncData)(ns:List Str)(d:List O):Prop:=∀{w:World} {s:Shared} (vals:List Value),Sub h s.heap->vals.length<=ns.length->ns.length - vals.length<=d.length->
  ∃ds:List Value,BindsTo s fd ⟨vals,[]⟩ (ns.zip (vals++ds))/\(vals++ds).length=ns.length/\aq w c0 h (d.drop (d.length - (ns.length - vals.length))) ds
theorem S2{fd:FuncData}{as:List Arg}{ks:List (Option Expr)}{dl:List Expr}{ns:List Str}(hp:fd.params=⟨[],as,none,[],ks,none,dl⟩)(e:as.map (·.arg)=ns)(hn:ns.Nodup)(hd:fd.defaults=.none):PB h fd ns []:=λvals hs h1 h2=>by
 have Y:vals.length=ns.length:=Nat.le_antisymm h1 (Nat.le_of_sub_eq_zero (Nat.le_zero.mp h2))
 refine⟨[],?_⟩
 rw[List.append_nil]
 exact⟨JZ hp e hn hd Y,Y,by rw[List.drop_nil];rfl⟩
theorem S3{fd:FuncData}{as:List Arg}{ks:List (Option Expr)}{dl:List Expr}{ns:List Str}{T:Addr}{o:Obj}{a:O}{d:Value}{n:Nat}(hp:fd.params=⟨[],as,none,[],ks,none,dl⟩)(e:as.map (·.arg)=ns)(hn:ns.Nodup)(hd:fd.defaults=.ref T)(ho:h.get? T=some o)(hs:o.data=.seq #[d] n)(h0:0<ns.length)(hv:VB h a d):PB h fd ns [a]:=λvals sb h1 h2=>by
 have Y:vals.length=ns.length∨vals.length+1=ns.length:=by
  have h2:ns.length - vals.length<=1:=h2
  lia
 refine⟨_,bind1 hp e hn hd (sb _ _ ho) hs h0 Y,?_⟩
 rcases Y with Y | Y
 .rw[if_pos Y,List.append_nil,Y,Nat.sub_self]
  exact⟨rfl,rfl⟩
 .have n1:¬vals.length=ns.length:=λq=>by rw[q] at Y;exact Nat.succ_ne_self _ Y
  rw[if_neg n1,←Y,Nat.add_sub_cancel_left]
  exact⟨by rw[List.length_append];rfl,_,_,rfl,hv,rfl⟩
noncomputable def S4(fd:FuncData)(ns:List Str)(hn:ns.Nodup)(d:List O):af (PB h fd ns d):=match hp:fd.params with
 | ⟨[],as,none,[],ks,none,dl⟩=>tt (as.map (·.arg)==ns) λe=>match d with
  | []=>match hd:fd.defaults with
   | .none=>.yes (S2 h hp (eq_of_beq e) hn hd)
   | _=>.no
  | [d]=>tt (Nat.ble 1 ns.length) λh0=>match hd:fd.defaults with
   | .ref T=>iu (h.get? T) λo ho=>match o,ho with
    | ⟨_,_,.seq ⟨[x]⟩ _,_⟩,ho=>(yT h d x).bd λhv=>.yes (S3 h hp (eq_of_beq e) hn hd ho rfl (Nat.le_of_ble_eq_true h0) hv)
    | _,_=>.no
   | _=>.no
  | _=>.no
 | _=>.no
abbrev FB(f:Nat)(fn:Fn):Prop:=FO h f/\∀{w:World},Wd w h->(∀x∈js,mg h x=none)->∃fd D body,tS w h f fn fd D body
noncomputable def Mh(f:Nat)(fn:Fn)(sl:List Str)(o:Obj)(ho:h.get? (fA f)=some o)(fd:FuncData)(hd:o.data=.func fd)(b:List Stmt)(I:fd.body=.stmts b):af (FB h f fn):=
 ff fd.scope.isCoroutine λq1=>ff fd.scope.isGenerator λq2=>tt (fd.scope.kind==.function) λq3=>tt (fd.globals==mainGlobals) λq4=>tt (fd.builtins==builtinsNs) λq5=>tt fd.closure.isEmpty λq6=>(codeB h fd.code fd.qualname).bd λq7=>
  tt (uj ⟨fd.scope,sl,[]⟩) λq8=>tt (sl.length==fn.m) λq9=>tt (Nat.ble fn.n fn.m) λTn=>tt ((sl.take fn.n).length==fn.n) λY=>(S4 h fd (sl.take fn.n) ((uk q8).nd.sublist (List.take_sublist _ _)) fn.d).bd λTo=>
   (Su ⟨fd.scope,sl,[]⟩ (uk q8) fn.body b).bd λTp=>.yes ⟨⟨o,fd,ho,hd⟩,λ{w} W hB=>⟨fd,⟨fd.scope,sl,[]⟩,b,{
    obj:=⟨o,ho,hd⟩
    code:=q7
    zM:=I
    co:=q1
    gen:=q2
    kind:=eq_of_beq q3
    glob:=eq_of_beq q4
    blt:=eq_of_beq q5
    As:=List.isEmpty_iff.mp q6
    sc:=rfl
    oB:=uk q8
    m:=eq_of_beq q9
    jR:=Nat.le_of_ble_eq_true Tn
    bind:=λ{s} vals hs h1 h2=>by
     have:=To (w:=w) (s:=s) vals hs (by rw[eq_of_beq Y];exact h1) (by rw[eq_of_beq Y];exact h2)
     rw[eq_of_beq Y] at this
     exact this
    snd:=λ{k} SF=>Tp ⟨w,h,k,W,SF,hB⟩}⟩⟩
noncomputable def Md(f:Nat)(fn:Fn)(sl:List Str):af (FB h f fn):=iu (h.get? (fA f)) λo ho=>match hd:o.data with
 | .func fd=>match I:fd.body with
  | .stmts b=>Mh h f fn sl o ho fd hd b I
  | .expr _=>.no
 | _=>.no
noncomputable def p4{P:Nat->Prop}(f:∀i,af (P i)):(n:Nat)->af (∀i,i<n->P i)
 | 0=>.yes λi hi=>absurd hi (Nat.not_lt_zero i)
 | n+1=>(f n).bd λh=>(p4 f n).bd λhr=>.yes λi hi=>(Nat.lt_succ_iff_lt_or_eq.mp hi).elim (hr i) λe=>e▸h
noncomputable def qz{α:Type}{P:α->Prop}(f:∀a,af (P a)):(l:List α)->af (∀a∈l,P a)
 | []=>.yes λa ha=>nomatch ha
 | b::l=>(f b).bd λh=>(qz f l).bd λhr=>.yes λa ha=>(List.mem_cons.mp ha).elim (λe=>e▸h) (hr a)
structure mi(K:Frag)(a:Addr)(i:Nat):Prop where
 make:makesIn K a=true
 init:findIn K (.ref a) "__init__" = some (some (.ref (fA i)))
 wu:typeIn K (.ref (fA i))=some (.type "function")
 ga:findIn K (.ref a) "__getattribute__" = some (some (.builtin "object.__getattribute__"))
 gk:findIn K (.ref a) "__getattr__" = some none
 sa:findIn K (.ref a) "__setattr__" = some (some (.builtin "object.__setattr__"))
 plain:plainOver K a=true
 dct:(clsIn K a).any (·.hasDict)=true
 fld:∀x∈iM,findIn K (.ref a) x=some none
noncomputable def du{α:Type}[BEq α][LawfulBEq α](a b:α):af (a=b):=tt (a==b) λh=>.yes (eq_of_beq h)
noncomputable def qN(K:Frag)(a:Addr)(i:Nat):af (mi K a i):=
 (du (makesIn K a) true).bd λq1=>(du _ _).bd λq2=>(du _ _).bd λq3=>(du _ _).bd λq4=>(du _ _).bd λq5=>(du _ _).bd λq6=>(du _ _).bd λq7=>(du _ _).bd λq8=>(qz (λx=>du (findIn K (.ref a) x) (some none)) iM).bd λq9=>.yes ⟨q1,q2,q3,q4,q5,q6,q7,q8,q9⟩
abbrev MP(K:Frag)(e:Nat×Nat×Nat):Prop:=FO h e.2.2/\∃x,mN e.2.1=some x/\x∈nv/\findIn K (.ref (cy e.1)) x=some (some (.ref (fA e.2.2)))/\typeIn K (.ref (fA e.2.2))=some (.type "function")
noncomputable def Mi(f:Nat):af (FO h f):=iu (h.get? (fA f)) λo ho=>match hd:o.data with
 | .func fd=>.yes ⟨o,fd,ho,hd⟩
 | _=>.no
noncomputable def Qd(K:Frag)(e:Nat×Nat×Nat):af (MP h K e):=(Mi h e.2.2).bd λq0=>iu (mN e.2.1) λx hx=>tt (nv.contains x) λq1=>(du (findIn K (.ref (cy e.1)) x) _).bd λq2=>(du (typeIn K (.ref (fA e.2.2))) _).bd λq3=>.yes ⟨q0,x,hx,List.contains_iff_mem.mp q1,q2,q3⟩
structure zc:Prop where
 g:h.isNs mainGlobals=true
 b:h.isNs builtinsNs=true
 l:h.NoLimit
 n:∀x∈js,h.nsMap mainGlobals x=none
noncomputable def Ff:af (zc h):=(du (h.isNs mainGlobals) true).bd λq1=>(du (h.isNs builtinsNs) true).bd λq2=>(du (h.isNs cStatics) true).bd λq3=>(du (h.nsMap cStatics "sys.recursionlimit") none).bd λq4=>(qz (λx=>du (h.nsMap mainGlobals x) none) js).bd λq5=>.yes ⟨q1,q2,⟨_,.of_isNs q3,q4⟩,q5⟩
noncomputable def r4{α:Type}{P:α->Prop}:(o:Option α)->(∀a,af (P a))->af (∀a,o=some a->P a)
 | some a,f=>(f a).bd λh=>.yes λb e=>Option.some.inj e▸h
 | none,_=>.yes λb e=>nomatch e
structure y9:Prop where
 f:∀f,f<73->∀x,fN f=some x->h.nsMap mainGlobals x=some (.ref (fA f))
 c:∀c,c<4->∀x,cN c=some x->h.nsMap mainGlobals x=some (.ref (cy c))
 g:∀k,k<19->∀x,gN k=some x->∃v a,h.nsMap mainGlobals x=some v/\tab.kX[k]?=some a/\∀{w:World},VR w c0 h a v
noncomputable def Fb:af (y9 h):=(p4 (λf=>r4 (fN f) λx=>du (h.nsMap mainGlobals x) (some (.ref (fA f)))) 73).bd λq1=>(p4 (λc=>r4 (cN c) λx=>du (h.nsMap mainGlobals x) (some (.ref (cy c)))) 4).bd λq2=>
 (p4 (λk=>r4 (gN k) λx=>iu (h.nsMap mainGlobals x) λv hv=>iu (tab.kX[k]?) λa ha=>(yT h a v).bd λq=>.yes ⟨v,a,hv,ha,q⟩) 19).bd λq3=>.yes ⟨q1,q2,q3⟩
structure qn:Prop where
 a:mi (dE h) 142 9
 b:mi (dE h) 411 36
 c:mi (dE h) 255 20
 d:mi (dE h) 304 24
 m:∀e∈sz,MP h (dE h) e
noncomputable def Aq:af (qn h):=(qN (dE h) 142 9).bd λq1=>(qN (dE h) 411 36).bd λq2=>(qN (dE h) 255 20).bd λq3=>(qN (dE h) 304 24).bd λq4=>(qz (Qd h (dE h)) sz).bd λq5=>.yes ⟨q1,q2,q3,q4,q5⟩
noncomputable def Ci:af (∀f,f<73->∀fn,fns f=some fn->FB h f fn):=p4 (λf=>r4 (fns f) λfn=>iu (Vc[f]?) λsl Z=>Md h f fn sl) 73
noncomputable def Ao:Bool:=(Ff h).ok
noncomputable def An:Bool:=(Fb h).ok
noncomputable def Am:Bool:=(Aq h).ok
noncomputable def uC:Bool:=(Ci h).ok
noncomputable def jA:Bool:=Ao h&&An h&&Am h&&uC h
end
structure n7(h:Heap):Prop where
 ns:zc h
 nm:y9 h
 cl:qn h
 fn:∀f,f<73->∀fn,fns f=some fn->FB h f fn
section
variable{w:World}{h:Heap}
theorem uD(e:jA h=true):n7 h:=by
 unfold jA at e
 have e1:=Bool.and_eq_true_iff.mp e
 have e2:=Bool.and_eq_true_iff.mp e1.1
 have e3:=Bool.and_eq_true_iff.mp e2.1
 exact⟨(Ff h).get e3.1,(Fb h).get e3.2,(Aq h).get e2.2,(Ci h).get e1.2⟩
theorem EJ{c k f:Nat}(e:EH c k=some f):(c,k,f)∈sz:=by
 obtain⟨⟨c',k',f'⟩,h,q⟩:=Option.map_eq_some_iff.mp e
 have hm:=List.mem_of_find?_eq_some h
 have hp:(Nat.beq c' c&&Nat.beq k' k)=true:=List.find?_some (p:=λe:Nat×Nat×Nat=>Nat.beq e.1 c&&Nat.beq e.2.1 k) h
 have hp:=Bool.and_eq_true_iff.mp hp
 cases Nat.eq_of_beq_eq_true hp.1
 cases Nat.eq_of_beq_eq_true hp.2
 cases q
 exact hm
theorem qn.at(x:qn h)(c:Nat):y4 (dE h) c:=by
 have m:∀k f,tab.aw c k=some f->∃x,mN k=some x/\x∈nv/\findIn (dE h) (.ref (cy c)) x=some (some (.ref (fA f)))/\typeIn (dE h) (.ref (fA f))=some (.type "function"):=λk f e=>(x.m _ (EJ e)).2
 have p:mi (dE h) (cy c) (r5 c):=match c with
  | 0=>x.a
  | 1=>x.b
  | 2=>x.c
  | _+3=>x.d
 exact⟨p.make,p.init,p.wu,p.ga,p.gk,p.sa,p.plain,p.dct,p.fld,m⟩
variable(e:n7 h)
include e
theorem n7.W(I:∀x:Str,x≠"__name__"->h.nsMap builtinsNs x=bootBuiltins x):Wd w h where
 g:=.of_isNs e.ns.g
 b:=.of_isNs e.ns.b
 bi:=I
 fn:=λf x hx=>
  have hf:f<73:=by
   have hx:(vr[f]?).join=some x:=hx
   cases q:vr[f]? with
   | none=>rw[q] at hx;cases hx
   | some y=>exact cu q
  ⟨e.nm.f f hf x hx,(e.fn f hf _ (List.getElem?_eq_getElem (l:=vt) hf)).1⟩
 gl:=λk x hx=>(e.nm.g k (cu (l:=CF) hx) x hx).imp λv z=>z.imp λa z=>⟨z.1,z.2.1,z.2.2⟩
 cl:=λc x hx=>e.nm.c c (cu (l:=Az) hx) x hx
 cls:=e.cl.at
 mf:=λc k f hm=>(e.cl.m _ (EJ hm)).1
theorem n7.sound(I:∀x:Str,x≠"__name__"->h.nsMap builtinsNs x=bootBuiltins x):∀k,fF w h k (F k)
 | 0=>⟨λhe=>he.elim⟩
 | k+1=>WU (λf fn hf=>(e.fn f (cu (l:=vt) hf) fn hf).2 (e.W I) e.ns.n) e.ns.l (n7.sound I k)
end
end Mine.Internal
namespace Mine.Internal
open PySem PySem.W PyProof.Rows PySem.Calls
noncomputable def qg(Ii ok:Thread->Bool)(st:SharedT->Thread->Option (SharedT×Thread)):Nat->SharedT->Thread->Option SharedT
 | 0,_,_=>none
 | n+1,s,t=>match Ii t with
  | true=>some s
  | false=>match ok t with
   | false=>none
   | true=>match st s t with
    | some (s',t')=>qg Ii ok st n s' t'
    | none=>none
theorem H9{tb:String->Option Builtin}{p:Program}{w:World}{n₀:Nat}{ann:Option Value}:∀{n:Nat} {s s':SharedT} {t:Thread},qg through (stepOk n₀ ann) (stepT (denote tb) p w) n s t=some s'->topRun tb p w n₀ ann n s.abs t=some s'.abs
 | 0,_,_,_,h=>by cases h
 | n+1,s,s',t,h=>by
  unfold qg at h
  unfold topRun
  cases ht:through t with
  | true=>rw[ht] at h;cases h;rfl
  | false=>
   rw[ht] at h
   cases hk:stepOk n₀ ann t with
   | false=>rw[hk] at h;cases h
   | true=>
    rw[hk] at h
    cases hs:stepT (denote tb) p w s t with
    | none=>rw[hs] at h;cases h
    | some r=>obtain⟨aA,Y4⟩:=r;rw[hs] at h;dsimp only;rw[stepT_spec hs];exact H9 h
noncomputable def E4:List Obj->Nat->BT->BT
 | [],_,t=>t
 | o::r,n,t=>E4 r (n+1) (t.ins n o)
noncomputable def uq(P:Params)(os:OsState):SharedT:=⟨E4 (boot_heap P).objs.toList 0 .nil,11,(boot_heap P).life,Array.mk [],boot_drawn,boot_toks,os⟩
theorem J8(P:Params)(os:OsState):(uq P os).abs=⟨boot_heap P,Array.mk [],boot_drawn,boot_toks,os⟩:=by kernel_rfl
theorem PK{p q:Program}{loose:List Str}{Xt:Shared->Bool}{α:Type}{Yf:Shared->α}{Ya:World->α}{N:Nat}{g0:Bool}
  (boot:∀w:World,(fencedOpening treeTable p w N).map (λs=>(s.heap,s.gens,s.drawn,s.toks))=some (boot_heap w.params,Array.mk [],boot_drawn,boot_toks))
  (size:∀P:Params,((boot_heap P).isNs mainGlobals,(boot_heap P).objs.size,(boot_heap P).nsMap mainGlobals "__annotations__")=(true,11,some (.ref 6)))
  (run:∀(w:World) (os:OsState),(qg through (stepOk 11 (some (.ref 6))) (stepT (denote treeTable) p w) N (uq w.params os) (topStub p)).map (λs=>
    ((staticsOk (importedModules p.main.body) (boot_heap w.params) s.abs.heap&&namesBound p s.abs.heap&&gensDone s.abs&&laidKept (boot_heap w.params) s.abs.heap),openSeen q loose (importedModules p.main.body) Xt g0 s.abs,Yf s.abs)) =
   some (true,openGood q loose,Ya w)):LeftO p q loose Xt Yf Ya N g0:=λw=>by
 obtain⟨⟨h,gs,d,k,os⟩,e,e'⟩:=Option.map_eq_some_iff.mp (boot w)
 obtain⟨rfl,rfl,rfl,rfl⟩:h=boot_heap w.params/\gs=Array.mk []/\d=boot_drawn/\k=boot_toks:=by simpa using e'
 obtain⟨z1,z2,z3⟩:_/\_/\_:=by simpa only [Prod.mk.injEq] using size w.params
 obtain⟨aJ,r,l⟩:=Option.map_eq_some_iff.mp (run w os)
 obtain⟨l1,l2⟩:=Prod.mk.inj l
 have r:=H9 r
 rw[J8] at r
 have t:topFrom treeTable p w N ⟨boot_heap w.params,Array.mk [],boot_drawn,boot_toks,os⟩=some aJ.abs:=by
  unfold topFrom
  dsimp only
  rw[z1,z2,z3,r]
  show(match staticsOk (importedModules p.main.body) (boot_heap w.params) aJ.abs.heap&&namesBound p aJ.abs.heap&&gensDone aJ.abs&&laidKept (boot_heap w.params) aJ.abs.heap with | true=>_ | false=>_)=_
  rw[l1]
 unfold openEnds
 rw[e]
 show(topFrom treeTable p w N _).map _=_
 rw[t]
 exact congrArg some l2
abbrev pw:=PySem.Challenge.pw_nt0069_01
end Mine.Internal
namespace Mine.Internal
set_option maxHeartbeats 0
open PySem PySem.W PyProof.Rows PySem.Calls
noncomputable def qv:Program:=PySem.W.view pw [94]
noncomputable def nu:List Str:=pw.boundNames.filter λ(k:Str)=>!(k==("law" : Str))
noncomputable def NN:Nat:=9000
theorem Kb:∀w:World,(fencedOpening treeTable pw w NN).map (λs=>(s.heap,s.gens,s.drawn,s.toks))=some (boot_heap w.params,Array.mk [],boot_drawn,boot_toks):=
 boot_open (by kernel_rfl) (by decide) (λs=>by kernel_rfl)
theorem Kd:∀P:Params,((boot_heap P).isNs mainGlobals,(boot_heap P).objs.size,(boot_heap P).nsMap mainGlobals "__annotations__")=(true,11,some (.ref 6)):=λP=>by kernel_rfl
noncomputable def lZ(w:World)(os:OsState):Option SharedT:=qg through (stepOk 11 (some (.ref 6))) (stepT (denote treeTable) pw w) NN (uq w.params os) (topStub pw)
theorem TQ:∀(w:World) (os:OsState),(lZ w os).map (λs=>(staticsOk (importedModules pw.main.body) (boot_heap w.params) s.abs.heap&&namesBound pw s.abs.heap&&gensDone s.abs&&laidKept (boot_heap w.params) s.abs.heap,openSeen qv nu (importedModules pw.main.body) (λZ=>true) true s.abs))=some (true,openGood qv nu):=by
 intro w os
 unfold lZ
 rw[PySem.W.Fast.te14364793385576792824,PySem.W.Fast.te11892475500146522536,PySem.W.Fast.te10156331382660048174,PySem.W.Fast.te6613529449190102663]
 kernel_rfl
theorem TR:∀(w:World) (os:OsState),(lZ w os).map (λs=>(Ao s.abs.heap,An s.abs.heap,Am s.abs.heap,s.abs.heap.bltView))=some (true,true,true,bltViewBooted):=by
 intro w os
 unfold lZ
 rw[PySem.W.Fast.te14364793385576792824,PySem.W.Fast.te11892475500146522536,PySem.W.Fast.te10156331382660048174,PySem.W.Fast.te6613529449190102663]
 kernel_rfl
theorem TS:∀(w:World) (os:OsState),(lZ w os).map (λs=>uC s.abs.heap)=some true:=by
 intro w os
 unfold lZ
 rw[PySem.W.Fast.te14364793385576792824,PySem.W.Fast.te11892475500146522536,PySem.W.Fast.te10156331382660048174,PySem.W.Fast.te6613529449190102663]
 kernel_rfl
theorem Nx(w:World)(os:OsState):(lZ w os).map (λs=>
    ((staticsOk (importedModules pw.main.body) (boot_heap w.params) s.abs.heap&&namesBound pw s.abs.heap&&gensDone s.abs&&laidKept (boot_heap w.params) s.abs.heap),openSeen qv nu (importedModules pw.main.body) (λZ=>true) true s.abs,(jA s.abs.heap,s.abs.heap.bltView))) =
   some (true,openGood qv nu,(true,bltViewBooted)):=by
 obtain⟨s,h,e1⟩:=Option.map_eq_some_iff.mp (TQ w os)
 have e2:=TR w os
 have e3:=TS w os
 rw[h] at e2 e3 ⊢
 obtain⟨a1,a2⟩:=Prod.mk.inj e1
 obtain⟨b1,b⟩:=Prod.mk.inj (Option.some.inj e2)
 obtain⟨b2,b⟩:=Prod.mk.inj b
 obtain⟨b3,b4⟩:=Prod.mk.inj b
 have b5:uC s.abs.heap=true:=Option.some.inj e3
 have c:jA s.abs.heap=true:=by
  unfold jA
  rw[b1,b2,b3,b5];rfl
 show some (_,_,_,_)=_
 rw[a1,a2,c,b4]
theorem Nv:LeftO pw qv nu (λZ=>true) (λs=>(jA s.heap,s.heap.bltView)) (λZ=>(true,bltViewBooted)) NN:=PK Kb Kd Nx
end Mine.Internal
namespace Mine.Internal
set_option backward.match.sparseCases true
set_option maxHeartbeats 0
open PySem PySem.W PyProof.Rows PySem.Calls
theorem UG:noRoadLSs {strict:=!(importedModules pw.main.body).all cThrough.contains,foot:=none,bare:=(["vars","dir","locals"]:List Str).filter (readsOut pw pw.main.body)} pw.main.body=true:=by
 try rw[PySem.W.Fast.te5923862056798008813]
 try rw[PySem.W.Fast.te11788848310118352699]
 try rw[PySem.W.Fast.te8377067652309620493]
 try rw[PySem.W.Fast.te18344453789297297638]
 try rw[PySem.W.Fast.te8326940854005059898]
 try rw[PySem.W.Fast.te17119622794617984870]
 try rw[PySem.W.Fast.te13343964577679436407]
 try rw[PySem.W.Fast.te9807087744658564304]
 try rw[PySem.W.Fast.te12862048085361865435]
 try rw[PySem.W.Fast.te8179353310426384613]
 try rw[PySem.W.Fast.te10501279942588096481]
 try rw[PySem.W.Fast.te9558739934217749035]
 try rw[PySem.W.Fast.te16286561074155671207]
 try rw[PySem.W.Fast.te797321630700447069]
 try rw[PySem.W.Fast.te10792542408131684335]
 try rw[PySem.W.Fast.te6984425678791042302]
 try rw[PySem.W.Fast.named_eq]
 kernel_rfl
theorem UD:looksOpen pw=true:=by
 unfold looksOpen
 rw[UG]
 try rw[PySem.W.Fast.te5923862056798008813]
 try rw[PySem.W.Fast.te11788848310118352699]
 try rw[PySem.W.Fast.te8377067652309620493]
 try rw[PySem.W.Fast.te18344453789297297638]
 try rw[PySem.W.Fast.te8326940854005059898]
 try rw[PySem.W.Fast.te17119622794617984870]
 try rw[PySem.W.Fast.te13343964577679436407]
 try rw[PySem.W.Fast.te9807087744658564304]
 try rw[PySem.W.Fast.te12862048085361865435]
 try rw[PySem.W.Fast.te8179353310426384613]
 try rw[PySem.W.Fast.te10501279942588096481]
 try rw[PySem.W.Fast.te9558739934217749035]
 try rw[PySem.W.Fast.te16286561074155671207]
 try rw[PySem.W.Fast.te797321630700447069]
 try rw[PySem.W.Fast.te10792542408131684335]
 try rw[PySem.W.Fast.te6984425678791042302]
 try rw[PySem.W.Fast.named_eq]
 kernel_rfl
abbrev p9:=PySem.Challenge.rw_nt0069_01
theorem UE:p9.row.partSaid=true:=by
 unfold OpenRow.partSaid
 rw[show looksOpen p9.row.prog=true from UD]
 kernel_rfl
theorem UH:p9.row.wellSaid=true:=by
 unfold OpenRow.wellSaid
 rw[UE]
 kernel_rfl
theorem UI:p9.wellSaid=true:=by
 unfold OpenLaw.wellSaid
 rw[UH]
 try rw[PySem.W.Fast.te5923862056798008813]
 try rw[PySem.W.Fast.te11788848310118352699]
 try rw[PySem.W.Fast.te8377067652309620493]
 try rw[PySem.W.Fast.te18344453789297297638]
 try rw[PySem.W.Fast.te8326940854005059898]
 try rw[PySem.W.Fast.te17119622794617984870]
 try rw[PySem.W.Fast.te13343964577679436407]
 try rw[PySem.W.Fast.te9807087744658564304]
 try rw[PySem.W.Fast.te12862048085361865435]
 try rw[PySem.W.Fast.te8179353310426384613]
 try rw[PySem.W.Fast.te10501279942588096481]
 try rw[PySem.W.Fast.te9558739934217749035]
 try rw[PySem.W.Fast.te16286561074155671207]
 try rw[PySem.W.Fast.te797321630700447069]
 try rw[PySem.W.Fast.te10792542408131684335]
 try rw[PySem.W.Fast.te6984425678791042302]
 try rw[PySem.W.Fast.named_eq]
 kernel_rfl
end Mine.Internal
namespace Mine.Internal
set_option maxHeartbeats 4000000
open PySem PySem.W PyProof.Rows PySem.Calls
theorem R8{h:Heap}{a:Addr}{m m':Str->Option Value}(x:h.Ns a m)(y:h.Ns a m')(n:Str):m n=m' n:=by
 obtain⟨o,es,ep,h1,h2,_,h3⟩:=x
 obtain⟨o',uT,Lv,k1,k2,_,k3⟩:=y
 rw[h1] at k1;cases k1
 rw[h2] at k2;cases k2
 rw[←h3,←k3]
theorem XT{prog:Program}(hp:prog=aL){KK:Nat}(hK:KK<=40){xs:List Int}(hx:xs.length<=63)(og:F KK 72 [.val (.ao (.list (xs.map .int)))] [] λx Z Z=>x=.val (.bool true)){w:World}{B:Heap}(hc:jA B=true)
  (I:∀x:Str,x≠"__name__"->B.nsMap builtinsNs x=bootBuiltins x) {s:Shared} (hs:Sub B s.heap) {a:Addr} {ni:List Value} (hI:IntsAre ni xs) (ho:s.heap.get? a=some {cls:=.type "list",data:=.seq ni.toArray}) :
  codeAny (model prog w) callerA (.call (.ref 632) ⟨[.ref a],[]⟩) (λr s'=>r=.ok (.ret (.bool true))/\∃h' tk,s'={s with heap:=h',toks:=tk}/\∀b o,s.heap.get? b=some o->h'.get? b=some o) s:=by
 subst hp
 have Y:(xs.map O.int).length<=ax:=by rw[List.length_map];exact Nat.le_trans hx (by decide)
 have G:Gd w B c0 s.heap (qe [.val (.ao (.list (xs.map .int)))] []) (cR [.ref a]) ie [] []:={
  base:=hs
  ok:=λb o e=>nomatch e
  cO:=rfl
  cq:=λl k a e=>nomatch e
  slt:=λi x e=>match i,e with
   | 0,e=>Option.some.inj (Option.some.inj e)▸⟨a,rfl,rfl,Y,ni.toArray,0,ho,IH hI⟩
  dc:=λd i fr v e=>nomatch e
  bw:=rfl}
 have R:mn callerA KK:=⟨rfl,by show 1+300+5*KK<=504;lia,by show 4+20*KK<=2010;lia⟩
 refine((uD hc).sound I KK).run (f:=72) og R rfl G λx fin H' v s' c' e p=>?_
 subst e
 exact⟨congrArg (λv=>Except.ok (Flow.ret v)) p.gd.bw.hd,s'.heap,s'.toks,p.mv.se,λb o q=>(p.mv.le.k b o rfl q).2⟩
set_option tactic.hygienic true in
theorem XU{KK:Nat}(hK:KK<=40)(og:∀xs:List Int,xs.length<=63->F KK 72 [.val (.ao (.list (xs.map .int)))] [] λx Z Z=>x=.val (.bool true)):p9.Holds:=by
 refine holds_law UI λUC=>?_
 refine holds_openX (q:=qv) (loose:=nu) (Xt:=λZ=>true) (XP:=λZ Z=>True) (N:=NN) Nv (λZ Z=>trivial) (λZ Z Z Z Z=>trivial) (by rfl) (by rfl) (by rfl) (λZ Z=>recFacts_of (by rfl)) (by rfl) UC (by decide+kernel) ⟨rfl,rfl,rfl,rfl,rfl,by decide+kernel⟩ ?hw ?hc
 case hw=>exact⟨[.list []],by decide+kernel,by decide+kernel⟩
 intro w tD aJ mg mb G y fa o pm cd doc dV kV ho hd vM hD Dq hg args vals as L Ot NX v7 OH N0
 have e1:jA tD.heap=true:=congrArg Prod.fst y
 have e2:tD.heap.bltView=bltViewBooted:=congrArg Prod.snd y
 have I:∀x:Str,x≠"__name__"->tD.heap.nsMap builtinsNs x=bootBuiltins x:=λx hx=>Heap.of_bltView (uD e1).ns.b e2 x hx
 have hs:Sub tD.heap aJ.heap:=L.keeps
 have W:=(uD e1).W (w:=w) I
 have Nz:fa=632:=by
  have:=R8 (W.g.keeps hs) (G.T.g) "law"
  rw[(W.fn 72 "law" rfl).1] at this
  have q:mg "law" = some (.ref fa):=Dq
  rw[q] at this
  cases this;rfl
 subst Nz
 clear hd ho vM hD Dq y W
 wrow_args Ot NX v7 OH N0
 rename_i xs _ _ _ _ _ _ _ a ni _ hL _ _ _ hI _ hlen _
 have ho:=X.script_obj L hL
 have og:=og xs (by lia)
 refine wpAny_call (codeAny_mono (XT (by unfold aL;rfl) hK (by lia) og e1 I hs hI ho) λr s' q=>?_)
 obtain⟨rfl,h',tk,rfl,k⟩:=q
 refine GoodW.toG ⟨.inl ⟨_,.bool true,[],rfl,λZ=>rfl,.bool true,?_,λZ=>⟨List.nodup_nil,λZ m=>by cases m⟩⟩,k,rfl,hg⟩
 wrow_post
end Mine.Internal
namespace Mine.Internal.P
open PySem (Str Operator CmpOp)
noncomputable def St.up(st:St)(i:Nat)(x:VS):St:=⟨st.σ.set i (some x),st.lk,st.κ,st.H⟩
noncomputable def St.wH(st:St)(H:HH):St:=⟨st.σ,st.lk,st.κ,H⟩
noncomputable def St.bb(st:St)(fr:List (Option O)):St:=⟨st.σ,st.lk,fr::st.κ,st.H⟩
noncomputable def St.jM(fn:Fn)(as:List VS)(H:HH):St:=⟨(fill fn as).map some++List.replicate (fn.m - fn.n) none,(fill fn as).map ll,[],H⟩
def ret(r:ER)(st:St):KE->Prop:=λK=>K r st
def Tx(b:Bool)(st:St):KT->Prop:=λK=>K b st
def pt(st:St):(St->Prop)->Prop:=λK=>K st
def ups(i:Nat)(x:VS)(st:St):(St->Prop)->Prop:=λK=>match st with
 | ⟨σ,lk,κ,H⟩=>dQ (some x) σ i λσ=>K ⟨σ,lk,κ,H⟩
def kc(i:Nat)(x:VS)(st:St):(St->Prop)->Prop:=λK=>jc i x st K
def ins(fn:Fn)(as:List VS)(H:HH):(St->Prop)->Prop:=λK=>mS ((fill fn as).map ll) λlk=>fL ((fill fn as).map some++List.replicate (fn.m - fn.n) none) λσ=>K ⟨σ,lk,[],H⟩
def Pu(G:FT)(f:Nat)(as:List VS)(x:VS):Prop:=∀(H:HH) (Q:VS->List VS->HH->Prop),(∀fin:List VS,fin.length=as.length->Q x fin H)->GK G f as H Q
def Pe(G:FT)(f:Nat)(c:AC)(vs:List O)(v:O)(c':AC):Prop:=∀(H:HH) (Q:VS->List VS->HH->Prop),(∀fin:List VS,fin.length=vs.length->Q (.val v) (.own c'::fin) H)->GK G f (.own c::vs.map .val) H Q
theorem LD:∀(x:Option VS) {Q:Option VS->Prop},Q x->fO x Q
 | none,_,h=>h
 | some (.val _),_,h=>h
 | some (.own _),_,h=>h
theorem Bn:∀(x:List (Option VS)) {Q:List (Option VS)->Prop},Q x->fL x Q
 | [],_,h=>h
 | a::l,_,h=>LD a (Bn l h)
theorem uW:∀(x:List Bool) {Q:List Bool->Prop},Q x->mS x Q
 | [],_,h=>h
 | true::l,_,h=>uW l h
 | false::l,_,h=>uW l h
theorem lR{α:Type}(x:α):∀(l:List α) (n:Nat) {Q:List α->Prop},Q (l.set n x)->dQ x l n Q
 | [],_,_,h=>h
 | _::_,0,_,h=>h
 | _::l,n+1,_,h=>lR x l n h
theorem aH{α:Type}{o:Option α}{Q:α->Prop}{a:α}(h:o=some a)(q:Q a):OK o Q:=h▸q
theorem dq{c:Bool}{p q:Prop}(h:c=true)(x:p):BR c p q:=h▸x
theorem I0{c:Bool}{p q:Prop}(h:c=false)(x:q):BR c p q:=h▸x
theorem Iv{i:Nat}{x:VS}{st:St}:ups i x st=pt (St.up st i x):=funext λK=>propext ⟨λh=>jb _ _ _ h,λh=>lR _ _ _ h⟩
theorem Ir{i:Nat}{x:VS}{st st':St}(h:kc i x st=pt st'):st'=St.up st i x:=by
 have z:jc i x st λz=>st'=z:=(congrFun h λz=>st'=z).mpr rfl
 obtain⟨σ,lk,κ,H⟩:=st
 exact ef z (λZ e=>e.elim) λZ e=>ef e (λZ e=>jb _ _ _ e) λZ e=>e.elim
theorem Tb{st st':St}(h:pt st=pt st'):st'=st:=(congrFun h λz=>z=st).mp rfl
theorem kf{i:Nat}{x:VS}{st st':St}(h:ups i x st=pt st'):st'=St.up st i x:=Tb (Iv.symm.trans h)
theorem nO{f:(St->Prop)->Prop}{st:St}(h:f=pt st){K:St->Prop}(k:K st):f K:=(congrFun h K).mpr k
theorem bL{k f:Nat}{as:List VS}{H:HH}{Q:VS->List VS->HH->Prop}{st:St}(fn:Fn)(hf:fns f=some fn)(Y:Nat.beq (fill fn as).length fn.n=true)(hi:ins fn as H=pt st)(h:wSs tab (F k) fn.body st (EK fn.n Q)):GK (F (k+1)) f as H Q:=by
 unfold GK
 exact aH hf (dq Y (nO hi (K:=λst=>wSs tab (F k) fn.body st (EK fn.n Q)) h))
theorem enter{k f:Nat}{as:List VS}{H:HH}{Q:VS->List VS->HH->Prop}(fn:Fn)(hf:fns f=some fn)(Y:Nat.beq (fill fn as).length fn.n=true)(h:wSs tab (F k) fn.body (St.jM fn as H) (EK fn.n Q)):GK (F (k+1)) f as H Q:=by
 unfold GK
 exact aH hf (dq Y (uW _ (Bn _ h)))
section
variable(G:FT)
def Ev(st:St)(e:ME)(r:ER)(st':St):Prop:=∀K:KE,K r st'->(wE tab G e).1 st K
def ET(st:St)(e:ME)(b:Bool)(st':St):Prop:=∀K:KT,K b st'->(wE tab G e).2 st K
def Es(st:St)(es:aW)(rs:List ER)(st':St):Prop:=∀K:List ER->St->Prop,K rs st'->wEs tab G es st K
def El(st:St)(es:aW)(vs:List O)(st':St):Prop:=∀K:List O->St->Prop,K vs st'->ed tab G es st K
def EI(st:St)(it:MI)(xs:List O)(st':St):Prop:=∀K:List O->St->Prop,K xs st'->wI tab G it st K
def Ea(st:St)(e:ME)(v:O)(st':St):Prop:=∀K:O->St->Prop,K v st'->(wE tab G e).1 st λr st=>ct r st K
def Ew(t:MT)(r:ER)(st st':St):Prop:=∀K:St->Prop,K st'->cM tab G t r st K
def Eb(ss:bj)(st st':St):Prop:=∀K:KS,K .next st'->wSs tab G ss st K
end
section
variable{G:FT}{st st' st1 st2 bT:St}{e a b c t:ME}{es as:aW}{r x y z:ER}{u v w v':O}{rs:List ER}{vs us xs:List O}{i n f:Nat}{op:Operator}{k:Bool}
theorem Ev.rf(h:(wE tab G e).1 st=ret r st'):Ev G st e r st':=λK k=>by rw[h];exact k
theorem Ev.cv(h:u=v)(q:Ev G st e (.val u) st'):Ev G st e (.val v) st':=h▸q
theorem ET.rf(h:(wE tab G e).2 st=Tx k st'):ET G st e k st':=λK z=>by rw[h];exact z
theorem Ea.val(h:Ev G st e (.val v) st'):Ea G st e v st':=λK k=>h _ k
theorem Ea.own{d:AC}(h:Ev G st e (.own d) st'):Ea G st e (.ao d) st':=λK k=>h _ k
theorem Ea.rf(h:Ev G st e r st')(q:(λK=>ct r st' K)=λK:O->St->Prop=>K v st2):Ea G st e v st2:=λK k=>h _ (by rw[show ct r st' K=K v st2 from congrFun q K];exact k)
theorem Ev.cr(h:x=y)(q:Ev G st e x st'):Ev G st e y st':=h▸q
theorem D8{d:AC}(ho:st1.σ[i]?=some (some (.own d)))(hu:ups i (.val (.ao d)) st1=pt st2)(K:O->St->Prop)(k:K (.ao d) st2):ct (.loc i) st1 K:=by
 obtain⟨σ,lk,κ,H⟩:=st1
 show sj i σ lk κ H K σ[i]?
 rw[show σ[i]?=_ from ho]
 exact nO hu k
theorem Ea.lc{d:AC}(h:Ev G st e (.loc i) st1)(ho:st1.σ[i]?=some (some (.own d)))(hu:ups i (.val (.ao d)) st1=pt st2):Ea G st e (.ao d) st2:=λK k=>h _ (D8 ho hu K k)
theorem Es.nil:Es G st .nil [] st:=λK k=>k
theorem Es.cons(h:Ev G st e r st1)(hs:Es G st1 es rs st2):Es G st (.cons e es) (r::rs) st2:=λK k=>h _ (hs _ k)
theorem El.nil:El G st .nil [] st:=λK k=>k
theorem El.cons(h:Ea G st e v st1)(hs:El G st1 es vs st2):El G st (.cons e es) (v::vs) st2:=λK k=>h _ (hs _ k)
theorem Ev.tup(h:El G st es vs st1):Ev G st (.tup es) (.val (.tup vs)) st1:=λK k=>h _ k
theorem Ev.lst(h:El G st es vs st1):Ev G st (.lst es) (.own (.list vs)) st1:=λK k=>h _ k
theorem Ev.bin(ha:Ev G st a x st1)(I:Ev G st1 b y st2)(hx:view x st2=some u)(hy:view y st2=some v)(h:iF op u v=some r):Ev G st (.bin op a b) r st2:=
 λK k=>ha _ (I _ (aH hx (aH hy (aH h k))))
theorem Ev.cmp{o:CmpOp}(ha:Ev G st a x st1)(I:Ev G st1 b y st2)(hx:view x st2=some u)(hy:bJ y st2=some v)(h:cz o u v=some k):Ev G st (.cmp o a b) (.val (.bool k)) st2:=
 λK q=>ha _ (I _ (aH hx (aH hy (aH h q))))
theorem ET.cmp{o:CmpOp}(ha:Ev G st a x st1)(I:Ev G st1 b y st2)(hx:view x st2=some u)(hy:bJ y st2=some v)(h:cz o u v=some k):ET G st (.cmp o a b) k st2:=
 λK q=>ha _ (I _ (aH hx (aH hy (aH h q))))
theorem ET.not(h:ET G st a k st1):ET G st (.not a) (!k) st1:=λK q=>h _ q
theorem ET.cw(h:ET G st a true st1)(h':ET G st1 b k st2):ET G st (.and a b) k st2:=λK q=>h _ (h' _ q)
theorem ET.dT(h:ET G st a false st1):ET G st (.and a b) false st1:=λK q=>h _ q
theorem ET.FU(h:ET G st a true st1):ET G st (.or a b) true st1:=λK q=>h _ q
theorem ET.eD(h:ET G st a false st1)(h':ET G st1 b k st2):ET G st (.or a b) k st2:=λK q=>h _ (h' _ q)
theorem Ev.ite(h:ET G st t k st1)(ht:k=true->Ev G st1 a r st2)(hf:k=false->Ev G st1 b r st2):Ev G st (.ite t a b) r st2:=λK q=>h _ (match k,ht,hf with
 | true,ht,_=>ht rfl _ q
 | false,_,hf=>hf rfl _ q)
theorem Ev.gM(h:ET G st t true st1)(ht:Ev G st1 a r st2):Ev G st (.ite t a b) r st2:=λK q=>h _ (ht _ q)
theorem Ev.lq(h:ET G st t false st1)(hf:Ev G st1 b r st2):Ev G st (.ite t a b) r st2:=λK q=>h _ (hf _ q)
theorem Ev.aG{g:BF}(h:Es G st as rs st1)(hv:fy rs st1=some vs)(hg:g6 g vs=some r):Ev G st (.aG g as) r st1:=λK q=>h _ (aH hv (aH hg q))
theorem Ev.idx(h:Ev G st a x st1)(h':Ev G st1 b y st2)(hx:bJ x st2=some u)(hy:view y st2=some v)(hi:e7 u v=some w):Ev G st (.idx a b) (.val w) st2:=λK q=>h _ (h' _ (aH hx (aH hy (aH hi q))))
theorem Ev.attr{s:Str}(h:Ev G st a x st1)(hx:bJ x st1=some u)(hi:cY u s=some w):Ev G st (.attr a s) (.val w) st1:=λK q=>h _ (aH hx (aH hi q))
theorem Ev.bu(h:Ev G st a x st1)(h1:Ev G st1 b y st2)(h2:Ev G st2 c z bT)(hx:view x bT=some u)(hy:view y bT=some v)(hz:view z bT=some w)(hs:nU u v w=some r):Ev G st (.bu a b c) r bT:=λK q=>h _ (h1 _ (h2 _ (aH hx (aH hy (aH hz (aH hs q))))))
theorem Ev.bS(h:Ev G st a x st1)(hx:view x st1=some u):Ev G st (.bS a) (.val (.bool (isNone u))) st1:=λK q=>h _ (aH hx q)
theorem ET.of(he:(wE tab G e).2=kv (wE tab G e).1)(h:Ev G st e x st1)(hx:view x st1=some u)(ht:gX u=some k):ET G st e k st1:=λK q=>by
 rw[he];exact h _ (aH hx (aH ht q))
theorem ET.bS(h:Ev G st a x st1)(hx:view x st1=some u):ET G st (.bS a) (isNone u) st1:=λK q=>h _ (aH hx (aH (show view (.val _) _=some _ from rfl) (aH (show gX (.bool _)=some _ from rfl) q)))
theorem ET.bF(h:Ev G st a x st1)(hx:view x st1=some u):ET G st (.bF a) (!isNone u) st1:=λK q=>h _ (aH hx (aH (show view (.val _) _=some _ from rfl) (aH (show gX (.bool _)=some _ from rfl) q)))
theorem Ev.mv{m:MN}{kd:MK}(h:Ev G st a x st1)(hk:fc tab m x st1=some kd)(hd:kd=.kK∨kd=.str)(h':Es G st1 as rs st2)(hv:fy rs st2=some vs)(hx:view x st2=some u)(hm:dH m u vs=some r):Ev G st (.aw m a as) r st2:=
 λK q=>h _ (aH hk (match kd,hd with
  | .kK,_=>h' _ (aH hv (aH hx (aH hm q)))
  | .str,_=>h' _ (aH hv (aH hx (aH hm q)))))
theorem Ak{g:AC->Option (AC×O)}{d d':AC}{Q:ER->St->Prop}(ho:ownAt x st=some (i,d))(hg:g d=some (d',v))(hu:ups i (.own d') st=pt st')(q:Q (.val v) st'):dD x st g Q:=by
 obtain⟨σ,lk,κ,H⟩:=st
 unfold dD
 dsimp only
 rw[ho]
 exact aH hg (nO hu (K:=λst=>Q (.val v) st) q)
theorem Al{g:AC->Option (AC×O)}{d d':AC}{Q:ER->St->Prop}(ho:ownAt x st=none)(hr:lM x st=some (i,d))(hg:g d=some (d',v))(q:Q (.val v) (St.wH st (st.H.set i d'))):dD x st g Q:=by
 obtain⟨σ,lk,κ,H⟩:=st
 unfold dD
 dsimp only
 rw[ho]
 exact aH hr (aH hg q)
theorem Ev.cl{m:MN}{d d':AC}(h:Ev G st a x st1)(hk:fc tab m x st1=some .lst)(h':El G st1 as vs st2)(ho:ownAt x st2=some (i,d))(hc:mA m vs d=some (d',v))(hu:ups i (.own d') st2=pt bT):Ev G st (.aw m a as) (.val v) bT:=
 λK q=>h _ (aH hk (h' _ (Ak ho hc hu q)))
theorem Ev.get(h:Ev G st a x st1)(hk:fc tab .get x st1=some .dct)(h':El G st1 as vs st2)(ho:bJ x st2=some u)(hm:dH .get u vs=some r):Ev G st (.aw .get a as) r st2:=
 λK q=>h _ (aH hk (h' _ (aH ho (aH hm q))))
theorem zK:∀{vs:List O} {fin:List VS} {st:St} {K:St->Prop},fin.length=vs.length->K st->dZ (vs.map .val) fin st K
 | [],_,_,_,_,k=>k
 | _::_,[],_,_,h,_=>nomatch h
 | v::vs,x::fin,⟨σ,lk,κ,H⟩,_,h,k=>zK (vs:=vs) (fin:=fin) (Nat.succ.inj h) k
theorem zB:∀(vs:List O),dB (vs.map .val) st=some (vs.map .val)
 | []=>rfl
 | v::vs=>by show(match my (.val v) st,dB (vs.map .val) st with | some a,some l=>some (a::l) | _,_=>none)=_;rw[zB vs];rfl
theorem Em:∀(vs:List O),fY (vs.map .val)=[]
 | []=>rfl
 | v::vs=>Em vs
theorem tL{z:VS}(h:st.σ[i]?=some (some z)):St.up st i z=st:=by
 obtain⟨σ,lk,κ,H⟩:=st
 obtain⟨hi,h⟩:=List.getElem?_eq_some_iff.mp h
 exact congrArg (St.mk · lk κ H) (h▸List.set_getElem_self hi)
theorem Yj{z z':VS}{fr:List (Option O)}:St.up (St.bb (St.up st i z) fr) i z'=St.bb (St.up st i z') fr:=congrArg (St.mk · st.lk (fr::st.κ) st.H) (List.set_set ..)
theorem Iq{z z':VS}(h:st.σ[i]?=some (some z)):(St.up st i z').σ[i]?=some (some z'):=List.getElem?_set_self (List.getElem?_eq_some_iff.mp h).1
theorem Ev.loc{d:AC}(h:st.σ[i]?=some (some (.own d))):Ev G st (.slot i) (.loc i) st:=λK k=>aH (show tj i st.σ[i]?=_ by rw[h];rfl) k
theorem Ev.slt(h:st.σ[i]?=some (some (.val v))):Ev G st (.slot i) (.val v) st:=λK k=>aH (show tj i st.σ[i]?=_ by rw[h];rfl) k
theorem mC:∀{l:List VS} {fin:List VS} {st:St} {K:St->Prop},fin.length=l.length->K st->dZ (l.map bB) fin st K
 | [],_,_,_,_,k=>k
 | _::_,[],_,_,h,_=>nomatch h
 | .val v::vs,x::fin,⟨σ,lk,κ,H⟩,_,h,k=>mC (l:=vs) (fin:=fin) (Nat.succ.inj h) k
 | .own v::vs,x::fin,⟨σ,lk,κ,H⟩,_,h,k=>mC (l:=vs) (fin:=fin) (Nat.succ.inj h) k
theorem kF:∀(l:List VS),dB (l.map bB) st=some l
 | []=>rfl
 | .val v::vs=>by show(match my (.val v) st,dB (vs.map bB) st with | some a,some l=>some (a::l) | _,_=>none)=_;rw[kF vs];rfl
 | .own v::vs=>by show(match my (.own v) st,dB (vs.map bB) st with | some a,some l=>some (a::l) | _,_=>none)=_;rw[kF vs];rfl
theorem lC:∀(l:List VS),fY (l.map bB)=[]
 | []=>rfl
 | .val v::vs=>lC vs
 | .own v::vs=>lC vs
theorem I2{K:KE}{l:List VS}{o:VS}(S:Pu G f l o)(k:K (bB o) st):CK G f (l.map bB) st K:=by
 unfold CK
 refine dq (by rw[lC];rfl) (aH (kF l) ?_)
 obtain⟨σ,lk,κ,H⟩:=st
 exact S _ _ λfin Y=>mC Y k
theorem Ev.pu{l:List VS}{o:VS}(h:Es G st as (l.map bB) st1)(S:Pu G f l o):Ev G st (.call f as) (bB o) st1:=λK k=>h _ (I2 S k)
theorem Ev.p1{o:VS}(h:Ev G st a (.val v) st1)(S:Pu G f [.val v] o):Ev G st (.call f (.cons a .nil)) (bB o) st1:=.pu (l:=[.val v]) (.cons h .nil) S
theorem Ev.o1{o:VS}{d:AC}(h:Ev G st a (.own d) st1)(S:Pu G f [.own d] o):Ev G st (.call f (.cons a .nil)) (bB o) st1:=.pu (l:=[.own d]) (.cons h .nil) S
theorem Ev.p2{o:VS}(h:Ev G st a (.val v) st1)(h':Ev G st1 b (.val w) st2)(S:Pu G f [.val v,.val w] o):Ev G st (.call f (.cons a (.cons b .nil))) (bB o) st2:=.pu (l:=[.val v,.val w]) (.cons h (.cons h' .nil)) S
theorem I4{d d':AC}{K:KE}(ho:st.σ[i]?=some (some (.own d)))(S:Pe G f d vs v d')(hu:ups i (.own d') st=pt st')(k:K (.val v) st'):CK G f (.loc i::vs.map .val) st K:=by
 unfold CK
 obtain⟨σ,lk,κ,H⟩:=st
 refine dq ?_ (aH (a:=.own d::vs.map .val) ?_ ?_)
 .show decide (i::fY (vs.map .val)).Nodup=true
  rw[Em];exact decide_eq_true (List.nodup_cons.mpr ⟨List.not_mem_nil,.nil⟩)
 .show(match (match σ[i]? with | some (some x)=>some x | _=>none),dB (vs.map .val) ⟨σ,lk,κ,H⟩ with | some a,some l=>some (a::l) | _,_=>none)=_
  rw[zB,show σ[i]?=_ from ho]
 .refine S _ _ λfin Y=>?_
  show(match σ[i]? with
   | some (some (.own _))=>dQ (some (VS.own d')) σ i λσ=>dZ (vs.map .val) fin ⟨σ,lk,κ,H⟩ _
   | _=>dZ (vs.map .val) fin ⟨σ,lk,κ,H⟩ _)
  rw[show σ[i]?=_ from ho]
  have e:=kf hu
  subst e
  exact lR _ _ _ (zK Y k)
theorem Ev.pe{d d':AC}(h:Ev G st a (.loc i) st1)(h':Es G st1 as (vs.map .val) st2)(ho:st2.σ[i]?=some (some (.own d)))(S:Pe G f d vs v d')(hu:ups i (.own d') st2=pt bT):Ev G st (.call f (.cons a as)) (.val v) bT:=λK k=>h _ (h' _ (I4 ho S hu k))
def Pn(G:FT)(c:Nat)(l:List VS)(d:AC):Prop:=∀(H:HH) (Q:VS->List VS->HH->Prop),(∀fin:List VS,fin.length=l.length->Q (.val .none) (.own d::fin) H)->GK G (r5 c) (.own (.inst c [])::l) H Q
theorem Ev.nw{c:Nat}{l:List VS}{d:AC}(h:Es G st as (l.map bB) st1)(S:Pn G c l d)(hc:tab.o3 c=false):Ev G st (.new c as) (.own d) st1:=λK k=>h _ (by
 unfold NK
 refine dq (by rw[lC];rfl) (aH (kF l) ?_)
 obtain⟨σ,lk,κ,H⟩:=st1
 exact S _ _ λfin Y=>mC Y (I0 hc k))
end
def W7(G:FT)(st:St)(n:Nat)(t:MT)(cc:aW)(e:ME)(x:O)(R:Option O->St->Prop):Prop:=fR n λfr=>wB t x (St.bb st fr) λst=>wC tab G cc st λok st=>
  BR ok ((wE tab G e).1 st λr st=>ct r st λv st=>pX st λst=>R (some v) st) (pX st λst=>R none st)
def CM(G:FT)(st:St)(n:Nat)(t:MT)(cc:aW)(e:ME)(x:O)(o:Option O)(st':St):Prop:=∀R:Option O->St->Prop,R o st'->W7 G st n t cc e x R
def EC(G:FT)(st:St)(cc:aW)(b:Bool):Prop:=∀K:KT,K b st->wC tab G cc st K
def Eo(n:Nat)(t:MT)(x:O)(st:St)(fr:List (Option O)):Prop:=∀K:St->Prop,K (St.bb st fr)->fR n λfr=>wB t x (St.bb st fr) K
section
variable{G:FT}{st st' st1:St}{n:Nat}{t:MT}{cc:aW}{e:ME}{it:MI}{x v:O}{fr:List (Option O)}
theorem EC.nil:EC G st .nil true:=λK k=>k
theorem EC.one{b:Bool}{r:aW}(h:ET G st e b st):EC G st (.cons e r) b:=λK k=>h K k
theorem Eo.one:Eo 1 (.ay 0) x st [some x]:=λK k=>k
theorem CM.yes(I:Eo n t x st fr)(hc:EC G (St.bb st fr) cc true)(he:Ea G (St.bb st fr) e v (St.bb st' fr)):CM G st n t cc e x (some v) st':=λR k=>I _ (hc _ (he _ k))
theorem CM.no(I:Eo n t x st fr)(hc:EC G (St.bb st fr) cc false):CM G st n t cc e x none st:=λR k=>I _ (hc _ k)
theorem CM.one(he:Ea G (St.bb st [some x]) e v (St.bb st' [some x])):CM G st 1 (.ay 0) .nil e x (some v) st':=CM.yes .one .nil he
noncomputable def zm(acc:List O):Option O->List O
 | some v=>acc++[v]
 | none=>acc
abbrev mh(G:FT)(n:Nat)(t:MT)(cc:aW)(e:ME)(xs acc:List O)(st:St)(Q:List O->St->Prop):Prop:=wCs n (wB t) (wC tab G cc) (wE tab G e).1 xs acc st Q
theorem IP{xs acc:List O}{o:Option O}{Q:List O->St->Prop}(Y:acc.length<ax)(h:CM G st n t cc e x o st')(q:mh G n t cc e xs (zm acc o) st' Q):mh G n t cc e (x::xs) acc st Q:=
 h (λo st=>match o with
  | some v=>BR (decide (acc.length<ax)) (mh G n t cc e xs (acc++[v]) st Q) False
  | none=>mh G n t cc e xs acc st Q) (match o,q with
  | some _,q=>dq (decide_eq_true Y) q
  | none,q=>q)
theorem y2{xs:List O}{Q:List O->St->Prop}(h:mh G n t cc e xs [] st Q):CC n (wB t) (wC tab G cc) (wE tab G e).1 xs [] st Q:=by unfold CC;exact h
theorem zo(acc:List O):∀o,(zm acc o).length<=acc.length+1
 | some _=>Nat.le_of_eq List.length_append
 | none=>Nat.le_succ _
theorem IU{α:Type}{f:α->O}{g:α->Option O}{Q:List O->St->Prop}:∀{L:List α} {acc:List O},acc.length+L.length<=ax->(∀a∈L,CM G st n t cc e (f a) (g a) st)->Q (acc++L.filterMap g) st->mh G n t cc e (L.map f) acc st Q
 | [],acc,_,_,q=>by rw[List.filterMap_nil,List.append_nil] at q;exact q
 | a::L,acc,Y,h,q=>IP (Nat.lt_of_lt_of_le (Nat.lt_add_of_pos_right (Nat.succ_pos _)) Y) (h a (.head _)) (IU (Nat.le_trans (Nat.add_le_add_right (zo acc _) _) (Nat.le_trans (Nat.le_of_eq (Nat.add_right_comm _ _ _)) Y)) (λb I=>h b (.tail _ I)) (by
  rw[List.filterMap_cons] at q
  cases e:g a with
  | none=>rw[e] at q;exact q
  | some v=>rw[e] at q;show Q ((acc++[v])++_) st;rw[List.append_assoc];exact q))
theorem Ev.fm{α:Type}{L:List α}(f:α->O)(g:α->Option O)(hI:EI G st it (L.map f) st1)(Y:L.length<=ax)(h:∀a∈L,CM G st1 n t cc e (f a) (g a) st1):Ev G st (.comp n t it cc e) (.own (.list (L.filterMap g))) st1:=
 λK k=>hI _ (y2 (IU (acc:=[]) (by rw[List.length_nil,Nat.zero_add];exact Y) h (by rw[List.nil_append];exact k)))
theorem Ev.mp{α:Type}{L:List α}(f g:α->O)(hI:EI G st it (L.map f) st1)(Y:L.length<=ax)(h:∀a∈L,CM G st1 n t cc e (f a) (some (g a)) st1):Ev G st (.comp n t it cc e) (.own (.list (L.map g))) st1:=by
 have:=Ev.fm f (λa=>some (g a)) hI Y h
 rw[List.filterMap_eq_map'] at this;exact this
theorem IV{S:Nat->St}{g:Nat->O}{Q:List O->St->Prop}:∀{xs acc:List O} {i:Nat},acc.length+xs.length<=ax->(∀j x,xs[j]?=some x->CM G (S (i+j)) n t cc e x (some (g (i+j))) (S (i+j+1)))->Q (acc++(List.range' i xs.length).map g) (S (i+xs.length))->mh G n t cc e xs acc (S i) Q
 | [],acc,i,_,_,q=>by rw[List.length_nil,List.range'_zero,List.map_nil,List.append_nil] at q;exact q
 | x::xs,acc,i,Y,h,q=>IP (Nat.lt_of_lt_of_le (Nat.lt_add_of_pos_right (Nat.succ_pos _)) Y) (h 0 x rfl) (IV (i:=i+1) (Nat.le_trans (Nat.add_le_add_right (zo acc _) _) (Nat.le_trans (Nat.le_of_eq (Nat.add_right_comm _ _ _)) Y)) (λj y hy=>by
  have:=h (j+1) y hy;rw[show i+(j+1)=i+1+j by lia] at this;exact this) (by
  show Q ((acc++[g i])++_) _
  rw[List.append_assoc,show i+1+xs.length=i+(xs.length+1) by exact Nat.add_right_comm _ _ _];exact q))
theorem Ev.W6(S:Nat->St)(g:Nat->O){xs ys:List O}{m:Nat}(hn:xs.length=m)(hr:(List.range m).map g=ys)(hI:EI G st it xs (S 0))(Y:m<=ax)(h:∀j,j<m->∀x,CM G (S j) n t cc e x (some (g j)) (S (j+1))):Ev G st (.comp n t it cc e) (.own (.list ys)) (S m):=
 λK k=>hI _ (y2 (IV (i:=0) (acc:=[]) (by rw[List.length_nil,Nat.zero_add,hn];exact Y) (λj x hx=>by rw[Nat.zero_add];exact h j (hn▸(List.getElem?_eq_some_iff.mp hx).1) x) (by rw[List.nil_append,Nat.zero_add,←List.range_eq_range',hn,hr];exact k)))
end
section
variable(G:FT)
def S1(s:MS)(st st':St):Prop:=∀K:KS,K .next st'->wS tab G s st K
def Er(ss:bj)(st:St)(r:ER)(st':St):Prop:=∀K:KS,K (.ret r) st'->wSs tab G ss st K
def jk(ts:bI)(rs:List ER)(st st':St):Prop:=∀K:St->Prop,K st'->ji tab G ts rs st K
end
section
variable{G:FT}{st st' st1 st2 bT:St}{s:MS}{ss bs os:bj}{e a b:ME}{es:aW}{r x y:ER}{u v w:O}{xs:List O}{i n:Nat}{t:MT}{ts:bI}{it:MI}{c:AC}{rs:List ER}{k:Bool}
theorem Ew.sv(h:kc i (.val v) st=pt st'):Ew G (.slot i) (.val v) st st':=λK q=>nO h q
theorem Ew.so(h:kc i (.own c) st=pt st'):Ew G (.slot i) (.own c) st st':=λK q=>nO h q
theorem jk.nil:jk G .nil [] st st:=λK q=>q
theorem jk.cons(h:Ew G t r st st1)(hs:jk G ts rs st1 st2):jk G (.cons t ts) (r::rs) st st2:=λK q=>h _ (hs _ q)
theorem Ew.tup{vs:List O}(Y:Nat.beq vs.length ts.len=true)(h:jk G ts (vs.map .val) st st1):Ew G (.tup ts) (.val (.tup vs)) st st1:=λK q=>dq Y (h _ q)
theorem Ew.ix{d':AC}(hr:∀K:O->St->Prop,K v st1->ct r st K)(h:Ev G st1 a x st2)(h':Ev G st2 b y bT)(hy:view y bT=some u)(ho:ownAt x bT=some (i,c))(hs:gb c u v=some d')(hu:ups i (.own d') bT=pt st'):Ew G (.idx a b) r st st':=
 λK q=>show ct r st (λv st=>(wE tab G a).1 st λx st=>(wE tab G b).1 st λk st=>OK (view k st) λk=>dD x st (λc=>(gb c k v).map λc=>(c,.none)) λZ st=>K st) from hr _ (h _ (h' _ (aH hy (Ak ho (by rw[hs];rfl) hu q))))
theorem Ew.Pr{d':AC}(hr:∀K:O->St->Prop,K v st1->ct r st K)(h:Ev G st1 a x st2)(h':Ev G st2 b y bT)(hy:view y bT=some u)(ho:ownAt x bT=none)(hf:lM x bT=some (i,c))(hs:gb c u v=some d'):Ew G (.idx a b) r st (St.wH bT (bT.H.set i d')):=
 λK q=>show ct r st (λv st=>(wE tab G a).1 st λx st=>(wE tab G b).1 st λk st=>OK (view k st) λk=>dD x st (λc=>(gb c k v).map λc=>(c,.none)) λZ st=>K st) from hr _ (h _ (h' _ (aH hy (Al ho hf (by rw[hs];rfl) q))))
theorem Ew.zI{d':AC}{f:Str}(hr:∀K:O->St->Prop,K v st1->ct r st K)(h:Ev G st1 a x st2)(ho:ownAt x st2=none)(hf:lM x st2=some (i,c))(hs:lQ c f v=some d'):Ew G (.attr a f) r st (St.wH st2 (st2.H.set i d')):=
 λK q=>show ct r st (λv st=>(wE tab G a).1 st λx st=>dD x st (λc=>(lQ c f v).map λc=>(c,.none)) λZ st=>K st) from hr _ (h _ (Al ho hf (by rw[hs];rfl) q))
theorem S1.tg(h:Ev G st e r st1)(h':Ew G t r st1 st2):S1 G (.assign t e) st st2:=λK q=>h _ (h' _ q)
theorem S1.sv(h:Ev G st e (.val v) st1)(o:kc i (.val v) st1=pt st2):S1 G (.assign (.slot i) e) st st2:=.tg h (.sv o)
theorem S1.so(h:Ev G st e (.own c) st1)(o:kc i (.own c) st1=pt st2):S1 G (.assign (.slot i) e) st st2:=.tg h (.so o)
theorem S1.tf(h:Es G st es rs st1)(hn:(λK=>gR rs st1 K)=λK:List ER->St->Prop=>K rs st1)(Y:Nat.beq rs.length ts.len=true)(h':jk G ts rs st1 st2):S1 G (.bK false ts es) st st2:=
 λK q=>h _ (by rw[show gR rs st1 _=_ from congrFun hn _];exact dq Y (h' _ q))
theorem S1.tr(h:Es G st es rs st1)(hn:(λK=>gR rs st1 K)=λK:List ER->St->Prop=>K rs st1)(Y:Nat.beq rs.length ts.len=true)(h':jk G (ts.nR .nil) rs.reverse st1 st2):S1 G (.bK true ts es) st st2:=
 λK q=>h _ (by rw[show gR rs st1 _=_ from congrFun hn _];exact dq Y (h' _ q))
theorem S1.ex(h:Ev G st e (.val .none) st1):S1 G (.expr e) st st1:=λK q=>h _ q
theorem S1.ag{p q:List UInt8}(h:Ev G st (.slot i) x st1)(h':Ev G st1 e y st2)(hx:jw x st2=some p)(hy:jw y st2=some q)(Y:p.length+q.length<=ax)(o:kc i (.val (.bytes (p++q))) st2=pt bT):S1 G (.aug i e) st bT:=
 λK k=>h _ (h' _ (aH hx (aH hy (dq (decide_eq_true Y) (nO o k)))))
theorem S1.c5(h:ET G st e true st1)(h':Eb G bs st1 st2):S1 G (.aD e bs os) st st2:=λK q=>h _ (h' _ q)
theorem S1.aS(h:ET G st e false st1)(h':Eb G os st1 st2):S1 G (.aD e bs os) st st2:=λK q=>h _ (h' _ q)
theorem S1.rf(h:∀K:KS,wS tab G s st K=K .next st'):S1 G s st st':=λK k=>by rw[h];exact k
theorem S1.uf{x:VS}(h:∀K:KS,wS tab G s st K=K .next (St.up st i x))(hu:ups i x st=pt st'):S1 G s st st':=λK k=>by rw[h];exact kf hu▸k
theorem Eb.nil:Eb G .nil st st:=λK q=>q
theorem Eb.cons(h:S1 G s st st1)(h':Eb G ss st1 st2):Eb G (.cons s ss) st st2:=λK q=>h _ (h' _ q)
theorem Er.cons(h:S1 G s st st1)(h':Er G ss st1 r st2):Er G (.cons s ss) st r st2:=λK q=>h _ (h' _ q)
theorem Er.ret(h:Ev G st e r st1):Er G (.cons (.ret e) ss) st r st1:=λK q=>h _ q
theorem Er.c5(h:ET G st e true st1)(h':Er G bs st1 r st2):Er G (.cons (.aD e bs os) ss) st r st2:=λK q=>h _ (h' _ q)
theorem yU{X α:Type}{f:X->O}{S:List X->α->St}{L:List X}{K:KS}(hs:∀done x rest g,L=done++x::rest->∃g' st1,Ew G t (.val (f x)) (S done g) st1/\Eb G bs st1 (S (done++[x]) g')) :
  ∀{rest done g},L=done++rest->(∀g,K .next (S L g))->di (λx=>cM tab G t (.val x)) (wSs tab G bs) (rest.map f) (S done g) K
 | [],done,g,e,q=>by rw[List.append_nil] at e;exact e▸q g
 | x::rest,done,g,e,q=>(hs done x rest g e).elim λg' h=>h.elim λst1 h=>h.1 _ (h.2 _ (yU hs (rest:=rest) (done:=done++[x]) (g:=g') (by rw[e,List.append_assoc];rfl) q))
theorem gp{sf:O->St->(St->Prop)->Prop}{bf:St->KS->Prop}{K:KS}(h:di sf bf xs st K):n9 sf bf xs st K:=by unfold n9;exact h
theorem S1.for{X α:Type}{L:List X}(f:X->O)(S:List X->α->St){g:α}(hI:EI G st it (L.map f) (S [] g))(hs:∀done x rest g,L=done++x::rest->∃g' st1,Ew G t (.val (f x)) (S done g) st1/\Eb G bs st1 (S (done++[x]) g'))
  (h':∀g,Eb G ss (S L g) st2):Eb G (.cons (.for t it bs) ss) st st2:=λK q=>hI _ (gp (yU hs (rest:=L) (done:=[]) rfl λg=>h' g _ q))
theorem EI.ea(h:Ea G st e v st1)(hi:nh v=some xs):EI G st (.of e) xs st1:=λK q=>h _ (aH hi q)
theorem EI.r1{m:Int}(h:Ev G st e r st1)(hv:e8 r st1=some m)(hi:xJ m=some xs):EI G st (.eF e) xs st1:=λK q=>h _ (aH hv (aH hi q))
theorem EI.en(h:Ea G st e v st1)(hi:A7 v=some xs):EI G st (.enum e) xs st1:=λK q=>h _ (aH hi q)
section
variable{K:KS}
theorem az(h:S1 G s st st1)(h':wSs tab G ss st1 K):wSs tab G (.cons s ss) st K:=h _ h'
theorem rt{Q:VS->List VS->HH->Prop}{fin:List VS}{o:VS}(h:Ev G st e r st1)(hp:params (st1.σ.take n)=some fin)(hx:leave r st1=some o)(q:Q o fin st1.H):wSs tab G (.cons (.ret e) ss) st (EK n Q):=h _ (aH hp (aH hx q))
theorem nd{Q:VS->List VS->HH->Prop}{fin:List VS}(hp:params (st.σ.take n)=some fin)(q:Q (.val .none) fin st.H):wSs tab G .nil st (EK n Q):=aH hp q
theorem wr{k:KS}(h:Er G ss st r st1)(h':k (.ret r) st1):wSs tab G ss st k:=h _ h'
theorem lp{X α:Type}{L:List X}(f:X->O)(S:List X->α->St){g:α}(hI:EI G st it (L.map f) (S [] g))(hs:∀done x rest g,L=done++x::rest->∃g' st1,Ew G t (.val (f x)) (S done g) st1/\Eb G bs st1 (S (done++[x]) g'))
  (h':∀g,wSs tab G ss (S L g) K):wSs tab G (.cons (.for t it bs) ss) st K:=hI _ (gp (yU hs (rest:=L) (done:=[]) rfl λg=>h' g))
end
theorem oX{k f:Nat}{as:List VS}{H:HH}{Q:VS->List VS->HH->Prop}{fin:List VS}{o:VS}(fn:Fn)(hf:fns f=some fn)(Y:Nat.beq (fill fn as).length fn.n=true)(h:Er (F k) fn.body (St.jM fn as H) r st')(hp:params (st'.σ.take fn.n)=some fin)(hx:leave r st'=some o)(q:Q o fin st'.H):GK (F (k+1)) f as H Q:=
 enter fn hf Y (h _ (aH hp (aH hx q)))
end
end Mine.Internal.P
namespace Mine.Internal.P
open PySem (Str)
noncomputable def bq(ns:List Int)(a:Nat):AC:=.list [.ao (.list (ns.map .int)),.int a]
noncomputable def bM(ns:List Int)(a:Nat)(m:Int):Int:=(if (a:Int)<ns.length then ns.getD a 0 else 41*a+3) % m
theorem tv{i:Int}(h:i.natAbs<1000000):small i=true:=decide_eq_true (Nat.lt_trans h (by decide))
theorem kJ{α:Type}{l:List α}{n:Nat}{x:α}(h:l[n]?=some x)(I:n<1000000):fH l (n:Int)=some x:=by
 unfold fH
 rw[if_pos (tv (show((n:Int)).natAbs<1000000 from I)),if_pos (Int.natCast_nonneg n)];exact h
noncomputable def jg(m:Nat):List O:=(List.range m).map λ(k:Nat)=>.int k
theorem tM(m:Nat):(jg m).length=m:=(List.length_map _).trans List.length_range
theorem nQ{m:Nat}(h:m<=999999):xJ m=some (jg m):=if_pos (Bool.and_eq_true_iff.mpr ⟨tv (i:=m) (Nat.lt_of_le_of_lt h (by decide)),decide_eq_true (Int.ofNat_le.mpr (Nat.le_trans h (by decide)))⟩)
theorem E5{x m:Int}(h:0<m):iF .Mod (.int x) (.int m)=some (.val (.int (x % m))):=by
 show Option.map _ (if 0<m then some (x % m) else none)=_
 rw[if_pos h];rfl
theorem GP{k:Nat}{ns:List Int}{a:Nat}{m:Int}(ha:a<1000)(hm:0<m):Pe (F (k+1)) 60 (bq ns a) [.int m] (.int (bM ns a m)) (bq ns (a+1)):=λH Q q=>
 have l:(ns.map O.int).length=ns.length:=List.length_map _
 oX BA rfl rfl (.cons (.sv (.rf rfl) rfl) (.cons (.tg (.rf rfl) (.ix (λZ h=>h) (.rf rfl) (.rf rfl) rfl rfl rfl rfl)) (.ret (.bin (u:=.int (if (a:Int)<ns.length then ns.getD a 0 else 41*a+3)) (.ite (.rf rfl)
  (λh=>.idx (w:=.int (if (a:Int)<ns.length then ns.getD a 0 else 41*a+3)) (.rf rfl) (.rf rfl) rfl rfl (by
   have h:(a:Int)<((ns.map O.int).length:Int):=of_decide_eq_true h
   rw[l] at h
   have h':a<ns.length:=Int.ofNat_lt.mp h
   rw[if_pos h]
   exact kJ (by rw[List.getElem?_map,List.getElem?_eq_getElem h',List.getD_eq_getElem?_getD,List.getElem?_eq_getElem h'];rfl) (Nat.lt_trans ha (by decide))))
  λh=>.bin (.bin (.rf rfl) (.rf rfl) rfl rfl (show(if small 41&&small a then some (ER.val (.int (41*a))) else none)=_ from if_pos (by rw[tv (i:=a) (Nat.lt_trans ha (by decide))];rfl))) (.rf rfl) rfl rfl (by
   have h:¬(a:Int)<((ns.map O.int).length:Int):=of_decide_eq_false h
   rw[l] at h
   rw[if_neg h];rfl))
  (.rf rfl) rfl rfl (E5 hm))))) rfl rfl (q _ rfl)
theorem iL{ns:List Int}{a:Nat}{m:Nat}(h:0<m):(bM ns a m).toNat<m:=by
 have h1:=Int.emod_nonneg (if (a:Int)<ns.length then ns.getD a 0 else 41*a+3) (b:=(m:Int)) (Int.ofNat_ne_zero.mpr (Nat.ne_of_gt h))
 have h2:=Int.emod_lt_of_pos (if (a:Int)<ns.length then ns.getD a 0 else 41*a+3) (b:=(m:Int)) (Int.ofNat_lt.mpr h)
 exact(Int.toNat_lt h1).mpr h2
noncomputable def pk{α:Type}(ns:List Int)(a:Nat)(L:List α)(d:α):α:=L.getD (bM ns a L.length).toNat d
theorem fg{α:Type}{ns:List Int}{a:Nat}{L:List α}{d:α}(h:0<L.length):pk ns a L d∈L:=by
 unfold pk
 rw[List.getD_eq_getElem?_getD,List.getElem?_eq_getElem (iL h)]
 exact List.getElem_mem _
theorem Ui{α:Type}{k:Nat}{ns:List Int}{a:Nat}(f:α->O){L:List α}{d:α}(ha:a<1000)(h0:0<L.length)(h1:L.length<1000):Pe (F (k+2)) 61 (bq ns a) [.tup (L.map f)] (f (pk ns a L d)) (bq ns (a+1)):=λH Q q=>
 have l:(L.map f).length=L.length:=List.length_map _
 have hm:(0:Int)<((L.map f).length:Nat):=by rw[l];exact Int.ofNat_lt.mpr h0
 oX BE rfl rfl (.ret (.idx (.rf rfl) (.pe (vs:=[.int (L.map f).length]) (.rf rfl) (.cons (.rf rfl) .nil) rfl (GP ha hm) rfl) rfl rfl (by
  have h2:(bM ns a L.length).toNat<L.length:=iL h0
  have h3:0<=bM ns a L.length:=Int.emod_nonneg _ (by lia)
  rw[l]
  refine Eq.trans (congrArg (fH (L.map f)) (Int.toNat_of_nonneg h3).symm) (kJ ?_ (Nat.lt_trans (Nat.lt_trans h2 h1) (by decide)))
  rw[List.getElem?_map,pk,List.getD_eq_getElem?_getD,List.getElem?_eq_getElem h2];rfl))) rfl rfl (q _ rfl)
theorem ik{p a j:Nat}(h:p<=a)(hj:Nat.ble (a+j+1) 1000=true):p+j<1000:=Nat.lt_of_le_of_lt (Nat.add_le_add_right h j) (Nat.le_of_ble_eq_true hj)
theorem Ev.pick{α:Type}{k:Nat}{ns:List Int}{a i:Nat}{st st':St}{e:ME}(f:α->O)(L:List α)(d:α)(ha:a<1000)(h0:Nat.blt 0 L.length=true)(h1:Nat.blt L.length 1000=true)(he:Ev (F (k+2)) st e (.val (.tup (L.map f))) st')(hs:Ev (F (k+2)) st (.slot i) (.loc i) st)(ho:st'.σ[i]?=some (some (.own (bq ns a)))){st2:St}(hu:ups i (.own (bq ns (a+1))) st'=pt st2) :
  Ev (F (k+2)) st (.call 61 (.cons (.slot i) (.cons e .nil))) (.val (f (pk ns a L d))) st2:=.pe (vs:=[.tup (L.map f)]) hs (.cons he .nil) ho (Ui f ha (Nat.le_of_ble_eq_true h0) (Nat.le_of_ble_eq_true h1)) hu
theorem Ev.draw{k:Nat}{ns:List Int}{a i:Nat}{st st':St}{e:ME}{m:Int}(ha:a<1000)(hm:0<m)(hs:Ev (F (k+1)) st (.slot i) (.loc i) st)(he:Ev (F (k+1)) st e (.val (.int m)) st')(ho:st'.σ[i]?=some (some (.own (bq ns a)))){st2:St}(hu:ups i (.own (bq ns (a+1))) st'=pt st2) :
  Ev (F (k+1)) st (.call 60 (.cons (.slot i) (.cons e .nil))) (.val (.int (bM ns a m))) st2:=.pe (vs:=[.int m]) hs (.cons he .nil) ho (GP ha hm) hu
theorem Ev.F5{α:Type}{k:Nat}{ns:List Int}{p m i:Nat}{st st1:St}{it:MI}{e:ME}{xs:List O}(f:α->O)(L:List α)(d:α)(hI:EI (F (k+2)) st it xs st1)(hn:xs.length=m)(ho:st1.σ[i]?=some (some (.own (bq ns p))))(I:p+m<=1000)(h0:Nat.blt 0 L.length=true)(h1:Nat.blt L.length 1000=true)(he:∀st,Ev (F (k+2)) st e (.val (.tup (L.map f))) st){st2:St}(hu:ups i (.own (bq ns (p+m))) st1=pt st2) :
  Ev (F (k+2)) st (.comp 1 (.ay 0) it .nil (.call 61 (.cons (.slot i) (.cons e .nil)))) (.own (.list ((List.range m).map λj=>f (pk ns (p+j) L d)))) st2:=
 kf hu▸.W6 (λj=>St.up st1 i (.own (bq ns (p+j)))) (λj=>f (pk ns (p+j) L d)) hn rfl (by show EI _ _ _ _ (St.up st1 i (.own (bq ns p)));rw[tL ho];exact hI) (Nat.le_trans (Nat.le_add_left m p) (Nat.le_trans I (by decide))) λj hj x=>.one (.val (by
  have:=Ev.pick (st:=St.bb (St.up st1 i (.own (bq ns (p+j)))) [some x]) (i:=i) f L d (Nat.lt_of_lt_of_le (Nat.add_lt_add_left hj p) I) h0 h1 (he _) (.loc (Iq ho)) (Iq ho) Iv
  rw[Yj] at this;exact this))
theorem cT{k f:Nat}{α:Type}{L:List α}{as:α->List VS}{x:α->VS}(fn:Fn)(hf:fns f=some fn)(ha:∀a,Nat.beq (fill fn (as a)).length fn.n=true)(fin:α->List VS)(Y:∀a,(fin a).length=(as a).length)
  (h:∀H Q,L.map (λa=>wSs tab (F k) fn.body (St.jM fn (as a) H) (EK fn.n Q))=L.map λa=>Q (x a) (fin a) H):∀a∈L,Pu (F (k+1)) f (as a) (x a):=
 λa m H Q q=>enter fn hf (ha a) (by rw[List.map_inj_left.mp (h H Q) a m];exact q _ (Y a))
noncomputable def m5(d:Nat):UInt8:=UInt8.ofNat (if d<10 then 48+d else 55+d)
noncomputable def hx(n:Nat):List UInt8:=(if n<1048576 then[] else[m5 (n / 1048576 % 16)])++(if n<65536 then[] else[m5 (n / 65536 % 16)])++
 [m5 (n / 4096 % 16),m5 (n / 256 % 16),m5 (n / 16 % 16),m5 (n % 16)]
noncomputable def cI:List Nat:=[40,65,97,189,453,769,1488,1633,9312,12296,66560,8232]
noncomputable def b9:List Nat:=[98,99,770,66561,1114111,172]
noncomputable def fK:List (Option Nat):=[none,some 65,some 7838]
noncomputable def iY:List (Option Nat):=[none,some 97,some 66600]
noncomputable def hV:List (Option Nat):=[none,some 453]
noncomputable def s6:List Nat:=[13312,19903,19968,40959,44032,55203,55296,56191,56192,56319,56320,57343,57344,63743,131072,173791]
noncomputable def kM:List Nat:=[65,7838,97,66600,453]
noncomputable def c9:List Nat:=cI++(b9++(kM++(s6++List.range 32)))
theorem m3{n:Nat}(h:n∈cI):n∈c9:=List.mem_append_left _ h
theorem rZ{n:Nat}(h:n∈b9):n∈c9:=List.mem_append_right _ (List.mem_append_left _ h)
theorem OI{n:Nat}(h:n∈kM):n∈c9:=List.mem_append_right _ (List.mem_append_right _ (List.mem_append_left _ h))
theorem m4{n:Nat}(h:n∈s6):n∈c9:=List.mem_append_right _ (List.mem_append_right _ (List.mem_append_right _ (List.mem_append_left _ h)))
theorem iS{n:Nat}(h:n<32):n∈c9:=List.mem_append_right _ (List.mem_append_right _ (List.mem_append_right _ (List.mem_append_right _ (List.mem_range.mpr h))))
section
variable{k:Nat}
theorem mQ:∀n∈c9,Pu (F (k+1)) 4 [.val (.int (n:Nat))] (.val (.bytes (hx n))):=cT Bx rfl (λZ=>rfl) (λn=>[.val (.int n)]) (λZ=>rfl) λH Q=>by kernel_rfl
theorem qW:∀n∈c9,Pu (F (k+1)) 63 [.val (.int (n:Nat))] (.val (.bytes (hx n))):=cT BC rfl (λZ=>rfl) (λn=>[.val (.int 0)]) (λZ=>rfl) λH Q=>by kernel_rfl
theorem uN:∀n∈c9,Pu (F (k+1)) 64 [.val (.bytes (hx n))] (.val (.int n)):=cT BD rfl (λZ=>rfl) (λn=>[.val (.bytes (hx n))]) (λZ=>rfl) λH Q=>by kernel_rfl
theorem mP(v:O):∀n∈c9,Pu (F (k+3)) 31 [.val (.bytes (hx n)),.val v] (.val (.int n)):=cT Bv rfl (λZ=>rfl) (λn=>[.val (.bytes (hx n)),.val v]) (λZ=>rfl) λH Q=>by kernel_rfl
end
noncomputable def oct(s:Str):List UInt8:=s.cps.toList.map UInt8.ofNat
noncomputable def iN:List Str:=[⟨#[76,117]⟩,⟨#[76,108]⟩,⟨#[76,116]⟩,⟨#[77,110]⟩,⟨#[78,100]⟩,⟨#[78,111]⟩,⟨#[76,111]⟩,⟨#[80,115]⟩]
noncomputable def iE:List Str:=[⟨#[76]⟩,⟨#[82]⟩,⟨#[65,76]⟩,⟨#[69,78]⟩,⟨#[78,83,77]⟩,⟨#[79,78]⟩]
noncomputable def gP:List Str:=[⟨#[83,73,71,78,32,79,70,32,65]⟩,⟨#[76,69,84,84,69,82,45,66]⟩,⟨#[67]⟩]
noncomputable def g8:List Nat:=[0,230,1,220,240]
noncomputable def Af:List Str:=[⟨#[48]⟩,⟨#[50,51,48]⟩,⟨#[49]⟩,⟨#[50,50,48]⟩,⟨#[50,52,48]⟩]
noncomputable def gW:List (Option Str):=[none,some ⟨#[]⟩,some ⟨#[102,111,110,116]⟩,none,some ⟨#[99,111,109,112,97,116]⟩]
noncomputable def qh(t:Str):Str:=⟨#[60]⟩++t++⟨#[62,32]⟩
noncomputable def Fh:List Str:=[⟨#[]⟩,⟨#[55,59,55,59,55]⟩,⟨#[59,50,59,50]⟩,⟨#[59,59,49,47,50]⟩,⟨#[59,59,45,49,47,50]⟩,⟨#[59,59,53,48,48,48]⟩]
noncomputable def Fl:List Str:=⟨#[59,59]⟩::Fh.tail
noncomputable def L7:List (List Str):=[[⟨#[]⟩,⟨#[]⟩,⟨#[]⟩],[⟨#[55]⟩,⟨#[55]⟩,⟨#[55]⟩],[⟨#[]⟩,⟨#[50]⟩,⟨#[50]⟩],[⟨#[]⟩,⟨#[]⟩,⟨#[49,47,50]⟩],[⟨#[]⟩,⟨#[]⟩,⟨#[45,49,47,50]⟩],[⟨#[]⟩,⟨#[]⟩,⟨#[53,48,48,48]⟩]]
noncomputable def nJ:List O:=[.none,.str ⟨#[100,101]⟩,.str ⟨#[100,105]⟩,.str ⟨#[110,117]⟩,.str ⟨#[110,117]⟩,.str ⟨#[110,117]⟩]
noncomputable def nK:List O:=[.none,.tup [.int 7,.int 1],.tup [.int 2,.int 1],.tup [.int 1,.int 2],.tup [.int (-1),.int 2],.tup [.int 5000,.int 1]]
noncomputable def dA:List Str:=iN++(iE++(gP++(Af++[⟨#[102,111,110,116]⟩,⟨#[99,111,109,112,97,116]⟩,qh ⟨#[102,111,110,116]⟩,qh ⟨#[99,111,109,112,97,116]⟩,⟨#[]⟩,⟨#[55]⟩,⟨#[50]⟩,⟨#[49,47,50]⟩,⟨#[45,49,47,50]⟩,⟨#[53,48,48,48]⟩,⟨#[65]⟩,⟨#[66,99]⟩,⟨#[67,115]⟩,⟨#[67,111]⟩,⟨#[89]⟩,⟨#[78]⟩]++Fl)))
theorem yW{w:Str}(h:w∈iN):w∈dA:=List.mem_append_left _ h
theorem yV{w:Str}(h:w∈iE):w∈dA:=List.mem_append_right _ (List.mem_append_left _ h)
theorem tO{w:Str}(h:w∈gP):w∈dA:=List.mem_append_right _ (List.mem_append_right _ (List.mem_append_left _ h))
section
variable{k:Nat}
theorem g9:∀w∈dA,Pu (F (k+1)) 62 [.val (.str w)] (.val (.bytes (oct w))):=cT BG rfl (λZ=>rfl) (λw=>[.val (.str w)]) (λZ=>rfl) λH Q=>by kernel_rfl
theorem jF:∀w∈dA,Pu (F (k+2)) 2 [.val (.str w)] (.val (.bytes (oct w))):=cT BK rfl (λZ=>rfl) (λw=>[.val (.str w)]) (λZ=>rfl) λH Q=>by kernel_rfl
theorem Lj(v:O):∀w∈dA,Pu (F (k+2)) 34 [.val (.bytes (oct w)),.val v] (.val (.str w)):=cT B9 rfl (λZ=>rfl) (λw=>[.val (.bytes (oct w)),.val v]) (λZ=>rfl) λH Q=>by kernel_rfl
end
theorem dS{x y:List UInt8}(h:x.length+y.length<=ax):iF .Add (.bytes x) (.bytes y)=some (.val (.bytes (x++y))):=if_pos h
theorem zp{x y:Str}(h:x.length+y.length<=ax):iF .Add (.str x) (.str y)=some (.val (.str (x++y))):=if_pos h
theorem eo{x y:List O}(h:x.length+y.length<=ax):iF .Add (.ao (.list x)) (.ao (.list y))=some (.own (.list (x++y))):=if_pos h
noncomputable def oi:Option Nat->O
 | none=>.none
 | some n=>.int n
noncomputable def bH:Option Nat->List UInt8
 | none=>[]
 | some n=>hx n
theorem z5:∀l:List (List UInt8),jv (l.map .bytes)=some l
 | []=>rfl
 | a::r=>by show(jv (r.map .bytes)).map _=_;rw[z5 r];rfl
theorem ly{sep:List UInt8}{l:List (List UInt8)}(h:(aP sep l).length<=ax):dH .join (.bytes sep) [.ao (.list (l.map .bytes))]=some (.val (.bytes (aP sep l))):=by
 show(jv (l.map .bytes)).bind _=_
 rw[z5];exact if_pos h
theorem jQ{sep:List UInt8}{m:Nat}:∀{l:List (List UInt8)},(∀x∈l,x.length<=m)->(aP sep l).length<=l.length*(m+sep.length)
 | [],_=>Nat.zero_le _
 | [x],h=>by rw[List.length_singleton,Nat.one_mul];exact Nat.le_trans (h x (.head _)) (Nat.le_add_right _ _)
 | x::y::r,h=>by
   have h2:=jQ (sep:=sep) (l:=y::r) λz hz=>h z (.tail _ hz)
   show(x++sep++aP sep (y::r)).length<=_
   rw[List.length_append,List.length_append,List.length_cons,Nat.succ_mul,Nat.add_comm]
   exact Nat.add_le_add h2 (Nat.add_le_add_right (h x (.head _)) _)
theorem iR(n:Nat):(hx n).length<=6:=by
 unfold hx
 rw[List.length_append,List.length_append]
 split<;>split<;>exact Nat.le_of_ble_eq_true rfl
noncomputable def bN(L:List (Option Nat)):List UInt8:=aP [32] (L.filterMap λo=>o.map hx)
theorem rE(L:List (Option Nat)):(bN L).length<=L.length*7:=
 Nat.le_trans (jQ (m:=6) λx h=>(List.mem_filterMap.mp h).elim λo h=>(Option.map_eq_some_iff.mp h.2).elim λn e=>e.2▸iR n) (Nat.mul_le_mul_right _ (List.length_filterMap_le _ _))
theorem bA{n m:Nat}(h:n<=m)(q:Nat.ble m 1000000=true):n<=ax:=Nat.le_trans h (Nat.le_of_ble_eq_true q)
theorem vS{L:List (Option Nat)}(h:L.length<=10):(bN L).length<=ax:=Nat.le_trans (rE L) (Nat.le_trans (Nat.mul_le_mul_right 7 h) (by decide))
theorem o4(L:List Nat):(L.map some).filterMap (λo=>o.map hx)=L.map hx:=by
 rw[List.filterMap_map]
 exact congrFun List.filterMap_eq_map' L
def wA(l:List O)(x:VS):Prop:=x=.val (.tup l)∨x=.own (.list l)∨x=.val (.ao (.list l))
theorem of_arg{G:FT}{l:List O}{x:VS}{H:HH}{fn:Fn}(h:wA l x)(hn:fn.n=1)(hm:fn.m=1)(hd:fn.d=[]):∃w,EI G (St.jM fn [x] H) (.of (.slot 0)) l ⟨[some w],[ll x],[],H⟩:=by
 obtain⟨n,m,d,b⟩:=fn
 cases hn;cases hm;cases hd
 rcases h with rfl | rfl | rfl
 .exact⟨_,.ea (.val (.rf rfl)) rfl⟩
 .exact⟨_,.ea (.rf (.rf rfl) rfl) rfl⟩
 .exact⟨_,.ea (.val (.rf rfl)) rfl⟩
section
variable{k:Nat}{x:VS}
theorem qb{L:List (Option Nat)}(aU:wA (L.map oi) x)(Y:L.length<=10)(hm:∀n,some n∈L->n∈c9):Pu (F (k+2)) 65 [x] (.val (.bytes (bN L))):=λH Q q=>
 (of_arg (fn:=u0) aU rfl rfl rfl).elim λw hI=>
 oX u0 rfl rfl (.ret (.mv (.rf rfl) rfl (.inl rfl) (.cons (.fm oi (λo=>(o.map hx).map .bytes) hI (bA (m:=10) Y rfl) λo ho=>by
  cases o with
  | none=>exact .no .one (.one (.rf rfl))
  | some n=>exact .yes .one (.one (.rf rfl)) (.val (.p1 (.rf rfl) (qW n (hm n ho))))) .nil) rfl rfl (by rw[←List.map_filterMap];exact ly (vS Y)))) rfl rfl (q _ rfl)
theorem T4{L:List Nat}(aU:wA (L.map λ(n:Nat)=>.int n) x)(Y:L.length<=10)(hm:∀n∈L,n∈c9):Pu (F (k+2)) 15 [x] (.val (.bytes (bN (L.map some)))):=λH Q q=>
 (of_arg (fn:=rh) aU rfl rfl rfl).elim λw hI=>
 oX rh rfl rfl (.ret (.mv (r:=.val (.bytes (bN (L.map some)))) (.rf rfl) rfl (.inl rfl) (.cons (.mp (λ(n:Nat)=>.int n) (λn=>.bytes (hx n)) hI (bA (m:=10) Y rfl) λn hn=>.one (.val (.p1 (.rf rfl) (mQ n (hm n hn))))) .nil) rfl rfl
  (by
   have:=vS (L:=L.map some) (by rw[List.length_map];exact Y)
   unfold bN at this ⊢
   rw[o4] at this ⊢
   rw[show(L.map λn=>O.bytes (hx n))=(L.map hx).map .bytes from List.map_map.symm];exact ly this))) rfl rfl (q _ rfl)
end
structure Sg where
 gc:Str
 ccc:Nat
 bc:Str
 tag:Option Str
 parts:List Nat
 big:Option Nat
 little:Option Nat
 head:Option Nat
 num:Nat
 name:Str
noncomputable def tF:Option Str->List Nat->Prop
 | none,ps=>ps=[]
 | some t,ps=>1<=ps.length/\ps.length<=3/\(t=⟨#[]⟩->ps.length<=2)
structure Sg.ok(s:Sg):Prop where
 gc:s.gc∈iN
 ccc:s.ccc∈g8
 bc:s.bc∈iE
 tag:s.tag∈gW
 tp:tF s.tag s.parts
 parts:∀p∈s.parts,p∈b9
 big:s.big∈fK
 little:s.little∈iY
 head:s.head∈hV
 num:s.num∈List.range 6
 name:s.name∈gP
noncomputable def fst(b:Option Nat):Option Nat->Option Nat
 | some n=>some n
 | none=>b
noncomputable def eK:Option Str->List UInt8
 | none=>[]
 | some t=>if t.cps.size=0 then[] else oct (qh t)
noncomputable def jY:Option Str->O
 | none=>.none
 | some t=>.str t
noncomputable def nats(l:List Nat):List O:=l.map λ(n:Nat)=>.int n
noncomputable def tP(c:Nat):Bool:=(40:Int)==c||((12296:Int)==c||false)
theorem E8(ps:List Nat):nats ps=(ps.map some).map oi:=(List.map_map (l:=ps) (f:=some) (g:=oi)).symm
noncomputable def yn(c:Nat):List UInt8:=bif tP c then[89] else[78]
noncomputable def gS(i:Nat):Str:=Fh.getD i ⟨#[]⟩
noncomputable def gD(i:Nat):List Str:=L7.getD i []
noncomputable def Fj(i:Nat):O:=.tup [.str (gS i),nJ.getD i .none,nK.getD i .none]
noncomputable def bo(w:Str):O:=.bytes (oct w)
noncomputable def instF(c:Nat)(name gc:Str)(ccc:Nat)(bc:Str)(tag:Option Str)(ps:List Nat)(u l t n:O):AC:=.inst 0 [(.s ⟨#[99,111,100,101]⟩,.int c),(.s ⟨#[110,97,109,101]⟩,.str name),(.s ⟨#[103,99]⟩,.str gc),(.s ⟨#[99,99,99]⟩,.int ccc),(.s ⟨#[98,99]⟩,.str bc),
 (.s ⟨#[115,99,114,105,112,116]⟩,.str ⟨#[76,97,116,110]⟩),(.s ⟨#[116,97,103]⟩,jY tag),(.s ⟨#[112,97,114,116,115]⟩,.tup (nats ps)),(.s ⟨#[117,112,112,101,114]⟩,u),(.s ⟨#[108,111,119,101,114]⟩,l),(.s ⟨#[116,105,116,108,101]⟩,t),(.s ⟨#[110,117,109,98,101,114]⟩,n)]
noncomputable def Sg.inst(s:Sg)(c:Nat):AC:=instF c s.name s.gc s.ccc s.bc s.tag s.parts (oi s.big) (oi s.little) (oi s.head) (.str (gS s.num))
noncomputable def Sg.first(s:Sg):Option Nat:=fst s.big s.head
noncomputable def Sg.map(s:Sg):List UInt8:=eK s.tag++bN (s.parts.map some)
noncomputable def Sg.row(s:Sg)(c:Nat):List O:=[.bytes (hx c),bo s.name,bo s.gc,bo (dN s.ccc),bo s.bc,.bytes s.map]++(gD s.num).map bo++[.bytes (yn c),.bytes [],.bytes [],.bytes (bN [s.big]),.bytes (bN [s.little]),.bytes (bN [s.first])]
noncomputable def jD(ps:List Nat):Option Str->O
 | none=>.none
 | some t=>.tup [.str t,.tup (nats ps)]
noncomputable def Sg.told(s:Sg):List (Str×O):=[(⟨#[103,99]⟩,.str s.gc),(⟨#[99,99,99]⟩,.int s.ccc),(⟨#[98,99]⟩,.str s.bc),(⟨#[100,109]⟩,jD s.parts s.tag),(⟨#[117,99]⟩,oi s.big),(⟨#[108,99]⟩,oi s.little),
 (⟨#[116,99]⟩,oi s.first),(⟨#[110,116]⟩,nJ.getD s.num .none),(⟨#[110,118]⟩,nK.getD s.num .none),(⟨#[110,97,109,101]⟩,bo s.name)]
noncomputable def gh(p:Str×O):O:=.tup [.str p.1,p.2]
noncomputable def Sg.out(s:Sg)(c:Nat):O:=.tup [.ao (s.inst c),.ao (.list (s.row c)),.ao (.list (s.told.map gh))]
theorem rl:∀i∈List.range 6,(gD i).length=3/\(∀w∈gD i,w∈dA)/\((gS i==⟨#[]⟩)=decide (i=0)):=by decide+kernel
theorem L9:∀i∈[1,2,3,4,5],dH .split (.str (gS i)) [.str ⟨#[59]⟩]=some (.own (.list ((gD i).map .str))):=List.map_inj_left.mp (by kernel_rfl)
theorem Ah:∀n∈g8,g6 .str [.int (n:Nat)]=some (.val (.str (dN n))):=List.map_inj_left.mp (by kernel_rfl)
theorem uy:∀n∈g8,dN n∈dA:=by decide+kernel
theorem Ib:∀t∈gW,(eK t).length<=20:=by decide+kernel
theorem CA{b:Option Nat}:∀{o:Option Nat},(!isNone (oi o))=true->fst b o=o
 | some _,_=>rfl
theorem Cy{b:Option Nat}:∀{o:Option Nat},(!isNone (oi o))=false->fst b o=b
 | none,_=>rfl
theorem rY{o:Option Nat}{L:List (Option Nat)}(hL:∀o∈L,∀n,o=some n->n∈kM)(h:o∈L):∀n,some n∈[o]->n∈c9:=λn hn=>OI (hL o h n (List.mem_singleton.mp hn).symm)
theorem zO:∀o∈fK,∀n,o=some n->n∈kM:=by decide
theorem PU:∀o∈iY,∀n,o=some n->n∈kM:=by decide
theorem Nu:∀o∈hV,∀n,o=some n->n∈kM:=by decide
theorem Mq{b o:Option Nat}(I:b∈fK)(ho:o∈hV):∀n,some n∈[fst b o]->n∈c9:=match o,ho with
 | none,_=>rY zO I
 | some _,ho=>rY Nu ho
theorem Ux{k:Nat}{c name gc ccc bc sc tag ps:O}:Pn (F (k+1)) 0 [.val c,.val name,.val gc,.val ccc,.val bc,.val sc,.val tag,.val ps] (.inst 0 [(.s ⟨#[99,111,100,101]⟩,c),(.s ⟨#[110,97,109,101]⟩,name),(.s ⟨#[103,99]⟩,gc),(.s ⟨#[99,99,99]⟩,ccc),(.s ⟨#[98,99]⟩,bc),
 (.s ⟨#[115,99,114,105,112,116]⟩,sc),(.s ⟨#[116,97,103]⟩,tag),(.s ⟨#[112,97,114,116,115]⟩,ps),(.s ⟨#[117,112,112,101,114]⟩,.none),(.s ⟨#[108,111,119,101,114]⟩,.none),(.s ⟨#[116,105,116,108,101]⟩,.none),(.s ⟨#[110,117,109,98,101,114]⟩,.str ⟨#[]⟩)]):=
 λH Q q=>by
  have e:wSs tab (F k) oQ.body (St.jM oQ [.own (.inst 0 []),.val c,.val name,.val gc,.val ccc,.val bc,.val sc,.val tag,.val ps] H) (EK oQ.n Q)=Q (.val .none) [.own (.inst 0 [(.s ⟨#[99,111,100,101]⟩,c),(.s ⟨#[110,97,109,101]⟩,name),(.s ⟨#[103,99]⟩,gc),(.s ⟨#[99,99,99]⟩,ccc),(.s ⟨#[98,99]⟩,bc),
   (.s ⟨#[115,99,114,105,112,116]⟩,sc),(.s ⟨#[116,97,103]⟩,tag),(.s ⟨#[112,97,114,116,115]⟩,ps),(.s ⟨#[117,112,112,101,114]⟩,.none),(.s ⟨#[108,111,119,101,114]⟩,.none),(.s ⟨#[116,105,116,108,101]⟩,.none),(.s ⟨#[110,117,109,98,101,114]⟩,.str ⟨#[]⟩)]),.val c,.val name,.val gc,.val ccc,.val bc,.val sc,.val tag,.val ps] H:=by kernel_rfl
  show GK (F (k+1)) 9 _ H Q
  refine enter oQ rfl (by kernel_rfl) ?_
  rw[e]
  exact q _ rfl
noncomputable def su(ns:List Int)(a:Nat):Option Str->Nat
 | none=>0
 | some t=>1+(bM ns a (if t=⟨#[]⟩ then 2 else 3)).toNat
noncomputable def yC(a:Nat):Option Str->Nat
 | none=>a
 | some _=>a+1
theorem qV{ns:List Int}{a:Nat}{m:Int}(h:0<m):0<=bM ns a m/\bM ns a m<m:=⟨Int.emod_nonneg _ (Int.ne_of_gt h),Int.emod_lt_of_pos _ h⟩
theorem EB{ns:List Int}{a:Nat}:∀tg:Option Str,su ns a tg<=3
 | none=>Nat.zero_le 3
 | some t=>by
  have h1:bM ns a 2<2:=(qV (by decide)).2
  have h2:bM ns a 3<3:=(qV (by decide)).2
  show 1+(bM ns a (if t=⟨#[]⟩ then 2 else 3)).toNat<=3
  split<;>lia
theorem W8{a:Nat}:∀tg:Option Str,yC a tg<=a+1
 | none=>Nat.le_succ a
 | some t=>Nat.le_refl _
theorem XG{ns:List Int}{a:Nat}{ps:List Nat}:∀{tg:Option Str},ps.length=su ns a tg->tF tg ps
 | none,h=>List.eq_nil_of_length_eq_zero h
 | some t,h=>by
  have h0:=EB (ns:=ns) (a:=a) (some t)
  refine⟨by rw[h];exact Nat.le_add_right _ _,h▸h0,λe=>?_⟩
  subst e
  have h1:bM ns a 2<2:=(qV (by decide)).2
  rw[h]
  show 1+(bM ns a 2).toNat<=2
  lia
section
variable{k:Nat}{ns:List Int}{a:Nat}{st:St}{tg:Option Str}
theorem Qb{m p:Nat}(hm:m=su ns a tg)(hp:p=yC a tg)(h5:st.σ[5]?=some (some (.val (jY tg))))(ho:st.σ[0]?=some (some (.own (bq ns a))))(ha:a<1000){st2:St}(hu:ups 0 (.own (bq ns p)) st=pt st2):Ev (F (k+1)) st (.ite (.bS (.slot 5)) (.aj 0) (.bin .Add (.aj 1) (.call 60 (.cons (.slot 0) (.cons (.ite (.cmp .Eq (.slot 5) (.ai ⟨#[]⟩)) (.aj 2) (.aj 3)) .nil)))))
  (.val (.int m)) st2:=by
 subst hm hp
 cases tg with
 | none=>
  rw[(kf hu).trans (tL ho)]
  exact .gM (.bS (.slt h5) rfl) (.rf rfl)
 | some t=>
  have e:Ev (F (k+1)) st (.ite (.cmp .Eq (.slot 5) (.ai ⟨#[]⟩)) (.aj 2) (.aj 3)) (.val (.int (if t=⟨#[]⟩ then 2 else 3))) st:=.ite (.cmp (.slt h5) (.rf rfl) rfl rfl (show some (t==⟨#[]⟩)=_ from rfl)) (λh=>by rw[if_pos (eq_of_beq h)];exact .rf rfl) λh=>by rw[if_neg (ne_of_beq_false h)];exact .rf rfl
  have q:(0:Int)<if t=⟨#[]⟩ then 2 else 3:=by split<;>decide
  exact .lq (.bS (.slt h5) rfl) (.bin (.rf rfl) (.draw ha q (.loc ho) e ho hu) rfl rfl (congrArg (λx=>some (ER.val (.int x))) (show 1+bM ns a _=((1+(bM ns a _).toNat:Nat):Int) by have:=(qV (ns:=ns) (a:=a) q).1;lia)))
theorem Ic{u:Str}(h5:st.σ[5]?=some (some (.val (.str u))))(hn:(u==⟨#[]⟩)=false)(hs:u.cps.size≠0)(hw:qh u∈dA)(Y:(⟨#[60]⟩:Str).length+u.length<=ax)(c4:((⟨#[60]⟩:Str)++u).length+(⟨#[62,32]⟩:Str).length<=ax) :
  Ev (F (k+1)) st (.ite (.and (.bF (.slot 5)) (.cmp .NotEq (.slot 5) (.ai ⟨#[]⟩))) (.call 62 (.cons (.bin .Add (.bin .Add (.ai ⟨#[60]⟩) (.slot 5)) (.ai ⟨#[62,32]⟩)) .nil)) (.aC [])) (.val (.bytes (eK (some u)))) st:=
 .gM (.cw (k:=true) (.bF (.slt h5) rfl) (.cmp (.slt h5) (.rf rfl) rfl rfl (show some (!(u==⟨#[]⟩))=some true by rw[hn];rfl)))
  (.cr (congrArg (λb=>ER.val (.bytes b)) (if_neg hs).symm) (.p1 (.bin (u:=.str (⟨#[60]⟩++u)) (v:=.str ⟨#[62,32]⟩) (r:=.val (.str (qh u))) (.bin (u:=.str ⟨#[60]⟩) (v:=.str u) (r:=.val (.str (⟨#[60]⟩++u))) (.rf rfl) (.slt h5) rfl rfl (zp Y)) (.rf rfl) rfl rfl (zp c4)) (g9 _ hw)))
theorem XF(h5:st.σ[5]?=some (some (.val (jY tg))))(iQ:tg∈gW):Ev (F (k+1)) st (.ite (.and (.bF (.slot 5)) (.cmp .NotEq (.slot 5) (.ai ⟨#[]⟩))) (.call 62 (.cons (.bin .Add (.bin .Add (.ai ⟨#[60]⟩) (.slot 5)) (.ai ⟨#[62,32]⟩)) .nil)) (.aC [])) (.val (.bytes (eK tg))) st:=by
 cases tg with
 | none=>exact .lq (.dT (.bF (.slt h5) rfl)) (.rf rfl)
 | some t=>
  simp only[gW,List.mem_cons,List.not_mem_nil,or_false,Option.some.injEq,reduceCtorEq,false_or] at iQ
  rcases iQ with h | h | h<;>subst h
  .exact .lq (.cw (k:=false) (.bF (.slt h5) rfl) (.cmp (.slt h5) (.rf rfl) rfl rfl rfl)) (.rf rfl)
  .exact Ic h5 rfl (by decide) (by decide+kernel) (by decide) (by decide)
  .exact Ic h5 rfl (by decide) (by decide+kernel) (by decide) (by decide)
theorem KU{ps:List Nat}(h5:st.σ[5]?=some (some (.val (jY tg))))(h7:st.σ[7]?=some (some (.val (.tup (nats ps))))):Ev (F k) st (.ite (.bS (.slot 5)) .bz (.tup (.cons (.slot 5) (.cons (.slot 7) .nil)))) (.val (jD ps tg)) st:=by
 cases tg with
 | none=>exact .gM (.bS (.slt h5) rfl) (.rf rfl)
 | some t=>exact .lq (.bS (.slt h5) rfl) (.tup (.cons (.val (.slt h5)) (.cons (.val (.slt h7)) .nil)))
end
theorem Sb{n:Nat}(h:n∈List.range 6)(h0:n≠0):n∈[1,2,3,4,5]:=by
 have:∀n∈List.range 6,n≠0->n∈[1,2,3,4,5]:=by decide
 exact this n h h0
set_option maxHeartbeats 1000000 in
theorem Uv{k:Nat}{ns:List Int}{a code:Nat}(ha:a<=900)(hc:code∈cI):∃(s:Sg) (p:Nat),s.ok/\p<=a+16/\Pe (F (k+3)) 66 (bq ns a) [.int code] (s.out code) (bq ns p):=by
 obtain⟨tg,iQ⟩:∃t,t=pk ns (a+3) gW none:=⟨_,rfl⟩
 obtain⟨m,hm⟩:∃m,m=su ns (a+4) tg:=⟨_,rfl⟩
 obtain⟨p,hp⟩:∃p,p=yC (a+4) tg:=⟨_,rfl⟩
 have rM:m<=3:=hm▸EB tg
 have Oi:p<=a+5:=hp▸W8 tg
 have Oh:p<=905:=Nat.le_trans Oi (Nat.add_le_add_right ha 5)
 have iP:p+m<=908:=Nat.add_le_add Oh rM
 have yJ:tg∈gW:=iQ▸fg (by decide)
 obtain⟨ps,dw⟩:∃l,l=(List.range m).map λj=>pk ns (p+j) b9 0:=⟨_,rfl⟩
 have k9:ps.length=m:=by rw[dw,List.length_map,List.length_range]
 have Dw:∀x∈ps,x∈b9:=λx hx=>(List.mem_map.mp (dw▸hx)).elim λj e=>by rw[←e.2];exact fg (by decide)
 obtain⟨big,CW⟩:∃x,x=pk ns (p+m) fK none:=⟨_,rfl⟩
 obtain⟨lit,Dl⟩:∃x,x=pk ns (p+m+1) iY none:=⟨_,rfl⟩
 obtain⟨hd,Df⟩:∃x,x=pk ns (p+m+2) hV none:=⟨_,rfl⟩
 obtain⟨num,Dr⟩:∃x,x=pk ns (p+m+3) (List.range 6) 0:=⟨_,rfl⟩
 obtain⟨nm,rN⟩:∃x,x=pk ns (p+m+4) gP ⟨#[]⟩:=⟨_,rfl⟩
 obtain⟨gc,C8⟩:∃x,x=pk ns a iN ⟨#[]⟩:=⟨_,rfl⟩
 obtain⟨ccc,CY⟩:∃x,x=pk ns (a+1) g8 0:=⟨_,rfl⟩
 obtain⟨bc,CV⟩:∃x,x=pk ns (a+2) iE ⟨#[]⟩:=⟨_,rfl⟩
 have b1:big∈fK:=CW▸fg (by decide)
 have b2:lit∈iY:=Dl▸fg (by decide)
 have b3:hd∈hV:=Df▸fg (by decide)
 have b4:num∈List.range 6:=Dr▸fg (by decide)
 have b5:nm∈gP:=rN▸fg (by decide)
 have b6:gc∈iN:=C8▸fg (by decide)
 have b7:ccc∈g8:=CY▸fg (by decide)
 have b8:bc∈iE:=CV▸fg (by decide)
 have fo:=rl num b4
 refine⟨⟨gc,ccc,bc,tg,ps,big,lit,hd,num,nm⟩,p+m+5,⟨b6,b7,b8,yJ,XG (k9.trans hm),Dw,b1,b2,b3,b4,b5⟩,by lia,λH Q q=>?_⟩
 refine bL BH rfl rfl rfl ?_
 refine az (.sv (.cv (congrArg O.str C8.symm) (.pick .str iN ⟨#[]⟩ (ik ha (j:=0) rfl) rfl rfl (.rf rfl) (.rf rfl) rfl rfl)) rfl) ?_
 refine az (.sv (.cv (congrArg (λ(n:Nat)=>O.int n) CY.symm) (.pick (λ(n:Nat)=>.int n) g8 0 (ik ha (j:=1) rfl) rfl rfl (.rf rfl) (.rf rfl) rfl rfl)) rfl) ?_
 refine az (.sv (.cv (congrArg O.str CV.symm) (.pick .str iE ⟨#[]⟩ (ik ha (j:=2) rfl) rfl rfl (.rf rfl) (.rf rfl) rfl rfl)) rfl) ?_
 refine az (.sv (.cv (congrArg jY iQ.symm) (.pick jY gW none (ik ha (j:=3) rfl) rfl rfl (.rf rfl) (.rf rfl) rfl rfl)) rfl) ?_
 refine az (.sv (Qb hm hp rfl rfl (ik ha (j:=4) rfl) rfl) rfl) ?_
 refine az (.sv (v:=.tup (nats ps)) (.aG (.cons (.F5 (p:=p) (m:=m) (λ(n:Nat)=>.int n) b9 0 (.r1 (.rf rfl) rfl (nQ (Nat.le_trans rM (by decide)))) (tM m) rfl (Nat.le_trans iP (by decide)) rfl rfl (λst=>.rf rfl) rfl) .nil) rfl (congrArg (λl=>some (ER.val (.tup l))) (show _=nats ps by rw[dw];exact(List.map_map (l:=List.range m) (f:=λj=>pk ns (p+j) b9 0) (g:=λ(n:Nat)=>O.int n)).symm))) rfl) ?_
 refine az (.tr (.cons (.cr (congrArg (λx=>ER.val (oi x)) CW.symm) (.pick oi fK none (ik iP (j:=0) rfl) rfl rfl (.rf rfl) (.rf rfl) rfl rfl)) (.cons (.cr (congrArg (λx=>ER.val (oi x)) Dl.symm) (.pick oi iY none (ik iP (j:=1) rfl) rfl rfl (.rf rfl) (.rf rfl) rfl rfl))
   (.cons (.cr (congrArg (λx=>ER.val (oi x)) Df.symm) (.pick oi hV none (ik iP (j:=2) rfl) rfl rfl (.rf rfl) (.rf rfl) rfl rfl)) .nil))) rfl rfl (.cons (.sv rfl) (.cons (.sv rfl) (.cons (.sv rfl) .nil)))) ?_
 refine az (.tg (.cv (congrArg Fj Dr.symm) (.pick Fj (List.range 6) 0 (ik iP (j:=3) rfl) rfl rfl (.rf rfl) (.rf rfl) rfl rfl)) (.tup (vs:=[.str (gS num),nJ.getD num .none,nK.getD num .none]) rfl (.cons (.sv rfl) (.cons (.sv rfl) (.cons (.sv rfl) .nil))))) ?_
 refine az (.sv (.cv (congrArg O.str rN.symm) (.pick .str gP ⟨#[]⟩ (ik iP (j:=4) rfl) rfl rfl (.rf rfl) (.rf rfl) rfl rfl)) rfl) ?_
 refine az (.so (.nw (l:=[.val (.int code),.val (.str nm),.val (.str gc),.val (.int ccc),.val (.str bc),.val (.str ⟨#[76,97,116,110]⟩),.val (jY tg),.val (.tup (nats ps))]) (.cons (.rf rfl) (.cons (.rf rfl) (.cons (.rf rfl) (.cons (.rf rfl) (.cons (.rf rfl) (.cons (.rf rfl) (.cons (.rf rfl) (.cons (.rf rfl) .nil)))))))) Ux rfl) rfl) ?_
 refine az (.uf (i:=15) (x:=.own (instF code nm gc ccc bc tg ps (oi big) (oi lit) (oi hd) (.str (gS num)))) (λK=>by kernel_rfl) rfl) ?_
 refine az (.sv (v:=oi (fst big hd)) (.ite (.bF (.rf rfl) rfl) (λh=>.cv (congrArg oi (CA h).symm) (.rf rfl)) (λh=>.cv (congrArg oi (Cy h).symm) (.rf rfl))) rfl) ?_
 refine az (.sv (v:=.bytes (eK tg++bN (ps.map some))) (.bin (u:=.bytes (eK tg)) (v:=.bytes (bN (ps.map some))) (XF rfl yJ) (.p1 (.rf rfl) (qb (L:=ps.map some) (.inl (congrArg (λl=>VS.val (.tup l)) (E8 ps))) ?h14b ?h14c)) rfl rfl (dS ?h14d)) rfl) ?_
 rotate_left 3
 refine az (.so (c:=.list ((gD num).map bo)) (.ite (k:=!(gS num==⟨#[]⟩)) (.cmp (.rf rfl) (.rf rfl) rfl rfl rfl) (λh=>.mp .str bo (.ea (.own (.mv (.rf rfl) rfl (.inr rfl) (.cons (.rf rfl) .nil) rfl rfl (L9 num ?h15))) rfl) (bA (m:=3) (Nat.le_of_eq fo.1) rfl) λw hw=>.one (.val (.p1 (.rf rfl) (g9 w (fo.2.1 w hw))))) (λh=>.cr ?h15b (.rf (r:=.own (.list [.bytes [],.bytes [],.bytes []])) rfl))) rfl) ?_
 rotate_left 2
 refine az (.so (.bin (.lst (.cons (.val (.p1 (.rf rfl) (qW code (m3 hc)))) (.cons (.val (.p1 (.rf rfl) (g9 nm (tO b5)))) (.cons (.val (.p1 (.rf rfl) (g9 gc (yW b6)))) (.cons (.val (.p1 (.aG (.cons (.rf rfl) .nil) rfl (Ah ccc b7)) (g9 _ (uy ccc b7)))) (.cons (.val (.p1 (.rf rfl) (g9 bc (yV b8)))) (.cons (.val (.rf rfl)) .nil))))))) (.rf rfl) rfl rfl (eo ?h16)) rfl) ?_
 rotate_left 1
 refine az (.so (.bin (.rf rfl) (.lst (.cons (.val (.ite (r:=.val (.bytes (yn code))) (k:=tP code) (.rf rfl) (λh=>.cr ?h17 (.rf (r:=.val (.bytes [89])) rfl)) (λh=>.cr ?h17b (.rf (r:=.val (.bytes [78])) rfl)))) (.cons (.val (.rf rfl)) (.cons (.val (.rf rfl)) (.cons (.val (.o1 (.rf rfl) (qb (L:=[big]) (.inr (.inl rfl)) (Nat.le_of_ble_eq_true rfl) (rY zO b1)))) (.cons (.val (.o1 (.rf rfl) (qb (L:=[lit]) (.inr (.inl rfl)) (Nat.le_of_ble_eq_true rfl) (rY PU b2)))) (.cons (.val (.o1 (.rf rfl) (qb (L:=[fst big hd]) (.inr (.inl rfl)) (Nat.le_of_ble_eq_true rfl) (Mq b1 b3)))) .nil))))))) rfl rfl (eo ?h17c)) rfl) ?_
 rotate_left 3
 refine az (.so (.lst (.cons (.val (.rf rfl)) (.cons (.val (.rf rfl)) (.cons (.val (.rf rfl)) (.cons (.val (.tup (.cons (.val (.rf rfl)) (.cons (.val (KU rfl rfl)) .nil)))) (.cons (.val (.rf rfl)) (.cons (.val (.rf rfl)) .nil))))))) rfl) ?_
 refine rt (.tup (.cons (.lc (.rf rfl) rfl rfl) (.cons (.lc (.rf rfl) rfl rfl) (.cons (.own (.bin (.rf rfl) (.lst (.cons (.val (.rf rfl)) (.cons (.val (.rf rfl)) (.cons (.val (.rf rfl)) (.cons (.val (.tup (.cons (.val (.rf rfl)) (.cons (.val (.p1 (.rf rfl) (g9 nm (tO b5)))) .nil)))) .nil))))) rfl rfl (eo ?h20))) .nil)))) rfl rfl ?fin
 case fin=>exact q [.val (.int code)] rfl
 case h20=>exact Nat.le_of_ble_eq_true rfl
 case h14b=>rw[List.length_map,k9];exact Nat.le_trans rM (by decide)
 case h14c=>exact λn hn=>(List.mem_map.mp hn).elim λx e=>Option.some.inj e.2▸rZ (Dw x e.1)
 case h14d=>exact Nat.le_trans (Nat.add_le_add (Ib tg yJ) (Nat.le_trans (rE _) (Nat.mul_le_mul_right 7 (by rw[List.length_map,k9];exact rM)))) (by decide)
 case h15=>exact Sb b4 λe=>by rw[fo.2.2,e] at h;cases h
 case h15b=>
  have e:num=0:=by
   rw[fo.2.2] at h
   cases num with
   | zero=>rfl
   | succ n=>cases h
  rw[e];rfl
 case h16=>rw[List.length_map,fo.1];exact Nat.le_of_ble_eq_true rfl
 case h17=>unfold yn;rw[h];rfl
 case h17b=>unfold yn;rw[h];rfl
 case h17c=>rw[List.length_append,List.length_map,fo.1];exact Nat.le_of_ble_eq_true rfl
def Ph(G:FT)(f:Nat)(as:List VS)(H:HH)(x:VS)(H':HH):Prop:=∀Q:VS->List VS->HH->Prop,(∀fin:List VS,fin.length=as.length->Q x fin H')->GK G f as H Q
section
variable{G:FT}{st st' st1 st2 bT:St}{e a b:ME}{as:aW}{r x y z:ER}{u v w:O}{l:List VS}{o:VS}{i n f:Nat}{m:MN}{H':HH}{c:AC}{ss bs:bj}{K:KS}
theorem y3{K:KE}(S:Ph G f l st.H o H')(k:K (bB o) (St.wH st H')):CK G f (l.map bB) st K:=by
 unfold CK
 refine dq (by rw[lC];rfl) (aH (kF l) ?_)
 obtain⟨σ,lk,κ,H⟩:=st
 exact S _ λfin Y=>mC Y k
theorem Ev.ph(h:Es G st as (l.map bB) st1)(S:Ph G f l st1.H o H'):Ev G st (.call f as) (bB o) (St.wH st1 H'):=λK k=>h _ (y3 S k)
theorem Ev.mu(h:Ev G st a (.val v) st1)(hk:fc tab m (.val v) st1=some (.fn f))(h':Es G st1 as (l.map bB) st2)(S:Ph G f (.val v::l) st2.H o H'):Ev G st (.aw m a as) (bB o) (St.wH st2 H'):=
 λK k=>h _ (aH hk (h' _ (y3 (l:=.val v::l) S k)))
theorem Ev.ip(h:Ev G st a (.val v) st1)(hk:fc tab m (.val v) st1=some (.fn f))(h':Es G st1 as (l.map bB) st2)(S:Ph G f (.val v::l) st2.H (.val w) H'):Ev G st (.aw m a as) (.val w) (St.wH st2 H'):=Ev.mu h hk h' S
def Px(G:FT)(f:Nat)(as:List VS)(x:VS)(fin:List VS):Prop:=∀(H:HH) (Q:VS->List VS->HH->Prop),Q x fin H->GK G f as H Q
theorem I3{K:KE}{d:AC}{z:VS}(ho:st.σ[i]?=some (some (.own d)))(S:Px G f [.own d] o [z])(hu:ups i z st=pt st')(k:K (bB o) st'):CK G f [.loc i] st K:=by
 unfold CK
 obtain⟨σ,lk,κ,H⟩:=st
 refine dq (decide_eq_true (List.nodup_cons.mpr ⟨List.not_mem_nil,.nil⟩)) (aH (a:=[.own d]) ?_ (S _ _ ?_))
 .show(match (match σ[i]? with | some (some x)=>some x | _=>none),some [] with | some a,some l=>some (a::l) | _,_=>none)=_
  rw[show σ[i]?=_ from ho]
 .show(match σ[i]? with
   | some (some (.own _))=>dQ (some z) σ i λσ=>K (bB o) ⟨σ,lk,κ,H⟩
   | _=>K (bB o) ⟨σ,lk,κ,H⟩)
  rw[show σ[i]?=_ from ho]
  have e:=kf hu
  subst e
  exact lR _ _ _ k
theorem I5{K:KE}{d:AC}{z z':VS}(ho:st.σ[i]?=some (some (.own d)))(S:Px G f [.val v,.own d] o [z',z])(hu:ups i z st=pt st')(k:K (bB o) st'):CK G f [.val v,.loc i] st K:=by
 unfold CK
 obtain⟨σ,lk,κ,H⟩:=st
 refine dq (decide_eq_true (List.nodup_cons.mpr ⟨List.not_mem_nil,.nil⟩)) (aH (a:=[.val v,.own d]) ?_ (S _ _ ?_))
 .show(match some (VS.val v),(match (match σ[i]? with | some (some x)=>some x | _=>none),some [] with | some a,some l=>some (a::l) | _,_=>none) with | some a,some l=>some (a::l) | _,_=>none)=_
  rw[show σ[i]?=_ from ho]
 .show(match σ[i]? with
   | some (some (.own _))=>dQ (some z) σ i λσ=>K (bB o) ⟨σ,lk,κ,H⟩
   | _=>K (bB o) ⟨σ,lk,κ,H⟩)
  rw[show σ[i]?=_ from ho]
  have e:=kf hu
  subst e
  exact lR _ _ _ k
theorem Ev.l1{d:AC}{z:VS}(h:Ev G st a (.loc i) st1)(ho:st1.σ[i]?=some (some (.own d)))(S:Px G f [.own d] o [z])(hu:ups i z st1=pt st2):Ev G st (.call f (.cons a .nil)) (bB o) st2:=λK k=>h _ (I3 ho S hu k)
theorem Ev.v1{d:AC}{z z':VS}(h:Ev G st a (.val v) st1)(h':Ev G st1 b (.loc i) st2)(ho:st2.σ[i]?=some (some (.own d)))(S:Px G f [.val v,.own d] o [z',z])(hu:ups i z st2=pt bT):Ev G st (.call f (.cons a (.cons b .nil))) (bB o) bT:=λK k=>h _ (h' _ (I5 ho S hu k))
theorem Ev.sF{d:AC}(h:Es G st as (l.map bB) st1)(S:∀Q:VS->List VS->HH->Prop,(∀fin:List VS,fin.length=l.length->Q (.val .none) (.own d::fin) H')->GK G (r5 n) (.own (.inst n [])::l) st1.H Q)(hc:tab.o3 n=true):Ev G st (.new n as) (.val (.ref H'.length)) (St.wH st1 (H'++[d])):=λK k=>h _ (by
 unfold NK
 refine dq (by rw[lC];rfl) (aH (kF l) ?_)
 obtain⟨σ,lk,κ,H⟩:=st1
 exact S _ λfin Y=>mC Y (dq hc k))
theorem Ev.cw(h:Ev G st a x st1)(hx:view x st1=some u)(ht:gX u=some true)(h':Ev G st1 b y st2):Ev G st (.and a b) y st2:=λK k=>h _ (aH hx (aH ht (h' _ k)))
theorem Ev.dT(h:Ev G st a x st1)(hx:view x st1=some u)(ht:gX u=some false):Ev G st (.and a b) x st1:=λK k=>h _ (aH hx (aH ht k))
theorem ET.p2{k:Bool}(h:Ev G st a (.val v) st1)(h':Ev G st1 b (.val w) st2)(S:Pu G f [.val v,.val w] (.val (.bool k))):ET G st (.call f (.cons a (.cons b .nil))) k st2:=λK q=>Ev.p2 h h' S _ (aH (show view (.val _) _=some _ from rfl) (aH (show gX (.bool _)=some _ from rfl) q))
theorem S1.DS{k:Bool}{os:bj}{S:Bool->St}(h:ET G st e k st1)(ht:Eb G bs st1 (S true))(hf:Eb G os st1 (S false)):S1 G (.aD e bs os) st (S k):=λK q=>h _ (match k,q with
 | true,q=>ht _ q
 | false,q=>hf _ q)
theorem cC(h:st.H[n]?=some c):bJ (.val (.ref n)) st=some (.ao c):=show(st.H[n]?).map O.ao=_ from congrArg (Option.map O.ao) h
theorem xM(h:st.H[n]?=some c):lM (.val (.ref n)) st=some (n,c):=show(st.H[n]?).map _=_ from congrArg (Option.map λc=>(n,c)) h
theorem IQ{α:Type}{t:ME}(S:α->St)(μ:α->Nat)(ah R:α->Prop)(hs:∀a,ah a->(ET G (S a) t false (S a)/\R a)∨∃a',ET G (S a) t true (S a)/\Eb G bs (S a) (S a')/\ah a'/\μ a'<μ a) :
  ∀{n:Nat} {a:α},ah a->μ a<n->(∀a,R a->K .next (S a))->n5 (wE tab G t).2 (wSs tab G bs) n (S a) K
 | 0,a,_,hm,_=>absurd hm (Nat.not_lt_zero _)
 | n+1,a,hi,hm,q=>(hs a hi).elim (λh=>h.1 _ (q a h.2)) λh=>h.elim λa' h=>h.1 _ (h.2.1 _ (IQ S μ ah R hs h.2.2.1 (Nat.lt_of_lt_of_le h.2.2.2 (Nat.le_of_lt_succ hm)) q))
theorem lw{α:Type}{t:ME}(S:α->St)(μ:α->Nat)(ah R:α->Prop)(a:α)(hs:∀a,ah a->(ET G (S a) t false (S a)/\R a)∨∃a',ET G (S a) t true (S a)/\Eb G bs (S a) (S a')/\ah a'/\μ a'<μ a)
  (hi:ah a) (hm:μ a<1000) (q:∀a,R a->wSs tab G ss (S a) K):wSs tab G (.cons (.while t bs) ss) (S a) K:=by
 show om _ _ qw (S a) _
 unfold om
 exact IQ S μ ah R hs hi hm q
end
noncomputable def cnt:List Int->Int->Nat
 | [],_=>0
 | a::r,x=>if a<=x then cnt r x+1 else 0
theorem uF:∀(l:List Int) (x:Int),cnt l x<=l.length
 | [],_=>Nat.le_refl _
 | a::r,x=>by
  unfold cnt
  split
  .exact Nat.succ_le_succ (uF r x)
  .exact Nat.zero_le _
theorem AD:∀{l:List Int} {x y:Int} {i:Nat},l[i]?=some y->i<cnt l x->y<=x
 | a::r,x,y,i,h,h2=>by
  unfold cnt at h2
  split at h2
  .cases i with
   | zero=>exact Option.some.inj h▸‹_›
   | succ i=>exact AD (l:=r) h (Nat.lt_of_succ_lt_succ h2)
  .exact absurd h2 (Nat.not_lt_zero _)
theorem AB:∀{l:List Int} {x y:Int} {i:Nat},l.Pairwise (·<·)->l[i]?=some y->cnt l x<=i->x<y
 | a::r,x,y,i,hp,h,h2=>by
  have hp:=List.pairwise_cons.mp hp
  unfold cnt at h2
  split at h2
  .cases i with
   | zero=>exact absurd h2 (Nat.not_succ_le_zero _)
   | succ i=>exact AB (l:=r) hp.2 h (Nat.le_of_succ_le_succ h2)
  .cases i with
   | zero=>exact Option.some.inj h▸Int.not_le.mp ‹_›
   | succ i=>exact Int.lt_trans (Int.not_le.mp ‹_›) (hp.1 _ (List.mem_of_getElem? (l:=r) h))
section
variable{k:Nat}
theorem xY{l:List Int}{x:Int}(hp:l.Pairwise (·<·))(Y:l.length<=900):Pu (F (k+1)) 8 [.val (.ao (.list (l.map .int))),.val (.int x)] (.val (.int ((cnt l x:Int) - 1))):=λH Q q=>by
 refine bL BM rfl rfl rfl (az (.sv (.rf rfl) rfl) (az (.sv (.cv (u:=.int (l.map O.int).length) (v:=.int l.length) (by rw[List.length_map]) (.rf rfl)) rfl) ?_))
 refine lw (α:=Nat×Nat×Option VS) (λa=>⟨[some (.val (.ao (.list (l.map .int)))),some (.val (.int x)),some (.val (.int a.1)),some (.val (.int a.2.1)),a.2.2],[false,false],[],H⟩) (λa=>a.2.1 - a.1) (λa=>a.1<=cnt l x/\cnt l x<=a.2.1/\a.2.1<=l.length) (λa=>a.1=cnt l x) (0,l.length,none) ?_ ⟨Nat.zero_le _,uF l x,Nat.le_refl _⟩ (Nat.lt_of_le_of_lt Y (by decide)) λa ha=>?_
 .rintro⟨lo,hi,w⟩ ⟨h1,h2,h3⟩
  by_cases h:lo<hi
  .refine .inr ?_
   have hm:(lo+hi) / 2<hi:=by lia
   have c4:lo<=(lo+hi) / 2:=by lia
   have hj:l[(lo+hi) / 2]?=some (l[(lo+hi) / 2]'(Nat.lt_of_lt_of_le hm h3)):=List.getElem?_eq_getElem _
   generalize hM:(lo+hi) / 2=M at hm c4 hj
   generalize l[M]'_=y at hj
   have I:S1 (F k) (.assign (.slot 4) (.bin .FloorDiv (.bin .Add (.slot 2) (.slot 3)) (.aj 2))) ⟨[some (.val (.ao (.list (l.map .int)))),some (.val (.int x)),some (.val (.int lo)),some (.val (.int hi)),w],[false,false],[],H⟩ ⟨[some (.val (.ao (.list (l.map .int)))),some (.val (.int x)),some (.val (.int lo)),some (.val (.int hi)),some (.val (.int M))],[false,false],[],H⟩:=
    .sv (.cv (u:=.int (((lo:Int)+hi) / 2)) (congrArg O.int (hM▸rfl)) (.bin (.rf rfl) (.rf rfl) rfl rfl (show Option.map _ (if (0:Int)<2/\(2:Int)<1000000000 then some _ else none)=_ by rw[if_pos (by decide)];rfl))) rfl
   have hd:e7 (.ao (.list (l.map .int))) (.int M)=some (.int y):=kJ (by rw[List.getElem?_map,hj];rfl) (by lia)
   have ht:ET (F k) ⟨[some (.val (.ao (.list (l.map .int)))),some (.val (.int x)),some (.val (.int lo)),some (.val (.int hi)),w],[false,false],[],H⟩ (.cmp .Lt (.slot 2) (.slot 3)) true ⟨[some (.val (.ao (.list (l.map .int)))),some (.val (.int x)),some (.val (.int lo)),some (.val (.int hi)),w],[false,false],[],H⟩:=.cmp (.rf rfl) (.rf rfl) rfl rfl (congrArg some (decide_eq_true (Int.ofNat_lt.mpr h)))
   by_cases hc:y<=x
   .refine⟨(M+1,hi,some (.val (.int M))),ht,.cons I (.cons ?_ .nil),⟨Nat.lt_of_not_le λz=>absurd (AB hp hj z) (Int.not_lt.mpr hc),h2,h3⟩,Nat.sub_lt_sub_left h (Nat.lt_succ_of_le c4)⟩
    exact .c5 (.cmp (.idx (.rf rfl) (.rf rfl) rfl rfl hd) (.rf rfl) rfl rfl (congrArg some (decide_eq_true hc))) (.cons (.sv (.rf rfl) rfl) .nil)
   .refine⟨(lo,M,some (.val (.int M))),ht,.cons I (.cons ?_ .nil),⟨h1,Nat.le_of_not_lt λz=>hc (AD hj z),Nat.le_of_lt (Nat.lt_of_lt_of_le hm h3)⟩,Nat.sub_lt_sub_right c4 hm⟩
    exact .aS (.cmp (.idx (.rf rfl) (.rf rfl) rfl rfl hd) (.rf rfl) rfl rfl (congrArg some (decide_eq_false hc))) (.cons (.sv (.rf rfl) rfl) .nil)
  .exact .inl ⟨.cmp (.rf rfl) (.rf rfl) rfl rfl (congrArg some (decide_eq_false λz=>h (Int.ofNat_lt.mp z))),by show lo=_;lia⟩
 .obtain⟨lo,hi,w⟩:=a
  exact rt (.cv (u:=.int ((lo:Int) - 1)) (congrArg O.int (by rw[show lo=_ from ha])) (.rf rfl)) rfl rfl (q _ rfl)
noncomputable def iW(a v:O):Bool:=(dU a v).getD false
def xF(v:O):Prop:=g6 .ic [v]=some (.val (.bool false))
structure mJ(a v:O):Prop where
 e:dU a v=some (iW a v)
 t:iW a v=true->a=v
 p:xF a
 q:xF v
theorem GQ{a v:O}(h:mJ a v):Pu (F (k+1)) 19 [.val a,.val v] (.val (.bool (iW a v))):=λH Q q=>by
 have c:∀st:St,bJ (.val v) st=some v:=λst=>by
  have:=h.q
  cases v<;>first | rfl | exact nomatch this
 have e:Ev (F k) ⟨[some (.val a),some (.val v)],[false,false],[],H⟩ (.and (.cmp .Eq (.slot 0) (.slot 1)) (.cmp .Eq (.aG .ic (.cons (.slot 0) .nil)) (.aG .ic (.cons (.slot 1) .nil)))) (.val (.bool (iW a v))) ⟨[some (.val a),some (.val v)],[false,false],[],H⟩:=by
  cases Y:iW a v with
  | true=>exact .cw (.cmp (.rf rfl) (.rf rfl) rfl (c _) (Y▸h.e)) rfl rfl (.cmp (.aG (.cons (.rf rfl) .nil) rfl h.p) (.aG (.cons (.rf rfl) .nil) rfl h.q) rfl rfl rfl)
  | false=>exact .dT (.cmp (.rf rfl) (.rf rfl) rfl (c _) (Y▸h.e)) rfl rfl
 exact bL BO rfl rfl rfl (rt e rfl rfl (q _ rfl))
end
abbrev cG:=List (Int×O)
noncomputable abbrev starts(ps:cG):List Int:=ps.map (·.1)
noncomputable abbrev vals(ps:cG):List O:=ps.map (·.2)
noncomputable def rm(d:O)(S:List Int)(V:List O):AC:=.inst 2 [(.s ⟨#[100,101,102,97,117,108,116]⟩,d),(.s ⟨#[115,116,97,114,116,115]⟩,.ao (.list (S.map .int))),(.s ⟨#[118,97,108,117,101,115]⟩,.ao (.list V))]
noncomputable def d3(d:O)(ps:cG):AC:=rm d (starts ps) (vals ps)
noncomputable def iZ(first last:Int)(v bp:O)(k:Bool):cG:=bif k then[(first,v),(last+1,bp)] else[(first,v)]
noncomputable def mid(first last:Int)(v bp:O)(k k2:Bool):cG:=bif k2 then(iZ first last v bp k).drop 1 else iZ first last v bp k
noncomputable def kA(last:Int)(v bp:O):Bool:=decide (last<1114111)&&!iW bp v
noncomputable def kB(low:Nat)(v gw:O):Bool:=decide (0<low)&&iW gw v
noncomputable def c6(ps:cG)(n:Nat):O:=(vals ps).getD (n - 1) .none
noncomputable def eI(ps:cG)(first last:Int)(v:O):cG:=
 ps.take (cnt (starts ps) (first - 1))++mid first last v (c6 ps (cnt (starts ps) (last+1))) (kA last v (c6 ps (cnt (starts ps) (last+1)))) (kB (cnt (starts ps) (first - 1)) v (c6 ps (cnt (starts ps) (first - 1))))++ps.drop (cnt (starts ps) (last+1))
structure RG(ps:cG):Prop where
 sorted:(starts ps).Pairwise (·<·)
 head:∃v r,ps=(0,v)::r
 len:ps.length<=800
theorem oH{ps:cG}(h:RG ps){x:Int}(hx:0<=x):1<=cnt (starts ps) x:=h.head.elim λw z=>z.elim λq e=>by
 rw[e];show 1<=if (0:Int)<=x then _ else _;rw[if_pos hx];exact Nat.le_add_left _ _
theorem kP(ps:cG)(x:Int):cnt (starts ps) x<=ps.length:=Nat.le_trans (uF _ x) (Nat.le_of_eq (List.length_map _))
theorem kI{ps:cG}{n:Nat}(h0:0<n)(h1:n<=ps.length):(vals ps)[n - 1]?=some (c6 ps n)/\∃p∈ps,p.2=c6 ps n:=by
 have Y:n - 1<(vals ps).length:=by rw[List.length_map];omega
 have e:(vals ps)[n - 1]?=some (c6 ps n):=by unfold c6;rw[List.getD_eq_getElem?_getD,List.getElem?_eq_getElem Y];rfl
 exact⟨e,List.mem_map.mp (List.mem_of_getElem? e)⟩
theorem oo{d:O}{S:List Int}{V:List O}:cY (.ao (rm d S V)) ⟨#[115,116,97,114,116,115]⟩=some (.ao (.list (S.map .int))):=by kernel_rfl
theorem oq{d:O}{S:List Int}{V:List O}:cY (.ao (rm d S V)) ⟨#[118,97,108,117,101,115]⟩=some (.ao (.list V)):=by kernel_rfl
theorem UR{d:O}{S T:List Int}{V:List O}:lQ (rm d S V) ⟨#[115,116,97,114,116,115]⟩ (.ao (.list (T.map .int)))=some (rm d T V):=by kernel_rfl
theorem UT{d:O}{S:List Int}{V W:List O}:lQ (rm d S V) ⟨#[118,97,108,117,101,115]⟩ (.ao (.list W))=some (rm d S W):=by kernel_rfl
theorem qM(n m:Nat):ft m (n:Int)=min n m:=by
 unfold ft
 rw[if_neg (Int.not_lt.mpr (Int.natCast_nonneg n)),←Lean.Omega.Int.ofNat_min,Int.max_eq_right (Int.natCast_nonneg _)];rfl
theorem Hn{l:List O}{n:Nat}:nU (.ao (.list l)) .none (.int n)=some (.own (.list (l.take n))):=by
 show some (ER.own (.list ((l.drop 0).take (ft l.length n - 0))))=_
 rw[qM,List.drop_zero,Nat.sub_zero,←List.take_eq_take_min]
theorem ti{l:List O}{n:Nat}:nU (.ao (.list l)) (.int n) .none=some (.own (.list (l.drop n))):=by
 show some (ER.own (.list ((l.drop (ft l.length n)).take (l.length - ft l.length n))))=_
 rw[qM,←List.length_drop,List.take_length]
 by_cases h:n<=l.length
 .rw[Nat.min_eq_left h]
 .rw[Nat.min_eq_right (Nat.le_of_not_le h),List.drop_length,List.drop_eq_nil_of_le (Nat.le_of_not_le h)]
section
variable{k:Nat}{H:HH}{r:Nat}{d:O}{ps:cG}
theorem Uq{x:Int}(hr:H[r]?=some (d3 d ps))(hg:RG ps)(h0:0<=x):Ph (F (k+2)) 21 [.val (.ref r),.val (.int x)] H (.val (c6 ps (cnt (starts ps) x))) H:=λQ q=>by
 have hc:=kI (oH hg h0) (kP ps x)
 have Y:=Nat.le_trans (kP ps x) hg.len
 refine bL Bs rfl rfl rfl (rt (.idx (.attr (.rf rfl) (cC hr) oq) (.p2 (.attr (.rf rfl) (cC hr) oo) (.rf rfl) (xY hg.sorted (by rw[List.length_map];exact Nat.le_trans hg.len (by decide)))) rfl rfl ?_) rfl rfl (q _ rfl))
 have e:((cnt (starts ps) x:Int) - 1)=((cnt (starts ps) x - 1:Nat):Int):=by have:=oH hg h0;omega
 exact(congrArg (fH (vals ps)) e).trans (kJ hc.1 (by omega))
theorem Ur{v:O}(Q:VS->List VS->HH->Prop)(q:∀fin:List VS,fin.length=1->Q (.val .none) (.own (d3 v [(0,v)])::fin) H):GK (F (k+1)) 20 [.own (.inst 2 []),.val v] H Q:=by
 have e:wSs tab (F k) oP.body (St.jM oP [.own (.inst 2 []),.val v] H) (EK oP.n Q)=Q (.val .none) [.own (d3 v [(0,v)]),.val v] H:=by kernel_rfl
 refine enter oP rfl rfl ?_
 rw[e];exact q _ rfl
theorem EZ{first last:Int}{v bp:O}(k k2:Bool):(mid first last v bp k k2).length<=2:=by
 cases k<;>cases k2<;>exact Nat.le_of_ble_eq_true rfl
theorem qP{l m:List O}(h:l.length<=800)(hm:m.length<=2)(n p:Nat):(l.take n).length+m.length<=ax/\(l.take n++m).length+(l.drop p).length<=ax:=by
 have h1:=List.length_take_le' n l
 have h2:(l.drop p).length<=l.length:=List.length_drop▸Nat.sub_le _ _
 rw[List.length_append]
 exact⟨bA (m:=802) (Nat.add_le_add (Nat.le_trans h1 h) hm) rfl,bA (m:=1602) (Nat.add_le_add (Nat.add_le_add (Nat.le_trans h1 h) hm) (Nat.le_trans h2 h)) rfl⟩
theorem Ut{first last:Int}{v:O}(hr:H[r]?=some (d3 d ps))(hg:RG ps)(h0:0<=first)(h1:first<=last)(hc:∀p∈ps,mJ p.2 v) :
  Ph (F (k+2)) 22 [.val (.ref r),.val (.int first),.val (.int last),.val v] H (.val .none) (H.set r (d3 d (eI ps first last v))):=λQ q=>by
 have hS:(starts ps).length<=900:=by rw[List.length_map];exact Nat.le_trans hg.len (by decide)
 obtain⟨low,k8⟩:∃n,n=cnt (starts ps) (first - 1):=⟨_,rfl⟩
 obtain⟨high,o5⟩:∃n,n=cnt (starts ps) (last+1):=⟨_,rfl⟩
 have k7:low<=ps.length:=k8▸kP _ _
 have NI:high<=ps.length:=o5▸kP _ _
 have NF:1<=high:=o5▸oH hg (by lia)
 have hB:=kI NF NI
 have e:eI ps first last v=ps.take low++mid first last v (c6 ps high) (kA last v (c6 ps high)) (kB low v (c6 ps low))++ps.drop high:=by unfold eI;rw[←k8,←o5]
 obtain⟨bp,vJ⟩:∃b,b=c6 ps high:=⟨_,rfl⟩
 obtain⟨gw,vI⟩:∃b,b=c6 ps low:=⟨_,rfl⟩
 rw[←vJ,←vI] at e
 have cB:mJ bp v:=hB.2.elim λp z=>(z.2.trans vJ.symm)▸hc p z.1
 have cA:0<low->mJ gw v:=λz=>(kI z k7).2.elim λp z=>(z.2.trans vI.symm)▸hc p z.1
 have hlen:=hg.len
 have eS:((starts ps).map O.int).take low++(starts (mid first last v bp (kA last v bp) (kB low v gw))).map O.int++((starts ps).map O.int).drop high=(starts (eI ps first last v)).map O.int:=by
  rw[e,starts,starts,starts,List.map_append,List.map_append,List.map_append,List.map_append,List.map_take,List.map_take,List.map_drop,List.map_drop]
 have eV:(vals ps).take low++vals (mid first last v bp (kA last v bp) (kB low v gw))++(vals ps).drop high=vals (eI ps first last v):=by
  rw[e,vals,vals,vals,List.map_append,List.map_append,List.map_take,List.map_drop]
 have v8:r<H.length:=(List.getElem?_eq_some_iff.mp hr).1
 refine bL Bt rfl rfl rfl ?_
 refine az (.aS (.cmp (.rf rfl) (.rf rfl) rfl rfl (congrArg some (decide_eq_false (Int.not_lt.mpr h1)))) .nil) ?_
 refine az (.sv (v:=.int low) (.cv (congrArg O.int (show(cnt (starts ps) (first - 1):Int) - 1+1=low by rw[k8];exact Int.sub_add_cancel _ _)) (.bin (.p2 (.attr (.rf rfl) (cC hr) oo) (.rf rfl) (xY hg.sorted hS)) (.rf rfl) rfl rfl rfl)) rfl) ?_
 refine az (.sv (v:=.int high) (.cv (congrArg O.int (show(cnt (starts ps) (last+1):Int) - 1+1=high by rw[o5];exact Int.sub_add_cancel _ _)) (.bin (.p2 (.attr (.rf rfl) (cC hr) oo) (.rf rfl) (xY hg.sorted hS)) (.rf rfl) rfl rfl rfl)) rfl) ?_
 refine az (.sv (v:=bp) (.idx (.attr (.rf rfl) (cC hr) oq) (.rf rfl) rfl rfl ((congrArg (fH (vals ps)) (show(high:Int) - 1=((high - 1:Nat):Int) by lia)).trans (kJ (vJ▸hB.1) (by lia)))) rfl) ?_
 refine az (.tr (.cons (.rf rfl) (.cons (.rf rfl) .nil)) rfl rfl (.cons (.so rfl) (.cons (.so rfl) .nil))) ?_
 refine az (.DS (k:=kA last v bp) (S:=λk=>⟨[some (.val (.ref r)),some (.val (.int first)),some (.val (.int last)),some (.val v),some (.val (.int low)),some (.val (.int high)),some (.val bp),some (.own (.list ((starts (iZ first last v bp k)).map .int))),some (.own (.list (vals (iZ first last v bp k))))],[false,false,false,false],[],H⟩) ?a1 (.cons (.ex (.cl (.rf rfl) rfl (.cons (.val (.rf rfl)) .nil) rfl rfl rfl)) (.cons (.ex (.cl (.rf rfl) rfl (.cons (.val (.rf rfl)) .nil) rfl rfl rfl)) .nil)) .nil) ?_
 rotate_left
 refine az (.DS (k:=kB low v gw) (S:=λk2=>⟨[some (.val (.ref r)),some (.val (.int first)),some (.val (.int last)),some (.val v),some (.val (.int low)),some (.val (.int high)),some (.val bp),some (.own (.list ((starts (mid first last v bp (kA last v bp) k2)).map .int))),some (.own (.list (vals (mid first last v bp (kA last v bp) k2))))],[false,false,false,false],[],H⟩) ?a2 (.cons (.tr (.cons (.bu (.rf rfl) (.rf rfl) (.rf rfl) rfl rfl rfl ?a3) (.cons (.bu (.rf rfl) (.rf rfl) (.rf rfl) rfl rfl rfl ?a4) .nil)) rfl rfl (.cons (.so rfl) (.cons (.so rfl) .nil))) .nil) .nil) ?_
 rotate_left 3
 have hM:=EZ (first:=first) (last:=last) (v:=v) (bp:=bp) (kA last v bp) (kB low v gw)
 have CP:((starts (mid first last v bp (kA last v bp) (kB low v gw))).map O.int).length<=2:=by rw[List.length_map,List.length_map];exact hM
 have CQ:(vals (mid first last v bp (kA last v bp) (kB low v gw))).length<=2:=by rw[List.length_map];exact hM
 have lS:((starts ps).map O.int).length<=800:=by rw[List.length_map,List.length_map];exact hlen
 have lV:(vals ps).length<=800:=by rw[List.length_map];exact hlen
 refine az (.tg (.cr (congrArg (λl=>ER.own (.list l)) eS) (.bin (.bin (.bu (.attr (.rf rfl) (cC hr) oo) (.rf rfl) (.rf rfl) rfl rfl rfl Hn) (.rf rfl) rfl rfl (eo ?b1)) (.bu (.attr (.rf rfl) (cC hr) oo) (.rf rfl) (.rf rfl) rfl rfl rfl ti) rfl rfl (eo ?b2))) (.zI (λZ h=>h) (.rf rfl) rfl (xM hr) UR)) ?_
 rotate_left 2
 have v5:(H.set r (rm d (starts (eI ps first last v)) (vals ps)))[r]?=some (rm d (starts (eI ps first last v)) (vals ps)):=List.getElem?_set_self v8
 refine az (.tg (.cr (congrArg (λl=>ER.own (.list l)) eV) (.bin (.bin (.bu (.attr (.rf rfl) (cC v5) oq) (.rf rfl) (.rf rfl) rfl rfl rfl Hn) (.rf rfl) rfl rfl (eo ?b3)) (.bu (.attr (.rf rfl) (cC v5) oq) (.rf rfl) (.rf rfl) rfl rfl rfl ti) rfl rfl (eo ?b4))) (.zI (λZ h=>h) (.rf rfl) rfl (xM v5) UT)) ?_
 rotate_left 2
 refine nd rfl ?_
 show Q _ _ ((H.set r _).set r _)
 rw[List.set_set];exact q _ rfl
 case a1=>
  unfold kA
  by_cases h:last<1114111
  .rw[decide_eq_true h,Bool.true_and]
   exact .cw (.cmp (.rf rfl) (.rf rfl) rfl rfl (congrArg some (decide_eq_true h))) (.not (.p2 (.rf rfl) (.rf rfl) (GQ cB)))
  .rw[decide_eq_false h,Bool.false_and]
   exact .dT (.cmp (.rf rfl) (.rf rfl) rfl rfl (congrArg some (decide_eq_false h)))
 case a2=>
  unfold kB
  by_cases h:0<low
  .rw[decide_eq_true h,Bool.true_and]
   have hA:=kI h k7
   exact .cw (.cmp (.rf rfl) (.rf rfl) rfl rfl (congrArg some (decide_eq_true (Int.ofNat_lt.mpr h)))) (.p2 (.idx (w:=gw) (.attr (.rf rfl) (cC hr) oq) (.rf rfl) rfl rfl ((congrArg (fH (vals ps)) (show(low:Int) - 1=((low - 1:Nat):Int) by lia)).trans (kJ (vI▸hA.1) (by lia)))) (.rf rfl) (GQ (cA h)))
  .rw[decide_eq_false h,Bool.false_and]
   exact .dT (.cmp (.rf rfl) (.rf rfl) rfl rfl (congrArg some (decide_eq_false λz=>h (Int.ofNat_lt.mp z))))
 case a3=>exact(ti (n:=1)).trans (congrArg (λl=>some (ER.own (.list l))) (by rw[←List.map_drop,←List.map_drop];rfl))
 case a4=>exact(ti (n:=1)).trans (congrArg (λl=>some (ER.own (.list l))) (by rw[←List.map_drop];rfl))
 case b1=>exact(qP lS CP _ 0).1
 case b2=>exact(qP lS CP _ _).2
 case b3=>exact(qP lV CQ _ 0).1
 case b4=>exact(qP lV CQ _ _).2
end
noncomputable def iV(d:O)(l:cG):O:=(l.getLast?.map (·.2)).getD d
noncomputable def look(l:cG)(d:O)(x:Int):O:=iV d (l.filter λp=>decide (p.1<=x))
theorem PH(d:O)(p q:cG):iV d (p++q)=iV (iV d p) q:=by
 unfold iV
 rw[List.getLast?_append]
 cases q.getLast?<;>rfl
theorem pG(p q:cG)(d:O)(x:Int):look (p++q) d x=look q (look p d x) x:=by
 unfold look
 rw[List.filter_append,PH]
theorem pH{l:cG}{d:O}{x:Int}(h:∀p∈l,x<p.1):look l d x=d:=by
 unfold look
 rw[List.filter_eq_nil_iff.mpr λp hp=>by rw[decide_eq_true_iff];exact Int.not_le.mpr (h p hp)];rfl
theorem sr{l:cG}{d:O}{x:Int}(h:∀p∈l,p.1<=x):look l d x=iV d l:=by
 unfold look
 rw[List.filter_eq_self.mpr λp hp=>decide_eq_true (h p hp)]
theorem tG{x:Int}:∀{ps:cG},∀p∈ps.take (cnt (starts ps) x),p.1<=x
 | [],p,hp=>by rw[List.take_nil] at hp;exact nomatch hp
 | a::r,p,hp=>by
  rw[starts,List.map_cons,cnt] at hp
  by_cases h:a.1<=x
  .rw[if_pos h,List.take_succ_cons] at hp
   exact(List.mem_cons.mp hp).elim (λe=>e▸h) λhp=>tG (ps:=r) p hp
  .rw[if_neg h,List.take_zero] at hp;exact nomatch hp
theorem qU{x:Int}:∀{ps:cG},(starts ps).Pairwise (·<·)->∀p∈ps.drop (cnt (starts ps) x),x<p.1
 | [],_,p,hp=>by rw[List.drop_nil] at hp;exact nomatch hp
 | a::r,hs,p,hp=>by
  rw[starts,List.map_cons,cnt] at hp
  have hs:=List.pairwise_cons.mp (show(a.1::starts r).Pairwise (·<·) from hs)
  by_cases h:a.1<=x
  .rw[if_pos h,List.drop_succ_cons] at hp
   exact qU (ps:=r) hs.2 p hp
  .rw[if_neg h,List.drop_zero] at hp
   exact(List.mem_cons.mp hp).elim (λe=>e▸Int.not_le.mp h) λhp=>Int.lt_trans (Int.not_le.mp h) (hs.1 _ (List.mem_map.mpr ⟨p,hp,rfl⟩))
theorem yH{ps:cG}{n:Nat}(d:O)(h0:0<n)(h1:n<=ps.length):iV d (ps.take n)=c6 ps n:=by
 have Y:n - 1<ps.length:=Nat.lt_of_lt_of_le (Nat.sub_lt h0 Nat.one_pos) h1
 have e:=(kI h0 h1).1
 rw[List.getElem?_map] at e
 unfold iV
 rw[List.getLast?_take,if_neg (Nat.ne_of_gt h0),List.getElem?_eq_getElem Y]
 rw[List.getElem?_eq_getElem Y] at e
 exact Option.some.inj e
theorem MU{ps:cG}(hg:RG ps){x:Int}(h0:0<=x)(d:O):c6 ps (cnt (starts ps) x)=look ps d x:=by
 rw[←yH d (oH hg h0) (kP ps x)]
 conv=>rhs;rw[←List.take_append_drop (cnt (starts ps) x) ps]
 rw[pG,pH (qU hg.sorted),sr tG]
section
variable{ps:cG}{first last:Int}{v bp gw:O}{k k2:Bool}
theorem Qn{p:Int×O}(h1:first<=last)(h:p∈mid first last v bp k k2):first<=p.1/\p.1<=last+1/\(p.2=v∨p.2=bp):=by
 have a:p∈iZ first last v bp k:=by
  unfold mid at h
  cases k2 with
  | false=>exact h
  | true=>exact List.mem_of_mem_drop h
 have h2:=Int.le_trans h1 (Int.le_of_lt (Int.lt_succ last))
 cases k with
 | false=>rw[List.mem_singleton.mp a];exact⟨Int.le_refl _,h2,.inl rfl⟩
 | true=>exact(List.mem_cons.mp a).elim (λe=>e▸⟨Int.le_refl _,h2,.inl rfl⟩) λa=>by rw[List.mem_singleton.mp a];exact⟨h2,Int.le_refl _,.inr rfl⟩
theorem Qo(h1:first<=last):(starts (mid first last v bp k k2)).Pairwise (·<·):=by
 cases k<;>cases k2
 .exact List.pairwise_singleton _ _
 .exact .nil
 .exact .cons (λa h=>(List.mem_singleton.mp h)▸Int.lt_add_one_of_le h1) (List.pairwise_singleton _ _)
 .exact List.pairwise_singleton _ _
theorem Qm{d:O}{x:Int}(h0:first<=x)(h1:x<=last)(hd:k2=true->d=v):look (mid first last v bp k k2) d x=v:=by
 have a:decide (first<=x)=true:=decide_eq_true h0
 have b:decide (last+1<=x)=false:=decide_eq_false (Int.not_le.mpr (Int.lt_add_one_of_le h1))
 cases k2 with
 | true=>rw[hd rfl];cases k<;>(unfold look mid iZ;simp only[cond_true,cond_false,List.drop_succ_cons,List.drop_zero,List.filter,b];rfl)
 | false=>cases k<;>(unfold look mid iZ;simp only[cond_true,cond_false,List.filter,a,b];rfl)
theorem Ql{d:O}{x:Int}(h0:first<=x)(h1:last<x)(hd:k2=true->d=v)(I:k=false->bp=v):look (mid first last v bp k k2) d x=bp:=by
 have a:decide (first<=x)=true:=decide_eq_true h0
 have b:decide (last+1<=x)=true:=decide_eq_true (Int.add_one_le_of_lt h1)
 cases k with
 | true=>cases k2<;>(unfold look mid iZ;simp only[cond_true,cond_false,List.drop_succ_cons,List.drop_zero,List.filter,a,b];rfl)
 | false=>
  rw[I rfl]
  cases k2 with
  | true=>rw[hd rfl];rfl
  | false=>unfold look mid iZ;simp only[cond_false,List.filter,a];rfl
theorem TP(hg:RG ps)(Y:ps.length<=790)(h0:0<=first)(h1:first<=last)(hc:∀p∈ps,mJ p.2 v) :
  RG (eI ps first last v)/\(eI ps first last v).length<=ps.length+2/\(∀p∈eI ps first last v,p.2=v∨∃q∈ps,p.2=q.2)/\
  ∀d x,x<=1114111->look (eI ps first last v) d x=if first<=x/\x<=last then v else look ps d x:=by
 have hT:∀p∈ps.take (cnt (starts ps) (first - 1)),p.1<first:=λp hp=>Int.lt_of_le_sub_one (tG p hp)
 have hD:=qU (x:=last+1) hg.sorted
 have hH:=tG (x:=last+1) (ps:=ps)
 have hE:=qU (x:=first - 1) hg.sorted
 have lo:=kP ps (first - 1)
 have hi:=kP ps (last+1)
 have h2:first<=last+1:=Int.le_trans h1 (Int.le_of_lt (Int.lt_succ last))
 have Dg:=oH hg (Int.le_trans h0 h2)
 have hB:=kI Dg hi
 unfold eI
 have jK:∀d,kB (cnt (starts ps) (first - 1)) v (c6 ps (cnt (starts ps) (first - 1)))=true->iV d (ps.take (cnt (starts ps) (first - 1)))=v:=λd h=>by
  have h:=Bool.and_eq_true_iff.mp h
  have l0:=of_decide_eq_true h.1
  rw[yH d l0 lo]
  exact(kI l0 lo).2.elim λp z=>z.2▸(hc p z.1).t (z.2.symm▸h.2)
 have hk:∀x,last<x->x<=1114111->kA last v (c6 ps (cnt (starts ps) (last+1)))=false->c6 ps (cnt (starts ps) (last+1))=v:=λx hx aU h=>by
  unfold kA at h
  rw[decide_eq_true (Int.lt_of_lt_of_le hx aU),Bool.true_and,Bool.not_eq_false'] at h
  exact hB.2.elim λp z=>z.2▸(hc p z.1).t (z.2.symm▸h)
 generalize k8:cnt (starts ps) (first - 1)=low at*
 generalize o5:cnt (starts ps) (last+1)=high at*
 generalize I:c6 ps high=bp at*
 generalize gK:kA last v bp=k at*
 generalize NU:kB low v (c6 ps low)=k2 at*
 have hM:=λp (hp:p∈mid first last v bp k k2)=>Qn h1 hp
 have hlen:(ps.take low++mid first last v bp k k2++ps.drop high).length<=ps.length+2:=by
  have:=EZ (first:=first) (last:=last) (v:=v) (bp:=bp) k k2
  have YK:low<=high:=by
   refine Nat.le_of_not_lt λz=>?_
   have e:=List.getElem?_eq_getElem (l:=ps) (Nat.lt_of_lt_of_le z lo)
   have a:=hT _ (List.mem_of_getElem? ((List.getElem?_take_of_lt z).trans e))
   have b:=hD _ (List.mem_of_getElem? (i:=0) ((List.getElem?_drop (i:=high)).trans (by rw[Nat.add_zero];exact e)))
   exact absurd (Int.lt_trans b a) (Int.not_lt.mpr h2)
  rw[List.length_append,List.length_append,List.length_take,List.length_drop,Nat.min_eq_left lo]
  lia
 refine⟨⟨?_,?_,Nat.le_trans hlen (Nat.le_trans (Nat.add_le_add_right Y 2) (by decide))⟩,hlen,λp hp=>?_,λd x hx=>?_⟩
 .rw[starts,List.map_append,List.map_append,List.pairwise_append,List.pairwise_append]
  refine⟨⟨List.map_take▸hg.sorted.sublist (List.take_sublist _ _),Qo h1,λa ha c mX=>?_⟩,List.map_drop▸hg.sorted.sublist (List.drop_sublist _ _),λa ha c mX=>?_⟩
  .refine(List.mem_map.mp ha).elim λp hp=>(List.mem_map.mp mX).elim λq hq=>?_
   rw[←hp.2,←hq.2];exact Int.lt_of_lt_of_le (hT p hp.1) (hM q hq.1).1
  .refine(List.mem_map.mp mX).elim λq hq=>?_
   rw[←hq.2]
   refine Int.lt_of_le_of_lt ?_ (hD q hq.1)
   exact(List.mem_append.mp ha).elim (λha=>(List.mem_map.mp ha).elim λp hp=>hp.2▸Int.le_of_lt (Int.lt_of_lt_of_le (hT p hp.1) h2)) λha=>(List.mem_map.mp ha).elim λp hp=>hp.2▸(hM p hp.1).2.1
 .refine hg.head.elim λw z=>z.elim λr hw=>?_
  cases low with
  | zero=>
   have e:first=0:=by
    rw[hw] at k8
    have z:¬(0:Int)<=first - 1:=λz=>by
     rw[starts,List.map_cons,cnt,if_pos z] at k8;cases k8
    exact Int.le_antisymm (Int.le_of_lt_add_one (Int.lt_add_of_sub_right_lt (Int.not_le.mp z))) h0
   have e2:k2=false:=by rw[←NU];rfl
   rw[e2,e]
   cases k<;>exact⟨v,_,rfl⟩
  | succ n=>rw[hw];exact⟨w,_,rfl⟩
 .refine(List.mem_append.mp hp).elim (λhp=>(List.mem_append.mp hp).elim (λhp=>.inr ⟨p,List.mem_of_mem_take hp,rfl⟩) λhp=>?_) λhp=>.inr ⟨p,List.mem_of_mem_drop hp,rfl⟩
  exact(hM p hp).2.2.imp id λe=>hB.2.imp λq z=>⟨z.1,e.trans z.2.symm⟩
 .rw[pG,pG]
  by_cases bD:x<first
  .have rX:x<last+1:=Int.lt_of_lt_of_le bD h2
   rw[if_neg λz=>absurd z.1 (Int.not_le.mpr bD),pH λp hp=>Int.lt_trans rX (hD p hp),pH λp hp=>Int.lt_of_lt_of_le bD (hM p hp).1]
   conv=>rhs;rw[←List.take_append_drop low ps]
   rw[pG,pH (l:=ps.drop low) λp hp=>Int.lt_of_le_of_lt (Int.le_sub_one_of_lt bD) (hE p hp)]
  .have rG:=Int.not_lt.mp bD
   rw[sr (l:=ps.take low) λp hp=>Int.le_trans (Int.le_of_lt (hT p hp)) rG]
   by_cases hle:x<=last
   .rw[if_pos ⟨rG,hle⟩,pH λp hp=>Int.lt_trans (Int.lt_add_one_of_le hle) (hD p hp),Qm rG hle (jK d)]
   .have vU:=Int.not_le.mp hle
    rw[if_neg λz=>hle z.2,Ql rG vU (jK d) (hk x vU hx)]
    conv=>rhs;rw[←List.take_append_drop high ps]
    rw[pG,sr (l:=ps.take high) λp hp=>Int.le_trans (hH p hp) (Int.add_one_le_of_lt vU),yH d Dg hi,I]
end
noncomputable def dM:Nat->O->Bool
 | 0,_=>false
 | n+1,v=>match v with
  | .none=>true
  | .int _=>true
  | .str _=>true
  | .tup vs=>vs.all (dM n)
  | _=>false
noncomputable def wD:O->Bool
 | .none=>true
 | .bytes _=>true
 | _=>false
noncomputable def KV(nm:Str)(v:O):Bool:=bif nm==⟨#[110,97,109,101]⟩ then wD v else dM 6 v
def qo(o:Option Bool)(P:Prop):Prop:=∃k,o=some k/\(k=true->P)
theorem Bc{f:O->O->Option Bool}{p:O->Bool}(hf:∀a b,p a=true->p b=true->qo (f a b) (a=b)):∀(x y:List O),x.all p=true->y.all p=true->qo (dW f x y) (x=y)
 | [],[],_,_=>⟨true,rfl,λZ=>rfl⟩
 | [],b::q,_,_=>⟨false,rfl,nofun⟩
 | a::r,[],_,_=>⟨false,rfl,nofun⟩
 | a::r,b::q,hx,hy=>by
  have hx:=Bool.and_eq_true_iff.mp hx
  have hy:=Bool.and_eq_true_iff.mp hy
  refine(hf a b hx.1 hy.1).elim λk h=>(Bc hf r q hx.2 hy.2).elim λk' h'=>⟨k&&k',?_,λz=>?_⟩
  .show(match f a b,dW f r q with | some x,some y=>some (x&&y) | _,_=>none)=_
   rw[h.1,h'.1]
  .have z:=Bool.and_eq_true_iff.mp z
   rw[h.2 z.1,h'.2 z.2]
theorem Bh:∀(n:Nat) (a b:O),dM n a=true->dM n b=true->qo (eU n a b) (a=b)
 | 0,_,_,h,_=>nomatch h
 | n+1,.none,b,_,I=>by cases b<;>first | exact⟨true,rfl,λZ=>rfl⟩ | exact⟨false,rfl,nofun⟩ | exact nomatch I
 | n+1,.int x,b,_,I=>by cases b<;>first | exact⟨_,rfl,λh=>congrArg O.int (eq_of_beq h)⟩ | exact⟨false,rfl,nofun⟩ | exact nomatch I
 | n+1,.str x,b,_,I=>by cases b<;>first | exact⟨_,rfl,λh=>congrArg O.str (eq_of_beq h)⟩ | exact⟨false,rfl,nofun⟩ | exact nomatch I
 | n+1,.tup x,b,ha,I=>by cases b<;>first | exact(Bc (Bh n) x _ ha I).imp λk h=>⟨h.1,λz=>congrArg O.tup (h.2 z)⟩ | exact⟨false,rfl,nofun⟩ | exact nomatch I
 | n+1,.bytes _,_,h,_=>nomatch h
 | n+1,.bool _,_,h,_=>nomatch h
 | n+1,.ao _,_,h,_=>nomatch h
 | n+1,.ref _,_,h,_=>nomatch h
theorem y7{nm:Str}{a:O}(h:KV nm a=true):xF a:=by
 unfold KV at h
 cases q:nm==⟨#[110,97,109,101]⟩<;>rw[q] at h<;>cases a<;>first | exact rfl | exact absurd (show false=true from h) Bool.false_ne_true
theorem Ja{nm:Str}{a b:O}(ha:KV nm a=true)(I:KV nm b=true):mJ a b:=by
 have e:qo (dU a b) (a=b):=by
  unfold KV at ha I
  cases q:nm==⟨#[110,97,109,101]⟩ with
  | false=>rw[q] at ha I;exact Bh 6 a b ha I
  | true=>
   rw[q] at ha I
   cases a<;>first | (cases b<;>first | exact⟨true,rfl,λZ=>rfl⟩ | exact⟨_,rfl,λh=>congrArg O.bytes (eq_of_beq h)⟩ | exact⟨false,rfl,λz=>absurd z Bool.false_ne_true⟩ | exact absurd (show false=true from I) Bool.false_ne_true) | exact absurd (show false=true from ha) Bool.false_ne_true
 exact e.elim λk h=>⟨by unfold iW;rw[h.1];rfl,λz=>h.2 (by unfold iW at z;rw[h.1] at z;exact z),y7 ha,y7 I⟩
theorem kT(e:Key×O)(r:List (Key×O))(k:Key):bt (e::r) k=if e.1=k then some e.2 else bt r k:=by
 unfold bt
 rw[List.find?_cons]
 by_cases h:e.1=k
 .rw[decide_eq_true h,if_pos h];rfl
 .rw[decide_eq_false h,if_neg h]
theorem jC:∀(es:List (Key×O)) (k:Key),cg es k=(bt es k).isSome
 | [],_=>rfl
 | e::r,k=>by
  rw[kT]
  show(decide (e.1=k)||cg r k)=_
  by_cases h:e.1=k
  .rw[decide_eq_true h,if_pos h];rfl
  .rw[decide_eq_false h,if_neg h,Bool.false_or];exact jC r k
theorem AP(k:Key)(v:O)(k':Key):∀es:List (Key×O),bt (es.map λe=>if e.1=k then(e.1,v) else e) k'=if k'=k then(if cg es k then some v else none) else bt es k'
 | []=>by rw[show cg [] k=false from rfl];exact(ite_self _).symm
 | e::r=>by
  rw[List.map_cons,kT,AP k v k' r,kT,show cg (e::r) k=(decide (e.1=k)||cg r k) from rfl]
  by_cases h':k'=k
  .subst h'
   rw[if_pos rfl,if_pos rfl]
   by_cases h:e.1=k'
   .rw[if_pos h,decide_eq_true h,Bool.true_or];exact if_pos h
   .rw[if_neg h,decide_eq_false h,Bool.false_or];exact if_neg h
  .rw[if_neg h',if_neg h']
   by_cases h:e.1=k
   .rw[if_pos h];exact(if_neg λz=>h' (z.symm.trans h)).trans (if_neg λz=>h' (z.symm.trans h)).symm
   .rw[if_neg h]
theorem qS(es:List (Key×O))(k k':Key)(v:O):bt (dput es k v) k'=if k'=k then some v else bt es k':=by
 unfold dput
 cases h:cg es k with
 | true=>rw[if_pos rfl,AP,h];rfl
 | false=>
  rw[if_neg Bool.false_ne_true]
  have e:∀l:List (Key×O),bt (l++[(k,v)]) k'=(bt l k').or (if k'=k then some v else none):=λl=>by
   induction l with
   | nil=>rw[List.nil_append,kT];exact(ite_congr (propext ⟨Eq.symm,Eq.symm⟩) (λZ=>rfl) λZ=>rfl)
   | cons a r ih=>rw[List.cons_append,kT,ih,kT];split<;>rfl
  rw[e]
  by_cases q:k'=k
  .rw[if_pos q,if_pos q]
   have hn:bt es k'=none:=Option.not_isSome_iff_eq_none.mp (by rw[q,←jC,h];exact Bool.false_ne_true)
   rw[hn];rfl
  .rw[if_neg q,if_neg q,Option.or_none]
theorem oJ(es:List (Key×O))(k:Key)(v:O):(dput es k v).length<=es.length+1:=by
 unfold dput
 split
 .rw[List.length_map];exact Nat.le_succ _
 .rw[List.length_append];exact Nat.le_refl _
theorem Hi{es:List (Key×O)}{i:O}{k:Key}{v:O}(hk:keyOf i=some k)(h:es.length<1000):gb (.dict es) i v=some (.dict (dput es k v)):=by
 show(keyOf i).bind _=_
 rw[hk];exact if_pos (Nat.lt_trans h (by decide))
noncomputable def DF:List (Key×O):=[(.s ⟨#[103,99]⟩,.str ⟨#[67,110]⟩),(.s ⟨#[99,99,99]⟩,.int 0),(.s ⟨#[98,99]⟩,.str ⟨#[76]⟩),(.s ⟨#[108,98]⟩,.str ⟨#[88,88]⟩),(.s ⟨#[101,97]⟩,.str ⟨#[78]⟩),(.s ⟨#[115,99]⟩,.str ⟨#[90,122,122,122]⟩),(.s ⟨#[106,116]⟩,.str ⟨#[85]⟩),(.s ⟨#[105,110,99,98]⟩,.str ⟨#[78,111,110,101]⟩)]++
 ([⟨#[103,99,98]⟩,⟨#[119,98]⟩,⟨#[115,98]⟩].map (λs=>(Key.s s,O.str ⟨#[79,116,104,101,114]⟩))++
 ([⟨#[101,120]⟩,⟨#[115,100]⟩,⟨#[99,97,115,101,100]⟩,⟨#[99,105]⟩,⟨#[101,112]⟩,⟨#[100,105]⟩,⟨#[105,100,115]⟩,⟨#[105,100,99]⟩,⟨#[120,105,100,115]⟩,⟨#[120,105,100,99]⟩,⟨#[112,97,116,95,115,121,110]⟩,⟨#[112,97,116,95,119,115]⟩,⟨#[105,100,115,116]⟩].map (λs=>(Key.s s,O.bool false))++
 ([⟨#[100,109]⟩,⟨#[117,99]⟩,⟨#[108,99]⟩,⟨#[116,99]⟩,⟨#[99,102]⟩,⟨#[98,109]⟩,⟨#[98,112,98]⟩,⟨#[115,99,120]⟩,⟨#[110,116]⟩,⟨#[110,118]⟩,⟨#[110,97,109,101]⟩,⟨#[99,111,110,102]⟩,⟨#[110,102,107,99,95,99,102]⟩].map (λs=>(Key.s s,O.none))++
 ([⟨#[115,117,99]⟩,⟨#[115,108,99]⟩,⟨#[115,116,99]⟩,⟨#[97,108,105,97,115]⟩].map (λs=>(Key.s s,O.tup []))++[(.s ⟨#[105,100,110,97]⟩,.tup [.str ⟨#[100,105,115,97,108,108,111,119,101,100]⟩,.tup []])]))))
noncomputable def bZ(nm:Str):O:=(bt DF (.s nm)).getD .none
noncomputable def jB(m:Nat):AC:=.inst 3 [(.s ⟨#[100,101,102,97,117,108,116,115]⟩,.ao (.dict DF)),(.s ⟨#[109,97,112,115]⟩,.ref m),(.s ⟨#[112,114,111,112,101,114,116,105,101,115]⟩,.ao (.dict [])),(.s ⟨#[119,111,114,100,115]⟩,.ao (.dict []))]
theorem xW{k:Nat}{H:HH}(Q:VS->List VS->HH->Prop)(q:∀fin:List VS,fin.length=0->Q (.val .none) (.own (jB H.length)::fin) (H++[.dict []])):GK (F (k+2)) 24 [.own (.inst 3 [])] H Q:=by
 have e:wSs tab (F (k+1)) oO.body (St.jM oO [.own (.inst 3 [])] H) (EK oO.n Q)=Q (.val .none) [.own (jB H.length)] (H++[.dict []]):=by kernel_rfl
 refine enter oO rfl rfl ?_
 rw[e];exact q _ rfl
theorem zk{m:Nat}:cY (.ao (jB m)) ⟨#[100,101,102,97,117,108,116,115]⟩=some (.ao (.dict DF)):=by kernel_rfl
theorem kE{m:Nat}:cY (.ao (jB m)) ⟨#[109,97,112,115]⟩=some (.ref m):=by kernel_rfl
def qt(H:HH)(nm:Str)(g:Int->O)(n:Nat)(v:O):Prop:=∃r dv ps,v=.ref r/\H[r]?=some (d3 dv ps)/\RG ps/\ps.length<=1+2*n/\(∀p∈ps,KV nm p.2=true)/\∀x,0<=x->x<=1114111->g x=look ps .none x
structure DR(H:HH)(d m:Nat)(ms:List (Key×O))(g:Str->Int->O)(n:Nat):Prop where
 obj:H[d]?=some (jB m)
 dct:H[m]?=some (.dict ms)
 off:∀nm,bt ms (.s nm)=none->∀x,g nm x=bZ nm
 on:∀nm v,bt ms (.s nm)=some v->qt H nm (g nm) n v
 inj:∀a b v,bt ms (.s a)=some v->bt ms (.s b)=some v->a=b
 pL:ms.length<=n
noncomputable def c7(nm:Str)(_:Int):O:=bZ nm
theorem n8(H:HH):DR (H++[.dict []]++[jB H.length]) (H.length+1) H.length [] c7 0:=
 ⟨(by rw[List.getElem?_append_right (Nat.le_of_eq (by rw[List.length_append];rfl)),List.length_append];exact congrArg (λi=>[jB H.length][i]?) (Nat.sub_self _)),(by rw[List.append_assoc,List.getElem?_append_right (Nat.le_refl _),Nat.sub_self];rfl),
  λZ Z Z=>rfl,λZ Z h=>(nomatch h),λZ Z Z h=>(nomatch h),Nat.le_refl _⟩
noncomputable def upd(g:Str->Int->O)(nm:Str)(f l:Int)(v:O):Str->Int->O:=λgQ x=>if gQ=nm/\f<=x/\x<=l then v else g gQ x
section
variable{H H':HH}{r q:Nat}{c e:AC}
theorem pI(h:H[r]?=some c):r<H.length:=(List.getElem?_eq_some_iff.mp h).1
theorem vz(h:H[r]?=some c)(L:HH):(H++L)[r]?=some c:=(List.getElem?_append_left (pI h)).trans h
theorem get_set(h:H[r]?=some c)(bE:r≠q):(H.set q e)[r]?=some c:=(List.getElem?_set_ne (Ne.symm bE)).trans h
theorem rx(h:H[r]?=some c)(h':H[q]?=some e)(hn:c≠e):r≠q:=λz=>hn (Option.some.inj (h.symm.trans (z▸h')))
theorem qt.mono{nm:Str}{g:Int->O}{n n':Nat}{v:O}(h:qt H nm g n v)(hn:n<=n')(hH:∀r dv ps,v=.ref r->H[r]?=some (d3 dv ps)->H'[r]?=some (d3 dv ps)):qt H' nm g n' v:=
 h.elim λr h=>h.elim λdv h=>h.elim λps h=>⟨r,dv,ps,h.1,hH r dv ps h.1 h.2.1,h.2.2.1,Nat.le_trans h.2.2.2.1 (Nat.add_le_add_left (Nat.mul_le_mul_left 2 hn) 1),h.2.2.2.2⟩
theorem pC{st:St}{c k f:Nat}{fs:List (Key×O)}(h:st.H[r]?=some (.inst c fs))(hm:tab.aw c k=some f):fc tab (.user k) (.val (.ref r)) st=some (.fn f):=by
 simp only[fc,instOf,view,h,hm,Option.map_some]
theorem wN{st:St}{c f:Nat}{fs:List (Key×O)}(h:st.H[r]?=some (.inst c fs))(hm:tab.aw c 1000=some f):fc tab .get (.val (.ref r)) st=some (.fn f):=by
 simp only[fc,instOf,view,h,hm,Option.map_some]
end
section
variable{k:Nat}{H:HH}{d m:Nat}{ms:List (Key×O)}{g:Str->Int->O}{n:Nat}{nm:Str}
theorem GO{x:Int}(h:DR H d m ms g n)(h0:0<=x)(h1:x<=1114111):Ph (F (k+3)) 26 [.val (.ref d),.val (.str nm),.val (.int x)] H (.val (g nm x)) H:=λQ q=>by
 refine bL Bq rfl rfl rfl ?_
 have gJ:ET (F (k+2)) ⟨[some (.val (.ref d)),some (.val (.str nm)),some (.val (.int x))],[false,false,false],[],H⟩ (.cmp .In (.slot 1) (.attr (.slot 0) ⟨#[109,97,112,115]⟩)) (bt ms (.s nm)).isSome ⟨[some (.val (.ref d)),some (.val (.str nm)),some (.val (.int x))],[false,false,false],[],H⟩:=
  .cmp (.rf rfl) (.attr (.rf rfl) (cC h.obj) kE) rfl (cC h.dct) (congrArg some (jC ms _))
 cases hg:bt ms (.s nm) with
 | some v=>
  rw[hg] at gJ
  refine(h.on nm v hg).elim λr z=>z.elim λdv z=>z.elim λps z=>?_
  refine wr (.c5 gJ (.ret (.mu (l:=[.val (.int x)]) (.idx (.attr (.rf rfl) (cC h.obj) kE) (.rf rfl) (cC h.dct) rfl (z.1▸hg)) (wN z.2.1 rfl) (.cons (.rf rfl) .nil) (Uq z.2.1 z.2.2.1 h0)))) ?_
  rw[MU z.2.2.1 h0 .none,←z.2.2.2.2.2 x h0 h1]
  exact aH (show params _=some _ from rfl) (aH (show leave _ _=some _ from rfl) (q _ rfl))
 | none=>
  rw[hg] at gJ
  refine az (.aS gJ .nil) (rt (.get (.attr (.rf rfl) (cC h.obj) zk) rfl (.cons (.val (.rf rfl)) .nil) rfl rfl) rfl rfl ?_)
  rw[h.off nm hg x] at q
  exact q _ rfl
set_option tactic.hygienic true in
theorem Uc(h:DR H d m ms g n)(hn:n<300)(hk:KV nm (bZ nm)=true):∃H' bP r,DR H' d m bP g (n+1)/\bt bP (.s nm)=some (.ref r)/\Ph (F (k+2)) 27 [.val (.ref d),.val (.str nm)] H (.val (.ref r)) H':=by
 have Np:d≠m:=rx h.obj h.dct nofun
 cases hg:bt ms (.s nm) with
 | some v=>
  refine(h.on nm v hg).elim λr z=>z.elim λdv z=>z.elim λps z=>⟨H,ms,r,⟨h.obj,h.dct,h.off,λnm v hv=>(h.on nm v hv).mono (Nat.le_succ n) λZ Z Z Z h=>h,h.inj,Nat.le_succ_of_le h.pL⟩,z.1▸hg,λQ q=>?_⟩
  refine bL uY rfl rfl rfl (az (.aS (.cmp (.rf rfl) (.attr (.rf rfl) (cC h.obj) kE) rfl (cC h.dct) (show(some (cg ms (.s nm))).map not=some false by rw[jC,hg];rfl)) .nil) ?_)
  exact rt (.idx (.attr (.rf rfl) (cC h.obj) kE) (.rf rfl) (cC h.dct) rfl (show bt ms (.s nm)=some (.ref r) from z.1▸hg)) rfl rfl (q _ rfl)
 | none=>
  have Y:m<H.length:=pI h.dct
  have hr:(H++[d3 (bZ nm) [(0,bZ nm)]])[H.length]?=some (d3 (bZ nm) [(0,bZ nm)]):=by rw[List.getElem?_append_right (Nat.le_refl _),Nat.sub_self];rfl
  have Dn:=vz h.dct [d3 (bZ nm) [(0,bZ nm)]]
  have C0:=vz h.obj [d3 (bZ nm) [(0,bZ nm)]]
  have hd2:=get_set (e:=.dict (dput ms (.s nm) (.ref H.length))) C0 Np
  have Dp:((H++[d3 (bZ nm) [(0,bZ nm)]]).set m (.dict (dput ms (.s nm) (.ref H.length))))[m]?=some (.dict (dput ms (.s nm) (.ref H.length))):=List.getElem?_set_self (pI Dn)
  have C9:bt (dput ms (.s nm) (.ref H.length)) (.s nm)=some (.ref H.length):=by rw[qS,if_pos rfl]
  have fresh:∀c,bt ms (.s c)≠some (.ref H.length):=λc hc=>(h.on c _ hc).elim λr z=>z.elim λdv z=>z.elim λps z=>Nat.lt_irrefl _ ((O.ref.inj z.1)▸pI z.2.1)
  refine⟨_,dput ms (.s nm) (.ref H.length),H.length,⟨hd2,Dp,λgQ h' x=>?_,λgQ v h'=>?_,λa b v ha I=>?_,Nat.le_trans (oJ _ _ _) (Nat.succ_le_succ h.pL)⟩,C9,λQ q=>?_⟩
  .rw[qS] at h'
   split at h'
   .cases h'
   .exact h.off gQ h' x
  .rw[qS] at h'
   split at h'
   .rename_i e
    cases e
    refine⟨H.length,bZ nm,[(0,bZ nm)],(Option.some.inj h').symm,get_set hr (Nat.ne_of_gt Y),⟨List.pairwise_singleton _ _,⟨_,_,rfl⟩,Nat.le_of_ble_eq_true rfl⟩,Nat.le_add_right 1 _,λp hp=>List.mem_singleton.mp hp▸hk,λx hx Z=>?_⟩
    rw[h.off nm hg x,sr λp hp=>List.mem_singleton.mp hp▸hx];rfl
   .exact(h.on gQ v h').mono (Nat.le_succ n) λr dv ps Z z=>get_set (vz z _) (rx z h.dct nofun)
  .rw[qS] at ha I
   split at ha<;>split at I
   .rename_i e1 e2;cases e1;cases e2;rfl
   .exact absurd (I.trans ha.symm) (fresh b)
   .exact absurd (ha.trans I.symm) (fresh a)
   .exact h.inj a b v ha I
  .refine bL uY rfl rfl rfl (az (.c5 (.cmp (.rf rfl) (.attr (.rf rfl) (cC h.obj) kE) rfl (cC h.dct) (show(some (cg ms (.s nm))).map not=some true by rw[jC,hg];rfl)) (.cons (.tg (.sF (l:=[.val (bZ nm)]) (H':=H) (.cons (.get (.attr (.rf rfl) (cC h.obj) zk) rfl (.cons (.val (.rf rfl)) .nil) rfl rfl) .nil) (λQ q=>Ur Q q) rfl)
    (.Pr (λZ h=>h) (.attr (.rf rfl) (cC C0) kE) (.rf rfl) rfl rfl (xM Dn) (Hi rfl (Nat.lt_of_le_of_lt h.pL (Nat.lt_trans hn (by decide)))))) .nil)) ?_)
   exact rt (.idx (.attr (.rf rfl) (cC hd2) kE) (.rf rfl) (cC Dp) rfl C9) rfl rfl (q _ rfl)
theorem xX{f l:Int}{v:O}(h:DR H d m ms g n)(hn:n<300)(hk:KV nm (bZ nm)=true)(hv:KV nm v=true)(h0:0<=f)(h1:f<=l)(h2:l<=1114111) :
  ∃H' bP,DR H' d m bP (upd g nm f l v) (n+2)/\Ph (F (k+3)) 25 [.val (.ref d),.val (.str nm),.val (.int f),.val (.int l),.val v] H (.val .none) H':=
 (Uc (k:=k) h hn hk).elim λjl z=>z.elim λsA z=>z.elim λr z=>(z.1.on nm _ z.2.1).elim λr' w=>w.elim λdv w=>w.elim λps w=>by
  have D:=z.1
  obtain rfl:=O.ref.inj w.1
  have hlen:=w.2.2.2.1
  have CZ:=λp hp=>Ja (w.2.2.2.2.1 p hp) hv
  have R:=TP (v:=v) w.2.2.1 (Nat.le_trans hlen (by lia)) h0 h1 CZ
  have v7:d≠r:=rx D.obj w.2.1 nofun
  have Ox:m≠r:=rx D.dct w.2.1 nofun
  refine⟨jl.set r (d3 dv (eI ps f l v)),sA,⟨get_set D.obj v7,get_set D.dct Ox,λgQ dk x=>?_,λgQ v' dG=>?_,D.inj,Nat.le_succ_of_le D.pL⟩,λQ q=>?_⟩
  .exact(if_neg λz'=>by rw[z'.1,z.2.1] at dk;cases dk).trans (D.off gQ dk x)
  .by_cases e:gQ=nm
   .cases e
    obtain rfl:=Option.some.inj (z.2.1.symm.trans dG)
    refine⟨r,dv,_,rfl,List.getElem?_set_self (pI w.2.1),R.1,Nat.le_trans R.2.1 (by lia),λp hp=>(R.2.2.1 p hp).elim (λe=>e▸hv) λz'=>z'.elim λq' z'=>z'.2▸w.2.2.2.2.1 q' z'.1,λx hx aU=>?_⟩
    rw[R.2.2.2 _ _ aU]
    by_cases c:f<=x/\x<=l
    .exact(if_pos ⟨rfl,c⟩).trans (if_pos c).symm
    .exact(if_neg λz'=>c z'.2).trans ((w.2.2.2.2.2 x hx aU).trans (if_neg c).symm)
   .have m1:=(D.on gQ v' dG).mono (H':=jl.set r (d3 dv (eI ps f l v))) (Nat.le_succ (n+1)) λr' Yz Y0 e' Ou=>get_set Ou λz'=>e (D.inj _ _ _ dG (by rw[e',z'];exact z.2.1))
    refine m1.elim λr z=>z.elim λdv z=>z.elim λps z=>⟨r,dv,ps,z.1,z.2.1,z.2.2.1,z.2.2.2.1,z.2.2.2.2.1,λx hx aU=>(if_neg λc=>e c.1).trans (z.2.2.2.2.2 x hx aU)⟩
  .refine bL Br rfl rfl rfl (az (.ex (.ip (l:=[.val (.int f),.val (.int l),.val v]) (.ip (l:=[.val (.str nm)]) (.rf rfl) (pC h.obj rfl) (.cons (.rf rfl) .nil) z.2.2) (pC w.2.1 rfl) (.cons (.rf rfl) (.cons (.rf rfl) (.cons (.rf rfl) .nil))) (Ut w.2.1 w.2.2.1 h0 h1 CZ))) ?_)
   exact nd rfl (q _ rfl)
end
noncomputable def aQ(l:List (List UInt8)):O:=.ao (.list (l.map .bytes))
noncomputable def jU(i:Nat):Str:=Fl.getD i ⟨#[]⟩
noncomputable def Sg.sS(s:Sg)(c:Nat):List (List UInt8):=[hx c,oct s.name,oct s.gc,oct (dN s.ccc)]++[oct s.bc,s.map,oct (jU s.num)]++[yn c,[],[]]++[bH s.big,bH s.little,bH s.first]
noncomputable def Sg.text(s:Sg)(c:Nat):List UInt8:=aP [59] (s.sS c)
abbrev SL:=List (Nat×Sg)
noncomputable def jd(L:SL):List (Key×O):=L.map λp=>(.i p.1,.ao (p.2.inst p.1))
noncomputable def iz(L:SL):List (Key×O):=L.map λp=>(.i p.1,aQ [p.2.text p.1])
structure bV(L:SL):Prop where
 nd:(L.map (·.1)).Nodup
 pl:∀p∈L,p.1∈cI
 ok:∀p∈L,p.2.ok
 len:L.length<=5
section
variable{s:Sg}{c:Nat}
theorem OZ:cY (.ao (s.inst c)) ⟨#[110,97,109,101]⟩=some (.str s.name):=by kernel_rfl
theorem OX:cY (.ao (s.inst c)) ⟨#[103,99]⟩=some (.str s.gc):=by kernel_rfl
theorem OW:cY (.ao (s.inst c)) ⟨#[99,99,99]⟩=some (.int s.ccc):=by kernel_rfl
theorem OU:cY (.ao (s.inst c)) ⟨#[98,99]⟩=some (.str s.bc):=by kernel_rfl
theorem DC:cY (.ao (s.inst c)) ⟨#[116,97,103]⟩=some (jY s.tag):=by kernel_rfl
theorem O0:cY (.ao (s.inst c)) ⟨#[112,97,114,116,115]⟩=some (.tup (nats s.parts)):=by kernel_rfl
theorem DG:cY (.ao (s.inst c)) ⟨#[117,112,112,101,114]⟩=some (oi s.big):=by kernel_rfl
theorem OY:cY (.ao (s.inst c)) ⟨#[108,111,119,101,114]⟩=some (oi s.little):=by kernel_rfl
theorem DE:cY (.ao (s.inst c)) ⟨#[116,105,116,108,101]⟩=some (oi s.head):=by kernel_rfl
theorem DB:cY (.ao (s.inst c)) ⟨#[110,117,109,98,101,114]⟩=some (.str (gS s.num)):=by kernel_rfl
end
noncomputable def jX:List (Option Nat):=none::kM.map some
theorem Lf{k:Nat}:∀o∈jX,Pu (F (k+2)) 16 [.val (oi o)] (.val (.bytes (bH o))):=cT BV rfl (λZ=>rfl) (λo=>[.val (oi o)]) (λZ=>rfl) λH Q=>by kernel_rfl
noncomputable def w3:Str:=⟨#[89,32,48,48,50,56,32,48,48,50,57,32,48,48,51,67,32,48,48,51,69,32,48,48,53,66,32,48,48,53,68,32,48,48,55,66,32,48,48,55,68,32,48,48,65,66,32,48,48,66,66,32,50,50,48,56,32,50,50,48,66,32,50,50,54,48,32,50,50,54,69,32,50,51,50,57,32,50,51,50,65,32,51,48,48,56,32,51,48,48,57,32,51,48,48,67,32,51,48,48,68]⟩
noncomputable def oh:List (Key×O):=[40,41,60,62,91,93,123,125,171,187,8712,8715,8800,8814,9001,9002,12296,12297,12300,12301].map λ(n:Nat)=>(Key.i n,O.str ⟨#[89]⟩)
theorem K8{k:Nat}:Pu (F (k+8)) 13 [.val (.str w3)] (.own (.dict oh)):=cT (L:=[w3]) (x:=λZ=>.own (.dict oh)) BU rfl (λZ=>rfl) (λw=>[.val (.str w)]) (λZ=>rfl) (λH Q=>by kernel_rfl) w3 (.head _)
noncomputable def yX(c:Nat):Str:=bif tP c then⟨#[89]⟩ else⟨#[78]⟩
theorem Qq:∀c∈cI,dH .get (.ao (.dict oh)) [.int (c:Nat),.str ⟨#[78]⟩]=some (.val (.str (yX c))):=List.map_inj_left.mp (by kernel_rfl)
theorem IX:∀c∈cI,yX c∈dA/\oct (yX c)=yn c:=by decide+kernel
theorem Fp:∀i∈List.range 6,jU i∈dA/\(i≠0->jU i=gS i)/\((gS i==⟨#[]⟩)=true->jU i=⟨#[59,59]⟩):=by decide+kernel
theorem xd:∀w∈dA,(oct w).length<=40:=by decide+kernel
theorem FP{o:Option Nat}(h:o∈fK):o∈jX:=by
 have:∀o∈fK,o∈jX:=by decide
 exact this o h
theorem FR{o:Option Nat}(h:o∈iY):o∈jX:=by
 have:∀o∈iY,o∈jX:=by decide
 exact this o h
theorem FQ{b o:Option Nat}(h:b∈fK)(h':o∈hV):fst b o∈jX:=by
 have:∀b∈fK,∀o∈hV,fst b o∈jX:=by decide
 exact this b h o h'
theorem Fx(o:Option Nat):(bH o).length<=40:=by
 cases o with
 | none=>exact Nat.zero_le _
 | some n=>exact Nat.le_trans (iR n) (by decide)
theorem yL{t:Option Str}{ps:List Nat}(h:tF t ps):ps.length<=3:=by
 cases t with
 | none=>rw[show ps=[] from h];exact Nat.zero_le 3
 | some t=>exact h.2.1
theorem map_len{s:Sg}(h:s.ok):s.map.length<=41:=by
 unfold Sg.map
 rw[List.length_append]
 exact Nat.le_trans (Nat.add_le_add (Ib _ h.tag) (Nat.le_trans (rE _) (Nat.mul_le_mul_right 7 (by rw[List.length_map];exact yL h.tp)))) (by decide)
theorem text_len{s:Sg}(h:s.ok){c:Nat}(hc:c∈cI):(s.text c).length<=1000:=by
 have w:=λ(x:Str) (aU:x∈dA)=>Nat.le_trans (xd x aU) (show 40<=41 by decide)
 have o:=λ(x:Option Nat)=>Nat.le_trans (Fx x) (show 40<=41 by decide)
 have h1:∀x∈s.sS c,x.length<=41:=by
  have y:=IX c hc
  unfold Sg.sS
  simp only[List.forall_mem_append,List.forall_mem_cons,List.not_mem_nil,false_implies,implies_true,and_true]
  exact⟨⟨⟨⟨Nat.le_trans (iR c) (by decide),w _ (tO h.name),w _ (yW h.gc),w _ (uy _ h.ccc)⟩,w _ (yV h.bc),map_len h,w _ (Fp _ h.num).1⟩,y.2▸w _ y.1,Nat.zero_le _,Nat.zero_le _⟩,o _,o _,o _⟩
 exact Nat.le_trans (jQ (sep:=[59]) h1) (Nat.le_of_ble_eq_true rfl)
theorem XM{s:Sg}(h:s.ok){c:Nat}(hc:c∈cI):dH .join (.bytes [59]) [.ao (.list ((s.sS c).map .bytes))]=some (.val (.bytes (s.text c))):=ly (bA (text_len h hc) rfl)
theorem AQ{α:Type}{L:List α}(ky:α->Key)(f:α->O)(h:(L.map ky).Nodup):∀p∈L,bt (L.map λp=>(ky p,f p)) (ky p)=some (f p):=by
 induction L with
 | nil=>exact λp hp=>nomatch hp
 | cons a r ih=>
  have h:=List.nodup_cons.mp (show(ky a::r.map ky).Nodup from h)
  intro p hp
  rw[List.map_cons,kT]
  rcases List.mem_cons.mp hp with e | hp
  .rw[if_pos (by rw[e]),e]
  .rw[if_neg λe=>h.1 (List.mem_map.mpr ⟨p,hp,e.symm⟩)]
   exact ih h.2 p hp
theorem KW{es:List (Key×O)}{k:Key}{v:O}(h:∀e∈es,e.1≠k):dput es k v=es++[(k,v)]:=by
 unfold dput
 rw[if_neg]
 intro hd
 exact(List.any_eq_true.mp hd).elim λx z=>h x z.1 (of_decide_eq_true z.2)
theorem yg{es:List (Key×O)}{i:O}{k:Key}{v:O}(hk:keyOf i=some k)(h:es.length<1000)(hn:∀e∈es,e.1≠k):gb (.dict es) i v=some (.dict (es++[(k,v)])):=by rw[Hi hk h,KW hn]
theorem D3{L:List Nat}(h:L.Nodup):(L.map λ(n:Nat)=>Key.i n).Nodup:=List.Pairwise.map (S:=λ(a b:Key)=>a≠b) _ (λa b h e=>h (Int.ofNat.inj (Key.i.inj e))) h
theorem bV.get{L:SL}(h:bV L)(f:Nat×Sg->O){p:Nat×Sg}(hp:p∈L):bt (L.map λp=>(.i p.1,f p)) (.i p.1)=some (f p):=AQ (λp:Nat×Sg=>Key.i p.1) f (by have:=D3 h.nd;rw[List.map_map] at this;exact this) p hp
section
variable{k:Nat}{st st2:St}{tg:Option Str}{X:List UInt8}{s:Sg}{c:Nat}
theorem Ia{u:Str}(he:s.tag=some u)(bE:(u==⟨#[]⟩)=false)(hw:u∈dA)(hB:eK (some u)=[60]++oct u++[62,32])(hX:X.length<=50)(h4:st.σ[4]?=some (some (.val (.ao (s.inst c)))))(h5:st.σ[5]?=some (some (.val (.bytes X))))(hu:kc 5 (.val (.bytes (eK (some u)++X))) st=pt st2) :
  S1 (F (k+2)) (.aD (.and (.bF (.attr (.slot 4) ⟨#[116,97,103]⟩)) (.cmp .NotEq (.attr (.slot 4) ⟨#[116,97,103]⟩) (.ai ⟨#[]⟩))) (.cons (.assign (.slot 5) (.bin .Add (.bin .Add (.bin .Add (.aC [60]) (.call 2 (.cons (.attr (.slot 4) ⟨#[116,97,103]⟩) .nil))) (.aC [62,32])) (.slot 5))) .nil) .nil) st st2:=by
 have ht:cY (.ao (s.inst c)) ⟨#[116,97,103]⟩=some (.str u):=DC.trans (by rw[he];rfl)
 have a:Ev (F (k+2)) st (.attr (.slot 4) ⟨#[116,97,103]⟩) (.val (.str u)) st:=.attr (.slt h4) rfl ht
 have l:=xd u hw
 refine .c5 (.cw (k:=true) (.bF a rfl) (.cmp a (.rf rfl) rfl rfl (show some (!(u==⟨#[]⟩))=some true by rw[bE];rfl))) (.cons (.sv (.cr (congrArg (λb=>ER.val (.bytes (b++X))) hB.symm) (.bin (.bin (.bin (.rf rfl) (.p1 a (jF u hw)) rfl rfl (dS ?_)) (.rf rfl) rfl rfl (dS ?_)) (.slt h5) rfl rfl (dS ?_))) hu) .nil)
 .exact bA (m:=100) (by show 1+_<=_;lia) rfl
 .rw[List.length_append];exact bA (m:=100) (by show 1+_+2<=_;lia) rfl
 .rw[List.length_append,List.length_append];exact bA (m:=100) (by show 1+_+2+_<=_;lia) rfl
theorem XE(iQ:s.tag∈gW)(hX:X.length<=50)(h4:st.σ[4]?=some (some (.val (.ao (s.inst c)))))(h5:st.σ[5]?=some (some (.val (.bytes X))))(hu:kc 5 (.val (.bytes (eK s.tag++X))) st=pt st2) :
  S1 (F (k+2)) (.aD (.and (.bF (.attr (.slot 4) ⟨#[116,97,103]⟩)) (.cmp .NotEq (.attr (.slot 4) ⟨#[116,97,103]⟩) (.ai ⟨#[]⟩))) (.cons (.assign (.slot 5) (.bin .Add (.bin .Add (.bin .Add (.aC [60]) (.call 2 (.cons (.attr (.slot 4) ⟨#[116,97,103]⟩) .nil))) (.aC [62,32])) (.slot 5))) .nil) .nil) st st2:=by
 have ht:=DC (s:=s) (c:=c)
 cases hs:s.tag with
 | none=>
  rw[hs] at hu ht
  rw[(Ir hu).trans (tL h5)]
  exact .aS (.dT (.bF (.attr (.slt h4) rfl ht) rfl)) .nil
 | some u=>
  rw[hs] at iQ hu
  simp only[gW,List.mem_cons,List.not_mem_nil,or_false,Option.some.injEq,reduceCtorEq,false_or] at iQ
  rcases iQ with h | h | h<;>subst h
  .rw[hs] at ht
   rw[(Ir hu).trans (tL h5)]
   exact .aS (.cw (k:=false) (.bF (.attr (.slt h4) rfl ht) rfl) (.cmp (.attr (.slt h4) rfl ht) (.rf rfl) rfl rfl rfl)) .nil
  .exact Ia hs rfl (by decide+kernel) (by decide+kernel) hX h4 h5 hu
  .exact Ia hs rfl (by decide+kernel) (by decide+kernel) hX h4 h5 hu
end
noncomputable def pK(L done:SL)(g:Nat->Option VS)(H:HH):St:=⟨[some (.val (.ao (.dict (jd L)))),some (.own (.dict oh)),some (.own (.dict (iz done))),g 3,g 4,g 5,g 6,g 7,none,none,none,none,none,none,none,none,none,none],[true],[],H⟩
noncomputable def Qf:bj:=match oU.body with
 | .cons _ (.cons _ (.cons (.for _ _ b) _))=>b
 | _=>.nil
theorem Qg{k:Nat}{L done rest:SL}{p:Nat×Sg}{g:Nat->Option VS}{H:HH}(hL:bV L)(e:L=done++p::rest):∃g' st1,Ew (F (k+8)) (.slot 3) (.val (.int p.1)) (pK L done g H) st1/\Eb (F (k+8)) Qf st1 (pK L (done++[p]) g' H):=by
 obtain⟨c,s⟩:=p
 have hm:(c,s)∈L:=e▸List.mem_append_right _ (.head _)
 have hc:=hL.pl _ hm
 have hs:s.ok:=hL.ok _ hm
 have pd:=yL hs.tp
 have hX:(bN (s.parts.map some)).length<=50:=Nat.le_trans (rE _) (Nat.le_trans (Nat.mul_le_mul_right 7 (by rw[List.length_map];exact pd)) (by decide))
 have hz:=Fp s.num hs.num
 have hy:=IX c hc
 have ND:∀x∈iz done,x.1≠.i c:=λx aU ex=>by
  refine(List.mem_map.mp aU).elim λq hq=>?_
  have hZ:=hL.nd
  rw[e,List.map_append,List.nodup_append] at hZ
  exact hZ.2.2 q.1 (List.mem_map.mpr ⟨q,hq.1,rfl⟩) c (.head _) (Int.ofNat.inj (Key.i.inj ((congrArg Prod.fst hq.2).trans ex)))
 have C1:(iz done).length<1000:=by
  have:=hL.len
  rw[e,List.length_append] at this
  rw[iz,List.length_map];lia
 have Oz:gb (.dict (iz done)) (.int c) (aQ [s.text c])=some (.dict (iz (done++[(c,s)]))):=by
  rw[yg rfl C1 ND,iz,iz,List.map_append];rfl
 refine⟨λi=>match i with
  | 3=>some (.val (.int c))
  | 4=>some (.val (.ao (s.inst c)))
  | 5=>some (.val (.bytes s.map))
  | 6=>some (.own (.list ([.bytes (hx c),bo s.name,bo s.gc,bo (dN s.ccc)]++[bo s.bc,.bytes s.map,bo (jU s.num)]++[.bytes (yn c),.bytes [],.bytes []])))
  | _=>some (.val (oi s.first)),_,.sv rfl,?_⟩
 refine .cons (.sv (.idx (.rf rfl) (.rf rfl) rfl rfl (hL.get (λp=>.ao (p.2.inst p.1)) hm)) rfl) ?_
 refine .cons (.sv (.p1 (.attr (.rf rfl) rfl O0) (T4 (L:=s.parts) (.inl rfl) (Nat.le_trans pd (by decide)) λn hn=>rZ (hs.parts n hn))) rfl) ?_
 refine .cons (XE hs.tag hX rfl rfl rfl) ?_
 refine .cons (.so (.lst (.cons (.val (.p1 (.rf rfl) (mQ c (m3 hc)))) (.cons (.val (.p1 (.attr (.rf rfl) rfl OZ) (jF _ (tO hs.name)))) (.cons (.val (.p1 (.attr (.rf rfl) rfl OX) (jF _ (yW hs.gc)))) (.cons (.val (.p1 (.aG (.cons (.attr (.rf rfl) rfl OW) .nil) rfl (Ah _ hs.ccc)) (jF _ (uy _ hs.ccc)))) .nil))))) rfl) ?_
 refine .cons (.so (.bin (.rf rfl) (.lst (.cons (.val (.p1 (.attr (.rf rfl) rfl OU) (jF _ (yV hs.bc)))) (.cons (.val (.rf rfl)) (.cons (.val (.p1 (v:=.str (jU s.num)) (.ite (k:=!(gS s.num==⟨#[]⟩)) (.cmp (.attr (.rf rfl) rfl DB) (.rf rfl) rfl rfl rfl) (λh=>.cv ?a1 (.attr (.rf rfl) rfl DB)) (λh=>.cv ?a2 (.rf rfl))) (jF _ hz.1))) .nil)))) rfl rfl (eo ?a3)) rfl) ?_
 rotate_left 3
 refine .cons (.so (.bin (.rf rfl) (.lst (.cons (.val (.cv (congrArg O.bytes hy.2) (.p1 (.get (.rf rfl) rfl (.cons (.val (.rf rfl)) (.cons (.val (.rf rfl)) .nil)) rfl (Qq c hc)) (jF _ hy.1)))) (.cons (.val (.rf rfl)) (.cons (.val (.rf rfl)) .nil)))) rfl rfl (eo ?a4)) rfl) ?_
 rotate_left
 refine .cons (.sv (v:=oi s.first) (.ite (.bF (.attr (.rf rfl) rfl DE) rfl) (λh=>.cv (congrArg oi (CA h).symm) (.attr (.rf rfl) rfl DE)) (λh=>.cv (congrArg oi (Cy h).symm) (.attr (.rf rfl) rfl DG))) rfl) ?_
 .refine .cons (.tg (.lst (.cons (.val (.mv (.rf rfl) rfl (.inl rfl) (.cons (.bin (.rf rfl) (.mp (L:=[s.big,s.little,s.first]) oi (λo=>.bytes (bH o)) (.ea (.val (.tup (.cons (.val (.attr (.rf rfl) rfl DG)) (.cons (.val (.attr (.rf rfl) rfl OY)) (.cons (.val (.rf rfl)) .nil))))) rfl) (Nat.le_of_ble_eq_true rfl) λo ho=>.one (.val (.p1 (.rf rfl) (Lf o ?m1)))) rfl rfl (eo ?m2)) .nil) rfl rfl (XM hs hc))) .nil)) (.ix (λZ h=>h) (.rf rfl) (.rf rfl) rfl rfl Oz rfl)) .nil
  case m1=>exact(List.mem_cons.mp ho).elim (λe=>e▸FP hs.big) λho=>(List.mem_cons.mp ho).elim (λe=>e▸FR hs.little) λho=>List.mem_singleton.mp ho▸FQ hs.big hs.head
  case m2=>exact Nat.le_of_ble_eq_true rfl
 case a1=>exact congrArg O.str (hz.2.1 λe=>by rw[(rl s.num hs.num).2.2,e] at h;cases h).symm
 case a2=>exact congrArg O.str (hz.2.2 ((Bool.not_eq_false' (b:=_)).mp h)).symm
 case a3=>exact Nat.le_of_ble_eq_true rfl
 case a4=>exact Nat.le_of_ble_eq_true rfl
structure aX where
 first:Nat
 last:Nat
 name:Str
 gc:Str
 sc:Str
 lb:Str
 w:Str
noncomputable def Lo:Str:=⟨#[76,111]⟩
noncomputable def Cs:Str:=⟨#[67,115]⟩
noncomputable def Zz:Str:=⟨#[90,122,122,122]⟩
noncomputable def tU:Str:=⟨#[72,97,110,105]⟩
noncomputable def tV:Str:=⟨#[73,68]⟩
noncomputable def tZ:Str:=⟨#[83,71]⟩
noncomputable def Ws:Str:=⟨#[87]⟩
noncomputable def Ns:Str:=⟨#[78]⟩
noncomputable def Ap:List Nat:=[67,74,75,32,73,100,101,111,103,114,97,112,104]
noncomputable def yE:List Nat:=[72,105,103,104,32,83,117,114,114,111,103,97,116,101]
noncomputable def xG:List Nat:=[80,114,105,118,97,116,101,32,85,115,101]
noncomputable def ext(c:Nat):Str:=⟨(Ap++[32,69,120,116,101,110,115,105,111,110,32,c]).toArray⟩
noncomputable def aT:List aX:=[⟨13312,19903,ext 65,Lo,tU,tV,Ws⟩,⟨19968,40959,⟨Ap.toArray⟩,Lo,tU,tV,Ws⟩,⟨44032,55203,⟨#[72,97,110,103,117,108,32,83,121,108,108,97,98,108,101]⟩,Lo,⟨#[72,97,110,103]⟩,⟨#[]⟩,Ws⟩,
 ⟨55296,56191,⟨([78,111,110,32]++xG++[32]++yE).toArray⟩,Cs,Zz,tZ,Ns⟩,⟨56192,56319,⟨(xG++[32]++yE).toArray⟩,Cs,Zz,tZ,Ns⟩,⟨56320,57343,⟨([76,111,119]++yE.drop 4).toArray⟩,Cs,Zz,tZ,Ns⟩,
 ⟨57344,63743,⟨xG.toArray⟩,⟨#[67,111]⟩,Zz,⟨#[88,88]⟩,⟨#[65]⟩⟩,⟨131072,173791,ext 66,Lo,tU,tV,Ws⟩]
noncomputable def aX.v(r:aX):O:=.tup [.int r.first,.int r.last,.str r.name,.str r.gc,.str r.sc,.str r.lb,.str r.w]
theorem Lc{k:Nat}:Pu (F (k+1)) 12 [] (.own (.list (aT.map aX.v))):=cT (L:=[()]) (x:=λZ=>.own (.list (aT.map aX.v))) BW rfl (λZ=>rfl) (λw=>[]) (λZ=>rfl) (λH Q=>by kernel_rfl) () (.head _)
noncomputable def bO:Str:=⟨#[70,105,114,115,116]⟩
noncomputable def bU:Str:=⟨#[76,97,115,116]⟩
noncomputable def aX.D6(r:aX)(w:Str):Str:=⟨#[60]⟩++r.name++⟨#[44,32]⟩++w++⟨#[62,59]⟩++r.gc
noncomputable def TG:List UInt8:=[59,48,59,76,59,59,59,59,59,78,59,59,59,59,59]
noncomputable def aX.text(r:aX)(c:Nat)(w:Str):List UInt8:=hx c++[59]++oct (r.D6 w)++TG
set_option genCtorIdx true in
inductive au where
 | sg (c:Nat) (s:Sg)
 | rg (r:aX)
noncomputable def au.key:au->Nat
 | .sg c _=>c
 | .rg r=>r.first
noncomputable def au.last:au->Nat
 | .sg c _=>c
 | .rg r=>r.last
noncomputable def au.texts:au->List (List UInt8)
 | .sg c s=>[s.text c]
 | .rg r=>[r.text r.first bO,r.text r.last bU]
noncomputable def g7(B:List au):List (Key×O):=B.map λb=>(.i b.key,aQ b.texts)
noncomputable def bx(L:SL)(R:List aX):List au:=(L.map λp=>.sg p.1 p.2)++R.map .rg
noncomputable def nA(L:SL)(D:List (Key×O))(g:Nat->Option VS)(H:HH):St:=
 ⟨[some (.val (.ao (.dict (jd L)))),some (.own (.dict oh)),some (.own (.dict D)),g 3,g 4,g 5,g 6,g 7,g 8,g 9,g 10,g 11,g 12,g 13,g 14,g 15,g 16,g 17],[true],[],H⟩
noncomputable def EW:bj:=match oU.body with
 | .cons _ (.cons _ (.cons _ (.cons (.for _ _ b) _)))=>b
 | _=>.nil
noncomputable def Qi:bI:=match oU.body with
 | .cons _ (.cons _ (.cons _ (.cons (.for (.tup t) _ _) _)))=>t
 | _=>.nil
noncomputable def Qh:MS:=match EW with
 | .cons _ (.cons s _)=>s
 | _=>.stuck
noncomputable def w2(r:aX)(x:VS)(g:Nat->Option VS):Nat->Option VS
 | 8=>some (.val (.int r.first))
 | 9=>some (.val (.int r.last))
 | 10=>some (.val (.str r.name))
 | 11=>some (.val (.str r.gc))
 | 12=>some (.val (.str r.sc))
 | 13=>some (.val (.str r.lb))
 | 14=>some (.val (.str r.w))
 | 15=>some x
 | i=>g i
noncomputable def EY(r:aX)(g:Nat->Option VS):Nat->Option VS
 | 3=>some (.val (.int r.last))
 | 16=>some (.val (.str bU))
 | 17=>some (.val (.bytes (oct (r.D6 bU))))
 | i=>g i
section
variable{k:Nat}{L:SL}{D:List (Key×O)}{g:Nat->Option VS}{H:HH}
theorem Qj(K:KS):∀r∈aT,wS tab (F (k+8)) Qh (nA L D (w2 r (.own (.list [])) g) H) K =
  K .next (nA L D (EY r (w2 r (.own (.list [.bytes (r.text r.first bO),.bytes (r.text r.last bU)])) g)) H):=
 List.map_inj_left.mp (by kernel_rfl)
theorem Qk{r:aX}(hr:r∈aT)(hD:D.length<1000)(hf:∀e∈D,e.1≠.i r.first):∃g' st1,Ew (F (k+8)) (.tup Qi) (.val r.v) (nA L D g H) st1/\Eb (F (k+8)) EW st1 (nA L (D++[(.i r.first,aQ [r.text r.first bO,r.text r.last bU])]) g' H):=by
 refine⟨EY r (w2 r (.val (aQ [r.text r.first bO,r.text r.last bU])) g),_,.tup (vs:=[.int r.first,.int r.last,.str r.name,.str r.gc,.str r.sc,.str r.lb,.str r.w]) rfl (.cons (.sv rfl) (.cons (.sv rfl) (.cons (.sv rfl) (.cons (.sv rfl) (.cons (.sv rfl) (.cons (.sv rfl) (.cons (.sv rfl) .nil))))))),?_⟩
 refine .cons (.so (.rf rfl) rfl) ?_
 refine .cons (.rf λK=>Qj (L:=L) (D:=D) (g:=g) K r hr) ?_
 exact .cons (.tg (.rf (r:=.loc 15) rfl) (.ix (D8 (d:=.list [.bytes (r.text r.first bO),.bytes (r.text r.last bU)]) rfl rfl) (.rf rfl) (.rf rfl) rfl rfl (yg rfl hD hf) rfl)) .nil
end
noncomputable def jN(x:au):List au->List au
 | []=>[x]
 | y::r=>if x.key<y.key then x::y::r else y::jN x r
noncomputable def d7:List au->List au
 | []=>[]
 | x::r=>jN x (d7 r)
noncomputable abbrev kv(b:au):Int×O:=((b.key:Int),.int b.key)
theorem wx(x:au):∀l:List au,(jN x l).Perm (x::l)
 | []=>.refl _
 | y::r=>by
  unfold jN
  split
  .exact .refl _
  .exact((wx x r).cons y).trans (.swap x y r)
theorem yq:∀l:List au,(d7 l).Perm l
 | []=>.refl _
 | x::r=>(wx x (d7 r)).trans ((yq r).cons x)
theorem DI(x:au):∀l:List au,iT (kv x) (l.map kv)=(jN x l).map kv
 | []=>rfl
 | y::r=>by
  show(if (x.key:Int)<y.key then _ else _)=_
  unfold jN
  by_cases h:x.key<y.key
  .rw[if_pos (Int.ofNat_lt.mpr h),if_pos h];rfl
  .rw[if_neg λz=>h (Int.ofNat_lt.mp z),if_neg h,DI x r];rfl
theorem HK:∀l:List au,d8 (l.map kv)=(d7 l).map kv
 | []=>rfl
 | x::r=>by
  show iT (kv x) (d8 (r.map kv))=_
  rw[HK r,DI];rfl
abbrev BS(l:List au):Prop:=l.Pairwise λa b=>a.key<b.key
theorem DJ{x:au}:∀{l:List au},BS l->(∀y∈l,y.key≠x.key)->BS (jN x l)
 | [],_,_=>List.pairwise_singleton _ _
 | y::r,h,hn=>by
  have h':=List.pairwise_cons.mp h
  unfold jN
  by_cases c:x.key<y.key
  .rw[if_pos c]
   exact List.pairwise_cons.mpr ⟨λz hz=>(List.mem_cons.mp hz).elim (λe=>e▸c) λhz=>Nat.lt_trans c (h'.1 z hz),h⟩
  .rw[if_neg c]
   exact List.pairwise_cons.mpr ⟨λz hz=>(List.mem_cons.mp ((wx x r).mem_iff.mp hz)).elim (λe=>e▸Nat.lt_of_le_of_ne (Nat.not_lt.mp c) (hn y (.head _))) (h'.1 z),DJ h'.2 λz hz=>hn z (.tail _ hz)⟩
theorem HL:∀{l:List au},(l.map au.key).Nodup->BS (d7 l)
 | [],_=>.nil
 | x::r,h=>by
  have h:=List.nodup_cons.mp (show(x.key::r.map au.key).Nodup from h)
  exact DJ (HL h.2) λy hy e=>h.1 (List.mem_map.mpr ⟨y,(yq r).mem_iff.mp hy,e⟩)
theorem HM:∀l:List au,gf (l.map λb=>.int b.key)=some (l.map kv)
 | []=>rfl
 | x::r=>by
  show(match j8 (.int x.key),gf (r.map λb=>.int b.key) with | some k,some l=>some ((k,O.int x.key)::l) | _,_=>none)=_
  rw[HM r];rfl
theorem zr:∀l:List au,allInts (l.map λb=>.int b.key)=true
 | []=>rfl
 | x::r=>zr r
theorem J6{bs:List au}(hd:(bs.map au.key).Nodup)(Y:bs.length<64):gU (bs.map λb=>.int b.key)=some ((d7 bs).map λb=>.int b.key):=by
 unfold gU
 rw[HM]
 show(if _ then _ else _)=_
 rw[if_pos ⟨by rw[List.map_map];exact List.Pairwise.map (S:=λ(a b:Int)=>a≠b) (λb:au=>(b.key:Int)) (λa b h e=>h (Int.ofNat.inj e)) (List.pairwise_map.mp hd),.inl ⟨by rw[List.length_map];exact Y,zr bs⟩⟩,HK,List.map_map]
 rfl
structure bR(L:SL)(B:List au):Prop where
 sorted:BS B
 perm:B.Perm (bx L aT)
 len:B.length<=13
noncomputable def mF(b:au):List UInt8:=aP [10] b.texts++[10]
noncomputable def fileOf(B:List au):List UInt8:=aP [] (B.map mF)
theorem xR:(aT.map aX.first).Nodup/\∀r∈aT,r.first∉cI:=by decide+kernel
theorem Gz:∀r∈aT,(r.text r.first bO).length<=1000/\(r.text r.last bU).length<=1000:=by decide+kernel
theorem zW{L:SL}{dr rr:List aX}(h:bV L)(e:aT=dr++rr):((bx L dr).map au.key).Nodup:=by
 unfold bx
 rw[List.map_append,List.map_map,List.map_map,List.nodup_append]
 have h2:=xR.1
 rw[e,List.map_append] at h2
 refine⟨h.nd,h2.sublist (List.sublist_append_left _ _),λa ha b I z=>?_⟩
 refine(List.mem_map.mp ha).elim λp hp=>(List.mem_map.mp I).elim λr hr=>xR.2 r (e▸List.mem_append_left _ hr.1) ?_
 exact(show b=r.first from hr.2.symm)▸z▸hp.2▸h.pl p hp.1
theorem um{L:SL}(h:bV L){b:au}(I:b∈bx L aT):(aP [10] b.texts).length<=2001:=by
 unfold bx at I
 refine(List.mem_append.mp I).elim (λI=>(List.mem_map.mp I).elim λp hp=>?_) λI=>(List.mem_map.mp I).elim λr hr=>?_
 .rw[←hp.2];exact Nat.le_trans (text_len (h.ok p hp.1) (h.pl p hp.1)) (by decide)
 .rw[←hr.2]
  show(r.text r.first bO++[10]++r.text r.last bU).length<=2001
  rw[List.length_append,List.length_append]
  exact Nat.add_le_add (Nat.add_le_add (Gz r hr.1).1 (Nat.le_refl 1)) (Gz r hr.1).2
theorem zV{L:SL}(h:bV L){dr rr:List aX}(e:aT=dr++rr):(bx L dr).length<=13:=by
 have h8:aT.length=8:=rfl
 rw[e,List.length_append] at h8
 have:=h.len
 rw[bx,List.length_append,List.length_map,List.length_map];lia
theorem zX(L:SL)(d:List aX)(x:aX):bx L (d++[x])=bx L d++[.rg x]:=by
 have e:(d++[x]).map au.rg=d.map .rg++[.rg x]:=List.map_append
 unfold bx
 rw[e,List.append_assoc]
theorem Ua{k:Nat}{L:SL}(hL:bV L):∃B,bR L B/\Px (F (k+9)) 17 [.own (.dict (jd L))] (.val (.bytes (fileOf B))) [.val (.ao (.dict (jd L)))]:=by
 have hZ:=zW hL (List.append_nil aT).symm
 have hp:=yq (bx L aT)
 have Y:=zV hL (List.append_nil aT).symm
 have vD:(d7 (bx L aT)).length<=13:=hp.length_eq▸Y
 refine⟨d7 (bx L aT),⟨HL hZ,hp,vD⟩,λH Q q=>?_⟩
 refine bL oU rfl rfl rfl ?_
 refine az (.so (.p1 (.rf rfl) K8) rfl) ?_
 refine az (.so (.rf (r:=.own (.dict [])) rfl) rfl) ?_
 have la:iz L=g7 (bx L []):=by
  rw[iz,g7,bx,List.map_nil,List.append_nil,List.map_map];rfl
 have hi:nh (.ao (.dict (jd L)))=some (L.map λp=>.int p.1):=congrArg some ((List.map_map (l:=L)).trans rfl)
 refine lp (L:=L) (λp=>.int p.1) (λdone g=>pK L done g H) (g:=λZ=>none) (.ea (.lc (.rf rfl) rfl rfl) hi) (λdone x rest g e=>Qg hL e) λg=>?_
 rw[show pK L L g H=nA L (g7 (bx L [])) (λi=>match i with | 3=>g 3 | 4=>g 4 | 5=>g 5 | 6=>g 6 | 7=>g 7 | _=>none) H by unfold pK;rw[la];rfl]
 refine lp (L:=aT) aX.v (λdone g=>nA L (g7 (bx L done)) g H) (.ea (.own (d:=.list (aT.map aX.v)) (.pu (l:=[]) .nil Lc)) rfl) (λdone x rest g e=>?_) λg=>?_
 .have aU:x∈aT:=e▸List.mem_append_right _ (.head _)
  have:=Qk (k:=k) (L:=L) (D:=g7 (bx L done)) (g:=g) (H:=H) aU (by rw[g7,List.length_map];exact Nat.lt_of_le_of_lt (zV hL e) (by decide)) λy hy ey=>by
   refine(List.mem_map.mp hy).elim λb I=>?_
   have nd:=zW hL (dr:=done++[x]) (rr:=rest) (by rw[e,List.append_assoc];rfl)
   rw[zX,List.map_append,List.nodup_append] at nd
   exact nd.2.2 b.key (List.mem_map.mpr ⟨b,I.1,rfl⟩) x.first (.head _) (Int.ofNat.inj (Key.i.inj ((congrArg Prod.fst I.2).trans ey)))
  rw[show g7 (bx L (done++[x]))=g7 (bx L done)++[(.i x.first,aQ [x.text x.first bO,x.text x.last bU])] by rw[g7,zX,List.map_append];rfl]
  exact this
 .have I:=λb (I:b∈d7 (bx L aT))=>hp.mem_iff.mp I
  have hk:((bx L aT).map λb=>Key.i b.key).Nodup:=by have:=D3 hZ;rw[List.map_map] at this;exact this
  refine rt (.mv (r:=.val (.bytes (fileOf (d7 (bx L aT))))) (.rf rfl) rfl (.inl rfl) (.cons (.mp (L:=d7 (bx L aT)) (λb=>.int b.key) (λb=>.bytes (mF b)) (.ea (.own (d:=.list ((d7 (bx L aT)).map λb=>.int b.key)) (.aG (.cons (.rf rfl) .nil) rfl ?j1)) rfl) (bA (m:=13) vD rfl) λb kZ=>.one (.val (.bin (.mv (.rf rfl) rfl (.inl rfl) (.cons (.idx (.rf rfl) (.rf rfl) rfl rfl (AQ (λb:au=>Key.i b.key) (λb=>aQ b.texts) hk b (I b kZ))) .nil) rfl rfl (ly ?j2)) (.rf rfl) rfl rfl (dS ?j3)))) .nil) rfl rfl ?j4) rfl rfl q
  case j1=>
   show(gU _).map _=_
   rw[show(g7 (bx L aT)).map (λe=>fJ e.1)=(bx L aT).map λb=>.int b.key from(List.map_map (l:=bx L aT)).trans rfl,J6 hZ (Nat.lt_of_le_of_lt Y (by decide))];rfl
  case j2=>exact bA (um hL (I b kZ)) rfl
  case j3=>exact bA (m:=2002) (Nat.succ_le_succ (um hL (I b kZ))) rfl
  case j4=>
   rw[show((d7 (bx L aT)).map λb=>O.bytes (mF b))=((d7 (bx L aT)).map mF).map .bytes from(List.map_map (l:=d7 (bx L aT))).symm]
   refine ly (Nat.le_trans (jQ (m:=2002) λx aU=>(List.mem_map.mp aU).elim λb e=>e.2▸?_) ?_)
   .rw[mF,List.length_append];exact Nat.succ_le_succ (um hL (I b e.1))
   .rw[List.length_map];exact bA (m:=13*2002) (Nat.mul_le_mul_right _ vD) rfl
theorem HS{c a:UInt8}{r p:List UInt8}{q:List (List UInt8)}(h:a≠c)(e:split1 c r=p::q):split1 c (a::r)=(a::p)::q:=by
 unfold split1
 rw[if_neg (by rw[beq_iff_eq];exact h),e]
theorem yw{c:UInt8}(r:List UInt8):∀{x:List UInt8},c∉x->split1 c (x++c::r)=x::split1 c r
 | [],_=>by show(if (c==c)=true then _ else _)=_;rw[if_pos (beq_self_eq_true c)]
 | a::x,h=>HS (λe=>h (e▸.head _)) (yw r λe=>h (.tail _ e))
theorem HU{c:UInt8}:∀{x:List UInt8},c∉x->split1 c x=[x]
 | [],_=>rfl
 | a::x,h=>HS (λe=>h (e▸.head _)) (HU λe=>h (.tail _ e))
theorem jO(sep x:List UInt8){l:List (List UInt8)}(h:l≠[]):aP sep (x::l)=x++sep++aP sep l:=by
 cases l with
 | nil=>exact absurd rfl h
 | cons y r=>rfl
theorem yx{c:UInt8}:∀{l:List (List UInt8)},l≠[]->(∀x∈l,c∉x)->split1 c (aP [c] l)=l
 | [],h,_=>absurd rfl h
 | [x],_,h=>HU (h x (.head _))
 | x::y::r,_,h=>by
  rw[jO _ _ (List.cons_ne_nil _ _),List.append_assoc]
  exact(yw _ (h x (.head _))).trans (congrArg _ (yx (l:=y::r) (List.cons_ne_nil _ _) λz hz=>h z (.tail _ hz)))
noncomputable def bW(l:List (List UInt8)):List UInt8:=l.flatMap (·++[10])
theorem Ei(x:List UInt8)(l:List (List UInt8)):bW (x::l)=x++10::bW l:=by
 rw[bW,List.flatMap_cons,List.append_assoc];rfl
theorem Eh(a b:List (List UInt8)):bW (a++b)=bW a++bW b:=List.flatMap_append
theorem yz:∀{l:List (List UInt8)},(∀x∈l,(10:UInt8)∉x)->split1 10 (bW l)=l++[[]]
 | [],_=>rfl
 | x::r,h=>by rw[Ei,yw _ (h x (.head _)),yz λz hz=>h z (.tail _ hz)];rfl
theorem pA{sep:List UInt8}:∀{a b:List (List UInt8)},a≠[]->b≠[]->aP sep (a++b)=aP sep a++sep++aP sep b
 | [],_,h,_=>absurd rfl h
 | [x],b,_,I=>jO sep x I
 | x::y::r,b,_,I=>by
  rw[List.cons_append,jO sep x (by rw[List.cons_append];exact List.cons_ne_nil _ _),pA (a:=y::r) (List.cons_ne_nil _ _) I,jO sep x (List.cons_ne_nil _ _)]
  simp only[List.append_assoc]
theorem DU{sep:List UInt8}{c:UInt8}:∀{l:List (List UInt8)},c∈aP sep l->c∈sep∨∃x∈l,c∈x
 | [],h=>nomatch h
 | [x],h=>.inr ⟨x,.head _,h⟩
 | x::y::r,h=>by
  rw[jO _ _ (List.cons_ne_nil _ _)] at h
  exact(List.mem_append.mp h).elim (λh=>(List.mem_append.mp h).elim (λh=>.inr ⟨x,.head _,h⟩) .inl) λh=>(DU (l:=y::r) h).imp id λ⟨z,hz,h⟩=>⟨z,.tail _ hz,h⟩
theorem EE{sep:List UInt8}{x:UInt8}:∀{l:List (List UInt8)} {f:List UInt8},f∈l->x∈f->x∈aP sep l
 | [a],f,hf,h=>List.mem_singleton.mp hf▸h
 | a::b::r,f,hf,h=>by
  rw[jO _ _ (List.cons_ne_nil _ _)]
  exact(List.mem_cons.mp hf).elim (λe=>List.mem_append_left _ (List.mem_append_left _ (e▸h))) λhf=>List.mem_append_right _ (EE (l:=b::r) hf h)
theorem wX{m:Nat}:∀{l:List (List UInt8)},(∀x∈l,x.length<=m)->(bW l).length<=l.length*(m+1)
 | [],_=>Nat.zero_le _
 | x::r,h=>by
  rw[Ei,List.length_append,List.length_cons,List.length_cons,Nat.succ_mul,Nat.add_comm]
  have h1:=h x (.head _)
  have h2:=wX λz hz=>h z (.tail _ hz)
  exact Nat.le_trans (Nat.le_of_eq (by rw[Nat.add_assoc,Nat.add_comm 1])) (Nat.add_le_add h2 (Nat.succ_le_succ h1))
noncomputable def BL:List UInt8:=[32,9,13]
noncomputable def Sg.fields(s:Sg)(c:Nat):List (List UInt8):=[hx c,oct s.name,oct s.gc,oct (dN s.ccc),oct s.bc,s.map]++((gD s.num).map oct++[yn c,[],[],bH s.big,bH s.little,bH s.first])
theorem vR(o:Option Nat):bN [o]=bH o:=by cases o<;>rfl
theorem TN(s:Sg)(c:Nat):s.row c=(s.fields c).map .bytes:=by
 unfold Sg.row Sg.fields
 rw[vR,vR,vR,List.append_assoc,List.map_append,List.map_append,List.map_map];rfl
theorem R9:∀i∈List.range 6,oct (jU i)=aP [59] ((gD i).map oct):=by decide+kernel
theorem XJ{s:Sg}(h:s.ok)(c:Nat):s.text c=aP [59] (s.fields c):=by
 have bE:(gD s.num).map oct≠[]:=λe=>by
  have:=congrArg List.length e
  rw[List.length_map,(rl _ h.num).1] at this;cases this
 show aP [59] ([hx c,oct s.name,oct s.gc,oct (dN s.ccc),oct s.bc,s.map]++([oct (jU s.num)]++[yn c,[],[],bH s.big,bH s.little,bH s.first]))=_
 rw[R9 _ h.num,Sg.fields,pA (List.cons_ne_nil _ _) (by rw[List.cons_append];exact List.cons_ne_nil _ _),pA (List.cons_ne_nil _ _) (List.cons_ne_nil _ _),pA (a:=[hx c,oct s.name,oct s.gc,oct (dN s.ccc),oct s.bc,s.map]) (List.cons_ne_nil _ _) (List.append_ne_nil_of_left_ne_nil bE _),pA bE (List.cons_ne_nil _ _)]
 rfl
noncomputable def gE(f:List UInt8):Bool:=f.all (λx=>x != 10&&x != 35&&x != 59&&x<128)&&de f BL==f&&decide (f.length<=60)
theorem CG:∀n∈c9,gE (hx n)=true/\((hx n).any λx=>!(BL.contains x))=true:=by decide+kernel
noncomputable def vm:List Str:=iN++(iE++(gP++Af))++[⟨#[55]⟩,⟨#[50]⟩,⟨#[]⟩,⟨#[49,47,50]⟩,⟨#[45,49,47,50]⟩,⟨#[53,48,48,48]⟩]
theorem oZ:∀w∈vm,gE (oct w)=true:=by decide+kernel
noncomputable def F3:List (List Nat):=[]::(b9.map (λa=>[a])++(b9.flatMap (λa=>b9.map λb=>[a,b])++b9.flatMap (λa=>b9.flatMap λb=>b9.map λc=>[a,b,c])))
theorem S5{ps:List Nat}(h:∀p∈ps,p∈b9)(Y:ps.length<=3):ps∈F3:=
 match ps,h,Y with
 | [],_,_=>.head _
 | [a],h,_=>.tail _ (List.mem_append_left _ (List.mem_map.mpr ⟨a,h a (.head _),rfl⟩))
 | [a,b],h,_=>.tail _ (List.mem_append_right _ (List.mem_append_left _ (List.mem_flatMap.mpr ⟨a,h a (.head _),List.mem_map.mpr ⟨b,h b (.tail _ (.head _)),rfl⟩⟩)))
 | [a,b,c],h,_=>.tail _ (List.mem_append_right _ (List.mem_append_right _ (List.mem_flatMap.mpr ⟨a,h a (.head _),List.mem_flatMap.mpr ⟨b,h b (.tail _ (.head _)),List.mem_map.mpr ⟨c,h c (.tail _ (.tail _ (.head _))),rfl⟩⟩⟩)))
 | _::_::_::_::_,_,h=>absurd h (Nat.not_le_of_lt (Nat.lt_of_lt_of_le (by decide) (Nat.le_add_left 4 _)))
theorem M3:(F3.all λps=>gE (bN (ps.map some))&&(ps.isEmpty||gW.all λt=>gE (eK t++bN (ps.map some))))=true:=by decide+kernel
theorem M1{s:Sg}(h:s.ok):gE s.map=true:=by
 have:=Bool.and_eq_true_iff.mp (List.all_eq_true.mp M3 _ (S5 h.parts (yL h.tp)))
 have tp:=h.tp
 unfold Sg.map
 cases ht:s.tag with
 | none=>exact this.1
 | some t=>
  rw[ht] at tp
  exact(Bool.or_eq_true_iff.mp this.2).elim (λe=>by
   rw[List.isEmpty_iff.mp e] at tp;exact absurd tp.1 (by decide)) λe=>List.all_eq_true.mp e _ (ht▸h.tag)
theorem vB:∀o∈jX,gE (bH o)=true:=by decide+kernel
theorem Kt:∀n∈g8,dN n∈vm:=by decide+kernel
theorem L8:∀i∈List.range 6,∀w∈gD i,w∈vm:=by decide+kernel
theorem Yw:∀c∈cI,gE (yn c)=true:=by decide+kernel
theorem M0{s:Sg}(h:s.ok){c:Nat}(hc:c∈cI):∀f∈s.fields c,gE f=true:=by
 unfold Sg.fields
 simp only[List.forall_mem_append,List.forall_mem_cons,List.not_mem_nil,false_implies,implies_true,and_true]
 exact⟨⟨(CG c (m3 hc)).1,oZ _ (List.mem_append_left _ (List.mem_append_right _ (List.mem_append_right _ (List.mem_append_left _ h.name)))),oZ _ (List.mem_append_left _ (List.mem_append_left _ h.gc)),oZ _ (Kt _ h.ccc),oZ _ (List.mem_append_left _ (List.mem_append_right _ (List.mem_append_left _ h.bc))),M1 h⟩,
  λf hf=>(List.mem_map.mp hf).elim λw e=>e.2▸oZ w (L8 _ h.num w e.1),Yw c hc,by decide,by decide,vB _ (FP h.big),vB _ (FR h.little),vB _ (FQ h.big h.head)⟩
noncomputable def aX.fields(r:aX)(c:Nat)(w:Str):List (List UInt8):=split1 59 (r.text c w)
noncomputable def aX.fs(r:aX):List (List (List UInt8)):=[r.fields r.first bO,r.fields r.last bU]
noncomputable def xP(fs:List (List UInt8))(t:List UInt8)(c:Nat):Bool:=aP [59] fs==t&&fs.all gE&&fs.length==15&&fs.head?==some (hx c)
theorem TJ:(aT.all λr=>xP (r.fields r.first bO) (r.text r.first bO) r.first&&xP (r.fields r.last bU) (r.text r.last bU) r.last)=true:=by decide+kernel
theorem xQ:∀r∈aT,r.first∈s6/\r.last∈s6:=by decide
structure GL(fs:List (List UInt8)):Prop where
 good:∀f∈fs,gE f=true
 len:fs.length=15
 head:∃n∈c9,∃r,fs=hx n::r
theorem GL.ck{fs:List (List UInt8)}{t:List UInt8}{c:Nat}(h:xP fs t c=true)(hc:c∈c9):aP [59] fs=t/\GL fs:=by
 have h1:=Bool.and_eq_true_iff.mp h
 have h2:=Bool.and_eq_true_iff.mp h1.1
 have h3:=Bool.and_eq_true_iff.mp h2.1
 exact⟨eq_of_beq h3.1,List.all_eq_true.mp h3.2,eq_of_beq h2.2,c,hc,List.head?_eq_some_iff.mp (eq_of_beq h1.2)⟩
noncomputable def au.rows:au->List (List (List UInt8))
 | .sg c s=>[s.fields c]
 | .rg r=>r.fs
theorem p7{L:SL}(hL:bV L){b:au}(I:b∈bx L aT):b.texts=b.rows.map (aP [59])/\∀fs∈b.rows,GL fs:=by
 unfold bx at I
 refine(List.mem_append.mp I).elim (λI=>(List.mem_map.mp I).elim λp hp=>?_) λI=>(List.mem_map.mp I).elim λr hr=>?_
 .rw[←hp.2]
  have hs:=hL.ok p hp.1
  exact⟨congrArg (λx=>[x]) (XJ hs p.1),λfs vT=>List.mem_singleton.mp vT▸⟨M0 hs (hL.pl p hp.1),by unfold Sg.fields;rw[List.length_append,List.length_append,List.length_map,(rl _ hs.num).1];rfl,_,m3 (hL.pl p hp.1),_,rfl⟩⟩
 .rw[←hr.2]
  have h:=Bool.and_eq_true_iff.mp (List.all_eq_true.mp TJ r hr.1)
  have e:=xQ r hr.1
  have a:=GL.ck h.1 (m4 e.1)
  have b:=GL.ck h.2 (m4 e.2)
  exact⟨by rw[show(au.rg r).rows=[r.fields r.first bO,r.fields r.last bU] from rfl,List.map_cons,List.map_cons,a.1,b.1];rfl,λfs vT=>(List.mem_cons.mp vT).elim (λz=>z▸a.2) λz=>List.mem_singleton.mp z▸b.2⟩
noncomputable def rowsOf(B:List au):List (List (List UInt8)):=B.flatMap au.rows
theorem lN(b:au)(B:List au):rowsOf (b::B)=b.rows++rowsOf B:=List.flatMap_cons
theorem ta(a b:List au):rowsOf (a++b)=rowsOf a++rowsOf b:=List.flatMap_append
theorem J4:∀b:au,mF b=bW b.texts
 | .sg c s=>(List.append_nil (s.text c++[10])).symm
 | .rg r=>by
  show(r.text r.first bO++[10]++r.text r.last bU)++[10]=(r.text r.first bO++[10])++((r.text r.last bU++[10])++[])
  rw[List.append_nil,List.append_assoc]
theorem oW{L:SL}(hL:bV L):∀{B:List au},(∀b∈B,b∈bx L aT)->fileOf B=bW ((rowsOf B).map (aP [59]))/\(∀fs∈rowsOf B,GL fs)/\(rowsOf B).length<=2*B.length
 | [],_=>⟨rfl,λfs h=>(nomatch h),Nat.le_refl 0⟩
 | b::B,h=>by
  have ih:=oW hL λx hx=>h x (.tail _ hx)
  have I:=p7 hL (h b (.head _))
  rw[lN]
  refine⟨?_,λfs hf=>(List.mem_append.mp hf).elim (I.2 fs) (ih.2.1 fs),?_⟩
  .rw[List.map_append,Eh,←I.1,←J4,←ih.1]
   unfold fileOf
   rw[List.map_cons]
   cases B with
   | nil=>exact(List.append_nil _).symm
   | cons y r=>exact(jO [] _ (List.cons_ne_nil _ _)).trans (by rw[List.append_nil];rfl)
  .rw[List.length_append,List.length_cons,Nat.mul_succ,Nat.add_comm]
   refine Nat.add_le_add ih.2.2 ?_
   cases b with
   | sg c s=>exact Nat.le_succ 1
   | rg r=>exact Nat.le_refl 2
section
variable{fs:List (List UInt8)}
theorem ry{f:List UInt8}(h:gE f=true):(∀x∈f,x≠10/\x≠35/\x≠59/\x≠239)/\de f BL=f/\f.length<=60:=by
 have h1:=Bool.and_eq_true_iff.mp h
 have h2:=Bool.and_eq_true_iff.mp h1.1
 refine⟨λx hx=>?_,eq_of_beq h2.2,of_decide_eq_true h1.2⟩
 have a:=Bool.and_eq_true_iff.mp (List.all_eq_true.mp h2.1 x hx)
 have b:=Bool.and_eq_true_iff.mp a.1
 have c:=Bool.and_eq_true_iff.mp b.1
 exact⟨bne_iff_ne.mp c.1,bne_iff_ne.mp c.2,bne_iff_ne.mp b.2,λe=>absurd (e▸of_decide_eq_true a.2:(239:UInt8)<128) (by decide)⟩
theorem GL.ne(h:GL fs):fs≠[]:=λe=>by have:=h.len;rw[e] at this;cases this
theorem wW(h:GL fs):(aP [59] fs).length<=915:=Nat.le_trans (jQ (m:=60) λx aU=>(ry (h.good x aU)).2.2) (by rw[h.len];decide)
theorem Eg(h:GL fs):split1 59 (aP [59] fs)=fs:=yx h.ne λx aU hc=>((ry (h.good x aU)).1 _ hc).2.2.1 rfl
theorem Ef(h:GL fs){x:UInt8}(aU:x∈aP [59] fs):x≠10/\x≠35/\x≠239:=
 (DU aU).elim (λz=>List.mem_singleton.mp z▸by decide) λz=>z.elim λf z=>(λy=>⟨y.1,y.2.1,y.2.2.2⟩) ((ry (h.good f z.1)).1 x z.2)
end
theorem oL{b:List UInt8}{c:UInt8}(h:b.length<1000000):dH .split (.bytes b) [.bytes [c]]=some (.own (.list ((split1 c b).map .bytes))):=by
 show(if b.length<ax then _ else _)=_
 rw[if_pos (show b.length<ax from h)];rfl
theorem Lb{l:List O}{v:O}:mA .pop [] (.list (l++[v]))=some (.list l,v):=by
 show((l++[v]).getLast?.map λw=>(AC.list (l++[v]).dropLast,w))=_
 rw[List.getLast?_concat,List.dropLast_concat];rfl
theorem gC{l:List O}{v:O}(h:l.length<1000):mA .append [v] (.list l)=some (.list (l++[v]),.none):=if_pos (Nat.lt_trans h (by decide))
theorem pv{l:List O}{n:Nat}{v:O}(h:l[n]?=some v)(I:n<1000000):e7 (.ao (.list l)) (.int n)=some v:=kJ h I
theorem Ba{f:O->O->Option Bool}(hf:∀a:List UInt8,f (.bytes a) (.bytes a)=some true):∀x:List (List UInt8),dW f (x.map .bytes) (x.map .bytes)=some true
 | []=>rfl
 | a::r=>by
  show(match f (.bytes a) (.bytes a),dW f (r.map .bytes) (r.map .bytes) with | some x,some y=>some (x&&y) | _,_=>none)=_
  rw[hf a,Ba hf r];rfl
theorem Lw(x:List (List UInt8)):dU (aQ x) (aQ x)=some true:=Ba (λa=>congrArg some (beq_self_eq_true a)) x
theorem RZ(x:List (List UInt8)):cz .NotEq (aQ x) (aQ x)=some false:=by
 show(dU (aQ x) (aQ x)).map not=_
 rw[Lw];rfl
theorem p5:∀r∈aT,r.first<r.last/\∀c∈cI++aT.map aX.first,r.first<c->r.last<c:=by decide+kernel
section
variable{L:SL}{B:List au}
theorem iG{r:aX}(I:au.rg r∈bx L aT):r∈aT:=(List.mem_append.mp I).elim (λh=>(List.mem_map.mp h).elim λp e=>nomatch e.2) λh=>(List.mem_map.mp h).elim λq e=>by cases e.2;exact e.1
theorem ju{c:Nat}{s:Sg}(I:au.sg c s∈bx L aT):(c,s)∈L:=(List.mem_append.mp I).elim (λh=>(List.mem_map.mp h).elim λp e=>by
 obtain⟨a,b⟩:=p
 cases e.2
 exact e.1) λh=>(List.mem_map.mp h).elim λq e=>nomatch e.2
theorem J5(hL:bV L):∀{b:au},b∈bx L aT->b.key∈cI++aT.map aX.first
 | .sg c s,h=>List.mem_append_left _ (hL.pl _ (ju h))
 | .rg r,h=>List.mem_append_right _ (List.mem_map.mpr ⟨r,iG h,rfl⟩)
theorem bR.mem(hB:bR L B){b:au}(h:b∈B):b∈bx L aT:=hB.perm.mem_iff.mp h
theorem zU(hL:bV L)(hB:bR L B):B.Pairwise λa b=>a.last<b.key:=hB.sorted.imp_of_mem λ{a b} ha I hO=>match a,ha,hO with
 | .sg c s,_,h=>h
 | .rg r,ha,h=>(p5 r (iG (hB.mem ha))).2 _ (J5 hL (hB.mem I)) h
theorem ye(hL:bV L)(hB:bR L B){done rest:List au}{bl:au}(e:B=done++bl::rest):∀b∈rest,(bl.last:Int)<b.key:=λb I=>by
 have:=zU hL hB
 rw[e,List.pairwise_append,List.pairwise_cons] at this
 exact Int.ofNat_lt.mpr (this.2.1.1 b I)
theorem Cb(hL:bV L)(hB:bR L B):(fileOf B).length<1000000/\(rowsOf B).length<=26:=by
 have h:=oW hL λb=>hB.mem
 have h3:=Nat.le_trans h.2.2 (Nat.mul_le_mul_left 2 hB.len)
 refine⟨?_,h3⟩
 rw[h.1]
 refine Nat.lt_of_le_of_lt (wX (m:=915) λx aU=>(List.mem_map.mp aU).elim λfs e=>e.2▸wW (h.2.1 fs e.1)) ?_
 rw[List.length_map]
 exact Nat.lt_of_le_of_lt (Nat.mul_le_mul_right 916 h3) (by decide)
theorem Ma(hL:bV L)(hB:bR L B):split1 10 (fileOf B)=(rowsOf B).map (aP [59])++[[]]:=by
 have h:=oW hL λb=>hB.mem
 rw[h.1]
 exact yz λx aU hc=>(List.mem_map.mp aU).elim λfs e=>(Ef (h.2.1 fs e.1) (e.2▸hc)).1 rfl
end
noncomputable def DQ:au->Bool
 | .sg _ _=>true
 | .rg _=>false
noncomputable def j7(B:List au):Nat:=(B.filter DQ).length
noncomputable def Gs:au->Option aX
 | .rg r=>some r
 | .sg _ _=>none
noncomputable def d4(B:List au):List aX:=B.filterMap Gs
noncomputable def aX.sp(r:aX):O:=.tup [.int r.first,.int r.last,.bytes (oct r.gc)]
noncomputable def fT(L:SL):List (Key×O):=L.map λp=>(.i p.1,aQ (p.2.fields p.1))
theorem UY{L:SL}{B:List au}(hB:bR L B):j7 B=L.length:=by
 unfold j7
 rw[(hB.perm.filter DQ).length_eq,bx,List.filter_append,List.filter_eq_self.mpr λb h=>(List.mem_map.mp h).elim λp e=>e.2▸rfl,List.filter_eq_nil_iff.mpr λb h=>(List.mem_map.mp h).elim λp e=>e.2▸Bool.false_ne_true,List.append_nil,List.length_map]
theorem TK{L:SL}{B:List au}(hB:bR L B):∀r∈d4 B,r∈aT:=λr h=>(List.mem_filterMap.mp h).elim λb e=>by
 cases b with
 | sg c s=>exact nomatch e.2
 | rg q=>exact Option.some.inj e.2▸iG (hB.mem e.1)
noncomputable def spS(t:List UInt8)(L:SL)(rows:List (List (List UInt8)))(done:List au)(last:Int)(g:Nat->Option VS)(H:HH):St:=
 ⟨[some (.val (.bytes t)),some (.own (.dict (fT L))),some (.own (.list (rows.map aQ))),some (.val (.int (rowsOf done).length)),some (.val (.int last)),some (.val (.int (j7 done))),some (.own (.list ((d4 done).map aX.sp))),g 7,g 8,g 9],[false,true],[],H⟩
noncomputable def yv:bj:=match u5.body with
 | .cons _ (.cons _ (.cons _ (.cons (.while _ b) _)))=>b
 | _=>.nil
noncomputable def cF:Nat->bj->MS
 | 0,.cons s _=>s
 | n+1,.cons _ r=>cF n r
 | _,.nil=>.stuck
noncomputable def uO:MS->bj
 | .aD _ _ o=>o
 | _=>.nil
noncomputable def qj:MS->ME
 | .aD t _ _=>t
 | _=>.bz
section
variable{k:Nat}{x0 x1 x2 x3 x4 x5 x6 x9:Option VS}{lk:List Bool}{H:HH}
theorem WX(K:KT):∀r∈aT,(wE tab (F k) (qj (cF 3 (uO (cF 2 yv))))).2 ⟨[x0,x1,x2,x3,some (.val (.int r.last)),x5,x6,some (.val (aQ (r.fields r.first bO))),some (.val (.int r.first)),some (.val (aQ (r.fields r.last bU)))],lk,[],H⟩ K =
  K false ⟨[x0,x1,x2,x3,some (.val (.int r.last)),x5,x6,some (.val (aQ (r.fields r.first bO))),some (.val (.int r.first)),some (.val (aQ (r.fields r.last bU)))],lk,[],H⟩:=List.map_inj_left.mp (by kernel_rfl)
noncomputable def SX:ME->ME
 | .or a _=>a
 | e=>e
noncomputable def Lz:MS->ME
 | .expr (.aw _ _ (.cons e _))=>e
 | _=>.bz
theorem WW(K:KT):∀r∈aT,(wE tab (F k) (SX (qj (cF 0 (uO (cF 2 yv)))))).2 ⟨[x0,x1,x2,x3,x4,x5,x6,some (.val (aQ (r.fields r.first bO))),some (.val (.int r.first)),x9],lk,[],H⟩ K =
  K false ⟨[x0,x1,x2,x3,x4,x5,x6,some (.val (aQ (r.fields r.first bO))),some (.val (.int r.first)),x9],lk,[],H⟩:=List.map_inj_left.mp (by kernel_rfl)
theorem WZ(K:KE):∀r∈aT,(wE tab (F k) (Lz (cF 4 (uO (cF 2 yv))))).1 ⟨[x0,x1,x2,x3,some (.val (.int r.last)),x5,x6,some (.val (aQ (r.fields r.first bO))),some (.val (.int r.first)),x9],lk,[],H⟩ K =
  K (.val r.sp) ⟨[x0,x1,x2,x3,some (.val (.int r.last)),x5,x6,some (.val (aQ (r.fields r.first bO))),some (.val (.int r.first)),x9],lk,[],H⟩:=List.map_inj_left.mp (by kernel_rfl)
end
theorem xT(d:List au)(b:au):rowsOf (d++[b])=rowsOf d++b.rows:=by rw[ta,lN];exact congrArg _ (List.append_nil _)
theorem AZ{L:SL}(hL:bV L){p:Nat×Sg}(hp:p∈L):bt (fT L) (.i p.1)=some (aQ (p.2.fields p.1)):=hL.get (λp=>aQ (p.2.fields p.1)) hp
theorem K1{L:SL}(hL:bV L){r:aX}(hr:r∈aT):cg (fT L) (.i r.first)=false:=List.any_eq_false.mpr λe he z=>(List.mem_map.mp he).elim λp hp=>xR.2 r hr ((Int.ofNat.inj (Key.i.inj ((congrArg Prod.fst hp.2).trans (of_decide_eq_true z))))▸hL.pl p hp.1)
theorem GL.vO{f:List (List UInt8)}{r:Nat}(h:GL f)(e:f.head?=some (hx r)):∃q,f=hx r::q:=List.head?_eq_some_iff.mp e
theorem Gy:∀r∈aT,(r.fields r.first bO).head?=some (hx r.first)/\(r.fields r.last bU).head?=some (hx r.last):=by decide+kernel
theorem r3{fs q:List (List UInt8)}{c:Nat}(h:fs=hx c::q):e7 (aQ fs) (.int 0)=some (.bytes (hx c)):=by rw[h];rfl
theorem wR{fs:List (List UInt8)}(h:fs.length=15):cz .NotEq (.int ((fs.map O.bytes).length:Nat)) (.int 15)=some false:=by rw[List.length_map,h];rfl
theorem W2(t:List UInt8)(L:SL)(rows:List (List (List UInt8)))(done:List au)(c:Nat)(s:Sg)(g:Nat->Option VS)(H:HH):spS t L rows (done++[.sg c s]) c g H =
  ⟨[some (.val (.bytes t)),some (.own (.dict (fT L))),some (.own (.list (rows.map aQ))),some (.val (.int ((rowsOf done).length+1))),some (.val (.int c)),some (.val (.int (j7 done+1))),some (.own (.list ((d4 done).map aX.sp))),g 7,g 8,g 9],[false,true],[],H⟩:=by
 unfold spS j7 d4
 rw[xT,List.length_append,List.filter_append,List.length_append,List.filterMap_append,show[au.sg c s].filterMap Gs=[] from rfl,List.append_nil];rfl
theorem W0(t:List UInt8)(L:SL)(rows:List (List (List UInt8)))(done:List au)(r:aX)(g:Nat->Option VS)(H:HH):spS t L rows (done++[.rg r]) r.last g H =
  ⟨[some (.val (.bytes t)),some (.own (.dict (fT L))),some (.own (.list (rows.map aQ))),some (.val (.int ((rowsOf done).length+2))),some (.val (.int r.last)),some (.val (.int (j7 done))),some (.own (.list ((d4 done).map aX.sp++[r.sp]))),g 7,g 8,g 9],[false,true],[],H⟩:=by
 unfold spS j7 d4
 rw[xT,List.length_append,List.filter_append,List.length_append,List.filterMap_append,List.map_append];rfl
theorem xS{B done rest:List au}{bl:au}{fs:List (List UInt8)}{j:Nat}(e:B=done++bl::rest)(h:bl.rows[j]?=some fs):((rowsOf B).map aQ)[(rowsOf done).length+j]?=some (aQ fs):=by
 rw[List.getElem?_map,e,ta,lN,List.getElem?_append_right (Nat.le_add_right _ _),Nat.add_sub_cancel_left,List.getElem?_append_left (List.getElem?_eq_some_iff.mp h).1,h];rfl
theorem Uw{k:Nat}{L:SL}{B:List au}(hL:bV L)(hB:bR L B):Px (F (k+2)) 67 [.val (.bytes (fileOf B)),.own (.dict (fT L))] (.own (.list ((d4 B).map aX.sp))) [.val (.bytes (fileOf B)),.own (.dict (fT L))]:=λH Q q=>by
 have hR:=oW hL λb=>hB.mem
 have hf:=Cb hL hB
 refine bL u5 rfl rfl rfl ?_
 refine az (.so (c:=.list ((rowsOf B).map aQ++[aQ [[]]])) (.cr ?e1 (.mp (L:=(rowsOf B).map (aP [59])++[[]]) .bytes (λl=>aQ (split1 59 l)) (.ea (.own (d:=.list (((rowsOf B).map (aP [59])++[[]]).map .bytes)) (.mv (.rf rfl) rfl (.inl rfl) (.cons (.rf rfl) .nil) rfl rfl (Ma hL hB▸oL hf.1))) rfl) ?e2 λl Y=>.one (.own (.mv (.rf rfl) rfl (.inl rfl) (.cons (.rf rfl) .nil) rfl rfl (oL ?e3))))) rfl) ?_
 rotate_left 3
 refine az (.tf (.cons (.rf rfl) (.cons (.rf rfl) (.cons (.rf rfl) (.cons (.rf rfl) .nil)))) rfl rfl (.cons (.sv rfl) (.cons (.sv rfl) (.cons (.sv rfl) (.cons (.so rfl) .nil))))) ?_
 refine az (.aS (.cmp (.cl (.rf rfl) rfl .nil rfl Lb rfl) (.rf rfl) rfl rfl rfl) .nil) ?_
 refine lw (α:=List au×List au×Int×(Nat->Option VS)) (λa=>spS (fileOf B) L (rowsOf B) a.1 a.2.2.1 a.2.2.2 H) (λa=>a.2.1.length) (λa=>B=a.1++a.2.1/\∀b∈a.2.1,a.2.2.1<(b.key:Int)) (λa=>a.1=B) ([],B,-1,λZ=>none) ?_ ⟨rfl,λb Z=>Int.lt_of_lt_of_le (show(-1:Int)<0 by decide) (Int.natCast_nonneg _)⟩ (Nat.lt_of_le_of_lt hB.len (by decide)) λa ha=>?_
 .rintro⟨done,rest,last,g⟩ ⟨gH,mZ⟩
  cases rest with
  | nil=>
   have e:done=B:=(gH.trans (List.append_nil _)).symm
   exact .inl ⟨.cmp (.rf rfl) (.rf rfl) rfl rfl (congrArg some (decide_eq_false (by rw[show done=B from e,List.length_map];exact Int.lt_irrefl _))),e⟩
  | cons bl rest=>
   have fV:=hB.mem (show bl∈B from gH▸List.mem_append_right _ (.head _))
   have bD:=mZ bl (.head _)
   have C1:(rowsOf done).length+bl.rows.length<=26:=by
    have:=hf.2
    rw[show B=done++bl::rest from gH,ta,lN,List.length_append,List.length_append] at this;lia
   have CJ:B=(done++[bl])++rest:=by rw[List.append_assoc];exact gH
   have gJ:(rowsOf done).length+bl.rows.length<=(rowsOf B).length:=by rw[show B=done++bl::rest from gH,ta,lN,List.length_append,List.length_append];lia
   have ht:0<bl.rows.length->ET (F (k+1)) (spS (fileOf B) L (rowsOf B) done last g H) (.cmp .Lt (.slot 3) (.aG .len (.cons (.slot 2) .nil))) true (spS (fileOf B) L (rowsOf B) done last g H):=λh0=>.cmp (.rf rfl) (.rf rfl) rfl rfl (congrArg some (decide_eq_true (by rw[List.length_map];exact Int.ofNat_lt.mpr (by lia))))
   cases bl with
   | sg c s=>
    have hp:=ju fV
    have hG:=(p7 hL fV).2 (s.fields c) (.head _)
    have la:=pv (xS (j:=0) gH rfl) (show(rowsOf done).length<1000000 by lia)
    refine .inr ⟨(done++[.sg c s],rest,c,λi=>match i with | 7=>some (.val (aQ (s.fields c))) | 8=>some (.val (.int c)) | i=>g i),ht Nat.one_pos,?_,⟨CJ,ye hL hB gH⟩,Nat.lt_succ_self _⟩
    show Eb _ _ (spS (fileOf B) L (rowsOf B) done last g H) (spS (fileOf B) L (rowsOf B) (done++[.sg c s]) c _ H)
    rw[W2]
    refine .cons (.tr (.cons (.idx (.rf rfl) (.rf rfl) rfl rfl la) (.cons (.p1 (.idx (.idx (.rf rfl) (.rf rfl) rfl rfl la) (.rf rfl) rfl rfl (r3 rfl)) (uN c (m3 (hL.pl _ hp)))) .nil)) rfl rfl (.cons (.sv rfl) (.cons (.sv rfl) .nil))) ?_
    refine .cons (.aS (.eD (.cmp (.rf rfl) (.rf rfl) rfl rfl (wR hG.len)) (.cmp (.rf rfl) (.rf rfl) rfl rfl (congrArg some (decide_eq_false (Int.not_le.mpr bD))))) .nil) ?_
    refine .cons (.c5 (.cmp (.rf rfl) (.rf rfl) rfl rfl (congrArg some ((jC _ _).trans (congrArg Option.isSome (AZ hL hp))))) ?_) .nil
    refine .cons (.aS (.cmp (.rf rfl) (.idx (.rf rfl) (.rf rfl) rfl rfl (AZ hL hp)) rfl rfl (RZ _)) .nil) ?_
    exact .cons (.tr (.cons (.rf rfl) (.cons (.rf rfl) (.cons (.rf rfl) .nil))) rfl rfl (.cons (.sv rfl) (.cons (.sv rfl) (.cons (.sv rfl) .nil)))) .nil
   | rg r=>
    have hr:=iG fV
    have hG:=(p7 hL fV).2 (r.fields r.first bO) (.head _)
    have hh:=Gy r hr
    have he:=xQ r hr
    have la:=pv (xS (j:=0) gH rfl) (show(rowsOf done).length<1000000 by lia)
    have Oy:=pv (xS (j:=1) gH rfl) (show(rowsOf done).length+1<1000000 by lia)
    refine(hG.vO hh.1).elim λq1 h1=>(((p7 hL fV).2 (r.fields r.last bU) (.tail _ (.head _))).vO hh.2).elim λq2 h2=>?_
    refine .inr ⟨(done++[.rg r],rest,r.last,λi=>match i with | 7=>some (.val (aQ (r.fields r.first bO))) | 8=>some (.val (.int r.first)) | _=>some (.val (aQ (r.fields r.last bU)))),ht (Nat.succ_pos 1),?_,⟨CJ,ye hL hB gH⟩,Nat.lt_succ_self _⟩
    show Eb _ _ (spS (fileOf B) L (rowsOf B) done last g H) (spS (fileOf B) L (rowsOf B) (done++[.rg r]) r.last _ H)
    rw[W0]
    refine .cons (.tr (.cons (.idx (.rf rfl) (.rf rfl) rfl rfl la) (.cons (.p1 (.idx (.idx (.rf rfl) (.rf rfl) rfl rfl la) (.rf rfl) rfl rfl (r3 h1)) (uN r.first (m4 he.1))) .nil)) rfl rfl (.cons (.sv rfl) (.cons (.sv rfl) .nil))) ?_
    refine .cons (.aS (.eD (.cmp (.rf rfl) (.rf rfl) rfl rfl (wR hG.len)) (.cmp (.rf rfl) (.rf rfl) rfl rfl (congrArg some (decide_eq_false (Int.not_le.mpr bD))))) .nil) ?_
    refine .cons (.aS (.cmp (.rf rfl) (.rf rfl) rfl rfl (congrArg some (K1 hL hr))) ?_) .nil
    refine .cons (.aS (.eD (.rf (funext λK=>WW K r hr)) (.cmp (.rf rfl) (.rf rfl) rfl rfl ?n1)) .nil) ?_
    rotate_left
    refine .cons (.sv (.idx (.rf rfl) (.rf rfl) rfl rfl Oy) rfl) ?_
    refine .cons (.sv (.p1 (.idx (.rf rfl) (.rf rfl) rfl rfl (r3 h2)) (uN r.last (m4 he.2))) rfl) ?_
    refine .cons (.aS (.rf (funext λK=>WX K r hr)) .nil) ?_
    refine .cons (.ex (.cl (.rf rfl) rfl (.cons (.val (.rf (funext λK=>WZ K r hr))) .nil) rfl (gC ?n2) rfl)) ?_
    rotate_left
    exact .cons (.sv (.rf rfl) rfl) .nil
    case n1=>
     show some ((((rowsOf done).length:Int)+1)==(((rowsOf B).map aQ).length:Nat))=some false
     rw[List.length_map]
     exact congrArg some (beq_false_of_ne λe=>by have:2<=(au.rg r).rows.length:=Nat.le_refl 2;lia)
    case n2=>
     have:(d4 done).length<=done.length:=List.length_filterMap_le _ _
     have Nj:=hB.len
     rw[show B=done++.rg r::rest from gH,List.length_append] at Nj
     rw[List.length_map];lia
 .obtain⟨done,rest,last,g⟩:=a
  obtain rfl:done=B:=ha
  exact rt (.gM (.cmp (.rf rfl) (.rf rfl) rfl rfl (show some ((j7 done:Int)==((fT L).length:Nat))=some true by rw[UY hB,fT,List.length_map,beq_self_eq_true])) (.rf rfl)) rfl rfl q
 case e1=>
  refine congrArg (λl=>ER.own (.list l)) ?_
  rw[List.map_append,List.map_map]
  exact congrArg (·++_) (List.map_congr_left λfs C6=>congrArg aQ (Eg (hR.2.1 fs C6)))
 case e2=>rw[List.length_append,List.length_map];exact bA (m:=27) (Nat.succ_le_succ hf.2) rfl
 case e3=>exact(List.mem_append.mp Y).elim (λh=>(List.mem_map.mp h).elim λfs e=>e.2▸Nat.lt_of_le_of_lt (wW (hR.2.1 fs e.1)) (by decide)) λh=>List.mem_singleton.mp h▸by decide
structure LN(l:List UInt8):Prop where
 n:∀x∈l,x≠10/\x≠35/\x≠239
 ne:de l BL≠[]
 len:l.length<100000
noncomputable def kW(l:List UInt8):List (List UInt8):=(split1 59 l).map λf=>de f BL
noncomputable def p6(i:Nat)(l:List UInt8):O:=.tup [.int (i+1),aQ (kW l),.bytes []]
noncomputable def d5:Nat->List (List UInt8)->List O
 | _,[]=>[]
 | i,l::r=>p6 i l::d5 (i+1) r
theorem xU:∀(a:List (List UInt8)) (i:Nat) (b:List (List UInt8)),d5 i (a++b)=d5 i a++d5 (i+a.length) b
 | [],i,b=>rfl
 | x::a,i,b=>by
  show p6 i x::d5 (i+1) (a++b)=_
  rw[xU a,List.length_cons,Nat.add_right_comm i 1];rfl
theorem GB:∀(a:List (List UInt8)) (i:Nat),(d5 i a).length=a.length
 | [],_=>rfl
 | x::a,i=>congrArg Nat.succ (GB a (i+1))
theorem Ce{b:List UInt8}{c:UInt8}(h:∀x∈b,x≠c):findB b [c]=-1:=by
 have e:b.findIdx? (·==c)=none:=List.findIdx?_eq_none_iff.mpr λx aU=>beq_false_of_ne (h x aU)
 show(match b.findIdx? (·==c) with | some i=>(i:Int) | none=>-1)=-1
 rw[e]
theorem S7:∀{l:List UInt8},(∀x∈l,x≠239)->dy [239,187,191] l=false
 | [],_=>rfl
 | a::r,h=>by
  show(((239:UInt8)==a)&&dy [187,191] r)=false
  rw[beq_false_of_ne λe=>h a (.head _) e.symm];rfl
theorem PO{ls:List (List UInt8)}{x:UInt8}(h:x∈bW ls):x=10∨∃l∈ls,x∈l:=(List.mem_flatMap.mp h).elim λl z=>(List.mem_append.mp z.2).elim (λh=>.inr ⟨l,z.1,h⟩) λh=>.inl (List.mem_singleton.mp h)
section
variable{k:Nat}{ls:List (List UInt8)}
theorem GR(fW:∀l∈ls,LN l)(hlen:(bW ls).length<1000000):Pu (F (k+1)) 28 [.val (.bytes (bW ls))] (.own (.list ((ls++[[]]).map .bytes))):=λH Q q=>by
 have h:dy [239,187,191] (bW ls)=false:=S7 λx aU=>(PO aU).elim (λe=>e▸by decide) λz=>z.elim λl z=>((fW l z.1).n x z.2).2.2
 refine bL B2 rfl rfl rfl (az (.sv (.lq (.of rfl (.mv (.rf rfl) rfl (.inl rfl) (.cons (.rf rfl) .nil) rfl rfl (congrArg (λb=>some (ER.val (.bool b))) h)) rfl rfl) (.rf rfl)) rfl) ?_)
 refine rt (.mv (.rf rfl) rfl (.inl rfl) (.cons (.rf rfl) .nil) rfl rfl ((oL hlen).trans (by rw[yz λl Y hx=>((fW l Y).n 10 hx).1 rfl]))) rfl rfl ?_
 exact q _ rfl
noncomputable def GA(t:List UInt8)(done:List (List UInt8))(g:Nat->Option VS)(H:HH):St:=⟨[some (.val (.bytes t)),some (.own (.list (d5 0 done))),g 2,g 3,g 4,g 5,g 6,g 7],[false],[],H⟩
set_option tactic.hygienic true in
theorem HR(c:UInt8):∀l:List UInt8,(split1 c l).length<=l.length+1
 | []=>Nat.le_refl 1
 | a::r=>by
  have:=HR c r
  unfold split1
  split
  .exact Nat.succ_le_succ this
  .split
   .exact Nat.succ_le_succ (Nat.zero_le _)
   .rename_i e;rw[e] at this;exact Nat.le_succ_of_le this
theorem GV(fW:∀l∈ls,LN l)(hlen:(bW ls).length<1000000)(hn:ls.length<=200):Pu (F (k+2)) 29 [.val (.bytes (bW ls))] (.own (.list (d5 0 ls))):=λH Q q=>by
 refine bL BQ rfl rfl rfl ?_
 refine az (.so (.rf rfl) rfl) ?_
 refine lp (L:=(ls++[[]]).zipIdx) (λ(p:List UInt8×Nat)=>.tup [.int p.2,.bytes p.1]) (λdone (g:Nat->Option VS)=>GA (bW ls) (ls.take done.length) g H) (g:=λZ=>none) (.en (.own (d:=.list ((ls++[[]]).map .bytes)) (.p1 (.rf rfl) (GR fW hlen))) (congrArg some ?e1)) (λdone x rest g e=>?_) λg=>?_
 rotate_left
 .obtain⟨l,i⟩:=x
  have hx:(ls++[[]])[done.length]?=some l/\i=done.length:=by
   have h1:((ls++[[]]).zipIdx)[done.length]?=some (l,i):=by rw[e,List.getElem?_append_right (Nat.le_refl _),Nat.sub_self];rfl
   rw[List.getElem?_zipIdx] at h1
   refine(Option.map_eq_some_iff.mp h1).elim λy z=>?_
   cases z.2
   exact⟨z.1,Nat.zero_add _⟩
  obtain⟨hx,rfl⟩:=hx
  by_cases hi:done.length<ls.length
  .rw[List.getElem?_append_left hi] at hx
   have Y:=fW l (List.mem_of_getElem? hx)
   have hf:=Ce λx aU=>(Y.n x aU).2.1
   have ht:ls.take (done++[(l,done.length)]).length=ls.take done.length++[l]:=by
    rw[List.length_append];exact(List.take_add_one (l:=ls)).trans (by rw[hx];rfl)
   have hr:d5 0 (ls.take (done++[(l,done.length)]).length)=d5 0 (ls.take done.length)++[p6 done.length l]:=by
    rw[ht,xU,List.length_take,Nat.min_eq_left (Nat.le_of_lt hi),Nat.zero_add];rfl
   refine⟨λi=>match i with | 2=>some (.val (.int done.length)) | 3=>some (.val (.bytes l)) | 4=>some (.val (.int (-1))) | 5=>some (.val (.bytes l)) | 6=>some (.val (.bytes [])) | _=>some (.val (aQ (kW l))),_,.tup (vs:=[.int done.length,.bytes l]) rfl (.cons (.sv rfl) (.cons (.sv rfl) .nil)),?_⟩
   unfold GA
   rw[hr]
   refine .cons (.sv (.mv (.rf rfl) rfl (.inl rfl) (.cons (.rf rfl) .nil) rfl rfl (congrArg (λn=>some (ER.val (.int n))) hf)) rfl) ?_
   refine .cons (.sv (.gM (.rf rfl) (.rf rfl)) rfl) (.cons (.sv (.gM (.rf rfl) (.rf rfl)) rfl) ?_)
   refine .cons (.c5 (.cmp (.mv (.rf rfl) rfl (.inl rfl) (.cons (.rf rfl) .nil) rfl rfl rfl) (.rf rfl) rfl rfl ?n1) ?_) .nil
   rotate_left
   have NA:((split1 59 l).map λf=>O.bytes (de f BL))=(kW l).map .bytes:=(List.map_map (l:=split1 59 l)).symm
   refine .cons (.so (.cr (congrArg (λl=>ER.own (.list l)) NA) (.mp (L:=split1 59 l) .bytes (λf=>.bytes (de f BL)) (.ea (.own (d:=.list ((split1 59 l).map .bytes)) (.mv (.rf rfl) rfl (.inl rfl) (.cons (.rf rfl) .nil) rfl rfl (oL (Nat.lt_trans Y.len (by decide))))) rfl) (bA (Nat.le_trans (HR 59 l) (Nat.succ_le_of_lt (Nat.lt_succ_of_lt Y.len))) rfl) λf C6=>.one (.val (.mv (.rf rfl) rfl (.inl rfl) (.cons (.rf rfl) .nil) rfl rfl rfl)))) rfl) ?_
   refine .cons (.ex (.cl (.rf rfl) rfl (.cons (.val (.tup (.cons (.val (.rf rfl)) (.cons (.lc (.rf rfl) rfl rfl) (.cons (.val (.rf rfl)) .nil))))) .nil) rfl (gC ?n2) rfl)) .nil
   case n1=>exact congrArg some (show(!(de l BL==[]))=true by rw[beq_false_of_ne Y.ne];rfl)
   case n2=>rw[GB,List.length_take];exact Nat.lt_of_le_of_lt (Nat.min_le_right _ _) (Nat.lt_of_le_of_lt hn (by decide))
  .have jJ:done.length=ls.length:=by
    have:=(List.getElem?_eq_some_iff.mp hx).1
    rw[List.length_append] at this
    exact Nat.le_antisymm (Nat.le_of_lt_succ this) (Nat.not_lt.mp hi)
   obtain rfl:[]=l:=by
    rw[jJ,List.getElem?_append_right (Nat.le_refl _),Nat.sub_self] at hx;exact Option.some.inj hx
   have ht:ls.take (done++[([],done.length)]).length=ls.take done.length:=by
    rw[List.length_append,jJ,List.take_length];exact List.take_of_length_le (Nat.le_succ _)
   refine⟨λi=>match i with | 2=>some (.val (.int done.length)) | 3=>some (.val (.bytes [])) | 4=>some (.val (.int (-1))) | 5=>some (.val (.bytes [])) | 6=>some (.val (.bytes [])) | i=>g i,_,.tup (vs:=[.int done.length,.bytes []]) rfl (.cons (.sv rfl) (.cons (.sv rfl) .nil)),?_⟩
   rw[ht]
   exact .cons (.sv (.mv (.rf rfl) rfl (.inl rfl) (.cons (.rf rfl) .nil) rfl rfl rfl) rfl) (.cons (.sv (.gM (.rf rfl) (.rf rfl)) rfl) (.cons (.sv (.gM (.rf rfl) (.rf rfl)) rfl) (.cons (.aS (.cmp (.mv (.rf rfl) rfl (.inl rfl) (.cons (.rf rfl) .nil) rfl rfl rfl) (.rf rfl) rfl rfl rfl) .nil) .nil)))
 .rw[List.length_zipIdx,List.length_append,show ls.take (ls.length+[([]:List UInt8)].length)=ls from List.take_of_length_le (Nat.le_succ _)]
  exact rt (.rf rfl) rfl rfl (q _ rfl)
 case e1=>exact(congrArg (List.map _) (List.zipIdx_map (l:=ls++[[]]) (f:=O.bytes))).trans (List.map_map (l:=(ls++[[]]).zipIdx))
end
set_option tactic.hygienic true in
theorem w1{α:Type}{p:α->Bool}{x:α}:∀{l:List α},x∈l->p x=false->x∈l.dropWhile p
 | a::r,h,hp=>by
  rw[List.dropWhile_cons]
  split
  .rename_i ha
   exact(List.mem_cons.mp h).elim (λe=>by rw[e,ha] at hp;cases hp) λh=>w1 h hp
  .exact h
theorem Xv{b:List UInt8}{x:UInt8}(h:x∈b)(hx:BL.contains x=false):de b BL≠[]:=λe=>by
 have:x∈de b BL:=List.mem_reverse.mpr (w1 (List.mem_reverse.mpr (w1 h hx)) hx)
 rw[e] at this;exact nomatch this
theorem OJ{n:Nat}(h:n∈c9):∃x∈hx n,BL.contains x=false:=(List.any_eq_true.mp (CG n h).2).imp λx z=>⟨z.1,(Bool.not_eq_true' _).mp z.2⟩
theorem PL{fs:List (List UInt8)}(h:GL fs):LN (aP [59] fs):=
 ⟨λx aU=>Ef h aU,h.head.elim λn z=>z.2.elim λr e=>(OJ z.1).elim λx w=>Xv (EE (by rw[e];exact .head _) w.1) w.2,Nat.lt_of_le_of_lt (wW h) (by decide)⟩
theorem vn{fs:List (List UInt8)}(h:GL fs):kW (aP [59] fs)=fs:=by
 unfold kW
 rw[Eg h]
 exact(List.map_congr_left λf hf=>(ry (h.good f hf)).2.1).trans (List.map_id fs)
noncomputable def uA(a b:Nat)(fs:List (List UInt8))(n:Int):AC:=.inst 1 [(.s ⟨#[102,105,114,115,116]⟩,.int a),(.s ⟨#[108,97,115,116]⟩,.int b),(.s ⟨#[102,105,101,108,100,115]⟩,aQ fs),(.s ⟨#[110,117,109,98,101,114]⟩,.int n)]
noncomputable def uV(a b:Nat)(fs:List (List UInt8))(n:Int):O:=.ao (uA a b fs n)
theorem GW{k:Nat}{a b:Nat}{fs:List (List UInt8)}{n:Int}:Pn (F (k+1)) 1 [.val (.int a),.val (.int b),.val (aQ fs),.val (.int n)] (uA a b fs n):=λH Q q=>by
 have e:wSs tab (F k) oS.body (St.jM oS [.own (.inst 1 []),.val (.int a),.val (.int b),.val (aQ fs),.val (.int n)] H) (EK oS.n Q)=Q (.val .none) [.own (uA a b fs n),.val (.int a),.val (.int b),.val (aQ fs),.val (.int n)] H:=by kernel_rfl
 show GK (F (k+1)) 36 _ H Q
 refine enter oS rfl rfl ?_
 rw[e];exact q _ rfl
noncomputable def nZ(i:Nat):au->O
 | .sg c s=>uV c c (s.fields c) (i+1)
 | .rg r=>uV r.first r.last (r.fields r.last bU) (i+1+1)
noncomputable def d9:Nat->List au->List O
 | _,[]=>[]
 | i,b::r=>nZ i b::d9 (i+b.rows.length) r
theorem IA:∀(a:List au) (i:Nat),(d9 i a).length=a.length
 | [],_=>rfl
 | x::a,i=>congrArg Nat.succ (IA a _)
noncomputable def LAST:List UInt8:=[44,32,76,97,115,116,62]
theorem RV:∀w∈gP,dy [60] (oct w)=false/\dy LAST.reverse (oct w).reverse=false:=by decide+kernel
noncomputable def md:bj:=match rj.body with
 | .cons _ (.cons (.for _ _ b) _)=>b
 | _=>.nil
noncomputable def Iw:bI:=match rj.body with
 | .cons _ (.cons (.for (.tup t) _ _) _)=>t
 | _=>.nil
noncomputable def XS:MS->bj
 | .aD _ b _=>b
 | _=>.nil
noncomputable def dR(t:O)(fd:List O)(bg:VS)(last:Int)(g:Nat->Option VS)(H:HH):St:=⟨[some (.val t),some (.own (.list fd)),some bg,some (.val (.int last)),g 4,g 5,g 6,g 7,g 8],[false],[],H⟩
noncomputable def gj(n:Int)(fs:List (List UInt8))(c:Nat)(nm:List UInt8):Nat->Option VS
 | 4=>some (.val (.int n))
 | 5=>some (.val (aQ fs))
 | 6=>some (.val (.bytes []))
 | 7=>some (.val (.int c))
 | _=>some (.val (.bytes nm))
noncomputable def jS(fs:List (List UInt8)):List UInt8:=fs.getD 1 []
section
variable{k:Nat}{t:O}{fd:List O}{g:Nat->Option VS}{H:HH}{n m:Int}
theorem Ym(K:KS):∀r∈aT,wS tab (F (k+1)) (cF 4 md) (dR t fd (.val .none) r.first (gj n (r.fields r.first bO) r.first (jS (r.fields r.first bO))) H) K =
  K .next (dR t fd (.own (uA r.first r.first (r.fields r.first bO) n)) r.first (gj n (r.fields r.first bO) r.first (jS (r.fields r.first bO))) H):=List.map_inj_left.mp (by kernel_rfl)
noncomputable abbrev yN(t:O)(fd:List O)(n m:Int)(r:aX)(H:HH):St:=dR t fd (.own (uA r.first r.first (r.fields r.first bO) m)) r.last (gj n (r.fields r.last bU) r.last (jS (r.fields r.last bU))) H
theorem yO(j:Nat)(h:j=0∨j=1∨j=2)(K:KT):∀r∈aT,(wE tab (F k) (qj (cF j (XS (cF 4 md))))).2 (yN t fd n m r H) K=K false (yN t fd n m r H):=by
 rcases h with rfl | rfl | rfl<;>exact List.map_inj_left.mp (by kernel_rfl)
end
theorem O1{fs:List (List UInt8)}(h:1<fs.length):e7 (aQ fs) (.int 1)=some (.bytes (jS fs)):=
 pv (n:=1) (by rw[List.getElem?_map,jS,List.getD_eq_getElem?_getD,List.getElem?_eq_getElem h];rfl) (by decide)
theorem fz{G:FT}{t:MT}{bs:bj}{x:O}{xs:List O}{st st1 st2:St}{K:KS}(h:Ew G t (.val x) st st1)(h':Eb G bs st1 st2)(q:di (λx=>cM tab G t (.val x)) (wSs tab G bs) xs st2 K):di (λx=>cM tab G t (.val x)) (wSs tab G bs) (x::xs) st K:=h _ (h' _ q)
section
variable{k:Nat}{t:O}{fd:List O}{H:HH}{bg:VS}{last n:Int}{g:Nat->Option VS}{fs:List (List UInt8)}{c:Nat}{st2:St}
theorem yP(YG:bg=.val .none∨∃d,bg=.own d)(hG:GL fs)(hc:c∈c9)(hf:fs.head?=some (hx c))(Y:last<(c:Int))(h:S1 (F (k+3)) (cF 4 md) (dR t fd bg c (gj n fs c (jS fs)) H) st2) :
  ∃st1,Ew (F (k+3)) (.tup Iw) (.val (.tup [.int n,aQ fs,.bytes []])) (dR t fd bg last g H) st1/\Eb (F (k+3)) md st1 st2:=by
 refine(hG.vO hf).elim λq hq=>⟨_,.tup rfl (.cons (.sv rfl) (.cons (.sv rfl) (.cons (.sv rfl) .nil))),?_⟩
 refine .cons (.aS (.cmp (.rf rfl) (.rf rfl) rfl rfl (wR hG.len)) .nil) ?_
 refine .cons (.tr (.cons (.p2 (.idx (.rf rfl) (.rf rfl) rfl rfl (r3 hq)) (.rf rfl) (mP _ c hc)) (.cons (.idx (.rf rfl) (.rf rfl) rfl rfl (O1 (by rw[hG.len];decide))) .nil)) rfl rfl (.cons (.sv rfl) (.cons (.sv rfl) .nil))) ?_
 refine .cons (.aS (.cmp (.rf rfl) (.rf rfl) rfl rfl (congrArg some (decide_eq_false (Int.not_le.mpr Y)))) .nil) ?_
 refine .cons (.sv (.rf rfl) rfl) (.cons h .nil)
theorem Iz:∀(a:List au) (i:Nat) (b:au),d9 i (a++[b])=d9 i a++[nZ (i+(rowsOf a).length) b]
 | [],i,b=>rfl
 | x::a,i,b=>by
  show nZ i x::d9 (i+x.rows.length) (a++[b])=_
  rw[Iz a,lN,List.length_append,Nat.add_assoc];rfl
theorem t7{a b:Nat}:cY (.ao (uA a b fs n)) ⟨#[102,105,114,115,116]⟩=some (.int a):=by kernel_rfl
theorem Yo{s:Sg}(hs:s.name∈gP)(Y:fd.length<1000):S1 (F (k+3)) (cF 4 md) (dR t fd (.val .none) c (gj n (s.fields c) c (oct s.name)) H) (dR t (fd++[uV c c (s.fields c) n]) (.val .none) c (gj n (s.fields c) c (oct s.name)) H):=by
 have h:=RV s.name hs
 have h1:dH .startswith (.bytes (oct s.name)) [.bytes [60]]=some (.val (.bool false)):=congrArg (λb=>some (ER.val (.bool b))) h.1
 have h2:dH .endswith (.bytes (oct s.name)) [.bytes LAST]=some (.val (.bool false)):=congrArg (λb=>some (ER.val (.bool b))) h.2
 have e1:ET (F (k+3)) (dR t fd (.val .none) c (gj n (s.fields c) c (oct s.name)) H) (.aw .startswith (.slot 8) (.cons (.aC [60]) .nil)) false (dR t fd (.val .none) c (gj n (s.fields c) c (oct s.name)) H):=.of rfl (.mv (.rf rfl) rfl (.inl rfl) (.cons (.rf rfl) .nil) rfl rfl h1) rfl rfl
 have e2:ET (F (k+3)) (dR t fd (.val .none) c (gj n (s.fields c) c (oct s.name)) H) (.aw .endswith (.slot 8) (.cons (.glob 11) .nil)) false (dR t fd (.val .none) c (gj n (s.fields c) c (oct s.name)) H):=.of rfl (.mv (.rf rfl) rfl (.inl rfl) (.cons (.rf rfl) .nil) rfl rfl h2) rfl rfl
 refine .aS (.bF (u:=.none) (.rf rfl) rfl) (.cons (.aS (.dT e1) ?_) .nil)
 refine .cons (.aS e2 ?_) .nil
 refine .cons (.ex ?_) .nil
 exact .cl (.rf rfl) rfl (.cons (.own (.nw (l:=[.val (.int c),.val (.int c),.val (aQ (s.fields c)),.val (.int n)]) (.cons (.rf rfl) (.cons (.rf rfl) (.cons (.rf rfl) (.cons (.rf rfl) .nil)))) GW rfl)) .nil) rfl (gC Y) rfl
theorem Yn{r:aX}{m:Int}(hr:r∈aT)(Y:fd.length<1000):S1 (F (k+3)) (cF 4 md) (yN t fd n m r H) (dR t (fd++[uV r.first r.last (r.fields r.last bU) n]) (.val .none) r.last (gj n (r.fields r.last bU) r.last (jS (r.fields r.last bU))) H):=by
 refine .c5 (.bF (u:=.ao (uA r.first r.first (r.fields r.first bO) m)) (.rf rfl) rfl) ?_
 refine .cons (.aS (.rf (funext λK=>yO 0 (.inl rfl) K r hr)) .nil) ?_
 refine .cons (.aS (.rf (funext λK=>yO 1 (.inr (.inl rfl)) K r hr)) .nil) ?_
 refine .cons (.aS (.rf (funext λK=>yO 2 (.inr (.inr rfl)) K r hr)) .nil) ?_
 refine .cons (.ex (.cl (.rf rfl) rfl (.cons (.own (.nw (l:=[.val (.int r.first),.val (.int r.last),.val (aQ (r.fields r.last bU)),.val (.int n)]) (.cons (.attr (.rf rfl) rfl t7) (.cons (.rf rfl) (.cons (.rf rfl) (.cons (.rf rfl) .nil)))) GW rfl)) .nil) rfl (gC Y) rfl)) ?_
 exact .cons (.sv (.rf rfl) rfl) .nil
theorem Iy{L:SL}{B:List au}(hL:bV L)(hB:bR L B){K:KS}(q:∀last g,K .next (dR t (d9 0 B) (.val .none) last g H)):∀{rest done:List au} {last:Int} {g:Nat->Option VS},B=done++rest->(∀b∈rest,last<(b.key:Int))->
  di (λx=>cM tab (F (k+3)) (.tup Iw) (.val x)) (wSs tab (F (k+3)) md) (d5 (rowsOf done).length ((rowsOf rest).map (aP [59]))) (dR t (d9 0 done) (.val .none) last g H) K
 | [],done,last,g,e,_=>by rw[List.append_nil] at e;exact e▸q last g
 | bl::rest,done,last,g,e,mZ=>by
  have fV:=hB.mem (show bl∈B from e▸List.mem_append_right _ (.head _))
  have bD:=mZ bl (.head _)
  have hR:=p7 hL fV
  have e':B=(done++[bl])++rest:=by rw[List.append_assoc];exact e
  have ih:=λg=>Iy hL hB q (g:=g) e' (ye hL hB e)
  have Y:(d9 0 done).length<1000:=by
   have:=hB.len
   rw[e,List.length_append] at this
   rw[IA];lia
  simp only[Iz,Nat.zero_add,xT,List.length_append] at ih
  rw[lN,List.map_append,xU]
  cases bl with
  | sg c s=>
   have hp:=ju fV
   have hG:=hR.2 (s.fields c) (.head _)
   refine(yP (k:=k) (t:=t) (fd:=d9 0 done) (H:=H) (last:=last) (g:=g) (n:=(rowsOf done).length+1) (.inl rfl) hG (m3 (hL.pl _ hp)) rfl bD (Yo (hL.ok _ hp).name Y)).elim λst1 h=>?_
   refine fz (st1:=st1) ?_ h.2 (ih _)
   rw[←vn hG] at h;exact h.1
  | rg r=>
   have hr:=iG fV
   have h1:=hR.2 (r.fields r.first bO) (.head _)
   have h2:=hR.2 (r.fields r.last bU) (.tail _ (.head _))
   have hh:=Gy r hr
   have he:=xQ r hr
   refine(yP (k:=k) (t:=t) (fd:=d9 0 done) (H:=H) (last:=last) (g:=g) (n:=(rowsOf done).length+1) (.inl rfl) h1 (m4 he.1) hh.1 bD (.rf λK=>Ym K r hr)).elim λst1 h=>?_
   refine(yP (k:=k) (t:=t) (fd:=d9 0 done) (H:=H) (last:=r.first) (g:=gj ((rowsOf done).length+1) (r.fields r.first bO) r.first (jS (r.fields r.first bO))) (n:=(rowsOf done).length+1+1) (.inr ⟨uA r.first r.first (r.fields r.first bO) ((rowsOf done).length+1),rfl⟩) h2 (m4 he.2) hh.2 (Int.ofNat_lt.mpr (p5 r hr).1) (Yn hr Y)).elim λst2 h'=>?_
   refine fz (st1:=st1) ?_ h.2 (fz (st1:=st2) ?_ h'.2 (ih _))
   .rw[←vn h1] at h;exact h.1
   .rw[←vn h2] at h';exact h'.1
theorem Uy{L:SL}{B:List au}(hL:bV L)(hB:bR L B):Pu (F (k+4)) 41 [.val (.bytes (fileOf B))] (.own (.list (d9 0 B))):=λH Q q=>by
 have hR:=oW hL λb=>hB.mem
 have hf:=Cb hL hB
 have fW:∀l∈(rowsOf B).map (aP [59]),LN l:=λl Y=>(List.mem_map.mp Y).elim λfs e=>e.2▸PL (hR.2.1 fs e.1)
 refine bL rj rfl rfl rfl ?_
 refine az (.tr (.cons (.rf rfl) (.cons (.rf rfl) (.cons (.rf rfl) .nil))) rfl rfl (.cons (.sv rfl) (.cons (.sv rfl) (.cons (.so rfl) .nil)))) ?_
 have hI:EI (F (k+3)) (dR (.bytes (fileOf B)) [] (.val .none) (-1) (λZ=>none) H) (.of (.call 29 (.cons (.slot 0) .nil))) (d5 0 ((rowsOf B).map (aP [59]))) (dR (.bytes (fileOf B)) [] (.val .none) (-1) (λZ=>none) H):=
  .ea (.own (.p1 (.rf rfl) (hR.1▸GV (k:=k+1) fW (hR.1▸hf.1) (by rw[List.length_map];exact Nat.le_trans hf.2 (by decide))))) rfl
 refine hI _ (gp (Iy hL hB (λlast g=>?_) (rest:=B) (done:=[]) rfl λb Z=>Int.lt_of_lt_of_le (show(-1:Int)<0 by decide) (Int.natCast_nonneg _)))
 refine az (.aS (.bF (u:=.none) (.rf rfl) rfl) .nil) ?_
 exact rt (.rf rfl) rfl rfl (q _ rfl)
end
noncomputable abbrev LT:=List (Str×O)
noncomputable def iy(l:LT):VS:=.own (.list (l.map gh))
noncomputable def jy(n:Nat):LT:=if n=0 then[] else[(⟨#[99,99,99]⟩,.int n)]
noncomputable def lG(i:Nat):LT:=if i=0 then[] else[(⟨#[110,116]⟩,nJ.getD i .none),(⟨#[110,118]⟩,nK.getD i .none)]
noncomputable def opts(nm:Str):Option Nat->LT
 | none=>[]
 | some n=>[(nm,.int n)]
noncomputable def kU(ps:List Nat):Option Str->LT
 | none=>[]
 | some t=>[(⟨#[100,109]⟩,jD ps (some t))]
noncomputable def iI(b l h:Option Nat):LT:=opts ⟨#[117,99]⟩ b++opts ⟨#[108,99]⟩ l++opts ⟨#[116,99]⟩ (fst b h)
noncomputable def jr(gc bc:Str)(n:Nat):LT:=[(⟨#[103,99]⟩,.str gc),(⟨#[98,99]⟩,.str bc)]++jy n
noncomputable def Sg.d2(s:Sg):LT:=jr s.gc s.bc s.ccc++([(⟨#[110,97,109,101]⟩,bo s.name)]++kU s.parts s.tag++lG s.num++iI s.big s.little s.first)
noncomputable def aX.d2(r:aX):LT:=[(⟨#[103,99]⟩,.str r.gc),(⟨#[98,99]⟩,.str ⟨#[76]⟩)]
noncomputable def nf(i j:Nat):List UInt8:=oct ((gD i).getD j ⟨#[]⟩)
theorem L6:∀i∈List.range 6,(gD i).map oct=[nf i 0,nf i 1,nf i 2]:=by decide+kernel
theorem L5{s:Sg}(h:s.ok)(c:Nat):s.fields c=[hx c,oct s.name,oct s.gc,oct (dN s.ccc),oct s.bc,s.map,nf s.num 0,nf s.num 1,nf s.num 2,yn c,[],[],bH s.big,bH s.little,bH s.first]:=by
 unfold Sg.fields;rw[L6 s.num h.num];rfl
noncomputable def Ae:List (Option Nat×Option Nat×Option Nat):=fK.flatMap λx=>iY.flatMap λy=>hV.map λz=>(x,y,z)
theorem Ks{b l h:Option Nat}(I:b∈fK)(Y:l∈iY)(hh:h∈hV):(b,l,h)∈Ae:=List.mem_flatMap.mpr ⟨b,I,List.mem_flatMap.mpr ⟨l,Y,List.mem_map.mpr ⟨h,hh,rfl⟩⟩⟩
section
variable{k:Nat}{a b:Nat}{n:Int}{f0 f1 f2 f3 f4 f5 f6 f7 f8 f9 dX dY eW eX eY:List UInt8}
theorem Ld:∀r∈aT,Pu (F (k+8)) 47 [.val (uV r.first r.last (r.fields r.last bU) n)] (iy r.d2):=cT vg rfl (λZ=>rfl) (λr=>[.val (uV r.first r.last (r.fields r.last bU) n)]) (λZ=>rfl) λH Q=>by kernel_rfl
theorem K9:∀w∈gP,Pu (F (k+1)) 43 [.val (uV a b [f0,oct w,f2,f3,f4,f5,f6,f7,f8,f9,dX,dY,eW,eX,eY] n)] (iy [(⟨#[110,97,109,101]⟩,bo w)]):=cT B4 rfl (λZ=>rfl) (λw=>[.val (uV a b [f0,oct w,f2,f3,f4,f5,f6,f7,f8,f9,dX,dY,eW,eX,eY] n)]) (λZ=>rfl) λH Q=>by kernel_rfl
theorem K7:∀w∈gP,Pu (F (k+1)) 40 [.val (uV a b [f0,oct w,f2,f3,f4,f5,f6,f7,f8,f9,dX,dY,eW,eX,eY] n)] (.val (.bool false)):=cT Bu rfl (λZ=>rfl) (λw=>[.val (uV a b [f0,oct w,f2,f3,f4,f5,f6,f7,f8,f9,dX,dY,eW,eX,eY] n)]) (λZ=>rfl) λH Q=>by kernel_rfl
theorem La:∀i∈List.range 6,Pu (F (k+4)) 45 [.val (uV a b [f0,f1,f2,f3,f4,f5,nf i 0,nf i 1,nf i 2,f9,dX,dY,eW,eX,eY] n)] (iy (lG i)):=cT B5 rfl (λZ=>rfl) (λi=>[.val (uV a b [f0,f1,f2,f3,f4,f5,nf i 0,nf i 1,nf i 2,f9,dX,dY,eW,eX,eY] n)]) (λZ=>rfl) λH Q=>by kernel_rfl
theorem K5:∀t∈Ae,Pu (F (k+6)) 46 [.val (uV a b [f0,f1,f2,f3,f4,f5,f6,f7,f8,f9,dX,dY,bH t.1,bH t.2.1,bH (fst t.1 t.2.2)] n)] (iy (iI t.1 t.2.1 (fst t.1 t.2.2))):=cT BZ rfl (λZ=>rfl) (λt=>[.val (uV a b [f0,f1,f2,f3,f4,f5,f6,f7,f8,f9,dX,dY,bH t.1,bH t.2.1,bH (fst t.1 t.2.2)] n)]) (λZ=>rfl) λH Q=>by kernel_rfl
theorem K6:∀w∈iN,Pu (F (k+4)) 38 [.val (uV a b [f0,f1,oct w,f3,f4,f5,f6,f7,f8,f9,dX,dY,eW,eX,eY] n),.val (.int 2),.val rq] (.val (.str w)):=cT uZ rfl (λZ=>rfl) (λw=>[.val (uV a b [f0,f1,oct w,f3,f4,f5,f6,f7,f8,f9,dX,dY,eW,eX,eY] n),.val (.int 2),.val rq]) (λZ=>rfl) λH Q=>by kernel_rfl
theorem K4:∀w∈iE,Pu (F (k+4)) 38 [.val (uV a b [f0,f1,f2,f3,oct w,f5,f6,f7,f8,f9,dX,dY,eW,eX,eY] n),.val (.int 4),.val ru] (.val (.str w)):=cT uZ rfl (λZ=>rfl) (λw=>[.val (uV a b [f0,f1,f2,f3,oct w,f5,f6,f7,f8,f9,dX,dY,eW,eX,eY] n),.val (.int 4),.val ru]) (λZ=>rfl) λH Q=>by kernel_rfl
theorem Li:∀c∈g8,Pu (F (k+1)) 7 [.val (.bytes (oct (dN c)))] (.val (.int c)):=cT B8 rfl (λZ=>rfl) (λc=>[.val (.bytes (oct (dN c)))]) (λZ=>rfl) λH Q=>by kernel_rfl
theorem Lg:∀p∈b9,Pu (F (k+1)) 0 [.val (.int (p:Nat))] (.val (.bool false)):=cT By rfl (λZ=>rfl) (λp=>[.val (.int (p:Nat))]) (λZ=>rfl) λH Q=>by kernel_rfl
theorem Ku:∀c∈g8,cz .Gt (.int (c:Nat)) (.int 254)=some false:=by decide+kernel
theorem Yx(c:Nat):cz .NotIn (.bytes (yn c)) (.tup [.bytes [89],.bytes [78]])=some false:=by unfold yn;cases tP c<;>rfl
theorem T2{gc bc:Str}{ccc c:Nat}(hg:gc∈iN)(I:bc∈iE)(hc:ccc∈g8) :
  Pu (F (k+5)) 42 [.val (uV a b [f0,f1,oct gc,oct (dN ccc),oct bc,f5,f6,f7,f8,yn c,dX,dY,eW,eX,eY] n)] (iy (jr gc bc ccc)):=λH Q q=>by
 refine bL BX rfl rfl rfl ?_
 refine az (.sv (.p1 (o:=.val _) (.rf rfl) (Li ccc hc)) rfl) ?_
 refine az (.aS (.eD (.bS (u:=.int ccc) (.rf rfl) rfl) (.eD (.cmp (.rf rfl) (.rf rfl) rfl rfl (Ku ccc hc)) (.cmp (.rf rfl) (.rf rfl) rfl rfl (Yx c)))) .nil) ?_
 refine az (.so (.lst (.cons (.val (.tup (.cons (.val (.rf rfl)) (.cons (.val (.ip (l:=[.val (.int 2),.val rq]) (.rf rfl) rfl (.cons (.rf rfl) (.cons (.rf rfl) .nil)) (K6 gc hg _))) .nil))))
  (.cons (.val (.tup (.cons (.val (.rf rfl)) (.cons (.val (.ip (l:=[.val (.int 4),.val ru]) (.rf rfl) rfl (.cons (.rf rfl) (.cons (.rf rfl) .nil)) (K4 bc I _))) .nil)))) .nil))) rfl) ?_
 unfold iy jr jy at q
 by_cases h:ccc=0
 .subst h
  refine az (.aS (.rf rfl) .nil) (rt (.rf rfl) rfl rfl (q _ rfl))
 .rw[if_neg h] at q
  refine az (.c5 (.cmp (.rf rfl) (.rf rfl) rfl rfl (congrArg some (decide_eq_true (Int.ofNat_lt.mpr (Nat.pos_of_ne_zero h))))) (.cons (.ex (.cl (.rf rfl) rfl (.cons (.val (.rf rfl)) .nil) rfl (gC (Nat.le_of_ble_eq_true rfl)) rfl)) .nil)) ?_
  exact rt (.rf rfl) rfl rfl (q _ rfl)
end
theorem ET.mb{G:FT}{st st1 st2:St}{a:ME}{as:aW}{x:ER}{u:O}{rs:List ER}{vs:List O}{k:Bool}{m:MN}{kd:MK}(h:Ev G st a x st1)(hk:fc tab m x st1=some kd)(hd:kd=.kK∨kd=.str)(h':Es G st1 as rs st2)(hv:fy rs st2=some vs)(hx:view x st2=some u)(hm:dH m u vs=some (.val (.bool k))):ET G st (.aw m a as) k st2:=.of rfl (.mv h hk hd h' hv hx hm) rfl rfl
theorem wk:∀n∈b9,(32:UInt8)∉hx n/\hx n≠[]/\dy [60] (hx n)=false:=by decide+kernel
theorem RX(d:List (Option Nat))(n:Nat):nats ((d++[some n]).filterMap id)=nats (d.filterMap id)++[.int n]:=by rw[List.filterMap_append,nats,List.map_append];rfl
theorem RW(d:List (Option Nat)):nats ((d++[none]).filterMap id)=nats (d.filterMap id):=by rw[List.filterMap_append];exact congrArg nats (List.append_nil _)
noncomputable def uz(T:List UInt8)(v:O)(done:List (Option Nat))(g:Option VS)(H:HH):St:=⟨[some (.val (.bytes T)),some (.val v),some (.own (.list (nats (done.filterMap id)))),g],[false,false],[],H⟩
section
variable{k:Nat}
theorem T6{L:List (Option Nat)}(hn:L≠[])(Y:L.length<=4)(hm:∀n,some n∈L->n∈b9){v:O}:Pu (F (k+4)) 33 [.val (.bytes (aP [32] (L.map bH))),.val v] (.val (.tup (nats (L.filterMap id)))):=λH Q q=>by
 have hlen:(aP [32] (L.map bH)).length<1000000:=Nat.lt_of_le_of_lt (jQ (m:=40) λx h=>(List.mem_map.mp h).elim λo e=>e.2▸Fx o) (by rw[List.length_map];exact Nat.lt_of_le_of_lt (Nat.mul_le_mul_right _ Y) (by decide))
 have hs:split1 32 (aP [32] (L.map bH))=L.map bH:=yx (λe=>hn (List.map_eq_nil_iff.mp e)) λx h=>(List.mem_map.mp h).elim λo e=>e.2▸match o,e.1 with
  | none,_=>nofun
  | some n,h=>(wk n (hm n h)).1
 refine bL Bw rfl rfl rfl ?_
 refine az (.so (.lst .nil) rfl) ?_
 refine lp (L:=L) (λo=>.bytes (bH o)) (λdone g=>uz (aP [32] (L.map bH)) v done g H) (g:=none) (.ea (.own (d:=.list (L.map λo=>.bytes (bH o))) (.mv (.rf rfl) rfl (.inl rfl) (.cons (.rf rfl) .nil) rfl rfl ?e1)) rfl) (λdone o rest g e=>⟨some (.val (.bytes (bH o))),⟨[some (.val (.bytes (aP [32] (L.map bH)))),some (.val v),some (.own (.list (nats (done.filterMap id)))),some (.val (.bytes (bH o)))],[false,false],[],H⟩,.sv rfl,?_⟩) λg=>?_
 case e1=>rw[oL hlen,hs,List.map_map];rfl
 .cases o with
  | none=>
   unfold uz
   rw[RW]
   exact .cons (.aS (.cmp (.rf rfl) (.rf rfl) rfl rfl rfl) .nil) .nil
  | some n=>
   have hn:=hm n (e▸List.mem_append_right _ (.head _))
   unfold uz
   rw[RX]
   refine .cons (.c5 (.cmp (.rf rfl) (.rf rfl) rfl rfl (congrArg (λb=>some (!b)) (beq_false_of_ne (wk n hn).2.1))) ?_) .nil
   refine .cons (.ex (.cl (.rf rfl) rfl (.cons (.val (.p2 (o:=.val (.int n)) (.rf rfl) (.rf rfl) (mP v n (rZ hn)))) .nil) rfl (gC ?_) rfl)) .nil
   rw[nats,List.length_map]
   refine Nat.lt_of_le_of_lt (List.length_filterMap_le _ _) ?_
   rw[e,List.length_append] at Y;lia
 .refine rt (.aG (.cons (.rf rfl) .nil) rfl rfl) rfl rfl (q _ rfl)
theorem zv{c:Int}:∀{l:List Nat},(∀p∈l,(p:Int)≠c)->gv (.int c) (nats l)=some false
 | [],_=>rfl
 | p::r,h=>by
  show(match some ((p:Int)==c),gv (.int c) (nats r) with | some x,some y=>some (x||y) | _,_=>none)=_
  rw[zv λq hq=>h q (.tail _ hq),beq_false_of_ne (h p (.head _))];rfl
theorem S6:∀c∈cI,∀p∈b9,(p:Int)≠c:=by decide+kernel
noncomputable def Qt:bj:=match ri.body with
 | .cons _ (.cons _ (.cons _ r))=>r
 | _=>.nil
section
variable{c:Nat}{fs:List (List UInt8)}{n:Int}{w:VS}{ps:List Nat}{t:Str}{L:List (Option Nat)}{g:Option VS}{H:HH}{Q:VS->List VS->HH->Prop}
theorem GU(hc:c∈cI)(hp:∀p∈ps,p∈b9)(h0:ps≠[])(Y:L.length<=4)(hL:L.filterMap id=ps)(ht:(t==⟨#[]⟩)=true->ps.length<=2)(q:∀fin:List VS,fin.length=1->Q (iy (kU ps (some t))) fin H) :
  wSs tab (F (k+4)) Qt ⟨[some (.val (uV c c fs n)),some (.val (.bytes (aP [32] (L.map bH)))),some (.val (.str t)),g,none],[false],[],H⟩ (EK ri.n Q):=by
 subst hL
 have N3:(L.filterMap id).length<=4:=Nat.le_trans (List.length_filterMap_le _ _) Y
 have hm:∀n,some n∈L->n∈b9:=λn h=>hp n (List.mem_filterMap.mpr ⟨_,h,rfl⟩)
 have hL:L≠[]:=λe=>h0 (by rw[e];rfl)
 refine az (.sv (.p2 (o:=.val _) (.rf rfl) (.rf rfl) (T6 hL Y hm)) rfl) ?_
 have e1:cz .Eq (.tup (nats (L.filterMap id))) (.tup [])=some false:=by
  cases e:L.filterMap id with
  | nil=>exact absurd e h0
  | cons a r=>rfl
 have e2:ET (F (k+4)) ⟨[some (.val (uV c c fs n)),some (.val (.bytes (aP [32] (L.map bH)))),some (.val (.str t)),g,some (.val (.tup (nats (L.filterMap id))))],[false],[],H⟩ (.and (.cmp .Eq (.slot 2) (.ai ⟨#[]⟩)) (.cmp .Gt (.aG .len (.cons (.slot 4) .nil)) (.aj 2))) false ⟨[some (.val (uV c c fs n)),some (.val (.bytes (aP [32] (L.map bH)))),some (.val (.str t)),g,some (.val (.tup (nats (L.filterMap id))))],[false],[],H⟩:=by
  cases h:t==⟨#[]⟩ with
  | false=>exact .dT (.cmp (.rf rfl) (.rf rfl) rfl rfl (congrArg some h))
  | true=>exact .cw (.cmp (.rf rfl) (.rf rfl) rfl rfl (congrArg some h)) (.cmp (.rf rfl) (.rf rfl) rfl rfl (congrArg some (decide_eq_false (by rw[nats,List.length_map];exact Int.not_lt.mpr (Int.ofNat_le.mpr (ht h))))))
 refine az (.aS (.eD (.cmp (.rf rfl) (.rf rfl) rfl rfl e1) (.eD e2 (.cmp (.attr (.rf rfl) rfl t7) (.rf rfl) rfl rfl (zv λp h=>S6 c hc p (hp p h))))) .nil) ?_
 refine az (.aS (.cmp (.fm (L:=L.filterMap id) (λ(p:Nat)=>.int p) (λZ=>none) (.ea (.val (.rf rfl)) rfl) (bA (m:=4) N3 rfl) λp h=>.no .one (.one (.of rfl (.p1 (o:=.val (.bool false)) (.rf rfl) (Lg p (hp p h))) rfl rfl))) (.rf rfl) rfl rfl ?e3) .nil) ?_
 case e3=>rw[show(L.filterMap id).filterMap (λZ=>(none:Option O))=[] from List.filterMap_eq_nil_iff.mpr λZ Z=>rfl];rfl
 exact rt (.rf rfl) rfl rfl (q _ rfl)
end
noncomputable def qi:List Str:=[⟨#[102,111,110,116]⟩,⟨#[99,111,109,112,97,116]⟩]
noncomputable def lY(t:Str)(X:List UInt8):List UInt8:=60::(oct t++(62::32::X))
theorem XN:∀t∈qi,eK (some t)=lY t []/\t∈dA/\(t==⟨#[]⟩)=false:=by decide+kernel
theorem XO{X:List UInt8}:∀t∈qi,dH .find (.bytes (lY t X)) [.bytes [62]]=some (.val (.int ((oct t).length+1:Nat))):=List.map_inj_left.mp (by kernel_rfl)
theorem XR:∀t∈qi,g6 .max [.int ((oct t).length+1:Nat),.int 1]=some (.val (.int ((oct t).length+1:Nat))):=List.map_inj_left.mp (by kernel_rfl)
theorem XQ:∀t∈qi,cz .NotIn (.str t) CB=some false:=List.map_inj_left.mp (by kernel_rfl)
theorem yj{n i:Nat}(h:i<=n):ft n (i:Nat)=i:=by
 rw[qM];exact Nat.min_eq_left h
theorem U2(p q r:List UInt8):fu (p++(q++r)) (some (p.length:Nat)) (some ((q.length+p.length:Nat):Int))=q:=by
 unfold fu
 rw[show(some ((p.length:Nat):Int)).elim 0 (ft (p++(q++r)).length)=p.length from yj (by rw[List.length_append];exact Nat.le_add_right _ _),show(some ((q.length+p.length:Nat):Int)).elim (p++(q++r)).length (ft (p++(q++r)).length)=q.length+p.length from yj (by rw[List.length_append,List.length_append];lia),Nat.add_sub_cancel,List.drop_left,List.take_left]
theorem U1(p r:List UInt8):fu (p++r) (some (p.length:Nat)) none=r:=by
 unfold fu
 rw[show(some ((p.length:Nat):Int)).elim 0 (ft (p++r).length)=p.length from yj (by rw[List.length_append];exact Nat.le_add_right _ _),List.drop_left]
 exact List.take_of_length_le (by show r.length<=(p++r).length - p.length;rw[List.length_append];lia)
theorem U3{t:Str}{X:List UInt8}:fu (lY t X) (some 1) (some (((oct t).length+1:Nat):Int))=oct t:=U2 [60] (oct t) (62::32::X)
theorem U0{t:Str}{X:List UInt8}:fu (lY t X) (some ((((oct t).length+1:Nat):Int)+1)) none=32::X:=by
 have:=U1 (60::(oct t++[62])) (32::X)
 rw[List.length_cons,List.length_append] at this
 rw[show lY t X=60::(oct t++[62])++32::X from congrArg (60::·) (List.append_assoc (oct t) [62] (32::X)).symm];exact this
theorem S8{ps:List Nat}(h:ps≠[]):(32::bN (ps.map some))=aP [32] ((none::ps.map some).map bH):=by
 rw[List.map_cons,jO [32] _ λe=>h (List.map_eq_nil_iff.mp (List.map_eq_nil_iff.mp e)),bN,o4,List.map_map];rfl
theorem S9(ps:List Nat):bN (ps.map some)=aP [32] ((ps.map some).map bH):=by rw[bN,o4,List.map_map];rfl
theorem Ge(ps:List Nat):(ps.map some).filterMap id=ps:=by rw[List.filterMap_map];exact List.filterMap_some
theorem Ny{a:Nat}{r:List Nat}:∃q,bN ((a::r).map some)=hx a++q:=by
 rw[bN,o4]
 cases r with
 | nil=>exact⟨[],(List.append_nil _).symm⟩
 | cons b r=>exact⟨_,List.append_assoc _ _ _⟩
theorem Ub{c:Nat}{n:Int}{f0 f1 f2 f3 f4 f6 f7 f8 f9 dX dY eW eX eY:List UInt8}{tag:Option Str}{ps:List Nat}(hc:c∈cI)(ht:tag∈gW)(hp:∀p∈ps,p∈b9)(hk:tF tag ps) :
  Pu (F (k+5)) 44 [.val (uV c c [f0,f1,f2,f3,f4,eK tag++bN (ps.map some),f6,f7,f8,f9,dX,dY,eW,eX,eY] n)] (iy (kU ps tag)):=λH Q q=>by
 refine bL ri rfl rfl rfl ?_
 refine az (.tr (.cons (.rf rfl) (.cons (.rf rfl) .nil)) rfl rfl (.cons (.sv rfl) (.cons (.sv rfl) .nil))) ?_
 cases tag with
 | none=>
  obtain rfl:ps=[]:=hk
  exact wr (.c5 (.cmp (.rf rfl) (.rf rfl) rfl rfl rfl) (.ret (.rf rfl))) (aH (show params _=some _ from rfl) (aH (show leave _ _=some _ from rfl) (q _ rfl)))
 | some t=>
  have h0:ps≠[]:=λe=>by rw[e] at hk;exact absurd hk.1 (by decide)
  have pq:t=⟨#[]⟩∨t∈qi:=by
   rcases List.mem_cons.mp ht with e | ht
   .cases e
   rcases List.mem_cons.mp ht with e | ht
   .exact .inl (Option.some.inj e)
   rcases List.mem_cons.mp ht with e | ht
   .exact .inr (Option.some.inj e▸.head _)
   rcases List.mem_cons.mp ht with e | ht
   .cases e
   .exact .inr (Option.some.inj (List.mem_singleton.mp ht)▸.tail _ (.head _))
  rcases pq with rfl | ht
  .have hd:∃a r,ps=a::r:=by
    cases ps with
    | nil=>exact absurd rfl h0
    | cons a r=>exact⟨a,r,rfl⟩
   refine hd.elim λa z=>z.elim λr e=>?_
   have ha:=wk a (hp a (e▸.head _))
   refine(Ny (a:=a) (r:=r)).elim λq' hq=>?_
   have bE:eK (some ⟨#[]⟩)++bN (ps.map some)=bN (ps.map some):=rfl
   refine az (.aS (.cmp (.rf rfl) (.rf rfl) rfl rfl ?e1) .nil) ?_
   rotate_left
   refine az (.aS (.mb (x:=.val (.bytes (bN (ps.map some)))) (.rf rfl) rfl (.inl rfl) (.cons (.rf rfl) .nil) rfl rfl ?e2) .nil) ?_
   rotate_left
   .rw[bE,S9]
    exact GU (ps:=ps) hc hp h0 (by rw[List.length_map];exact Nat.le_succ_of_le hk.2.1) (Ge ps) (λZ=>hk.2.2 rfl) λfin h=>q fin h
   case e1=>
    rw[bE,e,hq]
    exact congrArg some (beq_false_of_ne λe=>ha.2.1 (List.append_eq_nil_iff.mp e).1)
   case e2=>
    rw[e,hq]
    refine congrArg (λb=>some (ER.val (.bool b))) ?_
    cases hh:hx a with
    | nil=>exact absurd hh ha.2.1
    | cons x y=>rw[hh] at ha;exact ha.2.2
  .have g:=XN t ht
   have e:eK (some t)++bN (ps.map some)=lY t (bN (ps.map some)):=by rw[g.1];exact congrArg (60::·) (List.append_assoc (oct t) [62,32] _)
   rw[e]
   refine az (.aS (.cmp (.rf rfl) (.rf rfl) rfl rfl rfl) .nil) ?_
   refine az (.c5 (.mb (x:=.val (.bytes (lY t (bN (ps.map some))))) (.rf rfl) rfl (.inl rfl) (.cons (.rf rfl) .nil) rfl rfl rfl)
    (.cons (.sv (.mv (.rf rfl) rfl (.inl rfl) (.cons (.rf rfl) .nil) rfl rfl (XO t ht)) rfl)
    (.cons (.sv (.p2 (o:=.val (.str t)) (.bu (.rf rfl) (.rf rfl) (.aG (.cons (.rf rfl) (.cons (.rf rfl) .nil)) rfl (XR t ht)) rfl rfl rfl (congrArg (λl=>some (ER.val (.bytes l))) U3)) (.rf rfl) (Lj _ t g.2.1)) rfl)
    (.cons (.aS (.cmp (.rf rfl) (.rf rfl) rfl rfl (XQ t ht)) .nil)
    (.cons (.sv (.bu (.rf rfl) (.bin (.rf rfl) (.rf rfl) rfl rfl rfl) (.rf rfl) rfl rfl rfl (congrArg (λl=>some (ER.val (.bytes l))) U0)) rfl) .nil))))) ?_
   rw[S8 h0]
   exact GU (ps:=ps) hc hp h0 (by rw[List.length_cons,List.length_map];exact Nat.succ_le_succ hk.2.1) (Ge ps) (λz=>absurd (g.2.2.symm.trans z) Bool.false_ne_true) λfin h=>q fin h
end
theorem xB(nm:Str):∀o,(opts nm o).length<=1
 | none=>Nat.zero_le _
 | some _=>Nat.le_refl _
theorem Fg(i:Nat):(lG i).length<=2:=by unfold lG;split<;>exact Nat.le_of_ble_eq_true rfl
theorem Ag(i:Nat):(jy i).length<=1:=by unfold jy;split<;>exact Nat.le_of_ble_eq_true rfl
theorem AU(ps:List Nat):∀t,(kU ps t).length<=1
 | none=>Nat.zero_le _
 | some _=>Nat.le_refl _
theorem Ad(b l h:Option Nat):(iI b l h).length<=3:=by
 have h1:=xB ⟨#[117,99]⟩ b
 have h2:=xB ⟨#[108,99]⟩ l
 have h3:=xB ⟨#[116,99]⟩ (fst b h)
 unfold iI;rw[List.length_append,List.length_append];lia
theorem Tg(s:Sg):s.d2.length<=10:=by
 have h1:=Ad s.big s.little s.first
 have h2:=Fg s.num
 have h3:=Ag s.ccc
 have h4:=AU s.parts s.tag
 unfold Sg.d2 jr
 simp only[List.length_append,List.length_cons,List.length_nil];lia
theorem qx{x y:LT}(h:x.length+y.length<=1000):iF .Add (.ao (.list (x.map gh))) (.ao (.list (y.map gh)))=some (.own (.list ((x++y).map gh))):=by
 rw[eo (by rw[List.length_map,List.length_map];exact bA h rfl),List.map_append]
noncomputable def Sg.FV(s:Sg):LT:=[(⟨#[110,97,109,101]⟩,bo s.name)]++kU s.parts s.tag++lG s.num++iI s.big s.little s.first
theorem Mr(b h:Option Nat):fst b (fst b h)=fst b h:=by cases h<;>cases b<;>rfl
section
variable{k:Nat}
theorem Uj{c:Nat}{s:Sg}{n:Int}(hc:c∈cI)(hs:s.ok):Pu (F (k+8)) 47 [.val (uV c c (s.fields c) n)] (iy s.d2):=λH Q q=>by
 have h1:=Ad s.big s.little s.first
 have h2:=Fg s.num
 have h3:=Ag s.ccc
 have h4:=AU s.parts s.tag
 rw[L5 hs]
 refine bL vg rfl rfl rfl ?_
 refine az (.so (c:=.list ((jr s.gc s.bc s.ccc).map gh)) (.p1 (o:=.own _) (.rf rfl) (T2 hs.gc hs.bc hs.ccc)) rfl) ?_
 refine az (.so (c:=.list (s.FV.map gh))
  (.bin (x:=.own _) (y:=.own _) (.bin (x:=.own _) (y:=.own _) (.bin (x:=.own _) (y:=.own _) (.p1 (o:=.own _) (.rf rfl) (K9 s.name hs.name)) (.p1 (o:=.own _) (.rf rfl) (Ub hc hs.tag hs.parts hs.tp)) rfl rfl (qx ?a1)) (.p1 (o:=.own _) (.rf rfl) (La s.num hs.num)) rfl rfl (qx ?a2)) (.p1 (o:=.own _) (.rf rfl) (K5 (s.big,s.little,s.head) (Ks hs.big hs.little hs.head))) rfl rfl ?a3) rfl) ?_
 rotate_left 3
 .refine az (.aS (.dT (.of (x:=.val (.bool false)) rfl (.ip (l:=[]) (.rf rfl) rfl .nil (K7 s.name hs.name _)) rfl rfl)) .nil) ?_
  refine rt (r:=.own (.list (s.d2.map gh))) (.bin (.rf rfl) (.rf rfl) rfl rfl (qx ?a4)) rfl rfl (q _ rfl)
  unfold jr Sg.FV
  simp only[List.length_append,List.length_cons,List.length_nil];lia
 .simp only[List.length_cons,List.length_nil];lia
 .simp only[List.length_append,List.length_cons,List.length_nil];lia
 .rw[show iI s.big s.little (fst s.big s.head)=iI s.big s.little s.first from rfl]
  exact qx (by simp only[List.length_append,List.length_cons,List.length_nil];lia)
end
noncomputable def gy:au->LT
 | .sg _ s=>s.d2
 | .rg r=>r.d2
theorem Ke:∀b,(gy b).length<=10
 | .sg _ s=>Tg s
 | .rg _=>Nat.le_of_ble_eq_true rfl
abbrev PT:=au×Str×O
noncomputable def fh(q:PT):O:=.tup [.str q.2.1,.int q.1.key,.int q.1.last,q.2.2]
noncomputable def bY(B:List au):List PT:=B.flatMap λb=>(gy b).map (Prod.mk b)
theorem zt(B:List au)(b:au):bY (B++[b])=bY B++(gy b).map (Prod.mk b):=by unfold bY;rw[List.flatMap_append];exact congrArg _ (List.append_nil _)
theorem t9:∀B:List au,(bY B).length<=10*B.length
 | []=>Nat.zero_le _
 | b::r=>by
  have h:=t9 r
  have h':=Ke b
  show((gy b).map (Prod.mk b)++bY r).length<=_
  rw[List.length_append,List.length_map,List.length_cons];lia
noncomputable def fG(g:Str->Int->O)(ps:List PT):Str->Int->O:=ps.foldl (λg q=>upd g q.2.1 q.1.key q.1.last q.2.2) g
noncomputable def cQ(p:Str×O):Bool:=KV p.1 (bZ p.1)&&KV p.1 p.2
theorem vQ(n:Nat):∀ps:List Nat,(nats ps).all (dM (n+1))=true
 | []=>rfl
 | _::r=>vQ n r
theorem SJ:∀i∈List.range 6,(lG i).all cQ=true:=by decide+kernel
theorem SD(n:Nat):(jy n).all cQ=true:=by unfold jy;split<;>kernel_rfl
theorem xn{nm:Str}(h:KV nm (bZ nm)=true)(h':(nm==(⟨#[110,97,109,101]⟩:Str))=false):∀o:Option Nat,(opts nm o).all cQ=true
 | none=>rfl
 | some n=>by
  show(KV nm (bZ nm)&&KV nm (.int n)&&true)=true
  rw[h];unfold KV;rw[h'];rfl
theorem SH(ps:List Nat):∀t,(kU ps t).all cQ=true
 | none=>rfl
 | some t=>by
  show(cQ (⟨#[100,109]⟩,jD ps (some t))&&true)=true
  have e:cQ (⟨#[100,109]⟩,jD ps (some t))=((nats ps).all (dM 4)&&true):=by kernel_rfl
  rw[e,vQ];rfl
theorem SK{s:Sg}(h:s.ok):s.d2.all cQ=true:=by
 unfold Sg.d2 jr iI
 simp only[List.all_append,SD,SH,SJ s.num h.num]
 rw[xn (nm:=⟨#[117,99]⟩) (by kernel_rfl) (by kernel_rfl),xn (nm:=⟨#[108,99]⟩) (by kernel_rfl) (by kernel_rfl),xn (nm:=⟨#[116,99]⟩) (by kernel_rfl) (by kernel_rfl)]
 kernel_rfl
theorem SM(r:aX):r.d2.all cQ=true:=by kernel_rfl
theorem sT:(∀c∈cI,c<=1114111)/\∀r∈aT,r.last<=1114111:=by decide+kernel
def zf(q:PT):Prop:=cQ q.2=true/\q.1.key<=q.1.last/\q.1.last<=1114111
theorem Jq{L:SL}{B:List au}(hL:bV L)(hB:bR L B):∀q∈bY B,zf q:=λq hq=>(List.mem_flatMap.mp hq).elim λb z=>(List.mem_map.mp z.2).elim λp e=>by
 have I:=hB.mem z.1
 cases e.2
 cases b with
 | sg c s=>exact⟨List.all_eq_true.mp (SK (hL.ok _ (ju I))) p e.1,Nat.le_refl _,sT.1 c (hL.pl _ (ju I))⟩
 | rg r=>exact⟨List.all_eq_true.mp (SM r) p e.1,Nat.le_of_lt (p5 r (iG I)).1,sT.2 r (iG I)⟩
theorem X8(i:Nat):∀b:au,∃fs n,nZ i b=uV b.key b.last fs n
 | .sg _ _=>⟨_,_,rfl⟩
 | .rg _=>⟨_,_,rfl⟩
theorem Yr{G:FT}{t:MT}{bs:bj}{x:O}{xs:List O}{st st1:St}{K:KS}(h:Ew G t (.val x) st st1)(q:∀K':KS,(∀st2,K' .next st2=di (λx=>cM tab G t (.val x)) (wSs tab G bs) xs st2 K)->wSs tab G bs st1 K') :
  di (λx=>cM tab G t (.val x)) (wSs tab G bs) (x::xs) st K:=h _ (q _ λZ=>rfl)
noncomputable def eH(t d:O)(ps:VS)(g:Nat->Option VS)(H:HH):St:=⟨[some (.val t),some (.val d),some ps,g 3,g 4,g 5,g 6,g 7],[false,false],[],H⟩
noncomputable def Tu:bj:=match rd.body with
 | .cons _ (.cons (.for _ _ b) _)=>b
 | _=>.nil
noncomputable def Gm:bI×bj:=match rd.body with
 | .cons _ (.cons _ (.cons (.for (.tup t) _ b) _))=>(t,b)
 | _=>(.nil,.nil)
noncomputable def g4(g:Nat->Option VS)(a b c:Option VS):Nat->Option VS
 | 3=>a
 | 4=>b
 | 5=>c
 | i=>g i
section
variable{k:Nat}{L:SL}{B:List au}{H:HH}{d m:Nat}
theorem T3(hL:bV L){b:au}(I:b∈bx L aT)(i:Nat):Pu (F (k+8)) 47 [.val (nZ i b)] (iy (gy b)):=match b,I with
 | .sg c s,I=>Uj (hL.pl _ (ju I)) (hL.ok _ (ju I))
 | .rg r,I=>Ld r (iG I)
theorem Jk{a b:Nat}{fs:List (List UInt8)}{n:Int}:cY (uV a b fs n) ⟨#[102,105,114,115,116]⟩=some (.int a):=t7
theorem Jl{a b:Nat}{fs:List (List UInt8)}{n:Int}:cY (uV a b fs n) ⟨#[108,97,115,116]⟩=some (.int b):=by kernel_rfl
theorem Gp(hL:bV L)(hB:bR L B){t dv:O}{K:KS}(q:∀g,K .next (eH t dv (.own (.list ((bY B).map fh))) g H)):∀{rest done:List au} {i:Nat} {g:Nat->Option VS},B=done++rest->
  di (λx=>cM tab (F (k+8)) (.slot 3) (.val x)) (wSs tab (F (k+8)) Tu) (d9 i rest) (eH t dv (.own (.list ((bY done).map fh))) g H) K
 | [],done,i,g,e=>by rw[List.append_nil] at e;exact e▸q g
 | b::rest,done,i,g,e=>by
  have I:=hB.mem (show b∈B from e▸List.mem_append_right _ (.head _))
  have ih:=λi g=>Gp hL hB q (rest:=rest) (done:=done++[b]) (i:=i) (g:=g) (by rw[List.append_assoc];exact e)
  have hlen:(bY done).length+(gy b).length<=130:=by
   have:=t9 (done++[b])
   have CH:=hB.len
   rw[e,List.length_append,List.length_cons] at CH
   rw[zt,List.length_append,List.length_map,List.length_append,List.length_singleton] at this
   lia
  refine(X8 i b).elim λfs z=>z.elim λn hu=>?_
  have hw:Ew (F (k+8)) (.slot 3) (.val (nZ i b)) (eH t dv (.own (.list ((bY done).map fh))) g H) (eH t dv (.own (.list ((bY done).map fh))) (g4 g (some (.val (uV b.key b.last fs n))) (g 4) (g 5)) H):=by rw[hu];exact .sv rfl
  refine Yr hw λK' hK=>?_
  refine lp (L:=gy b) gh (λdp (g':Option VS×Option VS)=>eH t dv (.own (.list ((bY done++dp.map (Prod.mk b)).map fh))) (g4 g (some (.val (uV b.key b.last fs n))) g'.1 g'.2) H) (g:=(g 4,g 5)) ?_ (λdp p rp g' e'=>⟨(some (.val (.str p.1)),some (.val p.2)),eH t dv (.own (.list ((bY done++dp.map (Prod.mk b)).map fh))) (g4 g (some (.val (uV b.key b.last fs n))) (some (.val (.str p.1))) (some (.val p.2))) H,.tup rfl (.cons (.sv rfl) (.cons (.sv rfl) .nil)),?_⟩) λg'=>?_
  .dsimp only
   rw[List.map_nil,List.append_nil]
   exact .ea (.own (.p1 (o:=.own (.list ((gy b).map gh))) (.rf rfl) (hu▸T3 hL I i))) rfl
  .dsimp only
   rw[show(bY done++(dp++[p]).map (Prod.mk b)).map fh=(bY done++dp.map (Prod.mk b)).map fh++[fh (b,p)] from by rw[List.map_append,List.map_append,List.map_append,List.map_append,List.append_assoc];rfl]
   refine .cons (.ex (.cl (.rf rfl) rfl (.cons (.val (.tup (.cons (.val (.rf rfl)) (.cons (.val (.attr (.rf rfl) rfl Jk)) (.cons (.val (.attr (.rf rfl) rfl Jl)) (.cons (.val (.rf rfl)) .nil)))))) .nil) rfl (gC ?_) rfl)) .nil
   rw[e',List.length_append] at hlen
   rw[List.length_map,List.length_append,List.length_map];lia
  .have:=ih (i+b.rows.length) (g4 g (some (.val (uV b.key b.last fs n))) g'.1 g'.2)
   rw[zt] at this
   show K' .next _
   rw[hK];exact this
theorem DR.mono{ms:List (Key×O)}{g:Str->Int->O}{n n':Nat}(h:DR H d m ms g n)(hn:n<=n'):DR H d m ms g n':=⟨h.obj,h.dct,h.off,λnm v hv=>(h.on nm v hv).mono hn λZ Z Z Z h=>h,h.inj,Nat.le_trans h.pL hn⟩
theorem Gn:∀{ps:List PT} {H:HH} {ms:List (Key×O)} {g:Str->Int->O} {n:Nat},DR H d m ms g n->n+2*ps.length<300->(∀q∈ps,zf q)->∃H' bP,DR H' d m bP (fG g ps) (n+2*ps.length)/\
  ∀(t:O) (P:VS) (cn:Nat->Option VS) (K:KS),(∀cn,K .next (eH t (.ref d) P cn H'))->di (λx=>cM tab (F (k+3)) (.tup Gm.1) (.val x)) (wSs tab (F (k+3)) Gm.2) (ps.map fh) (eH t (.ref d) P cn H) K
 | [],H,ms,g,n,h,_,_=>⟨H,ms,h,λt P cn K q=>q cn⟩
 | p::ps,H,ms,g,n,h,hn,hp=>by
  have h0:=hp p (.head _)
  have hk:=Bool.and_eq_true_iff.mp h0.1
  rw[List.length_cons] at hn
  refine(xX (k:=k) h (by lia) hk.1 hk.2 (Int.natCast_nonneg _) (Int.ofNat_le.mpr h0.2.1) (Int.ofNat_le.mpr h0.2.2)).elim λjl z=>z.elim λsA z=>(Gn z.1 (by lia) λq hq=>hp q (.tail _ hq)).elim λoa w=>w.elim λpM w=>⟨oa,pM,?_,λt P cn K q=>?_⟩
  .have:=w.1
   rw[show n+2+2*ps.length=n+2*(ps.length+1) by exact Nat.add_right_comm _ _ _] at this;exact this
  .refine fz (st1:=eH t (.ref d) P (λi=>match i with | 3=>cn 3 | 4=>some (.val (.str p.2.1)) | 5=>some (.val p.2.2) | 6=>some (.val (.int p.1.key)) | _=>some (.val (.int p.1.last))) H)
    (st2:=eH t (.ref d) P (λi=>match i with | 3=>cn 3 | 4=>some (.val (.str p.2.1)) | 5=>some (.val p.2.2) | 6=>some (.val (.int p.1.key)) | _=>some (.val (.int p.1.last))) jl) (.tup rfl (.cons (.sv rfl) (.cons (.sv rfl) (.cons (.sv rfl) (.cons (.sv rfl) .nil))))) ?_ (w.2 _ _ _ _ q)
   exact .cons (.ex (.ip (l:=[.val (.str p.2.1),.val (.int p.1.key),.val (.int p.1.last),.val p.2.2]) (.rf rfl) (pC h.obj rfl) (.cons (.rf rfl) (.cons (.rf rfl) (.cons (.rf rfl) (.cons (.rf rfl) .nil)))) z.2)) .nil
theorem Up{ms:List (Key×O)}{g:Str->Int->O}(hL:bV L)(hB:bR L B)(h:DR H d m ms g 0):∃H' bP,DR H' d m bP (fG g (bY B)) 290/\Ph (F (k+9)) 48 [.val (.bytes (fileOf B)),.val (.ref d)] H (.val .none) H':=by
 have Y:=t9 B
 have CH:=hB.len
 refine(Gn (k:=k+5) h (show 0+2*(bY B).length<300 by lia) (Jq hL hB)).elim λH' z=>z.elim λbP z=>⟨H',bP,z.1.mono (by lia),λQ q=>?_⟩
 refine bL rd rfl rfl rfl ?_
 refine az (.so (.lst .nil) rfl) ?_
 have hI:EI (F (k+8)) (eH (.bytes (fileOf B)) (.ref d) (.own (.list [])) (λZ=>none) H) (.of (.call 41 (.cons (.slot 0) .nil))) (d9 0 B) (eH (.bytes (fileOf B)) (.ref d) (.own (.list [])) (λZ=>none) H):=
  .ea (.own (.p1 (o:=.own (.list (d9 0 B))) (.rf rfl) (Uy (k:=k+4) hL hB))) rfl
 refine hI _ (gp (Gp hL hB (λg=>?_) (rest:=B) (done:=[]) rfl))
 have vF:EI (F (k+8)) (eH (.bytes (fileOf B)) (.ref d) (.own (.list ((bY B).map fh))) g H) (.of (.slot 2)) ((bY B).map fh) (eH (.bytes (fileOf B)) (.ref d) (.val (.ao (.list ((bY B).map fh)))) g H):=.ea (.rf (.rf rfl) rfl) rfl
 exact vF _ (gp (z.2 _ _ _ _ λg=>nd rfl (q _ rfl)))
end
theorem zz(g:Str->Int->O)(a b:List PT):fG g (a++b)=fG (fG g a) b:=List.foldl_append
theorem qA{nm:Str}{x:Int}:∀{ps:List PT} (g:Str->Int->O),(∀q∈ps,¬((q.1.key:Int)<=x/\x<=q.1.last))->fG g ps nm x=g nm x
 | [],_,_=>rfl
 | p::r,g,h=>(qA (upd g p.2.1 p.1.key p.1.last p.2.2) λq hq=>h q (.tail _ hq)).trans (if_neg λe=>h p (.head _) e.2)
noncomputable def lE(l:LT)(nm:Str)(d:O):O:=l.foldl (λd p=>if nm=p.1 then p.2 else d) d
theorem zA{b:au}{x:Int}(h1:(b.key:Int)<=x)(h2:x<=b.last)(nm:Str):∀(l:LT) (g:Str->Int->O),fG g (l.map (Prod.mk b)) nm x=lE l nm (g nm x)
 | [],g=>rfl
 | p::r,g=>by
  refine(zA h1 h2 nm r (upd g p.1 b.key b.last p.2)).trans (congrArg (lE r nm) ?_)
  by_cases hn:nm=p.1
  .exact(if_pos ⟨hn,h1,h2⟩).trans (if_pos hn).symm
  .exact(if_neg λe=>hn e.1).trans (if_neg hn).symm
section
variable{L:SL}{B:List au}
theorem ua{l:List au}{x:Int}(h:∀b∈l,¬((b.key:Int)<=x/\x<=b.last)):∀q∈bY l,¬((q.1.key:Int)<=x/\x<=q.1.last):=λq hq=>(List.mem_flatMap.mp hq).elim λb z=>(List.mem_map.mp z.2).elim λp e=>by
 cases e.2;exact h b z.1
theorem ub(hL:bV L)(hB:bR L B){b:au}(I:b∈B){x:Int}(h1:(b.key:Int)<=x)(h2:x<=b.last)(nm:Str):fG c7 (bY B) nm x=lE (gy b) nm (bZ nm):=by
 refine(List.append_of_mem I).elim λl1 z=>z.elim λl2 e=>?_
 have hs:=zU hL hB
 rw[e,List.pairwise_append,List.pairwise_cons] at hs
 rw[e,show bY (l1++b::l2)=bY l1++((gy b).map (Prod.mk b)++bY l2) from(List.flatMap_append).trans (congrArg _ List.flatMap_cons),zz,zz,qA _ (ua λc hc z=>?_),zA h1 h2,qA _ (ua λc hc z=>?_)]
 .rfl
 .have:=hs.2.2 c hc b (.head _)
  lia
 .have:=hs.2.1.1 c hc
  lia
noncomputable def Ik:List Str:=[⟨#[103,99]⟩,⟨#[99,99,99]⟩,⟨#[98,99]⟩,⟨#[100,109]⟩,⟨#[117,99]⟩,⟨#[108,99]⟩,⟨#[116,99]⟩,⟨#[110,116]⟩,⟨#[110,118]⟩,⟨#[110,97,109,101]⟩]
noncomputable def fw(l:LT)(V:List O):List O:=Ik.zipWith (lE l) V
theorem IZ{α β:Type}(f g:α->β->β):∀(N:List α) (V:List β),N.zipWith g (N.zipWith f V)=N.zipWith (λn v=>g n (f n v)) V
 | [],_=>rfl
 | _::_,[]=>rfl
 | n::N,v::V=>congrArg (_::·) (IZ f g N V)
theorem mc(a b:LT)(V:List O):fw (a++b) V=fw b (fw a V):=by
 unfold fw
 rw[IZ]
 exact congrArg (λf=>Ik.zipWith f V) (funext λnm=>funext λd=>List.foldl_append)
section
variable{a0 a1 a2 a3 a4 a5 a6 a7 a8 a9:O}
theorem X9{gc bc:Str}:fw [(⟨#[103,99]⟩,.str gc),(⟨#[98,99]⟩,.str bc)] [a0,a1,a2,a3,a4,a5,a6,a7,a8,a9]=[.str gc,a1,.str bc,a3,a4,a5,a6,a7,a8,a9]:=by kernel_rfl
set_option tactic.hygienic true in
theorem Yb{n:Nat}:fw (jy n) [a0,.int 0,a2,a3,a4,a5,a6,a7,a8,a9]=[a0,.int n,a2,a3,a4,a5,a6,a7,a8,a9]:=by
 unfold jy
 split
 .rename_i h;subst h;kernel_rfl
 .kernel_rfl
theorem Ye{v:O}:fw [(⟨#[110,97,109,101]⟩,v)] [a0,a1,a2,a3,a4,a5,a6,a7,a8,a9]=[a0,a1,a2,a3,a4,a5,a6,a7,a8,v]:=by kernel_rfl
theorem Yc{ps:List Nat}:∀t,fw (kU ps t) [a0,a1,a2,.none,a4,a5,a6,a7,a8,a9]=[a0,a1,a2,jD ps t,a4,a5,a6,a7,a8,a9]
 | none=>by kernel_rfl
 | some t=>by kernel_rfl
theorem Yg:∀i∈List.range 6,fw (lG i) [a0,a1,a2,a3,a4,a5,a6,.none,.none,a9]=[a0,a1,a2,a3,a4,a5,a6,nJ.getD i .none,nK.getD i .none,a9]:=List.map_inj_left.mp (by kernel_rfl)
theorem Yi:∀o,fw (opts ⟨#[117,99]⟩ o) [a0,a1,a2,a3,.none,a5,a6,a7,a8,a9]=[a0,a1,a2,a3,oi o,a5,a6,a7,a8,a9]
 | none=>by kernel_rfl
 | some n=>by kernel_rfl
theorem Yd:∀o,fw (opts ⟨#[108,99]⟩ o) [a0,a1,a2,a3,a4,.none,a6,a7,a8,a9]=[a0,a1,a2,a3,a4,oi o,a6,a7,a8,a9]
 | none=>by kernel_rfl
 | some n=>by kernel_rfl
theorem Yh:∀o,fw (opts ⟨#[116,99]⟩ o) [a0,a1,a2,a3,a4,a5,.none,a7,a8,a9]=[a0,a1,a2,a3,a4,a5,oi o,a7,a8,a9]
 | none=>by kernel_rfl
 | some n=>by kernel_rfl
end
theorem XZ{s:Sg}(h:s.ok):s.told.map (λp=>lE s.d2 p.1 (bZ p.1))=s.told.map (·.2):=by
 have e:s.told.map (λp=>lE s.d2 p.1 (bZ p.1))=fw s.d2 [.str ⟨#[67,110]⟩,.int 0,.str ⟨#[76]⟩,.none,.none,.none,.none,.none,.none,.none]:=by kernel_rfl
 rw[e]
 unfold Sg.d2 jr iI
 rw[mc,mc,mc,mc,mc,mc,mc,X9,Yb,Ye,Yc,Yg _ h.num,Yi,Yd,Yh,show fst s.big s.first=s.first from Mr _ _]
 rfl
theorem XY(hL:bV L)(hB:bR L B){c:Nat}{s:Sg}(h:(c,s)∈L):∀p∈s.told,fG c7 (bY B) p.1 c=p.2:=λp hp=>
 (ub hL hB (hB.perm.mem_iff.mpr (List.mem_append_left _ (List.mem_map.mpr ⟨_,h,rfl⟩))) (b:=.sg c s) (Int.le_refl _) (Int.le_refl _) p.1).trans (List.map_inj_left.mp (XZ (hL.ok _ h)) p hp)
noncomputable def mV:Str:=⟨#[103,99]⟩
theorem TH(hL:bV L)(hB:bR L B){r:aX}(h:r∈aT):fG c7 (bY B) mV r.first=.str r.gc/\fG c7 (bY B) mV r.last=.str r.gc:=by
 have I:au.rg r∈B:=hB.perm.mem_iff.mpr (List.mem_append_right _ (List.mem_map.mpr ⟨_,h,rfl⟩))
 have bD:(r.first:Int)<=r.last:=Int.ofNat_le.mpr (Nat.le_of_lt (p5 r h).1)
 have e:lE (gy (.rg r)) mV (bZ mV)=.str r.gc:=by kernel_rfl
 exact⟨(ub hL hB I (Int.le_refl _) bD _).trans e,(ub hL hB I bD (Int.le_refl _) _).trans e⟩
theorem Fc:(∀c∈cI,c≠122)/\∀r∈aT,122<r.first:=by decide+kernel
theorem zG(hL:bV L)(hB:bR L B)(nm:Str):fG c7 (bY B) nm 122=bZ nm:=by
 rw[qA _ (ua λb I z=>?_)]
 .rfl
 .have fV:=hB.mem I
  cases b with
  | sg c s=>
   have:=Fc.1 c (hL.pl _ (ju fV))
   have h1:(c:Int)<=122:=z.1
   have h2:122<=(c:Int):=z.2
   lia
  | rg r=>
   have:=Fc.2 r (iG fV)
   have h1:(r.first:Int)<=122:=z.1
   lia
end
theorem uR{f:O->O->Option Bool}{p:O->Bool}(hf:∀a,p a=true->f a a=some true):∀x:List O,x.all p=true->dW f x x=some true
 | [],_=>rfl
 | a::r,h=>by
  have h:=Bool.and_eq_true_iff.mp h
  show(match f a a,dW f r r with | some x,some y=>some (x&&y) | _,_=>none)=_
  rw[hf a h.1,uR hf r h.2];rfl
theorem uS:∀(n:Nat) (a:O),dM n a=true->eU n a a=some true
 | 0,_,h=>nomatch h
 | n+1,.none,_=>rfl
 | n+1,.int x,_=>congrArg some (beq_self_eq_true x)
 | n+1,.str x,_=>congrArg some (beq_self_eq_true x)
 | n+1,.tup x,h=>uR (uS n) x h
 | n+1,.bytes _,h=>nomatch h
 | n+1,.bool _,h=>nomatch h
 | n+1,.ao _,h=>nomatch h
 | n+1,.ref _,h=>nomatch h
theorem C5{v:O}(h:dM 6 v=true):(∀st:St,bJ (.val v) st=some v)/\cz .NotEq v v=some false/\cz .Eq v v=some true:=by
 have e:dU v v=some true:=uS 6 v h
 refine⟨λst=>?_,?_,e⟩
 .cases v<;>first | rfl | exact absurd (show false=true from h) Bool.false_ne_true
 .have n:w6 v v=(dU v v).map not:=by cases v<;>first | rfl | exact absurd (show false=true from h) Bool.false_ne_true
  exact n.trans (by rw[e];rfl)
def Hg(v:O):Prop:=(∀st:St,bJ (.val v) st=some v)/\cz .NotEq v v=some false
theorem xj:∀o,dM 6 (oi o)=true
 | none=>rfl
 | some _=>rfl
theorem KR(ps:List Nat):∀t,dM 6 (jD ps t)=true
 | none=>rfl
 | some t=>by
  have e:dM 6 (jD ps (some t))=((nats ps).all (dM 4)&&true):=by kernel_rfl
  rw[e,vQ];rfl
theorem Fq:∀i∈List.range 6,dM 6 (nJ.getD i .none)=true/\dM 6 (nK.getD i .none)=true:=by decide+kernel
theorem X0{s:Sg}(h:s.ok):∀p∈s.told,Hg p.2:=by
 have S:=λv (z:dM 6 v=true)=>(⟨(C5 z).1,(C5 z).2.1⟩:Hg v)
 unfold Sg.told
 simp only[List.forall_mem_cons,List.not_mem_nil,false_implies,implies_true,and_true]
 exact⟨S _ rfl,S _ rfl,S _ rfl,S _ (KR _ _),S _ (xj _),S _ (xj _),S _ (xj _),S _ (Fq _ h.num).1,S _ (Fq _ h.num).2,λst=>rfl,congrArg (λb=>some (!b)) (beq_self_eq_true _)⟩
def Sh(G:FT)(f:Nat)(c:AC)(H:HH)(v:O)(c':AC)(H':HH):Prop:=∀Q:VS->List VS->HH->Prop,Q (.val v) [.own c'] H'->GK G f [.own c] H Q
noncomputable def tI(s:Sg):O:=.ao (.list (s.told.map gh))
noncomputable def tH(L:SL):List (Key×O):=L.map λp=>(.i p.1,tI p.2)
noncomputable def lF(c:AC)(L:SL)(a b:Option VS)(H:HH):St:=⟨[some (.own c),some (.own (.dict (jd L))),some (.own (.dict (fT L))),some (.own (.dict (tH L))),a,b,none,none,none,none,none,none,none,none],[true],[],H⟩
noncomputable def Qs:bj:=match u3.body with
 | .cons _ (.cons (.for _ _ b) _)=>b
 | _=>.nil
theorem TL(s:Sg)(c:Nat):O.ao (.list (s.row c))=aQ (s.fields c):=congrArg (λl=>O.ao (.list l)) (TN s c)
theorem key_ne{L:SL}{f:Nat×Sg->O}{c:Nat}(h:∀p∈L,p.1≠c):∀e∈L.map (λp=>(Key.i p.1,f p)),e.1≠Key.i c:=λe he z=>(List.mem_map.mp he).elim λp hp=>h p hp.1 (Int.ofNat.inj (Key.i.inj ((congrArg Prod.fst hp.2).trans z)))
theorem w0{L:SL}(Y:L.length<1000){f:Nat×Sg->O}{c:Nat}(h:∀p∈L,p.1≠c)(v:O):gb (.dict (L.map λp=>(Key.i p.1,f p))) (.int c) v=some (.dict (L.map (λp=>(Key.i p.1,f p))++[(.i c,v)])):=yg rfl (by rw[List.length_map];exact Y) (key_ne h)
section
variable{k:Nat}{ns:List Int}{H:HH}
theorem w4:∀{xs:List O} {L:SL} {p:Nat},bV L->L.length+xs.length<=5->p+17*xs.length<=900->∃L' p',bV L'/\p'<=p+17*xs.length/\
  ∀(a b:Option VS) (K:KS),(∀a b,K .next (lF (bq ns p') L' a b H))->di (λx=>cM tab (F (k+4)) (.slot 4) (.val x)) (wSs tab (F (k+4)) Qs) xs (lF (bq ns p) L a b H) K
 | [],L,p,hL,_,_=>⟨L,p,hL,Nat.le_refl _,λa b K q=>q a b⟩
 | x::xs,L,p,hL,Y,hp=>by
  rw[List.length_cons] at Y hp
  have hc:pk ns p cI 0∈cI:=fg (by decide)
  generalize jI:pk ns p cI 0=c at hc
  cases hh:cg (jd L) (.i c) with
  | true=>
   refine(w4 hL (by exact Nat.le_of_lt (by assumption)) (show p+1+17*xs.length<=900 by lia)).elim λL' z=>z.elim λp' z=>⟨L',p',z.1,by rw[List.length_cons];lia,λa b K q=>?_⟩
   refine fz (st1:=lF (bq ns p) L (some (.val x)) b H) (.sv rfl) ?_ (z.2.2 (some (.val x)) (some (.val (.int c))) K q)
   refine .cons (.sv (.cv (congrArg (λ(n:Nat)=>O.int n) jI) (.pick (λ(n:Nat)=>.int n) cI 0 (by lia) rfl rfl (.rf rfl) (.rf rfl) rfl rfl)) rfl) ?_
   exact .cons (.aS (.cmp (.rf rfl) (.rf rfl) rfl rfl (congrArg (λb=>(some b).map not) hh)) .nil) .nil
  | false=>
   have bE:∀p∈L,p.1≠c:=λp hp e=>by
    have:=List.any_eq_false.mp hh (.i p.1,.ao (p.2.inst p.1)) (List.mem_map.mpr ⟨p,hp,rfl⟩)
    exact this (decide_eq_true (by rw[e]))
   have eZ:L.length<1000:=by lia
   refine(Uv (k:=k+1) (ns:=ns) (a:=p+1) (code:=c) (by lia) hc).elim λs w=>w.elim λp1 w=>?_
   have Nc:bV (L++[(c,s)]):=⟨by
     rw[List.map_append,List.nodup_append]
     exact⟨hL.nd,List.nodup_cons.mpr ⟨List.not_mem_nil,.nil⟩,λa ha b I e=>(List.mem_map.mp ha).elim λp hp=>bE p hp.1 (hp.2.trans (e.trans (List.mem_singleton.mp I)))⟩,
    λp hp=>(List.mem_append.mp hp).elim (hL.pl p) λh=>List.mem_singleton.mp h▸hc,λp hp=>(List.mem_append.mp hp).elim (hL.ok p) λh=>List.mem_singleton.mp h▸w.1,by rw[List.length_append,List.length_singleton];lia⟩
   refine(w4 Nc (by rw[List.length_append,List.length_singleton];exact Nat.le_trans (Nat.le_of_eq (Nat.add_right_comm _ _ _)) (by assumption)) (show p1+17*xs.length<=900 by have:=w.2.1;lia)).elim λL' z=>z.elim λp' z=>⟨L',p',z.1,by have:=w.2.1;rw[List.length_cons];lia,λa b K q=>?_⟩
   refine fz (st1:=lF (bq ns p) L (some (.val x)) b H) (.sv rfl) ?_ (z.2.2 (some (.val x)) (some (.val (.int c))) K q)
   refine .cons (.sv (.cv (congrArg (λ(n:Nat)=>O.int n) jI) (.pick (λ(n:Nat)=>.int n) cI 0 (by lia) rfl rfl (.rf rfl) (.rf rfl) rfl rfl)) rfl) ?_
   unfold lF jd fT tH
   rw[List.map_append,List.map_append,List.map_append]
   refine .cons (.c5 (.cmp (.rf rfl) (.rf rfl) rfl rfl (congrArg (λb=>(some b).map not) hh)) (.cons (.tg (.cv (congrArg (λr=>O.tup [.ao (s.inst c),r,tI s]) (TL s c)) (.pe (vs:=[.int c]) (.rf rfl) (.cons (.rf rfl) .nil) rfl w.2.2 rfl)) (.tup (vs:=[.ao (s.inst c),aQ (s.fields c),tI s]) rfl ?_)) .nil)) .nil
   exact .cons (.ix (λZ h=>h) (.rf rfl) (.rf rfl) rfl rfl (w0 eZ bE _) rfl) (.cons (.ix (λZ h=>h) (.rf rfl) (.rf rfl) rfl rfl (w0 eZ bE _) rfl) (.cons (.ix (λZ h=>h) (.rf rfl) (.rf rfl) rfl rfl (w0 eZ bE _) rfl) .nil))
end
theorem Gu:∀r∈aT,r.gc∈dA:=by decide+kernel
theorem Fw(w:Str):cz .NotEq (bo w) (bo w)=some false:=congrArg (λb=>some (!b)) (beq_self_eq_true _)
theorem uK:bZ mV=.str ⟨#[67,110]⟩/\bZ ⟨#[100,109]⟩=.none/\bZ ⟨#[115,99]⟩=.str ⟨#[90,122,122,122]⟩:=⟨by kernel_rfl,by kernel_rfl,by kernel_rfl⟩
noncomputable def qk(i:Nat)(x:Option VS)(g:Nat->Option VS):Nat->Option VS:=λj=>bif Nat.beq j i then x else g j
noncomputable def nE(c:AC)(L:SL)(t:List UInt8)(R:VS)(d:Nat)(H:HH)(g:Nat->Option VS):St:=⟨[some (.own c),some (.val (.ao (.dict (jd L)))),some (.own (.dict (fT L))),some (.val (.ao (.dict (tH L)))),g 4,g 5,some (.val (.bytes t)),some R,some (.val (.ref d)),g 9,g 10,g 11,g 12,g 13],[true],[],H⟩
noncomputable def sm(f:Str×O->O)(dp:LT)(o:Option VS):Option VS:=match dp.getLast? with
 | some p=>some (.val (f p))
 | none=>o
theorem D7{f:Str×O->O}{dp:LT}{q:Str×O}{o:Option VS}:sm f (dp++[q]) o=some (.val (f q)):=by unfold sm;rw[List.getLast?_concat]
noncomputable def gi(dp:LT)(g:Nat->Option VS)(c:Nat):Nat->Option VS
 | 5=>some (.val (.int c))
 | 9=>sm (λp=>.str p.1) dp (g 9)
 | 10=>sm (λp=>p.2) dp (g 10)
 | i=>g i
theorem CE{dp:LT}{q:Str×O}{g:Nat->Option VS}{c:Nat}:gi (dp++[q]) g c 9=some (.val (.str q.1)):=D7
theorem CD{dp:LT}{q:Str×O}{g:Nat->Option VS}{c:Nat}:gi (dp++[q]) g c 10=some (.val q.2):=D7
section
variable{k:Nat}{ns:List Int}{H:HH}{d m n:Nat}{ms:List (Key×O)}{g:Str->Int->O}{st st1 st2:St}{a b:ME}
theorem Ev.dg{nm:Str}{x:Int}{v:O}(h:DR st2.H d m ms g n)(h0:0<=x)(h1:x<=1114111)(hv:g nm x=v)(e:Ev (F (k+3)) st (.slot 8) (.val (.ref d)) st)(ea:Ev (F (k+3)) st a (.val (.str nm)) st1)(eb:Ev (F (k+3)) st1 b (.val (.int x)) st2)(hH:st.H=st2.H) :
  Ev (F (k+3)) st (.aw .get (.slot 8) (.cons a (.cons b .nil))) (.val v) st2:=
 .cv hv (.ip (l:=[.val (.str nm),.val (.int x)]) e (wN (hH▸h.obj) rfl) (.cons ea (.cons eb .nil)) (GO h h0 h1))
theorem Ug{p:Nat}(hp:p<=700):∃p' H',p'<=p+90/\Sh (F (k+10)) 68 (bq ns p) H (.bool true) (bq ns p') H':=by
 have h5:(bM ns p 5).toNat<5:=iL (m:=5) (by decide)
 have M7:0<=bM ns p 5:=Int.emod_nonneg _ (by decide)
 have hi:(1:Int)+bM ns p 5=((1+(bM ns p 5).toNat:Nat):Int):=congrArg (1+·) (Int.toNat_of_nonneg M7).symm
 have lj:=tM (1+(bM ns p 5).toNat)
 refine(w4 (k:=k+5) (ns:=ns) (H:=H) (xs:=jg (1+(bM ns p 5).toNat)) (L:=[]) (p:=p+1) ⟨.nil,nofun,nofun,Nat.zero_le _⟩ (by rw[lj];show 0+(1+_)<=5;rw[Nat.zero_add,Nat.add_comm];exact h5) (by rw[lj];lia)).elim λL z=>z.elim λp' z=>?_
 have hL:=z.1
 refine(Ua (k:=k) hL).elim λB hB=>?_
 have hD:=n8 H
 refine(Up (k:=k) hL hB.1 hD).elim λH' w=>w.elim λms w=>⟨p',H',by have:=z.2.1;rw[lj] at this;lia,λQ q=>?_⟩
 refine bL u3 rfl rfl rfl ?_
 refine az (.tr (.cons (.rf (r:=.own (.dict [])) rfl) (.cons (.rf (r:=.own (.dict [])) rfl) (.cons (.rf (r:=.own (.dict [])) rfl) .nil))) rfl rfl (.cons (.so rfl) (.cons (.so rfl) (.cons (.so rfl) .nil)))) ?_
 have hI:EI (F (k+9)) (lF (bq ns p) [] none none H) (.eF (.bin .Add (.aj 1) (.call 60 (.cons (.slot 0) (.cons (.aj 5) .nil))))) (jg (1+(bM ns p 5).toNat)) (lF (bq ns (p+1)) [] none none H):=
  .r1 (.bin (.rf rfl) (.draw (by exact Nat.lt_of_le_of_lt (by assumption) (by decide)) (by decide) (.rf rfl) (.rf rfl) rfl rfl) rfl rfl rfl) rfl (by rw[hi];exact nQ (by lia))
 refine hI _ (gp (z.2.2 _ _ _ λa b=>?_))
 refine az (.sv (.l1 (o:=.val (.bytes (fileOf B))) (.rf rfl) rfl hB.2 rfl) rfl) ?_
 refine az (.tr (.cons (.v1 (o:=.own (.list ((d4 B).map aX.sp))) (.rf rfl) (.rf rfl) rfl (Uw hL hB.1) rfl) (.cons (.cv (congrArg O.ref List.length_append) (.sF (l:=[]) (H':=H++[.dict []]) .nil (λQ q=>xW Q q) rfl)) .nil)) rfl rfl (.cons (.sv rfl) (.cons (.so rfl) .nil))) ?_
 refine az (.aS (.bS (u:=.ao (.list ((d4 B).map aX.sp))) (.rf rfl) rfl) .nil) ?_
 refine az (.ex (.ph (o:=.val .none) (l:=[.val (.bytes (fileOf B)),.val (.ref (H.length+1))]) (.cons (.rf rfl) (.cons (.rf rfl) .nil)) w.2)) ?_
 have NT:nh (.ao (.dict (tH L)))=some (L.map λp=>.int p.1):=congrArg some ((List.map_map (l:=L)).trans rfl)
 have R:=w.1
 refine lp (L:=L) (λp=>.int p.1) (λZ g=>nE (bq ns p') L (fileOf B) (.own (.list ((d4 B).map aX.sp))) (H.length+1) H' g) (g:=qk 4 a (qk 5 b λZ=>none)) (.ea (.rf (.rf rfl) rfl) NT) (λdone x rest g e=>?_) λg=>?_
 .have hx:=show x∈L from e▸List.mem_append_right _ (.head _)
  have N5:(x.1:Int)<=1114111:=Int.ofNat_le.mpr (sT.1 _ (hL.pl x hx))
  refine⟨gi x.2.told g x.1,_,.sv rfl,?_⟩
  refine S1.for (L:=x.2.told) (α:=Unit) gh (λdp Z=>nE (bq ns p') L (fileOf B) (.own (.list ((d4 B).map aX.sp))) (H.length+1) H' (gi dp g x.1)) (g:=()) (.ea (.val (.idx (.rf rfl) (.rf rfl) rfl rfl (hL.get (λp=>tI p.2) hx))) rfl) (λdp q rp Z e'=>⟨(),nE (bq ns p') L (fileOf B) (.own (.list ((d4 B).map aX.sp))) (H.length+1) H' (gi (dp++[q]) g x.1),?_,?_⟩) λZ=>.nil
  .unfold nE
   rw[CE,CD]
   exact .tup rfl (.cons (.sv rfl) (.cons (.sv rfl) .nil))
  .have hq:=show q∈x.2.told from e'▸List.mem_append_right _ (.head _)
   have hs:=X0 (hL.ok x hx) q hq
   unfold nE
   rw[CE,CD]
   exact .cons (.aS (.cmp (.dg R (Int.natCast_nonneg _) N5 (XY hL hB.1 hx q hq) (.rf rfl) (.rf rfl) (.rf rfl) rfl) (.rf rfl) rfl (hs.1 _) hs.2) .nil) .nil
 .refine lp (L:=d4 B) aX.sp (λZ g=>nE (bq ns p') L (fileOf B) (.val (.ao (.list ((d4 B).map aX.sp)))) (H.length+1) H' g) (g:=g) (.ea (.rf (.rf rfl) rfl) rfl) (λdone r rest g e=>?_) λg=>?_
  .have hr:=TK hB.1 r (e▸List.mem_append_right _ (.head _))
   have hx:=TH hL hB.1 hr
   have h1:(r.last:Int)<=1114111:=Int.ofNat_le.mpr (sT.2 r hr)
   have h2:(r.first:Int)<=1114111:=Int.le_trans (Int.ofNat_le.mpr (Nat.le_of_lt (p5 r hr).1)) h1
   refine⟨qk 11 (some (.val (.int r.first))) (qk 12 (some (.val (.int r.last))) (qk 13 (some (.val (.bytes (oct r.gc)))) g)),_,.tup rfl (.cons (.sv rfl) (.cons (.sv rfl) (.cons (.sv rfl) .nil))),?_⟩
   exact .cons (.aS (.eD (.cmp (.p1 (o:=.val (.bytes (oct r.gc))) (.dg R (Int.natCast_nonneg _) h2 hx.1 (.rf rfl) (.rf rfl) (.rf rfl) rfl) (g9 r.gc (Gu r hr))) (.rf rfl) rfl rfl (Fw _)) (.cmp (.p1 (o:=.val (.bytes (oct r.gc))) (.dg R (Int.natCast_nonneg _) h1 hx.2 (.rf rfl) (.rf rfl) (.rf rfl) rfl) (g9 r.gc (Gu r hr))) (.rf rfl) rfl rfl (Fw _))) .nil) .nil
  .exact rt (.cw (.cmp (.dg R (by decide) (by decide) ((zG hL hB.1 mV).trans uK.1) (.rf rfl) (.rf rfl) (.rf rfl) rfl) (.rf rfl) rfl rfl rfl) rfl rfl (.bS (u:=.none) (.dg R (by decide) (by decide) ((zG hL hB.1 ⟨#[100,109]⟩).trans uK.2.1) (.rf rfl) (.rf rfl) (.rf rfl) rfl) rfl)) rfl rfl q
end
abbrev SG:=Nat×Nat×Str
abbrev RN:=List (Option Str×Nat)
noncomputable def vL:List Str:=[⟨#[65]⟩,⟨#[66,99]⟩]
noncomputable def lay:RN->List (Option Str)
 | []=>[]
 | x::r=>lay r++List.replicate x.2 x.1
noncomputable def push(q:Option Str)(m:Nat):RN->RN
 | []=>[(q,m)]
 | x::r=>if x.1=q then(x.1,x.2+m)::r else(q,m)::x::r
theorem fj(q:Option Str)(m:Nat)(x:Option Str×Nat)(r:RN):push q m (x::r)=if x.1=q then(x.1,x.2+m)::r else(q,m)::x::r:=rfl
noncomputable def hd(R:RN):Option (Option Str):=R.head?.map (·.1)
def vq(q:Option Str):Prop:=∀v,q=some v->v∈vL
noncomputable def WF:RN->Prop
 | []=>True
 | x::r=>0<x.2/\vq x.1/\hd r≠some x.1/\WF r
set_option tactic.hygienic true in
theorem sq(q:Option Str)(m:Nat):∀R,lay (push q m R)=lay R++List.replicate m q
 | []=>rfl
 | x::r=>by
  rw[fj]
  split
  .rename_i h
   subst h
   show lay r++List.replicate (x.2+m) x.1=(lay r++List.replicate x.2 x.1)++_
   rw[List.append_assoc,List.replicate_append_replicate]
  .rfl
set_option tactic.hygienic true in
theorem t4{q:Option Str}{m:Nat}(hm:0<m)(hq:vq q):∀{R:RN},WF R->WF (push q m R)
 | [],_=>⟨hm,hq,nofun,trivial⟩
 | x::r,h=>by
  rw[fj]
  split
  .exact⟨Nat.add_pos_left h.1 m,h.2⟩
  .rename_i e
   exact⟨hm,hq,λz=>e (Option.some.inj z),h⟩
theorem nq(x:Option Str×Nat)(r:RN):(lay (x::r)).length=(lay r).length+x.2:=by
 show(lay r++List.replicate x.2 x.1).length=_
 rw[List.length_append,List.length_replicate]
noncomputable def lO(b m:Nat):Option Str->List SG
 | none=>[]
 | some v=>[(b,b+m - 1,v)]
noncomputable def aO:RN->List SG
 | []=>[]
 | x::r=>aO r++lO (lay r).length x.2 x.1
theorem G8{b m:Nat}{t:SG}:∀{q:Option Str},t∈lO b m q->q=some t.2.2/\t.1=b/\t.2.1=b+m - 1
 | some v,h=>by rw[List.mem_singleton.mp h];exact⟨rfl,rfl,rfl⟩
theorem lP:∀{R:RN},WF R->∀t∈aO R,t.1<=t.2.1/\t.2.1<(lay R).length/\t.2.2∈vL
 | x::r,h,t,ht=>by
  rw[nq]
  refine(List.mem_append.mp ht).elim (λht=>?_) λht=>?_
  .have:=lP h.2.2.2 t ht
   exact⟨this.1,Nat.lt_of_lt_of_le this.2.1 (Nat.le_add_right _ _),this.2.2⟩
  .have e:=G8 ht
   have:=h.1
   exact⟨by omega,by omega,h.2.1 _ e.1⟩
theorem G9:∀{R:RN},WF R->(aO R).Pairwise λs t=>s.2.1<t.1
 | [],_=>.nil
 | x::r,h=>by
  refine List.pairwise_append.mpr ⟨G9 h.2.2.2,?_,λa ha b I=>(G8 I).2.1▸(lP h.2.2.2 a ha).2.1⟩
  cases x.1 with
  | none=>exact .nil
  | some v=>exact List.pairwise_singleton _ _
theorem yd:∀{R:RN},WF R->(aO R).length<=(lay R).length
 | [],_=>Nat.le_refl _
 | x::r,h=>by
  rw[nq,aO,List.length_append]
  refine Nat.add_le_add (yd h.2.2.2) ?_
  cases x.1 with
  | none=>exact Nat.zero_le _
  | some v=>exact h.1
noncomputable def oy(g:Nat)(R:RN):RN:=if g=0 then R else push none g R
noncomputable def lX(R:RN)(g m:Nat)(v:Str):RN:=push (some v) (m+1) (oy g R)
set_option tactic.hygienic true in
theorem Ec(R:RN)(g m:Nat)(v:Str):lay (lX R g m v)=lay R++List.replicate g none++List.replicate (m+1) (some v):=by
 unfold lX oy
 rw[sq]
 split
 .rename_i h;subst h;exact congrArg (·++_) (List.append_nil _).symm
 .rw[sq]
set_option tactic.hygienic true in
theorem Ji{R:RN}(h:WF R)(g:Nat):WF (oy g R):=by
 unfold oy
 split
 .exact h
 .rename_i e;exact t4 (Nat.pos_of_ne_zero e) (show vq none from λv e=>by cases e) h
theorem t6{R:RN}(h:WF R){v:Str}(hv:v∈vL)(g m:Nat):WF (lX R g m v):=t4 (Nat.succ_pos m) (λw e=>Option.some.inj e▸hv) (Ji h g)
def si(ae:List SG)(s:SG)(J':List SG):Prop:=(ae=[]/\J'=[s])∨∃L t,ae=L++[t]/\((t.2.2=s.2.2/\t.2.1+1=s.1/\J'=L++[(t.1,s.2.1,s.2.2)])∨(¬(t.2.2=s.2.2/\t.2.1+1=s.1)/\J'=ae++[s]))
theorem DT{ae:List SG}{s:SG}(h:∀t∈ae,t.2.1+1<s.1):si ae s (ae++[s]):=by
 rcases List.eq_nil_or_concat ae with rfl | ⟨L,t,rfl⟩
 .exact .inl ⟨rfl,rfl⟩
 .rw[List.concat_eq_append] at h ⊢
  exact .inr ⟨L,t,rfl,.inr ⟨λz=>Nat.ne_of_lt (h t (List.mem_append_right _ (.head _))) z.2,rfl⟩⟩
theorem Hf{r:RN}{g:Nat}:aO ((none,g)::r)=aO r:=List.append_nil _
set_option tactic.hygienic true in
theorem Te:∀{R:RN} {g:Nat},∃k r,push none g R=(none,k)::r
 | [],g=>⟨_,_,rfl⟩
 | x::r,g=>by
  rw[fj]
  split
  .rename_i h;rw[h];exact⟨_,_,rfl⟩
  .exact⟨_,_,rfl⟩
set_option tactic.hygienic true in
theorem UN:∀(R:RN) (g:Nat),aO (push none g R)=aO R
 | [],_=>rfl
 | x::r,g=>by
  rw[fj]
  split
  .rename_i h
   show aO r++lO _ _ x.1=aO r++lO _ _ x.1
   rw[h];rfl
  .exact Hf
set_option tactic.hygienic true in
theorem Ha{R:RN}(h:WF R)(g m:Nat)(v:Str):si (aO R) ((lay R).length+g,(lay R).length+g+m,v) (aO (lX R g m v)):=by
 have ok:=lP h
 unfold lX oy
 split
 .rename_i hg
  subst hg
  rw[Nat.add_zero]
  match R,h,ok with
  | [],_,_=>exact .inl ⟨rfl,rfl⟩
  | (none,k)::r,h,ok=>
   have e:aO (push (some v) (m+1) ((none,k)::r))=aO ((none,k)::r)++[((lay ((none,k)::r)).length,(lay ((none,k)::r)).length+(m+1) - 1,v)]:=rfl
   rw[e]
   refine DT λt ht=>?_
   rw[Hf] at ht
   have:=(lP h.2.2.2 t ht).2.1
   have:=h.1
   rw[nq]
   show t.2.1+1<(lay r).length+k
   dsimp only at this
   lia
  | (some w,k)::r,h,ok=>
   have hk:0<k:=h.1
   refine .inr ⟨aO r,((lay r).length,(lay r).length+k - 1,w),rfl,?_⟩
   rw[nq]
   by_cases c:w=v
   .subst c
    refine .inl ⟨rfl,by dsimp only;lia,?_⟩
    rw[fj,if_pos rfl]
    show aO r++[((lay r).length,(lay r).length+(k+(m+1)) - 1,w)]=_
    rw[show(lay r).length+(k+(m+1)) - 1=(lay r).length+k+m by exact(Nat.add_assoc _ _ _).symm]
   .refine .inr ⟨λz=>c z.1,?_⟩
    rw[fj,if_neg λz=>c (Option.some.inj z)]
    show aO ((some w,k)::r)++[((lay ((some w,k)::r)).length,(lay ((some w,k)::r)).length+(m+1) - 1,v)]=_
    rw[nq];rfl
 .rename_i hg
  have e0:=sq none g R
  have e1:=UN R g
  have ha:=congrArg List.length e0
  rw[List.length_append,List.length_replicate] at ha
  refine(Te (R:=R) (g:=g)).elim λk z=>z.elim λr e=>?_
  rw[e] at e1 ha ⊢
  have:aO (push (some v) (m+1) ((none,k)::r))=aO ((none,k)::r)++[((lay ((none,k)::r)).length,(lay ((none,k)::r)).length+(m+1) - 1,v)]:=rfl
  rw[this,e1,ha]
  refine DT λt ht=>?_
  have:=(ok t ht).2.1
  show t.2.1+1<(lay R).length+g
  lia
noncomputable def one(l:List (Option Str))(R:RN):RN:=l.foldl (λR e=>push e 1 R) R
set_option tactic.hygienic true in
theorem Tf(q:Option Str)(m:Nat):∀R,push q 1 (push q m R)=push q (m+1) R
 | []=>if_pos rfl
 | x::r=>by
  rw[fj]
  split
  .rename_i h
   rw[fj,fj,if_pos h,if_pos h];rfl
  .rename_i h
   rw[fj,fj,if_pos rfl,if_neg h]
theorem FN(q:Option Str)(R:RN):∀m,one (List.replicate (m+1) q) R=push q (m+1) R
 | 0=>rfl
 | m+1=>by
  rw[List.replicate_succ',one,List.foldl_append]
  exact(congrArg (push q 1) (FN q R m)).trans (Tf q (m+1) R)
theorem FK:∀{R:RN},WF R->one (lay R) []=R
 | [],_=>rfl
 | (q,m+1)::r,h=>by
  show one (lay r++List.replicate (m+1) q) []=_
  rw[one,List.foldl_append]
  refine(congrArg (one (List.replicate (m+1) q)) (FK h.2.2.2)).trans ((FN q r m).trans ?_)
  cases r with
  | nil=>rfl
  | cons y r=>exact if_neg λz=>h.2.2.1 (congrArg some z)
 | (q,0)::r,h=>absurd h.1 (Nat.lt_irrefl 0)
theorem xx(l:List (Option Str))(e:Option Str):one (l++[e]) []=push e 1 (one l []):=List.foldl_append
theorem D9:∀(l:List (Option Str)) (R:RN),lay (one l R)=lay R++l
 | [],R=>(List.append_nil _).symm
 | e::l,R=>by
  refine(D9 l (push e 1 R)).trans ?_
  rw[sq,List.append_assoc];rfl
noncomputable def d6:Str:=⟨#[115,99]⟩
noncomputable def fk:Option Str->O
 | some v=>.str v
 | none=>.str ⟨#[90,122,122,122]⟩
noncomputable def pF(M:List SG):Str->Int->O:=M.foldl (λg s=>upd g d6 s.1 s.2.1 (.str s.2.2)) c7
theorem PJ(x:Option Str×Nat)(r:RN)(i:Nat):((lay (x::r))[i]?).join=if (lay r).length<=i/\i<(lay r).length+x.2 then x.1 else((lay r)[i]?).join:=by
 show((lay r++List.replicate x.2 x.1)[i]?).join=_
 by_cases h:(lay r).length<=i
 .rw[List.getElem?_append_right h,List.getElem?_replicate]
  by_cases h':i<(lay r).length+x.2
  .rw[if_pos (by omega),if_pos ⟨h,h'⟩];rfl
  .rw[if_neg (by omega),if_neg λz=>h' z.2,List.getElem?_eq_none h]
 .rw[List.getElem?_append_left (Nat.not_le.mp h),if_neg λz=>h z.1]
set_option tactic.hygienic true in
theorem Eu:∀{R:RN},WF R->∀i:Nat,pF (aO R) d6 i=fk ((lay R)[i]?).join
 | [],_,i=>uK.2.2
 | x::r,h,i=>by
  have ih:=Eu h.2.2.2 i
  have e:pF (aO (x::r))=(lO (lay r).length x.2 x.1).foldl (λg s=>upd g d6 s.1 s.2.1 (.str s.2.2)) (pF (aO r)):=List.foldl_append
  rw[e,PJ]
  have h0:=h.1
  cases x.1 with
  | none=>
   refine ih.trans (congrArg fk ?_)
   split
   .rename_i z
    rw[List.getElem?_eq_none z.1];rfl
   .rfl
  | some v=>
   show(if d6=d6/\(((lay r).length:Nat):Int)<=i/\(i:Int)<=(((lay r).length+x.2 - 1:Nat):Int) then O.str v else pF (aO r) d6 i)=_
   by_cases z:(lay r).length<=i/\i<(lay r).length+x.2
   .rw[if_pos ⟨rfl,by omega,by omega⟩,if_pos z];rfl
   .rw[if_neg λw=>z ⟨by omega,by omega⟩,if_neg z];exact ih
theorem HN{α:Type}(k:α->Nat)(f:α->O)(hf:∀x,∃r,f x=.tup (.int (k x)::r)){l m:List α}(hp:l.Perm m)(hm:m.Pairwise λa b=>k a<k b)(Y:m.length<=5):gU (l.map f)=some (m.map f):=by
 have e1:∀l:List α,gf (l.map f)=some (l.map λx=>((k x:Int),f x))/\mx (l.map f)=true:=λl=>by
  induction l with
  | nil=>exact⟨rfl,rfl⟩
  | cons x r ih=>
   refine(hf x).elim λq hq=>?_
   have e:j8 (f x)=some (k x:Int):=by rw[hq];rfl
   refine⟨?_,by rw[List.map_cons,hq];exact ih.2⟩
   show(match j8 (f x),gf (r.map f) with | some k,some l=>some ((k,f x)::l) | _,_=>none)=_
   rw[ih.1,e];rfl
 have hr:(m.map λx=>((k x:Int),f x)).Pairwise λa b=>a.1<b.1:=List.Pairwise.map _ (λa b h=>Int.ofNat_lt.mpr h) hm
 have hq:(l.map λx=>((k x:Int),f x)).Perm (m.map λx=>((k x:Int),f x)):=hp.map _
 have hn:((l.map λx=>((k x:Int),f x)).map (·.1)).Nodup:=(hq.map _).nodup_iff.mpr (List.Pairwise.map (S:=λ(a b:Int)=>a≠b) _ (λa b h=>Int.ne_of_lt h) hr)
 unfold gU
 rw[(e1 l).1]
 show(if _ then _ else _)=_
 rw[if_pos ⟨hn,.inr ⟨by rw[List.length_map,hp.length_eq];exact Y,(e1 l).2⟩⟩,s8 (f:=(·.1)) ((lW _).trans hq) (tx _ hn) hr,List.map_map];rfl
noncomputable def cK(a b:Nat):List UInt8:=if a<b then hx a++([46,46]++hx b) else hx a
noncomputable def cJ(s:SG):List UInt8:=cK s.1 s.2.1++([32,59,32]++oct s.2.2)
noncomputable def texts(M:List SG):List UInt8:=bW (M.map cJ)
noncomputable def G2:List SG:=(List.range 32).flatMap λb=>(List.range (b+1)).flatMap λa=>vL.map λv=>(a,b,v)
def mq(s:SG):Prop:=s.1<=s.2.1/\s.2.1<32/\s.2.2∈vL
theorem UM{s:SG}(h:mq s):s∈G2:=List.mem_flatMap.mpr ⟨s.2.1,List.mem_range.mpr h.2.1,List.mem_flatMap.mpr ⟨s.1,List.mem_range.mpr (Nat.lt_succ_of_le h.1),List.mem_map.mpr ⟨s.2.2,h.2.2,rfl⟩⟩⟩
noncomputable def HQ:List (Nat×Nat):=(List.range 32).flatMap λb=>(List.range (b+1)).map λa=>(a,b)
theorem WY{a b:Nat}(h:a<=b)(I:b<32):(a,b)∈HQ:=List.mem_flatMap.mpr ⟨b,List.mem_range.mpr I,List.mem_map.mpr ⟨a,List.mem_range.mpr (Nat.lt_succ_of_le h),rfl⟩⟩
theorem WV:HQ.all (λs=>qd (cK s.1 s.2) [46,46]==some (if s.1<s.2 then[hx s.1,hx s.2] else[hx s.1]))=true:=by decide+kernel
noncomputable def UK(s:SG):Bool:=(cJ s).all (λx=>x != 10&&x != 35&&x != 239)&&!(de (cJ s) BL).isEmpty&&decide ((cJ s).length<=20)&&kW (cJ s)==[cK s.1 s.2.1,oct s.2.2]
theorem UL:G2.all UK=true:=by decide+kernel
theorem yQ{v:Str}(h:v∈vL):v∈dA:=by
 have:∀v∈vL,v∈dA:=by decide+kernel
 exact this v h
theorem th{s:SG}(h:mq s):LN (cJ s)/\(cJ s).length<=20/\kW (cJ s)=[cK s.1 s.2.1,oct s.2.2]:=by
 have c1:=Bool.and_eq_true_iff.mp (List.all_eq_true.mp UL s (UM h))
 have c2:=Bool.and_eq_true_iff.mp c1.1
 have c3:=Bool.and_eq_true_iff.mp c2.1
 have l:=of_decide_eq_true c2.2
 refine⟨⟨λx aU=>?_,λe=>?_,Nat.lt_of_le_of_lt l (by decide)⟩,l,eq_of_beq c1.2⟩
 .have z:=Bool.and_eq_true_iff.mp (List.all_eq_true.mp c3.1 x aU)
  have z':=Bool.and_eq_true_iff.mp z.1
  exact⟨ne_of_beq_false ((Bool.not_eq_true' _).mp z'.1),ne_of_beq_false ((Bool.not_eq_true' _).mp z'.2),ne_of_beq_false ((Bool.not_eq_true' _).mp z.2)⟩
 .have:=c3.2
  rw[e] at this;cases this
theorem DV:∀l:List (List UInt8),aP [] l=l.flatten
 | []=>rfl
 | [x]=>(List.append_nil x).symm
 | x::y::r=>by
  show x++[]++aP [] (y::r)=_
  rw[DV (y::r),List.append_nil];rfl
theorem Ig(M:List SG):aP [] (M.map λs=>cJ s++[10])=texts M:=by
 rw[DV,texts,bW,List.flatMap_map];rfl
theorem yI:∀{M:List SG},(∀s∈M,mq s)->(texts M).length<=M.length*21:=λ{M} h=>by
 have:=wX (m:=20) (l:=M.map cJ) λx aU=>(List.mem_map.mp aU).elim λs e=>e.2▸(th (h s e.1)).2.1
 rw[List.length_map] at this;exact this
abbrev OP:=Nat×Nat×Str
noncomputable def nD(R:RN)(o:OP):SG:=((lay R).length+o.1,(lay R).length+o.1+o.2.1,o.2.2)
noncomputable def eJ(R:RN)(o:OP):RN:=lX R o.1 o.2.1 o.2.2
noncomputable def fZ:RN->List OP->List SG
 | _,[]=>[]
 | R,o::r=>nD R o::fZ (eJ R o) r
noncomputable def runs(R:RN)(os:List OP):RN:=os.foldl eJ R
noncomputable def aK(s:SG):O:=.tup [.int s.1,.int s.2.1,.str s.2.2]
def nN(os:List OP):Prop:=∀o∈os,o.2.2∈vL
theorem t5:∀{os:List OP} {R:RN},WF R->nN os->WF (runs R os)
 | [],_,h,_=>h
 | o::r,R,h,ho=>t5 (os:=r) (t6 h (ho o (.head _)) o.1 o.2.1) λx aU=>ho x (.tail _ aU)
theorem pD(R:RN)(o:OP):(lay (eJ R o)).length=(lay R).length+o.1+(o.2.1+1):=by
 rw[eJ,Ec,List.length_append,List.length_append,List.length_replicate,List.length_replicate]
theorem Ee:∀(os:List OP) (R:RN),(lay R).length<=(lay (runs R os)).length
 | [],R=>Nat.le_refl _
 | o::r,R=>Nat.le_trans (by rw[pD];lia) (Ee r (eJ R o))
theorem G6:∀{os:List OP} {R:RN},∀s∈fZ R os,(lay R).length<=s.1
 | o::r,R,s,h=>(List.mem_cons.mp h).elim (λe=>e▸Nat.le_add_right _ _) λh=>Nat.le_trans (by rw[pD];lia) (G6 s h)
theorem G3:∀(os:List OP) (R:RN),(fZ R os).Pairwise λa b=>a.1<b.1
 | [],_=>.nil
 | o::r,R=>List.pairwise_cons.mpr ⟨λb I=>Nat.lt_of_lt_of_le (by show _+_<_;rw[pD];lia) (G6 b I),G3 r _⟩
theorem yb:∀(os:List OP) (R:RN),(fZ R os).length=os.length
 | [],_=>rfl
 | _::r,_=>congrArg Nat.succ (yb r _)
theorem O3{l:List O}{v:O}:e7 (.ao (.list (l++[v]))) (.int (-1))=some v:=by
 show fH (l++[v]) (-1)=some v
 unfold fH
 rw[if_pos (tv (by decide)),if_neg (by decide),List.length_append,if_pos (by show(0:Int)<=-1+((l.length+1:Nat):Int);lia),show((-1:Int)+((l.length+[v].length:Nat):Int)).toNat=l.length by show((-1:Int)+((l.length+1:Nat):Int)).toNat=_;lia]
 exact List.getElem?_concat_length
theorem UQ{l:List O}{u v:O}:gb (.list (l++[v])) (.int (-1)) u=some (.list (l++[u])):=by
 show(if ((decide ((0:Int)<=-1)&&decide ((-1:Int)<((l++[v]).length:Nat)))=true) then some (AC.list ((l++[v]).set (Int.toNat (-1)) u)) else if ((decide ((-1:Int)=-1)&&decide (0<(l++[v]).length))=true) then some (AC.list ((l++[v]).set ((l++[v]).length - 1) u)) else none)=_
 rw[if_neg (by rw[show decide ((0:Int)<=-1)=false from rfl,Bool.false_and];exact Bool.false_ne_true),if_pos (by rw[List.length_append];exact Bool.and_eq_true_iff.mpr ⟨rfl,decide_eq_true (Nat.succ_pos _)⟩),List.length_append]
 refine congrArg (λl=>some (AC.list l)) ?_
 show(l++[v]).set l.length u=_
 rw[List.set_append_right _ _ (Nat.le_refl _),Nat.sub_self];rfl
theorem R1{l:List O}{v:O}:cz .NotEq (.ao (.list (l++[v]))) (.ao (.list []))=some true:=by
 cases l<;>rfl
noncomputable def dI(V ae:List O)(g:Option VS×Option VS×Option VS)(H:HH):St:=⟨[some (.own (.list V)),some (.own (.list ae)),g.1,g.2.1,g.2.2,none,none],[true],[],H⟩
noncomputable def fq(s:SG):Option VS×Option VS×Option VS:=(some (.val (.int s.1)),some (.val (.int s.2.1)),some (.val (.str s.2.2)))
noncomputable def yi:bI×bj:=match ve.body with
 | .cons _ (.cons (.for (.tup t) _ b) _)=>(t,b)
 | _=>(.nil,.nil)
section
variable{k:Nat}{H:HH}{V:List O}
theorem UX{ae J':List SG}{s:SG}(h:si ae s J')(Y:ae.length<1000):Eb (F (k+2)) yi.2 (dI V (ae.map aK) (fq s) H) (dI V (J'.map aK) (fq s) H):=by
 rcases h with⟨rfl,rfl⟩ | ⟨L,t,rfl,h⟩
 .exact .cons (.aS (.dT (.cmp (.rf rfl) (.rf rfl) rfl rfl rfl)) (.cons (.ex (.cl (.rf rfl) rfl (.cons (.val (.rf rfl)) .nil) rfl rfl rfl)) .nil)) .nil
 .have hJ:(L++[t]).map aK=L.map aK++[aK t]:=List.map_append
  have e0:Ev (F (k+2)) (dI V (L.map aK++[aK t]) (fq s) H) (.idx (.slot 1) (.neg (.aj 1))) (.val (aK t)) (dI V (L.map aK++[aK t]) (fq s) H):=.idx (.rf rfl) (.rf rfl) rfl rfl O3
  have t0:ET (F (k+2)) (dI V (L.map aK++[aK t]) (fq s) H) (.cmp .NotEq (.slot 1) (.lst .nil)) true (dI V (L.map aK++[aK t]) (fq s) H):=.cmp (.rf rfl) (.rf rfl) rfl rfl R1
  have tw:ET (F (k+2)) (dI V (L.map aK++[aK t]) (fq s) H) (.cmp .Eq (.idx (.idx (.slot 1) (.neg (.aj 1))) (.aj 2)) (.slot 4)) (t.2.2==s.2.2) (dI V (L.map aK++[aK t]) (fq s) H):=.cmp (.idx e0 (.rf rfl) rfl rfl rfl) (.rf rfl) rfl rfl rfl
  have tp:ET (F (k+2)) (dI V (L.map aK++[aK t]) (fq s) H) (.cmp .Eq (.bin .Add (.idx (.idx (.slot 1) (.neg (.aj 1))) (.aj 1)) (.aj 1)) (.slot 2)) ((t.2.1:Int)+1==(s.1:Int)) (dI V (L.map aK++[aK t]) (fq s) H):=.cmp (.bin (.idx e0 (.rf rfl) rfl rfl rfl) (.rf rfl) rfl rfl rfl) (.rf rfl) rfl rfl rfl
  rw[hJ]
  rcases h with⟨h1,h2,rfl⟩ | ⟨h,rfl⟩
  .rw[h1,beq_self_eq_true] at tw
   rw[←h2,show(t.2.1:Int)+1=((t.2.1+1:Nat):Int) from rfl,beq_self_eq_true] at tp
   rw[show(L++[(t.1,s.2.1,s.2.2)]).map aK=L.map aK++[aK (t.1,s.2.1,s.2.2)] from List.map_append]
   exact .cons (.c5 (.cw t0 (.cw tw tp)) (.cons (.tg (.tup (.cons (.val (.idx e0 (.rf rfl) rfl rfl rfl)) (.cons (.val (.rf rfl)) (.cons (.val (.rf rfl)) .nil)))) (.ix (λZ h=>h) (.rf rfl) (.rf rfl) rfl rfl UQ rfl)) .nil)) .nil
  .rw[List.map_append,hJ]
   have Nh:Eb (F (k+2)) (.cons (.expr (.aw .append (.slot 1) (.cons (.tup (.cons (.slot 2) (.cons (.slot 3) (.cons (.slot 4) .nil)))) .nil))) .nil) (dI V (L.map aK++[aK t]) (fq s) H) (dI V (L.map aK++[aK t]++[aK s]) (fq s) H):=
    .cons (.ex (.cl (.rf rfl) rfl (.cons (.val (.rf rfl)) .nil) rfl (gC (by rw[←hJ,List.length_map];exact Y)) rfl)) .nil
   refine .cons (.aS (.cw t0 ?_) Nh) .nil
   by_cases c:t.2.2=s.2.2
   .rw[c,beq_self_eq_true] at tw
    rw[beq_false_of_ne λe=>h ⟨c,by lia⟩] at tp
    exact .cw tw tp
   .rw[beq_false_of_ne c] at tw
    exact .dT tw
theorem Hk{K:KS}:∀{os:List OP} {R:RN} {g:Option VS×Option VS×Option VS},WF R->nN os->(lay (runs R os)).length<=31->(∀g,K .next (dI V ((aO (runs R os)).map aK) g H))->
  di (λx=>cM tab (F (k+2)) (.tup yi.1) (.val x)) (wSs tab (F (k+2)) yi.2) ((fZ R os).map aK) (dI V ((aO R).map aK) g H) K
 | [],R,g,_,_,_,q=>q g
 | o::r,R,g,hW,ho,Y,q=>by
  have hR:=Ee (o::r) R
  refine fz (st1:=dI V ((aO R).map aK) (fq (nD R o)) H) (.tup rfl (.cons (.sv rfl) (.cons (.sv rfl) (.cons (.sv rfl) .nil)))) (UX (Ha hW o.1 o.2.1 o.2.2) (Nat.lt_of_le_of_lt (yd hW) (by lia))) ?_
  exact Hk (os:=r) (t6 hW (ho o (.head _)) o.1 o.2.1) (λx aU=>ho x (.tail _ aU)) Y q
noncomputable def Hl(V:List O)(M done:List SG)(g:Option VS×Option VS×Option VS×Option VS)(H:HH):St:=⟨[some (.own (.list V)),some (.val (.ao (.list (M.map aK)))),g.1,g.2.1,g.2.2.1,some (.own (.list (done.map λs=>.bytes (cJ s++[10])))),g.2.2.2],[true],[],H⟩
theorem W4{a b:Nat}(h:a<=b)(I:b<32){st:St}{e c:ME}(he:Ev (F (k+1)) st e (.val (.bytes (hx a))) st)(hc:Ev (F (k+1)) st c (.val (.bytes (hx b))) st):Ev (F (k+1)) st (.bin .Add (.bin .Add e (.aC [46,46])) c) (.val (.bytes (hx a++[46,46]++hx b))) st:=by
 have h1:=iR a
 have h2:=iR b
 exact .bin (.bin he (.rf rfl) rfl rfl (dS (bA (m:=100) (by show _+2<=_;lia) rfl))) hc rfl rfl (dS (bA (m:=100) (by rw[List.length_append];show _+2+_<=_;lia) rfl))
end
def ku(M:List SG):Prop:=(∀s∈M,mq s)/\M.length<=31/\M.Pairwise λs t=>s.2.1<t.1
theorem yc{R:RN}(h:WF R)(Y:(lay R).length<=31):ku (aO R):=⟨λs hs=>⟨(lP h s hs).1,Nat.lt_of_lt_of_le (lP h s hs).2.1 (Nat.le_succ_of_le Y),(lP h s hs).2.2⟩,Nat.le_trans (yd h) Y,G9 h⟩
section
variable{k:Nat}{H:HH}
theorem Uu{os:List OP}{rows:List SG}(ho:nN os)(Y:(lay (runs [] os)).length<=31)(h5:os.length<=5)(hp:rows.Perm (fZ [] os)):Px (F (k+3)) 14 [.own (.list (rows.map aK))] (.val (.bytes (texts (aO (runs [] os))))) [.own (.list (rows.map aK))]:=λH Q q=>by
 have hW:=t5 (R:=[]) trivial ho
 have hM:=yc hW Y
 refine bL ve rfl rfl rfl ?_
 refine az (.so (.lst .nil) rfl) ?_
 have hI:EI (F (k+2)) (dI (rows.map aK) [] (none,none,none) H) (.of (.aG .sorted (.cons (.slot 0) .nil))) ((fZ [] os).map aK) (dI (rows.map aK) [] (none,none,none) H):=
  .ea (.own (d:=.list ((fZ [] os).map aK)) (.aG (.cons (.rf rfl) .nil) rfl (by
   show(gU (rows.map aK)).map _=_
   rw[HN (·.1) aK (λs=>⟨_,rfl⟩) hp (G3 os []) (by rw[yb];exact h5)];rfl))) rfl
 refine hI _ (gp (Hk (R:=[]) trivial ho Y λg=>?_))
 refine az (.so (.lst .nil) rfl) ?_
 refine lp (L:=aO (runs [] os)) aK (λdone g=>Hl (rows.map aK) (aO (runs [] os)) done g H) (g:=(g.1,g.2.1,g.2.2,none)) (.ea (.rf (.rf rfl) rfl) rfl) (λdone s rest g e=>⟨(some (.val (.int s.1)),some (.val (.int s.2.1)),some (.val (.str s.2.2)),some (.val (.bytes (cK s.1 s.2.1)))),⟨[some (.own (.list (rows.map aK))),some (.val (.ao (.list ((aO (runs [] os)).map aK)))),some (.val (.int s.1)),some (.val (.int s.2.1)),some (.val (.str s.2.2)),some (.own (.list (done.map λs=>.bytes (cJ s++[10])))),g.2.2.2],[true],[],H⟩,.tup rfl (.cons (.sv rfl) (.cons (.sv rfl) (.cons (.sv rfl) .nil))),?_⟩) λg=>?_
 .have hs:=hM.1 s (e▸List.mem_append_right _ (.head _))
  have hlen:=(th hs).2.1
  unfold cJ at hlen
  rw[List.length_append,List.length_append] at hlen
  have h3:([32,59,32]:List UInt8).length=3:=rfl
  unfold Hl
  rw[List.map_append]
  refine .cons (.sv (v:=.bytes (cK s.1 s.2.1)) (.ite (k:=((s.1:Int)==(s.2.1:Int))) (.cmp (.rf rfl) (.rf rfl) rfl rfl rfl) (λh=>.cv ?e1 (.p1 (o:=.val (.bytes (hx s.1))) (.rf rfl) (mQ s.1 (iS (Nat.lt_of_le_of_lt hs.1 hs.2.1))))) λh=>.cv ?e2 (W4 hs.1 hs.2.1 (.p1 (o:=.val (.bytes (hx s.1))) (.rf rfl) (mQ s.1 (iS (Nat.lt_of_le_of_lt hs.1 hs.2.1)))) (.p1 (o:=.val (.bytes (hx s.2.1))) (.rf rfl) (mQ s.2.1 (iS hs.2.1))))) rfl) ?_
  rotate_left 2
  .refine .cons (.ex (.cl (.rf rfl) rfl (.cons (.val (.cv ?e3 (.bin (.bin (.bin (.rf rfl) (.rf rfl) rfl rfl (dS ?l1)) (.p1 (o:=.val (.bytes (oct s.2.2))) (.rf rfl) (jF s.2.2 (yQ hs.2.2))) rfl rfl (dS ?l2)) (.rf rfl) rfl rfl (dS ?l3)))) .nil) rfl (gC ?l4) rfl)) .nil
   case e3=>exact congrArg O.bytes (congrArg (·++[10]) (List.append_assoc (cK s.1 s.2.1) [32,59,32] (oct s.2.2)))
   case l1=>exact bA (m:=20) (by lia) rfl
   case l2=>exact bA (m:=20) (by rw[List.length_append];lia) rfl
   case l3=>exact bA (m:=21) (by rw[List.length_append,List.length_append];show _+1<=_;lia) rfl
   case l4=>
    have:=hM.2.1
    rw[e,List.length_append] at this
    rw[List.length_map];lia
  .unfold cK
   rw[if_neg λz=>Nat.ne_of_lt z (Int.ofNat.inj (eq_of_beq h))]
  .have h':s.1≠s.2.1:=λz=>by rw[z,beq_self_eq_true] at h;cases h
   unfold cK
   rw[if_pos (Nat.lt_of_le_of_ne hs.1 h'),List.append_assoc]
 .refine rt (.mv (r:=.val (.bytes (texts (aO (runs [] os))))) (.rf rfl) rfl (.inl rfl) (.cons (.rf rfl) .nil) rfl rfl ?_) rfl rfl q
  rw[show((aO (runs [] os)).map λs=>O.bytes (cJ s++[10]))=((aO (runs [] os)).map λs=>cJ s++[10]).map .bytes from(List.map_map).symm,←Ig]
  exact ly (by rw[Ig];exact bA (m:=31*21) (Nat.le_trans (yI hM.1) (Nat.mul_le_mul_right 21 hM.2.1)) rfl)
theorem W3{a b:Nat}(h:a<=b)(I:b<32):dH .split (.bytes (cK a b)) [.bytes [46,46]]=some (.own (.list ((if a<b then[hx a,hx b] else[hx a]).map .bytes))):=by
 have c:=eq_of_beq (List.all_eq_true.mp WV (a,b) (WY h I))
 have l:(cK a b).length<ax:=by
  have h1:=iR a
  have h2:=iR b
  refine Nat.lt_of_le_of_lt (m:=14) ?_ (by decide)
  unfold cK
  split
  .rw[List.length_append,List.length_append];show _+(2+_)<=_;lia
  .exact Nat.le_trans (by assumption) (by decide)
 show(if (cK a b).length<ax then(qd (cK a b) [46,46]).map _ else none)=_
 rw[if_pos l,c];rfl
theorem Un{a b:Nat}{v:O}(h:a<=b)(I:b<32):Pu (F (k+4)) 32 [.val (.bytes (cK a b)),.val v] (.val (.tup [.int a,.int b])):=λH Q q=>by
 have sp:=W3 h I
 have le:cz .Gt (.int (a:Nat)) (.int (b:Nat))=some false:=congrArg some (decide_eq_false (Int.not_lt.mpr (Int.ofNat_le.mpr h)))
 refine bL BP rfl rfl rfl ?_
 by_cases c:a<b
 .rw[if_pos c] at sp
  refine az (.so (.mv (.rf rfl) rfl (.inl rfl) (.cons (.rf rfl) .nil) rfl rfl sp) rfl) (az (.aS (.rf rfl) .nil) ?_)
  refine az (.tr (.cons (.p2 (o:=.val (.int a)) (.rf rfl) (.rf rfl) (mP v a (iS (Nat.lt_trans c I)))) (.cons (.p2 (o:=.val (.int b)) (.rf rfl) (.rf rfl) (mP v b (iS I))) .nil)) rfl rfl (.cons (.sv rfl) (.cons (.sv rfl) .nil))) ?_
  exact az (.aS (.cmp (.rf rfl) (.rf rfl) rfl rfl le) .nil) (rt (.rf rfl) rfl rfl (q _ rfl))
 .rw[if_neg c] at sp
  obtain rfl:a=b:=Nat.le_antisymm h (Nat.not_lt.mp c)
  refine az (.so (.mv (.rf rfl) rfl (.inl rfl) (.cons (.rf rfl) .nil) rfl rfl sp) rfl) (az (.aS (.rf rfl) .nil) ?_)
  refine az (.tr (.cons (.p2 (o:=.val (.int a)) (.rf rfl) (.rf rfl) (mP v a (iS I))) (.cons (.p2 (o:=.val (.int a)) (.rf rfl) (.rf rfl) (mP v a (iS I))) .nil)) rfl rfl (.cons (.sv rfl) (.cons (.sv rfl) .nil))) ?_
  exact az (.aS (.cmp (.rf rfl) (.rf rfl) rfl rfl le) .nil) (rt (.rf rfl) rfl rfl (q _ rfl))
end
section
variable{k:Nat}{H:HH}
noncomputable def Qu(t:List UInt8)(g:Option VS×Option VS×Option VS×Option VS)(a b:Option VS)(H:HH):St:=⟨[some (.val (.bytes t)),some (.own (.list [])),g.1,g.2.1,g.2.2.1,g.2.2.2,a,b],[false],[],H⟩
theorem Ud{ls:List (List UInt8)}(fW:∀l∈ls,LN l)(hlen:(bW ls).length<1000000):Pu (F (k+2)) 30 [.val (.bytes (bW ls))] (.own (.list [])):=λH Q q=>by
 refine bL BJ rfl rfl rfl ?_
 refine az (.so (.lst .nil) rfl) ?_
 refine lp (L:=(ls++[[]]).zipIdx) (λ(p:List UInt8×Nat)=>.tup [.int p.2,.bytes p.1]) (λdone g=>Qu (bW ls) g none none H) (g:=(none,none,none,none)) (.en (.own (d:=.list ((ls++[[]]).map .bytes)) (.p1 (.rf rfl) (GR fW hlen))) (congrArg some ?e1)) (λdone x rest g e=>⟨(some (.val (.int x.2)),some (.val (.bytes x.1)),some (.val (.int (-1))),some (.val (.bytes []))),_,.tup (vs:=[.int x.2,.bytes x.1]) rfl (.cons (.sv rfl) (.cons (.sv rfl) .nil)),?_⟩) λg=>?_
 rotate_left
 .have hx:x.1∈ls++[[]]:=List.fst_mem_of_mem_zipIdx (e▸List.mem_append_right _ (.head _))
  have hf:=Ce (c:=35) λy hy=>(List.mem_append.mp hx).elim (λh=>((fW _ h).n y hy).2.1) λh=>by rw[List.mem_singleton.mp h] at hy;cases hy
  refine .cons (.sv (.mv (.rf rfl) rfl (.inl rfl) (.cons (.rf rfl) .nil) rfl rfl (congrArg (λn=>some (ER.val (.int n))) hf)) rfl) ?_
  exact .cons (.sv (.gM (.rf rfl) (.rf rfl)) rfl) (.cons (.aS (.dT (.rf rfl)) .nil) .nil)
 .exact rt (.rf rfl) rfl rfl (q _ rfl)
 case e1=>exact(congrArg (List.map _) (List.zipIdx_map (l:=ls++[[]]) (f:=O.bytes))).trans (List.map_map (l:=(ls++[[]]).zipIdx))
theorem Ue{ls:List (List UInt8)}(fW:∀l∈ls,LN l)(hlen:(bW ls).length<1000000):Pu (F (k+3)) 52 [.val (.bytes (bW ls)),.val .none,.val .none] (.own (.list [])):=λH Q q=>by
 refine bL B3 rfl rfl rfl ?_
 refine az (.so (.lst .nil) rfl) ?_
 refine lp (L:=([]:List Unit)) (α:=Unit) (λZ=>.none) (λZ Z=>⟨[some (.val (.bytes (bW ls))),some (.val .none),some (.val .none),some (.own (.list [])),none,none,none,none],[false,false,false],[],H⟩) (g:=()) (.ea (.own (d:=.list []) (.p1 (.rf rfl) (Ud fW hlen))) rfl) (λdone x rest g e=>by cases done<;>cases e) λg=>?_
 exact rt (.rf rfl) rfl rfl (q _ rfl)
noncomputable def ig(p:SG×Nat):O:=.tup [.int p.1.1,.int p.1.2.1,aQ [cK p.1.1 p.1.2.1,oct p.1.2.2],.int (p.2+1)]
noncomputable def fQ(p:SG×Nat):O:=.tup [.int p.1.1,.int p.1.2.1,.int (p.2+1)]
noncomputable def qa(p:SG×Nat):O:=.tup [.int (p.2+1),aQ [cK p.1.1 p.1.2.1,oct p.1.2.2],.bytes []]
theorem GC:∀(M:List SG) (i:Nat),(∀s∈M,mq s)->d5 i (M.map cJ)=(M.zipIdx i).map qa
 | [],_,_=>rfl
 | s::r,i,h=>by
  show p6 i (cJ s)::d5 (i+1) (r.map cJ)=qa (s,i)::(r.zipIdx (i+1)).map qa
  rw[GC r (i+1) λt ht=>h t (.tail _ ht),p6,(th (h s (.head _))).2.2];rfl
section
variable{M:List SG}
theorem ml(hM:ku M):(∀l∈M.map cJ,LN l)/\(texts M).length<1000000/\(M.map cJ).length<=200:=
 ⟨λl Y=>(List.mem_map.mp Y).elim λs e=>e.2▸(th (hM.1 s e.1)).1,Nat.lt_of_le_of_lt (yI hM.1) (Nat.lt_of_le_of_lt (Nat.mul_le_mul_right 21 hM.2.1) (by decide)),by rw[List.length_map];exact Nat.le_trans hM.2.1 (by decide)⟩
noncomputable def Gj(t:List UInt8)(done:List (SG×Nat))(g:Option VS×Option VS×Option VS×Option VS×Option VS)(H:HH):St:=⟨[some (.val (.bytes t)),some (.val (.int 2)),some (.own (.list (done.map ig))),g.1,g.2.1,g.2.2.1,g.2.2.2.1,g.2.2.2.2],[false,false],[],H⟩
theorem yY{p:SG×Nat}{done rest:List (SG×Nat)}(e:M.zipIdx=done++p::rest):p.1∈M:=List.fst_mem_of_mem_zipIdx (e▸List.mem_append_right _ (.head _))
theorem IY{p:SG×Nat}{done rest:List (SG×Nat)}(hM:ku M)(e:M.zipIdx=done++p::rest):done.length<1000:=by
 have:=congrArg List.length e
 rw[List.length_zipIdx,List.length_append,List.length_cons] at this
 have:=hM.2.1
 lia
theorem Uo(hM:ku M):Pu (F (k+5)) 51 [.val (.bytes (texts M)),.val (.int 2)] (.own (.list (M.zipIdx.map ig))):=λH Q q=>by
 have m:=ml hM
 refine bL B6 rfl rfl rfl ?_
 refine az (.so (.lst .nil) rfl) ?_
 refine lp (L:=M.zipIdx) qa (λdone g=>Gj (texts M) done g H) (g:=(none,none,none,none,none)) (.ea (.own (d:=.list (M.zipIdx.map qa)) (.cr (congrArg (λl=>ER.own (.list l)) (GC M 0 hM.1)) (.p1 (o:=.own (.list (d5 0 (M.map cJ)))) (.rf rfl) (GV (k:=k+2) m.1 m.2.1 m.2.2)))) rfl) (λdone p rest g e=>⟨(some (.val (.int (p.2+1))),some (.val (aQ [cK p.1.1 p.1.2.1,oct p.1.2.2])),some (.val (.bytes [])),some (.val (.int p.1.1)),some (.val (.int p.1.2.1))),_,.tup rfl (.cons (.sv rfl) (.cons (.sv rfl) (.cons (.sv rfl) .nil))),?_⟩) λg=>?_
 .have hs:=hM.1 p.1 (yY e)
  unfold Gj
  rw[List.map_append]
  refine .cons (.aS (.rf rfl) .nil) ?_
  refine .cons (.tg (.p2 (o:=.val (.tup [.int p.1.1,.int p.1.2.1])) (.rf rfl) (.rf rfl) (Un hs.1 hs.2.1)) (.tup rfl (.cons (.sv rfl) (.cons (.sv rfl) .nil)))) ?_
  exact .cons (.ex (.cl (.rf rfl) rfl (.cons (.val (.rf rfl)) .nil) rfl (gC (by rw[List.length_map];exact IY hM e)) rfl)) .nil
 .exact rt (.rf rfl) rfl rfl (q _ rfl)
noncomputable def qy(l:List (SG×Nat)):O:=match l.getLast? with
 | some p=>fQ p
 | none=>.none
theorem zq(l:List (SG×Nat))(p:SG×Nat):qy (l++[p])=fQ p:=by unfold qy;rw[List.getLast?_concat]
theorem Yy(hM:ku M):M.zipIdx.Pairwise λa b=>a.1.2.1<b.1.1:=by
 have:=hM.2.2
 rw[←List.zipIdx_map_fst 0 M,List.pairwise_map] at this
 exact this
theorem T1(hM:ku M)(h5:M.length<=5):Pu (F (k+1)) 50 [.own (.list (M.zipIdx.map fQ))] (.val .none):=λH Q q=>by
 have ha:=Yy hM
 have OB:=HN (λp:SG×Nat=>p.1.1) fQ (λx=>⟨_,rfl⟩) (List.Perm.refl M.zipIdx) (ha.imp_of_mem λ{a b} o2 Z h=>Nat.lt_of_le_of_lt (hM.1 a.1 (List.fst_mem_of_mem_zipIdx o2)).1 h) (by rw[List.length_zipIdx];exact h5)
 refine bL B1 rfl rfl rfl ?_
 refine az (.sv (.rf rfl) rfl) ?_
 refine lp (L:=M.zipIdx) fQ (λdone (g:Option VS×Option VS×Option VS)=>⟨[some (.own (.list (M.zipIdx.map fQ))),some (.val (qy done)),g.1,g.2.1,g.2.2],[true],[],H⟩) (g:=(none,none,none)) (.ea (.own (d:=.list (M.zipIdx.map fQ)) (.aG (.cons (.rf rfl) .nil) rfl (by
   show(gU _).map _=_
   rw[OB];rfl))) rfl) (λdone p rest g e=>⟨(some (.val (.int p.1.1)),some (.val (.int p.1.2.1)),some (.val (.int (p.2+1)))),⟨[some (.own (.list (M.zipIdx.map fQ))),some (.val (qy done)),some (.val (.int p.1.1)),some (.val (.int p.1.2.1)),some (.val (.int (p.2+1)))],[true],[],H⟩,.tup rfl (.cons (.sv rfl) (.cons (.sv rfl) (.cons (.sv rfl) .nil))),?_⟩) λg=>?_
 .rw[zq]
  rcases List.eq_nil_or_concat done with rfl | ⟨D,t,rfl⟩
  .exact .cons (.aS (.dT (.bF (u:=.none) (.rf rfl) rfl)) .nil) (.cons (.c5 (.FU (.bS (u:=.none) (.rf rfl) rfl)) (.cons (.sv (.rf rfl) rfl) .nil)) .nil)
  .rw[List.concat_eq_append] at e ⊢
   rw[zq]
   have h1:t.1.2.1<p.1.1:=by
    rw[e,List.append_assoc] at ha
    exact(List.pairwise_cons.mp (List.pairwise_append.mp ha).2.1).1 p (.head _)
   have h2:=(hM.1 p.1 (yY e)).1
   refine .cons (.aS (.cw (.bF (u:=fQ t) (.rf rfl) rfl) (.cmp (.rf rfl) (.rf rfl) rfl rfl (congrArg some (decide_eq_false (Int.not_le.mpr (Int.ofNat_lt.mpr h1)))))) .nil) ?_
   exact .cons (.c5 (.eD (.bS (u:=fQ t) (.rf rfl) rfl) (.cmp (.rf rfl) (.rf rfl) rfl rfl (congrArg some (decide_eq_true (Int.ofNat_lt.mpr (Nat.lt_of_lt_of_le h1 h2)))))) (.cons (.sv (.rf rfl) rfl) .nil)) .nil
 .exact nd rfl (q _ rfl)
theorem Lh(n:O):∀v∈vL,Pu (F (k+3)) 49 [.val (.bytes (oct v)),.val .none,.val n] (.val (.str v)):=cT B7 rfl (λZ=>rfl) (λv=>[.val (.bytes (oct v)),.val .none,.val n]) (λZ=>rfl) λH Q=>by kernel_rfl
end
end
abbrev G5:=Option VS×Option VS×Option VS×Option VS×Option VS
noncomputable def j6(t:List UInt8)(d:Nat)(x4 x5:VS)(g:G5)(H:HH):St:=⟨[some (.val (.bytes t)),some (.val (.ref d)),some (.val (.str d6)),some (.val .none),some x4,some x5,g.1,g.2.1,g.2.2.1,g.2.2.2.1,g.2.2.2.2],[false,false,false,false],[],H⟩
noncomputable def GD:bI×bj:=match vd.body with
 | .cons _ (.cons _ (.cons _ (.cons _ (.cons (.for (.tup t) _ b) _))))=>(t,b)
 | _=>(.nil,.nil)
theorem ug{G:FT}:∀{l fin:List VS} {st:St} {K:St->Prop},l.length<=fin.length->K st->dZ (l.map bB) fin st K
 | [],_,_,_,_,k=>k
 | _::_,[],_,_,h,_=>absurd h (Nat.not_succ_le_zero _)
 | .val v::vs,x::fin,⟨σ,lk,κ,H⟩,_,h,k=>ug (G:=G) (l:=vs) (fin:=fin) (Nat.le_of_succ_le_succ h) k
 | .own v::vs,x::fin,⟨σ,lk,κ,H⟩,_,h,k=>ug (G:=G) (l:=vs) (fin:=fin) (Nat.le_of_succ_le_succ h) k
theorem Ev.F4{G:FT}{st st1:St}{as:aW}{l:List VS}{o:VS}{f n:Nat}{H':HH}(hn:l.length<=n)(h:Es G st as (l.map bB) st1)(S:∀Q:VS->List VS->HH->Prop,(∀fin:List VS,fin.length=n->Q o fin H')->GK G f l st1.H Q):Ev G st (.call f as) (bB o) (St.wH st1 H'):=λK k=>h _ (by
 unfold CK
 refine dq (by rw[lC];rfl) (aH (kF l) ?_)
 obtain⟨σ,lk,κ,H⟩:=st1
 exact S _ λfin Y=>ug (G:=G) (Y▸hn) k)
theorem PG(w:Str):KV d6 (bZ d6)=true/\KV d6 (.str w)=true:=⟨by kernel_rfl,by kernel_rfl⟩
section
variable{k:Nat}{d m:Nat}
theorem GF:∀{M:List SG} {H:HH} {ms:List (Key×O)} {g:Str->Int->O} {n:Nat},DR H d m ms g n->n+2*M.length<300->(∀s∈M,mq s)->∃H' bP,DR H' d m bP (M.foldl (λg s=>upd g d6 s.1 s.2.1 (.str s.2.2)) g) (n+2*M.length)/\
  ∀(t:List UInt8) (x4 x5:VS) (cn:G5) (K:KS),(∀cn,K .next (j6 t d x4 x5 cn H'))->di (λx=>cM tab (F (k+3)) (.tup GD.1) (.val x)) (wSs tab (F (k+3)) GD.2) (M.map aK) (j6 t d x4 x5 cn H) K
 | [],H,ms,g,n,h,_,_=>⟨H,ms,h,λt x4 x5 cn K q=>q cn⟩
 | s::r,H,ms,g,n,h,hn,hp=>by
  have h0:=hp s (.head _)
  have hk:=PG s.2.2
  rw[List.length_cons] at hn
  refine(xX (k:=k) h (by lia) hk.1 hk.2 (Int.natCast_nonneg s.1) (Int.ofNat_le.mpr h0.1) (Int.ofNat_le.mpr (Nat.le_trans (Nat.le_of_lt h0.2.1) (by decide:32<=1114111)))).elim λjl z=>z.elim λsA z=>(GF z.1 (by lia) λq hq=>hp q (.tail _ hq)).elim λoa w=>w.elim λpM w=>⟨oa,pM,?_,λt x4 x5 cn K q=>?_⟩
  .have:=w.1
   rw[show n+2+2*r.length=n+2*(r.length+1) by exact Nat.add_right_comm _ _ _] at this;exact this
  .refine fz (st1:=j6 t d x4 x5 (some (.val (.int s.1)),some (.val (.int s.2.1)),cn.2.2.1,cn.2.2.2.1,some (.val (.str s.2.2))) H)
    (st2:=j6 t d x4 x5 (some (.val (.int s.1)),some (.val (.int s.2.1)),cn.2.2.1,cn.2.2.2.1,some (.val (.str s.2.2))) jl) (.tup rfl (.cons (.sv rfl) (.cons (.sv rfl) (.cons (.sv rfl) .nil)))) ?_ (w.2 _ _ _ _ _ q)
   exact .cons (.ex (.ip (l:=[.val (.str d6),.val (.int s.1),.val (.int s.2.1),.val (.str s.2.2)]) (.rf rfl) (pC h.obj rfl) (.cons (.rf rfl) (.cons (.rf rfl) (.cons (.rf rfl) (.cons (.rf rfl) .nil)))) z.2)) .nil
theorem Us{H:HH}{ms:List (Key×O)}{M:List SG}(hM:ku M)(h5:M.length<=5)(h:DR H d m ms c7 0):∃H' bP,DR H' d m bP (pF M) 10/\∀Q:VS->List VS->HH->Prop,(∀fin:List VS,fin.length=4->Q (.val .none) fin H')->GK (F (k+6)) 53 [.val (.bytes (texts M)),.val (.ref d),.val (.str d6)] H Q:=by
 have lm:=ml hM
 refine(GF (k:=k+2) (M:=M) h (by lia) hM.1).elim λH' z=>z.elim λbP z=>⟨H',bP,z.1.mono (by lia),λQ q=>?_⟩
 refine bL vd rfl rfl rfl ?_
 refine az (.so (c:=.list []) (.pu (o:=.own (.list [])) (l:=[.val (.bytes (texts M)),.val .none,.val .none]) (.cons (.rf rfl) (.cons (.rf rfl) (.cons (.rf rfl) .nil))) (Ue (k:=k+2) lm.1 lm.2.1)) rfl) ?_
 refine az (.so (c:=.list (M.zipIdx.map ig)) (.pu (o:=.own (.list (M.zipIdx.map ig))) (l:=[.val (.bytes (texts M)),.val (.int 2)]) (.cons (.rf rfl) (.cons (.rf rfl) .nil)) (Uo hM)) rfl) ?_
 refine az (.ex (.o1 (o:=.val .none) (d:=.list (M.zipIdx.map fQ)) (.mp ig fQ (.ea (.rf (.rf rfl) rfl) rfl) (bA (m:=5) (by rw[List.length_zipIdx];exact h5) rfl) λp hp=>.yes (fr:=[some (.int p.1.1),some (.int p.1.2.1),some (aQ [cK p.1.1 p.1.2.1,oct p.1.2.2]),some (.int (p.2+1))]) (λK k=>k) .nil (.val (.rf rfl))) (T1 hM h5))) ?_
 refine lp (L:=M.zipIdx) ig (λdone g=>j6 (texts M) d (.own (.list (done.map λp=>aK p.1))) (.val (.ao (.list (M.zipIdx.map ig)))) g H) (g:=(none,none,none,none,none)) (.ea (.rf (.rf rfl) rfl) rfl) (λdone p rest g e=>⟨(some (.val (.int p.1.1)),some (.val (.int p.1.2.1)),some (.val (aQ [cK p.1.1 p.1.2.1,oct p.1.2.2])),some (.val (.int (p.2+1))),g.2.2.2.2),j6 (texts M) d (.own (.list (done.map λp=>aK p.1))) (.val (.ao (.list (M.zipIdx.map ig)))) (some (.val (.int p.1.1)),some (.val (.int p.1.2.1)),some (.val (aQ [cK p.1.1 p.1.2.1,oct p.1.2.2])),some (.val (.int (p.2+1))),g.2.2.2.2) H,.tup rfl (.cons (.sv rfl) (.cons (.sv rfl) (.cons (.sv rfl) (.cons (.sv rfl) .nil)))),?_⟩) λg=>?_
 .have hs:=hM.1 p.1 (yY e)
  rw[List.map_append]
  exact .cons (.ex (.cl (.rf rfl) rfl (.cons (.val (.tup (.cons (.val (.rf rfl)) (.cons (.val (.rf rfl)) (.cons (.val (.pu (o:=.val (.str p.1.2.2)) (l:=[.val (.bytes (oct p.1.2.2)),.val .none,.val (.int (p.2+1))]) (.cons (.rf rfl) (.cons (.rf rfl) (.cons (.rf rfl) .nil))) (Lh _ p.1.2.2 hs.2.2))) .nil))))) .nil) rfl (gC (by rw[List.length_map];exact IY hM e)) rfl)) .nil
 .have e:(M.zipIdx.map λp=>aK p.1)=M.map aK:=by
   show M.zipIdx.map (aK∘Prod.fst)=_
   rw[←List.map_map,List.zipIdx_map_fst]
  have hI:EI (F (k+5)) (j6 (texts M) d (.own (.list (M.zipIdx.map λp=>aK p.1))) (.val (.ao (.list (M.zipIdx.map ig)))) g H) (.of (.slot 4)) (M.map aK) (j6 (texts M) d (.val (.ao (.list (M.map aK)))) (.val (.ao (.list (M.zipIdx.map ig)))) g H):=by
   rw[e];exact .ea (.rf (.rf rfl) rfl) rfl
  exact hI _ (gp (z.2 _ _ _ _ _ λg=>nd rfl (q _ rfl)))
end
noncomputable def oV:Option Str->O
 | some v=>.str v
 | none=>.none
theorem mulL{x:O}{n:Nat}(h:n<=1000):iF .Mult (.ao (.list [x])) (.int n)=some (.own (.list (List.replicate n x))):=by
 show(if ((decide ((0:Int)<=(n:Int))&&decide ((n:Int)<=ax))=true) then some (ER.own (.list (List.replicate ((n:Int)).toNat x))) else none)=_
 rw[if_pos (Bool.and_eq_true_iff.mpr ⟨decide_eq_true (Int.natCast_nonneg n),decide_eq_true (Int.ofNat_le.mpr (Nat.le_trans h (by decide)))⟩)];rfl
theorem O6{rows:List SG}{s:SG}{i:Nat}(h:i<=rows.length)(Y:rows.length<1000):mA .insert [.int i,aK s] (.list (rows.map aK))=some (.list ((rows.take i++s::rows.drop i).map aK),.none):=by
 have e:(rows.map aK).take i++aK s::(rows.map aK).drop i=(rows.take i++s::rows.drop i).map aK:=by rw[List.map_append,List.map_cons,List.map_take,List.map_drop]
 show(if ((decide ((rows.map aK).length<ax)&&decide ((0:Int)<=(i:Int))&&decide ((i:Int)<=((rows.map aK).length:Nat)))=true) then some (AC.list ((rows.map aK).take i++aK s::(rows.map aK).drop i),O.none) else none)=_
 rw[if_pos (by rw[List.length_map];exact Bool.and_eq_true_iff.mpr ⟨Bool.and_eq_true_iff.mpr ⟨decide_eq_true (Nat.lt_trans Y (by decide)),decide_eq_true (Int.natCast_nonneg i)⟩,decide_eq_true (Int.ofNat_le.mpr h)⟩),e]
theorem mO{ns:List Int}{a m:Nat}(h:0<m):bM ns a m=((bM ns a m).toNat:Int):=(Int.toNat_of_nonneg (Int.emod_nonneg _ (by lia))).symm
theorem G7(o:OP):∀(os:List OP) (R:RN),fZ R (os++[o])=fZ R os++[nD (runs R os) o]
 | [],_=>rfl
 | x::r,R=>congrArg (_::·) (G7 o r (eJ R x))
theorem GJ(o:OP)(os:List OP)(R:RN):runs R (os++[o])=eJ (runs R os) o:=List.foldl_append
abbrev G4:=Option VS×Option VS×Option VS×Option VS
noncomputable def jH(c:AC)(rows:List SG)(line:List (Option Str))(at_:Int)(g:G4)(H:HH):St:=⟨[some (.own c),some (.own (.list (rows.map aK))),some (.own (.list (line.map oV))),some (.val (.int at_)),g.1,g.2.1,g.2.2.1,g.2.2.2,none,none,none,none,none],[true],[],H⟩
noncomputable def Cu:bj:=match oT.body with
 | .cons _ (.cons (.for _ _ b) _)=>b
 | _=>.nil
noncomputable def xN(rows:List SG)(i:Nat)(s:SG):List SG:=rows.take i++s::rows.drop i
theorem TA(rows:List SG)(i:Nat)(s:SG):(xN rows i s).Perm (s::rows):=by
 have:=List.perm_middle (l₁:=rows.take i) (l₂:=rows.drop i) (a:=s)
 rw[List.take_append_drop] at this;exact this
section
variable{k:Nat}{ns:List Int}{H:HH}
theorem Mk{R:RN}{rows:List SG}{p g m i n:Nat}{v:Str}{x:O}{gs:G4}(eg:bM ns p (3:Nat)=g)(em:bM ns (p+1) (4:Nat)=m)(ev:pk ns (p+2) vL ⟨#[]⟩=v)(ei:bM ns (p+3) ((rows.length+1:Nat):Int)=i)
  (hn:m+1=n) (hg:g<=100) (hm:m<=100) (hi:i<=rows.length) (hr:rows.length<=100) (Y:(lay R).length<=100) (hp:p<=900) :
  Eb (F (k+3)) Cu (jH (bq ns p) rows (lay R) (lay R).length (some (.val x),gs.2) H) (jH (bq ns (p+4)) (xN rows i (nD R (g,m,v))) (lay (eJ R (g,m,v))) (lay (eJ R (g,m,v))).length (some (.val x),some (.val (.int g)),some (.val (.int n)),some (.val (.str v))) H):=by
 have hlen:=pD R (g,m,v)
 dsimp only at hlen
 refine .cons (.tr (.cons (.cv (congrArg O.int eg) (.draw (by exact Nat.lt_of_le_of_lt (by assumption) (by decide)) (by decide) (.rf rfl) (.rf rfl) rfl rfl)) (.cons (.cv (show O.int (1+bM ns (p+1) (4:Nat))=O.int n by rw[em];exact congrArg O.int (by lia)) (.bin (.rf rfl) (.draw (by lia) (by decide) (.rf rfl) (.rf rfl) rfl rfl) rfl rfl rfl)) (.cons (.cv (congrArg O.str ev) (.pick .str vL ⟨#[]⟩ (by lia) rfl rfl (.rf rfl) (.rf rfl) rfl rfl)) .nil))) rfl rfl (.cons (.sv rfl) (.cons (.sv rfl) (.cons (.sv rfl) .nil)))) ?_
 have l2:((lay R).map oV).length+(List.replicate g O.none).length<=ax:=by rw[List.length_map,List.length_replicate];exact bA (m:=200) (Nat.add_le_add Y hg) rfl
 have l4:((lay R).map oV++List.replicate g O.none).length+(List.replicate n (O.str v)).length<=ax:=by rw[List.length_append,List.length_map,List.length_replicate,List.length_replicate];exact bA (m:=301) (Nat.add_le_add (Nat.add_le_add Y hg) (show n<=101 by lia)) rfl
 have m1:=mulL (x:=.none) (n:=g) (Nat.le_trans hg (by decide))
 have m2:=mulL (x:=.str v) (n:=n) (show n<=1000 by lia)
 have e1:((lay R).map oV++List.replicate g O.none)++List.replicate n (O.str v)=(lay (eJ R (g,m,v))).map oV:=by rw[←hn,eJ,Ec,List.map_append,List.map_append,List.map_replicate,List.map_replicate];rfl
 have hE:=Ev.bin (G:=F (k+3)) (st:=jH (bq ns (p+3)) rows (lay R) (lay R).length (some (.val x),some (.val (.int g)),some (.val (.int n)),some (.val (.str v))) H) (a:=.slot 2) (b:=.bin .Mult (.lst (.cons .bz .nil)) (.slot 5)) (.rf rfl) (.bin (.rf rfl) (.rf rfl) rfl rfl m1) rfl rfl (eo l2)
 have CO:=Ev.bin (G:=F (k+3)) (b:=.bin .Mult (.lst (.cons (.slot 7) .nil)) (.slot 6)) hE (.bin (.rf rfl) (.rf rfl) rfl rfl m2) rfl rfl (eo l4)
 rw[e1] at CO
 refine .cons (.so CO rfl) ?_
 refine .cons (.sv (v:=.int (lay (eJ R (g,m,v))).length) (.cv ?e2 (.bin (.bin (.rf rfl) (.rf rfl) rfl rfl rfl) (.rf rfl) rfl rfl rfl)) rfl) ?_
 rotate_left 1
 refine .cons (.ex (.cl (.rf rfl) rfl (.cons (.val (.cv (congrArg O.int ei) (.draw (by lia) (by lia) (.rf rfl) (.cv (congrArg O.int ?e3) (.rf rfl)) rfl rfl))) (.cons (.val (v:=aK (nD R (g,m,v))) (.cv ?e4 (.rf rfl))) .nil)) rfl (O6 hi (by exact Nat.lt_of_le_of_lt (by assumption) (by decide))) rfl)) .nil
 case e2=>rw[hlen];exact congrArg O.int (by lia)
 case e3=>rw[List.length_map];rfl
 case e4=>
  show O.tup [.int (((lay (eJ R (g,m,v))).length:Int) - (n:Int)),.int (((lay (eJ R (g,m,v))).length:Int) - 1),.str v]=.tup [.int ((lay R).length+g:Nat),.int ((lay R).length+g+m:Nat),.str v]
  rw[hlen,show(((lay R).length+g+(m+1):Nat):Int) - (n:Int)=((lay R).length+g:Nat) by lia,show(((lay R).length+g+(m+1):Nat):Int) - 1=((lay R).length+g+m:Nat) by lia]
theorem Cv:∀{xs:List O} {os:List OP} {rows:List SG} {p:Nat},nN os->rows.Perm (fZ [] os)->os.length+xs.length<=5->(lay (runs [] os)).length<=6*os.length->p+4*xs.length<=900->
  ∃i6 s9 p',nN i6/\s9.Perm (fZ [] i6)/\i6.length<=5/\(lay (runs [] i6)).length<=6*i6.length/\p'<=p+4*xs.length/\∀(g:G4) (K:KS),(∀g,K .next (jH (bq ns p') s9 (lay (runs [] i6)) (lay (runs [] i6)).length g H))->
   di (λx=>cM tab (F (k+3)) (.slot 4) (.val x)) (wSs tab (F (k+3)) Cu) xs (jH (bq ns p) rows (lay (runs [] os)) (lay (runs [] os)).length g H) K
 | [],os,rows,p,ho,hp,Y,hn,I=>⟨os,rows,p,ho,hp,Y,hn,Nat.le_refl _,λg K q=>q g⟩
 | x::xs,os,rows,p,ho,hp,Y,hn,I=>by
  rw[List.length_cons] at Y I
  have v8:=hp.length_eq
  rw[yb] at v8
  have hg:=iL (ns:=ns) (a:=p) (m:=3) (by decide)
  have hm:=iL (ns:=ns) (a:=p+1) (m:=4) (by decide)
  have hi:=iL (ns:=ns) (a:=p+3) (m:=rows.length+1) (Nat.succ_pos _)
  have hv:pk ns (p+2) vL ⟨#[]⟩∈vL:=fg (by decide)
  have eg:=mO (ns:=ns) (a:=p) (m:=3) (by decide)
  have em:=mO (ns:=ns) (a:=p+1) (m:=4) (by decide)
  have ei:=mO (ns:=ns) (a:=p+3) (m:=rows.length+1) (Nat.succ_pos _)
  generalize (bM ns p (3:Nat)).toNat=g at hg eg
  generalize (bM ns (p+1) (4:Nat)).toNat=m at hm em
  generalize (bM ns (p+3) ((rows.length+1:Nat):Int)).toNat=i at hi ei
  generalize ev:pk ns (p+2) vL ⟨#[]⟩=v at hv
  have hlen:=pD (runs [] os) (g,m,v)
  dsimp only at hlen
  have h1:os.length<=5:=by exact Nat.le_trans (Nat.le_add_right _ _) (by assumption)
  refine(Cv (xs:=xs) (os:=os++[(g,m,v)]) (rows:=xN rows i (nD (runs [] os) (g,m,v))) (p:=p+4) (λo h=>(List.mem_append.mp h).elim (ho o) λh=>List.mem_singleton.mp h▸hv) ?_ (by rw[List.length_append,List.length_singleton];exact Nat.le_trans (Nat.le_of_eq (Nat.add_right_comm _ _ _)) (by assumption)) ?_ (by exact Nat.le_trans (Nat.le_of_eq (Nat.add_right_comm _ _ _)) (by assumption))).elim λi6 z=>z.elim λs9 z=>z.elim λp' z=>⟨i6,s9,p',z.1,z.2.1,z.2.2.1,z.2.2.2.1,by rw[List.length_cons];have:=z.2.2.2.2.1;lia,λgs K q=>?_⟩
  .rw[G7]
   exact(TA _ _ _).trans ((hp.cons _).trans (List.perm_append_singleton _ _).symm)
  .rw[GJ,hlen,List.length_append,List.length_singleton];lia
  .refine fz (st1:=jH (bq ns p) rows (lay (runs [] os)) (lay (runs [] os)).length (some (.val x),gs.2) H) (.sv rfl) (Mk eg em ev ei rfl (by exact Nat.le_trans (Nat.le_of_lt (by assumption)) (by decide)) (by exact Nat.le_trans (Nat.le_of_lt (by assumption)) (by decide)) (by exact Nat.le_of_lt_succ (by assumption)) (by lia) (by lia) (by exact Nat.le_trans (Nat.le_add_right _ _) (by assumption))) ?_
   have:=z.2.2.2.2.2 (some (.val x),some (.val (.int g)),some (.val (.int (m+1:Nat))),some (.val (.str v))) K q
   rw[GJ] at this;exact this
end
theorem zj:∀{l:List (Option Str)} {R:RN},(∀q∈l,vq q)->WF R->WF (one l R)
 | [],_,_,h=>h
 | q::l,R,hq,h=>zj (l:=l) (λx aU=>hq x (.tail _ aU)) (t4 Nat.one_pos (hq q (.head _)) h)
theorem Ed:∀{R:RN},WF R->∀q∈lay R,vq q
 | x::r,h,q,hq=>(List.mem_append.mp hq).elim (Ed h.2.2.2 q) λhq=>(List.mem_replicate.mp hq).2▸h.2.1
theorem wq{l:List (Option Str)}{i:Int}{n:Nat}{o:Option Str}(hi:i=n)(h:l[n]?=some o)(I:n<1000000):e7 (.ao (.list (l.map oV))) (.int i)=some (oV o):=by
 subst hi
 exact pv (by rw[List.getElem?_map,h];rfl) I
theorem Si(a b:Option Str):cz .NotEq (oV a) (oV b)=some (!(a==b)):=by
 cases a<;>cases b<;>rfl
theorem KO(o:Option Str)(st:St):bJ (.val (oV o)) st=some (oV o):=by cases o<;>rfl
noncomputable def cb(c:AC)(V:List O)(line:List (Option Str))(at_:Int)(g:G4)(eT:List UInt8)(b:Nat)(p:Option VS)(H:HH):St:=⟨[some (.own c),some (.own (.list V)),some (.own (.list (line.map oV))),some (.val (.int at_)),g.1,g.2.1,g.2.2.1,g.2.2.2,some (.val (.bytes eT)),some (.val (.int b)),p,none,none],[true],[],H⟩
noncomputable def AW:bj:=match oT.body with
 | .cons _ (.cons _ (.cons _ (.cons (.for _ _ (.cons (.aD _ b _) _)) _)))=>b
 | _=>.nil
noncomputable def eQ(R:RN):List UInt8:=texts (aO R.tail)
noncomputable def eR(R:RN):Nat:=(lay R.tail).length
theorem Ih(M:List SG)(s:SG):texts (M++[s])=texts M++cK s.1 s.2.1++([32,59,32]++oct s.2.2++[10]):=by
 unfold texts
 rw[List.map_append,Eh,show bW ([s].map cJ)=cJ s++[10] from List.append_nil _,cJ,List.append_assoc,List.append_assoc,List.append_assoc]
section
variable{k:Nat}{c:AC}{V:List O}{line:List (Option Str)}{at_:Int}{g:G4}{H:HH}
theorem K0{R:RN}{rest:List (Option Str)}(hW:WF R)(Y:line=lay R++rest)(gG:line.length<=31) :
  Eb (F (k+2)) AW (cb c V line at_ g (eQ R) (eR R) (some (.val (.int (lay R).length))) H) (cb c V line at_ g (texts (aO R)) (lay R).length (some (.val (.int (lay R).length))) H):=by
 cases R with
 | nil=>exact .cons (.aS (.dT (.rf rfl)) .nil) (.cons (.sv (.rf rfl) rfl) .nil)
 | cons x r=>
  have hp:=nq x r
  have hm:=hW.1
  have Ni:line[(lay (x::r)).length - 1]?=some x.1:=by
   rw[Y,List.getElem?_append_left (by lia)]
   show(lay r++List.replicate x.2 x.1)[_]?=_
   rw[List.getElem?_append_right (by lia),List.getElem?_replicate,if_pos (by lia)]
  have M6:(lay (x::r)).length<=31:=by
   rw[Y,List.length_append] at gG;exact Nat.le_trans (Nat.le_add_right _ _) (by assumption)
  have hM:=yc hW M6
  unfold eQ eR
  rw[List.tail_cons]
  generalize Oo:(lay (x::r)).length=p at*
  have hi:=wq (i:=(p:Int) - 1) (by lia) Ni (by lia)
  have t1:ET (F (k+2)) (cb c V line at_ g (texts (aO r)) (lay r).length (some (.val (.int p))) H) (.cmp .Gt (.slot 10) (.aj 0)) true (cb c V line at_ g (texts (aO r)) (lay r).length (some (.val (.int p))) H):=.cmp (.rf rfl) (.rf rfl) rfl rfl (congrArg some (decide_eq_true (by lia)))
  have ix:∀eT,Ev (F (k+2)) (cb c V line at_ g eT (lay r).length (some (.val (.int p))) H) (.idx (.slot 2) (.bin .Sub (.slot 10) (.aj 1))) (.val (oV x.1)) (cb c V line at_ g eT (lay r).length (some (.val (.int p))) H):=λeT=>.idx (.rf rfl) (.bin (.rf rfl) (.rf rfl) rfl rfl rfl) rfl rfl hi
  cases hq:x.1 with
  | none=>
   rw[hq] at ix
   rw[show aO (x::r)=aO r by show aO r++lO _ _ x.1=_;rw[hq];exact List.append_nil _]
   exact .cons (.aS (.cw t1 (.bF (u:=.none) (ix _) rfl)) .nil) (.cons (.sv (.rf rfl) rfl) .nil)
  | some v=>
   rw[hq] at ix
   have hv:v∈vL:=hW.2.1 v hq
   have es:aO (x::r)=aO r++[((lay r).length,p - 1,v)]:=by
    show aO r++lO _ _ x.1=_
    rw[hq,hp];rfl
   have hlen:=Nat.le_trans (yI hM.1) (Nat.mul_le_mul_right 21 hM.2.1)
   rw[es,Ih,List.length_append,List.length_append] at hlen
   dsimp only at hlen
   rw[es,Ih]
   have e0:Ev (F (k+2)) (cb c V line at_ g (texts (aO r)) (lay r).length (some (.val (.int p))) H) (.call 63 (.cons (.slot 9) .nil)) (.val (.bytes (hx (lay r).length))) (cb c V line at_ g (texts (aO r)) (lay r).length (some (.val (.int p))) H):=.p1 (o:=.val (.bytes (hx (lay r).length))) (.rf rfl) (qW (lay r).length (iS (by lia)))
   have x1:=iR (lay r).length
   have x2:=iR (p - 1)
   have sp:Ev (F (k+2)) (cb c V line at_ g (texts (aO r)) (lay r).length (some (.val (.int p))) H) (.bin .Add (.call 63 (.cons (.slot 9) .nil)) (.ite (.cmp .Gt (.bin .Sub (.slot 10) (.aj 1)) (.slot 9)) (.bin .Add (.aC [46,46]) (.call 63 (.cons (.bin .Sub (.slot 10) (.aj 1)) .nil))) (.aC []))) (.val (.bytes (cK (lay r).length (p - 1)))) (cb c V line at_ g (texts (aO r)) (lay r).length (some (.val (.int p))) H):=by
    unfold cK
    by_cases h:(lay r).length<p - 1
    .rw[if_pos h]
     exact .bin e0 (.gM (.cmp (.bin (.rf rfl) (.rf rfl) rfl rfl rfl) (.rf rfl) rfl rfl (congrArg some (decide_eq_true (by lia)))) (.bin (.rf rfl) (.p1 (o:=.val (.bytes (hx (p - 1)))) (.cv (show O.int ((p:Int) - 1)=.int (p - 1:Nat) by rw[show((p:Int) - 1)=((p - 1:Nat):Int) by lia]) (.bin (.rf rfl) (.rf rfl) rfl rfl rfl)) (qW (p - 1) (iS (by lia)))) rfl rfl (dS (bA (m:=8) (by show 2+_<=_;lia) rfl)))) rfl rfl (dS (bA (m:=20) (by rw[List.length_append];show _+(2+_)<=_;lia) rfl))
    .rw[if_neg h]
     exact .cv (congrArg O.bytes (List.append_nil _)) (.bin e0 (.lq (.cmp (.bin (.rf rfl) (.rf rfl) rfl rfl rfl) (.rf rfl) rfl rfl (congrArg some (decide_eq_false (by lia)))) (.rf (r:=.val (.bytes [])) rfl)) rfl rfl (dS (bA (m:=6) x1 rfl)))
   have h4:=xd v (yQ hv)
   have tl:∀eT,Ev (F (k+2)) (cb c V line at_ g eT (lay r).length (some (.val (.int p))) H) (.bin .Add (.bin .Add (.aC [32,59,32]) (.call 62 (.cons (.idx (.slot 2) (.bin .Sub (.slot 10) (.aj 1))) .nil))) (.aC [10])) (.val (.bytes ([32,59,32]++oct v++[10]))) (cb c V line at_ g eT (lay r).length (some (.val (.int p))) H):=λeT=>
    .bin (.bin (.rf rfl) (.p1 (o:=.val (.bytes (oct v))) (ix eT) (g9 v (yQ hv))) rfl rfl (dS (bA (m:=50) (by show 3+_<=_;lia) rfl))) (.rf rfl) rfl rfl (dS (bA (m:=50) (by rw[List.length_append];show 3+_+1<=_;lia) rfl))
   exact .cons (.c5 (.cw t1 (.bF (u:=.str v) (ix _) rfl)) (.cons (.ag (.rf rfl) sp rfl rfl (bA (m:=1000) (by lia) rfl) rfl) (.cons (.ag (.rf rfl) (tl _) rfl rfl (bA (m:=1000) (by rw[List.length_append];exact Nat.le_trans (by assumption) (by decide)) rfl) rfl) .nil))) (.cons (.sv (.rf rfl) rfl) .nil)
end
set_option tactic.hygienic true in
theorem Tc(q:Option Str)(m:Nat):∀R,∃n r,push q m R=(q,n)::r
 | []=>⟨m,[],rfl⟩
 | x::r=>by
  rw[fj]
  split
  .rename_i h;rw[h];exact⟨_,_,rfl⟩
  .exact⟨_,_,rfl⟩
theorem Pt{ae J':List SG}{s:SG}(h:si ae s J'):J'.length<=ae.length+1:=by
 rcases h with⟨rfl,rfl⟩ | ⟨L,t,rfl,⟨-,-,rfl⟩ | ⟨-,rfl⟩⟩
 .exact Nat.le_refl 1
 .rw[List.length_append,List.length_append];exact Nat.le_succ _
 .rw[List.length_append (bs:=[s])];exact Nat.le_refl _
theorem Hb:∀{os:List OP} {R:RN},WF R->nN os->(aO (runs R os)).length<=(aO R).length+os.length
 | [],R,_,_=>Nat.le_refl _
 | o::r,R,h,ho=>by
  have:=Hb (os:=r) (t6 h (ho o (.head _)) o.1 o.2.1) λx aU=>ho x (.tail _ aU)
  have:=Pt (Ha h o.1 o.2.1 o.2.2)
  show(aO (runs (lX R o.1 o.2.1 o.2.2) r)).length<=_+(r.length+1)
  lia
noncomputable def KZ:bj:=match oT.body with
 | .cons _ (.cons _ (.cons _ (.cons (.for _ _ b) _)))=>b
 | _=>.nil
section
variable{k:Nat}{c:AC}{V:List O}{line:List (Option Str)}{at_:Int}{g:G4}{H:HH}
theorem AY(hv:∀q∈line,vq q)(gG:line.length<=31){rest done:List (Option Str)}(e:line=done++rest):lay (one done [])=done/\Eb (F (k+2)) AW (cb c V line at_ g (eQ (one done [])) (eR (one done [])) (some (.val (.int done.length))) H) (cb c V line at_ g (texts (aO (one done []))) done.length (some (.val (.int done.length))) H):=by
 have Y:lay (one done [])=done:=D9 done []
 have hF:=K0 (k:=k) (c:=c) (V:=V) (at_:=at_) (g:=g) (H:=H) (R:=one done []) (rest:=rest) (zj (λq h=>hv q (e▸List.mem_append_left _ h)) trivial) (by rw[Y];exact e) gG
 rw[Y] at hF
 exact⟨Y,hF⟩
theorem AX(hv:∀q∈line,vq q)(gG:line.length<=31){K:KS}(q:∀p,K .next (cb c V line at_ g (texts (aO (one line []))) line.length p H)):∀{rest done:List (Option Str)} {p:Option VS},line=done++rest->
  di (λx=>cM tab (F (k+2)) (.slot 10) (.val x)) (wSs tab (F (k+2)) KZ) ((List.range' done.length (rest.length+1)).map λ(n:Nat)=>.int n) (cb c V line at_ g (eQ (one done [])) (eR (one done [])) p H) K
  | [],done,p,e=>by
   have hF:=(AY (k:=k) (c:=c) (V:=V) (at_:=at_) (g:=g) (H:=H) hv gG e).2
   rw[List.append_nil] at e
   subst e
   refine fz (st1:=cb c V line at_ g (eQ (one line [])) (eR (one line [])) (some (.val (.int line.length))) H) (.sv rfl) ?_ (q (some (.val (.int line.length))))
   exact .cons (.c5 (.FU (.cmp (.rf rfl) (.rf rfl) rfl rfl (show some ((line.length:Int)==((line.map oV).length:Nat))=some true by rw[List.length_map,beq_self_eq_true]))) hF) .nil
  | e1::r,done,p,e=>by
   have hP:=AY (k:=k) (c:=c) (V:=V) (at_:=at_) (g:=g) (H:=H) hv gG e
   have Y:=hP.1
   have hF:=hP.2
   clear hP
   have hlen:line.length=done.length+(e1::r).length:=by rw[e,List.length_append]
   have ih:=λp=>AX hv gG q (rest:=r) (done:=done++[e1]) (p:=p) (by rw[List.append_assoc];exact e)
   rw[List.length_append,xx] at ih
   rw[List.length_cons] at hlen
   have t0:ET (F (k+2)) (cb c V line at_ g (eQ (one done [])) (eR (one done [])) (some (.val (.int done.length))) H) (.cmp .Eq (.slot 10) (.aG .len (.cons (.slot 2) .nil))) false (cb c V line at_ g (eQ (one done [])) (eR (one done [])) (some (.val (.int done.length))) H):=
    .cmp (.rf rfl) (.rf rfl) rfl rfl (show some ((done.length:Int)==((line.map oV).length:Nat))=some false by rw[List.length_map,beq_false_of_ne (by lia)])
   rw[List.range'_succ,List.map_cons]
   rcases List.eq_nil_or_concat done with rfl | ⟨D,e0,rfl⟩
   .refine fz (st1:=cb c V line at_ g (eQ (one [] [])) (eR (one [] [])) (some (.val (.int 0))) H) (.sv rfl) ?_ (ih (some (.val (.int 0))))
    exact .cons (.aS (.eD t0 (.dT (.rf rfl))) .nil) .nil
   .rw[List.concat_eq_append] at*
    refine(Tc e0 1 (one D [])).elim λm z=>z.elim λR z=>?_
    rw[xx,z] at ih t0 hF ⊢
    rw[List.length_append,List.length_singleton] at*
    have i1:line[D.length+1]?=some e1:=by rw[e,List.getElem?_append_right (by rw[List.length_append];exact Nat.le_refl _),List.length_append];exact congrArg (λi=>(e1::r)[i]?) (Nat.sub_self _)
    have i0:line[D.length]?=some e0:=by rw[e,List.getElem?_append_left (by rw[List.length_append];exact Nat.lt_succ_self _)];exact List.getElem?_concat_length
    have tg:ET (F (k+2)) (cb c V line at_ g (eQ ((e0,m)::R)) (eR ((e0,m)::R)) (some (.val (.int (D.length+1:Nat)))) H) (.cmp .Gt (.slot 10) (.aj 0)) true (cb c V line at_ g (eQ ((e0,m)::R)) (eR ((e0,m)::R)) (some (.val (.int (D.length+1:Nat)))) H):=.cmp (.rf rfl) (.rf rfl) rfl rfl (congrArg some (decide_eq_true (by lia)))
    have tn:ET (F (k+2)) (cb c V line at_ g (eQ ((e0,m)::R)) (eR ((e0,m)::R)) (some (.val (.int (D.length+1:Nat)))) H) (.cmp .NotEq (.idx (.slot 2) (.slot 10)) (.idx (.slot 2) (.bin .Sub (.slot 10) (.aj 1)))) (!(e1==e0)) (cb c V line at_ g (eQ ((e0,m)::R)) (eR ((e0,m)::R)) (some (.val (.int (D.length+1:Nat)))) H):=
     .cmp (.idx (.rf rfl) (.rf rfl) rfl rfl (wq rfl i1 (by lia))) (.idx (.rf rfl) (.bin (.rf rfl) (.rf rfl) rfl rfl rfl) rfl rfl (wq (by lia) i0 (by lia))) rfl (KO _ _) (Si _ _)
    rw[fj] at ih
    refine fz (st1:=cb c V line at_ g (eQ ((e0,m)::R)) (eR ((e0,m)::R)) (some (.val (.int (D.length+1:Nat)))) H) (.sv rfl) ?_ (ih (some (.val (.int (D.length+1:Nat)))))
    by_cases h:e0=e1
    .rw[if_pos h]
     rw[h,beq_self_eq_true] at tn
     exact .cons (.aS (.eD (h▸t0) (.cw (h▸tg) tn)) .nil) .nil
    .rw[if_neg h]
     rw[beq_false_of_ne λz=>h z.symm] at tn
     have c4:(lay ((e0,m)::R)).length=D.length+1:=by rw[←z,←xx,Y,List.length_append];rfl
     show Eb _ _ _ (cb c V line at_ g (texts (aO ((e0,m)::R))) (lay ((e0,m)::R)).length _ H)
     rw[c4]
     exact .cons (.c5 (.eD t0 (.cw tg tn)) hF) .nil
end
theorem ya:∀l:List (Option Str),(l.map fk).all (dM 5)=true
 | []=>rfl
 | none::r=>ya r
 | some _::r=>ya r
theorem Ly(l:List (Option Str)):cz .Eq (.ao (.list (l.map fk))) (.ao (.list (l.map fk)))=some true:=uR (uS 5) _ (ya l)
theorem Yl(n:Nat):jg n=(List.range' 0 n).map λ(n:Nat)=>.int n:=by rw[jg,List.range_eq_range']
theorem PN(l:List (Option Str)):((List.range (l.length+1)).map λi=>fk (l[i]?).join)=l.map fk++[fk none]:=by
 rw[List.range_succ,List.map_append,List.map_singleton,List.getElem?_eq_none (Nat.le_refl _)]
 refine congrArg (·++_) (List.ext_getElem (by rw[List.length_map,List.length_map,List.length_range]) λi h1 h2=>?_)
 rw[List.length_map] at h2
 rw[List.getElem_map,List.getElem_map,List.getElem_range,List.getElem?_eq_getElem h2];rfl
noncomputable def vk(c:AC)(V:List O)(line:List (Option Str))(at_:Int)(g:G4)(eT:List UInt8)(b:Nat)(p:Option VS)(d:Nat)(H:HH):St:=⟨[some (.own c),some (.own (.list V)),some (.own (.list (line.map oV))),some (.val (.int at_)),g.1,g.2.1,g.2.2.1,g.2.2.2,some (.val (.bytes eT)),some (.val (.int b)),p,some (.val (.bytes eT)),some (.val (.ref d))],[true],[],H⟩
theorem Ev.kS{k d m n:Nat}{ms:List (Key×O)}{g:Str->Int->O}{st st1 st2:St}{e a b:ME}{nm:Str}{x:Int}{v:O}(h:DR st2.H d m ms g n)(h0:0<=x)(h1:x<=1114111)(hv:g nm x=v)(he:Ev (F (k+3)) st e (.val (.ref d)) st)(ea:Ev (F (k+3)) st a (.val (.str nm)) st1)(eb:Ev (F (k+3)) st1 b (.val (.int x)) st2)(hH:st.H=st2.H) :
  Ev (F (k+3)) st (.aw .get e (.cons a (.cons b .nil))) (.val v) st2:=
 .cv hv (.ip (l:=[.val (.str nm),.val (.int x)]) he (wN (hH▸h.obj) rfl) (.cons ea (.cons eb .nil)) (GO h h0 h1))
theorem T8{k:Nat}{ns:List Int}{H:HH}{p:Nat}(hp:p<=800):∃p' H',p'<=p+30/\Sh (F (k+8)) 69 (bq ns p) H (.bool true) (bq ns p') H':=by
 have h6:=iL (ns:=ns) (a:=p) (m:=6) (by decide)
 have e6:=mO (ns:=ns) (a:=p) (m:=6) (by decide)
 generalize (bM ns p (6:Nat)).toNat=n6 at h6 e6
 have lj:=tM n6
 refine(Cv (k:=k+4) (ns:=ns) (H:=H) (xs:=jg n6) (os:=[]) (rows:=[]) (p:=p+1) (λo h=>nomatch h) (.refl _) (by rw[lj];show 0+n6<=5;exact Nat.le_trans (Nat.le_of_eq (Nat.zero_add _)) (Nat.le_of_lt_succ (by assumption))) (Nat.le_refl 0) (by rw[lj];lia)).elim λos z=>z.elim λrows z=>z.elim λp' z=>?_
 rw[lj] at z
 have ho:=z.1
 have hW:=t5 (R:=[]) trivial ho
 have M5:(lay (runs [] os)).length<=30:=Nat.le_trans z.2.2.2.1 (by have:=z.2.2.1;exact Nat.le_trans (Nat.mul_le_mul_left _ (by assumption)) (by decide))
 have gG:=Nat.le_succ_of_le M5
 have hM:=yc hW gG
 have h5:(aO (runs [] os)).length<=5:=Nat.le_trans (Hb trivial ho) (by have:=z.2.2.1;show 0+_<=_;exact Nat.le_trans (Nat.le_of_eq (Nat.zero_add _)) (by assumption))
 have hD:=n8 H
 refine(Us (k:=k+1) hM h5 hD).elim λH' w=>w.elim λms w=>⟨p',H',by have:=z.2.2.2.2.1;lia,λQ q=>?_⟩
 have R:=w.1
 refine bL oT rfl rfl rfl ?_
 refine az (.tr (.cons (.rf (r:=.own (.list [])) rfl) (.cons (.rf (r:=.own (.list [])) rfl) (.cons (.rf rfl) .nil))) rfl rfl (.cons (.sv rfl) (.cons (.so rfl) (.cons (.so rfl) .nil)))) ?_
 have hI:EI (F (k+7)) (jH (bq ns p) [] [] (0:Nat) (none,none,none,none) H) (.eF (.call 60 (.cons (.slot 0) (.cons (.aj 6) .nil)))) (jg n6) (jH (bq ns (p+1)) [] [] (0:Nat) (none,none,none,none) H):=
  .r1 (.cv (congrArg O.int e6) (.draw (by exact Nat.lt_of_le_of_lt (by assumption) (by decide)) (by decide) (.rf rfl) (.rf rfl) rfl rfl)) rfl (nQ (by exact Nat.le_trans (Nat.le_of_lt (by assumption)) (by decide)))
 refine hI _ (gp (z.2.2.2.2.2 _ _ λg=>?_))
 have k7:=FK hW
 generalize hR:runs [] os=RR at*
 refine az (.tf (.cons (.rf rfl) (.cons (.rf rfl) .nil)) rfl rfl (.cons (.sv rfl) (.cons (.sv rfl) .nil))) ?_
 have vF:EI (F (k+7)) (cb (bq ns p') (rows.map aK) (lay RR) (lay RR).length g [] 0 none H) (.eF (.bin .Add (.aG .len (.cons (.slot 2) .nil)) (.aj 1))) (jg ((lay RR).length+1)) (cb (bq ns p') (rows.map aK) (lay RR) (lay RR).length g [] 0 none H):=
  .r1 (.cv (congrArg O.int (show(((lay RR).map oV).length:Int)+1=((lay RR).length+1:Nat) by rw[List.length_map];rfl)) (.rf rfl)) rfl (nQ (by exact Nat.lt_of_le_of_lt (by assumption) (by decide)))
 refine vF _ ?_
 rw[Yl]
 refine gp (AX (k:=k+5) (Ed hW) gG (λpp=>?_) (rest:=lay RR) (done:=[]) rfl)
 rw[k7]
 refine az (.tf (.cons (.l1 (o:=.val (.bytes (texts (aO RR)))) (.rf rfl) rfl (hR▸Uu (k:=k+4) ho (hR▸gG) z.2.2.1 z.2.1) rfl) (.cons (.cv (congrArg O.ref List.length_append) (.sF (l:=[]) (H':=H++[.dict []]) .nil (λQ q=>xW Q q) rfl)) .nil)) rfl rfl (.cons (.sv rfl) (.cons (.sv rfl) .nil))) ?_
 refine az (.aS (.cmp (.rf rfl) (.rf rfl) rfl rfl (congrArg (λb=>some (!b)) (beq_self_eq_true (texts (aO RR))))) .nil) ?_
 refine az (.ex (.F4 (o:=.val .none) (n:=4) (l:=[.val (.bytes (texts (aO RR))),.val (.ref (H.length+1)),.val (.str d6)]) (Nat.le_succ 3) (.cons (.rf rfl) (.cons (.rf rfl) (.cons (.rf rfl) .nil))) w.2)) ?_
 have eG:Ev (F (k+7)) (vk (bq ns p') (rows.map aK) (lay RR) (lay RR).length g (texts (aO RR)) (lay RR).length pp (H.length+1) H') (.comp 1 (.ay 0) (.eF (.bin .Add (.aG .len (.cons (.slot 2) .nil)) (.aj 1))) .nil (.aw .get (.slot 12) (.cons (.ai d6) (.cons (.ay 0 0) .nil)))) (.own (.list ((lay RR).map fk++[fk none]))) (vk (bq ns p') (rows.map aK) (lay RR) (lay RR).length g (texts (aO RR)) (lay RR).length pp (H.length+1) H'):=by
  rw[←PN]
  refine .mp (L:=List.range ((lay RR).length+1)) (λ(n:Nat)=>.int n) (λi=>fk ((lay RR)[i]?).join) (.r1 (.cv (congrArg O.int (show(((lay RR).map oV).length:Int)+1=((lay RR).length+1:Nat) by rw[List.length_map];rfl)) (.rf rfl)) rfl (nQ (by exact Nat.lt_of_le_of_lt (by assumption) (by decide)))) (bA (m:=40) (by rw[List.length_range];exact Nat.lt_of_le_of_lt (by assumption) (by decide)) rfl) λi hi=>.one (.val ?_)
  have hi:=List.mem_range.mp hi
  exact .kS R (Int.natCast_nonneg i) (by lia) (Eu hW i) (.rf rfl) (.rf rfl) (.rf rfl) rfl
 have eL:Ev (F (k+7)) (vk (bq ns p') (rows.map aK) (lay RR) (lay RR).length g (texts (aO RR)) (lay RR).length pp (H.length+1) H') (.comp 1 (.ay 0) (.of (.slot 2)) .nil (.ite (.bF (.ay 0 0)) (.ay 0 0) (.ai ⟨#[90,122,122,122]⟩))) (.own (.list ((lay RR).map fk))) ⟨[some (.own (bq ns p')),some (.own (.list (rows.map aK))),some (.val (.ao (.list ((lay RR).map oV)))),some (.val (.int (lay RR).length)),g.1,g.2.1,g.2.2.1,g.2.2.2,some (.val (.bytes (texts (aO RR)))),some (.val (.int (lay RR).length)),pp,some (.val (.bytes (texts (aO RR)))),some (.val (.ref (H.length+1)))],[true],[],H'⟩:=
  .mp (L:=lay RR) oV fk (.ea (.rf (.rf rfl) rfl) rfl) (bA (m:=40) (by exact Nat.le_trans (by assumption) (by decide)) rfl) λo Z=>.one (.val (match o with
   | none=>.lq (.bF (u:=.none) (.rf rfl) rfl) (.rf rfl)
   | some v=>.gM (.bF (u:=.str v) (.rf rfl) rfl) (.rf rfl)))
 have ec:=Ly (lay RR++[none])
 rw[List.map_append] at ec
 exact rt (.cmp eG (.bin eL (.rf rfl) rfl rfl (eo (bA (m:=40) (by rw[List.length_map];show _+1<=_;exact Nat.lt_of_le_of_lt (by assumption) (by decide)) rfl))) rfl rfl ec) rfl rfl q
noncomputable def E1:List (Nat×Nat):=[(40,41),(91,93),(123,125),(9001,9002),(12296,12297),(12300,12301),(60,62),(171,187),(8712,8715)]
noncomputable def gO:List (Nat×Nat):=E1.flatMap λp=>[(p.1,p.2),(p.2,p.1)]
noncomputable def Qp(p:Nat×Nat):List UInt8:=hx p.1++[59,32]++hx p.2
noncomputable def nB:List UInt8:=bW (gO.map Qp)
noncomputable def nV(n:Nat):O:=.int n
abbrev P3:=Nat×O
noncomputable def iw(p:P3):O:=.tup [.int p.1,.int p.1,p.2]
noncomputable def PM:List P3:=gO.map λp=>(p.1,nV p.2)
noncomputable def G1(l:List Nat):AC:=.dict (l.map λ(n:Nat)=>(.i n,.bool true))
noncomputable def tk:Nat->bj->bj
 | 0,_=>.nil
 | n+1,.cons s r=>.cons s (tk n r)
 | _+1,.nil=>.nil
theorem TX{k d:Nat}{H:HH}{K:KS}:wSs tab (F (k+6)) (tk 2 u9.body) ⟨[some (.val (.bytes nB)),some (.val (.ref d)),none,none,none,none,none],[false,false],[],H⟩ K =
  K .next ⟨[some (.val (.bytes nB)),some (.val (.ref d)),some (.own (.list (PM.map iw))),some (.own (G1 (gO.map Prod.fst))),some (.val (.int 18)),some (.val (aQ [hx 8715,hx 8712])),some (.val (.int 8715))],[false,false],[],H⟩:=by kernel_rfl
noncomputable def gB:List (Nat×List Nat):=[(48,[79]),(49,[108]),(73,[108]),(109,[114,110]),(124,[108]),(305,[105]),(894,[59]),(913,[65]),(921,[108]),(927,[79]),(959,[111]),(1030,[108]),
 (1040,[65]),(1042,[66]),(1045,[69]),(1072,[97]),(1077,[101]),(1110,[105]),(8208,[45]),(8211,[45]),(8217,[39]),(1473,[775]),(120782,[79]),(65281,[33])]
noncomputable def KN(p:Nat×List Nat):List UInt8:=hx p.1++[32,59,32]++aP [32] (p.2.map hx)++[32,59,32,77,65]
noncomputable def eB:List UInt8:=bW (gB.map KN)
noncomputable def dC:List (Nat×Nat×Str):=(E1.take 6).flatMap λp=>[(p.1,p.2,⟨#[111]⟩),(p.2,p.1,⟨#[99]⟩)]
noncomputable def Kf(p:Nat×Nat×Str):List UInt8:=hx p.1++[59,32]++hx p.2.1++[59,32]++oct p.2.2
noncomputable def gA:List UInt8:=bW (dC.map Kf)
noncomputable def PC:List P3:=gB.map λp=>(p.1,.tup (p.2.map nV))
noncomputable def PB:List P3:=dC.map λp=>(p.1,.tup [.str p.2.2,nV p.2.1])
noncomputable def uL(l:List P3):AC:=.dict (l.map λp=>(.i p.1,p.2))
theorem TY{k d:Nat}{H:HH}{K:KS}:wSs tab (F (k+6)) (tk 2 u6.body) ⟨[some (.val (.bytes eB)),some (.val (.ref d)),none,none,none,none,none,none],[false,false],[],H⟩ K =
  K .next ⟨[some (.val (.bytes eB)),some (.val (.ref d)),some (.own (.list (PC.map iw))),some (.own (G1 (gB.map Prod.fst))),some (.val (.int 24)),some (.val (aQ [hx 65281,hx 33,[77,65]])),some (.val (.int 65281)),some (.val (.tup [nV 33]))],[false,false],[],H⟩:=by kernel_rfl
theorem TU{k d:Nat}{H:HH}{K:KS}:wSs tab (F (k+6)) (tk 3 ra.body) ⟨[some (.val (.bytes gA)),some (.val (.ref d)),none,none,none,none,none,none,none],[false,false],[],H⟩ K =
  K .next ⟨[some (.val (.bytes gA)),some (.val (.ref d)),some (.own (uL PB)),some (.own (.dict (dC.zipIdx.map λp=>(.i p.1.1,.int (p.2+1))))),some (.val (.int 12)),some (.val (aQ [hx 12301,hx 12300,[99]])),some (.val (.int 12301)),some (.val (.str ⟨#[99]⟩)),some (.val (nV 12300))],[false,false],[],H⟩:=by kernel_rfl
noncomputable def cS:aW->List Str
 | .cons (.ai s) r=>s::cS r
 | _=>[]
noncomputable def lS:MS->List Str
 | .assign _ (.lst es)=>cS es
 | _=>[]
noncomputable def rn(n:Nat):O:=.bytes (bW ((lS (cF n vf.body)).map oct))
noncomputable def z0:Str:=⟨#[66,105,100,105,66,114,97,99,107,101,116,115,46,116,120,116]⟩
noncomputable def E0:Str:=⟨#[66,105,100,105,77,105,114,114,111,114,105,110,103,46,116,120,116]⟩
noncomputable def AI:Str:=⟨#[99,111,110,102,117,115,97,98,108,101,115,46,116,120,116]⟩
noncomputable def FD:List (Key×O):=[(.s z0,.bytes gA),(.s E0,.bytes nB),(.s ⟨#[83,99,114,105,112,116,69,120,116,101,110,115,105,111,110,115,46,116,120,116]⟩,rn 5),(.s ⟨#[65,114,97,98,105,99,83,104,97,112,105,110,103,46,116,120,116]⟩,rn 6),(.s ⟨#[78,97,109,101,65,108,105,97,115,101,115,46,116,120,116]⟩,rn 7),(.s AI,.bytes eB),(.s ⟨#[67,111,109,112,111,115,105,116,105,111,110,69,120,99,108,117,115,105,111,110,115,46,116,120,116]⟩,rn 12)]
theorem T7{k:Nat}:Pu (F (k+3)) 18 [] (.own (.dict FD)):=cT (L:=[()]) (x:=λZ=>.own (.dict FD)) vf rfl (λZ=>rfl) (λZ=>[]) (λZ=>rfl) (λH Q=>by kernel_rfl) () (.head _)
noncomputable def gY(nm:Str)(g:Str->Int->O)(ps:List P3):Str->Int->O:=ps.foldl (λg p=>upd g nm p.1 p.1 p.2) g
noncomputable def n0(d:Nat)(nm:Str)(P:VS)(g:Option VS×Option VS×Option VS)(H:HH):St:=⟨[some (.val (.ref d)),some (.val (.str nm)),some P,g.1,g.2.1,g.2.2],[false,false,true],[],H⟩
noncomputable def Io:bI×bj:=match vi.body with
 | .cons (.for (.tup t) _ b) _=>(t,b)
 | _=>(.nil,.nil)
noncomputable def pU(nm:Str)(ps:List P3):Bool:=ps.all λp=>cQ (nm,p.2)&&decide (p.1<=1114111)
section
variable{G:FT}{st st1 st2 bT HY:St}{a b c:ME}{u v w:O}{x:ER}{o:VS}{i f:Nat}{H':HH}{ss:bj}{s1 s2 s3:MS}{K:KS}{k:Bool}
theorem HZ(h:∀K:KS,wSs tab G (.cons s1 (.cons s2 .nil)) st K=K .next st1)(q:wSs tab G ss st1 K):wSs tab G (.cons s1 (.cons s2 ss)) st K:=by
 show wSs tab G (.cons s1 (.cons s2 .nil)) st λf st=>match f with
  | .next=>wSs tab G ss st K
  | .ret r=>K (.ret r) st
 rw[h];exact q
theorem Xr(h:∀K:KS,wSs tab G (.cons s1 (.cons s2 (.cons s3 .nil))) st K=K .next st1)(q:wSs tab G ss st1 K):wSs tab G (.cons s1 (.cons s2 (.cons s3 ss))) st K:=by
 show wSs tab G (.cons s1 (.cons s2 (.cons s3 .nil))) st λf st=>match f with
  | .next=>wSs tab G ss st K
  | .ret r=>K (.ret r) st
 rw[h];exact q
theorem Ev.IK{d:AC}{z z1 z2:VS}(ha:Ev G st a (.val u) st1)(I:Ev G st1 b (.val v) st2)(hc:Ev G st2 c (.loc i) bT)(ho:bT.σ[i]?=some (some (.own d)))(S:∀Q:VS->List VS->HH->Prop,Q o [z1,z2,z] H'->GK G f [.val u,.val v,.own d] bT.H Q)(hu:ups i z (St.wH bT H')=pt HY):Ev G st (.call f (.cons a (.cons b (.cons c .nil)))) (bB o) HY:=λK k=>ha _ (I _ (hc _ (by
 show CK G f [.val u,.val v,.loc i] bT K
 unfold CK
 obtain⟨σ,lk,κ,H⟩:=bT
 refine dq (decide_eq_true (List.nodup_cons.mpr ⟨List.not_mem_nil,.nil⟩)) (aH (a:=[.val u,.val v,.own d]) ?_ (S _ ?_))
 .show(match some (VS.val u),(match some (VS.val v),(match (match σ[i]? with | some (some x)=>some x | _=>none),some [] with | some a,some l=>some (a::l) | _,_=>none) with | some a,some l=>some (a::l) | _,_=>none) with | some a,some l=>some (a::l) | _,_=>none)=_
  rw[show σ[i]?=_ from ho]
 .show(match σ[i]? with
   | some (some (.own _))=>dQ (some z) σ i λσ=>K (bB o) ⟨σ,lk,κ,H'⟩
   | _=>K (bB o) ⟨σ,lk,κ,H'⟩)
  rw[show σ[i]?=_ from ho]
  have e:=kf hu
  subst e
  exact lR _ _ _ k)))
end
section
variable{k:Nat}{d m:Nat}{nm:Str}
theorem Ip:∀{ps:List P3} {H:HH} {ms:List (Key×O)} {g:Str->Int->O} {n:Nat},DR H d m ms g n->n+2*ps.length<300->pU nm ps=true->∃H' bP,DR H' d m bP (gY nm g ps) (n+2*ps.length)/\
  ∀(P:VS) (cn:Option VS×Option VS×Option VS) (K:KS),(∀cn,K .next (n0 d nm P cn H'))->di (λx=>cM tab (F (k+3)) (.tup Io.1) (.val x)) (wSs tab (F (k+3)) Io.2) (ps.map iw) (n0 d nm P cn H) K
 | [],H,ms,g,n,h,_,_=>⟨H,ms,h,λP cn K q=>q cn⟩
 | p::r,H,ms,g,n,h,hn,hp=>by
  have hp:=Bool.and_eq_true_iff.mp hp
  have h0:=Bool.and_eq_true_iff.mp hp.1
  have hk:=Bool.and_eq_true_iff.mp h0.1
  rw[List.length_cons] at hn
  refine(xX (k:=k) h (by lia) hk.1 hk.2 (Int.natCast_nonneg p.1) (Int.le_refl _) (Int.ofNat_le.mpr (of_decide_eq_true h0.2))).elim λjl z=>z.elim λsA z=>(Ip z.1 (by lia) hp.2).elim λoa w=>w.elim λpM w=>⟨oa,pM,?_,λP cn K q=>?_⟩
  .have:=w.1
   rw[show n+2+2*r.length=n+2*(r.length+1) by exact Nat.add_right_comm _ _ _] at this;exact this
  .refine fz (st1:=n0 d nm P (some (.val (.int p.1)),some (.val (.int p.1)),some (.val p.2)) H) (st2:=n0 d nm P (some (.val (.int p.1)),some (.val (.int p.1)),some (.val p.2)) jl) (.tup rfl (.cons (.sv rfl) (.cons (.sv rfl) (.cons (.sv rfl) .nil)))) ?_ (w.2 _ _ _ q)
   exact .cons (.ex (.ip (l:=[.val (.str nm),.val (.int p.1),.val (.int p.1),.val p.2]) (.rf rfl) (pC h.obj rfl) (.cons (.rf rfl) (.cons (.rf rfl) (.cons (.rf rfl) (.cons (.rf rfl) .nil)))) z.2)) .nil
theorem xZ{ps:List P3}{H:HH}{ms:List (Key×O)}{g:Str->Int->O}(h:DR H d m ms g 0)(hn:ps.length<=40)(hp:pU nm ps=true):∃H' bP,DR H' d m bP (gY nm g ps) 80/\
  ∀Q:VS->List VS->HH->Prop,Q (.val .none) [.val (.ref d),.val (.str nm),.val (.ao (.list (ps.map iw)))] H'->GK (F (k+4)) 56 [.val (.ref d),.val (.str nm),.own (.list (ps.map iw))] H Q:=
 (Ip (k:=k) h (by lia) hp).elim λH' z=>z.elim λbP z=>⟨H',bP,z.1.mono (by lia),λQ q=>by
  refine bL vi rfl rfl rfl ?_
  have hI:EI (F (k+3)) (n0 d nm (.own (.list (ps.map iw))) (none,none,none) H) (.of (.slot 2)) (ps.map iw) (n0 d nm (.val (.ao (.list (ps.map iw)))) (none,none,none) H):=.ea (.rf (.rf rfl) rfl) rfl
  exact hI _ (gp (z.2 _ _ _ λg=>nd rfl q))⟩
noncomputable def qK:Str:=⟨#[99,111,110,102]⟩
noncomputable def qG:Str:=⟨#[98,109]⟩
noncomputable def gx:Str:=⟨#[98,112,98]⟩
theorem xq:(pU qK PC&&pU qG PM&&pU gx PB)=true:=by decide+kernel
theorem Um{H:HH}{ms:List (Key×O)}(h:DR H d m ms c7 0):∃H' bP,DR H' d m bP (gY qK c7 PC) 80/\Ph (F (k+7)) 59 [.val (.bytes eB),.val (.ref d)] H (.val .none) H':=
 (xZ (k:=k+2) h (by decide) (Bool.and_eq_true_iff.mp (Bool.and_eq_true_iff.mp xq).1).1).elim λH' z=>z.elim λbP z=>⟨H',bP,z.1,λQ q=>by
  refine bL u6 rfl rfl rfl ?_
  refine HZ (λK=>TY) ?_
  exact az (.ex (.IK (o:=.val .none) (.rf rfl) (.rf rfl) (.rf rfl) rfl z.2 rfl)) (nd rfl (q _ rfl))⟩
theorem Ul{H:HH}{ms:List (Key×O)}(h:DR H d m ms c7 0):∃H' bP,DR H' d m bP (gY qG c7 PM) 80/\Ph (F (k+7)) 58 [.val (.bytes nB),.val (.ref d)] H (.val .none) H':=
 (xZ (k:=k+2) h (by decide) (Bool.and_eq_true_iff.mp (Bool.and_eq_true_iff.mp xq).1).2).elim λH' z=>z.elim λbP z=>⟨H',bP,z.1,λQ q=>by
  refine bL u9 rfl rfl rfl ?_
  refine HZ (λK=>TX) ?_
  exact az (.ex (.IK (o:=.val .none) (.rf rfl) (.rf rfl) (.rf rfl) rfl z.2 rfl)) (nd rfl (q _ rfl))⟩
noncomputable def Kj:ME:=match ra.body with
 | .cons _ (.cons _ (.cons _ (.cons (.expr (.call _ (.cons _ (.cons _ (.cons e _))))) _)))=>e
 | _=>.bz
theorem TV{H:HH}{x3 x4 x5 x6 x7 x8:Option VS}:∀K,(wE tab (F (k+6)) Kj).1 ⟨[some (.val (.bytes gA)),some (.val (.ref d)),some (.own (uL PB)),x3,x4,x5,x6,x7,x8],[false,false],[],H⟩ K=K (.own (.list (PB.map iw))) ⟨[some (.val (.bytes gA)),some (.val (.ref d)),some (.own (uL PB)),x3,x4,x5,x6,x7,x8],[false,false],[],H⟩:=λK=>by kernel_rfl
theorem Uk{H:HH}{ms:List (Key×O)}(h:DR H d m ms c7 0):∃H' bP,DR H' d m bP (gY gx c7 PB) 80/\Ph (F (k+7)) 57 [.val (.bytes gA),.val (.ref d)] H (.val .none) H':=
 (xZ (k:=k+2) h (by decide) (Bool.and_eq_true_iff.mp xq).2).elim λH' z=>z.elim λbP z=>⟨H',bP,z.1,λQ q=>by
  refine bL ra rfl rfl rfl ?_
  refine Xr (λK=>TU) ?_
  exact az (.ex (.F4 (o:=.val .none) (n:=3) (l:=[.val (.ref d),.val (.str gx),.own (.list (PB.map iw))]) (Nat.le_refl 3) (.cons (.rf rfl) (.cons (.rf rfl) (.cons (.rf (funext TV)) .nil))) λQ q=>z.2 Q (q _ rfl))) (nd rfl (q _ rfl))⟩
end
abbrev OV:=Option VS
noncomputable def dO(w d:Nat)(x3 x4 x5 x6 x7 x8 x9 qm:OV)(H:HH):St:=⟨[some (.val (.int w)),some (.own (.dict FD)),some (.val (.ref d)),x3,x4,x5,x6,x7,x8,x9,qm],[false],[],H⟩
noncomputable def yK:bj:=match mU.body with
 | .cons _ (.cons (.aD _ b _) _)=>b
 | _=>.nil
noncomputable def sV:bj:=mU.body
noncomputable def GH:MS->ME
 | .ret e=>e
 | .assign _ e=>e
 | _=>.bz
noncomputable def kb:List O:=gB.map λp=>.tup [nV p.1,.tup (p.2.map nV)]
noncomputable def pJ:List O:=gB.map λp=>nV p.1
noncomputable def i3:List (Key×O):=gO.map λp=>(.i p.1,nV p.2)
section
variable{k d:Nat}{H:HH}
theorem Kh{K:KS}:wS tab (F (k+9)) (cF 2 yK) (dO 0 d (some (.val (.bytes eB))) none none none none none none none H) K=K .next (dO 0 d (some (.val (.bytes eB))) (some (.own (.list kb))) none none none none none none H):=by kernel_rfl
theorem Ki{K:KS}:wS tab (F (k+9)) (cF 3 yK) (dO 0 d (some (.val (.bytes eB))) (some (.own (.list kb))) none none none none none none H) K=K .next (dO 0 d (some (.val (.bytes eB))) (some (.val (.ao (.list kb)))) (some (.own (.list pJ))) none none none none none H):=by kernel_rfl
theorem Ab{w:Nat}{K:KS}:wS tab (F (k+9)) (cF 2 sV) (dO w d none none none none none none none none H) K=K .next (dO w d none none none (some (.own (.dict i3))) none none none none H):=by kernel_rfl
theorem L3:e7 (.ao (.dict FD)) (.str AI)=some (.bytes eB):=by kernel_rfl
theorem L4:e7 (.ao (.dict FD)) (.str E0)=some (.bytes nB):=by kernel_rfl
theorem L1:e7 (.ao (.dict FD)) (.str z0)=some (.bytes gA):=by kernel_rfl
theorem sx:(∀p∈gB,p.1<=1114111)/\(∀p∈gO,p.1<=1114111/\p.2<=1114111)/\∀p∈dC,p.1<=1114111/\p.2.1<=1114111:=by decide
theorem le_max{n:Nat}(h:n<=1114111):(n:Int)<=1114111:=Int.ofNat_le.mpr h
noncomputable def kO(p:Nat×List Nat):O:=.tup (p.2.map nV)
theorem XA:∀p∈gB,gY qK c7 PC qK (p.1:Nat)=kO p:=List.map_inj_left.mp (by kernel_rfl)
theorem XB:∀p∈gB,cz .Eq (kO p) (kO p)=some true:=List.map_inj_left.mp (by kernel_rfl)
theorem nC(K:KE):∀p∈gB,(wE tab (F (k+9)) (.not (.aG .any (.cons (.comp 1 (.ay 0) (.of (.ay 0 1)) .nil (.cmp .In (.ay 0 0) (.slot 5))) .nil)))).1 (St.bb (dO 0 d (some (.val (.bytes eB))) (some (.val (.ao (.list kb)))) (some (.own (.list pJ))) none none none none none H) [some (nV p.1),some (kO p)]) K =
  K (.val (.bool true)) (St.bb (dO 0 d (some (.val (.bytes eB))) (some (.val (.ao (.list kb)))) (some (.own (.list pJ))) none none none none none H) [some (nV p.1),some (kO p)]):=List.map_inj_left.mp (by kernel_rfl)
theorem Jo:g6 .all [.ao (.list (gB.map λZ=>.bool true))]=some (.val (.bool true)):=by kernel_rfl
theorem allM:g6 .all [.ao (.list (gO.map λZ=>.bool true))]=some (.val (.bool true)):=by kernel_rfl
theorem w7:cz .NotEq (.ao (.list kb)) (.ao (.list []))=some true:=by kernel_rfl
theorem xD{w:Nat}:S1 (F (k+9)) (cF 0 sV) (⟨[some (.val (.int w)),none,none,none,none,none,none,none,none,none,none],[false],[],H⟩) (dO w (H.length+1) none none none none none none none none (H++[.dict []]++[jB H.length])):=
 .tf (.cons (.pu (o:=.own (.dict FD)) (l:=[]) .nil T7) (.cons (.cv (show O.ref (H++[AC.dict []]).length=.ref (H.length+1) from congrArg O.ref List.length_append) (.sF (l:=[]) (H':=H++[.dict []]) .nil (λQ q=>xW Q q) rfl)) .nil)) rfl rfl (.cons (.so rfl) (.cons (.sv rfl) .nil))
theorem Uz:∃H',Ph (F (k+10)) 71 [.val (.int (0:Nat))] H (.val (.bool true)) H':=
 (Um (k:=k+2) (n8 H)).elim λH' z=>z.elim λms z=>⟨H',λQ q=>by
  have R:=z.1
  refine bL mU rfl rfl rfl ?_
  refine az xD ?_
  have eA:Ev (F (k+9)) (dO 0 (H.length+1) (some (.val (.bytes eB))) (some (.val (.ao (.list kb)))) (some (.own (.list pJ))) none none none none none H') (GH (cF 4 yK)) (.val (.bool true)) (dO 0 (H.length+1) (some (.val (.bytes eB))) (some (.val (.ao (.list kb)))) (some (.own (.list pJ))) none none none none none H'):=by
   refine .cw (.cmp (.rf rfl) (.rf rfl) rfl rfl w7) rfl rfl (.aG (.cons (.mp (L:=gB) (λp=>.tup [nV p.1,kO p]) (λZ=>.bool true) (.ea (.val (.rf rfl)) rfl) (bA (m:=24) (Nat.le_of_ble_eq_true rfl) rfl) λp hp=>.yes (fr:=[some (nV p.1),some (kO p)]) (λK k=>k) .nil (.val ?_)) .nil) rfl Jo)
   exact .cw (.cmp (.kS R (Int.natCast_nonneg _) (le_max (sx.1 p hp)) (XA p hp) (.rf rfl) (.rf rfl) (.rf rfl) rfl) (.rf rfl) rfl rfl (XB p hp)) rfl rfl (.rf (funext λK=>nC K p hp))
  refine wr (.c5 (.rf rfl) (.cons (.sv (.idx (.rf rfl) (.rf rfl) rfl rfl L3) rfl) (.cons (.ex (.ph (o:=.val .none) (l:=[.val (.bytes eB),.val (.ref (H.length+1))]) (.cons (.rf rfl) (.cons (.rf rfl) .nil)) z.2)) (.cons (.rf λK=>Kh) (.cons (.rf λK=>Ki) (.ret eA)))))) ?_
  exact aH (show params _=some _ from rfl) (aH (show leave _ _=some _ from rfl) (q _ rfl))⟩
end
noncomputable def zT:MS->bj
 | .aD _ b _=>b
 | .for _ _ b=>b
 | _=>.nil
section
variable{k d:Nat}{H:HH}
theorem XC:∀p∈gO,gY qG c7 PM qG (p.1:Nat)=nV p.2:=List.map_inj_left.mp (by kernel_rfl)
theorem XD:∀p∈gO,e7 (.ao (.dict i3)) (nV p.1)=some (nV p.2):=List.map_inj_left.mp (by kernel_rfl)
theorem Lx(a:Nat):cz .Eq (nV a) (nV a)=some true:=congrArg some (beq_self_eq_true _)
theorem nM(K:KE){x3:OV}:∀p∈gO,(wE tab (F (k+9)) (.cmp .Eq (.aw .get (.slot 6) (.cons (.idx (.slot 6) (.ay 0 0)) .nil)) (.ay 0 0))).1 (St.bb (dO 1 d x3 none none (some (.val (.ao (.dict i3)))) none none none none H) [some (nV p.1)]) K =
  K (.val (.bool true)) (St.bb (dO 1 d x3 none none (some (.val (.ao (.dict i3)))) none none none none H) [some (nV p.1)]):=List.map_inj_left.mp (by kernel_rfl)
theorem R0:cz .NotEq (.ao (.dict i3)) (.ao (.dict []))=some true:=by kernel_rfl
theorem Pm:nh (.ao (.dict i3))=some (gO.map λp=>nV p.1):=by kernel_rfl
theorem UA:∃H',Ph (F (k+10)) 71 [.val (.int (1:Nat))] H (.val (.bool true)) H':=
 (Ul (k:=k+2) (n8 H)).elim λH' z=>z.elim λms z=>⟨H',λQ q=>by
  have R:=z.1
  refine bL mU rfl rfl rfl ?_
  refine az xD (az (.aS (.rf rfl) .nil) (az (.rf λK=>Ab) ?_))
  have eA:Ev (F (k+9)) (dO 1 (H.length+1) none none none (some (.own (.dict i3))) none none none none H') (GH (cF 1 (zT (cF 3 sV)))) (.val (.bool true)) (dO 1 (H.length+1) none none none (some (.val (.ao (.dict i3)))) none none none none H'):=by
   refine .cw (.cmp (.rf rfl) (.rf rfl) rfl rfl R0) rfl rfl (.aG (.cons (.mp (L:=gO) (λp=>nV p.1) (λZ=>.bool true) (.ea (.rf (.rf rfl) rfl) Pm) (bA (m:=18) (Nat.le_of_ble_eq_true rfl) rfl) λp hp=>.one (.val ?_)) .nil) rfl allM)
   exact .cw (.cmp (.kS R (Int.natCast_nonneg _) (le_max (sx.2.1 p hp).1) (XC p hp) (.rf rfl) (.rf rfl) (.rf rfl) rfl) (.idx (.rf rfl) (.rf rfl) rfl rfl (XD p hp)) rfl rfl (Lx p.2)) rfl rfl (.rf (funext λK=>nM K p hp))
  refine wr (.c5 (.rf rfl) (.cons (.ex (.ph (o:=.val .none) (l:=[.val (.bytes nB),.val (.ref (H.length+1))]) (.cons (.idx (.rf rfl) (.rf rfl) rfl rfl L4) (.cons (.rf rfl) .nil)) z.2)) (.ret eA))) ?_
  exact aH (show params _=some _ from rfl) (aH (show leave _ _=some _ from rfl) (q _ rfl))⟩
noncomputable def ur(p:Nat×Nat×Str):O:=.tup [.str p.2.2,nV p.2.1]
noncomputable def qH(p:Nat×Nat×Str):O:=.tup [.str (if p.2.2=⟨#[111]⟩ then⟨#[99]⟩ else⟨#[111]⟩),nV p.1]
noncomputable def i9(p:Nat×Nat×Str):O:=aQ [hx p.1,hx p.2.1,oct p.2.2]
theorem K3:Pu (F (k+1)) 70 [.val (.bytes gA)] (.own (.list (dC.map i9))):=cT (L:=[()]) (x:=λZ=>.own (.list (dC.map i9))) BI rfl (λZ=>rfl) (λZ=>[.val (.bytes gA)]) (λZ=>rfl) (λH Q=>by kernel_rfl) () (.head _)
theorem Xy:∀p∈dC,gY gx c7 PB gx (p.1:Nat)=ur p:=List.map_inj_left.mp (by kernel_rfl)
theorem Xz:∀p∈dC,gY gx c7 PB gx (p.2.1:Nat)=qH p:=List.map_inj_left.mp (by kernel_rfl)
theorem Qw:∀p∈dC,cz .NotEq (ur p) (ur p)=some false:=List.map_inj_left.mp (by kernel_rfl)
theorem Qx:∀p∈dC,cz .NotEq (qH p) (qH p)=some false:=List.map_inj_left.mp (by kernel_rfl)
noncomputable def sR(d:Nat)(x7 x8 x9 qm:OV)(H:HH):St:=dO 2 d (some (.val (.bytes gA))) none none (some (.own (.dict i3))) x7 x8 x9 qm H
noncomputable def pW(d:Nat)(p:Nat×Nat×Str)(H:HH):St:=sR d (some (.val (i9 p))) (some (.val (nV p.1))) (some (.val (nV p.2.1))) (some (.val (.str p.2.2))) H
noncomputable def xE:bj:=zT (cF 6 sV)
theorem b0(K:KS){x8 x9 qm:OV}:∀p∈dC,wS tab (F (k+9)) (cF 0 xE) (sR d (some (.val (i9 p))) x8 x9 qm H) K=K .next (pW d p H):=List.map_inj_left.mp (by kernel_rfl)
noncomputable def Ax:ME->ME
 | .cmp _ _ b=>b
 | .or _ b=>Ax b
 | _=>.bz
theorem b1(K:KE):∀p∈dC,(wE tab (F (k+9)) (Ax (qj (cF 1 xE)))).1 (pW d p H) K=K (.val (qH p)) (pW d p H):=List.map_inj_left.mp (by kernel_rfl)
theorem b2(K:KT):∀p∈dC,(wE tab (F (k+9)) (qj (cF 2 xE))).2 (pW d p H) K=K false (pW d p H):=List.map_inj_left.mp (by kernel_rfl)
theorem zZ:gY gx c7 PB gx 40=.tup [.str ⟨#[111]⟩,.int 41]/\gY gx c7 PB gx 65=.none:=⟨by kernel_rfl,by kernel_rfl⟩
theorem UB:∃H',Ph (F (k+10)) 71 [.val (.int (2:Nat))] H (.val (.bool true)) H':=
 (Uk (k:=k+2) (n8 H)).elim λH' z=>z.elim λms z=>⟨H',λQ q=>by
  have R:=z.1
  refine bL mU rfl rfl rfl ?_
  refine az xD (az (.aS (.rf rfl) .nil) (az (.rf λK=>Ab) (az (.aS (.rf rfl) .nil) ?_)))
  refine az (.sv (.idx (.rf rfl) (.rf rfl) rfl rfl L1) rfl) ?_
  refine az (.ex (.ph (o:=.val .none) (l:=[.val (.bytes gA),.val (.ref (H.length+1))]) (.cons (.rf rfl) (.cons (.rf rfl) .nil)) z.2)) ?_
  refine lp (L:=dC) i9 (λZ (g:OV×OV×OV×OV)=>sR (H.length+1) g.1 g.2.1 g.2.2.1 g.2.2.2 H') (g:=(none,none,none,none)) (.ea (.own (d:=.list (dC.map i9)) (.p1 (o:=.own (.list (dC.map i9))) (.rf rfl) K3)) rfl) (λdone p rest g e=>⟨(some (.val (i9 p)),some (.val (nV p.1)),some (.val (nV p.2.1)),some (.val (.str p.2.2))),sR (H.length+1) (some (.val (i9 p))) g.2.1 g.2.2.1 g.2.2.2 H',.sv rfl,?_⟩) λg=>?_
  .have hp:p∈dC:=e▸List.mem_append_right _ (.head _)
   refine .cons (.rf λK=>b0 K p hp) ?_
   refine .cons (.aS (.eD (.cmp (.kS R (Int.natCast_nonneg _) (le_max (sx.2.2 p hp).1) (Xy p hp) (.rf rfl) (.rf rfl) (.rf rfl) rfl) (.rf rfl) rfl rfl (Qw p hp)) (.cmp (.kS R (Int.natCast_nonneg _) (le_max (sx.2.2 p hp).2) (Xz p hp) (.rf rfl) (.rf rfl) (.rf rfl) rfl) (.rf (funext λK=>b1 K p hp)) rfl rfl (Qx p hp))) .nil) ?_
   exact .cons (.aS (.rf (funext λK=>b2 K p hp)) .nil) .nil
  .exact rt (.cw (.cmp (.kS R (by decide) (by decide) zZ.1 (.rf rfl) (.rf rfl) (.rf rfl) rfl) (.rf rfl) rfl rfl rfl) rfl rfl (.bS (u:=.none) (.kS R (by decide) (by decide) zZ.2 (.rf rfl) (.rf rfl) (.rf rfl) rfl) rfl)) rfl rfl (q _ rfl)⟩
theorem Uh{w:Nat}(h:w<3):∃H',Ph (F (k+10)) 71 [.val (.int w)] H (.val (.bool true)) H':=match w,h with
 | 0,_=>Uz
 | 1,_=>UA
 | 2,_=>UB
end
section
variable{G:FT}{st st1 st2:St}{a:ME}{v:O}{i f:Nat}{d d':AC}{H':HH}
theorem Ev.sh(h:Ev G st a (.loc i) st1)(ho:st1.σ[i]?=some (some (.own d)))(S:Sh G f d st1.H v d' H')(hu:ups i (.own d') (St.wH st1 H')=pt st2):Ev G st (.call f (.cons a .nil)) (.val v) st2:=λK k=>h _ (by
 show CK G f [.loc i] st1 K
 unfold CK
 obtain⟨σ,lk,κ,H⟩:=st1
 refine dq (decide_eq_true (List.nodup_cons.mpr ⟨List.not_mem_nil,.nil⟩)) (aH (a:=[.own d]) ?_ (S _ ?_))
 .show(match (match σ[i]? with | some (some x)=>some x | _=>none),some [] with | some a,some l=>some (a::l) | _,_=>none)=_
  rw[show σ[i]?=_ from ho]
 .show(match σ[i]? with
   | some (some (.own _))=>dQ (some (VS.own d')) σ i λσ=>K (.val v) ⟨σ,lk,κ,H'⟩
   | _=>K (.val v) ⟨σ,lk,κ,H'⟩)
  rw[show σ[i]?=_ from ho]
  have e:=kf hu
  subst e
  exact lR _ _ _ k)
end
section
variable{k:Nat}
theorem T5{L:List Nat}(Y:L.length<=10)(hm:∀n∈L,n∈c9):Px (F (k+2)) 15 [.own (.list (nats L))] (.val (.bytes (bN (L.map some)))) [.val (.ao (.list (nats L)))]:=λH Q q=>
 oX rh rfl rfl (.ret (.mv (r:=.val (.bytes (bN (L.map some)))) (.rf rfl) rfl (.inl rfl) (.cons (.mp (λ(n:Nat)=>.int n) (λn=>.bytes (hx n)) (.ea (.rf (.rf rfl) rfl) rfl) (bA (m:=10) Y rfl) λn hn=>.one (.val (.p1 (.rf rfl) (mQ n (hm n hn))))) .nil) rfl rfl
  (by
   have:=vS (L:=L.map some) (by rw[List.length_map];exact Y)
   unfold bN at this ⊢
   rw[o4] at this ⊢
   rw[show(L.map λn=>O.bytes (hx n))=(L.map hx).map .bytes from List.map_map.symm];exact ly this))) rfl rfl q
noncomputable def m9(n:Int):Int:=n % 1000000000
theorem U4{xs:List Int}(h:xs.length<=63):nU (.ao (.list (xs.map .int))) .none (.int 63)=some (.own (.list (xs.map .int))):=by
 show some (ER.own (.list (fu (xs.map O.int) none (some ((63:Nat):Int)))))=_
 refine congrArg (λl=>some (ER.own (.list l))) ?_
 show List.take (ft (xs.map O.int).length ((63:Nat):Int) - 0) (xs.map O.int)=_
 refine List.take_of_length_le ?_
 rw[List.length_map,qM];exact Nat.le_min.mpr ⟨h,Nat.le_refl _⟩
theorem T9{xs:List Int}(h:xs.length<=63):F 11 72 [.val (.ao (.list (xs.map .int)))] [] λx Z Z=>x=.val (.bool true):=by
 refine(Ug (k:=0) (ns:=xs.map m9) (H:=[]) (p:=0) (Nat.zero_le _)).elim λp1 z=>z.elim λH1 z=>(T8 (k:=2) (ns:=xs.map m9) (H:=H1) (p:=p1) (by lia)).elim λp2 w=>w.elim λH2 w=>?_
 have h4:=iL (ns:=xs.map m9) (a:=p2) (m:=4) (by decide)
 have e4:=mO (ns:=xs.map m9) (a:=p2) (m:=4) (by decide)
 generalize (bM (xs.map m9) p2 (4:Nat)).toNat=n4 at h4 e4
 have h3:=iL (ns:=xs.map m9) (a:=p2+1+n4) (m:=3) (by decide)
 have e3:=mO (ns:=xs.map m9) (a:=p2+1+n4) (m:=3) (by decide)
 generalize (bM (xs.map m9) (p2+1+n4) (3:Nat)).toNat=n3 at h3 e3
 refine(Uh (k:=0) (H:=H2) h3).elim λH3 y=>?_
 have YQ:=w.1
 have dw:∀n∈(List.range n4).map (λj=>pk (xs.map m9) (p2+1+j) b9 0),n∈b9:=λn hn=>(List.mem_map.mp hn).elim λj e=>e.2▸fg (by decide)
 have k9:((List.range n4).map λj=>pk (xs.map m9) (p2+1+j) b9 0).length<=10:=by rw[List.length_map,List.length_range];exact Nat.le_trans (Nat.le_of_lt (by assumption)) (by decide)
 have Dv:((List.range n4).map λj=>(O.int (pk (xs.map m9) (p2+1+j) b9 0:Nat)))=nats ((List.range n4).map λj=>pk (xs.map m9) (p2+1+j) b9 0):=(List.map_map (l:=List.range n4) (f:=λj=>pk (xs.map m9) (p2+1+j) b9 0) (g:=λ(n:Nat)=>O.int n)).symm
 generalize Oo:(List.range n4).map (λj=>pk (xs.map m9) (p2+1+j) b9 0)=ps at dw k9 Dv
 have G0:GK (F 11) 72 [.val (.ao (.list (xs.map .int)))] [] λx Z Z=>x=.val (.bool true):=by
  refine bL Bz rfl rfl rfl ?_
  refine az (.so (c:=bq (xs.map m9) 0) (.lst (.cons (.own (d:=.list ((xs.map m9).map .int)) (.cr (congrArg (λl=>ER.own (.list l)) (List.map_map (l:=xs) (f:=m9) (g:=O.int)).symm) (.mp (L:=xs) .int (λn=>.int (m9 n)) (.ea (.own (.bu (.rf rfl) (.rf rfl) (.rf rfl) rfl rfl rfl (U4 h))) rfl) (bA (m:=63) h rfl) λn Z=>.one (.val (.bin (.aG (.cons (.rf rfl) .nil) rfl rfl) (.rf rfl) rfl rfl (E5 (by decide))))))) (.cons (.val (.rf rfl)) .nil))) rfl) ?_
  refine az (.aS (.eD (.not (k:=true) (.of rfl (.sh (.rf rfl) rfl z.2 rfl) rfl rfl)) (.not (k:=true) (.of rfl (.sh (.rf rfl) rfl w.2 rfl) rfl rfl))) .nil) ?_
  refine az (.so (c:=.list (nats ps)) (.cr (congrArg (λl=>ER.own (.list l)) Dv) (.F5 (p:=p2+1) (m:=n4) (λ(n:Nat)=>.int n) b9 0 (.r1 (.cv (congrArg O.int e4) (.draw (by lia) (by decide) (.rf rfl) (.rf rfl) rfl rfl)) rfl (nQ (by exact Nat.le_trans (Nat.le_of_lt (by assumption)) (by decide)))) (tM n4) rfl (by lia) rfl rfl (λst=>.rf rfl) rfl)) rfl) ?_
  have rX:∀n∈ps,n∈c9:=λn hn=>rZ (dw n hn)
  refine rt (.cw (.cmp (.l1 (o:=.val (.bytes (bN (ps.map some)))) (.rf rfl) rfl (T5 k9 rX) rfl) (.p1 (o:=.val (.bytes (bN (ps.map some)))) (.rf rfl) (qb (L:=ps.map some) (.inr (.inr (congrArg (λl=>VS.val (.ao (.list l))) (E8 ps)))) (by rw[List.length_map];exact k9) λn hn=>(List.mem_map.mp hn).elim λm e=>Option.some.inj e.2▸rX m e.1)) rfl rfl (congrArg some (beq_self_eq_true (bN (ps.map some))))) rfl rfl (.ph (o:=.val (.bool true)) (l:=[.val (.int n3)]) (.cons (.cv (congrArg O.int e3) (.draw (by lia) (by decide) (.rf rfl) (.rf rfl) rfl rfl)) .nil) y)) rfl rfl rfl
 unfold GK at G0
 exact G0
end
end Mine.Internal.P
theorem PySem.Challenge.cw_nt0069_01_holds : PySem.Challenge.rw_nt0069_01.Holds :=
 Mine.Internal.XU (KK:=11) (by decide) λxs h=>Mine.Internal.P.T9 h
