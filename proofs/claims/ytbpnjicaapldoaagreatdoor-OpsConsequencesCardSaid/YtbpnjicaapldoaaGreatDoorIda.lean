/- This text proves parts of the soundness of an interpreter of the code with values in place of memory (its definitions, relations and plain operations); it has no conditions. -/
import Derived.CallsIn
import GoSem.Step
import Derived.RangeFuncLeaves
import Derived.RangeFuncSeq
import Derived.LoopNIn
import Derived.Laws.AppendOwn
import Derived.Laws.Rows
import Derived.Laws.Strings
import Derived.Laws.StructEq
import Derived.ChangeKeysEq
set_option linter.unusedSimpArgs false
set_option linter.unusedVariables false
namespace Go.Idl
inductive IV where
 |undef
 |bool (b:Bool)
 |int (k:IntKind) (n:Int)
 |float (k:FloatKind) (bits:Nat)
 |cplx (k:FloatKind) (re im:Nat)
 |str (s:List UInt8)
 |nilPtr
 |pI (row:List IV) (off:Nat)
 |pB (id off:Nat)
 |pL (k off:Nat)
 |nilSlice
 |sl (row:List IV) (len:Nat)
 |sB (id off len sz:Nat)
 |nilMap
 |map (id:Nat)
 |nilFunc
 |func (f:FuncId) (first cap:List IV)
 |yld (id:Nat)
 |nilIface
 |iface (t:TypeId) (v:IV)
 |agg (cs:List IV)
 |tup (cs:List IV)
 deriving Inhabited
inductive Loc where
 |slot (i:Nat)
 |L (k off:Nat)
 |B (id off:Nat)
 |marked
 deriving DecidableEq,Inhabited
inductive Cap where
 |any
 |own (sz:Nat)
 deriving DecidableEq,Inhabited
inductive BObj where
 |none
 |cells (cs:List IV) (cp:List Cap)
 |iter (s:List UInt8) (pos:Nat)
 |map (es:List (IV×IV))
 |loop (busy:Nat) (fn site:Nat) (tm:List (Nat×IV×Cap)) (jump:Nat)
 deriving Inhabited
structure IM where
 bs:List BObj
 esc:Nat
 deriving Inhabited
abbrev Env:=List (Nat×IV×Cap)
structure St where
 env:Env
 lk:List (Nat×Loc)
 lb:List (Nat×BObj)
 m:IM
 deriving Inhabited
inductive Arg where
 |t (i:Nat)
 |c (v:IV)
 deriving Inhabited
def look:Env→Nat→Option (IV×Cap)
 |[],_=>none
 |(j,v,c)::r,i=>match Nat.beq j i with
  |true=>some (v,c)
  |false=>look r i
def slotV (e:Env) (i:Nat):IV :=
 match look e i with
 |some (v,_)=>v
 |none=>.undef
def slotC (e:Env) (i:Nat):Cap :=
 match look e i with
 |some (_,c)=>c
 |none=>.any
def Arg.rd (e:Env):Arg→Option IV
 |.t i=>match look e i with
  |some (v,_)=>some v
  |none=>some .undef
 |.c v=>some v
def rdAll (e:Env):List Arg→Option (List IV)
 |[]=>some []
 |a::r=>match a.rd e,rdAll e r with
  |some v,some vs=>some (v::vs)
  |_,_=>none
def frc {α:Type}:List α→Option (List α)
 |[]=>some []
 |x::r=>match frc r with
  |some r=>some (x::r)
  |none=>none
def frcV:IV→Option IV
 |.int k (.ofNat 0)=>some (.int k (.ofNat 0))
 |.int k (.ofNat (n+1))=>some (.int k (.ofNat (n+1)))
 |.int k (.negSucc 0)=>some (.int k (.negSucc 0))
 |.int k (.negSucc (n+1))=>some (.int k (.negSucc (n+1)))
 |.bool true=>some (.bool true)
 |.bool false=>some (.bool false)
 |v=>some v
def lookL:List (Nat×BObj)→Nat→BObj
 |[],_=>.none
 |(j,o)::r,k=>match Nat.beq j k with
  |true=>o
  |false=>lookL r k
inductive EqD where
 |bool | int | str | ptr | slice | func | map | float
 deriving DecidableEq,Inhabited
inductive POp where
 |pick
 |build (zero:List IV) (parts:List (Nat×Nat))
 |nilCheck
 |bin (op:BinOp)
 |eq (neg:Bool) (d:EqD)
 |eqAgg (neg:Bool) (plan:List (Nat×EqD))
 |un (op:UnOp)
 |convInt (k:IntKind)
 |convStr
 |intStr
 |bytesStr
 |mkIface (t:TypeId)
 |mkFunc (f:FuncId) (nfirst:Nat)
 |fieldAddr (off:Nat)
 |field (agg:Bool) (off n:Nat)
 |indexA (len sz:Nat)
 |indexS (sz:Nat)
 |idxArr (len:Nat) (agg:Bool) (n:Nat)
 |idxStr
 |sliceS (sz:Nat) (lo hi:Bool)
 |sliceStr (lo hi:Bool)
 |sliceA (len sz:Nat) (lo hi:Bool)
 |extract (i:Nat)
 |lenStr | lenSlice | lenArr (n:Nat)
 |min | max
 deriving Inhabited
def IV.cells:IV→List IV
 |.agg cs=>cs
 |v=>[v]
def over (cs:List IV) (off:Nat) (vs:List IV):List IV:=cs.take off++vs++cs.drop (off+vs.length)
def cut (cs:List IV) (off n:Nat):Option (List IV):=if off+n≤cs.length then some ((cs.drop off).take n) else none
def IV.isL:IV→Bool
 |.pL ..=>true
 |_=>false
def IV.isU:IV→Bool
 |.undef=>true
 |_=>false
def fillI:List IV→List (Nat×Nat)→List IV→Option (List IV)
 |cs,(off,n)::ps,v::vs =>
  let c:=v.cells
  if !v.isU && !v.isL&&c.length=n&&off+n≤cs.length then fillI (over cs off c) ps vs else none
 |cs,[],[]=>some cs
 |_,_,_=>none
def partI (agg:Bool) (cs:List IV) (off n:Nat):Option IV :=
 if agg then (cut cs off n).map .agg else cs[off]?
def eqS:EqD→IV→IV→Option Bool
 |.bool,.bool a,.bool b=>some (a==b)
 |.int,.int k a,.int k' b=>if k=k' then some (a==b) else none
 |.str,.str a,.str b=>some (a==b)
 |.float,.float k a,.float k' b=>if k=k' then some (k.format.order a b==some .eq) else none
 |.ptr,.nilPtr,.nilPtr=>some true
 |.ptr,.nilPtr,.pI .. | .ptr,.nilPtr,.pB .. | .ptr,.nilPtr,.pL ..=>some false
 |.ptr,.pI ..,.nilPtr | .ptr,.pB ..,.nilPtr | .ptr,.pL ..,.nilPtr=>some false
 |.slice,.nilSlice,.nilSlice=>some true
 |.slice,.nilSlice,.sl .. | .slice,.nilSlice,.sB ..=>some false
 |.slice,.sl ..,.nilSlice | .slice,.sB ..,.nilSlice=>some false
 |.func,.nilFunc,.nilFunc=>some true
 |.func,.nilFunc,.func .. | .func,.func ..,.nilFunc=>some false
 |.map,.nilMap,.nilMap=>some true
 |.map,.nilMap,.map .. | .map,.map ..,.nilMap=>some false
 |_,_,_=>none
def eqPlan:List (Nat×EqD)→List IV→List IV→Option Bool
 |[],_,_=>some true
 |(o,d)::ps,xs,ys =>
  match xs[o]?,ys[o]? with
  |some x,some y=>match eqS d x y with
   |some true=>eqPlan ps xs ys
   |some false=>some false
   |none=>none
  |_,_=>none
def bytesLessL:List UInt8→List UInt8→Bool
 |_,[]=>false
 |[],_::_=>true
 |a::x,b::y=>a.toNat<b.toNat||(a.toNat==b.toNat&&bytesLessL x y)
def maxLenI:Nat:=1099511627776
def binInt (op:BinOp) (k:IntKind) (a b:Int):Option IV :=
 match op with
 |.add=>some (.int k (k.wrap (a+b)))
 |.sub=>some (.int k (k.wrap (a-b)))
 |.mul=>some (.int k (k.wrap (a*b)))
 |.quo=>if b=0 then none else some (.int k (k.wrap (a.tdiv b)))
 |.rem=>if b=0 then none else some (.int k (a.tmod b))
 |.and=>some (.int k (k.wrap (BitVec.ofInt k.bits a &&& BitVec.ofInt k.bits b).toNat))
 |.or=>some (.int k (k.wrap (BitVec.ofInt k.bits a ||| BitVec.ofInt k.bits b).toNat))
 |.xor=>some (.int k (k.wrap (BitVec.ofInt k.bits a ^^^ BitVec.ofInt k.bits b).toNat))
 |.andNot=>some (.int k (k.wrap (BitVec.ofInt k.bits a &&& ~~~ BitVec.ofInt k.bits b).toNat))
 |.eql=>some (.bool (a==b))
 |.neq=>some (.bool (a != b))
 |.lss=>some (.bool (a<b))
 |.leq=>some (.bool (a≤b))
 |.gtr=>some (.bool (a>b))
 |.geq=>some (.bool (a≥b))
 |_=>none
def binStr (op:BinOp) (a b:List UInt8):Option IV :=
 match op with
 |.add=>if a.length+b.length≤maxLenI then some (.str (a++b)) else none
 |.eql=>some (.bool (a==b))
 |.neq=>some (.bool (!(a==b)))
 |.lss=>some (.bool (bytesLessL a b))
 |.leq=>some (.bool (bytesLessL a b||a==b))
 |.gtr=>some (.bool (!(bytesLessL a b||a==b)))
 |.geq=>some (.bool (!bytesLessL a b))
 |_=>none
def shiftI (op:BinOp) (k:IntKind) (a b:Int):Option IV :=
 if b<0 then none else
 match op with
 |.shl=>some (.int k (k.wrap (a*2^(Nat.min b.toNat k.bits))))
 |.shr=>some (.int k (a.fdiv (2^(Nat.min b.toNat k.bits))))
 |_=>none
def isShift:BinOp→Bool
 |.shl | .shr=>true
 |_=>false
def binEv (op:BinOp):IV→IV→Option IV
 |.int k a,.int k' b=>if isShift op then shiftI op k a b else if k=k' then binInt op k a b else none
 |.str a,.str b=>binStr op a b
 |_,_=>none
def unEv:UnOp→IV→Option IV
 |.neg,.int k n=>some (.int k (k.wrap (0-n)))
 |.xor,.int k n=>some (.int k (k.wrap (BitVec.ofInt k.bits (if k.signed then -1 else k.max) ^^^ BitVec.ofInt k.bits n).toNat))
 |.not,.bool b=>some (.bool !b)
 |_,_=>none
def byteVals:List IV→Option (List UInt8)
 |[]=>some []
 |.int .u8 n::r=>(byteVals r).map (UInt8.ofNat n.toNat :: ·)
 |_::_=>none
def bnd (d y:Nat):Option IV→Option Nat
 |none=>some d
 |some (.int _ i)=>if 0≤i∧i≤y then some i.toNat else none
 |_=>none
def bnds (len:Nat) (lo hi:Option IV):Option (Nat×Nat) :=
 match bnd len len hi with
 |none=>none
 |some h=>match bnd 0 h lo with
  |none=>none
  |some l=>some (l,h)
def loHi (lo hi:Bool) (args:List IV):Option (Option IV×Option IV) :=
 match lo,hi,args with
 |false,false,[]=>some (none,none)
 |true,false,[l]=>some (some l,none)
 |false,true,[h]=>some (none,some h)
 |true,true,[l,h]=>some (some l,some h)
 |_,_,_=>none
def min2I:IV→IV→Option IV
 |.int k x,.int k' y=>if k=k' then some (.int k (if y<x then y else x)) else none
 |_,_=>none
def max2I:IV→IV→Option IV
 |.int k x,.int k' y=>if k=k' then some (.int k (if x<y then y else x)) else none
 |_,_=>none
def fold2 (f:IV→IV→Option IV):IV→List IV→Option IV
 |x,[]=>some x
 |x,y::r=>match f x y with | some z=>fold2 f z r | none=>none
def POp.ev:POp→List IV→Option IV
 |.pick,[.bool c,a,b]=>some (if c then a else b)
 |.build zero parts,args=>(fillI zero parts args).map .agg
 |.nilCheck,[v]=>match v with
  |.pI .. | .pB .. | .pL .. | .func .. | .yld ..=>some v
  |_=>none
 |.bin op,[x,y]=>binEv op x y
 |.eq neg d,[x,y]=>(eqS d x y).map fun b=>.bool (if neg then !b else b)
 |.eqAgg neg plan,[.agg xs,.agg ys]=>(eqPlan plan xs ys).map fun b=>.bool (if neg then !b else b)
 |.un op,[x]=>unEv op x
 |.convInt k,[.int _ n]=>some (.int k (k.wrap n))
 |.convStr,[.str s]=>some (.str s)
 |.intStr,[.int _ n]=>some (.str (Utf8.encode n).data.toList)
 |.bytesStr,[.nilSlice]=>some (.str [])
 |.bytesStr,[.sl row len]=>if row.length=len then (byteVals row).map .str else none
 |.mkIface t,[v]=>if v.isL then none else some (.iface t v)
 |.mkFunc f nf,args=>if args.all (fun v=>!v.isL) then some (.func f (args.take nf) (args.drop nf)) else none
 |.fieldAddr off,[p]=>match p with
  |.pI row o=>some (.pI row (o+off))
  |.pB id o=>some (.pB id (o+off))
  |.pL k o=>some (.pL k (o+off))
  |_=>none
 |.field agg off n,[.agg cs]=>partI agg cs off n
 |.indexA len sz,[p,.int _ i] =>
  if 0≤i∧i<len then match p with
   |.pI row o=>some (.pI row (o+i.toNat*sz))
   |.pB id o=>some (.pB id (o+i.toNat*sz))
   |.pL k o=>some (.pL k (o+i.toNat*sz))
   |_=>none
  else none
 |.indexS sz,[s,.int _ i]=>match s with
  |.sl row len=>if 0≤i∧i<len then some (.pI row (i.toNat*sz)) else none
  |.sB id off len sz'=>if 0≤i∧i<len∧sz'=sz then some (.pB id (off+i.toNat*sz)) else none
  |_=>none
 |.idxArr len agg n,[.agg cs,.int _ i]=>if 0≤i∧i<len then partI agg cs (i.toNat*n) n else none
 |.idxStr,[.str s,.int _ i]=>if 0≤i then (s[i.toNat]?).map fun b=>.int .u8 b.toNat else none
 |.sliceS sz lo hi,s::args =>
  match s,loHi lo hi args with
  |.sl row len,some (l,h)=>(bnds len l h).bind fun (l,h)=>some (.sl ((row.drop (l*sz)).take ((h-l)*sz)) (h-l))
  |.sB id off len sz',some (l,h)=>if sz'=sz then (bnds len l h).bind fun (l,h)=>if l=h then some (.sl [] 0) else some (.sB id (off+l*sz) (h-l) sz) else none
  |.nilSlice,some (l,h)=>(bnds 0 l h).bind fun _=>some .nilSlice
  |_,_=>none
 |.sliceStr lo hi,.str s::args =>
  match loHi lo hi args with
  |some (l,h)=>(bnds s.length l h).bind fun (l,h)=>some (.str ((s.drop l).take (h-l)))
  |none=>none
 |.sliceA len sz lo hi,p::args =>
  match p,loHi lo hi args with
  |.pI row o,some (l,h)=>(bnds len l h).bind fun (l,h)=>(cut row (o+l*sz) ((h-l)*sz)).map fun r=>.sl r (h-l)
  |.pB id o,some (l,h)=>(bnds len l h).bind fun (l,h)=>if l=h then some (.sl [] 0) else some (.sB id (o+l*sz) (h-l) sz)
  |_,_=>none
 |.extract i,[.tup vs]=>vs[i]?
 |.lenStr,[.str s]=>some (.int .i64 s.length)
 |.lenSlice,[v]=>match v with
  |.nilSlice=>some (.int .i64 0)
  |.sl _ n=>some (.int .i64 n)
  |.sB _ _ n _=>some (.int .i64 n)
  |_=>none
 |.lenArr n,[_]=>some (.int .i64 n)
 |.min,x::r=>fold2 min2I x r
 |.max,x::r=>fold2 max2I x r
 |_,_=>none
def capPI:List IV→Bool
 |[]=>true
 |v::r=>match v with
  |.pI ..=>capPI r
  |_=>false
def IV.plain:IV→Bool
 |.bool _ | .int .. | .float .. | .cplx .. | .str _ | .nilPtr | .pI .. | .nilSlice | .sl .. | .nilMap | .nilFunc | .nilIface=>true
 |.func _ [] []=>true
 |.func _ [] (.pI _ _::cs)=>capPI cs
 |_=>false
def IV.refs:IV→Option Nat
 |.pB id _ | .sB id _ _ _ | .map id | .yld id=>some (id+1)
 |.func _ fs cs=>go (fs++cs)
 |v=>if v.plain then some 0 else none
where
 go:List IV→Option Nat
  |[]=>some 0
  |v::r=>match v with
   |.pB id _ | .sB id _ _ _ | .map id | .yld id=>(go r).map (Nat.max (id+1))
   |v=>if v.plain then go r else none
def refsAll:List IV→Option Nat
 |[]=>some 0
 |v::r=>match v.refs,refsAll r with
  |some a,some b=>some (Nat.max a b)
  |_,_=>none
def IV.refsDeep:IV→Option Nat
 |.agg cs=>refsAll cs
 |.tup vs=>go vs
 |v=>v.refs
where
 go:List IV→Option Nat
  |[]=>some 0
  |v::r=>match (match v with | .agg cs=>refsAll cs | v=>v.refs),go r with
   |some a,some b=>some (Nat.max a b)
   |_,_=>none
def IM.get (m:IM) (id:Nat):BObj:=m.bs.getD id .none
def IM.put (m:IM) (id:Nat) (o:BObj):Option IM:=match frc (m.bs.set id o) with
 |some bs=>some { m with bs }
 |none=>none
def IM.push (m:IM) (o:BObj):Option IM:=match frc (m.bs++[o]) with
 |some bs=>some { m with bs }
 |none=>none
def IM.size (m:IM):Nat:=m.bs.length
def cellsAt (lb:List (Nat×BObj)) (m:IM) (p:IV) (n:Nat):Option (List IV) :=
 match p with
 |.pI row off=>cut row off n
 |.pL k off=>match lookL lb k with | .cells cs _=>cut cs off n | _=>none
 |.pB id off=>match m.get id with | .cells cs _=>cut cs off n | _=>none
 |_=>none
def loadI (lb:List (Nat×BObj)) (m:IM) (agg:Bool) (n:Nat) (p:IV):Option IV :=
 match agg with
 |true=>match cellsAt lb m p n with
  |some cs=>match frc cs with
   |some cs=>some (.agg cs)
   |none=>none
  |none=>none
 |false=>match cellsAt lb m p 1 with
  |some [v]=>some v
  |_=>none
def lkSlot (d:Nat):List (Nat×Loc)→List (Nat×Loc)
 |[]=>[]
 |(i,l)::r=>if i=d then lkSlot d r else match l with
  |.slot j=>if j=d then lkSlot d r else (i,l)::lkSlot d r
  |_=>(i,l)::lkSlot d r
def lkL (k:Nat):List (Nat×Loc)→List (Nat×Loc)
 |[]=>[]
 |(i,l)::r=>match l with
  |.L k' _=>if k'=k then lkL k r else (i,l)::lkL k r
  |_=>(i,l)::lkL k r
def lkC (f:Nat→Bool):List (Nat×Loc)→List (Nat×Loc)
 |[]=>[]
 |(i,l)::r=>match l with
  |.B id _=>if f id then lkC f r else (i,l)::lkC f r
  |.marked=>lkC f r
  |_=>(i,l)::lkC f r
def lkB (f:Nat→Bool):List (Nat×Loc)→List (Nat×Loc)
 |[]=>[]
 |(i,l)::r=>match l with
  |.B id _=>if f id then lkB f r else (i,l)::lkB f r
  |_=>(i,l)::lkB f r
def St.put (st:St) (d:Option Nat) (v:IV) (c:Cap):Option St :=
 match d with
 |none=>some st
 |some d=>match frc (lkSlot d st.lk),frcV v with
  |some lk,some v=>some { st with env:=(d,v,c)::st.env,lk }
  |_,_=>none
def overCap (cs:List Cap) (off n:Nat) (c:Cap):List Cap:=cs.take off++List.replicate n c++cs.drop (off+n)
def storeI (st:St) (n:Nat) (p:IV) (vs:List IV) (c:Cap):Option St :=
 if vs.length≠n then none else
 match p with
 |.pL k off=>match lookL st.lb k,refsAll vs with
  |.cells cs cp,some _ =>
   if off+n≤cs.length then match frc (over cs off vs),frc (overCap cp off n c),frc (lkL k st.lk) with
    |some cs,some cp,some lk=>some { st with lb:=(k,.cells cs cp)::st.lb,lk }
    |_,_,_=>none
   else none
  |_,_=>none
 |.pB id off=>match st.m.get id,refsAll vs with
  |.cells cs cp,some r =>
   if off+n≤cs.length then match frc (over cs off vs),frc (overCap cp off n c),frc (lkB (· == id) st.lk) with
    |some cs,some cp,some lk=>match st.m.put id (.cells cs cp) with
     |some m=>some { st with m:={ m with esc:=if r≤id then m.esc else m.esc+1 },lk }
     |none=>none
    |_,_,_=>none
   else none
  |_,_=>none
 |_=>none
def St.drop (st:St):Loc→Option St
 |.slot i=>match look st.env i,frc (lkSlot i st.lk) with
  |some (v,_),some lk=>some { st with env:=(i,v,.any)::st.env,lk }
  |_,_=>some st
 |.marked=>some st
 |.L k off=>match lookL st.lb k with
  |.cells cs cp=>match frc (cp.set off .any) with
   |some cp=>some { st with lb:=(k,.cells cs cp)::st.lb }
   |none=>none
  |_=>some st
 |.B id off=>match st.m.get id with
  |.cells cs cp=>match frc (cp.set off .any) with
   |some cp=>match st.m.put id (.cells cs cp) with
    |some m=>some { st with m }
    |none=>none
   |none=>none
  |_=>some st
def St.capAt (st:St):Loc→Cap
 |.slot i=>slotC st.env i
 |.marked=>.any
 |.L k off=>match lookL st.lb k with | .cells _ cp=>cp.getD off .any | _=>.any
 |.B id off=>match st.m.get id with | .cells _ cp=>cp.getD off .any | _=>.any
def linkOf:List (Nat×Loc)→Nat→Option Loc
 |[],_=>none
 |(j,l)::r,i=>match Nat.beq j i with
  |true=>some l
  |false=>linkOf r i
def St.owner (st:St) (a:Arg) (sz:Nat):Option Loc :=
 match a with
 |.t i=>match slotC st.env i with
  |.own sz'=>if sz'=sz then some (.slot i) else none
  |.any=>match linkOf st.lk i with
   |some l=>if st.capAt l=.own sz then some l else none
   |none=>none
 |.c _=>none
def bytesCells:List UInt8→List IV
 |[]=>[]
 |b::r=>.int .u8 b.toNat::bytesCells r
def srcOf (lb:List (Nat×BObj)) (m:IM) (sz:Nat):IV→Option (List IV×Nat)
 |.nilSlice=>some ([],0)
 |.sl row n=>some (row,n)
 |.str s=>if sz=1 then some (bytesCells s,s.length) else none
 |.sB id off n sz'=>if sz'=sz then match cellsAt lb m (.pB id off) (n*sz) with
   |some cs=>some (cs,n)
   |none=>none
  else none
 |_=>none
def bytesAt (lb:List (Nat×BObj)) (m:IM) (v:IV):Option (List UInt8):=match v with
 |.str _=>none
 |v=>match srcOf lb m 1 v with
  |some (xs,n)=>match Nat.beq xs.length n with
   |true=>byteVals xs
   |false=>none
  |none=>none
def keyEq:EqD→IV→IV→Option Bool
 |.int,.int k a,.int k' b=>if k=k' then some (a==b) else none
 |.str,.str a,.str b=>some (a==b)
 |.bool,.bool a,.bool b=>some (a==b)
 |_,_,_=>none
def findI (d:EqD) (k:IV):List (IV×IV)→Option (Option IV)
 |[]=>some none
 |(x,v)::r=>match keyEq d k x with
  |some true=>some (some v)
  |some false=>findI d k r
  |none=>none
def updI (d:EqD) (k v:IV):List (IV×IV)→Option (List (IV×IV))
 |[]=>some [(k,v)]
 |(x,y)::r=>match keyEq d k x with
  |some true=>some ((k,v)::r)
  |some false=>(updI d k v r).map ((x,y) :: ·)
  |none=>none
inductive Callee where
 |f (f:FuncId)
 |y (id:Nat)
 deriving Inhabited
inductive IK where
 |mv (x:Arg) (xf lk:Bool)
 |p (o:POp) (args:List Arg)
 |same (x:Arg)
 |load (agg:Bool) (n:Nat) (a:Arg) (lk:Bool)
 |store (n:Nat) (a v:Arg) (xf:Bool)
 |allocL (k:Nat) (zero:List IV) (cp:List Cap)
 |allocG (zero:List IV) (cp:List Cap)
 |boxL (k:Nat) (n:Nat) (x:Arg)
 |boxG (n:Nat) (x:Arg)
 |boxI (n:Nat) (x:Arg)
 |buildSlice (sz len:Nat) (zero:List IV) (parts:List (Nat×Nat)) (args:List Arg)
 |strBytes (x:Arg)
 |makeI (sz bytes:Nat) (zero:List IV) (len cap:Arg)
 |makeB (sz bytes:Nat) (zero:List IV) (len cap:Arg)
 |append (sz bytes:Nat) (s x:Arg)
 |copy (sz:Nat) (d s:Arg)
 |callF (f:FuncId) (args:List Arg) (hide:List Arg)
 |callV (g:Arg) (args:List Arg) (hide:List Arg)
 |mkMap
 |lookup (d:EqD) (zero:IV) (ok:Bool) (m k:Arg)
 |mapUpd (d:EqD) (m k v:Arg)
 |mapLen (m:Arg)
 |bytesM (x:Arg)
 |rangeStr (k:Nat) (x:Arg)
 |nextStr (a:Arg)
 deriving Inhabited
inductive OTag where
 |none
 |imm
 |own (k:Nat)
 |hid (h:Nat)
 |mem
 |slot (j:Nat)
 deriving DecidableEq,Inhabited
structure IOp where
 dst:Option Nat
 k:IK
 guard:Option (Nat×Bool):=none
 tag:OTag:=.none
 deriving Inhabited
abbrev CallT:=Callee→List IV→IM→Option (IV×IM)
def hideIds (e:Env):List Arg→List Nat
 |[]=>[]
 |.t i::r=>match look e i with
  |some (.pB id _,_)=>id::hideIds e r
  |_=>hideIds e r
 |.c _::r=>hideIds e r
def hideM (m:IM):List Nat→Option IM
 |[]=>some m
 |id::r=>match m.put id .none with
  |some m=>hideM m r
  |none=>none
def unhideM (m m':IM):List Nat→Option IM
 |[]=>some m'
 |id::r=>match unhideM m m' r with
  |some m'=>m'.put id (m.get id)
  |none=>none
def callI (call:CallT) (st:St) (c:Callee) (args:List IV) (hide:List Arg):Option (IV×Cap×St) :=
 match refsAll (args.flatMap IV.cells),frc (hideIds st.env hide) with
 |some _,some h=>match hideM st.m h with
  |none=>none
  |some m=>match call c args m with
   |none=>none
   |some (v,m')=>match unhideM st.m m' h,frc (lkC (fun i=>!h.contains i) st.lk) with
    |some m',some lk=>some (v,.any,{ st with m:=m',lk })
    |_,_=>none
 |_,_=>none
def repl (zero:List IV):Nat→List IV
 |0=>[]
 |n+1=>zero++repl zero n
def zipCap:List IV→List Cap→List Cap
 |v::vs,c::cs=>(match v,c with | .nilSlice,.own s=>.own s | _,_=>.any)::zipCap vs cs
 |_::vs,[]=>.any::zipCap vs []
 |[],_=>[]
def newL (st:St) (k:Nat) (o:BObj):Option (IV×Cap×St) :=
 match lookL st.lb k with
 |.none=>some (.pL k 0,.any,{ st with lb:=(k,o)::st.lb })
 |_=>none
def newG (st:St) (o:BObj) (v:IV):Option (IV×Cap×St) :=
 match st.m.push o with
 |some m=>some (v,.any,{ st with m })
 |none=>none
def capSl (v:IV) (sz:Nat):Cap :=
 match v with
 |.sl .. | .nilSlice=>.own sz
 |_=>.any
def IK.run (call:CallT) (st:St):IK→Option (IV×Cap×St)
 |.mv x xf lk=>match x.rd st.env with
  |none=>none
  |some v=>match x with
   |.c _=>some (v,.any,st)
   |.t i=>match xf with
    |true=>match slotC st.env i with
     |.own sz=>match st.drop (.slot i) with
      |some st=>some (v,.own sz,st)
      |none=>none
     |.any=>some (v,.any,st)
    |false=>some (v,.any,st)
 |.p o args=>match rdAll st.env args with
  |some vs=>match o.ev vs with
   |some v=>some (v,.any,st)
   |none=>none
  |none=>none
 |.same x=>match x.rd st.env,x with
  |some (.sl row len),.t i=>if linkOf st.lk i=some .marked then match slotC st.env i with
    |.own sz=>match st.drop (.slot i) with
     |some st=>some (.sl row len,.own sz,st)
     |none=>none
    |.any=>some (.sl row len,.any,st)
   else none
  |_,_=>none
 |.load agg n a _=>match a.rd st.env with
  |some pa=>match loadI st.lb st.m agg n pa with
   |some v=>some (v,.any,st)
   |none=>none
  |none=>none
 |.store n a x xf=>match a.rd st.env,x.rd st.env with
  |some pa,some v=>match xf,x with
   |true,.t i=>match slotC st.env i with
    |.own sz=>match st.drop (.slot i) with
     |some st=>match storeI st n pa v.cells (capSl v sz) with
      |some st=>some (.undef,.any,st)
      |none=>none
     |none=>none
    |.any=>match storeI st n pa v.cells .any with
     |some st=>some (.undef,.any,st)
     |none=>none
   |_,_=>match storeI st n pa v.cells .any with
    |some st=>some (.undef,.any,st)
    |none=>none
  |_,_=>none
 |.allocL k zero cp=>newL st k (.cells zero (zipCap zero cp))
 |.allocG zero cp=>newG st (.cells zero (zipCap zero cp)) (.pB st.m.size 0)
 |.boxL k n x=>match x.rd st.env with
  |some v=>match refsAll v.cells with
   |some _=>if v.cells.length=n then newL st k (.cells v.cells (zipCap v.cells [])) else none
   |none=>none
  |none=>none
 |.boxG n x=>match x.rd st.env with
  |some v=>match refsAll v.cells with
   |some _=>if v.cells.length=n then newG st (.cells v.cells (zipCap v.cells [])) (.pB st.m.size 0) else none
   |none=>none
  |none=>none
 |.boxI n x=>match x.rd st.env with
  |some v=>if v.cells.all IV.plain=true∧v.cells.length=n∧v.isU=false∧v.isL=false then some (.pI v.cells 0,.any,st) else none
  |none=>none
 |.buildSlice sz len zero parts args=>match rdAll st.env args with
  |some vs=>match fillI (repl zero len) parts vs with
   |some cs=>if cs.all IV.plain then some (.sl cs len,.own sz,st) else none
   |none=>none
  |none=>none
 |.strBytes x=>match x.rd st.env with
  |some (.str s)=>if s.length≤maxLenI then some (.sl (bytesCells s) s.length,.own 1,st) else none
  |_=>none
 |.makeI sz bytes zero len cap=>match len.rd st.env,cap.rd st.env with
  |some (.int .i64 l),some (.int .i64 c)=>if 0≤l∧l≤c∧c*bytes≤maxLenI∧c≤maxLenI then some (.sl (repl zero l.toNat) l.toNat,.own sz,st) else none
  |_,_=>none
 |.makeB sz bytes zero len cap=>match len.rd st.env,cap.rd st.env with
  |some (.int .i64 l),some (.int .i64 c)=>if 0≤l∧l≤c∧c*bytes≤maxLenI∧c≤maxLenI then
    newG st (.cells (repl zero c.toNat) (zipCap (repl zero c.toNat) [])) (.sB st.m.size 0 l.toNat sz) else none
  |_,_=>none
 |.append sz bytes s x=>match x.rd st.env,s.rd st.env with
  |some x,some sv=>match srcOf st.lb st.m sz x with
   |none=>none
   |some (xs,n) =>
    if xs.all IV.plain&&xs.length==n*sz then
     match sv with
     |.nilSlice=>if n=0 then some (.nilSlice,.own sz,st) else if n*bytes≤maxLenI then some (.sl xs n,.own sz,st) else none
     |.sl row len=>match st.owner s sz with
      |some l=>if (len+n)*bytes≤maxLenI∧row.length=len*sz then match st.drop l with
        |some st=>some (.sl (row++xs) (len+n),.own sz,st)
        |none=>none
       else none
      |none=>if n=0 then some (.sl row len,.any,st) else none
     |_=>none
    else none
  |_,_=>none
 |.copy sz d s=>match d.rd st.env,s.rd st.env with
  |some d,some s=>match d,srcOf st.lb st.m sz s with
   |.sB id off n _,some (xs,k)=>if xs.length≠k*sz then none else
    match storeI st (Nat.min k n*sz) (.pB id off) (xs.take (Nat.min k n*sz)) .any with
    |some st=>some (.int .i64 (Nat.min k n:Nat),.any,st)
    |none=>none
   |.nilSlice,some (xs,k)=>if xs.length≠k*sz then none else some (.int .i64 0,.any,st)
   |_,_=>none
  |_,_=>none
 |.callF f args hide=>match rdAll st.env args with
  |some vs=>callI call st (.f f) vs hide
  |none=>none
 |.callV g args hide=>match rdAll st.env args with
  |some vs=>match g.rd st.env with
   |some (.func f fs cs)=>callI call st (.f f) (fs++vs++cs) hide
   |some (.yld id)=>callI call st (.y id) vs hide
   |_=>none
  |none=>none
 |.mkMap=>newG st (.map []) (.map st.m.size)
 |.lookup d zero ok m k=>match m.rd st.env,k.rd st.env with
  |some .nilMap,some _=>some (if ok then .tup [zero,.bool false] else zero,.any,st)
  |some (.map id),some k=>match st.m.get id with
   |.map es=>match findI d k es with
    |some (some v)=>some (if ok then .tup [v,.bool true] else v,.any,st)
    |some none=>some (if ok then .tup [zero,.bool false] else zero,.any,st)
    |none=>none
   |_=>none
  |_,_=>none
 |.mapUpd d m k v=>match m.rd st.env,k.rd st.env,v.rd st.env with
  |some (.map id),some k,some v=>match st.m.get id with
   |.map es=>match updI d k v es,v.plain&&k.plain with
    |some es,true=>match st.m.put id (.map es) with
     |some m=>some (.undef,.any,{ st with m })
     |none=>none
    |_,_=>none
   |_=>none
  |_,_,_=>none
 |.mapLen m=>match m.rd st.env with
  |some .nilMap=>some (.int .i64 0,.any,st)
  |some (.map id)=>match st.m.get id with
   |.map es=>some (.int .i64 es.length,.any,st)
   |_=>none
  |_=>none
 |.bytesM x=>match x.rd st.env with
  |some v=>match bytesAt st.lb st.m v with
   |some s=>some (.str s,.any,st)
   |none=>none
  |none=>none
 |.rangeStr k x=>match x.rd st.env with
  |some (.str s)=>newL st k (.iter s 0)
  |_=>none
 |.nextStr a=>match a.rd st.env with
  |some (.pL k 0)=>match lookL st.lb k with
   |.iter s pos =>
    if pos<s.length then
     let r:=Utf8.decode ⟨⟨s⟩⟩ pos
     some (.tup [.bool true,.int .i64 pos,.int .i32 r.1],.any,{ st with lb:=(k,.iter s (pos+r.2))::st.lb })
    else some (.tup [.bool false],.any,st)
   |_=>none
  |_=>none
def IK.link (env:Env):IK→Option Loc
 |.mv (.t i) false true=>some (.slot i)
 |.strBytes _=>some .marked
 |.buildSlice 1 _ _ _ _=>some .marked
 |.load false _ a true=>match a.rd env with
  |some (.pL k off)=>some (.L k off)
  |some (.pB id off)=>some (.B id off)
  |_=>none
 |_=>none
def addrOK (e:Env) (a:Arg):OTag→Bool
 |.none=>true
 |.imm=>match a.rd e with | some (.pI ..)=>true | _=>false
 |.own k=>match a.rd e with | some (.pL k' _)=>Nat.beq k' k | _=>false
 |.mem=>match a.rd e with | some (.pL ..)=>false | _=>true
 |.hid h=>match a.rd e,look e h with | some (.pB id _),some (.pB id' _,_)=>Nat.beq id id' | _,_=>false
 |.slot _=>false
def OTag.hits:OTag→Loc→Bool
 |.slot j,.slot i=>Nat.beq i j
 |.own k,.L k' _=>Nat.beq k' k
 |.mem,.B _ _=>true
 |_,_=>false
def appOK (e:Env) (lk:List (Nat×Loc)) (i:Nat) (t:OTag):Bool :=
 match look e i with
 |some (.nilSlice,_)=>true
 |some (_,.own _)=>true
 |_=>match linkOf lk i with
  |some l=>t.hits l
  |none=>false
def IK.ok (k:IK) (t:OTag) (st:St):Bool :=
 match t with
 |.none=>true
 |t=>match k with
  |.load _ _ a _=>addrOK st.env a t
  |.store _ a _ _=>addrOK st.env a t
  |.nextStr a=>addrOK st.env a t
  |.append _ _ (.t i) _=>appOK st.env st.lk i t
  |_=>false
def gate (e:Env):Option (Nat×Bool)→Option Bool
 |none=>some true
 |some (j,want)=>match look e j with
  |some (.bool b,_)=>some (b==want)
  |some (.tup _,_)=>some false
  |_=>none
def IOp.run0 (call:CallT) (o:IOp) (st:St):Option St :=
 match gate st.env o.guard with
 |some true=>match o.k.run call st with
  |some (v,c,st')=>match st'.put o.dst v c with
   |some st'=>match o.dst,o.k.link st.env with
    |some d,some l=>if l=.slot d then some st' else some { st' with lk:=(d,l)::st'.lk }
    |_,_=>some st'
   |none=>none
  |none=>none
 |some false=>st.put o.dst (.tup []) .any
 |none=>none
def IOp.run (call:CallT) (o:IOp) (st:St):Option St :=
 match gate st.env o.guard with
 |some true=>match o.k.ok o.tag st with
  |true=>o.run0 call st
  |false=>none
 |_=>o.run0 call st
def runOps (call:CallT):List IOp→St→Option St
 |[],st=>some st
 |o::r,st=>match o.run call st with
  |some st=>runOps call r st
  |none=>none
structure Head where
 keep:List (Nat×Nat)
 keepL:List Nat
 ownL:List (Nat×Nat×Nat)
 deriving Inhabited
inductive ICode where
 |skip
 |ops (l:List IOp)
 |draw (l:List IOp) (preds:List Nat)
 |seq (a b:ICode)
 |cond (c:Arg) (a b:ICode)
 |block (id:Nat) (b:ICode)
 |loop (h:Head) (b:ICode)
 |rangeF (g:Arg) (fn site:Nat)
 |exit (id:Nat)
 |ret
 deriving Inhabited
inductive Ex where
 |normal
 |exit (id:Nat)
 |ret
 deriving DecidableEq,Inhabited
def capNil (c:Cap) (v:IV) (sz:Nat):Cap :=
 match c with
 |.own s=>.own s
 |.any=>match v with | .nilSlice=>.own sz | _=>.any
def headE (e:Env) (keepL:List Nat):List (Nat×Nat)→Option Env
 |[]=>some []
 |(i,o)::r=>match look e i,headE e keepL r with
  |some (v,c),some r =>
   match (match v with | .pL k _=>keepL.contains k | _=>true) with
   |true=>match o with
    |0=>some ((i,v,.any)::r)
    |sz+1=>match capNil c v sz with
     |.own s=>some ((i,v,.own s)::r)
     |.any=>some ((i,v,.any)::r)
   |false=>none
  |none,some r=>some r
  |_,none=>none
def capsL (k:Nat) (cs:List IV):List (Nat×Nat×Nat)→List Cap→List Cap
 |[],cp=>cp
 |(k',o,sz)::r,cp=>capsL k cs r (if k'=k then cp.set o (capNil (cp.getD o .any) (cs.getD o .undef) sz) else cp)
def headB (lb:List (Nat×BObj)) (own:List (Nat×Nat×Nat)):List Nat→Option (List (Nat×BObj))
 |[]=>some []
 |k::r=>match headB lb own r with
  |none=>none
  |some r=>match lookL lb k with
   |.cells cs cp=>match frc (capsL k cs own cp) with
    |some cp=>some ((k,.cells cs cp)::r)
    |none=>none
   |.iter s p=>some ((k,.iter s p)::r)
   |.none=>some r
   |_=>none
def St.head (st:St) (h:Head):Option St :=
 match headE st.env h.keepL h.keep,headB st.lb h.ownL h.keepL with
 |some env,some lb=>some { env,lk:=[],lb,m:=st.m }
 |_,_=>none
abbrev LoopT:=Head→ICode→St→Option (Ex×St)
def noL:Env→Env
 |[]=>[]
 |(i,v,_)::r=>(i,(match v.refsDeep with | some _=>v | none=>.undef),.any)::noL r
def uqB:List (Nat×Loc)→Bool
 |[]=>true
 |(i,_)::r=>match uqB r with
  |true=>!(r.any fun p=>Nat.beq p.1 i)
  |false=>false
def ICode.run (call:CallT) (loop:LoopT):ICode→St→Option (Ex×St)
 |.skip,st=>some (.normal,st)
 |.ops l,st=>match runOps call l st with
  |some st=>some (.normal,st)
  |none=>none
 |.draw l _,st=>match uqB st.lk with
  |true=>match runOps call l st with
   |some st=>some (.normal,st)
   |none=>none
  |false=>none
 |.seq a b,st=>match a.run call loop st with
  |some (.normal,st)=>b.run call loop st
  |r=>r
 |.cond c a b,st=>match c.rd st.env with
  |some (.bool true)=>a.run call loop st
  |some (.bool false)=>b.run call loop st
  |_=>none
 |.block id b,st=>match b.run call loop st with
  |some (.exit i,st)=>if i=id then some (.normal,st) else some (.exit i,st)
  |r=>r
 |.loop h b,st=>loop h b st
 |.rangeF g fn site,st=>match g.rd st.env with
  |some (.func f fs cs)=>match refsAll (fs++cs),st.m.push (.loop 0 fn site (noL st.env) 0) with
   |some _,some m0=>match call (.f f) (fs++[.yld st.m.size]++cs) m0 with
    |some (_,m)=>match m.get st.m.size,m.put st.m.size .none with
     |.loop s _ _ _ j,some m=>if 2≤s then none else match j with
      |0=>some (.normal,{ st with m,lk:=[]})
      |1=>some (.ret,{ st with m,lk:=[]})
      |i+2=>some (.exit i,{ st with m,lk:=[]})
     |_,_=>none
    |_=>none
   |_,_=>none
  |_=>none
 |.exit id,st=>some (.exit id,st)
 |.ret,st=>some (.ret,st)
inductive RV where
 |t (i:Nat)
 |cell (i:Nat) (agg:Bool) (n:Nat)
 deriving Inhabited
structure IFn where
 nargs:Nat
 rets:List RV
 body:ICode
 deriving Inhabited
def retsOf (st:St):List RV→Option (List IV)
 |[]=>some []
 |.t i::r=>match retsOf st r with
  |some vs=>some (slotV st.env i::vs)
  |none=>none
 |.cell i agg n::r=>match loadI st.lb st.m agg n (slotV st.env i),retsOf st r with
  |some v,some vs=>some (v::vs)
  |_,_=>none
def frz (size:Nat) (m:IM):IV→IV
 |.sB id off len sz=>if id<size then .sB id off len sz else
   match m.get id with
   |.cells cs _=>match cut cs off (len*sz) with
    |some r=>if r.all IV.plain then .sl r len else .sB id off len sz
    |none=>.sB id off len sz
   |_=>.sB id off len sz
 |v=>v
def frzD (size:Nat) (m:IM):IV→IV
 |.agg cs=>.agg (cs.map (frz size m))
 |.tup vs=>.tup (vs.map fun | .agg cs=>.agg (cs.map (frz size m)) | v=>frz size m v)
 |v=>frz size m v
def settle (m m':IM) (v:IV):Option (IV×IM) :=
 match v.refsDeep,frc (m'.bs.take m.size) with
 |some r,some bs =>
  if m'.esc=m.esc then
   if r≤m.size then some (v,{ m' with bs })
   else match (frzD m.size m' v).refsDeep with
    |some r=>if r≤m.size then some (frzD m.size m' v,{ m' with bs }) else some (v,m')
    |none=>none
  else some (v,m')
 |_,_=>none
def mkEnv:Nat→List IV→Env
 |_,[]=>[]
 |i,v::r=>(i,v,.any)::mkEnv (i+1) r
def IFn.call (fn:IFn) (call:CallT) (loop:LoopT) (args:List IV) (m:IM):Option (IV×IM) :=
 if args.length≠fn.nargs then none else
 match fn.body.run call loop { env:=mkEnv 0 args,lk:=[],lb:=[],m } with
 |some (e,st)=>if e=.normal∨e=.ret then match retsOf st fn.rets with
   |some [v]=>settle m st.m v
   |some vs=>settle m st.m (.tup vs)
   |none=>none
  else none
 |none=>none
structure IRnd where
 ps:List Nat
 assign:ICode
 body:ICode
 deriving Inhabited
inductive FT (α:Type) where
 |nil
 |node (k:Nat) (v:α) (l r:FT α)
def FT.find {α:Type}:FT α→Nat→Option α
 |.nil,_=>none
 |.node k v l r,i=>match Nat.beq i k with
  |true=>some v
  |false=>match Nat.blt i k with
   |true=>l.find i
   |false=>r.find i
def FT.all {α:Type}(p:Nat→α→Bool):FT α→Bool
 |.nil=>true
 |.node k v l r=>p k v&&l.all p&&r.all p
structure Tab where
 fns:FuncId→Option IFn
 rnd:FuncId→Nat→Option IRnd
def setAll (e:Env):List Nat→List IV→Env
 |p::ps,v::vs=>setAll ((p,v,.any)::e) ps vs
 |_,_=>e
def jnum:Ex→Nat
 |.normal=>0
 |.ret=>1
 |.exit i=>i+2
def IRnd.call (r:IRnd) (call:CallT) (loop:LoopT) (id:Nat) (tm:Env) (args:List IV) (m:IM):Option (IV×IM) :=
 if args.length≠r.ps.length then none else
 match r.assign.run call loop { env:=setAll tm r.ps args,lk:=[],lb:=[],m } with
 |some (.normal,st)=>match st.m.get id with
  |.loop 0 f1 s1 t1 j1=>match st.m.put id (.loop 2 f1 s1 t1 j1) with
   |some m1=>match r.body.run call loop { st with m:=m1,lk:=[]} with
    |some (e,st)=>match st.m.get id with
     |.loop 2 f2 s2 t2 _=>match st.m.put id (.loop (if jnum e=0 then 0 else 1) f2 s2 t2 (jnum e)) with
      |some m2=>settle m m2 (.bool (jnum e==0))
      |none=>none
     |_=>none
    |none=>none
   |none=>none
  |_=>none
 |_=>none
abbrev Prims:=FuncId→Option (List IV→Option IV)
structure Sems where
 call:CallT
 loop:LoopT
def sem (tab:Tab) (prims:Prims):Nat→Sems
 |0=>⟨fun _ _ _=>none,fun _ _ _=>none⟩
 |k+1 =>
  let s:=sem tab prims k
  {call:=fun c args m=>match c with
    |.f f=>match prims f with
     |some p=>(p args).map (·,m)
     |none=>match tab.fns f with
      |some fn=>fn.call s.call s.loop args m
      |none=>none
    |.y id=>match m.get id with
     |.loop _ fn site tm _=>match tab.rnd fn site with
      |some r=>r.call s.call s.loop id tm args m
      |none=>none
     |_=>none
   loop:=fun h b st=>match st.head h with
    |none=>none
    |some st=>match b.run s.call s.loop st with
     |some (.normal,st)=>s.loop h b st
     |r=>r }
theorem IOp.run_run0 {call:CallT}{o:IOp}{st st':St}(h:o.run call st=some st'):o.run0 call st=some st':=by
 unfold IOp.run at h
 split at h
 ·split at h
  ·exact h
  ·cases h
 ·exact h
end Go.Idl
namespace Go.Idl
structure Gh where
 imm:Nat→Nat→Option Value
 bx:Nat→Option Nat
 lb:Nat→Option Nat
 ow:Nat→Nat→Option Loc
 hid:Nat→Bool
 old:Nat
def Gh.pl (G:Gh):Gh:=⟨G.imm,fun _=>none,fun _=>none,fun _ _=>none,fun _=>false,0⟩
inductive VR:Gh→IV→Value→Prop
 |undef {G:Gh}(v:Value):VR G .undef v
 |bool {G:Gh}(b:Bool):VR G (.bool b) (.bool b)
 |int {G:Gh}(k:IntKind) (n:Int):VR G (.int k n) (.int k n)
 |float {G:Gh}(k:FloatKind) (n:Nat):VR G (.float k n) (.float k n)
 |cplx {G:Gh}(k:FloatKind) (a b:Nat):VR G (.cplx k a b) (.complex k a b)
 |str {G:Gh}(s:List UInt8):VR G (.str s) (.string ⟨⟨s⟩⟩)
 |nilPtr {G:Gh}:VR G .nilPtr (.pointer none)
 |pI {G:Gh}(row:List IV) (off b o:Nat) (g:Nat→Value) (h1:∀i,i<row.length→G.imm b (o+i)=some (g i))
   (h2:∀i (h:i<row.length),VR G.pl row[i] (g i)):VR G (.pI row off) (.pointer (some ⟨b,o+off,none⟩))
 |pB {G:Gh}(id off b:Nat) (h:G.bx id=some b):VR G (.pB id off) (.pointer (some ⟨b,off,none⟩))
 |nilSlice {G:Gh}:VR G .nilSlice (.slice none 0 0)
 |sl {G:Gh}(row:List IV) (len b o cap:Nat) (g:Nat→Value) (h1:∀i,i<row.length→G.imm b (o+i)=some (g i))
   (h2:∀i (h:i<row.length),VR G.pl row[i] (g i)) (h3:len≤cap):VR G (.sl row len) (.slice (some ⟨b,o,none⟩) len cap)
 |sl0 {G:Gh}(a:Addr):VR G (.sl [] 0) (.slice (some a) 0 0)
 |sB {G:Gh}(id off len sz b cap:Nat) (h:G.bx id=some b) (h3:len≤cap):VR G (.sB id off len sz) (.slice (some ⟨b,off,none⟩) len cap)
 |nilMap {G:Gh}:VR G .nilMap (.map none)
 |map {G:Gh}(id b:Nat) (h:G.bx id=some b):VR G (.map id) (.map (some b))
 |nilFunc {G:Gh}:VR G .nilFunc .nilFunc
 |func {G:Gh}(f:FuncId) (fs cs:List IV) (rf rc:List Value) (hf:rf.length=fs.length) (hc:rc.length=cs.length)
   (h1:∀i (h:i<fs.length) (h':i<rf.length),VR G fs[i] rf[i]) (h2:∀i (h:i<cs.length) (h':i<rc.length),VR G cs[i] rc[i]) :
   VR G (.func f fs cs) (.func (.func f) ⟨rf⟩ ⟨rc⟩)
 |yld {G:Gh}(id b:Nat) (h:G.bx id=some b):VR G (.yld id) (.func (.yield b) #[] #[])
 |nilIface {G:Gh}:VR G .nilIface .nilIface
 |iface {G:Gh}(t:TypeId) (v:IV) (rv:Value) (h:VR G v rv):VR G (.iface t v) (.iface t rv)
 |agg {G:Gh}(cs:List IV) (rc:List Value) (hl:rc.length=cs.length) (h:∀i (h:i<cs.length) (h':i<rc.length),VR G cs[i] rc[i]) :
   VR G (.agg cs) (.agg ⟨rc⟩)
 |tup {G:Gh}(cs:List IV) (rc:List Value) (hl:rc.length=cs.length) (h:∀i (h:i<cs.length) (h':i<rc.length),VR G cs[i] rc[i]) :
   VR G (.tup cs) (.tuple ⟨rc⟩)
def VRs (G:Gh) (vs:List IV) (rs:List Value):Prop:=rs.length=vs.length∧∀i (h:i<vs.length) (h':i<rs.length),VR G vs[i] rs[i]
theorem VRs.nil {G:Gh}:VRs G [] []:=⟨rfl,fun i h=>absurd h (by simp)⟩
theorem VRs.cons {G:Gh}{v:IV}{r:Value}{vs:List IV}{rs:List Value}(h:VR G v r) (hs:VRs G vs rs):VRs G (v::vs) (r::rs):=by
 refine⟨by simp[hs.1],fun i hi hi'=>?_⟩
 cases i with
 |zero=>exact h
 |succ i=>exact hs.2 i (by simpa using hi) (by simpa using hi')
theorem VRs.head {G:Gh}{v:IV}{r:Value}{vs:List IV}{rs:List Value}(h:VRs G (v::vs) (r::rs)):VR G v r:=h.2 0 (by simp) (by simp)
theorem VRs.tail {G:Gh}{v:IV}{r:Value}{vs:List IV}{rs:List Value}(h:VRs G (v::vs) (r::rs)):VRs G vs rs :=
 ⟨by simpa using h.1,fun i hi hi'=>h.2 (i+1) (by simpa using hi) (by simpa using hi')⟩
theorem VRs.cases_cons {G:Gh}{v:IV}{vs:List IV}{rs:List Value}(h:VRs G (v::vs) rs):∃r rs',rs=r::rs'∧VR G v r∧VRs G vs rs':=by
 cases rs with
 |nil=>have:=h.1;simp at this
 |cons r rs=>exact⟨r,rs,rfl,h.head,h.tail⟩
theorem VRs.cases_nil {G:Gh}{rs:List Value}(h:VRs G [] rs):rs=[]:=List.length_eq_zero_iff.1 (by simpa using h.1)
theorem VRs.append {G:Gh}{a b:List IV}{x y:List Value}(h:VRs G a x) (k:VRs G b y):VRs G (a++b) (x++y):=by
 induction a generalizing x with
 |nil=>rw[h.cases_nil];simpa using k
 |cons v a ih=>obtain⟨r,rs,rfl,h1,h2⟩:=h.cases_cons;exact VRs.cons h1 (ih h2)
theorem VRs.get {G:Gh}{vs:List IV}{rs:List Value}(h:VRs G vs rs) {i:Nat}{v:IV}(hv:vs[i]?=some v):∃r,rs[i]?=some r∧VR G v r:=by
 obtain⟨hi,rfl⟩:=List.getElem?_eq_some_iff.1 hv
 have hi':i<rs.length:=by rw[h.1];exact hi
 exact⟨rs[i],List.getElem?_eq_getElem hi',h.2 i hi hi'⟩
theorem VRs.take {G:Gh}{vs:List IV}{rs:List Value}(h:VRs G vs rs) (n:Nat):VRs G (vs.take n) (rs.take n) :=
 ⟨by simp[h.1],fun i hi hi'=>by simp only[List.getElem_take];exact h.2 _ _ _⟩
theorem VRs.drop {G:Gh}{vs:List IV}{rs:List Value}(h:VRs G vs rs) (n:Nat):VRs G (vs.drop n) (rs.drop n) :=
 ⟨by simp[h.1],fun i hi hi'=>by simp only[List.getElem_drop];exact h.2 _ _ _⟩
theorem VRs.of_forall {G:Gh}{vs:List IV}{rs:List Value}(hl:rs.length=vs.length) (h:∀(i:Nat) v r,vs[i]?=some v→rs[i]?=some r→VR G v r):VRs G vs rs :=
 ⟨hl,fun i hi hi'=>h i _ _ (List.getElem?_eq_getElem hi) (List.getElem?_eq_getElem hi')⟩
theorem VR.agg' {G:Gh}{cs:List IV}{rc:List Value}(h:VRs G cs rc):VR G (.agg cs) (.agg ⟨rc⟩):=.agg cs rc h.1 h.2
theorem VR.tup' {G:Gh}{cs:List IV}{rc:List Value}(h:VRs G cs rc):VR G (.tup cs) (.tuple ⟨rc⟩):=.tup cs rc h.1 h.2
theorem VR.agg_inv {G:Gh}{cs:List IV}{r:Value}(h:VR G (.agg cs) r):∃rc,r=.agg ⟨rc⟩∧VRs G cs rc:=by
 cases h with | agg _ rc hl h=>exact⟨rc,rfl,hl,h⟩
theorem VR.tup_inv {G:Gh}{cs:List IV}{r:Value}(h:VR G (.tup cs) r):∃rc,r=.tuple ⟨rc⟩∧VRs G cs rc:=by
 cases h with | tup _ rc hl h=>exact⟨rc,rfl,hl,h⟩
theorem VR.mono {G G':Gh}(hi:∀b o v,G.imm b o=some v→G'.imm b o=some v) (hb:∀id b,G.bx id=some b→G'.bx id=some b) {v:IV}{r:Value}(h:VR G v r):VR G' v r:=by
 induction h generalizing G' with
 |undef v=>exact .undef v
 |bool b=>exact .bool b
 |int k n=>exact .int k n
 |float k n=>exact .float k n
 |cplx k a b=>exact .cplx k a b
 |str s=>exact .str s
 |nilPtr=>exact .nilPtr
 |pI row off b o g h1 _ ih=>exact .pI row off b o g (fun i hi'=>hi _ _ _ (h1 i hi')) (fun i hi'=>ih i hi' (G':=G'.pl) hi (fun _ _ e=>by cases e))
 |pB id off b h=>exact .pB id off b (hb _ _ h)
 |nilSlice=>exact .nilSlice
 |sl row len b o cap g h1 _ h3 ih=>exact .sl row len b o cap g (fun i hi'=>hi _ _ _ (h1 i hi')) (fun i hi'=>ih i hi' (G':=G'.pl) hi (fun _ _ e=>by cases e)) h3
 |sl0 a=>exact .sl0 a
 |sB id off len sz b cap h h3=>exact .sB id off len sz b cap (hb _ _ h) h3
 |nilMap=>exact .nilMap
 |map id b h=>exact .map id b (hb _ _ h)
 |nilFunc=>exact .nilFunc
 |func f fs cs rf rc hf hc _ _ ih1 ih2=>exact .func f fs cs rf rc hf hc (fun i h h'=>ih1 i h h' hi hb) (fun i h h'=>ih2 i h h' hi hb)
 |yld id b h=>exact .yld id b (hb _ _ h)
 |nilIface=>exact .nilIface
 |iface t v rv _ ih=>exact .iface t v rv (ih hi hb)
 |agg cs rc hl _ ih=>exact .agg cs rc hl (fun i h h'=>ih i h h' hi hb)
 |tup cs rc hl _ ih=>exact .tup cs rc hl (fun i h h'=>ih i h h' hi hb)
theorem VR.ofPl {G:Gh}{v:IV}{r:Value}(h:VR G.pl v r):VR G v r:=VR.mono (G:=G.pl) (G':=G) (fun _ _ _ e=>e) (fun _ _ e=>by cases e) h
theorem VR.toPl {G:Gh}{v:IV}{r:Value}(h:VR G v r) (hp:v.plain=true):VR G.pl v r:=by
 cases h with
 |bool b=>exact .bool b
 |int k n=>exact .int k n
 |float k n=>exact .float k n
 |cplx k a b=>exact .cplx k a b
 |str s=>exact .str s
 |nilPtr=>exact .nilPtr
 |pI row off b o g h1 h2=>exact .pI row off b o g h1 h2
 |nilSlice=>exact .nilSlice
 |sl row len b o cap g h1 h2 h3=>exact .sl row len b o cap g h1 h2 h3
 |sl0 a=>exact .sl0 a
 |nilMap=>exact .nilMap
 |nilFunc=>exact .nilFunc
 |func f fs cs rf rc hf hc h1 h2 =>
  cases fs with
  |cons _ _=>simp[IV.plain] at hp
  |nil=>cases cs with
   |cons c r =>
    have hall:capPI (c::r)=true:=by
     cases c<;>first | (simp[IV.plain] at hp;done) | exact hp
    refine .func f [] (c::r) rf rc hf hc (fun i h=>absurd h (by simp)) (fun i h h'=>?_)
    have key:∀(l:List IV),capPI l=true→∀(i:Nat) (h:i<l.length),∃row off,l[i]=.pI row off:=by
     intro l
     induction l with
     |nil=>intro _ i h;simp at h
     |cons a l ih =>
      intro hl i h
      have ha:∃row off,a=.pI row off:=by
       cases a<;>first | exact⟨_,_,rfl⟩ | (simp[capPI] at hl)
      obtain⟨row,off,rfl⟩:=ha
      cases i with
      |zero=>exact⟨_,_,rfl⟩
      |succ i=>simpa using ih (by simpa[capPI] using hl) i (by simpa using h)
    obtain⟨row,off,e⟩:=key _ hall i h
    have hv:=h2 i h h'
    rw[e] at hv ⊢
    have k:∀{rv:Value},VR G (.pI row off) rv→VR G.pl (.pI row off) rv:=by
     intro rv hv
     cases hv with
     |pI row off b o g k1 k2=>exact .pI row off b o g k1 k2
    exact k hv
   |nil=>exact .func f [] [] rf rc hf hc (fun i h=>absurd h (by simp)) (fun i h=>absurd h (by simp))
 |nilIface=>exact .nilIface
 |_=>simp[IV.plain] at hp
theorem VRs.toPl {G:Gh}{vs:List IV}{rs:List Value}(h:VRs G vs rs) (hp:vs.all IV.plain=true):VRs G.pl vs rs :=
 ⟨h.1,fun i hi hi'=>(h.2 i hi hi').toPl (List.all_eq_true.1 hp _ (List.getElem_mem hi))⟩
theorem VRs.ofPl {G:Gh}{vs:List IV}{rs:List Value}(h:VRs G.pl vs rs):VRs G vs rs:=⟨h.1,fun i hi hi'=>(h.2 i hi hi').ofPl⟩
def SV (G:Gh) (v:IV) (r:Value):Prop :=
 match v with
 |.pL k off=>∃b,G.lb k=some b∧r=.pointer (some ⟨b,off,none⟩)
 |v=>VR G v r
theorem SV.of {G:Gh}{v:IV}{r:Value}(h:VR G v r):SV G v r:=by
 cases v<;>first | exact h | cases h
theorem SV.vr {G:Gh}{v:IV}{r:Value}(h:SV G v r) (hn:v.isL=false):VR G v r:=by
 cases v<;>first | exact h | simp[IV.isL] at hn
theorem SV.mono {G G':Gh}(hi:∀b o v,G.imm b o=some v→G'.imm b o=some v) (hb:∀id b,G.bx id=some b→G'.bx id=some b)
  (hl:∀k b,G.lb k=some b→G'.lb k=some b) {v:IV}{r:Value}(h:SV G v r):SV G' v r:=by
 cases hv:v.isL with
 |false=>exact SV.of ((h.vr hv).mono hi hb)
 |true =>
  cases v<;>first | (simp[IV.isL] at hv;done) | skip
  obtain⟨b,hb',rfl⟩:=h
  exact⟨b,hl _ _ hb',rfl⟩
def Gh.boxed (G:Gh) (b:Nat):Prop:=(∃id,G.bx id=some b)∨(∃k,G.lb k=some b)
def Gh.opn (G:Gh) (b:Nat):Prop:=(∃id,G.bx id=some b∧G.hid id=false)∨(∃k,G.lb k=some b)
theorem Gh.opn.boxed {G:Gh}{b:Nat}(h:G.opn b):G.boxed b:=h.imp (fun⟨i,e,_⟩=>⟨i,e⟩) id
theorem VR.sl_of {G:Gh}{row:List IV}{len b o n cap:Nat}(h:VR G (.sl row len) (.slice (some ⟨b,o,none⟩) n cap)) :
  ∃g:Nat→Value,(∀i,i<row.length→G.imm b (o+i)=some (g i))∧(∀i (h:i<row.length),VR G.pl row[i] (g i))∧len≤cap∧n=len:=by
 cases h with
 |sl _ _ _ _ _ g h1 h2 h3=>exact⟨g,h1,h2,h3,rfl⟩
 |sl0=>exact⟨fun _=>.bool false,fun i h=>by simp at h,fun i h=>by simp at h,Nat.le_refl _,rfl⟩
end Go.Idl
namespace Go.Idl
inductive ArgR (rows:Nat→Option (List IV)):Operand→Arg→Prop
 |tmp (i:Nat):ArgR rows (.tmp i) (.t i)
 |const (v:Value) (x:IV) (h:∀G,VR G x v):ArgR rows (.const v) (.c x)
 |glob (g:Nat) (row:List IV) (h:rows g=some row):ArgR rows (.global g) (.c (.pI row 0))
 |func (f:FuncId):ArgR rows (.func f) (.c (.func f [] []))
inductive ArgsR (rows:Nat→Option (List IV)):List Operand→List Arg→Prop
 |nil:ArgsR rows [] []
 |cons {x:Operand}{a:Arg}{xs:List Operand}{as:List Arg}(h:ArgR rows x a) (hs:ArgsR rows xs as):ArgsR rows (x::xs) (a::as)
structure TyR (P:Program) (t:TypeId) (d:TypeDesc) (n:Nat) (bytes:Nat) (agg:Bool):Prop where
 und:P.underlying t=some d
 info:∃i,P.info? t=some i∧i.size=n∧i.bytes=bytes
 isAgg:agg=(match d with | .struct _ | .array _ _=>true | _=>false)
 one:agg=false→n=1
def ZeroR (P:Program) (t:TypeId) (zero:List IV):Prop :=
 ∃i v,P.info? t=some i∧i.zero=some v∧v.cells.toList.length=zero.length∧i.size=zero.length∧∀G,VRs G zero v.cells.toList
def eqDesc:EqD→TypeDesc→Prop
 |.bool,.bool=>True
 |.int,.int _=>True
 |.str,.string=>True
 |.float,.float _=>True
 |.ptr,.pointer _=>True
 |.slice,.slice _=>True
 |.func,.func ..=>True
 |.map,.map ..=>True
 |_,_=>False
def locOps (lo hi:Option Operand):List Operand:=lo.toList++hi.toList
inductive PlanR (P:Program):List Field→List (Nat×EqD)→Prop
 |nil:PlanR P [] []
 |cons {f:Field}{fs:List Field}{d n b ed} {plan:List (Nat×EqD)}(hn:f.name ≠ "_") (ht:TyR P f.type d n b false) (he:eqDesc ed d) (h:PlanR P fs plan) :
   PlanR P (f::fs) ((f.offset,ed)::plan)
inductive PR (P:Program):Op→POp→List Operand→Prop
 |pick (c a b):PR P (.pick c a b) .pick [c,a,b]
 |build (t) (ps:Array (Nat×Operand)) (zero parts n bytes) (fields:Array Field) (sz:Nat→Nat) (ht:TyR P t (.struct fields) n bytes true) (hz:ZeroR P t zero)
   (hf:∀j f,fields[j]?=some f→∃d b a,TyR P f.type d (sz j) b a)
   (hp:parts=ps.toList.map fun p=>(((fields[p.1]?).map (·.offset)).getD 0,sz p.1)) (hi:∀p∈ps.toList,p.1<fields.size) :
   PR P (.build t ps) (.build zero parts) (ps.toList.map (·.2))
 |buildA (t) (ps:Array (Nat×Operand)) (zero parts n bytes) (len e sz:Nat) (d b a) (ht:TyR P t (.array len e) n bytes true) (hz:ZeroR P t zero) (hs:TyR P e d sz b a)
   (hp:parts=ps.toList.map fun p=>(p.1*sz,sz)) :
   PR P (.build t ps) (.build zero parts) (ps.toList.map (·.2))
 |nilCheck (x):PR P (.nilCheck x) .nilCheck [x]
 |bin (op t x y u):PR P (.binOp op t x y u) (.bin op) [x,y]
 |eql (t x y u d n bytes agg ed) (ht:TyR P t d n bytes agg) (he:eqDesc ed d):PR P (.binOp .eql t x y u) (.eq false ed) [x,y]
 |neq (t x y u d n bytes agg ed) (ht:TyR P t d n bytes agg) (he:eqDesc ed d):PR P (.binOp .neq t x y u) (.eq true ed) [x,y]
 |eqAgg (neg:Bool) (op t x y u) (fields:Array Field) (plan) (ho:op=if neg then .neq else .eql) (ht:P.underlying t=some (.struct fields)) (hp:P.stoodInHeld t=false)
   (hg:P.eqGuardType P.depth t=false) (hpl:PlanR P fields.toList plan):PR P (.binOp op t x y u) (.eqAgg neg plan) [x,y]
 |eqArr (neg:Bool) (op t x y u) (len e d b ed plan) (ho:op=if neg then .neq else .eql) (ht:P.underlying t=some (.array len e)) (hs:TyR P e d 1 b false) (he:eqDesc ed d)
   (hg:P.eqGuardType P.depth t=false) (hpl:plan=(List.range len).map fun i=>(i,ed)):PR P (.binOp op t x y u) (.eqAgg neg plan) [x,y]
 |un (op t x):PR P (.unOp op t x) (.un op) [x]
 |convInt (s d x k) (hs:∃k',P.underlying s=some (.int k')) (hd:P.underlying d=some (.int k)):PR P (.convert s d x) (.convInt k) [x]
 |convStr (s d x) (hs:P.underlying s=some .string) (hd:P.underlying d=some .string):PR P (.convert s d x) .convStr [x]
 |intStr (s d x) (hs:∃k',P.underlying s=some (.int k')) (hd:P.underlying d=some .string):PR P (.convert s d x) .intStr [x]
 |bytesStr (s d x e) (hs:P.underlying s=some (.slice e)) (he:P.underlying e=some (.int .u8)) (hd:P.underlying d=some .string):PR P (.convert s d x) .bytesStr [x]
 |mkIface (t x d) (ht:P.underlying t=some d) (hi:∀ms,d ≠ .interface ms):PR P (.makeInterface t x) (.mkIface t) [x]
 |mkFunc (f first cap):PR P (.makeFunc (.func f) first cap) (.mkFunc f first.size) (first.toList++cap.toList)
 |fieldAddr (t x i fields fd d n bytes agg) (ht:P.underlying t=some (.struct fields)) (hf:fields[i]?=some fd) (hs:TyR P fd.type d n bytes agg) (h0:n≠0) :
   PR P (.fieldAddr t x i) (.fieldAddr fd.offset) [x]
 |field (t x i fields fd d n bytes agg) (ht:P.underlying t=some (.struct fields)) (hf:fields[i]?=some fd) (hs:TyR P fd.type d n bytes agg) :
   PR P (.field t x i) (.field agg fd.offset n) [x]
 |indexA (t x i len e d n bytes agg) (ht:P.underlying t=some (.array len e)) (hs:TyR P e d n bytes agg):PR P (.indexAddr t x i) (.indexA len n) [x,i]
 |indexS (t x i e d n bytes agg) (ht:P.underlying t=some (.slice e)) (hs:TyR P e d n bytes agg):PR P (.indexAddr t x i) (.indexS n) [x,i]
 |idxArr (t x i len e d n bytes agg) (ht:P.underlying t=some (.array len e)) (hs:TyR P e d n bytes agg):PR P (.index t x i) (.idxArr len agg n) [x,i]
 |idxStr (t x i) (ht:P.underlying t=some .string):PR P (.index t x i) .idxStr [x,i]
 |sliceS (t x lo hi e d n bytes agg) (ht:P.underlying t=some (.slice e)) (hs:TyR P e d n bytes agg):PR P (.slice t x lo hi none) (.sliceS n lo.isSome hi.isSome) (x::locOps lo hi)
 |sliceStr (t x lo hi) (ht:P.underlying t=some .string):PR P (.slice t x lo hi none) (.sliceStr lo.isSome hi.isSome) (x::locOps lo hi)
 |sliceA (t x lo hi len e d n bytes agg) (ht:P.underlying t=some (.array len e)) (hs:TyR P e d n bytes agg) :
   PR P (.slice t x lo hi none) (.sliceA len n lo.isSome hi.isSome) (x::locOps lo hi)
 |extract (x i):PR P (.extract x i) (.extract i) [x]
 |lenStr (x t) (ht:P.underlying t=some .string):PR P (.call ⟨.builtin .len,#[x],#[t]⟩) .lenStr [x]
 |lenSlice (x t e) (ht:P.underlying t=some (.slice e)):PR P (.call ⟨.builtin .len,#[x],#[t]⟩) .lenSlice [x]
 |lenArr (x t n e) (ht:P.underlying t=some (.array n e)):PR P (.call ⟨.builtin .len,#[x],#[t]⟩) (.lenArr n) [x]
 |lenPtr (x t a n e) (ht:P.underlying t=some (.pointer a)) (ha:P.underlying a=some (.array n e)):PR P (.call ⟨.builtin .len,#[x],#[t]⟩) (.lenArr n) [x]
 |min (xs ts):PR P (.call ⟨.builtin .min,xs,ts⟩) .min xs.toList
 |max (xs ts):PR P (.call ⟨.builtin .max,xs,ts⟩) .max xs.toList
def keyDesc:EqD→TypeDesc→Prop
 |.bool,.bool=>True
 |.int,.int _=>True
 |.str,.string=>True
 |_,_=>False
inductive KR (P:Program) (rows:Nat→Option (List IV)):Op→IK→Prop
 |move (x x' xf lk) (h:ArgR rows x x'):KR P rows (.move x) (.mv x' xf lk)
 |assign (x x' xf lk) (h:ArgR rows x x'):KR P rows (.assign x) (.mv x' xf lk)
 |p (op po xs as) (h:PR P op po xs) (ha:ArgsR rows xs as):KR P rows op (.p po as)
 |same (t e x x') (ht:P.underlying t=some (.slice e)) (he:P.underlying e=some (.int .u8)) (h:ArgR rows x x'):KR P rows (.convert t t x) (.same x')
 |load (t d n bytes agg a a' lk) (ht:TyR P t d n bytes agg) (h:ArgR rows a a'):KR P rows (.load t a) (.load agg n a' lk)
 |store (t d n bytes agg a a' x x' xf) (ht:TyR P t d n bytes agg) (h:ArgR rows a a') (hx:ArgR rows x x'):KR P rows (.store t a x) (.store n a' x' xf)
 |allocL (t zero k cp) (hz:ZeroR P t zero):KR P rows (.alloc t) (.allocL k zero cp)
 |allocG (t zero cp) (hz:ZeroR P t zero):KR P rows (.alloc t) (.allocG zero cp)
 |boxL (t n k x x') (h:ArgR rows x x'):KR P rows (.box t x) (.boxL k n x')
 |boxG (t n x x') (h:ArgR rows x x'):KR P rows (.box t x) (.boxG n x')
 |boxI (t n x x') (h:ArgR rows x x'):KR P rows (.box t x) (.boxI n x')
 |buildSlice (t e len) (ps:Array (Nat×Operand)) (zero parts as d n bytes agg) (ht:P.underlying t=some (.slice e)) (hs:TyR P e d n bytes agg) (hz:ZeroR P e zero)
   (hp:parts=ps.toList.map fun p=>(p.1*n,n)) (hl:len*n≤2^24) (ha:ArgsR rows (ps.toList.map (·.2)) as) :
   KR P rows (.buildSlice t len ps) (.buildSlice n len zero parts as)
 |strBytes (s d e x x') (hs:P.underlying s=some .string) (hd:P.underlying d=some (.slice e)) (he:P.underlying e=some (.int .u8)) (h:ArgR rows x x') :
   KR P rows (.convert s d x) (.strBytes x')
 |makeI (t e l c l' c' zero d n bytes agg) (ht:P.underlying t=some (.slice e)) (hs:TyR P e d n bytes agg) (hz:ZeroR P e zero) (hl:ArgR rows l l') (hc:ArgR rows c c') :
   KR P rows (.makeSlice t l c) (.makeI n bytes zero l' c')
 |makeB (t e l c l' c' zero d n bytes agg) (ht:P.underlying t=some (.slice e)) (hs:TyR P e d n bytes agg) (hz:ZeroR P e zero) (hl:ArgR rows l l') (hc:ArgR rows c c') :
   KR P rows (.makeSlice t l c) (.makeB n bytes zero l' c')
 |append (t u e s x s' x' zero d n bytes agg) (ht:P.underlying t=some (.slice e)) (hu:P.underlying u=some .string∨∃e',P.underlying u=some (.slice e')) (hs:TyR P e d n bytes agg) (hb:bytes≠0) (hn:n≠0)
   (hz:ZeroR P e zero) (h1:ArgR rows s s') (h2:ArgR rows x x'):KR P rows (.call ⟨.builtin .append,#[s,x],#[t,u]⟩) (.append n bytes s' x')
 |copy (t u e d s d' s' td n bytes agg) (ht:P.underlying t=some (.slice e)) (hs:TyR P e td n bytes agg) (h1:ArgR rows d d') (h2:ArgR rows s s') :
   KR P rows (.call ⟨.builtin .copy,#[d,s],#[t,u]⟩) (.copy n d' s')
 |callF (f xs ts as hide) (ha:ArgsR rows xs.toList as):KR P rows (.call ⟨.value (.func f),xs,ts⟩) (.callF f as hide)
 |callV (g g' xs ts as hide) (hg:ArgR rows g g') (ha:ArgsR rows xs.toList as):KR P rows (.call ⟨.value g,xs,ts⟩) (.callV g' as hide)
 |mkMap (t):KR P rows (.makeMap t none) .mkMap
 |lookup (t k e m m' x x' zero ok d ed) (ht:P.underlying t=some (.map k e)) (hk:P.underlying k=some d) (hkd:keyDesc ed d)
   (hz:∃i z,P.info? e=some i∧i.zero=some z∧∀G,VR G zero z) (hm:ArgR rows m m') (hx:ArgR rows x x'):KR P rows (.lookup t m x ok) (.lookup ed zero ok m' x')
 |mapUpd (t k e m m' x x' v v' d ed) (ht:P.underlying t=some (.map k e)) (hk:P.underlying k=some d) (hkd:keyDesc ed d)
   (hm:ArgR rows m m') (hx:ArgR rows x x') (hv:ArgR rows v v'):KR P rows (.mapUpdate t m x v) (.mapUpd ed m' x' v')
 |ins (t k e m m' x x' v v' d ed) (ht:P.underlying t=some (.map k e)) (hk:P.underlying k=some d) (hkd:keyDesc ed d)
   (hm:ArgR rows m m') (hx:ArgR rows x x') (hv:ArgR rows v v'):KR P rows (.insert t m x v) (.mapUpd ed m' x' v')
 |mapLen (t k e m m') (ht:P.underlying t=some (.map k e)) (hm:ArgR rows m m'):KR P rows (.call ⟨.builtin .len,#[m],#[t]⟩) (.mapLen m')
 |bytesM (s d x e x') (hs:P.underlying s=some (.slice e)) (he:P.underlying e=some (.int .u8)) (hd:P.underlying d=some .string) (hx:ArgR rows x x'):KR P rows (.convert s d x) (.bytesM x')
 |rangeStr (t x x' k) (ht:P.underlying t=some .string) (h:ArgR rows x x'):KR P rows (.range t x) (.rangeStr k x')
 |nextStr (a a') (h:ArgR rows a a'):KR P rows (.next a true) (.nextStr a')
structure OpR (P:Program) (rows:Nat→Option (List IV)) (N:Nat) (ops:Array Oper) (o:Oper) (i:IOp):Prop where
 dst:o.dst=i.dst
 lt:∀d,i.dst=some d→d<N
 k:KR P rows o.op i.k
 guard:match o.guard,i.guard with
  |none,none=>True
  |some (j,want),some (s,want')=>want=want'∧(ops[j]?).bind (·.dst)=some s
  |_,_=>False
inductive OpsR (P:Program) (rows:Nat→Option (List IV)) (N:Nat) (ops:Array Oper):List Oper→List IOp→Prop
 |nil:OpsR P rows N ops [] []
 |cons {o:Oper}{i:IOp}{os:List Oper}{is:List IOp}(h:OpR P rows N ops o i) (hs:OpsR P rows N ops os is):OpsR P rows N ops (o::os) (i::is)
inductive CR (P:Program) (rows:Nat→Option (List IV)) (N:Nat) (T:Tab) (drawOk:Array Oper→List IOp→List Nat→Prop):Code→ICode→Prop
 |skip:CR P rows N T drawOk .skip .skip
 |label (l):CR P rows N T drawOk (.label l) .skip
 |ops (id) (ops:Array Oper) (is) (h:OpsR P rows N ops ops.toList is):CR P rows N T drawOk (.region id ops false) (.ops is)
 |draw (id) (ops:Array Oper) (is pre) (h:OpsR P rows N ops ops.toList is) (hd:drawOk ops is pre):CR P rows N T drawOk (.region id ops true) (.draw is pre)
 |seq {a b x y} (h1:CR P rows N T drawOk a x) (h2:CR P rows N T drawOk b y):CR P rows N T drawOk (.seq a b) (.seq x y)
 |cond {c a b c' x y} (h:ArgR rows c c') (h1:CR P rows N T drawOk a x) (h2:CR P rows N T drawOk b y):CR P rows N T drawOk (.cond c a b) (.cond c' x y)
 |block {id a x} (h:CR P rows N T drawOk a x):CR P rows N T drawOk (.block id a) (.block id x)
 |loop {a x hd} (h:CR P rows N T drawOk a x):CR P rows N T drawOk (.loop a) (.loop hd x)
 |exit (id):CR P rows N T drawOk (.exit id) (.exit id)
 |ret:CR P rows N T drawOk .ret .ret
 |scope {a x} (h:CR P rows N T drawOk a x):CR P rows N T drawOk (.scope a) x
 |any (c):CR P rows N T drawOk c (.cond (.c .nilPtr) .skip .skip)
 |rangeF {g g' fn site} {ps:Array Tmp}{as body:Code}{r:IRnd}(hg:ArgR rows g g') (hr:T.rnd fn site=some r) (hp:ps.toList=r.ps) (hlt:∀p∈r.ps,p<N)
   (h1:CR P rows N T drawOk as r.assign) (h2:CR P rows N T drawOk body r.body):CR P rows N T drawOk (.rangeFunc g ps as body) (.rangeF g' fn site)
end Go.Idl
namespace Go.Idl
structure Ctx where
 P:Program
 rows:Nat→Option (List IV)
 T:Tab
 D:Array Oper→List IOp→List Nat→Prop
def jmp:Nat→Option Code
 |0=>none
 |1=>some .ret
 |i+2=>some (.exit i)
inductive ORel (X:Ctx) (G:Gh):BObj→Obj→Prop
 |cells (cs:List IV) (cp:List Cap) (rc:List Value) (t:TypeId) (f:Nat×Nat) (h:VRs G cs rc) (hf:∀i,i<rc.length→¬(f.1≤i∧i<f.2)) (hcp:cp.length=cs.length) :
   ORel X G (.cells cs cp) (.cells ⟨rc⟩ t f)
 |iter (s:List UInt8) (pos:Nat):ORel X G (.iter s pos) (.stringIter ⟨⟨s⟩⟩ pos)
 |map (es:List (IV×IV)) (res:List MapEntry) (clock:Nat) (hk:VRs G (es.map (·.1)) (res.map (·.key))) (hv:VRs G (es.map (·.2)) (res.map (·.val))) :
   ORel X G (.map es) (.map ⟨res⟩ clock)
 |loop (busy fn site:Nat) (env:Env) (j:Nat) (L:Loop) (r:IRnd) (hr:X.T.rnd fn site=some r) (hp:L.params.toList=r.ps) (hlt:∀p∈r.ps,p<L.tmps.size)
   (h1:CR X.P X.rows L.tmps.size X.T X.D L.assign r.assign) (h2:CR X.P X.rows L.tmps.size X.T X.D L.body r.body)
   (he:∀i v c,look env i=some (v,c)→VR G v (L.tmps.getD i undef)∧i<L.tmps.size) (hc:∀i v c,look env i=some (v,c)→c=.any)
   (hs:L.state=(match busy with | 0=>.ready | 1=>.done | _=>.busy)) (hj:L.pending=jmp j):ORel X G (.loop busy fn site env j) (.loop L)
def OwnAt (G:Gh) (l:Loc) (sz:Nat) (r:Value):Prop :=
 ∀b o sp len cap,r=.slice (some ⟨b,o,sp⟩) len cap→sp=none∧∀j,o+len*sz≤j→j<o+cap*sz→G.ow b j=some l
structure WF (X:Ctx) (G:Gh) (w:World):Prop where
 imm:∀b o v,G.imm b o=some v→w.cell? ⟨b,o,none⟩=some v
 inj:∀i j b,G.bx i=some b→G.bx j=some b→i=j
 linj:∀i j b,G.lb i=some b→G.lb j=some b→i=j
 disj:∀i k b,G.bx i=some b→G.lb k=some b→False
 boxlt:∀b,G.boxed b→b<w.heap.size
 boximm:∀b o,G.boxed b→G.imm b o=none
 boxow:∀b o,G.boxed b→G.ow b o=none
 owimm:∀b o l,G.ow b o=some l→G.imm b o=none
 owcell:∀b o l,G.ow b o=some l→(w.cell? ⟨b,o,none⟩).isSome∧w.frozen? ⟨b,o,none⟩=false
 glob:∀g row,X.rows g=some row→VR G (.pI row 0) (.pointer (some ⟨g,0,none⟩))
 old:G.old≤w.heap.size
structure MR (X:Ctx) (G:Gh) (m:IM) (w:World):Prop where
 bx:∀id,m.get id ≠ .none→∃b ro,G.bx id=some b∧w.heap[b]?=some ro∧ORel X G (m.get id) ro
 own:∀id cs cp off sz,m.get id=.cells cs cp→cp[off]?=some (.own sz)→∀b r,G.bx id=some b→w.cell? ⟨b,off,none⟩=some r→OwnAt G (.B id off) sz r
 dom:∀id b,G.bx id=some b→id<m.size
 hid:∀id,G.hid id=true→id<m.size∧m.get id=.none
def Markable (G:Gh) (w:World) (b:Nat):Prop:=∃c t f,w.heap[b]?=some (.cells c t f)∧(f=(c.size,c.size+1)∨(f=(0,0)∧G.old≤b))
theorem Markable.same {G G':Gh}{w:World}{b:Nat}(h:Markable G w b) (e:G'.old=G.old):Markable G' w b:=by
 obtain⟨c,t,f,h1,h2⟩:=h
 exact⟨c,t,f,h1,h2.imp id (fun⟨q1,q2⟩=>⟨q1,by rw[e];exact q2⟩)⟩
def FzOK (G:Gh) (b n:Nat) (f f':Nat×Nat):Prop:=f'=f∨(G.old≤b∧f=(0,0)∧f'=(n,n+1))
def LinkOK (G:Gh) (a:Act) (w:World) (i:Nat):Loc→Prop
 |.slot j=>a.tmps.getD i undef=a.tmps.getD j undef
 |.L k off=>∃b,G.lb k=some b∧w.cell? ⟨b,off,none⟩=some (a.tmps.getD i undef)
 |.B id off=>∃b,G.bx id=some b∧w.cell? ⟨b,off,none⟩=some (a.tmps.getD i undef)
 |.marked=>∀b o sp len cap,a.tmps.getD i undef=.slice (some ⟨b,o,sp⟩) len cap→Markable G w b
structure SR (X:Ctx) (N:Nat) (G:Gh) (st:St) (a:Act) (w:World):Prop where
 size:a.tmps.size=N
 env:∀i v c,look st.env i=some (v,c)→SV G v (a.tmps.getD i undef)∧i<N
 own:∀i v sz,look st.env i=some (v,.own sz)→OwnAt G (.slot i) sz (a.tmps.getD i undef)
 lk:∀i l,(i,l)∈st.lk→LinkOK G a w i l
 lb:∀k,lookL st.lb k ≠ .none→∃b ro,G.lb k=some b∧w.heap[b]?=some ro∧ORel X G (lookL st.lb k) ro
 lbown:∀k cs cp off sz,lookL st.lb k=.cells cs cp→cp[off]?=some (.own sz)→∀b r,G.lb k=some b→w.cell? ⟨b,off,none⟩=some r→OwnAt G (.L k off) sz r
 lbdom:∀k b,G.lb k=some b→lookL st.lb k ≠ .none
 mr:MR X G st.m w
 wf:WF X G w
structure Step (G:Gh) (w:World) (G':Gh) (w':World):Prop where
 os:w'.os=w.os
 tape:w'.tape=w.tape
 output:w'.output=w.output
 size:w.heap.size≤w'.heap.size
 imm:∀b o v,G.imm b o=some v→G'.imm b o=some v
 bx:∀id b,G.bx id=some b→G'.bx id=some b
 other:∀b o,w.heap[b]?=some o→¬G.opn b→(∀c t f,o ≠ .cells c t f)→w'.heap[b]?=some o
 cells:∀b c t f,w.heap[b]?=some (.cells c t f)→¬G.opn b→∃c' f',w'.heap[b]?=some (.cells c' t f')∧c'.size=c.size∧(∀i,G.ow b i=none→c'[i]?=c[i]?)∧FzOK G b c.size f f'
 immNew:∀b o v,b<w.heap.size→¬G.opn b→G'.imm b o=some v→G.imm b o=some v∨(G.ow b o).isSome
 owNew:∀b o l,b<w.heap.size→G'.ow b o=some l→(G.ow b o).isSome
 boxNew:∀b,b<w.heap.size→G'.opn b→G.opn b
 hid:G'.hid=G.hid
 old:G'.old=G.old
 bxNew:∀id b,G'.bx id=some b→G.bx id=some b∨w.heap.size≤b
 loop:∀(b:Nat) (L:Loop),w.heap[b]?=some (Obj.loop L)→∃L',w'.heap[b]?=some (Obj.loop L')
theorem Step.refl (G:Gh) (w:World):Step G w G w where
 os:=rfl
 tape:=rfl
 output:=rfl
 size:=Nat.le_refl _
 imm _ _ _ h:=h
 bx _ _ h:=h
 other _ _ h _ _:=h
 cells _ c _ f h _:=⟨c,f,h,rfl,fun _ _=>rfl,.inl rfl⟩
 immNew _ _ _ _ _ h:=.inl h
 owNew _ _ _ _ h:=by simp[h]
 boxNew _ _ h:=h
 hid:=rfl
 old:=rfl
 bxNew _ _ h:=.inl h
 loop _ L h:=⟨L,h⟩
theorem heap_lt {w:World}{b:Nat}{o:Obj}(h:w.heap[b]?=some o):b<w.heap.size:=(Array.getElem?_eq_some_iff.1 h).1
theorem Step.trans {G G1 G2:Gh}{w w1 w2:World}(h:Step G w G1 w1) (k:Step G1 w1 G2 w2):Step G w G2 w2 where
 os:=k.os.trans h.os
 tape:=k.tape.trans h.tape
 output:=k.output.trans h.output
 size:=Nat.le_trans h.size k.size
 imm b o v e:=k.imm _ _ _ (h.imm _ _ _ e)
 bx i b e:=k.bx _ _ (h.bx _ _ e)
 other b o e nb nc:=k.other b o (h.other b o e nb nc) (fun q=>nb (h.boxNew b (heap_lt e) q)) nc
 cells b c t f e nb:=by
  obtain⟨c1,f1,e1,s1,g1,z1⟩:=h.cells b c t f e nb
  obtain⟨c2,f2,e2,s2,g2,z2⟩:=k.cells b c1 t f1 e1 (fun q=>nb (h.boxNew b (heap_lt e) q))
  refine⟨c2,f2,e2,s2.trans s1,fun i hi=>(g2 i ?_).trans (g1 i hi),?_⟩
  ·cases q:G1.ow b i with
   |none=>rfl
   |some l=>have:=h.owNew b i l (heap_lt e) q;simp[hi] at this
  ·rcases z1 with rfl | ⟨q1,q2,q3⟩
   ·rcases z2 with rfl | ⟨q1,q2,q3⟩
    ·exact .inl rfl
    ·exact .inr ⟨by rw[←h.old];exact q1,q2,by rw[q3,s1]⟩
   ·rcases z2 with rfl | ⟨q4,q5,q6⟩
    ·exact .inr ⟨q1,q2,q3⟩
    ·exact .inr ⟨q1,q2,by rw[q6,s1]⟩
 immNew b o v hb nb e:=by
  rcases k.immNew b o v (Nat.lt_of_lt_of_le hb h.size) (fun q=>nb (h.boxNew b hb q)) e with e | e
  ·exact h.immNew b o v hb nb e
  ·obtain⟨l,hl⟩:=Option.isSome_iff_exists.1 e
   exact .inr (h.owNew b o l hb hl)
 owNew b o l hb e:=by
  have:=k.owNew b o l (Nat.lt_of_lt_of_le hb h.size) e
  obtain⟨l',hl⟩:=Option.isSome_iff_exists.1 this
  exact h.owNew b o l' hb hl
 boxNew b hb e:=h.boxNew b hb (k.boxNew b (Nat.lt_of_lt_of_le hb h.size) e)
 hid:=k.hid.trans h.hid
 old:=k.old.trans h.old
 bxNew i b e:=by
  rcases k.bxNew i b e with e | e
  ·exact h.bxNew i b e
  ·exact .inr (Nat.le_trans h.size e)
 loop b L e:=let ⟨L',e'⟩:=h.loop b L e;k.loop b L' e'
theorem Step.drew {G G':Gh}{w w':World}(h:Step G w G' w'):Step G w G' w'.drew where
 os:=h.os
 tape:=h.tape
 output:=h.output
 size:=h.size
 imm:=h.imm
 bx:=h.bx
 other:=h.other
 cells:=h.cells
 immNew:=h.immNew
 owNew:=h.owNew
 boxNew:=h.boxNew
 hid:=h.hid
 old:=h.old
 bxNew:=h.bxNew
 loop:=h.loop
theorem look_cons {j:Nat}{v:IV}{c:Cap}{e:Env}{i:Nat}:look ((j,v,c)::e) i=if j=i then some (v,c) else look e i:=by
 rw[look]
 by_cases h:j=i
 ·subst h;simp
 ·have:Nat.beq j i=false:=by
   cases hb:Nat.beq j i with
   |false=>rfl
   |true=>exact absurd (Nat.eq_of_beq_eq_true hb) h
  simp[this,h]
theorem lookL_cons {j:Nat}{o:BObj}{e:List (Nat×BObj)}{i:Nat}:lookL ((j,o)::e) i=if j=i then o else lookL e i:=by
 rw[lookL]
 by_cases h:j=i
 ·subst h;simp
 ·have:Nat.beq j i=false:=by
   cases hb:Nat.beq j i with
   |false=>rfl
   |true=>exact absurd (Nat.eq_of_beq_eq_true hb) h
  simp[this,h]
theorem frc_eq {α:Type}(l:List α):frc l=some l:=by
 induction l with
 |nil=>rfl
 |cons x l ih=>simp[frc,ih]
theorem frcV_eq (v:IV):frcV v=some v:=by
 unfold frcV
 split<;>rfl
theorem Arg.rd_t {e:Env}{i:Nat}:(Arg.t i).rd e=some (slotV e i):=by
 simp only[Arg.rd,slotV]
 cases look e i<;>rfl
theorem Arg.rd_some (e:Env) (a:Arg):∃v,a.rd e=some v:=by
 cases a with
 |t i=>exact⟨_,Arg.rd_t⟩
 |c v=>exact⟨v,rfl⟩
variable {X:Ctx}{N:Nat}{G:Gh}{st:St}{a:Act}{w:World}
theorem SR.rd (h:SR X N G st a w) {x:Operand}{y:Arg}(hr:ArgR X.rows x y) {v:IV}(hv:y.rd st.env=some v):SV G v (a.eval x):=by
 cases hr with
 |tmp i =>
  simp only[Act.eval]
  simp only[Arg.rd] at hv
  cases e:look st.env i with
  |none=>rw[e] at hv;simp only[Option.some.injEq] at hv;subst hv;exact SV.of (VR.undef _)
  |some p =>
   obtain⟨v',c⟩:=p
   rw[e] at hv
   simp only[Option.some.injEq] at hv
   subst hv
   exact (h.env i _ _ e).1
 |const rv x hc=>simp only[Arg.rd,Option.some.injEq] at hv;subst hv;exact SV.of (hc G)
 |glob g row hg=>simp only[Arg.rd,Option.some.injEq] at hv;subst hv;exact SV.of (h.wf.glob g row hg)
 |func f =>
  simp only[Arg.rd,Option.some.injEq] at hv;subst hv
  exact SV.of (.func f [] [] [] [] rfl rfl (fun i hi=>absurd hi (by simp)) (fun i hi=>absurd hi (by simp)))
theorem SR.rdAll (h:SR X N G st a w) {xs:List Operand}{ys:List Arg}(hr:ArgsR X.rows xs ys) {vs:List IV}(hv:rdAll st.env ys=some vs) :
  vs.length=xs.length∧∀(i:Nat) v x,vs[i]?=some v→xs[i]?=some x→SV G v (a.eval x):=by
 induction hr generalizing vs with
 |nil=>simp only[Idl.rdAll,Option.some.injEq] at hv;subst hv;simp
 |cons hx _ ih =>
  rename_i x y xs ys _
  unfold Idl.rdAll at hv
  split at hv
  ·rename_i v vs' e1 e2
   simp only[Option.some.injEq] at hv
   subst hv
   obtain⟨hl,hi⟩:=ih e2
   refine⟨by simp[hl],fun i v x hv hx'=>?_⟩
   cases i with
   |zero=>simp at hv hx';subst hv;subst hx';exact h.rd hx e1
   |succ i=>simp at hv hx';exact hi i v x hv hx'
  ·cases hv
end Go.Idl
namespace Go.Idl
variable {X:Ctx}{N:Nat}{G:Gh}{st:St}{a:Act}{w:World}
def SVs (G:Gh) (vs:List IV) (rs:List Value):Prop:=rs.length=vs.length∧∀(i:Nat) v r,vs[i]?=some v→rs[i]?=some r→SV G v r
theorem SVs.cons_inv {v:IV}{vs:List IV}{rs:List Value}(h:SVs G (v::vs) rs):∃r rs',rs=r::rs'∧SV G v r∧SVs G vs rs':=by
 cases rs with
 |nil=>have:=h.1;simp at this
 |cons r rs=>exact⟨r,rs,rfl,h.2 0 v r rfl rfl,by simpa using h.1,fun i v' r' h1 h2=>h.2 (i+1) v' r' (by simpa using h1) (by simpa using h2)⟩
theorem SVs.nil_inv {rs:List Value}(h:SVs G [] rs):rs=[]:=List.length_eq_zero_iff.1 (by simpa using h.1)
theorem SV.int_inv {k:IntKind}{n:Int}{r:Value}(h:SV G (.int k n) r):r=.int k n:=by cases h with | int=>rfl
theorem SV.bool_inv {b:Bool}{r:Value}(h:SV G (.bool b) r):r=.bool b:=by cases h with | bool=>rfl
theorem SV.str_inv {s:List UInt8}{r:Value}(h:SV G (.str s) r):r=.string ⟨⟨s⟩⟩:=by cases h with | str=>rfl
theorem SV.float_inv {k:FloatKind}{n:Nat}{r:Value}(h:SV G (.float k n) r):r=.float k n:=by cases h with | float=>rfl
theorem run_asIntOf (P:Program) (k:IntKind) (n:Int) (w:World):(asIntOf (.int k n)).run P w=.ok (k,n) w:=rfl
theorem toList_mk (s:List UInt8):(ByteArray.mk ⟨s⟩).toList=s:=ByteArray.toList_eq _
theorem bytesLess_eq (x y:List UInt8):Op.bytesLess x y=bytesLessL x y:=by
 induction x generalizing y with
 |nil=>cases y<;>rfl
 |cons a x ih =>
  cases y with
  |nil=>rfl
  |cons b y =>
   have h1:decide (a<b)=decide (a.toNat<b.toNat):=by rw[decide_eq_decide];exact UInt8.lt_iff_toNat_lt
   have h2:(a==b)=(a.toNat==b.toNat):=by
    rw[Bool.eq_iff_iff];simp[UInt8.toNat_inj]
   show (decide (a<b)||(a==b&&Op.bytesLess x y))=(decide (a.toNat<b.toNat)||(a.toNat==b.toNat&&bytesLessL x y))
   rw[h1,h2,ih]
theorem bin_sound (P : Program) (op : BinOp) (t : TypeId) {x y v : IV} {rx ry : Value} (hx : SV G x rx) (hy : SV G y ry) (h : binEv op x y = some v) :
    ∃ rv, (binOp op t rx ry).run P w = .ok rv w ∧ SV G v rv := by
  unfold binEv at h
  split at h
  · rename_i k p k' q
    have := hx.int_inv; subst this
    have := hy.int_inv; subst this
    split at h
    · rename_i hs
      unfold shiftI at h
      split at h
      · cases h
      · rename_i hq
        cases op <;> simp [isShift] at hs <;> simp only [Option.some.injEq] at h <;> subst h
        · exact ⟨_, by simp [binOp, Op.shift, hq, pure], .int _ _⟩
        · exact ⟨_, by simp [binOp, Op.shift, hq, pure], .int _ _⟩
    · rename_i hs
      split at h
      · rename_i hk
        subst hk
        cases op <;> simp [isShift] at hs <;> simp only [binInt, Option.some.injEq] at h
        case quo => split at h; · cases h
                    · rename_i hz; simp only [Option.some.injEq] at h; subst h; exact ⟨_, by simp [binOp, Op.intDiv, hz, pure], .int _ _⟩
        case rem => split at h; · cases h
                    · rename_i hz; simp only [Option.some.injEq] at h; subst h; exact ⟨_, by simp [binOp, Op.intDiv, hz, pure], .int _ _⟩
        all_goals
          subst h
          first
            | (refine ⟨.int k _, ?_, .int _ _⟩; simp only [binOp, ne_eq, not_true_eq_false, if_false]; rfl)
            | (refine ⟨.bool _, ?_, .bool _⟩; simp only [binOp, ne_eq, not_true_eq_false, if_false]; rfl)
      · cases h
  · rename_i p q
    have := hx.str_inv; subst this
    have := hy.str_inv; subst this
    cases op <;> simp only [binStr, Option.some.injEq] at h <;> try cases h
    case add =>
      split at h
      · rename_i hl
        simp only [Option.some.injEq] at h
        subst h
        refine ⟨.string ⟨⟨p ++ q⟩⟩, ?_, .str _⟩
        have h1 : ¬ (((ByteArray.mk ⟨p⟩).size + (ByteArray.mk ⟨q⟩).size : Nat) : Int) > IntKind.i64.max := by
          have e1 : (ByteArray.mk ⟨p⟩).size = p.length := rfl
          have e2 : (ByteArray.mk ⟨q⟩).size = q.length := rfl
          rw [e1, e2]
          have e3 : IntKind.i64.max = 9223372036854775807 := by decide
          rw [e3]
          unfold maxLenI at hl
          omega
        have h2 : (ByteArray.mk ⟨p⟩) ++ (ByteArray.mk ⟨q⟩) = ⟨⟨p ++ q⟩⟩ := by
          apply ByteArray.ext
          simp
        simp only [binOp, Op.stringOp, if_neg h1, h2]; rfl
      · cases h
    all_goals
      exact ⟨_, by simp [binOp, Op.stringOp, pure, toList_mk, bytesLess_eq], .bool _⟩
  · cases h
theorem run_eqGuard_other (P:Program) (op:BinOp) (t:TypeId) (x y:Operand) (p q:Value) (h1:¬(p=.nilIface∧q=.nilIface)) (h2:∀cs ds,¬(p=.agg cs∧q=.agg ds)) (w:World) :
  (eqGuard op t x y p q).run P w=.ok () w:=by
 unfold eqGuard
 cases op<;>simp<;>(cases p<;>first | rfl | skip)<;>(cases q<;>first | rfl | skip)<;>first | (exact absurd ⟨rfl,rfl⟩ h1) | (exact absurd ⟨rfl,rfl⟩ (h2 _ _))
theorem add_none (b o n:Nat):(⟨b,o,none⟩:Addr).add n=⟨b,o+n,none⟩:=by
 unfold Addr.add
 split
 ·rename_i h;subst h;rfl
 ·rfl
theorem run_und {P:Program}{t:TypeId}{d:TypeDesc}(h:P.underlying t=some d) (w:World):(underlying t).run P w=.ok d w:=run_underlying h w
theorem run_size {P:Program}{t:TypeId}{d n b ag} (h:TyR P t d n b ag) (w:World):(sizeOf t).run P w=.ok n w:=by
 obtain⟨i,h1,h2,_⟩:=h.info
 simp[sizeOf,typeInfo,h1,h2]
theorem run_isAgg' {P:Program}{t:TypeId}{d n b ag} (h:TyR P t d n b ag) (w:World):(isAgg t).run P w=.ok ag w:=by
 rw[h.isAgg]
 simp only[isAgg,Sem.run_bind,run_und h.und,Result.andThen_ok]
 cases d<;>rfl
theorem SV.addr {p q:IV}{r:Value}(h:SV G p r) {n:Nat}(hq:q=(match p with | .pI row o=>.pI row (o+n) | .pB id o=>.pB id (o+n) | .pL k o=>.pL k (o+n) | v=>v))
  (hp:∃(row:List IV) (k o:Nat),p=.pI row o∨p=.pB k o∨p=.pL k o):∃b o,r=.pointer (some ⟨b,o,none⟩)∧SV G q (.pointer (some ⟨b,o+n,none⟩)):=by
 obtain⟨row,k,o,hp⟩:=hp
 rcases hp with rfl | rfl | rfl
 ·cases h with
  |pI _ _ b o' g h1 h2 =>
   refine⟨b,_,rfl,?_⟩
   subst hq
   rw[Nat.add_assoc]
   exact VR.pI _ _ _ _ g h1 h2
 ·cases h with
  |pB _ _ b h=>subst hq;exact⟨b,_,rfl,VR.pB _ _ _ h⟩
 ·obtain⟨b,h,rfl⟩:=h
  subst hq
  exact⟨b,_,rfl,b,h,rfl⟩
set_option maxHeartbeats 2000000 in
theorem eqS_sound {P : Program} {t : TypeId} {ed : EqD} {d : TypeDesc} (ht : P.underlying t = some d) (he : eqDesc ed d) {x y : IV} {rx ry : Value} (hx : SV G x rx) (hy : SV G y ry) {b : Bool}
    (h : eqS ed x y = some b) (n : Nat) (w : World) : (Op.equalIn (n + 1) t rx ry).run P w = .ok b w := by
  unfold eqS at h
  split at h
  case h_1 =>
    have := hx.bool_inv; subst this; have := hy.bool_inv; subst this
    cases d <;> simp [eqDesc] at he
    simp only [Option.some.injEq] at h; subst h
    exact run_equalIn_bool' w n t _ _ ht
  case h_2 =>
    have := hx.int_inv; subst this; have := hy.int_inv; subst this
    cases d <;> simp [eqDesc] at he
    split at h
    · rename_i hk; subst hk
      simp only [Option.some.injEq] at h; subst h
      exact run_equalIn_int w n t _ _ _ _ ht
    · cases h
  case h_3 =>
    have := hx.str_inv; subst this; have := hy.str_inv; subst this
    cases d <;> simp [eqDesc] at he
    simp only [Option.some.injEq] at h; subst h
    rw [run_equalIn_string w n t _ _ ht, toList_mk, toList_mk]
  case h_4 =>
    have := hx.float_inv; subst this; have := hy.float_inv; subst this
    cases d <;> simp [eqDesc] at he
    split at h
    · rename_i hk; subst hk
      simp only [Option.some.injEq] at h; subst h
      simp only [Op.equalIn, Sem.run_bind, run_und ht, Result.andThen_ok]
      simp [Op.floatEq]
    · cases h
  all_goals first
    | (cases h; done)
    | (simp only [Option.some.injEq] at h
       subst h
       cases d <;> simp only [eqDesc] at he
       all_goals
         (try (obtain ⟨_, _, rfl⟩ := hx))
         (try (obtain ⟨_, _, rfl⟩ := hy))
         (try cases hx)
         all_goals (try cases hy)
         all_goals simp [Op.equalIn, run_und ht])
theorem VRs.over {G:Gh}{cs vs:List IV}{rc rv:List Value}(h:VRs G cs rc) (k:VRs G vs rv) (off:Nat):VRs G (over cs off vs) (rc.take off++rv++rc.drop (off+rv.length)):=by
 unfold Idl.over
 rw[k.1]
 exact ((h.take off).append k).append (h.drop _)
theorem foldl_set (vs:List Value):∀(k off:Nat) (arr:Array Value),off+k+vs.length≤arr.size →
  ((vs.zipIdx k).foldl (fun cs (c,j)=>cs.setIfInBounds (off+j) c) arr).toList=arr.toList.take (off+k)++vs++arr.toList.drop (off+k+vs.length):=by
 induction vs with
 |nil=>intro k off arr _;simp
 |cons v vs ih =>
  intro k off arr h
  simp only[List.length_cons] at h
  simp only[List.zipIdx_cons,List.foldl_cons]
  rw[ih (k+1) off _ (by simp;omega)]
  simp only[Array.toList_setIfInBounds]
  have hl:off+k<arr.toList.length:=by simp;omega
  rw[List.drop_set,if_pos (by omega),List.take_set,←Nat.add_assoc,List.take_succ_eq_append_getElem hl]
  have e:(List.take (off+k) arr.toList++[arr.toList[off+k]]).set (off+k) v=List.take (off+k) arr.toList++[v]:=by
   have hm:(List.take (off+k) arr.toList).length=off+k:=by simp at hl ⊢;omega
   rw[List.set_append,if_neg (by omega),hm]
   simp
  rw[e]
  simp only[List.append_assoc,List.cons_append,List.nil_append,List.length_cons]
  rw[show off+k+1+vs.length=off+k+(vs.length+1) by omega]
theorem IV.cells_sound {G:Gh}{v:IV}{r:Value}(h:VR G v r) (hu:v.isU=false):VRs G v.cells r.cells.toList:=by
 have one:∀{v:IV}{r:Value},VR G v r→VRs G [v] [r]:=fun h=>VRs.cons h VRs.nil
 cases v with
 |agg cs=>obtain⟨rc,e,h⟩:=h.agg_inv;rw[e];exact h
 |undef=>cases hu
 |_ =>
  have e:r.cells=#[r]:=by cases h<;>rfl
  rw[e]
  exact one h
theorem fill_sound {G:Gh}(place:Nat→Option (Nat×Nat)):∀(ps:List (Nat×Value)) (parts:List (Nat×Nat)) (vs cs:List IV) (arr:Array Value) (out:List IV),
  parts.length=ps.length→(∀(j:Nat) p q,ps[j]?=some p→parts[j]?=some q→place p.1=some q)→vs.length=ps.length →
  (∀(j:Nat) p v,ps[j]?=some p→vs[j]?=some v→SV G v p.2)→VRs G cs arr.toList→fillI cs parts vs=some out →
  ∃arr',Instr.fill place arr ps=some arr'∧VRs G out arr'.toList:=by
 intro ps
 induction ps with
 |nil =>
  intro parts vs cs arr out h1 _ h2 _ hc hf
  have:parts=[]:=List.length_eq_zero_iff.1 (by simpa using h1)
  subst this
  have:vs=[]:=List.length_eq_zero_iff.1 (by simpa using h2)
  subst this
  simp only[fillI,Option.some.injEq] at hf
  subst hf
  exact⟨arr,rfl,hc⟩
 |cons p ps ih =>
  intro parts vs cs arr out h1 hp h2 hv hc hf
  obtain⟨q,parts,rfl⟩:∃q r,parts=q::r:=by cases parts with | nil=>simp at h1 | cons q r=>exact⟨q,r,rfl⟩
  obtain⟨v,vs,rfl⟩:∃q r,vs=q::r:=by cases vs with | nil=>simp at h2 | cons q r=>exact⟨q,r,rfl⟩
  obtain⟨i,x⟩:=p
  obtain⟨off,n⟩:=q
  simp only[fillI] at hf
  split at hf
  ·rename_i hcond
   simp only[Bool.and_eq_true,decide_eq_true_eq,Bool.not_eq_true'] at hcond
   obtain⟨⟨⟨hU,hL⟩,hn⟩,hle⟩:=hcond
   have hpl:=hp 0 _ _ rfl rfl
   have hx:=IV.cells_sound ((hv 0 _ _ rfl rfl).vr hL) hU
   have hsz:x.cells.size=n:=by rw[←hn,←hx.1];simp
   have hsz2:arr.size=cs.length:=by rw[←hc.1];simp
   have hov:=hc.over hx off
   have hlen:x.cells.toList.length=n:=by simpa using hsz
   rw[hlen] at hov
   have hfold:=foldl_set x.cells.toList 0 off arr (by simp[hlen];omega)
   simp only[Nat.add_zero,hlen] at hfold
   rw[←hfold] at hov
   obtain⟨arr',h3,h4⟩:=ih parts vs _ _ out (by simpa using h1) (fun j p q h h'=>hp (j+1) p q (by simpa using h) (by simpa using h')) (by simpa using h2)
    (fun j p v h h'=>hv (j+1) p v (by simpa using h) (by simpa using h')) hov hf
   refine⟨arr',?_,h4⟩
   simp only[Instr.fill,hpl,hsz,ne_eq,not_true_eq_false,decide_false,Bool.false_or]
   rw[if_neg (by simp;omega)]
   rw[←h3]
   congr 1
   rw[←Array.foldl_toList]
   simp
  ·cases hf
end Go.Idl
namespace Go.Idl
variable {X:Ctx}{N:Nat}{G:Gh}{st:St}{a:Act}{w:World}
theorem SVs.of (h:SR X N G st a w) {xs:List Operand}{ys:List Arg}(hr:ArgsR X.rows xs ys) {vs:List IV}(hv:rdAll st.env ys=some vs):SVs G vs (xs.map a.eval):=by
 obtain⟨h1,h2⟩:=h.rdAll hr hv
 refine⟨by simp[h1],fun i v r e1 e2=>?_⟩
 simp only[List.getElem?_map,Option.map_eq_some_iff] at e2
 obtain⟨x,ex,rfl⟩:=e2
 exact h2 i v x e1 ex
theorem SVs.one {xs:List Operand}{x:Operand}(ρ:Operand→Value) {v:IV}(h:SVs G [v] ([x].map ρ)):SV G v (ρ x):=h.2 0 _ _ rfl rfl
theorem run_part_agg {P:Program}{t:TypeId}{d n b} (h:TyR P t d n b true) (cs:Array Value) (off:Nat) (w:World):(part t cs off).run P w=.ok (.agg (cs.extract off (off+n))) w:=by
 simp[part,run_isAgg' h,run_size h]
theorem run_part_one {P:Program}{t:TypeId}{d n b} (h:TyR P t d n b false) (cs:Array Value) (off:Nat) {v:Value}(hv:cs[off]?=some v) (w:World):(part t cs off).run P w=.ok v w:=by
 simp[part,run_isAgg' h,hv]
theorem part_sound {P:Program}{t:TypeId}{d n b ag} (h:TyR P t d n b ag) {cs:List IV}{rc:List Value}(hc:VRs G cs rc) {off:Nat}{v:IV}(hv:partI ag cs off n=some v) (w:World) :
  ∃r,(part t ⟨rc⟩ off).run P w=.ok r w∧VR G v r:=by
 cases ag with
 |true =>
  simp only[partI,cut,if_true] at hv
  split at hv
  ·rename_i hle
   simp only[Option.map_some,Option.some.injEq] at hv
   subst hv
   refine⟨_,run_part_agg h _ _ _,?_⟩
   have e:(Array.mk rc).extract off (off+n)=⟨(rc.drop off).take n⟩:=by
    apply Array.ext'
    simp[List.extract_eq_take_drop]
   rw[e]
   exact VR.agg' ((hc.drop off).take n)
  ·cases hv
 |false =>
  simp only[partI,Bool.false_eq_true,if_false] at hv
  obtain⟨r,hr,hvr⟩:=hc.get hv
  exact⟨r,run_part_one h _ _ (by simpa using hr) _,hvr⟩
theorem ByteArray.get?_mk (s:List UInt8) (i:Nat):(ByteArray.mk ⟨s⟩)[i]?=s[i]?:=by
 show (if h:i<s.length then some _ else none)=_
 split
 ·rename_i h
  rw[List.getElem?_eq_getElem h]
  rfl
 ·rename_i h
  rw[List.getElem?_eq_none (by omega)]
theorem sliceBound_ok {P:Program}{y:Nat}{code:BoundsCode}{k:IntKind}{i:Int}(h:0≤i∧i≤y) (w:World):(Instr.sliceBound (.int k i) y code).run P w=.ok i.toNat w:=by
 simp[Instr.sliceBound,run_asIntOf,h]
def OptR (G:Gh):Option IV→Option Value→Prop
 |none,none=>True
 |some v,some r=>SV G v r
 |_,_=>False
theorem bnd_ok {P:Program}{d y m:Nat}{code:BoundsCode}{o:Option IV}{r:Option Value}(hd:d≤y) (hy:y≤m) (h:OptR G o r)
  {n:Nat}(hb:bnd d y o=some n):n≤y∧∀w,((match r with | some v=>Instr.sliceBound v m code | none=>pure d:Sem Nat)).run P w=.ok n w:=by
 cases o with
 |none=>cases r with
  |none=>simp only[bnd,Option.some.injEq] at hb;subst hb;exact⟨hd,fun w=>rfl⟩
  |some r=>exact h.elim
 |some v=>cases r with
  |none=>exact h.elim
  |some r =>
   cases v<;>first | (cases hb;done) | skip
   rename_i k i
   have:=SV.int_inv h;subst this
   simp only[bnd] at hb
   split at hb
   ·rename_i hr
    simp only[Option.some.injEq] at hb;subst hb
    exact⟨by omega,fun w=>sliceBound_ok ⟨hr.1,by omega⟩ w⟩
   ·cases hb
theorem bounds_ok {P:Program}(isSlice:Bool) {len cap:Nat}(hc:len≤cap) {lo hi:Option IV}{rlo rhi:Option Value}
  (hl:OptR G lo rlo) (hh:OptR G hi rhi)
  {l h:Nat}(hb:bnds len lo hi=some (l,h)) (w:World):(Instr.sliceBounds isSlice len cap rlo rhi none).run P w=.ok (l,h,cap) w∧l≤h∧h≤len:=by
 unfold bnds at hb
 cases e0:bnd len len hi with
 |none=>rw[e0] at hb;cases hb
 |some h0 =>
  rw[e0] at hb
  simp only at hb
  cases e1:bnd 0 h0 lo with
  |none=>rw[e1] at hb;cases hb
  |some l0 =>
   rw[e1] at hb
   simp only[Option.some.injEq,Prod.mk.injEq] at hb
   obtain⟨rfl,rfl⟩:=hb
   obtain⟨hle,hrun⟩:=bnd_ok (P:=P) (m:=cap) (code:=if isSlice then .sliceAcap else .sliceAlen) (Nat.le_refl _) hc hh e0
   obtain⟨hle2,hrun2⟩:=bnd_ok (P:=P) (m:=h0) (code:=.sliceB) (Nat.zero_le _) (Nat.le_refl _) hl e1
   refine⟨?_,hle2,hle⟩
   have h3:=hrun w;have h4:=hrun2 w
   unfold Instr.sliceBounds
   cases rhi<;>cases rlo<;>simp_all
end Go.Idl
namespace Go.Idl
variable {X:Ctx}{N:Nat}{G:Gh}{st:St}{a:Act}{w:World}
theorem SVs.two {ρ:Operand→Value}{x y:Operand}{v u:IV}(h:SVs G [v,u] ([x,y].map ρ)):SV G v (ρ x)∧SV G u (ρ y):=⟨h.2 0 _ _ rfl rfl,h.2 1 _ _ rfl rfl⟩
theorem svs_len1 {ρ:Operand→Value}{x:Operand}{vs:List IV}(h:SVs G vs ([x].map ρ)):∃v,vs=[v]:=by
 have:=h.1;simp at this
 match vs,this with
 |[v],_=>exact⟨v,rfl⟩
theorem svs_len2 {ρ:Operand→Value}{x y:Operand}{vs:List IV}(h:SVs G vs ([x,y].map ρ)):∃v u,vs=[v,u]:=by
 have:=h.1;simp at this
 match vs,this with
 |[v,u],_=>exact⟨v,u,rfl⟩
theorem execOp_v (ρ:Operand→Value) (o:Oper) (s:Sem Value) (P:Program) (h:execOp ρ o=(do pure (.value (←s)))) {r:Value}{w w':World}(hs:s.run P w=.ok r w') :
  (execOp ρ o).run P w=.ok (.value r) w':=by rw[h];simp[hs]
theorem loHi_ok {ρ:Operand→Value}{lo hi:Option Operand}{args:List IV}(h:SVs G args ((locOps lo hi).map ρ)) {l u:Option IV}(e:loHi lo.isSome hi.isSome args=some (l,u)) :
  OptR G l (lo.map ρ)∧OptR G u (hi.map ρ):=by
 cases lo with
 |none=>cases hi with
  |none =>
   have:args=[]:=List.length_eq_zero_iff.1 (by simpa[locOps] using h.1.symm)
   subst this;simp[loHi] at e;obtain⟨rfl,rfl⟩:=e;exact⟨trivial,trivial⟩
  |some y =>
   obtain⟨v,rfl⟩:=svs_len1 (x:=y) (by simpa[locOps] using h)
   simp[loHi] at e;obtain⟨rfl,rfl⟩:=e
   exact⟨trivial,h.2 0 _ _ rfl rfl⟩
 |some x=>cases hi with
  |none =>
   obtain⟨v,rfl⟩:=svs_len1 (x:=x) (by simpa[locOps] using h)
   simp[loHi] at e;obtain⟨rfl,rfl⟩:=e
   exact⟨h.2 0 _ _ rfl rfl,trivial⟩
  |some y =>
   obtain⟨v,u',rfl⟩:=svs_len2 (x:=x) (y:=y) (by simpa[locOps] using h)
   simp[loHi] at e;obtain⟨rfl,rfl⟩:=e
   exact SVs.two (x:=x) (y:=y) (by simpa[locOps] using h)
theorem VR.sl_sub {row:List IV}{len cap b o n l h sz:Nat}{r:Value}(hv:VR G (.sl row len) r) (hr:r=.slice (some ⟨b,o,none⟩) n cap) (hlh:l≤h) (hh:h≤len) :
  VR G (.sl ((row.drop (l*sz)).take ((h-l)*sz)) (h-l)) (.slice (if cap=l then some ⟨b,o,none⟩ else some (Addr.add ⟨b,o,none⟩ (l*sz))) (h-l) (cap-l)):=by
 cases hv with
 |sl0 a0 =>
  obtain rfl:h=0:=by omega
  obtain rfl:l=0:=by omega
  simp only[Value.slice.injEq,Option.some.injEq] at hr
  obtain⟨rfl,rfl,rfl⟩:=hr
  simpa using VR.sl0 _
 |sl _ _ b' o' cap' g h1 h2 h3 =>
  simp only[Value.slice.injEq,Option.some.injEq,Addr.mk.injEq,and_true] at hr
  obtain⟨⟨rfl,rfl⟩,rfl,rfl⟩:=hr
  split
  ·rename_i e
   have:h-l=0:=by omega
   rw[this]
   refine VR.sl _ _ _ _ _ g ?_ ?_ (Nat.zero_le _)
   ·intro i hi;simp at hi
   ·intro i hi;simp at hi
  ·rw[add_none]
   refine VR.sl _ _ _ _ _ (fun i=>g (l*sz+i)) ?_ ?_ (by omega)
   ·intro i hi
    simp at hi
    rw[Nat.add_assoc];exact h1 _ (by omega)
   ·intro i hi
    simp at hi
    simp only[List.getElem_take,List.getElem_drop]
    exact h2 _ (by omega)
theorem fold2_sound {P:Program}(f:IV→IV→Option IV) (g:Value→Value→Sem Value) (hfg:∀{x y z:IV}{rx ry:Value},SV G x rx→SV G y ry→f x y=some z→∀w,∃rz,(g rx ry).run P w=.ok rz w∧SV G z rz) :
  ∀(vs:List IV) (rs:List Value) (x z:IV) (rx:Value),SVs G vs rs→SV G x rx→fold2 f x vs=some z→∀w,∃rz,(rs.foldlM g rx).run P w=.ok rz w∧SV G z rz:=by
 intro vs
 induction vs with
 |nil=>intro rs x z rx h hx e w;have:=h.nil_inv;subst this;simp only[fold2,Option.some.injEq] at e;subst e;exact⟨rx,rfl,hx⟩
 |cons v vs ih =>
  intro rs x z rx h hx e w
  obtain⟨r,rs,rfl,hv,hvs⟩:=h.cons_inv
  simp only[fold2] at e
  cases e1:f x v with
  |none=>rw[e1] at e;cases e
  |some y =>
   rw[e1] at e
   obtain⟨ry,h1,h2⟩:=hfg hx hv e1 w
   obtain⟨rz,h3,h4⟩:=ih rs y z ry hvs h2 e w
   exact⟨rz,by simp[List.foldlM_cons,h1,h3],h4⟩
theorem min2_sound {P:Program}{x y z:IV}{rx ry:Value}(hx:SV G x rx) (hy:SV G y ry) (h:min2I x y=some z) (w:World):∃rz,(Builtin.min2 rx ry).run P w=.ok rz w∧SV G z rz:=by
 unfold min2I at h
 split at h
 ·have:=hx.int_inv;subst this;have:=hy.int_inv;subst this
  split at h
  ·rename_i e;subst e;simp only[Option.some.injEq] at h;subst h;exact⟨_,rfl,VR.int _ _⟩
  ·cases h
 ·cases h
theorem max2_sound {P:Program}{x y z:IV}{rx ry:Value}(hx:SV G x rx) (hy:SV G y ry) (h:max2I x y=some z) (w:World):∃rz,(Builtin.max2 rx ry).run P w=.ok rz w∧SV G z rz:=by
 unfold max2I at h
 split at h
 ·have:=hx.int_inv;subst this;have:=hy.int_inv;subst this
  split at h
  ·rename_i e;subst e;simp only[Option.some.injEq] at h;subst h;exact⟨_,rfl,VR.int _ _⟩
  ·cases h
 ·cases h
theorem svs_len3 {ρ:Operand→Value}{x y z:Operand}{vs:List IV}(h:SVs G vs ([x,y,z].map ρ)):∃v u t,vs=[v,u,t]:=by
 have:=h.1;simp at this
 match vs,this with
 |[v,u,t],_=>exact⟨v,u,t,rfl⟩
theorem SVs.cons_map {ρ:Operand→Value}{x:Operand}{xs:List Operand}{vs:List IV}(h:SVs G vs ((x::xs).map ρ)):∃v us,vs=v::us∧SV G v (ρ x)∧SVs G us (xs.map ρ):=by
 have:=h.1;simp at this
 match vs,this with
 |v::us,_ =>
  obtain⟨r,rs,e,h1,h2⟩:=h.cons_inv
  simp at e
  obtain⟨rfl,rfl⟩:=e
  exact⟨v,us,rfl,h1,h2⟩
theorem byteVals_sound {cs:List IV}{rc:List Value}(h:VRs G cs rc) {s:List UInt8}(hs:byteVals cs=some s) (P:Program) (f:Value→ByteArray→Sem (ForInStep ByteArray))
  (hf:∀n acc,f (.int .u8 n) acc=pure (ForInStep.yield (acc.push (UInt8.ofNat n.toNat)))):∀(acc:ByteArray) (w:World),
  (forIn rc acc f:Sem ByteArray).run P w=.ok ⟨⟨acc.data.toList++s⟩⟩ w:=by
 induction cs generalizing rc s with
 |nil=>intro acc w;have:=h.cases_nil;subst this;simp only[byteVals,Option.some.injEq] at hs;subst hs;simp
 |cons v cs ih =>
  intro acc w
  obtain⟨r,rs,rfl,h1,h2⟩:=h.cases_cons
  unfold byteVals at hs
  split at hs
  ·rename_i e;cases e
  ·rename_i n r' e
   simp only[List.cons.injEq] at e
   obtain⟨rfl,rfl⟩:=e
   cases h1 with
   |int =>
    cases e2:byteVals cs with
    |none=>rw[e2] at hs;cases hs
    |some t =>
     rw[e2] at hs
     simp only[Option.map_some,Option.some.injEq] at hs
     subst hs
     simp only[List.forIn_cons,hf,Sem.run_bind,Sem.run_pure,Result.andThen_ok]
     rw[ih h2 e2]
     simp
  ·cases hs
theorem mapM_list (P:Program) (sz:Nat→Nat):∀(fs:List Field) (k:Nat),(∀(j:Nat) f,fs[j]?=some f→∃d b a,TyR P f.type d (sz (k+j)) b a)→∀w,
  (fs.mapM fun f=>(do pure (f.offset,←sizeOf f.type):Sem (Nat×Nat))).run P w=.ok (fs.mapIdx fun j f=>(f.offset,sz (k+j))) w:=by
 intro fs
 induction fs with
 |nil=>intro k _ w;simp
 |cons f fs ih =>
  intro k hf w
  obtain⟨d,b,a,h⟩:=hf 0 f rfl
  have:=ih (k+1) (fun j g hg=>by have:=hf (j+1) g (by simpa using hg);rwa [show k+1+j=k+(j+1) by omega]) w
  simp only[List.mapM_cons,Sem.run_bind,run_size h,Result.andThen_ok,Sem.run_pure,this,List.mapIdx_cons,Nat.add_zero]
  simp[show ∀j,k+1+j=k+(j+1) from fun j=>by omega]
theorem mapM_places (P:Program) (sz:Nat→Nat) (fields:Array Field) (hf:∀(j:Nat) f,fields[j]?=some f→∃d b a,TyR P f.type d (sz j) b a) (w:World) :
  (fields.mapM fun f=>(do pure (f.offset,←sizeOf f.type):Sem (Nat×Nat))).run P w=.ok (fields.mapIdx fun j f=>(f.offset,sz j)) w:=by
 rw[Array.mapM_eq_mapM_toList]
 have:=mapM_list P sz fields.toList 0 (fun j f h=>by rw[Nat.zero_add];exact hf j f (by simpa using h)) w
 simp only[Sem.run_map,this,Result.andThen_ok,Nat.zero_add]
 congr 1
 apply Array.ext'
 simp
theorem eqFields_sound {P:Program}{xs ys:List IV}{rx ry:List Value}(hx:VRs G xs rx) (hy:VRs G ys ry) (k:Nat) (w:World):∀{fs:List Field}{plan:List (Nat×EqD)},PlanR P fs plan→∀{b:Bool},eqPlan plan xs ys=some b →
  (Op.eqFields (k+1) ⟨rx⟩ ⟨ry⟩ fs).run P w=.ok b w
 |_,_,.nil,b,h=>by
  simp only[eqPlan,Option.some.injEq] at h
  subst h
  simp[Op.eqFields]
 |_,_,.cons (f:=f) hn ht he hr,b,h=>by
  simp only[eqPlan] at h
  split at h
  ·rename_i x y e1 e2
   obtain⟨r1,k1,v1⟩:=hx.get e1
   obtain⟨r2,k2,v2⟩:=hy.get e2
   have p1:=run_part_one ht ⟨rx⟩ f.offset (v:=r1) (by simpa using k1) w
   have p2:=run_part_one ht ⟨ry⟩ f.offset (v:=r2) (by simpa using k2) w
   split at h
   ·rename_i e3
    have p3:=eqS_sound ht.und he (SV.of v1) (SV.of v2) e3 k w
    have ih:=eqFields_sound hx hy k w hr h
    simp[Op.eqFields,hn,p1,p2,p3,ih]
   ·rename_i e3
    have p3:=eqS_sound ht.und he (SV.of v1) (SV.of v2) e3 k w
    simp only[Option.some.injEq] at h
    subst h
    simp[Op.eqFields,hn,p1,p2,p3]
   ·cases h
  ·cases h
theorem eqItems_sound {P:Program}{xs ys:List IV}{rx ry:List Value}(hx:VRs G xs rx) (hy:VRs G ys ry) (k:Nat) (w:World) {e:TypeId}{d:TypeDesc}{b0:Nat}{ed:EqD}(ht:TyR P e d 1 b0 false) (he:eqDesc ed d):∀(is:List Nat) {b:Bool},
  eqPlan (is.map fun i=>(i,ed)) xs ys=some b→(Op.eqItems (k+1) e 1 ⟨rx⟩ ⟨ry⟩ is).run P w=.ok b w
 |[],b,h=>by
  simp only[List.map_nil,eqPlan,Option.some.injEq] at h
  subst h
  simp[Op.eqItems]
 |i::is,b,h=>by
  simp only[List.map_cons,eqPlan] at h
  split at h
  ·rename_i x y e1 e2
   obtain⟨r1,k1,v1⟩:=hx.get e1
   obtain⟨r2,k2,v2⟩:=hy.get e2
   have p1:=run_part_one ht ⟨rx⟩ i (v:=r1) (by simpa using k1) w
   have p2:=run_part_one ht ⟨ry⟩ i (v:=r2) (by simpa using k2) w
   split at h
   ·rename_i e3
    have p3:=eqS_sound ht.und he (SV.of v1) (SV.of v2) e3 k w
    have ih:=eqItems_sound hx hy k w ht he is h
    simp[Op.eqItems,p1,p2,p3,ih]
   ·rename_i e3
    have p3:=eqS_sound ht.und he (SV.of v1) (SV.of v2) e3 k w
    simp only[Option.some.injEq] at h
    subst h
    simp[Op.eqItems,p1,p2,p3]
   ·cases h
  ·cases h
theorem eq_op (P:Program) (op:BinOp) (t:TypeId) {u:TypeId}(x y:Operand) {ρ:Operand→Value}{o:Oper}(ho:o.op=.binOp op t x y u) {d:TypeDesc}{ed:EqD}(ht:P.underlying t=some d) (he:eqDesc ed d)
  {x' y':IV}(h1:SV G x' (ρ x)) (h2:SV G y' (ρ y)) {b:Bool}(e:eqS ed x' y'=some b) (w:World) (hop:op=.eql∨op=.neq:=by simp) :
  (execOp ρ o).run P w=.ok (.value (.bool (if op=.neq then !b else b))) w:=by
 have h3:=eqS_sound ht he h1 h2 e
 have hg:(eqGuard op t x y (ρ x) (ρ y)).run P w=.ok () w:=by
  refine run_eqGuard_other _ _ _ _ _ _ _ ?_ ?_ _
  ·rintro ⟨e1,e2⟩
   rw[e1] at h1
   unfold eqS at e
   split at e<;>first | (cases e;done) | (cases h1;done) | (obtain⟨_,_,e3⟩:=h1;cases e3)
  ·rintro cs ds ⟨e1,e2⟩
   rw[e1] at h1
   unfold eqS at e
   split at e<;>first | (cases e;done) | (cases h1;done) | (obtain⟨_,_,e3⟩:=h1;cases e3)
 have hb:(binOp op t (ρ x) (ρ y)).run P w=.ok (.bool (if op=.neq then !b else b)) w:=by
  have h4:=h3 9999 w
  generalize ρ x=p at *
  generalize ρ y=q at *
  unfold eqS at e
  have key:(Op.equal t p q).run P w=.ok b w→(¬ ∃k a k' c,p=.int k a∧q=.int k' c)→(¬ ∃k a k' c,p=.float k a∧q=.float k' c)→(¬ ∃a c,p=.string a∧q=.string c) →
    (¬ ∃k a b k' c d,p=.complex k a b∧q=.complex k' c d)→(binOp op t p q).run P w=.ok (.bool (if op=.neq then !b else b)) w:=by
   intro k1 k2 k3 k4 k5
   rcases hop with rfl | rfl<;>unfold binOp<;>split<;>first
    |(exfalso;rename_i h;cases h;done)
    |(exfalso;exact k2 ⟨_,_,_,_,rfl,rfl⟩)
    |(exfalso;exact k3 ⟨_,_,_,_,rfl,rfl⟩)
    |(exfalso;exact k4 ⟨_,_,rfl,rfl⟩)
    |(exfalso;exact k5 ⟨_,_,_,_,_,_,rfl,rfl⟩)
    |(simp[k1];done)
    |skip
   all_goals simp_all
  split at e<;>first | (cases e;done) | skip
  all_goals
   first | (obtain⟨_,_,rfl⟩:=h1) | cases h1
   first | (obtain⟨_,_,rfl⟩:=h2) | cases h2
  case h_2 =>
   split at e
   ·rename_i hk;subst hk
    simp only[Option.some.injEq] at e;subst e
    rcases hop with rfl | rfl<;>simp[binOp,Op.intCmp,bne]
   ·cases e
  case h_3 =>
   simp only[Option.some.injEq] at e;subst e
   rcases hop with rfl | rfl<;>simp[binOp,Op.stringOp,toList_mk]
  case h_4 =>
   split at e
   ·rename_i hk;subst hk
    simp only[Option.some.injEq] at e;subst e
    rcases hop with rfl | rfl<;>simp[binOp,Op.floatCmp,bne]
   ·cases e
  all_goals exact key h4 (by simp) (by simp) (by simp) (by simp)
 simp[execOp,ho,hg,hb]
theorem pure_sound (h:SR X N G st a w) {op:Op}{po:POp}{xs:List Operand}(hp:PR X.P op po xs) {vs:List IV}(hs:SVs G vs (xs.map a.eval)) {v:IV}(hv:po.ev vs=some v)
  (o:Oper) (ho:o.op=op):∃r,(execOp a.eval o).run X.P w=.ok (.value r) w∧SV G v r:=by
 have key:∀(s:Sem Value),execOp a.eval o=(do pure (.value (←s)))→(∃r,s.run X.P w=.ok r w∧SV G v r)→∃r,(execOp a.eval o).run X.P w=.ok (.value r) w∧SV G v r :=
  fun s e ⟨r,h1,h2⟩=>⟨r,execOp_v _ _ s _ e h1,h2⟩
 have keyc:∀(b:Builtin) (c:Call) (s:Sem Value),o.op=.call c→c.callee=.builtin b→(∀cs,builtin b c.argTypes o.type cs (c.args.map a.eval)=(do pure (.value (←s)))) →
   (∃r,s.run X.P w=.ok r w∧SV G v r)→∃r,(execOp a.eval o).run X.P w=.ok (.value r) w∧SV G v r:=by
  intro b c s e ec e2 ⟨r,h1,h2⟩
  refine⟨r,?_,h2⟩
  simp only[execOp,e,resolve,ec,Sem.run_bind,Sem.run_pure,Result.andThen_ok,invoke,e2,h1]
 cases hp with
 |pick c x y =>
  obtain⟨c',x',y',rfl⟩:=svs_len3 hs
  cases c'<;>simp only[POp.ev] at hv<;>first | (cases hv;done) | skip
  rename_i b
  simp only[Option.some.injEq] at hv
  subst hv
  have h1:SV G (.bool b) (a.eval c):=hs.2 0 _ _ rfl rfl
  have h2:SV G x' (a.eval x):=hs.2 1 _ _ rfl rfl
  have h3:SV G y' (a.eval y):=hs.2 2 _ _ rfl rfl
  refine⟨if b then a.eval x else a.eval y,?_,?_⟩
  ·simp only[execOp,ho,h1.bool_inv,asBool,Sem.run_bind,Sem.run_pure,Result.andThen_ok]
  ·cases b
   ·exact h3
   ·exact h2
 |build t ps zero parts n bytes fields sz ht hz hf hpa hi =>
  simp only[POp.ev] at hv
  cases e:fillI zero parts vs with
  |none=>rw[e] at hv;cases hv
  |some cs =>
   rw[e] at hv
   simp only[Option.map_some,Option.some.injEq] at hv
   subst hv
   refine key (Instr.build t (ps.map fun (i,x)=>(i,a.eval x))) (by simp only[execOp,ho]) ?_
   obtain⟨i,z,hi1,hi2,hi3,hi4,hi5⟩:=hz
   have hplaces:∀w,(fields.mapM fun f=>(do pure (f.offset,←sizeOf f.type):Sem (Nat×Nat))).run X.P w=.ok (fields.mapIdx fun j f=>(f.offset,sz j)) w :=
    fun w=>mapM_places X.P sz fields hf w
   have hps:(ps.map fun (i,x)=>(i,a.eval x)).toList=ps.toList.map fun p=>(p.1,a.eval p.2):=by simp
   obtain⟨arr',h3,h4⟩:=fill_sound (G:=G) ((fields.mapIdx fun j f=>(f.offset,sz j))[·]?) (ps.toList.map fun p=>(p.1,a.eval p.2)) parts vs zero z.cells cs (by rw[hpa];simp)
    (by
     intro j p q e1 e2
     subst hpa
     simp only[List.getElem?_map,Option.map_eq_some_iff] at e1 e2
     obtain⟨y,ey,rfl⟩:=e1
     obtain⟨y',ey',rfl⟩:=e2
     rw[ey] at ey'
     simp only[Option.some.injEq] at ey'
     subst ey'
     have:=hi y (List.mem_of_getElem? ey)
     simp[Array.getElem?_eq_getElem this])
    (by have:=hs.1;simpa using this.symm)
    (by
     intro j p v e1 e2
     simp only[List.getElem?_map,Option.map_eq_some_iff] at e1
     obtain⟨y,ey,rfl⟩:=e1
     exact hs.2 j v _ e2 (by simp[ey]))
    (hi5 G) e
   refine⟨.agg arr',?_,VR.agg' h4⟩
   have hz':(zeroValue t).run X.P w=.ok z w:=by simp[zeroValue,typeInfo,hi1,hi2]
   simp only[Instr.build,Sem.run_bind,hz',run_und ht.und,Result.andThen_ok,hplaces,hps,h3,Sem.run_pure]
 |buildA t ps zero parts n bytes len e sz d b ag ht hz hsz hpa =>
  simp only[POp.ev] at hv
  cases e:fillI zero parts vs with
  |none=>rw[e] at hv;cases hv
  |some cs =>
   rw[e] at hv
   simp only[Option.map_some,Option.some.injEq] at hv
   subst hv
   refine key (Instr.build t (ps.map fun (i,x)=>(i,a.eval x))) (by simp only[execOp,ho]) ?_
   obtain⟨i,z,hi1,hi2,hi3,hi4,hi5⟩:=hz
   have hps:(ps.map fun (i,x)=>(i,a.eval x)).toList=ps.toList.map fun p=>(p.1,a.eval p.2):=by simp
   obtain⟨arr',h3,h4⟩:=fill_sound (G:=G) (fun i=>some (i*sz,sz)) (ps.toList.map fun p=>(p.1,a.eval p.2)) parts vs zero z.cells cs (by rw[hpa];simp)
    (by
     intro j p q e1 e2
     subst hpa
     simp only[List.getElem?_map,Option.map_eq_some_iff] at e1 e2
     obtain⟨y,ey,rfl⟩:=e1
     obtain⟨y',ey',rfl⟩:=e2
     rw[ey] at ey'
     simp only[Option.some.injEq] at ey'
     subst ey'
     rfl)
    (by have:=hs.1;simpa using this.symm)
    (by
     intro j p v e1 e2
     simp only[List.getElem?_map,Option.map_eq_some_iff] at e1
     obtain⟨y,ey,rfl⟩:=e1
     exact hs.2 j v _ e2 (by simp[ey]))
    (hi5 G) e
   refine⟨.agg arr',?_,VR.agg' h4⟩
   have hz':(zeroValue t).run X.P w=.ok z w:=by simp[zeroValue,typeInfo,hi1,hi2]
   simp only[Instr.build,Sem.run_bind,hz',run_und ht.und,run_size hsz,Result.andThen_ok,hps,h3,Sem.run_pure]
 |nilCheck x =>
  obtain⟨x',rfl⟩:=svs_len1 hs
  have h1:SV G x' (a.eval x):=hs.2 0 _ _ rfl rfl
  have hf:(∃p,a.eval x=.pointer (some p))∨(∃f r c,a.eval x=.func (.func f) r c)∨(∃b r c,a.eval x=.func (.yield b) r c):=by
   generalize a.eval x=r at h1
   simp only[POp.ev] at hv
   split at hv<;>first | (cases hv;done) | skip
   ·cases h1;exact .inl ⟨_,rfl⟩
   ·cases h1;exact .inl ⟨_,rfl⟩
   ·obtain⟨b,_,e⟩:=h1;exact .inl ⟨_,e⟩
   ·cases h1;exact .inr (.inl ⟨_,_,_,rfl⟩)
   ·cases h1;exact .inr (.inr ⟨_,_,_,rfl⟩)
  have hv':x'=v:=by
   simp only[POp.ev] at hv
   split at hv<;>first | (cases hv;done) | (simpa using hv)
  subst hv'
  refine⟨a.eval x,?_,h1⟩
  rcases hf with ⟨p,e⟩ | ⟨f,r,c,e⟩ | ⟨b,r,c,e⟩<;>simp[execOp,ho,e]
 |bin op t x y u =>
  obtain⟨x',y',rfl⟩:=svs_len2 hs
  have h1:SV G x' (a.eval x):=hs.2 0 _ _ rfl rfl
  have h2:SV G y' (a.eval y):=hs.2 1 _ _ rfl rfl
  simp only[POp.ev] at hv
  obtain⟨r,h3,h4⟩:=bin_sound X.P op t h1 h2 hv (w:=w)
  have hg:(eqGuard op t x y (a.eval x) (a.eval y)).run X.P w=.ok () w:=by
   unfold binEv at hv
   split at hv
   ·rw[h1.int_inv,h2.int_inv];exact run_eqGuard_other _ _ _ _ _ _ _ (by simp) (by simp) _
   ·rw[h1.str_inv,h2.str_inv];exact run_eqGuard_other _ _ _ _ _ _ _ (by simp) (by simp) _
   ·cases hv
  exact⟨r,by simp[execOp,ho,hg,h3],h4⟩
 |eql t x y u d n bytes agg ed ht he =>
  obtain⟨x',y',rfl⟩:=svs_len2 hs
  have h1:SV G x' (a.eval x):=hs.2 0 _ _ rfl rfl
  have h2:SV G y' (a.eval y):=hs.2 1 _ _ rfl rfl
  simp only[POp.ev] at hv
  cases e:eqS ed x' y' with
  |none=>rw[e] at hv;cases hv
  |some b =>
   rw[e] at hv
   simp only[Option.map_some,Option.some.injEq] at hv
   subst hv
   have h3:=eqS_sound ht.und he h1 h2 e
   exact⟨_,eq_op X.P .eql t x y ho ht.und he h1 h2 e _,VR.bool _⟩
 |neq t x y u d n bytes agg ed ht he =>
  obtain⟨x',y',rfl⟩:=svs_len2 hs
  have h1:SV G x' (a.eval x):=hs.2 0 _ _ rfl rfl
  have h2:SV G y' (a.eval y):=hs.2 1 _ _ rfl rfl
  simp only[POp.ev] at hv
  cases e:eqS ed x' y' with
  |none=>rw[e] at hv;cases hv
  |some b =>
   rw[e] at hv
   simp only[Option.map_some,Option.some.injEq] at hv
   subst hv
   have h3:=eqS_sound ht.und he h1 h2 e
   exact⟨_,eq_op X.P .neq t x y ho ht.und he h1 h2 e _,VR.bool _⟩
 |eqAgg neg op t x y u fields plan hop ht hp hg hpl =>
  obtain⟨x',y',rfl⟩:=svs_len2 hs
  have h1:SV G x' (a.eval x):=hs.2 0 _ _ rfl rfl
  have h2:SV G y' (a.eval y):=hs.2 1 _ _ rfl rfl
  have key:∀xs ys,x'=.agg xs→y'=.agg ys→(eqPlan plan xs ys).map (fun b=>IV.bool (if neg then !b else b))=some v→∃r,(execOp a.eval o).run X.P w=.ok (.value r) w∧SV G v r:=by
   intro xs ys e1 e2 hq
   subst e1;subst e2
   obtain⟨rx,q1,g1⟩:=VR.agg_inv (h1.vr rfl)
   obtain⟨ry,q2,g2⟩:=VR.agg_inv (h2.vr rfl)
   cases e:eqPlan plan xs ys with
   |none=>rw[e] at hq;cases hq
   |some b =>
    rw[e] at hq
    simp only[Option.map_some,Option.some.injEq] at hq
    subst hq
    have hf:X.P.underlying t=some (.struct (X.P.fieldsOf t)):=by simp[Program.fieldsOf,ht]
    have hfo:X.P.fieldsOf t=fields:=by simp[Program.fieldsOf,ht]
    have heq:=run_equalIn_agg (P:=X.P) w 9999 t ⟨rx⟩ ⟨ry⟩ hf hp
    rw[hfo,eqFields_sound g1 g2 9998 w hpl e] at heq
    have hgd:=run_eqGuard_agg (P:=X.P) w op t x y ⟨rx⟩ ⟨ry⟩ hg
    cases neg with
    |true =>
     simp only[if_true] at hop
     subst hop
     exact⟨.bool (!b),by simp[execOp,ho,q1,q2,hgd,run_neq_struct,heq],VR.bool _⟩
    |false =>
     simp only[Bool.false_eq_true,if_false] at hop
     subst hop
     exact⟨.bool b,by simp[execOp,ho,q1,q2,hgd,run_eql_struct,heq],VR.bool _⟩
  cases x'<;>first | (simp[POp.ev] at hv;done) | skip
  cases y'<;>first | (simp[POp.ev] at hv;done) | skip
  exact key _ _ rfl rfl (by simpa only[POp.ev] using hv)
 |eqArr neg op t x y u len e d0 b0 ed plan hop ht hs0 he0 hg hpl =>
  obtain⟨x',y',rfl⟩:=svs_len2 hs
  have h1:SV G x' (a.eval x):=hs.2 0 _ _ rfl rfl
  have h2:SV G y' (a.eval y):=hs.2 1 _ _ rfl rfl
  have key:∀xs ys,x'=.agg xs→y'=.agg ys→(eqPlan plan xs ys).map (fun b=>IV.bool (if neg then !b else b))=some v→∃r,(execOp a.eval o).run X.P w=.ok (.value r) w∧SV G v r:=by
   intro xs ys e1 e2 hq
   subst e1;subst e2
   obtain⟨rx,q1,g1⟩:=VR.agg_inv (h1.vr rfl)
   obtain⟨ry,q2,g2⟩:=VR.agg_inv (h2.vr rfl)
   cases eb:eqPlan plan xs ys with
   |none=>rw[eb] at hq;cases hq
   |some b =>
    rw[eb] at hq
    simp only[Option.map_some,Option.some.injEq] at hq
    subst hq
    obtain⟨inf,hi1,hi2,-⟩:=hs0.info
    have hc:X.P.cellsOf e=1:=by simp[Program.cellsOf,hi1,hi2]
    have heq:=run_equalIn_array (P:=X.P) w 9999 ⟨rx⟩ ⟨ry⟩ ht hi1
    rw[hc,eqItems_sound g1 g2 9998 w hs0 he0 (List.range len) (by rw[←hpl];exact eb)] at heq
    have hgd:=run_eqGuard_agg (P:=X.P) w op t x y ⟨rx⟩ ⟨ry⟩ hg
    cases neg with
    |true =>
     simp only[if_true] at hop
     subst hop
     exact⟨.bool (!b),by simp[execOp,ho,q1,q2,hgd,run_neq_struct,heq],VR.bool _⟩
    |false =>
     simp only[Bool.false_eq_true,if_false] at hop
     subst hop
     exact⟨.bool b,by simp[execOp,ho,q1,q2,hgd,run_eql_struct,heq],VR.bool _⟩
  cases x'<;>first | (simp[POp.ev] at hv;done) | skip
  cases y'<;>first | (simp[POp.ev] at hv;done) | skip
  exact key _ _ rfl rfl (by simpa only[POp.ev] using hv)
 |un op t x =>
  obtain⟨x',rfl⟩:=svs_len1 hs
  have h1:SV G x' (a.eval x):=hs.2 0 _ _ rfl rfl
  simp only[POp.ev] at hv
  refine key (Op.unary op (a.eval x)) (by simp only[execOp,ho]) ?_
  unfold unEv at hv
  split at hv<;>first | (cases hv;done) | skip
  ·rw[h1.int_inv];simp only[Option.some.injEq] at hv;subst hv;exact⟨_,rfl,VR.int _ _⟩
  ·rw[h1.int_inv];simp only[Option.some.injEq] at hv;subst hv;exact⟨_,rfl,VR.int _ _⟩
  ·rw[h1.bool_inv];simp only[Option.some.injEq] at hv;subst hv;exact⟨_,rfl,VR.bool _⟩
 |convInt s d x k hs' hd =>
  obtain⟨x',rfl⟩:=svs_len1 hs
  have h1:SV G x' (a.eval x):=hs.2 0 _ _ rfl rfl
  cases x'<;>simp only[POp.ev] at hv<;>first | (cases hv;done) | skip
  simp only[Option.some.injEq] at hv;subst hv
  obtain⟨k',hs'⟩:=hs'
  exact⟨_,by simp[execOp,ho,convert,run_und hs',run_und hd,h1.int_inv,Conv.intToInt]<;>rfl,VR.int _ _⟩
 |convStr s d x hs' hd =>
  obtain⟨x',rfl⟩:=svs_len1 hs
  have h1:SV G x' (a.eval x):=hs.2 0 _ _ rfl rfl
  cases x'<;>simp only[POp.ev] at hv<;>first | (cases hv;done) | skip
  simp only[Option.some.injEq] at hv;subst hv
  exact⟨_,by simp[execOp,ho,convert,run_und hs',run_und hd,h1.str_inv]<;>rfl,VR.str _⟩
 |intStr s d x hs' hd =>
  obtain⟨x',rfl⟩:=svs_len1 hs
  have h1:SV G x' (a.eval x):=hs.2 0 _ _ rfl rfl
  cases x'<;>simp only[POp.ev] at hv<;>first | (cases hv;done) | skip
  simp only[Option.some.injEq] at hv;subst hv
  obtain⟨k',hs'⟩:=hs'
  refine⟨.string (Utf8.encode _),by simp[execOp,ho,convert,run_und hs',run_und hd,h1.int_inv,Conv.intToString]<;>rfl,?_⟩
  exact VR.str _
 |bytesStr s d x e hs' he hd =>
  obtain⟨x',rfl⟩:=svs_len1 hs
  have h1:SV G x' (a.eval x):=hs.2 0 _ _ rfl rfl
  cases x'<;>simp only[POp.ev] at hv<;>first | (cases hv;done) | skip
  ·simp only[Option.some.injEq] at hv;subst hv
   have e1:a.eval x=.slice none 0 0:=by generalize a.eval x=r at h1;cases h1;rfl
   refine⟨.string .empty,?_,VR.str []⟩
   simp[execOp,ho,convert,run_und hs',run_und hd,run_und he,e1,Conv.bytesToString]
  ·rename_i row len
   split at hv
   ·rename_i hl
    cases e2:byteVals row with
    |none=>rw[e2] at hv;cases hv
    |some t =>
     rw[e2] at hv
     simp only[Option.map_some,Option.some.injEq] at hv;subst hv
     generalize hrx:a.eval x=rx at h1
     cases h1 with
     |sl0 a0 =>
      have ht0:t=[]:=by simpa[byteVals] using e2.symm
      subst ht0
      refine⟨.string .empty,?_,VR.str []⟩
      simp[execOp,ho,convert,run_und hs',run_und hd,run_und he,hrx,Conv.bytesToString,loadCells]
      rfl
     |sl _ _ b o' cap g g1 g2 g3 =>
      have hcs:VRs G row (List.ofFn fun i:Fin row.length=>g i):=VRs.of_forall (by simp) (by
       intro i v r e3 e4
       obtain⟨hi,rfl⟩:=List.getElem?_eq_some_iff.1 e3
       simp[hi] at e4
       rw[←e4]
       exact (g2 i hi).ofPl)
      have hld:(loadCells ⟨b,o',none⟩ len).run X.P w=.ok ⟨List.ofFn fun i:Fin row.length=>g i⟩ w:=by
       have:=run_loadCells (P:=X.P) (w:=w) ⟨b,o',none⟩ len g (by
        intro j hj
        rw[add_none]
        exact h.wf.imm _ _ _ (g1 j (by omega)))
       rw[this]
       congr 1
       apply Array.ext'
       simp only[Array.toList_map,Array.toList_range]
       apply List.ext_getElem
       ·simp[hl]
       ·intro i h1 h2;simp
      refine⟨.string ⟨⟨t⟩⟩,?_,VR.str t⟩
      simp only[execOp,ho,convert,run_und hs',run_und hd,run_und he,hrx,Conv.bytesToString,Sem.run_bind,Result.andThen_ok,hld]
      rw[←Array.forIn_toList,byteVals_sound hcs e2 X.P _ (fun n acc=>rfl)]
      simp
   ·cases hv
 |mkIface t x d ht hi =>
  obtain⟨x',rfl⟩:=svs_len1 hs
  have h1:SV G x' (a.eval x):=hs.2 0 _ _ rfl rfl
  simp only[POp.ev] at hv
  split at hv
  ·cases hv
  ·rename_i hL
   simp only[Option.some.injEq] at hv;subst hv
   refine⟨.iface t (a.eval x),?_,VR.iface _ _ _ (h1.vr (by simpa using hL))⟩
   cases d<;>first | (exact absurd rfl (hi _)) | simp[execOp,ho,Instr.makeInterface,run_und ht]
 |mkFunc f first cap =>
  simp only[POp.ev] at hv
  split at hv
  ·rename_i hall
   simp only[Option.some.injEq] at hv;subst hv
   refine⟨.func (.func f) (first.map a.eval) (cap.map a.eval),by simp[execOp,ho,Instr.makeFunc,pure],?_⟩
   have hvr:VRs G vs ((first.toList++cap.toList).map a.eval):=by
    refine VRs.of_forall hs.1 fun i v r e1 e2=>(hs.2 i v r e1 e2).vr ?_
    have:=List.all_eq_true.1 hall v (List.mem_of_getElem? e1)
    simpa using this
   have e1:(first.map a.eval)=⟨((first.toList++cap.toList).map a.eval).take first.size⟩:=by
    apply Array.ext';simp
   have e2:(cap.map a.eval)=⟨((first.toList++cap.toList).map a.eval).drop first.size⟩:=by
    apply Array.ext';simp
   rw[e1,e2]
   exact VR.func _ _ _ _ _ (hvr.take _).1 (hvr.drop _).1 (hvr.take _).2 (hvr.drop _).2
  ·cases hv
 |fieldAddr t x i fields fd d n bytes agg ht hf hsz h0 =>
  obtain⟨x',rfl⟩:=svs_len1 hs
  have h1:SV G x' (a.eval x):=hs.2 0 _ _ rfl rfl
  simp only[POp.ev] at hv
  have:∃(row:List IV) (k o:Nat),x'=.pI row o∨x'=.pB k o∨x'=.pL k o:=by
   cases x'<;>first | (cases hv;done) | exact⟨_,0,_,.inl rfl⟩ | exact⟨[],_,_,.inr (.inl rfl)⟩ | exact⟨[],_,_,.inr (.inr rfl)⟩
  obtain⟨b,o',e,hq⟩:=h1.addr (n:=fd.offset) (q:=v) (by cases x'<;>simp at hv ⊢<;>exact hv.symm) this
  refine⟨_,?_,hq⟩
  simp[execOp,ho,Instr.fieldAt,run_und ht,hf,e,Instr.sureAddr,fieldPlace,run_size hsz,h0,add_none]
 |field t x i fields fd d n bytes agg ht hf hsz =>
  obtain⟨x',rfl⟩:=svs_len1 hs
  have h1:SV G x' (a.eval x):=hs.2 0 _ _ rfl rfl
  cases x'<;>simp only[POp.ev] at hv<;>first | (cases hv;done) | skip
  obtain⟨rc,e,hc⟩:=VR.agg_inv h1
  obtain⟨r,h2,h3⟩:=part_sound hsz hc hv w
  exact⟨r,by simp[execOp,ho,Instr.field,run_und ht,hf,e,asAgg,h2],SV.of h3⟩
 |indexA t x i len e d n bytes agg ht hsz =>
  obtain⟨x',i',rfl⟩:=svs_len2 hs
  have h1:SV G x' (a.eval x):=hs.2 0 _ _ rfl rfl
  have h2:SV G i' (a.eval i):=hs.2 1 _ _ rfl rfl
  cases i'<;>simp only[POp.ev] at hv<;>first | (cases hv;done) | skip
  rename_i k q
  split at hv
  ·rename_i hr
   have:∃(row:List IV) (k o:Nat),x'=.pI row o∨x'=.pB k o∨x'=.pL k o:=by
    cases x'<;>first | (cases hv;done) | exact⟨_,0,_,.inl rfl⟩ | exact⟨[],_,_,.inr (.inl rfl)⟩ | exact⟨[],_,_,.inr (.inr rfl)⟩
   obtain⟨b,o',e',hq⟩:=h1.addr (n:=q.toNat*n) (q:=v) (by cases x'<;>simp at hv ⊢<;>exact hv.symm) this
   refine⟨_,?_,hq⟩
   simp[execOp,ho,Instr.indexAt,run_und ht,h2.int_inv,run_asIntOf,e',Instr.sureAddr,hr,run_size hsz,add_none]
  ·cases hv
 |indexS t x i e d n bytes agg ht hsz =>
  obtain⟨x',i',rfl⟩:=svs_len2 hs
  have h1:SV G x' (a.eval x):=hs.2 0 _ _ rfl rfl
  have h2:SV G i' (a.eval i):=hs.2 1 _ _ rfl rfl
  cases i'<;>simp only[POp.ev] at hv<;>first | (cases hv;done) | skip
  rename_i k q
  cases x'<;>simp only at hv<;>first | (cases hv;done) | skip
  ·split at hv
   ·rename_i row len hr
    simp only[Option.some.injEq] at hv;subst hv
    generalize hrx:a.eval x=rx at h1
    cases h1 with
    |sl0 a0=>omega
    |sl _ _ b o' cap g g1 g2 g3 =>
     refine⟨.pointer (some ⟨b,o'+q.toNat*n,none⟩),?_,VR.pI _ _ _ _ g g1 g2⟩
     simp[execOp,ho,Instr.indexAt,run_und ht,h2.int_inv,run_asIntOf,hrx,hr,run_size hsz,add_none]
   ·cases hv
  ·split at hv
   ·rename_i id off len sz hr
    obtain⟨hr1,hr2,rfl⟩:=hr
    simp only[Option.some.injEq] at hv;subst hv
    generalize hrx:a.eval x=rx at h1
    cases h1 with
    |sB _ _ _ _ b cap hb hc =>
     refine⟨.pointer (some ⟨b,off+q.toNat*sz,none⟩),?_,VR.pB _ _ _ hb⟩
     simp[execOp,ho,Instr.indexAt,run_und ht,h2.int_inv,run_asIntOf,hrx,hr1,hr2,run_size hsz,add_none]
   ·cases hv
 |idxArr t x i len e d n bytes agg ht hsz =>
  obtain⟨x',i',rfl⟩:=svs_len2 hs
  have h1:SV G x' (a.eval x):=hs.2 0 _ _ rfl rfl
  have h2:SV G i' (a.eval i):=hs.2 1 _ _ rfl rfl
  cases x'<;>cases i'<;>simp only[POp.ev] at hv<;>first | (cases hv;done) | skip
  obtain⟨rc,e,hc⟩:=VR.agg_inv h1
  split at hv
  ·rename_i hr
   obtain⟨r,h3,h4⟩:=part_sound hsz hc hv w
   exact⟨r,by simp[execOp,ho,Instr.index,run_und ht,e,h2.int_inv,run_asIntOf,hr,run_size hsz,h3],SV.of h4⟩
  ·cases hv
 |idxStr t x i ht =>
  obtain⟨x',i',rfl⟩:=svs_len2 hs
  have h1:SV G x' (a.eval x):=hs.2 0 _ _ rfl rfl
  have h2:SV G i' (a.eval i):=hs.2 1 _ _ rfl rfl
  cases x'<;>cases i'<;>simp only[POp.ev] at hv<;>first | (cases hv;done) | skip
  rename_i s k n
  split at hv
  ·rename_i hn
   cases e:s[n.toNat]? with
   |none=>rw[e] at hv;cases hv
   |some b =>
    rw[e] at hv
    simp only[Option.map_some,Option.some.injEq] at hv;subst hv
    refine⟨.int .u8 b.toNat,?_,VR.int _ _⟩
    have:(ByteArray.mk ⟨s⟩)[n.toNat]?=some b:=by rw[ByteArray.get?_mk,e]
    simp[execOp,ho,Instr.index,run_und ht,h1.str_inv,h2.int_inv,run_asIntOf,hn,this]
  ·cases hv
 |sliceS t x lo hi e d n bytes agg ht hsz =>
  obtain⟨x',us,rfl,h1,h2⟩:=hs.cons_map
  simp only[POp.ev] at hv
  cases e1:loHi lo.isSome hi.isSome us with
  |none=>rw[e1] at hv;cases x'<;>cases hv
  |some lh =>
   obtain⟨l,u⟩:=lh
   rw[e1] at hv
   obtain⟨k1,k2⟩:=loHi_ok h2 e1
   generalize hrx:a.eval x=rx at h1
   have hx:∀r,(Instr.slice t rx (lo.map a.eval) (hi.map a.eval) none).run X.P w=.ok r w→(execOp a.eval o).run X.P w=.ok (.value r) w:=by
    intro r hr
    simp[execOp,ho,Instr.sliceAt,run_und ht,hrx,hr]
   cases x'<;>simp only at hv<;>first | (cases hv;done) | skip
   ·cases e2:bnds 0 l u with
    |none=>rw[e2] at hv;cases hv
    |some lh =>
     rw[e2] at hv
     simp only[Option.bind_some,Option.some.injEq] at hv;subst hv
     cases h1
     obtain⟨l0,h0⟩:=lh
     obtain⟨hb,hb1,hb2⟩:=bounds_ok (P:=X.P) true (Nat.le_refl 0) k1 k2 e2 w
     have:l0=0:=by omega
     have:h0=0:=by omega
     subst_vars
     exact⟨_,hx (.slice none 0 0) (by simp[Instr.slice,run_und ht,hb,run_size hsz]),VR.nilSlice⟩
   ·rename_i row len
    cases e2:bnds len l u with
    |none=>rw[e2] at hv;cases hv
    |some lh =>
     rw[e2] at hv
     simp only[Option.bind_some,Option.some.injEq] at hv;subst hv
     obtain⟨l0,h0⟩:=lh
     have hvr:=h1
     cases h1 with
     |sl0 a0 =>
      obtain⟨hb,hb1,hb2⟩:=bounds_ok (P:=X.P) true (Nat.le_refl 0) k1 k2 e2 w
      have:l0=0:=by omega
      have:h0=0:=by omega
      subst_vars
      exact⟨_,hx (.slice (some a0) 0 0) (by simp[Instr.slice,run_und ht,hb,run_size hsz]),by simpa using SV.of (VR.sl0 a0)⟩
     |sl _ _ b o' cap g g1 g2 g3 =>
      obtain⟨hb,hb1,hb2⟩:=bounds_ok (P:=X.P) true g3 k1 k2 e2 w
      refine⟨_,hx _ ?_,SV.of (VR.sl_sub (sz:=n) (l:=l0) (h:=h0) hvr rfl hb1 hb2)⟩
      simp[Instr.slice,run_und ht,hb,run_size hsz]
   ·rename_i id off len sz
    split at hv
    ·rename_i e3
     subst e3
     cases e2:bnds len l u with
     |none=>rw[e2] at hv;cases hv
     |some lh =>
      rw[e2] at hv
      obtain⟨l0,h0⟩:=lh
      simp only[Option.bind_some] at hv
      cases h1 with
      |sB _ _ _ _ b cap g1 g3 =>
       obtain⟨hb,hb1,hb2⟩:=bounds_ok (P:=X.P) true g3 k1 k2 e2 w
       have hr:=hx (.slice (if cap=l0 then some ⟨b,off,none⟩ else some (Addr.add ⟨b,off,none⟩ (l0*sz))) (h0-l0) (cap-l0)) (by
        simp[Instr.slice,run_und ht,hb,run_size hsz])
       refine⟨_,hr,?_⟩
       split at hv
       ·rename_i e4
        simp only[Option.some.injEq] at hv;subst hv
        have:h0-l0=0:=by omega
        rw[this]
        split
        ·exact VR.sl _ _ _ _ _ (fun _=>undef) (fun i hi=>by simp at hi) (fun i hi=>by simp at hi) (Nat.zero_le _)
        ·rw[add_none];exact VR.sl _ _ _ _ _ (fun _=>undef) (fun i hi=>by simp at hi) (fun i hi=>by simp at hi) (Nat.zero_le _)
       ·rename_i e4
        simp only[Option.some.injEq] at hv;subst hv
        rw[if_neg (by omega),add_none]
        exact VR.sB _ _ _ _ _ _ g1 (by omega)
    ·cases hv
 |sliceStr t x lo hi ht =>
  obtain⟨x',us,rfl,h1,h2⟩:=hs.cons_map
  cases x'<;>simp only[POp.ev] at hv<;>first | (cases hv;done) | skip
  rename_i s
  cases e1:loHi lo.isSome hi.isSome us with
  |none=>rw[e1] at hv;cases hv
  |some lh =>
   obtain⟨l,u⟩:=lh
   rw[e1] at hv
   obtain⟨k1,k2⟩:=loHi_ok h2 e1
   simp only at hv
   cases e2:bnds s.length l u with
   |none=>rw[e2] at hv;cases hv
   |some lh =>
    rw[e2] at hv
    simp only[Option.bind_some,Option.some.injEq] at hv;subst hv
    obtain⟨l0,h0⟩:=lh
    obtain⟨hb,hb1,hb2⟩:=bounds_ok (P:=X.P) false (Nat.le_refl s.length) k1 k2 e2 w
    refine⟨.string ⟨⟨(s.drop l0).take (h0-l0)⟩⟩,?_,VR.str _⟩
    have e3:(ByteArray.mk ⟨s⟩).extract l0 h0=⟨⟨(s.drop l0).take (h0-l0)⟩⟩:=by
     apply ByteArray.ext
     apply Array.ext'
     simp[List.extract_eq_take_drop]
    have e4:(ByteArray.mk ⟨s⟩).size=s.length:=rfl
    simp[execOp,ho,Instr.sliceAt,Instr.slice,run_und ht,h1.str_inv,e4,hb,e3]
 |sliceA t x lo hi len e d n bytes agg ht hsz =>
  obtain⟨x',us,rfl,h1,h2⟩:=hs.cons_map
  simp only[POp.ev] at hv
  cases e1:loHi lo.isSome hi.isSome us with
  |none=>rw[e1] at hv;cases x'<;>cases hv
  |some lh =>
   obtain⟨l,u⟩:=lh
   rw[e1] at hv
   obtain⟨k1,k2⟩:=loHi_ok h2 e1
   generalize hrx:a.eval x=rx at h1
   cases x'<;>simp only at hv<;>first | (cases hv;done) | skip
   ·rename_i row o'
    cases e2:bnds len l u with
    |none=>rw[e2] at hv;cases hv
    |some lh =>
     rw[e2] at hv
     obtain⟨l0,h0⟩:=lh
     simp only[Option.bind_some] at hv
     obtain⟨hb,hb1,hb2⟩:=bounds_ok (P:=X.P) false (Nat.le_refl len) k1 k2 e2 w
     cases e3:cut row (o'+l0*n) ((h0-l0)*n) with
     |none=>rw[e3] at hv;cases hv
     |some r =>
      rw[e3] at hv
      simp only[Option.map_some,Option.some.injEq] at hv;subst hv
      unfold cut at e3
      split at e3
      ·rename_i hle
       simp only[Option.some.injEq] at e3;subst e3
       cases h1 with
       |pI _ _ b o g g1 g2 =>
        refine⟨.slice (some (if len=l0 then ⟨b,o+o',none⟩ else Addr.add ⟨b,o+o',none⟩ (l0*n))) (h0-l0) (len-l0),?_,?_⟩
        ·simp[execOp,ho,Instr.sliceAt,run_und ht,hrx,Instr.sureAddr,hb,run_size hsz]
        ·split
         ·rename_i e4
          have:h0-l0=0:=by omega
          rw[this]
          refine VR.sl _ _ _ _ _ g ?_ ?_ (Nat.zero_le _)
          ·intro i hi;simp at hi
          ·intro i hi;simp at hi
         ·rw[add_none]
          refine VR.sl _ _ _ _ _ (fun i=>g (o'+l0*n+i)) ?_ ?_ (by omega)
          ·intro i hi
           simp at hi
           rw[show o+o'+l0*n+i=o+(o'+l0*n+i) by omega];exact g1 _ (by omega)
          ·intro i hi
           simp at hi
           simp only[List.getElem_take,List.getElem_drop]
           exact g2 _ (by omega)
      ·cases e3
   ·rename_i id o'
    cases e2:bnds len l u with
    |none=>rw[e2] at hv;cases hv
    |some lh =>
     rw[e2] at hv
     obtain⟨l0,h0⟩:=lh
     simp only[Option.bind_some] at hv
     obtain⟨hb,hb1,hb2⟩:=bounds_ok (P:=X.P) false (Nat.le_refl len) k1 k2 e2 w
     cases h1 with
     |pB _ _ b g1 =>
      refine⟨.slice (some (if len=l0 then ⟨b,o',none⟩ else Addr.add ⟨b,o',none⟩ (l0*n))) (h0-l0) (len-l0),?_,?_⟩
      ·simp[execOp,ho,Instr.sliceAt,run_und ht,hrx,Instr.sureAddr,hb,run_size hsz]
      ·split at hv
       ·rename_i e4
        simp only[Option.some.injEq] at hv;subst hv
        have:h0-l0=0:=by omega
        rw[this]
        split
        ·exact VR.sl _ _ _ _ _ (fun _=>undef) (fun i hi=>by simp at hi) (fun i hi=>by simp at hi) (Nat.zero_le _)
        ·rw[add_none];exact VR.sl _ _ _ _ _ (fun _=>undef) (fun i hi=>by simp at hi) (fun i hi=>by simp at hi) (Nat.zero_le _)
       ·rename_i e4
        simp only[Option.some.injEq] at hv;subst hv
        rw[if_neg (by omega),add_none]
        exact VR.sB _ _ _ _ _ _ g1 (by omega)
 |extract x i =>
  obtain⟨x',rfl⟩:=svs_len1 hs
  have h1:SV G x' (a.eval x):=hs.2 0 _ _ rfl rfl
  cases x'<;>simp only[POp.ev] at hv<;>first | (cases hv;done) | skip
  obtain⟨rc,e,hc⟩:=VR.tup_inv h1
  obtain⟨r,h2,h3⟩:=hc.get hv
  exact⟨r,by simp[execOp,ho,Instr.extract,e,h2],SV.of h3⟩
 |lenStr x t ht =>
  obtain⟨x',rfl⟩:=svs_len1 hs
  have h1:SV G x' (a.eval x):=hs.2 0 _ _ rfl rfl
  cases x'<;>simp only[POp.ev] at hv<;>first | (cases hv;done) | skip
  simp only[Option.some.injEq] at hv;subst hv
  refine keyc .len _ (Builtin.len_ #[t] o.type #[a.eval x]) ho rfl (fun cs=>by simp[builtin]) ⟨_,?_,VR.int _ _⟩
  rw[h1.str_inv];simp[Builtin.len_,run_und ht,goInt]<;>rfl
 |lenSlice x t e ht =>
  obtain⟨x',rfl⟩:=svs_len1 hs
  have h1:SV G x' (a.eval x):=hs.2 0 _ _ rfl rfl
  simp only[POp.ev] at hv
  refine keyc .len _ (Builtin.len_ #[t] o.type #[a.eval x]) ho rfl (fun cs=>by simp[builtin]) ?_
  cases x'<;>simp only[Option.some.injEq] at hv<;>first | (cases hv;done) | skip
  all_goals
   subst hv
   generalize a.eval x=r at h1
   cases h1<;>exact⟨_,by simp[Builtin.len_,run_und ht,goInt, *]<;>rfl,VR.int _ _⟩
 |lenArr x t n e ht =>
  obtain⟨x',rfl⟩:=svs_len1 hs
  simp only[POp.ev,Option.some.injEq] at hv;subst hv
  exact keyc .len _ (Builtin.len_ #[t] o.type #[a.eval x]) ho rfl (fun cs=>by simp[builtin]) ⟨_,by simp[Builtin.len_,run_und ht,goInt]<;>rfl,VR.int _ _⟩
 |lenPtr x t ar n e ht hta =>
  obtain⟨x',rfl⟩:=svs_len1 hs
  simp only[POp.ev,Option.some.injEq] at hv;subst hv
  exact keyc .len _ (Builtin.len_ #[t] o.type #[a.eval x]) ho rfl (fun cs=>by simp[builtin]) ⟨_,by simp[Builtin.len_,run_und ht,run_und hta,goInt]<;>rfl,VR.int _ _⟩
 |min xs ts =>
  cases vs with
  |nil=>simp only[POp.ev] at hv;cases hv
  |cons x' vs' =>
   simp only[POp.ev] at hv
   obtain⟨r,rs,e,h1,h2⟩:=hs.cons_inv
   obtain⟨rz,h3,h4⟩:=fold2_sound min2I Builtin.min2 (fun hx hy h w=>min2_sound (P:=X.P) hx hy h w) vs' rs x' v r h2 h1 hv w
   refine keyc .min ⟨.builtin .min,xs,ts⟩ (Builtin.min_ ts o.type (xs.map a.eval)) ho rfl (fun cs=>by simp[builtin]) ⟨rz,?_,h4⟩
   have:(xs.map a.eval).toList=r::rs:=by simpa using e
   simp only[Builtin.min_,this];exact h3
 |max xs ts =>
  cases vs with
  |nil=>simp only[POp.ev] at hv;cases hv
  |cons x' vs' =>
   simp only[POp.ev] at hv
   obtain⟨r,rs,e,h1,h2⟩:=hs.cons_inv
   obtain⟨rz,h3,h4⟩:=fold2_sound max2I Builtin.max2 (fun hx hy h w=>max2_sound (P:=X.P) hx hy h w) vs' rs x' v r h2 h1 hv w
   refine keyc .max ⟨.builtin .max,xs,ts⟩ (Builtin.max_ ts o.type (xs.map a.eval)) ho rfl (fun cs=>by simp[builtin]) ⟨rz,?_,h4⟩
   have:(xs.map a.eval).toList=r::rs:=by simpa using e
   simp only[Builtin.max_,this];exact h3
end Go.Idl
namespace Go.Idl
open Classical
variable {X:Ctx}{N:Nat}{G:Gh}{st:St}{a:Act}{w:World}
theorem ORel.mono {G G':Gh}(hi:∀b o v,G.imm b o=some v→G'.imm b o=some v) (hb:∀id b,G.bx id=some b→G'.bx id=some b) {o:BObj}{ro:Obj}(h:ORel X G o ro):ORel X G' o ro:=by
 have m:∀{v r},VR G v r→VR G' v r:=fun h=>h.mono hi hb
 have ms:∀{v r},VRs G v r→VRs G' v r:=fun h=>⟨h.1,fun i h1 h2=>m (h.2 i h1 h2)⟩
 cases h with
 |cells cs cp rc t f h hf hcp=>exact .cells cs cp rc t f (ms h) hf hcp
 |iter s p=>exact .iter s p
 |map es res c hk hv=>exact .map es res c (ms hk) (ms hv)
 |loop busy fn site env j L r hr hp hlt h1 h2 he hc hs hj=>exact .loop busy fn site env j L r hr hp hlt h1 h2 (fun i v c h=>⟨m (he i v c h).1,(he i v c h).2⟩) hc hs hj
theorem VRs.mono {G G':Gh}(hi:∀b o v,G.imm b o=some v→G'.imm b o=some v) (hb:∀id b,G.bx id=some b→G'.bx id=some b) {vs:List IV}{rs:List Value}(h:VRs G vs rs):VRs G' vs rs :=
 ⟨h.1,fun i h1 h2=>(h.2 i h1 h2).mono hi hb⟩
def Beyond (r:Value) (sz b j:Nat):Prop:=∃o sp len cap,r=.slice (some ⟨b,o,sp⟩) len cap∧o+len*sz≤j∧j<o+cap*sz
structure Free (G:Gh) (w:World) (G':Gh) (w':World) (r:Value) (sz:Nat):Prop where
 spot:∀b o sp len cap,r=.slice (some ⟨b,o,sp⟩) len cap→sp=none
 mine:∀b j,Beyond r sz b j→w.heap.size≤b∨(G.ow b j).isSome
 ow:∀b j,Beyond r sz b j→G'.ow b j=none
 imm:∀b j,Beyond r sz b j→G'.imm b j=none
 box:∀b j,Beyond r sz b j→¬G'.boxed b
 cell:∀b j,Beyond r sz b j→(w'.cell? ⟨b,j,none⟩).isSome∧w'.frozen? ⟨b,j,none⟩=false
noncomputable def Gh.take (G:Gh) (r:Value) (sz:Nat) (l:Loc):Gh:={ G with ow:=fun b j=>if Beyond r sz b j then some l else G.ow b j }
theorem OwnAt.take {G0:Gh}{w0:World}{r:Value}{sz:Nat}(hf:Free G0 w0 G w r sz) {l:Loc}{l':Loc}{sz':Nat}{r':Value}(h:OwnAt G l' sz' r'):OwnAt (G.take r sz l) l' sz' r':=by
 intro b o sp len cap e
 obtain⟨h1,h2⟩:=h b o sp len cap e
 refine⟨h1,fun j hj1 hj2=>?_⟩
 have:=h2 j hj1 hj2
 simp only[Gh.take]
 rw[if_neg]
 ·exact this
 ·intro hb
  rw[hf.ow b j hb] at this
  cases this
theorem WF.take {G0:Gh}{w0:World}{r:Value}{sz:Nat}(hf:Free G0 w0 G w r sz) (l:Loc) (h:WF X G w):WF X (G.take r sz l) w where
 imm:=h.imm
 inj:=h.inj
 linj:=h.linj
 disj:=h.disj
 boxlt:=h.boxlt
 boximm:=h.boximm
 boxow b o hb:=by
  simp only[Gh.take]
  rw[if_neg (fun q=>hf.box b o q hb)]
  exact h.boxow b o hb
 owimm b o l' e:=by
  simp only[Gh.take] at e ⊢
  split at e
  ·rename_i q;exact hf.imm b o q
  ·exact h.owimm b o l' e
 owcell b o l' e:=by
  simp only[Gh.take] at e ⊢
  split at e
  ·rename_i q;exact hf.cell b o q
  ·exact h.owcell b o l' e
 old:=h.old
 glob g row hr:=VR.mono (G:=G) (G':=G.take r sz l) (fun _ _ _ h=>h) (fun _ _ h=>h) (h.glob g row hr)
theorem MR.take {G0:Gh}{w0:World}{r:Value}{sz:Nat}(hf:Free G0 w0 G w r sz) (l:Loc) {m:IM}(h:MR X G m w):MR X (G.take r sz l) m w where
 bx id hn:=by
  obtain⟨b,ro,h1,h2,h3⟩:=h.bx id hn
  exact⟨b,ro,h1,h2,ORel.mono (G:=G) (G':=G.take r sz l) (fun _ _ _ h=>h) (fun _ _ h=>h) h3⟩
 own id cs cp off sz' e1 e2 b r' e3 e4:=(h.own id cs cp off sz' e1 e2 b r' e3 e4).take hf
 dom:=h.dom
 hid:=h.hid
theorem SV.take {l:Loc}{r:Value}{sz:Nat}{v:IV}{r':Value}(h:SV G v r'):SV (G.take r sz l) v r':=SV.mono (G:=G) (G':=G.take r sz l) (fun _ _ _ h=>h) (fun _ _ h=>h) (fun _ _ h=>h) h
theorem Step.take {G0:Gh}{w0:World}{r:Value}{sz:Nat}(hf:Free G0 w0 G w r sz) (l:Loc) (h:Step G0 w0 G w):Step G0 w0 (G.take r sz l) w where
 os:=h.os
 tape:=h.tape
 output:=h.output
 size:=h.size
 imm:=h.imm
 bx:=h.bx
 other:=h.other
 cells:=h.cells
 immNew:=h.immNew
 owNew b o l' hb e:=by
  simp only[Gh.take] at e
  split at e
  ·rename_i q
   rcases hf.mine b o q with h1 | h1
   ·omega
   ·exact h1
  ·exact h.owNew b o l' hb e
 boxNew:=h.boxNew
 hid:=h.hid
 old:=h.old
 bxNew:=h.bxNew
 loop:=h.loop
theorem mem_lkSlot {d:Nat}{lk:List (Nat×Loc)}{i:Nat}{l:Loc}(h:(i,l)∈lkSlot d lk):(i,l)∈lk∧i≠d∧l ≠ .slot d:=by
 induction lk with
 |nil=>simp[lkSlot] at h
 |cons p lk ih =>
  obtain⟨i',l'⟩:=p
  simp only[lkSlot] at h
  split at h
  ·exact⟨List.mem_cons_of_mem _ (ih h).1,(ih h).2⟩
  ·rename_i hd
   split at h
   ·rename_i j
    split at h
    ·exact⟨List.mem_cons_of_mem _ (ih h).1,(ih h).2⟩
    ·rename_i hj
     rcases List.mem_cons.1 h with e | h
     ·cases e;exact⟨List.mem_cons_self,hd,fun e=>hj (by cases e;rfl)⟩
     ·exact⟨List.mem_cons_of_mem _ (ih h).1,(ih h).2⟩
   ·rename_i hj
    rcases List.mem_cons.1 h with e | h
    ·cases e;exact⟨List.mem_cons_self,hd,fun e=>hj d (by rw[e])⟩
    ·exact⟨List.mem_cons_of_mem _ (ih h).1,(ih h).2⟩
theorem put_getD_same {a:Act}{d:Nat}{r:Value}(h:d<a.tmps.size):(a.put (some d) r).tmps.getD d undef=r:=by
 simp[Act.put,h]
theorem put_getD_ne {a:Act}{d i:Nat}{r:Value}(h:i≠d):(a.put (some d) r).tmps.getD i undef=a.tmps.getD i undef:=by
 simp only[Act.put,Array.getD_eq_getD_getElem?]
 rw[Array.getElem?_setIfInBounds_ne (Ne.symm h)]
@[simp] theorem put_size {a:Act}{d:Option Nat}{r:Value}:(a.put d r).tmps.size=a.tmps.size:=by
 cases d<;>simp[Act.put]
@[simp] theorem put_defers {a:Act}{d:Option Nat}{r:Value}:(a.put d r).defers=a.defers:=by
 cases d<;>rfl
structure OR (X:Ctx) (N:Nat) (G:Gh) (w:World) (st':St) (a:Act) (v:IV) (c:Cap) (r:Value) (G':Gh) (w':World):Prop where
 sr:SR X N G' st' a w'
 sv:SV G' v r
 step:Step G w G' w'
 free:∀sz,c=.own sz→Free G w G' w' r sz
theorem put_plain (h:SR X N G st a w) {d:Nat}(hd:d<N) {v:IV}{r:Value}(hv:SV G v r) {st':St}(hp:st.put (some d) v .any=some st') :
  SR X N G st' (a.put (some d) r) w∧st'.m=st.m∧st'.lb=st.lb∧(∀i l,(i,l)∈st'.lk→(i,l)∈st.lk):=by
 simp only[St.put,frc_eq,frcV_eq,Option.some.injEq] at hp
 subst hp
 refine⟨?_,rfl,rfl,fun i l hm=>(mem_lkSlot hm).1⟩
 have hs:=h.size
 refine { size:=by simp[hs],env:=?_,own:=?_,lk:=?_,lb:=h.lb,lbown:=h.lbown,lbdom:=h.lbdom,mr:=h.mr,wf:=h.wf }
 ·intro i v' c' e
  rw[look_cons] at e
  split at e
  ·rename_i e'
   subst e'
   simp only[Option.some.injEq,Prod.mk.injEq] at e
   obtain⟨rfl,rfl⟩:=e
   exact⟨by rw[put_getD_same (by omega)];exact hv,hd⟩
  ·rename_i e'
   rw[put_getD_ne (Ne.symm e')]
   exact h.env i v' c' e
 ·intro i v' sz e
  rw[look_cons] at e
  split at e
  ·simp at e
  ·rename_i e'
   rw[put_getD_ne (Ne.symm e')]
   exact h.own i v' sz e
 ·intro i l hm
  obtain⟨h1,h2,h3⟩:=mem_lkSlot hm
  have h4:=h.lk i l h1
  cases l with
  |slot j =>
   have hj:j≠d:=fun e=>h3 (by rw[e])
   simp only[LinkOK]
   rw[put_getD_ne h2,put_getD_ne hj];exact h4
  |L k off=>simp only[LinkOK];rw[put_getD_ne h2];exact h4
  |B k off=>simp only[LinkOK];rw[put_getD_ne h2];exact h4
  |marked=>simp only[LinkOK];rw[put_getD_ne h2];exact h4
theorem SR.take (h:SR X N G st a w) {G0:Gh}{w0:World}{r:Value}{sz:Nat}(hf:Free G0 w0 G w r sz) (l:Loc):SR X N (G.take r sz l) st a w where
 size:=h.size
 env i v c e:=⟨(h.env i v c e).1.take,(h.env i v c e).2⟩
 own i v sz' e:=(h.own i v sz' e).take hf
 lk i l' hm:=by
  have:=h.lk i l' hm
  cases l'<;>exact this
 lb k hn:=by
  obtain⟨b,ro,h1,h2,h3⟩:=h.lb k hn
  exact⟨b,ro,h1,h2,ORel.mono (G:=G) (G':=G.take r sz l) (fun _ _ _ h=>h) (fun _ _ h=>h) h3⟩
 lbown k cs cp off sz' e1 e2 b r' e3 e4:=(h.lbown k cs cp off sz' e1 e2 b r' e3 e4).take hf
 lbdom:=h.lbdom
 mr:=h.mr.take hf l
 wf:=h.wf.take hf l
theorem put_sound {st1:St}{v:IV}{c:Cap}{r:Value}{G1:Gh}{w1:World}(h:OR X N G w st1 a v c r G1 w1) {d:Option Nat}(hd:∀i,d=some i→i<N) {st2:St}(hp:st1.put d v c=some st2) :
  ∃G2,SR X N G2 st2 (a.put d r) w1∧Step G w G2 w1∧G2.lb=G1.lb∧G2.bx=G1.bx∧(∀b o x,G1.imm b o=some x→G2.imm b o=some x):=by
 cases d with
 |none =>
  simp only[St.put,Option.some.injEq] at hp
  subst hp
  exact⟨G1,h.sr,h.step,rfl,rfl,fun _ _ _ h=>h⟩
 |some d =>
  cases c with
  |any =>
   obtain⟨h1,_⟩:=put_plain h.sr (hd d rfl) h.sv hp
   exact⟨G1,h1,h.step,rfl,rfl,fun _ _ _ h=>h⟩
  |own sz =>
   have hf:=h.free sz rfl
   have hN:=hd d rfl
   have hp':=hp
   simp only[St.put,frc_eq,frcV_eq,Option.some.injEq] at hp'
   obtain⟨h1,_⟩:=put_plain (st':={ st1 with env:=(d,v,.any)::st1.env,lk:=lkSlot d st1.lk }) h.sr hN h.sv (by simp[St.put,frc_eq,frcV_eq])
   refine⟨G1.take r sz (.slot d),?_,h.step.take hf _,rfl,rfl,fun _ _ _ h=>h⟩
   have h2:=h1.take hf (.slot d)
   subst hp'
   refine { size:=h2.size,env:=?_,own:=?_,lk:=h2.lk,lb:=h2.lb,lbown:=h2.lbown,lbdom:=h2.lbdom,mr:=h2.mr,wf:=h2.wf }
   ·intro i v' c' e
    rw[look_cons] at e
    split at e
    ·rename_i e'
     simp only[Option.some.injEq,Prod.mk.injEq] at e
     obtain⟨rfl,rfl⟩:=e
     exact h2.env i v .any (by rw[look_cons,if_pos e'])
    ·rename_i e'
     exact h2.env i v' c' (by rw[look_cons,if_neg e'];exact e)
   ·intro i v' sz' e
    rw[look_cons] at e
    split at e
    ·rename_i e'
     subst e'
     simp only[Option.some.injEq,Prod.mk.injEq,Cap.own.injEq] at e
     obtain⟨rfl,rfl⟩:=e
     rw[put_getD_same (by rw[h.sr.size];exact hN)]
     intro b o sp len cap e2
     refine⟨hf.spot b o sp len cap e2,fun j hj1 hj2=>?_⟩
     simp only[Gh.take]
     rw[if_pos ⟨o,sp,len,cap,e2,hj1,hj2⟩]
    ·rename_i e'
     exact h2.own i v' sz' (by rw[look_cons,if_neg e'];exact e)
end Go.Idl
