/- This text proves parts of the soundness of an interpreter of the code with values in place of memory (its definitions, relations and plain operations); it has no conditions. -/
import Derived.CallsIn
import GoSem.Step
import Derived.RangeFuncLeaves
import Derived.RangeFuncSeq
import Derived.LoopNIn
import Derived.Laws.AppendOwn
import Derived.Laws.Rows
import Derived.Laws.Strings
import Derived.Laws.StructEq
import Derived.ChangeKeysEq
set_option linter.unusedSimpArgs false
set_option linter.unusedVariables false
namespace Go.Idl
inductive IV where
 |undef
 |bool (b:Bool)
 |int (k:IntKind) (n:Int)
 |float (k:FloatKind) (bits:Nat)
 |um (k:FloatKind) (re im:Nat)
 |str (s:List UInt8)
 |gE
 |pI (row:List IV) (off:Nat)
 |pB (id off:Nat)
 |pL (k off:Nat)
 |aa
 |sl (row:List IV) (len:Nat)
 |sB (id off len sz:Nat)
 |gX
 |map (id:Nat)
 |nilFunc
 |func (f:FuncId) (first cap:List IV)
 |nT (id:Nat)
 |nilIface
 |iface (t:TypeId) (v:IV)
 |agg (cs:List IV)
 |db (cs:List IV)
 deriving Inhabited
inductive Loc where
 |slot (i:Nat)
 |L (k off:Nat)
 |B (id off:Nat)
 |marked
 deriving DecidableEq,Inhabited
inductive cV where
 |any
 |own (sz:Nat)
 deriving DecidableEq,Inhabited
inductive aS where
 |none
 |cells (cs:List IV) (cp:List cV)
 |iter (s:List UInt8) (pos:Nat)
 |map (es:List (IV×IV))
 |loop (busy:Nat) (fn site:Nat) (tm:List (Nat×IV×cV)) (jump:Nat)
 deriving Inhabited
structure IM where
 bs:List aS
 kS:Nat
 deriving Inhabited
abbrev Env:=List (Nat×IV×cV)
structure St where
 env:Env
 lk:List (Nat×Loc)
 lb:List (Nat×aS)
 m:IM
 deriving Inhabited
inductive Arg where
 |t (i:Nat)
 |c (v:IV)
 deriving Inhabited
def look:Env→Nat→Option (IV×cV)
 |[],_=>none
 |(j,v,c)::r,i=>match Nat.beq j i with
  |true=>some (v,c)
  |false=>look r i
def dy (e:Env) (i:Nat):IV :=
 match look e i with
 |some (v,_)=>v
 |none=>.undef
def c8 (e:Env) (i:Nat):cV :=
 match look e i with
 |some (_,c)=>c
 |none=>.any
def Arg.rd (e:Env):Arg→Option IV
 |.t i=>match look e i with
  |some (v,_)=>some v
  |none=>some .undef
 |.c v=>some v
def de (e:Env):List Arg→Option (List IV)
 |[]=>some []
 |a::r=>match a.rd e,de e r with
  |some v,some vs=>some (v::vs)
  |_,_=>none
def zd {α:Type}:List α→Option (List α)
 |[]=>some []
 |x::r=>match zd r with
  |some r=>some (x::r)
  |none=>none
def Rl:IV→Option IV
 |.int k (.ofNat 0)=>some (.int k (.ofNat 0))
 |.int k (.ofNat (n+1))=>some (.int k (.ofNat (n+1)))
 |.int k (.negSucc 0)=>some (.int k (.negSucc 0))
 |.int k (.negSucc (n+1))=>some (.int k (.negSucc (n+1)))
 |.bool true=>some (.bool true)
 |.bool false=>some (.bool false)
 |v=>some v
def aQ:List (Nat×aS)→Nat→aS
 |[],_=>.none
 |(j,o)::r,k=>match Nat.beq j k with
  |true=>o
  |false=>aQ r k
inductive nW where
 |bool | int | str | ptr | slice | func | map | float
 deriving DecidableEq,Inhabited
inductive dW where
 |pick
 |build (zero:List IV) (parts:List (Nat×Nat))
 |nilCheck
 |bin (op:BinOp)
 |eq (neg:Bool) (d:nW)
 |lu (neg:Bool) (plan:List (Nat×nW))
 |un (op:UnOp)
 |dg (k:IntKind)
 |pr
 |oC
 |gT
 |pE (t:TypeId)
 |mQ (f:FuncId) (nfirst:Nat)
 |fieldAddr (off:Nat)
 |field (agg:Bool) (off n:Nat)
 |jW (len sz:Nat)
 |aw (sz:Nat)
 |ji (len:Nat) (agg:Bool) (n:Nat)
 |cm
 |mS (sz:Nat) (lo hi:Bool)
 |bU (lo hi:Bool)
 |tr (len sz:Nat) (lo hi:Bool)
 |extract (i:Nat)
 |dF | ay | qB (n:Nat)
 |min | max
 deriving Inhabited
def IV.cells:IV→List IV
 |.agg cs=>cs
 |v=>[v]
def over (cs:List IV) (off:Nat) (vs:List IV):List IV:=cs.take off++vs++cs.drop (off+vs.length)
def cut (cs:List IV) (off n:Nat):Option (List IV):=if off+n≤cs.length then some ((cs.drop off).take n) else none
def IV.jO:IV→Bool
 |.pL ..=>true
 |_=>false
def IV.nd:IV→Bool
 |.undef=>true
 |_=>false
def dT:List IV→List (Nat×Nat)→List IV→Option (List IV)
 |cs,(off,n)::ps,v::vs =>
  let c:=v.cells
  if !v.nd && !v.jO&&c.length=n&&off+n≤cs.length then dT (over cs off c) ps vs else none
 |cs,[],[]=>some cs
 |_,_,_=>none
def fe (agg:Bool) (cs:List IV) (off n:Nat):Option IV :=
 if agg then (cut cs off n).map .agg else cs[off]?
def lx:nW→IV→IV→Option Bool
 |.bool,.bool a,.bool b=>some (a==b)
 |.int,.int k a,.int k' b=>if k=k' then some (a==b) else none
 |.str,.str a,.str b=>some (a==b)
 |.float,.float k a,.float k' b=>if k=k' then some (k.format.order a b==some .eq) else none
 |.ptr,.gE,.gE=>some true
 |.ptr,.gE,.pI .. | .ptr,.gE,.pB .. | .ptr,.gE,.pL ..=>some false
 |.ptr,.pI ..,.gE | .ptr,.pB ..,.gE | .ptr,.pL ..,.gE=>some false
 |.slice,.aa,.aa=>some true
 |.slice,.aa,.sl .. | .slice,.aa,.sB ..=>some false
 |.slice,.sl ..,.aa | .slice,.sB ..,.aa=>some false
 |.func,.nilFunc,.nilFunc=>some true
 |.func,.nilFunc,.func .. | .func,.func ..,.nilFunc=>some false
 |.map,.gX,.gX=>some true
 |.map,.gX,.map .. | .map,.map ..,.gX=>some false
 |_,_,_=>none
def iQ:List (Nat×nW)→List IV→List IV→Option Bool
 |[],_,_=>some true
 |(o,d)::ps,xs,ys =>
  match xs[o]?,ys[o]? with
  |some x,some y=>match lx d x y with
   |some true=>iQ ps xs ys
   |some false=>some false
   |none=>none
  |_,_=>none
def aT:List UInt8→List UInt8→Bool
 |_,[]=>false
 |[],_::_=>true
 |a::x,b::y=>a.toNat<b.toNat||(a.toNat==b.toNat&&aT x y)
def aH:Nat:=1099511627776
def ix (op:BinOp) (k:IntKind) (a b:Int):Option IV :=
 match op with
 |.add=>some (.int k (k.wrap (a+b)))
 |.sub=>some (.int k (k.wrap (a-b)))
 |.mul=>some (.int k (k.wrap (a*b)))
 |.quo=>if b=0 then none else some (.int k (k.wrap (a.tdiv b)))
 |.rem=>if b=0 then none else some (.int k (a.tmod b))
 |.and=>some (.int k (k.wrap (BitVec.ofInt k.bits a &&& BitVec.ofInt k.bits b).toNat))
 |.or=>some (.int k (k.wrap (BitVec.ofInt k.bits a ||| BitVec.ofInt k.bits b).toNat))
 |.xor=>some (.int k (k.wrap (BitVec.ofInt k.bits a ^^^ BitVec.ofInt k.bits b).toNat))
 |.andNot=>some (.int k (k.wrap (BitVec.ofInt k.bits a &&& ~~~ BitVec.ofInt k.bits b).toNat))
 |.eql=>some (.bool (a==b))
 |.neq=>some (.bool (a != b))
 |.lss=>some (.bool (a<b))
 |.leq=>some (.bool (a≤b))
 |.gtr=>some (.bool (a>b))
 |.geq=>some (.bool (a≥b))
 |_=>none
def dN (op:BinOp) (a b:List UInt8):Option IV :=
 match op with
 |.add=>if a.length+b.length≤aH then some (.str (a++b)) else none
 |.eql=>some (.bool (a==b))
 |.neq=>some (.bool (!(a==b)))
 |.lss=>some (.bool (aT a b))
 |.leq=>some (.bool (aT a b||a==b))
 |.gtr=>some (.bool (!(aT a b||a==b)))
 |.geq=>some (.bool (!aT a b))
 |_=>none
def E3 (op:BinOp) (k:IntKind) (a b:Int):Option IV :=
 if b<0 then none else
 match op with
 |.shl=>some (.int k (k.wrap (a*2^(Nat.min b.toNat k.bits))))
 |.shr=>some (.int k (a.fdiv (2^(Nat.min b.toNat k.bits))))
 |_=>none
def c7:BinOp→Bool
 |.shl | .shr=>true
 |_=>false
def eX (op:BinOp):IV→IV→Option IV
 |.int k a,.int k' b=>if c7 op then E3 op k a b else if k=k' then ix op k a b else none
 |.str a,.str b=>dN op a b
 |_,_=>none
def iA:UnOp→IV→Option IV
 |.neg,.int k n=>some (.int k (k.wrap (0-n)))
 |.xor,.int k n=>some (.int k (k.wrap (BitVec.ofInt k.bits (if k.signed then -1 else k.max) ^^^ BitVec.ofInt k.bits n).toNat))
 |.not,.bool b=>some (.bool !b)
 |_,_=>none
def bo:List IV→Option (List UInt8)
 |[]=>some []
 |.int .u8 n::r=>(bo r).map (UInt8.ofNat n.toNat :: ·)
 |_::_=>none
def mx (d y:Nat):Option IV→Option Nat
 |none=>some d
 |some (.int _ i)=>if 0≤i∧i≤y then some i.toNat else none
 |_=>none
def fO (len:Nat) (lo hi:Option IV):Option (Nat×Nat) :=
 match mx len len hi with
 |none=>none
 |some h=>match mx 0 h lo with
  |none=>none
  |some l=>some (l,h)
def f9 (lo hi:Bool) (args:List IV):Option (Option IV×Option IV) :=
 match lo,hi,args with
 |false,false,[]=>some (none,none)
 |true,false,[l]=>some (some l,none)
 |false,true,[h]=>some (none,some h)
 |true,true,[l,h]=>some (some l,some h)
 |_,_,_=>none
def fm:IV→IV→Option IV
 |.int k x,.int k' y=>if k=k' then some (.int k (if y<x then y else x)) else none
 |_,_=>none
def fl:IV→IV→Option IV
 |.int k x,.int k' y=>if k=k' then some (.int k (if x<y then y else x)) else none
 |_,_=>none
def eZ (f:IV→IV→Option IV):IV→List IV→Option IV
 |x,[]=>some x
 |x,y::r=>match f x y with | some z=>eZ f z r | none=>none
def dW.ev:dW→List IV→Option IV
 |.pick,[.bool c,a,b]=>some (if c then a else b)
 |.build zero parts,args=>(dT zero parts args).map .agg
 |.nilCheck,[v]=>match v with
  |.pI .. | .pB .. | .pL .. | .func .. | .nT ..=>some v
  |_=>none
 |.bin op,[x,y]=>eX op x y
 |.eq neg d,[x,y]=>(lx d x y).map fun b=>.bool (if neg then !b else b)
 |.lu neg plan,[.agg xs,.agg ys]=>(iQ plan xs ys).map fun b=>.bool (if neg then !b else b)
 |.un op,[x]=>iA op x
 |.dg k,[.int _ n]=>some (.int k (k.wrap n))
 |.pr,[.str s]=>some (.str s)
 |.oC,[.int _ n]=>some (.str (Utf8.encode n).data.toList)
 |.gT,[.aa]=>some (.str [])
 |.gT,[.sl row len]=>if row.length=len then (bo row).map .str else none
 |.pE t,[v]=>if v.jO then none else some (.iface t v)
 |.mQ f nf,args=>if args.all (fun v=>!v.jO) then some (.func f (args.take nf) (args.drop nf)) else none
 |.fieldAddr off,[p]=>match p with
  |.pI row o=>some (.pI row (o+off))
  |.pB id o=>some (.pB id (o+off))
  |.pL k o=>some (.pL k (o+off))
  |_=>none
 |.field agg off n,[.agg cs]=>fe agg cs off n
 |.jW len sz,[p,.int _ i] =>
  if 0≤i∧i<len then match p with
   |.pI row o=>some (.pI row (o+i.toNat*sz))
   |.pB id o=>some (.pB id (o+i.toNat*sz))
   |.pL k o=>some (.pL k (o+i.toNat*sz))
   |_=>none
  else none
 |.aw sz,[s,.int _ i]=>match s with
  |.sl row len=>if 0≤i∧i<len then some (.pI row (i.toNat*sz)) else none
  |.sB id off len sz'=>if 0≤i∧i<len∧sz'=sz then some (.pB id (off+i.toNat*sz)) else none
  |_=>none
 |.ji len agg n,[.agg cs,.int _ i]=>if 0≤i∧i<len then fe agg cs (i.toNat*n) n else none
 |.cm,[.str s,.int _ i]=>if 0≤i then (s[i.toNat]?).map fun b=>.int .u8 b.toNat else none
 |.mS sz lo hi,s::args =>
  match s,f9 lo hi args with
  |.sl row len,some (l,h)=>(fO len l h).bind fun (l,h)=>some (.sl ((row.drop (l*sz)).take ((h-l)*sz)) (h-l))
  |.sB id off len sz',some (l,h)=>if sz'=sz then (fO len l h).bind fun (l,h)=>if l=h then some (.sl [] 0) else some (.sB id (off+l*sz) (h-l) sz) else none
  |.aa,some (l,h)=>(fO 0 l h).bind fun _=>some .aa
  |_,_=>none
 |.bU lo hi,.str s::args =>
  match f9 lo hi args with
  |some (l,h)=>(fO s.length l h).bind fun (l,h)=>some (.str ((s.drop l).take (h-l)))
  |none=>none
 |.tr len sz lo hi,p::args =>
  match p,f9 lo hi args with
  |.pI row o,some (l,h)=>(fO len l h).bind fun (l,h)=>(cut row (o+l*sz) ((h-l)*sz)).map fun r=>.sl r (h-l)
  |.pB id o,some (l,h)=>(fO len l h).bind fun (l,h)=>if l=h then some (.sl [] 0) else some (.sB id (o+l*sz) (h-l) sz)
  |_,_=>none
 |.extract i,[.db vs]=>vs[i]?
 |.dF,[.str s]=>some (.int .i64 s.length)
 |.ay,[v]=>match v with
  |.aa=>some (.int .i64 0)
  |.sl _ n=>some (.int .i64 n)
  |.sB _ _ n _=>some (.int .i64 n)
  |_=>none
 |.qB n,[_]=>some (.int .i64 n)
 |.min,x::r=>eZ fm x r
 |.max,x::r=>eZ fl x r
 |_,_=>none
def IV.plain:IV→Bool
 |.bool _ | .int .. | .float .. | .um .. | .str _ | .gE | .pI .. | .aa | .sl .. | .gX | .nilFunc | .nilIface=>true
 |.func _ [] []=>true
 |_=>false
def IV.refs:IV→Option Nat
 |.pB id _ | .sB id _ _ _ | .map id | .nT id=>some (id+1)
 |.func _ fs cs=>go (fs++cs)
 |v=>if v.plain then some 0 else none
where
 go:List IV→Option Nat
  |[]=>some 0
  |v::r=>match v with
   |.pB id _ | .sB id _ _ _ | .map id | .nT id=>(go r).map (Nat.max (id+1))
   |v=>if v.plain then go r else none
def aC:List IV→Option Nat
 |[]=>some 0
 |v::r=>match v.refs,aC r with
  |some a,some b=>some (Nat.max a b)
  |_,_=>none
def IV.ak:IV→Option Nat
 |.agg cs=>aC cs
 |.db vs=>go vs
 |v=>v.refs
where
 go:List IV→Option Nat
  |[]=>some 0
  |v::r=>match (match v with | .agg cs=>aC cs | v=>v.refs),go r with
   |some a,some b=>some (Nat.max a b)
   |_,_=>none
def IM.get (m:IM) (id:Nat):aS:=m.bs.getD id .none
def IM.put (m:IM) (id:Nat) (o:aS):Option IM:=match zd (m.bs.set id o) with
 |some bs=>some { m with bs }
 |none=>none
def IM.push (m:IM) (o:aS):Option IM:=match zd (m.bs++[o]) with
 |some bs=>some { m with bs }
 |none=>none
def IM.size (m:IM):Nat:=m.bs.length
def bu (lb:List (Nat×aS)) (m:IM) (p:IV) (n:Nat):Option (List IV) :=
 match p with
 |.pI row off=>cut row off n
 |.pL k off=>match aQ lb k with | .cells cs _=>cut cs off n | _=>none
 |.pB id off=>match m.get id with | .cells cs _=>cut cs off n | _=>none
 |_=>none
def dU (lb:List (Nat×aS)) (m:IM) (agg:Bool) (n:Nat) (p:IV):Option IV :=
 match agg with
 |true=>match bu lb m p n with
  |some cs=>match zd cs with
   |some cs=>some (.agg cs)
   |none=>none
  |none=>none
 |false=>match bu lb m p 1 with
  |some [v]=>some v
  |_=>none
def aR (d:Nat):List (Nat×Loc)→List (Nat×Loc)
 |[]=>[]
 |(i,l)::r=>if i=d then aR d r else match l with
  |.slot j=>if j=d then aR d r else (i,l)::aR d r
  |_=>(i,l)::aR d r
def kU (k:Nat):List (Nat×Loc)→List (Nat×Loc)
 |[]=>[]
 |(i,l)::r=>match l with
  |.L k' _=>if k'=k then kU k r else (i,l)::kU k r
  |_=>(i,l)::kU k r
def je (f:Nat→Bool):List (Nat×Loc)→List (Nat×Loc)
 |[]=>[]
 |(i,l)::r=>match l with
  |.B id _=>if f id then je f r else (i,l)::je f r
  |.marked=>je f r
  |_=>(i,l)::je f r
def kT (f:Nat→Bool):List (Nat×Loc)→List (Nat×Loc)
 |[]=>[]
 |(i,l)::r=>match l with
  |.B id _=>if f id then kT f r else (i,l)::kT f r
  |_=>(i,l)::kT f r
def St.put (st:St) (d:Option Nat) (v:IV) (c:cV):Option St :=
 match d with
 |none=>some st
 |some d=>match zd (aR d st.lk),Rl v with
  |some lk,some v=>some { st with env:=(d,v,c)::st.env,lk }
  |_,_=>none
def bh (cs:List cV) (off n:Nat) (c:cV):List cV:=cs.take off++List.replicate n c++cs.drop (off+n)
def bK (st:St) (n:Nat) (p:IV) (vs:List IV) (c:cV):Option St :=
 if vs.length≠n then none else
 match p with
 |.pL k off=>match aQ st.lb k,aC vs with
  |.cells cs cp,some _ =>
   if off+n≤cs.length then match zd (over cs off vs),zd (bh cp off n c),zd (kU k st.lk) with
    |some cs,some cp,some lk=>some { st with lb:=(k,.cells cs cp)::st.lb,lk }
    |_,_,_=>none
   else none
  |_,_=>none
 |.pB id off=>match st.m.get id,aC vs with
  |.cells cs cp,some r =>
   if off+n≤cs.length then match zd (over cs off vs),zd (bh cp off n c),zd (kT (· == id) st.lk) with
    |some cs,some cp,some lk=>match st.m.put id (.cells cs cp) with
     |some m=>some { st with m:={ m with kS:=if r≤id then m.kS else m.kS+1 },lk }
     |none=>none
    |_,_,_=>none
   else none
  |_,_=>none
 |_=>none
def St.drop (st:St):Loc→Option St
 |.slot i=>match look st.env i,zd (aR i st.lk) with
  |some (v,_),some lk=>some { st with env:=(i,v,.any)::st.env,lk }
  |_,_=>some st
 |.marked=>some st
 |.L k off=>match aQ st.lb k with
  |.cells cs cp=>match zd (cp.set off .any) with
   |some cp=>some { st with lb:=(k,.cells cs cp)::st.lb }
   |none=>none
  |_=>some st
 |.B id off=>match st.m.get id with
  |.cells cs cp=>match zd (cp.set off .any) with
   |some cp=>match st.m.put id (.cells cs cp) with
    |some m=>some { st with m }
    |none=>none
   |none=>none
  |_=>some st
def St.dn (st:St):Loc→cV
 |.slot i=>c8 st.env i
 |.marked=>.any
 |.L k off=>match aQ st.lb k with | .cells _ cp=>cp.getD off .any | _=>.any
 |.B id off=>match st.m.get id with | .cells _ cp=>cp.getD off .any | _=>.any
def aU:List (Nat×Loc)→Nat→Option Loc
 |[],_=>none
 |(j,l)::r,i=>match Nat.beq j i with
  |true=>some l
  |false=>aU r i
def St.owner (st:St) (a:Arg) (sz:Nat):Option Loc :=
 match a with
 |.t i=>match c8 st.env i with
  |.own sz'=>if sz'=sz then some (.slot i) else none
  |.any=>match aU st.lk i with
   |some l=>if st.dn l=.own sz then some l else none
   |none=>none
 |.c _=>none
def ah:List UInt8→List IV
 |[]=>[]
 |b::r=>.int .u8 b.toNat::ah r
def dG (lb:List (Nat×aS)) (m:IM) (sz:Nat):IV→Option (List IV×Nat)
 |.aa=>some ([],0)
 |.sl row n=>some (row,n)
 |.str s=>if sz=1 then some (ah s,s.length) else none
 |.sB id off n sz'=>if sz'=sz then match bu lb m (.pB id off) (n*sz) with
   |some cs=>some (cs,n)
   |none=>none
  else none
 |_=>none
def rJ:nW→IV→IV→Option Bool
 |.int,.int k a,.int k' b=>if k=k' then some (a==b) else none
 |.str,.str a,.str b=>some (a==b)
 |.bool,.bool a,.bool b=>some (a==b)
 |_,_,_=>none
def tL (d:nW) (k:IV):List (IV×IV)→Option (Option IV)
 |[]=>some none
 |(x,v)::r=>match rJ d k x with
  |some true=>some (some v)
  |some false=>tL d k r
  |none=>none
def xT (d:nW) (k v:IV):List (IV×IV)→Option (List (IV×IV))
 |[]=>some [(k,v)]
 |(x,y)::r=>match rJ d k x with
  |some true=>some ((k,v)::r)
  |some false=>(xT d k v r).map ((x,y) :: ·)
  |none=>none
inductive Callee where
 |f (f:FuncId)
 |y (id:Nat)
 deriving Inhabited
inductive IK where
 |mv (x:Arg) (xf lk:Bool)
 |p (o:dW) (args:List Arg)
 |same (x:Arg)
 |load (agg:Bool) (n:Nat) (a:Arg) (lk:Bool)
 |store (n:Nat) (a v:Arg) (xf:Bool)
 |bX (k:Nat) (zero:List IV) (cp:List cV)
 |iv (zero:List IV) (cp:List cV)
 |f5 (k:Nat) (n:Nat) (x:Arg)
 |nZ (n:Nat) (x:Arg)
 |buildSlice (sz len:Nat) (zero:List IV) (parts:List (Nat×Nat)) (args:List Arg)
 |fb (x:Arg)
 |me (sz bytes:Nat) (zero:List IV) (len cap:Arg)
 |kO (sz bytes:Nat) (zero:List IV) (len cap:Arg)
 |append (sz bytes:Nat) (s x:Arg)
 |copy (sz:Nat) (d s:Arg)
 |aj (f:FuncId) (args:List Arg) (fk:List Arg)
 |fH (g:Arg) (args:List Arg) (fk:List Arg)
 |mkMap
 |lookup (d:nW) (zero:IV) (ok:Bool) (m k:Arg)
 |jy (d:nW) (m k v:Arg)
 |kt (m:Arg)
 |fa (k:Nat) (x:Arg)
 |ee (a:Arg)
 deriving Inhabited
inductive cW where
 |none
 |dB
 |own (k:Nat)
 |cd (h:Nat)
 |mem
 |slot (j:Nat)
 deriving DecidableEq,Inhabited
structure dh where
 dst:Option Nat
 k:IK
 guard:Option (Nat×Bool):=none
 tag:cW:=.none
 deriving Inhabited
abbrev bW:=Callee→List IV→IM→Option (IV×IM)
def aM (e:Env):List Arg→List Nat
 |[]=>[]
 |.t i::r=>match look e i with
  |some (.pB id _,_)=>id::aM e r
  |_=>aM e r
 |.c _::r=>aM e r
def eJ (m:IM):List Nat→Option IM
 |[]=>some m
 |id::r=>match m.put id .none with
  |some m=>eJ m r
  |none=>none
def cf (m m':IM):List Nat→Option IM
 |[]=>some m'
 |id::r=>match cf m m' r with
  |some m'=>m'.put id (m.get id)
  |none=>none
def dC (call:bW) (st:St) (c:Callee) (args:List IV) (fk:List Arg):Option (IV×cV×St) :=
 match aC (args.flatMap IV.cells),zd (aM st.env fk) with
 |some _,some h=>match eJ st.m h with
  |none=>none
  |some m=>match call c args m with
   |none=>none
   |some (v,m')=>match cf st.m m' h,zd (je (fun i=>!h.contains i) st.lk) with
    |some m',some lk=>some (v,.any,{ st with m:=m',lk })
    |_,_=>none
 |_,_=>none
def dY (zero:List IV):Nat→List IV
 |0=>[]
 |n+1=>zero++dY zero n
def bp:List IV→List cV→List cV
 |v::vs,c::cs=>(match v,c with | .aa,.own s=>.own s | _,_=>.any)::bp vs cs
 |_::vs,[]=>.any::bp vs []
 |[],_=>[]
def ga (st:St) (k:Nat) (o:aS):Option (IV×cV×St) :=
 match aQ st.lb k with
 |.none=>some (.pL k 0,.any,{ st with lb:=(k,o)::st.lb })
 |_=>none
def fK (st:St) (o:aS) (v:IV):Option (IV×cV×St) :=
 match st.m.push o with
 |some m=>some (v,.any,{ st with m })
 |none=>none
def ft (v:IV) (sz:Nat):cV :=
 match v with
 |.sl .. | .aa=>.own sz
 |_=>.any
def IK.run (call:bW) (st:St):IK→Option (IV×cV×St)
 |.mv x xf lk=>match x.rd st.env with
  |none=>none
  |some v=>match x with
   |.c _=>some (v,.any,st)
   |.t i=>match xf with
    |true=>match c8 st.env i with
     |.own sz=>match st.drop (.slot i) with
      |some st=>some (v,.own sz,st)
      |none=>none
     |.any=>some (v,.any,st)
    |false=>some (v,.any,st)
 |.p o args=>match de st.env args with
  |some vs=>match o.ev vs with
   |some v=>some (v,.any,st)
   |none=>none
  |none=>none
 |.same x=>match x.rd st.env,x with
  |some (.sl row len),.t i=>if aU st.lk i=some .marked then match c8 st.env i with
    |.own sz=>match st.drop (.slot i) with
     |some st=>some (.sl row len,.own sz,st)
     |none=>none
    |.any=>some (.sl row len,.any,st)
   else none
  |_,_=>none
 |.load agg n a _=>match a.rd st.env with
  |some pa=>match dU st.lb st.m agg n pa with
   |some v=>some (v,.any,st)
   |none=>none
  |none=>none
 |.store n a x xf=>match a.rd st.env,x.rd st.env with
  |some pa,some v=>match xf,x with
   |true,.t i=>match c8 st.env i with
    |.own sz=>match st.drop (.slot i) with
     |some st=>match bK st n pa v.cells (ft v sz) with
      |some st=>some (.undef,.any,st)
      |none=>none
     |none=>none
    |.any=>match bK st n pa v.cells .any with
     |some st=>some (.undef,.any,st)
     |none=>none
   |_,_=>match bK st n pa v.cells .any with
    |some st=>some (.undef,.any,st)
    |none=>none
  |_,_=>none
 |.bX k zero cp=>ga st k (.cells zero (bp zero cp))
 |.iv zero cp=>fK st (.cells zero (bp zero cp)) (.pB st.m.size 0)
 |.f5 k n x=>match x.rd st.env with
  |some v=>match aC v.cells with
   |some _=>if v.cells.length=n then ga st k (.cells v.cells (bp v.cells [])) else none
   |none=>none
  |none=>none
 |.nZ n x=>match x.rd st.env with
  |some v=>match aC v.cells with
   |some _=>if v.cells.length=n then fK st (.cells v.cells (bp v.cells [])) (.pB st.m.size 0) else none
   |none=>none
  |none=>none
 |.buildSlice sz len zero parts args=>match de st.env args with
  |some vs=>match dT (dY zero len) parts vs with
   |some cs=>if cs.all IV.plain then some (.sl cs len,.own sz,st) else none
   |none=>none
  |none=>none
 |.fb x=>match x.rd st.env with
  |some (.str s)=>if s.length≤aH then some (.sl (ah s) s.length,.own 1,st) else none
  |_=>none
 |.me sz bytes zero len cap=>match len.rd st.env,cap.rd st.env with
  |some (.int .i64 l),some (.int .i64 c)=>if 0≤l∧l≤c∧c*bytes≤aH∧c≤aH then some (.sl (dY zero l.toNat) l.toNat,.own sz,st) else none
  |_,_=>none
 |.kO sz bytes zero len cap=>match len.rd st.env,cap.rd st.env with
  |some (.int .i64 l),some (.int .i64 c)=>if 0≤l∧l≤c∧c*bytes≤aH∧c≤aH then
    fK st (.cells (dY zero c.toNat) (bp (dY zero c.toNat) [])) (.sB st.m.size 0 l.toNat sz) else none
  |_,_=>none
 |.append sz bytes s x=>match x.rd st.env,s.rd st.env with
  |some x,some sv=>match dG st.lb st.m sz x with
   |none=>none
   |some (xs,n) =>
    if xs.all IV.plain&&xs.length==n*sz then
     match sv with
     |.aa=>if n=0 then some (.aa,.own sz,st) else if n*bytes≤aH then some (.sl xs n,.own sz,st) else none
     |.sl row len=>match st.owner s sz with
      |some l=>if (len+n)*bytes≤aH∧row.length=len*sz then match st.drop l with
        |some st=>some (.sl (row++xs) (len+n),.own sz,st)
        |none=>none
       else none
      |none=>if n=0 then some (.sl row len,.any,st) else none
     |_=>none
    else none
  |_,_=>none
 |.copy sz d s=>match d.rd st.env,s.rd st.env with
  |some d,some s=>match d,dG st.lb st.m sz s with
   |.sB id off n _,some (xs,k)=>if xs.length≠k*sz then none else
    match bK st (Nat.min k n*sz) (.pB id off) (xs.take (Nat.min k n*sz)) .any with
    |some st=>some (.int .i64 (Nat.min k n:Nat),.any,st)
    |none=>none
   |.aa,some (xs,k)=>if xs.length≠k*sz then none else some (.int .i64 0,.any,st)
   |_,_=>none
  |_,_=>none
 |.aj f args fk=>match de st.env args with
  |some vs=>dC call st (.f f) vs fk
  |none=>none
 |.fH g args fk=>match de st.env args with
  |some vs=>match g.rd st.env with
   |some (.func f fs cs)=>dC call st (.f f) (fs++vs++cs) fk
   |some (.nT id)=>dC call st (.y id) vs fk
   |_=>none
  |none=>none
 |.mkMap=>fK st (.map []) (.map st.m.size)
 |.lookup d zero ok m k=>match m.rd st.env,k.rd st.env with
  |some .gX,some _=>some (if ok then .db [zero,.bool false] else zero,.any,st)
  |some (.map id),some k=>match st.m.get id with
   |.map es=>match tL d k es with
    |some (some v)=>some (if ok then .db [v,.bool true] else v,.any,st)
    |some none=>some (if ok then .db [zero,.bool false] else zero,.any,st)
    |none=>none
   |_=>none
  |_,_=>none
 |.jy d m k v=>match m.rd st.env,k.rd st.env,v.rd st.env with
  |some (.map id),some k,some v=>match st.m.get id with
   |.map es=>match xT d k v es,v.plain&&k.plain with
    |some es,true=>match st.m.put id (.map es) with
     |some m=>some (.undef,.any,{ st with m })
     |none=>none
    |_,_=>none
   |_=>none
  |_,_,_=>none
 |.kt m=>match m.rd st.env with
  |some .gX=>some (.int .i64 0,.any,st)
  |some (.map id)=>match st.m.get id with
   |.map es=>some (.int .i64 es.length,.any,st)
   |_=>none
  |_=>none
 |.fa k x=>match x.rd st.env with
  |some (.str s)=>ga st k (.iter s 0)
  |_=>none
 |.ee a=>match a.rd st.env with
  |some (.pL k 0)=>match aQ st.lb k with
   |.iter s pos =>
    if pos<s.length then
     let r:=Utf8.decode ⟨⟨s⟩⟩ pos
     some (.db [.bool true,.int .i64 pos,.int .i32 r.1],.any,{ st with lb:=(k,.iter s (pos+r.2))::st.lb })
    else some (.db [.bool false],.any,st)
   |_=>none
  |_=>none
def IK.link (env:Env):IK→Option Loc
 |.mv (.t i) false true=>some (.slot i)
 |.fb _=>some .marked
 |.buildSlice 1 _ _ _ _=>some .marked
 |.load false _ a true=>match a.rd env with
  |some (.pL k off)=>some (.L k off)
  |some (.pB id off)=>some (.B id off)
  |_=>none
 |_=>none
def bq (e:Env) (a:Arg):cW→Bool
 |.none=>true
 |.dB=>match a.rd e with | some (.pI ..)=>true | _=>false
 |.own k=>match a.rd e with | some (.pL k' _)=>Nat.beq k' k | _=>false
 |.mem=>match a.rd e with | some (.pL ..)=>false | _=>true
 |.cd h=>match a.rd e,look e h with | some (.pB id _),some (.pB id' _,_)=>Nat.beq id id' | _,_=>false
 |.slot _=>false
def cW.gC:cW→Loc→Bool
 |.slot j,.slot i=>Nat.beq i j
 |.own k,.L k' _=>Nat.beq k' k
 |.mem,.B _ _=>true
 |_,_=>false
def eE (e:Env) (lk:List (Nat×Loc)) (i:Nat) (t:cW):Bool :=
 match look e i with
 |some (.aa,_)=>true
 |some (_,.own _)=>true
 |_=>match aU lk i with
  |some l=>t.gC l
  |none=>false
def IK.ok (k:IK) (t:cW) (st:St):Bool :=
 match t with
 |.none=>true
 |t=>match k with
  |.load _ _ a _=>bq st.env a t
  |.store _ a _ _=>bq st.env a t
  |.ee a=>bq st.env a t
  |.append _ _ (.t i) _=>eE st.env st.lk i t
  |_=>false
def gate (e:Env):Option (Nat×Bool)→Option Bool
 |none=>some true
 |some (j,want)=>match look e j with
  |some (.bool b,_)=>some (b==want)
  |some (.db _,_)=>some false
  |_=>none
def dh.fF (call:bW) (o:dh) (st:St):Option St :=
 match gate st.env o.guard with
 |some true=>match o.k.run call st with
  |some (v,c,st')=>match st'.put o.dst v c with
   |some st'=>match o.dst,o.k.link st.env with
    |some d,some l=>if l=.slot d then some st' else some { st' with lk:=(d,l)::st'.lk }
    |_,_=>some st'
   |none=>none
  |none=>none
 |some false=>st.put o.dst (.db []) .any
 |none=>none
def dh.run (call:bW) (o:dh) (st:St):Option St :=
 match gate st.env o.guard with
 |some true=>match o.k.ok o.tag st with
  |true=>o.fF call st
  |false=>none
 |_=>o.fF call st
def bm (call:bW):List dh→St→Option St
 |[],st=>some st
 |o::r,st=>match o.run call st with
  |some st=>bm call r st
  |none=>none
structure Head where
 AK:List (Nat×Nat)
 eC:List Nat
 Bb:List (Nat×Nat×Nat)
 deriving Inhabited
inductive aq where
 |skip
 |ops (l:List dh)
 |draw (l:List dh) (preds:List Nat)
 |seq (a b:aq)
 |cond (c:Arg) (a b:aq)
 |block (id:Nat) (b:aq)
 |loop (h:Head) (b:aq)
 |kv (g:Arg) (fn site:Nat)
 |exit (id:Nat)
 |ret
 deriving Inhabited
inductive Ex where
 |normal
 |exit (id:Nat)
 |ret
 deriving DecidableEq,Inhabited
def dp (c:cV) (v:IV) (sz:Nat):cV :=
 match c with
 |.own s=>.own s
 |.any=>match v with | .aa=>.own sz | _=>.any
def eN (e:Env) (eC:List Nat):List (Nat×Nat)→Option Env
 |[]=>some []
 |(i,o)::r=>match look e i,eN e eC r with
  |some (v,c),some r =>
   match (match v with | .pL k _=>eC.contains k | _=>true) with
   |true=>match o with
    |0=>some ((i,v,.any)::r)
    |sz+1=>match dp c v sz with
     |.own s=>some ((i,v,.own s)::r)
     |.any=>some ((i,v,.any)::r)
   |false=>none
  |none,some r=>some r
  |_,none=>none
def eR (k:Nat) (cs:List IV):List (Nat×Nat×Nat)→List cV→List cV
 |[],cp=>cp
 |(k',o,sz)::r,cp=>eR k cs r (if k'=k then cp.set o (dp (cp.getD o .any) (cs.getD o .undef) sz) else cp)
def eM (lb:List (Nat×aS)) (own:List (Nat×Nat×Nat)):List Nat→Option (List (Nat×aS))
 |[]=>some []
 |k::r=>match eM lb own r with
  |none=>none
  |some r=>match aQ lb k with
   |.cells cs cp=>match zd (eR k cs own cp) with
    |some cp=>some ((k,.cells cs cp)::r)
    |none=>none
   |.iter s p=>some ((k,.iter s p)::r)
   |.none=>some r
   |_=>none
def St.head (st:St) (h:Head):Option St :=
 match eN st.env h.eC h.AK,eM st.lb h.Bb h.eC with
 |some env,some lb=>some { env,lk:=[],lb,m:=st.m }
 |_,_=>none
abbrev kH:=Head→aq→St→Option (Ex×St)
def N0:Env→Env
 |[]=>[]
 |(i,v,_)::r=>(i,(match v.ak with | some _=>v | none=>.undef),.any)::N0 r
def j8:List (Nat×Loc)→Bool
 |[]=>true
 |(i,_)::r=>match j8 r with
  |true=>!(r.any fun p=>Nat.beq p.1 i)
  |false=>false
def aq.run (call:bW) (loop:kH):aq→St→Option (Ex×St)
 |.skip,st=>some (.normal,st)
 |.ops l,st=>match bm call l st with
  |some st=>some (.normal,st)
  |none=>none
 |.draw l _,st=>match j8 st.lk with
  |true=>match bm call l st with
   |some st=>some (.normal,st)
   |none=>none
  |false=>none
 |.seq a b,st=>match a.run call loop st with
  |some (.normal,st)=>b.run call loop st
  |r=>r
 |.cond c a b,st=>match c.rd st.env with
  |some (.bool true)=>a.run call loop st
  |some (.bool false)=>b.run call loop st
  |_=>none
 |.block id b,st=>match b.run call loop st with
  |some (.exit i,st)=>if i=id then some (.normal,st) else some (.exit i,st)
  |r=>r
 |.loop h b,st=>loop h b st
 |.kv g fn site,st=>match g.rd st.env with
  |some (.func f fs cs)=>match aC (fs++cs),st.m.push (.loop 0 fn site (N0 st.env) 0) with
   |some _,some m0=>match call (.f f) (fs++[.nT st.m.size]++cs) m0 with
    |some (_,m)=>match m.get st.m.size,m.put st.m.size .none with
     |.loop s _ _ _ j,some m=>if 2≤s then none else match j with
      |0=>some (.normal,{ st with m,lk:=[]})
      |1=>some (.ret,{ st with m,lk:=[]})
      |i+2=>some (.exit i,{ st with m,lk:=[]})
     |_,_=>none
    |_=>none
   |_,_=>none
  |_=>none
 |.exit id,st=>some (.exit id,st)
 |.ret,st=>some (.ret,st)
inductive RV where
 |t (i:Nat)
 |cell (i:Nat) (agg:Bool) (n:Nat)
 deriving Inhabited
structure dJ where
 rO:Nat
 yp:List RV
 body:aq
 deriving Inhabited
def cY (st:St):List RV→Option (List IV)
 |[]=>some []
 |.t i::r=>match cY st r with
  |some vs=>some (dy st.env i::vs)
  |none=>none
 |.cell i agg n::r=>match dU st.lb st.m agg n (dy st.env i),cY st r with
  |some v,some vs=>some (v::vs)
  |_,_=>none
def ND (size:Nat) (m:IM):IV→IV
 |.sB id off len sz=>if id<size then .sB id off len sz else
   match m.get id with
   |.cells cs _=>match cut cs off (len*sz) with
    |some r=>if r.all IV.plain then .sl r len else .sB id off len sz
    |none=>.sB id off len sz
   |_=>.sB id off len sz
 |v=>v
def Ej (size:Nat) (m:IM):IV→IV
 |.agg cs=>.agg (cs.map (ND size m))
 |.db vs=>.db (vs.map fun | .agg cs=>.agg (cs.map (ND size m)) | v=>ND size m v)
 |v=>ND size m v
def settle (m m':IM) (v:IV):Option (IV×IM) :=
 match v.ak,zd (m'.bs.take m.size) with
 |some r,some bs =>
  if m'.kS=m.kS then
   if r≤m.size then some (v,{ m' with bs })
   else match (Ej m.size m' v).ak with
    |some r=>if r≤m.size then some (Ej m.size m' v,{ m' with bs }) else some (v,m')
    |none=>none
  else some (v,m')
 |_,_=>none
def dQ:Nat→List IV→Env
 |_,[]=>[]
 |i,v::r=>(i,v,.any)::dQ (i+1) r
def dJ.call (fn:dJ) (call:bW) (loop:kH) (args:List IV) (m:IM):Option (IV×IM) :=
 if args.length≠fn.rO then none else
 match fn.body.run call loop { env:=dQ 0 args,lk:=[],lb:=[],m } with
 |some (e,st)=>if e=.normal∨e=.ret then match cY st fn.yp with
   |some [v]=>settle m st.m v
   |some vs=>settle m st.m (.db vs)
   |none=>none
  else none
 |none=>none
structure mX where
 ps:List Nat
 assign:aq
 body:aq
 deriving Inhabited
inductive FT (α:Type) where
 |nil
 |node (k:Nat) (v:α) (l r:FT α)
def FT.find {α:Type}:FT α→Nat→Option α
 |.nil,_=>none
 |.node k v l r,i=>match Nat.beq i k with
  |true=>some v
  |false=>match Nat.blt i k with
   |true=>l.find i
   |false=>r.find i
def FT.all {α:Type}(p:Nat→α→Bool):FT α→Bool
 |.nil=>true
 |.node k v l r=>p k v&&l.all p&&r.all p
structure MW where
 fns:FuncId→Option dJ
 EW:FuncId→Nat→Option mX
def oQ (e:Env):List Nat→List IV→Env
 |p::ps,v::vs=>oQ ((p,v,.any)::e) ps vs
 |_,_=>e
def w5:Ex→Nat
 |.normal=>0
 |.ret=>1
 |.exit i=>i+2
def mX.call (r:mX) (call:bW) (loop:kH) (id:Nat) (tm:Env) (args:List IV) (m:IM):Option (IV×IM) :=
 if args.length≠r.ps.length then none else
 match r.assign.run call loop { env:=oQ tm r.ps args,lk:=[],lb:=[],m } with
 |some (.normal,st)=>match st.m.get id with
  |.loop 0 f1 s1 t1 j1=>match st.m.put id (.loop 2 f1 s1 t1 j1) with
   |some m1=>match r.body.run call loop { st with m:=m1,lk:=[]} with
    |some (e,st)=>match st.m.get id with
     |.loop 2 f2 s2 t2 _=>match st.m.put id (.loop (if w5 e=0 then 0 else 1) f2 s2 t2 (w5 e)) with
      |some m2=>settle m m2 (.bool (w5 e==0))
      |none=>none
     |_=>none
    |none=>none
   |none=>none
  |_=>none
 |_=>none
abbrev vN:=FuncId→Option (List IV→Option IV)
structure WA where
 call:bW
 loop:kH
def jc (da:MW) (al:vN):Nat→WA
 |0=>⟨fun _ _ _=>none,fun _ _ _=>none⟩
 |k+1 =>
  let s:=jc da al k
  {call:=fun c args m=>match c with
    |.f f=>match al f with
     |some p=>(p args).map (·,m)
     |none=>match da.fns f with
      |some fn=>fn.call s.call s.loop args m
      |none=>none
    |.y id=>match m.get id with
     |.loop _ fn site tm _=>match da.EW fn site with
      |some r=>r.call s.call s.loop id tm args m
      |none=>none
     |_=>none
   loop:=fun h b st=>match st.head h with
    |none=>none
    |some st=>match b.run s.call s.loop st with
     |some (.normal,st)=>s.loop h b st
     |r=>r }
theorem dh.xK {call:bW}{o:dh}{st st':St}(h:o.run call st=some st'):o.fF call st=some st':=by
 unfold dh.run at h;split at h
 ·split at h
  ·exact h
  ·cases h
 ·exact h
end Go.Idl
namespace Go.Idl
structure Gh where
 dB:Nat→Nat→Option Value
 bx:Nat→Option Nat
 lb:Nat→Option Nat
 ow:Nat→Nat→Option Loc
 cd:Nat→Bool
 gj:Nat
def Gh.pl (G:Gh):Gh:=⟨G.dB,fun _=>none,fun _=>none,fun _ _=>none,fun _=>false,0⟩
inductive VR:Gh→IV→Value→Prop
 |undef {G:Gh}(v:Value):VR G .undef v
 |bool {G:Gh}(b:Bool):VR G (.bool b) (.bool b)
 |int {G:Gh}(k:IntKind) (n:Int):VR G (.int k n) (.int k n)
 |float {G:Gh}(k:FloatKind) (n:Nat):VR G (.float k n) (.float k n)
 |um {G:Gh}(k:FloatKind) (a b:Nat):VR G (.um k a b) (.complex k a b)
 |str {G:Gh}(s:List UInt8):VR G (.str s) (.string ⟨⟨s⟩⟩)
 |gE {G:Gh}:VR G .gE (.pointer none)
 |pI {G:Gh}(row:List IV) (off b o:Nat) (g:Nat→Value) (h1:∀i,i<row.length→G.dB b (o+i)=some (g i))
   (h2:∀i (h:i<row.length),VR G.pl row[i] (g i)):VR G (.pI row off) (.pointer (some ⟨b,o+off,none⟩))
 |pB {G:Gh}(id off b:Nat) (h:G.bx id=some b):VR G (.pB id off) (.pointer (some ⟨b,off,none⟩))
 |aa {G:Gh}:VR G .aa (.slice none 0 0)
 |sl {G:Gh}(row:List IV) (len b o cap:Nat) (g:Nat→Value) (h1:∀i,i<row.length→G.dB b (o+i)=some (g i))
   (h2:∀i (h:i<row.length),VR G.pl row[i] (g i)) (h3:len≤cap):VR G (.sl row len) (.slice (some ⟨b,o,none⟩) len cap)
 |zv {G:Gh}(a:Addr):VR G (.sl [] 0) (.slice (some a) 0 0)
 |sB {G:Gh}(id off len sz b cap:Nat) (h:G.bx id=some b) (h3:len≤cap):VR G (.sB id off len sz) (.slice (some ⟨b,off,none⟩) len cap)
 |gX {G:Gh}:VR G .gX (.map none)
 |map {G:Gh}(id b:Nat) (h:G.bx id=some b):VR G (.map id) (.map (some b))
 |nilFunc {G:Gh}:VR G .nilFunc .nilFunc
 |func {G:Gh}(f:FuncId) (fs cs:List IV) (rf rc:List Value) (hf:rf.length=fs.length) (hc:rc.length=cs.length)
   (h1:∀i (h:i<fs.length) (h':i<rf.length),VR G fs[i] rf[i]) (h2:∀i (h:i<cs.length) (h':i<rc.length),VR G cs[i] rc[i]) :
   VR G (.func f fs cs) (.func (.func f) ⟨rf⟩ ⟨rc⟩)
 |nT {G:Gh}(id b:Nat) (h:G.bx id=some b):VR G (.nT id) (.func (.yield b) #[] #[])
 |nilIface {G:Gh}:VR G .nilIface .nilIface
 |iface {G:Gh}(t:TypeId) (v:IV) (rv:Value) (h:VR G v rv):VR G (.iface t v) (.iface t rv)
 |agg {G:Gh}(cs:List IV) (rc:List Value) (hl:rc.length=cs.length) (h:∀i (h:i<cs.length) (h':i<rc.length),VR G cs[i] rc[i]) :
   VR G (.agg cs) (.agg ⟨rc⟩)
 |db {G:Gh}(cs:List IV) (rc:List Value) (hl:rc.length=cs.length) (h:∀i (h:i<cs.length) (h':i<rc.length),VR G cs[i] rc[i]) :
   VR G (.db cs) (.tuple ⟨rc⟩)
def c9 (G:Gh) (vs:List IV) (rs:List Value):Prop:=rs.length=vs.length∧∀i (h:i<vs.length) (h':i<rs.length),VR G vs[i] rs[i]
theorem c9.nil {G:Gh}:c9 G [] []:=⟨rfl,fun i h=>absurd h (by simp)⟩
theorem c9.cons {G:Gh}{v:IV}{r:Value}{vs:List IV}{rs:List Value}(h:VR G v r) (hs:c9 G vs rs):c9 G (v::vs) (r::rs):=by
 refine⟨by simp[hs.1],fun i hi hi'=>?_⟩
 cases i with
 |zero=>exact h
 |succ i=>exact hs.2 i (by simpa using hi) (by simpa using hi')
theorem c9.head {G:Gh}{v:IV}{r:Value}{vs:List IV}{rs:List Value}(h:c9 G (v::vs) (r::rs)):VR G v r:=h.2 0 (by simp) (by simp)
theorem c9.tail {G:Gh}{v:IV}{r:Value}{vs:List IV}{rs:List Value}(h:c9 G (v::vs) (r::rs)):c9 G vs rs :=
 ⟨by simpa using h.1,fun i hi hi'=>h.2 (i+1) (by simpa using hi) (by simpa using hi')⟩
theorem c9.jw {G:Gh}{v:IV}{vs:List IV}{rs:List Value}(h:c9 G (v::vs) rs):∃r rs',rs=r::rs'∧VR G v r∧c9 G vs rs':=by
 cases rs with
 |nil=>have:=h.1;simp at this
 |cons r rs=>exact⟨r,rs,rfl,h.head,h.tail⟩
theorem c9.sG {G:Gh}{rs:List Value}(h:c9 G [] rs):rs=[]:=List.length_eq_zero_iff.1 (by simpa using h.1)
theorem c9.append {G:Gh}{a b:List IV}{x y:List Value}(h:c9 G a x) (k:c9 G b y):c9 G (a++b) (x++y):=by
 induction a generalizing x with
 |nil=>rw[h.sG];simpa using k
 |cons v a ih=>obtain⟨r,rs,rfl,h1,h2⟩:=h.jw;exact c9.cons h1 (ih h2)
theorem c9.get {G:Gh}{vs:List IV}{rs:List Value}(h:c9 G vs rs) {i:Nat}{v:IV}(hv:vs[i]?=some v):∃r,rs[i]?=some r∧VR G v r:=by
 obtain⟨hi,rfl⟩:=List.getElem?_eq_some_iff.1 hv;have hi':i<rs.length:=by rw[h.1];exact hi
 exact⟨rs[i],List.getElem?_eq_getElem hi',h.2 i hi hi'⟩
theorem c9.take {G:Gh}{vs:List IV}{rs:List Value}(h:c9 G vs rs) (n:Nat):c9 G (vs.take n) (rs.take n) :=
 ⟨by simp[h.1],fun i hi hi'=>by simp only[List.getElem_take];exact h.2 _ _ _⟩
theorem c9.drop {G:Gh}{vs:List IV}{rs:List Value}(h:c9 G vs rs) (n:Nat):c9 G (vs.drop n) (rs.drop n) :=
 ⟨by simp[h.1],fun i hi hi'=>by simp only[List.getElem_drop];exact h.2 _ _ _⟩
theorem c9.ku {G:Gh}{vs:List IV}{rs:List Value}(hl:rs.length=vs.length) (h:∀(i:Nat) v r,vs[i]?=some v→rs[i]?=some r→VR G v r):c9 G vs rs :=
 ⟨hl,fun i hi hi'=>h i _ _ (List.getElem?_eq_getElem hi) (List.getElem?_eq_getElem hi')⟩
theorem VR.B1 {G:Gh}{cs:List IV}{rc:List Value}(h:c9 G cs rc):VR G (.agg cs) (.agg ⟨rc⟩):=.agg cs rc h.1 h.2
theorem VR.Dz {G:Gh}{cs:List IV}{rc:List Value}(h:c9 G cs rc):VR G (.db cs) (.tuple ⟨rc⟩):=.db cs rc h.1 h.2
theorem VR.lA {G:Gh}{cs:List IV}{r:Value}(h:VR G (.agg cs) r):∃rc,r=.agg ⟨rc⟩∧c9 G cs rc:=by
 cases h with | agg _ rc hl h=>exact⟨rc,rfl,hl,h⟩
theorem VR.Bs {G:Gh}{cs:List IV}{r:Value}(h:VR G (.db cs) r):∃rc,r=.tuple ⟨rc⟩∧c9 G cs rc:=by
 cases h with | db _ rc hl h=>exact⟨rc,rfl,hl,h⟩
theorem VR.mono {G G':Gh}(hi:∀b o v,G.dB b o=some v→G'.dB b o=some v) (hb:∀id b,G.bx id=some b→G'.bx id=some b) {v:IV}{r:Value}(h:VR G v r):VR G' v r:=by
 induction h generalizing G' with
 |undef v=>exact .undef v
 |bool b=>exact .bool b
 |int k n=>exact .int k n
 |float k n=>exact .float k n
 |um k a b=>exact .um k a b
 |str s=>exact .str s
 |gE=>exact .gE
 |pI row off b o g h1 _ ih=>exact .pI row off b o g (fun i hi'=>hi _ _ _ (h1 i hi')) (fun i hi'=>ih i hi' (G':=G'.pl) hi (fun _ _ e=>by cases e))
 |pB id off b h=>exact .pB id off b (hb _ _ h)
 |aa=>exact .aa
 |sl row len b o cap g h1 _ h3 ih=>exact .sl row len b o cap g (fun i hi'=>hi _ _ _ (h1 i hi')) (fun i hi'=>ih i hi' (G':=G'.pl) hi (fun _ _ e=>by cases e)) h3
 |zv a=>exact .zv a
 |sB id off len sz b cap h h3=>exact .sB id off len sz b cap (hb _ _ h) h3
 |gX=>exact .gX
 |map id b h=>exact .map id b (hb _ _ h)
 |nilFunc=>exact .nilFunc
 |func f fs cs rf rc hf hc _ _ ih1 ih2=>exact .func f fs cs rf rc hf hc (fun i h h'=>ih1 i h h' hi hb) (fun i h h'=>ih2 i h h' hi hb)
 |nT id b h=>exact .nT id b (hb _ _ h)
 |nilIface=>exact .nilIface
 |iface t v rv _ ih=>exact .iface t v rv (ih hi hb)
 |agg cs rc hl _ ih=>exact .agg cs rc hl (fun i h h'=>ih i h h' hi hb)
 |db cs rc hl _ ih=>exact .db cs rc hl (fun i h h'=>ih i h h' hi hb)
theorem VR.EJ {G:Gh}{v:IV}{r:Value}(h:VR G.pl v r):VR G v r:=VR.mono (G:=G.pl) (G':=G) (fun _ _ _ e=>e) (fun _ _ e=>by cases e) h
theorem VR.E7 {G:Gh}{v:IV}{r:Value}(h:VR G v r) (hp:v.plain=true):VR G.pl v r:=by
 cases h with
 |bool b=>exact .bool b
 |int k n=>exact .int k n
 |float k n=>exact .float k n
 |um k a b=>exact .um k a b
 |str s=>exact .str s
 |gE=>exact .gE
 |pI row off b o g h1 h2=>exact .pI row off b o g h1 h2
 |aa=>exact .aa
 |sl row len b o cap g h1 h2 h3=>exact .sl row len b o cap g h1 h2 h3
 |zv a=>exact .zv a
 |gX=>exact .gX
 |nilFunc=>exact .nilFunc
 |func f fs cs rf rc hf hc h1 h2 =>
  cases fs with
  |cons _ _=>simp[IV.plain] at hp
  |nil=>cases cs with
   |cons _ _=>simp[IV.plain] at hp
   |nil=>exact .func f [] [] rf rc hf hc (fun i h=>absurd h (by simp)) (fun i h=>absurd h (by simp))
 |nilIface=>exact .nilIface
 |_=>simp[IV.plain] at hp
theorem c9.E7 {G:Gh}{vs:List IV}{rs:List Value}(h:c9 G vs rs) (hp:vs.all IV.plain=true):c9 G.pl vs rs :=
 ⟨h.1,fun i hi hi'=>(h.2 i hi hi').E7 (List.all_eq_true.1 hp _ (List.getElem_mem hi))⟩
theorem c9.EJ {G:Gh}{vs:List IV}{rs:List Value}(h:c9 G.pl vs rs):c9 G vs rs:=⟨h.1,fun i hi hi'=>(h.2 i hi hi').EJ⟩
def SV (G:Gh) (v:IV) (r:Value):Prop :=
 match v with
 |.pL k off=>∃b,G.lb k=some b∧r=.pointer (some ⟨b,off,none⟩)
 |v=>VR G v r
theorem SV.of {G:Gh}{v:IV}{r:Value}(h:VR G v r):SV G v r:=by
 cases v<;>first | exact h | cases h
theorem SV.vr {G:Gh}{v:IV}{r:Value}(h:SV G v r) (hn:v.jO=false):VR G v r:=by
 cases v<;>first | exact h | simp[IV.jO] at hn
theorem SV.mono {G G':Gh}(hi:∀b o v,G.dB b o=some v→G'.dB b o=some v) (hb:∀id b,G.bx id=some b→G'.bx id=some b)
  (hl:∀k b,G.lb k=some b→G'.lb k=some b) {v:IV}{r:Value}(h:SV G v r):SV G' v r:=by
 cases hv:v.jO with
 |false=>exact SV.of ((h.vr hv).mono hi hb)
 |true =>
  cases v<;>first | (simp[IV.jO] at hv;done) | skip
  obtain⟨b,hb',rfl⟩:=h;exact⟨b,hl _ _ hb',rfl⟩
def Gh.boxed (G:Gh) (b:Nat):Prop:=(∃id,G.bx id=some b)∨(∃k,G.lb k=some b)
def Gh.p8 (G:Gh) (b:Nat):Prop:=(∃id,G.bx id=some b∧G.cd id=false)∨(∃k,G.lb k=some b)
theorem Gh.p8.boxed {G:Gh}{b:Nat}(h:G.p8 b):G.boxed b:=h.imp (fun⟨i,e,_⟩=>⟨i,e⟩) id
theorem VR.Qj {G:Gh}{row:List IV}{len b o n cap:Nat}(h:VR G (.sl row len) (.slice (some ⟨b,o,none⟩) n cap)) :
  ∃g:Nat→Value,(∀i,i<row.length→G.dB b (o+i)=some (g i))∧(∀i (h:i<row.length),VR G.pl row[i] (g i))∧len≤cap∧n=len:=by
 cases h with
 |sl _ _ _ _ _ g h1 h2 h3=>exact⟨g,h1,h2,h3,rfl⟩
 |zv=>exact⟨fun _=>.bool false,fun i h=>by simp at h,fun i h=>by simp at h,Nat.le_refl _,rfl⟩
end Go.Idl
namespace Go.Idl
inductive fg (rows:Nat→Option (List IV)):Operand→Arg→Prop
 |tmp (i:Nat):fg rows (.tmp i) (.t i)
 |const (v:Value) (x:IV) (h:∀G,VR G x v):fg rows (.const v) (.c x)
 |iD (g:Nat) (row:List IV) (h:rows g=some row):fg rows (.global g) (.c (.pI row 0))
 |func (f:FuncId):fg rows (.func f) (.c (.func f [] []))
inductive od (rows:Nat→Option (List IV)):List Operand→List Arg→Prop
 |nil:od rows [] []
 |cons {x:Operand}{a:Arg}{xs:List Operand}{as:List Arg}(h:fg rows x a) (hs:od rows xs as):od rows (x::xs) (a::as)
structure kW (P:Program) (t:TypeId) (d:TypeDesc) (n:Nat) (bytes:Nat) (agg:Bool):Prop where
 Ie:P.underlying t=some d
 info:∃i,P.info? t=some i∧i.size=n∧i.bytes=bytes
 isAgg:agg=(match d with | .struct _ | .array _ _=>true | _=>false)
 one:agg=false→n=1
def jD (P:Program) (t:TypeId) (zero:List IV):Prop :=
 ∃i v,P.info? t=some i∧i.zero=some v∧v.cells.toList.length=zero.length∧i.size=zero.length∧∀G,c9 G zero v.cells.toList
def kq:nW→TypeDesc→Prop
 |.bool,.bool=>True
 |.int,.int _=>True
 |.str,.string=>True
 |.float,.float _=>True
 |.ptr,.pointer _=>True
 |.slice,.slice _=>True
 |.func,.func ..=>True
 |.map,.map ..=>True
 |_,_=>False
def ll (lo hi:Option Operand):List Operand:=lo.toList++hi.toList
inductive yO (P:Program):List Field→List (Nat×nW)→Prop
 |nil:yO P [] []
 |cons {f:Field}{fs:List Field}{d n b ed} {plan:List (Nat×nW)}(hn:f.name ≠ "_") (ht:kW P f.type d n b false) (he:kq ed d) (h:yO P fs plan) :
   yO P (f::fs) ((f.offset,ed)::plan)
inductive PR (P:Program):Op→dW→List Operand→Prop
 |pick (c a b):PR P (.pick c a b) .pick [c,a,b]
 |build (t) (ps:Array (Nat×Operand)) (zero parts n bytes) (fields:Array Field) (sz:Nat→Nat) (ht:kW P t (.struct fields) n bytes true) (hz:jD P t zero)
   (hf:∀j f,fields[j]?=some f→∃d b a,kW P f.type d (sz j) b a)
   (hp:parts=ps.toList.map fun p=>(((fields[p.1]?).map (·.offset)).getD 0,sz p.1)) (hi:∀p∈ps.toList,p.1<fields.size) :
   PR P (.build t ps) (.build zero parts) (ps.toList.map (·.2))
 |Ji (t) (ps:Array (Nat×Operand)) (zero parts n bytes) (len e sz:Nat) (d b a) (ht:kW P t (.array len e) n bytes true) (hz:jD P t zero) (hs:kW P e d sz b a)
   (hp:parts=ps.toList.map fun p=>(p.1*sz,sz)) :
   PR P (.build t ps) (.build zero parts) (ps.toList.map (·.2))
 |nilCheck (x):PR P (.nilCheck x) .nilCheck [x]
 |bin (op t x y u):PR P (.binOp op t x y u) (.bin op) [x,y]
 |eql (t x y u d n bytes agg ed) (ht:kW P t d n bytes agg) (he:kq ed d):PR P (.binOp .eql t x y u) (.eq false ed) [x,y]
 |neq (t x y u d n bytes agg ed) (ht:kW P t d n bytes agg) (he:kq ed d):PR P (.binOp .neq t x y u) (.eq true ed) [x,y]
 |lu (neg:Bool) (op t x y u) (fields:Array Field) (plan) (ho:op=if neg then .neq else .eql) (ht:P.underlying t=some (.struct fields)) (hp:P.stoodInHeld t=false)
   (hg:P.eqGuardType P.depth t=false) (hpl:yO P fields.toList plan):PR P (.binOp op t x y u) (.lu neg plan) [x,y]
 |O3 (neg:Bool) (op t x y u) (len e d b ed plan) (ho:op=if neg then .neq else .eql) (ht:P.underlying t=some (.array len e)) (hs:kW P e d 1 b false) (he:kq ed d)
   (hg:P.eqGuardType P.depth t=false) (hpl:plan=(List.range len).map fun i=>(i,ed)):PR P (.binOp op t x y u) (.lu neg plan) [x,y]
 |un (op t x):PR P (.unOp op t x) (.un op) [x]
 |dg (s d x k) (hs:∃k',P.underlying s=some (.int k')) (hd:P.underlying d=some (.int k)):PR P (.convert s d x) (.dg k) [x]
 |pr (s d x) (hs:P.underlying s=some .string) (hd:P.underlying d=some .string):PR P (.convert s d x) .pr [x]
 |oC (s d x) (hs:∃k',P.underlying s=some (.int k')) (hd:P.underlying d=some .string):PR P (.convert s d x) .oC [x]
 |gT (s d x e) (hs:P.underlying s=some (.slice e)) (he:P.underlying e=some (.int .u8)) (hd:P.underlying d=some .string):PR P (.convert s d x) .gT [x]
 |pE (t x d) (ht:P.underlying t=some d) (hi:∀ms,d ≠ .interface ms):PR P (.makeInterface t x) (.pE t) [x]
 |mQ (f first cap):PR P (.makeFunc (.func f) first cap) (.mQ f first.size) (first.toList++cap.toList)
 |fieldAddr (t x i fields fd d n bytes agg) (ht:P.underlying t=some (.struct fields)) (hf:fields[i]?=some fd) (hs:kW P fd.type d n bytes agg) (h0:n≠0) :
   PR P (.fieldAddr t x i) (.fieldAddr fd.offset) [x]
 |field (t x i fields fd d n bytes agg) (ht:P.underlying t=some (.struct fields)) (hf:fields[i]?=some fd) (hs:kW P fd.type d n bytes agg) :
   PR P (.field t x i) (.field agg fd.offset n) [x]
 |jW (t x i len e d n bytes agg) (ht:P.underlying t=some (.array len e)) (hs:kW P e d n bytes agg):PR P (.indexAddr t x i) (.jW len n) [x,i]
 |aw (t x i e d n bytes agg) (ht:P.underlying t=some (.slice e)) (hs:kW P e d n bytes agg):PR P (.indexAddr t x i) (.aw n) [x,i]
 |ji (t x i len e d n bytes agg) (ht:P.underlying t=some (.array len e)) (hs:kW P e d n bytes agg):PR P (.index t x i) (.ji len agg n) [x,i]
 |cm (t x i) (ht:P.underlying t=some .string):PR P (.index t x i) .cm [x,i]
 |mS (t x lo hi e d n bytes agg) (ht:P.underlying t=some (.slice e)) (hs:kW P e d n bytes agg):PR P (.slice t x lo hi none) (.mS n lo.isSome hi.isSome) (x::ll lo hi)
 |bU (t x lo hi) (ht:P.underlying t=some .string):PR P (.slice t x lo hi none) (.bU lo.isSome hi.isSome) (x::ll lo hi)
 |tr (t x lo hi len e d n bytes agg) (ht:P.underlying t=some (.array len e)) (hs:kW P e d n bytes agg) :
   PR P (.slice t x lo hi none) (.tr len n lo.isSome hi.isSome) (x::ll lo hi)
 |extract (x i):PR P (.extract x i) (.extract i) [x]
 |dF (x t) (ht:P.underlying t=some .string):PR P (.call ⟨.builtin .len,#[x],#[t]⟩) .dF [x]
 |ay (x t e) (ht:P.underlying t=some (.slice e)):PR P (.call ⟨.builtin .len,#[x],#[t]⟩) .ay [x]
 |qB (x t n e) (ht:P.underlying t=some (.array n e)):PR P (.call ⟨.builtin .len,#[x],#[t]⟩) (.qB n) [x]
 |Lj (x t a n e) (ht:P.underlying t=some (.pointer a)) (ha:P.underlying a=some (.array n e)):PR P (.call ⟨.builtin .len,#[x],#[t]⟩) (.qB n) [x]
 |min (xs ts):PR P (.call ⟨.builtin .min,xs,ts⟩) .min xs.toList
 |max (xs ts):PR P (.call ⟨.builtin .max,xs,ts⟩) .max xs.toList
def lC:nW→TypeDesc→Prop
 |.bool,.bool=>True
 |.int,.int _=>True
 |.str,.string=>True
 |_,_=>False
inductive KR (P:Program) (rows:Nat→Option (List IV)):Op→IK→Prop
 |move (x x' xf lk) (h:fg rows x x'):KR P rows (.move x) (.mv x' xf lk)
 |assign (x x' xf lk) (h:fg rows x x'):KR P rows (.assign x) (.mv x' xf lk)
 |p (op po xs as) (h:PR P op po xs) (ha:od rows xs as):KR P rows op (.p po as)
 |same (t e x x') (ht:P.underlying t=some (.slice e)) (he:P.underlying e=some (.int .u8)) (h:fg rows x x'):KR P rows (.convert t t x) (.same x')
 |load (t d n bytes agg a a' lk) (ht:kW P t d n bytes agg) (h:fg rows a a'):KR P rows (.load t a) (.load agg n a' lk)
 |store (t d n bytes agg a a' x x' xf) (ht:kW P t d n bytes agg) (h:fg rows a a') (hx:fg rows x x'):KR P rows (.store t a x) (.store n a' x' xf)
 |bX (t zero k cp) (hz:jD P t zero):KR P rows (.alloc t) (.bX k zero cp)
 |iv (t zero cp) (hz:jD P t zero):KR P rows (.alloc t) (.iv zero cp)
 |f5 (t n k x x') (h:fg rows x x'):KR P rows (.box t x) (.f5 k n x')
 |nZ (t n x x') (h:fg rows x x'):KR P rows (.box t x) (.nZ n x')
 |buildSlice (t e len) (ps:Array (Nat×Operand)) (zero parts as d n bytes agg) (ht:P.underlying t=some (.slice e)) (hs:kW P e d n bytes agg) (hz:jD P e zero)
   (hp:parts=ps.toList.map fun p=>(p.1*n,n)) (hl:len*n≤2^24) (ha:od rows (ps.toList.map (·.2)) as) :
   KR P rows (.buildSlice t len ps) (.buildSlice n len zero parts as)
 |fb (s d e x x') (hs:P.underlying s=some .string) (hd:P.underlying d=some (.slice e)) (he:P.underlying e=some (.int .u8)) (h:fg rows x x') :
   KR P rows (.convert s d x) (.fb x')
 |me (t e l c l' c' zero d n bytes agg) (ht:P.underlying t=some (.slice e)) (hs:kW P e d n bytes agg) (hz:jD P e zero) (hl:fg rows l l') (hc:fg rows c c') :
   KR P rows (.makeSlice t l c) (.me n bytes zero l' c')
 |kO (t e l c l' c' zero d n bytes agg) (ht:P.underlying t=some (.slice e)) (hs:kW P e d n bytes agg) (hz:jD P e zero) (hl:fg rows l l') (hc:fg rows c c') :
   KR P rows (.makeSlice t l c) (.kO n bytes zero l' c')
 |append (t u e s x s' x' zero d n bytes agg) (ht:P.underlying t=some (.slice e)) (hu:P.underlying u=some .string∨∃e',P.underlying u=some (.slice e')) (hs:kW P e d n bytes agg) (hb:bytes≠0) (hn:n≠0)
   (hz:jD P e zero) (h1:fg rows s s') (h2:fg rows x x'):KR P rows (.call ⟨.builtin .append,#[s,x],#[t,u]⟩) (.append n bytes s' x')
 |copy (t u e d s d' s' td n bytes agg) (ht:P.underlying t=some (.slice e)) (hs:kW P e td n bytes agg) (h1:fg rows d d') (h2:fg rows s s') :
   KR P rows (.call ⟨.builtin .copy,#[d,s],#[t,u]⟩) (.copy n d' s')
 |aj (f xs ts as fk) (ha:od rows xs.toList as):KR P rows (.call ⟨.value (.func f),xs,ts⟩) (.aj f as fk)
 |fH (g g' xs ts as fk) (hg:fg rows g g') (ha:od rows xs.toList as):KR P rows (.call ⟨.value g,xs,ts⟩) (.fH g' as fk)
 |mkMap (t):KR P rows (.makeMap t none) .mkMap
 |lookup (t k e m m' x x' zero ok d ed) (ht:P.underlying t=some (.map k e)) (hk:P.underlying k=some d) (hkd:lC ed d)
   (hz:∃i z,P.info? e=some i∧i.zero=some z∧∀G,VR G zero z) (hm:fg rows m m') (hx:fg rows x x'):KR P rows (.lookup t m x ok) (.lookup ed zero ok m' x')
 |jy (t k e m m' x x' v v' d ed) (ht:P.underlying t=some (.map k e)) (hk:P.underlying k=some d) (hkd:lC ed d)
   (hm:fg rows m m') (hx:fg rows x x') (hv:fg rows v v'):KR P rows (.mapUpdate t m x v) (.jy ed m' x' v')
 |kt (t k e m m') (ht:P.underlying t=some (.map k e)) (hm:fg rows m m'):KR P rows (.call ⟨.builtin .len,#[m],#[t]⟩) (.kt m')
 |fa (t x x' k) (ht:P.underlying t=some .string) (h:fg rows x x'):KR P rows (.range t x) (.fa k x')
 |ee (a a') (h:fg rows a a'):KR P rows (.next a true) (.ee a')
structure VY (P:Program) (rows:Nat→Option (List IV)) (N:Nat) (ops:Array Oper) (o:Oper) (i:dh):Prop where
 dst:o.dst=i.dst
 lt:∀d,i.dst=some d→d<N
 k:KR P rows o.op i.k
 guard:match o.guard,i.guard with
  |none,none=>True
  |some (j,want),some (s,want')=>want=want'∧(ops[j]?).bind (·.dst)=some s
  |_,_=>False
inductive uh (P:Program) (rows:Nat→Option (List IV)) (N:Nat) (ops:Array Oper):List Oper→List dh→Prop
 |nil:uh P rows N ops [] []
 |cons {o:Oper}{i:dh}{os:List Oper}{is:List dh}(h:VY P rows N ops o i) (hs:uh P rows N ops os is):uh P rows N ops (o::os) (i::is)
inductive CR (P:Program) (rows:Nat→Option (List IV)) (N:Nat) (T:MW) (drawOk:Array Oper→List dh→List Nat→Prop):Code→aq→Prop
 |skip:CR P rows N T drawOk .skip .skip
 |label (l):CR P rows N T drawOk (.label l) .skip
 |ops (id) (ops:Array Oper) (is) (h:uh P rows N ops ops.toList is):CR P rows N T drawOk (.region id ops false) (.ops is)
 |draw (id) (ops:Array Oper) (is pre) (h:uh P rows N ops ops.toList is) (hd:drawOk ops is pre):CR P rows N T drawOk (.region id ops true) (.draw is pre)
 |seq {a b x y} (h1:CR P rows N T drawOk a x) (h2:CR P rows N T drawOk b y):CR P rows N T drawOk (.seq a b) (.seq x y)
 |cond {c a b c' x y} (h:fg rows c c') (h1:CR P rows N T drawOk a x) (h2:CR P rows N T drawOk b y):CR P rows N T drawOk (.cond c a b) (.cond c' x y)
 |block {id a x} (h:CR P rows N T drawOk a x):CR P rows N T drawOk (.block id a) (.block id x)
 |loop {a x hd} (h:CR P rows N T drawOk a x):CR P rows N T drawOk (.loop a) (.loop hd x)
 |exit (id):CR P rows N T drawOk (.exit id) (.exit id)
 |ret:CR P rows N T drawOk .ret .ret
 |scope {a x} (h:CR P rows N T drawOk a x):CR P rows N T drawOk (.scope a) x
 |kv {g g' fn site} {ps:Array Tmp}{as body:Code}{r:mX}(hg:fg rows g g') (hr:T.EW fn site=some r) (hp:ps.toList=r.ps) (hlt:∀p∈r.ps,p<N)
   (h1:CR P rows N T drawOk as r.assign) (h2:CR P rows N T drawOk body r.body):CR P rows N T drawOk (.rangeFunc g ps as body) (.kv g' fn site)
end Go.Idl
namespace Go.Idl
structure Ctx where
 P:Program
 rows:Nat→Option (List IV)
 T:MW
 D:Array Oper→List dh→List Nat→Prop
def jmp:Nat→Option Code
 |0=>none
 |1=>some .ret
 |i+2=>some (.exit i)
inductive eK (X:Ctx) (G:Gh):aS→Obj→Prop
 |cells (cs:List IV) (cp:List cV) (rc:List Value) (t:TypeId) (f:Nat×Nat) (h:c9 G cs rc) (hf:∀i,i<rc.length→¬(f.1≤i∧i<f.2)) (hcp:cp.length=cs.length) :
   eK X G (.cells cs cp) (.cells ⟨rc⟩ t f)
 |iter (s:List UInt8) (pos:Nat):eK X G (.iter s pos) (.stringIter ⟨⟨s⟩⟩ pos)
 |map (es:List (IV×IV)) (res:List MapEntry) (clock:Nat) (hk:c9 G (es.map (·.1)) (res.map (·.key))) (hv:c9 G (es.map (·.2)) (res.map (·.val))) :
   eK X G (.map es) (.map ⟨res⟩ clock)
 |loop (busy fn site:Nat) (env:Env) (j:Nat) (L:Loop) (r:mX) (hr:X.T.EW fn site=some r) (hp:L.params.toList=r.ps) (hlt:∀p∈r.ps,p<L.tmps.size)
   (h1:CR X.P X.rows L.tmps.size X.T X.D L.assign r.assign) (h2:CR X.P X.rows L.tmps.size X.T X.D L.body r.body)
   (he:∀i v c,look env i=some (v,c)→VR G v (L.tmps.getD i undef)∧i<L.tmps.size) (hc:∀i v c,look env i=some (v,c)→c=.any)
   (hs:L.state=(match busy with | 0=>.ready | 1=>.done | _=>.busy)) (hj:L.pending=jmp j):eK X G (.loop busy fn site env j) (.loop L)
def gR (G:Gh) (l:Loc) (sz:Nat) (r:Value):Prop :=
 ∀b o sp len cap,r=.slice (some ⟨b,o,sp⟩) len cap→sp=none∧∀j,o+len*sz≤j→j<o+cap*sz→G.ow b j=some l
structure WF (X:Ctx) (G:Gh) (w:World):Prop where
 dB:∀b o v,G.dB b o=some v→w.cell? ⟨b,o,none⟩=some v
 inj:∀i j b,G.bx i=some b→G.bx j=some b→i=j
 ja:∀i j b,G.lb i=some b→G.lb j=some b→i=j
 fB:∀i k b,G.bx i=some b→G.lb k=some b→False
 eY:∀b,G.boxed b→b<w.heap.size
 ew:∀b o,G.boxed b→G.dB b o=none
 eU:∀b o,G.boxed b→G.ow b o=none
 fL:∀b o l,G.ow b o=some l→G.dB b o=none
 dR:∀b o l,G.ow b o=some l→(w.cell? ⟨b,o,none⟩).isSome∧w.frozen? ⟨b,o,none⟩=false
 iD:∀g row,X.rows g=some row→VR G (.pI row 0) (.pointer (some ⟨g,0,none⟩))
 gj:G.gj≤w.heap.size
structure MR (X:Ctx) (G:Gh) (m:IM) (w:World):Prop where
 bx:∀id,m.get id ≠ .none→∃b ro,G.bx id=some b∧w.heap[b]?=some ro∧eK X G (m.get id) ro
 own:∀id cs cp off sz,m.get id=.cells cs cp→cp[off]?=some (.own sz)→∀b r,G.bx id=some b→w.cell? ⟨b,off,none⟩=some r→gR G (.B id off) sz r
 kY:∀id b,G.bx id=some b→id<m.size
 cd:∀id,G.cd id=true→id<m.size∧m.get id=.none
def lP (G:Gh) (w:World) (b:Nat):Prop:=∃c t f,w.heap[b]?=some (.cells c t f)∧(f=(c.size,c.size+1)∨(f=(0,0)∧G.gj≤b))
theorem lP.same {G G':Gh}{w:World}{b:Nat}(h:lP G w b) (e:G'.gj=G.gj):lP G' w b:=by obtain⟨c,t,f,h1,h2⟩:=h;exact⟨c,t,f,h1,h2.imp id (fun⟨q1,q2⟩=>⟨q1,by rw[e];exact q2⟩)⟩
def Wp (G:Gh) (b n:Nat) (f f':Nat×Nat):Prop:=f'=f∨(G.gj≤b∧f=(0,0)∧f'=(n,n+1))
def gz (G:Gh) (a:Act) (w:World) (i:Nat):Loc→Prop
 |.slot j=>a.tmps.getD i undef=a.tmps.getD j undef
 |.L k off=>∃b,G.lb k=some b∧w.cell? ⟨b,off,none⟩=some (a.tmps.getD i undef)
 |.B id off=>∃b,G.bx id=some b∧w.cell? ⟨b,off,none⟩=some (a.tmps.getD i undef)
 |.marked=>∀b o sp len cap,a.tmps.getD i undef=.slice (some ⟨b,o,sp⟩) len cap→lP G w b
structure SR (X:Ctx) (N:Nat) (G:Gh) (st:St) (a:Act) (w:World):Prop where
 size:a.tmps.size=N
 env:∀i v c,look st.env i=some (v,c)→SV G v (a.tmps.getD i undef)∧i<N
 own:∀i v sz,look st.env i=some (v,.own sz)→gR G (.slot i) sz (a.tmps.getD i undef)
 lk:∀i l,(i,l)∈st.lk→gz G a w i l
 lb:∀k,aQ st.lb k ≠ .none→∃b ro,G.lb k=some b∧w.heap[b]?=some ro∧eK X G (aQ st.lb k) ro
 dE:∀k cs cp off sz,aQ st.lb k=.cells cs cp→cp[off]?=some (.own sz)→∀b r,G.lb k=some b→w.cell? ⟨b,off,none⟩=some r→gR G (.L k off) sz r
 dO:∀k b,G.lb k=some b→aQ st.lb k ≠ .none
 mr:MR X G st.m w
 wf:WF X G w
structure Step (G:Gh) (w:World) (G':Gh) (w':World):Prop where
 os:w'.os=w.os
 tape:w'.tape=w.tape
 output:w'.output=w.output
 size:w.heap.size≤w'.heap.size
 dB:∀b o v,G.dB b o=some v→G'.dB b o=some v
 bx:∀id b,G.bx id=some b→G'.bx id=some b
 other:∀b o,w.heap[b]?=some o→¬G.p8 b→(∀c t f,o ≠ .cells c t f)→w'.heap[b]?=some o
 cells:∀b c t f,w.heap[b]?=some (.cells c t f)→¬G.p8 b→∃c' f',w'.heap[b]?=some (.cells c' t f')∧c'.size=c.size∧(∀i,G.ow b i=none→c'[i]?=c[i]?)∧Wp G b c.size f f'
 eW:∀b o v,b<w.heap.size→¬G.p8 b→G'.dB b o=some v→G.dB b o=some v∨(G.ow b o).isSome
 fY:∀b o l,b<w.heap.size→G'.ow b o=some l→(G.ow b o).isSome
 fh:∀b,b<w.heap.size→G'.p8 b→G.p8 b
 cd:G'.cd=G.cd
 gj:G'.gj=G.gj
 gm:∀id b,G'.bx id=some b→G.bx id=some b∨w.heap.size≤b
 loop:∀(b:Nat) (L:Loop),w.heap[b]?=some (Obj.loop L)→∃L',w'.heap[b]?=some (Obj.loop L')
theorem Step.refl (G:Gh) (w:World):Step G w G w where
 os:=rfl
 tape:=rfl
 output:=rfl
 size:=Nat.le_refl _
 dB _ _ _ h:=h
 bx _ _ h:=h
 other _ _ h _ _:=h
 cells _ c _ f h _:=⟨c,f,h,rfl,fun _ _=>rfl,.inl rfl⟩
 eW _ _ _ _ _ h:=.inl h
 fY _ _ _ _ h:=by simp[h]
 fh _ _ h:=h
 cd:=rfl
 gj:=rfl
 gm _ _ h:=.inl h
 loop _ L h:=⟨L,h⟩
theorem gw {w:World}{b:Nat}{o:Obj}(h:w.heap[b]?=some o):b<w.heap.size:=(Array.getElem?_eq_some_iff.1 h).1
theorem Step.trans {G G1 G2:Gh}{w w1 w2:World}(h:Step G w G1 w1) (k:Step G1 w1 G2 w2):Step G w G2 w2 where
 os:=k.os.trans h.os
 tape:=k.tape.trans h.tape
 output:=k.output.trans h.output
 size:=Nat.le_trans h.size k.size
 dB b o v e:=k.dB _ _ _ (h.dB _ _ _ e)
 bx i b e:=k.bx _ _ (h.bx _ _ e)
 other b o e nb nc:=k.other b o (h.other b o e nb nc) (fun q=>nb (h.fh b (gw e) q)) nc
 cells b c t f e nb:=by
  obtain⟨c1,f1,e1,s1,g1,z1⟩:=h.cells b c t f e nb;obtain⟨c2,f2,e2,s2,g2,z2⟩:=k.cells b c1 t f1 e1 (fun q=>nb (h.fh b (gw e) q));refine⟨c2,f2,e2,s2.trans s1,fun i hi=>(g2 i ?_).trans (g1 i hi),?_⟩
  ·cases q:G1.ow b i with
   |none=>rfl
   |some l=>have:=h.fY b i l (gw e) q;simp[hi] at this
  ·rcases z1 with rfl | ⟨q1,q2,q3⟩
   ·rcases z2 with rfl | ⟨q1,q2,q3⟩
    ·exact .inl rfl
    ·exact .inr ⟨by rw[←h.gj];exact q1,q2,by rw[q3,s1]⟩
   ·rcases z2 with rfl | ⟨q4,q5,q6⟩
    ·exact .inr ⟨q1,q2,q3⟩
    ·exact .inr ⟨q1,q2,by rw[q6,s1]⟩
 eW b o v hb nb e:=by
  rcases k.eW b o v (Nat.lt_of_lt_of_le hb h.size) (fun q=>nb (h.fh b hb q)) e with e | e
  ·exact h.eW b o v hb nb e
  ·obtain⟨l,hl⟩:=Option.isSome_iff_exists.1 e;exact .inr (h.fY b o l hb hl)
 fY b o l hb e:=by have:=k.fY b o l (Nat.lt_of_lt_of_le hb h.size) e;obtain⟨l',hl⟩:=Option.isSome_iff_exists.1 this;exact h.fY b o l' hb hl
 fh b hb e:=h.fh b hb (k.fh b (Nat.lt_of_lt_of_le hb h.size) e)
 cd:=k.cd.trans h.cd
 gj:=k.gj.trans h.gj
 gm i b e:=by
  rcases k.gm i b e with e | e
  ·exact h.gm i b e
  ·exact .inr (Nat.le_trans h.size e)
 loop b L e:=let ⟨L',e'⟩:=h.loop b L e;k.loop b L' e'
theorem Step.drew {G G':Gh}{w w':World}(h:Step G w G' w'):Step G w G' w'.drew where
 os:=h.os
 tape:=h.tape
 output:=h.output
 size:=h.size
 dB:=h.dB
 bx:=h.bx
 other:=h.other
 cells:=h.cells
 eW:=h.eW
 fY:=h.fY
 fh:=h.fh
 cd:=h.cd
 gj:=h.gj
 gm:=h.gm
 loop:=h.loop
theorem dZ {j:Nat}{v:IV}{c:cV}{e:Env}{i:Nat}:look ((j,v,c)::e) i=if j=i then some (v,c) else look e i:=by
 rw[look];by_cases h:j=i
 ·subst h;simp
 ·have:Nat.beq j i=false:=by
   cases hb:Nat.beq j i with
   |false=>rfl
   |true=>exact absurd (Nat.eq_of_beq_eq_true hb) h
  simp[this,h]
theorem cg {j:Nat}{o:aS}{e:List (Nat×aS)}{i:Nat}:aQ ((j,o)::e) i=if j=i then o else aQ e i:=by
 rw[aQ];by_cases h:j=i
 ·subst h;simp
 ·have:Nat.beq j i=false:=by
   cases hb:Nat.beq j i with
   |false=>rfl
   |true=>exact absurd (Nat.eq_of_beq_eq_true hb) h
  simp[this,h]
theorem aK {α:Type}(l:List α):zd l=some l:=by
 induction l with
 |nil=>rfl
 |cons x l ih=>simp[zd,ih]
theorem ck (v:IV):Rl v=some v:=by unfold Rl;split<;>rfl
theorem Arg.ET {e:Env}{i:Nat}:(Arg.t i).rd e=some (dy e i):=by
 simp only[Arg.rd,dy]
 cases look e i<;>rfl
theorem Arg.rd_some (e:Env) (a:Arg):∃v,a.rd e=some v:=by
 cases a with
 |t i=>exact⟨_,Arg.ET⟩
 |c v=>exact⟨v,rfl⟩
variable {X:Ctx}{N:Nat}{G:Gh}{st:St}{a:Act}{w:World}
theorem SR.rd (h:SR X N G st a w) {x:Operand}{y:Arg}(hr:fg X.rows x y) {v:IV}(hv:y.rd st.env=some v):SV G v (a.eval x):=by
 cases hr with
 |tmp i =>
  simp only[Act.eval];simp only[Arg.rd] at hv
  cases e:look st.env i with
  |none=>rw[e] at hv;simp only[Option.some.injEq] at hv;subst hv;exact SV.of (VR.undef _)
  |some p =>obtain⟨v',c⟩:=p;rw[e] at hv;simp only[Option.some.injEq] at hv;subst hv;exact (h.env i _ _ e).1
 |const rv x hc=>simp only[Arg.rd,Option.some.injEq] at hv;subst hv;exact SV.of (hc G)
 |iD g row hg=>simp only[Arg.rd,Option.some.injEq] at hv;subst hv;exact SV.of (h.wf.iD g row hg)
 |func f =>simp only[Arg.rd,Option.some.injEq] at hv;subst hv;exact SV.of (.func f [] [] [] [] rfl rfl (fun i hi=>absurd hi (by simp)) (fun i hi=>absurd hi (by simp)))
theorem SR.de (h:SR X N G st a w) {xs:List Operand}{ys:List Arg}(hr:od X.rows xs ys) {vs:List IV}(hv:de st.env ys=some vs) :
  vs.length=xs.length∧∀(i:Nat) v x,vs[i]?=some v→xs[i]?=some x→SV G v (a.eval x):=by
 induction hr generalizing vs with
 |nil=>simp only[Idl.de,Option.some.injEq] at hv;subst hv;simp
 |cons hx _ ih =>
  rename_i x y xs ys _;unfold Idl.de at hv;split at hv
  ·rename_i v vs' e1 e2;simp only[Option.some.injEq] at hv;subst hv;obtain⟨hl,hi⟩:=ih e2;refine⟨by simp[hl],fun i v x hv hx'=>?_⟩
   cases i with
   |zero=>simp at hv hx';subst hv;subst hx';exact h.rd hx e1
   |succ i=>simp at hv hx';exact hi i v x hv hx'
  ·cases hv
end Go.Idl
namespace Go.Idl
variable {X:Ctx}{N:Nat}{G:Gh}{st:St}{a:Act}{w:World}
def nY (G:Gh) (vs:List IV) (rs:List Value):Prop:=rs.length=vs.length∧∀(i:Nat) v r,vs[i]?=some v→rs[i]?=some r→SV G v r
theorem nY.cons_inv {v:IV}{vs:List IV}{rs:List Value}(h:nY G (v::vs) rs):∃r rs',rs=r::rs'∧SV G v r∧nY G vs rs':=by
 cases rs with
 |nil=>have:=h.1;simp at this
 |cons r rs=>exact⟨r,rs,rfl,h.2 0 v r rfl rfl,by simpa using h.1,fun i v' r' h1 h2=>h.2 (i+1) v' r' (by simpa using h1) (by simpa using h2)⟩
theorem nY.u5 {rs:List Value}(h:nY G [] rs):rs=[]:=List.length_eq_zero_iff.1 (by simpa using h.1)
theorem SV.eS {k:IntKind}{n:Int}{r:Value}(h:SV G (.int k n) r):r=.int k n:=by cases h with | int=>rfl
theorem SV.kJ {b:Bool}{r:Value}(h:SV G (.bool b) r):r=.bool b:=by cases h with | bool=>rfl
theorem SV.ig {s:List UInt8}{r:Value}(h:SV G (.str s) r):r=.string ⟨⟨s⟩⟩:=by cases h with | str=>rfl
theorem SV.zb {k:FloatKind}{n:Nat}{r:Value}(h:SV G (.float k n) r):r=.float k n:=by cases h with | float=>rfl
theorem jK (P:Program) (k:IntKind) (n:Int) (w:World):(asIntOf (.int k n)).run P w=.ok (k,n) w:=rfl
theorem toList_mk (s:List UInt8):(ByteArray.mk ⟨s⟩).toList=s:=ByteArray.toList_eq _
theorem As (x y:List UInt8):Op.bytesLess x y=aT x y:=by
 induction x generalizing y with
 |nil=>cases y<;>rfl
 |cons a x ih =>
  cases y with
  |nil=>rfl
  |cons b y =>
   have h1:decide (a<b)=decide (a.toNat<b.toNat):=by rw[decide_eq_decide];exact UInt8.lt_iff_toNat_lt
   have h2:(a==b)=(a.toNat==b.toNat):=by rw[Bool.eq_iff_iff];simp[UInt8.toNat_inj]
   show (decide (a<b)||(a==b&&Op.bytesLess x y))=(decide (a.toNat<b.toNat)||(a.toNat==b.toNat&&aT x y));rw[h1,h2,ih]
theorem Hh (P : Program) (op : BinOp) (t : TypeId) {x y v : IV} {rx ry : Value} (hx : SV G x rx) (hy : SV G y ry) (h : eX op x y = some v) :
    ∃ rv, (binOp op t rx ry).run P w = .ok rv w ∧ SV G v rv := by
  unfold eX at h;split at h
  · rename_i k p k' q;have := hx.eS; subst this;have := hy.eS; subst this;split at h
    · rename_i hs;unfold E3 at h;split at h
      · cases h
      · rename_i hq
        cases op <;> simp [c7] at hs <;> simp only [Option.some.injEq] at h <;> subst h
        · exact ⟨_, by simp [binOp, Op.shift, hq, pure], .int _ _⟩
        · exact ⟨_, by simp [binOp, Op.shift, hq, pure], .int _ _⟩
    · rename_i hs;split at h
      · rename_i hk;subst hk
        cases op <;> simp [c7] at hs <;> simp only [ix, Option.some.injEq] at h
        case quo => split at h; · cases h
                    · rename_i hz; simp only [Option.some.injEq] at h; subst h; exact ⟨_, by simp [binOp, Op.intDiv, hz, pure], .int _ _⟩
        case rem => split at h; · cases h
                    · rename_i hz; simp only [Option.some.injEq] at h; subst h; exact ⟨_, by simp [binOp, Op.intDiv, hz, pure], .int _ _⟩
        all_goals
          subst h
          first
            | (refine ⟨.int k _, ?_, .int _ _⟩; simp only [binOp, ne_eq, not_true_eq_false, if_false]; rfl)
            | (refine ⟨.bool _, ?_, .bool _⟩; simp only [binOp, ne_eq, not_true_eq_false, if_false]; rfl)
      · cases h
  · rename_i p q;have := hx.ig; subst this;have := hy.ig; subst this
    cases op <;> simp only [dN, Option.some.injEq] at h <;> try cases h
    case add =>
      split at h
      · rename_i hl;simp only [Option.some.injEq] at h;subst h;refine ⟨.string ⟨⟨p ++ q⟩⟩, ?_, .str _⟩
        have h1 : ¬ (((ByteArray.mk ⟨p⟩).size + (ByteArray.mk ⟨q⟩).size : Nat) : Int) > IntKind.i64.max := by
          have e1 : (ByteArray.mk ⟨p⟩).size = p.length := rfl;have e2 : (ByteArray.mk ⟨q⟩).size = q.length := rfl;rw [e1, e2];have e3 : IntKind.i64.max = 9223372036854775807 := by decide
          rw [e3];unfold aH at hl;omega
        have h2 : (ByteArray.mk ⟨p⟩) ++ (ByteArray.mk ⟨q⟩) = ⟨⟨p ++ q⟩⟩ := by apply ByteArray.ext;simp
        simp only [binOp, Op.stringOp, if_neg h1, h2]; rfl
      · cases h
    all_goals
      exact ⟨_, by simp [binOp, Op.stringOp, pure, toList_mk, As], .bool _⟩
  · cases h
theorem j6 (P:Program) (op:BinOp) (t:TypeId) (x y:Operand) (p q:Value) (h1:¬(p=.nilIface∧q=.nilIface)) (h2:∀cs ds,¬(p=.agg cs∧q=.agg ds)) (w:World) :
  (eqGuard op t x y p q).run P w=.ok () w:=by
 unfold eqGuard
 cases op<;>simp<;>(cases p<;>first | rfl | skip)<;>(cases q<;>first | rfl | skip)<;>first | (exact absurd ⟨rfl,rfl⟩ h1) | (exact absurd ⟨rfl,rfl⟩ (h2 _ _))
theorem eQ (b o n:Nat):(⟨b,o,none⟩:Addr).add n=⟨b,o+n,none⟩:=by
 unfold Addr.add;split
 ·rename_i h;subst h;rfl
 ·rfl
theorem aN {P:Program}{t:TypeId}{d:TypeDesc}(h:P.underlying t=some d) (w:World):(underlying t).run P w=.ok d w:=run_underlying h w
theorem dX {P:Program}{t:TypeId}{d n b ag} (h:kW P t d n b ag) (w:World):(sizeOf t).run P w=.ok n w:=by obtain⟨i,h1,h2,_⟩:=h.info;simp[sizeOf,typeInfo,h1,h2]
theorem kx {P:Program}{t:TypeId}{d n b ag} (h:kW P t d n b ag) (w:World):(isAgg t).run P w=.ok ag w:=by
 rw[h.isAgg];simp only[isAgg,Sem.run_bind,aN h.Ie,Result.andThen_ok]
 cases d<;>rfl
theorem SV.addr {p q:IV}{r:Value}(h:SV G p r) {n:Nat}(hq:q=(match p with | .pI row o=>.pI row (o+n) | .pB id o=>.pB id (o+n) | .pL k o=>.pL k (o+n) | v=>v))
  (hp:∃(row:List IV) (k o:Nat),p=.pI row o∨p=.pB k o∨p=.pL k o):∃b o,r=.pointer (some ⟨b,o,none⟩)∧SV G q (.pointer (some ⟨b,o+n,none⟩)):=by
 obtain⟨row,k,o,hp⟩:=hp;rcases hp with rfl | rfl | rfl
 ·cases h with
  |pI _ _ b o' g h1 h2 =>refine⟨b,_,rfl,?_⟩;subst hq;rw[Nat.add_assoc];exact VR.pI _ _ _ _ g h1 h2
 ·cases h with
  |pB _ _ b h=>subst hq;exact⟨b,_,rfl,VR.pB _ _ _ h⟩
 ·obtain⟨b,h,rfl⟩:=h;subst hq;exact⟨b,_,rfl,b,h,rfl⟩
set_option maxHeartbeats 2000000 in
theorem kr {P : Program} {t : TypeId} {ed : nW} {d : TypeDesc} (ht : P.underlying t = some d) (he : kq ed d) {x y : IV} {rx ry : Value} (hx : SV G x rx) (hy : SV G y ry) {b : Bool}
    (h : lx ed x y = some b) (n : Nat) (w : World) : (Op.equalIn (n + 1) t rx ry).run P w = .ok b w := by
  unfold lx at h;split at h
  case h_1 =>
    have := hx.kJ; subst this; have := hy.kJ; subst this
    cases d <;> simp [kq] at he
    simp only [Option.some.injEq] at h; subst h;exact run_equalIn_bool' w n t _ _ ht
  case h_2 =>
    have := hx.eS; subst this; have := hy.eS; subst this
    cases d <;> simp [kq] at he
    split at h
    · rename_i hk; subst hk;simp only [Option.some.injEq] at h; subst h;exact run_equalIn_int w n t _ _ _ _ ht
    · cases h
  case h_3 =>
    have := hx.ig; subst this; have := hy.ig; subst this
    cases d <;> simp [kq] at he
    simp only [Option.some.injEq] at h; subst h;rw [run_equalIn_string w n t _ _ ht, toList_mk, toList_mk]
  case h_4 =>
    have := hx.zb; subst this; have := hy.zb; subst this
    cases d <;> simp [kq] at he
    split at h
    · rename_i hk; subst hk;simp only [Option.some.injEq] at h; subst h;simp only [Op.equalIn, Sem.run_bind, aN ht, Result.andThen_ok];simp [Op.floatEq]
    · cases h
  all_goals first
    | (cases h; done)
    | (simp only [Option.some.injEq] at h
       subst h
       cases d <;> simp only [kq] at he
       all_goals
         (try (obtain ⟨_, _, rfl⟩ := hx))
         (try (obtain ⟨_, _, rfl⟩ := hy))
         (try cases hx)
         all_goals (try cases hy)
         all_goals simp [Op.equalIn, aN ht])
theorem c9.over {G:Gh}{cs vs:List IV}{rc rv:List Value}(h:c9 G cs rc) (k:c9 G vs rv) (off:Nat):c9 G (over cs off vs) (rc.take off++rv++rc.drop (off+rv.length)):=by unfold Idl.over;rw[k.1];exact ((h.take off).append k).append (h.drop _)
theorem Hu (vs:List Value):∀(k off:Nat) (arr:Array Value),off+k+vs.length≤arr.size →
  ((vs.zipIdx k).foldl (fun cs (c,j)=>cs.setIfInBounds (off+j) c) arr).toList=arr.toList.take (off+k)++vs++arr.toList.drop (off+k+vs.length):=by
 induction vs with
 |nil=>intro k off arr _;simp
 |cons v vs ih =>
  intro k off arr h;simp only[List.length_cons] at h;simp only[List.zipIdx_cons,List.foldl_cons];rw[ih (k+1) off _ (by simp;omega)];simp only[Array.toList_setIfInBounds];have hl:off+k<arr.toList.length:=by simp;omega
  rw[List.drop_set,if_pos (by omega),List.take_set,←Nat.add_assoc,List.take_succ_eq_append_getElem hl];have e:(List.take (off+k) arr.toList++[arr.toList[off+k]]).set (off+k) v=List.take (off+k) arr.toList++[v]:=by
   have hm:(List.take (off+k) arr.toList).length=off+k:=by simp at hl ⊢;omega
   rw[List.set_append,if_neg (by omega),hm];simp
  rw[e];simp only[List.append_assoc,List.cons_append,List.nil_append,List.length_cons];rw[show off+k+1+vs.length=off+k+(vs.length+1) by omega]
theorem IV.ot {G:Gh}{v:IV}{r:Value}(h:VR G v r) (hu:v.nd=false):c9 G v.cells r.cells.toList:=by
 have one:∀{v:IV}{r:Value},VR G v r→c9 G [v] [r]:=fun h=>c9.cons h c9.nil
 cases v with
 |agg cs=>obtain⟨rc,e,h⟩:=h.lA;rw[e];exact h
 |undef=>cases hu
 |_ =>
  have e:r.cells=#[r]:=by cases h<;>rfl
  rw[e];exact one h
theorem qv {G:Gh}(place:Nat→Option (Nat×Nat)):∀(ps:List (Nat×Value)) (parts:List (Nat×Nat)) (vs cs:List IV) (arr:Array Value) (out:List IV),
  parts.length=ps.length→(∀(j:Nat) p q,ps[j]?=some p→parts[j]?=some q→place p.1=some q)→vs.length=ps.length →
  (∀(j:Nat) p v,ps[j]?=some p→vs[j]?=some v→SV G v p.2)→c9 G cs arr.toList→dT cs parts vs=some out →
  ∃arr',Instr.fill place arr ps=some arr'∧c9 G out arr'.toList:=by
 intro ps
 induction ps with
 |nil =>intro parts vs cs arr out h1 _ h2 _ hc hf;have:parts=[]:=List.length_eq_zero_iff.1 (by simpa using h1);subst this;have:vs=[]:=List.length_eq_zero_iff.1 (by simpa using h2);subst this;simp only[dT,Option.some.injEq] at hf;subst hf;exact⟨arr,rfl,hc⟩
 |cons p ps ih =>
  intro parts vs cs arr out h1 hp h2 hv hc hf;obtain⟨q,parts,rfl⟩:∃q r,parts=q::r:=by cases parts with | nil=>simp at h1 | cons q r=>exact⟨q,r,rfl⟩
  obtain⟨v,vs,rfl⟩:∃q r,vs=q::r:=by cases vs with | nil=>simp at h2 | cons q r=>exact⟨q,r,rfl⟩
  obtain⟨i,x⟩:=p;obtain⟨off,n⟩:=q;simp only[dT] at hf;split at hf
  ·rename_i hcond;simp only[Bool.and_eq_true,decide_eq_true_eq,Bool.not_eq_true'] at hcond;obtain⟨⟨⟨hU,hL⟩,hn⟩,hle⟩:=hcond;have hpl:=hp 0 _ _ rfl rfl;have hx:=IV.ot ((hv 0 _ _ rfl rfl).vr hL) hU;have hsz:x.cells.size=n:=by rw[←hn,←hx.1];simp
   have hsz2:arr.size=cs.length:=by rw[←hc.1];simp
   have hov:=hc.over hx off;have hlen:x.cells.toList.length=n:=by simpa using hsz
   rw[hlen] at hov;have hfold:=Hu x.cells.toList 0 off arr (by simp[hlen];omega);simp only[Nat.add_zero,hlen] at hfold;rw[←hfold] at hov;obtain⟨arr',h3,h4⟩:=ih parts vs _ _ out (by simpa using h1) (fun j p q h h'=>hp (j+1) p q (by simpa using h) (by simpa using h')) (by simpa using h2)
    (fun j p v h h'=>hv (j+1) p v (by simpa using h) (by simpa using h')) hov hf
   refine⟨arr',?_,h4⟩;simp only[Instr.fill,hpl,hsz,ne_eq,not_true_eq_false,decide_false,Bool.false_or];rw[if_neg (by simp;omega)];rw[←h3];congr 1;rw[←Array.foldl_toList];simp
  ·cases hf
end Go.Idl
namespace Go.Idl
variable {X:Ctx}{N:Nat}{G:Gh}{st:St}{a:Act}{w:World}
theorem nY.of (h:SR X N G st a w) {xs:List Operand}{ys:List Arg}(hr:od X.rows xs ys) {vs:List IV}(hv:de st.env ys=some vs):nY G vs (xs.map a.eval):=by obtain⟨h1,h2⟩:=h.de hr hv;refine⟨by simp[h1],fun i v r e1 e2=>?_⟩;simp only[List.getElem?_map,Option.map_eq_some_iff] at e2;obtain⟨x,ex,rfl⟩:=e2;exact h2 i v x e1 ex
theorem nY.one {xs:List Operand}{x:Operand}(ρ:Operand→Value) {v:IV}(h:nY G [v] ([x].map ρ)):SV G v (ρ x):=h.2 0 _ _ rfl rfl
theorem Bm {P:Program}{t:TypeId}{d n b} (h:kW P t d n b true) (cs:Array Value) (off:Nat) (w:World):(part t cs off).run P w=.ok (.agg (cs.extract off (off+n))) w:=by simp[part,kx h,dX h]
theorem j7 {P:Program}{t:TypeId}{d n b} (h:kW P t d n b false) (cs:Array Value) (off:Nat) {v:Value}(hv:cs[off]?=some v) (w:World):(part t cs off).run P w=.ok v w:=by simp[part,kx h,hv]
theorem xD {P:Program}{t:TypeId}{d n b ag} (h:kW P t d n b ag) {cs:List IV}{rc:List Value}(hc:c9 G cs rc) {off:Nat}{v:IV}(hv:fe ag cs off n=some v) (w:World) :
  ∃r,(part t ⟨rc⟩ off).run P w=.ok r w∧VR G v r:=by
 cases ag with
 |true =>
  simp only[fe,cut,if_true] at hv;split at hv
  ·rename_i hle;simp only[Option.map_some,Option.some.injEq] at hv;subst hv;refine⟨_,Bm h _ _ _,?_⟩;have e:(Array.mk rc).extract off (off+n)=⟨(rc.drop off).take n⟩:=by apply Array.ext';simp[List.extract_eq_take_drop]
   rw[e];exact VR.B1 ((hc.drop off).take n)
  ·cases hv
 |false =>simp only[fe,Bool.false_eq_true,if_false] at hv;obtain⟨r,hr,hvr⟩:=hc.get hv;exact⟨r,j7 h _ _ (by simpa using hr) _,hvr⟩
theorem ByteArray.NG (s:List UInt8) (i:Nat):(ByteArray.mk ⟨s⟩)[i]?=s[i]?:=by
 show (if h:i<s.length then some _ else none)=_;split
 ·rename_i h;rw[List.getElem?_eq_getElem h];rfl
 ·rename_i h;rw[List.getElem?_eq_none (by omega)]
theorem yw {P:Program}{y:Nat}{code:BoundsCode}{k:IntKind}{i:Int}(h:0≤i∧i≤y) (w:World):(Instr.sliceBound (.int k i) y code).run P w=.ok i.toNat w:=by simp[Instr.sliceBound,jK,h]
def I3 (G:Gh):Option IV→Option Value→Prop
 |none,none=>True
 |some v,some r=>SV G v r
 |_,_=>False
theorem Jh {P:Program}{d y m:Nat}{code:BoundsCode}{o:Option IV}{r:Option Value}(hd:d≤y) (hy:y≤m) (h:I3 G o r)
  {n:Nat}(hb:mx d y o=some n):n≤y∧∀w,((match r with | some v=>Instr.sliceBound v m code | none=>pure d:Sem Nat)).run P w=.ok n w:=by
 cases o with
 |none=>cases r with
  |none=>simp only[mx,Option.some.injEq] at hb;subst hb;exact⟨hd,fun w=>rfl⟩
  |some r=>exact h.elim
 |some v=>cases r with
  |none=>exact h.elim
  |some r =>
   cases v<;>first | (cases hb;done) | skip
   rename_i k i;have:=SV.eS h;subst this;simp only[mx] at hb;split at hb
   ·rename_i hr;simp only[Option.some.injEq] at hb;subst hb;exact⟨by omega,fun w=>yw ⟨hr.1,by omega⟩ w⟩
   ·cases hb
theorem kn {P:Program}(isSlice:Bool) {len cap:Nat}(hc:len≤cap) {lo hi:Option IV}{rlo rhi:Option Value}
  (hl:I3 G lo rlo) (hh:I3 G hi rhi)
  {l h:Nat}(hb:fO len lo hi=some (l,h)) (w:World):(Instr.sliceBounds isSlice len cap rlo rhi none).run P w=.ok (l,h,cap) w∧l≤h∧h≤len:=by
 unfold fO at hb
 cases e0:mx len len hi with
 |none=>rw[e0] at hb;cases hb
 |some h0 =>
  rw[e0] at hb;simp only at hb
  cases e1:mx 0 h0 lo with
  |none=>rw[e1] at hb;cases hb
  |some l0 =>
   rw[e1] at hb;simp only[Option.some.injEq,Prod.mk.injEq] at hb;obtain⟨rfl,rfl⟩:=hb;obtain⟨hle,hrun⟩:=Jh (P:=P) (m:=cap) (code:=if isSlice then .sliceAcap else .sliceAlen) (Nat.le_refl _) hc hh e0;obtain⟨hle2,hrun2⟩:=Jh (P:=P) (m:=h0) (code:=.sliceB) (Nat.zero_le _) (Nat.le_refl _) hl e1;refine⟨?_,hle2,hle⟩;have h3:=hrun w;have h4:=hrun2 w;unfold Instr.sliceBounds
   cases rhi<;>cases rlo<;>simp_all
end Go.Idl
namespace Go.Idl
variable {X:Ctx}{N:Nat}{G:Gh}{st:St}{a:Act}{w:World}
theorem nY.two {ρ:Operand→Value}{x y:Operand}{v u:IV}(h:nY G [v,u] ([x,y].map ρ)):SV G v (ρ x)∧SV G u (ρ y):=⟨h.2 0 _ _ rfl rfl,h.2 1 _ _ rfl rfl⟩
theorem f4 {ρ:Operand→Value}{x:Operand}{vs:List IV}(h:nY G vs ([x].map ρ)):∃v,vs=[v]:=by
 have:=h.1;simp at this
 match vs,this with
 |[v],_=>exact⟨v,rfl⟩
theorem jr {ρ:Operand→Value}{x y:Operand}{vs:List IV}(h:nY G vs ([x,y].map ρ)):∃v u,vs=[v,u]:=by
 have:=h.1;simp at this
 match vs,this with
 |[v,u],_=>exact⟨v,u,rfl⟩
theorem JL (ρ:Operand→Value) (o:Oper) (s:Sem Value) (P:Program) (h:execOp ρ o=(do pure (.value (←s)))) {r:Value}{w w':World}(hs:s.run P w=.ok r w') :
  (execOp ρ o).run P w=.ok (.value r) w':=by rw[h];simp[hs]
theorem AQ {ρ:Operand→Value}{lo hi:Option Operand}{args:List IV}(h:nY G args ((ll lo hi).map ρ)) {l u:Option IV}(e:f9 lo.isSome hi.isSome args=some (l,u)) :
  I3 G l (lo.map ρ)∧I3 G u (hi.map ρ):=by
 cases lo with
 |none=>cases hi with
  |none =>have:args=[]:=List.length_eq_zero_iff.1 (by simpa[ll] using h.1.symm);subst this;simp[f9] at e;obtain⟨rfl,rfl⟩:=e;exact⟨trivial,trivial⟩
  |some y =>obtain⟨v,rfl⟩:=f4 (x:=y) (by simpa[ll] using h);simp[f9] at e;obtain⟨rfl,rfl⟩:=e;exact⟨trivial,h.2 0 _ _ rfl rfl⟩
 |some x=>cases hi with
  |none =>obtain⟨v,rfl⟩:=f4 (x:=x) (by simpa[ll] using h);simp[f9] at e;obtain⟨rfl,rfl⟩:=e;exact⟨h.2 0 _ _ rfl rfl,trivial⟩
  |some y =>obtain⟨v,u',rfl⟩:=jr (x:=x) (y:=y) (by simpa[ll] using h);simp[f9] at e;obtain⟨rfl,rfl⟩:=e;exact nY.two (x:=x) (y:=y) (by simpa[ll] using h)
theorem VR.Sy {row:List IV}{len cap b o n l h sz:Nat}{r:Value}(hv:VR G (.sl row len) r) (hr:r=.slice (some ⟨b,o,none⟩) n cap) (hlh:l≤h) (hh:h≤len) :
  VR G (.sl ((row.drop (l*sz)).take ((h-l)*sz)) (h-l)) (.slice (if cap=l then some ⟨b,o,none⟩ else some (Addr.add ⟨b,o,none⟩ (l*sz))) (h-l) (cap-l)):=by
 cases hv with
 |zv a0 =>
  obtain rfl:h=0:=by omega
  obtain rfl:l=0:=by omega
  simp only[Value.slice.injEq,Option.some.injEq] at hr;obtain⟨rfl,rfl,rfl⟩:=hr;simpa using VR.zv _
 |sl _ _ b' o' cap' g h1 h2 h3 =>
  simp only[Value.slice.injEq,Option.some.injEq,Addr.mk.injEq,and_true] at hr;obtain⟨⟨rfl,rfl⟩,rfl,rfl⟩:=hr;split
  ·rename_i e;have:h-l=0:=by omega
   rw[this];refine VR.sl _ _ _ _ _ g ?_ ?_ (Nat.zero_le _)
   ·intro i hi;simp at hi
   ·intro i hi;simp at hi
  ·rw[eQ];refine VR.sl _ _ _ _ _ (fun i=>g (l*sz+i)) ?_ ?_ (by omega)
   ·intro i hi;simp at hi;rw[Nat.add_assoc];exact h1 _ (by omega)
   ·intro i hi;simp at hi;simp only[List.getElem_take,List.getElem_drop];exact h2 _ (by omega)
theorem tM {P:Program}(f:IV→IV→Option IV) (g:Value→Value→Sem Value) (hfg:∀{x y z:IV}{rx ry:Value},SV G x rx→SV G y ry→f x y=some z→∀w,∃rz,(g rx ry).run P w=.ok rz w∧SV G z rz) :
  ∀(vs:List IV) (rs:List Value) (x z:IV) (rx:Value),nY G vs rs→SV G x rx→eZ f x vs=some z→∀w,∃rz,(rs.foldlM g rx).run P w=.ok rz w∧SV G z rz:=by
 intro vs
 induction vs with
 |nil=>intro rs x z rx h hx e w;have:=h.u5;subst this;simp only[eZ,Option.some.injEq] at e;subst e;exact⟨rx,rfl,hx⟩
 |cons v vs ih =>
  intro rs x z rx h hx e w;obtain⟨r,rs,rfl,hv,hvs⟩:=h.cons_inv;simp only[eZ] at e
  cases e1:f x v with
  |none=>rw[e1] at e;cases e
  |some y =>rw[e1] at e;obtain⟨ry,h1,h2⟩:=hfg hx hv e1 w;obtain⟨rz,h3,h4⟩:=ih rs y z ry hvs h2 e w;exact⟨rz,by simp[List.foldlM_cons,h1,h3],h4⟩
theorem EF {P:Program}{x y z:IV}{rx ry:Value}(hx:SV G x rx) (hy:SV G y ry) (h:fm x y=some z) (w:World):∃rz,(Builtin.min2 rx ry).run P w=.ok rz w∧SV G z rz:=by
 unfold fm at h;split at h
 ·have:=hx.eS;subst this;have:=hy.eS;subst this;split at h
  ·rename_i e;subst e;simp only[Option.some.injEq] at h;subst h;exact⟨_,rfl,VR.int _ _⟩
  ·cases h
 ·cases h
theorem EE {P:Program}{x y z:IV}{rx ry:Value}(hx:SV G x rx) (hy:SV G y ry) (h:fl x y=some z) (w:World):∃rz,(Builtin.max2 rx ry).run P w=.ok rz w∧SV G z rz:=by
 unfold fl at h;split at h
 ·have:=hx.eS;subst this;have:=hy.eS;subst this;split at h
  ·rename_i e;subst e;simp only[Option.some.injEq] at h;subst h;exact⟨_,rfl,VR.int _ _⟩
  ·cases h
 ·cases h
theorem Mh {ρ:Operand→Value}{x y z:Operand}{vs:List IV}(h:nY G vs ([x,y,z].map ρ)):∃v u t,vs=[v,u,t]:=by
 have:=h.1;simp at this
 match vs,this with
 |[v,u,t],_=>exact⟨v,u,t,rfl⟩
theorem nY.wv {ρ:Operand→Value}{x:Operand}{xs:List Operand}{vs:List IV}(h:nY G vs ((x::xs).map ρ)):∃v us,vs=v::us∧SV G v (ρ x)∧nY G us (xs.map ρ):=by
 have:=h.1;simp at this
 match vs,this with
 |v::us,_ =>obtain⟨r,rs,e,h1,h2⟩:=h.cons_inv;simp at e;obtain⟨rfl,rfl⟩:=e;exact⟨v,us,rfl,h1,h2⟩
theorem vZ {cs:List IV}{rc:List Value}(h:c9 G cs rc) {s:List UInt8}(hs:bo cs=some s) (P:Program) (f:Value→ByteArray→Sem (ForInStep ByteArray))
  (hf:∀n acc,f (.int .u8 n) acc=pure (ForInStep.yield (acc.push (UInt8.ofNat n.toNat)))):∀(acc:ByteArray) (w:World),
  (forIn rc acc f:Sem ByteArray).run P w=.ok ⟨⟨acc.data.toList++s⟩⟩ w:=by
 induction cs generalizing rc s with
 |nil=>intro acc w;have:=h.sG;subst this;simp only[bo,Option.some.injEq] at hs;subst hs;simp
 |cons v cs ih =>
  intro acc w;obtain⟨r,rs,rfl,h1,h2⟩:=h.jw;unfold bo at hs;split at hs
  ·rename_i e;cases e
  ·rename_i n r' e;simp only[List.cons.injEq] at e;obtain⟨rfl,rfl⟩:=e
   cases h1 with
   |int =>
    cases e2:bo cs with
    |none=>rw[e2] at hs;cases hs
    |some t =>rw[e2] at hs;simp only[Option.map_some,Option.some.injEq] at hs;subst hs;simp only[List.forIn_cons,hf,Sem.run_bind,Sem.run_pure,Result.andThen_ok];rw[ih h2 e2];simp
  ·cases hs
theorem HP (P:Program) (sz:Nat→Nat):∀(fs:List Field) (k:Nat),(∀(j:Nat) f,fs[j]?=some f→∃d b a,kW P f.type d (sz (k+j)) b a)→∀w,
  (fs.mapM fun f=>(do pure (f.offset,←sizeOf f.type):Sem (Nat×Nat))).run P w=.ok (fs.mapIdx fun j f=>(f.offset,sz (k+j))) w:=by
 intro fs
 induction fs with
 |nil=>intro k _ w;simp
 |cons f fs ih =>intro k hf w;obtain⟨d,b,a,h⟩:=hf 0 f rfl;have:=ih (k+1) (fun j g hg=>by have:=hf (j+1) g (by simpa using hg);rwa [show k+1+j=k+(j+1) by omega]) w;simp only[List.mapM_cons,Sem.run_bind,dX h,Result.andThen_ok,Sem.run_pure,this,List.mapIdx_cons,Nat.add_zero];simp[show ∀j,k+1+j=k+(j+1) from fun j=>by omega]
theorem CH (P:Program) (sz:Nat→Nat) (fields:Array Field) (hf:∀(j:Nat) f,fields[j]?=some f→∃d b a,kW P f.type d (sz j) b a) (w:World) :
  (fields.mapM fun f=>(do pure (f.offset,←sizeOf f.type):Sem (Nat×Nat))).run P w=.ok (fields.mapIdx fun j f=>(f.offset,sz j)) w:=by
 rw[Array.mapM_eq_mapM_toList];have:=HP P sz fields.toList 0 (fun j f h=>by rw[Nat.zero_add];exact hf j f (by simpa using h)) w;simp only[Sem.run_map,this,Result.andThen_ok,Nat.zero_add];congr 1;apply Array.ext';simp
theorem ox {P:Program}{xs ys:List IV}{rx ry:List Value}(hx:c9 G xs rx) (hy:c9 G ys ry) (k:Nat) (w:World):∀{fs:List Field}{plan:List (Nat×nW)},yO P fs plan→∀{b:Bool},iQ plan xs ys=some b →
  (Op.eqFields (k+1) ⟨rx⟩ ⟨ry⟩ fs).run P w=.ok b w
 |_,_,.nil,b,h=>by
  simp only[iQ,Option.some.injEq] at h;subst h;simp[Op.eqFields]
 |_,_,.cons (f:=f) hn ht he hr,b,h=>by
  simp only[iQ] at h;split at h
  ·rename_i x y e1 e2;obtain⟨r1,k1,v1⟩:=hx.get e1;obtain⟨r2,k2,v2⟩:=hy.get e2;have p1:=j7 ht ⟨rx⟩ f.offset (v:=r1) (by simpa using k1) w;have p2:=j7 ht ⟨ry⟩ f.offset (v:=r2) (by simpa using k2) w;split at h
   ·rename_i e3;have p3:=kr ht.Ie he (SV.of v1) (SV.of v2) e3 k w;have ih:=ox hx hy k w hr h;simp[Op.eqFields,hn,p1,p2,p3,ih]
   ·rename_i e3;have p3:=kr ht.Ie he (SV.of v1) (SV.of v2) e3 k w;simp only[Option.some.injEq] at h;subst h;simp[Op.eqFields,hn,p1,p2,p3]
   ·cases h
  ·cases h
theorem pY {P:Program}{xs ys:List IV}{rx ry:List Value}(hx:c9 G xs rx) (hy:c9 G ys ry) (k:Nat) (w:World) {e:TypeId}{d:TypeDesc}{b0:Nat}{ed:nW}(ht:kW P e d 1 b0 false) (he:kq ed d):∀(is:List Nat) {b:Bool},
  iQ (is.map fun i=>(i,ed)) xs ys=some b→(Op.eqItems (k+1) e 1 ⟨rx⟩ ⟨ry⟩ is).run P w=.ok b w
 |[],b,h=>by
  simp only[List.map_nil,iQ,Option.some.injEq] at h;subst h;simp[Op.eqItems]
 |i::is,b,h=>by
  simp only[List.map_cons,iQ] at h;split at h
  ·rename_i x y e1 e2;obtain⟨r1,k1,v1⟩:=hx.get e1;obtain⟨r2,k2,v2⟩:=hy.get e2;have p1:=j7 ht ⟨rx⟩ i (v:=r1) (by simpa using k1) w;have p2:=j7 ht ⟨ry⟩ i (v:=r2) (by simpa using k2) w;split at h
   ·rename_i e3;have p3:=kr ht.Ie he (SV.of v1) (SV.of v2) e3 k w;have ih:=pY hx hy k w ht he is h;simp[Op.eqItems,p1,p2,p3,ih]
   ·rename_i e3;have p3:=kr ht.Ie he (SV.of v1) (SV.of v2) e3 k w;simp only[Option.some.injEq] at h;subst h;simp[Op.eqItems,p1,p2,p3]
   ·cases h
  ·cases h
theorem O4 (P:Program) (op:BinOp) (t:TypeId) {u:TypeId}(x y:Operand) {ρ:Operand→Value}{o:Oper}(ho:o.op=.binOp op t x y u) {d:TypeDesc}{ed:nW}(ht:P.underlying t=some d) (he:kq ed d)
  {x' y':IV}(h1:SV G x' (ρ x)) (h2:SV G y' (ρ y)) {b:Bool}(e:lx ed x' y'=some b) (w:World) (hop:op=.eql∨op=.neq:=by simp) :
  (execOp ρ o).run P w=.ok (.value (.bool (if op=.neq then !b else b))) w:=by
 have h3:=kr ht he h1 h2 e;have hg:(eqGuard op t x y (ρ x) (ρ y)).run P w=.ok () w:=by
  refine j6 _ _ _ _ _ _ _ ?_ ?_ _
  ·rintro ⟨e1,e2⟩;rw[e1] at h1;unfold lx at e;split at e<;>first | (cases e;done) | (cases h1;done) | (obtain⟨_,_,e3⟩:=h1;cases e3)
  ·rintro cs ds ⟨e1,e2⟩;rw[e1] at h1;unfold lx at e;split at e<;>first | (cases e;done) | (cases h1;done) | (obtain⟨_,_,e3⟩:=h1;cases e3)
 have hb:(binOp op t (ρ x) (ρ y)).run P w=.ok (.bool (if op=.neq then !b else b)) w:=by
  have h4:=h3 9999 w;generalize ρ x=p at *;generalize ρ y=q at *;unfold lx at e
  have key:(Op.equal t p q).run P w=.ok b w→(¬ ∃k a k' c,p=.int k a∧q=.int k' c)→(¬ ∃k a k' c,p=.float k a∧q=.float k' c)→(¬ ∃a c,p=.string a∧q=.string c) →
    (¬ ∃k a b k' c d,p=.complex k a b∧q=.complex k' c d)→(binOp op t p q).run P w=.ok (.bool (if op=.neq then !b else b)) w:=by
   intro k1 k2 k3 k4 k5;rcases hop with rfl | rfl<;>unfold binOp<;>split<;>first
    |(exfalso;rename_i h;cases h;done)
    |(exfalso;exact k2 ⟨_,_,_,_,rfl,rfl⟩)
    |(exfalso;exact k3 ⟨_,_,_,_,rfl,rfl⟩)
    |(exfalso;exact k4 ⟨_,_,rfl,rfl⟩)
    |(exfalso;exact k5 ⟨_,_,_,_,_,_,rfl,rfl⟩)
    |(simp[k1];done)
    |skip
   all_goals simp_all
  split at e<;>first | (cases e;done) | skip
  all_goals
   first | (obtain⟨_,_,rfl⟩:=h1) | cases h1
   first | (obtain⟨_,_,rfl⟩:=h2) | cases h2
  case h_2 =>
   split at e
   ·rename_i hk;subst hk;simp only[Option.some.injEq] at e;subst e;rcases hop with rfl | rfl<;>simp[binOp,Op.intCmp,bne]
   ·cases e
  case h_3 =>
   simp only[Option.some.injEq] at e;subst e;rcases hop with rfl | rfl<;>simp[binOp,Op.stringOp,toList_mk]
  case h_4 =>
   split at e
   ·rename_i hk;subst hk;simp only[Option.some.injEq] at e;subst e;rcases hop with rfl | rfl<;>simp[binOp,Op.floatCmp,bne]
   ·cases e
  all_goals exact key h4 (by simp) (by simp) (by simp) (by simp)
 simp[execOp,ho,hg,hb]
theorem EO (h:SR X N G st a w) {op:Op}{po:dW}{xs:List Operand}(hp:PR X.P op po xs) {vs:List IV}(hs:nY G vs (xs.map a.eval)) {v:IV}(hv:po.ev vs=some v)
  (o:Oper) (ho:o.op=op):∃r,(execOp a.eval o).run X.P w=.ok (.value r) w∧SV G v r:=by
 have key:∀(s:Sem Value),execOp a.eval o=(do pure (.value (←s)))→(∃r,s.run X.P w=.ok r w∧SV G v r)→∃r,(execOp a.eval o).run X.P w=.ok (.value r) w∧SV G v r :=
  fun s e ⟨r,h1,h2⟩=>⟨r,JL _ _ s _ e h1,h2⟩
 have keyc:∀(b:Builtin) (c:Call) (s:Sem Value),o.op=.call c→c.callee=.builtin b→(∀cs,builtin b c.argTypes o.type cs (c.args.map a.eval)=(do pure (.value (←s)))) →
   (∃r,s.run X.P w=.ok r w∧SV G v r)→∃r,(execOp a.eval o).run X.P w=.ok (.value r) w∧SV G v r:=by
  intro b c s e ec e2 ⟨r,h1,h2⟩;refine⟨r,?_,h2⟩;simp only[execOp,e,resolve,ec,Sem.run_bind,Sem.run_pure,Result.andThen_ok,invoke,e2,h1]
 cases hp with
 |pick c x y =>
  obtain⟨c',x',y',rfl⟩:=Mh hs
  cases c'<;>simp only[dW.ev] at hv<;>first | (cases hv;done) | skip
  rename_i b;simp only[Option.some.injEq] at hv;subst hv;have h1:SV G (.bool b) (a.eval c):=hs.2 0 _ _ rfl rfl;have h2:SV G x' (a.eval x):=hs.2 1 _ _ rfl rfl;have h3:SV G y' (a.eval y):=hs.2 2 _ _ rfl rfl;refine⟨if b then a.eval x else a.eval y,?_,?_⟩
  ·simp only[execOp,ho,h1.kJ,asBool,Sem.run_bind,Sem.run_pure,Result.andThen_ok]
  ·cases b
   ·exact h3
   ·exact h2
 |build t ps zero parts n bytes fields sz ht hz hf hpa hi =>
  simp only[dW.ev] at hv
  cases e:dT zero parts vs with
  |none=>rw[e] at hv;cases hv
  |some cs =>
   rw[e] at hv;simp only[Option.map_some,Option.some.injEq] at hv;subst hv;refine key (Instr.build t (ps.map fun (i,x)=>(i,a.eval x))) (by simp only[execOp,ho]) ?_;obtain⟨i,z,hi1,hi2,hi3,hi4,hi5⟩:=hz;have hplaces:∀w,(fields.mapM fun f=>(do pure (f.offset,←sizeOf f.type):Sem (Nat×Nat))).run X.P w=.ok (fields.mapIdx fun j f=>(f.offset,sz j)) w :=
    fun w=>CH X.P sz fields hf w
   have hps:(ps.map fun (i,x)=>(i,a.eval x)).toList=ps.toList.map fun p=>(p.1,a.eval p.2):=by simp
   obtain⟨arr',h3,h4⟩:=qv (G:=G) ((fields.mapIdx fun j f=>(f.offset,sz j))[·]?) (ps.toList.map fun p=>(p.1,a.eval p.2)) parts vs zero z.cells cs (by rw[hpa];simp)
    (by
     intro j p q e1 e2;subst hpa;simp only[List.getElem?_map,Option.map_eq_some_iff] at e1 e2;obtain⟨y,ey,rfl⟩:=e1;obtain⟨y',ey',rfl⟩:=e2;rw[ey] at ey';simp only[Option.some.injEq] at ey';subst ey';have:=hi y (List.mem_of_getElem? ey);simp[Array.getElem?_eq_getElem this])
    (by have:=hs.1;simpa using this.symm)
    (by
     intro j p v e1 e2;simp only[List.getElem?_map,Option.map_eq_some_iff] at e1;obtain⟨y,ey,rfl⟩:=e1;exact hs.2 j v _ e2 (by simp[ey]))
    (hi5 G) e
   refine⟨.agg arr',?_,VR.B1 h4⟩;have hz':(zeroValue t).run X.P w=.ok z w:=by simp[zeroValue,typeInfo,hi1,hi2]
   simp only[Instr.build,Sem.run_bind,hz',aN ht.Ie,Result.andThen_ok,hplaces,hps,h3,Sem.run_pure]
 |Ji t ps zero parts n bytes len e sz d b ag ht hz hsz hpa =>
  simp only[dW.ev] at hv
  cases e:dT zero parts vs with
  |none=>rw[e] at hv;cases hv
  |some cs =>
   rw[e] at hv;simp only[Option.map_some,Option.some.injEq] at hv;subst hv;refine key (Instr.build t (ps.map fun (i,x)=>(i,a.eval x))) (by simp only[execOp,ho]) ?_;obtain⟨i,z,hi1,hi2,hi3,hi4,hi5⟩:=hz;have hps:(ps.map fun (i,x)=>(i,a.eval x)).toList=ps.toList.map fun p=>(p.1,a.eval p.2):=by simp
   obtain⟨arr',h3,h4⟩:=qv (G:=G) (fun i=>some (i*sz,sz)) (ps.toList.map fun p=>(p.1,a.eval p.2)) parts vs zero z.cells cs (by rw[hpa];simp)
    (by
     intro j p q e1 e2;subst hpa;simp only[List.getElem?_map,Option.map_eq_some_iff] at e1 e2;obtain⟨y,ey,rfl⟩:=e1;obtain⟨y',ey',rfl⟩:=e2;rw[ey] at ey';simp only[Option.some.injEq] at ey';subst ey';rfl)
    (by have:=hs.1;simpa using this.symm)
    (by
     intro j p v e1 e2;simp only[List.getElem?_map,Option.map_eq_some_iff] at e1;obtain⟨y,ey,rfl⟩:=e1;exact hs.2 j v _ e2 (by simp[ey]))
    (hi5 G) e
   refine⟨.agg arr',?_,VR.B1 h4⟩;have hz':(zeroValue t).run X.P w=.ok z w:=by simp[zeroValue,typeInfo,hi1,hi2]
   simp only[Instr.build,Sem.run_bind,hz',aN ht.Ie,dX hsz,Result.andThen_ok,hps,h3,Sem.run_pure]
 |nilCheck x =>
  obtain⟨x',rfl⟩:=f4 hs;have h1:SV G x' (a.eval x):=hs.2 0 _ _ rfl rfl;have hf:(∃p,a.eval x=.pointer (some p))∨(∃f r c,a.eval x=.func (.func f) r c)∨(∃b r c,a.eval x=.func (.yield b) r c):=by
   generalize a.eval x=r at h1;simp only[dW.ev] at hv;split at hv<;>first | (cases hv;done) | skip
   ·cases h1;exact .inl ⟨_,rfl⟩
   ·cases h1;exact .inl ⟨_,rfl⟩
   ·obtain⟨b,_,e⟩:=h1;exact .inl ⟨_,e⟩
   ·cases h1;exact .inr (.inl ⟨_,_,_,rfl⟩)
   ·cases h1;exact .inr (.inr ⟨_,_,_,rfl⟩)
  have hv':x'=v:=by simp only[dW.ev] at hv;split at hv<;>first | (cases hv;done) | (simpa using hv)
  subst hv';refine⟨a.eval x,?_,h1⟩;rcases hf with ⟨p,e⟩ | ⟨f,r,c,e⟩ | ⟨b,r,c,e⟩<;>simp[execOp,ho,e]
 |bin op t x y u =>
  obtain⟨x',y',rfl⟩:=jr hs;have h1:SV G x' (a.eval x):=hs.2 0 _ _ rfl rfl;have h2:SV G y' (a.eval y):=hs.2 1 _ _ rfl rfl;simp only[dW.ev] at hv;obtain⟨r,h3,h4⟩:=Hh X.P op t h1 h2 hv (w:=w);have hg:(eqGuard op t x y (a.eval x) (a.eval y)).run X.P w=.ok () w:=by
   unfold eX at hv;split at hv
   ·rw[h1.eS,h2.eS];exact j6 _ _ _ _ _ _ _ (by simp) (by simp) _
   ·rw[h1.ig,h2.ig];exact j6 _ _ _ _ _ _ _ (by simp) (by simp) _
   ·cases hv
  exact⟨r,by simp[execOp,ho,hg,h3],h4⟩
 |eql t x y u d n bytes agg ed ht he =>
  obtain⟨x',y',rfl⟩:=jr hs;have h1:SV G x' (a.eval x):=hs.2 0 _ _ rfl rfl;have h2:SV G y' (a.eval y):=hs.2 1 _ _ rfl rfl;simp only[dW.ev] at hv
  cases e:lx ed x' y' with
  |none=>rw[e] at hv;cases hv
  |some b =>rw[e] at hv;simp only[Option.map_some,Option.some.injEq] at hv;subst hv;have h3:=kr ht.Ie he h1 h2 e;exact⟨_,O4 X.P .eql t x y ho ht.Ie he h1 h2 e _,VR.bool _⟩
 |neq t x y u d n bytes agg ed ht he =>
  obtain⟨x',y',rfl⟩:=jr hs;have h1:SV G x' (a.eval x):=hs.2 0 _ _ rfl rfl;have h2:SV G y' (a.eval y):=hs.2 1 _ _ rfl rfl;simp only[dW.ev] at hv
  cases e:lx ed x' y' with
  |none=>rw[e] at hv;cases hv
  |some b =>rw[e] at hv;simp only[Option.map_some,Option.some.injEq] at hv;subst hv;have h3:=kr ht.Ie he h1 h2 e;exact⟨_,O4 X.P .neq t x y ho ht.Ie he h1 h2 e _,VR.bool _⟩
 |lu neg op t x y u fields plan hop ht hp hg hpl =>
  obtain⟨x',y',rfl⟩:=jr hs;have h1:SV G x' (a.eval x):=hs.2 0 _ _ rfl rfl;have h2:SV G y' (a.eval y):=hs.2 1 _ _ rfl rfl;have key:∀xs ys,x'=.agg xs→y'=.agg ys→(iQ plan xs ys).map (fun b=>IV.bool (if neg then !b else b))=some v→∃r,(execOp a.eval o).run X.P w=.ok (.value r) w∧SV G v r:=by
   intro xs ys e1 e2 hq;subst e1;subst e2;obtain⟨rx,q1,g1⟩:=VR.lA (h1.vr rfl);obtain⟨ry,q2,g2⟩:=VR.lA (h2.vr rfl)
   cases e:iQ plan xs ys with
   |none=>rw[e] at hq;cases hq
   |some b =>
    rw[e] at hq;simp only[Option.map_some,Option.some.injEq] at hq;subst hq;have hf:X.P.underlying t=some (.struct (X.P.fieldsOf t)):=by simp[Program.fieldsOf,ht]
    have hfo:X.P.fieldsOf t=fields:=by simp[Program.fieldsOf,ht]
    have heq:=run_equalIn_agg (P:=X.P) w 9999 t ⟨rx⟩ ⟨ry⟩ hf hp;rw[hfo,ox g1 g2 9998 w hpl e] at heq;have hgd:=run_eqGuard_agg (P:=X.P) w op t x y ⟨rx⟩ ⟨ry⟩ hg
    cases neg with
    |true =>simp only[if_true] at hop;subst hop;exact⟨.bool (!b),by simp[execOp,ho,q1,q2,hgd,run_neq_struct,heq],VR.bool _⟩
    |false =>simp only[Bool.false_eq_true,if_false] at hop;subst hop;exact⟨.bool b,by simp[execOp,ho,q1,q2,hgd,run_eql_struct,heq],VR.bool _⟩
  cases x'<;>first | (simp[dW.ev] at hv;done) | skip
  cases y'<;>first | (simp[dW.ev] at hv;done) | skip
  exact key _ _ rfl rfl (by simpa only[dW.ev] using hv)
 |O3 neg op t x y u len e d0 b0 ed plan hop ht hs0 he0 hg hpl =>
  obtain⟨x',y',rfl⟩:=jr hs;have h1:SV G x' (a.eval x):=hs.2 0 _ _ rfl rfl;have h2:SV G y' (a.eval y):=hs.2 1 _ _ rfl rfl;have key:∀xs ys,x'=.agg xs→y'=.agg ys→(iQ plan xs ys).map (fun b=>IV.bool (if neg then !b else b))=some v→∃r,(execOp a.eval o).run X.P w=.ok (.value r) w∧SV G v r:=by
   intro xs ys e1 e2 hq;subst e1;subst e2;obtain⟨rx,q1,g1⟩:=VR.lA (h1.vr rfl);obtain⟨ry,q2,g2⟩:=VR.lA (h2.vr rfl)
   cases eb:iQ plan xs ys with
   |none=>rw[eb] at hq;cases hq
   |some b =>
    rw[eb] at hq;simp only[Option.map_some,Option.some.injEq] at hq;subst hq;obtain⟨inf,hi1,hi2,-⟩:=hs0.info;have hc:X.P.cellsOf e=1:=by simp[Program.cellsOf,hi1,hi2]
    have heq:=run_equalIn_array (P:=X.P) w 9999 ⟨rx⟩ ⟨ry⟩ ht hi1;rw[hc,pY g1 g2 9998 w hs0 he0 (List.range len) (by rw[←hpl];exact eb)] at heq;have hgd:=run_eqGuard_agg (P:=X.P) w op t x y ⟨rx⟩ ⟨ry⟩ hg
    cases neg with
    |true =>simp only[if_true] at hop;subst hop;exact⟨.bool (!b),by simp[execOp,ho,q1,q2,hgd,run_neq_struct,heq],VR.bool _⟩
    |false =>simp only[Bool.false_eq_true,if_false] at hop;subst hop;exact⟨.bool b,by simp[execOp,ho,q1,q2,hgd,run_eql_struct,heq],VR.bool _⟩
  cases x'<;>first | (simp[dW.ev] at hv;done) | skip
  cases y'<;>first | (simp[dW.ev] at hv;done) | skip
  exact key _ _ rfl rfl (by simpa only[dW.ev] using hv)
 |un op t x =>
  obtain⟨x',rfl⟩:=f4 hs;have h1:SV G x' (a.eval x):=hs.2 0 _ _ rfl rfl;simp only[dW.ev] at hv;refine key (Op.unary op (a.eval x)) (by simp only[execOp,ho]) ?_;unfold iA at hv;split at hv<;>first | (cases hv;done) | skip
  ·rw[h1.eS];simp only[Option.some.injEq] at hv;subst hv;exact⟨_,rfl,VR.int _ _⟩
  ·rw[h1.eS];simp only[Option.some.injEq] at hv;subst hv;exact⟨_,rfl,VR.int _ _⟩
  ·rw[h1.kJ];simp only[Option.some.injEq] at hv;subst hv;exact⟨_,rfl,VR.bool _⟩
 |dg s d x k hs' hd =>
  obtain⟨x',rfl⟩:=f4 hs;have h1:SV G x' (a.eval x):=hs.2 0 _ _ rfl rfl
  cases x'<;>simp only[dW.ev] at hv<;>first | (cases hv;done) | skip
  simp only[Option.some.injEq] at hv;subst hv;obtain⟨k',hs'⟩:=hs';exact⟨_,by simp[execOp,ho,convert,aN hs',aN hd,h1.eS,Conv.intToInt]<;>rfl,VR.int _ _⟩
 |pr s d x hs' hd =>
  obtain⟨x',rfl⟩:=f4 hs;have h1:SV G x' (a.eval x):=hs.2 0 _ _ rfl rfl
  cases x'<;>simp only[dW.ev] at hv<;>first | (cases hv;done) | skip
  simp only[Option.some.injEq] at hv;subst hv;exact⟨_,by simp[execOp,ho,convert,aN hs',aN hd,h1.ig]<;>rfl,VR.str _⟩
 |oC s d x hs' hd =>
  obtain⟨x',rfl⟩:=f4 hs;have h1:SV G x' (a.eval x):=hs.2 0 _ _ rfl rfl
  cases x'<;>simp only[dW.ev] at hv<;>first | (cases hv;done) | skip
  simp only[Option.some.injEq] at hv;subst hv;obtain⟨k',hs'⟩:=hs';refine⟨.string (Utf8.encode _),by simp[execOp,ho,convert,aN hs',aN hd,h1.eS,Conv.intToString]<;>rfl,?_⟩;exact VR.str _
 |gT s d x e hs' he hd =>
  obtain⟨x',rfl⟩:=f4 hs;have h1:SV G x' (a.eval x):=hs.2 0 _ _ rfl rfl
  cases x'<;>simp only[dW.ev] at hv<;>first | (cases hv;done) | skip
  ·simp only[Option.some.injEq] at hv;subst hv;have e1:a.eval x=.slice none 0 0:=by generalize a.eval x=r at h1;cases h1;rfl
   refine⟨.string .empty,?_,VR.str []⟩;simp[execOp,ho,convert,aN hs',aN hd,aN he,e1,Conv.bytesToString]
  ·rename_i row len;split at hv
   ·rename_i hl
    cases e2:bo row with
    |none=>rw[e2] at hv;cases hv
    |some t =>
     rw[e2] at hv;simp only[Option.map_some,Option.some.injEq] at hv;subst hv;generalize hrx:a.eval x=rx at h1
     cases h1 with
     |zv a0 =>
      have ht0:t=[]:=by simpa[bo] using e2.symm
      subst ht0;refine⟨.string .empty,?_,VR.str []⟩;simp[execOp,ho,convert,aN hs',aN hd,aN he,hrx,Conv.bytesToString,loadCells];rfl
     |sl _ _ b o' cap g g1 g2 g3 =>
      have hcs:c9 G row (List.ofFn fun i:Fin row.length=>g i):=c9.ku (by simp) (by
       intro i v r e3 e4;obtain⟨hi,rfl⟩:=List.getElem?_eq_some_iff.1 e3;simp[hi] at e4;rw[←e4];exact (g2 i hi).EJ)
      have hld:(loadCells ⟨b,o',none⟩ len).run X.P w=.ok ⟨List.ofFn fun i:Fin row.length=>g i⟩ w:=by
       have:=run_loadCells (P:=X.P) (w:=w) ⟨b,o',none⟩ len g (by
        intro j hj;rw[eQ];exact h.wf.dB _ _ _ (g1 j (by omega)))
       rw[this];congr 1;apply Array.ext';simp only[Array.toList_map,Array.toList_range];apply List.ext_getElem
       ·simp[hl]
       ·intro i h1 h2;simp
      refine⟨.string ⟨⟨t⟩⟩,?_,VR.str t⟩;simp only[execOp,ho,convert,aN hs',aN hd,aN he,hrx,Conv.bytesToString,Sem.run_bind,Result.andThen_ok,hld];rw[←Array.forIn_toList,vZ hcs e2 X.P _ (fun n acc=>rfl)];simp
   ·cases hv
 |pE t x d ht hi =>
  obtain⟨x',rfl⟩:=f4 hs;have h1:SV G x' (a.eval x):=hs.2 0 _ _ rfl rfl;simp only[dW.ev] at hv;split at hv
  ·cases hv
  ·rename_i hL;simp only[Option.some.injEq] at hv;subst hv;refine⟨.iface t (a.eval x),?_,VR.iface _ _ _ (h1.vr (by simpa using hL))⟩
   cases d<;>first | (exact absurd rfl (hi _)) | simp[execOp,ho,Instr.makeInterface,aN ht]
 |mQ f first cap =>
  simp only[dW.ev] at hv;split at hv
  ·rename_i hall;simp only[Option.some.injEq] at hv;subst hv;refine⟨.func (.func f) (first.map a.eval) (cap.map a.eval),by simp[execOp,ho,Instr.makeFunc,pure],?_⟩;have hvr:c9 G vs ((first.toList++cap.toList).map a.eval):=by refine c9.ku hs.1 fun i v r e1 e2=>(hs.2 i v r e1 e2).vr ?_;have:=List.all_eq_true.1 hall v (List.mem_of_getElem? e1);simpa using this
   have e1:(first.map a.eval)=⟨((first.toList++cap.toList).map a.eval).take first.size⟩:=by apply Array.ext';simp
   have e2:(cap.map a.eval)=⟨((first.toList++cap.toList).map a.eval).drop first.size⟩:=by apply Array.ext';simp
   rw[e1,e2];exact VR.func _ _ _ _ _ (hvr.take _).1 (hvr.drop _).1 (hvr.take _).2 (hvr.drop _).2
  ·cases hv
 |fieldAddr t x i fields fd d n bytes agg ht hf hsz h0 =>
  obtain⟨x',rfl⟩:=f4 hs;have h1:SV G x' (a.eval x):=hs.2 0 _ _ rfl rfl;simp only[dW.ev] at hv;have:∃(row:List IV) (k o:Nat),x'=.pI row o∨x'=.pB k o∨x'=.pL k o:=by
   cases x'<;>first | (cases hv;done) | exact⟨_,0,_,.inl rfl⟩ | exact⟨[],_,_,.inr (.inl rfl)⟩ | exact⟨[],_,_,.inr (.inr rfl)⟩
  obtain⟨b,o',e,hq⟩:=h1.addr (n:=fd.offset) (q:=v) (by cases x'<;>simp at hv ⊢<;>exact hv.symm) this;refine⟨_,?_,hq⟩;simp[execOp,ho,Instr.fieldAt,aN ht,hf,e,Instr.sureAddr,fieldPlace,dX hsz,h0,eQ]
 |field t x i fields fd d n bytes agg ht hf hsz =>
  obtain⟨x',rfl⟩:=f4 hs;have h1:SV G x' (a.eval x):=hs.2 0 _ _ rfl rfl
  cases x'<;>simp only[dW.ev] at hv<;>first | (cases hv;done) | skip
  obtain⟨rc,e,hc⟩:=VR.lA h1;obtain⟨r,h2,h3⟩:=xD hsz hc hv w;exact⟨r,by simp[execOp,ho,Instr.field,aN ht,hf,e,asAgg,h2],SV.of h3⟩
 |jW t x i len e d n bytes agg ht hsz =>
  obtain⟨x',i',rfl⟩:=jr hs;have h1:SV G x' (a.eval x):=hs.2 0 _ _ rfl rfl;have h2:SV G i' (a.eval i):=hs.2 1 _ _ rfl rfl
  cases i'<;>simp only[dW.ev] at hv<;>first | (cases hv;done) | skip
  rename_i k q;split at hv
  ·rename_i hr;have:∃(row:List IV) (k o:Nat),x'=.pI row o∨x'=.pB k o∨x'=.pL k o:=by
    cases x'<;>first | (cases hv;done) | exact⟨_,0,_,.inl rfl⟩ | exact⟨[],_,_,.inr (.inl rfl)⟩ | exact⟨[],_,_,.inr (.inr rfl)⟩
   obtain⟨b,o',e',hq⟩:=h1.addr (n:=q.toNat*n) (q:=v) (by cases x'<;>simp at hv ⊢<;>exact hv.symm) this;refine⟨_,?_,hq⟩;simp[execOp,ho,Instr.indexAt,aN ht,h2.eS,jK,e',Instr.sureAddr,hr,dX hsz,eQ]
  ·cases hv
 |aw t x i e d n bytes agg ht hsz =>
  obtain⟨x',i',rfl⟩:=jr hs;have h1:SV G x' (a.eval x):=hs.2 0 _ _ rfl rfl;have h2:SV G i' (a.eval i):=hs.2 1 _ _ rfl rfl
  cases i'<;>simp only[dW.ev] at hv<;>first | (cases hv;done) | skip
  rename_i k q
  cases x'<;>simp only at hv<;>first | (cases hv;done) | skip
  ·split at hv
   ·rename_i row len hr;simp only[Option.some.injEq] at hv;subst hv;generalize hrx:a.eval x=rx at h1
    cases h1 with
    |zv a0=>omega
    |sl _ _ b o' cap g g1 g2 g3 =>refine⟨.pointer (some ⟨b,o'+q.toNat*n,none⟩),?_,VR.pI _ _ _ _ g g1 g2⟩;simp[execOp,ho,Instr.indexAt,aN ht,h2.eS,jK,hrx,hr,dX hsz,eQ]
   ·cases hv
  ·split at hv
   ·rename_i id off len sz hr;obtain⟨hr1,hr2,rfl⟩:=hr;simp only[Option.some.injEq] at hv;subst hv;generalize hrx:a.eval x=rx at h1
    cases h1 with
    |sB _ _ _ _ b cap hb hc =>refine⟨.pointer (some ⟨b,off+q.toNat*sz,none⟩),?_,VR.pB _ _ _ hb⟩;simp[execOp,ho,Instr.indexAt,aN ht,h2.eS,jK,hrx,hr1,hr2,dX hsz,eQ]
   ·cases hv
 |ji t x i len e d n bytes agg ht hsz =>
  obtain⟨x',i',rfl⟩:=jr hs;have h1:SV G x' (a.eval x):=hs.2 0 _ _ rfl rfl;have h2:SV G i' (a.eval i):=hs.2 1 _ _ rfl rfl
  cases x'<;>cases i'<;>simp only[dW.ev] at hv<;>first | (cases hv;done) | skip
  obtain⟨rc,e,hc⟩:=VR.lA h1;split at hv
  ·rename_i hr;obtain⟨r,h3,h4⟩:=xD hsz hc hv w;exact⟨r,by simp[execOp,ho,Instr.index,aN ht,e,h2.eS,jK,hr,dX hsz,h3],SV.of h4⟩
  ·cases hv
 |cm t x i ht =>
  obtain⟨x',i',rfl⟩:=jr hs;have h1:SV G x' (a.eval x):=hs.2 0 _ _ rfl rfl;have h2:SV G i' (a.eval i):=hs.2 1 _ _ rfl rfl
  cases x'<;>cases i'<;>simp only[dW.ev] at hv<;>first | (cases hv;done) | skip
  rename_i s k n;split at hv
  ·rename_i hn
   cases e:s[n.toNat]? with
   |none=>rw[e] at hv;cases hv
   |some b =>
    rw[e] at hv;simp only[Option.map_some,Option.some.injEq] at hv;subst hv;refine⟨.int .u8 b.toNat,?_,VR.int _ _⟩;have:(ByteArray.mk ⟨s⟩)[n.toNat]?=some b:=by rw[ByteArray.NG,e]
    simp[execOp,ho,Instr.index,aN ht,h1.ig,h2.eS,jK,hn,this]
  ·cases hv
 |mS t x lo hi e d n bytes agg ht hsz =>
  obtain⟨x',us,rfl,h1,h2⟩:=hs.wv;simp only[dW.ev] at hv
  cases e1:f9 lo.isSome hi.isSome us with
  |none=>rw[e1] at hv;cases x'<;>cases hv
  |some lh =>
   obtain⟨l,u⟩:=lh;rw[e1] at hv;obtain⟨k1,k2⟩:=AQ h2 e1;generalize hrx:a.eval x=rx at h1;have hx:∀r,(Instr.slice t rx (lo.map a.eval) (hi.map a.eval) none).run X.P w=.ok r w→(execOp a.eval o).run X.P w=.ok (.value r) w:=by intro r hr;simp[execOp,ho,Instr.sliceAt,aN ht,hrx,hr]
   cases x'<;>simp only at hv<;>first | (cases hv;done) | skip
   ·cases e2:fO 0 l u with
    |none=>rw[e2] at hv;cases hv
    |some lh =>
     rw[e2] at hv;simp only[Option.bind_some,Option.some.injEq] at hv;subst hv
     cases h1
     obtain⟨l0,h0⟩:=lh;obtain⟨hb,hb1,hb2⟩:=kn (P:=X.P) true (Nat.le_refl 0) k1 k2 e2 w;have:l0=0:=by omega
     have:h0=0:=by omega
     subst_vars
     exact⟨_,hx (.slice none 0 0) (by simp[Instr.slice,aN ht,hb,dX hsz]),VR.aa⟩
   ·rename_i row len
    cases e2:fO len l u with
    |none=>rw[e2] at hv;cases hv
    |some lh =>
     rw[e2] at hv;simp only[Option.bind_some,Option.some.injEq] at hv;subst hv;obtain⟨l0,h0⟩:=lh;have hvr:=h1
     cases h1 with
     |zv a0 =>
      obtain⟨hb,hb1,hb2⟩:=kn (P:=X.P) true (Nat.le_refl 0) k1 k2 e2 w;have:l0=0:=by omega
      have:h0=0:=by omega
      subst_vars
      exact⟨_,hx (.slice (some a0) 0 0) (by simp[Instr.slice,aN ht,hb,dX hsz]),by simpa using SV.of (VR.zv a0)⟩
     |sl _ _ b o' cap g g1 g2 g3 =>obtain⟨hb,hb1,hb2⟩:=kn (P:=X.P) true g3 k1 k2 e2 w;refine⟨_,hx _ ?_,SV.of (VR.Sy (sz:=n) (l:=l0) (h:=h0) hvr rfl hb1 hb2)⟩;simp[Instr.slice,aN ht,hb,dX hsz]
   ·rename_i id off len sz;split at hv
    ·rename_i e3;subst e3
     cases e2:fO len l u with
     |none=>rw[e2] at hv;cases hv
     |some lh =>
      rw[e2] at hv;obtain⟨l0,h0⟩:=lh;simp only[Option.bind_some] at hv
      cases h1 with
      |sB _ _ _ _ b cap g1 g3 =>
       obtain⟨hb,hb1,hb2⟩:=kn (P:=X.P) true g3 k1 k2 e2 w;have hr:=hx (.slice (if cap=l0 then some ⟨b,off,none⟩ else some (Addr.add ⟨b,off,none⟩ (l0*sz))) (h0-l0) (cap-l0)) (by
        simp[Instr.slice,aN ht,hb,dX hsz])
       refine⟨_,hr,?_⟩;split at hv
       ·rename_i e4;simp only[Option.some.injEq] at hv;subst hv;have:h0-l0=0:=by omega
        rw[this];split
        ·exact VR.sl _ _ _ _ _ (fun _=>undef) (fun i hi=>by simp at hi) (fun i hi=>by simp at hi) (Nat.zero_le _)
        ·rw[eQ];exact VR.sl _ _ _ _ _ (fun _=>undef) (fun i hi=>by simp at hi) (fun i hi=>by simp at hi) (Nat.zero_le _)
       ·rename_i e4;simp only[Option.some.injEq] at hv;subst hv;rw[if_neg (by omega),eQ];exact VR.sB _ _ _ _ _ _ g1 (by omega)
    ·cases hv
 |bU t x lo hi ht =>
  obtain⟨x',us,rfl,h1,h2⟩:=hs.wv
  cases x'<;>simp only[dW.ev] at hv<;>first | (cases hv;done) | skip
  rename_i s
  cases e1:f9 lo.isSome hi.isSome us with
  |none=>rw[e1] at hv;cases hv
  |some lh =>
   obtain⟨l,u⟩:=lh;rw[e1] at hv;obtain⟨k1,k2⟩:=AQ h2 e1;simp only at hv
   cases e2:fO s.length l u with
   |none=>rw[e2] at hv;cases hv
   |some lh =>
    rw[e2] at hv;simp only[Option.bind_some,Option.some.injEq] at hv;subst hv;obtain⟨l0,h0⟩:=lh;obtain⟨hb,hb1,hb2⟩:=kn (P:=X.P) false (Nat.le_refl s.length) k1 k2 e2 w;refine⟨.string ⟨⟨(s.drop l0).take (h0-l0)⟩⟩,?_,VR.str _⟩;have e3:(ByteArray.mk ⟨s⟩).extract l0 h0=⟨⟨(s.drop l0).take (h0-l0)⟩⟩:=by apply ByteArray.ext;apply Array.ext';simp[List.extract_eq_take_drop]
    have e4:(ByteArray.mk ⟨s⟩).size=s.length:=rfl;simp[execOp,ho,Instr.sliceAt,Instr.slice,aN ht,h1.ig,e4,hb,e3]
 |tr t x lo hi len e d n bytes agg ht hsz =>
  obtain⟨x',us,rfl,h1,h2⟩:=hs.wv;simp only[dW.ev] at hv
  cases e1:f9 lo.isSome hi.isSome us with
  |none=>rw[e1] at hv;cases x'<;>cases hv
  |some lh =>
   obtain⟨l,u⟩:=lh;rw[e1] at hv;obtain⟨k1,k2⟩:=AQ h2 e1;generalize hrx:a.eval x=rx at h1
   cases x'<;>simp only at hv<;>first | (cases hv;done) | skip
   ·rename_i row o'
    cases e2:fO len l u with
    |none=>rw[e2] at hv;cases hv
    |some lh =>
     rw[e2] at hv;obtain⟨l0,h0⟩:=lh;simp only[Option.bind_some] at hv;obtain⟨hb,hb1,hb2⟩:=kn (P:=X.P) false (Nat.le_refl len) k1 k2 e2 w
     cases e3:cut row (o'+l0*n) ((h0-l0)*n) with
     |none=>rw[e3] at hv;cases hv
     |some r =>
      rw[e3] at hv;simp only[Option.map_some,Option.some.injEq] at hv;subst hv;unfold cut at e3;split at e3
      ·rename_i hle;simp only[Option.some.injEq] at e3;subst e3
       cases h1 with
       |pI _ _ b o g g1 g2 =>
        refine⟨.slice (some (if len=l0 then ⟨b,o+o',none⟩ else Addr.add ⟨b,o+o',none⟩ (l0*n))) (h0-l0) (len-l0),?_,?_⟩
        ·simp[execOp,ho,Instr.sliceAt,aN ht,hrx,Instr.sureAddr,hb,dX hsz]
        ·split
         ·rename_i e4;have:h0-l0=0:=by omega
          rw[this];refine VR.sl _ _ _ _ _ g ?_ ?_ (Nat.zero_le _)
          ·intro i hi;simp at hi
          ·intro i hi;simp at hi
         ·rw[eQ];refine VR.sl _ _ _ _ _ (fun i=>g (o'+l0*n+i)) ?_ ?_ (by omega)
          ·intro i hi;simp at hi;rw[show o+o'+l0*n+i=o+(o'+l0*n+i) by omega];exact g1 _ (by omega)
          ·intro i hi;simp at hi;simp only[List.getElem_take,List.getElem_drop];exact g2 _ (by omega)
      ·cases e3
   ·rename_i id o'
    cases e2:fO len l u with
    |none=>rw[e2] at hv;cases hv
    |some lh =>
     rw[e2] at hv;obtain⟨l0,h0⟩:=lh;simp only[Option.bind_some] at hv;obtain⟨hb,hb1,hb2⟩:=kn (P:=X.P) false (Nat.le_refl len) k1 k2 e2 w
     cases h1 with
     |pB _ _ b g1 =>
      refine⟨.slice (some (if len=l0 then ⟨b,o',none⟩ else Addr.add ⟨b,o',none⟩ (l0*n))) (h0-l0) (len-l0),?_,?_⟩
      ·simp[execOp,ho,Instr.sliceAt,aN ht,hrx,Instr.sureAddr,hb,dX hsz]
      ·split at hv
       ·rename_i e4;simp only[Option.some.injEq] at hv;subst hv;have:h0-l0=0:=by omega
        rw[this];split
        ·exact VR.sl _ _ _ _ _ (fun _=>undef) (fun i hi=>by simp at hi) (fun i hi=>by simp at hi) (Nat.zero_le _)
        ·rw[eQ];exact VR.sl _ _ _ _ _ (fun _=>undef) (fun i hi=>by simp at hi) (fun i hi=>by simp at hi) (Nat.zero_le _)
       ·rename_i e4;simp only[Option.some.injEq] at hv;subst hv;rw[if_neg (by omega),eQ];exact VR.sB _ _ _ _ _ _ g1 (by omega)
 |extract x i =>
  obtain⟨x',rfl⟩:=f4 hs;have h1:SV G x' (a.eval x):=hs.2 0 _ _ rfl rfl
  cases x'<;>simp only[dW.ev] at hv<;>first | (cases hv;done) | skip
  obtain⟨rc,e,hc⟩:=VR.Bs h1;obtain⟨r,h2,h3⟩:=hc.get hv;exact⟨r,by simp[execOp,ho,Instr.extract,e,h2],SV.of h3⟩
 |dF x t ht =>
  obtain⟨x',rfl⟩:=f4 hs;have h1:SV G x' (a.eval x):=hs.2 0 _ _ rfl rfl
  cases x'<;>simp only[dW.ev] at hv<;>first | (cases hv;done) | skip
  simp only[Option.some.injEq] at hv;subst hv;refine keyc .len _ (Builtin.len_ #[t] o.type #[a.eval x]) ho rfl (fun cs=>by simp[builtin]) ⟨_,?_,VR.int _ _⟩;rw[h1.ig];simp[Builtin.len_,aN ht,goInt]<;>rfl
 |ay x t e ht =>
  obtain⟨x',rfl⟩:=f4 hs;have h1:SV G x' (a.eval x):=hs.2 0 _ _ rfl rfl;simp only[dW.ev] at hv;refine keyc .len _ (Builtin.len_ #[t] o.type #[a.eval x]) ho rfl (fun cs=>by simp[builtin]) ?_
  cases x'<;>simp only[Option.some.injEq] at hv<;>first | (cases hv;done) | skip
  all_goals
   subst hv;generalize a.eval x=r at h1
   cases h1<;>exact⟨_,by simp[Builtin.len_,aN ht,goInt, *]<;>rfl,VR.int _ _⟩
 |qB x t n e ht =>obtain⟨x',rfl⟩:=f4 hs;simp only[dW.ev,Option.some.injEq] at hv;subst hv;exact keyc .len _ (Builtin.len_ #[t] o.type #[a.eval x]) ho rfl (fun cs=>by simp[builtin]) ⟨_,by simp[Builtin.len_,aN ht,goInt]<;>rfl,VR.int _ _⟩
 |Lj x t ar n e ht hta =>obtain⟨x',rfl⟩:=f4 hs;simp only[dW.ev,Option.some.injEq] at hv;subst hv;exact keyc .len _ (Builtin.len_ #[t] o.type #[a.eval x]) ho rfl (fun cs=>by simp[builtin]) ⟨_,by simp[Builtin.len_,aN ht,aN hta,goInt]<;>rfl,VR.int _ _⟩
 |min xs ts =>
  cases vs with
  |nil=>simp only[dW.ev] at hv;cases hv
  |cons x' vs' =>
   simp only[dW.ev] at hv;obtain⟨r,rs,e,h1,h2⟩:=hs.cons_inv;obtain⟨rz,h3,h4⟩:=tM fm Builtin.min2 (fun hx hy h w=>EF (P:=X.P) hx hy h w) vs' rs x' v r h2 h1 hv w;refine keyc .min ⟨.builtin .min,xs,ts⟩ (Builtin.min_ ts o.type (xs.map a.eval)) ho rfl (fun cs=>by simp[builtin]) ⟨rz,?_,h4⟩;have:(xs.map a.eval).toList=r::rs:=by simpa using e
   simp only[Builtin.min_,this];exact h3
 |max xs ts =>
  cases vs with
  |nil=>simp only[dW.ev] at hv;cases hv
  |cons x' vs' =>
   simp only[dW.ev] at hv;obtain⟨r,rs,e,h1,h2⟩:=hs.cons_inv;obtain⟨rz,h3,h4⟩:=tM fl Builtin.max2 (fun hx hy h w=>EE (P:=X.P) hx hy h w) vs' rs x' v r h2 h1 hv w;refine keyc .max ⟨.builtin .max,xs,ts⟩ (Builtin.max_ ts o.type (xs.map a.eval)) ho rfl (fun cs=>by simp[builtin]) ⟨rz,?_,h4⟩;have:(xs.map a.eval).toList=r::rs:=by simpa using e
   simp only[Builtin.max_,this];exact h3
end Go.Idl
namespace Go.Idl
open Classical
variable {X:Ctx}{N:Nat}{G:Gh}{st:St}{a:Act}{w:World}
theorem eK.mono {G G':Gh}(hi:∀b o v,G.dB b o=some v→G'.dB b o=some v) (hb:∀id b,G.bx id=some b→G'.bx id=some b) {o:aS}{ro:Obj}(h:eK X G o ro):eK X G' o ro:=by
 have m:∀{v r},VR G v r→VR G' v r:=fun h=>h.mono hi hb;have ms:∀{v r},c9 G v r→c9 G' v r:=fun h=>⟨h.1,fun i h1 h2=>m (h.2 i h1 h2)⟩
 cases h with
 |cells cs cp rc t f h hf hcp=>exact .cells cs cp rc t f (ms h) hf hcp
 |iter s p=>exact .iter s p
 |map es res c hk hv=>exact .map es res c (ms hk) (ms hv)
 |loop busy fn site env j L r hr hp hlt h1 h2 he hc hs hj=>exact .loop busy fn site env j L r hr hp hlt h1 h2 (fun i v c h=>⟨m (he i v c h).1,(he i v c h).2⟩) hc hs hj
theorem c9.mono {G G':Gh}(hi:∀b o v,G.dB b o=some v→G'.dB b o=some v) (hb:∀id b,G.bx id=some b→G'.bx id=some b) {vs:List IV}{rs:List Value}(h:c9 G vs rs):c9 G' vs rs :=
 ⟨h.1,fun i h1 h2=>(h.2 i h1 h2).mono hi hb⟩
def iE (r:Value) (sz b j:Nat):Prop:=∃o sp len cap,r=.slice (some ⟨b,o,sp⟩) len cap∧o+len*sz≤j∧j<o+cap*sz
structure Aa (G:Gh) (w:World) (G':Gh) (w':World) (r:Value) (sz:Nat):Prop where
 spot:∀b o sp len cap,r=.slice (some ⟨b,o,sp⟩) len cap→sp=none
 xm:∀b j,iE r sz b j→w.heap.size≤b∨(G.ow b j).isSome
 ow:∀b j,iE r sz b j→G'.ow b j=none
 dB:∀b j,iE r sz b j→G'.dB b j=none
 box:∀b j,iE r sz b j→¬G'.boxed b
 cell:∀b j,iE r sz b j→(w'.cell? ⟨b,j,none⟩).isSome∧w'.frozen? ⟨b,j,none⟩=false
noncomputable def Gh.take (G:Gh) (r:Value) (sz:Nat) (l:Loc):Gh:={ G with ow:=fun b j=>if iE r sz b j then some l else G.ow b j }
theorem gR.take {G0:Gh}{w0:World}{r:Value}{sz:Nat}(hf:Aa G0 w0 G w r sz) {l:Loc}{l':Loc}{sz':Nat}{r':Value}(h:gR G l' sz' r'):gR (G.take r sz l) l' sz' r':=by
 intro b o sp len cap e;obtain⟨h1,h2⟩:=h b o sp len cap e;refine⟨h1,fun j hj1 hj2=>?_⟩;have:=h2 j hj1 hj2;simp only[Gh.take];rw[if_neg]
 ·exact this
 ·intro hb;rw[hf.ow b j hb] at this
  cases this
theorem WF.take {G0:Gh}{w0:World}{r:Value}{sz:Nat}(hf:Aa G0 w0 G w r sz) (l:Loc) (h:WF X G w):WF X (G.take r sz l) w where
 dB:=h.dB
 inj:=h.inj
 ja:=h.ja
 fB:=h.fB
 eY:=h.eY
 ew:=h.ew
 eU b o hb:=by simp only[Gh.take];rw[if_neg (fun q=>hf.box b o q hb)];exact h.eU b o hb
 fL b o l' e:=by
  simp only[Gh.take] at e ⊢;split at e
  ·rename_i q;exact hf.dB b o q
  ·exact h.fL b o l' e
 dR b o l' e:=by
  simp only[Gh.take] at e ⊢;split at e
  ·rename_i q;exact hf.cell b o q
  ·exact h.dR b o l' e
 gj:=h.gj
 iD g row hr:=VR.mono (G:=G) (G':=G.take r sz l) (fun _ _ _ h=>h) (fun _ _ h=>h) (h.iD g row hr)
theorem MR.take {G0:Gh}{w0:World}{r:Value}{sz:Nat}(hf:Aa G0 w0 G w r sz) (l:Loc) {m:IM}(h:MR X G m w):MR X (G.take r sz l) m w where
 bx id hn:=by obtain⟨b,ro,h1,h2,h3⟩:=h.bx id hn;exact⟨b,ro,h1,h2,eK.mono (G:=G) (G':=G.take r sz l) (fun _ _ _ h=>h) (fun _ _ h=>h) h3⟩
 own id cs cp off sz' e1 e2 b r' e3 e4:=(h.own id cs cp off sz' e1 e2 b r' e3 e4).take hf
 kY:=h.kY
 cd:=h.cd
theorem SV.take {l:Loc}{r:Value}{sz:Nat}{v:IV}{r':Value}(h:SV G v r'):SV (G.take r sz l) v r':=SV.mono (G:=G) (G':=G.take r sz l) (fun _ _ _ h=>h) (fun _ _ h=>h) (fun _ _ h=>h) h
theorem Step.take {G0:Gh}{w0:World}{r:Value}{sz:Nat}(hf:Aa G0 w0 G w r sz) (l:Loc) (h:Step G0 w0 G w):Step G0 w0 (G.take r sz l) w where
 os:=h.os
 tape:=h.tape
 output:=h.output
 size:=h.size
 dB:=h.dB
 bx:=h.bx
 other:=h.other
 cells:=h.cells
 eW:=h.eW
 fY b o l' hb e:=by
  simp only[Gh.take] at e;split at e
  ·rename_i q;rcases hf.xm b o q with h1 | h1
   ·omega
   ·exact h1
  ·exact h.fY b o l' hb e
 fh:=h.fh
 cd:=h.cd
 gj:=h.gj
 gm:=h.gm
 loop:=h.loop
theorem qF {d:Nat}{lk:List (Nat×Loc)}{i:Nat}{l:Loc}(h:(i,l)∈aR d lk):(i,l)∈lk∧i≠d∧l ≠ .slot d:=by
 induction lk with
 |nil=>simp[aR] at h
 |cons p lk ih =>
  obtain⟨i',l'⟩:=p;simp only[aR] at h;split at h
  ·exact⟨List.mem_cons_of_mem _ (ih h).1,(ih h).2⟩
  ·rename_i hd;split at h
   ·rename_i j;split at h
    ·exact⟨List.mem_cons_of_mem _ (ih h).1,(ih h).2⟩
    ·rename_i hj;rcases List.mem_cons.1 h with e | h
     ·cases e;exact⟨List.mem_cons_self,hd,fun e=>hj (by cases e;rfl)⟩
     ·exact⟨List.mem_cons_of_mem _ (ih h).1,(ih h).2⟩
   ·rename_i hj;rcases List.mem_cons.1 h with e | h
    ·cases e;exact⟨List.mem_cons_self,hd,fun e=>hj d (by rw[e])⟩
    ·exact⟨List.mem_cons_of_mem _ (ih h).1,(ih h).2⟩
theorem iu {a:Act}{d:Nat}{r:Value}(h:d<a.tmps.size):(a.put (some d) r).tmps.getD d undef=r:=by simp[Act.put,h]
theorem hJ {a:Act}{d i:Nat}{r:Value}(h:i≠d):(a.put (some d) r).tmps.getD i undef=a.tmps.getD i undef:=by simp only[Act.put,Array.getD_eq_getD_getElem?];rw[Array.getElem?_setIfInBounds_ne (Ne.symm h)]
@[simp] theorem Vj {a:Act}{d:Option Nat}{r:Value}:(a.put d r).tmps.size=a.tmps.size:=by
 cases d<;>simp[Act.put]
@[simp] theorem Sj {a:Act}{d:Option Nat}{r:Value}:(a.put d r).defers=a.defers:=by
 cases d<;>rfl
structure OR (X:Ctx) (N:Nat) (G:Gh) (w:World) (st':St) (a:Act) (v:IV) (c:cV) (r:Value) (G':Gh) (w':World):Prop where
 sr:SR X N G' st' a w'
 sv:SV G' v r
 step:Step G w G' w'
 free:∀sz,c=.own sz→Aa G w G' w' r sz
theorem zo (h:SR X N G st a w) {d:Nat}(hd:d<N) {v:IV}{r:Value}(hv:SV G v r) {st':St}(hp:st.put (some d) v .any=some st') :
  SR X N G st' (a.put (some d) r) w∧st'.m=st.m∧st'.lb=st.lb∧(∀i l,(i,l)∈st'.lk→(i,l)∈st.lk):=by
 simp only[St.put,aK,ck,Option.some.injEq] at hp;subst hp;refine⟨?_,rfl,rfl,fun i l hm=>(qF hm).1⟩;have hs:=h.size;refine { size:=by simp[hs],env:=?_,own:=?_,lk:=?_,lb:=h.lb,dE:=h.dE,dO:=h.dO,mr:=h.mr,wf:=h.wf }
 ·intro i v' c' e;rw[dZ] at e;split at e
  ·rename_i e';subst e';simp only[Option.some.injEq,Prod.mk.injEq] at e;obtain⟨rfl,rfl⟩:=e;exact⟨by rw[iu (by omega)];exact hv,hd⟩
  ·rename_i e';rw[hJ (Ne.symm e')];exact h.env i v' c' e
 ·intro i v' sz e;rw[dZ] at e;split at e
  ·simp at e
  ·rename_i e';rw[hJ (Ne.symm e')];exact h.own i v' sz e
 ·intro i l hm;obtain⟨h1,h2,h3⟩:=qF hm;have h4:=h.lk i l h1
  cases l with
  |slot j =>have hj:j≠d:=fun e=>h3 (by rw[e]);simp only[gz];rw[hJ h2,hJ hj];exact h4
  |L k off=>simp only[gz];rw[hJ h2];exact h4
  |B k off=>simp only[gz];rw[hJ h2];exact h4
  |marked=>simp only[gz];rw[hJ h2];exact h4
theorem SR.take (h:SR X N G st a w) {G0:Gh}{w0:World}{r:Value}{sz:Nat}(hf:Aa G0 w0 G w r sz) (l:Loc):SR X N (G.take r sz l) st a w where
 size:=h.size
 env i v c e:=⟨(h.env i v c e).1.take,(h.env i v c e).2⟩
 own i v sz' e:=(h.own i v sz' e).take hf
 lk i l' hm:=by
  have:=h.lk i l' hm
  cases l'<;>exact this
 lb k hn:=by obtain⟨b,ro,h1,h2,h3⟩:=h.lb k hn;exact⟨b,ro,h1,h2,eK.mono (G:=G) (G':=G.take r sz l) (fun _ _ _ h=>h) (fun _ _ h=>h) h3⟩
 dE k cs cp off sz' e1 e2 b r' e3 e4:=(h.dE k cs cp off sz' e1 e2 b r' e3 e4).take hf
 dO:=h.dO
 mr:=h.mr.take hf l
 wf:=h.wf.take hf l
theorem zp {st1:St}{v:IV}{c:cV}{r:Value}{G1:Gh}{w1:World}(h:OR X N G w st1 a v c r G1 w1) {d:Option Nat}(hd:∀i,d=some i→i<N) {st2:St}(hp:st1.put d v c=some st2) :
  ∃G2,SR X N G2 st2 (a.put d r) w1∧Step G w G2 w1∧G2.lb=G1.lb∧G2.bx=G1.bx∧(∀b o x,G1.dB b o=some x→G2.dB b o=some x):=by
 cases d with
 |none =>simp only[St.put,Option.some.injEq] at hp;subst hp;exact⟨G1,h.sr,h.step,rfl,rfl,fun _ _ _ h=>h⟩
 |some d =>
  cases c with
  |any =>obtain⟨h1,_⟩:=zo h.sr (hd d rfl) h.sv hp;exact⟨G1,h1,h.step,rfl,rfl,fun _ _ _ h=>h⟩
  |own sz =>
   have hf:=h.free sz rfl;have hN:=hd d rfl;have hp':=hp;simp only[St.put,aK,ck,Option.some.injEq] at hp';obtain⟨h1,_⟩:=zo (st':={ st1 with env:=(d,v,.any)::st1.env,lk:=aR d st1.lk }) h.sr hN h.sv (by simp[St.put,aK,ck]);refine⟨G1.take r sz (.slot d),?_,h.step.take hf _,rfl,rfl,fun _ _ _ h=>h⟩;have h2:=h1.take hf (.slot d);subst hp';refine { size:=h2.size,env:=?_,own:=?_,lk:=h2.lk,lb:=h2.lb,dE:=h2.dE,dO:=h2.dO,mr:=h2.mr,wf:=h2.wf }
   ·intro i v' c' e;rw[dZ] at e;split at e
    ·rename_i e';simp only[Option.some.injEq,Prod.mk.injEq] at e;obtain⟨rfl,rfl⟩:=e;exact h2.env i v .any (by rw[dZ,if_pos e'])
    ·rename_i e';exact h2.env i v' c' (by rw[dZ,if_neg e'];exact e)
   ·intro i v' sz' e;rw[dZ] at e;split at e
    ·rename_i e';subst e';simp only[Option.some.injEq,Prod.mk.injEq,cV.own.injEq] at e;obtain⟨rfl,rfl⟩:=e;rw[iu (by rw[h.sr.size];exact hN)];intro b o sp len cap e2;refine⟨hf.spot b o sp len cap e2,fun j hj1 hj2=>?_⟩;simp only[Gh.take];rw[if_pos ⟨o,sp,len,cap,e2,hj1,hj2⟩]
    ·rename_i e';exact h2.own i v' sz' (by rw[dZ,if_neg e'];exact e)
end Go.Idl
