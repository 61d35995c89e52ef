/- This text proves that runs of single functions, of which only some slots are known, give calls of that interpreter; it has no conditions. -/
import Derived.Test.YtihkfdkoncekmaaGreatDoorIde
import Derived.Test.YtihkfdkoncekmaaGreatDoorIdd
import Derived.Test.YtihkfdkoncekmaaGreatDoorIdl
import Derived.KernelRfl
set_option linter.unusedSimpArgs false
set_option linter.unusedVariables false
namespace Go.Idl
section
variable {R:Type}
def aL (b:Bool) (x y:Option R):Option R:=match b with
 |true=>x
 |false=>y
def jN (b:Bool) (x:Option R):Option R:=match b with
 |true=>x
 |false=>none
def fG (k:IntKind) (v:IV) (K:Int→Option R):Option R:=match v with
 |.int k' n=>jN (decide (k'=k)) (K n)
 |_=>none
def gu (v:IV) (K:Bool→Option R):Option R:=match v with
 |.bool b=>K b
 |_=>none
def gQ (v:IV) (K:List UInt8→Option R):Option R:=match v with
 |.str s=>K s
 |_=>none
def iq (v:IV) (K:List IV→Option R):Option R:=match v with
 |.agg cs=>K cs
 |_=>none
def jE (v:IV) (K:List IV→Option R):Option R:=match v with
 |.db cs=>K cs
 |_=>none
def M4 (v:IV) (K:Nat→Nat→Option R):Option R:=match v with
 |.pB id off=>K id off
 |_=>none
def c6 (cs:List IV) (K:IV→List IV→Option R):Option R:=match cs with
 |v::t=>K v t
 |[]=>none
def bj (cs:List IV) (K:Option R):Option R:=match cs with
 |[]=>K
 |_=>none
def jB (cs:List aS) (K:aS→List aS→Option R):Option R:=match cs with
 |v::t=>K v t
 |[]=>none
def cB (cs:List aS) (K:Option R):Option R:=match cs with
 |[]=>K
 |_=>none
def jP (o:aS) (K:List IV→Option R):Option R:=match o with
 |.cells cs _=>K cs
 |_=>none
def Ja (o:aS) (K:List UInt8→Nat→Option R):Option R:=match o with
 |.iter s p=>K s p
 |_=>none
def kg (v:IV) (K:Nat→Option R):Option R:=match v with
 |.pB id 0=>K id
 |_=>none
def EH (v:IV) (X:Option R):Option R:=match v with
 |.aa=>X
 |_=>none
def xw (v:IV) (X:Option R):Option R:=match v with
 |.agg _=>none
 |.db _=>none
 |.undef=>none
 |.pL ..=>none
 |_=>X
def dk (v:IV) (X:Option R):Option R:=match v with
 |.pL ..=>none
 |_=>X
def iy (v:IV) (X:Option R):Option R:=match v with
 |.sl ..=>X
 |.aa=>X
 |_=>none
def bf (v:IV) (X:Option R):Option R:=match v.refs with
 |some _=>X
 |none=>none
def t6 (cs:List IV) (X:Option R):Option R:=match cs with
 |[]=>X
 |v::r=>bf v (t6 r X)
def mR (v:IV) (X:Option R):Option R:=match v.plain with
 |true=>X
 |false=>none
def iT (cs:List IV) (X:Option R):Option R:=match cs with
 |[]=>X
 |v::r=>mR v (iT r X)
def fq (o:dW) (vs:List IV) (K:IV→Option R):Option R:=match o.ev vs with
 |some v=>K v
 |none=>none
def eV (agg:Bool) (cs:List IV) (off n:Nat) (K:IV→Option R):Option R:=match agg with
 |true=>match cut cs off n with
  |some r=>K (.agg r)
  |none=>none
 |false=>match cs[off]? with
  |some v=>K v
  |none=>none
def gH (m:IM) (id:Nat) (K:List IV→List cV→Option R):Option R:=match m.get id with
 |.cells cs cp=>K cs cp
 |_=>none
def lD (m:IM) (agg:Bool) (n:Nat) (p:IV) (K:IV→Option R):Option R:=match p with
 |.pI row off=>eV agg row off n K
 |.pB id off=>gH m id fun cs _=>eV agg cs off n K
 |_=>none
def lN (m:IM) (p:IV) (vs:List IV) (c:cV) (K:IM→Option R):Option R:=match p with
 |.pB id off=>match bK { env:=[],lk:=[],lb:=[],m:=m } vs.length (.pB id off) vs c with
  |some st=>K st.m
  |none=>none
 |_=>none
def bZ (m:IM) (o:aS):IM:=⟨m.bs++[o],m.kS⟩
def tu (m:IM) (sz:Nat) (v:IV) (K:List IV→Nat→Option R):Option R:=match dG [] m sz v with
 |some (xs,n)=>K xs n
 |none=>none
def j9 (sv:IV) (sz bytes:Nat) (xs:List IV) (n:Nat) (K:IV→Option R):Option R:=match sv with
 |.aa=>aL (n==0) (K .aa) (jN (decide (n*bytes≤aH)) (K (.sl xs n)))
 |.sl row len=>jN (decide ((len+n)*bytes≤aH∧row.length=len*sz)) (K (.sl (row++xs) (len+n)))
 |_=>none
def Q9 (m:IM) (id off:Nat):cV:=match m.get id with
 |.cells _ cp=>cp.getD off .any
 |_=>.any
def mw (m:IM) (id off:Nat) (sv:IV) (sz bytes:Nat) (xs:List IV) (n:Nat) (K:IV→IM→Option R):Option R:=match sv with
 |.aa=>aL (n==0) (K .aa m) (jN (decide (n*bytes≤aH)) (K (.sl xs n) m))
 |.sl row len=>jN (decide (Q9 m id off=.own sz)) (jN (decide ((len+n)*bytes≤aH∧row.length=len*sz))
   (match ({ env:=[],lk:=[],lb:=[],m:=m }:St).drop (.B id off) with
    |some st=>K (.sl (row++xs) (len+n)) st.m
    |none=>none))
 |_=>none
def MZ (sv:IV) (bytes:Nat) (xs:List IV) (n:Nat) (K:IV→Option R):Option R:=match sv with
 |.aa=>aL (n==0) (K .aa) (jN (decide (n*bytes≤aH)) (K (.sl xs n)))
 |_=>none
def Uc (m:IM) (d:IV) (sz:Nat) (xs:List IV) (k:Nat) (K:Nat→IM→Option R):Option R:=match d with
 |.sB id off n _=>match bK { env:=[],lk:=[],lb:=[],m:=m } (Nat.min k n*sz) (.pB id off) (xs.take (Nat.min k n*sz)) .any with
  |some st=>K (Nat.min k n) st.m
  |none=>none
 |.aa=>K 0 m
 |_=>none
def Ym (m:IM) (d:IV) (sz:Nat) (xs:List IV) (k:Nat) (K:Nat→IM→Option R):Option R:=jN (decide (xs.length=k*sz)) (Uc m d sz xs k K)
def an (call:bW) (c:Callee) (vs:List IV) (ids:List Nat) (m:IM) (K:IV→IM→Option R):Option R:=match aC (vs.flatMap IV.cells) with
 |some _=>match eJ m ids with
  |some m1=>match call c vs m1 with
   |some (v,m2)=>match cf m m2 ids with
    |some m3=>K v m3
    |none=>none
   |none=>none
  |none=>none
 |none=>none
def jS (call:bW) (g:IV) (vs:List IV) (ids:List Nat) (m:IM) (K:IV→IM→Option R):Option R:=match g with
 |.func f fs cs=>an call (.f f) (fs++vs++cs) ids m K
 |.nT id=>an call (.y id) vs ids m K
 |_=>none
def Uz (m:IM) (d:nW) (zero:IV) (ok:Bool) (mv k:IV) (K:IV→Option R):Option R:=match mv with
 |.gX=>K (match ok with | true=>.db [zero,.bool false] | false=>zero)
 |.map id=>match m.get id with
  |.map es=>match tL d k es with
   |some (some v)=>K (match ok with | true=>.db [v,.bool true] | false=>v)
   |some none=>K (match ok with | true=>.db [zero,.bool false] | false=>zero)
   |none=>none
  |_=>none
 |_=>none
def UD (m:IM) (d:nW) (mv k v:IV) (K:IM→Option R):Option R:=match mv with
 |.map id=>match m.get id with
  |.map es=>match xT d k v es,v.plain&&k.plain with
   |some es,true=>K ⟨m.bs.set id (.map es),m.kS⟩
   |_,_=>none
  |_=>none
 |_=>none
def UC (m:IM) (mv:IV) (K:Nat→Option R):Option R:=match mv with
 |.gX=>K 0
 |.map id=>match m.get id with
  |.map es=>K es.length
  |_=>none
 |_=>none
def fJ (e ex:Ex) (A B:Option R):Option R:=match decide (ex=e) with
 |true=>A
 |false=>B
inductive MU where
 |any | int (k:IntKind) | bool | str | ptr | mn | own | sl
 deriving DecidableEq,Inhabited
inductive T6 where
 |one (s:MU)
 |agg (l:List MU)
 deriving Inhabited
inductive Sh where
 |one (s:MU)
 |agg (l:List MU)
 |db (l:List T6)
 deriving Inhabited
def T8 (s:MU) (v:IV) (K:IV→Option R):Option R:=match s with
 |.int k=>fG k v fun n=>K (.int k n)
 |.bool=>gu v fun b=>K (.bool b)
 |.str=>gQ v fun s=>K (.str s)
 |.ptr=>M4 v fun id off=>K (.pB id off)
 |.mn=>kg v fun id=>K (.pB id 0)
 |_=>K v
def T9:List MU→List IV→(List IV→Option R)→Option R
 |[],cs,K=>bj cs (K [])
 |s::r,cs,K=>c6 cs fun v t=>T8 s v fun v=>T9 r t fun t=>K (v::t)
def Ua (s:T6) (v:IV) (K:IV→Option R):Option R:=match s with
 |.one s=>T8 s v K
 |.agg l=>iq v fun cs=>T9 l cs fun cs=>K (.agg cs)
def QY:List T6→List IV→(List IV→Option R)→Option R
 |[],cs,K=>bj cs (K [])
 |s::r,cs,K=>c6 cs fun v t=>Ua s v fun v=>QY r t fun t=>K (v::t)
def QZ (s:Sh) (v:IV) (K:IV→Option R):Option R:=match s with
 |.one s=>T8 s v K
 |.agg l=>iq v fun cs=>T9 l cs fun cs=>K (.agg cs)
 |.db l=>jE v fun cs=>QY l cs fun cs=>K (.db cs)
abbrev gO:=List (Nat×Sh)
def DC:gO→Nat→Sh
 |[],_=>.one .any
 |(j,s)::r,i=>match Nat.beq j i with
  |true=>s
  |false=>DC r i
def Xx:IV→Sh
 |.agg _=>.agg []
 |.pL ..=>.one .own
 |_=>.one .any
inductive BX where
 |cells (k:Nat) (l:List MU) (cp:List cV)
 |iter (k:Nat)
 |dead (k:Nat)
 deriving Inhabited
def Uu:aS:=.loop 0 0 0 [] 0
def BX.k:BX→Nat
 |.cells k _ _=>k
 |.iter k=>k
 |.dead k=>k
structure XE where
 ex:Ex
 GA:List (Nat×cV)
 boxes:List BX
 own:List (Nat×Nat×Nat)
 deriving Inhabited
abbrev XP:=List XE
inductive Pl where
 |z
 |n (x:Option XP) (a b:Pl)
 deriving Inhabited
def Pl.x:Pl→Option XP
 |.z=>none
 |.n x _ _=>x
def Pl.a:Pl→Pl
 |.z=>.z
 |.n _ a _=>a
def Pl.b:Pl→Pl
 |.z=>.z
 |.n _ _ b=>b
abbrev LR:=Ex×List IV×List aS×IM
def uA:cV:=.own 0
def FM (a b:cV):Bool:=decide (a=uA)||decide (b=a)
def wt (env:Env):List (Nat×cV)→(List IV→Option R)→Option R
 |[],K=>K []
 |(i,c)::r,K=>match look env i with
  |some (v,c')=>jN (FM c c') (wt env r fun vs=>K (v::vs))
  |none=>none
def uR:List cV→List cV→Bool
 |[],[]=>true
 |a::r,b::t=>FM a b&&uR r t
 |_,_=>false
def mZ (lb:List (Nat×aS)):List BX→(List aS→Option R)→Option R
 |[],K=>K []
 |.cells k _ cp::r,K=>match aQ lb k with
  |.cells cs cp'=>jN (uR cp cp') (mZ lb r fun bs=>K (.cells cs cp::bs))
  |_=>none
 |.iter k::r,K=>match aQ lb k with
  |.iter s p=>mZ lb r fun bs=>K (.iter s p::bs)
  |_=>none
 |.dead _::r,K=>mZ lb r K
def hasB (bx:List BX) (k:Nat):Bool:=match bx with
 |[]=>false
 |b::r=>Nat.beq b.k k||hasB r k
def MX (lb:List (Nat×aS)) (bx:List BX):Bool:=match lb with
 |[]=>true
 |(k,_)::r=>hasB bx k&&MX r bx
def Ny:Ex→Ex→Bool
 |.normal,.normal=>true
 |.ret,.ret=>true
 |.exit i,.exit j=>Nat.beq i j
 |_,_=>false
def zm (env:Env):List (Nat×Nat×Nat)→Option R→Option R
 |[],X=>X
 |(i,k,o)::r,X=>match look env i with
  |some (.pL k' o',.any)=>jN (Nat.beq k' k&&Nat.beq o' o) (zm env r X)
  |_=>none
def Ly:List (Nat×Nat×Nat)→Env→Env
 |[],e=>e
 |(i,k,o)::r,e=>(i,.pL k o,.any)::Ly r e
def nC:XP→Ex→St→(LR→Option R)→Option R
 |[],_,_,_=>none
 |x::r,e,s,K=>match Ny e x.ex with
  |true=>zm s.env x.own (wt s.env x.GA fun vs=>mZ s.lb x.boxes fun bs=>jN (MX s.lb x.boxes) (K (e,vs,bs,s.m)))
  |false=>nC r e s K
def nB (xp:XP) (e:Ex) (s:St):Option LR:=nC xp e s some
def OQ (ty:gO):List (Nat×cV)→List IV→(Env→Option R)→Option R
 |[],vs,K=>bj vs (K [])
 |(i,c)::r,vs,K=>c6 vs fun v t=>QZ (DC ty i) v fun v=>OQ ty r t fun e=>K ((i,v,c)::e)
def Bw:List BX→List aS→(List (Nat×aS)→Option R)→Option R
 |[],bs,K=>cB bs (K [])
 |.cells k l cp::r,bs,K=>jB bs fun o t=>jP o fun cs=>T9 l cs fun cs=>Bw r t fun lb=>K ((k,.cells cs cp)::lb)
 |.iter k::r,bs,K=>jB bs fun o t=>Ja o fun s p=>Bw r t fun lb=>K ((k,.iter s p)::lb)
 |.dead k::r,bs,K=>Bw r bs fun lb=>K ((k,Uu)::lb)
def Dt (ty:gO):XP→Ex→List IV→List aS→IM→(Ex→St→Option R)→Option R
 |[],_,_,_,_,_=>none
 |x::r,ex,vs,bs,m,K=>fJ x.ex ex (OQ ty x.GA vs fun env=>Bw x.boxes bs fun lb=>K x.ex { env:=Ly x.own env,lk:=[],lb,m }) (Dt ty r ex vs bs m K)
def bn (r:Option LR) (K:Ex→List IV→List aS→IM→Option R):Option R:=match r with
 |some (ex,vs,bs,m)=>K ex vs bs m
 |none=>none
def tY (ty:gO) (e:Env) (a:Arg) (K:Sh→IV→Option R):Option R:=match a with
 |.t i=>match look e i with
  |some (v,_)=>K (DC ty i) v
  |none=>none
 |.c v=>K (Xx v) v
def EU (ty:gO) (e:Env):List Arg→(List (Sh×IV)→Option R)→Option R
 |[],K=>K []
 |a::r,K=>tY ty e a fun s v=>EU ty e r fun l=>K ((s,v)::l)
def qn (sh:Sh) (v:IV) (K:List IV→Option R):Option R:=match sh with
 |.agg _=>iq v K
 |_=>xw v (K [v])
def wK:List IV→List (Nat×Nat)→List (Sh×IV)→(List IV→Option R)→Option R
 |zero,(off,n)::ps,(sh,v)::vs,K=>qn sh v fun c=>jN (Nat.beq c.length n&&Nat.ble (off+n) zero.length) (wK (over zero off c) ps vs K)
 |cs,[],[],K=>K cs
 |_,_,_,_=>none
def known (c:cV) (X:Option R):Option R:=match c with
 |.any=>X
 |.own z=>jN (!(Nat.beq z 0)) X
def AP:List (Nat×Loc)→List (Nat×Loc)
 |[]=>[]
 |(i,l)::r=>match l with
  |.B ..=>AP r
  |_=>(i,l)::AP r
def EB:List (Nat×Loc)→List (Nat×Loc)
 |[]=>[]
 |(i,l)::r=>match l with
  |.B ..=>EB r
  |.marked=>EB r
  |_=>(i,l)::EB r
def yf (ids:List Nat):List (Nat×Loc)→(List (Nat×Loc)→Option R)→Option R
 |[],K=>K []
 |(i,l)::r,K=>match l with
  |.B id off=>match ids with
   |[]=>yf ids r K
   |_=>jN (ids.contains id) (yf ids r fun t=>K ((i,.B id off)::t))
  |.marked=>yf ids r K
  |l=>yf ids r fun t=>K ((i,l)::t)
def Em (e:Env):List Arg→(List Nat→Option R)→Option R
 |[],K=>K []
 |.c _::r,K=>Em e r K
 |.t i::r,K=>match look e i with
  |some (v,_)=>match v with
   |.pB id _=>Em e r fun ids=>K (id::ids)
   |_=>Em e r K
  |none=>none
def single:List (Sh×IV)→List IV
 |[]=>[]
 |(_,v)::r=>v::single r
def V3 (st:St) (i:Nat) (xf:Bool) (K:IV→cV→St→Option R):Option R:=match look st.env i with
 |some (v,c)=>match xf with
  |false=>K v .any st
  |true=>match c with
   |.any=>K v .any st
   |.own sz=>K v (.own sz) { st with env:=(i,v,.any)::st.env,lk:=aR i st.lk }
 |none=>none
def Vu (lb:List (Nat×aS)) (sh:Sh) (p:IV) (n:Nat) (cs:List IV) (c:cV) (st:St) (K:St→Option R):Option R:=match sh with
 |.one .own=>match p with
  |.pL k off=>match aQ lb k with
   |.cells bs cp=>t6 cs (jN (Nat.beq cs.length n&&Nat.ble (off+n) bs.length) (K { st with lb:=(k,.cells (over bs off cs) (bh cp off n c))::st.lb,lk:=kU k st.lk }))
   |_=>none
  |_=>none
 |_=>known c (jN (Nat.beq cs.length n) (lN st.m p cs c fun m=>K { st with m:=m,lk:=AP st.lk }))
def IK.den (ty:gO) (call:bW) (st:St) (k:IK) (K:IV→cV→St→Option R):Option R:=match k with
 |.mv x xf _=>(match x with
  |.c v=>K v .any st
  |.t i=>V3 st i xf K)
 |.p o args=>match o,args with
  |.pick,[.t j,a,b]=>match look st.env j with
   |some (.bool c,cc)=>aL c (tY ty st.env a fun _ v=>K v .any { st with env:=(j,.bool true,cc)::st.env }) (tY ty st.env b fun _ v=>K v .any { st with env:=(j,.bool false,cc)::st.env })
   |_=>none
  |.build zero parts,args=>EU ty st.env args fun l=>wK zero parts l fun cs=>K (.agg cs) .any st
  |o,args=>EU ty st.env args fun l=>fq o (single l) fun v=>K v .any st
 |.same x=>match x with
  |.t i=>match look st.env i with
   |some (.sl row len,c)=>jN (decide (aU st.lk i=some .marked)) (match c with
    |.own sz=>K (.sl row len) (.own sz) { st with env:=(i,.sl row len,.any)::st.env,lk:=aR i st.lk }
    |.any=>K (.sl row len) .any st)
   |_=>none
  |.c _=>none
 |.load agg n a _=>tY ty st.env a fun sh p=>match sh with
  |.one .own=>match p with
   |.pL k off=>match aQ st.lb k with
    |.cells cs _=>eV agg cs off n fun v=>K v .any st
    |_=>none
   |_=>none
  |_=>lD st.m agg n p fun v=>K v .any st
 |.store n a x xf=>tY ty st.env a fun sh p=>match x with
  |.c v=>qn (Xx v) v fun cs=>Vu st.lb sh p n cs .any st fun st=>K .undef .any st
  |.t i=>V3 st i xf fun v c st'=>match c with
   |.any=>qn (DC ty i) v fun cs=>Vu st.lb sh p n cs .any st' fun st=>K .undef .any st
   |.own sz=>iy v (Vu st.lb sh p n [v] (.own sz) st' fun st=>K .undef .any st)
 |.bX k zero cp=>match aQ st.lb k with
  |.none=>K (.pL k 0) .any { st with lb:=(k,.cells zero (bp zero cp))::st.lb }
  |_=>none
 |.iv zero cp=>K (.pB st.m.size 0) .any { st with m:=bZ st.m (.cells zero (bp zero cp))}
 |.f5 k n x=>tY ty st.env x fun sh v=>qn sh v fun cs=>t6 cs (jN (Nat.beq cs.length n) (match aQ st.lb k with
  |.none=>K (.pL k 0) .any { st with lb:=(k,.cells cs (bp cs []))::st.lb }
  |_=>none))
 |.nZ n x=>tY ty st.env x fun sh v=>qn sh v fun cs=>t6 cs (jN (Nat.beq cs.length n) (K (.pB st.m.size 0) .any { st with m:=bZ st.m (.cells cs (bp cs []))}))
 |.buildSlice sz len zero parts args=>EU ty st.env args fun l=>wK (dY zero len) parts l fun cs=>iT cs (K (.sl cs len) (.own sz) st)
 |.fb x=>tY ty st.env x fun _ v=>gQ v fun s=>jN (decide (s.length≤aH)) (K (.sl (ah s) s.length) (.own 1) st)
 |.me sz bytes zero len cap=>tY ty st.env len fun _ l=>fG .i64 l fun l=>tY ty st.env cap fun _ c=>fG .i64 c fun c =>
   jN (decide (0≤l∧l≤c∧c*bytes≤aH∧c≤aH)) (K (.sl (dY zero l.toNat) l.toNat) (.own sz) st)
 |.kO sz bytes zero len cap=>tY ty st.env len fun _ l=>fG .i64 l fun l=>tY ty st.env cap fun _ c=>fG .i64 c fun c =>
   jN (decide (0≤l∧l≤c∧c*bytes≤aH∧c≤aH)) (K (.sB st.m.size 0 l.toNat sz) .any { st with m:=bZ st.m (.cells (dY zero c.toNat) (bp (dY zero c.toNat) []))})
 |.append sz bytes s x=>tY ty st.env x fun _ x=>tu st.m sz x fun xs n=>iT xs (jN (Nat.beq xs.length (n*sz)) (match s with
  |.c sv=>MZ sv bytes xs n fun v=>K v (.own sz) st
  |.t i=>match look st.env i with
   |some (sv,.own z)=>jN (Nat.beq z sz && !(Nat.beq sz 0)) (j9 sv sz bytes xs n fun v=>K v (.own sz) { st with env:=(i,sv,uA)::st.env,lk:=aR i st.lk })
   |some (sv,.any)=>match aU st.lk i with
    |some (.L k off)=>match aQ st.lb k with
     |.cells cs cp=>jN (decide (cp.getD off .any=.own sz) && !(Nat.beq sz 0)) (j9 sv sz bytes xs n fun v=>K v (.own sz) { st with lb:=(k,.cells cs (cp.set off uA))::st.lb })
     |_=>none
    |some (.B id off)=>mw st.m id off sv sz bytes xs n fun v m=>K v (.own sz) { st with m:=m }
    |some (.slot j)=>match look st.env j with
     |some (w,.own z)=>jN (Nat.beq z sz && !(Nat.beq sz 0)) (j9 sv sz bytes xs n fun v=>K v (.own sz) { st with env:=(j,w,uA)::st.env,lk:=aR j st.lk })
     |_=>none
    |_=>MZ sv bytes xs n fun v=>K v (.own sz) st
   |none=>none))
 |.copy sz d s=>tY ty st.env d fun _ d=>tY ty st.env s fun _ s=>tu st.m sz s fun xs k=>Ym st.m d sz xs k fun n m=>K (.int .i64 n) .any { st with m:=m,lk:=AP st.lk }
 |.aj f args fk=>EU ty st.env args fun l=>Em st.env fk fun ids=>an call (.f f) (single l) ids st.m fun v m=>yf ids st.lk fun lk=>K v .any { st with m:=m,lk:=lk }
 |.fH g args fk=>EU ty st.env args fun l=>tY ty st.env g fun _ g=>Em st.env fk fun ids=>jS call g (single l) ids st.m fun v m=>K v .any { st with m:=m,lk:=EB st.lk }
 |.mkMap=>K (.map st.m.size) .any { st with m:=bZ st.m (.map [])}
 |.lookup d zero ok a b=>tY ty st.env a fun _ mp=>tY ty st.env b fun _ k=>Uz st.m d zero ok mp k fun v=>K v .any st
 |.jy d a b x=>tY ty st.env a fun _ mp=>tY ty st.env b fun _ k=>tY ty st.env x fun _ v=>UD st.m d mp k v fun m=>K .undef .any { st with m:=m }
 |.kt a=>tY ty st.env a fun _ mp=>UC st.m mp fun n=>K (.int .i64 n) .any st
 |.fa k x=>tY ty st.env x fun _ v=>gQ v fun s=>match aQ st.lb k with
  |.none=>K (.pL k 0) .any { st with lb:=(k,.iter s 0)::st.lb }
  |_=>none
 |.ee a=>tY ty st.env a fun _ p=>match p with
  |.pL k 0=>match aQ st.lb k with
   |.iter s pos=>aL (decide (pos<s.length))
     (K (.db [.bool true,.int .i64 pos,.int .i32 (Utf8.decode ⟨⟨s⟩⟩ pos).1]) .any { st with lb:=(k,.iter s (pos+(Utf8.decode ⟨⟨s⟩⟩ pos).2))::st.lb })
     (K (.db [.bool false]) .any st)
   |_=>none
  |_=>none
def He (e:Env) (a:Arg) (t:cW) (X:Option R):Option R:=match a with
 |.c v=>match t with
  |.dB=>(match v with | .pI ..=>X | _=>none)
  |.mem=>dk v X
  |.own k=>(match v with | .pL k' _=>jN (Nat.beq k' k) X | _=>none)
  |_=>none
 |.t i=>match look e i with
  |some (v,_)=>match t with
   |.dB=>(match v with | .pI ..=>X | _=>none)
   |.mem=>dk v X
   |.own k=>(match v with | .pL k' _=>jN (Nat.beq k' k) X | _=>none)
   |.cd h=>match look e h with
    |some (w,_)=>M4 v fun id _=>M4 w fun id' _=>jN (Nat.beq id id') X
    |none=>none
   |_=>none
  |none=>none
def MY (e:Env) (lk:List (Nat×Loc)) (i:Nat) (t:cW) (X:Option R):Option R:=match look e i with
 |some (v,c)=>match c with
  |.own _=>X
  |.any=>match aU lk i with
   |some l=>jN (t.gC l) X
   |none=>(match v with | .aa=>X | _=>none)
 |none=>none
def WQ (k:IK) (t:cW) (st:St) (X:Option R):Option R:=match t with
 |.none=>X
 |t=>match k with
  |.load _ _ a _=>He st.env a t X
  |.store _ a _ _=>He st.env a t X
  |.ee a=>He st.env a t X
  |.append _ _ (.t i) _=>MY st.env st.lk i t X
  |_=>none
def rK (d:Nat):List (Nat×Loc)→(List (Nat×Loc)→Option R)→Option R
 |[],K=>K []
 |(i,l)::r,K=>rK d r fun r'=>match Nat.beq i d with
  |true=>K r'
  |false=>match l with
   |.slot j=>(match Nat.beq j d with
    |true=>K r'
    |false=>K ((i,.slot j)::r'))
   |.L a b=>K ((i,.L a b)::r')
   |.B a b=>K ((i,.B a b)::r')
   |.marked=>K ((i,.marked)::r')
def RC (ty:gO) (env:Env) (k:IK) (K:Option Loc→Option R):Option R:=match k with
 |.mv (.t i) false true=>K (some (.slot i))
 |.fb _=>K (some .marked)
 |.buildSlice 1 _ _ _ _=>K (some .marked)
 |.load false _ (.t i) true=>match DC ty i with
  |.one .own=>(match look env i with | some (.pL k off,_)=>K (some (.L k off)) | _=>none)
  |.one .ptr=>(match look env i with | some (.pB k off,_)=>K (some (.B k off)) | _=>none)
  |.one .mn=>(match look env i with | some (.pB k off,_)=>K (some (.B k off)) | _=>none)
  |_=>K none
 |_=>K none
def Vi (ty:gO) (d:Option Nat) (v:IV) (c:cV) (k:IK) (env:Env) (st:St) (K:St→Option R):Option R:=match d with
 |none=>K st
 |some d=>QZ (DC ty d) v fun v=>rK d st.lk fun lk=>RC ty env k fun l=>match l with
  |some l=>(match l with
   |.slot j=>(match Nat.beq j d with | true=>K { st with env:=(d,v,c)::st.env,lk:=lk } | false=>K { st with env:=(d,v,c)::st.env,lk:=(d,.slot j)::lk })
   |l=>K { st with env:=(d,v,c)::st.env,lk:=(d,l)::lk })
  |none=>K { st with env:=(d,v,c)::st.env,lk:=lk }
def RR (d:Option Nat) (st:St) (K:St→Option R):Option R:=match d with
 |none=>K st
 |some d=>rK d st.lk fun lk=>K { st with env:=(d,.db [],.any)::st.env,lk:=lk }
def J7 (st:St) (g:Option (Nat×Bool)) (A B:St→Option R):Option R:=match g with
 |none=>A st
 |some (j,want)=>match look st.env j with
  |some (.bool b,c)=>match want with
   |true=>aL b (A { st with env:=(j,.bool true,c)::st.env }) (B { st with env:=(j,.bool false,c)::st.env })
   |false=>aL b (B { st with env:=(j,.bool true,c)::st.env }) (A { st with env:=(j,.bool false,c)::st.env })
  |some (.db _,_)=>B st
  |_=>none
def dh.den (ty:gO) (call:bW) (o:dh) (st:St) (K:St→Option R):Option R :=
 J7 st o.guard (fun st=>WQ o.k o.tag st (o.k.den ty call st fun v c st'=>Vi ty o.dst v c o.k st.env st' K)) (fun st=>RR o.dst st K)
def A6 (ty:gO) (call:bW):List dh→St→(St→Option R)→Option R
 |[],st,K=>K st
 |o::r,st,K=>o.den ty call st fun st=>A6 ty call r st K
def iter {α β:Type}(f:α→Option (α⊕β)) (a:α):Option β:=match f a with
 |some (.inl a')=>iter f a'
 |some (.inr b)=>some b
 |none=>none
partial_fixpoint
def gg (v:IV) (eC:List Nat) (X:Option R):Option R:=match v with
 |.pL k _=>jN (eC.contains k) X
 |_=>X
def KN (s:Sh) (v:IV) (eC:List Nat) (X:Option R):Option R:=match s with
 |.one .sl=>dk v X
 |_=>gg v eC X
def sP (ty:gO) (e:Env) (eC:List Nat):List (Nat×Nat)→(Env→Option R)→Option R
 |[],K=>K []
 |(i,o)::r,K=>match look e i with
  |some (v,c)=>KN (DC ty i) v eC (match o with
   |0=>sP ty e eC r fun e=>K ((i,v,.any)::e)
   |sz+1=>match c with
    |.own s=>jN (!(Nat.beq s 0)) (sP ty e eC r fun e=>K ((i,v,.own s)::e))
    |.any=>EH v (sP ty e eC r fun e=>K ((i,v,.own sz)::e)))
  |none=>none
def yY (k:Nat) (cs:List IV):List (Nat×Nat×Nat)→List cV→(List cV→Option R)→Option R
 |[],cp,K=>K cp
 |(k',o,sz)::r,cp,K=>match Nat.beq k' k with
  |true=>match cp.getD o .any with
   |.own s=>jN (!(Nat.beq s 0)) (yY k cs r (cp.set o (.own s)) K)
   |.any=>EH (cs.getD o .undef) (yY k cs r (cp.set o (.own sz)) K)
  |false=>yY k cs r cp K
def sN (lb:List (Nat×aS)) (own:List (Nat×Nat×Nat)):List Nat→(List (Nat×aS)→Option R)→Option R
 |[],K=>K []
 |k::r,K=>match aQ lb k with
  |.cells cs cp=>yY k cs own cp fun cp=>sN lb own r fun b=>K ((k,.cells cs cp)::b)
  |.iter s p=>sN lb own r fun b=>K ((k,.iter s p)::b)
  |.none=>sN lb own r K
  |_=>none
def F5 (ty:gO) (st:St) (h:Head) (K:St→Option R):Option R :=
 sP ty st.env h.eC h.AK fun env=>sN st.lb h.Bb h.eC fun lb=>K { env,lk:=[],lb,m:=st.m }
def gM (ty:gO) (h:Head) (xp:XP) (e:Ex) (s:St):Option (St⊕LR):=match e with
 |.normal=>F5 ty s h fun s=>some (.inl s)
 |e=>nC xp e s fun r=>some (.inr r)
def aq.den (ty:gO) (call:bW):aq→(R:Type)→Pl→St→(Ex→St→Option R)→Option R
 |.skip,_,_,st,K=>K .normal st
 |.ops l,_,_,st,K=>A6 ty call l st fun st=>K .normal st
 |.draw l _,_,_,st,K=>A6 ty call l st fun st=>K .normal st
 |.seq a b,R,pl,st,K=>match pl.x with
  |some xp=>bn (a.den ty call LR pl.a st (nB xp)) fun ex vs bs m=>Dt ty xp ex vs bs m fun e s=>match e with
   |.normal=>b.den ty call R pl.b s K
   |e=>K e s
  |none=>a.den ty call R pl.a st fun e s=>match e with
   |.normal=>b.den ty call R pl.b s K
   |e=>K e s
 |.cond c a b,R,pl,st,K=>match c with
  |.t j=>match look st.env j with
   |some (.bool x,cc)=>aL x (a.den ty call R pl.a { st with env:=(j,.bool true,cc)::st.env } K) (b.den ty call R pl.b { st with env:=(j,.bool false,cc)::st.env } K)
   |_=>none
  |.c v=>match v with
   |.bool true=>a.den ty call R pl.a st K
   |.bool false=>b.den ty call R pl.b st K
   |_=>none
 |.block id b,R,pl,st,K=>b.den ty call R pl.a st fun e s=>match e with
   |.exit i=>(match Nat.beq i id with | true=>K .normal s | false=>K (.exit i) s)
   |e=>K e s
 |.loop h b,_,pl,st,K=>match pl.x with
  |some xp=>F5 ty st h fun s=>bn (iter (fun s=>b.den ty call (St⊕LR) pl.a s (gM ty h xp)) s) fun ex vs bs m=>Dt ty xp ex vs bs m K
  |none=>none
 |.kv _ _ _,_,_,_,_=>none
 |.exit id,_,_,st,K=>K (.exit id) st
 |.ret,_,_,st,K=>K .ret st
def ua (st:St):List RV→(List IV→Option R)→Option R
 |[],K=>K []
 |.t i::r,K=>match look st.env i with
  |some (v,_)=>ua st r fun vs=>K (v::vs)
  |none=>none
 |.cell i agg n::r,K=>match look st.env i with
  |some (.pL k off,_)=>(match aQ st.lb k with
   |.cells cs _=>eV agg cs off n fun v=>ua st r fun vs=>K (v::vs)
   |_=>none)
  |some (p,_)=>lD st.m agg n p fun v=>ua st r fun vs=>K (v::vs)
  |none=>none
def RY (m m':IM) (vs:List IV):Option (IV×IM):=match vs with
 |[v]=>settle m m' v
 |vs=>settle m m' (.db vs)
def eL (ty:gO) (pl:Pl) (fn:dJ) (call:bW) (args:List IV) (m:IM):Option (IV×IM) :=
 match Nat.beq args.length fn.rO with
 |true=>fn.body.den ty call (IV×IM) pl { env:=dQ 0 args,lk:=[],lb:=[],m:=m } fun e s=>match e with
  |.exit _=>none
  |_=>ua s fn.yp fun vs=>RY m s.m vs
 |false=>none
end
section
variable {R:Type}
theorem ng {b:Bool}{x y:Option R}{r:R}(h:aL b x y=some r):(b=true∧x=some r)∨(b=false∧y=some r):=by
 cases b
 ·exact .inr ⟨rfl,h⟩
 ·exact .inl ⟨rfl,h⟩
theorem cZ {b:Bool}{x:Option R}{r:R}(h:jN b x=some r):b=true∧x=some r:=by
 cases b
 ·cases h
 ·exact⟨rfl,h⟩
theorem rm {k:IntKind}{v:IV}{K:Int→Option R}{r:R}(h:fG k v K=some r):∃n,v=.int k n∧K n=some r:=by
 unfold fG at h;split at h
 ·obtain⟨e,h2⟩:=cZ h;have e':=of_decide_eq_true e;exact⟨_,by rw[e'],h2⟩
 ·cases h
theorem M3 {v:IV}{K:Bool→Option R}{r:R}(h:gu v K=some r):∃n,v=.bool n∧K n=some r:=by
 unfold gu at h;split at h
 ·exact⟨_,rfl,h⟩
 ·cases h
theorem Aq {v:IV}{K:List UInt8→Option R}{r:R}(h:gQ v K=some r):∃n,v=.str n∧K n=some r:=by
 unfold gQ at h;split at h
 ·exact⟨_,rfl,h⟩
 ·cases h
theorem Ao {v:IV}{K:List IV→Option R}{r:R}(h:iq v K=some r):∃n,v=.agg n∧K n=some r:=by
 unfold iq at h;split at h
 ·exact⟨_,rfl,h⟩
 ·cases h
theorem M5 {v:IV}{K:List IV→Option R}{r:R}(h:jE v K=some r):∃n,v=.db n∧K n=some r:=by
 unfold jE at h;split at h
 ·exact⟨_,rfl,h⟩
 ·cases h
theorem Ap {v:IV}{K:Nat→Nat→Option R}{r:R}(h:M4 v K=some r):∃i o,v=.pB i o∧K i o=some r:=by
 unfold M4 at h;split at h
 ·exact⟨_,_,rfl,h⟩
 ·cases h
theorem Jb {v:IV}{K:Nat→Option R}{r:R}(h:kg v K=some r):∃i,v=.pB i 0∧K i=some r:=by
 unfold kg at h;split at h
 ·exact⟨_,rfl,h⟩
 ·cases h
theorem CN {v:IV}{X:Option R}{r:R}(h:EH v X=some r):v=.aa∧X=some r:=by
 unfold EH at h;split at h
 ·exact⟨rfl,h⟩
 ·cases h
theorem Bt {cs:List IV}{K:IV→List IV→Option R}{r:R}(h:c6 cs K=some r):∃v t,cs=v::t∧K v t=some r:=by
 unfold c6 at h;split at h
 ·exact⟨_,_,rfl,h⟩
 ·cases h
theorem Bu {cs:List IV}{K:Option R}{r:R}(h:bj cs K=some r):cs=[]∧K=some r:=by
 unfold bj at h;split at h
 ·exact⟨rfl,h⟩
 ·cases h
theorem Lw {v:IV}{X:Option R}{r:R}(h:xw v X=some r):v.cells=[v]∧v.nd=false∧v.jO=false∧X=some r:=by
 unfold xw at h;split at h
 ·cases h
 ·cases h
 ·cases h
 ·cases h
 ·rename_i h1 h2 h3 h4
  cases v<;>first | exact⟨rfl,rfl,rfl,h⟩ | (exact (h1 _ rfl).elim) | (exact (h2 _ rfl).elim) | (exact (h3 rfl).elim) | (exact (h4 _ _ rfl).elim)
theorem CO {v:IV}{X:Option R}{r:R}(h:dk v X=some r):v.jO=false∧X=some r:=by
 unfold dk at h;split at h
 ·cases h
 ·rename_i h1
  cases v<;>first | exact⟨rfl,h⟩ | (exact (h1 _ _ rfl).elim)
theorem L5 {v:IV}{X:Option R}{r:R}(h:bf v X=some r):(∃n,v.refs=some n)∧X=some r:=by
 unfold bf at h;split at h
 ·rename_i e;exact⟨⟨_,e⟩,h⟩
 ·cases h
theorem pK:∀{cs:List IV}{X:Option R}{r:R},t6 cs X=some r→(∃n,aC cs=some n)∧X=some r
 |[],X,r,h=>⟨⟨_,rfl⟩,h⟩
 |v::t,X,r,h=>by
  obtain⟨⟨n,e⟩,h⟩:=L5 h;obtain⟨⟨n',e'⟩,h⟩:=pK h;exact⟨⟨_,by rw[aC,e,e']⟩,h⟩
theorem nR:∀{cs:List IV}{X:Option R}{r:R},iT cs X=some r→cs.all IV.plain=true∧X=some r
 |[],X,r,h=>⟨rfl,h⟩
 |v::t,X,r,h=>by
  unfold iT mR at h;split at h
  ·rename_i e;obtain⟨e',h⟩:=nR h;exact⟨by rw[List.all_cons,e,e'];rfl,h⟩
  ·cases h
theorem Nx {o:dW}{vs:List IV}{K:IV→Option R}{r:R}(h:fq o vs K=some r):∃v,o.ev vs=some v∧K v=some r:=by
 unfold fq at h;split at h
 ·exact⟨_,by assumption,h⟩
 ·cases h
theorem Np {cs:List IV}{off:Nat}{v:IV}(h:cs[off]?=some v):cut cs off 1=some [v]:=by obtain⟨hl,he⟩:=List.getElem?_eq_some_iff.1 h;unfold cut;rw[if_pos (by omega),List.drop_eq_getElem_cons hl,he];rfl
def Tl (agg:Bool) (cs:List IV) (off n:Nat):Option IV:=match agg with
 |true=>(cut cs off n).map .agg
 |false=>cs[off]?
theorem rF {agg:Bool}{cs:List IV}{off n:Nat}{K:IV→Option R}{r:R}(h:eV agg cs off n K=some r):∃v,K v=some r∧Tl agg cs off n=some v:=by
 cases agg with
 |true =>
  simp only[eV] at h;split at h
  ·rename_i e;exact⟨_,h,by simp[Tl,e]⟩
  ·cases h
 |false =>
  simp only[eV] at h;split at h
  ·rename_i e;exact⟨_,h,by simp[Tl,e]⟩
  ·cases h
theorem uX {lb:List (Nat×aS)}{m:IM}{agg:Bool}{n:Nat}{p:IV}{cs:List IV}{off:Nat}{v:IV}(hc:∀n,bu lb m p n=cut cs off n) (h:Tl agg cs off n=some v):dU lb m agg n p=some v:=by
 unfold dU;simp only[hc]
 cases agg with
 |true =>simp only[Tl,Option.map_eq_some_iff] at h;obtain⟨x,e,rfl⟩:=h;simp[e,aK]
 |false =>simp only[Tl] at h;simp[Np h]
theorem J9 {m:IM}{id:Nat}{K:List IV→List cV→Option R}{r:R}(h:gH m id K=some r):∃cs cp,m.get id=.cells cs cp∧K cs cp=some r:=by
 unfold gH at h;split at h
 ·rename_i e;exact⟨_,_,e,h⟩
 ·cases h
theorem F8 {m:IM}{agg:Bool}{n:Nat}{p:IV}{K:IV→Option R}{r:R}(h:lD m agg n p K=some r):∃v,K v=some r∧∀lb,dU lb m agg n p=some v:=by
 unfold lD at h;split at h
 ·obtain⟨v,h1,h2⟩:=rF h;exact⟨v,h1,fun lb=>uX (fun _=>rfl) h2⟩
 ·obtain⟨cs,cp,e,h⟩:=J9 h;obtain⟨v,h1,h2⟩:=rF h;exact⟨v,h1,fun lb=>uX (fun n=>by simp[bu,e]) h2⟩
 ·cases h
theorem zw (st:St) (n id off:Nat) (vs:List IV) (c:cV):bK st n (.pB id off) vs c =
  if vs.length≠n then none else match st.m.get id,aC vs with
   |.cells cs cp,some r=>if off+n≤cs.length then some { st with m:=⟨st.m.bs.set id (.cells (over cs off vs) (bh cp off n c)),if r≤id then st.m.kS else st.m.kS+1⟩,lk:=kT (· == id) st.lk } else none
   |_,_=>none:=by
 unfold bK;split
 ·rfl
 ·simp only[aK,IM.put]
  cases st.m.get id<;>cases aC vs<;>rfl
theorem Dm {st st':St}{n id off:Nat}{vs:List IV}{c:cV}(h:bK st n (.pB id off) vs c=some st') (b:St) (hb:b.m=st.m) :
  bK b n (.pB id off) vs c=some { b with m:=st'.m,lk:=kT (· == id) b.lk }:=by
 rw[zw] at h ⊢;rw[hb];split at h
 ·cases h
 ·rename_i hn;rw[if_neg hn];split at h
  ·rename_i e1 e2;split at h
   ·rename_i e3;rw[if_pos e3]
    cases h
    rfl
   ·cases h
  ·cases h
theorem Oq {m:IM}{p:IV}{vs:List IV}{c:cV}{K:IM→Option R}{r:R}(h:lN m p vs c K=some r) :
  ∃id m',K m'=some r∧∀b:St,b.m=m→bK b vs.length p vs c=some { b with m:=m',lk:=kT (· == id) b.lk }:=by
 unfold lN at h;split at h
 ·rename_i id off;split at h
  ·rename_i st e;exact⟨id,st.m,h,fun b hb=>Dm e b hb⟩
  ·cases h
 ·cases h
theorem xO {m:IM}{sz:Nat}{v:IV}{K:List IV→Nat→Option R}{r:R}(h:tu m sz v K=some r):∃xs n,K xs n=some r∧∀lb,dG lb m sz v=some (xs,n):=by
 unfold tu at h;split at h
 ·rename_i e;refine⟨_,_,h,fun lb=>?_⟩
  cases v<;>first | exact e | (simp only[dG] at e ⊢;exact e)
 ·cases h
theorem F2 {e ex:Ex}{A B:Option R}{r:R}(h:fJ e ex A B=some r):(ex=e∧A=some r)∨(ex≠e∧B=some r):=by
 unfold fJ at h;by_cases q:ex=e
 ·rw[decide_eq_true q] at h;exact .inl ⟨q,h⟩
 ·rw[decide_eq_false q] at h;exact .inr ⟨q,h⟩
theorem An {s:MU}{v:IV}{K:IV→Option R}{r:R}(h:T8 s v K=some r):K v=some r:=by
 unfold T8 at h;split at h
 ·obtain⟨n,rfl,h'⟩:=rm h;exact h'
 ·obtain⟨n,rfl,h'⟩:=M3 h;exact h'
 ·obtain⟨n,rfl,h'⟩:=Aq h;exact h'
 ·obtain⟨n,o,rfl,h'⟩:=Ap h;exact h'
 ·obtain⟨n,rfl,h'⟩:=Jb h;exact h'
 ·exact h
theorem uP:∀{l:List MU}{cs:List IV}{K:List IV→Option R}{r:R},T9 l cs K=some r→K cs=some r
 |[],cs,K,r,h=>by obtain⟨rfl,h'⟩:=Bu h;exact h'
 |s::l,cs,K,r,h=>by
  obtain⟨v,t,rfl,h'⟩:=Bt h;exact uP (l:=l) (K:=fun t=>K (v::t)) (An h')
theorem Jc {s:T6}{v:IV}{K:IV→Option R}{r:R}(h:Ua s v K=some r):K v=some r:=by
 cases s with
 |one s=>exact An h
 |agg l=>obtain⟨n,rfl,h'⟩:=Ao h;exact uP h'
theorem B5:∀{l:List T6}{cs:List IV}{K:List IV→Option R}{r:R},QY l cs K=some r→K cs=some r
 |[],cs,K,r,h=>by obtain⟨rfl,h'⟩:=Bu h;exact h'
 |s::l,cs,K,r,h=>by
  obtain⟨v,t,rfl,h'⟩:=Bt h;exact B5 (l:=l) (K:=fun t=>K (v::t)) (Jc h')
theorem B6 {s:Sh}{v:IV}{K:IV→Option R}{r:R}(h:QZ s v K=some r):K v=some r:=by
 cases s with
 |one s=>exact An h
 |agg l=>obtain⟨n,rfl,h'⟩:=Ao h;exact uP h'
 |db l=>obtain⟨n,rfl,h'⟩:=M5 h;exact B5 h'
def dc (c c':cV):Prop:=c=uA∨c'=c
inductive eT:List cV→List cV→Prop where
 |nil:eT [] []
 |cons {a b:cV}{s t:List cV}:dc a b→eT s t→eT (a::s) (b::t)
def BR (o o':aS):Prop:=o=Uu∨o=o'∨∃cs cp cp',o=.cells cs cp∧o'=.cells cs cp'∧eT cp cp'
structure Sub (s b:St):Prop where
 env:∀i v c,look s.env i=some (v,c)→∃c',look b.env i=some (v,c')∧dc c c'
 lk:∀p,p∈s.lk→p∈b.lk
 uq:j8 b.lk=true
 lb:∀k,BR (aQ s.lb k) (aQ b.lb k)
 m:s.m=b.m
theorem dc.refl (c:cV):dc c c:=.inr rfl
theorem dc.uA (c:cV):dc uA c:=.inl rfl
theorem dc.trans {a b c:cV}(h1:dc a b) (h2:dc b c):dc a c:=by
 rcases h1 with rfl | rfl
 ·exact .inl rfl
 ·exact h2
theorem eT.refl:∀l,eT l l
 |[]=>.nil
 |a::r=>.cons (dc.refl a) (eT.refl r)
theorem eT.trans {a b c:List cV}(h1:eT a b) (h2:eT b c):eT a c:=by
 induction h1 generalizing c with
 |nil=>exact h2
 |cons hab _ ih=>cases h2 with | cons hbc h=>exact .cons (hab.trans hbc) (ih h)
theorem eT.len {a b:List cV}(h:eT a b):a.length=b.length:=by
 induction h with
 |nil=>rfl
 |cons _ _ ih=>simp[ih]
theorem eT.getD {a b:List cV}(h:eT a b) (i:Nat):dc (a.getD i .any) (b.getD i .any):=by
 induction h generalizing i with
 |nil=>exact dc.refl _
 |cons hab _ ih=>cases i with
  |zero=>exact hab
  |succ i=>exact ih i
theorem eT.append {a b c d:List cV}(h:eT a b) (h2:eT c d):eT (a++c) (b++d):=by
 induction h with
 |nil=>exact h2
 |cons hab _ ih=>exact .cons hab ih
theorem eT.take {a b:List cV}(h:eT a b) (n:Nat):eT (a.take n) (b.take n):=by
 induction h generalizing n with
 |nil=>simp;exact .nil
 |cons hab _ ih=>cases n with
  |zero=>exact .nil
  |succ n=>exact .cons hab (ih n)
theorem eT.drop {a b:List cV}(h:eT a b) (n:Nat):eT (a.drop n) (b.drop n):=by
 induction h generalizing n with
 |nil=>simp;exact .nil
 |cons hab h' ih=>cases n with
  |zero=>exact .cons hab h'
  |succ n=>exact ih n
theorem eT.set {a b:List cV}(h:eT a b) (n:Nat) {c c':cV}(hc:dc c c'):eT (a.set n c) (b.set n c'):=by
 induction h generalizing n with
 |nil=>exact .nil
 |cons hab h' ih=>cases n with
  |zero=>exact .cons hc h'
  |succ n=>exact .cons hab (ih n)
theorem eT.rep {c c':cV}(h:dc c c'):∀n,eT (List.replicate n c) (List.replicate n c')
 |0=>.nil
 |n+1=>.cons h (eT.rep h n)
theorem eT.over {a b:List cV}(h:eT a b) (off n:Nat) {c c':cV}(hc:dc c c'):eT (bh a off n c) (bh b off n c') :=
 ((h.take off).append (eT.rep hc n)).append (h.drop (off+n))
theorem BR.refl (o:aS):BR o o:=.inr (.inl rfl)
theorem BR.trans {a b c:aS}(h1:BR a b) (h2:BR b c):BR a c:=by
 rcases h1 with rfl | rfl | ⟨cs,cp,cp',rfl,rfl,hc⟩
 ·exact .inl rfl
 ·exact h2
 ·rcases h2 with e | rfl | ⟨cs2,cp2,cp2',e1,rfl,hc2⟩
  ·cases e
  ·exact .inr (.inr ⟨cs,cp,cp',rfl,rfl,hc⟩)
  ·cases e1
   exact .inr (.inr ⟨cs,cp,cp2',rfl,rfl,hc.trans hc2⟩)
theorem BR.none {o:aS}(h:BR .none o):o=.none:=by
 rcases h with e | rfl | ⟨_,_,_,e,_⟩
 ·cases e
 ·rfl
 ·cases e
theorem BR.iter {s:List UInt8}{p:Nat}{o:aS}(h:BR (.iter s p) o):o=.iter s p:=by
 rcases h with e | rfl | ⟨_,_,_,e,_⟩
 ·cases e
 ·rfl
 ·cases e
theorem BR.cells {cs:List IV}{cp:List cV}{o:aS}(h:BR (.cells cs cp) o):∃cp',o=.cells cs cp'∧eT cp cp':=by
 rcases h with e | rfl | ⟨_,_,cp',e,rfl,hc⟩
 ·cases e
 ·exact⟨cp,rfl,eT.refl _⟩
 ·cases e;exact⟨cp',rfl,hc⟩
theorem BR.mk {cs:List IV}{cp cp':List cV}(hc:eT cp cp'):BR (.cells cs cp) (.cells cs cp') :=
 .inr (.inr ⟨cs,cp,cp',rfl,rfl,hc⟩)
theorem sg {i:Nat}{l:Loc}{r:List (Nat×Loc)}:j8 ((i,l)::r)=true↔j8 r=true∧∀p∈r,p.1≠i:=by
 simp only[j8];constructor
 ·intro h;split at h
  ·rename_i e;simp only[Bool.not_eq_true',List.any_eq_false] at h;exact⟨e,fun p hp q=>h p hp (by rw[q];exact Nat.beq_refl i)⟩
  ·cases h
 ·rintro ⟨h1,h2⟩;rw[h1];simp only[Bool.not_eq_true',List.any_eq_false];intro p hp q;exact h2 p hp (Nat.eq_of_beq_eq_true q)
theorem ky {p:Nat×Loc→Bool}:∀{lk:List (Nat×Loc)},j8 lk=true→j8 (lk.filter p)=true
 |[],_=>rfl
 |(i,l)::r,h=>by
  obtain⟨h1,h2⟩:=sg.1 h;rw[List.filter_cons];split
  ·exact sg.2 ⟨ky h1,fun q hq=>h2 q (List.mem_filter.1 hq).1⟩
  ·exact ky h1
theorem qR {d:Nat}{lk:List (Nat×Loc)}(h:j8 lk=true):j8 (aR d lk)=true:=by rw[jH];exact ky h
theorem Ov {d:Nat}{lk:List (Nat×Loc)}(h:j8 lk=true):j8 (kU d lk)=true:=by rw[ta];exact ky h
theorem GH {d:Nat→Bool}{lk:List (Nat×Loc)}(h:j8 lk=true):j8 (kT d lk)=true:=by rw[sZ];exact ky h
theorem rM:∀{lk:List (Nat×Loc)}{p:Nat×Loc},p∈AP lk→p∈lk∧∀i o,p.2 ≠ .B i o
 |(i,l)::r,p,h=>by
  unfold AP at h;split at h
  ·obtain⟨a,b⟩:=rM h;exact⟨List.mem_cons_of_mem _ a,b⟩
  ·rename_i hl;rcases List.mem_cons.1 h with rfl | h
   ·exact⟨List.mem_cons_self,hl⟩
   ·obtain⟨a,b⟩:=rM h;exact⟨List.mem_cons_of_mem _ a,b⟩
theorem rN:∀{lk:List (Nat×Loc)}{p:Nat×Loc},p∈EB lk→p∈lk∧(∀i o,p.2 ≠ .B i o)∧p.2 ≠ .marked
 |(i,l)::r,p,h=>by
  unfold EB at h;split at h
  ·obtain⟨a,b⟩:=rN h;exact⟨List.mem_cons_of_mem _ a,b⟩
  ·obtain⟨a,b⟩:=rN h;exact⟨List.mem_cons_of_mem _ a,b⟩
  ·rename_i hl hm;rcases List.mem_cons.1 h with rfl | h
   ·exact⟨List.mem_cons_self,hl,hm⟩
   ·obtain⟨a,b⟩:=rN h;exact⟨List.mem_cons_of_mem _ a,b⟩
theorem xi (f:Nat→Bool):∀lk:List (Nat×Loc),∃p:Nat×Loc→Bool,(je f lk=lk.filter p)∧∀q,(∀i o,q.2 ≠ .B i o)→q.2 ≠ .marked→p q=true:=by
 intro lk;refine⟨fun q=>match q.2 with | .B id _=>!f id | .marked=>false | _=>true,?_,?_⟩
 ·induction lk with
  |nil=>rfl
  |cons q r ih =>
   obtain⟨i,l⟩:=q
   cases l with
   |B id o =>
    unfold je;by_cases hf:f id=true
    ·simp[hf,ih]
    ·simp[hf,ih]
   |_=>simp[je,ih]
 ·rintro ⟨i,l⟩ h1 h2
  cases l with
  |B id o=>exact (h1 _ _ rfl).elim
  |marked=>exact (h2 rfl).elim
  |_=>rfl
theorem E5 {d i:Nat}{l:Loc}:iY d i l=true↔i≠d∧l ≠ .slot d:=by
 unfold iY;have hb:∀a b:Nat,(!(Nat.beq a b))=true↔a≠b:=fun a b=>by
  constructor
  ·intro h e;subst e;rw[Nat.beq_refl] at h;cases h
  ·intro h;rw[qk h];rfl
 rw[Bool.and_eq_true,hb];constructor
 ·rintro ⟨h1,h2⟩;refine⟨h1,fun e=>?_⟩;subst e;simp only at h2;exact (hb _ _).1 h2 rfl
 ·rintro ⟨h1,h2⟩;refine⟨h1,?_⟩
  cases l with
  |slot j=>exact (hb _ _).2 fun e=>h2 (by rw[e])
  |_=>rfl
theorem qE {d:Nat}{s b:List (Nat×Loc)}(h:∀p,p∈s→p∈b):∀p,p∈aR d s→p∈aR d b:=by intro p hp;rw[jH] at hp ⊢;rw[List.mem_filter] at hp ⊢;exact⟨h p hp.1,hp.2⟩
theorem pC {d:Nat}{s:List (Nat×Loc)}:∀p,p∈aR d s→p∈s:=by intro p hp;rw[jH] at hp;exact (List.mem_filter.1 hp).1
theorem NU {d:Nat}{s b:List (Nat×Loc)}(h:∀p,p∈s→p∈b):∀p,p∈kU d s→p∈kU d b:=by intro p hp;rw[ta] at hp ⊢;rw[List.mem_filter] at hp ⊢;exact⟨h p hp.1,hp.2⟩
theorem CA {f:Nat→Bool}{s b:List (Nat×Loc)}(h:∀p,p∈s→p∈b):∀p,p∈AP s→p∈kT f b:=by
 intro p hp;obtain⟨h1,h2⟩:=rM hp;rw[sZ,List.mem_filter];refine⟨h p h1,?_⟩;unfold M7;split
 ·rename_i e;exact (h2 _ _ e).elim
 ·rfl
theorem CB {f:Nat→Bool}{s b:List (Nat×Loc)}(h:∀p,p∈s→p∈b):∀p,p∈EB s→p∈je f b:=by intro p hp;obtain⟨h1,h2,h3⟩:=rN hp;obtain⟨q,e,hq⟩:=xi f b;rw[e,List.mem_filter];exact⟨h p h1,hq _ h2 h3⟩
theorem nh {R:Type}{ids:List Nat}:∀{s:List (Nat×Loc)}{K:List (Nat×Loc)→Option R}{r:R},yf ids s K=some r→∃t,K t=some r∧∀p,p∈t→p∈je (fun i=>!ids.contains i) s
 |[],K,r,h=>⟨[],h,fun _ hp=>by cases hp⟩
 |(i,l)::q,K,r,h=>by
  cases l with
  |B id off =>
   simp only[yf] at h;split at h
   ·obtain⟨t,e,ht⟩:=nh h;refine⟨_,e,fun p hp=>?_⟩;simp only[je,List.contains_nil,Bool.not_false,if_true];exact ht p hp
   ·obtain⟨h1,h⟩:=cZ h;obtain⟨t,e,ht⟩:=nh h;refine⟨_,e,fun p hp=>?_⟩;simp only[je,h1,Bool.not_true,Bool.false_eq_true,if_false];rcases List.mem_cons.1 hp with rfl | hp
    ·exact List.mem_cons_self
    ·exact List.mem_cons_of_mem _ (ht p hp)
  |marked =>simp only[yf] at h;obtain⟨t,e,ht⟩:=nh h;exact⟨_,e,fun p hp=>by simp only[je];exact ht p hp⟩
  |slot j =>
   simp only[yf] at h;obtain⟨t,e,ht⟩:=nh h;refine⟨_,e,fun p hp=>?_⟩;simp only[je];rcases List.mem_cons.1 hp with rfl | hp
   ·exact List.mem_cons_self
   ·exact List.mem_cons_of_mem _ (ht p hp)
  |L k off =>
   simp only[yf] at h;obtain⟨t,e,ht⟩:=nh h;refine⟨_,e,fun p hp=>?_⟩;simp only[je];rcases List.mem_cons.1 hp with rfl | hp
   ·exact List.mem_cons_self
   ·exact List.mem_cons_of_mem _ (ht p hp)
def Ll (f:Nat→Bool) (p:Nat×Loc):Bool:=match p.2 with
 |.B id _=>!f id
 |.marked=>false
 |_=>true
theorem NT (f:Nat→Bool) (l:List (Nat×Loc)):je f l=l.filter (Ll f):=by
 induction l with
 |nil=>rfl
 |cons x r ih =>
  obtain⟨i,l⟩:=x
  cases l with
  |B id off=>cases h:f id<;>simp[je,Ll,h,ih]
  |slot j=>simp[je,List.filter_cons,Ll,ih]
  |L k o=>simp[je,List.filter_cons,Ll,ih]
  |marked=>simp[je,Ll,ih]
theorem Lk {f:Nat→Bool}{s b:List (Nat×Loc)}(h:∀p,p∈s→p∈b):∀p,p∈je f s→p∈je f b:=by intro p hp;rw[NT,List.mem_filter] at hp ⊢;exact⟨h p hp.1,hp.2⟩
theorem Bv {f:Nat→Bool}{lk:List (Nat×Loc)}(h:j8 lk=true):j8 (je f lk)=true:=by obtain⟨q,e,_⟩:=xi f lk;rw[e];exact ky h
theorem E8 {lk:List (Nat×Loc)}(h:j8 lk=true) {i:Nat}{l:Loc}(hm:(i,l)∈lk):aU lk i=some l:=(E9 h).aU hm
variable {s b:St}
theorem Sub.link (h:Sub s b) {i:Nat}{l:Loc}(e:aU s.lk i=some l):aU b.lk i=some l:=E8 h.uq (h.lk _ (iS e))
theorem Sub.set (h:Sub s b) (i:Nat) (v:IV) {c c':cV}(hc:dc c c'):Sub { s with env:=(i,v,c)::s.env } { b with env:=(i,v,c')::b.env } where
 env:=by
  intro j v' c1 hl;simp only[dZ] at hl ⊢;split at hl
  ·rename_i e;subst e;cases hl;exact⟨c',by simp,hc⟩
  ·rename_i e;rw[if_neg e];exact h.env _ _ _ hl
 lk:=h.lk
 uq:=h.uq
 lb:=h.lb
 m:=h.m
theorem Sub.say (h:Sub s b) (i:Nat) (v:IV) {c c':cV}(hb:look b.env i=some (v,c')) (hc:dc c c'):Sub { s with env:=(i,v,c)::s.env } b where
 env:=by
  intro j v' c1 hl;simp only[dZ] at hl;split at hl
  ·rename_i e;subst e;cases hl;exact⟨c',hb,hc⟩
  ·exact h.env _ _ _ hl
 lk:=h.lk
 uq:=h.uq
 lb:=h.lb
 m:=h.m
theorem Sub.refine (h:Sub s b) {i:Nat}{v:IV}{c:cV}(e:look s.env i=some (v,c)):Sub { s with env:=(i,v,c)::s.env } b:=by obtain⟨c',h1,h2⟩:=h.env _ _ _ e;exact h.say i v h1 h2
theorem Sub.aR (h:Sub s b) (d:Nat):Sub { s with lk:=aR d s.lk } { b with lk:=Idl.aR d b.lk } where
 env:=h.env
 lk:=qE h.lk
 uq:=qR h.uq
 lb:=h.lb
 m:=h.m
theorem Sub.xj (h:Sub s b) {l:List (Nat×Loc)}(hl:∀p,p∈l→p∈s.lk):Sub { s with lk:=l } b where
 env:=h.env
 lk:=fun p hp=>h.lk p (hl p hp)
 uq:=h.uq
 lb:=h.lb
 m:=h.m
theorem Sub.Lm (h:Sub s b) {l l':List (Nat×Loc)}(hl:∀p,p∈l→p∈l') (hu:j8 l'=true):Sub { s with lk:=l } { b with lk:=l' } where
 env:=h.env
 lk:=hl
 uq:=hu
 lb:=h.lb
 m:=h.m
theorem Sub.mem (h:Sub s b) (m:IM):Sub { s with m:=m } { b with m:=m } where
 env:=h.env
 lk:=h.lk
 uq:=h.uq
 lb:=h.lb
 m:=rfl
theorem Sub.box (h:Sub s b) (k:Nat) {o o':aS}(ho:BR o o'):Sub { s with lb:=(k,o)::s.lb } { b with lb:=(k,o')::b.lb } where
 env:=h.env
 lk:=h.lk
 uq:=h.uq
 lb:=by
  intro j;simp only[cg];split
  ·exact ho
  ·exact h.lb j
 m:=h.m
theorem eO {ty:gO}{a:Arg}{K:Sh→IV→Option R}{r:R}(h:tY ty s.env a K=some r) (hs:Sub s b):∃v,a.rd s.env=some v∧a.rd b.env=some v∧K (match a with | .t i=>DC ty i | .c v=>Xx v) v=some r:=by
 cases a with
 |t i =>
  simp only[tY] at h;split at h
  ·rename_i v c e;obtain⟨c',e',_⟩:=hs.env _ _ _ e;exact⟨v,by simp[Arg.rd,e],by simp[Arg.rd,e'],h⟩
  ·cases h
 |c v=>exact⟨_,rfl,rfl,h⟩
theorem nt {ty:gO}:∀{as:List Arg}{K:List (Sh×IV)→Option R}{r:R},EU ty s.env as K=some r→Sub s b→∃l,de b.env as=some (single l)∧K l=some r
 |[],K,r,h,_=>⟨[],rfl,h⟩
 |a::as,K,r,h,hs=>by
  obtain⟨v,_,e,h⟩:=eO h hs;obtain⟨l,e',h⟩:=nt h hs;exact⟨_,by rw[de,e,e'];rfl,h⟩
theorem lT {sh:Sh}{v:IV}{K:List IV→Option R}{r:R}(h:qn sh v K=some r):v.nd=false∧v.jO=false∧K v.cells=some r:=by
 unfold qn at h;split at h
 ·obtain⟨cs,rfl,h'⟩:=Ao h;exact⟨rfl,rfl,h'⟩
 ·obtain⟨h1,h2,h3,h⟩:=Lw h;exact⟨h2,h3,by rw[h1];exact h⟩
theorem nk {a b:Nat}(h:Nat.beq a b=true):a=b:=Nat.eq_of_beq_eq_true h
theorem UE {a b:Nat}(h:Nat.ble a b=true):a≤b:=Nat.le_of_ble_eq_true h
theorem sM:∀{zero:List IV}{parts:List (Nat×Nat)}{l:List (Sh×IV)}{K:List IV→Option R}{r:R},wK zero parts l K=some r→∃cs,dT zero parts (single l)=some cs∧K cs=some r
 |zero,(off,n)::ps,(sh,v)::vs,K,r,h=>by
  unfold wK at h;obtain⟨h1,h2,h⟩:=lT h;obtain⟨h3,h⟩:=cZ h;rw[Bool.and_eq_true] at h3;obtain⟨cs,e,h⟩:=sM h;refine⟨cs,?_,h⟩;have e1:=nk h3.1;have e2:=UE h3.2;simp only[single,dT];rw[if_pos (by simp[h1,h2,e1,e2])];exact e
 |cs,[],[],K,r,h=>⟨cs,rfl,h⟩
 |_,[],_::_,_,_,h=>by simp[wK] at h
 |_,_::_,[],_,_,h=>by simp[wK] at h
theorem Hl {v:IV}{X:Option R}{r:R}(h:iy v X=some r):(∀z,ft v z=.own z)∧v.cells=[v]∧v.nd=false∧v.jO=false∧X=some r:=by
 unfold iy at h;split at h
 ·exact⟨fun _=>rfl,rfl,rfl,rfl,h⟩
 ·exact⟨fun _=>rfl,rfl,rfl,rfl,h⟩
 ·cases h
end
section
variable {R:Type}{s b:St}{ty:gO}{call:bW}
theorem px {b:St}{i:Nat}{v:IV}{c:cV}(e:look b.env i=some (v,c)):b.drop (.slot i)=some { b with env:=(i,v,.any)::b.env,lk:=aR i b.lk }:=by simp only[St.drop,e,aK]
theorem kK {c:cV}(h:dc .any c):c=.any:=by
 rcases h with h | h
 ·cases h
 ·exact h
theorem lS {z:Nat}{c:cV}(h:dc (.own z) c) (hz:z≠0):c=.own z:=by
 rcases h with h | h
 ·cases h;exact absurd rfl hz
 ·exact h
theorem Gf {i:Nat}{xf:Bool}{K:IV→cV→St→Option R}{r:R}(h:V3 s i xf K=some r) (hs:Sub s b) :
  ∃v c cb c' b',look b.env i=some (v,cb)∧dc c c'∧((xf=false∧c'=.any∧b'=b)∨(xf=true∧cb=.any∧c'=.any∧b'=b)∨(xf=true∧∃sz,cb=.own sz∧c'=.own sz∧b.drop (.slot i)=some b')) ∧
   ∃s',Sub s' b'∧s'.lb=s.lb∧K v c s'=some r:=by
 unfold V3 at h;split at h
 ·rename_i v c e;obtain⟨cb,eb,hc⟩:=hs.env _ _ _ e;split at h
  ·exact⟨v,.any,cb,.any,b,eb,dc.refl _,.inl ⟨rfl,rfl,rfl⟩,s,hs,rfl,h⟩
  ·split at h
   ·have:=kK hc;subst this;exact⟨v,.any,.any,.any,b,eb,dc.refl _,.inr (.inl ⟨rfl,rfl,rfl,rfl⟩),s,hs,rfl,h⟩
   ·rename_i sz
    cases cb with
    |any =>refine⟨v,.own sz,.any,.any,b,eb,hc,.inr (.inl ⟨rfl,rfl,rfl,rfl⟩),{ s with env:=(i,v,.any)::s.env,lk:=aR i s.lk },?_,rfl,h⟩;exact (hs.say i v eb (dc.refl _)).xj (pC (s:=s.lk))
    |own z =>refine⟨v,.own sz,.own z,.own z,_,eb,hc,.inr (.inr ⟨rfl,z,rfl,rfl,px eb⟩),{ s with env:=(i,v,.any)::s.env,lk:=aR i s.lk },?_,rfl,h⟩;exact (hs.set i v (dc.refl .any)).aR i
 ·cases h
theorem gY {e:Env}{i:Nat}{v:IV}{c:cV}(h:look e i=some (v,c)):c8 e i=c:=by simp[c8,h]
theorem il {e:Env}{i:Nat}{v:IV}{c:cV}(h:look e i=some (v,c)):(Arg.t i).rd e=some v:=by simp[Arg.rd,h]
theorem HB {c:cV}{X:Option R}{r:R}(h:known c X=some r):(∀c',dc c c'→c'=c)∧X=some r:=by
 unfold known at h;split at h
 ·exact⟨fun c' hc=>kK hc,h⟩
 ·obtain⟨h1,h2⟩:=cZ h;refine⟨fun c' hc=>lS hc fun e=>?_,h2⟩;subst e
  cases h1
theorem r7 {lb:List (Nat×aS)}{sh:Sh}{p:IV}{n:Nat}{cs:List IV}{c c':cV}{K:St→Option R}{r:R}(h:Vu lb sh p n cs c s K=some r) (hlb:s.lb=lb) (hs:Sub s b) (hc:dc c c') :
  ∃b',bK b n p cs c'=some b'∧∃s',Sub s' b'∧K s'=some r:=by
 unfold Vu at h;split at h
 ·split at h
  ·rename_i k off;split at h
   ·rename_i bs cp e;rw[←hlb] at e;have hb:=hs.lb k;rw[e] at hb;obtain⟨cp',eb,hcp⟩:=hb.cells;obtain⟨⟨n',hr⟩,h⟩:=pK h;obtain⟨hg,h⟩:=cZ h;rw[Bool.and_eq_true] at hg;have e1:=nk hg.1;have e2:=UE hg.2;refine⟨{ b with lb:=(k,.cells (over bs off cs) (bh cp' off n c'))::b.lb,lk:=kU k b.lk },?_,_,?_,h⟩
    ·unfold bK;rw[if_neg (by simp[e1])];simp only[eb,hr,if_pos e2,aK]
    ·exact (hs.box k (BR.mk (hcp.over off n hc))).Lm (NU hs.lk) (Ov hs.uq)
   ·cases h
  ·cases h
 ·obtain⟨hk,h⟩:=HB h;rw[hk c' hc];obtain⟨hg,h⟩:=cZ h;have e1:=nk hg;obtain⟨id,m',h,hst⟩:=Oq h;have:=hst b hs.m.symm;rw[e1] at this;exact⟨_,this,_,(hs.mem m').Lm (CA hs.lk) (GH hs.uq),h⟩
def qH (xs:List IV) (n:Nat):IV:=if n=0 then .aa else .sl xs n
theorem qI {bytes:Nat}{xs:List IV}{n:Nat}{K:IV→Option R}{r:R}(h:aL (n==0) (K .aa) (jN (decide (n*bytes≤aH)) (K (.sl xs n)))=some r):(n=0∨n*bytes≤aH)∧K (qH xs n)=some r:=by
 rcases ng h with ⟨h1,h⟩ | ⟨h1,h⟩
 ·have h1:n=0:=by simpa using h1
  exact⟨.inl h1,by rw[qH,if_pos h1];exact h⟩
 ·obtain⟨h2,h⟩:=cZ h;have h1:n≠0:=by simpa using h1
  exact⟨.inr (of_decide_eq_true h2),by rw[qH,if_neg h1];exact h⟩
theorem vT {sv:IV}{sz bytes:Nat}{xs:List IV}{n:Nat}{K:IV→Option R}{r:R}(h:j9 sv sz bytes xs n K=some r) :
  (sv=.aa∧(n=0∨n*bytes≤aH)∧K (qH xs n)=some r)∨(∃row len,sv=.sl row len∧((len+n)*bytes≤aH∧row.length=len*sz)∧K (.sl (row++xs) (len+n))=some r):=by
 unfold j9 at h;split at h
 ·exact .inl ⟨rfl,qI h⟩
 ·obtain⟨h2,h⟩:=cZ h;exact .inr ⟨_,_,rfl,of_decide_eq_true h2,h⟩
 ·cases h
theorem B3 {sv:IV}{bytes:Nat}{xs:List IV}{n:Nat}{K:IV→Option R}{r:R}(h:MZ sv bytes xs n K=some r):sv=.aa∧(n=0∨n*bytes≤aH)∧K (qH xs n)=some r:=by
 unfold MZ at h;split at h
 ·exact⟨rfl,qI h⟩
 ·cases h
theorem Nu {st st':St}{id off:Nat}(h:st.drop (.B id off)=some st') (b:St) (hb:b.m=st.m):b.drop (.B id off)=some { b with m:=st'.m }:=by
 simp only[St.drop] at h ⊢;rw[hb];split at h
 ·simp only[aK,IM.put] at h ⊢
  cases h;rfl
 ·cases h;rw[←hb]
theorem pg {call:bW}{b:St}{sz bytes:Nat}{a x:Arg}{xv:IV}{row xs:List IV}{len n:Nat}{l:Loc}{b':St}(hx:x.rd b.env=some xv) (ha:a.rd b.env=some (.sl row len)) (hsrc:dG b.lb b.m sz xv=some (xs,n)) (hp:xs.all IV.plain=true) (hl:xs.length=n*sz)
  (ho:b.owner a sz=some l) (hg:(len+n)*bytes≤aH∧row.length=len*sz) (hd:b.drop l=some b'):(IK.append sz bytes a x).run call b=some (.sl (row++xs) (len+n),.own sz,b'):=by
 have hq:(xs.all IV.plain&&xs.length==n*sz)=true:=by rw[hp,hl,beq_self_eq_true];rfl
 simp only[IK.run,hx,ha,hsrc,hq,if_true,ho,if_pos hg,hd]
theorem append_nil {call:bW}{b:St}{sz bytes:Nat}{a x:Arg}{xv:IV}{xs:List IV}{n:Nat}(hx:x.rd b.env=some xv) (ha:a.rd b.env=some .aa) (hsrc:dG b.lb b.m sz xv=some (xs,n)) (hp:xs.all IV.plain=true) (hl:xs.length=n*sz)
  (h:n=0∨n*bytes≤aH):(IK.append sz bytes a x).run call b=some (qH xs n,.own sz,b):=by
 have hq:(xs.all IV.plain&&xs.length==n*sz)=true:=by rw[hp,hl,beq_self_eq_true];rfl
 simp only[IK.run,hx,ha,hsrc,hq,if_true,qH];by_cases h0:n=0
 ·rw[if_pos h0,if_pos h0]
 ·rcases h with h | h
  ·exact absurd h h0
  ·rw[if_neg h0,if_neg h0,if_pos h]
theorem Hy {sz bytes:Nat}{a x:Arg}{K:IV→cV→St→Option R}{r:R}(h:(IK.append sz bytes a x).den ty call s K=some r) (hs:Sub s b) :
  ∃v c c' b',(IK.append sz bytes a x).run call b=some (v,c',b')∧dc c c'∧∃s',Sub s' b'∧K v c s'=some r:=by
 simp only[IK.den] at h;obtain⟨xv,_,hx,h⟩:=eO h hs;obtain⟨xs,n,h,hsrc⟩:=xO h;rw[hs.m] at hsrc;obtain⟨hp,h⟩:=nR h;obtain⟨hl,h⟩:=cZ h;have hl:=nk hl;have hsrc:=hsrc b.lb
 cases a with
 |c sv =>simp only at h;obtain⟨rfl,hn,h'⟩:=B3 h;exact⟨_,_,_,b,append_nil hx rfl hsrc hp hl hn,dc.refl _,s,hs,h'⟩
 |t i =>
  simp only at h;split at h
  ·rename_i sv z e;obtain⟨hz,h⟩:=cZ h;simp only[Bool.and_eq_true,Bool.not_eq_true'] at hz;obtain⟨hz1,hz2⟩:=hz;have hz1:=nk hz1;subst hz1;have hz0:z≠0:=fun q=>by subst q;cases hz2
   obtain⟨cb,eb,hcb⟩:=hs.env _ _ _ e;have:=lS hcb hz0;subst this;rcases vT h with ⟨rfl,hn,h'⟩ | ⟨row,len,rfl,hg,h'⟩
   ·exact⟨_,_,_,b,append_nil hx (il eb) hsrc hp hl hn,dc.refl _,_,(hs.say i _ eb (dc.uA _)).xj (pC (s:=s.lk)),h'⟩
   ·exact⟨_,_,_,_,pg hx (il eb) hsrc hp hl (l:=.slot i) (by simp only[St.owner,gY eb,if_true]) hg (px eb),dc.refl _,_,(hs.set i _ (dc.uA .any)).aR i,h'⟩
  ·rename_i sv e;obtain⟨cb,eb,hcb⟩:=hs.env _ _ _ e;have:=kK hcb;subst this;split at h
   ·rename_i k off el;have elb:=hs.link el;split at h
    ·rename_i cs cp ek;have hb:=hs.lb k;rw[ek] at hb;obtain⟨cp',ekb,hcp⟩:=hb.cells;obtain⟨hz,h⟩:=cZ h;simp only[Bool.and_eq_true,Bool.not_eq_true',decide_eq_true_eq] at hz;obtain⟨hz1,hz2⟩:=hz;have hz0:sz≠0:=fun q=>by subst q;cases hz2
     have hcap:=hcp.getD off;rw[hz1] at hcap;have hcap:=lS hcap hz0;rcases vT h with ⟨rfl,hn,h'⟩ | ⟨row,len,rfl,hg,h'⟩
     ·refine⟨_,_,_,b,append_nil hx (il eb) hsrc hp hl hn,dc.refl _,_,?_,h'⟩;refine⟨hs.env,hs.lk,hs.uq,fun j=>?_,hs.m⟩;simp only[cg];split
      ·rename_i q;subst q;rw[ekb];refine BR.mk ?_;have hset:eT (cp.set off uA) (cp'.set off (cp'.getD off .any)):=hcp.set off (dc.uA _);have cd:cp'.set off (cp'.getD off .any)=cp':=by
        by_cases hlt:off<cp'.length
        ·rw[List.getD_eq_getElem?_getD,List.getElem?_eq_getElem hlt];simp
        ·rw[List.set_eq_of_length_le (by omega)]
       rw[cd] at hset;exact hset
      ·exact hs.lb j
     ·refine⟨_,_,_,{ b with lb:=(k,.cells cs (cp'.set off .any))::b.lb },pg hx (il eb) hsrc hp hl (l:=.L k off) ?_ hg ?_,dc.refl _,_,hs.box k (BR.mk (hcp.set off (dc.uA .any))),h'⟩
      ·simp only[St.owner,gY eb,elb,St.dn,ekb,hcap,if_true]
      ·simp only[St.drop,ekb,aK]
    ·cases h
   ·rename_i id off el;have elb:=hs.link el;unfold mw at h;split at h
    ·obtain⟨hn,h'⟩:=qI (K:=fun v=>K v (.own sz) { s with m:=s.m }) h;exact⟨_,_,_,b,append_nil hx (il eb) hsrc hp hl hn,dc.refl _,s,hs,h'⟩
    ·rename_i row len _;obtain⟨h1,h⟩:=cZ h;obtain⟨hg,h⟩:=cZ h;have h1:=of_decide_eq_true h1;have hg:=of_decide_eq_true hg;split at h
     ·rename_i st ed;have ed':=Nu ed b hs.m.symm;have hcap:b.dn (.B id off)=.own sz:=by rw[hs.m] at h1;exact h1
      exact⟨_,_,_,_,pg hx (il eb) hsrc hp hl (l:=.B id off) (by simp only[St.owner,gY eb,elb,hcap,if_true]) hg ed',dc.refl _,_,hs.mem st.m,h⟩
     ·cases h
    ·cases h
   ·rename_i j el;have elb:=hs.link el;split at h
    ·rename_i w z ej;obtain⟨hz,h⟩:=cZ h;simp only[Bool.and_eq_true,Bool.not_eq_true'] at hz;obtain⟨hz1,hz2⟩:=hz;have hz1:=nk hz1;subst hz1;have hz0:z≠0:=fun q=>by subst q;cases hz2
     obtain⟨cj,ejb,hcj⟩:=hs.env _ _ _ ej;have:=lS hcj hz0;subst this;rcases vT h with ⟨rfl,hn,h'⟩ | ⟨row,len,rfl,hg,h'⟩
     ·exact⟨_,_,_,b,append_nil hx (il eb) hsrc hp hl hn,dc.refl _,_,(hs.say j _ ejb (dc.uA _)).xj (pC (s:=s.lk)),h'⟩
     ·exact⟨_,_,_,_,pg hx (il eb) hsrc hp hl (l:=.slot j) (by simp only[St.owner,gY eb,elb,St.dn,gY ejb,if_true]) hg (px ejb),dc.refl _,_,(hs.set j _ (dc.uA .any)).aR j,h'⟩
    ·cases h
   ·obtain⟨rfl,hn,h'⟩:=B3 h;exact⟨_,_,_,b,append_nil hx (il eb) hsrc hp hl hn,dc.refl _,s,hs,h'⟩
  ·cases h
theorem KE {n:Nat}{a x:Arg}{xf:Bool}{K:IV→cV→St→Option R}{r:R}(h:(IK.store n a x xf).den ty call s K=some r) (hs:Sub s b) :
  ∃v c c' b',(IK.store n a x xf).run call b=some (v,c',b')∧dc c c'∧∃s',Sub s' b'∧K v c s'=some r:=by
 simp only[IK.den] at h;obtain⟨p,_,hp,h⟩:=eO h hs
 cases x with
 |c v =>
  simp only at h;obtain⟨_,_,h⟩:=lT h;obtain⟨b',hst,s',hs',h⟩:=r7 h rfl hs (dc.refl .any);refine⟨_,_,_,b',?_,dc.refl _,s',hs',h⟩;have hv:(Arg.c v).rd b.env=some v:=rfl
  cases xf<;>simp[IK.run,hp,hv,hst]
 |t i =>
  simp only at h;obtain⟨v,c,cb,c',b1,eb,hcc,hcase,s1,hs1,hlb,h⟩:=Gf h hs;split at h
  ·obtain⟨_,_,h⟩:=lT h;have hc0:=kK hcc;subst hc0;obtain⟨b',hst,s',hs',h⟩:=r7 h hlb hs1 (dc.refl .any);refine⟨_,_,_,b',?_,dc.refl _,s',hs',h⟩;rcases hcase with ⟨rfl,_,rfl⟩ | ⟨rfl,rfl,_,rfl⟩ | ⟨_,z,_,e,_⟩
   ·simp[IK.run,hp,il eb,hst]
   ·simp[IK.run,hp,il eb,gY eb,hst]
   ·cases e
  ·rename_i sz;obtain⟨hcs,hcells,_,_,h⟩:=Hl h;rcases hcase with ⟨_,rfl,rfl⟩ | ⟨rfl,rfl,rfl,rfl⟩ | ⟨rfl,z,rfl,rfl,hd⟩
   ·obtain⟨b',hst,s',hs',h⟩:=r7 h hlb hs1 hcc;refine⟨_,_,_,b',?_,dc.refl _,s',hs',h⟩;rename_i hxf;subst hxf;simp[IK.run,hp,il eb,hcells,hst]
   ·obtain⟨b',hst,s',hs',h⟩:=r7 h hlb hs1 hcc;refine⟨_,_,_,b',?_,dc.refl _,s',hs',h⟩;simp[IK.run,hp,il eb,gY eb,hcells,hst]
   ·obtain⟨b',hst,s',hs',h⟩:=r7 h hlb hs1 hcc;refine⟨_,_,_,b',?_,dc.refl _,s',hs',h⟩;simp[IK.run,hp,il eb,gY eb,hd,hcells,hcs,hst]
end
section
variable {R:Type}{s b:St}{ty:gO}{call:bW}
theorem put_eq (st:St) (d:Option Nat) (v:IV) (c:cV):st.put d v c=some (match d with | none=>st | some d=>{ st with env:=(d,v,c)::st.env,lk:=aR d st.lk }):=by
 cases d with
 |none=>rfl
 |some d=>simp only[St.put,aK,ck]
theorem Ge (m:IM) (id:Nat) (o:aS):m.put id o=some ⟨m.bs.set id o,m.kS⟩:=by simp only[IM.put,aK]
theorem mem_push (m:IM) (o:aS):m.push o=some (bZ m o):=by simp only[IM.push,aK,bZ]
theorem oB:∀{hs:List Arg}{K:List Nat→Option R}{r:R},Em s.env hs K=some r→Sub s b→K (aM b.env hs)=some r
 |[],K,r,h,_=>h
 |.c _::t,K,r,h,hs=>oB (hs:=t) h hs
 |.t i::t,K,r,h,hs=>by
  unfold Em at h;split at h
  ·rename_i v c e;obtain⟨cb,eb,_⟩:=hs.env _ _ _ e;split at h
   ·have:=oB h hs;simp only[aM,eb];exact this
   ·rename_i hn;have:=oB h hs;simp only[aM,eb]
    cases v<;>first | exact this | exact (hn _ _ rfl).elim
  ·cases h
theorem sD {c:Callee}{vs:List IV}{fk:List Arg}{K:IV→IM→Option R}{r:R}(h:an call c vs (aM b.env fk) b.m K=some r) :
  ∃v m',dC call b c vs fk=some (v,.any,{ b with m:=m',lk:=je (fun i=>!(aM b.env fk).contains i) b.lk })∧K v m'=some r:=by
 unfold an at h;unfold dC;simp only[aK];split at h
 ·rename_i e1;split at h
  ·rename_i e2;split at h
   ·rename_i v m2 e3;split at h
    ·rename_i m3 e4;refine⟨v,m3,?_,h⟩;simp only[e1,e2,e3,e4]
    ·cases h
   ·cases h
  ·cases h
 ·cases h
theorem Ru {k:IK}{K:IV→cV→St→Option R}{r:R}(h:k.den ty call s K=some r) (hs:Sub s b) :
  ∃v c c' b',k.run call b=some (v,c',b')∧dc c c'∧∃s',Sub s' b'∧K v c s'=some r:=by
 cases k with
 |mv x xf lk =>
  cases x with
  |c v=>exact⟨_,_,_,b,rfl,dc.refl _,s,hs,h⟩
  |t i =>
   simp only[IK.den] at h;obtain⟨v,c,cb,c',b1,eb,hcc,hcase,s1,hs1,_,h⟩:=Gf h hs;refine⟨v,c,c',b1,?_,hcc,s1,hs1,h⟩;rcases hcase with ⟨rfl,rfl,rfl⟩ | ⟨rfl,rfl,rfl,rfl⟩ | ⟨rfl,z,rfl,rfl,hd⟩
   ·simp[IK.run,il eb]
   ·simp[IK.run,il eb,gY eb]
   ·simp[IK.run,il eb,gY eb,hd]
 |p o args =>
  simp only[IK.den] at h;split at h
  ·rename_i j a a2;split at h
   ·rename_i c cc e;obtain⟨cb,eb,_⟩:=hs.env _ _ _ e;rcases ng h with ⟨rfl,h'⟩ | ⟨rfl,h'⟩
    ·obtain⟨v,e1,e2,h⟩:=eO h' hs;obtain⟨v2,e3⟩:=Arg.rd_some b.env a2;refine⟨v,_,_,b,?_,dc.refl _,_,hs.refine e,h⟩;simp[IK.run,de,il eb,e2,e3,dW.ev]
    ·obtain⟨v,e1,e2,h⟩:=eO h' hs;obtain⟨v2,e3⟩:=Arg.rd_some b.env a;refine⟨v,_,_,b,?_,dc.refl _,_,hs.refine e,h⟩;simp[IK.run,de,il eb,e2,e3,dW.ev]
   ·cases h
  ·obtain⟨l,e,h⟩:=nt h hs;obtain⟨cs,e2,h⟩:=sM h;refine⟨_,_,_,b,?_,dc.refl _,s,hs,h⟩;simp[IK.run,e,dW.ev,e2]
  ·obtain⟨l,e,h⟩:=nt h hs;obtain⟨v,e2,h⟩:=Nx h;refine⟨v,_,_,b,?_,dc.refl _,s,hs,h⟩;simp only[IK.run,e,e2]
 |same x =>
  simp only[IK.den] at h;split at h
  ·rename_i i;split at h
   ·rename_i row len c e;obtain⟨cb,eb,hcb⟩:=hs.env _ _ _ e;obtain⟨hm,h⟩:=cZ h;have hm:=hs.link (of_decide_eq_true hm)
    cases cb with
    |any =>
     split at h
     ·refine⟨_,_,_,b,?_,hcb,_,(hs.say i _ eb (dc.refl _)).xj (pC (s:=s.lk)),h⟩;simp[IK.run,il eb,hm,gY eb]
     ·refine⟨_,_,_,b,?_,dc.refl _,s,hs,h⟩;simp[IK.run,il eb,hm,gY eb]
    |own z =>
     split at h
     ·refine⟨_,_,_,_,?_,hcb,_,(hs.set i _ (dc.refl .any)).aR i,h⟩;simp[IK.run,il eb,hm,gY eb,px eb]
     ·have:=kK hcb;cases this
   ·cases h
  ·cases h
 |load agg n a lk =>
  simp only[IK.den] at h;obtain⟨p,e1,e2,h⟩:=eO h hs;have key:∀v,dU b.lb b.m agg n p=some v→(IK.load agg n a lk).run call b=some (v,.any,b):=by intro v hv;simp only[IK.run,e2,hv]
  split at h
  ·split at h
   ·rename_i k off;split at h
    ·rename_i cs cp ek;have hb:=hs.lb k;rw[ek] at hb;obtain⟨cp',ekb,_⟩:=hb.cells;obtain⟨v,h,hv⟩:=rF h;exact⟨v,_,_,b,key v (uX (fun n=>by simp only[bu,ekb]) hv),dc.refl _,s,hs,h⟩
    ·cases h
   ·cases h
  ·obtain⟨v,h,hv⟩:=F8 h;rw[hs.m] at hv;exact⟨v,_,_,b,key v (hv _),dc.refl _,s,hs,h⟩
 |store n a x xf=>exact KE h hs
 |bX k zero cp =>
  simp only[IK.den] at h;split at h
  ·rename_i e;have hb:=hs.lb k;rw[e] at hb;refine⟨_,_,_,{ b with lb:=(k,.cells zero (bp zero cp))::b.lb },?_,dc.refl _,_,hs.box k (BR.refl _),h⟩;simp only[IK.run,ga,hb.none]
  ·cases h
 |iv zero cp =>
  simp only[IK.den] at h;refine⟨_,_,_,{ b with m:=bZ b.m (.cells zero (bp zero cp))},?_,dc.refl _,_,?_,h⟩
  ·simp only[IK.run,fK,mem_push,hs.m]
  ·rw[hs.m];exact hs.mem _
 |f5 k n x =>
  simp only[IK.den] at h;obtain⟨v,_,e2,h⟩:=eO h hs;obtain⟨_,_,h⟩:=lT h;obtain⟨⟨n',hr⟩,h⟩:=pK h;obtain⟨hl,h⟩:=cZ h;have hl:=nk hl;split at h
  ·rename_i e;have hb:=hs.lb k;rw[e] at hb;refine⟨_,_,_,{ b with lb:=(k,.cells v.cells (bp v.cells []))::b.lb },?_,dc.refl _,_,hs.box k (BR.refl _),h⟩;simp only[IK.run,e2,hr,hl,if_true,ga,hb.none]
  ·cases h
 |nZ n x =>
  simp only[IK.den] at h;obtain⟨v,_,e2,h⟩:=eO h hs;obtain⟨_,_,h⟩:=lT h;obtain⟨⟨n',hr⟩,h⟩:=pK h;obtain⟨hl,h⟩:=cZ h;have hl:=nk hl;refine⟨_,_,_,{ b with m:=bZ b.m (.cells v.cells (bp v.cells []))},?_,dc.refl _,_,?_,h⟩
  ·simp only[IK.run,e2,hr,hl,if_true,fK,mem_push,hs.m]
  ·rw[hs.m];exact hs.mem _
 |buildSlice sz len zero parts args =>simp only[IK.den] at h;obtain⟨l,e,h⟩:=nt h hs;obtain⟨cs,e2,h⟩:=sM h;obtain⟨hp,h⟩:=nR h;refine⟨_,_,_,b,?_,dc.refl _,s,hs,h⟩;simp only[IK.run,e,e2,hp,if_true]
 |fb x =>simp only[IK.den] at h;obtain⟨v,_,e2,h⟩:=eO h hs;obtain⟨t,e3,h⟩:=Aq h;subst e3;obtain⟨hl,h⟩:=cZ h;have hl:=of_decide_eq_true hl;refine⟨_,_,_,b,?_,dc.refl _,s,hs,h⟩;simp only[IK.run,e2,if_pos hl]
 |me sz bytes zero len cap =>simp only[IK.den] at h;obtain⟨v,_,e2,h⟩:=eO h hs;obtain⟨l,rfl,h1⟩:=rm h;obtain⟨v,_,e3,h2⟩:=eO h1 hs;obtain⟨c,rfl,h3⟩:=rm h2;obtain⟨hg,h⟩:=cZ h3;have hg:=of_decide_eq_true hg;refine⟨_,_,_,b,?_,dc.refl _,s,hs,h⟩;simp only[IK.run,e2,e3,if_pos hg]
 |kO sz bytes zero len cap =>
  simp only[IK.den] at h;obtain⟨v,_,e2,h⟩:=eO h hs;obtain⟨l,rfl,h1⟩:=rm h;obtain⟨v,_,e3,h2⟩:=eO h1 hs;obtain⟨c,rfl,h3⟩:=rm h2;obtain⟨hg,h⟩:=cZ h3;have hg:=of_decide_eq_true hg;refine⟨_,_,_,{ b with m:=bZ b.m (.cells (dY zero c.toNat) (bp (dY zero c.toNat) []))},?_,dc.refl _,_,?_,h⟩
  ·simp only[IK.run,e2,e3,if_pos hg,fK,mem_push,hs.m]
  ·rw[hs.m];exact hs.mem _
 |append sz bytes a x=>exact Hy h hs
 |copy sz d x =>
  simp only[IK.den] at h;obtain⟨dv,_,e2,h⟩:=eO h hs;obtain⟨xv,_,e3,h⟩:=eO h hs;obtain⟨xs,k,h,hsrc⟩:=xO h;rw[hs.m] at hsrc;have hsrc:=hsrc b.lb;unfold Ym at h;obtain⟨hl,h⟩:=cZ h;have hl:xs.length=k*sz:=of_decide_eq_true hl;unfold Uc at h
  cases dv with
  |sB id off n z =>
   simp only at h;split at h
   ·rename_i st est;have est':=Dm est b hs.m.symm;refine⟨_,_,_,{ b with m:=st.m,lk:=kT (· == id) b.lk },?_,dc.refl _,_,(hs.mem st.m).Lm (CA hs.lk) (GH hs.uq),h⟩;simp only[IK.run,e2,e3,hsrc];rw[if_neg (by simp[hl]),est']
   ·cases h
  |aa =>
   simp only at h;refine⟨.int .i64 (0:Nat),.any,.any,b,?_,dc.refl _,{ s with lk:=AP s.lk },hs.xj (l:=AP s.lk) (fun p hp=>(rM hp).1),h⟩
   ·simp only[IK.run,e2,e3,hsrc];rw[if_neg (by simp[hl])];rfl
  |_=>cases h
 |aj f args fk =>simp only[IK.den] at h;obtain⟨l,e,h⟩:=nt h hs;have h:=oB h hs;rw[hs.m] at h;obtain⟨v,m',e2,h⟩:=sD h;obtain⟨t,h,ht⟩:=nh h;refine⟨v,_,_,_,by simp only[IK.run,e];exact e2,dc.refl _,_,(hs.mem m').Lm (fun p hp=>Lk hs.lk p (ht p hp)) (Bv hs.uq),h⟩
 |fH g args fk =>
  simp only[IK.den] at h;obtain⟨l,e,h⟩:=nt h hs;obtain⟨gv,_,eg,h⟩:=eO h hs;have h:=oB h hs;rw[hs.m] at h;unfold jS at h;split at h
  ·obtain⟨v,m',e2,h⟩:=sD h;refine⟨v,_,_,_,by simp only[IK.run,e,eg];exact e2,dc.refl _,_,(hs.mem m').Lm (CB hs.lk) (Bv hs.uq),h⟩
  ·obtain⟨v,m',e2,h⟩:=sD h;refine⟨v,_,_,_,by simp only[IK.run,e,eg];exact e2,dc.refl _,_,(hs.mem m').Lm (CB hs.lk) (Bv hs.uq),h⟩
  ·cases h
 |mkMap =>
  simp only[IK.den] at h;refine⟨_,_,_,{ b with m:=bZ b.m (.map [])},?_,dc.refl _,_,?_,h⟩
  ·simp only[IK.run,fK,mem_push,hs.m]
  ·rw[hs.m];exact hs.mem _
 |lookup d zero ok a x =>
  simp only[IK.den] at h;obtain⟨mp,_,e2,h⟩:=eO h hs;obtain⟨k,_,e3,h⟩:=eO h hs;unfold Uz at h;rw[hs.m] at h;split at h
  ·refine⟨_,_,_,b,?_,dc.refl _,s,hs,h⟩;simp only[IK.run,e2,e3]
   cases ok<;>rfl
  ·split at h
   ·rename_i em;split at h
    ·rename_i ef;refine⟨_,_,_,b,?_,dc.refl _,s,hs,h⟩;simp only[IK.run,e2,e3,em,ef]
     cases ok<;>rfl
    ·rename_i ef;refine⟨_,_,_,b,?_,dc.refl _,s,hs,h⟩;simp only[IK.run,e2,e3,em,ef]
     cases ok<;>rfl
    ·cases h
   ·cases h
  ·cases h
 |jy d a x y =>
  simp only[IK.den] at h;obtain⟨mp,_,e2,h⟩:=eO h hs;obtain⟨k,_,e3,h⟩:=eO h hs;obtain⟨v,_,e4,h⟩:=eO h hs;unfold UD at h;rw[hs.m] at h;split at h
  ·split at h
   ·rename_i em;split at h
    ·rename_i eu ep;refine⟨_,_,_,{ b with m:=⟨b.m.bs.set _ _,b.m.kS⟩},?_,dc.refl _,_,hs.mem _,h⟩;simp only[IK.run,e2,e3,e4,em,eu,ep,Ge]
    ·cases h
   ·cases h
  ·cases h
 |kt a =>
  simp only[IK.den] at h;obtain⟨mp,_,e2,h⟩:=eO h hs;unfold UC at h;rw[hs.m] at h;split at h
  ·exact⟨_,_,_,b,by simp only[IK.run,e2];rfl,dc.refl _,s,hs,h⟩
  ·split at h
   ·rename_i em;exact⟨_,_,_,b,by simp only[IK.run,e2,em],dc.refl _,s,hs,h⟩
   ·cases h
  ·cases h
 |fa k x =>
  simp only[IK.den] at h;obtain⟨v,_,e2,h⟩:=eO h hs;obtain⟨t,e3,h⟩:=Aq h;subst e3;split at h
  ·rename_i e;have hb:=hs.lb k;rw[e] at hb;refine⟨_,_,_,{ b with lb:=(k,.iter t 0)::b.lb },?_,dc.refl _,_,hs.box k (BR.refl _),h⟩;simp only[IK.run,e2,ga,hb.none]
  ·cases h
 |ee a =>
  simp only[IK.den] at h;obtain⟨p,e1,e2,h⟩:=eO h hs;clear e1;split at h
  ·rename_i q1 k;split at h
   ·rename_i q3 t pos e;have hb:=hs.lb k;rw[e] at hb;have hb:=hb.iter;rcases ng h with ⟨hp,h'⟩ | ⟨hp,h'⟩
    ·have hp:=of_decide_eq_true hp;refine⟨_,_,_,{ b with lb:=(k,.iter t (pos+(Utf8.decode ⟨⟨t⟩⟩ pos).2))::b.lb },?_,dc.refl _,_,hs.box k (BR.refl _),h'⟩;simp only[IK.run,e2,hb,if_pos hp]
    ·have hp:=of_decide_eq_false hp;refine⟨_,_,_,b,?_,dc.refl _,s,hs,h'⟩;simp only[IK.run,e2,hb,if_neg hp]
   ·cases h
  ·cases h
theorem NS {k:IK}{K:IV→cV→St→Option R}{r:R}(h:k.den ty call s K=some r) (hs:Sub s b):k.link b.env=k.link s.env:=by
 cases k with
 |load agg n a lk =>
  simp only[IK.den] at h;obtain⟨p,e1,e2,h⟩:=eO h hs
  cases agg<;>cases lk<;>simp[IK.link,e1,e2]
 |mv x xf lk=>cases x<;>cases xf<;>cases lk<;>rfl
 |buildSlice sz _ _ _ _=>unfold IK.link;by_cases q:sz=1<;>simp[q]
 |_=>rfl
theorem vQ {a:Arg}{t:cW}{X:Option R}{r:R}(h:He s.env a t X=some r) (hs:Sub s b):bq b.env a t=true∧X=some r:=by
 have hn:∀{v:IV},dk v X=some r→(match (some v:Option IV) with | some (.pL ..)=>false | _=>true)=true∧X=some r:=by
  intro v h;obtain⟨h1,h2⟩:=CO h;refine⟨?_,h2⟩
  cases v<;>first | rfl | cases h1
 cases a with
 |c v =>
  unfold He at h;simp only at h;split at h
  ·split at h
   ·exact⟨rfl,h⟩
   ·cases h
  ·exact hn h
  ·split at h
   ·obtain⟨h1,h2⟩:=cZ h;exact⟨h1,h2⟩
   ·cases h
  ·cases h
 |t i =>
  unfold He at h;simp only at h;split at h
  ·rename_i v c e;obtain⟨cb,eb,_⟩:=hs.env _ _ _ e;have er:=il eb;split at h
   ·split at h
    ·exact⟨by simp only[bq,er],h⟩
    ·cases h
   ·obtain⟨h1,h2⟩:=hn h;exact⟨by simp only[bq,er];exact h1,h2⟩
   ·split at h
    ·obtain⟨h1,h2⟩:=cZ h;exact⟨by simp only[bq,er];exact h1,h2⟩
    ·cases h
   ·split at h
    ·rename_i w _ e2;obtain⟨cb2,eb2,_⟩:=hs.env _ _ _ e2;obtain⟨id,o,rfl,h⟩:=Ap h;rename_i h0;obtain⟨id',o',rfl,h⟩:=Ap h0;rename_i h0;obtain⟨h1,h2⟩:=cZ h0;exact⟨by simp only[bq,er,eb2];exact h1,h2⟩
    ·cases h
   ·cases h
  ·cases h
theorem I7 {i:Nat}{t:cW}{X:Option R}{r:R}(h:MY s.env s.lk i t X=some r) (hs:Sub s b) (hreq:∀v c,look s.env i=some (v,c)→∀z,c=.own z→z≠0):eE b.env b.lk i t=true∧X=some r:=by
 unfold MY at h;split at h
 ·rename_i v c e;obtain⟨cb,eb,hcb⟩:=hs.env _ _ _ e;split at h
  ·rename_i z;have:=lS hcb (hreq _ _ e z rfl);subst this;refine⟨?_,h⟩;unfold eE;rw[eb]
   cases v<;>rfl
  ·have:=kK hcb;subst this;split at h
   ·rename_i l el;have elb:=hs.link el;obtain⟨h1,h2⟩:=cZ h;refine⟨?_,h2⟩;unfold eE;rw[eb,elb]
    cases v<;>first | rfl | exact h1
   ·split at h
    ·refine⟨?_,h⟩;unfold eE;rw[eb]
    ·cases h
 ·cases h
theorem qD {d:Nat}:∀{lk:List (Nat×Loc)}{K:List (Nat×Loc)→Option R},rK d lk K=K (aR d lk)
 |[],K=>rfl
 |(i,l)::r,K=>by
  unfold rK;rw[qD];simp only[aR]
  cases hi:Nat.beq i d with
  |true=>rw[if_pos (nk hi)]
  |false =>
   have hi':¬i=d:=fun e=>by subst e;rw[Nat.beq_refl] at hi;cases hi
   rw[if_neg hi']
   cases l with
   |slot j =>
    cases hj:Nat.beq j d with
    |true=>simp only[if_pos (nk hj),hj]
    |false =>
     have hj':¬j=d:=fun e=>by subst e;rw[Nat.beq_refl] at hj;cases hj
     simp only[if_neg hj',hj]
   |_=>rfl
theorem Ln {k:IK}{env:Env}{K:Option Loc→Option R}{r:R}(h:RC ty env k K=some r):∃l,K l=some r∧(l=none∨l=k.link env):=by
 unfold RC at h;split at h
 ·exact⟨_,h,.inr rfl⟩
 ·exact⟨_,h,.inr rfl⟩
 ·exact⟨_,h,.inr rfl⟩
 ·split at h
  ·split at h
   ·rename_i e;exact⟨_,h,.inr (by simp[IK.link,Arg.rd,e])⟩
   ·cases h
  ·split at h
   ·rename_i e;exact⟨_,h,.inr (by simp[IK.link,Arg.rd,e])⟩
   ·cases h
  ·split at h
   ·rename_i e;exact⟨_,h,.inr (by simp[IK.link,Arg.rd,e])⟩
   ·cases h
  ·exact⟨_,h,.inl rfl⟩
 ·exact⟨_,h,.inl rfl⟩
theorem N2 {d:Option Nat}{K:St→Option R}{r:R}(h:RR d s K=some r) (hs:Sub s b):∃b',b.put d (.db []) .any=some b'∧∃s',Sub s' b'∧K s'=some r:=by
 cases d with
 |none=>exact⟨b,rfl,s,hs,h⟩
 |some d =>simp only[RR,qD] at h;exact⟨_,put_eq _ _ _ _,_,(hs.set d _ (dc.refl .any)).aR d,h⟩
theorem tU {d:Nat}{lk:List (Nat×Loc)}:∀p∈aR d lk,p.1≠d:=by intro p hp;rw[jH,List.mem_filter] at hp;exact (E5.1 hp.2).1
theorem J8 {g:Option (Nat×Bool)}{A B:St→Option R}{r:R}(h:J7 s g A B=some r) (hs:Sub s b) :
  (gate b.env g=some true∧∃s',Sub s' b∧A s'=some r)∨(gate b.env g=some false∧∃s',Sub s' b∧B s'=some r):=by
 unfold J7 at h;split at h
 ·exact .inl ⟨rfl,s,hs,h⟩
 ·rename_i j want;split at h
  ·rename_i x c e;obtain⟨cb,eb,_⟩:=hs.env _ _ _ e;split at h
   ·rcases ng h with ⟨rfl,h'⟩ | ⟨rfl,h'⟩
    ·exact .inl ⟨by simp[gate,eb],_,hs.refine e,h'⟩
    ·exact .inr ⟨by simp[gate,eb],_,hs.refine e,h'⟩
   ·rcases ng h with ⟨rfl,h'⟩ | ⟨rfl,h'⟩
    ·exact .inr ⟨by simp[gate,eb],_,hs.refine e,h'⟩
    ·exact .inl ⟨by simp[gate,eb],_,hs.refine e,h'⟩
  ·rename_i e;obtain⟨cb,eb,_⟩:=hs.env _ _ _ e;exact .inr ⟨by simp[gate,eb],s,hs,h⟩
  ·cases h
def okB (k:IK) (t:cW) (b:St):Bool:=match k with
 |.load _ _ a _=>bq b.env a t
 |.store _ a _ _=>bq b.env a t
 |.ee a=>bq b.env a t
 |.append _ _ (.t i) _=>eE b.env b.lk i t
 |_=>false
theorem RT (k:IK) {t:cW}(b:St) (ht:t ≠ .none):k.ok t b=okB k t b:=by
 unfold IK.ok okB
 cases t<;>first | exact absurd rfl ht | rfl
theorem RS {k:IK}{t:cW}{K:IV→cV→St→Option R}{r:R}(h:WQ k t s (k.den ty call s K)=some r) (hs:Sub s b):k.ok t b=true∧k.den ty call s K=some r:=by
 unfold WQ at h;split at h
 ·cases k<;>exact⟨rfl,h⟩
 ·rename_i ht;have hok:=RT k (t:=t) b ht;rw[hok];unfold okB;split at h
  ·obtain⟨h1,h2⟩:=vQ h hs;exact⟨h1,h2⟩
  ·obtain⟨h1,h2⟩:=vQ h hs;exact⟨h1,h2⟩
  ·obtain⟨h1,h2⟩:=vQ h hs;exact⟨h1,h2⟩
  ·rename_i sz bytes i x;have hden:(IK.append sz bytes (.t i) x).den ty call s K=some r:=by
    unfold MY at h;split at h
    ·split at h
     ·exact h
     ·split at h
      ·exact (cZ h).2
      ·split at h
       ·exact h
       ·cases h
    ·cases h
   obtain⟨h1,h2⟩:=I7 h hs (fun v c e z hc=>by
    subst hc;simp only[IK.den] at hden;obtain⟨xv,_,hx,hden⟩:=eO hden hs;obtain⟨xs,n,hden,hsrc⟩:=xO hden;obtain⟨hp,hden⟩:=nR hden;obtain⟨hl,hden⟩:=cZ hden;rw[e] at hden;simp only at hden;obtain⟨hz,_⟩:=cZ hden;simp only[Bool.and_eq_true,Bool.not_eq_true'] at hz;have:=nk hz.1;intro q;subst q;rw[←this] at hz;exact absurd hz.2 (by decide))
   exact⟨h1,h2⟩
  ·cases h
theorem RW {o:dh}{K:St→Option R}{r:R}(h:o.den ty call s K=some r) (hs:Sub s b):∃b',o.run call b=some b'∧∃s',Sub s' b'∧K s'=some r:=by
 unfold dh.den at h;rcases J8 h hs with ⟨hg,s1,hs1,h⟩ | ⟨hg,s1,hs1,h⟩
 ·obtain⟨hok,h⟩:=RS h hs1;have hl:=NS h hs1;obtain⟨v,c,c',b1,hrun,hc,s2,hs2,h⟩:=Ru h hs1
  have hrun0:∀b2,(match o.dst,o.k.link b.env with
    |some d,some l=>if l=.slot d then some (match o.dst with | none=>b1 | some d=>{ b1 with env:=(d,v,c')::b1.env,lk:=aR d b1.lk }) else some { (match o.dst with | none=>b1 | some d=>{ b1 with env:=(d,v,c')::b1.env,lk:=aR d b1.lk }) with lk:=(d,l)::(match o.dst with | none=>b1 | some d=>{ b1 with env:=(d,v,c')::b1.env,lk:=aR d b1.lk }).lk }
    |_,_=>some (match o.dst with | none=>b1 | some d=>{ b1 with env:=(d,v,c')::b1.env,lk:=aR d b1.lk }))=some b2→o.run call b=some b2:=by
   intro b2 e;unfold dh.run;simp only[hg,hok];unfold dh.fF;simp only[hg,hrun,put_eq];exact e
  unfold Vi at h
  cases hd:o.dst with
  |none =>rw[hd] at h hrun0;exact⟨b1,hrun0 b1 (by rfl),s2,hs2,h⟩
  |some d =>
   rw[hd] at h hrun0;have h:=B6 h;rw[qD] at h;obtain⟨l0,h,hl0⟩:=Ln h;rw[←hl] at hl0
   cases hk:o.k.link b.env with
   |none =>
    rw[hk] at hl0 hrun0;have:l0=none:=by rcases hl0 with e | e<;>exact e
    subst this;exact⟨_,hrun0 _ rfl,_,(hs2.set d v hc).aR d,h⟩
   |some l =>
    rw[hk] at hl0 hrun0;simp only at h hrun0;have hbig:∃b2,o.run call b=some b2∧Sub { s2 with env:=(d,v,c)::s2.env,lk:=aR d s2.lk } b2∧(l ≠ .slot d→Sub { s2 with env:=(d,v,c)::s2.env,lk:=(d,l)::aR d s2.lk } b2):=by
     by_cases q:l=.slot d
     ·exact⟨_,hrun0 _ (if_pos q),(hs2.set d v hc).aR d,fun n=>absurd q n⟩
     ·refine⟨_,hrun0 _ (if_neg q),?_,fun _=>?_⟩
      ·refine ((hs2.set d v hc).aR d).Lm (l:=aR d s2.lk) (l':=(d,l)::aR d b1.lk) ?_ ?_
       ·intro p hp;exact List.mem_cons_of_mem _ (qE hs2.lk p hp)
       ·exact sg.2 ⟨qR hs2.uq,tU⟩
      ·refine ((hs2.set d v hc).aR d).Lm (l:=(d,l)::aR d s2.lk) (l':=(d,l)::aR d b1.lk) ?_ ?_
       ·intro p hp;rcases List.mem_cons.1 hp with rfl | hp
        ·exact List.mem_cons_self
        ·exact List.mem_cons_of_mem _ (qE hs2.lk p hp)
       ·exact sg.2 ⟨qR hs2.uq,tU⟩
    obtain⟨b2,hr,hsub1,hsub2⟩:=hbig;rcases hl0 with rfl | rfl
    ·exact⟨b2,hr,_,hsub1,h⟩
    ·cases l with
     |slot j =>
      simp only at h;split at h
      ·exact⟨b2,hr,_,hsub1,h⟩
      ·rename_i hj;exact⟨b2,hr,_,hsub2 (fun e=>by cases e;rw[Nat.beq_refl] at hj;cases hj),h⟩
     |L a c=>exact⟨b2,hr,_,hsub2 (fun e=>by cases e),h⟩
     |B a c=>exact⟨b2,hr,_,hsub2 (fun e=>by cases e),h⟩
     |marked=>exact⟨b2,hr,_,hsub2 (fun e=>by cases e),h⟩
 ·obtain⟨b',e,s',hs',h⟩:=N2 h hs1;refine⟨b',?_,s',hs',h⟩;unfold dh.run dh.fF;simp only[hg];exact e
theorem A7:∀{l:List dh}{s b:St}{K:St→Option R}{r:R},A6 ty call l s K=some r→Sub s b→∃b',bm call l b=some b'∧∃s',Sub s' b'∧K s'=some r
 |[],s,b,K,r,h,hs=>⟨b,rfl,s,hs,h⟩
 |o::l,s,b,K,r,h,hs=>by
  obtain⟨b1,e1,s1,hs1,h⟩:=RW h hs;obtain⟨b2,e2,s2,hs2,h⟩:=A7 h hs1;exact⟨b2,by simp only[bm,e1,e2],s2,hs2,h⟩
end
section
variable {R:Type}{s b:St}{ty:gO}{call:bW}
theorem yX {a b:cV}(h:FM a b=true):dc a b:=by
 unfold FM at h;rw[Bool.or_eq_true] at h;rcases h with h | h
 ·exact .inl (of_decide_eq_true h)
 ·exact .inr (of_decide_eq_true h)
theorem tG:∀{a b:List cV},uR a b=true→eT a b
 |[],[],_=>.nil
 |a::s,b::t,h=>by
  simp only[uR,Bool.and_eq_true] at h;exact .cons (yX h.1) (tG h.2)
 |[],_::_,h=>by cases h
 |_::_,[],h=>by cases h
theorem wu:∀{l:List (Nat×cV)}{env:Env}{K:List IV→Option R}{r:R},wt env l K=some r →
  ∃vs,K vs=some r∧∀{Q:Type}{K':Env→Option Q}{q:Q},OQ ty l vs K'=some q→∃e,K' e=some q∧∀i v c,look e i=some (v,c)→∃c',look env i=some (v,c')∧dc c c'
 |[],env,K,r,h=>⟨[],h,fun {Q K' q} h'=>⟨[],(Bu h').2,fun i v c e=>by cases e⟩⟩
 |(i,c)::l,env,K,r,h=>by
  unfold wt at h;split at h
  ·rename_i v c' e;obtain⟨hg,h⟩:=cZ h;have hc:=yX hg;obtain⟨vs,h,hz⟩:=wu h;refine⟨v::vs,h,fun {Q K' q} h'=>?_⟩;unfold OQ at h';obtain⟨v2,t,e2,h'⟩:=Bt h'
   cases e2
   have h':=B6 h';obtain⟨e3,h',hl⟩:=hz h';refine⟨_,h',fun j w d ej=>?_⟩;rw[dZ] at ej;split at ej
   ·rename_i q;subst q;cases ej;exact⟨c',e,hc⟩
   ·exact hl j w d ej
  ·cases h
theorem na:∀{l:List BX}{lb:List (Nat×aS)}{K:List aS→Option R}{r:R},mZ lb l K=some r →
  ∃bs,K bs=some r∧∀{Q:Type}{K':List (Nat×aS)→Option Q}{q:Q},Bw l bs K'=some q→∃e,K' e=some q∧(∀k,hasB l k=true→BR (aQ e k) (aQ lb k))∧∀k,hasB l k=false→aQ e k=.none
 |[],lb,K,r,h=>⟨[],h,fun {Q K' q} h'=>by
   have:K' []=some q:=by unfold Bw cB at h';exact h'
   exact⟨[],this,fun k e=>Bool.noConfusion e,fun k _=>rfl⟩⟩
 |.cells k sh cp::l,lb,K,r,h=>by
  unfold mZ at h;split at h
  ·rename_i cs cp' e;obtain⟨hg,h⟩:=cZ h;have hc:=tG hg;obtain⟨bs,h,hz⟩:=na h;refine⟨.cells cs cp::bs,h,fun {Q K' q} h'=>?_⟩;unfold Bw at h';simp only[jB,jP] at h';have h':=uP h';obtain⟨e3,h',hl,hn⟩:=hz h';refine⟨_,h',fun j hj=>?_,fun j hj=>?_⟩
   ·rw[cg];split
    ·rename_i q;subst q;rw[e];exact BR.mk hc
    ·rename_i q;refine hl j ?_;simp only[hasB,BX.k,Bool.or_eq_true] at hj;rcases hj with hj | hj
     ·exact absurd (nk hj) q
     ·exact hj
   ·simp only[hasB,BX.k,Bool.or_eq_false_iff] at hj;rw[cg,if_neg (fun q=>by subst q;rw[Nat.beq_refl] at hj;cases hj.1)];exact hn j hj.2
  ·cases h
 |.iter k::l,lb,K,r,h=>by
  unfold mZ at h;split at h
  ·rename_i cs cp' e;obtain⟨bs,h,hz⟩:=na h;refine⟨.iter cs cp'::bs,h,fun {Q K' q} h'=>?_⟩;unfold Bw at h';simp only[jB,Ja] at h';obtain⟨e3,h',hl,hn⟩:=hz h';refine⟨_,h',fun j hj=>?_,fun j hj=>?_⟩
   ·rw[cg];split
    ·rename_i q;subst q;rw[e];exact BR.refl _
    ·rename_i q;refine hl j ?_;simp only[hasB,BX.k,Bool.or_eq_true] at hj;rcases hj with hj | hj
     ·exact absurd (nk hj) q
     ·exact hj
   ·simp only[hasB,BX.k,Bool.or_eq_false_iff] at hj;rw[cg,if_neg (fun q=>by subst q;rw[Nat.beq_refl] at hj;cases hj.1)];exact hn j hj.2
  ·cases h
 |.dead k::l,lb,K,r,h=>by
  unfold mZ at h;obtain⟨bs,h,hz⟩:=na h;refine⟨bs,h,fun {Q K' q} h'=>?_⟩;unfold Bw at h';obtain⟨e3,h',hl,hn⟩:=hz h';refine⟨_,h',fun j hj=>?_,fun j hj=>?_⟩
  ·rw[cg];split
   ·exact .inl rfl
   ·rename_i q;refine hl j ?_;simp only[hasB,BX.k,Bool.or_eq_true] at hj;rcases hj with hj | hj
    ·exact absurd (nk hj) q
    ·exact hj
  ·simp only[hasB,BX.k,Bool.or_eq_false_iff] at hj;rw[cg,if_neg (fun q=>by subst q;rw[Nat.beq_refl] at hj;cases hj.1)];exact hn j hj.2
theorem B2:∀{lb:List (Nat×aS)}{bx:List BX},MX lb bx=true→∀k,hasB bx k=false→aQ lb k=.none
 |[],_,_,_,_=>rfl
 |(j,o)::r,bx,h,k,hk=>by
  simp only[MX,Bool.and_eq_true] at h;rw[cg];split
  ·rename_i q;subst q;rw[h.1] at hk;cases hk
  ·exact B2 h.2 k hk
theorem JK {a b:Ex}(h:Ny a b=true):a=b:=by
 cases a<;>cases b<;>first | rfl | cases h | (have:=nk h;subst this;rfl)
theorem Nz {a b:Ex}(h:Ny a b=false):a≠b:=by
 intro e;subst e
 cases a<;>simp[Ny] at h
theorem pH:∀{l:List (Nat×Nat×Nat)}{env:Env}{X:Option R}{r:R},zm env l X=some r→X=some r∧∀i k o,(i,k,o)∈l→look env i=some (.pL k o,.any)
 |[],env,X,r,h=>⟨h,fun i k o hm=>by cases hm⟩
 |(i,k,o)::l,env,X,r,h=>by
  unfold zm at h;split at h
  ·rename_i e;obtain⟨hg,h2⟩:=cZ h;rw[Bool.and_eq_true] at hg;have e1:=nk hg.1;have e2:=nk hg.2;obtain⟨h3,hl⟩:=pH h2;rw[e1,e2] at e;refine⟨h3,fun j k2 o2 hm=>?_⟩;rcases List.mem_cons.1 hm with q | q
   ·cases q;exact e
   ·exact hl _ _ _ q
  ·cases h
theorem LB {l:List (Nat×Nat×Nat)}{env:Env}{Q:Type}{X:Option Q}(h:∀i k o,(i,k,o)∈l→look env i=some (.pL k o,.any)):zm env l X=X:=by
 induction l with
 |nil=>rfl
 |cons p l ih =>obtain⟨i,k,o⟩:=p;unfold zm;rw[h i k o List.mem_cons_self];simp only[Nat.beq_refl,Bool.and_self,jN];exact ih fun i k o hm=>h i k o (List.mem_cons_of_mem _ hm)
theorem zl:∀{l:List (Nat×Nat×Nat)}{e:Env}{i:Nat}{x:IV×cV},look (Ly l e) i=some x→(∃k o,(i,k,o)∈l∧x=(.pL k o,.any))∨look e i=some x
 |[],e,i,x,h=>.inr h
 |(j,k,o)::l,e,i,x,h=>by
  simp only[Ly,dZ] at h;split at h
  ·rename_i q;subst q;cases h;exact .inl ⟨k,o,List.mem_cons_self,rfl⟩
  ·rcases zl h with ⟨k2,o2,hm,e2⟩ | h
   ·exact .inl ⟨k2,o2,List.mem_cons_of_mem _ hm,e2⟩
   ·exact .inr h
theorem lR:∀{xp:XP}{e:Ex}{s:St}{K:LR→Option R}{r:R},nC xp e s K=some r→∃q,nB xp e s=some q∧K q=some r
 |x::xr,e,s,K,r,h=>by
  unfold nC at h;unfold nB nC;have h0:nB xr e s=nC xr e s some:=rfl;split at h
  ·have gen:∀(l:List (Nat×cV)) (env:Env) (K1:List IV→Option R) (K2:List IV→Option LR) (r:R),(∀vs,K1 vs=some r→∃q,K2 vs=some q∧K q=some r)→wt env l K1=some r→∃q,wt env l K2=some q∧K q=some r:=by
    intro l
    induction l with
    |nil=>intro env K1 K2 r hk h;exact hk _ h
    |cons p l ih =>
     intro env K1 K2 r hk h;obtain⟨i,c⟩:=p;unfold wt at h ⊢;split at h
     ·obtain⟨hg,h⟩:=cZ h;obtain⟨q,h1,h2⟩:=ih _ _ (fun vs=>K2 (_::vs)) _ (fun vs hv=>hk _ hv) h;refine⟨q,?_,h2⟩;simp only[hg];exact h1
     ·cases h
   have genB:∀(l:List BX) (lb:List (Nat×aS)) (K1:List aS→Option R) (K2:List aS→Option LR) (r:R),(∀vs,K1 vs=some r→∃q,K2 vs=some q∧K q=some r)→mZ lb l K1=some r→∃q,mZ lb l K2=some q∧K q=some r:=by
    intro l
    induction l with
    |nil=>intro env K1 K2 r hk h;exact hk _ h
    |cons p l ih =>
     intro lb K1 K2 r hk h
     cases p with
     |cells k sh cp =>
      unfold mZ at h ⊢;split at h
      ·obtain⟨hg,h⟩:=cZ h;obtain⟨q,h1,h2⟩:=ih _ _ (fun vs=>K2 (_::vs)) _ (fun vs hv=>hk _ hv) h;refine⟨q,?_,h2⟩;simp only[hg];exact h1
      ·cases h
     |iter k =>
      unfold mZ at h ⊢;split at h
      ·obtain⟨q,h1,h2⟩:=ih _ _ (fun vs=>K2 (_::vs)) _ (fun vs hv=>hk _ hv) h;exact⟨q,h1,h2⟩
      ·cases h
     |dead k =>unfold mZ at h ⊢;exact ih _ _ K2 _ hk h
   obtain⟨h,hown⟩:=pH h;rw[LB hown];exact gen _ _ _ _ _ (fun vs hv=>genB _ _ _ _ _ (fun bs hb=>by
    obtain⟨hg,hb⟩:=cZ hb;exact⟨_,by rw[hg];rfl,hb⟩) hv) h
  ·exact lR h
theorem Cd:∀{xp:XP}{e:Ex}{s:St}{ex:Ex}{vs:List IV}{bs:List aS}{m:IM},nB xp e s=some (ex,vs,bs,m)→ex=e
 |x::r,e,s,ex,vs,bs,m,h=>by
  unfold nB nC at h;split at h
  ·obtain⟨h,_⟩:=pH h;obtain⟨vs',h,_⟩:=wu (ty:=[]) h;obtain⟨bs',h,_⟩:=na h;obtain⟨_,h⟩:=cZ h
   cases h;rfl
  ·exact Cd h
theorem qP:∀{xp:XP}{e:Ex}{s b:St}{ex:Ex}{vs:List IV}{bs:List aS}{m:IM}{K:Ex→St→Option R}{r:R},nB xp e s=some (ex,vs,bs,m)→Dt ty xp ex vs bs m K=some r→Sub s b→∃s',Sub s' b∧K e s'=some r
 |x::xr,e,s,b,ex,vs,bs,m,K,r,h,h2,hs=>by
  have he:=Cd h;unfold nB nC at h;unfold Dt at h2;split at h
  ·rename_i hx;have hx:=JK hx;obtain⟨h,hown⟩:=pH h;obtain⟨vs',h,hzs⟩:=wu (ty:=ty) h;obtain⟨bs',h,hzb⟩:=na h;obtain⟨ha,h⟩:=cZ h
   cases h
   rcases F2 h2 with ⟨_,h2⟩ | ⟨hne,_⟩
   ·obtain⟨env,h2,henv⟩:=hzs h2;obtain⟨lb,h2,hlb1,hlb2⟩:=hzb h2;rw[←hx] at h2;refine⟨{ env:=Ly x.own env,lk:=[],lb:=lb,m:=s.m },⟨fun i v c el=>?_,fun p hp=>absurd hp List.not_mem_nil,hs.uq,fun k=>?_,hs.m⟩,h2⟩
    ·obtain⟨c1,e1,hc1⟩:∃c',look s.env i=some (v,c')∧dc c c':=by
      rcases zl el with ⟨k,o,hm,e2⟩ | el
      ·cases e2;exact⟨_,hown _ _ _ hm,dc.refl _⟩
      ·exact henv i v c el
     obtain⟨c2,e2,hc2⟩:=hs.env _ _ _ e1;exact⟨c2,e2,hc1.trans hc2⟩
    ·cases hk:hasB x.boxes k with
     |true=>exact (hlb1 k hk).trans (hs.lb k)
     |false =>show BR (aQ lb k) _;rw[hlb2 k hk];have:=B2 ha k hk;have hb:=hs.lb k;rw[this] at hb;exact hb
   ·exact absurd hx hne
  ·rename_i hx;have hx:=Nz hx;rcases F2 h2 with ⟨q,_⟩ | ⟨_,h2⟩
   ·exact absurd (he▸q) hx
   ·exact qP h h2 hs
def PB (v:IV) (eC:List Nat):Bool:=match v with
 |.pL k _=>eC.contains k
 |_=>true
theorem HA {sh:Sh}{v:IV}{eC:List Nat}{X:Option R}{r:R}(h:KN sh v eC X=some r):PB v eC=true∧X=some r:=by
 unfold KN at h;split at h
 ·obtain⟨h1,h2⟩:=CO h;refine⟨?_,h2⟩
  cases v<;>first | rfl | cases h1
 ·unfold gg at h;split at h
  ·exact cZ h
  ·rename_i hn;refine⟨?_,h⟩
   cases v<;>first | rfl | exact (hn _ _ rfl).elim
theorem wS {e e2:Env}{eC:List Nat}{i o:Nat}{l:List (Nat×Nat)}{v:IV}{c:cV}(h1:look e i=some (v,c)) (h2:eN e eC l=some e2) (hk:PB v eC=true) :
  eN e eC ((i,o)::l)=some ((i,v,match o with | 0=>.any | sz+1=>dp c v sz)::e2):=by
 simp only[eN,h1,h2];have fin:∀sz,(match dp c v sz with | .own s=>some ((i,v,cV.own s)::e2) | .any=>some ((i,v,cV.any)::e2))=some ((i,v,dp c v sz)::e2):=by
  intro sz
  cases dp c v sz<;>rfl
 cases v with
 |pL k off =>
  have hk:eC.contains k=true:=hk;simp only[hk]
  cases o with
  |zero=>rfl
  |succ sz=>exact fin sz
 |_=>cases o with
  |zero=>rfl
  |succ sz=>exact fin sz
theorem nI:∀{l:List (Nat×Nat)}{eC:List Nat}{K:Env→Option R}{r:R},sP ty s.env eC l K=some r→Sub s b→∃e,eN b.env eC l=some e∧K e=some r
 |[],eC,K,r,h,_=>⟨[],rfl,h⟩
 |(i,o)::l,eC,K,r,h,hs=>by
  unfold sP at h;split at h
  ·rename_i v c e;obtain⟨cb,eb,hcb⟩:=hs.env _ _ _ e;obtain⟨hk,h⟩:=HA h
   cases o with
   |zero =>simp only at h;obtain⟨e2,h2,h⟩:=nI h hs;exact⟨_,wS eb h2 hk,h⟩
   |succ sz =>
    simp only at h;split at h
    ·obtain⟨hz,h⟩:=cZ h;have hcz:=lS hcb (fun q=>by subst q;cases hz);subst hcz;obtain⟨e2,h2,h⟩:=nI h hs;exact⟨_,wS eb h2 hk,h⟩
    ·have hc:=kK hcb;subst hc;obtain⟨hv,h⟩:=CN h;subst hv;obtain⟨e2,h2,h⟩:=nI h hs;exact⟨_,wS eb h2 hk,h⟩
  ·cases h
theorem pk:∀{own:List (Nat×Nat×Nat)}{k:Nat}{cs:List IV}{cp cp':List cV}{K:List cV→Option R}{r:R},yY k cs own cp K=some r→eT cp cp'→∃cp1,K cp1=some r∧eT cp1 (eR k cs own cp')
 |[],k,cs,cp,cp',K,r,h,hc=>⟨cp,h,hc⟩
 |(k',o,sz)::own,k,cs,cp,cp',K,r,h,hc=>by
  unfold yY at h;unfold eR;split at h
  ·rename_i hk;rw[if_pos (nk hk)];have hg:=hc.getD o;split at h
   ·rename_i z ez;rw[ez] at hg;obtain⟨hz,h⟩:=cZ h;have hcz:=lS hg (fun q=>by subst q;cases hz);refine pk h ?_;rw[hcz];exact hc.set o (dc.refl _)
   ·rename_i ez;rw[ez] at hg;have hcz:=kK hg;obtain⟨en,h⟩:=CN h;refine pk h ?_;rw[hcz,en];exact hc.set o (dc.refl _)
  ·rename_i hk;rw[if_neg (fun q=>by subst q;rw[Nat.beq_refl] at hk;cases hk)];exact pk h hc
theorem nG:∀{l:List Nat}{own:List (Nat×Nat×Nat)}{K:List (Nat×aS)→Option R}{r:R},sN s.lb own l K=some r→Sub s b→∃lb1 lb2,K lb1=some r∧eM b.lb own l=some lb2∧∀k,BR (aQ lb1 k) (aQ lb2 k)
 |[],own,K,r,h,_=>⟨[],[],h,rfl,fun k=>BR.refl _⟩
 |k::l,own,K,r,h,hs=>by
  unfold sN at h;have hb:=hs.lb k;split at h
  ·rename_i cs cp e;rw[e] at hb;obtain⟨cp',eb,hc⟩:=hb.cells;obtain⟨cp1,h,hc1⟩:=pk (own:=own) h hc;obtain⟨lb1,lb2,h,h2,hl⟩:=nG h hs;refine⟨_,(k,.cells cs (eR k cs own cp'))::lb2,h,?_,?_⟩
   ·simp only[eM,h2,eb,aK]
   ·intro j;simp only[cg];split
    ·exact BR.mk hc1
    ·exact hl j
  ·rename_i t p e;rw[e] at hb;have eb:=hb.iter;obtain⟨lb1,lb2,h,h2,hl⟩:=nG h hs;refine⟨_,(k,.iter t p)::lb2,h,?_,?_⟩
   ·simp only[eM,h2,eb]
   ·intro j;simp only[cg];split
    ·exact BR.refl _
    ·exact hl j
  ·rename_i e;rw[e] at hb;have eb:=hb.none;obtain⟨lb1,lb2,h,h2,hl⟩:=nG h hs;refine⟨_,lb2,h,?_,hl⟩;simp only[eM,h2,eb]
  ·cases h
theorem sO {h:Head}{K:St→Option R}{r:R}(hh:F5 ty s h K=some r) (hs:Sub s b):∃b2,b.head h=some b2∧∃s2,Sub s2 b2∧K s2=some r:=by unfold F5 at hh;obtain⟨e,h1,hh⟩:=nI hh hs;obtain⟨lb1,lb2,hh,h2,hl⟩:=nG hh hs;refine⟨_,by simp only[St.head,h1,h2];rfl,_,?_,hh⟩;exact⟨fun i v c el=>⟨c,el,dc.refl _⟩,fun p hp=>absurd hp List.not_mem_nil,rfl,hl,hs.m⟩
variable {da:MW}{al:vN}
theorem yU {x:Option LR}{K:Ex→List IV→List aS→IM→Option R}{r:R}(h:bn x K=some r):∃ex vs bs m,x=some (ex,vs,bs,m)∧K ex vs bs m=some r:=by
 unfold bn at h;split at h
 ·exact⟨_,_,_,_,rfl,h⟩
 ·cases h
theorem iP:∀(c:aq) {R:Type}{pl:Pl}{s b:St}{K:Ex→St→Option R}{r:R},c.den ty (fR da al) R pl s K=some r→Sub s b →
  ∃e b',c.run (fR da al) (g9 da al) b=some (e,b')∧∃s',Sub s' b'∧K e s'=some r
 |.skip,R,pl,s,b,K,r,h,hs=>⟨_,b,rfl,s,hs,h⟩
 |.ops l,R,pl,s,b,K,r,h,hs=>by
  obtain⟨b1,e1,s1,hs1,h⟩:=A7 (K:=fun st=>K .normal st) h hs;exact⟨_,b1,by simp only[aq.run,e1],s1,hs1,h⟩
 |.draw l _,R,pl,s,b,K,r,h,hs=>by
  obtain⟨b1,e1,s1,hs1,h⟩:=A7 (K:=fun st=>K .normal st) h hs;exact⟨_,b1,by simp only[aq.run,e1,hs.uq],s1,hs1,h⟩
 |.seq a c,R,pl,s,b,K,r,h,hs=>by
  have key:∀{s b:St},Sub s b→∀{e:Ex}{b0:St},a.run (fR da al) (g9 da al) b0=some (e,b)→(match e with | .normal=>c.den ty (fR da al) R pl.b s K | e=>K e s)=some r →
    ∃e b',(aq.seq a c).run (fR da al) (g9 da al) b0=some (e,b')∧∃s',Sub s' b'∧K e s'=some r:=by
   intro s b hs e b0 hr hk
   cases e with
   |normal =>obtain⟨e2,b2,h2,s2,hs2,hk⟩:=iP c hk hs;exact⟨e2,b2,by simp only[aq.run,hr,h2],s2,hs2,hk⟩
   |exit i=>exact⟨_,b,by simp only[aq.run,hr],s,hs,hk⟩
   |ret=>exact⟨_,b,by simp only[aq.run,hr],s,hs,hk⟩
  simp only[aq.den] at h;split at h
  ·obtain⟨ex,vs,bs,m,hx,h⟩:=yU h;obtain⟨e,b1,hr,s1,hs1,hc⟩:=iP a hx hs;obtain⟨s2,hs2,h⟩:=qP hc h hs1;exact key hs2 hr h
  ·obtain⟨e,b1,hr,s1,hs1,h⟩:=iP a h hs;exact key hs1 hr h
 |.cond d a c,R,pl,s,b,K,r,h,hs=>by
  simp only[aq.den] at h;split at h
  ·rename_i j;split at h
   ·rename_i x cc e;obtain⟨cb,eb,_⟩:=hs.env _ _ _ e;rcases ng h with ⟨q,h⟩ | ⟨q,h⟩
    ·subst q;obtain⟨e2,b2,hr,s2,hs2,h⟩:=iP a h (hs.refine e);exact⟨e2,b2,by simp only[aq.run,il eb,hr],s2,hs2,h⟩
    ·subst q;obtain⟨e2,b2,hr,s2,hs2,h⟩:=iP c h (hs.refine e);exact⟨e2,b2,by simp only[aq.run,il eb,hr],s2,hs2,h⟩
   ·cases h
  ·split at h
   ·obtain⟨e2,b2,hr,s2,hs2,h⟩:=iP a h hs;exact⟨e2,b2,by simp only[aq.run,Arg.rd,hr],s2,hs2,h⟩
   ·obtain⟨e2,b2,hr,s2,hs2,h⟩:=iP c h hs;exact⟨e2,b2,by simp only[aq.run,Arg.rd,hr],s2,hs2,h⟩
   ·cases h
 |.block id c,R,pl,s,b,K,r,h,hs=>by
  simp only[aq.den] at h;obtain⟨e,b1,hr,s1,hs1,h⟩:=iP c h hs
  cases e with
  |normal=>exact⟨_,b1,by simp only[aq.run,hr],s1,hs1,h⟩
  |ret=>exact⟨_,b1,by simp only[aq.run,hr],s1,hs1,h⟩
  |exit i =>
   simp only at h;split at h
   ·rename_i q;have q:=nk q;exact⟨_,b1,by simp only[aq.run,hr,if_pos q],s1,hs1,h⟩
   ·rename_i q;have q:i≠id:=fun e=>by subst e;rw[Nat.beq_refl] at q;cases q
    exact⟨_,b1,by simp only[aq.run,hr,if_neg q],s1,hs1,h⟩
 |.loop hd c,R,pl,s,b,K,r,h,hs=>by
  simp only[aq.den] at h;split at h
  ·rename_i xp _;obtain⟨b2,hb2,s2,hs2,h⟩:=sO h hs;obtain⟨ex,vs,bs,m,hx,h⟩:=yU h;have main:=iter.partial_correctness (fun s=>c.den ty (fR da al) (St⊕LR) pl.a s (gM ty hd xp))
    (fun a q=>∀b,Sub a b→∃e b',lc da al hd c (some b)=some (e,b')∧∃s',Sub s' b'∧nB xp e s'=some q) (by
     intro it ih a q hq b hs;split at hq
     ·rename_i a' ha;obtain⟨e,b1,hr,s1,hs1,hk⟩:=iP c ha hs
      cases e with
      |normal =>
       unfold gM at hk;obtain⟨b3,hb3,s3,hs3,hk⟩:=sO hk hs1
       cases hk
       obtain⟨e4,b4,hl,s4,hs4,hc⟩:=ih _ _ hq _ hs3;refine⟨e4,b4,?_,s4,hs4,hc⟩;rw[eG,hr];simp only[hb3];exact hl
      |exit i=>simp only[gM] at hk;obtain⟨q,_,hk⟩:=lR hk;cases hk
      |ret=>simp only[gM] at hk;obtain⟨q,_,hk⟩:=lR hk;cases hk
     ·rename_i q' ha
      cases hq
      obtain⟨e,b1,hr,s1,hs1,hk⟩:=iP c ha hs
      cases e with
      |normal =>
       unfold gM at hk;obtain⟨b3,hb3,s3,hs3,hk⟩:=sO hk hs1
       cases hk
      |exit i =>
       simp only[gM] at hk;obtain⟨q,hc,hk⟩:=lR hk
       cases hk
       exact⟨_,b1,by rw[eG,hr],s1,hs1,hc⟩
      |ret =>
       simp only[gM] at hk;obtain⟨q,hc,hk⟩:=lR hk
       cases hk
       exact⟨_,b1,by rw[eG,hr],s1,hs1,hc⟩
     ·cases hq) s2 _ hx b2 hs2
   obtain⟨e,b3,hl,s3,hs3,hc⟩:=main;obtain⟨s4,hs4,h⟩:=qP hc h hs3;refine⟨e,b3,?_,s4,hs4,h⟩;show g9 da al hd c b=_;rw[bY,hb2];exact hl
  ·cases h
 |.kv _ _ _,R,pl,s,b,K,r,h,hs=>by simp only[aq.den] at h;cases h
 |.exit id,R,pl,s,b,K,r,h,hs=>⟨_,b,rfl,s,hs,h⟩
 |.ret,R,pl,s,b,K,r,h,hs=>⟨_,b,rfl,s,hs,h⟩
theorem pM:∀{l:List RV}{K:List IV→Option R}{r:R},ua s l K=some r→Sub s b→∃vs,cY b l=some vs∧K vs=some r
 |[],K,r,h,_=>⟨[],rfl,h⟩
 |.t i::l,K,r,h,hs=>by
  unfold ua at h;split at h
  ·rename_i v c e;obtain⟨cb,eb,_⟩:=hs.env _ _ _ e;obtain⟨vs,e2,h⟩:=pM h hs;exact⟨_,by simp only[cY,e2,dy,eb],h⟩
  ·cases h
 |.cell i agg n::l,K,r,h,hs=>by
  unfold ua at h;split at h
  ·rename_i k off c e;obtain⟨cb,eb,_⟩:=hs.env _ _ _ e;split at h
   ·rename_i cs cp ek;have hb:=hs.lb k;rw[ek] at hb;obtain⟨cp',ekb,_⟩:=hb.cells;obtain⟨v,h,hv⟩:=rF h;obtain⟨vs,e2,h⟩:=pM h hs;have:=uX (lb:=b.lb) (m:=b.m) (p:=.pL k off) (n:=n) (fun n=>by simp only[bu,ekb]) hv;exact⟨_,by simp only[cY,e2,dy,eb,this],h⟩
   ·cases h
  ·rename_i p c hn e;obtain⟨cb,eb,_⟩:=hs.env _ _ _ e;obtain⟨v,h,hv⟩:=F8 h;obtain⟨vs,e2,h⟩:=pM h hs;rw[hs.m] at hv;exact⟨_,by simp only[cY,e2,dy,eb,hv b.lb],h⟩
  ·cases h
theorem aJ {f:FuncId}{fn:dJ}(hp:al f=none) (hf:da.fns f=some fn) {pl:Pl}{args:List IV}{m:IM}{r:IV×IM}(h:eL ty pl fn (fR da al) args m=some r):fR da al (.f f) args m=some r:=by
 rw[dd hp hf];unfold eL at h;split at h
 ·rename_i hn;have hn:=nk hn;obtain⟨e,b1,hr,s1,hs1,h⟩:=iP fn.body h (b:={ env:=dQ 0 args,lk:=[],lb:=[],m:=m }) ⟨fun i v c el=>⟨c,el,dc.refl _⟩,fun p hp=>absurd hp List.not_mem_nil,rfl,fun k=>BR.refl _,rfl⟩;unfold dJ.call;rw[if_neg (by simp[hn]),hr];have hrets:∀{X:Option (IV×IM)},(ua s1 fn.yp fun vs=>RY m s1.m vs)=some r→(match cY b1 fn.yp with
   |some [v]=>settle m b1.m v
   |some vs=>settle m b1.m (.db vs)
   |none=>none)=some r:=by
   intro X hx;obtain⟨vs,e2,hx⟩:=pM hx hs1;rw[e2];unfold RY at hx;rw[hs1.m] at hx
   match vs,hx with
   |[v],hx=>exact hx
   |[],hx=>exact hx
   |_::_::_,hx=>exact hx
  cases e with
  |exit i=>cases h
  |normal=>simp only;rw[if_pos (.inl trivial)];exact hrets (X:=none) h
  |ret=>simp only;rw[if_pos (.inr trivial)];exact hrets (X:=none) h
 ·cases h
end
noncomputable def gK {α β:Type}(f:α→Option (α⊕β)) (x:Option (α⊕β)):Option β:=match x with
 |some (.inl a)=>iter f a
 |some (.inr b)=>some b
 |none=>none
theorem cz {α β:Type}(f:α→Option (α⊕β)) (a:α):iter f a=gK f (f a):=iter.eq_1 f a
section
variable {R:Type}
theorem bg (b:Bool) (x y:Option R):aL b x y=if b=true then x else y:=by cases b<;>rfl
theorem bO (b:Bool) (x:Option R):jN b x=if b=true then x else none:=by cases b<;>rfl
theorem bV (k:IntKind) (n:Int) (K:Int→Option R):fG k (.int k n) K=K n:=by simp[fG,jN]
theorem cr (b:Bool) (K:Bool→Option R):gu (.bool b) K=K b:=rfl
theorem ct (s:List UInt8) (K:List UInt8→Option R):gQ (.str s) K=K s:=rfl
theorem cD (s:List IV) (K:List IV→Option R):iq (.agg s) K=K s:=rfl
theorem cH (s:List IV) (K:List IV→Option R):jE (.db s) K=K s:=rfl
theorem cG (i o:Nat) (K:Nat→Nat→Option R):M4 (.pB i o) K=K i o:=rfl
theorem bA (i:Nat) (K:Nat→Option R):kg (.pB i 0) K=K i:=rfl
theorem bc (v:IV) (t:List IV) (K:IV→List IV→Option R):c6 (v::t) K=K v t:=rfl
theorem bN (K:Option R):bj [] K=K:=rfl
theorem ba (v:aS) (t:List aS) (K:aS→List aS→Option R):jB (v::t) K=K v t:=rfl
theorem bb (K:Option R):cB [] K=K:=rfl
theorem cE (cs:List IV) (cp:List cV) (K:List IV→Option R):jP (.cells cs cp) K=K cs:=rfl
theorem bw (s:List UInt8) (p:Nat) (K:List UInt8→Nat→Option R):Ja (.iter s p) K=K s p:=rfl
theorem aZ (X:Option R):EH .aa X=X:=rfl
theorem cJ (e ex:Ex) (A B:Option R):fJ e ex A B=if ex=e then A else B:=by
 unfold fJ;by_cases h:ex=e
 ·rw[decide_eq_true h,if_pos h]
 ·rw[decide_eq_false h,if_neg h]
theorem aX (ex:Ex) (vs:List IV) (bs:List aS) (m:IM) (K:Ex→List IV→List aS→IM→Option R):bn (some (ex,vs,bs,m)) K=K ex vs bs m:=rfl
theorem aE (K:Ex→List IV→List aS→IM→Option R):bn none K=none:=rfl
theorem au {o:dW}{vs:List IV}{v:IV}(h:o.ev vs=some v) (K:IV→Option R):fq o vs K=K v:=by simp[fq,h]
theorem iB {v:IV}{n:Nat}(h:v.refs=some n) (X:Option R):dk v X=X:=by
 unfold dk
 cases v<;>first | rfl | (simp[IV.refs,IV.plain] at h)
theorem af {v:IV}{n:Nat}(h:v.refs=some n) (X:Option R):bf v X=X:=by simp[bf,h]
theorem aO (X:Option R):t6 [] X=X:=rfl
theorem aG (v:IV) (r:List IV) (X:Option R):t6 (v::r) X=bf v (t6 r X):=rfl
theorem aF (X:Option R):iT [] X=X:=rfl
theorem aA (v:IV) (r:List IV) (X:Option R):iT (v::r) X=mR v (iT r X):=rfl
theorem iC {v:IV}(h:v.plain=true) (X:Option R):mR v X=X:=by simp[mR,h]
theorem jb {l:List IV}(h:l.all IV.plain=true) (X:Option R):iT l X=X:=by
 induction l with
 |nil=>rfl
 |cons v r ih =>rw[List.all_cons,Bool.and_eq_true] at h;rw[aA,iC h.1,ih h.2]
theorem f8 {m:IM}{id:Nat}{cs:List IV}{cp:List cV}(h:m.get id=.cells cs cp) (K:List IV→List cV→Option R):gH m id K=K cs cp:=by simp[gH,h]
theorem dD {cs:List IV}{off n:Nat}{v:IV}(h:cs[off]?=some v) (K:IV→Option R):eV false cs off n K=K v:=by simp[eV,h]
theorem gi {cs:List IV}{off n:Nat}{r:List IV}(h:cut cs off n=some r) (K:IV→Option R):eV true cs off n K=K (.agg r):=by simp[eV,h]
theorem cM (m:IM) (agg:Bool) (n off:Nat) (row:List IV) (K:IV→Option R):lD m agg n (.pI row off) K=eV agg row off n K:=rfl
theorem cA (m:IM) (agg:Bool) (n id off:Nat) (K:IV→Option R):lD m agg n (.pB id off) K=gH m id fun cs _=>eV agg cs off n K:=rfl
theorem bF {α β:Type}(f:α→Option (α⊕β)) (a:α):gK f (some (.inl a))=iter f a:=rfl
theorem bG {α β:Type}(f:α→Option (α⊕β)) (b:β):gK f (some (.inr b))=some b:=rfl
theorem cN {α β:Type}(f:α→Option (α⊕β)) (c:Prop) [Decidable c] (x y:Option (α⊕β)):gK f (if c then x else y)=if c then gK f x else gK f y:=by split<;>rfl
def js (l:List (Sh×List Nat)):gO:=l.flatMap fun p=>p.2.map fun i=>(i,p.1)
noncomputable def uV (l:List IV) (K:Int→List UInt8→IV→IV→List IV→Option R):Option R:=c6 l fun v l=>fG .i64 v fun n=>c6 l fun v l=>gQ v fun s=>c6 l fun v l=>c6 l fun w l=>K n s v w l
noncomputable def uI (k:IntKind) (l:List IV) (K:Int→List IV→Option R):Option R:=c6 l fun v l=>fG k v fun n=>K n l
theorem bM (n:Int) (s:List UInt8) (v w:IV) (l:List IV) (K:Int→List UInt8→IV→IV→List IV→Option R):uV (.int .i64 n :: .str s::v::w::l) K=K n s v w l:=by simp[uV,c6,gQ,fG,jN]
theorem bL (k:IntKind) (n:Int) (l:List IV) (K:Int→List IV→Option R):uI k (.int k n::l) K=K n l:=by simp[uI,c6,fG,jN]
@[reducible] noncomputable def gI (m:IM) (r off:Nat) (K:Int→Option R):Option R:=gH m r fun l _=>eV false l off 1 fun v=>fG .i64 v K
@[reducible] noncomputable def gS (m:IM) (r off:Nat) (K:List UInt8→Option R):Option R:=gH m r fun l _=>eV false l off 1 fun v=>gQ v K
def aW (m:IM) (id:Nat) (o:aS):IM:=⟨m.bs.set id o,m.kS⟩
theorem rH {m:IM}{id:Nat}{cs:List IV}{cp:List cV}(h:m.get id=.cells cs cp):id<m.size:=by
 rcases Nat.lt_or_ge id m.size with q | q
 ·exact q
 ·rw[IM.get,List.getD_eq_getElem?_getD,List.getElem?_eq_none q] at h;cases h
theorem lX {m:IM}{id:Nat}(h:id<m.size) (o:aS):(aW m id o).get id=o:=by have h':id<m.bs.length:=h;simp[aW,IM.get,List.getD_eq_getElem?_getD,h']
theorem Cn {m:IM}{id j:Nat}(h:j≠id) (o:aS):(aW m id o).get j=m.get j:=by have h':¬id=j:=fun e=>h e.symm;simp[aW,IM.get,List.getD_eq_getElem?_getD,List.getElem?_set,h']
theorem az (m:IM) (id:Nat) (o o':aS):aW (aW m id o) id o'=aW m id o':=by simp[aW]
theorem H3 (m:IM) (id:Nat) (o:aS):(aW m id o).size=m.size:=by simp[aW,IM.size]
theorem Mc (m:IM) (id:Nat) (o:aS):(aW m id o).kS=m.kS:=rfl
theorem nw {m:IM}{id:Nat}{o:aS}(h:m.get id=o) (hl:id<m.size):aW m id o=m:=by
 have hl':id<m.bs.length:=hl;have:m.bs[id]=o:=by rw[←h,IM.get,List.getD_eq_getElem?_getD,List.getElem?_eq_getElem hl'];rfl
 rw[aW,←this,List.set_getElem_self]
theorem kE {m:IM}{id off:Nat}{vs:List IV}{c:cV}{cs:List IV}{cp:List cV}{r:Nat}(h:m.get id=.cells cs cp) (hr:aC vs=some r) (hle:r≤id) (hf:off+vs.length≤cs.length) (K:IM→Option R) :
  lN m (.pB id off) vs c K=K (aW m id (.cells (over cs off vs) (bh cp off vs.length c))):=by
 unfold lN;simp only[zw,ne_eq,not_true,if_false,h,hr,if_pos hf,if_pos hle];rfl
theorem ud {m m':IM}{v:IV}(hv:v.ak=some 0) (hs:m'.size=m.size) (he:m'.kS=m.kS):settle m m' v=some (v,m'):=by unfold settle;have:m'.bs.take m.size=m'.bs:=List.take_of_length_le (by rw[IM.size] at hs;omega);simp only[hv,aK,he,this,if_true,Nat.zero_le];rw[←he]
theorem av {m:IM}{v:IV}(hv:v.ak=some 0):settle m m v=some (v,m):=ud hv rfl rfl
theorem aB {m:IM}{v:IV}{id:Nat}{o:aS}(hv:v.ak=some 0):settle m (aW m id o) v=some (v,aW m id o):=ud hv (H3 _ _ _) (Mc _ _ _)
theorem jA (m:IM) (o:aS):(bZ m o).size=m.size+1:=by simp[bZ,IM.size]
theorem gW (m:IM) (o:aS):(bZ m o).get m.size=o:=by simp[bZ,IM.get,IM.size,List.getD_eq_getElem?_getD]
theorem gJ {m:IM}{id:Nat}(h:id<m.size) (o:aS):(bZ m o).get id=m.get id:=by have h':id<m.bs.length:=h;simp[bZ,IM.get,List.getD_eq_getElem?_getD,List.getElem?_append_left h']
theorem fo (m:IM) (o o':aS):aW (bZ m o) m.size o'=bZ m o':=by simp[aW,bZ,IM.size]
theorem jL {m:IM}{v:IV}{o:aS}(hv:v.ak=some 0):settle m (bZ m o) v=some (v,m):=by unfold settle;simp[hv,aK,bZ,IM.size]
theorem Jq {call:bW}{c:Callee}{vs:List IV}{m m':IM}{v:IV}(h:call c vs m=some (v,m')) (hr:(aC (vs.flatMap IV.cells)).isSome=true) (K:IV→IM→Option R):an call c vs [] m K=K v m':=by obtain⟨n,hn⟩:=Option.isSome_iff_exists.1 hr;simp[an,hn,eJ,h,cf]
theorem aV:(aC []).isSome=true:=id rfl
theorem aD (v:IV) (r:List IV):(aC (v::r)).isSome=(v.refs.isSome&&(aC r).isSome):=by
 simp only[aC]
 cases v.refs<;>cases aC r<;>rfl
theorem a6 (k:IntKind) (n:Int):(IV.int k n).refs=some 0:=id rfl
theorem aP (n:Bool):(IV.bool n).refs=some 0:=id rfl
theorem a8 (n:List UInt8):(IV.str n).refs=some 0:=id rfl
theorem a7:IV.aa.refs=some 0:=id rfl
theorem bJ (r:List IV) (n:Nat):(IV.sl r n).refs=some 0:=id rfl
theorem dt (i o:Nat):(IV.pB i o).refs=some (i+1):=id rfl
theorem dq (f:FuncId):(IV.func f [] []).refs=some 0:=id rfl
theorem bQ (k:IntKind) (n:Int):(IV.int k n).cells=[.int k n]:=id rfl
theorem bk (n:Bool):(IV.bool n).cells=[.bool n]:=id rfl
theorem bS (n:List UInt8):(IV.str n).cells=[.str n]:=id rfl
theorem cx (i o:Nat):(IV.pB i o).cells=[.pB i o]:=id rfl
theorem bP (l:List IV):(IV.agg l).cells=l:=id rfl
theorem cu (f:FuncId):(IV.func f [] []).cells=[.func f [] []]:=id rfl
theorem bR:IV.aa.cells=[.aa]:=id rfl
theorem cy (r:List IV) (n:Nat):(IV.sl r n).cells=[.sl r n]:=id rfl
theorem cO:aC []=some 0:=id rfl
theorem bH (v:IV) (r:List IV):(aC (v::r)=some 0)=(v.refs=some 0∧aC r=some 0):=by
 simp only[aC,eq_iff_iff]
 cases v.refs<;>cases aC r<;>simp<;>omega
theorem dS {v:IV}(h:v.refs=some 0):v.ak=some 0:=by
 cases v<;>first | exact h | (simp[IV.refs,IV.plain] at h)
theorem cQ (k:IntKind) (n:Int):(IV.int k n).ak=some 0:=id rfl
theorem bI (n:Bool):(IV.bool n).ak=some 0:=id rfl
theorem cS (n:List UInt8):(IV.str n).ak=some 0:=id rfl
theorem cP (l:List IV):((IV.agg l).ak=some 0)=(aC l=some 0):=id rfl
theorem cU (l:List IV):((IV.db l).ak=some 0)=(IV.ak.go l=some 0):=id rfl
def O2:IV→Option Nat
 |.agg cs=>aC cs
 |v=>v.refs
theorem cK:IV.ak.go []=some 0:=id rfl
theorem bE (v:IV) (r:List IV):(IV.ak.go (v::r)=some 0)=(O2 v=some 0∧IV.ak.go r=some 0):=by
 have e:IV.ak.go (v::r)=match O2 v,IV.ak.go r with | some a,some b=>some (Nat.max a b) | _,_=>none:=by
  cases v<;>rfl
 rw[e,eq_iff_iff]
 cases O2 v<;>cases IV.ak.go r<;>simp<;>omega
theorem bB (l:List IV):O2 (.agg l)=aC l:=id rfl
theorem bC (k:IntKind) (n:Int):O2 (.int k n)=some 0:=id rfl
theorem aY (n:Bool):O2 (.bool n)=some 0:=id rfl
theorem bD (n:List UInt8):O2 (.str n)=some 0:=id rfl
theorem cI {v:IV}(h:v.refs=some 0):O2 v=some 0:=by
 cases v<;>first | exact h | (simp[IV.refs,IV.plain] at h)
end
end Go.Idl
