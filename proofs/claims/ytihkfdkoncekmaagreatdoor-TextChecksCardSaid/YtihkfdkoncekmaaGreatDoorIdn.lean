/- This text proves that runs of single functions, of which only some slots are known, give calls of that interpreter; it has no conditions. -/
import Derived.Test.YtihkfdkoncekmaaGreatDoorIde
import Derived.Test.YtihkfdkoncekmaaGreatDoorIdd
import Derived.Test.YtihkfdkoncekmaaGreatDoorIdl
import Derived.KernelRfl
set_option linter.unusedSimpArgs false
set_option linter.unusedVariables false
namespace Go.Idl
variable {R:Type}
def bQ (b:Bool) (x y:Option R):Option R:=match b with
 |true=>x
 |false=>y
def grd (b:Bool) (x:Option R):Option R:=match b with
 |true=>x
 |false=>none
def asI (k:IntKind) (v:IV) (K:Int→Option R):Option R:=match v with
 |.int k' n=>grd (decide (k'=k)) (K n)
 |_=>none
def asB (v:IV) (K:Bool→Option R):Option R:=match v with
 |.bool b=>K b
 |_=>none
def asS (v:IV) (K:List UInt8→Option R):Option R:=match v with
 |.str s=>K s
 |_=>none
def asA (v:IV) (K:List IV→Option R):Option R:=match v with
 |.agg cs=>K cs
 |_=>none
def asT (v:IV) (K:List IV→Option R):Option R:=match v with
 |.tup cs=>K cs
 |_=>none
def asP (v:IV) (K:Nat→Nat→Option R):Option R:=match v with
 |.pB id off=>K id off
 |_=>none
def unc (cs:List IV) (K:IV→List IV→Option R):Option R:=match cs with
 |v::t=>K v t
 |[]=>none
def unn (cs:List IV) (K:Option R):Option R:=match cs with
 |[]=>K
 |_=>none
def unb (cs:List BObj) (K:BObj→List BObj→Option R):Option R:=match cs with
 |v::t=>K v t
 |[]=>none
def dF (cs:List BObj) (K:Option R):Option R:=match cs with
 |[]=>K
 |_=>none
def asC (o:BObj) (K:List IV→Option R):Option R:=match o with
 |.cells cs _=>K cs
 |_=>none
def KZ (o:BObj) (K:List UInt8→Nat→Option R):Option R:=match o with
 |.iter s p=>K s p
 |_=>none
def i6 (v:IV) (K:Nat→Option R):Option R:=match v with
 |.pB id 0=>K id
 |_=>none
def Dr (v:IV) (X:Option R):Option R:=match v with
 |.nilSlice=>X
 |_=>none
def FJ (v:IV) (X:Option R):Option R:=match v with
 |.agg _=>none
 |.tup _=>none
 |.undef=>none
 |.pL ..=>none
 |_=>X
def c7 (v:IV) (X:Option R):Option R:=match v with
 |.pL ..=>none
 |_=>X
def isSl (v:IV) (X:Option R):Option R:=match v with
 |.sl ..=>X
 |.nilSlice=>X
 |_=>none
def dm (v:IV) (X:Option R):Option R:=match v.refs with
 |some _=>X
 |none=>none
def pn (cs:List IV) (X:Option R):Option R:=match cs with
 |[]=>X
 |v::r=>dm v (pn r X)
def vd (v:IV) (X:Option R):Option R:=match v.plain with
 |true=>X
 |false=>none
def eN (cs:List IV) (X:Option R):Option R:=match cs with
 |[]=>X
 |v::r=>vd v (eN r X)
def evC (o:POp) (vs:List IV) (K:IV→Option R):Option R:=match o.ev vs with
 |some v=>K v
 |none=>none
def dg (agg:Bool) (cs:List IV) (off n:Nat) (K:IV→Option R):Option R:=match agg with
 |true=>match cut cs off n with
  |some r=>K (.agg r)
  |none=>none
 |false=>match cs[off]? with
  |some v=>K v
  |none=>none
def dK (m:IM) (id:Nat) (K:List IV→List Cap→Option R):Option R:=match m.get id with
 |.cells cs cp=>K cs cp
 |_=>none
def ldP (m:IM) (agg:Bool) (n:Nat) (p:IV) (K:IV→Option R):Option R:=match p with
 |.pI row off=>dg agg row off n K
 |.pB id off=>dK m id fun cs _=>dg agg cs off n K
 |_=>none
def stP (m:IM) (p:IV) (vs:List IV) (c:Cap) (K:IM→Option R):Option R:=match p with
 |.pB id off=>match a7 { env:=[],lk:=[],lb:=[],m:=m } vs.length (.pB id off) vs c with
  |some st=>K st.m
  |none=>none
 |_=>none
def bR (m:IM) (o:BObj):IM:=⟨m.bs++[o],m.esc⟩
def jN (m:IM) (sz:Nat) (v:IV) (K:List IV→Nat→Option R):Option R:=match cO [] m sz v with
 |some (xs,n)=>K xs n
 |none=>none
def iy (sv:IV) (sz bytes:Nat) (xs:List IV) (n:Nat) (K:IV→Option R):Option R:=match sv with
 |.nilSlice=>bQ (n==0) (K .nilSlice) (grd (decide (n*bytes≤ak)) (K (.sl xs n)))
 |.sl row len=>grd (decide ((len+n)*bytes≤ak∧row.length=len*sz)) (K (.sl (row++xs) (len+n)))
 |_=>none
def Kg (m:IM) (id off:Nat):Cap:=match m.get id with
 |.cells _ cp=>cp.getD off .any
 |_=>.any
def fO (m:IM) (id off:Nat) (sv:IV) (sz bytes:Nat) (xs:List IV) (n:Nat) (K:IV→IM→Option R):Option R:=match sv with
 |.nilSlice=>bQ (n==0) (K .nilSlice m) (grd (decide (n*bytes≤ak)) (K (.sl xs n) m))
 |.sl row len=>grd (decide (Kg m id off=.own sz)) (grd (decide ((len+n)*bytes≤ak∧row.length=len*sz))
   (match ({ env:=[],lk:=[],lb:=[],m:=m }:St).drop (.B id off) with
    |some st=>K (.sl (row++xs) (len+n)) st.m
    |none=>none))
 |_=>none
def GM (sv:IV) (bytes:Nat) (xs:List IV) (n:Nat) (K:IV→Option R):Option R:=match sv with
 |.nilSlice=>bQ (n==0) (K .nilSlice) (grd (decide (n*bytes≤ak)) (K (.sl xs n)))
 |_=>none
def cpS (m:IM) (d:IV) (sz:Nat) (xs:List IV) (k:Nat) (K:Nat→IM→Option R):Option R:=match d with
 |.sB id off n _=>match a7 { env:=[],lk:=[],lb:=[],m:=m } (Nat.min k n*sz) (.pB id off) (xs.take (Nat.min k n*sz)) .any with
  |some st=>K (Nat.min k n) st.m
  |none=>none
 |.nilSlice=>K 0 m
 |_=>none
def cpC (m:IM) (d:IV) (sz:Nat) (xs:List IV) (k:Nat) (K:Nat→IM→Option R):Option R:=grd (decide (xs.length=k*sz)) (cpS m d sz xs k K)
def bc (call:bD) (c:Callee) (vs:List IV) (ids:List Nat) (m:IM) (K:IV→IM→Option R):Option R:=match al (vs.flatMap IV.cells) with
 |some _=>match de m ids with
  |some m1=>match call c vs m1 with
   |some (v,m2)=>match bG m m2 ids with
    |some m3=>K v m3
    |none=>none
   |none=>none
  |none=>none
 |none=>none
def iU (call:bD) (g:IV) (vs:List IV) (ids:List Nat) (m:IM) (K:IV→IM→Option R):Option R:=match g with
 |.func f fs cs=>bc call (.f f) (fs++vs++cs) ids m K
 |.yld id=>bc call (.y id) vs ids m K
 |_=>none
def LM (m:IM) (d:EqD) (zero:IV) (ok:Bool) (mv k:IV) (K:IV→Option R):Option R:=match mv with
 |.nilMap=>K (match ok with | true=>.tup [zero,.bool false] | false=>zero)
 |.map id=>match m.get id with
  |.map es=>match oJ d k es with
   |some (some v)=>K (match ok with | true=>.tup [v,.bool true] | false=>v)
   |some none=>K (match ok with | true=>.tup [zero,.bool false] | false=>zero)
   |none=>none
  |_=>none
 |_=>none
def M3 (m:IM) (d:EqD) (mv k v:IV) (K:IM→Option R):Option R:=match mv with
 |.map id=>match m.get id with
  |.map es=>match qs d k v es,v.plain&&k.plain with
   |some es,true=>K ⟨m.bs.set id (.map es),m.esc⟩
   |_,_=>none
  |_=>none
 |_=>none
def MQ (m:IM) (mv:IV) (K:Nat→Option R):Option R:=match mv with
 |.nilMap=>K 0
 |.map id=>match m.get id with
  |.map es=>K es.length
  |_=>none
 |_=>none
def exC (e ex:Ex) (A B:Option R):Option R:=match decide (ex=e) with
 |true=>A
 |false=>B
inductive Sh1 where
 |any | int (k:IntKind) | bool | str | ptr | ptr0 | own | sl
 deriving DecidableEq,Inhabited
inductive ShA where
 |one (s:Sh1)
 |agg (l:List Sh1)
 deriving Inhabited
inductive Sh where
 |one (s:Sh1)
 |agg (l:List Sh1)
 |tup (l:List ShA)
 deriving Inhabited
def as1 (s:Sh1) (v:IV) (K:IV→Option R):Option R:=match s with
 |.int k=>asI k v fun n=>K (.int k n)
 |.bool=>asB v fun b=>K (.bool b)
 |.str=>asS v fun s=>K (.str s)
 |.ptr=>asP v fun id off=>K (.pB id off)
 |.ptr0=>i6 v fun id=>K (.pB id 0)
 |_=>K v
def asL:List Sh1→List IV→(List IV→Option R)→Option R
 |[],cs,K=>unn cs (K [])
 |s::r,cs,K=>unc cs fun v t=>as1 s v fun v=>asL r t fun t=>K (v::t)
def ML (s:ShA) (v:IV) (K:IV→Option R):Option R:=match s with
 |.one s=>as1 s v K
 |.agg l=>asA v fun cs=>asL l cs fun cs=>K (.agg cs)
def Ka:List ShA→List IV→(List IV→Option R)→Option R
 |[],cs,K=>unn cs (K [])
 |s::r,cs,K=>unc cs fun v t=>ML s v fun v=>Ka r t fun t=>K (v::t)
def Jn (s:Sh) (v:IV) (K:IV→Option R):Option R:=match s with
 |.one s=>as1 s v K
 |.agg l=>asA v fun cs=>asL l cs fun cs=>K (.agg cs)
 |.tup l=>asT v fun cs=>Ka l cs fun cs=>K (.tup cs)
abbrev Tys:=List (Nat×Sh)
def xP:Tys→Nat→Sh
 |[],_=>.one .any
 |(j,s)::r,i=>match Nat.beq j i with
  |true=>s
  |false=>xP r i
def shV:IV→Sh
 |.agg _=>.agg []
 |.pL ..=>.one .own
 |_=>.one .any
inductive BX where
 |cells (k:Nat) (l:List Sh1) (cp:List Cap)
 |iter (k:Nat)
 |dead (k:Nat)
 deriving Inhabited
def NA:BObj:=.loop 0 0 0 [] 0
def BX.k:BX→Nat
 |.cells k _ _=>k
 |.iter k=>k
 |.dead k=>k
structure XE where
 ex:Ex
 slots:List (Nat×Cap)
 boxes:List BX
 own:List (Nat×Nat×Nat)
 deriving Inhabited
abbrev XP:=List XE
inductive Pl where
 |z
 |n (x:Option XP) (a b:Pl)
 deriving Inhabited
def Pl.x:Pl→Option XP
 |.z=>none
 |.n x _ _=>x
def Pl.a:Pl→Pl
 |.z=>.z
 |.n _ a _=>a
def Pl.b:Pl→Pl
 |.z=>.z
 |.n _ _ b=>b
abbrev LR:=Ex×List IV×List BObj×IM
def unk:Cap:=.own 0
def Aj (a b:Cap):Bool:=decide (a=unk)||decide (b=a)
def sE (env:Env):List (Nat×Cap)→(List IV→Option R)→Option R
 |[],K=>K []
 |(i,c)::r,K=>match look env i with
  |some (v,c')=>grd (Aj c c') (sE env r fun vs=>K (v::vs))
  |none=>none
def pV:List Cap→List Cap→Bool
 |[],[]=>true
 |a::r,b::t=>Aj a b&&pV r t
 |_,_=>false
def i7 (lb:List (Nat×BObj)):List BX→(List BObj→Option R)→Option R
 |[],K=>K []
 |.cells k _ cp::r,K=>match aE lb k with
  |.cells cs cp'=>grd (pV cp cp') (i7 lb r fun bs=>K (.cells cs cp::bs))
  |_=>none
 |.iter k::r,K=>match aE lb k with
  |.iter s p=>i7 lb r fun bs=>K (.iter s p::bs)
  |_=>none
 |.dead _::r,K=>i7 lb r K
def hasB (bx:List BX) (k:Nat):Bool:=match bx with
 |[]=>false
 |b::r=>Nat.beq b.k k||hasB r k
def H0 (lb:List (Nat×BObj)) (bx:List BX):Bool:=match lb with
 |[]=>true
 |(k,_)::r=>hasB bx k&&H0 r bx
def Hd:Ex→Ex→Bool
 |.normal,.normal=>true
 |.ret,.ret=>true
 |.exit i,.exit j=>Nat.beq i j
 |_,_=>false
def tM (env:Env):List (Nat×Nat×Nat)→Option R→Option R
 |[],X=>X
 |(i,k,o)::r,X=>match look env i with
  |some (.pL k' o',.any)=>grd (Nat.beq k' k&&Nat.beq o' o) (tM env r X)
  |_=>none
def Es:List (Nat×Nat×Nat)→Env→Env
 |[],e=>e
 |(i,k,o)::r,e=>(i,.pL k o,.any)::Es r e
def jz:XP→Ex→St→(LR→Option R)→Option R
 |[],_,_,_=>none
 |x::r,e,s,K=>match Hd e x.ex with
  |true=>tM s.env x.own (sE s.env x.slots fun vs=>i7 s.lb x.boxes fun bs=>grd (H0 s.lb x.boxes) (K (e,vs,bs,s.m)))
  |false=>jz r e s K
def jB (xp:XP) (e:Ex) (s:St):Option LR:=jz xp e s some
def GF (ty:Tys):List (Nat×Cap)→List IV→(Env→Option R)→Option R
 |[],vs,K=>unn vs (K [])
 |(i,c)::r,vs,K=>unc vs fun v t=>Jn (xP ty i) v fun v=>GF ty r t fun e=>K ((i,v,c)::e)
def vl:List BX→List BObj→(List (Nat×BObj)→Option R)→Option R
 |[],bs,K=>dF bs (K [])
 |.cells k l cp::r,bs,K=>unb bs fun o t=>asC o fun cs=>asL l cs fun cs=>vl r t fun lb=>K ((k,.cells cs cp)::lb)
 |.iter k::r,bs,K=>unb bs fun o t=>KZ o fun s p=>vl r t fun lb=>K ((k,.iter s p)::lb)
 |.dead k::r,bs,K=>vl r bs fun lb=>K ((k,NA)::lb)
def xT (ty:Tys):XP→Ex→List IV→List BObj→IM→(Ex→St→Option R)→Option R
 |[],_,_,_,_,_=>none
 |x::r,ex,vs,bs,m,K=>exC x.ex ex (GF ty x.slots vs fun env=>vl x.boxes bs fun lb=>K x.ex { env:=Es x.own env,lk:=[],lb,m }) (xT ty r ex vs bs m K)
def cK (r:Option LR) (K:Ex→List IV→List BObj→IM→Option R):Option R:=match r with
 |some (ex,vs,bs,m)=>K ex vs bs m
 |none=>none
def rdC (ty:Tys) (e:Env) (a:Arg) (K:Sh→IV→Option R):Option R:=match a with
 |.t i=>match look e i with
  |some (v,_)=>K (xP ty i) v
  |none=>none
 |.c v=>K (shV v) v
def yU (ty:Tys) (e:Env):List Arg→(List (Sh×IV)→Option R)→Option R
 |[],K=>K []
 |a::r,K=>rdC ty e a fun s v=>yU ty e r fun l=>K ((s,v)::l)
def lH (sh:Sh) (v:IV) (K:List IV→Option R):Option R:=match sh with
 |.agg _=>asA v K
 |_=>FJ v (K [v])
def sH:List IV→List (Nat×Nat)→List (Sh×IV)→(List IV→Option R)→Option R
 |zero,(off,n)::ps,(sh,v)::vs,K=>lH sh v fun c=>grd (Nat.beq c.length n&&Nat.ble (off+n) zero.length) (sH (over zero off c) ps vs K)
 |cs,[],[],K=>K cs
 |_,_,_,_=>none
def known (c:Cap) (X:Option R):Option R:=match c with
 |.any=>X
 |.own z=>grd (!(Nat.beq z 0)) X
def uY:List (Nat×Loc)→List (Nat×Loc)
 |[]=>[]
 |(i,l)::r=>match l with
  |.B ..=>uY r
  |_=>(i,l)::uY r
def yK:List (Nat×Loc)→List (Nat×Loc)
 |[]=>[]
 |(i,l)::r=>match l with
  |.B ..=>yK r
  |.marked=>yK r
  |_=>(i,l)::yK r
def te (ids:List Nat):List (Nat×Loc)→(List (Nat×Loc)→Option R)→Option R
 |[],K=>K []
 |(i,l)::r,K=>match l with
  |.B id off=>match ids with
   |[]=>te ids r K
   |_=>grd (ids.contains id) (te ids r fun t=>K ((i,.B id off)::t))
  |.marked=>te ids r K
  |l=>te ids r fun t=>K ((i,l)::t)
def yu (e:Env):List Arg→(List Nat→Option R)→Option R
 |[],K=>K []
 |.c _::r,K=>yu e r K
 |.t i::r,K=>match look e i with
  |some (v,_)=>match v with
   |.pB id _=>yu e r fun ids=>K (id::ids)
   |_=>yu e r K
  |none=>none
def single:List (Sh×IV)→List IV
 |[]=>[]
 |(_,v)::r=>v::single r
def mvC (st:St) (i:Nat) (xf:Bool) (K:IV→Cap→St→Option R):Option R:=match look st.env i with
 |some (v,c)=>match xf with
  |false=>K v .any st
  |true=>match c with
   |.any=>K v .any st
   |.own sz=>K v (.own sz) { st with env:=(i,v,.any)::st.env,lk:=lkSlot i st.lk }
 |none=>none
def stC (lb:List (Nat×BObj)) (sh:Sh) (p:IV) (n:Nat) (cs:List IV) (c:Cap) (st:St) (K:St→Option R):Option R:=match sh with
 |.one .own=>match p with
  |.pL k off=>match aE lb k with
   |.cells bs cp=>pn cs (grd (Nat.beq cs.length n&&Nat.ble (off+n) bs.length) (K { st with lb:=(k,.cells (over bs off cs) (aH cp off n c))::st.lb,lk:=lkL k st.lk }))
   |_=>none
  |_=>none
 |_=>known c (grd (Nat.beq cs.length n) (stP st.m p cs c fun m=>K { st with m:=m,lk:=uY st.lk }))
def IK.den (ty:Tys) (call:bD) (st:St) (k:IK) (K:IV→Cap→St→Option R):Option R:=match k with
 |.mv x xf _=>(match x with
  |.c v=>K v .any st
  |.t i=>mvC st i xf K)
 |.p o args=>match o,args with
  |.pick,[.t j,a,b]=>match look st.env j with
   |some (.bool c,cc)=>bQ c (rdC ty st.env a fun _ v=>K v .any { st with env:=(j,.bool true,cc)::st.env }) (rdC ty st.env b fun _ v=>K v .any { st with env:=(j,.bool false,cc)::st.env })
   |_=>none
  |.build zero parts,args=>yU ty st.env args fun l=>sH zero parts l fun cs=>K (.agg cs) .any st
  |o,args=>yU ty st.env args fun l=>evC o (single l) fun v=>K v .any st
 |.same x=>match x with
  |.t i=>match look st.env i with
   |some (.sl row len,c)=>grd (decide (linkOf st.lk i=some .marked)) (match c with
    |.own sz=>K (.sl row len) (.own sz) { st with env:=(i,.sl row len,.any)::st.env,lk:=lkSlot i st.lk }
    |.any=>K (.sl row len) .any st)
   |_=>none
  |.c _=>none
 |.load agg n a _=>rdC ty st.env a fun sh p=>match sh with
  |.one .own=>match p with
   |.pL k off=>match aE st.lb k with
    |.cells cs _=>dg agg cs off n fun v=>K v .any st
    |_=>none
   |_=>none
  |_=>ldP st.m agg n p fun v=>K v .any st
 |.store n a x xf=>rdC ty st.env a fun sh p=>match x with
  |.c v=>lH (shV v) v fun cs=>stC st.lb sh p n cs .any st fun st=>K .undef .any st
  |.t i=>mvC st i xf fun v c st'=>match c with
   |.any=>lH (xP ty i) v fun cs=>stC st.lb sh p n cs .any st' fun st=>K .undef .any st
   |.own sz=>isSl v (stC st.lb sh p n [v] (.own sz) st' fun st=>K .undef .any st)
 |.allocL k zero cp=>match aE st.lb k with
  |.none=>K (.pL k 0) .any { st with lb:=(k,.cells zero (aV zero cp))::st.lb }
  |_=>none
 |.allocG zero cp=>K (.pB st.m.size 0) .any { st with m:=bR st.m (.cells zero (aV zero cp))}
 |.boxL k n x=>rdC ty st.env x fun sh v=>lH sh v fun cs=>pn cs (grd (Nat.beq cs.length n) (match aE st.lb k with
  |.none=>K (.pL k 0) .any { st with lb:=(k,.cells cs (aV cs []))::st.lb }
  |_=>none))
 |.boxG n x=>rdC ty st.env x fun sh v=>lH sh v fun cs=>pn cs (grd (Nat.beq cs.length n) (K (.pB st.m.size 0) .any { st with m:=bR st.m (.cells cs (aV cs []))}))
 |.buildSlice sz len zero parts args=>yU ty st.env args fun l=>sH (cS zero len) parts l fun cs=>eN cs (K (.sl cs len) (.own sz) st)
 |.strBytes x=>rdC ty st.env x fun _ v=>asS v fun s=>grd (decide (s.length≤ak)) (K (.sl (aa s) s.length) (.own 1) st)
 |.makeI sz bytes zero len cap=>rdC ty st.env len fun _ l=>asI .i64 l fun l=>rdC ty st.env cap fun _ c=>asI .i64 c fun c =>
   grd (decide (0≤l∧l≤c∧c*bytes≤ak∧c≤ak)) (K (.sl (cS zero l.toNat) l.toNat) (.own sz) st)
 |.makeB sz bytes zero len cap=>rdC ty st.env len fun _ l=>asI .i64 l fun l=>rdC ty st.env cap fun _ c=>asI .i64 c fun c =>
   grd (decide (0≤l∧l≤c∧c*bytes≤ak∧c≤ak)) (K (.sB st.m.size 0 l.toNat sz) .any { st with m:=bR st.m (.cells (cS zero c.toNat) (aV (cS zero c.toNat) []))})
 |.append sz bytes s x=>rdC ty st.env x fun _ x=>jN st.m sz x fun xs n=>eN xs (grd (Nat.beq xs.length (n*sz)) (match s with
  |.c sv=>GM sv bytes xs n fun v=>K v (.own sz) st
  |.t i=>match look st.env i with
   |some (sv,.own z)=>grd (Nat.beq z sz && !(Nat.beq sz 0)) (iy sv sz bytes xs n fun v=>K v (.own sz) { st with env:=(i,sv,unk)::st.env,lk:=lkSlot i st.lk })
   |some (sv,.any)=>match linkOf st.lk i with
    |some (.L k off)=>match aE st.lb k with
     |.cells cs cp=>grd (decide (cp.getD off .any=.own sz) && !(Nat.beq sz 0)) (iy sv sz bytes xs n fun v=>K v (.own sz) { st with lb:=(k,.cells cs (cp.set off unk))::st.lb })
     |_=>none
    |some (.B id off)=>fO st.m id off sv sz bytes xs n fun v m=>K v (.own sz) { st with m:=m }
    |some (.slot j)=>match look st.env j with
     |some (w,.own z)=>grd (Nat.beq z sz && !(Nat.beq sz 0)) (iy sv sz bytes xs n fun v=>K v (.own sz) { st with env:=(j,w,unk)::st.env,lk:=lkSlot j st.lk })
     |_=>none
    |_=>GM sv bytes xs n fun v=>K v (.own sz) st
   |none=>none))
 |.copy sz d s=>rdC ty st.env d fun _ d=>rdC ty st.env s fun _ s=>jN st.m sz s fun xs k=>cpC st.m d sz xs k fun n m=>K (.int .i64 n) .any { st with m:=m,lk:=uY st.lk }
 |.callF f args hide=>yU ty st.env args fun l=>yu st.env hide fun ids=>bc call (.f f) (single l) ids st.m fun v m=>te ids st.lk fun lk=>K v .any { st with m:=m,lk:=lk }
 |.callV g args hide=>yU ty st.env args fun l=>rdC ty st.env g fun _ g=>yu st.env hide fun ids=>iU call g (single l) ids st.m fun v m=>K v .any { st with m:=m,lk:=yK st.lk }
 |.mkMap=>K (.map st.m.size) .any { st with m:=bR st.m (.map [])}
 |.lookup d zero ok a b=>rdC ty st.env a fun _ mp=>rdC ty st.env b fun _ k=>LM st.m d zero ok mp k fun v=>K v .any st
 |.mapUpd d a b x=>rdC ty st.env a fun _ mp=>rdC ty st.env b fun _ k=>rdC ty st.env x fun _ v=>M3 st.m d mp k v fun m=>K .undef .any { st with m:=m }
 |.mapLen a=>rdC ty st.env a fun _ mp=>MQ st.m mp fun n=>K (.int .i64 n) .any st
 |.rangeStr k x=>rdC ty st.env x fun _ v=>asS v fun s=>match aE st.lb k with
  |.none=>K (.pL k 0) .any { st with lb:=(k,.iter s 0)::st.lb }
  |_=>none
 |.nextStr a=>rdC ty st.env a fun _ p=>match p with
  |.pL k 0=>match aE st.lb k with
   |.iter s pos=>bQ (decide (pos<s.length))
     (K (.tup [.bool true,.int .i64 pos,.int .i32 (Utf8.decode ⟨⟨s⟩⟩ pos).1]) .any { st with lb:=(k,.iter s (pos+(Utf8.decode ⟨⟨s⟩⟩ pos).2))::st.lb })
     (K (.tup [.bool false]) .any st)
   |_=>none
  |_=>none
def AO (e:Env) (a:Arg) (t:OTag) (X:Option R):Option R:=match a with
 |.c v=>match t with
  |.imm=>(match v with | .pI ..=>X | _=>none)
  |.mem=>c7 v X
  |.own k=>(match v with | .pL k' _=>grd (Nat.beq k' k) X | _=>none)
  |_=>none
 |.t i=>match look e i with
  |some (v,_)=>match t with
   |.imm=>(match v with | .pI ..=>X | _=>none)
   |.mem=>c7 v X
   |.own k=>(match v with | .pL k' _=>grd (Nat.beq k' k) X | _=>none)
   |.hid h=>match look e h with
    |some (w,_)=>asP v fun id _=>asP w fun id' _=>grd (Nat.beq id id') X
    |none=>none
   |_=>none
  |none=>none
def HL (e:Env) (lk:List (Nat×Loc)) (i:Nat) (t:OTag) (X:Option R):Option R:=match look e i with
 |some (v,c)=>match c with
  |.own _=>X
  |.any=>match linkOf lk i with
   |some l=>grd (t.hits l) X
   |none=>(match v with | .nilSlice=>X | _=>none)
 |none=>none
def okC (k:IK) (t:OTag) (st:St) (X:Option R):Option R:=match t with
 |.none=>X
 |t=>match k with
  |.load _ _ a _=>AO st.env a t X
  |.store _ a _ _=>AO st.env a t X
  |.nextStr a=>AO st.env a t X
  |.append _ _ (.t i) _=>HL st.env st.lk i t X
  |_=>none
def mZ (d:Nat):List (Nat×Loc)→(List (Nat×Loc)→Option R)→Option R
 |[],K=>K []
 |(i,l)::r,K=>mZ d r fun r'=>match Nat.beq i d with
  |true=>K r'
  |false=>match l with
   |.slot j=>(match Nat.beq j d with
    |true=>K r'
    |false=>K ((i,.slot j)::r'))
   |.L a b=>K ((i,.L a b)::r')
   |.B a b=>K ((i,.B a b)::r')
   |.marked=>K ((i,.marked)::r')
def K7 (ty:Tys) (env:Env) (k:IK) (K:Option Loc→Option R):Option R:=match k with
 |.mv (.t i) false true=>K (some (.slot i))
 |.strBytes _=>K (some .marked)
 |.buildSlice 1 _ _ _ _=>K (some .marked)
 |.load false _ (.t i) true=>match xP ty i with
  |.one .own=>(match look env i with | some (.pL k off,_)=>K (some (.L k off)) | _=>none)
  |.one .ptr=>(match look env i with | some (.pB k off,_)=>K (some (.B k off)) | _=>none)
  |.one .ptr0=>(match look env i with | some (.pB k off,_)=>K (some (.B k off)) | _=>none)
  |_=>K none
 |_=>K none
def LH (ty:Tys) (d:Option Nat) (v:IV) (c:Cap) (k:IK) (env:Env) (st:St) (K:St→Option R):Option R:=match d with
 |none=>K st
 |some d=>Jn (xP ty d) v fun v=>mZ d st.lk fun lk=>K7 ty env k fun l=>match l with
  |some l=>(match l with
   |.slot j=>(match Nat.beq j d with | true=>K { st with env:=(d,v,c)::st.env,lk:=lk } | false=>K { st with env:=(d,v,c)::st.env,lk:=(d,.slot j)::lk })
   |l=>K { st with env:=(d,v,c)::st.env,lk:=(d,l)::lk })
  |none=>K { st with env:=(d,v,c)::st.env,lk:=lk }
def Lu (d:Option Nat) (st:St) (K:St→Option R):Option R:=match d with
 |none=>K st
 |some d=>mZ d st.lk fun lk=>K { st with env:=(d,.tup [],.any)::st.env,lk:=lk }
def FY (st:St) (g:Option (Nat×Bool)) (A B:St→Option R):Option R:=match g with
 |none=>A st
 |some (j,want)=>match look st.env j with
  |some (.bool b,c)=>match want with
   |true=>bQ b (A { st with env:=(j,.bool true,c)::st.env }) (B { st with env:=(j,.bool false,c)::st.env })
   |false=>bQ b (B { st with env:=(j,.bool true,c)::st.env }) (A { st with env:=(j,.bool false,c)::st.env })
  |some (.tup _,_)=>B st
  |_=>none
def IOp.den (ty:Tys) (call:bD) (o:IOp) (st:St) (K:St→Option R):Option R :=
 FY st o.guard (fun st=>okC o.k o.tag st (o.k.den ty call st fun v c st'=>LH ty o.dst v c o.k st.env st' K)) (fun st=>Lu o.dst st K)
def uX (ty:Tys) (call:bD):List IOp→St→(St→Option R)→Option R
 |[],st,K=>K st
 |o::r,st,K=>o.den ty call st fun st=>uX ty call r st K
def iter {α β:Type}(f:α→Option (α⊕β)) (a:α):Option β:=match f a with
 |some (.inl a')=>iter f a'
 |some (.inr b)=>some b
 |none=>none
partial_fixpoint
def e9 (v:IV) (keepL:List Nat) (X:Option R):Option R:=match v with
 |.pL k _=>grd (keepL.contains k) X
 |_=>X
def Ct (s:Sh) (v:IV) (keepL:List Nat) (X:Option R):Option R:=match s with
 |.one .sl=>c7 v X
 |_=>e9 v keepL X
def nB (ty:Tys) (e:Env) (keepL:List Nat):List (Nat×Nat)→(Env→Option R)→Option R
 |[],K=>K []
 |(i,o)::r,K=>match look e i with
  |some (v,c)=>Ct (xP ty i) v keepL (match o with
   |0=>nB ty e keepL r fun e=>K ((i,v,.any)::e)
   |sz+1=>match c with
    |.own s=>grd (!(Nat.beq s 0)) (nB ty e keepL r fun e=>K ((i,v,.own s)::e))
    |.any=>Dr v (nB ty e keepL r fun e=>K ((i,v,.own sz)::e)))
  |none=>none
def tg (k:Nat) (cs:List IV):List (Nat×Nat×Nat)→List Cap→(List Cap→Option R)→Option R
 |[],cp,K=>K cp
 |(k',o,sz)::r,cp,K=>match Nat.beq k' k with
  |true=>match cp.getD o .any with
   |.own s=>grd (!(Nat.beq s 0)) (tg k cs r (cp.set o (.own s)) K)
   |.any=>Dr (cs.getD o .undef) (tg k cs r (cp.set o (.own sz)) K)
  |false=>tg k cs r cp K
def nz (lb:List (Nat×BObj)) (own:List (Nat×Nat×Nat)):List Nat→(List (Nat×BObj)→Option R)→Option R
 |[],K=>K []
 |k::r,K=>match aE lb k with
  |.cells cs cp=>tg k cs own cp fun cp=>nz lb own r fun b=>K ((k,.cells cs cp)::b)
  |.iter s p=>nz lb own r fun b=>K ((k,.iter s p)::b)
  |.none=>nz lb own r K
  |_=>none
def zM (ty:Tys) (st:St) (h:Head) (K:St→Option R):Option R :=
 nB ty st.env h.keepL h.keep fun env=>nz st.lb h.ownL h.keepL fun lb=>K { env,lk:=[],lb,m:=st.m }
def fQ (ty:Tys) (h:Head) (xp:XP) (e:Ex) (s:St):Option (St⊕LR):=match e with
 |.normal=>zM ty s h fun s=>some (.inl s)
 |e=>jz xp e s fun r=>some (.inr r)
def ICode.den (ty:Tys) (call:bD):ICode→(R:Type)→Pl→St→(Ex→St→Option R)→Option R
 |.skip,_,_,st,K=>K .normal st
 |.ops l,_,_,st,K=>uX ty call l st fun st=>K .normal st
 |.draw l _,_,_,st,K=>uX ty call l st fun st=>K .normal st
 |.seq a b,R,pl,st,K=>match pl.x with
  |some xp=>cK (a.den ty call LR pl.a st (jB xp)) fun ex vs bs m=>xT ty xp ex vs bs m fun e s=>match e with
   |.normal=>b.den ty call R pl.b s K
   |e=>K e s
  |none=>a.den ty call R pl.a st fun e s=>match e with
   |.normal=>b.den ty call R pl.b s K
   |e=>K e s
 |.cond c a b,R,pl,st,K=>match c with
  |.t j=>match look st.env j with
   |some (.bool x,cc)=>bQ x (a.den ty call R pl.a { st with env:=(j,.bool true,cc)::st.env } K) (b.den ty call R pl.b { st with env:=(j,.bool false,cc)::st.env } K)
   |_=>none
  |.c v=>match v with
   |.bool true=>a.den ty call R pl.a st K
   |.bool false=>b.den ty call R pl.b st K
   |_=>none
 |.block id b,R,pl,st,K=>b.den ty call R pl.a st fun e s=>match e with
   |.exit i=>(match Nat.beq i id with | true=>K .normal s | false=>K (.exit i) s)
   |e=>K e s
 |.loop h b,_,pl,st,K=>match pl.x with
  |some xp=>zM ty st h fun s=>cK (iter (fun s=>b.den ty call (St⊕LR) pl.a s (fQ ty h xp)) s) fun ex vs bs m=>xT ty xp ex vs bs m K
  |none=>none
 |.rangeF _ _ _,_,_,_,_=>none
 |.exit id,_,_,st,K=>K (.exit id) st
 |.ret,_,_,st,K=>K .ret st
def oS (st:St):List RV→(List IV→Option R)→Option R
 |[],K=>K []
 |.t i::r,K=>match look st.env i with
  |some (v,_)=>oS st r fun vs=>K (v::vs)
  |none=>none
 |.cell i agg n::r,K=>match look st.env i with
  |some (.pL k off,_)=>(match aE st.lb k with
   |.cells cs _=>dg agg cs off n fun v=>oS st r fun vs=>K (v::vs)
   |_=>none)
  |some (p,_)=>ldP st.m agg n p fun v=>oS st r fun vs=>K (v::vs)
  |none=>none
def JB (m m':IM) (vs:List IV):Option (IV×IM):=match vs with
 |[v]=>settle m m' v
 |vs=>settle m m' (.tup vs)
def eS (ty:Tys) (pl:Pl) (fn:IFn) (call:bD) (args:List IV) (m:IM):Option (IV×IM) :=
 match Nat.beq args.length fn.nargs with
 |true=>fn.body.den ty call (IV×IM) pl { env:=cM 0 args,lk:=[],lb:=[],m:=m } fun e s=>match e with
  |.exit _=>none
  |_=>oS s fn.rets fun vs=>JB m s.m vs
 |false=>none
end Go.Idl
namespace Go.Idl
variable {R:Type}
theorem je {b:Bool}{x y:Option R}{r:R}(h:bQ b x y=some r):(b=true∧x=some r)∨(b=false∧y=some r):=by
 cases b
 ·exact .inr ⟨rfl,h⟩
 ·exact .inl ⟨rfl,h⟩
theorem bX {b:Bool}{x:Option R}{r:R}(h:grd b x=some r):b=true∧x=some r:=by
 cases b
 ·cases h
 ·exact⟨rfl,h⟩
theorem nk {k:IntKind}{v:IV}{K:Int→Option R}{r:R}(h:asI k v K=some r):∃n,v=.int k n∧K n=some r:=by
 unfold asI at h
 split at h
 ·obtain⟨e,h2⟩:=bX h
  have e':=of_decide_eq_true e
  exact⟨_,by rw[e'],h2⟩
 ·cases h
theorem H5 {v:IV}{K:Bool→Option R}{r:R}(h:asB v K=some r):∃n,v=.bool n∧K n=some r:=by
 unfold asB at h
 split at h
 ·exact⟨_,rfl,h⟩
 ·cases h
theorem vU {v:IV}{K:List UInt8→Option R}{r:R}(h:asS v K=some r):∃n,v=.str n∧K n=some r:=by
 unfold asS at h
 split at h
 ·exact⟨_,rfl,h⟩
 ·cases h
theorem uj {v:IV}{K:List IV→Option R}{r:R}(h:asA v K=some r):∃n,v=.agg n∧K n=some r:=by
 unfold asA at h
 split at h
 ·exact⟨_,rfl,h⟩
 ·cases h
theorem Gy {v:IV}{K:List IV→Option R}{r:R}(h:asT v K=some r):∃n,v=.tup n∧K n=some r:=by
 unfold asT at h
 split at h
 ·exact⟨_,rfl,h⟩
 ·cases h
theorem vN {v:IV}{K:Nat→Nat→Option R}{r:R}(h:asP v K=some r):∃i o,v=.pB i o∧K i o=some r:=by
 unfold asP at h
 split at h
 ·exact⟨_,_,rfl,h⟩
 ·cases h
theorem CD {v:IV}{K:Nat→Option R}{r:R}(h:i6 v K=some r):∃i,v=.pB i 0∧K i=some r:=by
 unfold i6 at h
 split at h
 ·exact⟨_,rfl,h⟩
 ·cases h
theorem xH {v:IV}{X:Option R}{r:R}(h:Dr v X=some r):v=.nilSlice∧X=some r:=by
 unfold Dr at h
 split at h
 ·exact⟨rfl,h⟩
 ·cases h
theorem vt {cs:List IV}{K:IV→List IV→Option R}{r:R}(h:unc cs K=some r):∃v t,cs=v::t∧K v t=some r:=by
 unfold unc at h
 split at h
 ·exact⟨_,_,rfl,h⟩
 ·cases h
theorem vO {cs:List IV}{K:Option R}{r:R}(h:unn cs K=some r):cs=[]∧K=some r:=by
 unfold unn at h
 split at h
 ·exact⟨rfl,h⟩
 ·cases h
theorem DW {v:IV}{X:Option R}{r:R}(h:FJ v X=some r):v.cells=[v]∧v.isU=false∧v.isL=false∧X=some r:=by
 unfold FJ at h
 split at h
 ·cases h
 ·cases h
 ·cases h
 ·cases h
 ·rename_i h1 h2 h3 h4
  cases v<;>first | exact⟨rfl,rfl,rfl,h⟩ | (exact (h1 _ rfl).elim) | (exact (h2 _ rfl).elim) | (exact (h3 rfl).elim) | (exact (h4 _ _ rfl).elim)
theorem yi {v:IV}{X:Option R}{r:R}(h:c7 v X=some r):v.isL=false∧X=some r:=by
 unfold c7 at h
 split at h
 ·cases h
 ·rename_i h1
  cases v<;>first | exact⟨rfl,h⟩ | (exact (h1 _ _ rfl).elim)
theorem DB {v:IV}{X:Option R}{r:R}(h:dm v X=some r):(∃n,v.refs=some n)∧X=some r:=by
 unfold dm at h
 split at h
 ·rename_i e;exact⟨⟨_,e⟩,h⟩
 ·cases h
theorem kJ:∀{cs:List IV}{X:Option R}{r:R},pn cs X=some r→(∃n,al cs=some n)∧X=some r
 |[],X,r,h=>⟨⟨_,rfl⟩,h⟩
 |v::t,X,r,h=>by
  obtain⟨⟨n,e⟩,h⟩:=DB h
  obtain⟨⟨n',e'⟩,h⟩:=kJ h
  exact⟨⟨_,by rw[al,e,e']⟩,h⟩
theorem jl:∀{cs:List IV}{X:Option R}{r:R},eN cs X=some r→cs.all IV.plain=true∧X=some r
 |[],X,r,h=>⟨rfl,h⟩
 |v::t,X,r,h=>by
  unfold eN vd at h
  split at h
  ·rename_i e
   obtain⟨e',h⟩:=jl h
   exact⟨by rw[List.all_cons,e,e'];rfl,h⟩
  ·cases h
theorem HA {o:POp}{vs:List IV}{K:IV→Option R}{r:R}(h:evC o vs K=some r):∃v,o.ev vs=some v∧K v=some r:=by
 unfold evC at h
 split at h
 ·exact⟨_,by assumption,h⟩
 ·cases h
theorem Hn {cs:List IV}{off:Nat}{v:IV}(h:cs[off]?=some v):cut cs off 1=some [v]:=by
 obtain⟨hl,he⟩:=List.getElem?_eq_some_iff.1 h
 unfold cut
 rw[if_pos (by omega),List.drop_eq_getElem_cons hl,he]
 rfl
def ldV (agg:Bool) (cs:List IV) (off n:Nat):Option IV:=match agg with
 |true=>(cut cs off n).map .agg
 |false=>cs[off]?
theorem mF {agg:Bool}{cs:List IV}{off n:Nat}{K:IV→Option R}{r:R}(h:dg agg cs off n K=some r):∃v,K v=some r∧ldV agg cs off n=some v:=by
 cases agg with
 |true =>
  simp only[dg] at h
  split at h
  ·rename_i e;exact⟨_,h,by simp[ldV,e]⟩
  ·cases h
 |false =>
  simp only[dg] at h
  split at h
  ·rename_i e;exact⟨_,h,by simp[ldV,e]⟩
  ·cases h
theorem pE {lb:List (Nat×BObj)}{m:IM}{agg:Bool}{n:Nat}{p:IV}{cs:List IV}{off:Nat}{v:IV}(hc:∀n,a6 lb m p n=cut cs off n) (h:ldV agg cs off n=some v):c5 lb m agg n p=some v:=by
 unfold c5
 simp only[hc]
 cases agg with
 |true =>
  simp only[ldV,Option.map_eq_some_iff] at h
  obtain⟨x,e,rfl⟩:=h
  simp[e,ay]
 |false =>
  simp only[ldV] at h
  simp[Hn h]
theorem CK {m:IM}{id:Nat}{K:List IV→List Cap→Option R}{r:R}(h:dK m id K=some r):∃cs cp,m.get id=.cells cs cp∧K cs cp=some r:=by
 unfold dK at h
 split at h
 ·rename_i e;exact⟨_,_,e,h⟩
 ·cases h
theorem Ay {m:IM}{agg:Bool}{n:Nat}{p:IV}{K:IV→Option R}{r:R}(h:ldP m agg n p K=some r):∃v,K v=some r∧∀lb,c5 lb m agg n p=some v:=by
 unfold ldP at h
 split at h
 ·obtain⟨v,h1,h2⟩:=mF h
  exact⟨v,h1,fun lb=>pE (fun _=>rfl) h2⟩
 ·obtain⟨cs,cp,e,h⟩:=CK h
  obtain⟨v,h1,h2⟩:=mF h
  exact⟨v,h1,fun lb=>pE (fun n=>by simp[a6,e]) h2⟩
 ·cases h
theorem tQ (st:St) (n id off:Nat) (vs:List IV) (c:Cap):a7 st n (.pB id off) vs c =
  if vs.length≠n then none else match st.m.get id,al vs with
   |.cells cs cp,some r=>if off+n≤cs.length then some { st with m:=⟨st.m.bs.set id (.cells (over cs off vs) (aH cp off n c)),if r≤id then st.m.esc else st.m.esc+1⟩,lk:=lkB (· == id) st.lk } else none
   |_,_=>none:=by
 unfold a7
 split
 ·rfl
 ·simp only[ay,IM.put]
  cases st.m.get id<;>cases al vs<;>rfl
theorem yb {st st':St}{n id off:Nat}{vs:List IV}{c:Cap}(h:a7 st n (.pB id off) vs c=some st') (b:St) (hb:b.m=st.m) :
  a7 b n (.pB id off) vs c=some { b with m:=st'.m,lk:=lkB (· == id) b.lk }:=by
 rw[tQ] at h ⊢
 rw[hb]
 split at h
 ·cases h
 ·rename_i hn
  rw[if_neg hn]
  split at h
  ·rename_i e1 e2
   split at h
   ·rename_i e3
    rw[if_pos e3]
    cases h
    rfl
   ·cases h
  ·cases h
theorem H8 {m:IM}{p:IV}{vs:List IV}{c:Cap}{K:IM→Option R}{r:R}(h:stP m p vs c K=some r) :
  ∃id m',K m'=some r∧∀b:St,b.m=m→a7 b vs.length p vs c=some { b with m:=m',lk:=lkB (· == id) b.lk }:=by
 unfold stP at h
 split at h
 ·rename_i id off
  split at h
  ·rename_i st e
   exact⟨id,st.m,h,fun b hb=>yb e b hb⟩
  ·cases h
 ·cases h
theorem qX {m:IM}{sz:Nat}{v:IV}{K:List IV→Nat→Option R}{r:R}(h:jN m sz v K=some r):∃xs n,K xs n=some r∧∀lb,cO lb m sz v=some (xs,n):=by
 unfold jN at h
 split at h
 ·rename_i e
  refine⟨_,_,h,fun lb=>?_⟩
  cases v<;>first | exact e | (simp only[cO] at e ⊢;exact e)
 ·cases h
theorem Ai {e ex:Ex}{A B:Option R}{r:R}(h:exC e ex A B=some r):(ex=e∧A=some r)∨(ex≠e∧B=some r):=by
 unfold exC at h
 by_cases q:ex=e
 ·rw[decide_eq_true q] at h;exact .inl ⟨q,h⟩
 ·rw[decide_eq_false q] at h;exact .inr ⟨q,h⟩
theorem vh {s:Sh1}{v:IV}{K:IV→Option R}{r:R}(h:as1 s v K=some r):K v=some r:=by
 unfold as1 at h
 split at h
 ·obtain⟨n,rfl,h'⟩:=nk h;exact h'
 ·obtain⟨n,rfl,h'⟩:=H5 h;exact h'
 ·obtain⟨n,rfl,h'⟩:=vU h;exact h'
 ·obtain⟨n,o,rfl,h'⟩:=vN h;exact h'
 ·obtain⟨n,rfl,h'⟩:=CD h;exact h'
 ·exact h
theorem qb:∀{l:List Sh1}{cs:List IV}{K:List IV→Option R}{r:R},asL l cs K=some r→K cs=some r
 |[],cs,K,r,h=>by obtain⟨rfl,h'⟩:=vO h;exact h'
 |s::l,cs,K,r,h=>by
  obtain⟨v,t,rfl,h'⟩:=vt h
  exact qb (l:=l) (K:=fun t=>K (v::t)) (vh h')
theorem CW {s:ShA}{v:IV}{K:IV→Option R}{r:R}(h:ML s v K=some r):K v=some r:=by
 cases s with
 |one s=>exact vh h
 |agg l=>obtain⟨n,rfl,h'⟩:=uj h;exact qb h'
theorem yf:∀{l:List ShA}{cs:List IV}{K:List IV→Option R}{r:R},Ka l cs K=some r→K cs=some r
 |[],cs,K,r,h=>by obtain⟨rfl,h'⟩:=vO h;exact h'
 |s::l,cs,K,r,h=>by
  obtain⟨v,t,rfl,h'⟩:=vt h
  exact yf (l:=l) (K:=fun t=>K (v::t)) (CW h')
theorem xC {s:Sh}{v:IV}{K:IV→Option R}{r:R}(h:Jn s v K=some r):K v=some r:=by
 cases s with
 |one s=>exact vh h
 |agg l=>obtain⟨n,rfl,h'⟩:=uj h;exact qb h'
 |tup l=>obtain⟨n,rfl,h'⟩:=Gy h;exact yf h'
def cq (c c':Cap):Prop:=c=unk∨c'=c
inductive CapsR:List Cap→List Cap→Prop where
 |nil:CapsR [] []
 |cons {a b:Cap}{s t:List Cap}:cq a b→CapsR s t→CapsR (a::s) (b::t)
def BR (o o':BObj):Prop:=o=NA∨o=o'∨∃cs cp cp',o=.cells cs cp∧o'=.cells cs cp'∧CapsR cp cp'
structure Sub (s b:St):Prop where
 env:∀i v c,look s.env i=some (v,c)→∃c',look b.env i=some (v,c')∧cq c c'
 lk:∀p,p∈s.lk→p∈b.lk
 uq:uqB b.lk=true
 lb:∀k,BR (aE s.lb k) (aE b.lb k)
 m:s.m=b.m
theorem cq.refl (c:Cap):cq c c:=.inr rfl
theorem cq.unk (c:Cap):cq unk c:=.inl rfl
theorem cq.trans {a b c:Cap}(h1:cq a b) (h2:cq b c):cq a c:=by
 rcases h1 with rfl | rfl
 ·exact .inl rfl
 ·exact h2
theorem CapsR.refl:∀l,CapsR l l
 |[]=>.nil
 |a::r=>.cons (cq.refl a) (CapsR.refl r)
theorem CapsR.trans {a b c:List Cap}(h1:CapsR a b) (h2:CapsR b c):CapsR a c:=by
 induction h1 generalizing c with
 |nil=>exact h2
 |cons hab _ ih=>cases h2 with | cons hbc h=>exact .cons (hab.trans hbc) (ih h)
theorem CapsR.len {a b:List Cap}(h:CapsR a b):a.length=b.length:=by
 induction h with
 |nil=>rfl
 |cons _ _ ih=>simp[ih]
theorem CapsR.getD {a b:List Cap}(h:CapsR a b) (i:Nat):cq (a.getD i .any) (b.getD i .any):=by
 induction h generalizing i with
 |nil=>exact cq.refl _
 |cons hab _ ih=>cases i with
  |zero=>exact hab
  |succ i=>exact ih i
theorem CapsR.append {a b c d:List Cap}(h:CapsR a b) (h2:CapsR c d):CapsR (a++c) (b++d):=by
 induction h with
 |nil=>exact h2
 |cons hab _ ih=>exact .cons hab ih
theorem CapsR.take {a b:List Cap}(h:CapsR a b) (n:Nat):CapsR (a.take n) (b.take n):=by
 induction h generalizing n with
 |nil=>simp;exact .nil
 |cons hab _ ih=>cases n with
  |zero=>exact .nil
  |succ n=>exact .cons hab (ih n)
theorem CapsR.drop {a b:List Cap}(h:CapsR a b) (n:Nat):CapsR (a.drop n) (b.drop n):=by
 induction h generalizing n with
 |nil=>simp;exact .nil
 |cons hab h' ih=>cases n with
  |zero=>exact .cons hab h'
  |succ n=>exact ih n
theorem CapsR.set {a b:List Cap}(h:CapsR a b) (n:Nat) {c c':Cap}(hc:cq c c'):CapsR (a.set n c) (b.set n c'):=by
 induction h generalizing n with
 |nil=>exact .nil
 |cons hab h' ih=>cases n with
  |zero=>exact .cons hc h'
  |succ n=>exact .cons hab (ih n)
theorem CapsR.rep {c c':Cap}(h:cq c c'):∀n,CapsR (List.replicate n c) (List.replicate n c')
 |0=>.nil
 |n+1=>.cons h (CapsR.rep h n)
theorem CapsR.over {a b:List Cap}(h:CapsR a b) (off n:Nat) {c c':Cap}(hc:cq c c'):CapsR (aH a off n c) (aH b off n c') :=
 ((h.take off).append (CapsR.rep hc n)).append (h.drop (off+n))
theorem BR.refl (o:BObj):BR o o:=.inr (.inl rfl)
theorem BR.trans {a b c:BObj}(h1:BR a b) (h2:BR b c):BR a c:=by
 rcases h1 with rfl | rfl | ⟨cs,cp,cp',rfl,rfl,hc⟩
 ·exact .inl rfl
 ·exact h2
 ·rcases h2 with e | rfl | ⟨cs2,cp2,cp2',e1,rfl,hc2⟩
  ·cases e
  ·exact .inr (.inr ⟨cs,cp,cp',rfl,rfl,hc⟩)
  ·cases e1
   exact .inr (.inr ⟨cs,cp,cp2',rfl,rfl,hc.trans hc2⟩)
theorem BR.none {o:BObj}(h:BR .none o):o=.none:=by
 rcases h with e | rfl | ⟨_,_,_,e,_⟩
 ·cases e
 ·rfl
 ·cases e
theorem BR.iter {s:List UInt8}{p:Nat}{o:BObj}(h:BR (.iter s p) o):o=.iter s p:=by
 rcases h with e | rfl | ⟨_,_,_,e,_⟩
 ·cases e
 ·rfl
 ·cases e
theorem BR.cells {cs:List IV}{cp:List Cap}{o:BObj}(h:BR (.cells cs cp) o):∃cp',o=.cells cs cp'∧CapsR cp cp':=by
 rcases h with e | rfl | ⟨_,_,cp',e,rfl,hc⟩
 ·cases e
 ·exact⟨cp,rfl,CapsR.refl _⟩
 ·cases e;exact⟨cp',rfl,hc⟩
theorem BR.mk {cs:List IV}{cp cp':List Cap}(hc:CapsR cp cp'):BR (.cells cs cp) (.cells cs cp') :=
 .inr (.inr ⟨cs,cp,cp',rfl,rfl,hc⟩)
theorem mw {i:Nat}{l:Loc}{r:List (Nat×Loc)}:uqB ((i,l)::r)=true↔uqB r=true∧∀p∈r,p.1≠i:=by
 simp only[uqB]
 constructor
 ·intro h
  split at h
  ·rename_i e
   simp only[Bool.not_eq_true',List.any_eq_false] at h
   exact⟨e,fun p hp q=>h p hp (by rw[q];exact Nat.beq_refl i)⟩
  ·cases h
 ·rintro ⟨h1,h2⟩
  rw[h1]
  simp only[Bool.not_eq_true',List.any_eq_false]
  intro p hp q
  exact h2 p hp (Nat.eq_of_beq_eq_true q)
theorem gG {p:Nat×Loc→Bool}:∀{lk:List (Nat×Loc)},uqB lk=true→uqB (lk.filter p)=true
 |[],_=>rfl
 |(i,l)::r,h=>by
  obtain⟨h1,h2⟩:=mw.1 h
  rw[List.filter_cons]
  split
  ·exact mw.2 ⟨gG h1,fun q hq=>h2 q (List.mem_filter.1 hq).1⟩
  ·exact gG h1
theorem lO {d:Nat}{lk:List (Nat×Loc)}(h:uqB lk=true):uqB (lkSlot d lk)=true:=by rw[gj];exact gG h
theorem Hf {d:Nat}{lk:List (Nat×Loc)}(h:uqB lk=true):uqB (lkL d lk)=true:=by rw[nI];exact gG h
theorem AN {d:Nat→Bool}{lk:List (Nat×Loc)}(h:uqB lk=true):uqB (lkB d lk)=true:=by rw[nU];exact gG h
theorem nh:∀{lk:List (Nat×Loc)}{p:Nat×Loc},p∈uY lk→p∈lk∧∀i o,p.2 ≠ .B i o
 |(i,l)::r,p,h=>by
  unfold uY at h
  split at h
  ·obtain⟨a,b⟩:=nh h;exact⟨List.mem_cons_of_mem _ a,b⟩
  ·rename_i hl
   rcases List.mem_cons.1 h with rfl | h
   ·exact⟨List.mem_cons_self,hl⟩
   ·obtain⟨a,b⟩:=nh h;exact⟨List.mem_cons_of_mem _ a,b⟩
theorem mO:∀{lk:List (Nat×Loc)}{p:Nat×Loc},p∈yK lk→p∈lk∧(∀i o,p.2 ≠ .B i o)∧p.2 ≠ .marked
 |(i,l)::r,p,h=>by
  unfold yK at h
  split at h
  ·obtain⟨a,b⟩:=mO h;exact⟨List.mem_cons_of_mem _ a,b⟩
  ·obtain⟨a,b⟩:=mO h;exact⟨List.mem_cons_of_mem _ a,b⟩
  ·rename_i hl hm
   rcases List.mem_cons.1 h with rfl | h
   ·exact⟨List.mem_cons_self,hl,hm⟩
   ·obtain⟨a,b⟩:=mO h;exact⟨List.mem_cons_of_mem _ a,b⟩
theorem rF (f:Nat→Bool):∀lk:List (Nat×Loc),∃p:Nat×Loc→Bool,(lkC f lk=lk.filter p)∧∀q,(∀i o,q.2 ≠ .B i o)→q.2 ≠ .marked→p q=true:=by
 intro lk
 refine⟨fun q=>match q.2 with | .B id _=>!f id | .marked=>false | _=>true,?_,?_⟩
 ·induction lk with
  |nil=>rfl
  |cons q r ih =>
   obtain⟨i,l⟩:=q
   cases l with
   |B id o =>
    unfold lkC
    by_cases hf:f id=true
    ·simp[hf,ih]
    ·simp[hf,ih]
   |_=>simp[lkC,ih]
 ·rintro ⟨i,l⟩ h1 h2
  cases l with
  |B id o=>exact (h1 _ _ rfl).elim
  |marked=>exact (h2 rfl).elim
  |_=>rfl
theorem yI {d i:Nat}{l:Loc}:fy d i l=true↔i≠d∧l ≠ .slot d:=by
 unfold fy
 have hb:∀a b:Nat,(!(Nat.beq a b))=true↔a≠b:=fun a b=>by
  constructor
  ·intro h e;subst e;rw[Nat.beq_refl] at h;cases h
  ·intro h;rw[lA h];rfl
 rw[Bool.and_eq_true,hb]
 constructor
 ·rintro ⟨h1,h2⟩
  refine⟨h1,fun e=>?_⟩
  subst e
  simp only at h2
  exact (hb _ _).1 h2 rfl
 ·rintro ⟨h1,h2⟩
  refine⟨h1,?_⟩
  cases l with
  |slot j=>exact (hb _ _).2 fun e=>h2 (by rw[e])
  |_=>rfl
theorem lY {d:Nat}{s b:List (Nat×Loc)}(h:∀p,p∈s→p∈b):∀p,p∈lkSlot d s→p∈lkSlot d b:=by
 intro p hp
 rw[gj] at hp ⊢
 rw[List.mem_filter] at hp ⊢
 exact⟨h p hp.1,hp.2⟩
theorem ku {d:Nat}{s:List (Nat×Loc)}:∀p,p∈lkSlot d s→p∈s:=by
 intro p hp
 rw[gj] at hp
 exact (List.mem_filter.1 hp).1
theorem G9 {d:Nat}{s b:List (Nat×Loc)}(h:∀p,p∈s→p∈b):∀p,p∈lkL d s→p∈lkL d b:=by
 intro p hp
 rw[nI] at hp ⊢
 rw[List.mem_filter] at hp ⊢
 exact⟨h p hp.1,hp.2⟩
theorem wL {f:Nat→Bool}{s b:List (Nat×Loc)}(h:∀p,p∈s→p∈b):∀p,p∈uY s→p∈lkB f b:=by
 intro p hp
 obtain⟨h1,h2⟩:=nh hp
 rw[nU,List.mem_filter]
 refine⟨h p h1,?_⟩
 unfold bKp
 split
 ·rename_i e;exact (h2 _ _ e).elim
 ·rfl
theorem yg {f:Nat→Bool}{s b:List (Nat×Loc)}(h:∀p,p∈s→p∈b):∀p,p∈yK s→p∈lkC f b:=by
 intro p hp
 obtain⟨h1,h2,h3⟩:=mO hp
 obtain⟨q,e,hq⟩:=rF f b
 rw[e,List.mem_filter]
 exact⟨h p h1,hq _ h2 h3⟩
theorem iY {R:Type}{ids:List Nat}:∀{s:List (Nat×Loc)}{K:List (Nat×Loc)→Option R}{r:R},te ids s K=some r→∃t,K t=some r∧∀p,p∈t→p∈lkC (fun i=>!ids.contains i) s
 |[],K,r,h=>⟨[],h,fun _ hp=>by cases hp⟩
 |(i,l)::q,K,r,h=>by
  cases l with
  |B id off =>
   simp only[te] at h
   split at h
   ·obtain⟨t,e,ht⟩:=iY h
    refine⟨_,e,fun p hp=>?_⟩
    simp only[lkC,List.contains_nil,Bool.not_false,if_true]
    exact ht p hp
   ·obtain⟨h1,h⟩:=bX h
    obtain⟨t,e,ht⟩:=iY h
    refine⟨_,e,fun p hp=>?_⟩
    simp only[lkC,h1,Bool.not_true,Bool.false_eq_true,if_false]
    rcases List.mem_cons.1 hp with rfl | hp
    ·exact List.mem_cons_self
    ·exact List.mem_cons_of_mem _ (ht p hp)
  |marked =>
   simp only[te] at h
   obtain⟨t,e,ht⟩:=iY h
   exact⟨_,e,fun p hp=>by simp only[lkC];exact ht p hp⟩
  |slot j =>
   simp only[te] at h
   obtain⟨t,e,ht⟩:=iY h
   refine⟨_,e,fun p hp=>?_⟩
   simp only[lkC]
   rcases List.mem_cons.1 hp with rfl | hp
   ·exact List.mem_cons_self
   ·exact List.mem_cons_of_mem _ (ht p hp)
  |L k off =>
   simp only[te] at h
   obtain⟨t,e,ht⟩:=iY h
   refine⟨_,e,fun p hp=>?_⟩
   simp only[lkC]
   rcases List.mem_cons.1 hp with rfl | hp
   ·exact List.mem_cons_self
   ·exact List.mem_cons_of_mem _ (ht p hp)
def Ew (f:Nat→Bool) (p:Nat×Loc):Bool:=match p.2 with
 |.B id _=>!f id
 |.marked=>false
 |_=>true
theorem HY (f:Nat→Bool) (l:List (Nat×Loc)):lkC f l=l.filter (Ew f):=by
 induction l with
 |nil=>rfl
 |cons x r ih =>
  obtain⟨i,l⟩:=x
  cases l with
  |B id off=>cases h:f id<;>simp[lkC,Ew,h,ih]
  |slot j=>simp[lkC,List.filter_cons,Ew,ih]
  |L k o=>simp[lkC,List.filter_cons,Ew,ih]
  |marked=>simp[lkC,Ew,ih]
theorem Da {f:Nat→Bool}{s b:List (Nat×Loc)}(h:∀p,p∈s→p∈b):∀p,p∈lkC f s→p∈lkC f b:=by
 intro p hp
 rw[HY,List.mem_filter] at hp ⊢
 exact⟨h p hp.1,hp.2⟩
theorem uP {f:Nat→Bool}{lk:List (Nat×Loc)}(h:uqB lk=true):uqB (lkC f lk)=true:=by
 obtain⟨q,e,_⟩:=rF f lk
 rw[e];exact gG h
theorem zj {lk:List (Nat×Loc)}(h:uqB lk=true) {i:Nat}{l:Loc}(hm:(i,l)∈lk):linkOf lk i=some l:=(yX h).linkOf hm
variable {s b:St}
theorem Sub.link (h:Sub s b) {i:Nat}{l:Loc}(e:linkOf s.lk i=some l):linkOf b.lk i=some l:=zj h.uq (h.lk _ (fJ e))
theorem Sub.set (h:Sub s b) (i:Nat) (v:IV) {c c':Cap}(hc:cq c c'):Sub { s with env:=(i,v,c)::s.env } { b with env:=(i,v,c')::b.env } where
 env:=by
  intro j v' c1 hl
  simp only[c8] at hl ⊢
  split at hl
  ·rename_i e;subst e;cases hl;exact⟨c',by simp,hc⟩
  ·rename_i e;rw[if_neg e];exact h.env _ _ _ hl
 lk:=h.lk
 uq:=h.uq
 lb:=h.lb
 m:=h.m
theorem Sub.say (h:Sub s b) (i:Nat) (v:IV) {c c':Cap}(hb:look b.env i=some (v,c')) (hc:cq c c'):Sub { s with env:=(i,v,c)::s.env } b where
 env:=by
  intro j v' c1 hl
  simp only[c8] at hl
  split at hl
  ·rename_i e;subst e;cases hl;exact⟨c',hb,hc⟩
  ·exact h.env _ _ _ hl
 lk:=h.lk
 uq:=h.uq
 lb:=h.lb
 m:=h.m
theorem Sub.refine (h:Sub s b) {i:Nat}{v:IV}{c:Cap}(e:look s.env i=some (v,c)):Sub { s with env:=(i,v,c)::s.env } b:=by
 obtain⟨c',h1,h2⟩:=h.env _ _ _ e
 exact h.say i v h1 h2
theorem Sub.lkSlot (h:Sub s b) (d:Nat):Sub { s with lk:=lkSlot d s.lk } { b with lk:=Idl.lkSlot d b.lk } where
 env:=h.env
 lk:=lY h.lk
 uq:=lO h.uq
 lb:=h.lb
 m:=h.m
theorem Sub.lkDrop (h:Sub s b) {l:List (Nat×Loc)}(hl:∀p,p∈l→p∈s.lk):Sub { s with lk:=l } b where
 env:=h.env
 lk:=fun p hp=>h.lk p (hl p hp)
 uq:=h.uq
 lb:=h.lb
 m:=h.m
theorem Sub.lks (h:Sub s b) {l l':List (Nat×Loc)}(hl:∀p,p∈l→p∈l') (hu:uqB l'=true):Sub { s with lk:=l } { b with lk:=l' } where
 env:=h.env
 lk:=hl
 uq:=hu
 lb:=h.lb
 m:=h.m
theorem Sub.mem (h:Sub s b) (m:IM):Sub { s with m:=m } { b with m:=m } where
 env:=h.env
 lk:=h.lk
 uq:=h.uq
 lb:=h.lb
 m:=rfl
theorem Sub.box (h:Sub s b) (k:Nat) {o o':BObj}(ho:BR o o'):Sub { s with lb:=(k,o)::s.lb } { b with lb:=(k,o')::b.lb } where
 env:=h.env
 lk:=h.lk
 uq:=h.uq
 lb:=by
  intro j
  simp only[bK]
  split
  ·exact ho
  ·exact h.lb j
 m:=h.m
theorem dk {ty:Tys}{a:Arg}{K:Sh→IV→Option R}{r:R}(h:rdC ty s.env a K=some r) (hs:Sub s b):∃v,a.rd s.env=some v∧a.rd b.env=some v∧K (match a with | .t i=>xP ty i | .c v=>shV v) v=some r:=by
 cases a with
 |t i =>
  simp only[rdC] at h
  split at h
  ·rename_i v c e
   obtain⟨c',e',_⟩:=hs.env _ _ _ e
   exact⟨v,by simp[Arg.rd,e],by simp[Arg.rd,e'],h⟩
  ·cases h
 |c v=>exact⟨_,rfl,rfl,h⟩
theorem jh {ty:Tys}:∀{as:List Arg}{K:List (Sh×IV)→Option R}{r:R},yU ty s.env as K=some r→Sub s b→∃l,rdAll b.env as=some (single l)∧K l=some r
 |[],K,r,h,_=>⟨[],rfl,h⟩
 |a::as,K,r,h,hs=>by
  obtain⟨v,_,e,h⟩:=dk h hs
  obtain⟨l,e',h⟩:=jh h hs
  exact⟨_,by rw[rdAll,e,e'];rfl,h⟩
theorem iw {sh:Sh}{v:IV}{K:List IV→Option R}{r:R}(h:lH sh v K=some r):v.isU=false∧v.isL=false∧K v.cells=some r:=by
 unfold lH at h
 split at h
 ·obtain⟨cs,rfl,h'⟩:=uj h;exact⟨rfl,rfl,h'⟩
 ·obtain⟨h1,h2,h3,h⟩:=DW h;exact⟨h2,h3,by rw[h1];exact h⟩
theorem i9 {a b:Nat}(h:Nat.beq a b=true):a=b:=Nat.eq_of_beq_eq_true h
theorem LC {a b:Nat}(h:Nat.ble a b=true):a≤b:=Nat.le_of_ble_eq_true h
theorem nx:∀{zero:List IV}{parts:List (Nat×Nat)}{l:List (Sh×IV)}{K:List IV→Option R}{r:R},sH zero parts l K=some r→∃cs,cZ zero parts (single l)=some cs∧K cs=some r
 |zero,(off,n)::ps,(sh,v)::vs,K,r,h=>by
  unfold sH at h
  obtain⟨h1,h2,h⟩:=iw h
  obtain⟨h3,h⟩:=bX h
  rw[Bool.and_eq_true] at h3
  obtain⟨cs,e,h⟩:=nx h
  refine⟨cs,?_,h⟩
  have e1:=i9 h3.1
  have e2:=LC h3.2
  simp only[single,cZ]
  rw[if_pos (by simp[h1,h2,e1,e2])]
  exact e
 |cs,[],[],K,r,h=>⟨cs,rfl,h⟩
 |_,[],_::_,_,_,h=>by simp[sH] at h
 |_,_::_,[],_,_,h=>by simp[sH] at h
theorem A5 {v:IV}{X:Option R}{r:R}(h:isSl v X=some r):(∀z,dH v z=.own z)∧v.cells=[v]∧v.isU=false∧v.isL=false∧X=some r:=by
 unfold isSl at h
 split at h
 ·exact⟨fun _=>rfl,rfl,rfl,rfl,h⟩
 ·exact⟨fun _=>rfl,rfl,rfl,rfl,h⟩
 ·cases h
end Go.Idl
namespace Go.Idl
variable {R:Type}{s b:St}{ty:Tys}{call:bD}
theorem kI {b:St}{i:Nat}{v:IV}{c:Cap}(e:look b.env i=some (v,c)):b.drop (.slot i)=some { b with env:=(i,v,.any)::b.env,lk:=lkSlot i b.lk }:=by
 simp only[St.drop,e,ay]
theorem gM {c:Cap}(h:cq .any c):c=.any:=by
 rcases h with h | h
 ·cases h
 ·exact h
theorem iG {z:Nat}{c:Cap}(h:cq (.own z) c) (hz:z≠0):c=.own z:=by
 rcases h with h | h
 ·cases h;exact absurd rfl hz
 ·exact h
theorem zU {i:Nat}{xf:Bool}{K:IV→Cap→St→Option R}{r:R}(h:mvC s i xf K=some r) (hs:Sub s b) :
  ∃v c cb c' b',look b.env i=some (v,cb)∧cq c c'∧((xf=false∧c'=.any∧b'=b)∨(xf=true∧cb=.any∧c'=.any∧b'=b)∨(xf=true∧∃sz,cb=.own sz∧c'=.own sz∧b.drop (.slot i)=some b')) ∧
   ∃s',Sub s' b'∧s'.lb=s.lb∧K v c s'=some r:=by
 unfold mvC at h
 split at h
 ·rename_i v c e
  obtain⟨cb,eb,hc⟩:=hs.env _ _ _ e
  split at h
  ·exact⟨v,.any,cb,.any,b,eb,cq.refl _,.inl ⟨rfl,rfl,rfl⟩,s,hs,rfl,h⟩
  ·split at h
   ·have:=gM hc
    subst this
    exact⟨v,.any,.any,.any,b,eb,cq.refl _,.inr (.inl ⟨rfl,rfl,rfl,rfl⟩),s,hs,rfl,h⟩
   ·rename_i sz
    cases cb with
    |any =>
     refine⟨v,.own sz,.any,.any,b,eb,hc,.inr (.inl ⟨rfl,rfl,rfl,rfl⟩),{ s with env:=(i,v,.any)::s.env,lk:=lkSlot i s.lk },?_,rfl,h⟩
     exact (hs.say i v eb (cq.refl _)).lkDrop (ku (s:=s.lk))
    |own z =>
     refine⟨v,.own sz,.own z,.own z,_,eb,hc,.inr (.inr ⟨rfl,z,rfl,rfl,kI eb⟩),{ s with env:=(i,v,.any)::s.env,lk:=lkSlot i s.lk },?_,rfl,h⟩
     exact (hs.set i v (cq.refl .any)).lkSlot i
 ·cases h
theorem eV {e:Env}{i:Nat}{v:IV}{c:Cap}(h:look e i=some (v,c)):b9 e i=c:=by simp[b9,h]
theorem fa {e:Env}{i:Nat}{v:IV}{c:Cap}(h:look e i=some (v,c)):(Arg.t i).rd e=some v:=by simp[Arg.rd,h]
theorem AQ {c:Cap}{X:Option R}{r:R}(h:known c X=some r):(∀c',cq c c'→c'=c)∧X=some r:=by
 unfold known at h
 split at h
 ·exact⟨fun c' hc=>gM hc,h⟩
 ·obtain⟨h1,h2⟩:=bX h
  refine⟨fun c' hc=>iG hc fun e=>?_,h2⟩
  subst e
  cases h1
theorem nq {lb:List (Nat×BObj)}{sh:Sh}{p:IV}{n:Nat}{cs:List IV}{c c':Cap}{K:St→Option R}{r:R}(h:stC lb sh p n cs c s K=some r) (hlb:s.lb=lb) (hs:Sub s b) (hc:cq c c') :
  ∃b',a7 b n p cs c'=some b'∧∃s',Sub s' b'∧K s'=some r:=by
 unfold stC at h
 split at h
 ·split at h
  ·rename_i k off
   split at h
   ·rename_i bs cp e
    rw[←hlb] at e
    have hb:=hs.lb k
    rw[e] at hb
    obtain⟨cp',eb,hcp⟩:=hb.cells
    obtain⟨⟨n',hr⟩,h⟩:=kJ h
    obtain⟨hg,h⟩:=bX h
    rw[Bool.and_eq_true] at hg
    have e1:=i9 hg.1
    have e2:=LC hg.2
    refine⟨{ b with lb:=(k,.cells (over bs off cs) (aH cp' off n c'))::b.lb,lk:=lkL k b.lk },?_,_,?_,h⟩
    ·unfold a7
     rw[if_neg (by simp[e1])]
     simp only[eb,hr,if_pos e2,ay]
    ·exact (hs.box k (BR.mk (hcp.over off n hc))).lks (G9 hs.lk) (Hf hs.uq)
   ·cases h
  ·cases h
 ·obtain⟨hk,h⟩:=AQ h
  rw[hk c' hc]
  obtain⟨hg,h⟩:=bX h
  have e1:=i9 hg
  obtain⟨id,m',h,hst⟩:=H8 h
  have:=hst b hs.m.symm
  rw[e1] at this
  exact⟨_,this,_,(hs.mem m').lks (wL hs.lk) (AN hs.uq),h⟩
def mf (xs:List IV) (n:Nat):IV:=if n=0 then .nilSlice else .sl xs n
theorem ly {bytes:Nat}{xs:List IV}{n:Nat}{K:IV→Option R}{r:R}(h:bQ (n==0) (K .nilSlice) (grd (decide (n*bytes≤ak)) (K (.sl xs n)))=some r):(n=0∨n*bytes≤ak)∧K (mf xs n)=some r:=by
 rcases je h with ⟨h1,h⟩ | ⟨h1,h⟩
 ·have h1:n=0:=by simpa using h1
  exact⟨.inl h1,by rw[mf,if_pos h1];exact h⟩
 ·obtain⟨h2,h⟩:=bX h
  have h1:n≠0:=by simpa using h1
  exact⟨.inr (of_decide_eq_true h2),by rw[mf,if_neg h1];exact h⟩
theorem rU {sv:IV}{sz bytes:Nat}{xs:List IV}{n:Nat}{K:IV→Option R}{r:R}(h:iy sv sz bytes xs n K=some r) :
  (sv=.nilSlice∧(n=0∨n*bytes≤ak)∧K (mf xs n)=some r)∨(∃row len,sv=.sl row len∧((len+n)*bytes≤ak∧row.length=len*sz)∧K (.sl (row++xs) (len+n))=some r):=by
 unfold iy at h
 split at h
 ·exact .inl ⟨rfl,ly h⟩
 ·obtain⟨h2,h⟩:=bX h
  exact .inr ⟨_,_,rfl,of_decide_eq_true h2,h⟩
 ·cases h
theorem yh {sv:IV}{bytes:Nat}{xs:List IV}{n:Nat}{K:IV→Option R}{r:R}(h:GM sv bytes xs n K=some r):sv=.nilSlice∧(n=0∨n*bytes≤ak)∧K (mf xs n)=some r:=by
 unfold GM at h
 split at h
 ·exact⟨rfl,ly h⟩
 ·cases h
theorem Hv {st st':St}{id off:Nat}(h:st.drop (.B id off)=some st') (b:St) (hb:b.m=st.m):b.drop (.B id off)=some { b with m:=st'.m }:=by
 simp only[St.drop] at h ⊢
 rw[hb]
 split at h
 ·simp only[ay,IM.put] at h ⊢
  cases h;rfl
 ·cases h;rw[←hb]
theorem ki {call:bD}{b:St}{sz bytes:Nat}{a x:Arg}{xv:IV}{row xs:List IV}{len n:Nat}{l:Loc}{b':St}(hx:x.rd b.env=some xv) (ha:a.rd b.env=some (.sl row len)) (hsrc:cO b.lb b.m sz xv=some (xs,n)) (hp:xs.all IV.plain=true) (hl:xs.length=n*sz)
  (ho:b.owner a sz=some l) (hg:(len+n)*bytes≤ak∧row.length=len*sz) (hd:b.drop l=some b'):(IK.append sz bytes a x).run call b=some (.sl (row++xs) (len+n),.own sz,b'):=by
 have hq:(xs.all IV.plain&&xs.length==n*sz)=true:=by rw[hp,hl,beq_self_eq_true];rfl
 simp only[IK.run,hx,ha,hsrc,hq,if_true,ho,if_pos hg,hd]
theorem append_nil {call:bD}{b:St}{sz bytes:Nat}{a x:Arg}{xv:IV}{xs:List IV}{n:Nat}(hx:x.rd b.env=some xv) (ha:a.rd b.env=some .nilSlice) (hsrc:cO b.lb b.m sz xv=some (xs,n)) (hp:xs.all IV.plain=true) (hl:xs.length=n*sz)
  (h:n=0∨n*bytes≤ak):(IK.append sz bytes a x).run call b=some (mf xs n,.own sz,b):=by
 have hq:(xs.all IV.plain&&xs.length==n*sz)=true:=by rw[hp,hl,beq_self_eq_true];rfl
 simp only[IK.run,hx,ha,hsrc,hq,if_true,mf]
 by_cases h0:n=0
 ·rw[if_pos h0,if_pos h0]
 ·rcases h with h | h
  ·exact absurd h h0
  ·rw[if_neg h0,if_neg h0,if_pos h]
theorem BO {sz bytes:Nat}{a x:Arg}{K:IV→Cap→St→Option R}{r:R}(h:(IK.append sz bytes a x).den ty call s K=some r) (hs:Sub s b) :
  ∃v c c' b',(IK.append sz bytes a x).run call b=some (v,c',b')∧cq c c'∧∃s',Sub s' b'∧K v c s'=some r:=by
 simp only[IK.den] at h
 obtain⟨xv,_,hx,h⟩:=dk h hs
 obtain⟨xs,n,h,hsrc⟩:=qX h
 rw[hs.m] at hsrc
 obtain⟨hp,h⟩:=jl h
 obtain⟨hl,h⟩:=bX h
 have hl:=i9 hl
 have hsrc:=hsrc b.lb
 cases a with
 |c sv =>
  simp only at h
  obtain⟨rfl,hn,h'⟩:=yh h
  exact⟨_,_,_,b,append_nil hx rfl hsrc hp hl hn,cq.refl _,s,hs,h'⟩
 |t i =>
  simp only at h
  split at h
  ·rename_i sv z e
   obtain⟨hz,h⟩:=bX h
   simp only[Bool.and_eq_true,Bool.not_eq_true'] at hz
   obtain⟨hz1,hz2⟩:=hz
   have hz1:=i9 hz1
   subst hz1
   have hz0:z≠0:=fun q=>by subst q;cases hz2
   obtain⟨cb,eb,hcb⟩:=hs.env _ _ _ e
   have:=iG hcb hz0
   subst this
   rcases rU h with ⟨rfl,hn,h'⟩ | ⟨row,len,rfl,hg,h'⟩
   ·exact⟨_,_,_,b,append_nil hx (fa eb) hsrc hp hl hn,cq.refl _,_,(hs.say i _ eb (cq.unk _)).lkDrop (ku (s:=s.lk)),h'⟩
   ·exact⟨_,_,_,_,ki hx (fa eb) hsrc hp hl (l:=.slot i) (by simp only[St.owner,eV eb,if_true]) hg (kI eb),cq.refl _,_,(hs.set i _ (cq.unk .any)).lkSlot i,h'⟩
  ·rename_i sv e
   obtain⟨cb,eb,hcb⟩:=hs.env _ _ _ e
   have:=gM hcb
   subst this
   split at h
   ·rename_i k off el
    have elb:=hs.link el
    split at h
    ·rename_i cs cp ek
     have hb:=hs.lb k
     rw[ek] at hb
     obtain⟨cp',ekb,hcp⟩:=hb.cells
     obtain⟨hz,h⟩:=bX h
     simp only[Bool.and_eq_true,Bool.not_eq_true',decide_eq_true_eq] at hz
     obtain⟨hz1,hz2⟩:=hz
     have hz0:sz≠0:=fun q=>by subst q;cases hz2
     have hcap:=hcp.getD off
     rw[hz1] at hcap
     have hcap:=iG hcap hz0
     rcases rU h with ⟨rfl,hn,h'⟩ | ⟨row,len,rfl,hg,h'⟩
     ·refine⟨_,_,_,b,append_nil hx (fa eb) hsrc hp hl hn,cq.refl _,_,?_,h'⟩
      refine⟨hs.env,hs.lk,hs.uq,fun j=>?_,hs.m⟩
      simp only[bK]
      split
      ·rename_i q;subst q
       rw[ekb]
       refine BR.mk ?_
       have hset:CapsR (cp.set off unk) (cp'.set off (cp'.getD off .any)):=hcp.set off (cq.unk _)
       have hid:cp'.set off (cp'.getD off .any)=cp':=by
        by_cases hlt:off<cp'.length
        ·rw[List.getD_eq_getElem?_getD,List.getElem?_eq_getElem hlt]
         simp
        ·rw[List.set_eq_of_length_le (by omega)]
       rw[hid] at hset
       exact hset
      ·exact hs.lb j
     ·refine⟨_,_,_,{ b with lb:=(k,.cells cs (cp'.set off .any))::b.lb },ki hx (fa eb) hsrc hp hl (l:=.L k off) ?_ hg ?_,cq.refl _,_,hs.box k (BR.mk (hcp.set off (cq.unk .any))),h'⟩
      ·simp only[St.owner,eV eb,elb,St.capAt,ekb,hcap,if_true]
      ·simp only[St.drop,ekb,ay]
    ·cases h
   ·rename_i id off el
    have elb:=hs.link el
    unfold fO at h
    split at h
    ·obtain⟨hn,h'⟩:=ly (K:=fun v=>K v (.own sz) { s with m:=s.m }) h
     exact⟨_,_,_,b,append_nil hx (fa eb) hsrc hp hl hn,cq.refl _,s,hs,h'⟩
    ·rename_i row len _
     obtain⟨h1,h⟩:=bX h
     obtain⟨hg,h⟩:=bX h
     have h1:=of_decide_eq_true h1
     have hg:=of_decide_eq_true hg
     split at h
     ·rename_i st ed
      have ed':=Hv ed b hs.m.symm
      have hcap:b.capAt (.B id off)=.own sz:=by
       rw[hs.m] at h1
       exact h1
      exact⟨_,_,_,_,ki hx (fa eb) hsrc hp hl (l:=.B id off) (by simp only[St.owner,eV eb,elb,hcap,if_true]) hg ed',cq.refl _,_,hs.mem st.m,h⟩
     ·cases h
    ·cases h
   ·rename_i j el
    have elb:=hs.link el
    split at h
    ·rename_i w z ej
     obtain⟨hz,h⟩:=bX h
     simp only[Bool.and_eq_true,Bool.not_eq_true'] at hz
     obtain⟨hz1,hz2⟩:=hz
     have hz1:=i9 hz1
     subst hz1
     have hz0:z≠0:=fun q=>by subst q;cases hz2
     obtain⟨cj,ejb,hcj⟩:=hs.env _ _ _ ej
     have:=iG hcj hz0
     subst this
     rcases rU h with ⟨rfl,hn,h'⟩ | ⟨row,len,rfl,hg,h'⟩
     ·exact⟨_,_,_,b,append_nil hx (fa eb) hsrc hp hl hn,cq.refl _,_,(hs.say j _ ejb (cq.unk _)).lkDrop (ku (s:=s.lk)),h'⟩
     ·exact⟨_,_,_,_,ki hx (fa eb) hsrc hp hl (l:=.slot j) (by simp only[St.owner,eV eb,elb,St.capAt,eV ejb,if_true]) hg (kI ejb),cq.refl _,_,(hs.set j _ (cq.unk .any)).lkSlot j,h'⟩
    ·cases h
   ·obtain⟨rfl,hn,h'⟩:=yh h
    exact⟨_,_,_,b,append_nil hx (fa eb) hsrc hp hl hn,cq.refl _,s,hs,h'⟩
  ·cases h
theorem FG {n:Nat}{a x:Arg}{xf:Bool}{K:IV→Cap→St→Option R}{r:R}(h:(IK.store n a x xf).den ty call s K=some r) (hs:Sub s b) :
  ∃v c c' b',(IK.store n a x xf).run call b=some (v,c',b')∧cq c c'∧∃s',Sub s' b'∧K v c s'=some r:=by
 simp only[IK.den] at h
 obtain⟨p,_,hp,h⟩:=dk h hs
 cases x with
 |c v =>
  simp only at h
  obtain⟨_,_,h⟩:=iw h
  obtain⟨b',hst,s',hs',h⟩:=nq h rfl hs (cq.refl .any)
  refine⟨_,_,_,b',?_,cq.refl _,s',hs',h⟩
  have hv:(Arg.c v).rd b.env=some v:=rfl
  cases xf<;>simp[IK.run,hp,hv,hst]
 |t i =>
  simp only at h
  obtain⟨v,c,cb,c',b1,eb,hcc,hcase,s1,hs1,hlb,h⟩:=zU h hs
  split at h
  ·obtain⟨_,_,h⟩:=iw h
   have hc0:=gM hcc
   subst hc0
   obtain⟨b',hst,s',hs',h⟩:=nq h hlb hs1 (cq.refl .any)
   refine⟨_,_,_,b',?_,cq.refl _,s',hs',h⟩
   rcases hcase with ⟨rfl,_,rfl⟩ | ⟨rfl,rfl,_,rfl⟩ | ⟨_,z,_,e,_⟩
   ·simp[IK.run,hp,fa eb,hst]
   ·simp[IK.run,hp,fa eb,eV eb,hst]
   ·cases e
  ·rename_i sz
   obtain⟨hcs,hcells,_,_,h⟩:=A5 h
   rcases hcase with ⟨_,rfl,rfl⟩ | ⟨rfl,rfl,rfl,rfl⟩ | ⟨rfl,z,rfl,rfl,hd⟩
   ·obtain⟨b',hst,s',hs',h⟩:=nq h hlb hs1 hcc
    refine⟨_,_,_,b',?_,cq.refl _,s',hs',h⟩
    rename_i hxf
    subst hxf
    simp[IK.run,hp,fa eb,hcells,hst]
   ·obtain⟨b',hst,s',hs',h⟩:=nq h hlb hs1 hcc
    refine⟨_,_,_,b',?_,cq.refl _,s',hs',h⟩
    simp[IK.run,hp,fa eb,eV eb,hcells,hst]
   ·obtain⟨b',hst,s',hs',h⟩:=nq h hlb hs1 hcc
    refine⟨_,_,_,b',?_,cq.refl _,s',hs',h⟩
    simp[IK.run,hp,fa eb,eV eb,hd,hcells,hcs,hst]
end Go.Idl
namespace Go.Idl
variable {R:Type}{s b:St}{ty:Tys}{call:bD}
theorem put_eq (st:St) (d:Option Nat) (v:IV) (c:Cap):st.put d v c=some (match d with | none=>st | some d=>{ st with env:=(d,v,c)::st.env,lk:=lkSlot d st.lk }):=by
 cases d with
 |none=>rfl
 |some d=>simp only[St.put,ay,bM]
theorem Ap (m:IM) (id:Nat) (o:BObj):m.put id o=some ⟨m.bs.set id o,m.esc⟩:=by simp only[IM.put,ay]
theorem mem_push (m:IM) (o:BObj):m.push o=some (bR m o):=by simp only[IM.push,ay,bR]
theorem jM:∀{hs:List Arg}{K:List Nat→Option R}{r:R},yu s.env hs K=some r→Sub s b→K (aC b.env hs)=some r
 |[],K,r,h,_=>h
 |.c _::t,K,r,h,hs=>jM (hs:=t) h hs
 |.t i::t,K,r,h,hs=>by
  unfold yu at h
  split at h
  ·rename_i v c e
   obtain⟨cb,eb,_⟩:=hs.env _ _ _ e
   split at h
   ·have:=jM h hs
    simp only[aC,eb]
    exact this
   ·rename_i hn
    have:=jM h hs
    simp only[aC,eb]
    cases v<;>first | exact this | exact (hn _ _ rfl).elim
  ·cases h
theorem oi {c:Callee}{vs:List IV}{hide:List Arg}{K:IV→IM→Option R}{r:R}(h:bc call c vs (aC b.env hide) b.m K=some r) :
  ∃v m',cQ call b c vs hide=some (v,.any,{ b with m:=m',lk:=lkC (fun i=>!(aC b.env hide).contains i) b.lk })∧K v m'=some r:=by
 unfold bc at h
 unfold cQ
 simp only[ay]
 split at h
 ·rename_i e1
  split at h
  ·rename_i e2
   split at h
   ·rename_i v m2 e3
    split at h
    ·rename_i m3 e4
     refine⟨v,m3,?_,h⟩
     simp only[e1,e2,e3,e4]
    ·cases h
   ·cases h
  ·cases h
 ·cases h
theorem Km {k:IK}{K:IV→Cap→St→Option R}{r:R}(h:k.den ty call s K=some r) (hs:Sub s b) :
  ∃v c c' b',k.run call b=some (v,c',b')∧cq c c'∧∃s',Sub s' b'∧K v c s'=some r:=by
 cases k with
 |mv x xf lk =>
  cases x with
  |c v=>exact⟨_,_,_,b,rfl,cq.refl _,s,hs,h⟩
  |t i =>
   simp only[IK.den] at h
   obtain⟨v,c,cb,c',b1,eb,hcc,hcase,s1,hs1,_,h⟩:=zU h hs
   refine⟨v,c,c',b1,?_,hcc,s1,hs1,h⟩
   rcases hcase with ⟨rfl,rfl,rfl⟩ | ⟨rfl,rfl,rfl,rfl⟩ | ⟨rfl,z,rfl,rfl,hd⟩
   ·simp[IK.run,fa eb]
   ·simp[IK.run,fa eb,eV eb]
   ·simp[IK.run,fa eb,eV eb,hd]
 |p o args =>
  simp only[IK.den] at h
  split at h
  ·rename_i j a a2
   split at h
   ·rename_i c cc e
    obtain⟨cb,eb,_⟩:=hs.env _ _ _ e
    rcases je h with ⟨rfl,h'⟩ | ⟨rfl,h'⟩
    ·obtain⟨v,e1,e2,h⟩:=dk h' hs
     obtain⟨v2,e3⟩:=Arg.rd_some b.env a2
     refine⟨v,_,_,b,?_,cq.refl _,_,hs.refine e,h⟩
     simp[IK.run,rdAll,fa eb,e2,e3,POp.ev]
    ·obtain⟨v,e1,e2,h⟩:=dk h' hs
     obtain⟨v2,e3⟩:=Arg.rd_some b.env a
     refine⟨v,_,_,b,?_,cq.refl _,_,hs.refine e,h⟩
     simp[IK.run,rdAll,fa eb,e2,e3,POp.ev]
   ·cases h
  ·obtain⟨l,e,h⟩:=jh h hs
   obtain⟨cs,e2,h⟩:=nx h
   refine⟨_,_,_,b,?_,cq.refl _,s,hs,h⟩
   simp[IK.run,e,POp.ev,e2]
  ·obtain⟨l,e,h⟩:=jh h hs
   obtain⟨v,e2,h⟩:=HA h
   refine⟨v,_,_,b,?_,cq.refl _,s,hs,h⟩
   simp only[IK.run,e,e2]
 |same x =>
  simp only[IK.den] at h
  split at h
  ·rename_i i
   split at h
   ·rename_i row len c e
    obtain⟨cb,eb,hcb⟩:=hs.env _ _ _ e
    obtain⟨hm,h⟩:=bX h
    have hm:=hs.link (of_decide_eq_true hm)
    cases cb with
    |any =>
     split at h
     ·refine⟨_,_,_,b,?_,hcb,_,(hs.say i _ eb (cq.refl _)).lkDrop (ku (s:=s.lk)),h⟩
      simp[IK.run,fa eb,hm,eV eb]
     ·refine⟨_,_,_,b,?_,cq.refl _,s,hs,h⟩
      simp[IK.run,fa eb,hm,eV eb]
    |own z =>
     split at h
     ·refine⟨_,_,_,_,?_,hcb,_,(hs.set i _ (cq.refl .any)).lkSlot i,h⟩
      simp[IK.run,fa eb,hm,eV eb,kI eb]
     ·have:=gM hcb;cases this
   ·cases h
  ·cases h
 |load agg n a lk =>
  simp only[IK.den] at h
  obtain⟨p,e1,e2,h⟩:=dk h hs
  have key:∀v,c5 b.lb b.m agg n p=some v→(IK.load agg n a lk).run call b=some (v,.any,b):=by
   intro v hv
   simp only[IK.run,e2,hv]
  split at h
  ·split at h
   ·rename_i k off
    split at h
    ·rename_i cs cp ek
     have hb:=hs.lb k
     rw[ek] at hb
     obtain⟨cp',ekb,_⟩:=hb.cells
     obtain⟨v,h,hv⟩:=mF h
     exact⟨v,_,_,b,key v (pE (fun n=>by simp only[a6,ekb]) hv),cq.refl _,s,hs,h⟩
    ·cases h
   ·cases h
  ·obtain⟨v,h,hv⟩:=Ay h
   rw[hs.m] at hv
   exact⟨v,_,_,b,key v (hv _),cq.refl _,s,hs,h⟩
 |store n a x xf=>exact FG h hs
 |allocL k zero cp =>
  simp only[IK.den] at h
  split at h
  ·rename_i e
   have hb:=hs.lb k
   rw[e] at hb
   refine⟨_,_,_,{ b with lb:=(k,.cells zero (aV zero cp))::b.lb },?_,cq.refl _,_,hs.box k (BR.refl _),h⟩
   simp only[IK.run,eB,hb.none]
  ·cases h
 |allocG zero cp =>
  simp only[IK.den] at h
  refine⟨_,_,_,{ b with m:=bR b.m (.cells zero (aV zero cp))},?_,cq.refl _,_,?_,h⟩
  ·simp only[IK.run,dP,mem_push,hs.m]
  ·rw[hs.m];exact hs.mem _
 |boxL k n x =>
  simp only[IK.den] at h
  obtain⟨v,_,e2,h⟩:=dk h hs
  obtain⟨_,_,h⟩:=iw h
  obtain⟨⟨n',hr⟩,h⟩:=kJ h
  obtain⟨hl,h⟩:=bX h
  have hl:=i9 hl
  split at h
  ·rename_i e
   have hb:=hs.lb k
   rw[e] at hb
   refine⟨_,_,_,{ b with lb:=(k,.cells v.cells (aV v.cells []))::b.lb },?_,cq.refl _,_,hs.box k (BR.refl _),h⟩
   simp only[IK.run,e2,hr,hl,if_true,eB,hb.none]
  ·cases h
 |boxG n x =>
  simp only[IK.den] at h
  obtain⟨v,_,e2,h⟩:=dk h hs
  obtain⟨_,_,h⟩:=iw h
  obtain⟨⟨n',hr⟩,h⟩:=kJ h
  obtain⟨hl,h⟩:=bX h
  have hl:=i9 hl
  refine⟨_,_,_,{ b with m:=bR b.m (.cells v.cells (aV v.cells []))},?_,cq.refl _,_,?_,h⟩
  ·simp only[IK.run,e2,hr,hl,if_true,dP,mem_push,hs.m]
  ·rw[hs.m];exact hs.mem _
 |buildSlice sz len zero parts args =>
  simp only[IK.den] at h
  obtain⟨l,e,h⟩:=jh h hs
  obtain⟨cs,e2,h⟩:=nx h
  obtain⟨hp,h⟩:=jl h
  refine⟨_,_,_,b,?_,cq.refl _,s,hs,h⟩
  simp only[IK.run,e,e2,hp,if_true]
 |strBytes x =>
  simp only[IK.den] at h
  obtain⟨v,_,e2,h⟩:=dk h hs
  obtain⟨t,e3,h⟩:=vU h
  subst e3
  obtain⟨hl,h⟩:=bX h
  have hl:=of_decide_eq_true hl
  refine⟨_,_,_,b,?_,cq.refl _,s,hs,h⟩
  simp only[IK.run,e2,if_pos hl]
 |makeI sz bytes zero len cap =>
  simp only[IK.den] at h
  obtain⟨v,_,e2,h⟩:=dk h hs
  obtain⟨l,rfl,h1⟩:=nk h
  obtain⟨v,_,e3,h2⟩:=dk h1 hs
  obtain⟨c,rfl,h3⟩:=nk h2
  obtain⟨hg,h⟩:=bX h3
  have hg:=of_decide_eq_true hg
  refine⟨_,_,_,b,?_,cq.refl _,s,hs,h⟩
  simp only[IK.run,e2,e3,if_pos hg]
 |makeB sz bytes zero len cap =>
  simp only[IK.den] at h
  obtain⟨v,_,e2,h⟩:=dk h hs
  obtain⟨l,rfl,h1⟩:=nk h
  obtain⟨v,_,e3,h2⟩:=dk h1 hs
  obtain⟨c,rfl,h3⟩:=nk h2
  obtain⟨hg,h⟩:=bX h3
  have hg:=of_decide_eq_true hg
  refine⟨_,_,_,{ b with m:=bR b.m (.cells (cS zero c.toNat) (aV (cS zero c.toNat) []))},?_,cq.refl _,_,?_,h⟩
  ·simp only[IK.run,e2,e3,if_pos hg,dP,mem_push,hs.m]
  ·rw[hs.m];exact hs.mem _
 |append sz bytes a x=>exact BO h hs
 |copy sz d x =>
  simp only[IK.den] at h
  obtain⟨dv,_,e2,h⟩:=dk h hs
  obtain⟨xv,_,e3,h⟩:=dk h hs
  obtain⟨xs,k,h,hsrc⟩:=qX h
  rw[hs.m] at hsrc
  have hsrc:=hsrc b.lb
  unfold cpC at h
  obtain⟨hl,h⟩:=bX h
  have hl:xs.length=k*sz:=of_decide_eq_true hl
  unfold cpS at h
  cases dv with
  |sB id off n z =>
   simp only at h
   split at h
   ·rename_i st est
    have est':=yb est b hs.m.symm
    refine⟨_,_,_,{ b with m:=st.m,lk:=lkB (· == id) b.lk },?_,cq.refl _,_,(hs.mem st.m).lks (wL hs.lk) (AN hs.uq),h⟩
    simp only[IK.run,e2,e3,hsrc]
    rw[if_neg (by simp[hl]),est']
   ·cases h
  |nilSlice =>
   simp only at h
   refine⟨.int .i64 (0:Nat),.any,.any,b,?_,cq.refl _,{ s with lk:=uY s.lk },hs.lkDrop (l:=uY s.lk) (fun p hp=>(nh hp).1),h⟩
   ·simp only[IK.run,e2,e3,hsrc]
    rw[if_neg (by simp[hl])]
    rfl
  |_=>cases h
 |callF f args hide =>
  simp only[IK.den] at h
  obtain⟨l,e,h⟩:=jh h hs
  have h:=jM h hs
  rw[hs.m] at h
  obtain⟨v,m',e2,h⟩:=oi h
  obtain⟨t,h,ht⟩:=iY h
  refine⟨v,_,_,_,by simp only[IK.run,e];exact e2,cq.refl _,_,(hs.mem m').lks (fun p hp=>Da hs.lk p (ht p hp)) (uP hs.uq),h⟩
 |callV g args hide =>
  simp only[IK.den] at h
  obtain⟨l,e,h⟩:=jh h hs
  obtain⟨gv,_,eg,h⟩:=dk h hs
  have h:=jM h hs
  rw[hs.m] at h
  unfold iU at h
  split at h
  ·obtain⟨v,m',e2,h⟩:=oi h
   refine⟨v,_,_,_,by simp only[IK.run,e,eg];exact e2,cq.refl _,_,(hs.mem m').lks (yg hs.lk) (uP hs.uq),h⟩
  ·obtain⟨v,m',e2,h⟩:=oi h
   refine⟨v,_,_,_,by simp only[IK.run,e,eg];exact e2,cq.refl _,_,(hs.mem m').lks (yg hs.lk) (uP hs.uq),h⟩
  ·cases h
 |mkMap =>
  simp only[IK.den] at h
  refine⟨_,_,_,{ b with m:=bR b.m (.map [])},?_,cq.refl _,_,?_,h⟩
  ·simp only[IK.run,dP,mem_push,hs.m]
  ·rw[hs.m];exact hs.mem _
 |lookup d zero ok a x =>
  simp only[IK.den] at h
  obtain⟨mp,_,e2,h⟩:=dk h hs
  obtain⟨k,_,e3,h⟩:=dk h hs
  unfold LM at h
  rw[hs.m] at h
  split at h
  ·refine⟨_,_,_,b,?_,cq.refl _,s,hs,h⟩
   simp only[IK.run,e2,e3]
   cases ok<;>rfl
  ·split at h
   ·rename_i em
    split at h
    ·rename_i ef
     refine⟨_,_,_,b,?_,cq.refl _,s,hs,h⟩
     simp only[IK.run,e2,e3,em,ef]
     cases ok<;>rfl
    ·rename_i ef
     refine⟨_,_,_,b,?_,cq.refl _,s,hs,h⟩
     simp only[IK.run,e2,e3,em,ef]
     cases ok<;>rfl
    ·cases h
   ·cases h
  ·cases h
 |mapUpd d a x y =>
  simp only[IK.den] at h
  obtain⟨mp,_,e2,h⟩:=dk h hs
  obtain⟨k,_,e3,h⟩:=dk h hs
  obtain⟨v,_,e4,h⟩:=dk h hs
  unfold M3 at h
  rw[hs.m] at h
  split at h
  ·split at h
   ·rename_i em
    split at h
    ·rename_i eu ep
     refine⟨_,_,_,{ b with m:=⟨b.m.bs.set _ _,b.m.esc⟩},?_,cq.refl _,_,hs.mem _,h⟩
     simp only[IK.run,e2,e3,e4,em,eu,ep,Ap]
    ·cases h
   ·cases h
  ·cases h
 |mapLen a =>
  simp only[IK.den] at h
  obtain⟨mp,_,e2,h⟩:=dk h hs
  unfold MQ at h
  rw[hs.m] at h
  split at h
  ·exact⟨_,_,_,b,by simp only[IK.run,e2];rfl,cq.refl _,s,hs,h⟩
  ·split at h
   ·rename_i em
    exact⟨_,_,_,b,by simp only[IK.run,e2,em],cq.refl _,s,hs,h⟩
   ·cases h
  ·cases h
 |rangeStr k x =>
  simp only[IK.den] at h
  obtain⟨v,_,e2,h⟩:=dk h hs
  obtain⟨t,e3,h⟩:=vU h
  subst e3
  split at h
  ·rename_i e
   have hb:=hs.lb k
   rw[e] at hb
   refine⟨_,_,_,{ b with lb:=(k,.iter t 0)::b.lb },?_,cq.refl _,_,hs.box k (BR.refl _),h⟩
   simp only[IK.run,e2,eB,hb.none]
  ·cases h
 |nextStr a =>
  simp only[IK.den] at h
  obtain⟨p,e1,e2,h⟩:=dk h hs
  clear e1
  split at h
  ·rename_i q1 k
   split at h
   ·rename_i q3 t pos e
    have hb:=hs.lb k
    rw[e] at hb
    have hb:=hb.iter
    rcases je h with ⟨hp,h'⟩ | ⟨hp,h'⟩
    ·have hp:=of_decide_eq_true hp
     refine⟨_,_,_,{ b with lb:=(k,.iter t (pos+(Utf8.decode ⟨⟨t⟩⟩ pos).2))::b.lb },?_,cq.refl _,_,hs.box k (BR.refl _),h'⟩
     simp only[IK.run,e2,hb,if_pos hp]
    ·have hp:=of_decide_eq_false hp
     refine⟨_,_,_,b,?_,cq.refl _,s,hs,h'⟩
     simp only[IK.run,e2,hb,if_neg hp]
   ·cases h
  ·cases h
theorem Gu {k:IK}{K:IV→Cap→St→Option R}{r:R}(h:k.den ty call s K=some r) (hs:Sub s b):k.link b.env=k.link s.env:=by
 cases k with
 |load agg n a lk =>
  simp only[IK.den] at h
  obtain⟨p,e1,e2,h⟩:=dk h hs
  cases agg<;>cases lk<;>simp[IK.link,e1,e2]
 |mv x xf lk=>cases x<;>cases xf<;>cases lk<;>rfl
 |buildSlice sz _ _ _ _=>unfold IK.link;by_cases q:sz=1<;>simp[q]
 |_=>rfl
theorem rr {a:Arg}{t:OTag}{X:Option R}{r:R}(h:AO s.env a t X=some r) (hs:Sub s b):aX b.env a t=true∧X=some r:=by
 have hn:∀{v:IV},c7 v X=some r→(match (some v:Option IV) with | some (.pL ..)=>false | _=>true)=true∧X=some r:=by
  intro v h
  obtain⟨h1,h2⟩:=yi h
  refine⟨?_,h2⟩
  cases v<;>first | rfl | cases h1
 cases a with
 |c v =>
  unfold AO at h
  simp only at h
  split at h
  ·split at h
   ·exact⟨rfl,h⟩
   ·cases h
  ·exact hn h
  ·split at h
   ·obtain⟨h1,h2⟩:=bX h
    exact⟨h1,h2⟩
   ·cases h
  ·cases h
 |t i =>
  unfold AO at h
  simp only at h
  split at h
  ·rename_i v c e
   obtain⟨cb,eb,_⟩:=hs.env _ _ _ e
   have er:=fa eb
   split at h
   ·split at h
    ·exact⟨by simp only[aX,er],h⟩
    ·cases h
   ·obtain⟨h1,h2⟩:=hn h
    exact⟨by simp only[aX,er];exact h1,h2⟩
   ·split at h
    ·obtain⟨h1,h2⟩:=bX h
     exact⟨by simp only[aX,er];exact h1,h2⟩
    ·cases h
   ·split at h
    ·rename_i w _ e2
     obtain⟨cb2,eb2,_⟩:=hs.env _ _ _ e2
     obtain⟨id,o,rfl,h⟩:=vN h
     rename_i h0
     obtain⟨id',o',rfl,h⟩:=vN h0
     rename_i h0
     obtain⟨h1,h2⟩:=bX h0
     exact⟨by simp only[aX,er,eb2];exact h1,h2⟩
    ·cases h
   ·cases h
  ·cases h
theorem Ev {i:Nat}{t:OTag}{X:Option R}{r:R}(h:HL s.env s.lk i t X=some r) (hs:Sub s b) (hreq:∀v c,look s.env i=some (v,c)→∀z,c=.own z→z≠0):da b.env b.lk i t=true∧X=some r:=by
 unfold HL at h
 split at h
 ·rename_i v c e
  obtain⟨cb,eb,hcb⟩:=hs.env _ _ _ e
  split at h
  ·rename_i z
   have:=iG hcb (hreq _ _ e z rfl)
   subst this
   refine⟨?_,h⟩
   unfold da
   rw[eb]
   cases v<;>rfl
  ·have:=gM hcb
   subst this
   split at h
   ·rename_i l el
    have elb:=hs.link el
    obtain⟨h1,h2⟩:=bX h
    refine⟨?_,h2⟩
    unfold da
    rw[eb,elb]
    cases v<;>first | rfl | exact h1
   ·split at h
    ·refine⟨?_,h⟩
     unfold da
     rw[eb]
    ·cases h
 ·cases h
theorem lP {d:Nat}:∀{lk:List (Nat×Loc)}{K:List (Nat×Loc)→Option R},mZ d lk K=K (lkSlot d lk)
 |[],K=>rfl
 |(i,l)::r,K=>by
  unfold mZ
  rw[lP]
  simp only[lkSlot]
  cases hi:Nat.beq i d with
  |true=>rw[if_pos (i9 hi)]
  |false =>
   have hi':¬i=d:=fun e=>by subst e;rw[Nat.beq_refl] at hi;cases hi
   rw[if_neg hi']
   cases l with
   |slot j =>
    cases hj:Nat.beq j d with
    |true=>simp only[if_pos (i9 hj),hj]
    |false =>
     have hj':¬j=d:=fun e=>by subst e;rw[Nat.beq_refl] at hj;cases hj
     simp only[if_neg hj',hj]
   |_=>rfl
theorem DO {k:IK}{env:Env}{K:Option Loc→Option R}{r:R}(h:K7 ty env k K=some r):∃l,K l=some r∧(l=none∨l=k.link env):=by
 unfold K7 at h
 split at h
 ·exact⟨_,h,.inr rfl⟩
 ·exact⟨_,h,.inr rfl⟩
 ·exact⟨_,h,.inr rfl⟩
 ·split at h
  ·split at h
   ·rename_i e
    exact⟨_,h,.inr (by simp[IK.link,Arg.rd,e])⟩
   ·cases h
  ·split at h
   ·rename_i e
    exact⟨_,h,.inr (by simp[IK.link,Arg.rd,e])⟩
   ·cases h
  ·split at h
   ·rename_i e
    exact⟨_,h,.inr (by simp[IK.link,Arg.rd,e])⟩
   ·cases h
  ·exact⟨_,h,.inl rfl⟩
 ·exact⟨_,h,.inl rfl⟩
theorem GR {d:Option Nat}{K:St→Option R}{r:R}(h:Lu d s K=some r) (hs:Sub s b):∃b',b.put d (.tup []) .any=some b'∧∃s',Sub s' b'∧K s'=some r:=by
 cases d with
 |none=>exact⟨b,rfl,s,hs,h⟩
 |some d =>
  simp only[Lu,lP] at h
  exact⟨_,put_eq _ _ _ _,_,(hs.set d _ (cq.refl .any)).lkSlot d,h⟩
theorem oK {d:Nat}{lk:List (Nat×Loc)}:∀p∈lkSlot d lk,p.1≠d:=by
 intro p hp
 rw[gj,List.mem_filter] at hp
 exact (yI.1 hp.2).1
theorem EY {g:Option (Nat×Bool)}{A B:St→Option R}{r:R}(h:FY s g A B=some r) (hs:Sub s b) :
  (gate b.env g=some true∧∃s',Sub s' b∧A s'=some r)∨(gate b.env g=some false∧∃s',Sub s' b∧B s'=some r):=by
 unfold FY at h
 split at h
 ·exact .inl ⟨rfl,s,hs,h⟩
 ·rename_i j want
  split at h
  ·rename_i x c e
   obtain⟨cb,eb,_⟩:=hs.env _ _ _ e
   split at h
   ·rcases je h with ⟨rfl,h'⟩ | ⟨rfl,h'⟩
    ·exact .inl ⟨by simp[gate,eb],_,hs.refine e,h'⟩
    ·exact .inr ⟨by simp[gate,eb],_,hs.refine e,h'⟩
   ·rcases je h with ⟨rfl,h'⟩ | ⟨rfl,h'⟩
    ·exact .inr ⟨by simp[gate,eb],_,hs.refine e,h'⟩
    ·exact .inl ⟨by simp[gate,eb],_,hs.refine e,h'⟩
  ·rename_i e
   obtain⟨cb,eb,_⟩:=hs.env _ _ _ e
   exact .inr ⟨by simp[gate,eb],s,hs,h⟩
  ·cases h
def okB (k:IK) (t:OTag) (b:St):Bool:=match k with
 |.load _ _ a _=>aX b.env a t
 |.store _ a _ _=>aX b.env a t
 |.nextStr a=>aX b.env a t
 |.append _ _ (.t i) _=>da b.env b.lk i t
 |_=>false
theorem Lt (k:IK) {t:OTag}(b:St) (ht:t ≠ .none):k.ok t b=okB k t b:=by
 unfold IK.ok okB
 cases t<;>first | exact absurd rfl ht | rfl
theorem KB {k:IK}{t:OTag}{K:IV→Cap→St→Option R}{r:R}(h:okC k t s (k.den ty call s K)=some r) (hs:Sub s b):k.ok t b=true∧k.den ty call s K=some r:=by
 unfold okC at h
 split at h
 ·cases k<;>exact⟨rfl,h⟩
 ·rename_i ht
  have hok:=Lt k (t:=t) b ht
  rw[hok]
  unfold okB
  split at h
  ·obtain⟨h1,h2⟩:=rr h hs;exact⟨h1,h2⟩
  ·obtain⟨h1,h2⟩:=rr h hs;exact⟨h1,h2⟩
  ·obtain⟨h1,h2⟩:=rr h hs;exact⟨h1,h2⟩
  ·rename_i sz bytes i x
   have hden:(IK.append sz bytes (.t i) x).den ty call s K=some r:=by
    unfold HL at h
    split at h
    ·split at h
     ·exact h
     ·split at h
      ·exact (bX h).2
      ·split at h
       ·exact h
       ·cases h
    ·cases h
   obtain⟨h1,h2⟩:=Ev h hs (fun v c e z hc=>by
    subst hc
    simp only[IK.den] at hden
    obtain⟨xv,_,hx,hden⟩:=dk hden hs
    obtain⟨xs,n,hden,hsrc⟩:=qX hden
    obtain⟨hp,hden⟩:=jl hden
    obtain⟨hl,hden⟩:=bX hden
    rw[e] at hden
    simp only at hden
    obtain⟨hz,_⟩:=bX hden
    simp only[Bool.and_eq_true,Bool.not_eq_true'] at hz
    have:=i9 hz.1
    intro q
    subst q
    rw[←this] at hz
    exact absurd hz.2 (by decide))
   exact⟨h1,h2⟩
  ·cases h
theorem Lr {o:IOp}{K:St→Option R}{r:R}(h:o.den ty call s K=some r) (hs:Sub s b):∃b',o.run call b=some b'∧∃s',Sub s' b'∧K s'=some r:=by
 unfold IOp.den at h
 rcases EY h hs with ⟨hg,s1,hs1,h⟩ | ⟨hg,s1,hs1,h⟩
 ·obtain⟨hok,h⟩:=KB h hs1
  have hl:=Gu h hs1
  obtain⟨v,c,c',b1,hrun,hc,s2,hs2,h⟩:=Km h hs1
  have hrun0:∀b2,(match o.dst,o.k.link b.env with
    |some d,some l=>if l=.slot d then some (match o.dst with | none=>b1 | some d=>{ b1 with env:=(d,v,c')::b1.env,lk:=lkSlot d b1.lk }) else some { (match o.dst with | none=>b1 | some d=>{ b1 with env:=(d,v,c')::b1.env,lk:=lkSlot d b1.lk }) with lk:=(d,l)::(match o.dst with | none=>b1 | some d=>{ b1 with env:=(d,v,c')::b1.env,lk:=lkSlot d b1.lk }).lk }
    |_,_=>some (match o.dst with | none=>b1 | some d=>{ b1 with env:=(d,v,c')::b1.env,lk:=lkSlot d b1.lk }))=some b2→o.run call b=some b2:=by
   intro b2 e
   unfold IOp.run
   simp only[hg,hok]
   unfold IOp.run0
   simp only[hg,hrun,put_eq]
   exact e
  unfold LH at h
  cases hd:o.dst with
  |none =>
   rw[hd] at h hrun0
   exact⟨b1,hrun0 b1 (by rfl),s2,hs2,h⟩
  |some d =>
   rw[hd] at h hrun0
   have h:=xC h
   rw[lP] at h
   obtain⟨l0,h,hl0⟩:=DO h
   rw[←hl] at hl0
   cases hk:o.k.link b.env with
   |none =>
    rw[hk] at hl0 hrun0
    have:l0=none:=by rcases hl0 with e | e<;>exact e
    subst this
    exact⟨_,hrun0 _ rfl,_,(hs2.set d v hc).lkSlot d,h⟩
   |some l =>
    rw[hk] at hl0 hrun0
    simp only at h hrun0
    have hbig:∃b2,o.run call b=some b2∧Sub { s2 with env:=(d,v,c)::s2.env,lk:=lkSlot d s2.lk } b2∧(l ≠ .slot d→Sub { s2 with env:=(d,v,c)::s2.env,lk:=(d,l)::lkSlot d s2.lk } b2):=by
     by_cases q:l=.slot d
     ·exact⟨_,hrun0 _ (if_pos q),(hs2.set d v hc).lkSlot d,fun n=>absurd q n⟩
     ·refine⟨_,hrun0 _ (if_neg q),?_,fun _=>?_⟩
      ·refine ((hs2.set d v hc).lkSlot d).lks (l:=lkSlot d s2.lk) (l':=(d,l)::lkSlot d b1.lk) ?_ ?_
       ·intro p hp
        exact List.mem_cons_of_mem _ (lY hs2.lk p hp)
       ·exact mw.2 ⟨lO hs2.uq,oK⟩
      ·refine ((hs2.set d v hc).lkSlot d).lks (l:=(d,l)::lkSlot d s2.lk) (l':=(d,l)::lkSlot d b1.lk) ?_ ?_
       ·intro p hp
        rcases List.mem_cons.1 hp with rfl | hp
        ·exact List.mem_cons_self
        ·exact List.mem_cons_of_mem _ (lY hs2.lk p hp)
       ·exact mw.2 ⟨lO hs2.uq,oK⟩
    obtain⟨b2,hr,hsub1,hsub2⟩:=hbig
    rcases hl0 with rfl | rfl
    ·exact⟨b2,hr,_,hsub1,h⟩
    ·cases l with
     |slot j =>
      simp only at h
      split at h
      ·exact⟨b2,hr,_,hsub1,h⟩
      ·rename_i hj
       exact⟨b2,hr,_,hsub2 (fun e=>by cases e;rw[Nat.beq_refl] at hj;cases hj),h⟩
     |L a c=>exact⟨b2,hr,_,hsub2 (fun e=>by cases e),h⟩
     |B a c=>exact⟨b2,hr,_,hsub2 (fun e=>by cases e),h⟩
     |marked=>exact⟨b2,hr,_,hsub2 (fun e=>by cases e),h⟩
 ·obtain⟨b',e,s',hs',h⟩:=GR h hs1
  refine⟨b',?_,s',hs',h⟩
  unfold IOp.run IOp.run0
  simp only[hg]
  exact e
theorem uE:∀{l:List IOp}{s b:St}{K:St→Option R}{r:R},uX ty call l s K=some r→Sub s b→∃b',aU call l b=some b'∧∃s',Sub s' b'∧K s'=some r
 |[],s,b,K,r,h,hs=>⟨b,rfl,s,hs,h⟩
 |o::l,s,b,K,r,h,hs=>by
  obtain⟨b1,e1,s1,hs1,h⟩:=Lr h hs
  obtain⟨b2,e2,s2,hs2,h⟩:=uE h hs1
  exact⟨b2,by simp only[aU,e1,e2],s2,hs2,h⟩
end Go.Idl
namespace Go.Idl
variable {R:Type}{s b:St}{ty:Tys}{call:bD}
theorem tx {a b:Cap}(h:Aj a b=true):cq a b:=by
 unfold Aj at h
 rw[Bool.or_eq_true] at h
 rcases h with h | h
 ·exact .inl (of_decide_eq_true h)
 ·exact .inr (of_decide_eq_true h)
theorem oX:∀{a b:List Cap},pV a b=true→CapsR a b
 |[],[],_=>.nil
 |a::s,b::t,h=>by
  simp only[pV,Bool.and_eq_true] at h
  exact .cons (tx h.1) (oX h.2)
 |[],_::_,h=>by cases h
 |_::_,[],h=>by cases h
theorem qj:∀{l:List (Nat×Cap)}{env:Env}{K:List IV→Option R}{r:R},sE env l K=some r →
  ∃vs,K vs=some r∧∀{Q:Type}{K':Env→Option Q}{q:Q},GF ty l vs K'=some q→∃e,K' e=some q∧∀i v c,look e i=some (v,c)→∃c',look env i=some (v,c')∧cq c c'
 |[],env,K,r,h=>⟨[],h,fun {Q K' q} h'=>⟨[],(vO h').2,fun i v c e=>by cases e⟩⟩
 |(i,c)::l,env,K,r,h=>by
  unfold sE at h
  split at h
  ·rename_i v c' e
   obtain⟨hg,h⟩:=bX h
   have hc:=tx hg
   obtain⟨vs,h,hz⟩:=qj h
   refine⟨v::vs,h,fun {Q K' q} h'=>?_⟩
   unfold GF at h'
   obtain⟨v2,t,e2,h'⟩:=vt h'
   cases e2
   have h':=xC h'
   obtain⟨e3,h',hl⟩:=hz h'
   refine⟨_,h',fun j w d ej=>?_⟩
   rw[c8] at ej
   split at ej
   ·rename_i q;subst q;cases ej;exact⟨c',e,hc⟩
   ·exact hl j w d ej
  ·cases h
theorem jg:∀{l:List BX}{lb:List (Nat×BObj)}{K:List BObj→Option R}{r:R},i7 lb l K=some r →
  ∃bs,K bs=some r∧∀{Q:Type}{K':List (Nat×BObj)→Option Q}{q:Q},vl l bs K'=some q→∃e,K' e=some q∧(∀k,hasB l k=true→BR (aE e k) (aE lb k))∧∀k,hasB l k=false→aE e k=.none
 |[],lb,K,r,h=>⟨[],h,fun {Q K' q} h'=>by
   have:K' []=some q:=by
    unfold vl dF at h'
    exact h'
   exact⟨[],this,fun k e=>Bool.noConfusion e,fun k _=>rfl⟩⟩
 |.cells k sh cp::l,lb,K,r,h=>by
  unfold i7 at h
  split at h
  ·rename_i cs cp' e
   obtain⟨hg,h⟩:=bX h
   have hc:=oX hg
   obtain⟨bs,h,hz⟩:=jg h
   refine⟨.cells cs cp::bs,h,fun {Q K' q} h'=>?_⟩
   unfold vl at h'
   simp only[unb,asC] at h'
   have h':=qb h'
   obtain⟨e3,h',hl,hn⟩:=hz h'
   refine⟨_,h',fun j hj=>?_,fun j hj=>?_⟩
   ·rw[bK]
    split
    ·rename_i q;subst q;rw[e];exact BR.mk hc
    ·rename_i q
     refine hl j ?_
     simp only[hasB,BX.k,Bool.or_eq_true] at hj
     rcases hj with hj | hj
     ·exact absurd (i9 hj) q
     ·exact hj
   ·simp only[hasB,BX.k,Bool.or_eq_false_iff] at hj
    rw[bK,if_neg (fun q=>by subst q;rw[Nat.beq_refl] at hj;cases hj.1)]
    exact hn j hj.2
  ·cases h
 |.iter k::l,lb,K,r,h=>by
  unfold i7 at h
  split at h
  ·rename_i cs cp' e
   obtain⟨bs,h,hz⟩:=jg h
   refine⟨.iter cs cp'::bs,h,fun {Q K' q} h'=>?_⟩
   unfold vl at h'
   simp only[unb,KZ] at h'
   obtain⟨e3,h',hl,hn⟩:=hz h'
   refine⟨_,h',fun j hj=>?_,fun j hj=>?_⟩
   ·rw[bK]
    split
    ·rename_i q;subst q;rw[e];exact BR.refl _
    ·rename_i q
     refine hl j ?_
     simp only[hasB,BX.k,Bool.or_eq_true] at hj
     rcases hj with hj | hj
     ·exact absurd (i9 hj) q
     ·exact hj
   ·simp only[hasB,BX.k,Bool.or_eq_false_iff] at hj
    rw[bK,if_neg (fun q=>by subst q;rw[Nat.beq_refl] at hj;cases hj.1)]
    exact hn j hj.2
  ·cases h
 |.dead k::l,lb,K,r,h=>by
  unfold i7 at h
  obtain⟨bs,h,hz⟩:=jg h
  refine⟨bs,h,fun {Q K' q} h'=>?_⟩
  unfold vl at h'
  obtain⟨e3,h',hl,hn⟩:=hz h'
  refine⟨_,h',fun j hj=>?_,fun j hj=>?_⟩
  ·rw[bK]
   split
   ·exact .inl rfl
   ·rename_i q
    refine hl j ?_
    simp only[hasB,BX.k,Bool.or_eq_true] at hj
    rcases hj with hj | hj
    ·exact absurd (i9 hj) q
    ·exact hj
  ·simp only[hasB,BX.k,Bool.or_eq_false_iff] at hj
   rw[bK,if_neg (fun q=>by subst q;rw[Nat.beq_refl] at hj;cases hj.1)]
   exact hn j hj.2
theorem xc:∀{lb:List (Nat×BObj)}{bx:List BX},H0 lb bx=true→∀k,hasB bx k=false→aE lb k=.none
 |[],_,_,_,_=>rfl
 |(j,o)::r,bx,h,k,hk=>by
  simp only[H0,Bool.and_eq_true] at h
  rw[bK]
  split
  ·rename_i q;subst q;rw[h.1] at hk;cases hk
  ·exact xc h.2 k hk
theorem ED {a b:Ex}(h:Hd a b=true):a=b:=by
 cases a<;>cases b<;>first | rfl | cases h | (have:=i9 h;subst this;rfl)
theorem F2 {a b:Ex}(h:Hd a b=false):a≠b:=by
 intro e;subst e
 cases a<;>simp[Hd] at h
theorem kE:∀{l:List (Nat×Nat×Nat)}{env:Env}{X:Option R}{r:R},tM env l X=some r→X=some r∧∀i k o,(i,k,o)∈l→look env i=some (.pL k o,.any)
 |[],env,X,r,h=>⟨h,fun i k o hm=>by cases hm⟩
 |(i,k,o)::l,env,X,r,h=>by
  unfold tM at h
  split at h
  ·rename_i e
   obtain⟨hg,h2⟩:=bX h
   rw[Bool.and_eq_true] at hg
   have e1:=i9 hg.1
   have e2:=i9 hg.2
   obtain⟨h3,hl⟩:=kE h2
   rw[e1,e2] at e
   refine⟨h3,fun j k2 o2 hm=>?_⟩
   rcases List.mem_cons.1 hm with q | q
   ·cases q;exact e
   ·exact hl _ _ _ q
  ·cases h
theorem C1 {l:List (Nat×Nat×Nat)}{env:Env}{Q:Type}{X:Option Q}(h:∀i k o,(i,k,o)∈l→look env i=some (.pL k o,.any)):tM env l X=X:=by
 induction l with
 |nil=>rfl
 |cons p l ih =>
  obtain⟨i,k,o⟩:=p
  unfold tM
  rw[h i k o List.mem_cons_self]
  simp only[Nat.beq_refl,Bool.and_self,grd]
  exact ih fun i k o hm=>h i k o (List.mem_cons_of_mem _ hm)
theorem tq:∀{l:List (Nat×Nat×Nat)}{e:Env}{i:Nat}{x:IV×Cap},look (Es l e) i=some x→(∃k o,(i,k,o)∈l∧x=(.pL k o,.any))∨look e i=some x
 |[],e,i,x,h=>.inr h
 |(j,k,o)::l,e,i,x,h=>by
  simp only[Es,c8] at h
  split at h
  ·rename_i q;subst q;cases h;exact .inl ⟨k,o,List.mem_cons_self,rfl⟩
  ·rcases tq h with ⟨k2,o2,hm,e2⟩ | h
   ·exact .inl ⟨k2,o2,List.mem_cons_of_mem _ hm,e2⟩
   ·exact .inr h
theorem ix:∀{xp:XP}{e:Ex}{s:St}{K:LR→Option R}{r:R},jz xp e s K=some r→∃q,jB xp e s=some q∧K q=some r
 |x::xr,e,s,K,r,h=>by
  unfold jz at h
  unfold jB jz
  have h0:jB xr e s=jz xr e s some:=rfl
  split at h
  ·have gen:∀(l:List (Nat×Cap)) (env:Env) (K1:List IV→Option R) (K2:List IV→Option LR) (r:R),(∀vs,K1 vs=some r→∃q,K2 vs=some q∧K q=some r)→sE env l K1=some r→∃q,sE env l K2=some q∧K q=some r:=by
    intro l
    induction l with
    |nil=>intro env K1 K2 r hk h;exact hk _ h
    |cons p l ih =>
     intro env K1 K2 r hk h
     obtain⟨i,c⟩:=p
     unfold sE at h ⊢
     split at h
     ·obtain⟨hg,h⟩:=bX h
      obtain⟨q,h1,h2⟩:=ih _ _ (fun vs=>K2 (_::vs)) _ (fun vs hv=>hk _ hv) h
      refine⟨q,?_,h2⟩
      simp only[hg]
      exact h1
     ·cases h
   have genB:∀(l:List BX) (lb:List (Nat×BObj)) (K1:List BObj→Option R) (K2:List BObj→Option LR) (r:R),(∀vs,K1 vs=some r→∃q,K2 vs=some q∧K q=some r)→i7 lb l K1=some r→∃q,i7 lb l K2=some q∧K q=some r:=by
    intro l
    induction l with
    |nil=>intro env K1 K2 r hk h;exact hk _ h
    |cons p l ih =>
     intro lb K1 K2 r hk h
     cases p with
     |cells k sh cp =>
      unfold i7 at h ⊢
      split at h
      ·obtain⟨hg,h⟩:=bX h
       obtain⟨q,h1,h2⟩:=ih _ _ (fun vs=>K2 (_::vs)) _ (fun vs hv=>hk _ hv) h
       refine⟨q,?_,h2⟩
       simp only[hg]
       exact h1
      ·cases h
     |iter k =>
      unfold i7 at h ⊢
      split at h
      ·obtain⟨q,h1,h2⟩:=ih _ _ (fun vs=>K2 (_::vs)) _ (fun vs hv=>hk _ hv) h
       exact⟨q,h1,h2⟩
      ·cases h
     |dead k =>
      unfold i7 at h ⊢
      exact ih _ _ K2 _ hk h
   obtain⟨h,hown⟩:=kE h
   rw[C1 hown]
   exact gen _ _ _ _ _ (fun vs hv=>genB _ _ _ _ _ (fun bs hb=>by
    obtain⟨hg,hb⟩:=bX hb
    exact⟨_,by rw[hg];rfl,hb⟩) hv) h
  ·exact ix h
theorem xZ:∀{xp:XP}{e:Ex}{s:St}{ex:Ex}{vs:List IV}{bs:List BObj}{m:IM},jB xp e s=some (ex,vs,bs,m)→ex=e
 |x::r,e,s,ex,vs,bs,m,h=>by
  unfold jB jz at h
  split at h
  ·obtain⟨h,_⟩:=kE h
   obtain⟨vs',h,_⟩:=qj (ty:=[]) h
   obtain⟨bs',h,_⟩:=jg h
   obtain⟨_,h⟩:=bX h
   cases h;rfl
  ·exact xZ h
theorem lE:∀{xp:XP}{e:Ex}{s b:St}{ex:Ex}{vs:List IV}{bs:List BObj}{m:IM}{K:Ex→St→Option R}{r:R},jB xp e s=some (ex,vs,bs,m)→xT ty xp ex vs bs m K=some r→Sub s b→∃s',Sub s' b∧K e s'=some r
 |x::xr,e,s,b,ex,vs,bs,m,K,r,h,h2,hs=>by
  have he:=xZ h
  unfold jB jz at h
  unfold xT at h2
  split at h
  ·rename_i hx
   have hx:=ED hx
   obtain⟨h,hown⟩:=kE h
   obtain⟨vs',h,hzs⟩:=qj (ty:=ty) h
   obtain⟨bs',h,hzb⟩:=jg h
   obtain⟨ha,h⟩:=bX h
   cases h
   rcases Ai h2 with ⟨_,h2⟩ | ⟨hne,_⟩
   ·obtain⟨env,h2,henv⟩:=hzs h2
    obtain⟨lb,h2,hlb1,hlb2⟩:=hzb h2
    rw[←hx] at h2
    refine⟨{ env:=Es x.own env,lk:=[],lb:=lb,m:=s.m },⟨fun i v c el=>?_,fun p hp=>absurd hp List.not_mem_nil,hs.uq,fun k=>?_,hs.m⟩,h2⟩
    ·obtain⟨c1,e1,hc1⟩:∃c',look s.env i=some (v,c')∧cq c c':=by
      rcases tq el with ⟨k,o,hm,e2⟩ | el
      ·cases e2;exact⟨_,hown _ _ _ hm,cq.refl _⟩
      ·exact henv i v c el
     obtain⟨c2,e2,hc2⟩:=hs.env _ _ _ e1
     exact⟨c2,e2,hc1.trans hc2⟩
    ·cases hk:hasB x.boxes k with
     |true=>exact (hlb1 k hk).trans (hs.lb k)
     |false =>
      show BR (aE lb k) _
      rw[hlb2 k hk]
      have:=xc ha k hk
      have hb:=hs.lb k
      rw[this] at hb
      exact hb
   ·exact absurd hx hne
  ·rename_i hx
   have hx:=F2 hx
   rcases Ai h2 with ⟨q,_⟩ | ⟨_,h2⟩
   ·exact absurd (he▸q) hx
   ·exact lE h h2 hs
def Ij (v:IV) (keepL:List Nat):Bool:=match v with
 |.pL k _=>keepL.contains k
 |_=>true
theorem AU {sh:Sh}{v:IV}{keepL:List Nat}{X:Option R}{r:R}(h:Ct sh v keepL X=some r):Ij v keepL=true∧X=some r:=by
 unfold Ct at h
 split at h
 ·obtain⟨h1,h2⟩:=yi h
  refine⟨?_,h2⟩
  cases v<;>first | rfl | cases h1
 ·unfold e9 at h
  split at h
  ·exact bX h
  ·rename_i hn
   refine⟨?_,h⟩
   cases v<;>first | rfl | exact (hn _ _ rfl).elim
theorem qI {e e2:Env}{keepL:List Nat}{i o:Nat}{l:List (Nat×Nat)}{v:IV}{c:Cap}(h1:look e i=some (v,c)) (h2:dj e keepL l=some e2) (hk:Ij v keepL=true) :
  dj e keepL ((i,o)::l)=some ((i,v,match o with | 0=>.any | sz+1=>cI c v sz)::e2):=by
 simp only[dj,h1,h2]
 have fin:∀sz,(match cI c v sz with | .own s=>some ((i,v,Cap.own s)::e2) | .any=>some ((i,v,Cap.any)::e2))=some ((i,v,cI c v sz)::e2):=by
  intro sz
  cases cI c v sz<;>rfl
 cases v with
 |pL k off =>
  have hk:keepL.contains k=true:=hk
  simp only[hk]
  cases o with
  |zero=>rfl
  |succ sz=>exact fin sz
 |_=>cases o with
  |zero=>rfl
  |succ sz=>exact fin sz
theorem jC:∀{l:List (Nat×Nat)}{keepL:List Nat}{K:Env→Option R}{r:R},nB ty s.env keepL l K=some r→Sub s b→∃e,dj b.env keepL l=some e∧K e=some r
 |[],keepL,K,r,h,_=>⟨[],rfl,h⟩
 |(i,o)::l,keepL,K,r,h,hs=>by
  unfold nB at h
  split at h
  ·rename_i v c e
   obtain⟨cb,eb,hcb⟩:=hs.env _ _ _ e
   obtain⟨hk,h⟩:=AU h
   cases o with
   |zero =>
    simp only at h
    obtain⟨e2,h2,h⟩:=jC h hs
    exact⟨_,qI eb h2 hk,h⟩
   |succ sz =>
    simp only at h
    split at h
    ·obtain⟨hz,h⟩:=bX h
     have hcz:=iG hcb (fun q=>by subst q;cases hz)
     subst hcz
     obtain⟨e2,h2,h⟩:=jC h hs
     exact⟨_,qI eb h2 hk,h⟩
    ·have hc:=gM hcb
     subst hc
     obtain⟨hv,h⟩:=xH h
     subst hv
     obtain⟨e2,h2,h⟩:=jC h hs
     exact⟨_,qI eb h2 hk,h⟩
  ·cases h
theorem km:∀{own:List (Nat×Nat×Nat)}{k:Nat}{cs:List IV}{cp cp':List Cap}{K:List Cap→Option R}{r:R},tg k cs own cp K=some r→CapsR cp cp'→∃cp1,K cp1=some r∧CapsR cp1 (dn k cs own cp')
 |[],k,cs,cp,cp',K,r,h,hc=>⟨cp,h,hc⟩
 |(k',o,sz)::own,k,cs,cp,cp',K,r,h,hc=>by
  unfold tg at h
  unfold dn
  split at h
  ·rename_i hk
   rw[if_pos (i9 hk)]
   have hg:=hc.getD o
   split at h
   ·rename_i z ez
    rw[ez] at hg
    obtain⟨hz,h⟩:=bX h
    have hcz:=iG hg (fun q=>by subst q;cases hz)
    refine km h ?_
    rw[hcz]
    exact hc.set o (cq.refl _)
   ·rename_i ez
    rw[ez] at hg
    have hcz:=gM hg
    obtain⟨en,h⟩:=xH h
    refine km h ?_
    rw[hcz,en]
    exact hc.set o (cq.refl _)
  ·rename_i hk
   rw[if_neg (fun q=>by subst q;rw[Nat.beq_refl] at hk;cases hk)]
   exact km h hc
theorem jr:∀{l:List Nat}{own:List (Nat×Nat×Nat)}{K:List (Nat×BObj)→Option R}{r:R},nz s.lb own l K=some r→Sub s b→∃lb1 lb2,K lb1=some r∧dh b.lb own l=some lb2∧∀k,BR (aE lb1 k) (aE lb2 k)
 |[],own,K,r,h,_=>⟨[],[],h,rfl,fun k=>BR.refl _⟩
 |k::l,own,K,r,h,hs=>by
  unfold nz at h
  have hb:=hs.lb k
  split at h
  ·rename_i cs cp e
   rw[e] at hb
   obtain⟨cp',eb,hc⟩:=hb.cells
   obtain⟨cp1,h,hc1⟩:=km (own:=own) h hc
   obtain⟨lb1,lb2,h,h2,hl⟩:=jr h hs
   refine⟨_,(k,.cells cs (dn k cs own cp'))::lb2,h,?_,?_⟩
   ·simp only[dh,h2,eb,ay]
   ·intro j
    simp only[bK]
    split
    ·exact BR.mk hc1
    ·exact hl j
  ·rename_i t p e
   rw[e] at hb
   have eb:=hb.iter
   obtain⟨lb1,lb2,h,h2,hl⟩:=jr h hs
   refine⟨_,(k,.iter t p)::lb2,h,?_,?_⟩
   ·simp only[dh,h2,eb]
   ·intro j
    simp only[bK]
    split
    ·exact BR.refl _
    ·exact hl j
  ·rename_i e
   rw[e] at hb
   have eb:=hb.none
   obtain⟨lb1,lb2,h,h2,hl⟩:=jr h hs
   refine⟨_,lb2,h,?_,hl⟩
   simp only[dh,h2,eb]
  ·cases h
theorem nF {h:Head}{K:St→Option R}{r:R}(hh:zM ty s h K=some r) (hs:Sub s b):∃b2,b.head h=some b2∧∃s2,Sub s2 b2∧K s2=some r:=by
 unfold zM at hh
 obtain⟨e,h1,hh⟩:=jC hh hs
 obtain⟨lb1,lb2,hh,h2,hl⟩:=jr hh hs
 refine⟨_,by simp only[St.head,h1,h2];rfl,_,?_,hh⟩
 exact⟨fun i v c el=>⟨c,el,cq.refl _⟩,fun p hp=>absurd hp List.not_mem_nil,rfl,hl,hs.m⟩
variable {tab:Tab}{ae:qG}
theorem uc {x:Option LR}{K:Ex→List IV→List BObj→IM→Option R}{r:R}(h:cK x K=some r):∃ex vs bs m,x=some (ex,vs,bs,m)∧K ex vs bs m=some r:=by
 unfold cK at h
 split at h
 ·exact⟨_,_,_,_,rfl,h⟩
 ·cases h
theorem fF:∀(c:ICode) {R:Type}{pl:Pl}{s b:St}{K:Ex→St→Option R}{r:R},c.den ty (dT tab ae) R pl s K=some r→Sub s b →
  ∃e b',c.run (dT tab ae) (eY tab ae) b=some (e,b')∧∃s',Sub s' b'∧K e s'=some r
 |.skip,R,pl,s,b,K,r,h,hs=>⟨_,b,rfl,s,hs,h⟩
 |.ops l,R,pl,s,b,K,r,h,hs=>by
  obtain⟨b1,e1,s1,hs1,h⟩:=uE (K:=fun st=>K .normal st) h hs
  exact⟨_,b1,by simp only[ICode.run,e1],s1,hs1,h⟩
 |.draw l _,R,pl,s,b,K,r,h,hs=>by
  obtain⟨b1,e1,s1,hs1,h⟩:=uE (K:=fun st=>K .normal st) h hs
  exact⟨_,b1,by simp only[ICode.run,e1,hs.uq],s1,hs1,h⟩
 |.seq a c,R,pl,s,b,K,r,h,hs=>by
  have key:∀{s b:St},Sub s b→∀{e:Ex}{b0:St},a.run (dT tab ae) (eY tab ae) b0=some (e,b)→(match e with | .normal=>c.den ty (dT tab ae) R pl.b s K | e=>K e s)=some r →
    ∃e b',(ICode.seq a c).run (dT tab ae) (eY tab ae) b0=some (e,b')∧∃s',Sub s' b'∧K e s'=some r:=by
   intro s b hs e b0 hr hk
   cases e with
   |normal =>
    obtain⟨e2,b2,h2,s2,hs2,hk⟩:=fF c hk hs
    exact⟨e2,b2,by simp only[ICode.run,hr,h2],s2,hs2,hk⟩
   |exit i=>exact⟨_,b,by simp only[ICode.run,hr],s,hs,hk⟩
   |ret=>exact⟨_,b,by simp only[ICode.run,hr],s,hs,hk⟩
  simp only[ICode.den] at h
  split at h
  ·obtain⟨ex,vs,bs,m,hx,h⟩:=uc h
   obtain⟨e,b1,hr,s1,hs1,hc⟩:=fF a hx hs
   obtain⟨s2,hs2,h⟩:=lE hc h hs1
   exact key hs2 hr h
  ·obtain⟨e,b1,hr,s1,hs1,h⟩:=fF a h hs
   exact key hs1 hr h
 |.cond d a c,R,pl,s,b,K,r,h,hs=>by
  simp only[ICode.den] at h
  split at h
  ·rename_i j
   split at h
   ·rename_i x cc e
    obtain⟨cb,eb,_⟩:=hs.env _ _ _ e
    rcases je h with ⟨q,h⟩ | ⟨q,h⟩
    ·subst q
     obtain⟨e2,b2,hr,s2,hs2,h⟩:=fF a h (hs.refine e)
     exact⟨e2,b2,by simp only[ICode.run,fa eb,hr],s2,hs2,h⟩
    ·subst q
     obtain⟨e2,b2,hr,s2,hs2,h⟩:=fF c h (hs.refine e)
     exact⟨e2,b2,by simp only[ICode.run,fa eb,hr],s2,hs2,h⟩
   ·cases h
  ·split at h
   ·obtain⟨e2,b2,hr,s2,hs2,h⟩:=fF a h hs
    exact⟨e2,b2,by simp only[ICode.run,Arg.rd,hr],s2,hs2,h⟩
   ·obtain⟨e2,b2,hr,s2,hs2,h⟩:=fF c h hs
    exact⟨e2,b2,by simp only[ICode.run,Arg.rd,hr],s2,hs2,h⟩
   ·cases h
 |.block id c,R,pl,s,b,K,r,h,hs=>by
  simp only[ICode.den] at h
  obtain⟨e,b1,hr,s1,hs1,h⟩:=fF c h hs
  cases e with
  |normal=>exact⟨_,b1,by simp only[ICode.run,hr],s1,hs1,h⟩
  |ret=>exact⟨_,b1,by simp only[ICode.run,hr],s1,hs1,h⟩
  |exit i =>
   simp only at h
   split at h
   ·rename_i q
    have q:=i9 q
    exact⟨_,b1,by simp only[ICode.run,hr,if_pos q],s1,hs1,h⟩
   ·rename_i q
    have q:i≠id:=fun e=>by subst e;rw[Nat.beq_refl] at q;cases q
    exact⟨_,b1,by simp only[ICode.run,hr,if_neg q],s1,hs1,h⟩
 |.loop hd c,R,pl,s,b,K,r,h,hs=>by
  simp only[ICode.den] at h
  split at h
  ·rename_i xp _
   obtain⟨b2,hb2,s2,hs2,h⟩:=nF h hs
   obtain⟨ex,vs,bs,m,hx,h⟩:=uc h
   have main:=iter.partial_correctness (fun s=>c.den ty (dT tab ae) (St⊕LR) pl.a s (fQ ty hd xp))
    (fun a q=>∀b,Sub a b→∃e b',lc tab ae hd c (some b)=some (e,b')∧∃s',Sub s' b'∧jB xp e s'=some q) (by
     intro it ih a q hq b hs
     split at hq
     ·rename_i a' ha
      obtain⟨e,b1,hr,s1,hs1,hk⟩:=fF c ha hs
      cases e with
      |normal =>
       unfold fQ at hk
       obtain⟨b3,hb3,s3,hs3,hk⟩:=nF hk hs1
       cases hk
       obtain⟨e4,b4,hl,s4,hs4,hc⟩:=ih _ _ hq _ hs3
       refine⟨e4,b4,?_,s4,hs4,hc⟩
       rw[bn,hr]
       simp only[hb3]
       exact hl
      |exit i=>simp only[fQ] at hk;obtain⟨q,_,hk⟩:=ix hk;cases hk
      |ret=>simp only[fQ] at hk;obtain⟨q,_,hk⟩:=ix hk;cases hk
     ·rename_i q' ha
      cases hq
      obtain⟨e,b1,hr,s1,hs1,hk⟩:=fF c ha hs
      cases e with
      |normal =>
       unfold fQ at hk
       obtain⟨b3,hb3,s3,hs3,hk⟩:=nF hk hs1
       cases hk
      |exit i =>
       simp only[fQ] at hk
       obtain⟨q,hc,hk⟩:=ix hk
       cases hk
       exact⟨_,b1,by rw[bn,hr],s1,hs1,hc⟩
      |ret =>
       simp only[fQ] at hk
       obtain⟨q,hc,hk⟩:=ix hk
       cases hk
       exact⟨_,b1,by rw[bn,hr],s1,hs1,hc⟩
     ·cases hq) s2 _ hx b2 hs2
   obtain⟨e,b3,hl,s3,hs3,hc⟩:=main
   obtain⟨s4,hs4,h⟩:=lE hc h hs3
   refine⟨e,b3,?_,s4,hs4,h⟩
   show eY tab ae hd c b=_
   rw[bE,hb2]
   exact hl
  ·cases h
 |.rangeF _ _ _,R,pl,s,b,K,r,h,hs=>by simp only[ICode.den] at h;cases h
 |.exit id,R,pl,s,b,K,r,h,hs=>⟨_,b,rfl,s,hs,h⟩
 |.ret,R,pl,s,b,K,r,h,hs=>⟨_,b,rfl,s,hs,h⟩
theorem kr:∀{l:List RV}{K:List IV→Option R}{r:R},oS s l K=some r→Sub s b→∃vs,bV b l=some vs∧K vs=some r
 |[],K,r,h,_=>⟨[],rfl,h⟩
 |.t i::l,K,r,h,hs=>by
  unfold oS at h
  split at h
  ·rename_i v c e
   obtain⟨cb,eb,_⟩:=hs.env _ _ _ e
   obtain⟨vs,e2,h⟩:=kr h hs
   exact⟨_,by simp only[bV,e2,cN,eb],h⟩
  ·cases h
 |.cell i agg n::l,K,r,h,hs=>by
  unfold oS at h
  split at h
  ·rename_i k off c e
   obtain⟨cb,eb,_⟩:=hs.env _ _ _ e
   split at h
   ·rename_i cs cp ek
    have hb:=hs.lb k
    rw[ek] at hb
    obtain⟨cp',ekb,_⟩:=hb.cells
    obtain⟨v,h,hv⟩:=mF h
    obtain⟨vs,e2,h⟩:=kr h hs
    have:=pE (lb:=b.lb) (m:=b.m) (p:=.pL k off) (n:=n) (fun n=>by simp only[a6,ekb]) hv
    exact⟨_,by simp only[bV,e2,cN,eb,this],h⟩
   ·cases h
  ·rename_i p c hn e
   obtain⟨cb,eb,_⟩:=hs.env _ _ _ e
   obtain⟨v,h,hv⟩:=Ay h
   obtain⟨vs,e2,h⟩:=kr h hs
   rw[hs.m] at hv
   exact⟨_,by simp only[bV,e2,cN,eb,hv b.lb],h⟩
  ·cases h
theorem bb {f:FuncId}{fn:IFn}(hp:ae f=none) (hf:tab.fns f=some fn) {pl:Pl}{args:List IV}{m:IM}{r:IV×IM}(h:eS ty pl fn (dT tab ae) args m=some r):dT tab ae (.f f) args m=some r:=by
 rw[bY hp hf]
 unfold eS at h
 split at h
 ·rename_i hn
  have hn:=i9 hn
  obtain⟨e,b1,hr,s1,hs1,h⟩:=fF fn.body h (b:={ env:=cM 0 args,lk:=[],lb:=[],m:=m }) ⟨fun i v c el=>⟨c,el,cq.refl _⟩,fun p hp=>absurd hp List.not_mem_nil,rfl,fun k=>BR.refl _,rfl⟩
  unfold IFn.call
  rw[if_neg (by simp[hn]),hr]
  have hrets:∀{X:Option (IV×IM)},(oS s1 fn.rets fun vs=>JB m s1.m vs)=some r→(match bV b1 fn.rets with
   |some [v]=>settle m b1.m v
   |some vs=>settle m b1.m (.tup vs)
   |none=>none)=some r:=by
   intro X hx
   obtain⟨vs,e2,hx⟩:=kr hx hs1
   rw[e2]
   unfold JB at hx
   rw[hs1.m] at hx
   match vs,hx with
   |[v],hx=>exact hx
   |[],hx=>exact hx
   |_::_::_,hx=>exact hx
  cases e with
  |exit i=>cases h
  |normal=>simp only;rw[if_pos (.inl trivial)];exact hrets (X:=none) h
  |ret=>simp only;rw[if_pos (.inr trivial)];exact hrets (X:=none) h
 ·cases h
end Go.Idl
namespace Go.Idl
noncomputable def nxt {α β:Type}(f:α→Option (α⊕β)) (x:Option (α⊕β)):Option β:=match x with
 |some (.inl a)=>iter f a
 |some (.inr b)=>some b
 |none=>none
theorem cU {α β:Type}(f:α→Option (α⊕β)) (a:α):iter f a=nxt f (f a):=iter.eq_1 f a
end Go.Idl
namespace Go.Idl
variable {R:Type}
theorem aZ (b:Bool) (x y:Option R):bQ b x y=if b=true then x else y:=by cases b<;>rfl
theorem bF (b:Bool) (x:Option R):grd b x=if b=true then x else none:=by cases b<;>rfl
theorem bW (k:IntKind) (n:Int) (K:Int→Option R):asI k (.int k n) K=K n:=by simp[asI,grd]
theorem bT (b:Bool) (K:Bool→Option R):asB (.bool b) K=K b:=rfl
theorem cA (s:List UInt8) (K:List UInt8→Option R):asS (.str s) K=K s:=rfl
theorem cC (s:List IV) (K:List IV→Option R):asA (.agg s) K=K s:=rfl
theorem cf (s:List IV) (K:List IV→Option R):asT (.tup s) K=K s:=rfl
theorem ct (i o:Nat) (K:Nat→Nat→Option R):asP (.pB i o) K=K i o:=rfl
theorem bp (i:Nat) (K:Nat→Option R):i6 (.pB i 0) K=K i:=rfl
theorem aO (v:IV) (t:List IV) (K:IV→List IV→Option R):unc (v::t) K=K v t:=rfl
theorem bk (K:Option R):unn [] K=K:=rfl
theorem aS (v:BObj) (t:List BObj) (K:BObj→List BObj→Option R):unb (v::t) K=K v t:=rfl
theorem aQ (K:Option R):dF [] K=K:=rfl
theorem cr (cs:List IV) (cp:List Cap) (K:List IV→Option R):asC (.cells cs cp) K=K cs:=rfl
theorem bq (s:List UInt8) (p:Nat) (K:List UInt8→Nat→Option R):KZ (.iter s p) K=K s p:=rfl
theorem aK (X:Option R):Dr .nilSlice X=X:=rfl
theorem cD (e ex:Ex) (A B:Option R):exC e ex A B=if ex=e then A else B:=by
 unfold exC
 by_cases h:ex=e
 ·rw[decide_eq_true h,if_pos h]
 ·rw[decide_eq_false h,if_neg h]
theorem aJ (ex:Ex) (vs:List IV) (bs:List BObj) (m:IM) (K:Ex→List IV→List BObj→IM→Option R):cK (some (ex,vs,bs,m)) K=K ex vs bs m:=rfl
theorem aA (K:Ex→List IV→List BObj→IM→Option R):cK none K=none:=rfl
theorem av {o:POp}{vs:List IV}{v:IV}(h:o.ev vs=some v) (K:IV→Option R):evC o vs K=K v:=by simp[evC,h]
theorem AH {v:IV}{n:Nat}(h:v.refs=some n) (X:Option R):c7 v X=X:=by
 unfold c7
 cases v<;>first | rfl | (simp[IV.refs,IV.plain] at h)
theorem ah {v:IV}{n:Nat}(h:v.refs=some n) (X:Option R):dm v X=X:=by simp[dm,h]
theorem aF (X:Option R):pn [] X=X:=rfl
theorem az (v:IV) (r:List IV) (X:Option R):pn (v::r) X=dm v (pn r X):=rfl
theorem aB (X:Option R):eN [] X=X:=rfl
theorem aj (v:IV) (r:List IV) (X:Option R):eN (v::r) X=vd v (eN r X):=rfl
theorem uA {v:IV}(h:v.plain=true) (X:Option R):vd v X=X:=by simp[vd,h]
theorem eC {l:List IV}(h:l.all IV.plain=true) (X:Option R):eN l X=X:=by
 induction l with
 |nil=>rfl
 |cons v r ih =>
  rw[List.all_cons,Bool.and_eq_true] at h
  rw[aj,uA h.1,ih h.2]
theorem dw {m:IM}{id:Nat}{cs:List IV}{cp:List Cap}(h:m.get id=.cells cs cp) (K:List IV→List Cap→Option R):dK m id K=K cs cp:=by simp[dK,h]
theorem a8 {cs:List IV}{off n:Nat}{v:IV}(h:cs[off]?=some v) (K:IV→Option R):dg false cs off n K=K v:=by simp[dg,h]
theorem gm {cs:List IV}{off n:Nat}{r:List IV}(h:cut cs off n=some r) (K:IV→Option R):dg true cs off n K=K (.agg r):=by simp[dg,h]
theorem cG (m:IM) (agg:Bool) (n off:Nat) (row:List IV) (K:IV→Option R):ldP m agg n (.pI row off) K=dg agg row off n K:=rfl
theorem bZ (m:IM) (agg:Bool) (n id off:Nat) (K:IV→Option R):ldP m agg n (.pB id off) K=dK m id fun cs _=>dg agg cs off n K:=rfl
theorem bh {α β:Type}(f:α→Option (α⊕β)) (a:α):nxt f (some (.inl a))=iter f a:=rfl
theorem bf {α β:Type}(f:α→Option (α⊕β)) (b:β):nxt f (some (.inr b))=some b:=rfl
theorem ck {α β:Type}(f:α→Option (α⊕β)) (c:Prop) [Decidable c] (x y:Option (α⊕β)):nxt f (if c then x else y)=if c then nxt f x else nxt f y:=by split<;>rfl
def tyG (l:List (Sh×List Nat)):Tys:=l.flatMap fun p=>p.2.map fun i=>(i,p.1)
noncomputable def uV (l:List IV) (K:Int→List UInt8→IV→IV→List IV→Option R):Option R:=unc l fun v l=>asI .i64 v fun n=>unc l fun v l=>asS v fun s=>unc l fun v l=>unc l fun w l=>K n s v w l
noncomputable def uI (k:IntKind) (l:List IV) (K:Int→List IV→Option R):Option R:=unc l fun v l=>asI k v fun n=>K n l
theorem bB (n:Int) (s:List UInt8) (v w:IV) (l:List IV) (K:Int→List UInt8→IV→IV→List IV→Option R):uV (.int .i64 n :: .str s::v::w::l) K=K n s v w l:=by simp[uV,unc,asS,asI,grd]
theorem bA (k:IntKind) (n:Int) (l:List IV) (K:Int→List IV→Option R):uI k (.int k n::l) K=K n l:=by simp[uI,unc,asI,grd]
@[reducible] noncomputable def gI (m:IM) (r off:Nat) (K:Int→Option R):Option R:=dK m r fun l _=>dg false l off 1 fun v=>asI .i64 v K
@[reducible] noncomputable def gS (m:IM) (r off:Nat) (K:List UInt8→Option R):Option R:=dK m r fun l _=>dg false l off 1 fun v=>asS v K
def bP (m:IM) (id:Nat) (o:BObj):IM:=⟨m.bs.set id o,m.esc⟩
theorem iI {m:IM}{id:Nat}{cs:List IV}{cp:List Cap}(h:m.get id=.cells cs cp):id<m.size:=by
 rcases Nat.lt_or_ge id m.size with q | q
 ·exact q
 ·rw[IM.get,List.getD_eq_getElem?_getD,List.getElem?_eq_none q] at h;cases h
theorem fZ {m:IM}{id:Nat}(h:id<m.size) (o:BObj):(bP m id o).get id=o:=by
 have h':id<m.bs.length:=h
 simp[bP,IM.get,List.getD_eq_getElem?_getD,h']
theorem wk {m:IM}{id j:Nat}(h:j≠id) (o:BObj):(bP m id o).get j=m.get j:=by
 have h':¬id=j:=fun e=>h e.symm
 simp[bP,IM.get,List.getD_eq_getElem?_getD,List.getElem?_set,h']
theorem bC (m:IM) (id:Nat) (o o':BObj):bP (bP m id o) id o'=bP m id o':=by simp[bP]
theorem Bj (m:IM) (id:Nat) (o:BObj):(bP m id o).size=m.size:=by simp[bP,IM.size]
theorem F0 (m:IM) (id:Nat) (o:BObj):(bP m id o).esc=m.esc:=rfl
theorem gC {m:IM}{id:Nat}{o:BObj}(h:m.get id=o) (hl:id<m.size):bP m id o=m:=by
 have hl':id<m.bs.length:=hl
 have:m.bs[id]=o:=by
  rw[←h,IM.get,List.getD_eq_getElem?_getD,List.getElem?_eq_getElem hl']
  rfl
 rw[bP,←this,List.set_getElem_self]
theorem gJ {m:IM}{id off:Nat}{vs:List IV}{c:Cap}{cs:List IV}{cp:List Cap}{r:Nat}(h:m.get id=.cells cs cp) (hr:al vs=some r) (hle:r≤id) (hf:off+vs.length≤cs.length) (K:IM→Option R) :
  stP m (.pB id off) vs c K=K (bP m id (.cells (over cs off vs) (aH cp off vs.length c))):=by
 unfold stP
 simp only[tQ,ne_eq,not_true,if_false,h,hr,if_pos hf,if_pos hle]
 rfl
theorem oY {m m':IM}{v:IV}(hv:v.refsDeep=some 0) (hs:m'.size=m.size) (he:m'.esc=m.esc):settle m m' v=some (v,m'):=by
 unfold settle
 have:m'.bs.take m.size=m'.bs:=List.take_of_length_le (by rw[IM.size] at hs;omega)
 simp only[hv,ay,he,this,if_true,Nat.zero_le]
 rw[←he]
theorem an {m:IM}{v:IV}(hv:v.refsDeep=some 0):settle m m v=some (v,m):=oY hv rfl rfl
theorem af {m:IM}{v:IV}{id:Nat}{o:BObj}(hv:v.refsDeep=some 0):settle m (bP m id o) v=some (v,bP m id o):=oY hv (Bj _ _ _) (F0 _ _ _)
theorem f9 (m:IM) (o:BObj):(bR m o).size=m.size+1:=by simp[bR,IM.size]
theorem eD (m:IM) (o:BObj):(bR m o).get m.size=o:=by simp[bR,IM.get,IM.size,List.getD_eq_getElem?_getD]
theorem eO {m:IM}{id:Nat}(h:id<m.size) (o:BObj):(bR m o).get id=m.get id:=by
 have h':id<m.bs.length:=h
 simp[bR,IM.get,List.getD_eq_getElem?_getD,List.getElem?_append_left h']
theorem eH (m:IM) (o o':BObj):bP (bR m o) m.size o'=bR m o':=by simp[bP,bR,IM.size]
theorem iK {m:IM}{v:IV}{o:BObj}(hv:v.refsDeep=some 0):settle m (bR m o) v=some (v,m):=by
 unfold settle
 simp[hv,ay,bR,IM.size]
theorem Fk {call:bD}{c:Callee}{vs:List IV}{m m':IM}{v:IV}(h:call c vs m=some (v,m')) (hr:(al (vs.flatMap IV.cells)).isSome=true) (K:IV→IM→Option R):bc call c vs [] m K=K v m':=by
 obtain⟨n,hn⟩:=Option.isSome_iff_exists.1 hr
 simp[bc,hn,de,h,bG]
theorem aT:(al []).isSome=true:=id rfl
theorem aw (v:IV) (r:List IV):(al (v::r)).isSome=(v.refs.isSome&&(al r).isSome):=by
 simp only[al]
 cases v.refs<;>cases al r<;>rfl
theorem aP (k:IntKind) (n:Int):(IV.int k n).refs=some 0:=id rfl
theorem aG (n:Bool):(IV.bool n).refs=some 0:=id rfl
theorem aM (n:List UInt8):(IV.str n).refs=some 0:=id rfl
theorem aN:IV.nilSlice.refs=some 0:=id rfl
theorem bj (r:List IV) (n:Nat):(IV.sl r n).refs=some 0:=id rfl
theorem cX (i o:Nat):(IV.pB i o).refs=some (i+1):=id rfl
theorem cW (f:FuncId):(IV.func f [] []).refs=some 0:=id rfl
theorem bI (k:IntKind) (n:Int):(IV.int k n).cells=[.int k n]:=id rfl
theorem ba (n:Bool):(IV.bool n).cells=[.bool n]:=id rfl
theorem bJ (n:List UInt8):(IV.str n).cells=[.str n]:=id rfl
theorem cn (i o:Nat):(IV.pB i o).cells=[.pB i o]:=id rfl
theorem bL (l:List IV):(IV.agg l).cells=l:=id rfl
theorem cg (f:FuncId):(IV.func f [] []).cells=[.func f [] []]:=id rfl
theorem bH:IV.nilSlice.cells=[.nilSlice]:=id rfl
theorem cm (r:List IV) (n:Nat):(IV.sl r n).cells=[.sl r n]:=id rfl
theorem cd:al []=some 0:=id rfl
theorem bo (v:IV) (r:List IV):(al (v::r)=some 0)=(v.refs=some 0∧al r=some 0):=by
 simp only[al,eq_iff_iff]
 cases v.refs<;>cases al r<;>simp<;>omega
theorem c9 {v:IV}(h:v.refs=some 0):v.refsDeep=some 0:=by
 cases v<;>first | exact h | (simp[IV.refs,IV.plain] at h)
theorem cu (k:IntKind) (n:Int):(IV.int k n).refsDeep=some 0:=id rfl
theorem bw (n:Bool):(IV.bool n).refsDeep=some 0:=id rfl
theorem cy (n:List UInt8):(IV.str n).refsDeep=some 0:=id rfl
theorem cB (l:List IV):((IV.agg l).refsDeep=some 0)=(al l=some 0):=id rfl
theorem cz (l:List IV):((IV.tup l).refsDeep=some 0)=(IV.refsDeep.go l=some 0):=id rfl
def elR:IV→Option Nat
 |.agg cs=>al cs
 |v=>v.refs
theorem cE:IV.refsDeep.go []=some 0:=id rfl
theorem bg (v:IV) (r:List IV):(IV.refsDeep.go (v::r)=some 0)=(elR v=some 0∧IV.refsDeep.go r=some 0):=by
 have e:IV.refsDeep.go (v::r)=match elR v,IV.refsDeep.go r with | some a,some b=>some (Nat.max a b) | _,_=>none:=by
  cases v<;>rfl
 rw[e,eq_iff_iff]
 cases elR v<;>cases IV.refsDeep.go r<;>simp<;>omega
theorem bt (l:List IV):elR (.agg l)=al l:=id rfl
theorem bu (k:IntKind) (n:Int):elR (.int k n)=some 0:=id rfl
theorem aR (n:Bool):elR (.bool n)=some 0:=id rfl
theorem bm (n:List UInt8):elR (.str n)=some 0:=id rfl
theorem cx {v:IV}(h:v.refs=some 0):elR v=some 0:=by
 cases v<;>first | exact h | (simp[IV.refs,IV.plain] at h)
end Go.Idl
