/- This text proves that runs of single functions, of which only some slots are known, give calls of that interpreter; it has no conditions. -/
import Derived.Test.YtbpnjicaapldoaaGreatDoorIde
import Derived.Test.YtbpnjicaapldoaaGreatDoorIdd
import Derived.Test.YtbpnjicaapldoaaGreatDoorIdl
import Derived.KernelRfl
set_option linter.unusedSimpArgs false
set_option linter.unusedVariables false
namespace Go.Idl
section
variable {R:Type}
def iteC (b:Bool) (x y:Option R):Option R:=match b with
 |true=>x
 |false=>y
def grd (b:Bool) (x:Option R):Option R:=match b with
 |true=>x
 |false=>none
def asI (k:IntKind) (v:IV) (K:Int→Option R):Option R:=match v with
 |.int k' n=>grd (decide (k'=k)) (K n)
 |_=>none
def asB (v:IV) (K:Bool→Option R):Option R:=match v with
 |.bool b=>K b
 |_=>none
def asS (v:IV) (K:List UInt8→Option R):Option R:=match v with
 |.str s=>K s
 |_=>none
def asA (v:IV) (K:List IV→Option R):Option R:=match v with
 |.agg cs=>K cs
 |_=>none
def asT (v:IV) (K:List IV→Option R):Option R:=match v with
 |.tup cs=>K cs
 |_=>none
def asP (v:IV) (K:Nat→Nat→Option R):Option R:=match v with
 |.pB id off=>K id off
 |_=>none
def unc (cs:List IV) (K:IV→List IV→Option R):Option R:=match cs with
 |v::t=>K v t
 |[]=>none
def unn (cs:List IV) (K:Option R):Option R:=match cs with
 |[]=>K
 |_=>none
def unb (cs:List BObj) (K:BObj→List BObj→Option R):Option R:=match cs with
 |v::t=>K v t
 |[]=>none
def unbn (cs:List BObj) (K:Option R):Option R:=match cs with
 |[]=>K
 |_=>none
def asC (o:BObj) (K:List IV→Option R):Option R:=match o with
 |.cells cs _=>K cs
 |_=>none
def asIt (o:BObj) (K:List UInt8→Nat→Option R):Option R:=match o with
 |.iter s p=>K s p
 |_=>none
def asP0 (v:IV) (K:Nat→Option R):Option R:=match v with
 |.pB id 0=>K id
 |_=>none
def nilV (v:IV) (X:Option R):Option R:=match v with
 |.nilSlice=>X
 |_=>none
def oneC (v:IV) (X:Option R):Option R:=match v with
 |.agg _=>none
 |.tup _=>none
 |.undef=>none
 |.pL ..=>none
 |_=>X
def notL (v:IV) (X:Option R):Option R:=match v with
 |.pL ..=>none
 |_=>X
def isSl (v:IV) (X:Option R):Option R:=match v with
 |.sl ..=>X
 |.nilSlice=>X
 |_=>none
def refC (v:IV) (X:Option R):Option R:=match v.refs with
 |some _=>X
 |none=>none
def refsC (cs:List IV) (X:Option R):Option R:=match cs with
 |[]=>X
 |v::r=>refC v (refsC r X)
def plnC (v:IV) (X:Option R):Option R:=match v.plain with
 |true=>X
 |false=>none
def plainC (cs:List IV) (X:Option R):Option R:=match cs with
 |[]=>X
 |v::r=>plnC v (plainC r X)
def evC (o:POp) (vs:List IV) (K:IV→Option R):Option R:=match o.ev vs with
 |some v=>K v
 |none=>none
def cutC (agg:Bool) (cs:List IV) (off n:Nat) (K:IV→Option R):Option R:=match agg with
 |true=>match cut cs off n with
  |some r=>K (.agg r)
  |none=>none
 |false=>match cs[off]? with
  |some v=>K v
  |none=>none
def getC (m:IM) (id:Nat) (K:List IV→List Cap→Option R):Option R:=match m.get id with
 |.cells cs cp=>K cs cp
 |_=>none
def ldP (m:IM) (agg:Bool) (n:Nat) (p:IV) (K:IV→Option R):Option R:=match p with
 |.pI row off=>cutC agg row off n K
 |.pB id off=>getC m id fun cs _=>cutC agg cs off n K
 |_=>none
def stP (m:IM) (p:IV) (vs:List IV) (c:Cap) (K:IM→Option R):Option R:=match p with
 |.pB id off=>match storeI { env:=[],lk:=[],lb:=[],m:=m } vs.length (.pB id off) vs c with
  |some st=>K st.m
  |none=>none
 |_=>none
def pushM (m:IM) (o:BObj):IM:=⟨m.bs++[o],m.esc⟩
def srcP (m:IM) (sz:Nat) (v:IV) (K:List IV→Nat→Option R):Option R:=match srcOf [] m sz v with
 |some (xs,n)=>K xs n
 |none=>none
def appC (sv:IV) (sz bytes:Nat) (xs:List IV) (n:Nat) (K:IV→Option R):Option R:=match sv with
 |.nilSlice=>iteC (n==0) (K .nilSlice) (grd (decide (n*bytes≤maxLenI)) (K (.sl xs n)))
 |.sl row len=>grd (decide ((len+n)*bytes≤maxLenI∧row.length=len*sz)) (K (.sl (row++xs) (len+n)))
 |_=>none
def capB (m:IM) (id off:Nat):Cap:=match m.get id with
 |.cells _ cp=>cp.getD off .any
 |_=>.any
def appB (m:IM) (id off:Nat) (sv:IV) (sz bytes:Nat) (xs:List IV) (n:Nat) (K:IV→IM→Option R):Option R:=match sv with
 |.nilSlice=>iteC (n==0) (K .nilSlice m) (grd (decide (n*bytes≤maxLenI)) (K (.sl xs n) m))
 |.sl row len=>grd (decide (capB m id off=.own sz)) (grd (decide ((len+n)*bytes≤maxLenI∧row.length=len*sz))
   (match ({ env:=[],lk:=[],lb:=[],m:=m }:St).drop (.B id off) with
    |some st=>K (.sl (row++xs) (len+n)) st.m
    |none=>none))
 |_=>none
def appN (sv:IV) (bytes:Nat) (xs:List IV) (n:Nat) (K:IV→Option R):Option R:=match sv with
 |.nilSlice=>iteC (n==0) (K .nilSlice) (grd (decide (n*bytes≤maxLenI)) (K (.sl xs n)))
 |_=>none
def cpS (m:IM) (d:IV) (sz:Nat) (xs:List IV) (k:Nat) (K:Nat→IM→Option R):Option R:=match d with
 |.sB id off n _=>match storeI { env:=[],lk:=[],lb:=[],m:=m } (Nat.min k n*sz) (.pB id off) (xs.take (Nat.min k n*sz)) .any with
  |some st=>K (Nat.min k n) st.m
  |none=>none
 |.nilSlice=>K 0 m
 |_=>none
def cpC (m:IM) (d:IV) (sz:Nat) (xs:List IV) (k:Nat) (K:Nat→IM→Option R):Option R:=grd (decide (xs.length=k*sz)) (cpS m d sz xs k K)
def callC (call:CallT) (c:Callee) (vs:List IV) (ids:List Nat) (m:IM) (K:IV→IM→Option R):Option R:=match refsAll (vs.flatMap IV.cells) with
 |some _=>match hideM m ids with
  |some m1=>match call c vs m1 with
   |some (v,m2)=>match unhideM m m2 ids with
    |some m3=>K v m3
    |none=>none
   |none=>none
  |none=>none
 |none=>none
def callVC (call:CallT) (g:IV) (vs:List IV) (ids:List Nat) (m:IM) (K:IV→IM→Option R):Option R:=match g with
 |.func f fs cs=>callC call (.f f) (fs++vs++cs) ids m K
 |.yld id=>callC call (.y id) vs ids m K
 |_=>none
def lkpC (m:IM) (d:EqD) (zero:IV) (ok:Bool) (mv k:IV) (K:IV→Option R):Option R:=match mv with
 |.nilMap=>K (match ok with | true=>.tup [zero,.bool false] | false=>zero)
 |.map id=>match m.get id with
  |.map es=>match findI d k es with
   |some (some v)=>K (match ok with | true=>.tup [v,.bool true] | false=>v)
   |some none=>K (match ok with | true=>.tup [zero,.bool false] | false=>zero)
   |none=>none
  |_=>none
 |_=>none
def mupC (m:IM) (d:EqD) (mv k v:IV) (K:IM→Option R):Option R:=match mv with
 |.map id=>match m.get id with
  |.map es=>match updI d k v es,v.plain&&k.plain with
   |some es,true=>K ⟨m.bs.set id (.map es),m.esc⟩
   |_,_=>none
  |_=>none
 |_=>none
def bymC (m:IM) (v:IV) (K:List UInt8→Option R):Option R:=match bytesAt [] m v with
 |some s=>K s
 |none=>none
def mlnC (m:IM) (mv:IV) (K:Nat→Option R):Option R:=match mv with
 |.nilMap=>K 0
 |.map id=>match m.get id with
  |.map es=>K es.length
  |_=>none
 |_=>none
def exC (e ex:Ex) (A B:Option R):Option R:=match decide (ex=e) with
 |true=>A
 |false=>B
inductive Sh1 where
 |any | int (k:IntKind) | bool | str | ptr | ptr0 | own | sl
 deriving DecidableEq,Inhabited
inductive ShA where
 |one (s:Sh1)
 |agg (l:List Sh1)
 deriving Inhabited
inductive Sh where
 |one (s:Sh1)
 |agg (l:List Sh1)
 |tup (l:List ShA)
 deriving Inhabited
def as1 (s:Sh1) (v:IV) (K:IV→Option R):Option R:=match s with
 |.int k=>asI k v fun n=>K (.int k n)
 |.bool=>asB v fun b=>K (.bool b)
 |.str=>asS v fun s=>K (.str s)
 |.ptr=>asP v fun id off=>K (.pB id off)
 |.ptr0=>asP0 v fun id=>K (.pB id 0)
 |_=>K v
def asL:List Sh1→List IV→(List IV→Option R)→Option R
 |[],cs,K=>unn cs (K [])
 |s::r,cs,K=>unc cs fun v t=>as1 s v fun v=>asL r t fun t=>K (v::t)
def asSA (s:ShA) (v:IV) (K:IV→Option R):Option R:=match s with
 |.one s=>as1 s v K
 |.agg l=>asA v fun cs=>asL l cs fun cs=>K (.agg cs)
def asLA:List ShA→List IV→(List IV→Option R)→Option R
 |[],cs,K=>unn cs (K [])
 |s::r,cs,K=>unc cs fun v t=>asSA s v fun v=>asLA r t fun t=>K (v::t)
def asSh (s:Sh) (v:IV) (K:IV→Option R):Option R:=match s with
 |.one s=>as1 s v K
 |.agg l=>asA v fun cs=>asL l cs fun cs=>K (.agg cs)
 |.tup l=>asT v fun cs=>asLA l cs fun cs=>K (.tup cs)
abbrev Tys:=List (Nat×Sh)
def tyOf:Tys→Nat→Sh
 |[],_=>.one .any
 |(j,s)::r,i=>match Nat.beq j i with
  |true=>s
  |false=>tyOf r i
def shV:IV→Sh
 |.agg _=>.agg []
 |.pL ..=>.one .own
 |_=>.one .any
inductive BX where
 |cells (k:Nat) (l:List Sh1) (cp:List Cap)
 |iter (k:Nat)
 |dead (k:Nat)
 deriving Inhabited
def junk:BObj:=.loop 0 0 0 [] 0
def BX.k:BX→Nat
 |.cells k _ _=>k
 |.iter k=>k
 |.dead k=>k
structure XE where
 ex:Ex
 slots:List (Nat×Cap)
 boxes:List BX
 own:List (Nat×Nat×Nat)
 deriving Inhabited
abbrev XP:=List XE
inductive Pl where
 |z
 |n (x:Option XP) (a b:Pl)
 deriving Inhabited
def Pl.x:Pl→Option XP
 |.z=>none
 |.n x _ _=>x
def Pl.a:Pl→Pl
 |.z=>.z
 |.n _ a _=>a
def Pl.b:Pl→Pl
 |.z=>.z
 |.n _ _ b=>b
abbrev LR:=Ex×List IV×List BObj×IM
def unk:Cap:=.own 0
def capLe (a b:Cap):Bool:=decide (a=unk)||decide (b=a)
def collS (env:Env):List (Nat×Cap)→(List IV→Option R)→Option R
 |[],K=>K []
 |(i,c)::r,K=>match look env i with
  |some (v,c')=>grd (capLe c c') (collS env r fun vs=>K (v::vs))
  |none=>none
def capsLeB:List Cap→List Cap→Bool
 |[],[]=>true
 |a::r,b::t=>capLe a b&&capsLeB r t
 |_,_=>false
def collB (lb:List (Nat×BObj)):List BX→(List BObj→Option R)→Option R
 |[],K=>K []
 |.cells k _ cp::r,K=>match lookL lb k with
  |.cells cs cp'=>grd (capsLeB cp cp') (collB lb r fun bs=>K (.cells cs cp::bs))
  |_=>none
 |.iter k::r,K=>match lookL lb k with
  |.iter s p=>collB lb r fun bs=>K (.iter s p::bs)
  |_=>none
 |.dead _::r,K=>collB lb r K
def hasB (bx:List BX) (k:Nat):Bool:=match bx with
 |[]=>false
 |b::r=>Nat.beq b.k k||hasB r k
def allB (lb:List (Nat×BObj)) (bx:List BX):Bool:=match lb with
 |[]=>true
 |(k,_)::r=>hasB bx k&&allB r bx
def exEq:Ex→Ex→Bool
 |.normal,.normal=>true
 |.ret,.ret=>true
 |.exit i,.exit j=>Nat.beq i j
 |_,_=>false
def ownsC (env:Env):List (Nat×Nat×Nat)→Option R→Option R
 |[],X=>X
 |(i,k,o)::r,X=>match look env i with
  |some (.pL k' o',.any)=>grd (Nat.beq k' k&&Nat.beq o' o) (ownsC env r X)
  |_=>none
def ownE:List (Nat×Nat×Nat)→Env→Env
 |[],e=>e
 |(i,k,o)::r,e=>(i,.pL k o,.any)::ownE r e
def canonK:XP→Ex→St→(LR→Option R)→Option R
 |[],_,_,_=>none
 |x::r,e,s,K=>match exEq e x.ex with
  |true=>ownsC s.env x.own (collS s.env x.slots fun vs=>collB s.lb x.boxes fun bs=>grd (allB s.lb x.boxes) (K (e,vs,bs,s.m)))
  |false=>canonK r e s K
def canonC (xp:XP) (e:Ex) (s:St):Option LR:=canonK xp e s some
def zipS (ty:Tys):List (Nat×Cap)→List IV→(Env→Option R)→Option R
 |[],vs,K=>unn vs (K [])
 |(i,c)::r,vs,K=>unc vs fun v t=>asSh (tyOf ty i) v fun v=>zipS ty r t fun e=>K ((i,v,c)::e)
def zipB:List BX→List BObj→(List (Nat×BObj)→Option R)→Option R
 |[],bs,K=>unbn bs (K [])
 |.cells k l cp::r,bs,K=>unb bs fun o t=>asC o fun cs=>asL l cs fun cs=>zipB r t fun lb=>K ((k,.cells cs cp)::lb)
 |.iter k::r,bs,K=>unb bs fun o t=>asIt o fun s p=>zipB r t fun lb=>K ((k,.iter s p)::lb)
 |.dead k::r,bs,K=>zipB r bs fun lb=>K ((k,junk)::lb)
def takeE (ty:Tys):XP→Ex→List IV→List BObj→IM→(Ex→St→Option R)→Option R
 |[],_,_,_,_,_=>none
 |x::r,ex,vs,bs,m,K=>exC x.ex ex (zipS ty x.slots vs fun env=>zipB x.boxes bs fun lb=>K x.ex { env:=ownE x.own env,lk:=[],lb,m }) (takeE ty r ex vs bs m K)
def bindX (r:Option LR) (K:Ex→List IV→List BObj→IM→Option R):Option R:=match r with
 |some (ex,vs,bs,m)=>K ex vs bs m
 |none=>none
def rdC (ty:Tys) (e:Env) (a:Arg) (K:Sh→IV→Option R):Option R:=match a with
 |.t i=>match look e i with
  |some (v,_)=>K (tyOf ty i) v
  |none=>none
 |.c v=>K (shV v) v
def rdsC (ty:Tys) (e:Env):List Arg→(List (Sh×IV)→Option R)→Option R
 |[],K=>K []
 |a::r,K=>rdC ty e a fun s v=>rdsC ty e r fun l=>K ((s,v)::l)
def cellsS (sh:Sh) (v:IV) (K:List IV→Option R):Option R:=match sh with
 |.agg _=>asA v K
 |_=>oneC v (K [v])
def fillS:List IV→List (Nat×Nat)→List (Sh×IV)→(List IV→Option R)→Option R
 |zero,(off,n)::ps,(sh,v)::vs,K=>cellsS sh v fun c=>grd (Nat.beq c.length n&&Nat.ble (off+n) zero.length) (fillS (over zero off c) ps vs K)
 |cs,[],[],K=>K cs
 |_,_,_,_=>none
def known (c:Cap) (X:Option R):Option R:=match c with
 |.any=>X
 |.own z=>grd (!(Nat.beq z 0)) X
def lkNB:List (Nat×Loc)→List (Nat×Loc)
 |[]=>[]
 |(i,l)::r=>match l with
  |.B ..=>lkNB r
  |_=>(i,l)::lkNB r
def lkNC:List (Nat×Loc)→List (Nat×Loc)
 |[]=>[]
 |(i,l)::r=>match l with
  |.B ..=>lkNC r
  |.marked=>lkNC r
  |_=>(i,l)::lkNC r
def lkHC (ids:List Nat):List (Nat×Loc)→(List (Nat×Loc)→Option R)→Option R
 |[],K=>K []
 |(i,l)::r,K=>match l with
  |.B id off=>match ids with
   |[]=>lkHC ids r K
   |_=>grd (ids.contains id) (lkHC ids r fun t=>K ((i,.B id off)::t))
  |.marked=>lkHC ids r K
  |l=>lkHC ids r fun t=>K ((i,l)::t)
def hidC (e:Env):List Arg→(List Nat→Option R)→Option R
 |[],K=>K []
 |.c _::r,K=>hidC e r K
 |.t i::r,K=>match look e i with
  |some (v,_)=>match v with
   |.pB id _=>hidC e r fun ids=>K (id::ids)
   |_=>hidC e r K
  |none=>none
def single:List (Sh×IV)→List IV
 |[]=>[]
 |(_,v)::r=>v::single r
def mvC (st:St) (i:Nat) (xf:Bool) (K:IV→Cap→St→Option R):Option R:=match look st.env i with
 |some (v,c)=>match xf with
  |false=>K v .any st
  |true=>match c with
   |.any=>K v .any st
   |.own sz=>K v (.own sz) { st with env:=(i,v,.any)::st.env,lk:=lkSlot i st.lk }
 |none=>none
def stC (lb:List (Nat×BObj)) (sh:Sh) (p:IV) (n:Nat) (cs:List IV) (c:Cap) (st:St) (K:St→Option R):Option R:=match sh with
 |.one .own=>match p with
  |.pL k off=>match lookL lb k with
   |.cells bs cp=>refsC cs (grd (Nat.beq cs.length n&&Nat.ble (off+n) bs.length) (K { st with lb:=(k,.cells (over bs off cs) (overCap cp off n c))::st.lb,lk:=lkL k st.lk }))
   |_=>none
  |_=>none
 |_=>known c (grd (Nat.beq cs.length n) (stP st.m p cs c fun m=>K { st with m:=m,lk:=lkNB st.lk }))
def IK.den (ty:Tys) (call:CallT) (st:St) (k:IK) (K:IV→Cap→St→Option R):Option R:=match k with
 |.mv x xf _=>(match x with
  |.c v=>K v .any st
  |.t i=>mvC st i xf K)
 |.p o args=>match o,args with
  |.pick,[.t j,a,b]=>match look st.env j with
   |some (.bool c,cc)=>iteC c (rdC ty st.env a fun _ v=>K v .any { st with env:=(j,.bool true,cc)::st.env }) (rdC ty st.env b fun _ v=>K v .any { st with env:=(j,.bool false,cc)::st.env })
   |_=>none
  |.build zero parts,args=>rdsC ty st.env args fun l=>fillS zero parts l fun cs=>K (.agg cs) .any st
  |o,args=>rdsC ty st.env args fun l=>evC o (single l) fun v=>K v .any st
 |.same x=>match x with
  |.t i=>match look st.env i with
   |some (.sl row len,c)=>grd (decide (linkOf st.lk i=some .marked)) (match c with
    |.own sz=>K (.sl row len) (.own sz) { st with env:=(i,.sl row len,.any)::st.env,lk:=lkSlot i st.lk }
    |.any=>K (.sl row len) .any st)
   |_=>none
  |.c _=>none
 |.load agg n a _=>rdC ty st.env a fun sh p=>match sh with
  |.one .own=>match p with
   |.pL k off=>match lookL st.lb k with
    |.cells cs _=>cutC agg cs off n fun v=>K v .any st
    |_=>none
   |_=>none
  |_=>ldP st.m agg n p fun v=>K v .any st
 |.store n a x xf=>rdC ty st.env a fun sh p=>match x with
  |.c v=>cellsS (shV v) v fun cs=>stC st.lb sh p n cs .any st fun st=>K .undef .any st
  |.t i=>mvC st i xf fun v c st'=>match c with
   |.any=>cellsS (tyOf ty i) v fun cs=>stC st.lb sh p n cs .any st' fun st=>K .undef .any st
   |.own sz=>isSl v (stC st.lb sh p n [v] (.own sz) st' fun st=>K .undef .any st)
 |.allocL k zero cp=>match lookL st.lb k with
  |.none=>K (.pL k 0) .any { st with lb:=(k,.cells zero (zipCap zero cp))::st.lb }
  |_=>none
 |.allocG zero cp=>K (.pB st.m.size 0) .any { st with m:=pushM st.m (.cells zero (zipCap zero cp))}
 |.boxL k n x=>rdC ty st.env x fun sh v=>cellsS sh v fun cs=>refsC cs (grd (Nat.beq cs.length n) (match lookL st.lb k with
  |.none=>K (.pL k 0) .any { st with lb:=(k,.cells cs (zipCap cs []))::st.lb }
  |_=>none))
 |.boxG n x=>rdC ty st.env x fun sh v=>cellsS sh v fun cs=>refsC cs (grd (Nat.beq cs.length n) (K (.pB st.m.size 0) .any { st with m:=pushM st.m (.cells cs (zipCap cs []))}))
 |.boxI n x=>rdC ty st.env x fun sh v=>cellsS sh v fun cs=>plainC cs (grd (Nat.beq cs.length n) (K (.pI cs 0) .any st))
 |.buildSlice sz len zero parts args=>rdsC ty st.env args fun l=>fillS (repl zero len) parts l fun cs=>plainC cs (K (.sl cs len) (.own sz) st)
 |.strBytes x=>rdC ty st.env x fun _ v=>asS v fun s=>grd (decide (s.length≤maxLenI)) (K (.sl (bytesCells s) s.length) (.own 1) st)
 |.makeI sz bytes zero len cap=>rdC ty st.env len fun _ l=>asI .i64 l fun l=>rdC ty st.env cap fun _ c=>asI .i64 c fun c =>
   grd (decide (0≤l∧l≤c∧c*bytes≤maxLenI∧c≤maxLenI)) (K (.sl (repl zero l.toNat) l.toNat) (.own sz) st)
 |.makeB sz bytes zero len cap=>rdC ty st.env len fun _ l=>asI .i64 l fun l=>rdC ty st.env cap fun _ c=>asI .i64 c fun c =>
   grd (decide (0≤l∧l≤c∧c*bytes≤maxLenI∧c≤maxLenI)) (K (.sB st.m.size 0 l.toNat sz) .any { st with m:=pushM st.m (.cells (repl zero c.toNat) (zipCap (repl zero c.toNat) []))})
 |.append sz bytes s x=>rdC ty st.env x fun _ x=>srcP st.m sz x fun xs n=>plainC xs (grd (Nat.beq xs.length (n*sz)) (match s with
  |.c sv=>appN sv bytes xs n fun v=>K v (.own sz) st
  |.t i=>match look st.env i with
   |some (sv,.own z)=>grd (Nat.beq z sz && !(Nat.beq sz 0)) (appC sv sz bytes xs n fun v=>K v (.own sz) { st with env:=(i,sv,unk)::st.env,lk:=lkSlot i st.lk })
   |some (sv,.any)=>match linkOf st.lk i with
    |some (.L k off)=>match lookL st.lb k with
     |.cells cs cp=>grd (decide (cp.getD off .any=.own sz) && !(Nat.beq sz 0)) (appC sv sz bytes xs n fun v=>K v (.own sz) { st with lb:=(k,.cells cs (cp.set off unk))::st.lb })
     |_=>none
    |some (.B id off)=>appB st.m id off sv sz bytes xs n fun v m=>K v (.own sz) { st with m:=m }
    |some (.slot j)=>match look st.env j with
     |some (w,.own z)=>grd (Nat.beq z sz && !(Nat.beq sz 0)) (appC sv sz bytes xs n fun v=>K v (.own sz) { st with env:=(j,w,unk)::st.env,lk:=lkSlot j st.lk })
     |_=>none
    |_=>appN sv bytes xs n fun v=>K v (.own sz) st
   |none=>none))
 |.copy sz d s=>rdC ty st.env d fun _ d=>rdC ty st.env s fun _ s=>srcP st.m sz s fun xs k=>cpC st.m d sz xs k fun n m=>K (.int .i64 n) .any { st with m:=m,lk:=lkNB st.lk }
 |.callF f args hide=>rdsC ty st.env args fun l=>hidC st.env hide fun ids=>callC call (.f f) (single l) ids st.m fun v m=>lkHC ids st.lk fun lk=>K v .any { st with m:=m,lk:=lk }
 |.callV g args hide=>rdsC ty st.env args fun l=>rdC ty st.env g fun _ g=>hidC st.env hide fun ids=>callVC call g (single l) ids st.m fun v m=>K v .any { st with m:=m,lk:=lkNC st.lk }
 |.mkMap=>K (.map st.m.size) .any { st with m:=pushM st.m (.map [])}
 |.lookup d zero ok a b=>rdC ty st.env a fun _ mp=>rdC ty st.env b fun _ k=>lkpC st.m d zero ok mp k fun v=>K v .any st
 |.mapUpd d a b x=>rdC ty st.env a fun _ mp=>rdC ty st.env b fun _ k=>rdC ty st.env x fun _ v=>mupC st.m d mp k v fun m=>K .undef .any { st with m:=m }
 |.bytesM a=>rdC ty st.env a fun _ v=>bymC st.m v fun s=>K (.str s) .any st
 |.mapLen a=>rdC ty st.env a fun _ mp=>mlnC st.m mp fun n=>K (.int .i64 n) .any st
 |.rangeStr k x=>rdC ty st.env x fun _ v=>asS v fun s=>match lookL st.lb k with
  |.none=>K (.pL k 0) .any { st with lb:=(k,.iter s 0)::st.lb }
  |_=>none
 |.nextStr a=>rdC ty st.env a fun _ p=>match p with
  |.pL k 0=>match lookL st.lb k with
   |.iter s pos=>iteC (decide (pos<s.length))
     (K (.tup [.bool true,.int .i64 pos,.int .i32 (Utf8.decode ⟨⟨s⟩⟩ pos).1]) .any { st with lb:=(k,.iter s (pos+(Utf8.decode ⟨⟨s⟩⟩ pos).2))::st.lb })
     (K (.tup [.bool false]) .any st)
   |_=>none
  |_=>none
def adrC (e:Env) (a:Arg) (t:OTag) (X:Option R):Option R:=match a with
 |.c v=>match t with
  |.imm=>(match v with | .pI ..=>X | _=>none)
  |.mem=>notL v X
  |.own k=>(match v with | .pL k' _=>grd (Nat.beq k' k) X | _=>none)
  |_=>none
 |.t i=>match look e i with
  |some (v,_)=>match t with
   |.imm=>(match v with | .pI ..=>X | _=>none)
   |.mem=>notL v X
   |.own k=>(match v with | .pL k' _=>grd (Nat.beq k' k) X | _=>none)
   |.hid h=>match look e h with
    |some (w,_)=>asP v fun id _=>asP w fun id' _=>grd (Nat.beq id id') X
    |none=>none
   |_=>none
  |none=>none
def apoC (e:Env) (lk:List (Nat×Loc)) (i:Nat) (t:OTag) (X:Option R):Option R:=match look e i with
 |some (v,c)=>match c with
  |.own _=>X
  |.any=>match linkOf lk i with
   |some l=>grd (t.hits l) X
   |none=>(match v with | .nilSlice=>X | _=>none)
 |none=>none
def okC (k:IK) (t:OTag) (st:St) (X:Option R):Option R:=match t with
 |.none=>X
 |t=>match k with
  |.load _ _ a _=>adrC st.env a t X
  |.store _ a _ _=>adrC st.env a t X
  |.nextStr a=>adrC st.env a t X
  |.append _ _ (.t i) _=>apoC st.env st.lk i t X
  |_=>none
def lkSlotC (d:Nat):List (Nat×Loc)→(List (Nat×Loc)→Option R)→Option R
 |[],K=>K []
 |(i,l)::r,K=>lkSlotC d r fun r'=>match Nat.beq i d with
  |true=>K r'
  |false=>match l with
   |.slot j=>(match Nat.beq j d with
    |true=>K r'
    |false=>K ((i,.slot j)::r'))
   |.L a b=>K ((i,.L a b)::r')
   |.B a b=>K ((i,.B a b)::r')
   |.marked=>K ((i,.marked)::r')
def lnkC (ty:Tys) (env:Env) (k:IK) (K:Option Loc→Option R):Option R:=match k with
 |.mv (.t i) false true=>K (some (.slot i))
 |.strBytes _=>K (some .marked)
 |.buildSlice 1 _ _ _ _=>K (some .marked)
 |.load false _ (.t i) true=>match tyOf ty i with
  |.one .own=>(match look env i with | some (.pL k off,_)=>K (some (.L k off)) | _=>none)
  |.one .ptr=>(match look env i with | some (.pB k off,_)=>K (some (.B k off)) | _=>none)
  |.one .ptr0=>(match look env i with | some (.pB k off,_)=>K (some (.B k off)) | _=>none)
  |_=>K none
 |_=>K none
def putC (ty:Tys) (d:Option Nat) (v:IV) (c:Cap) (k:IK) (env:Env) (st:St) (K:St→Option R):Option R:=match d with
 |none=>K st
 |some d=>asSh (tyOf ty d) v fun v=>lkSlotC d st.lk fun lk=>lnkC ty env k fun l=>match l with
  |some l=>(match l with
   |.slot j=>(match Nat.beq j d with | true=>K { st with env:=(d,v,c)::st.env,lk:=lk } | false=>K { st with env:=(d,v,c)::st.env,lk:=(d,.slot j)::lk })
   |l=>K { st with env:=(d,v,c)::st.env,lk:=(d,l)::lk })
  |none=>K { st with env:=(d,v,c)::st.env,lk:=lk }
def offC (d:Option Nat) (st:St) (K:St→Option R):Option R:=match d with
 |none=>K st
 |some d=>lkSlotC d st.lk fun lk=>K { st with env:=(d,.tup [],.any)::st.env,lk:=lk }
def gateC (st:St) (g:Option (Nat×Bool)) (A B:St→Option R):Option R:=match g with
 |none=>A st
 |some (j,want)=>match look st.env j with
  |some (.bool b,c)=>match want with
   |true=>iteC b (A { st with env:=(j,.bool true,c)::st.env }) (B { st with env:=(j,.bool false,c)::st.env })
   |false=>iteC b (B { st with env:=(j,.bool true,c)::st.env }) (A { st with env:=(j,.bool false,c)::st.env })
  |some (.tup _,_)=>B st
  |_=>none
def IOp.den (ty:Tys) (call:CallT) (o:IOp) (st:St) (K:St→Option R):Option R :=
 gateC st o.guard (fun st=>okC o.k o.tag st (o.k.den ty call st fun v c st'=>putC ty o.dst v c o.k st.env st' K)) (fun st=>offC o.dst st K)
def opsDen (ty:Tys) (call:CallT):List IOp→St→(St→Option R)→Option R
 |[],st,K=>K st
 |o::r,st,K=>o.den ty call st fun st=>opsDen ty call r st K
def iter {α β:Type}(f:α→Option (α⊕β)) (a:α):Option β:=match f a with
 |some (.inl a')=>iter f a'
 |some (.inr b)=>some b
 |none=>none
partial_fixpoint
def keepC (v:IV) (keepL:List Nat) (X:Option R):Option R:=match v with
 |.pL k _=>grd (keepL.contains k) X
 |_=>X
def keepX (s:Sh) (v:IV) (keepL:List Nat) (X:Option R):Option R:=match s with
 |.one .sl=>notL v X
 |_=>keepC v keepL X
def headEC (ty:Tys) (e:Env) (keepL:List Nat):List (Nat×Nat)→(Env→Option R)→Option R
 |[],K=>K []
 |(i,o)::r,K=>match look e i with
  |some (v,c)=>keepX (tyOf ty i) v keepL (match o with
   |0=>headEC ty e keepL r fun e=>K ((i,v,.any)::e)
   |sz+1=>match c with
    |.own s=>grd (!(Nat.beq s 0)) (headEC ty e keepL r fun e=>K ((i,v,.own s)::e))
    |.any=>nilV v (headEC ty e keepL r fun e=>K ((i,v,.own sz)::e)))
  |none=>none
def capsO (k:Nat) (cs:List IV):List (Nat×Nat×Nat)→List Cap→(List Cap→Option R)→Option R
 |[],cp,K=>K cp
 |(k',o,sz)::r,cp,K=>match Nat.beq k' k with
  |true=>match cp.getD o .any with
   |.own s=>grd (!(Nat.beq s 0)) (capsO k cs r (cp.set o (.own s)) K)
   |.any=>nilV (cs.getD o .undef) (capsO k cs r (cp.set o (.own sz)) K)
  |false=>capsO k cs r cp K
def headBC (lb:List (Nat×BObj)) (own:List (Nat×Nat×Nat)):List Nat→(List (Nat×BObj)→Option R)→Option R
 |[],K=>K []
 |k::r,K=>match lookL lb k with
  |.cells cs cp=>capsO k cs own cp fun cp=>headBC lb own r fun b=>K ((k,.cells cs cp)::b)
  |.iter s p=>headBC lb own r fun b=>K ((k,.iter s p)::b)
  |.none=>headBC lb own r K
  |_=>none
def headC (ty:Tys) (st:St) (h:Head) (K:St→Option R):Option R :=
 headEC ty st.env h.keepL h.keep fun env=>headBC st.lb h.ownL h.keepL fun lb=>K { env,lk:=[],lb,m:=st.m }
def endS (ty:Tys) (h:Head) (xp:XP) (e:Ex) (s:St):Option (St⊕LR):=match e with
 |.normal=>headC ty s h fun s=>some (.inl s)
 |e=>canonK xp e s fun r=>some (.inr r)
def ICode.den (ty:Tys) (call:CallT):ICode→(R:Type)→Pl→St→(Ex→St→Option R)→Option R
 |.skip,_,_,st,K=>K .normal st
 |.ops l,_,_,st,K=>opsDen ty call l st fun st=>K .normal st
 |.draw l _,_,_,st,K=>opsDen ty call l st fun st=>K .normal st
 |.seq a b,R,pl,st,K=>match pl.x with
  |some xp=>bindX (a.den ty call LR pl.a st (canonC xp)) fun ex vs bs m=>takeE ty xp ex vs bs m fun e s=>match e with
   |.normal=>b.den ty call R pl.b s K
   |e=>K e s
  |none=>a.den ty call R pl.a st fun e s=>match e with
   |.normal=>b.den ty call R pl.b s K
   |e=>K e s
 |.cond c a b,R,pl,st,K=>match c with
  |.t j=>match look st.env j with
   |some (.bool x,cc)=>iteC x (a.den ty call R pl.a { st with env:=(j,.bool true,cc)::st.env } K) (b.den ty call R pl.b { st with env:=(j,.bool false,cc)::st.env } K)
   |_=>none
  |.c v=>match v with
   |.bool true=>a.den ty call R pl.a st K
   |.bool false=>b.den ty call R pl.b st K
   |_=>none
 |.block id b,R,pl,st,K=>b.den ty call R pl.a st fun e s=>match e with
   |.exit i=>(match Nat.beq i id with | true=>K .normal s | false=>K (.exit i) s)
   |e=>K e s
 |.loop h b,_,pl,st,K=>match pl.x with
  |some xp=>headC ty st h fun s=>bindX (iter (fun s=>b.den ty call (St⊕LR) pl.a s (endS ty h xp)) s) fun ex vs bs m=>takeE ty xp ex vs bs m K
  |none=>none
 |.rangeF _ _ _,_,_,_,_=>none
 |.exit id,_,_,st,K=>K (.exit id) st
 |.ret,_,_,st,K=>K .ret st
def retsC (st:St):List RV→(List IV→Option R)→Option R
 |[],K=>K []
 |.t i::r,K=>match look st.env i with
  |some (v,_)=>retsC st r fun vs=>K (v::vs)
  |none=>none
 |.cell i agg n::r,K=>match look st.env i with
  |some (.pL k off,_)=>(match lookL st.lb k with
   |.cells cs _=>cutC agg cs off n fun v=>retsC st r fun vs=>K (v::vs)
   |_=>none)
  |some (p,_)=>ldP st.m agg n p fun v=>retsC st r fun vs=>K (v::vs)
  |none=>none
def outC (m m':IM) (vs:List IV):Option (IV×IM):=match vs with
 |[v]=>settle m m' v
 |vs=>settle m m' (.tup vs)
def denF (ty:Tys) (pl:Pl) (fn:IFn) (call:CallT) (args:List IV) (m:IM):Option (IV×IM) :=
 match Nat.beq args.length fn.nargs with
 |true=>fn.body.den ty call (IV×IM) pl { env:=mkEnv 0 args,lk:=[],lb:=[],m:=m } fun e s=>match e with
  |.exit _=>none
  |_=>retsC s fn.rets fun vs=>outC m s.m vs
 |false=>none
end
section
variable {R:Type}
theorem iteC_inv {b:Bool}{x y:Option R}{r:R}(h:iteC b x y=some r):(b=true∧x=some r)∨(b=false∧y=some r):=by
 cases b
 ·exact .inr ⟨rfl,h⟩
 ·exact .inl ⟨rfl,h⟩
theorem grd_inv {b:Bool}{x:Option R}{r:R}(h:grd b x=some r):b=true∧x=some r:=by
 cases b
 ·cases h
 ·exact⟨rfl,h⟩
theorem asI_inv {k:IntKind}{v:IV}{K:Int→Option R}{r:R}(h:asI k v K=some r):∃n,v=.int k n∧K n=some r:=by
 unfold asI at h
 split at h
 ·obtain⟨e,h2⟩:=grd_inv h
  have e':=of_decide_eq_true e
  exact⟨_,by rw[e'],h2⟩
 ·cases h
theorem asB_inv {v:IV}{K:Bool→Option R}{r:R}(h:asB v K=some r):∃n,v=.bool n∧K n=some r:=by
 unfold asB at h
 split at h
 ·exact⟨_,rfl,h⟩
 ·cases h
theorem asS_inv {v:IV}{K:List UInt8→Option R}{r:R}(h:asS v K=some r):∃n,v=.str n∧K n=some r:=by
 unfold asS at h
 split at h
 ·exact⟨_,rfl,h⟩
 ·cases h
theorem asA_inv {v:IV}{K:List IV→Option R}{r:R}(h:asA v K=some r):∃n,v=.agg n∧K n=some r:=by
 unfold asA at h
 split at h
 ·exact⟨_,rfl,h⟩
 ·cases h
theorem asT_inv {v:IV}{K:List IV→Option R}{r:R}(h:asT v K=some r):∃n,v=.tup n∧K n=some r:=by
 unfold asT at h
 split at h
 ·exact⟨_,rfl,h⟩
 ·cases h
theorem asP_inv {v:IV}{K:Nat→Nat→Option R}{r:R}(h:asP v K=some r):∃i o,v=.pB i o∧K i o=some r:=by
 unfold asP at h
 split at h
 ·exact⟨_,_,rfl,h⟩
 ·cases h
theorem asP0_inv {v:IV}{K:Nat→Option R}{r:R}(h:asP0 v K=some r):∃i,v=.pB i 0∧K i=some r:=by
 unfold asP0 at h
 split at h
 ·exact⟨_,rfl,h⟩
 ·cases h
theorem nilV_inv {v:IV}{X:Option R}{r:R}(h:nilV v X=some r):v=.nilSlice∧X=some r:=by
 unfold nilV at h
 split at h
 ·exact⟨rfl,h⟩
 ·cases h
theorem unc_inv {cs:List IV}{K:IV→List IV→Option R}{r:R}(h:unc cs K=some r):∃v t,cs=v::t∧K v t=some r:=by
 unfold unc at h
 split at h
 ·exact⟨_,_,rfl,h⟩
 ·cases h
theorem unn_inv {cs:List IV}{K:Option R}{r:R}(h:unn cs K=some r):cs=[]∧K=some r:=by
 unfold unn at h
 split at h
 ·exact⟨rfl,h⟩
 ·cases h
theorem oneC_inv {v:IV}{X:Option R}{r:R}(h:oneC v X=some r):v.cells=[v]∧v.isU=false∧v.isL=false∧X=some r:=by
 unfold oneC at h
 split at h
 ·cases h
 ·cases h
 ·cases h
 ·cases h
 ·rename_i h1 h2 h3 h4
  cases v<;>first | exact⟨rfl,rfl,rfl,h⟩ | (exact (h1 _ rfl).elim) | (exact (h2 _ rfl).elim) | (exact (h3 rfl).elim) | (exact (h4 _ _ rfl).elim)
theorem notL_inv {v:IV}{X:Option R}{r:R}(h:notL v X=some r):v.isL=false∧X=some r:=by
 unfold notL at h
 split at h
 ·cases h
 ·rename_i h1
  cases v<;>first | exact⟨rfl,h⟩ | (exact (h1 _ _ rfl).elim)
theorem refC_inv {v:IV}{X:Option R}{r:R}(h:refC v X=some r):(∃n,v.refs=some n)∧X=some r:=by
 unfold refC at h
 split at h
 ·rename_i e;exact⟨⟨_,e⟩,h⟩
 ·cases h
theorem refsC_inv:∀{cs:List IV}{X:Option R}{r:R},refsC cs X=some r→(∃n,refsAll cs=some n)∧X=some r
 |[],X,r,h=>⟨⟨_,rfl⟩,h⟩
 |v::t,X,r,h=>by
  obtain⟨⟨n,e⟩,h⟩:=refC_inv h
  obtain⟨⟨n',e'⟩,h⟩:=refsC_inv h
  exact⟨⟨_,by rw[refsAll,e,e']⟩,h⟩
theorem plainC_inv:∀{cs:List IV}{X:Option R}{r:R},plainC cs X=some r→cs.all IV.plain=true∧X=some r
 |[],X,r,h=>⟨rfl,h⟩
 |v::t,X,r,h=>by
  unfold plainC plnC at h
  split at h
  ·rename_i e
   obtain⟨e',h⟩:=plainC_inv h
   exact⟨by rw[List.all_cons,e,e'];rfl,h⟩
  ·cases h
theorem evC_inv {o:POp}{vs:List IV}{K:IV→Option R}{r:R}(h:evC o vs K=some r):∃v,o.ev vs=some v∧K v=some r:=by
 unfold evC at h
 split at h
 ·exact⟨_,by assumption,h⟩
 ·cases h
theorem cut_one {cs:List IV}{off:Nat}{v:IV}(h:cs[off]?=some v):cut cs off 1=some [v]:=by
 obtain⟨hl,he⟩:=List.getElem?_eq_some_iff.1 h
 unfold cut
 rw[if_pos (by omega),List.drop_eq_getElem_cons hl,he]
 rfl
def ldV (agg:Bool) (cs:List IV) (off n:Nat):Option IV:=match agg with
 |true=>(cut cs off n).map .agg
 |false=>cs[off]?
theorem cutC_inv {agg:Bool}{cs:List IV}{off n:Nat}{K:IV→Option R}{r:R}(h:cutC agg cs off n K=some r):∃v,K v=some r∧ldV agg cs off n=some v:=by
 cases agg with
 |true =>
  simp only[cutC] at h
  split at h
  ·rename_i e;exact⟨_,h,by simp[ldV,e]⟩
  ·cases h
 |false =>
  simp only[cutC] at h
  split at h
  ·rename_i e;exact⟨_,h,by simp[ldV,e]⟩
  ·cases h
theorem load_of {lb:List (Nat×BObj)}{m:IM}{agg:Bool}{n:Nat}{p:IV}{cs:List IV}{off:Nat}{v:IV}(hc:∀n,cellsAt lb m p n=cut cs off n) (h:ldV agg cs off n=some v):loadI lb m agg n p=some v:=by
 unfold loadI
 simp only[hc]
 cases agg with
 |true =>
  simp only[ldV,Option.map_eq_some_iff] at h
  obtain⟨x,e,rfl⟩:=h
  simp[e,frc_eq]
 |false =>
  simp only[ldV] at h
  simp[cut_one h]
theorem getC_inv {m:IM}{id:Nat}{K:List IV→List Cap→Option R}{r:R}(h:getC m id K=some r):∃cs cp,m.get id=.cells cs cp∧K cs cp=some r:=by
 unfold getC at h
 split at h
 ·rename_i e;exact⟨_,_,e,h⟩
 ·cases h
theorem ldP_inv {m:IM}{agg:Bool}{n:Nat}{p:IV}{K:IV→Option R}{r:R}(h:ldP m agg n p K=some r):∃v,K v=some r∧∀lb,loadI lb m agg n p=some v:=by
 unfold ldP at h
 split at h
 ·obtain⟨v,h1,h2⟩:=cutC_inv h
  exact⟨v,h1,fun lb=>load_of (fun _=>rfl) h2⟩
 ·obtain⟨cs,cp,e,h⟩:=getC_inv h
  obtain⟨v,h1,h2⟩:=cutC_inv h
  exact⟨v,h1,fun lb=>load_of (fun n=>by simp[cellsAt,e]) h2⟩
 ·cases h
theorem storeB_eq (st:St) (n id off:Nat) (vs:List IV) (c:Cap):storeI st n (.pB id off) vs c =
  if vs.length≠n then none else match st.m.get id,refsAll vs with
   |.cells cs cp,some r=>if off+n≤cs.length then some { st with m:=⟨st.m.bs.set id (.cells (over cs off vs) (overCap cp off n c)),if r≤id then st.m.esc else st.m.esc+1⟩,lk:=lkB (· == id) st.lk } else none
   |_,_=>none:=by
 unfold storeI
 split
 ·rfl
 ·simp only[frc_eq,IM.put]
  cases st.m.get id<;>cases refsAll vs<;>rfl
theorem storeB_m {st st':St}{n id off:Nat}{vs:List IV}{c:Cap}(h:storeI st n (.pB id off) vs c=some st') (b:St) (hb:b.m=st.m) :
  storeI b n (.pB id off) vs c=some { b with m:=st'.m,lk:=lkB (· == id) b.lk }:=by
 rw[storeB_eq] at h ⊢
 rw[hb]
 split at h
 ·cases h
 ·rename_i hn
  rw[if_neg hn]
  split at h
  ·rename_i e1 e2
   split at h
   ·rename_i e3
    rw[if_pos e3]
    cases h
    rfl
   ·cases h
  ·cases h
theorem stP_inv {m:IM}{p:IV}{vs:List IV}{c:Cap}{K:IM→Option R}{r:R}(h:stP m p vs c K=some r) :
  ∃id m',K m'=some r∧∀b:St,b.m=m→storeI b vs.length p vs c=some { b with m:=m',lk:=lkB (· == id) b.lk }:=by
 unfold stP at h
 split at h
 ·rename_i id off
  split at h
  ·rename_i st e
   exact⟨id,st.m,h,fun b hb=>storeB_m e b hb⟩
  ·cases h
 ·cases h
theorem srcP_inv {m:IM}{sz:Nat}{v:IV}{K:List IV→Nat→Option R}{r:R}(h:srcP m sz v K=some r):∃xs n,K xs n=some r∧∀lb,srcOf lb m sz v=some (xs,n):=by
 unfold srcP at h
 split at h
 ·rename_i e
  refine⟨_,_,h,fun lb=>?_⟩
  cases v<;>first | exact e | (simp only[srcOf] at e ⊢;exact e)
 ·cases h
theorem exC_inv {e ex:Ex}{A B:Option R}{r:R}(h:exC e ex A B=some r):(ex=e∧A=some r)∨(ex≠e∧B=some r):=by
 unfold exC at h
 by_cases q:ex=e
 ·rw[decide_eq_true q] at h;exact .inl ⟨q,h⟩
 ·rw[decide_eq_false q] at h;exact .inr ⟨q,h⟩
theorem as1_inv {s:Sh1}{v:IV}{K:IV→Option R}{r:R}(h:as1 s v K=some r):K v=some r:=by
 unfold as1 at h
 split at h
 ·obtain⟨n,rfl,h'⟩:=asI_inv h;exact h'
 ·obtain⟨n,rfl,h'⟩:=asB_inv h;exact h'
 ·obtain⟨n,rfl,h'⟩:=asS_inv h;exact h'
 ·obtain⟨n,o,rfl,h'⟩:=asP_inv h;exact h'
 ·obtain⟨n,rfl,h'⟩:=asP0_inv h;exact h'
 ·exact h
theorem asL_inv:∀{l:List Sh1}{cs:List IV}{K:List IV→Option R}{r:R},asL l cs K=some r→K cs=some r
 |[],cs,K,r,h=>by obtain⟨rfl,h'⟩:=unn_inv h;exact h'
 |s::l,cs,K,r,h=>by
  obtain⟨v,t,rfl,h'⟩:=unc_inv h
  exact asL_inv (l:=l) (K:=fun t=>K (v::t)) (as1_inv h')
theorem asSA_inv {s:ShA}{v:IV}{K:IV→Option R}{r:R}(h:asSA s v K=some r):K v=some r:=by
 cases s with
 |one s=>exact as1_inv h
 |agg l=>obtain⟨n,rfl,h'⟩:=asA_inv h;exact asL_inv h'
theorem asLA_inv:∀{l:List ShA}{cs:List IV}{K:List IV→Option R}{r:R},asLA l cs K=some r→K cs=some r
 |[],cs,K,r,h=>by obtain⟨rfl,h'⟩:=unn_inv h;exact h'
 |s::l,cs,K,r,h=>by
  obtain⟨v,t,rfl,h'⟩:=unc_inv h
  exact asLA_inv (l:=l) (K:=fun t=>K (v::t)) (asSA_inv h')
theorem asSh_inv {s:Sh}{v:IV}{K:IV→Option R}{r:R}(h:asSh s v K=some r):K v=some r:=by
 cases s with
 |one s=>exact as1_inv h
 |agg l=>obtain⟨n,rfl,h'⟩:=asA_inv h;exact asL_inv h'
 |tup l=>obtain⟨n,rfl,h'⟩:=asT_inv h;exact asLA_inv h'
def CapR (c c':Cap):Prop:=c=unk∨c'=c
inductive CapsR:List Cap→List Cap→Prop where
 |nil:CapsR [] []
 |cons {a b:Cap}{s t:List Cap}:CapR a b→CapsR s t→CapsR (a::s) (b::t)
def BR (o o':BObj):Prop:=o=junk∨o=o'∨∃cs cp cp',o=.cells cs cp∧o'=.cells cs cp'∧CapsR cp cp'
structure Sub (s b:St):Prop where
 env:∀i v c,look s.env i=some (v,c)→∃c',look b.env i=some (v,c')∧CapR c c'
 lk:∀p,p∈s.lk→p∈b.lk
 uq:uqB b.lk=true
 lb:∀k,BR (lookL s.lb k) (lookL b.lb k)
 m:s.m=b.m
theorem CapR.refl (c:Cap):CapR c c:=.inr rfl
theorem CapR.unk (c:Cap):CapR unk c:=.inl rfl
theorem CapR.trans {a b c:Cap}(h1:CapR a b) (h2:CapR b c):CapR a c:=by
 rcases h1 with rfl | rfl
 ·exact .inl rfl
 ·exact h2
theorem CapsR.refl:∀l,CapsR l l
 |[]=>.nil
 |a::r=>.cons (CapR.refl a) (CapsR.refl r)
theorem CapsR.trans {a b c:List Cap}(h1:CapsR a b) (h2:CapsR b c):CapsR a c:=by
 induction h1 generalizing c with
 |nil=>exact h2
 |cons hab _ ih=>cases h2 with | cons hbc h=>exact .cons (hab.trans hbc) (ih h)
theorem CapsR.len {a b:List Cap}(h:CapsR a b):a.length=b.length:=by
 induction h with
 |nil=>rfl
 |cons _ _ ih=>simp[ih]
theorem CapsR.getD {a b:List Cap}(h:CapsR a b) (i:Nat):CapR (a.getD i .any) (b.getD i .any):=by
 induction h generalizing i with
 |nil=>exact CapR.refl _
 |cons hab _ ih=>cases i with
  |zero=>exact hab
  |succ i=>exact ih i
theorem CapsR.append {a b c d:List Cap}(h:CapsR a b) (h2:CapsR c d):CapsR (a++c) (b++d):=by
 induction h with
 |nil=>exact h2
 |cons hab _ ih=>exact .cons hab ih
theorem CapsR.take {a b:List Cap}(h:CapsR a b) (n:Nat):CapsR (a.take n) (b.take n):=by
 induction h generalizing n with
 |nil=>simp;exact .nil
 |cons hab _ ih=>cases n with
  |zero=>exact .nil
  |succ n=>exact .cons hab (ih n)
theorem CapsR.drop {a b:List Cap}(h:CapsR a b) (n:Nat):CapsR (a.drop n) (b.drop n):=by
 induction h generalizing n with
 |nil=>simp;exact .nil
 |cons hab h' ih=>cases n with
  |zero=>exact .cons hab h'
  |succ n=>exact ih n
theorem CapsR.set {a b:List Cap}(h:CapsR a b) (n:Nat) {c c':Cap}(hc:CapR c c'):CapsR (a.set n c) (b.set n c'):=by
 induction h generalizing n with
 |nil=>exact .nil
 |cons hab h' ih=>cases n with
  |zero=>exact .cons hc h'
  |succ n=>exact .cons hab (ih n)
theorem CapsR.rep {c c':Cap}(h:CapR c c'):∀n,CapsR (List.replicate n c) (List.replicate n c')
 |0=>.nil
 |n+1=>.cons h (CapsR.rep h n)
theorem CapsR.over {a b:List Cap}(h:CapsR a b) (off n:Nat) {c c':Cap}(hc:CapR c c'):CapsR (overCap a off n c) (overCap b off n c') :=
 ((h.take off).append (CapsR.rep hc n)).append (h.drop (off+n))
theorem BR.refl (o:BObj):BR o o:=.inr (.inl rfl)
theorem BR.trans {a b c:BObj}(h1:BR a b) (h2:BR b c):BR a c:=by
 rcases h1 with rfl | rfl | ⟨cs,cp,cp',rfl,rfl,hc⟩
 ·exact .inl rfl
 ·exact h2
 ·rcases h2 with e | rfl | ⟨cs2,cp2,cp2',e1,rfl,hc2⟩
  ·cases e
  ·exact .inr (.inr ⟨cs,cp,cp',rfl,rfl,hc⟩)
  ·cases e1
   exact .inr (.inr ⟨cs,cp,cp2',rfl,rfl,hc.trans hc2⟩)
theorem BR.none {o:BObj}(h:BR .none o):o=.none:=by
 rcases h with e | rfl | ⟨_,_,_,e,_⟩
 ·cases e
 ·rfl
 ·cases e
theorem BR.iter {s:List UInt8}{p:Nat}{o:BObj}(h:BR (.iter s p) o):o=.iter s p:=by
 rcases h with e | rfl | ⟨_,_,_,e,_⟩
 ·cases e
 ·rfl
 ·cases e
theorem BR.cells {cs:List IV}{cp:List Cap}{o:BObj}(h:BR (.cells cs cp) o):∃cp',o=.cells cs cp'∧CapsR cp cp':=by
 rcases h with e | rfl | ⟨_,_,cp',e,rfl,hc⟩
 ·cases e
 ·exact⟨cp,rfl,CapsR.refl _⟩
 ·cases e;exact⟨cp',rfl,hc⟩
theorem BR.mk {cs:List IV}{cp cp':List Cap}(hc:CapsR cp cp'):BR (.cells cs cp) (.cells cs cp') :=
 .inr (.inr ⟨cs,cp,cp',rfl,rfl,hc⟩)
theorem uqB_cons {i:Nat}{l:Loc}{r:List (Nat×Loc)}:uqB ((i,l)::r)=true↔uqB r=true∧∀p∈r,p.1≠i:=by
 simp only[uqB]
 constructor
 ·intro h
  split at h
  ·rename_i e
   simp only[Bool.not_eq_true',List.any_eq_false] at h
   exact⟨e,fun p hp q=>h p hp (by rw[q];exact Nat.beq_refl i)⟩
  ·cases h
 ·rintro ⟨h1,h2⟩
  rw[h1]
  simp only[Bool.not_eq_true',List.any_eq_false]
  intro p hp q
  exact h2 p hp (Nat.eq_of_beq_eq_true q)
theorem uqB_filter {p:Nat×Loc→Bool}:∀{lk:List (Nat×Loc)},uqB lk=true→uqB (lk.filter p)=true
 |[],_=>rfl
 |(i,l)::r,h=>by
  obtain⟨h1,h2⟩:=uqB_cons.1 h
  rw[List.filter_cons]
  split
  ·exact uqB_cons.2 ⟨uqB_filter h1,fun q hq=>h2 q (List.mem_filter.1 hq).1⟩
  ·exact uqB_filter h1
theorem uqB_lkSlot {d:Nat}{lk:List (Nat×Loc)}(h:uqB lk=true):uqB (lkSlot d lk)=true:=by rw[lkSlot_eq];exact uqB_filter h
theorem uqB_lkL {d:Nat}{lk:List (Nat×Loc)}(h:uqB lk=true):uqB (lkL d lk)=true:=by rw[lkL_eq];exact uqB_filter h
theorem uqB_lkB {d:Nat→Bool}{lk:List (Nat×Loc)}(h:uqB lk=true):uqB (lkB d lk)=true:=by rw[lkB_eq];exact uqB_filter h
theorem mem_lkNB:∀{lk:List (Nat×Loc)}{p:Nat×Loc},p∈lkNB lk→p∈lk∧∀i o,p.2 ≠ .B i o
 |(i,l)::r,p,h=>by
  unfold lkNB at h
  split at h
  ·obtain⟨a,b⟩:=mem_lkNB h;exact⟨List.mem_cons_of_mem _ a,b⟩
  ·rename_i hl
   rcases List.mem_cons.1 h with rfl | h
   ·exact⟨List.mem_cons_self,hl⟩
   ·obtain⟨a,b⟩:=mem_lkNB h;exact⟨List.mem_cons_of_mem _ a,b⟩
theorem mem_lkNC:∀{lk:List (Nat×Loc)}{p:Nat×Loc},p∈lkNC lk→p∈lk∧(∀i o,p.2 ≠ .B i o)∧p.2 ≠ .marked
 |(i,l)::r,p,h=>by
  unfold lkNC at h
  split at h
  ·obtain⟨a,b⟩:=mem_lkNC h;exact⟨List.mem_cons_of_mem _ a,b⟩
  ·obtain⟨a,b⟩:=mem_lkNC h;exact⟨List.mem_cons_of_mem _ a,b⟩
  ·rename_i hl hm
   rcases List.mem_cons.1 h with rfl | h
   ·exact⟨List.mem_cons_self,hl,hm⟩
   ·obtain⟨a,b⟩:=mem_lkNC h;exact⟨List.mem_cons_of_mem _ a,b⟩
theorem lkC_filter (f:Nat→Bool):∀lk:List (Nat×Loc),∃p:Nat×Loc→Bool,(lkC f lk=lk.filter p)∧∀q,(∀i o,q.2 ≠ .B i o)→q.2 ≠ .marked→p q=true:=by
 intro lk
 refine⟨fun q=>match q.2 with | .B id _=>!f id | .marked=>false | _=>true,?_,?_⟩
 ·induction lk with
  |nil=>rfl
  |cons q r ih =>
   obtain⟨i,l⟩:=q
   cases l with
   |B id o =>
    unfold lkC
    by_cases hf:f id=true
    ·simp[hf,ih]
    ·simp[hf,ih]
   |_=>simp[lkC,ih]
 ·rintro ⟨i,l⟩ h1 h2
  cases l with
  |B id o=>exact (h1 _ _ rfl).elim
  |marked=>exact (h2 rfl).elim
  |_=>rfl
theorem slotKp_iff {d i:Nat}{l:Loc}:slotKp d i l=true↔i≠d∧l ≠ .slot d:=by
 unfold slotKp
 have hb:∀a b:Nat,(!(Nat.beq a b))=true↔a≠b:=fun a b=>by
  constructor
  ·intro h e;subst e;rw[Nat.beq_refl] at h;cases h
  ·intro h;rw[beq_ff h];rfl
 rw[Bool.and_eq_true,hb]
 constructor
 ·rintro ⟨h1,h2⟩
  refine⟨h1,fun e=>?_⟩
  subst e
  simp only at h2
  exact (hb _ _).1 h2 rfl
 ·rintro ⟨h1,h2⟩
  refine⟨h1,?_⟩
  cases l with
  |slot j=>exact (hb _ _).2 fun e=>h2 (by rw[e])
  |_=>rfl
theorem lkSlot_sub {d:Nat}{s b:List (Nat×Loc)}(h:∀p,p∈s→p∈b):∀p,p∈lkSlot d s→p∈lkSlot d b:=by
 intro p hp
 rw[lkSlot_eq] at hp ⊢
 rw[List.mem_filter] at hp ⊢
 exact⟨h p hp.1,hp.2⟩
theorem lkSlot_le {d:Nat}{s:List (Nat×Loc)}:∀p,p∈lkSlot d s→p∈s:=by
 intro p hp
 rw[lkSlot_eq] at hp
 exact (List.mem_filter.1 hp).1
theorem lkL_sub {d:Nat}{s b:List (Nat×Loc)}(h:∀p,p∈s→p∈b):∀p,p∈lkL d s→p∈lkL d b:=by
 intro p hp
 rw[lkL_eq] at hp ⊢
 rw[List.mem_filter] at hp ⊢
 exact⟨h p hp.1,hp.2⟩
theorem lkNB_sub {f:Nat→Bool}{s b:List (Nat×Loc)}(h:∀p,p∈s→p∈b):∀p,p∈lkNB s→p∈lkB f b:=by
 intro p hp
 obtain⟨h1,h2⟩:=mem_lkNB hp
 rw[lkB_eq,List.mem_filter]
 refine⟨h p h1,?_⟩
 unfold bKp
 split
 ·rename_i e;exact (h2 _ _ e).elim
 ·rfl
theorem lkNC_sub {f:Nat→Bool}{s b:List (Nat×Loc)}(h:∀p,p∈s→p∈b):∀p,p∈lkNC s→p∈lkC f b:=by
 intro p hp
 obtain⟨h1,h2,h3⟩:=mem_lkNC hp
 obtain⟨q,e,hq⟩:=lkC_filter f b
 rw[e,List.mem_filter]
 exact⟨h p h1,hq _ h2 h3⟩
theorem lkHC_inv {R:Type}{ids:List Nat}:∀{s:List (Nat×Loc)}{K:List (Nat×Loc)→Option R}{r:R},lkHC ids s K=some r→∃t,K t=some r∧∀p,p∈t→p∈lkC (fun i=>!ids.contains i) s
 |[],K,r,h=>⟨[],h,fun _ hp=>by cases hp⟩
 |(i,l)::q,K,r,h=>by
  cases l with
  |B id off =>
   simp only[lkHC] at h
   split at h
   ·obtain⟨t,e,ht⟩:=lkHC_inv h
    refine⟨_,e,fun p hp=>?_⟩
    simp only[lkC,List.contains_nil,Bool.not_false,if_true]
    exact ht p hp
   ·obtain⟨h1,h⟩:=grd_inv h
    obtain⟨t,e,ht⟩:=lkHC_inv h
    refine⟨_,e,fun p hp=>?_⟩
    simp only[lkC,h1,Bool.not_true,Bool.false_eq_true,if_false]
    rcases List.mem_cons.1 hp with rfl | hp
    ·exact List.mem_cons_self
    ·exact List.mem_cons_of_mem _ (ht p hp)
  |marked =>
   simp only[lkHC] at h
   obtain⟨t,e,ht⟩:=lkHC_inv h
   exact⟨_,e,fun p hp=>by simp only[lkC];exact ht p hp⟩
  |slot j =>
   simp only[lkHC] at h
   obtain⟨t,e,ht⟩:=lkHC_inv h
   refine⟨_,e,fun p hp=>?_⟩
   simp only[lkC]
   rcases List.mem_cons.1 hp with rfl | hp
   ·exact List.mem_cons_self
   ·exact List.mem_cons_of_mem _ (ht p hp)
  |L k off =>
   simp only[lkHC] at h
   obtain⟨t,e,ht⟩:=lkHC_inv h
   refine⟨_,e,fun p hp=>?_⟩
   simp only[lkC]
   rcases List.mem_cons.1 hp with rfl | hp
   ·exact List.mem_cons_self
   ·exact List.mem_cons_of_mem _ (ht p hp)
def lkCp (f:Nat→Bool) (p:Nat×Loc):Bool:=match p.2 with
 |.B id _=>!f id
 |.marked=>false
 |_=>true
theorem lkC_flt (f:Nat→Bool) (l:List (Nat×Loc)):lkC f l=l.filter (lkCp f):=by
 induction l with
 |nil=>rfl
 |cons x r ih =>
  obtain⟨i,l⟩:=x
  cases l with
  |B id off=>cases h:f id<;>simp[lkC,lkCp,h,ih]
  |slot j=>simp[lkC,List.filter_cons,lkCp,ih]
  |L k o=>simp[lkC,List.filter_cons,lkCp,ih]
  |marked=>simp[lkC,lkCp,ih]
theorem lkC_mono {f:Nat→Bool}{s b:List (Nat×Loc)}(h:∀p,p∈s→p∈b):∀p,p∈lkC f s→p∈lkC f b:=by
 intro p hp
 rw[lkC_flt,List.mem_filter] at hp ⊢
 exact⟨h p hp.1,hp.2⟩
theorem uqB_lkC {f:Nat→Bool}{lk:List (Nat×Loc)}(h:uqB lk=true):uqB (lkC f lk)=true:=by
 obtain⟨q,e,_⟩:=lkC_filter f lk
 rw[e];exact uqB_filter h
theorem uqB_linkOf {lk:List (Nat×Loc)}(h:uqB lk=true) {i:Nat}{l:Loc}(hm:(i,l)∈lk):linkOf lk i=some l:=(uqB_uq h).linkOf hm
variable {s b:St}
theorem Sub.link (h:Sub s b) {i:Nat}{l:Loc}(e:linkOf s.lk i=some l):linkOf b.lk i=some l:=uqB_linkOf h.uq (h.lk _ (linkOf_mem e))
theorem Sub.set (h:Sub s b) (i:Nat) (v:IV) {c c':Cap}(hc:CapR c c'):Sub { s with env:=(i,v,c)::s.env } { b with env:=(i,v,c')::b.env } where
 env:=by
  intro j v' c1 hl
  simp only[look_cons] at hl ⊢
  split at hl
  ·rename_i e;subst e;cases hl;exact⟨c',by simp,hc⟩
  ·rename_i e;rw[if_neg e];exact h.env _ _ _ hl
 lk:=h.lk
 uq:=h.uq
 lb:=h.lb
 m:=h.m
theorem Sub.say (h:Sub s b) (i:Nat) (v:IV) {c c':Cap}(hb:look b.env i=some (v,c')) (hc:CapR c c'):Sub { s with env:=(i,v,c)::s.env } b where
 env:=by
  intro j v' c1 hl
  simp only[look_cons] at hl
  split at hl
  ·rename_i e;subst e;cases hl;exact⟨c',hb,hc⟩
  ·exact h.env _ _ _ hl
 lk:=h.lk
 uq:=h.uq
 lb:=h.lb
 m:=h.m
theorem Sub.refine (h:Sub s b) {i:Nat}{v:IV}{c:Cap}(e:look s.env i=some (v,c)):Sub { s with env:=(i,v,c)::s.env } b:=by
 obtain⟨c',h1,h2⟩:=h.env _ _ _ e
 exact h.say i v h1 h2
theorem Sub.lkSlot (h:Sub s b) (d:Nat):Sub { s with lk:=lkSlot d s.lk } { b with lk:=Idl.lkSlot d b.lk } where
 env:=h.env
 lk:=lkSlot_sub h.lk
 uq:=uqB_lkSlot h.uq
 lb:=h.lb
 m:=h.m
theorem Sub.lkDrop (h:Sub s b) {l:List (Nat×Loc)}(hl:∀p,p∈l→p∈s.lk):Sub { s with lk:=l } b where
 env:=h.env
 lk:=fun p hp=>h.lk p (hl p hp)
 uq:=h.uq
 lb:=h.lb
 m:=h.m
theorem Sub.lks (h:Sub s b) {l l':List (Nat×Loc)}(hl:∀p,p∈l→p∈l') (hu:uqB l'=true):Sub { s with lk:=l } { b with lk:=l' } where
 env:=h.env
 lk:=hl
 uq:=hu
 lb:=h.lb
 m:=h.m
theorem Sub.mem (h:Sub s b) (m:IM):Sub { s with m:=m } { b with m:=m } where
 env:=h.env
 lk:=h.lk
 uq:=h.uq
 lb:=h.lb
 m:=rfl
theorem Sub.box (h:Sub s b) (k:Nat) {o o':BObj}(ho:BR o o'):Sub { s with lb:=(k,o)::s.lb } { b with lb:=(k,o')::b.lb } where
 env:=h.env
 lk:=h.lk
 uq:=h.uq
 lb:=by
  intro j
  simp only[lookL_cons]
  split
  ·exact ho
  ·exact h.lb j
 m:=h.m
theorem rdC_inv {ty:Tys}{a:Arg}{K:Sh→IV→Option R}{r:R}(h:rdC ty s.env a K=some r) (hs:Sub s b):∃v,a.rd s.env=some v∧a.rd b.env=some v∧K (match a with | .t i=>tyOf ty i | .c v=>shV v) v=some r:=by
 cases a with
 |t i =>
  simp only[rdC] at h
  split at h
  ·rename_i v c e
   obtain⟨c',e',_⟩:=hs.env _ _ _ e
   exact⟨v,by simp[Arg.rd,e],by simp[Arg.rd,e'],h⟩
  ·cases h
 |c v=>exact⟨_,rfl,rfl,h⟩
theorem rdsC_inv {ty:Tys}:∀{as:List Arg}{K:List (Sh×IV)→Option R}{r:R},rdsC ty s.env as K=some r→Sub s b→∃l,rdAll b.env as=some (single l)∧K l=some r
 |[],K,r,h,_=>⟨[],rfl,h⟩
 |a::as,K,r,h,hs=>by
  obtain⟨v,_,e,h⟩:=rdC_inv h hs
  obtain⟨l,e',h⟩:=rdsC_inv h hs
  exact⟨_,by rw[rdAll,e,e'];rfl,h⟩
theorem cellsS_inv {sh:Sh}{v:IV}{K:List IV→Option R}{r:R}(h:cellsS sh v K=some r):v.isU=false∧v.isL=false∧K v.cells=some r:=by
 unfold cellsS at h
 split at h
 ·obtain⟨cs,rfl,h'⟩:=asA_inv h;exact⟨rfl,rfl,h'⟩
 ·obtain⟨h1,h2,h3,h⟩:=oneC_inv h;exact⟨h2,h3,by rw[h1];exact h⟩
theorem nbeq {a b:Nat}(h:Nat.beq a b=true):a=b:=Nat.eq_of_beq_eq_true h
theorem nble {a b:Nat}(h:Nat.ble a b=true):a≤b:=Nat.le_of_ble_eq_true h
theorem fillS_inv:∀{zero:List IV}{parts:List (Nat×Nat)}{l:List (Sh×IV)}{K:List IV→Option R}{r:R},fillS zero parts l K=some r→∃cs,fillI zero parts (single l)=some cs∧K cs=some r
 |zero,(off,n)::ps,(sh,v)::vs,K,r,h=>by
  unfold fillS at h
  obtain⟨h1,h2,h⟩:=cellsS_inv h
  obtain⟨h3,h⟩:=grd_inv h
  rw[Bool.and_eq_true] at h3
  obtain⟨cs,e,h⟩:=fillS_inv h
  refine⟨cs,?_,h⟩
  have e1:=nbeq h3.1
  have e2:=nble h3.2
  simp only[single,fillI]
  rw[if_pos (by simp[h1,h2,e1,e2])]
  exact e
 |cs,[],[],K,r,h=>⟨cs,rfl,h⟩
 |_,[],_::_,_,_,h=>by simp[fillS] at h
 |_,_::_,[],_,_,h=>by simp[fillS] at h
theorem capSl_own {v:IV}{X:Option R}{r:R}(h:isSl v X=some r):(∀z,capSl v z=.own z)∧v.cells=[v]∧v.isU=false∧v.isL=false∧X=some r:=by
 unfold isSl at h
 split at h
 ·exact⟨fun _=>rfl,rfl,rfl,rfl,h⟩
 ·exact⟨fun _=>rfl,rfl,rfl,rfl,h⟩
 ·cases h
end
section
variable {R:Type}{s b:St}{ty:Tys}{call:CallT}
theorem drop_slot {b:St}{i:Nat}{v:IV}{c:Cap}(e:look b.env i=some (v,c)):b.drop (.slot i)=some { b with env:=(i,v,.any)::b.env,lk:=lkSlot i b.lk }:=by
 simp only[St.drop,e,frc_eq]
theorem capR_any {c:Cap}(h:CapR .any c):c=.any:=by
 rcases h with h | h
 ·cases h
 ·exact h
theorem capR_own {z:Nat}{c:Cap}(h:CapR (.own z) c) (hz:z≠0):c=.own z:=by
 rcases h with h | h
 ·cases h;exact absurd rfl hz
 ·exact h
theorem mvC_inv {i:Nat}{xf:Bool}{K:IV→Cap→St→Option R}{r:R}(h:mvC s i xf K=some r) (hs:Sub s b) :
  ∃v c cb c' b',look b.env i=some (v,cb)∧CapR c c'∧((xf=false∧c'=.any∧b'=b)∨(xf=true∧cb=.any∧c'=.any∧b'=b)∨(xf=true∧∃sz,cb=.own sz∧c'=.own sz∧b.drop (.slot i)=some b')) ∧
   ∃s',Sub s' b'∧s'.lb=s.lb∧K v c s'=some r:=by
 unfold mvC at h
 split at h
 ·rename_i v c e
  obtain⟨cb,eb,hc⟩:=hs.env _ _ _ e
  split at h
  ·exact⟨v,.any,cb,.any,b,eb,CapR.refl _,.inl ⟨rfl,rfl,rfl⟩,s,hs,rfl,h⟩
  ·split at h
   ·have:=capR_any hc
    subst this
    exact⟨v,.any,.any,.any,b,eb,CapR.refl _,.inr (.inl ⟨rfl,rfl,rfl,rfl⟩),s,hs,rfl,h⟩
   ·rename_i sz
    cases cb with
    |any =>
     refine⟨v,.own sz,.any,.any,b,eb,hc,.inr (.inl ⟨rfl,rfl,rfl,rfl⟩),{ s with env:=(i,v,.any)::s.env,lk:=lkSlot i s.lk },?_,rfl,h⟩
     exact (hs.say i v eb (CapR.refl _)).lkDrop (lkSlot_le (s:=s.lk))
    |own z =>
     refine⟨v,.own sz,.own z,.own z,_,eb,hc,.inr (.inr ⟨rfl,z,rfl,rfl,drop_slot eb⟩),{ s with env:=(i,v,.any)::s.env,lk:=lkSlot i s.lk },?_,rfl,h⟩
     exact (hs.set i v (CapR.refl .any)).lkSlot i
 ·cases h
theorem slotC_of {e:Env}{i:Nat}{v:IV}{c:Cap}(h:look e i=some (v,c)):slotC e i=c:=by simp[slotC,h]
theorem rd_of {e:Env}{i:Nat}{v:IV}{c:Cap}(h:look e i=some (v,c)):(Arg.t i).rd e=some v:=by simp[Arg.rd,h]
theorem known_inv {c:Cap}{X:Option R}{r:R}(h:known c X=some r):(∀c',CapR c c'→c'=c)∧X=some r:=by
 unfold known at h
 split at h
 ·exact⟨fun c' hc=>capR_any hc,h⟩
 ·obtain⟨h1,h2⟩:=grd_inv h
  refine⟨fun c' hc=>capR_own hc fun e=>?_,h2⟩
  subst e
  cases h1
theorem stC_inv {lb:List (Nat×BObj)}{sh:Sh}{p:IV}{n:Nat}{cs:List IV}{c c':Cap}{K:St→Option R}{r:R}(h:stC lb sh p n cs c s K=some r) (hlb:s.lb=lb) (hs:Sub s b) (hc:CapR c c') :
  ∃b',storeI b n p cs c'=some b'∧∃s',Sub s' b'∧K s'=some r:=by
 unfold stC at h
 split at h
 ·split at h
  ·rename_i k off
   split at h
   ·rename_i bs cp e
    rw[←hlb] at e
    have hb:=hs.lb k
    rw[e] at hb
    obtain⟨cp',eb,hcp⟩:=hb.cells
    obtain⟨⟨n',hr⟩,h⟩:=refsC_inv h
    obtain⟨hg,h⟩:=grd_inv h
    rw[Bool.and_eq_true] at hg
    have e1:=nbeq hg.1
    have e2:=nble hg.2
    refine⟨{ b with lb:=(k,.cells (over bs off cs) (overCap cp' off n c'))::b.lb,lk:=lkL k b.lk },?_,_,?_,h⟩
    ·unfold storeI
     rw[if_neg (by simp[e1])]
     simp only[eb,hr,if_pos e2,frc_eq]
    ·exact (hs.box k (BR.mk (hcp.over off n hc))).lks (lkL_sub hs.lk) (uqB_lkL hs.uq)
   ·cases h
  ·cases h
 ·obtain⟨hk,h⟩:=known_inv h
  rw[hk c' hc]
  obtain⟨hg,h⟩:=grd_inv h
  have e1:=nbeq hg
  obtain⟨id,m',h,hst⟩:=stP_inv h
  have:=hst b hs.m.symm
  rw[e1] at this
  exact⟨_,this,_,(hs.mem m').lks (lkNB_sub hs.lk) (uqB_lkB hs.uq),h⟩
def nilApp (xs:List IV) (n:Nat):IV:=if n=0 then .nilSlice else .sl xs n
theorem nilApp_inv {bytes:Nat}{xs:List IV}{n:Nat}{K:IV→Option R}{r:R}(h:iteC (n==0) (K .nilSlice) (grd (decide (n*bytes≤maxLenI)) (K (.sl xs n)))=some r):(n=0∨n*bytes≤maxLenI)∧K (nilApp xs n)=some r:=by
 rcases iteC_inv h with ⟨h1,h⟩ | ⟨h1,h⟩
 ·have h1:n=0:=by simpa using h1
  exact⟨.inl h1,by rw[nilApp,if_pos h1];exact h⟩
 ·obtain⟨h2,h⟩:=grd_inv h
  have h1:n≠0:=by simpa using h1
  exact⟨.inr (of_decide_eq_true h2),by rw[nilApp,if_neg h1];exact h⟩
theorem appC_inv {sv:IV}{sz bytes:Nat}{xs:List IV}{n:Nat}{K:IV→Option R}{r:R}(h:appC sv sz bytes xs n K=some r) :
  (sv=.nilSlice∧(n=0∨n*bytes≤maxLenI)∧K (nilApp xs n)=some r)∨(∃row len,sv=.sl row len∧((len+n)*bytes≤maxLenI∧row.length=len*sz)∧K (.sl (row++xs) (len+n))=some r):=by
 unfold appC at h
 split at h
 ·exact .inl ⟨rfl,nilApp_inv h⟩
 ·obtain⟨h2,h⟩:=grd_inv h
  exact .inr ⟨_,_,rfl,of_decide_eq_true h2,h⟩
 ·cases h
theorem appN_inv {sv:IV}{bytes:Nat}{xs:List IV}{n:Nat}{K:IV→Option R}{r:R}(h:appN sv bytes xs n K=some r):sv=.nilSlice∧(n=0∨n*bytes≤maxLenI)∧K (nilApp xs n)=some r:=by
 unfold appN at h
 split at h
 ·exact⟨rfl,nilApp_inv h⟩
 ·cases h
theorem dropB_m {st st':St}{id off:Nat}(h:st.drop (.B id off)=some st') (b:St) (hb:b.m=st.m):b.drop (.B id off)=some { b with m:=st'.m }:=by
 simp only[St.drop] at h ⊢
 rw[hb]
 split at h
 ·simp only[frc_eq,IM.put] at h ⊢
  cases h;rfl
 ·cases h;rw[←hb]
theorem append_sl {call:CallT}{b:St}{sz bytes:Nat}{a x:Arg}{xv:IV}{row xs:List IV}{len n:Nat}{l:Loc}{b':St}(hx:x.rd b.env=some xv) (ha:a.rd b.env=some (.sl row len)) (hsrc:srcOf b.lb b.m sz xv=some (xs,n)) (hp:xs.all IV.plain=true) (hl:xs.length=n*sz)
  (ho:b.owner a sz=some l) (hg:(len+n)*bytes≤maxLenI∧row.length=len*sz) (hd:b.drop l=some b'):(IK.append sz bytes a x).run call b=some (.sl (row++xs) (len+n),.own sz,b'):=by
 have hq:(xs.all IV.plain&&xs.length==n*sz)=true:=by rw[hp,hl,beq_self_eq_true];rfl
 simp only[IK.run,hx,ha,hsrc,hq,if_true,ho,if_pos hg,hd]
theorem append_nil {call:CallT}{b:St}{sz bytes:Nat}{a x:Arg}{xv:IV}{xs:List IV}{n:Nat}(hx:x.rd b.env=some xv) (ha:a.rd b.env=some .nilSlice) (hsrc:srcOf b.lb b.m sz xv=some (xs,n)) (hp:xs.all IV.plain=true) (hl:xs.length=n*sz)
  (h:n=0∨n*bytes≤maxLenI):(IK.append sz bytes a x).run call b=some (nilApp xs n,.own sz,b):=by
 have hq:(xs.all IV.plain&&xs.length==n*sz)=true:=by rw[hp,hl,beq_self_eq_true];rfl
 simp only[IK.run,hx,ha,hsrc,hq,if_true,nilApp]
 by_cases h0:n=0
 ·rw[if_pos h0,if_pos h0]
 ·rcases h with h | h
  ·exact absurd h h0
  ·rw[if_neg h0,if_neg h0,if_pos h]
theorem ik_append {sz bytes:Nat}{a x:Arg}{K:IV→Cap→St→Option R}{r:R}(h:(IK.append sz bytes a x).den ty call s K=some r) (hs:Sub s b) :
  ∃v c c' b',(IK.append sz bytes a x).run call b=some (v,c',b')∧CapR c c'∧∃s',Sub s' b'∧K v c s'=some r:=by
 simp only[IK.den] at h
 obtain⟨xv,_,hx,h⟩:=rdC_inv h hs
 obtain⟨xs,n,h,hsrc⟩:=srcP_inv h
 rw[hs.m] at hsrc
 obtain⟨hp,h⟩:=plainC_inv h
 obtain⟨hl,h⟩:=grd_inv h
 have hl:=nbeq hl
 have hsrc:=hsrc b.lb
 cases a with
 |c sv =>
  simp only at h
  obtain⟨rfl,hn,h'⟩:=appN_inv h
  exact⟨_,_,_,b,append_nil hx rfl hsrc hp hl hn,CapR.refl _,s,hs,h'⟩
 |t i =>
  simp only at h
  split at h
  ·rename_i sv z e
   obtain⟨hz,h⟩:=grd_inv h
   simp only[Bool.and_eq_true,Bool.not_eq_true'] at hz
   obtain⟨hz1,hz2⟩:=hz
   have hz1:=nbeq hz1
   subst hz1
   have hz0:z≠0:=fun q=>by subst q;cases hz2
   obtain⟨cb,eb,hcb⟩:=hs.env _ _ _ e
   have:=capR_own hcb hz0
   subst this
   rcases appC_inv h with ⟨rfl,hn,h'⟩ | ⟨row,len,rfl,hg,h'⟩
   ·exact⟨_,_,_,b,append_nil hx (rd_of eb) hsrc hp hl hn,CapR.refl _,_,(hs.say i _ eb (CapR.unk _)).lkDrop (lkSlot_le (s:=s.lk)),h'⟩
   ·exact⟨_,_,_,_,append_sl hx (rd_of eb) hsrc hp hl (l:=.slot i) (by simp only[St.owner,slotC_of eb,if_true]) hg (drop_slot eb),CapR.refl _,_,(hs.set i _ (CapR.unk .any)).lkSlot i,h'⟩
  ·rename_i sv e
   obtain⟨cb,eb,hcb⟩:=hs.env _ _ _ e
   have:=capR_any hcb
   subst this
   split at h
   ·rename_i k off el
    have elb:=hs.link el
    split at h
    ·rename_i cs cp ek
     have hb:=hs.lb k
     rw[ek] at hb
     obtain⟨cp',ekb,hcp⟩:=hb.cells
     obtain⟨hz,h⟩:=grd_inv h
     simp only[Bool.and_eq_true,Bool.not_eq_true',decide_eq_true_eq] at hz
     obtain⟨hz1,hz2⟩:=hz
     have hz0:sz≠0:=fun q=>by subst q;cases hz2
     have hcap:=hcp.getD off
     rw[hz1] at hcap
     have hcap:=capR_own hcap hz0
     rcases appC_inv h with ⟨rfl,hn,h'⟩ | ⟨row,len,rfl,hg,h'⟩
     ·refine⟨_,_,_,b,append_nil hx (rd_of eb) hsrc hp hl hn,CapR.refl _,_,?_,h'⟩
      refine⟨hs.env,hs.lk,hs.uq,fun j=>?_,hs.m⟩
      simp only[lookL_cons]
      split
      ·rename_i q;subst q
       rw[ekb]
       refine BR.mk ?_
       have hset:CapsR (cp.set off unk) (cp'.set off (cp'.getD off .any)):=hcp.set off (CapR.unk _)
       have hid:cp'.set off (cp'.getD off .any)=cp':=by
        by_cases hlt:off<cp'.length
        ·rw[List.getD_eq_getElem?_getD,List.getElem?_eq_getElem hlt]
         simp
        ·rw[List.set_eq_of_length_le (by omega)]
       rw[hid] at hset
       exact hset
      ·exact hs.lb j
     ·refine⟨_,_,_,{ b with lb:=(k,.cells cs (cp'.set off .any))::b.lb },append_sl hx (rd_of eb) hsrc hp hl (l:=.L k off) ?_ hg ?_,CapR.refl _,_,hs.box k (BR.mk (hcp.set off (CapR.unk .any))),h'⟩
      ·simp only[St.owner,slotC_of eb,elb,St.capAt,ekb,hcap,if_true]
      ·simp only[St.drop,ekb,frc_eq]
    ·cases h
   ·rename_i id off el
    have elb:=hs.link el
    unfold appB at h
    split at h
    ·obtain⟨hn,h'⟩:=nilApp_inv (K:=fun v=>K v (.own sz) { s with m:=s.m }) h
     exact⟨_,_,_,b,append_nil hx (rd_of eb) hsrc hp hl hn,CapR.refl _,s,hs,h'⟩
    ·rename_i row len _
     obtain⟨h1,h⟩:=grd_inv h
     obtain⟨hg,h⟩:=grd_inv h
     have h1:=of_decide_eq_true h1
     have hg:=of_decide_eq_true hg
     split at h
     ·rename_i st ed
      have ed':=dropB_m ed b hs.m.symm
      have hcap:b.capAt (.B id off)=.own sz:=by
       rw[hs.m] at h1
       exact h1
      exact⟨_,_,_,_,append_sl hx (rd_of eb) hsrc hp hl (l:=.B id off) (by simp only[St.owner,slotC_of eb,elb,hcap,if_true]) hg ed',CapR.refl _,_,hs.mem st.m,h⟩
     ·cases h
    ·cases h
   ·rename_i j el
    have elb:=hs.link el
    split at h
    ·rename_i w z ej
     obtain⟨hz,h⟩:=grd_inv h
     simp only[Bool.and_eq_true,Bool.not_eq_true'] at hz
     obtain⟨hz1,hz2⟩:=hz
     have hz1:=nbeq hz1
     subst hz1
     have hz0:z≠0:=fun q=>by subst q;cases hz2
     obtain⟨cj,ejb,hcj⟩:=hs.env _ _ _ ej
     have:=capR_own hcj hz0
     subst this
     rcases appC_inv h with ⟨rfl,hn,h'⟩ | ⟨row,len,rfl,hg,h'⟩
     ·exact⟨_,_,_,b,append_nil hx (rd_of eb) hsrc hp hl hn,CapR.refl _,_,(hs.say j _ ejb (CapR.unk _)).lkDrop (lkSlot_le (s:=s.lk)),h'⟩
     ·exact⟨_,_,_,_,append_sl hx (rd_of eb) hsrc hp hl (l:=.slot j) (by simp only[St.owner,slotC_of eb,elb,St.capAt,slotC_of ejb,if_true]) hg (drop_slot ejb),CapR.refl _,_,(hs.set j _ (CapR.unk .any)).lkSlot j,h'⟩
    ·cases h
   ·obtain⟨rfl,hn,h'⟩:=appN_inv h
    exact⟨_,_,_,b,append_nil hx (rd_of eb) hsrc hp hl hn,CapR.refl _,s,hs,h'⟩
  ·cases h
theorem ik_store {n:Nat}{a x:Arg}{xf:Bool}{K:IV→Cap→St→Option R}{r:R}(h:(IK.store n a x xf).den ty call s K=some r) (hs:Sub s b) :
  ∃v c c' b',(IK.store n a x xf).run call b=some (v,c',b')∧CapR c c'∧∃s',Sub s' b'∧K v c s'=some r:=by
 simp only[IK.den] at h
 obtain⟨p,_,hp,h⟩:=rdC_inv h hs
 cases x with
 |c v =>
  simp only at h
  obtain⟨_,_,h⟩:=cellsS_inv h
  obtain⟨b',hst,s',hs',h⟩:=stC_inv h rfl hs (CapR.refl .any)
  refine⟨_,_,_,b',?_,CapR.refl _,s',hs',h⟩
  have hv:(Arg.c v).rd b.env=some v:=rfl
  cases xf<;>simp[IK.run,hp,hv,hst]
 |t i =>
  simp only at h
  obtain⟨v,c,cb,c',b1,eb,hcc,hcase,s1,hs1,hlb,h⟩:=mvC_inv h hs
  split at h
  ·obtain⟨_,_,h⟩:=cellsS_inv h
   have hc0:=capR_any hcc
   subst hc0
   obtain⟨b',hst,s',hs',h⟩:=stC_inv h hlb hs1 (CapR.refl .any)
   refine⟨_,_,_,b',?_,CapR.refl _,s',hs',h⟩
   rcases hcase with ⟨rfl,_,rfl⟩ | ⟨rfl,rfl,_,rfl⟩ | ⟨_,z,_,e,_⟩
   ·simp[IK.run,hp,rd_of eb,hst]
   ·simp[IK.run,hp,rd_of eb,slotC_of eb,hst]
   ·cases e
  ·rename_i sz
   obtain⟨hcs,hcells,_,_,h⟩:=capSl_own h
   rcases hcase with ⟨_,rfl,rfl⟩ | ⟨rfl,rfl,rfl,rfl⟩ | ⟨rfl,z,rfl,rfl,hd⟩
   ·obtain⟨b',hst,s',hs',h⟩:=stC_inv h hlb hs1 hcc
    refine⟨_,_,_,b',?_,CapR.refl _,s',hs',h⟩
    rename_i hxf
    subst hxf
    simp[IK.run,hp,rd_of eb,hcells,hst]
   ·obtain⟨b',hst,s',hs',h⟩:=stC_inv h hlb hs1 hcc
    refine⟨_,_,_,b',?_,CapR.refl _,s',hs',h⟩
    simp[IK.run,hp,rd_of eb,slotC_of eb,hcells,hst]
   ·obtain⟨b',hst,s',hs',h⟩:=stC_inv h hlb hs1 hcc
    refine⟨_,_,_,b',?_,CapR.refl _,s',hs',h⟩
    simp[IK.run,hp,rd_of eb,slotC_of eb,hd,hcells,hcs,hst]
end
section
variable {R:Type}{s b:St}{ty:Tys}{call:CallT}
theorem put_eq (st:St) (d:Option Nat) (v:IV) (c:Cap):st.put d v c=some (match d with | none=>st | some d=>{ st with env:=(d,v,c)::st.env,lk:=lkSlot d st.lk }):=by
 cases d with
 |none=>rfl
 |some d=>simp only[St.put,frc_eq,frcV_eq]
theorem mem_put (m:IM) (id:Nat) (o:BObj):m.put id o=some ⟨m.bs.set id o,m.esc⟩:=by simp only[IM.put,frc_eq]
theorem mem_push (m:IM) (o:BObj):m.push o=some (pushM m o):=by simp only[IM.push,frc_eq,pushM]
theorem hidC_inv:∀{hs:List Arg}{K:List Nat→Option R}{r:R},hidC s.env hs K=some r→Sub s b→K (hideIds b.env hs)=some r
 |[],K,r,h,_=>h
 |.c _::t,K,r,h,hs=>hidC_inv (hs:=t) h hs
 |.t i::t,K,r,h,hs=>by
  unfold hidC at h
  split at h
  ·rename_i v c e
   obtain⟨cb,eb,_⟩:=hs.env _ _ _ e
   split at h
   ·have:=hidC_inv h hs
    simp only[hideIds,eb]
    exact this
   ·rename_i hn
    have:=hidC_inv h hs
    simp only[hideIds,eb]
    cases v<;>first | exact this | exact (hn _ _ rfl).elim
  ·cases h
theorem callC_inv {c:Callee}{vs:List IV}{hide:List Arg}{K:IV→IM→Option R}{r:R}(h:callC call c vs (hideIds b.env hide) b.m K=some r) :
  ∃v m',callI call b c vs hide=some (v,.any,{ b with m:=m',lk:=lkC (fun i=>!(hideIds b.env hide).contains i) b.lk })∧K v m'=some r:=by
 unfold callC at h
 unfold callI
 simp only[frc_eq]
 split at h
 ·rename_i e1
  split at h
  ·rename_i e2
   split at h
   ·rename_i v m2 e3
    split at h
    ·rename_i m3 e4
     refine⟨v,m3,?_,h⟩
     simp only[e1,e2,e3,e4]
    ·cases h
   ·cases h
  ·cases h
 ·cases h
theorem ik_den {k:IK}{K:IV→Cap→St→Option R}{r:R}(h:k.den ty call s K=some r) (hs:Sub s b) :
  ∃v c c' b',k.run call b=some (v,c',b')∧CapR c c'∧∃s',Sub s' b'∧K v c s'=some r:=by
 cases k with
 |mv x xf lk =>
  cases x with
  |c v=>exact⟨_,_,_,b,rfl,CapR.refl _,s,hs,h⟩
  |t i =>
   simp only[IK.den] at h
   obtain⟨v,c,cb,c',b1,eb,hcc,hcase,s1,hs1,_,h⟩:=mvC_inv h hs
   refine⟨v,c,c',b1,?_,hcc,s1,hs1,h⟩
   rcases hcase with ⟨rfl,rfl,rfl⟩ | ⟨rfl,rfl,rfl,rfl⟩ | ⟨rfl,z,rfl,rfl,hd⟩
   ·simp[IK.run,rd_of eb]
   ·simp[IK.run,rd_of eb,slotC_of eb]
   ·simp[IK.run,rd_of eb,slotC_of eb,hd]
 |p o args =>
  simp only[IK.den] at h
  split at h
  ·rename_i j a a2
   split at h
   ·rename_i c cc e
    obtain⟨cb,eb,_⟩:=hs.env _ _ _ e
    rcases iteC_inv h with ⟨rfl,h'⟩ | ⟨rfl,h'⟩
    ·obtain⟨v,e1,e2,h⟩:=rdC_inv h' hs
     obtain⟨v2,e3⟩:=Arg.rd_some b.env a2
     refine⟨v,_,_,b,?_,CapR.refl _,_,hs.refine e,h⟩
     simp[IK.run,rdAll,rd_of eb,e2,e3,POp.ev]
    ·obtain⟨v,e1,e2,h⟩:=rdC_inv h' hs
     obtain⟨v2,e3⟩:=Arg.rd_some b.env a
     refine⟨v,_,_,b,?_,CapR.refl _,_,hs.refine e,h⟩
     simp[IK.run,rdAll,rd_of eb,e2,e3,POp.ev]
   ·cases h
  ·obtain⟨l,e,h⟩:=rdsC_inv h hs
   obtain⟨cs,e2,h⟩:=fillS_inv h
   refine⟨_,_,_,b,?_,CapR.refl _,s,hs,h⟩
   simp[IK.run,e,POp.ev,e2]
  ·obtain⟨l,e,h⟩:=rdsC_inv h hs
   obtain⟨v,e2,h⟩:=evC_inv h
   refine⟨v,_,_,b,?_,CapR.refl _,s,hs,h⟩
   simp only[IK.run,e,e2]
 |same x =>
  simp only[IK.den] at h
  split at h
  ·rename_i i
   split at h
   ·rename_i row len c e
    obtain⟨cb,eb,hcb⟩:=hs.env _ _ _ e
    obtain⟨hm,h⟩:=grd_inv h
    have hm:=hs.link (of_decide_eq_true hm)
    cases cb with
    |any =>
     split at h
     ·refine⟨_,_,_,b,?_,hcb,_,(hs.say i _ eb (CapR.refl _)).lkDrop (lkSlot_le (s:=s.lk)),h⟩
      simp[IK.run,rd_of eb,hm,slotC_of eb]
     ·refine⟨_,_,_,b,?_,CapR.refl _,s,hs,h⟩
      simp[IK.run,rd_of eb,hm,slotC_of eb]
    |own z =>
     split at h
     ·refine⟨_,_,_,_,?_,hcb,_,(hs.set i _ (CapR.refl .any)).lkSlot i,h⟩
      simp[IK.run,rd_of eb,hm,slotC_of eb,drop_slot eb]
     ·have:=capR_any hcb;cases this
   ·cases h
  ·cases h
 |load agg n a lk =>
  simp only[IK.den] at h
  obtain⟨p,e1,e2,h⟩:=rdC_inv h hs
  have key:∀v,loadI b.lb b.m agg n p=some v→(IK.load agg n a lk).run call b=some (v,.any,b):=by
   intro v hv
   simp only[IK.run,e2,hv]
  split at h
  ·split at h
   ·rename_i k off
    split at h
    ·rename_i cs cp ek
     have hb:=hs.lb k
     rw[ek] at hb
     obtain⟨cp',ekb,_⟩:=hb.cells
     obtain⟨v,h,hv⟩:=cutC_inv h
     exact⟨v,_,_,b,key v (load_of (fun n=>by simp only[cellsAt,ekb]) hv),CapR.refl _,s,hs,h⟩
    ·cases h
   ·cases h
  ·obtain⟨v,h,hv⟩:=ldP_inv h
   rw[hs.m] at hv
   exact⟨v,_,_,b,key v (hv _),CapR.refl _,s,hs,h⟩
 |store n a x xf=>exact ik_store h hs
 |allocL k zero cp =>
  simp only[IK.den] at h
  split at h
  ·rename_i e
   have hb:=hs.lb k
   rw[e] at hb
   refine⟨_,_,_,{ b with lb:=(k,.cells zero (zipCap zero cp))::b.lb },?_,CapR.refl _,_,hs.box k (BR.refl _),h⟩
   simp only[IK.run,newL,hb.none]
  ·cases h
 |allocG zero cp =>
  simp only[IK.den] at h
  refine⟨_,_,_,{ b with m:=pushM b.m (.cells zero (zipCap zero cp))},?_,CapR.refl _,_,?_,h⟩
  ·simp only[IK.run,newG,mem_push,hs.m]
  ·rw[hs.m];exact hs.mem _
 |boxL k n x =>
  simp only[IK.den] at h
  obtain⟨v,_,e2,h⟩:=rdC_inv h hs
  obtain⟨_,_,h⟩:=cellsS_inv h
  obtain⟨⟨n',hr⟩,h⟩:=refsC_inv h
  obtain⟨hl,h⟩:=grd_inv h
  have hl:=nbeq hl
  split at h
  ·rename_i e
   have hb:=hs.lb k
   rw[e] at hb
   refine⟨_,_,_,{ b with lb:=(k,.cells v.cells (zipCap v.cells []))::b.lb },?_,CapR.refl _,_,hs.box k (BR.refl _),h⟩
   simp only[IK.run,e2,hr,hl,if_true,newL,hb.none]
  ·cases h
 |boxG n x =>
  simp only[IK.den] at h
  obtain⟨v,_,e2,h⟩:=rdC_inv h hs
  obtain⟨_,_,h⟩:=cellsS_inv h
  obtain⟨⟨n',hr⟩,h⟩:=refsC_inv h
  obtain⟨hl,h⟩:=grd_inv h
  have hl:=nbeq hl
  refine⟨_,_,_,{ b with m:=pushM b.m (.cells v.cells (zipCap v.cells []))},?_,CapR.refl _,_,?_,h⟩
  ·simp only[IK.run,e2,hr,hl,if_true,newG,mem_push,hs.m]
  ·rw[hs.m];exact hs.mem _
 |boxI n x =>
  simp only[IK.den] at h
  obtain⟨v,_,e2,h⟩:=rdC_inv h hs
  obtain⟨hu,hL,h⟩:=cellsS_inv h
  obtain⟨hp,h⟩:=plainC_inv h
  obtain⟨hl,h⟩:=grd_inv h
  have hl:=nbeq hl
  refine⟨_,_,_,b,?_,CapR.refl _,s,hs,h⟩
  simp only[IK.run,e2]
  rw[if_pos ⟨hp,hl,hu,hL⟩]
 |buildSlice sz len zero parts args =>
  simp only[IK.den] at h
  obtain⟨l,e,h⟩:=rdsC_inv h hs
  obtain⟨cs,e2,h⟩:=fillS_inv h
  obtain⟨hp,h⟩:=plainC_inv h
  refine⟨_,_,_,b,?_,CapR.refl _,s,hs,h⟩
  simp only[IK.run,e,e2,hp,if_true]
 |strBytes x =>
  simp only[IK.den] at h
  obtain⟨v,_,e2,h⟩:=rdC_inv h hs
  obtain⟨t,e3,h⟩:=asS_inv h
  subst e3
  obtain⟨hl,h⟩:=grd_inv h
  have hl:=of_decide_eq_true hl
  refine⟨_,_,_,b,?_,CapR.refl _,s,hs,h⟩
  simp only[IK.run,e2,if_pos hl]
 |makeI sz bytes zero len cap =>
  simp only[IK.den] at h
  obtain⟨v,_,e2,h⟩:=rdC_inv h hs
  obtain⟨l,rfl,h1⟩:=asI_inv h
  obtain⟨v,_,e3,h2⟩:=rdC_inv h1 hs
  obtain⟨c,rfl,h3⟩:=asI_inv h2
  obtain⟨hg,h⟩:=grd_inv h3
  have hg:=of_decide_eq_true hg
  refine⟨_,_,_,b,?_,CapR.refl _,s,hs,h⟩
  simp only[IK.run,e2,e3,if_pos hg]
 |makeB sz bytes zero len cap =>
  simp only[IK.den] at h
  obtain⟨v,_,e2,h⟩:=rdC_inv h hs
  obtain⟨l,rfl,h1⟩:=asI_inv h
  obtain⟨v,_,e3,h2⟩:=rdC_inv h1 hs
  obtain⟨c,rfl,h3⟩:=asI_inv h2
  obtain⟨hg,h⟩:=grd_inv h3
  have hg:=of_decide_eq_true hg
  refine⟨_,_,_,{ b with m:=pushM b.m (.cells (repl zero c.toNat) (zipCap (repl zero c.toNat) []))},?_,CapR.refl _,_,?_,h⟩
  ·simp only[IK.run,e2,e3,if_pos hg,newG,mem_push,hs.m]
  ·rw[hs.m];exact hs.mem _
 |append sz bytes a x=>exact ik_append h hs
 |copy sz d x =>
  simp only[IK.den] at h
  obtain⟨dv,_,e2,h⟩:=rdC_inv h hs
  obtain⟨xv,_,e3,h⟩:=rdC_inv h hs
  obtain⟨xs,k,h,hsrc⟩:=srcP_inv h
  rw[hs.m] at hsrc
  have hsrc:=hsrc b.lb
  unfold cpC at h
  obtain⟨hl,h⟩:=grd_inv h
  have hl:xs.length=k*sz:=of_decide_eq_true hl
  unfold cpS at h
  cases dv with
  |sB id off n z =>
   simp only at h
   split at h
   ·rename_i st est
    have est':=storeB_m est b hs.m.symm
    refine⟨_,_,_,{ b with m:=st.m,lk:=lkB (· == id) b.lk },?_,CapR.refl _,_,(hs.mem st.m).lks (lkNB_sub hs.lk) (uqB_lkB hs.uq),h⟩
    simp only[IK.run,e2,e3,hsrc]
    rw[if_neg (by simp[hl]),est']
   ·cases h
  |nilSlice =>
   simp only at h
   refine⟨.int .i64 (0:Nat),.any,.any,b,?_,CapR.refl _,{ s with lk:=lkNB s.lk },hs.lkDrop (l:=lkNB s.lk) (fun p hp=>(mem_lkNB hp).1),h⟩
   ·simp only[IK.run,e2,e3,hsrc]
    rw[if_neg (by simp[hl])]
    rfl
  |_=>cases h
 |callF f args hide =>
  simp only[IK.den] at h
  obtain⟨l,e,h⟩:=rdsC_inv h hs
  have h:=hidC_inv h hs
  rw[hs.m] at h
  obtain⟨v,m',e2,h⟩:=callC_inv h
  obtain⟨t,h,ht⟩:=lkHC_inv h
  refine⟨v,_,_,_,by simp only[IK.run,e];exact e2,CapR.refl _,_,(hs.mem m').lks (fun p hp=>lkC_mono hs.lk p (ht p hp)) (uqB_lkC hs.uq),h⟩
 |callV g args hide =>
  simp only[IK.den] at h
  obtain⟨l,e,h⟩:=rdsC_inv h hs
  obtain⟨gv,_,eg,h⟩:=rdC_inv h hs
  have h:=hidC_inv h hs
  rw[hs.m] at h
  unfold callVC at h
  split at h
  ·obtain⟨v,m',e2,h⟩:=callC_inv h
   refine⟨v,_,_,_,by simp only[IK.run,e,eg];exact e2,CapR.refl _,_,(hs.mem m').lks (lkNC_sub hs.lk) (uqB_lkC hs.uq),h⟩
  ·obtain⟨v,m',e2,h⟩:=callC_inv h
   refine⟨v,_,_,_,by simp only[IK.run,e,eg];exact e2,CapR.refl _,_,(hs.mem m').lks (lkNC_sub hs.lk) (uqB_lkC hs.uq),h⟩
  ·cases h
 |mkMap =>
  simp only[IK.den] at h
  refine⟨_,_,_,{ b with m:=pushM b.m (.map [])},?_,CapR.refl _,_,?_,h⟩
  ·simp only[IK.run,newG,mem_push,hs.m]
  ·rw[hs.m];exact hs.mem _
 |lookup d zero ok a x =>
  simp only[IK.den] at h
  obtain⟨mp,_,e2,h⟩:=rdC_inv h hs
  obtain⟨k,_,e3,h⟩:=rdC_inv h hs
  unfold lkpC at h
  rw[hs.m] at h
  split at h
  ·refine⟨_,_,_,b,?_,CapR.refl _,s,hs,h⟩
   simp only[IK.run,e2,e3]
   cases ok<;>rfl
  ·split at h
   ·rename_i em
    split at h
    ·rename_i ef
     refine⟨_,_,_,b,?_,CapR.refl _,s,hs,h⟩
     simp only[IK.run,e2,e3,em,ef]
     cases ok<;>rfl
    ·rename_i ef
     refine⟨_,_,_,b,?_,CapR.refl _,s,hs,h⟩
     simp only[IK.run,e2,e3,em,ef]
     cases ok<;>rfl
    ·cases h
   ·cases h
  ·cases h
 |mapUpd d a x y =>
  simp only[IK.den] at h
  obtain⟨mp,_,e2,h⟩:=rdC_inv h hs
  obtain⟨k,_,e3,h⟩:=rdC_inv h hs
  obtain⟨v,_,e4,h⟩:=rdC_inv h hs
  unfold mupC at h
  rw[hs.m] at h
  split at h
  ·split at h
   ·rename_i em
    split at h
    ·rename_i eu ep
     refine⟨_,_,_,{ b with m:=⟨b.m.bs.set _ _,b.m.esc⟩},?_,CapR.refl _,_,hs.mem _,h⟩
     simp only[IK.run,e2,e3,e4,em,eu,ep,mem_put]
    ·cases h
   ·cases h
  ·cases h
 |mapLen a =>
  simp only[IK.den] at h
  obtain⟨mp,_,e2,h⟩:=rdC_inv h hs
  unfold mlnC at h
  rw[hs.m] at h
  split at h
  ·exact⟨_,_,_,b,by simp only[IK.run,e2];rfl,CapR.refl _,s,hs,h⟩
  ·split at h
   ·rename_i em
    exact⟨_,_,_,b,by simp only[IK.run,e2,em],CapR.refl _,s,hs,h⟩
   ·cases h
  ·cases h
 |bytesM x =>
  simp only[IK.den] at h
  obtain⟨v,_,e2,h⟩:=rdC_inv h hs
  unfold bymC at h
  rw[hs.m] at h
  split at h
  ·rename_i t et
   have et:bytesAt b.lb b.m v=some t:=by
    rw[←et]
    cases v<;>rfl
   exact⟨_,_,_,b,by simp only[IK.run,e2,et],CapR.refl _,s,hs,h⟩
  ·cases h
 |rangeStr k x =>
  simp only[IK.den] at h
  obtain⟨v,_,e2,h⟩:=rdC_inv h hs
  obtain⟨t,e3,h⟩:=asS_inv h
  subst e3
  split at h
  ·rename_i e
   have hb:=hs.lb k
   rw[e] at hb
   refine⟨_,_,_,{ b with lb:=(k,.iter t 0)::b.lb },?_,CapR.refl _,_,hs.box k (BR.refl _),h⟩
   simp only[IK.run,e2,newL,hb.none]
  ·cases h
 |nextStr a =>
  simp only[IK.den] at h
  obtain⟨p,e1,e2,h⟩:=rdC_inv h hs
  clear e1
  split at h
  ·rename_i q1 k
   split at h
   ·rename_i q3 t pos e
    have hb:=hs.lb k
    rw[e] at hb
    have hb:=hb.iter
    rcases iteC_inv h with ⟨hp,h'⟩ | ⟨hp,h'⟩
    ·have hp:=of_decide_eq_true hp
     refine⟨_,_,_,{ b with lb:=(k,.iter t (pos+(Utf8.decode ⟨⟨t⟩⟩ pos).2))::b.lb },?_,CapR.refl _,_,hs.box k (BR.refl _),h'⟩
     simp only[IK.run,e2,hb,if_pos hp]
    ·have hp:=of_decide_eq_false hp
     refine⟨_,_,_,b,?_,CapR.refl _,s,hs,h'⟩
     simp only[IK.run,e2,hb,if_neg hp]
   ·cases h
  ·cases h
theorem link_eq {k:IK}{K:IV→Cap→St→Option R}{r:R}(h:k.den ty call s K=some r) (hs:Sub s b):k.link b.env=k.link s.env:=by
 cases k with
 |load agg n a lk =>
  simp only[IK.den] at h
  obtain⟨p,e1,e2,h⟩:=rdC_inv h hs
  cases agg<;>cases lk<;>simp[IK.link,e1,e2]
 |mv x xf lk=>cases x<;>cases xf<;>cases lk<;>rfl
 |buildSlice sz _ _ _ _=>unfold IK.link;by_cases q:sz=1<;>simp[q]
 |_=>rfl
theorem adrC_inv {a:Arg}{t:OTag}{X:Option R}{r:R}(h:adrC s.env a t X=some r) (hs:Sub s b):addrOK b.env a t=true∧X=some r:=by
 have hn:∀{v:IV},notL v X=some r→(match (some v:Option IV) with | some (.pL ..)=>false | _=>true)=true∧X=some r:=by
  intro v h
  obtain⟨h1,h2⟩:=notL_inv h
  refine⟨?_,h2⟩
  cases v<;>first | rfl | cases h1
 cases a with
 |c v =>
  unfold adrC at h
  simp only at h
  split at h
  ·split at h
   ·exact⟨rfl,h⟩
   ·cases h
  ·exact hn h
  ·split at h
   ·obtain⟨h1,h2⟩:=grd_inv h
    exact⟨h1,h2⟩
   ·cases h
  ·cases h
 |t i =>
  unfold adrC at h
  simp only at h
  split at h
  ·rename_i v c e
   obtain⟨cb,eb,_⟩:=hs.env _ _ _ e
   have er:=rd_of eb
   split at h
   ·split at h
    ·exact⟨by simp only[addrOK,er],h⟩
    ·cases h
   ·obtain⟨h1,h2⟩:=hn h
    exact⟨by simp only[addrOK,er];exact h1,h2⟩
   ·split at h
    ·obtain⟨h1,h2⟩:=grd_inv h
     exact⟨by simp only[addrOK,er];exact h1,h2⟩
    ·cases h
   ·split at h
    ·rename_i w _ e2
     obtain⟨cb2,eb2,_⟩:=hs.env _ _ _ e2
     obtain⟨id,o,rfl,h⟩:=asP_inv h
     rename_i h0
     obtain⟨id',o',rfl,h⟩:=asP_inv h0
     rename_i h0
     obtain⟨h1,h2⟩:=grd_inv h0
     exact⟨by simp only[addrOK,er,eb2];exact h1,h2⟩
    ·cases h
   ·cases h
  ·cases h
theorem apoC_inv {i:Nat}{t:OTag}{X:Option R}{r:R}(h:apoC s.env s.lk i t X=some r) (hs:Sub s b) (hreq:∀v c,look s.env i=some (v,c)→∀z,c=.own z→z≠0):appOK b.env b.lk i t=true∧X=some r:=by
 unfold apoC at h
 split at h
 ·rename_i v c e
  obtain⟨cb,eb,hcb⟩:=hs.env _ _ _ e
  split at h
  ·rename_i z
   have:=capR_own hcb (hreq _ _ e z rfl)
   subst this
   refine⟨?_,h⟩
   unfold appOK
   rw[eb]
   cases v<;>rfl
  ·have:=capR_any hcb
   subst this
   split at h
   ·rename_i l el
    have elb:=hs.link el
    obtain⟨h1,h2⟩:=grd_inv h
    refine⟨?_,h2⟩
    unfold appOK
    rw[eb,elb]
    cases v<;>first | rfl | exact h1
   ·split at h
    ·refine⟨?_,h⟩
     unfold appOK
     rw[eb]
    ·cases h
 ·cases h
theorem lkSlotC_eq {d:Nat}:∀{lk:List (Nat×Loc)}{K:List (Nat×Loc)→Option R},lkSlotC d lk K=K (lkSlot d lk)
 |[],K=>rfl
 |(i,l)::r,K=>by
  unfold lkSlotC
  rw[lkSlotC_eq]
  simp only[lkSlot]
  cases hi:Nat.beq i d with
  |true=>rw[if_pos (nbeq hi)]
  |false =>
   have hi':¬i=d:=fun e=>by subst e;rw[Nat.beq_refl] at hi;cases hi
   rw[if_neg hi']
   cases l with
   |slot j =>
    cases hj:Nat.beq j d with
    |true=>simp only[if_pos (nbeq hj),hj]
    |false =>
     have hj':¬j=d:=fun e=>by subst e;rw[Nat.beq_refl] at hj;cases hj
     simp only[if_neg hj',hj]
   |_=>rfl
theorem lnkC_inv {k:IK}{env:Env}{K:Option Loc→Option R}{r:R}(h:lnkC ty env k K=some r):∃l,K l=some r∧(l=none∨l=k.link env):=by
 unfold lnkC at h
 split at h
 ·exact⟨_,h,.inr rfl⟩
 ·exact⟨_,h,.inr rfl⟩
 ·exact⟨_,h,.inr rfl⟩
 ·split at h
  ·split at h
   ·rename_i e
    exact⟨_,h,.inr (by simp[IK.link,Arg.rd,e])⟩
   ·cases h
  ·split at h
   ·rename_i e
    exact⟨_,h,.inr (by simp[IK.link,Arg.rd,e])⟩
   ·cases h
  ·split at h
   ·rename_i e
    exact⟨_,h,.inr (by simp[IK.link,Arg.rd,e])⟩
   ·cases h
  ·exact⟨_,h,.inl rfl⟩
 ·exact⟨_,h,.inl rfl⟩
theorem off_inv {d:Option Nat}{K:St→Option R}{r:R}(h:offC d s K=some r) (hs:Sub s b):∃b',b.put d (.tup []) .any=some b'∧∃s',Sub s' b'∧K s'=some r:=by
 cases d with
 |none=>exact⟨b,rfl,s,hs,h⟩
 |some d =>
  simp only[offC,lkSlotC_eq] at h
  exact⟨_,put_eq _ _ _ _,_,(hs.set d _ (CapR.refl .any)).lkSlot d,h⟩
theorem lkSlot_self {d:Nat}{lk:List (Nat×Loc)}:∀p∈lkSlot d lk,p.1≠d:=by
 intro p hp
 rw[lkSlot_eq,List.mem_filter] at hp
 exact (slotKp_iff.1 hp.2).1
theorem gate_inv {g:Option (Nat×Bool)}{A B:St→Option R}{r:R}(h:gateC s g A B=some r) (hs:Sub s b) :
  (gate b.env g=some true∧∃s',Sub s' b∧A s'=some r)∨(gate b.env g=some false∧∃s',Sub s' b∧B s'=some r):=by
 unfold gateC at h
 split at h
 ·exact .inl ⟨rfl,s,hs,h⟩
 ·rename_i j want
  split at h
  ·rename_i x c e
   obtain⟨cb,eb,_⟩:=hs.env _ _ _ e
   split at h
   ·rcases iteC_inv h with ⟨rfl,h'⟩ | ⟨rfl,h'⟩
    ·exact .inl ⟨by simp[gate,eb],_,hs.refine e,h'⟩
    ·exact .inr ⟨by simp[gate,eb],_,hs.refine e,h'⟩
   ·rcases iteC_inv h with ⟨rfl,h'⟩ | ⟨rfl,h'⟩
    ·exact .inr ⟨by simp[gate,eb],_,hs.refine e,h'⟩
    ·exact .inl ⟨by simp[gate,eb],_,hs.refine e,h'⟩
  ·rename_i e
   obtain⟨cb,eb,_⟩:=hs.env _ _ _ e
   exact .inr ⟨by simp[gate,eb],s,hs,h⟩
  ·cases h
def okB (k:IK) (t:OTag) (b:St):Bool:=match k with
 |.load _ _ a _=>addrOK b.env a t
 |.store _ a _ _=>addrOK b.env a t
 |.nextStr a=>addrOK b.env a t
 |.append _ _ (.t i) _=>appOK b.env b.lk i t
 |_=>false
theorem ok_okB (k:IK) {t:OTag}(b:St) (ht:t ≠ .none):k.ok t b=okB k t b:=by
 unfold IK.ok okB
 cases t<;>first | exact absurd rfl ht | rfl
theorem ok_inv {k:IK}{t:OTag}{K:IV→Cap→St→Option R}{r:R}(h:okC k t s (k.den ty call s K)=some r) (hs:Sub s b):k.ok t b=true∧k.den ty call s K=some r:=by
 unfold okC at h
 split at h
 ·cases k<;>exact⟨rfl,h⟩
 ·rename_i ht
  have hok:=ok_okB k (t:=t) b ht
  rw[hok]
  unfold okB
  split at h
  ·obtain⟨h1,h2⟩:=adrC_inv h hs;exact⟨h1,h2⟩
  ·obtain⟨h1,h2⟩:=adrC_inv h hs;exact⟨h1,h2⟩
  ·obtain⟨h1,h2⟩:=adrC_inv h hs;exact⟨h1,h2⟩
  ·rename_i sz bytes i x
   have hden:(IK.append sz bytes (.t i) x).den ty call s K=some r:=by
    unfold apoC at h
    split at h
    ·split at h
     ·exact h
     ·split at h
      ·exact (grd_inv h).2
      ·split at h
       ·exact h
       ·cases h
    ·cases h
   obtain⟨h1,h2⟩:=apoC_inv h hs (fun v c e z hc=>by
    subst hc
    simp only[IK.den] at hden
    obtain⟨xv,_,hx,hden⟩:=rdC_inv hden hs
    obtain⟨xs,n,hden,hsrc⟩:=srcP_inv hden
    obtain⟨hp,hden⟩:=plainC_inv hden
    obtain⟨hl,hden⟩:=grd_inv hden
    rw[e] at hden
    simp only at hden
    obtain⟨hz,_⟩:=grd_inv hden
    simp only[Bool.and_eq_true,Bool.not_eq_true'] at hz
    have:=nbeq hz.1
    intro q
    subst q
    rw[←this] at hz
    exact absurd hz.2 (by decide))
   exact⟨h1,h2⟩
  ·cases h
theorem op_den {o:IOp}{K:St→Option R}{r:R}(h:o.den ty call s K=some r) (hs:Sub s b):∃b',o.run call b=some b'∧∃s',Sub s' b'∧K s'=some r:=by
 unfold IOp.den at h
 rcases gate_inv h hs with ⟨hg,s1,hs1,h⟩ | ⟨hg,s1,hs1,h⟩
 ·obtain⟨hok,h⟩:=ok_inv h hs1
  have hl:=link_eq h hs1
  obtain⟨v,c,c',b1,hrun,hc,s2,hs2,h⟩:=ik_den h hs1
  have hrun0:∀b2,(match o.dst,o.k.link b.env with
    |some d,some l=>if l=.slot d then some (match o.dst with | none=>b1 | some d=>{ b1 with env:=(d,v,c')::b1.env,lk:=lkSlot d b1.lk }) else some { (match o.dst with | none=>b1 | some d=>{ b1 with env:=(d,v,c')::b1.env,lk:=lkSlot d b1.lk }) with lk:=(d,l)::(match o.dst with | none=>b1 | some d=>{ b1 with env:=(d,v,c')::b1.env,lk:=lkSlot d b1.lk }).lk }
    |_,_=>some (match o.dst with | none=>b1 | some d=>{ b1 with env:=(d,v,c')::b1.env,lk:=lkSlot d b1.lk }))=some b2→o.run call b=some b2:=by
   intro b2 e
   unfold IOp.run
   simp only[hg,hok]
   unfold IOp.run0
   simp only[hg,hrun,put_eq]
   exact e
  unfold putC at h
  cases hd:o.dst with
  |none =>
   rw[hd] at h hrun0
   exact⟨b1,hrun0 b1 (by rfl),s2,hs2,h⟩
  |some d =>
   rw[hd] at h hrun0
   have h:=asSh_inv h
   rw[lkSlotC_eq] at h
   obtain⟨l0,h,hl0⟩:=lnkC_inv h
   rw[←hl] at hl0
   cases hk:o.k.link b.env with
   |none =>
    rw[hk] at hl0 hrun0
    have:l0=none:=by rcases hl0 with e | e<;>exact e
    subst this
    exact⟨_,hrun0 _ rfl,_,(hs2.set d v hc).lkSlot d,h⟩
   |some l =>
    rw[hk] at hl0 hrun0
    simp only at h hrun0
    have hbig:∃b2,o.run call b=some b2∧Sub { s2 with env:=(d,v,c)::s2.env,lk:=lkSlot d s2.lk } b2∧(l ≠ .slot d→Sub { s2 with env:=(d,v,c)::s2.env,lk:=(d,l)::lkSlot d s2.lk } b2):=by
     by_cases q:l=.slot d
     ·exact⟨_,hrun0 _ (if_pos q),(hs2.set d v hc).lkSlot d,fun n=>absurd q n⟩
     ·refine⟨_,hrun0 _ (if_neg q),?_,fun _=>?_⟩
      ·refine ((hs2.set d v hc).lkSlot d).lks (l:=lkSlot d s2.lk) (l':=(d,l)::lkSlot d b1.lk) ?_ ?_
       ·intro p hp
        exact List.mem_cons_of_mem _ (lkSlot_sub hs2.lk p hp)
       ·exact uqB_cons.2 ⟨uqB_lkSlot hs2.uq,lkSlot_self⟩
      ·refine ((hs2.set d v hc).lkSlot d).lks (l:=(d,l)::lkSlot d s2.lk) (l':=(d,l)::lkSlot d b1.lk) ?_ ?_
       ·intro p hp
        rcases List.mem_cons.1 hp with rfl | hp
        ·exact List.mem_cons_self
        ·exact List.mem_cons_of_mem _ (lkSlot_sub hs2.lk p hp)
       ·exact uqB_cons.2 ⟨uqB_lkSlot hs2.uq,lkSlot_self⟩
    obtain⟨b2,hr,hsub1,hsub2⟩:=hbig
    rcases hl0 with rfl | rfl
    ·exact⟨b2,hr,_,hsub1,h⟩
    ·cases l with
     |slot j =>
      simp only at h
      split at h
      ·exact⟨b2,hr,_,hsub1,h⟩
      ·rename_i hj
       exact⟨b2,hr,_,hsub2 (fun e=>by cases e;rw[Nat.beq_refl] at hj;cases hj),h⟩
     |L a c=>exact⟨b2,hr,_,hsub2 (fun e=>by cases e),h⟩
     |B a c=>exact⟨b2,hr,_,hsub2 (fun e=>by cases e),h⟩
     |marked=>exact⟨b2,hr,_,hsub2 (fun e=>by cases e),h⟩
 ·obtain⟨b',e,s',hs',h⟩:=off_inv h hs1
  refine⟨b',?_,s',hs',h⟩
  unfold IOp.run IOp.run0
  simp only[hg]
  exact e
theorem ops_den:∀{l:List IOp}{s b:St}{K:St→Option R}{r:R},opsDen ty call l s K=some r→Sub s b→∃b',runOps call l b=some b'∧∃s',Sub s' b'∧K s'=some r
 |[],s,b,K,r,h,hs=>⟨b,rfl,s,hs,h⟩
 |o::l,s,b,K,r,h,hs=>by
  obtain⟨b1,e1,s1,hs1,h⟩:=op_den h hs
  obtain⟨b2,e2,s2,hs2,h⟩:=ops_den h hs1
  exact⟨b2,by simp only[runOps,e1,e2],s2,hs2,h⟩
end
section
variable {R:Type}{s b:St}{ty:Tys}{call:CallT}
theorem capLe_iff {a b:Cap}(h:capLe a b=true):CapR a b:=by
 unfold capLe at h
 rw[Bool.or_eq_true] at h
 rcases h with h | h
 ·exact .inl (of_decide_eq_true h)
 ·exact .inr (of_decide_eq_true h)
theorem capsLeB_iff:∀{a b:List Cap},capsLeB a b=true→CapsR a b
 |[],[],_=>.nil
 |a::s,b::t,h=>by
  simp only[capsLeB,Bool.and_eq_true] at h
  exact .cons (capLe_iff h.1) (capsLeB_iff h.2)
 |[],_::_,h=>by cases h
 |_::_,[],h=>by cases h
theorem coll_inv:∀{l:List (Nat×Cap)}{env:Env}{K:List IV→Option R}{r:R},collS env l K=some r →
  ∃vs,K vs=some r∧∀{Q:Type}{K':Env→Option Q}{q:Q},zipS ty l vs K'=some q→∃e,K' e=some q∧∀i v c,look e i=some (v,c)→∃c',look env i=some (v,c')∧CapR c c'
 |[],env,K,r,h=>⟨[],h,fun {Q K' q} h'=>⟨[],(unn_inv h').2,fun i v c e=>by cases e⟩⟩
 |(i,c)::l,env,K,r,h=>by
  unfold collS at h
  split at h
  ·rename_i v c' e
   obtain⟨hg,h⟩:=grd_inv h
   have hc:=capLe_iff hg
   obtain⟨vs,h,hz⟩:=coll_inv h
   refine⟨v::vs,h,fun {Q K' q} h'=>?_⟩
   unfold zipS at h'
   obtain⟨v2,t,e2,h'⟩:=unc_inv h'
   cases e2
   have h':=asSh_inv h'
   obtain⟨e3,h',hl⟩:=hz h'
   refine⟨_,h',fun j w d ej=>?_⟩
   rw[look_cons] at ej
   split at ej
   ·rename_i q;subst q;cases ej;exact⟨c',e,hc⟩
   ·exact hl j w d ej
  ·cases h
theorem collB_inv:∀{l:List BX}{lb:List (Nat×BObj)}{K:List BObj→Option R}{r:R},collB lb l K=some r →
  ∃bs,K bs=some r∧∀{Q:Type}{K':List (Nat×BObj)→Option Q}{q:Q},zipB l bs K'=some q→∃e,K' e=some q∧(∀k,hasB l k=true→BR (lookL e k) (lookL lb k))∧∀k,hasB l k=false→lookL e k=.none
 |[],lb,K,r,h=>⟨[],h,fun {Q K' q} h'=>by
   have:K' []=some q:=by
    unfold zipB unbn at h'
    exact h'
   exact⟨[],this,fun k e=>Bool.noConfusion e,fun k _=>rfl⟩⟩
 |.cells k sh cp::l,lb,K,r,h=>by
  unfold collB at h
  split at h
  ·rename_i cs cp' e
   obtain⟨hg,h⟩:=grd_inv h
   have hc:=capsLeB_iff hg
   obtain⟨bs,h,hz⟩:=collB_inv h
   refine⟨.cells cs cp::bs,h,fun {Q K' q} h'=>?_⟩
   unfold zipB at h'
   simp only[unb,asC] at h'
   have h':=asL_inv h'
   obtain⟨e3,h',hl,hn⟩:=hz h'
   refine⟨_,h',fun j hj=>?_,fun j hj=>?_⟩
   ·rw[lookL_cons]
    split
    ·rename_i q;subst q;rw[e];exact BR.mk hc
    ·rename_i q
     refine hl j ?_
     simp only[hasB,BX.k,Bool.or_eq_true] at hj
     rcases hj with hj | hj
     ·exact absurd (nbeq hj) q
     ·exact hj
   ·simp only[hasB,BX.k,Bool.or_eq_false_iff] at hj
    rw[lookL_cons,if_neg (fun q=>by subst q;rw[Nat.beq_refl] at hj;cases hj.1)]
    exact hn j hj.2
  ·cases h
 |.iter k::l,lb,K,r,h=>by
  unfold collB at h
  split at h
  ·rename_i cs cp' e
   obtain⟨bs,h,hz⟩:=collB_inv h
   refine⟨.iter cs cp'::bs,h,fun {Q K' q} h'=>?_⟩
   unfold zipB at h'
   simp only[unb,asIt] at h'
   obtain⟨e3,h',hl,hn⟩:=hz h'
   refine⟨_,h',fun j hj=>?_,fun j hj=>?_⟩
   ·rw[lookL_cons]
    split
    ·rename_i q;subst q;rw[e];exact BR.refl _
    ·rename_i q
     refine hl j ?_
     simp only[hasB,BX.k,Bool.or_eq_true] at hj
     rcases hj with hj | hj
     ·exact absurd (nbeq hj) q
     ·exact hj
   ·simp only[hasB,BX.k,Bool.or_eq_false_iff] at hj
    rw[lookL_cons,if_neg (fun q=>by subst q;rw[Nat.beq_refl] at hj;cases hj.1)]
    exact hn j hj.2
  ·cases h
 |.dead k::l,lb,K,r,h=>by
  unfold collB at h
  obtain⟨bs,h,hz⟩:=collB_inv h
  refine⟨bs,h,fun {Q K' q} h'=>?_⟩
  unfold zipB at h'
  obtain⟨e3,h',hl,hn⟩:=hz h'
  refine⟨_,h',fun j hj=>?_,fun j hj=>?_⟩
  ·rw[lookL_cons]
   split
   ·exact .inl rfl
   ·rename_i q
    refine hl j ?_
    simp only[hasB,BX.k,Bool.or_eq_true] at hj
    rcases hj with hj | hj
    ·exact absurd (nbeq hj) q
    ·exact hj
  ·simp only[hasB,BX.k,Bool.or_eq_false_iff] at hj
   rw[lookL_cons,if_neg (fun q=>by subst q;rw[Nat.beq_refl] at hj;cases hj.1)]
   exact hn j hj.2
theorem allB_inv:∀{lb:List (Nat×BObj)}{bx:List BX},allB lb bx=true→∀k,hasB bx k=false→lookL lb k=.none
 |[],_,_,_,_=>rfl
 |(j,o)::r,bx,h,k,hk=>by
  simp only[allB,Bool.and_eq_true] at h
  rw[lookL_cons]
  split
  ·rename_i q;subst q;rw[h.1] at hk;cases hk
  ·exact allB_inv h.2 k hk
theorem exEq_iff {a b:Ex}(h:exEq a b=true):a=b:=by
 cases a<;>cases b<;>first | rfl | cases h | (have:=nbeq h;subst this;rfl)
theorem exEq_ne {a b:Ex}(h:exEq a b=false):a≠b:=by
 intro e;subst e
 cases a<;>simp[exEq] at h
theorem ownsC_inv:∀{l:List (Nat×Nat×Nat)}{env:Env}{X:Option R}{r:R},ownsC env l X=some r→X=some r∧∀i k o,(i,k,o)∈l→look env i=some (.pL k o,.any)
 |[],env,X,r,h=>⟨h,fun i k o hm=>by cases hm⟩
 |(i,k,o)::l,env,X,r,h=>by
  unfold ownsC at h
  split at h
  ·rename_i e
   obtain⟨hg,h2⟩:=grd_inv h
   rw[Bool.and_eq_true] at hg
   have e1:=nbeq hg.1
   have e2:=nbeq hg.2
   obtain⟨h3,hl⟩:=ownsC_inv h2
   rw[e1,e2] at e
   refine⟨h3,fun j k2 o2 hm=>?_⟩
   rcases List.mem_cons.1 hm with q | q
   ·cases q;exact e
   ·exact hl _ _ _ q
  ·cases h
theorem ownsC_mk {l:List (Nat×Nat×Nat)}{env:Env}{Q:Type}{X:Option Q}(h:∀i k o,(i,k,o)∈l→look env i=some (.pL k o,.any)):ownsC env l X=X:=by
 induction l with
 |nil=>rfl
 |cons p l ih =>
  obtain⟨i,k,o⟩:=p
  unfold ownsC
  rw[h i k o List.mem_cons_self]
  simp only[Nat.beq_refl,Bool.and_self,grd]
  exact ih fun i k o hm=>h i k o (List.mem_cons_of_mem _ hm)
theorem ownE_look:∀{l:List (Nat×Nat×Nat)}{e:Env}{i:Nat}{x:IV×Cap},look (ownE l e) i=some x→(∃k o,(i,k,o)∈l∧x=(.pL k o,.any))∨look e i=some x
 |[],e,i,x,h=>.inr h
 |(j,k,o)::l,e,i,x,h=>by
  simp only[ownE,look_cons] at h
  split at h
  ·rename_i q;subst q;cases h;exact .inl ⟨k,o,List.mem_cons_self,rfl⟩
  ·rcases ownE_look h with ⟨k2,o2,hm,e2⟩ | h
   ·exact .inl ⟨k2,o2,List.mem_cons_of_mem _ hm,e2⟩
   ·exact .inr h
theorem canonK_inv:∀{xp:XP}{e:Ex}{s:St}{K:LR→Option R}{r:R},canonK xp e s K=some r→∃q,canonC xp e s=some q∧K q=some r
 |x::xr,e,s,K,r,h=>by
  unfold canonK at h
  unfold canonC canonK
  have h0:canonC xr e s=canonK xr e s some:=rfl
  split at h
  ·have gen:∀(l:List (Nat×Cap)) (env:Env) (K1:List IV→Option R) (K2:List IV→Option LR) (r:R),(∀vs,K1 vs=some r→∃q,K2 vs=some q∧K q=some r)→collS env l K1=some r→∃q,collS env l K2=some q∧K q=some r:=by
    intro l
    induction l with
    |nil=>intro env K1 K2 r hk h;exact hk _ h
    |cons p l ih =>
     intro env K1 K2 r hk h
     obtain⟨i,c⟩:=p
     unfold collS at h ⊢
     split at h
     ·obtain⟨hg,h⟩:=grd_inv h
      obtain⟨q,h1,h2⟩:=ih _ _ (fun vs=>K2 (_::vs)) _ (fun vs hv=>hk _ hv) h
      refine⟨q,?_,h2⟩
      simp only[hg]
      exact h1
     ·cases h
   have genB:∀(l:List BX) (lb:List (Nat×BObj)) (K1:List BObj→Option R) (K2:List BObj→Option LR) (r:R),(∀vs,K1 vs=some r→∃q,K2 vs=some q∧K q=some r)→collB lb l K1=some r→∃q,collB lb l K2=some q∧K q=some r:=by
    intro l
    induction l with
    |nil=>intro env K1 K2 r hk h;exact hk _ h
    |cons p l ih =>
     intro lb K1 K2 r hk h
     cases p with
     |cells k sh cp =>
      unfold collB at h ⊢
      split at h
      ·obtain⟨hg,h⟩:=grd_inv h
       obtain⟨q,h1,h2⟩:=ih _ _ (fun vs=>K2 (_::vs)) _ (fun vs hv=>hk _ hv) h
       refine⟨q,?_,h2⟩
       simp only[hg]
       exact h1
      ·cases h
     |iter k =>
      unfold collB at h ⊢
      split at h
      ·obtain⟨q,h1,h2⟩:=ih _ _ (fun vs=>K2 (_::vs)) _ (fun vs hv=>hk _ hv) h
       exact⟨q,h1,h2⟩
      ·cases h
     |dead k =>
      unfold collB at h ⊢
      exact ih _ _ K2 _ hk h
   obtain⟨h,hown⟩:=ownsC_inv h
   rw[ownsC_mk hown]
   exact gen _ _ _ _ _ (fun vs hv=>genB _ _ _ _ _ (fun bs hb=>by
    obtain⟨hg,hb⟩:=grd_inv hb
    exact⟨_,by rw[hg];rfl,hb⟩) hv) h
  ·exact canonK_inv h
theorem canon_ex:∀{xp:XP}{e:Ex}{s:St}{ex:Ex}{vs:List IV}{bs:List BObj}{m:IM},canonC xp e s=some (ex,vs,bs,m)→ex=e
 |x::r,e,s,ex,vs,bs,m,h=>by
  unfold canonC canonK at h
  split at h
  ·obtain⟨h,_⟩:=ownsC_inv h
   obtain⟨vs',h,_⟩:=coll_inv (ty:=[]) h
   obtain⟨bs',h,_⟩:=collB_inv h
   obtain⟨_,h⟩:=grd_inv h
   cases h;rfl
  ·exact canon_ex h
theorem take_sound:∀{xp:XP}{e:Ex}{s b:St}{ex:Ex}{vs:List IV}{bs:List BObj}{m:IM}{K:Ex→St→Option R}{r:R},canonC xp e s=some (ex,vs,bs,m)→takeE ty xp ex vs bs m K=some r→Sub s b→∃s',Sub s' b∧K e s'=some r
 |x::xr,e,s,b,ex,vs,bs,m,K,r,h,h2,hs=>by
  have he:=canon_ex h
  unfold canonC canonK at h
  unfold takeE at h2
  split at h
  ·rename_i hx
   have hx:=exEq_iff hx
   obtain⟨h,hown⟩:=ownsC_inv h
   obtain⟨vs',h,hzs⟩:=coll_inv (ty:=ty) h
   obtain⟨bs',h,hzb⟩:=collB_inv h
   obtain⟨ha,h⟩:=grd_inv h
   cases h
   rcases exC_inv h2 with ⟨_,h2⟩ | ⟨hne,_⟩
   ·obtain⟨env,h2,henv⟩:=hzs h2
    obtain⟨lb,h2,hlb1,hlb2⟩:=hzb h2
    rw[←hx] at h2
    refine⟨{ env:=ownE x.own env,lk:=[],lb:=lb,m:=s.m },⟨fun i v c el=>?_,fun p hp=>absurd hp List.not_mem_nil,hs.uq,fun k=>?_,hs.m⟩,h2⟩
    ·obtain⟨c1,e1,hc1⟩:∃c',look s.env i=some (v,c')∧CapR c c':=by
      rcases ownE_look el with ⟨k,o,hm,e2⟩ | el
      ·cases e2;exact⟨_,hown _ _ _ hm,CapR.refl _⟩
      ·exact henv i v c el
     obtain⟨c2,e2,hc2⟩:=hs.env _ _ _ e1
     exact⟨c2,e2,hc1.trans hc2⟩
    ·cases hk:hasB x.boxes k with
     |true=>exact (hlb1 k hk).trans (hs.lb k)
     |false =>
      show BR (lookL lb k) _
      rw[hlb2 k hk]
      have:=allB_inv ha k hk
      have hb:=hs.lb k
      rw[this] at hb
      exact hb
   ·exact absurd hx hne
  ·rename_i hx
   have hx:=exEq_ne hx
   rcases exC_inv h2 with ⟨q,_⟩ | ⟨_,h2⟩
   ·exact absurd (he▸q) hx
   ·exact take_sound h h2 hs
def keepB (v:IV) (keepL:List Nat):Bool:=match v with
 |.pL k _=>keepL.contains k
 |_=>true
theorem keepX_inv {sh:Sh}{v:IV}{keepL:List Nat}{X:Option R}{r:R}(h:keepX sh v keepL X=some r):keepB v keepL=true∧X=some r:=by
 unfold keepX at h
 split at h
 ·obtain⟨h1,h2⟩:=notL_inv h
  refine⟨?_,h2⟩
  cases v<;>first | rfl | cases h1
 ·unfold keepC at h
  split at h
  ·exact grd_inv h
  ·rename_i hn
   refine⟨?_,h⟩
   cases v<;>first | rfl | exact (hn _ _ rfl).elim
theorem headE_ok {e e2:Env}{keepL:List Nat}{i o:Nat}{l:List (Nat×Nat)}{v:IV}{c:Cap}(h1:look e i=some (v,c)) (h2:headE e keepL l=some e2) (hk:keepB v keepL=true) :
  headE e keepL ((i,o)::l)=some ((i,v,match o with | 0=>.any | sz+1=>capNil c v sz)::e2):=by
 simp only[headE,h1,h2]
 have fin:∀sz,(match capNil c v sz with | .own s=>some ((i,v,Cap.own s)::e2) | .any=>some ((i,v,Cap.any)::e2))=some ((i,v,capNil c v sz)::e2):=by
  intro sz
  cases capNil c v sz<;>rfl
 cases v with
 |pL k off =>
  have hk:keepL.contains k=true:=hk
  simp only[hk]
  cases o with
  |zero=>rfl
  |succ sz=>exact fin sz
 |_=>cases o with
  |zero=>rfl
  |succ sz=>exact fin sz
theorem headEC_inv:∀{l:List (Nat×Nat)}{keepL:List Nat}{K:Env→Option R}{r:R},headEC ty s.env keepL l K=some r→Sub s b→∃e,headE b.env keepL l=some e∧K e=some r
 |[],keepL,K,r,h,_=>⟨[],rfl,h⟩
 |(i,o)::l,keepL,K,r,h,hs=>by
  unfold headEC at h
  split at h
  ·rename_i v c e
   obtain⟨cb,eb,hcb⟩:=hs.env _ _ _ e
   obtain⟨hk,h⟩:=keepX_inv h
   cases o with
   |zero =>
    simp only at h
    obtain⟨e2,h2,h⟩:=headEC_inv h hs
    exact⟨_,headE_ok eb h2 hk,h⟩
   |succ sz =>
    simp only at h
    split at h
    ·obtain⟨hz,h⟩:=grd_inv h
     have hcz:=capR_own hcb (fun q=>by subst q;cases hz)
     subst hcz
     obtain⟨e2,h2,h⟩:=headEC_inv h hs
     exact⟨_,headE_ok eb h2 hk,h⟩
    ·have hc:=capR_any hcb
     subst hc
     obtain⟨hv,h⟩:=nilV_inv h
     subst hv
     obtain⟨e2,h2,h⟩:=headEC_inv h hs
     exact⟨_,headE_ok eb h2 hk,h⟩
  ·cases h
theorem capsO_inv:∀{own:List (Nat×Nat×Nat)}{k:Nat}{cs:List IV}{cp cp':List Cap}{K:List Cap→Option R}{r:R},capsO k cs own cp K=some r→CapsR cp cp'→∃cp1,K cp1=some r∧CapsR cp1 (capsL k cs own cp')
 |[],k,cs,cp,cp',K,r,h,hc=>⟨cp,h,hc⟩
 |(k',o,sz)::own,k,cs,cp,cp',K,r,h,hc=>by
  unfold capsO at h
  unfold capsL
  split at h
  ·rename_i hk
   rw[if_pos (nbeq hk)]
   have hg:=hc.getD o
   split at h
   ·rename_i z ez
    rw[ez] at hg
    obtain⟨hz,h⟩:=grd_inv h
    have hcz:=capR_own hg (fun q=>by subst q;cases hz)
    refine capsO_inv h ?_
    rw[hcz]
    exact hc.set o (CapR.refl _)
   ·rename_i ez
    rw[ez] at hg
    have hcz:=capR_any hg
    obtain⟨en,h⟩:=nilV_inv h
    refine capsO_inv h ?_
    rw[hcz,en]
    exact hc.set o (CapR.refl _)
  ·rename_i hk
   rw[if_neg (fun q=>by subst q;rw[Nat.beq_refl] at hk;cases hk)]
   exact capsO_inv h hc
theorem headBC_inv:∀{l:List Nat}{own:List (Nat×Nat×Nat)}{K:List (Nat×BObj)→Option R}{r:R},headBC s.lb own l K=some r→Sub s b→∃lb1 lb2,K lb1=some r∧headB b.lb own l=some lb2∧∀k,BR (lookL lb1 k) (lookL lb2 k)
 |[],own,K,r,h,_=>⟨[],[],h,rfl,fun k=>BR.refl _⟩
 |k::l,own,K,r,h,hs=>by
  unfold headBC at h
  have hb:=hs.lb k
  split at h
  ·rename_i cs cp e
   rw[e] at hb
   obtain⟨cp',eb,hc⟩:=hb.cells
   obtain⟨cp1,h,hc1⟩:=capsO_inv (own:=own) h hc
   obtain⟨lb1,lb2,h,h2,hl⟩:=headBC_inv h hs
   refine⟨_,(k,.cells cs (capsL k cs own cp'))::lb2,h,?_,?_⟩
   ·simp only[headB,h2,eb,frc_eq]
   ·intro j
    simp only[lookL_cons]
    split
    ·exact BR.mk hc1
    ·exact hl j
  ·rename_i t p e
   rw[e] at hb
   have eb:=hb.iter
   obtain⟨lb1,lb2,h,h2,hl⟩:=headBC_inv h hs
   refine⟨_,(k,.iter t p)::lb2,h,?_,?_⟩
   ·simp only[headB,h2,eb]
   ·intro j
    simp only[lookL_cons]
    split
    ·exact BR.refl _
    ·exact hl j
  ·rename_i e
   rw[e] at hb
   have eb:=hb.none
   obtain⟨lb1,lb2,h,h2,hl⟩:=headBC_inv h hs
   refine⟨_,lb2,h,?_,hl⟩
   simp only[headB,h2,eb]
  ·cases h
theorem headC_inv {h:Head}{K:St→Option R}{r:R}(hh:headC ty s h K=some r) (hs:Sub s b):∃b2,b.head h=some b2∧∃s2,Sub s2 b2∧K s2=some r:=by
 unfold headC at hh
 obtain⟨e,h1,hh⟩:=headEC_inv hh hs
 obtain⟨lb1,lb2,hh,h2,hl⟩:=headBC_inv hh hs
 refine⟨_,by simp only[St.head,h1,h2];rfl,_,?_,hh⟩
 exact⟨fun i v c el=>⟨c,el,CapR.refl _⟩,fun p hp=>absurd hp List.not_mem_nil,rfl,hl,hs.m⟩
variable {tab:Tab}{prims:Prims}
theorem bindX_inv {x:Option LR}{K:Ex→List IV→List BObj→IM→Option R}{r:R}(h:bindX x K=some r):∃ex vs bs m,x=some (ex,vs,bs,m)∧K ex vs bs m=some r:=by
 unfold bindX at h
 split at h
 ·exact⟨_,_,_,_,rfl,h⟩
 ·cases h
theorem code_den:∀(c:ICode) {R:Type}{pl:Pl}{s b:St}{K:Ex→St→Option R}{r:R},c.den ty (callW tab prims) R pl s K=some r→Sub s b →
  ∃e b',c.run (callW tab prims) (loopW tab prims) b=some (e,b')∧∃s',Sub s' b'∧K e s'=some r
 |.skip,R,pl,s,b,K,r,h,hs=>⟨_,b,rfl,s,hs,h⟩
 |.ops l,R,pl,s,b,K,r,h,hs=>by
  obtain⟨b1,e1,s1,hs1,h⟩:=ops_den (K:=fun st=>K .normal st) h hs
  exact⟨_,b1,by simp only[ICode.run,e1],s1,hs1,h⟩
 |.draw l _,R,pl,s,b,K,r,h,hs=>by
  obtain⟨b1,e1,s1,hs1,h⟩:=ops_den (K:=fun st=>K .normal st) h hs
  exact⟨_,b1,by simp only[ICode.run,e1,hs.uq],s1,hs1,h⟩
 |.seq a c,R,pl,s,b,K,r,h,hs=>by
  have key:∀{s b:St},Sub s b→∀{e:Ex}{b0:St},a.run (callW tab prims) (loopW tab prims) b0=some (e,b)→(match e with | .normal=>c.den ty (callW tab prims) R pl.b s K | e=>K e s)=some r →
    ∃e b',(ICode.seq a c).run (callW tab prims) (loopW tab prims) b0=some (e,b')∧∃s',Sub s' b'∧K e s'=some r:=by
   intro s b hs e b0 hr hk
   cases e with
   |normal =>
    obtain⟨e2,b2,h2,s2,hs2,hk⟩:=code_den c hk hs
    exact⟨e2,b2,by simp only[ICode.run,hr,h2],s2,hs2,hk⟩
   |exit i=>exact⟨_,b,by simp only[ICode.run,hr],s,hs,hk⟩
   |ret=>exact⟨_,b,by simp only[ICode.run,hr],s,hs,hk⟩
  simp only[ICode.den] at h
  split at h
  ·obtain⟨ex,vs,bs,m,hx,h⟩:=bindX_inv h
   obtain⟨e,b1,hr,s1,hs1,hc⟩:=code_den a hx hs
   obtain⟨s2,hs2,h⟩:=take_sound hc h hs1
   exact key hs2 hr h
  ·obtain⟨e,b1,hr,s1,hs1,h⟩:=code_den a h hs
   exact key hs1 hr h
 |.cond d a c,R,pl,s,b,K,r,h,hs=>by
  simp only[ICode.den] at h
  split at h
  ·rename_i j
   split at h
   ·rename_i x cc e
    obtain⟨cb,eb,_⟩:=hs.env _ _ _ e
    rcases iteC_inv h with ⟨q,h⟩ | ⟨q,h⟩
    ·subst q
     obtain⟨e2,b2,hr,s2,hs2,h⟩:=code_den a h (hs.refine e)
     exact⟨e2,b2,by simp only[ICode.run,rd_of eb,hr],s2,hs2,h⟩
    ·subst q
     obtain⟨e2,b2,hr,s2,hs2,h⟩:=code_den c h (hs.refine e)
     exact⟨e2,b2,by simp only[ICode.run,rd_of eb,hr],s2,hs2,h⟩
   ·cases h
  ·split at h
   ·obtain⟨e2,b2,hr,s2,hs2,h⟩:=code_den a h hs
    exact⟨e2,b2,by simp only[ICode.run,Arg.rd,hr],s2,hs2,h⟩
   ·obtain⟨e2,b2,hr,s2,hs2,h⟩:=code_den c h hs
    exact⟨e2,b2,by simp only[ICode.run,Arg.rd,hr],s2,hs2,h⟩
   ·cases h
 |.block id c,R,pl,s,b,K,r,h,hs=>by
  simp only[ICode.den] at h
  obtain⟨e,b1,hr,s1,hs1,h⟩:=code_den c h hs
  cases e with
  |normal=>exact⟨_,b1,by simp only[ICode.run,hr],s1,hs1,h⟩
  |ret=>exact⟨_,b1,by simp only[ICode.run,hr],s1,hs1,h⟩
  |exit i =>
   simp only at h
   split at h
   ·rename_i q
    have q:=nbeq q
    exact⟨_,b1,by simp only[ICode.run,hr,if_pos q],s1,hs1,h⟩
   ·rename_i q
    have q:i≠id:=fun e=>by subst e;rw[Nat.beq_refl] at q;cases q
    exact⟨_,b1,by simp only[ICode.run,hr,if_neg q],s1,hs1,h⟩
 |.loop hd c,R,pl,s,b,K,r,h,hs=>by
  simp only[ICode.den] at h
  split at h
  ·rename_i xp _
   obtain⟨b2,hb2,s2,hs2,h⟩:=headC_inv h hs
   obtain⟨ex,vs,bs,m,hx,h⟩:=bindX_inv h
   have main:=iter.partial_correctness (fun s=>c.den ty (callW tab prims) (St⊕LR) pl.a s (endS ty hd xp))
    (fun a q=>∀b,Sub a b→∃e b',lc tab prims hd c (some b)=some (e,b')∧∃s',Sub s' b'∧canonC xp e s'=some q) (by
     intro it ih a q hq b hs
     split at hq
     ·rename_i a' ha
      obtain⟨e,b1,hr,s1,hs1,hk⟩:=code_den c ha hs
      cases e with
      |normal =>
       unfold endS at hk
       obtain⟨b3,hb3,s3,hs3,hk⟩:=headC_inv hk hs1
       cases hk
       obtain⟨e4,b4,hl,s4,hs4,hc⟩:=ih _ _ hq _ hs3
       refine⟨e4,b4,?_,s4,hs4,hc⟩
       rw[lc_some,hr]
       simp only[hb3]
       exact hl
      |exit i=>simp only[endS] at hk;obtain⟨q,_,hk⟩:=canonK_inv hk;cases hk
      |ret=>simp only[endS] at hk;obtain⟨q,_,hk⟩:=canonK_inv hk;cases hk
     ·rename_i q' ha
      cases hq
      obtain⟨e,b1,hr,s1,hs1,hk⟩:=code_den c ha hs
      cases e with
      |normal =>
       unfold endS at hk
       obtain⟨b3,hb3,s3,hs3,hk⟩:=headC_inv hk hs1
       cases hk
      |exit i =>
       simp only[endS] at hk
       obtain⟨q,hc,hk⟩:=canonK_inv hk
       cases hk
       exact⟨_,b1,by rw[lc_some,hr],s1,hs1,hc⟩
      |ret =>
       simp only[endS] at hk
       obtain⟨q,hc,hk⟩:=canonK_inv hk
       cases hk
       exact⟨_,b1,by rw[lc_some,hr],s1,hs1,hc⟩
     ·cases hq) s2 _ hx b2 hs2
   obtain⟨e,b3,hl,s3,hs3,hc⟩:=main
   obtain⟨s4,hs4,h⟩:=take_sound hc h hs3
   refine⟨e,b3,?_,s4,hs4,h⟩
   show loopW tab prims hd c b=_
   rw[loopW_lc,hb2]
   exact hl
  ·cases h
 |.rangeF _ _ _,R,pl,s,b,K,r,h,hs=>by simp only[ICode.den] at h;cases h
 |.exit id,R,pl,s,b,K,r,h,hs=>⟨_,b,rfl,s,hs,h⟩
 |.ret,R,pl,s,b,K,r,h,hs=>⟨_,b,rfl,s,hs,h⟩
theorem retsC_inv:∀{l:List RV}{K:List IV→Option R}{r:R},retsC s l K=some r→Sub s b→∃vs,retsOf b l=some vs∧K vs=some r
 |[],K,r,h,_=>⟨[],rfl,h⟩
 |.t i::l,K,r,h,hs=>by
  unfold retsC at h
  split at h
  ·rename_i v c e
   obtain⟨cb,eb,_⟩:=hs.env _ _ _ e
   obtain⟨vs,e2,h⟩:=retsC_inv h hs
   exact⟨_,by simp only[retsOf,e2,slotV,eb],h⟩
  ·cases h
 |.cell i agg n::l,K,r,h,hs=>by
  unfold retsC at h
  split at h
  ·rename_i k off c e
   obtain⟨cb,eb,_⟩:=hs.env _ _ _ e
   split at h
   ·rename_i cs cp ek
    have hb:=hs.lb k
    rw[ek] at hb
    obtain⟨cp',ekb,_⟩:=hb.cells
    obtain⟨v,h,hv⟩:=cutC_inv h
    obtain⟨vs,e2,h⟩:=retsC_inv h hs
    have:=load_of (lb:=b.lb) (m:=b.m) (p:=.pL k off) (n:=n) (fun n=>by simp only[cellsAt,ekb]) hv
    exact⟨_,by simp only[retsOf,e2,slotV,eb,this],h⟩
   ·cases h
  ·rename_i p c hn e
   obtain⟨cb,eb,_⟩:=hs.env _ _ _ e
   obtain⟨v,h,hv⟩:=ldP_inv h
   obtain⟨vs,e2,h⟩:=retsC_inv h hs
   rw[hs.m] at hv
   exact⟨_,by simp only[retsOf,e2,slotV,eb,hv b.lb],h⟩
  ·cases h
theorem call_den {f:FuncId}{fn:IFn}(hp:prims f=none) (hf:tab.fns f=some fn) {pl:Pl}{args:List IV}{m:IM}{r:IV×IM}(h:denF ty pl fn (callW tab prims) args m=some r):callW tab prims (.f f) args m=some r:=by
 rw[callW_fn hp hf]
 unfold denF at h
 split at h
 ·rename_i hn
  have hn:=nbeq hn
  obtain⟨e,b1,hr,s1,hs1,h⟩:=code_den fn.body h (b:={ env:=mkEnv 0 args,lk:=[],lb:=[],m:=m }) ⟨fun i v c el=>⟨c,el,CapR.refl _⟩,fun p hp=>absurd hp List.not_mem_nil,rfl,fun k=>BR.refl _,rfl⟩
  unfold IFn.call
  rw[if_neg (by simp[hn]),hr]
  have hrets:∀{X:Option (IV×IM)},(retsC s1 fn.rets fun vs=>outC m s1.m vs)=some r→(match retsOf b1 fn.rets with
   |some [v]=>settle m b1.m v
   |some vs=>settle m b1.m (.tup vs)
   |none=>none)=some r:=by
   intro X hx
   obtain⟨vs,e2,hx⟩:=retsC_inv hx hs1
   rw[e2]
   unfold outC at hx
   rw[hs1.m] at hx
   match vs,hx with
   |[v],hx=>exact hx
   |[],hx=>exact hx
   |_::_::_,hx=>exact hx
  cases e with
  |exit i=>cases h
  |normal=>simp only;rw[if_pos (.inl trivial)];exact hrets (X:=none) h
  |ret=>simp only;rw[if_pos (.inr trivial)];exact hrets (X:=none) h
 ·cases h
end
noncomputable def nxt {α β:Type}(f:α→Option (α⊕β)) (x:Option (α⊕β)):Option β:=match x with
 |some (.inl a)=>iter f a
 |some (.inr b)=>some b
 |none=>none
theorem iter_nxt {α β:Type}(f:α→Option (α⊕β)) (a:α):iter f a=nxt f (f a):=iter.eq_1 f a
section
variable {R:Type}
theorem iteC_if (b:Bool) (x y:Option R):iteC b x y=if b=true then x else y:=by cases b<;>rfl
theorem grd_if (b:Bool) (x:Option R):grd b x=if b=true then x else none:=by cases b<;>rfl
theorem asI_mk (k:IntKind) (n:Int) (K:Int→Option R):asI k (.int k n) K=K n:=by simp[asI,grd]
theorem asB_mk (b:Bool) (K:Bool→Option R):asB (.bool b) K=K b:=rfl
theorem asS_mk (s:List UInt8) (K:List UInt8→Option R):asS (.str s) K=K s:=rfl
theorem asA_mk (s:List IV) (K:List IV→Option R):asA (.agg s) K=K s:=rfl
theorem asT_mk (s:List IV) (K:List IV→Option R):asT (.tup s) K=K s:=rfl
theorem asP_mk (i o:Nat) (K:Nat→Nat→Option R):asP (.pB i o) K=K i o:=rfl
theorem asP0_mk (i:Nat) (K:Nat→Option R):asP0 (.pB i 0) K=K i:=rfl
theorem unc_cons (v:IV) (t:List IV) (K:IV→List IV→Option R):unc (v::t) K=K v t:=rfl
theorem unn_nil (K:Option R):unn [] K=K:=rfl
theorem unb_cons (v:BObj) (t:List BObj) (K:BObj→List BObj→Option R):unb (v::t) K=K v t:=rfl
theorem unbn_nil (K:Option R):unbn [] K=K:=rfl
theorem asC_mk (cs:List IV) (cp:List Cap) (K:List IV→Option R):asC (.cells cs cp) K=K cs:=rfl
theorem asIt_mk (s:List UInt8) (p:Nat) (K:List UInt8→Nat→Option R):asIt (.iter s p) K=K s p:=rfl
theorem nilV_nil (X:Option R):nilV .nilSlice X=X:=rfl
theorem exC_if (e ex:Ex) (A B:Option R):exC e ex A B=if ex=e then A else B:=by
 unfold exC
 by_cases h:ex=e
 ·rw[decide_eq_true h,if_pos h]
 ·rw[decide_eq_false h,if_neg h]
theorem bindX_mk (ex:Ex) (vs:List IV) (bs:List BObj) (m:IM) (K:Ex→List IV→List BObj→IM→Option R):bindX (some (ex,vs,bs,m)) K=K ex vs bs m:=rfl
theorem bindX_none (K:Ex→List IV→List BObj→IM→Option R):bindX none K=none:=rfl
theorem evC_of {o:POp}{vs:List IV}{v:IV}(h:o.ev vs=some v) (K:IV→Option R):evC o vs K=K v:=by simp[evC,h]
theorem notL_of {v:IV}{n:Nat}(h:v.refs=some n) (X:Option R):notL v X=X:=by
 unfold notL
 cases v<;>first | rfl | (simp[IV.refs,IV.plain] at h)
theorem refC_of {v:IV}{n:Nat}(h:v.refs=some n) (X:Option R):refC v X=X:=by simp[refC,h]
theorem refsC_nil (X:Option R):refsC [] X=X:=rfl
theorem refsC_cons (v:IV) (r:List IV) (X:Option R):refsC (v::r) X=refC v (refsC r X):=rfl
theorem plainC_nil (X:Option R):plainC [] X=X:=rfl
theorem plainC_cons (v:IV) (r:List IV) (X:Option R):plainC (v::r) X=plnC v (plainC r X):=rfl
theorem cutC_false {cs:List IV}{off n:Nat}{v:IV}(h:cs[off]?=some v) (K:IV→Option R):cutC false cs off n K=K v:=by simp[cutC,h]
theorem cutC_true {cs:List IV}{off n:Nat}{r:List IV}(h:cut cs off n=some r) (K:IV→Option R):cutC true cs off n K=K (.agg r):=by simp[cutC,h]
theorem ldP_pI (m:IM) (agg:Bool) (n off:Nat) (row:List IV) (K:IV→Option R):ldP m agg n (.pI row off) K=cutC agg row off n K:=rfl
theorem ldP_pB (m:IM) (agg:Bool) (n id off:Nat) (K:IV→Option R):ldP m agg n (.pB id off) K=getC m id fun cs _=>cutC agg cs off n K:=rfl
theorem nxt_inl {α β:Type}(f:α→Option (α⊕β)) (a:α):nxt f (some (.inl a))=iter f a:=rfl
theorem nxt_inr {α β:Type}(f:α→Option (α⊕β)) (b:β):nxt f (some (.inr b))=some b:=rfl
theorem nxt_if {α β:Type}(f:α→Option (α⊕β)) (c:Prop) [Decidable c] (x y:Option (α⊕β)):nxt f (if c then x else y)=if c then nxt f x else nxt f y:=by split<;>rfl
def tyG (l:List (Sh×List Nat)):Tys:=l.flatMap fun p=>p.2.map fun i=>(i,p.1)
noncomputable def uV (l:List IV) (K:Int→List UInt8→IV→IV→List IV→Option R):Option R:=unc l fun v l=>asI .i64 v fun n=>unc l fun v l=>asS v fun s=>unc l fun v l=>unc l fun w l=>K n s v w l
noncomputable def uI (k:IntKind) (l:List IV) (K:Int→List IV→Option R):Option R:=unc l fun v l=>asI k v fun n=>K n l
theorem uV_cons (n:Int) (s:List UInt8) (v w:IV) (l:List IV) (K:Int→List UInt8→IV→IV→List IV→Option R):uV (.int .i64 n :: .str s::v::w::l) K=K n s v w l:=by simp[uV,unc,asS,asI,grd]
theorem uI_cons (k:IntKind) (n:Int) (l:List IV) (K:Int→List IV→Option R):uI k (.int k n::l) K=K n l:=by simp[uI,unc,asI,grd]
@[reducible] noncomputable def gI (m:IM) (r off:Nat) (K:Int→Option R):Option R:=getC m r fun l _=>cutC false l off 1 fun v=>asI .i64 v K
@[reducible] noncomputable def gS (m:IM) (r off:Nat) (K:List UInt8→Option R):Option R:=getC m r fun l _=>cutC false l off 1 fun v=>asS v K
def setM (m:IM) (id:Nat) (o:BObj):IM:=⟨m.bs.set id o,m.esc⟩
theorem getM_lt {m:IM}{id:Nat}{cs:List IV}{cp:List Cap}(h:m.get id=.cells cs cp):id<m.size:=by
 rcases Nat.lt_or_ge id m.size with q | q
 ·exact q
 ·rw[IM.get,List.getD_eq_getElem?_getD,List.getElem?_eq_none q] at h;cases h
theorem get_setM {m:IM}{id:Nat}(h:id<m.size) (o:BObj):(setM m id o).get id=o:=by
 have h':id<m.bs.length:=h
 simp[setM,IM.get,List.getD_eq_getElem?_getD,h']
theorem setM_setM (m:IM) (id:Nat) (o o':BObj):setM (setM m id o) id o'=setM m id o':=by simp[setM]
theorem setM_size (m:IM) (id:Nat) (o:BObj):(setM m id o).size=m.size:=by simp[setM,IM.size]
theorem setM_esc (m:IM) (id:Nat) (o:BObj):(setM m id o).esc=m.esc:=rfl
theorem setM_self {m:IM}{id:Nat}{o:BObj}(h:m.get id=o) (hl:id<m.size):setM m id o=m:=by
 have hl':id<m.bs.length:=hl
 have:m.bs[id]=o:=by
  rw[←h,IM.get,List.getD_eq_getElem?_getD,List.getElem?_eq_getElem hl']
  rfl
 rw[setM,←this,List.set_getElem_self]
theorem stP_set {m:IM}{id off:Nat}{vs:List IV}{c:Cap}{cs:List IV}{cp:List Cap}{r:Nat}(h:m.get id=.cells cs cp) (hr:refsAll vs=some r) (hle:r≤id) (hf:off+vs.length≤cs.length) (K:IM→Option R) :
  stP m (.pB id off) vs c K=K (setM m id (.cells (over cs off vs) (overCap cp off vs.length c))):=by
 unfold stP
 simp only[storeB_eq,ne_eq,not_true,if_false,h,hr,if_pos hf,if_pos hle]
 rfl
theorem settle_same {m m':IM}{v:IV}(hv:v.refsDeep=some 0) (hs:m'.size=m.size) (he:m'.esc=m.esc):settle m m' v=some (v,m'):=by
 unfold settle
 have:m'.bs.take m.size=m'.bs:=List.take_of_length_le (by rw[IM.size] at hs;omega)
 simp only[hv,frc_eq,he,this,if_true,Nat.zero_le]
 rw[←he]
theorem settle_id {m:IM}{v:IV}(hv:v.refsDeep=some 0):settle m m v=some (v,m):=settle_same hv rfl rfl
theorem settle_set {m:IM}{v:IV}{id:Nat}{o:BObj}(hv:v.refsDeep=some 0):settle m (setM m id o) v=some (v,setM m id o):=settle_same hv (setM_size _ _ _) (setM_esc _ _ _)
theorem get_pushM (m:IM) (o:BObj):(pushM m o).get m.size=o:=by simp[pushM,IM.get,IM.size,List.getD_eq_getElem?_getD]
theorem setM_pushM (m:IM) (o o':BObj):setM (pushM m o) m.size o'=pushM m o':=by simp[setM,pushM,IM.size]
theorem settle_push {m:IM}{v:IV}{o:BObj}(hv:v.refsDeep=some 0):settle m (pushM m o) v=some (v,m):=by
 unfold settle
 simp[hv,frc_eq,pushM,IM.size]
theorem callC_of {call:CallT}{c:Callee}{vs:List IV}{m m':IM}{v:IV}(h:call c vs m=some (v,m')) (hr:(refsAll (vs.flatMap IV.cells)).isSome=true) (K:IV→IM→Option R):callC call c vs [] m K=K v m':=by
 obtain⟨n,hn⟩:=Option.isSome_iff_exists.1 hr
 simp[callC,hn,hideM,h,unhideM]
theorem refsAll_nil:(refsAll []).isSome=true:=id rfl
theorem refsAll_isSome (v:IV) (r:List IV):(refsAll (v::r)).isSome=(v.refs.isSome&&(refsAll r).isSome):=by
 simp only[refsAll]
 cases v.refs<;>cases refsAll r<;>rfl
theorem refs_int (k:IntKind) (n:Int):(IV.int k n).refs=some 0:=id rfl
theorem refs_bool (n:Bool):(IV.bool n).refs=some 0:=id rfl
theorem refs_str (n:List UInt8):(IV.str n).refs=some 0:=id rfl
theorem refs_nil:IV.nilSlice.refs=some 0:=id rfl
theorem refs_sl (r:List IV) (n:Nat):(IV.sl r n).refs=some 0:=id rfl
theorem refs_pB (i o:Nat):(IV.pB i o).refs=some (i+1):=id rfl
theorem refs_fn (f:FuncId):(IV.func f [] []).refs=some 0:=id rfl
theorem cells_int (k:IntKind) (n:Int):(IV.int k n).cells=[.int k n]:=id rfl
theorem cells_bool (n:Bool):(IV.bool n).cells=[.bool n]:=id rfl
theorem cells_str (n:List UInt8):(IV.str n).cells=[.str n]:=id rfl
theorem cells_pB (i o:Nat):(IV.pB i o).cells=[.pB i o]:=id rfl
theorem cells_agg (l:List IV):(IV.agg l).cells=l:=id rfl
theorem cells_fn (f:FuncId):(IV.func f [] []).cells=[.func f [] []]:=id rfl
theorem cells_nil:IV.nilSlice.cells=[.nilSlice]:=id rfl
theorem cells_sl (r:List IV) (n:Nat):(IV.sl r n).cells=[.sl r n]:=id rfl
theorem rA_nil:refsAll []=some 0:=id rfl
theorem rA_cons (v:IV) (r:List IV):(refsAll (v::r)=some 0)=(v.refs=some 0∧refsAll r=some 0):=by
 simp only[refsAll,eq_iff_iff]
 cases v.refs<;>cases refsAll r<;>simp<;>omega
theorem rD_of {v:IV}(h:v.refs=some 0):v.refsDeep=some 0:=by
 cases v<;>first | exact h | (simp[IV.refs,IV.plain] at h)
theorem rD_int (k:IntKind) (n:Int):(IV.int k n).refsDeep=some 0:=id rfl
theorem rD_bool (n:Bool):(IV.bool n).refsDeep=some 0:=id rfl
theorem rD_str (n:List UInt8):(IV.str n).refsDeep=some 0:=id rfl
theorem rD_agg (l:List IV):((IV.agg l).refsDeep=some 0)=(refsAll l=some 0):=id rfl
theorem rD_tup (l:List IV):((IV.tup l).refsDeep=some 0)=(IV.refsDeep.go l=some 0):=id rfl
def elR:IV→Option Nat
 |.agg cs=>refsAll cs
 |v=>v.refs
theorem go_nil:IV.refsDeep.go []=some 0:=id rfl
theorem go_cons (v:IV) (r:List IV):(IV.refsDeep.go (v::r)=some 0)=(elR v=some 0∧IV.refsDeep.go r=some 0):=by
 have e:IV.refsDeep.go (v::r)=match elR v,IV.refsDeep.go r with | some a,some b=>some (Nat.max a b) | _,_=>none:=by
  cases v<;>rfl
 rw[e,eq_iff_iff]
 cases elR v<;>cases IV.refsDeep.go r<;>simp<;>omega
theorem elR_agg (l:List IV):elR (.agg l)=refsAll l:=id rfl
theorem elR_int (k:IntKind) (n:Int):elR (.int k n)=some 0:=id rfl
theorem elR_bool (n:Bool):elR (.bool n)=some 0:=id rfl
theorem elR_str (n:List UInt8):elR (.str n)=some 0:=id rfl
theorem elR_of {v:IV}(h:v.refs=some 0):elR v=some 0:=by
 cases v<;>first | exact h | (simp[IV.refs,IV.plain] at h)
end
def andU (a b:Int):Int:=IntKind.wrap .u64 (↑(BitVec.toNat (BitVec.ofInt (IntKind.bits .u64) a &&& BitVec.ofInt (IntKind.bits .u64) b)):Int)
def andnU (a b:Int):Int:=IntKind.wrap .u64 (↑(BitVec.toNat (BitVec.ofInt (IntKind.bits .u64) a &&& ~~~BitVec.ofInt (IntKind.bits .u64) b)):Int)
end Go.Idl
