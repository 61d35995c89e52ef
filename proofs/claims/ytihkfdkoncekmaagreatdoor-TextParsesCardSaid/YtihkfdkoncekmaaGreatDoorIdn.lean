/- This text proves that runs of single functions, of which only some slots are known, give calls of that interpreter; it has no conditions. -/
import Derived.Test.YtihkfdkoncekmaaGreatDoorIde
import Derived.Test.YtihkfdkoncekmaaGreatDoorIdd
import Derived.Test.YtihkfdkoncekmaaGreatDoorIdl
import Derived.KernelRfl
set_option linter.unusedSimpArgs false
set_option linter.unusedVariables false
namespace Go.Idl
variable {R:Type}
def az (b:Bool) (x y:Option R):Option R:=match b with
 |true=>x
 |false=>y
def grd (b:Bool) (x:Option R):Option R:=match b with
 |true=>x
 |false=>none
def asI (k:IntKind) (v:IV) (K:Int→Option R):Option R:=match v with
 |.int k' n=>grd (decide (k'=k)) (K n)
 |_=>none
def asB (v:IV) (K:Bool→Option R):Option R:=match v with
 |.bool b=>K b
 |_=>none
def asS (v:IV) (K:List UInt8→Option R):Option R:=match v with
 |.str s=>K s
 |_=>none
def asA (v:IV) (K:List IV→Option R):Option R:=match v with
 |.agg cs=>K cs
 |_=>none
def asT (v:IV) (K:List IV→Option R):Option R:=match v with
 |.tup cs=>K cs
 |_=>none
def asP (v:IV) (K:Nat→Nat→Option R):Option R:=match v with
 |.pB id off=>K id off
 |_=>none
def unc (cs:List IV) (K:IV→List IV→Option R):Option R:=match cs with
 |v::t=>K v t
 |[]=>none
def unn (cs:List IV) (K:Option R):Option R:=match cs with
 |[]=>K
 |_=>none
def unb (cs:List BObj) (K:BObj→List BObj→Option R):Option R:=match cs with
 |v::t=>K v t
 |[]=>none
def cr (cs:List BObj) (K:Option R):Option R:=match cs with
 |[]=>K
 |_=>none
def asC (o:BObj) (K:List IV→Option R):Option R:=match o with
 |.cells cs _=>K cs
 |_=>none
def DM (o:BObj) (K:List UInt8→Nat→Option R):Option R:=match o with
 |.iter s p=>K s p
 |_=>none
def gw (v:IV) (K:Nat→Option R):Option R:=match v with
 |.pB id 0=>K id
 |_=>none
def w5 (v:IV) (X:Option R):Option R:=match v with
 |.nilSlice=>X
 |_=>none
def BP (v:IV) (X:Option R):Option R:=match v with
 |.agg _=>none
 |.tup _=>none
 |.undef=>none
 |.pL ..=>none
 |_=>X
def fS (v:IV) (X:Option R):Option R:=match v with
 |.pL ..=>none
 |_=>X
def isSl (v:IV) (X:Option R):Option R:=match v with
 |.sl ..=>X
 |.nilSlice=>X
 |_=>none
def aW (v:IV) (X:Option R):Option R:=match v.refs with
 |some _=>X
 |none=>none
def oe (cs:List IV) (X:Option R):Option R:=match cs with
 |[]=>X
 |v::r=>aW v (oe r X)
def iU (v:IV) (X:Option R):Option R:=match v.plain with
 |true=>X
 |false=>none
def gi (cs:List IV) (X:Option R):Option R:=match cs with
 |[]=>X
 |v::r=>iU v (gi r X)
def evC (o:POp) (vs:List IV) (K:IV→Option R):Option R:=match o.ev vs with
 |some v=>K v
 |none=>none
def eK (agg:Bool) (cs:List IV) (off n:Nat) (K:IV→Option R):Option R:=match agg with
 |true=>match cut cs off n with
  |some r=>K (.agg r)
  |none=>none
 |false=>match cs[off]? with
  |some v=>K v
  |none=>none
def gr (m:IM) (id:Nat) (K:List IV→List Cap→Option R):Option R:=match m.get id with
 |.cells cs cp=>K cs cp
 |_=>none
def ldP (m:IM) (agg:Bool) (n:Nat) (p:IV) (K:IV→Option R):Option R:=match p with
 |.pI row off=>eK agg row off n K
 |.pB id off=>gr m id fun cs _=>eK agg cs off n K
 |_=>none
def stP (m:IM) (p:IV) (vs:List IV) (c:Cap) (K:IM→Option R):Option R:=match p with
 |.pB id off=>match aH { env:=[],lk:=[],lb:=[],m:=m } vs.length (.pB id off) vs c with
  |some st=>K st.m
  |none=>none
 |_=>none
def bP (m:IM) (o:BObj):IM:=⟨m.bs++[o],m.esc⟩
def vo (m:IM) (sz:Nat) (v:IV) (K:List IV→Nat→Option R):Option R:=match bE [] m sz v with
 |some (xs,n)=>K xs n
 |none=>none
def gJ (sv:IV) (sz bytes:Nat) (xs:List IV) (n:Nat) (K:IV→Option R):Option R:=match sv with
 |.nilSlice=>az (n==0) (K .nilSlice) (grd (decide (n*bytes≤aK)) (K (.sl xs n)))
 |.sl row len=>grd (decide ((len+n)*bytes≤aK∧row.length=len*sz)) (K (.sl (row++xs) (len+n)))
 |_=>none
def LQ (m:IM) (id off:Nat):Cap:=match m.get id with
 |.cells _ cp=>cp.getD off .any
 |_=>.any
def Kk (m:IM) (id off:Nat) (sv:IV) (sz bytes:Nat) (xs:List IV) (n:Nat) (K:IV→IM→Option R):Option R:=match sv with
 |.nilSlice=>az (n==0) (K .nilSlice m) (grd (decide (n*bytes≤aK)) (K (.sl xs n) m))
 |.sl row len=>grd (decide (LQ m id off=.own sz)) (grd (decide ((len+n)*bytes≤aK∧row.length=len*sz))
   (match ({ env:=[],lk:=[],lb:=[],m:=m }:St).drop (.B id off) with
    |some st=>K (.sl (row++xs) (len+n)) st.m
    |none=>none))
 |_=>none
def CW (sv:IV) (bytes:Nat) (xs:List IV) (n:Nat) (K:IV→Option R):Option R:=match sv with
 |.nilSlice=>az (n==0) (K .nilSlice) (grd (decide (n*bytes≤aK)) (K (.sl xs n)))
 |_=>none
def cpS (m:IM) (d:IV) (sz:Nat) (xs:List IV) (k:Nat) (K:Nat→IM→Option R):Option R:=match d with
 |.sB id off n _=>match aH { env:=[],lk:=[],lb:=[],m:=m } (Nat.min k n*sz) (.pB id off) (xs.take (Nat.min k n*sz)) .any with
  |some st=>K (Nat.min k n) st.m
  |none=>none
 |.nilSlice=>K 0 m
 |_=>none
def cpC (m:IM) (d:IV) (sz:Nat) (xs:List IV) (k:Nat) (K:Nat→IM→Option R):Option R:=grd (decide (xs.length=k*sz)) (cpS m d sz xs k K)
def ak (call:aN) (c:Callee) (vs:List IV) (ids:List Nat) (m:IM) (K:IV→IM→Option R):Option R:=match an (vs.flatMap IV.cells) with
 |some _=>match cv m ids with
  |some m1=>match call c vs m1 with
   |some (v,m2)=>match aT m m2 ids with
    |some m3=>K v m3
    |none=>none
   |none=>none
  |none=>none
 |none=>none
def BU (call:aN) (g:IV) (vs:List IV) (ids:List Nat) (m:IM) (K:IV→IM→Option R):Option R:=match g with
 |.func f fs cs=>ak call (.f f) (fs++vs++cs) ids m K
 |.yld id=>ak call (.y id) vs ids m K
 |_=>none
def KL (m:IM) (d:EqD) (zero:IV) (ok:Bool) (mv k:IV) (K:IV→Option R):Option R:=match mv with
 |.nilMap=>K (match ok with | true=>.tup [zero,.bool false] | false=>zero)
 |.map id=>match m.get id with
  |.map es=>match oo d k es with
   |some (some v)=>K (match ok with | true=>.tup [v,.bool true] | false=>v)
   |some none=>K (match ok with | true=>.tup [zero,.bool false] | false=>zero)
   |none=>none
  |_=>none
 |_=>none
def J4 (m:IM) (d:EqD) (mv k v:IV) (K:IM→Option R):Option R:=match mv with
 |.map id=>match m.get id with
  |.map es=>match qz d k v es,v.plain&&k.plain with
   |some es,true=>K ⟨m.bs.set id (.map es),m.esc⟩
   |_,_=>none
  |_=>none
 |_=>none
def KQ (m:IM) (mv:IV) (K:Nat→Option R):Option R:=match mv with
 |.nilMap=>K 0
 |.map id=>match m.get id with
  |.map es=>K es.length
  |_=>none
 |_=>none
def exC (e ex:Ex) (A B:Option R):Option R:=match decide (ex=e) with
 |true=>A
 |false=>B
inductive Sh1 where
 |any | int (k:IntKind) | bool | str | ptr | ptr0 | own | sl
 deriving DecidableEq,Inhabited
inductive ShA where
 |one (s:Sh1)
 |agg (l:List Sh1)
 deriving Inhabited
inductive Sh where
 |one (s:Sh1)
 |agg (l:List Sh1)
 |tup (l:List ShA)
 deriving Inhabited
def as1 (s:Sh1) (v:IV) (K:IV→Option R):Option R:=match s with
 |.int k=>asI k v fun n=>K (.int k n)
 |.bool=>asB v fun b=>K (.bool b)
 |.str=>asS v fun s=>K (.str s)
 |.ptr=>asP v fun id off=>K (.pB id off)
 |.ptr0=>gw v fun id=>K (.pB id 0)
 |_=>K v
def asL:List Sh1→List IV→(List IV→Option R)→Option R
 |[],cs,K=>unn cs (K [])
 |s::r,cs,K=>unc cs fun v t=>as1 s v fun v=>asL r t fun t=>K (v::t)
def Kc (s:ShA) (v:IV) (K:IV→Option R):Option R:=match s with
 |.one s=>as1 s v K
 |.agg l=>asA v fun cs=>asL l cs fun cs=>K (.agg cs)
def Hx:List ShA→List IV→(List IV→Option R)→Option R
 |[],cs,K=>unn cs (K [])
 |s::r,cs,K=>unc cs fun v t=>Kc s v fun v=>Hx r t fun t=>K (v::t)
def I4 (s:Sh) (v:IV) (K:IV→Option R):Option R:=match s with
 |.one s=>as1 s v K
 |.agg l=>asA v fun cs=>asL l cs fun cs=>K (.agg cs)
 |.tup l=>asT v fun cs=>Hx l cs fun cs=>K (.tup cs)
abbrev Tys:=List (Nat×Sh)
def wC:Tys→Nat→Sh
 |[],_=>.one .any
 |(j,s)::r,i=>match Nat.beq j i with
  |true=>s
  |false=>wC r i
def shV:IV→Sh
 |.agg _=>.agg []
 |.pL ..=>.one .own
 |_=>.one .any
inductive BX where
 |cells (k:Nat) (l:List Sh1) (cp:List Cap)
 |iter (k:Nat)
 |dead (k:Nat)
 deriving Inhabited
def J0:BObj:=.loop 0 0 0 [] 0
def BX.k:BX→Nat
 |.cells k _ _=>k
 |.iter k=>k
 |.dead k=>k
structure XE where
 ex:Ex
 slots:List (Nat×Cap)
 boxes:List BX
 own:List (Nat×Nat×Nat)
 deriving Inhabited
abbrev XP:=List XE
inductive Pl where
 |z
 |n (x:Option XP) (a b:Pl)
 deriving Inhabited
def Pl.x:Pl→Option XP
 |.z=>none
 |.n x _ _=>x
def Pl.a:Pl→Pl
 |.z=>.z
 |.n _ a _=>a
def Pl.b:Pl→Pl
 |.z=>.z
 |.n _ _ b=>b
abbrev LR:=Ex×List IV×List BObj×IM
def unk:Cap:=.own 0
def yo (a b:Cap):Bool:=decide (a=unk)||decide (b=a)
def qT (env:Env):List (Nat×Cap)→(List IV→Option R)→Option R
 |[],K=>K []
 |(i,c)::r,K=>match look env i with
  |some (v,c')=>grd (yo c c') (qT env r fun vs=>K (v::vs))
  |none=>none
def pb:List Cap→List Cap→Bool
 |[],[]=>true
 |a::r,b::t=>yo a b&&pb r t
 |_,_=>false
def i5 (lb:List (Nat×BObj)):List BX→(List BObj→Option R)→Option R
 |[],K=>K []
 |.cells k _ cp::r,K=>match av lb k with
  |.cells cs cp'=>grd (pb cp cp') (i5 lb r fun bs=>K (.cells cs cp::bs))
  |_=>none
 |.iter k::r,K=>match av lb k with
  |.iter s p=>i5 lb r fun bs=>K (.iter s p::bs)
  |_=>none
 |.dead _::r,K=>i5 lb r K
def hasB (bx:List BX) (k:Nat):Bool:=match bx with
 |[]=>false
 |b::r=>Nat.beq b.k k||hasB r k
def CJ (lb:List (Nat×BObj)) (bx:List BX):Bool:=match lb with
 |[]=>true
 |(k,_)::r=>hasB bx k&&CJ r bx
def CN:Ex→Ex→Bool
 |.normal,.normal=>true
 |.ret,.ret=>true
 |.exit i,.exit j=>Nat.beq i j
 |_,_=>false
def ss (env:Env):List (Nat×Nat×Nat)→Option R→Option R
 |[],X=>X
 |(i,k,o)::r,X=>match look env i with
  |some (.pL k' o',.any)=>grd (Nat.beq k' k&&Nat.beq o' o) (ss env r X)
  |_=>none
def Ci:List (Nat×Nat×Nat)→Env→Env
 |[],e=>e
 |(i,k,o)::r,e=>(i,.pL k o,.any)::Ci r e
def jw:XP→Ex→St→(LR→Option R)→Option R
 |[],_,_,_=>none
 |x::r,e,s,K=>match CN e x.ex with
  |true=>ss s.env x.own (qT s.env x.slots fun vs=>i5 s.lb x.boxes fun bs=>grd (CJ s.lb x.boxes) (K (e,vs,bs,s.m)))
  |false=>jw r e s K
def jB (xp:XP) (e:Ex) (s:St):Option LR:=jw xp e s some
def DC (ty:Tys):List (Nat×Cap)→List IV→(Env→Option R)→Option R
 |[],vs,K=>unn vs (K [])
 |(i,c)::r,vs,K=>unc vs fun v t=>I4 (wC ty i) v fun v=>DC ty r t fun e=>K ((i,v,c)::e)
def uo:List BX→List BObj→(List (Nat×BObj)→Option R)→Option R
 |[],bs,K=>cr bs (K [])
 |.cells k l cp::r,bs,K=>unb bs fun o t=>asC o fun cs=>asL l cs fun cs=>uo r t fun lb=>K ((k,.cells cs cp)::lb)
 |.iter k::r,bs,K=>unb bs fun o t=>DM o fun s p=>uo r t fun lb=>K ((k,.iter s p)::lb)
 |.dead k::r,bs,K=>uo r bs fun lb=>K ((k,J0)::lb)
def uO (ty:Tys):XP→Ex→List IV→List BObj→IM→(Ex→St→Option R)→Option R
 |[],_,_,_,_,_=>none
 |x::r,ex,vs,bs,m,K=>exC x.ex ex (DC ty x.slots vs fun env=>uo x.boxes bs fun lb=>K x.ex { env:=Ci x.own env,lk:=[],lb,m }) (uO ty r ex vs bs m K)
def bu (r:Option LR) (K:Ex→List IV→List BObj→IM→Option R):Option R:=match r with
 |some (ex,vs,bs,m)=>K ex vs bs m
 |none=>none
def rdC (ty:Tys) (e:Env) (a:Arg) (K:Sh→IV→Option R):Option R:=match a with
 |.t i=>match look e i with
  |some (v,_)=>K (wC ty i) v
  |none=>none
 |.c v=>K (shV v) v
def wW (ty:Tys) (e:Env):List Arg→(List (Sh×IV)→Option R)→Option R
 |[],K=>K []
 |a::r,K=>rdC ty e a fun s v=>wW ty e r fun l=>K ((s,v)::l)
def lO (sh:Sh) (v:IV) (K:List IV→Option R):Option R:=match sh with
 |.agg _=>asA v K
 |_=>BP v (K [v])
def rq:List IV→List (Nat×Nat)→List (Sh×IV)→(List IV→Option R)→Option R
 |zero,(off,n)::ps,(sh,v)::vs,K=>lO sh v fun c=>grd (Nat.beq c.length n&&Nat.ble (off+n) zero.length) (rq (over zero off c) ps vs K)
 |cs,[],[],K=>K cs
 |_,_,_,_=>none
def known (c:Cap) (X:Option R):Option R:=match c with
 |.any=>X
 |.own z=>grd (!(Nat.beq z 0)) X
def tS:List (Nat×Loc)→List (Nat×Loc)
 |[]=>[]
 |(i,l)::r=>match l with
  |.B ..=>tS r
  |_=>(i,l)::tS r
def uQ:List (Nat×Loc)→List (Nat×Loc)
 |[]=>[]
 |(i,l)::r=>match l with
  |.B ..=>uQ r
  |.marked=>uQ r
  |_=>(i,l)::uQ r
def xz (e:Env):List Arg→(List Nat→Option R)→Option R
 |[],K=>K []
 |.c _::r,K=>xz e r K
 |.t i::r,K=>match look e i with
  |some (v,_)=>match v with
   |.pB id _=>xz e r fun ids=>K (id::ids)
   |_=>xz e r K
  |none=>none
def single:List (Sh×IV)→List IV
 |[]=>[]
 |(_,v)::r=>v::single r
def mvC (st:St) (i:Nat) (xf:Bool) (K:IV→Cap→St→Option R):Option R:=match look st.env i with
 |some (v,c)=>match xf with
  |false=>K v .any st
  |true=>match c with
   |.any=>K v .any st
   |.own sz=>K v (.own sz) { st with env:=(i,v,.any)::st.env,lk:=lkSlot i st.lk }
 |none=>none
def stC (lb:List (Nat×BObj)) (sh:Sh) (p:IV) (n:Nat) (cs:List IV) (c:Cap) (st:St) (K:St→Option R):Option R:=match sh with
 |.one .own=>match p with
  |.pL k off=>match av lb k with
   |.cells bs cp=>oe cs (grd (Nat.beq cs.length n&&Nat.ble (off+n) bs.length) (K { st with lb:=(k,.cells (over bs off cs) (aB cp off n c))::st.lb,lk:=lkL k st.lk }))
   |_=>none
  |_=>none
 |_=>known c (grd (Nat.beq cs.length n) (stP st.m p cs c fun m=>K { st with m:=m,lk:=tS st.lk }))
def IK.den (ty:Tys) (call:aN) (st:St) (k:IK) (K:IV→Cap→St→Option R):Option R:=match k with
 |.mv x xf _=>(match x with
  |.c v=>K v .any st
  |.t i=>mvC st i xf K)
 |.p o args=>match o,args with
  |.pick,[.t j,a,b]=>match look st.env j with
   |some (.bool c,cc)=>az c (rdC ty st.env a fun _ v=>K v .any { st with env:=(j,.bool true,cc)::st.env }) (rdC ty st.env b fun _ v=>K v .any { st with env:=(j,.bool false,cc)::st.env })
   |_=>none
  |.build zero parts,args=>wW ty st.env args fun l=>rq zero parts l fun cs=>K (.agg cs) .any st
  |o,args=>wW ty st.env args fun l=>evC o (single l) fun v=>K v .any st
 |.same x=>match x with
  |.t i=>match look st.env i with
   |some (.sl row len,c)=>grd (decide (linkOf st.lk i=some .marked)) (match c with
    |.own sz=>K (.sl row len) (.own sz) { st with env:=(i,.sl row len,.any)::st.env,lk:=lkSlot i st.lk }
    |.any=>K (.sl row len) .any st)
   |_=>none
  |.c _=>none
 |.load agg n a _=>rdC ty st.env a fun sh p=>match sh with
  |.one .own=>match p with
   |.pL k off=>match av st.lb k with
    |.cells cs _=>eK agg cs off n fun v=>K v .any st
    |_=>none
   |_=>none
  |_=>ldP st.m agg n p fun v=>K v .any st
 |.store n a x xf=>rdC ty st.env a fun sh p=>match x with
  |.c v=>lO (shV v) v fun cs=>stC st.lb sh p n cs .any st fun st=>K .undef .any st
  |.t i=>mvC st i xf fun v c st'=>match c with
   |.any=>lO (wC ty i) v fun cs=>stC st.lb sh p n cs .any st' fun st=>K .undef .any st
   |.own sz=>isSl v (stC st.lb sh p n [v] (.own sz) st' fun st=>K .undef .any st)
 |.allocL k zero cp=>match av st.lb k with
  |.none=>K (.pL k 0) .any { st with lb:=(k,.cells zero (aJ zero cp))::st.lb }
  |_=>none
 |.allocG zero cp=>K (.pB st.m.size 0) .any { st with m:=bP st.m (.cells zero (aJ zero cp))}
 |.boxL k n x=>rdC ty st.env x fun sh v=>lO sh v fun cs=>oe cs (grd (Nat.beq cs.length n) (match av st.lb k with
  |.none=>K (.pL k 0) .any { st with lb:=(k,.cells cs (aJ cs []))::st.lb }
  |_=>none))
 |.boxG n x=>rdC ty st.env x fun sh v=>lO sh v fun cs=>oe cs (grd (Nat.beq cs.length n) (K (.pB st.m.size 0) .any { st with m:=bP st.m (.cells cs (aJ cs []))}))
 |.buildSlice sz len zero parts args=>wW ty st.env args fun l=>rq (cC zero len) parts l fun cs=>gi cs (K (.sl cs len) (.own sz) st)
 |.strBytes x=>rdC ty st.env x fun _ v=>asS v fun s=>grd (decide (s.length≤aK)) (K (.sl (aj s) s.length) (.own 1) st)
 |.makeI sz bytes zero len cap=>rdC ty st.env len fun _ l=>asI .i64 l fun l=>rdC ty st.env cap fun _ c=>asI .i64 c fun c =>
   grd (decide (0≤l∧l≤c∧c*bytes≤aK∧c≤aK)) (K (.sl (cC zero l.toNat) l.toNat) (.own sz) st)
 |.makeB sz bytes zero len cap=>rdC ty st.env len fun _ l=>asI .i64 l fun l=>rdC ty st.env cap fun _ c=>asI .i64 c fun c =>
   grd (decide (0≤l∧l≤c∧c*bytes≤aK∧c≤aK)) (K (.sB st.m.size 0 l.toNat sz) .any { st with m:=bP st.m (.cells (cC zero c.toNat) (aJ (cC zero c.toNat) []))})
 |.append sz bytes s x=>rdC ty st.env x fun _ x=>vo st.m sz x fun xs n=>gi xs (grd (Nat.beq xs.length (n*sz)) (match s with
  |.c sv=>CW sv bytes xs n fun v=>K v (.own sz) st
  |.t i=>match look st.env i with
   |some (sv,.own z)=>grd (Nat.beq z sz && !(Nat.beq sz 0)) (gJ sv sz bytes xs n fun v=>K v (.own sz) { st with env:=(i,sv,unk)::st.env,lk:=lkSlot i st.lk })
   |some (sv,.any)=>match linkOf st.lk i with
    |some (.L k off)=>match av st.lb k with
     |.cells cs cp=>grd (decide (cp.getD off .any=.own sz) && !(Nat.beq sz 0)) (gJ sv sz bytes xs n fun v=>K v (.own sz) { st with lb:=(k,.cells cs (cp.set off unk))::st.lb })
     |_=>none
    |some (.B id off)=>Kk st.m id off sv sz bytes xs n fun v m=>K v (.own sz) { st with m:=m }
    |some (.slot j)=>match look st.env j with
     |some (w,.own z)=>grd (Nat.beq z sz && !(Nat.beq sz 0)) (gJ sv sz bytes xs n fun v=>K v (.own sz) { st with env:=(j,w,unk)::st.env,lk:=lkSlot j st.lk })
     |_=>none
    |_=>CW sv bytes xs n fun v=>K v (.own sz) st
   |none=>none))
 |.copy sz d s=>rdC ty st.env d fun _ d=>rdC ty st.env s fun _ s=>vo st.m sz s fun xs k=>cpC st.m d sz xs k fun n m=>K (.int .i64 n) .any { st with m:=m,lk:=tS st.lk }
 |.callF f args hide=>wW ty st.env args fun l=>xz st.env hide fun ids=>ak call (.f f) (single l) ids st.m fun v m=>K v .any { st with m:=m,lk:=uQ st.lk }
 |.callV g args hide=>wW ty st.env args fun l=>rdC ty st.env g fun _ g=>xz st.env hide fun ids=>BU call g (single l) ids st.m fun v m=>K v .any { st with m:=m,lk:=uQ st.lk }
 |.mkMap=>K (.map st.m.size) .any { st with m:=bP st.m (.map [])}
 |.lookup d zero ok a b=>rdC ty st.env a fun _ mp=>rdC ty st.env b fun _ k=>KL st.m d zero ok mp k fun v=>K v .any st
 |.mapUpd d a b x=>rdC ty st.env a fun _ mp=>rdC ty st.env b fun _ k=>rdC ty st.env x fun _ v=>J4 st.m d mp k v fun m=>K .undef .any { st with m:=m }
 |.mapLen a=>rdC ty st.env a fun _ mp=>KQ st.m mp fun n=>K (.int .i64 n) .any st
 |.rangeStr k x=>rdC ty st.env x fun _ v=>asS v fun s=>match av st.lb k with
  |.none=>K (.pL k 0) .any { st with lb:=(k,.iter s 0)::st.lb }
  |_=>none
 |.nextStr a=>rdC ty st.env a fun _ p=>match p with
  |.pL k 0=>match av st.lb k with
   |.iter s pos=>az (decide (pos<s.length))
     (K (.tup [.bool true,.int .i64 pos,.int .i32 (Utf8.decode ⟨⟨s⟩⟩ pos).1]) .any { st with lb:=(k,.iter s (pos+(Utf8.decode ⟨⟨s⟩⟩ pos).2))::st.lb })
     (K (.tup [.bool false]) .any st)
   |_=>none
  |_=>none
def zT (e:Env) (a:Arg) (t:OTag) (X:Option R):Option R:=match a with
 |.c v=>match t with
  |.imm=>(match v with | .pI ..=>X | _=>none)
  |.mem=>fS v X
  |.own k=>(match v with | .pL k' _=>grd (Nat.beq k' k) X | _=>none)
  |_=>none
 |.t i=>match look e i with
  |some (v,_)=>match t with
   |.imm=>(match v with | .pI ..=>X | _=>none)
   |.mem=>fS v X
   |.own k=>(match v with | .pL k' _=>grd (Nat.beq k' k) X | _=>none)
   |.hid h=>match look e h with
    |some (w,_)=>asP v fun id _=>asP w fun id' _=>grd (Nat.beq id id') X
    |none=>none
   |_=>none
  |none=>none
def Dm (e:Env) (lk:List (Nat×Loc)) (i:Nat) (t:OTag) (X:Option R):Option R:=match look e i with
 |some (v,c)=>match c with
  |.own _=>X
  |.any=>match linkOf lk i with
   |some l=>grd (t.hits l) X
   |none=>(match v with | .nilSlice=>X | _=>none)
 |none=>none
def okC (k:IK) (t:OTag) (st:St) (X:Option R):Option R:=match t with
 |.none=>X
 |t=>match k with
  |.load _ _ a _=>zT st.env a t X
  |.store _ a _ _=>zT st.env a t X
  |.nextStr a=>zT st.env a t X
  |.append _ _ (.t i) _=>Dm st.env st.lk i t X
  |_=>none
def mO (d:Nat):List (Nat×Loc)→(List (Nat×Loc)→Option R)→Option R
 |[],K=>K []
 |(i,l)::r,K=>mO d r fun r'=>match Nat.beq i d with
  |true=>K r'
  |false=>match l with
   |.slot j=>(match Nat.beq j d with
    |true=>K r'
    |false=>K ((i,.slot j)::r'))
   |.L a b=>K ((i,.L a b)::r')
   |.B a b=>K ((i,.B a b)::r')
   |.marked=>K ((i,.marked)::r')
def Gp (ty:Tys) (env:Env) (k:IK) (K:Option Loc→Option R):Option R:=match k with
 |.mv (.t i) false true=>K (some (.slot i))
 |.strBytes _=>K (some .marked)
 |.buildSlice 1 _ _ _ _=>K (some .marked)
 |.load false _ (.t i) true=>match wC ty i with
  |.one .own=>(match look env i with | some (.pL k off,_)=>K (some (.L k off)) | _=>none)
  |.one .ptr=>(match look env i with | some (.pB k off,_)=>K (some (.B k off)) | _=>none)
  |.one .ptr0=>(match look env i with | some (.pB k off,_)=>K (some (.B k off)) | _=>none)
  |_=>K none
 |_=>K none
def KH (ty:Tys) (d:Option Nat) (v:IV) (c:Cap) (k:IK) (env:Env) (st:St) (K:St→Option R):Option R:=match d with
 |none=>K st
 |some d=>I4 (wC ty d) v fun v=>mO d st.lk fun lk=>Gp ty env k fun l=>match l with
  |some l=>(match l with
   |.slot j=>(match Nat.beq j d with | true=>K { st with env:=(d,v,c)::st.env,lk:=lk } | false=>K { st with env:=(d,v,c)::st.env,lk:=(d,.slot j)::lk })
   |l=>K { st with env:=(d,v,c)::st.env,lk:=(d,l)::lk })
  |none=>K { st with env:=(d,v,c)::st.env,lk:=lk }
def HG (d:Option Nat) (st:St) (K:St→Option R):Option R:=match d with
 |none=>K st
 |some d=>mO d st.lk fun lk=>K { st with env:=(d,.tup [],.any)::st.env,lk:=lk }
def Bl (st:St) (g:Option (Nat×Bool)) (A B:St→Option R):Option R:=match g with
 |none=>A st
 |some (j,want)=>match look st.env j with
  |some (.bool b,c)=>match want with
   |true=>az b (A { st with env:=(j,.bool true,c)::st.env }) (B { st with env:=(j,.bool false,c)::st.env })
   |false=>az b (B { st with env:=(j,.bool true,c)::st.env }) (A { st with env:=(j,.bool false,c)::st.env })
  |some (.tup _,_)=>B st
  |_=>none
def IOp.den (ty:Tys) (call:aN) (o:IOp) (st:St) (K:St→Option R):Option R :=
 Bl st o.guard (fun st=>okC o.k o.tag st (o.k.den ty call st fun v c st'=>KH ty o.dst v c o.k st.env st' K)) (fun st=>HG o.dst st K)
def uF (ty:Tys) (call:aN):List IOp→St→(St→Option R)→Option R
 |[],st,K=>K st
 |o::r,st,K=>o.den ty call st fun st=>uF ty call r st K
def iter {α β:Type}(f:α→Option (α⊕β)) (a:α):Option β:=match f a with
 |some (.inl a')=>iter f a'
 |some (.inr b)=>some b
 |none=>none
partial_fixpoint
def E7 (v:IV) (keepL:List Nat) (X:Option R):Option R:=match v with
 |.pL k _=>grd (keepL.contains k) X
 |_=>X
def BW (s:Sh) (v:IV) (keepL:List Nat) (X:Option R):Option R:=match s with
 |.one .sl=>fS v X
 |_=>E7 v keepL X
def nq (ty:Tys) (e:Env) (keepL:List Nat):List (Nat×Nat)→(Env→Option R)→Option R
 |[],K=>K []
 |(i,o)::r,K=>match look e i with
  |some (v,c)=>BW (wC ty i) v keepL (match o with
   |0=>nq ty e keepL r fun e=>K ((i,v,.any)::e)
   |sz+1=>match c with
    |.own s=>grd (!(Nat.beq s 0)) (nq ty e keepL r fun e=>K ((i,v,.own s)::e))
    |.any=>w5 v (nq ty e keepL r fun e=>K ((i,v,.own sz)::e)))
  |none=>none
def sK (k:Nat) (cs:List IV):List (Nat×Nat×Nat)→List Cap→(List Cap→Option R)→Option R
 |[],cp,K=>K cp
 |(k',o,sz)::r,cp,K=>match Nat.beq k' k with
  |true=>match cp.getD o .any with
   |.own s=>grd (!(Nat.beq s 0)) (sK k cs r (cp.set o (.own s)) K)
   |.any=>w5 (cs.getD o .undef) (sK k cs r (cp.set o (.own sz)) K)
  |false=>sK k cs r cp K
def nL (lb:List (Nat×BObj)) (own:List (Nat×Nat×Nat)):List Nat→(List (Nat×BObj)→Option R)→Option R
 |[],K=>K []
 |k::r,K=>match av lb k with
  |.cells cs cp=>sK k cs own cp fun cp=>nL lb own r fun b=>K ((k,.cells cs cp)::b)
  |.iter s p=>nL lb own r fun b=>K ((k,.iter s p)::b)
  |.none=>nL lb own r K
  |_=>none
def yz (ty:Tys) (st:St) (h:Head) (K:St→Option R):Option R :=
 nq ty st.env h.keepL h.keep fun env=>nL st.lb h.ownL h.keepL fun lb=>K { env,lk:=[],lb,m:=st.m }
def gP (ty:Tys) (h:Head) (xp:XP) (e:Ex) (s:St):Option (St⊕LR):=match e with
 |.normal=>yz ty s h fun s=>some (.inl s)
 |e=>jw xp e s fun r=>some (.inr r)
def ICode.den (ty:Tys) (call:aN):ICode→(R:Type)→Pl→St→(Ex→St→Option R)→Option R
 |.skip,_,_,st,K=>K .normal st
 |.ops l,_,_,st,K=>uF ty call l st fun st=>K .normal st
 |.draw l _,_,_,st,K=>uF ty call l st fun st=>K .normal st
 |.seq a b,R,pl,st,K=>match pl.x with
  |some xp=>bu (a.den ty call LR pl.a st (jB xp)) fun ex vs bs m=>uO ty xp ex vs bs m fun e s=>match e with
   |.normal=>b.den ty call R pl.b s K
   |e=>K e s
  |none=>a.den ty call R pl.a st fun e s=>match e with
   |.normal=>b.den ty call R pl.b s K
   |e=>K e s
 |.cond c a b,R,pl,st,K=>match c with
  |.t j=>match look st.env j with
   |some (.bool x,cc)=>az x (a.den ty call R pl.a { st with env:=(j,.bool true,cc)::st.env } K) (b.den ty call R pl.b { st with env:=(j,.bool false,cc)::st.env } K)
   |_=>none
  |.c v=>match v with
   |.bool true=>a.den ty call R pl.a st K
   |.bool false=>b.den ty call R pl.b st K
   |_=>none
 |.block id b,R,pl,st,K=>b.den ty call R pl.a st fun e s=>match e with
   |.exit i=>(match Nat.beq i id with | true=>K .normal s | false=>K (.exit i) s)
   |e=>K e s
 |.loop h b,_,pl,st,K=>match pl.x with
  |some xp=>yz ty st h fun s=>bu (iter (fun s=>b.den ty call (St⊕LR) pl.a s (gP ty h xp)) s) fun ex vs bs m=>uO ty xp ex vs bs m K
  |none=>none
 |.rangeF _ _ _,_,_,_,_=>none
 |.exit id,_,_,st,K=>K (.exit id) st
 |.ret,_,_,st,K=>K .ret st
def oK (st:St):List RV→(List IV→Option R)→Option R
 |[],K=>K []
 |.t i::r,K=>match look st.env i with
  |some (v,_)=>oK st r fun vs=>K (v::vs)
  |none=>none
 |.cell i agg n::r,K=>match look st.env i with
  |some (.pL k off,_)=>(match av st.lb k with
   |.cells cs _=>eK agg cs off n fun v=>oK st r fun vs=>K (v::vs)
   |_=>none)
  |some (p,_)=>ldP st.m agg n p fun v=>oK st r fun vs=>K (v::vs)
  |none=>none
def GC (m m':IM) (vs:List IV):Option (IV×IM):=match vs with
 |[v]=>settle m m' v
 |vs=>settle m m' (.tup vs)
def eX (ty:Tys) (pl:Pl) (fn:IFn) (call:aN) (args:List IV) (m:IM):Option (IV×IM) :=
 match Nat.beq args.length fn.nargs with
 |true=>fn.body.den ty call (IV×IM) pl { env:=br 0 args,lk:=[],lb:=[],m:=m } fun e s=>match e with
  |.exit _=>none
  |_=>oK s fn.rets fun vs=>GC m s.m vs
 |false=>none
end Go.Idl
namespace Go.Idl
variable {R:Type}
theorem jo {b:Bool}{x y:Option R}{r:R}(h:az b x y=some r):(b=true∧x=some r)∨(b=false∧y=some r):=by
 cases b
 ·exact .inr ⟨rfl,h⟩
 ·exact .inl ⟨rfl,h⟩
theorem bf {b:Bool}{x:Option R}{r:R}(h:grd b x=some r):b=true∧x=some r:=by
 cases b
 ·cases h
 ·exact⟨rfl,h⟩
theorem mV {k:IntKind}{v:IV}{K:Int→Option R}{r:R}(h:asI k v K=some r):∃n,v=.int k n∧K n=some r:=by
 unfold asI at h
 split at h
 ·obtain⟨e,h2⟩:=bf h
  have e':=of_decide_eq_true e
  exact⟨_,by rw[e'],h2⟩
 ·cases h
theorem DT {v:IV}{K:Bool→Option R}{r:R}(h:asB v K=some r):∃n,v=.bool n∧K n=some r:=by
 unfold asB at h
 split at h
 ·exact⟨_,rfl,h⟩
 ·cases h
theorem uG {v:IV}{K:List UInt8→Option R}{r:R}(h:asS v K=some r):∃n,v=.str n∧K n=some r:=by
 unfold asS at h
 split at h
 ·exact⟨_,rfl,h⟩
 ·cases h
theorem ue {v:IV}{K:List IV→Option R}{r:R}(h:asA v K=some r):∃n,v=.agg n∧K n=some r:=by
 unfold asA at h
 split at h
 ·exact⟨_,rfl,h⟩
 ·cases h
theorem CD {v:IV}{K:List IV→Option R}{r:R}(h:asT v K=some r):∃n,v=.tup n∧K n=some r:=by
 unfold asT at h
 split at h
 ·exact⟨_,rfl,h⟩
 ·cases h
theorem tw {v:IV}{K:Nat→Nat→Option R}{r:R}(h:asP v K=some r):∃i o,v=.pB i o∧K i o=some r:=by
 unfold asP at h
 split at h
 ·exact⟨_,_,rfl,h⟩
 ·cases h
theorem Cb {v:IV}{K:Nat→Option R}{r:R}(h:gw v K=some r):∃i,v=.pB i 0∧K i=some r:=by
 unfold gw at h
 split at h
 ·exact⟨_,rfl,h⟩
 ·cases h
theorem wD {v:IV}{X:Option R}{r:R}(h:w5 v X=some r):v=.nilSlice∧X=some r:=by
 unfold w5 at h
 split at h
 ·exact⟨rfl,h⟩
 ·cases h
theorem tL {cs:List IV}{K:IV→List IV→Option R}{r:R}(h:unc cs K=some r):∃v t,cs=v::t∧K v t=some r:=by
 unfold unc at h
 split at h
 ·exact⟨_,_,rfl,h⟩
 ·cases h
theorem uc {cs:List IV}{K:Option R}{r:R}(h:unn cs K=some r):cs=[]∧K=some r:=by
 unfold unn at h
 split at h
 ·exact⟨rfl,h⟩
 ·cases h
theorem Cz {v:IV}{X:Option R}{r:R}(h:BP v X=some r):v.cells=[v]∧v.isU=false∧v.isL=false∧X=some r:=by
 unfold BP at h
 split at h
 ·cases h
 ·cases h
 ·cases h
 ·cases h
 ·rename_i h1 h2 h3 h4
  cases v<;>first | exact⟨rfl,rfl,rfl,h⟩ | (exact (h1 _ rfl).elim) | (exact (h2 _ rfl).elim) | (exact (h3 rfl).elim) | (exact (h4 _ _ rfl).elim)
theorem vz {v:IV}{X:Option R}{r:R}(h:fS v X=some r):v.isL=false∧X=some r:=by
 unfold fS at h
 split at h
 ·cases h
 ·rename_i h1
  cases v<;>first | exact⟨rfl,h⟩ | (exact (h1 _ _ rfl).elim)
theorem AR {v:IV}{X:Option R}{r:R}(h:aW v X=some r):(∃n,v.refs=some n)∧X=some r:=by
 unfold aW at h
 split at h
 ·rename_i e;exact⟨⟨_,e⟩,h⟩
 ·cases h
theorem kz:∀{cs:List IV}{X:Option R}{r:R},oe cs X=some r→(∃n,an cs=some n)∧X=some r
 |[],X,r,h=>⟨⟨_,rfl⟩,h⟩
 |v::t,X,r,h=>by
  obtain⟨⟨n,e⟩,h⟩:=AR h
  obtain⟨⟨n',e'⟩,h⟩:=kz h
  exact⟨⟨_,by rw[an,e,e']⟩,h⟩
theorem jy:∀{cs:List IV}{X:Option R}{r:R},gi cs X=some r→cs.all IV.plain=true∧X=some r
 |[],X,r,h=>⟨rfl,h⟩
 |v::t,X,r,h=>by
  unfold gi iU at h
  split at h
  ·rename_i e
   obtain⟨e',h⟩:=jy h
   exact⟨by rw[List.all_cons,e,e'];rfl,h⟩
  ·cases h
theorem D4 {o:POp}{vs:List IV}{K:IV→Option R}{r:R}(h:evC o vs K=some r):∃v,o.ev vs=some v∧K v=some r:=by
 unfold evC at h
 split at h
 ·exact⟨_,by assumption,h⟩
 ·cases h
theorem Eo {cs:List IV}{off:Nat}{v:IV}(h:cs[off]?=some v):cut cs off 1=some [v]:=by
 obtain⟨hl,he⟩:=List.getElem?_eq_some_iff.1 h
 unfold cut
 rw[if_pos (by omega),List.drop_eq_getElem_cons hl,he]
 rfl
def ldV (agg:Bool) (cs:List IV) (off n:Nat):Option IV:=match agg with
 |true=>(cut cs off n).map .agg
 |false=>cs[off]?
theorem my {agg:Bool}{cs:List IV}{off n:Nat}{K:IV→Option R}{r:R}(h:eK agg cs off n K=some r):∃v,K v=some r∧ldV agg cs off n=some v:=by
 cases agg with
 |true =>
  simp only[eK] at h
  split at h
  ·rename_i e;exact⟨_,h,by simp[ldV,e]⟩
  ·cases h
 |false =>
  simp only[eK] at h
  split at h
  ·rename_i e;exact⟨_,h,by simp[ldV,e]⟩
  ·cases h
theorem pg {lb:List (Nat×BObj)}{m:IM}{agg:Bool}{n:Nat}{p:IV}{cs:List IV}{off:Nat}{v:IV}(hc:∀n,aI lb m p n=cut cs off n) (h:ldV agg cs off n=some v):bM lb m agg n p=some v:=by
 unfold bM
 simp only[hc]
 cases agg with
 |true =>
  simp only[ldV,Option.map_eq_some_iff] at h
  obtain⟨x,e,rfl⟩:=h
  simp[e,aq]
 |false =>
  simp only[ldV] at h
  simp[Eo h]
theorem Cr {m:IM}{id:Nat}{K:List IV→List Cap→Option R}{r:R}(h:gr m id K=some r):∃cs cp,m.get id=.cells cs cp∧K cs cp=some r:=by
 unfold gr at h
 split at h
 ·rename_i e;exact⟨_,_,e,h⟩
 ·cases h
theorem yn {m:IM}{agg:Bool}{n:Nat}{p:IV}{K:IV→Option R}{r:R}(h:ldP m agg n p K=some r):∃v,K v=some r∧∀lb,bM lb m agg n p=some v:=by
 unfold ldP at h
 split at h
 ·obtain⟨v,h1,h2⟩:=my h
  exact⟨v,h1,fun lb=>pg (fun _=>rfl) h2⟩
 ·obtain⟨cs,cp,e,h⟩:=Cr h
  obtain⟨v,h1,h2⟩:=my h
  exact⟨v,h1,fun lb=>pg (fun n=>by simp[aI,e]) h2⟩
 ·cases h
theorem sL (st:St) (n id off:Nat) (vs:List IV) (c:Cap):aH st n (.pB id off) vs c =
  if vs.length≠n then none else match st.m.get id,an vs with
   |.cells cs cp,some r=>if off+n≤cs.length then some { st with m:=⟨st.m.bs.set id (.cells (over cs off vs) (aB cp off n c)),if r≤id then st.m.esc else st.m.esc+1⟩,lk:=lkB (· == id) st.lk } else none
   |_,_=>none:=by
 unfold aH
 split
 ·rfl
 ·simp only[aq,IM.put]
  cases st.m.get id<;>cases an vs<;>rfl
theorem vQ {st st':St}{n id off:Nat}{vs:List IV}{c:Cap}(h:aH st n (.pB id off) vs c=some st') (b:St) (hb:b.m=st.m) :
  aH b n (.pB id off) vs c=some { b with m:=st'.m,lk:=lkB (· == id) b.lk }:=by
 rw[sL] at h ⊢
 rw[hb]
 split at h
 ·cases h
 ·rename_i hn
  rw[if_neg hn]
  split at h
  ·rename_i e1 e2
   split at h
   ·rename_i e3
    rw[if_pos e3]
    cases h
    rfl
   ·cases h
  ·cases h
theorem CI {m:IM}{p:IV}{vs:List IV}{c:Cap}{K:IM→Option R}{r:R}(h:stP m p vs c K=some r) :
  ∃id m',K m'=some r∧∀b:St,b.m=m→aH b vs.length p vs c=some { b with m:=m',lk:=lkB (· == id) b.lk }:=by
 unfold stP at h
 split at h
 ·rename_i id off
  split at h
  ·rename_i st e
   exact⟨id,st.m,h,fun b hb=>vQ e b hb⟩
  ·cases h
 ·cases h
theorem rO {m:IM}{sz:Nat}{v:IV}{K:List IV→Nat→Option R}{r:R}(h:vo m sz v K=some r):∃xs n,K xs n=some r∧∀lb,bE lb m sz v=some (xs,n):=by
 unfold vo at h
 split at h
 ·rename_i e
  refine⟨_,_,h,fun lb=>?_⟩
  cases v<;>first | exact e | (simp only[bE] at e ⊢;exact e)
 ·cases h
theorem yy {e ex:Ex}{A B:Option R}{r:R}(h:exC e ex A B=some r):(ex=e∧A=some r)∨(ex≠e∧B=some r):=by
 unfold exC at h
 by_cases q:ex=e
 ·rw[decide_eq_true q] at h;exact .inl ⟨q,h⟩
 ·rw[decide_eq_false q] at h;exact .inr ⟨q,h⟩
theorem tY {s:Sh1}{v:IV}{K:IV→Option R}{r:R}(h:as1 s v K=some r):K v=some r:=by
 unfold as1 at h
 split at h
 ·obtain⟨n,rfl,h'⟩:=mV h;exact h'
 ·obtain⟨n,rfl,h'⟩:=DT h;exact h'
 ·obtain⟨n,rfl,h'⟩:=uG h;exact h'
 ·obtain⟨n,o,rfl,h'⟩:=tw h;exact h'
 ·obtain⟨n,rfl,h'⟩:=Cb h;exact h'
 ·exact h
theorem oY:∀{l:List Sh1}{cs:List IV}{K:List IV→Option R}{r:R},asL l cs K=some r→K cs=some r
 |[],cs,K,r,h=>by obtain⟨rfl,h'⟩:=uc h;exact h'
 |s::l,cs,K,r,h=>by
  obtain⟨v,t,rfl,h'⟩:=tL h
  exact oY (l:=l) (K:=fun t=>K (v::t)) (tY h')
theorem Ao {s:ShA}{v:IV}{K:IV→Option R}{r:R}(h:Kc s v K=some r):K v=some r:=by
 cases s with
 |one s=>exact tY h
 |agg l=>obtain⟨n,rfl,h'⟩:=ue h;exact oY h'
theorem wy:∀{l:List ShA}{cs:List IV}{K:List IV→Option R}{r:R},Hx l cs K=some r→K cs=some r
 |[],cs,K,r,h=>by obtain⟨rfl,h'⟩:=uc h;exact h'
 |s::l,cs,K,r,h=>by
  obtain⟨v,t,rfl,h'⟩:=tL h
  exact wy (l:=l) (K:=fun t=>K (v::t)) (Ao h')
theorem wG {s:Sh}{v:IV}{K:IV→Option R}{r:R}(h:I4 s v K=some r):K v=some r:=by
 cases s with
 |one s=>exact tY h
 |agg l=>obtain⟨n,rfl,h'⟩:=ue h;exact oY h'
 |tup l=>obtain⟨n,rfl,h'⟩:=CD h;exact wy h'
def bk (c c':Cap):Prop:=c=unk∨c'=c
inductive CapsR:List Cap→List Cap→Prop where
 |nil:CapsR [] []
 |cons {a b:Cap}{s t:List Cap}:bk a b→CapsR s t→CapsR (a::s) (b::t)
def BR (o o':BObj):Prop:=o=J0∨o=o'∨∃cs cp cp',o=.cells cs cp∧o'=.cells cs cp'∧CapsR cp cp'
structure Sub (s b:St):Prop where
 env:∀i v c,look s.env i=some (v,c)→∃c',look b.env i=some (v,c')∧bk c c'
 lk:∀p,p∈s.lk→p∈b.lk
 uq:uqB b.lk=true
 lb:∀k,BR (av s.lb k) (av b.lb k)
 m:s.m=b.m
theorem bk.refl (c:Cap):bk c c:=.inr rfl
theorem bk.unk (c:Cap):bk unk c:=.inl rfl
theorem bk.trans {a b c:Cap}(h1:bk a b) (h2:bk b c):bk a c:=by
 rcases h1 with rfl | rfl
 ·exact .inl rfl
 ·exact h2
theorem CapsR.refl:∀l,CapsR l l
 |[]=>.nil
 |a::r=>.cons (bk.refl a) (CapsR.refl r)
theorem CapsR.trans {a b c:List Cap}(h1:CapsR a b) (h2:CapsR b c):CapsR a c:=by
 induction h1 generalizing c with
 |nil=>exact h2
 |cons hab _ ih=>cases h2 with | cons hbc h=>exact .cons (hab.trans hbc) (ih h)
theorem CapsR.len {a b:List Cap}(h:CapsR a b):a.length=b.length:=by
 induction h with
 |nil=>rfl
 |cons _ _ ih=>simp[ih]
theorem CapsR.getD {a b:List Cap}(h:CapsR a b) (i:Nat):bk (a.getD i .any) (b.getD i .any):=by
 induction h generalizing i with
 |nil=>exact bk.refl _
 |cons hab _ ih=>cases i with
  |zero=>exact hab
  |succ i=>exact ih i
theorem CapsR.append {a b c d:List Cap}(h:CapsR a b) (h2:CapsR c d):CapsR (a++c) (b++d):=by
 induction h with
 |nil=>exact h2
 |cons hab _ ih=>exact .cons hab ih
theorem CapsR.take {a b:List Cap}(h:CapsR a b) (n:Nat):CapsR (a.take n) (b.take n):=by
 induction h generalizing n with
 |nil=>simp;exact .nil
 |cons hab _ ih=>cases n with
  |zero=>exact .nil
  |succ n=>exact .cons hab (ih n)
theorem CapsR.drop {a b:List Cap}(h:CapsR a b) (n:Nat):CapsR (a.drop n) (b.drop n):=by
 induction h generalizing n with
 |nil=>simp;exact .nil
 |cons hab h' ih=>cases n with
  |zero=>exact .cons hab h'
  |succ n=>exact ih n
theorem CapsR.set {a b:List Cap}(h:CapsR a b) (n:Nat) {c c':Cap}(hc:bk c c'):CapsR (a.set n c) (b.set n c'):=by
 induction h generalizing n with
 |nil=>exact .nil
 |cons hab h' ih=>cases n with
  |zero=>exact .cons hc h'
  |succ n=>exact .cons hab (ih n)
theorem CapsR.rep {c c':Cap}(h:bk c c'):∀n,CapsR (List.replicate n c) (List.replicate n c')
 |0=>.nil
 |n+1=>.cons h (CapsR.rep h n)
theorem CapsR.over {a b:List Cap}(h:CapsR a b) (off n:Nat) {c c':Cap}(hc:bk c c'):CapsR (aB a off n c) (aB b off n c') :=
 ((h.take off).append (CapsR.rep hc n)).append (h.drop (off+n))
theorem BR.refl (o:BObj):BR o o:=.inr (.inl rfl)
theorem BR.trans {a b c:BObj}(h1:BR a b) (h2:BR b c):BR a c:=by
 rcases h1 with rfl | rfl | ⟨cs,cp,cp',rfl,rfl,hc⟩
 ·exact .inl rfl
 ·exact h2
 ·rcases h2 with e | rfl | ⟨cs2,cp2,cp2',e1,rfl,hc2⟩
  ·cases e
  ·exact .inr (.inr ⟨cs,cp,cp',rfl,rfl,hc⟩)
  ·cases e1
   exact .inr (.inr ⟨cs,cp,cp2',rfl,rfl,hc.trans hc2⟩)
theorem BR.none {o:BObj}(h:BR .none o):o=.none:=by
 rcases h with e | rfl | ⟨_,_,_,e,_⟩
 ·cases e
 ·rfl
 ·cases e
theorem BR.iter {s:List UInt8}{p:Nat}{o:BObj}(h:BR (.iter s p) o):o=.iter s p:=by
 rcases h with e | rfl | ⟨_,_,_,e,_⟩
 ·cases e
 ·rfl
 ·cases e
theorem BR.cells {cs:List IV}{cp:List Cap}{o:BObj}(h:BR (.cells cs cp) o):∃cp',o=.cells cs cp'∧CapsR cp cp':=by
 rcases h with e | rfl | ⟨_,_,cp',e,rfl,hc⟩
 ·cases e
 ·exact⟨cp,rfl,CapsR.refl _⟩
 ·cases e;exact⟨cp',rfl,hc⟩
theorem BR.mk {cs:List IV}{cp cp':List Cap}(hc:CapsR cp cp'):BR (.cells cs cp) (.cells cs cp') :=
 .inr (.inr ⟨cs,cp,cp',rfl,rfl,hc⟩)
theorem mD {i:Nat}{l:Loc}{r:List (Nat×Loc)}:uqB ((i,l)::r)=true↔uqB r=true∧∀p∈r,p.1≠i:=by
 simp only[uqB]
 constructor
 ·intro h
  split at h
  ·rename_i e
   simp only[Bool.not_eq_true',List.any_eq_false] at h
   exact⟨e,fun p hp q=>h p hp (by rw[q];exact Nat.beq_refl i)⟩
  ·cases h
 ·rintro ⟨h1,h2⟩
  rw[h1]
  simp only[Bool.not_eq_true',List.any_eq_false]
  intro p hp q
  exact h2 p hp (Nat.eq_of_beq_eq_true q)
theorem gy {p:Nat×Loc→Bool}:∀{lk:List (Nat×Loc)},uqB lk=true→uqB (lk.filter p)=true
 |[],_=>rfl
 |(i,l)::r,h=>by
  obtain⟨h1,h2⟩:=mD.1 h
  rw[List.filter_cons]
  split
  ·exact mD.2 ⟨gy h1,fun q hq=>h2 q (List.mem_filter.1 hq).1⟩
  ·exact gy h1
theorem ly {d:Nat}{lk:List (Nat×Loc)}(h:uqB lk=true):uqB (lkSlot d lk)=true:=by rw[ga];exact gy h
theorem C8 {d:Nat}{lk:List (Nat×Loc)}(h:uqB lk=true):uqB (lkL d lk)=true:=by rw[ni];exact gy h
theorem yE {d:Nat→Bool}{lk:List (Nat×Loc)}(h:uqB lk=true):uqB (lkB d lk)=true:=by rw[np];exact gy h
theorem mZ:∀{lk:List (Nat×Loc)}{p:Nat×Loc},p∈tS lk→p∈lk∧∀i o,p.2 ≠ .B i o
 |(i,l)::r,p,h=>by
  unfold tS at h
  split at h
  ·obtain⟨a,b⟩:=mZ h;exact⟨List.mem_cons_of_mem _ a,b⟩
  ·rename_i hl
   rcases List.mem_cons.1 h with rfl | h
   ·exact⟨List.mem_cons_self,hl⟩
   ·obtain⟨a,b⟩:=mZ h;exact⟨List.mem_cons_of_mem _ a,b⟩
theorem mM:∀{lk:List (Nat×Loc)}{p:Nat×Loc},p∈uQ lk→p∈lk∧(∀i o,p.2 ≠ .B i o)∧p.2 ≠ .marked
 |(i,l)::r,p,h=>by
  unfold uQ at h
  split at h
  ·obtain⟨a,b⟩:=mM h;exact⟨List.mem_cons_of_mem _ a,b⟩
  ·obtain⟨a,b⟩:=mM h;exact⟨List.mem_cons_of_mem _ a,b⟩
  ·rename_i hl hm
   rcases List.mem_cons.1 h with rfl | h
   ·exact⟨List.mem_cons_self,hl,hm⟩
   ·obtain⟨a,b⟩:=mM h;exact⟨List.mem_cons_of_mem _ a,b⟩
theorem pA (f:Nat→Bool):∀lk:List (Nat×Loc),∃p:Nat×Loc→Bool,(lkC f lk=lk.filter p)∧∀q,(∀i o,q.2 ≠ .B i o)→q.2 ≠ .marked→p q=true:=by
 intro lk
 refine⟨fun q=>match q.2 with | .B id _=>!f id | .marked=>false | _=>true,?_,?_⟩
 ·induction lk with
  |nil=>rfl
  |cons q r ih =>
   obtain⟨i,l⟩:=q
   cases l with
   |B id o =>
    unfold lkC
    by_cases hf:f id=true
    ·simp[hf,ih]
    ·simp[hf,ih]
   |_=>simp[lkC,ih]
 ·rintro ⟨i,l⟩ h1 h2
  cases l with
  |B id o=>exact (h1 _ _ rfl).elim
  |marked=>exact (h2 rfl).elim
  |_=>rfl
theorem xF {d i:Nat}{l:Loc}:fb d i l=true↔i≠d∧l ≠ .slot d:=by
 unfold fb
 have hb:∀a b:Nat,(!(Nat.beq a b))=true↔a≠b:=fun a b=>by
  constructor
  ·intro h e;subst e;rw[Nat.beq_refl] at h;cases h
  ·intro h;rw[lu h];rfl
 rw[Bool.and_eq_true,hb]
 constructor
 ·rintro ⟨h1,h2⟩
  refine⟨h1,fun e=>?_⟩
  subst e
  simp only at h2
  exact (hb _ _).1 h2 rfl
 ·rintro ⟨h1,h2⟩
  refine⟨h1,?_⟩
  cases l with
  |slot j=>exact (hb _ _).2 fun e=>h2 (by rw[e])
  |_=>rfl
theorem lX {d:Nat}{s b:List (Nat×Loc)}(h:∀p,p∈s→p∈b):∀p,p∈lkSlot d s→p∈lkSlot d b:=by
 intro p hp
 rw[ga] at hp ⊢
 rw[List.mem_filter] at hp ⊢
 exact⟨h p hp.1,hp.2⟩
theorem kH {d:Nat}{s:List (Nat×Loc)}:∀p,p∈lkSlot d s→p∈s:=by
 intro p hp
 rw[ga] at hp
 exact (List.mem_filter.1 hp).1
theorem CU {d:Nat}{s b:List (Nat×Loc)}(h:∀p,p∈s→p∈b):∀p,p∈lkL d s→p∈lkL d b:=by
 intro p hp
 rw[ni] at hp ⊢
 rw[List.mem_filter] at hp ⊢
 exact⟨h p hp.1,hp.2⟩
theorem uM {f:Nat→Bool}{s b:List (Nat×Loc)}(h:∀p,p∈s→p∈b):∀p,p∈tS s→p∈lkB f b:=by
 intro p hp
 obtain⟨h1,h2⟩:=mZ hp
 rw[np,List.mem_filter]
 refine⟨h p h1,?_⟩
 unfold bKp
 split
 ·rename_i e;exact (h2 _ _ e).elim
 ·rfl
theorem pF {f:Nat→Bool}{s b:List (Nat×Loc)}(h:∀p,p∈s→p∈b):∀p,p∈uQ s→p∈lkC f b:=by
 intro p hp
 obtain⟨h1,h2,h3⟩:=mM hp
 obtain⟨q,e,hq⟩:=pA f b
 rw[e,List.mem_filter]
 exact⟨h p h1,hq _ h2 h3⟩
theorem tQ {f:Nat→Bool}{lk:List (Nat×Loc)}(h:uqB lk=true):uqB (lkC f lk)=true:=by
 obtain⟨q,e,_⟩:=pA f lk
 rw[e];exact gy h
theorem wL {lk:List (Nat×Loc)}(h:uqB lk=true) {i:Nat}{l:Loc}(hm:(i,l)∈lk):linkOf lk i=some l:=(wP h).linkOf hm
variable {s b:St}
theorem Sub.link (h:Sub s b) {i:Nat}{l:Loc}(e:linkOf s.lk i=some l):linkOf b.lk i=some l:=wL h.uq (h.lk _ (fx e))
theorem Sub.set (h:Sub s b) (i:Nat) (v:IV) {c c':Cap}(hc:bk c c'):Sub { s with env:=(i,v,c)::s.env } { b with env:=(i,v,c')::b.env } where
 env:=by
  intro j v' c1 hl
  simp only[bQ] at hl ⊢
  split at hl
  ·rename_i e;subst e;cases hl;exact⟨c',by simp,hc⟩
  ·rename_i e;rw[if_neg e];exact h.env _ _ _ hl
 lk:=h.lk
 uq:=h.uq
 lb:=h.lb
 m:=h.m
theorem Sub.say (h:Sub s b) (i:Nat) (v:IV) {c c':Cap}(hb:look b.env i=some (v,c')) (hc:bk c c'):Sub { s with env:=(i,v,c)::s.env } b where
 env:=by
  intro j v' c1 hl
  simp only[bQ] at hl
  split at hl
  ·rename_i e;subst e;cases hl;exact⟨c',hb,hc⟩
  ·exact h.env _ _ _ hl
 lk:=h.lk
 uq:=h.uq
 lb:=h.lb
 m:=h.m
theorem Sub.refine (h:Sub s b) {i:Nat}{v:IV}{c:Cap}(e:look s.env i=some (v,c)):Sub { s with env:=(i,v,c)::s.env } b:=by
 obtain⟨c',h1,h2⟩:=h.env _ _ _ e
 exact h.say i v h1 h2
theorem Sub.lkSlot (h:Sub s b) (d:Nat):Sub { s with lk:=lkSlot d s.lk } { b with lk:=Idl.lkSlot d b.lk } where
 env:=h.env
 lk:=lX h.lk
 uq:=ly h.uq
 lb:=h.lb
 m:=h.m
theorem Sub.lkDrop (h:Sub s b) {l:List (Nat×Loc)}(hl:∀p,p∈l→p∈s.lk):Sub { s with lk:=l } b where
 env:=h.env
 lk:=fun p hp=>h.lk p (hl p hp)
 uq:=h.uq
 lb:=h.lb
 m:=h.m
theorem Sub.lks (h:Sub s b) {l l':List (Nat×Loc)}(hl:∀p,p∈l→p∈l') (hu:uqB l'=true):Sub { s with lk:=l } { b with lk:=l' } where
 env:=h.env
 lk:=hl
 uq:=hu
 lb:=h.lb
 m:=h.m
theorem Sub.mem (h:Sub s b) (m:IM):Sub { s with m:=m } { b with m:=m } where
 env:=h.env
 lk:=h.lk
 uq:=h.uq
 lb:=h.lb
 m:=rfl
theorem Sub.box (h:Sub s b) (k:Nat) {o o':BObj}(ho:BR o o'):Sub { s with lb:=(k,o)::s.lb } { b with lb:=(k,o')::b.lb } where
 env:=h.env
 lk:=h.lk
 uq:=h.uq
 lb:=by
  intro j
  simp only[aR]
  split
  ·exact ho
  ·exact h.lb j
 m:=h.m
theorem cu {ty:Tys}{a:Arg}{K:Sh→IV→Option R}{r:R}(h:rdC ty s.env a K=some r) (hs:Sub s b):∃v,a.rd s.env=some v∧a.rd b.env=some v∧K (match a with | .t i=>wC ty i | .c v=>shV v) v=some r:=by
 cases a with
 |t i =>
  simp only[rdC] at h
  split at h
  ·rename_i v c e
   obtain⟨c',e',_⟩:=hs.env _ _ _ e
   exact⟨v,by simp[Arg.rd,e],by simp[Arg.rd,e'],h⟩
  ·cases h
 |c v=>exact⟨_,rfl,rfl,h⟩
theorem jh {ty:Tys}:∀{as:List Arg}{K:List (Sh×IV)→Option R}{r:R},wW ty s.env as K=some r→Sub s b→∃l,rdAll b.env as=some (single l)∧K l=some r
 |[],K,r,h,_=>⟨[],rfl,h⟩
 |a::as,K,r,h,hs=>by
  obtain⟨v,_,e,h⟩:=cu h hs
  obtain⟨l,e',h⟩:=jh h hs
  exact⟨_,by rw[rdAll,e,e'];rfl,h⟩
theorem iv {sh:Sh}{v:IV}{K:List IV→Option R}{r:R}(h:lO sh v K=some r):v.isU=false∧v.isL=false∧K v.cells=some r:=by
 unfold lO at h
 split at h
 ·obtain⟨cs,rfl,h'⟩:=ue h;exact⟨rfl,rfl,h'⟩
 ·obtain⟨h1,h2,h3,h⟩:=Cz h;exact⟨h2,h3,by rw[h1];exact h⟩
theorem jc {a b:Nat}(h:Nat.beq a b=true):a=b:=Nat.eq_of_beq_eq_true h
theorem J8 {a b:Nat}(h:Nat.ble a b=true):a≤b:=Nat.le_of_ble_eq_true h
theorem nK:∀{zero:List IV}{parts:List (Nat×Nat)}{l:List (Sh×IV)}{K:List IV→Option R}{r:R},rq zero parts l K=some r→∃cs,bL zero parts (single l)=some cs∧K cs=some r
 |zero,(off,n)::ps,(sh,v)::vs,K,r,h=>by
  unfold rq at h
  obtain⟨h1,h2,h⟩:=iv h
  obtain⟨h3,h⟩:=bf h
  rw[Bool.and_eq_true] at h3
  obtain⟨cs,e,h⟩:=nK h
  refine⟨cs,?_,h⟩
  have e1:=jc h3.1
  have e2:=J8 h3.2
  simp only[single,bL]
  rw[if_pos (by simp[h1,h2,e1,e2])]
  exact e
 |cs,[],[],K,r,h=>⟨cs,rfl,h⟩
 |_,[],_::_,_,_,h=>by simp[rq] at h
 |_,_::_,[],_,_,h=>by simp[rq] at h
theorem zB {v:IV}{X:Option R}{r:R}(h:isSl v X=some r):(∀z,c7 v z=.own z)∧v.cells=[v]∧v.isU=false∧v.isL=false∧X=some r:=by
 unfold isSl at h
 split at h
 ·exact⟨fun _=>rfl,rfl,rfl,rfl,h⟩
 ·exact⟨fun _=>rfl,rfl,rfl,rfl,h⟩
 ·cases h
end Go.Idl
namespace Go.Idl
variable {R:Type}{s b:St}{ty:Tys}{call:aN}
theorem ko {b:St}{i:Nat}{v:IV}{c:Cap}(e:look b.env i=some (v,c)):b.drop (.slot i)=some { b with env:=(i,v,.any)::b.env,lk:=lkSlot i b.lk }:=by
 simp only[St.drop,e,aq]
theorem gH {c:Cap}(h:bk .any c):c=.any:=by
 rcases h with h | h
 ·cases h
 ·exact h
theorem iw {z:Nat}{c:Cap}(h:bk (.own z) c) (hz:z≠0):c=.own z:=by
 rcases h with h | h
 ·cases h;exact absurd rfl hz
 ·exact h
theorem yX {i:Nat}{xf:Bool}{K:IV→Cap→St→Option R}{r:R}(h:mvC s i xf K=some r) (hs:Sub s b) :
  ∃v c cb c' b',look b.env i=some (v,cb)∧bk c c'∧((xf=false∧c'=.any∧b'=b)∨(xf=true∧cb=.any∧c'=.any∧b'=b)∨(xf=true∧∃sz,cb=.own sz∧c'=.own sz∧b.drop (.slot i)=some b')) ∧
   ∃s',Sub s' b'∧s'.lb=s.lb∧K v c s'=some r:=by
 unfold mvC at h
 split at h
 ·rename_i v c e
  obtain⟨cb,eb,hc⟩:=hs.env _ _ _ e
  split at h
  ·exact⟨v,.any,cb,.any,b,eb,bk.refl _,.inl ⟨rfl,rfl,rfl⟩,s,hs,rfl,h⟩
  ·split at h
   ·have:=gH hc
    subst this
    exact⟨v,.any,.any,.any,b,eb,bk.refl _,.inr (.inl ⟨rfl,rfl,rfl,rfl⟩),s,hs,rfl,h⟩
   ·rename_i sz
    cases cb with
    |any =>
     refine⟨v,.own sz,.any,.any,b,eb,hc,.inr (.inl ⟨rfl,rfl,rfl,rfl⟩),{ s with env:=(i,v,.any)::s.env,lk:=lkSlot i s.lk },?_,rfl,h⟩
     exact (hs.say i v eb (bk.refl _)).lkDrop (kH (s:=s.lk))
    |own z =>
     refine⟨v,.own sz,.own z,.own z,_,eb,hc,.inr (.inr ⟨rfl,z,rfl,rfl,ko eb⟩),{ s with env:=(i,v,.any)::s.env,lk:=lkSlot i s.lk },?_,rfl,h⟩
     exact (hs.set i v (bk.refl .any)).lkSlot i
 ·cases h
theorem eQ {e:Env}{i:Nat}{v:IV}{c:Cap}(h:look e i=some (v,c)):bc e i=c:=by simp[bc,h]
theorem eV {e:Env}{i:Nat}{v:IV}{c:Cap}(h:look e i=some (v,c)):(Arg.t i).rd e=some v:=by simp[Arg.rd,h]
theorem zs {c:Cap}{X:Option R}{r:R}(h:known c X=some r):(∀c',bk c c'→c'=c)∧X=some r:=by
 unfold known at h
 split at h
 ·exact⟨fun c' hc=>gH hc,h⟩
 ·obtain⟨h1,h2⟩:=bf h
  refine⟨fun c' hc=>iw hc fun e=>?_,h2⟩
  subst e
  cases h1
theorem me {lb:List (Nat×BObj)}{sh:Sh}{p:IV}{n:Nat}{cs:List IV}{c c':Cap}{K:St→Option R}{r:R}(h:stC lb sh p n cs c s K=some r) (hlb:s.lb=lb) (hs:Sub s b) (hc:bk c c') :
  ∃b',aH b n p cs c'=some b'∧∃s',Sub s' b'∧K s'=some r:=by
 unfold stC at h
 split at h
 ·split at h
  ·rename_i k off
   split at h
   ·rename_i bs cp e
    rw[←hlb] at e
    have hb:=hs.lb k
    rw[e] at hb
    obtain⟨cp',eb,hcp⟩:=hb.cells
    obtain⟨⟨n',hr⟩,h⟩:=kz h
    obtain⟨hg,h⟩:=bf h
    rw[Bool.and_eq_true] at hg
    have e1:=jc hg.1
    have e2:=J8 hg.2
    refine⟨{ b with lb:=(k,.cells (over bs off cs) (aB cp' off n c'))::b.lb,lk:=lkL k b.lk },?_,_,?_,h⟩
    ·unfold aH
     rw[if_neg (by simp[e1])]
     simp only[eb,hr,if_pos e2,aq]
    ·exact (hs.box k (BR.mk (hcp.over off n hc))).lks (CU hs.lk) (C8 hs.uq)
   ·cases h
  ·cases h
 ·obtain⟨hk,h⟩:=zs h
  rw[hk c' hc]
  obtain⟨hg,h⟩:=bf h
  have e1:=jc hg
  obtain⟨id,m',h,hst⟩:=CI h
  have:=hst b hs.m.symm
  rw[e1] at this
  exact⟨_,this,_,(hs.mem m').lks (uM hs.lk) (yE hs.uq),h⟩
def lV (xs:List IV) (n:Nat):IV:=if n=0 then .nilSlice else .sl xs n
theorem lU {bytes:Nat}{xs:List IV}{n:Nat}{K:IV→Option R}{r:R}(h:az (n==0) (K .nilSlice) (grd (decide (n*bytes≤aK)) (K (.sl xs n)))=some r):(n=0∨n*bytes≤aK)∧K (lV xs n)=some r:=by
 rcases jo h with ⟨h1,h⟩ | ⟨h1,h⟩
 ·have h1:n=0:=by simpa using h1
  exact⟨.inl h1,by rw[lV,if_pos h1];exact h⟩
 ·obtain⟨h2,h⟩:=bf h
  have h1:n≠0:=by simpa using h1
  exact⟨.inr (of_decide_eq_true h2),by rw[lV,if_neg h1];exact h⟩
theorem rH {sv:IV}{sz bytes:Nat}{xs:List IV}{n:Nat}{K:IV→Option R}{r:R}(h:gJ sv sz bytes xs n K=some r) :
  (sv=.nilSlice∧(n=0∨n*bytes≤aK)∧K (lV xs n)=some r)∨(∃row len,sv=.sl row len∧((len+n)*bytes≤aK∧row.length=len*sz)∧K (.sl (row++xs) (len+n))=some r):=by
 unfold gJ at h
 split at h
 ·exact .inl ⟨rfl,lU h⟩
 ·obtain⟨h2,h⟩:=bf h
  exact .inr ⟨_,_,rfl,of_decide_eq_true h2,h⟩
 ·cases h
theorem wF {sv:IV}{bytes:Nat}{xs:List IV}{n:Nat}{K:IV→Option R}{r:R}(h:CW sv bytes xs n K=some r):sv=.nilSlice∧(n=0∨n*bytes≤aK)∧K (lV xs n)=some r:=by
 unfold CW at h
 split at h
 ·exact⟨rfl,lU h⟩
 ·cases h
theorem DO {st st':St}{id off:Nat}(h:st.drop (.B id off)=some st') (b:St) (hb:b.m=st.m):b.drop (.B id off)=some { b with m:=st'.m }:=by
 simp only[St.drop] at h ⊢
 rw[hb]
 split at h
 ·simp only[aq,IM.put] at h ⊢
  cases h;rfl
 ·cases h;rw[←hb]
theorem kO {call:aN}{b:St}{sz bytes:Nat}{a x:Arg}{xv:IV}{row xs:List IV}{len n:Nat}{l:Loc}{b':St}(hx:x.rd b.env=some xv) (ha:a.rd b.env=some (.sl row len)) (hsrc:bE b.lb b.m sz xv=some (xs,n)) (hp:xs.all IV.plain=true) (hl:xs.length=n*sz)
  (ho:b.owner a sz=some l) (hg:(len+n)*bytes≤aK∧row.length=len*sz) (hd:b.drop l=some b'):(IK.append sz bytes a x).run call b=some (.sl (row++xs) (len+n),.own sz,b'):=by
 have hq:(xs.all IV.plain&&xs.length==n*sz)=true:=by rw[hp,hl,beq_self_eq_true];rfl
 simp only[IK.run,hx,ha,hsrc,hq,if_true,ho,if_pos hg,hd]
theorem append_nil {call:aN}{b:St}{sz bytes:Nat}{a x:Arg}{xv:IV}{xs:List IV}{n:Nat}(hx:x.rd b.env=some xv) (ha:a.rd b.env=some .nilSlice) (hsrc:bE b.lb b.m sz xv=some (xs,n)) (hp:xs.all IV.plain=true) (hl:xs.length=n*sz)
  (h:n=0∨n*bytes≤aK):(IK.append sz bytes a x).run call b=some (lV xs n,.own sz,b):=by
 have hq:(xs.all IV.plain&&xs.length==n*sz)=true:=by rw[hp,hl,beq_self_eq_true];rfl
 simp only[IK.run,hx,ha,hsrc,hq,if_true,lV]
 by_cases h0:n=0
 ·rw[if_pos h0,if_pos h0]
 ·rcases h with h | h
  ·exact absurd h h0
  ·rw[if_neg h0,if_neg h0,if_pos h]
theorem zq {sz bytes:Nat}{a x:Arg}{K:IV→Cap→St→Option R}{r:R}(h:(IK.append sz bytes a x).den ty call s K=some r) (hs:Sub s b) :
  ∃v c c' b',(IK.append sz bytes a x).run call b=some (v,c',b')∧bk c c'∧∃s',Sub s' b'∧K v c s'=some r:=by
 simp only[IK.den] at h
 obtain⟨xv,_,hx,h⟩:=cu h hs
 obtain⟨xs,n,h,hsrc⟩:=rO h
 rw[hs.m] at hsrc
 obtain⟨hp,h⟩:=jy h
 obtain⟨hl,h⟩:=bf h
 have hl:=jc hl
 have hsrc:=hsrc b.lb
 cases a with
 |c sv =>
  simp only at h
  obtain⟨rfl,hn,h'⟩:=wF h
  exact⟨_,_,_,b,append_nil hx rfl hsrc hp hl hn,bk.refl _,s,hs,h'⟩
 |t i =>
  simp only at h
  split at h
  ·rename_i sv z e
   obtain⟨hz,h⟩:=bf h
   simp only[Bool.and_eq_true,Bool.not_eq_true'] at hz
   obtain⟨hz1,hz2⟩:=hz
   have hz1:=jc hz1
   subst hz1
   have hz0:z≠0:=fun q=>by subst q;cases hz2
   obtain⟨cb,eb,hcb⟩:=hs.env _ _ _ e
   have:=iw hcb hz0
   subst this
   rcases rH h with ⟨rfl,hn,h'⟩ | ⟨row,len,rfl,hg,h'⟩
   ·exact⟨_,_,_,b,append_nil hx (eV eb) hsrc hp hl hn,bk.refl _,_,(hs.say i _ eb (bk.unk _)).lkDrop (kH (s:=s.lk)),h'⟩
   ·exact⟨_,_,_,_,kO hx (eV eb) hsrc hp hl (l:=.slot i) (by simp only[St.owner,eQ eb,if_true]) hg (ko eb),bk.refl _,_,(hs.set i _ (bk.unk .any)).lkSlot i,h'⟩
  ·rename_i sv e
   obtain⟨cb,eb,hcb⟩:=hs.env _ _ _ e
   have:=gH hcb
   subst this
   split at h
   ·rename_i k off el
    have elb:=hs.link el
    split at h
    ·rename_i cs cp ek
     have hb:=hs.lb k
     rw[ek] at hb
     obtain⟨cp',ekb,hcp⟩:=hb.cells
     obtain⟨hz,h⟩:=bf h
     simp only[Bool.and_eq_true,Bool.not_eq_true',decide_eq_true_eq] at hz
     obtain⟨hz1,hz2⟩:=hz
     have hz0:sz≠0:=fun q=>by subst q;cases hz2
     have hcap:=hcp.getD off
     rw[hz1] at hcap
     have hcap:=iw hcap hz0
     rcases rH h with ⟨rfl,hn,h'⟩ | ⟨row,len,rfl,hg,h'⟩
     ·refine⟨_,_,_,b,append_nil hx (eV eb) hsrc hp hl hn,bk.refl _,_,?_,h'⟩
      refine⟨hs.env,hs.lk,hs.uq,fun j=>?_,hs.m⟩
      simp only[aR]
      split
      ·rename_i q;subst q
       rw[ekb]
       refine BR.mk ?_
       have hset:CapsR (cp.set off unk) (cp'.set off (cp'.getD off .any)):=hcp.set off (bk.unk _)
       have hid:cp'.set off (cp'.getD off .any)=cp':=by
        by_cases hlt:off<cp'.length
        ·rw[List.getD_eq_getElem?_getD,List.getElem?_eq_getElem hlt]
         simp
        ·rw[List.set_eq_of_length_le (by omega)]
       rw[hid] at hset
       exact hset
      ·exact hs.lb j
     ·refine⟨_,_,_,{ b with lb:=(k,.cells cs (cp'.set off .any))::b.lb },kO hx (eV eb) hsrc hp hl (l:=.L k off) ?_ hg ?_,bk.refl _,_,hs.box k (BR.mk (hcp.set off (bk.unk .any))),h'⟩
      ·simp only[St.owner,eQ eb,elb,St.capAt,ekb,hcap,if_true]
      ·simp only[St.drop,ekb,aq]
    ·cases h
   ·rename_i id off el
    have elb:=hs.link el
    unfold Kk at h
    split at h
    ·obtain⟨hn,h'⟩:=lU (K:=fun v=>K v (.own sz) { s with m:=s.m }) h
     exact⟨_,_,_,b,append_nil hx (eV eb) hsrc hp hl hn,bk.refl _,s,hs,h'⟩
    ·rename_i row len _
     obtain⟨h1,h⟩:=bf h
     obtain⟨hg,h⟩:=bf h
     have h1:=of_decide_eq_true h1
     have hg:=of_decide_eq_true hg
     split at h
     ·rename_i st ed
      have ed':=DO ed b hs.m.symm
      have hcap:b.capAt (.B id off)=.own sz:=by
       rw[hs.m] at h1
       exact h1
      exact⟨_,_,_,_,kO hx (eV eb) hsrc hp hl (l:=.B id off) (by simp only[St.owner,eQ eb,elb,hcap,if_true]) hg ed',bk.refl _,_,hs.mem st.m,h⟩
     ·cases h
    ·cases h
   ·rename_i j el
    have elb:=hs.link el
    split at h
    ·rename_i w z ej
     obtain⟨hz,h⟩:=bf h
     simp only[Bool.and_eq_true,Bool.not_eq_true'] at hz
     obtain⟨hz1,hz2⟩:=hz
     have hz1:=jc hz1
     subst hz1
     have hz0:z≠0:=fun q=>by subst q;cases hz2
     obtain⟨cj,ejb,hcj⟩:=hs.env _ _ _ ej
     have:=iw hcj hz0
     subst this
     rcases rH h with ⟨rfl,hn,h'⟩ | ⟨row,len,rfl,hg,h'⟩
     ·exact⟨_,_,_,b,append_nil hx (eV eb) hsrc hp hl hn,bk.refl _,_,(hs.say j _ ejb (bk.unk _)).lkDrop (kH (s:=s.lk)),h'⟩
     ·exact⟨_,_,_,_,kO hx (eV eb) hsrc hp hl (l:=.slot j) (by simp only[St.owner,eQ eb,elb,St.capAt,eQ ejb,if_true]) hg (ko ejb),bk.refl _,_,(hs.set j _ (bk.unk .any)).lkSlot j,h'⟩
    ·cases h
   ·obtain⟨rfl,hn,h'⟩:=wF h
    exact⟨_,_,_,b,append_nil hx (eV eb) hsrc hp hl hn,bk.refl _,s,hs,h'⟩
  ·cases h
theorem BL {n:Nat}{a x:Arg}{xf:Bool}{K:IV→Cap→St→Option R}{r:R}(h:(IK.store n a x xf).den ty call s K=some r) (hs:Sub s b) :
  ∃v c c' b',(IK.store n a x xf).run call b=some (v,c',b')∧bk c c'∧∃s',Sub s' b'∧K v c s'=some r:=by
 simp only[IK.den] at h
 obtain⟨p,_,hp,h⟩:=cu h hs
 cases x with
 |c v =>
  simp only at h
  obtain⟨_,_,h⟩:=iv h
  obtain⟨b',hst,s',hs',h⟩:=me h rfl hs (bk.refl .any)
  refine⟨_,_,_,b',?_,bk.refl _,s',hs',h⟩
  have hv:(Arg.c v).rd b.env=some v:=rfl
  cases xf<;>simp[IK.run,hp,hv,hst]
 |t i =>
  simp only at h
  obtain⟨v,c,cb,c',b1,eb,hcc,hcase,s1,hs1,hlb,h⟩:=yX h hs
  split at h
  ·obtain⟨_,_,h⟩:=iv h
   have hc0:=gH hcc
   subst hc0
   obtain⟨b',hst,s',hs',h⟩:=me h hlb hs1 (bk.refl .any)
   refine⟨_,_,_,b',?_,bk.refl _,s',hs',h⟩
   rcases hcase with ⟨rfl,_,rfl⟩ | ⟨rfl,rfl,_,rfl⟩ | ⟨_,z,_,e,_⟩
   ·simp[IK.run,hp,eV eb,hst]
   ·simp[IK.run,hp,eV eb,eQ eb,hst]
   ·cases e
  ·rename_i sz
   obtain⟨hcs,hcells,_,_,h⟩:=zB h
   rcases hcase with ⟨_,rfl,rfl⟩ | ⟨rfl,rfl,rfl,rfl⟩ | ⟨rfl,z,rfl,rfl,hd⟩
   ·obtain⟨b',hst,s',hs',h⟩:=me h hlb hs1 hcc
    refine⟨_,_,_,b',?_,bk.refl _,s',hs',h⟩
    rename_i hxf
    subst hxf
    simp[IK.run,hp,eV eb,hcells,hst]
   ·obtain⟨b',hst,s',hs',h⟩:=me h hlb hs1 hcc
    refine⟨_,_,_,b',?_,bk.refl _,s',hs',h⟩
    simp[IK.run,hp,eV eb,eQ eb,hcells,hst]
   ·obtain⟨b',hst,s',hs',h⟩:=me h hlb hs1 hcc
    refine⟨_,_,_,b',?_,bk.refl _,s',hs',h⟩
    simp[IK.run,hp,eV eb,eQ eb,hd,hcells,hcs,hst]
end Go.Idl
namespace Go.Idl
variable {R:Type}{s b:St}{ty:Tys}{call:aN}
theorem put_eq (st:St) (d:Option Nat) (v:IV) (c:Cap):st.put d v c=some (match d with | none=>st | some d=>{ st with env:=(d,v,c)::st.env,lk:=lkSlot d st.lk }):=by
 cases d with
 |none=>rfl
 |some d=>simp only[St.put,aq,aV]
theorem Ef (m:IM) (id:Nat) (o:BObj):m.put id o=some ⟨m.bs.set id o,m.esc⟩:=by simp only[IM.put,aq]
theorem mem_push (m:IM) (o:BObj):m.push o=some (bP m o):=by simp only[IM.push,aq,bP]
theorem jP:∀{hs:List Arg}{K:List Nat→Option R}{r:R},xz s.env hs K=some r→Sub s b→K (ao b.env hs)=some r
 |[],K,r,h,_=>h
 |.c _::t,K,r,h,hs=>jP (hs:=t) h hs
 |.t i::t,K,r,h,hs=>by
  unfold xz at h
  split at h
  ·rename_i v c e
   obtain⟨cb,eb,_⟩:=hs.env _ _ _ e
   split at h
   ·have:=jP h hs
    simp only[ao,eb]
    exact this
   ·rename_i hn
    have:=jP h hs
    simp only[ao,eb]
    cases v<;>first | exact this | exact (hn _ _ rfl).elim
  ·cases h
theorem nT {c:Callee}{vs:List IV}{hide:List Arg}{K:IV→IM→Option R}{r:R}(h:ak call c vs (ao b.env hide) b.m K=some r) :
  ∃v m',bB call b c vs hide=some (v,.any,{ b with m:=m',lk:=lkC (fun i=>!(ao b.env hide).contains i) b.lk })∧K v m'=some r:=by
 unfold ak at h
 unfold bB
 simp only[aq]
 split at h
 ·rename_i e1
  split at h
  ·rename_i e2
   split at h
   ·rename_i v m2 e3
    split at h
    ·rename_i m3 e4
     refine⟨v,m3,?_,h⟩
     simp only[e1,e2,e3,e4]
    ·cases h
   ·cases h
  ·cases h
 ·cases h
theorem IG {k:IK}{K:IV→Cap→St→Option R}{r:R}(h:k.den ty call s K=some r) (hs:Sub s b) :
  ∃v c c' b',k.run call b=some (v,c',b')∧bk c c'∧∃s',Sub s' b'∧K v c s'=some r:=by
 cases k with
 |mv x xf lk =>
  cases x with
  |c v=>exact⟨_,_,_,b,rfl,bk.refl _,s,hs,h⟩
  |t i =>
   simp only[IK.den] at h
   obtain⟨v,c,cb,c',b1,eb,hcc,hcase,s1,hs1,_,h⟩:=yX h hs
   refine⟨v,c,c',b1,?_,hcc,s1,hs1,h⟩
   rcases hcase with ⟨rfl,rfl,rfl⟩ | ⟨rfl,rfl,rfl,rfl⟩ | ⟨rfl,z,rfl,rfl,hd⟩
   ·simp[IK.run,eV eb]
   ·simp[IK.run,eV eb,eQ eb]
   ·simp[IK.run,eV eb,eQ eb,hd]
 |p o args =>
  simp only[IK.den] at h
  split at h
  ·rename_i j a a2
   split at h
   ·rename_i c cc e
    obtain⟨cb,eb,_⟩:=hs.env _ _ _ e
    rcases jo h with ⟨rfl,h'⟩ | ⟨rfl,h'⟩
    ·obtain⟨v,e1,e2,h⟩:=cu h' hs
     obtain⟨v2,e3⟩:=Arg.rd_some b.env a2
     refine⟨v,_,_,b,?_,bk.refl _,_,hs.refine e,h⟩
     simp[IK.run,rdAll,eV eb,e2,e3,POp.ev]
    ·obtain⟨v,e1,e2,h⟩:=cu h' hs
     obtain⟨v2,e3⟩:=Arg.rd_some b.env a
     refine⟨v,_,_,b,?_,bk.refl _,_,hs.refine e,h⟩
     simp[IK.run,rdAll,eV eb,e2,e3,POp.ev]
   ·cases h
  ·obtain⟨l,e,h⟩:=jh h hs
   obtain⟨cs,e2,h⟩:=nK h
   refine⟨_,_,_,b,?_,bk.refl _,s,hs,h⟩
   simp[IK.run,e,POp.ev,e2]
  ·obtain⟨l,e,h⟩:=jh h hs
   obtain⟨v,e2,h⟩:=D4 h
   refine⟨v,_,_,b,?_,bk.refl _,s,hs,h⟩
   simp only[IK.run,e,e2]
 |same x =>
  simp only[IK.den] at h
  split at h
  ·rename_i i
   split at h
   ·rename_i row len c e
    obtain⟨cb,eb,hcb⟩:=hs.env _ _ _ e
    obtain⟨hm,h⟩:=bf h
    have hm:=hs.link (of_decide_eq_true hm)
    cases cb with
    |any =>
     split at h
     ·refine⟨_,_,_,b,?_,hcb,_,(hs.say i _ eb (bk.refl _)).lkDrop (kH (s:=s.lk)),h⟩
      simp[IK.run,eV eb,hm,eQ eb]
     ·refine⟨_,_,_,b,?_,bk.refl _,s,hs,h⟩
      simp[IK.run,eV eb,hm,eQ eb]
    |own z =>
     split at h
     ·refine⟨_,_,_,_,?_,hcb,_,(hs.set i _ (bk.refl .any)).lkSlot i,h⟩
      simp[IK.run,eV eb,hm,eQ eb,ko eb]
     ·have:=gH hcb;cases this
   ·cases h
  ·cases h
 |load agg n a lk =>
  simp only[IK.den] at h
  obtain⟨p,e1,e2,h⟩:=cu h hs
  have key:∀v,bM b.lb b.m agg n p=some v→(IK.load agg n a lk).run call b=some (v,.any,b):=by
   intro v hv
   simp only[IK.run,e2,hv]
  split at h
  ·split at h
   ·rename_i k off
    split at h
    ·rename_i cs cp ek
     have hb:=hs.lb k
     rw[ek] at hb
     obtain⟨cp',ekb,_⟩:=hb.cells
     obtain⟨v,h,hv⟩:=my h
     exact⟨v,_,_,b,key v (pg (fun n=>by simp only[aI,ekb]) hv),bk.refl _,s,hs,h⟩
    ·cases h
   ·cases h
  ·obtain⟨v,h,hv⟩:=yn h
   rw[hs.m] at hv
   exact⟨v,_,_,b,key v (hv _),bk.refl _,s,hs,h⟩
 |store n a x xf=>exact BL h hs
 |allocL k zero cp =>
  simp only[IK.den] at h
  split at h
  ·rename_i e
   have hb:=hs.lb k
   rw[e] at hb
   refine⟨_,_,_,{ b with lb:=(k,.cells zero (aJ zero cp))::b.lb },?_,bk.refl _,_,hs.box k (BR.refl _),h⟩
   simp only[IK.run,dG,hb.none]
  ·cases h
 |allocG zero cp =>
  simp only[IK.den] at h
  refine⟨_,_,_,{ b with m:=bP b.m (.cells zero (aJ zero cp))},?_,bk.refl _,_,?_,h⟩
  ·simp only[IK.run,dn,mem_push,hs.m]
  ·rw[hs.m];exact hs.mem _
 |boxL k n x =>
  simp only[IK.den] at h
  obtain⟨v,_,e2,h⟩:=cu h hs
  obtain⟨_,_,h⟩:=iv h
  obtain⟨⟨n',hr⟩,h⟩:=kz h
  obtain⟨hl,h⟩:=bf h
  have hl:=jc hl
  split at h
  ·rename_i e
   have hb:=hs.lb k
   rw[e] at hb
   refine⟨_,_,_,{ b with lb:=(k,.cells v.cells (aJ v.cells []))::b.lb },?_,bk.refl _,_,hs.box k (BR.refl _),h⟩
   simp only[IK.run,e2,hr,hl,if_true,dG,hb.none]
  ·cases h
 |boxG n x =>
  simp only[IK.den] at h
  obtain⟨v,_,e2,h⟩:=cu h hs
  obtain⟨_,_,h⟩:=iv h
  obtain⟨⟨n',hr⟩,h⟩:=kz h
  obtain⟨hl,h⟩:=bf h
  have hl:=jc hl
  refine⟨_,_,_,{ b with m:=bP b.m (.cells v.cells (aJ v.cells []))},?_,bk.refl _,_,?_,h⟩
  ·simp only[IK.run,e2,hr,hl,if_true,dn,mem_push,hs.m]
  ·rw[hs.m];exact hs.mem _
 |buildSlice sz len zero parts args =>
  simp only[IK.den] at h
  obtain⟨l,e,h⟩:=jh h hs
  obtain⟨cs,e2,h⟩:=nK h
  obtain⟨hp,h⟩:=jy h
  refine⟨_,_,_,b,?_,bk.refl _,s,hs,h⟩
  simp only[IK.run,e,e2,hp,if_true]
 |strBytes x =>
  simp only[IK.den] at h
  obtain⟨v,_,e2,h⟩:=cu h hs
  obtain⟨t,e3,h⟩:=uG h
  subst e3
  obtain⟨hl,h⟩:=bf h
  have hl:=of_decide_eq_true hl
  refine⟨_,_,_,b,?_,bk.refl _,s,hs,h⟩
  simp only[IK.run,e2,if_pos hl]
 |makeI sz bytes zero len cap =>
  simp only[IK.den] at h
  obtain⟨v,_,e2,h⟩:=cu h hs
  obtain⟨l,rfl,h1⟩:=mV h
  obtain⟨v,_,e3,h2⟩:=cu h1 hs
  obtain⟨c,rfl,h3⟩:=mV h2
  obtain⟨hg,h⟩:=bf h3
  have hg:=of_decide_eq_true hg
  refine⟨_,_,_,b,?_,bk.refl _,s,hs,h⟩
  simp only[IK.run,e2,e3,if_pos hg]
 |makeB sz bytes zero len cap =>
  simp only[IK.den] at h
  obtain⟨v,_,e2,h⟩:=cu h hs
  obtain⟨l,rfl,h1⟩:=mV h
  obtain⟨v,_,e3,h2⟩:=cu h1 hs
  obtain⟨c,rfl,h3⟩:=mV h2
  obtain⟨hg,h⟩:=bf h3
  have hg:=of_decide_eq_true hg
  refine⟨_,_,_,{ b with m:=bP b.m (.cells (cC zero c.toNat) (aJ (cC zero c.toNat) []))},?_,bk.refl _,_,?_,h⟩
  ·simp only[IK.run,e2,e3,if_pos hg,dn,mem_push,hs.m]
  ·rw[hs.m];exact hs.mem _
 |append sz bytes a x=>exact zq h hs
 |copy sz d x =>
  simp only[IK.den] at h
  obtain⟨dv,_,e2,h⟩:=cu h hs
  obtain⟨xv,_,e3,h⟩:=cu h hs
  obtain⟨xs,k,h,hsrc⟩:=rO h
  rw[hs.m] at hsrc
  have hsrc:=hsrc b.lb
  unfold cpC at h
  obtain⟨hl,h⟩:=bf h
  have hl:xs.length=k*sz:=of_decide_eq_true hl
  unfold cpS at h
  cases dv with
  |sB id off n z =>
   simp only at h
   split at h
   ·rename_i st est
    have est':=vQ est b hs.m.symm
    refine⟨_,_,_,{ b with m:=st.m,lk:=lkB (· == id) b.lk },?_,bk.refl _,_,(hs.mem st.m).lks (uM hs.lk) (yE hs.uq),h⟩
    simp only[IK.run,e2,e3,hsrc]
    rw[if_neg (by simp[hl]),est']
   ·cases h
  |nilSlice =>
   simp only at h
   refine⟨.int .i64 (0:Nat),.any,.any,b,?_,bk.refl _,{ s with lk:=tS s.lk },hs.lkDrop (l:=tS s.lk) (fun p hp=>(mZ hp).1),h⟩
   ·simp only[IK.run,e2,e3,hsrc]
    rw[if_neg (by simp[hl])]
    rfl
  |_=>cases h
 |callF f args hide =>
  simp only[IK.den] at h
  obtain⟨l,e,h⟩:=jh h hs
  have h:=jP h hs
  rw[hs.m] at h
  obtain⟨v,m',e2,h⟩:=nT h
  refine⟨v,_,_,_,by simp only[IK.run,e];exact e2,bk.refl _,_,(hs.mem m').lks (pF hs.lk) (tQ hs.uq),h⟩
 |callV g args hide =>
  simp only[IK.den] at h
  obtain⟨l,e,h⟩:=jh h hs
  obtain⟨gv,_,eg,h⟩:=cu h hs
  have h:=jP h hs
  rw[hs.m] at h
  unfold BU at h
  split at h
  ·obtain⟨v,m',e2,h⟩:=nT h
   refine⟨v,_,_,_,by simp only[IK.run,e,eg];exact e2,bk.refl _,_,(hs.mem m').lks (pF hs.lk) (tQ hs.uq),h⟩
  ·obtain⟨v,m',e2,h⟩:=nT h
   refine⟨v,_,_,_,by simp only[IK.run,e,eg];exact e2,bk.refl _,_,(hs.mem m').lks (pF hs.lk) (tQ hs.uq),h⟩
  ·cases h
 |mkMap =>
  simp only[IK.den] at h
  refine⟨_,_,_,{ b with m:=bP b.m (.map [])},?_,bk.refl _,_,?_,h⟩
  ·simp only[IK.run,dn,mem_push,hs.m]
  ·rw[hs.m];exact hs.mem _
 |lookup d zero ok a x =>
  simp only[IK.den] at h
  obtain⟨mp,_,e2,h⟩:=cu h hs
  obtain⟨k,_,e3,h⟩:=cu h hs
  unfold KL at h
  rw[hs.m] at h
  split at h
  ·refine⟨_,_,_,b,?_,bk.refl _,s,hs,h⟩
   simp only[IK.run,e2,e3]
   cases ok<;>rfl
  ·split at h
   ·rename_i em
    split at h
    ·rename_i ef
     refine⟨_,_,_,b,?_,bk.refl _,s,hs,h⟩
     simp only[IK.run,e2,e3,em,ef]
     cases ok<;>rfl
    ·rename_i ef
     refine⟨_,_,_,b,?_,bk.refl _,s,hs,h⟩
     simp only[IK.run,e2,e3,em,ef]
     cases ok<;>rfl
    ·cases h
   ·cases h
  ·cases h
 |mapUpd d a x y =>
  simp only[IK.den] at h
  obtain⟨mp,_,e2,h⟩:=cu h hs
  obtain⟨k,_,e3,h⟩:=cu h hs
  obtain⟨v,_,e4,h⟩:=cu h hs
  unfold J4 at h
  rw[hs.m] at h
  split at h
  ·split at h
   ·rename_i em
    split at h
    ·rename_i eu ep
     refine⟨_,_,_,{ b with m:=⟨b.m.bs.set _ _,b.m.esc⟩},?_,bk.refl _,_,hs.mem _,h⟩
     simp only[IK.run,e2,e3,e4,em,eu,ep,Ef]
    ·cases h
   ·cases h
  ·cases h
 |mapLen a =>
  simp only[IK.den] at h
  obtain⟨mp,_,e2,h⟩:=cu h hs
  unfold KQ at h
  rw[hs.m] at h
  split at h
  ·exact⟨_,_,_,b,by simp only[IK.run,e2];rfl,bk.refl _,s,hs,h⟩
  ·split at h
   ·rename_i em
    exact⟨_,_,_,b,by simp only[IK.run,e2,em],bk.refl _,s,hs,h⟩
   ·cases h
  ·cases h
 |rangeStr k x =>
  simp only[IK.den] at h
  obtain⟨v,_,e2,h⟩:=cu h hs
  obtain⟨t,e3,h⟩:=uG h
  subst e3
  split at h
  ·rename_i e
   have hb:=hs.lb k
   rw[e] at hb
   refine⟨_,_,_,{ b with lb:=(k,.iter t 0)::b.lb },?_,bk.refl _,_,hs.box k (BR.refl _),h⟩
   simp only[IK.run,e2,dG,hb.none]
  ·cases h
 |nextStr a =>
  simp only[IK.den] at h
  obtain⟨p,e1,e2,h⟩:=cu h hs
  clear e1
  split at h
  ·rename_i q1 k
   split at h
   ·rename_i q3 t pos e
    have hb:=hs.lb k
    rw[e] at hb
    have hb:=hb.iter
    rcases jo h with ⟨hp,h'⟩ | ⟨hp,h'⟩
    ·have hp:=of_decide_eq_true hp
     refine⟨_,_,_,{ b with lb:=(k,.iter t (pos+(Utf8.decode ⟨⟨t⟩⟩ pos).2))::b.lb },?_,bk.refl _,_,hs.box k (BR.refl _),h'⟩
     simp only[IK.run,e2,hb,if_pos hp]
    ·have hp:=of_decide_eq_false hp
     refine⟨_,_,_,b,?_,bk.refl _,s,hs,h'⟩
     simp only[IK.run,e2,hb,if_neg hp]
   ·cases h
  ·cases h
theorem Eu {k:IK}{K:IV→Cap→St→Option R}{r:R}(h:k.den ty call s K=some r) (hs:Sub s b):k.link b.env=k.link s.env:=by
 cases k with
 |load agg n a lk =>
  simp only[IK.den] at h
  obtain⟨p,e1,e2,h⟩:=cu h hs
  cases agg<;>cases lk<;>simp[IK.link,e1,e2]
 |mv x xf lk=>cases x<;>cases xf<;>cases lk<;>rfl
 |buildSlice sz _ _ _ _=>unfold IK.link;by_cases q:sz=1<;>simp[q]
 |_=>rfl
theorem qc {a:Arg}{t:OTag}{X:Option R}{r:R}(h:zT s.env a t X=some r) (hs:Sub s b):aE b.env a t=true∧X=some r:=by
 have hn:∀{v:IV},fS v X=some r→(match (some v:Option IV) with | some (.pL ..)=>false | _=>true)=true∧X=some r:=by
  intro v h
  obtain⟨h1,h2⟩:=vz h
  refine⟨?_,h2⟩
  cases v<;>first | rfl | cases h1
 cases a with
 |c v =>
  unfold zT at h
  simp only at h
  split at h
  ·split at h
   ·exact⟨rfl,h⟩
   ·cases h
  ·exact hn h
  ·split at h
   ·obtain⟨h1,h2⟩:=bf h
    exact⟨h1,h2⟩
   ·cases h
  ·cases h
 |t i =>
  unfold zT at h
  simp only at h
  split at h
  ·rename_i v c e
   obtain⟨cb,eb,_⟩:=hs.env _ _ _ e
   have er:=eV eb
   split at h
   ·split at h
    ·exact⟨by simp only[aE,er],h⟩
    ·cases h
   ·obtain⟨h1,h2⟩:=hn h
    exact⟨by simp only[aE,er];exact h1,h2⟩
   ·split at h
    ·obtain⟨h1,h2⟩:=bf h
     exact⟨by simp only[aE,er];exact h1,h2⟩
    ·cases h
   ·split at h
    ·rename_i w _ e2
     obtain⟨cb2,eb2,_⟩:=hs.env _ _ _ e2
     obtain⟨id,o,rfl,h⟩:=tw h
     rename_i h0
     obtain⟨id',o',rfl,h⟩:=tw h0
     rename_i h0
     obtain⟨h1,h2⟩:=bf h0
     exact⟨by simp only[aE,er,eb2];exact h1,h2⟩
    ·cases h
   ·cases h
  ·cases h
theorem A0 {i:Nat}{t:OTag}{X:Option R}{r:R}(h:Dm s.env s.lk i t X=some r) (hs:Sub s b) (hreq:∀v c,look s.env i=some (v,c)→∀z,c=.own z→z≠0):cf b.env b.lk i t=true∧X=some r:=by
 unfold Dm at h
 split at h
 ·rename_i v c e
  obtain⟨cb,eb,hcb⟩:=hs.env _ _ _ e
  split at h
  ·rename_i z
   have:=iw hcb (hreq _ _ e z rfl)
   subst this
   refine⟨?_,h⟩
   unfold cf
   rw[eb]
   cases v<;>rfl
  ·have:=gH hcb
   subst this
   split at h
   ·rename_i l el
    have elb:=hs.link el
    obtain⟨h1,h2⟩:=bf h
    refine⟨?_,h2⟩
    unfold cf
    rw[eb,elb]
    cases v<;>first | rfl | exact h1
   ·split at h
    ·refine⟨?_,h⟩
     unfold cf
     rw[eb]
    ·cases h
 ·cases h
theorem lG {d:Nat}:∀{lk:List (Nat×Loc)}{K:List (Nat×Loc)→Option R},mO d lk K=K (lkSlot d lk)
 |[],K=>rfl
 |(i,l)::r,K=>by
  unfold mO
  rw[lG]
  simp only[lkSlot]
  cases hi:Nat.beq i d with
  |true=>rw[if_pos (jc hi)]
  |false =>
   have hi':¬i=d:=fun e=>by subst e;rw[Nat.beq_refl] at hi;cases hi
   rw[if_neg hi']
   cases l with
   |slot j =>
    cases hj:Nat.beq j d with
    |true=>simp only[if_pos (jc hj),hj]
    |false =>
     have hj':¬j=d:=fun e=>by subst e;rw[Nat.beq_refl] at hj;cases hj
     simp only[if_neg hj',hj]
   |_=>rfl
theorem Bj {k:IK}{env:Env}{K:Option Loc→Option R}{r:R}(h:Gp ty env k K=some r):∃l,K l=some r∧(l=none∨l=k.link env):=by
 unfold Gp at h
 split at h
 ·exact⟨_,h,.inr rfl⟩
 ·exact⟨_,h,.inr rfl⟩
 ·exact⟨_,h,.inr rfl⟩
 ·split at h
  ·split at h
   ·rename_i e
    exact⟨_,h,.inr (by simp[IK.link,Arg.rd,e])⟩
   ·cases h
  ·split at h
   ·rename_i e
    exact⟨_,h,.inr (by simp[IK.link,Arg.rd,e])⟩
   ·cases h
  ·split at h
   ·rename_i e
    exact⟨_,h,.inr (by simp[IK.link,Arg.rd,e])⟩
   ·cases h
  ·exact⟨_,h,.inl rfl⟩
 ·exact⟨_,h,.inl rfl⟩
theorem C3 {d:Option Nat}{K:St→Option R}{r:R}(h:HG d s K=some r) (hs:Sub s b):∃b',b.put d (.tup []) .any=some b'∧∃s',Sub s' b'∧K s'=some r:=by
 cases d with
 |none=>exact⟨b,rfl,s,hs,h⟩
 |some d =>
  simp only[HG,lG] at h
  exact⟨_,put_eq _ _ _ _,_,(hs.set d _ (bk.refl .any)).lkSlot d,h⟩
theorem oJ {d:Nat}{lk:List (Nat×Loc)}:∀p∈lkSlot d lk,p.1≠d:=by
 intro p hp
 rw[ga,List.mem_filter] at hp
 exact (xF.1 hp.2).1
theorem AV {g:Option (Nat×Bool)}{A B:St→Option R}{r:R}(h:Bl s g A B=some r) (hs:Sub s b) :
  (gate b.env g=some true∧∃s',Sub s' b∧A s'=some r)∨(gate b.env g=some false∧∃s',Sub s' b∧B s'=some r):=by
 unfold Bl at h
 split at h
 ·exact .inl ⟨rfl,s,hs,h⟩
 ·rename_i j want
  split at h
  ·rename_i x c e
   obtain⟨cb,eb,_⟩:=hs.env _ _ _ e
   split at h
   ·rcases jo h with ⟨rfl,h'⟩ | ⟨rfl,h'⟩
    ·exact .inl ⟨by simp[gate,eb],_,hs.refine e,h'⟩
    ·exact .inr ⟨by simp[gate,eb],_,hs.refine e,h'⟩
   ·rcases jo h with ⟨rfl,h'⟩ | ⟨rfl,h'⟩
    ·exact .inr ⟨by simp[gate,eb],_,hs.refine e,h'⟩
    ·exact .inl ⟨by simp[gate,eb],_,hs.refine e,h'⟩
  ·rename_i e
   obtain⟨cb,eb,_⟩:=hs.env _ _ _ e
   exact .inr ⟨by simp[gate,eb],s,hs,h⟩
  ·cases h
def okB (k:IK) (t:OTag) (b:St):Bool:=match k with
 |.load _ _ a _=>aE b.env a t
 |.store _ a _ _=>aE b.env a t
 |.nextStr a=>aE b.env a t
 |.append _ _ (.t i) _=>cf b.env b.lk i t
 |_=>false
theorem Hc (k:IK) {t:OTag}(b:St) (ht:t ≠ .none):k.ok t b=okB k t b:=by
 unfold IK.ok okB
 cases t<;>first | exact absurd rfl ht | rfl
theorem Je {k:IK}{t:OTag}{K:IV→Cap→St→Option R}{r:R}(h:okC k t s (k.den ty call s K)=some r) (hs:Sub s b):k.ok t b=true∧k.den ty call s K=some r:=by
 unfold okC at h
 split at h
 ·cases k<;>exact⟨rfl,h⟩
 ·rename_i ht
  have hok:=Hc k (t:=t) b ht
  rw[hok]
  unfold okB
  split at h
  ·obtain⟨h1,h2⟩:=qc h hs;exact⟨h1,h2⟩
  ·obtain⟨h1,h2⟩:=qc h hs;exact⟨h1,h2⟩
  ·obtain⟨h1,h2⟩:=qc h hs;exact⟨h1,h2⟩
  ·rename_i sz bytes i x
   have hden:(IK.append sz bytes (.t i) x).den ty call s K=some r:=by
    unfold Dm at h
    split at h
    ·split at h
     ·exact h
     ·split at h
      ·exact (bf h).2
      ·split at h
       ·exact h
       ·cases h
    ·cases h
   obtain⟨h1,h2⟩:=A0 h hs (fun v c e z hc=>by
    subst hc
    simp only[IK.den] at hden
    obtain⟨xv,_,hx,hden⟩:=cu hden hs
    obtain⟨xs,n,hden,hsrc⟩:=rO hden
    obtain⟨hp,hden⟩:=jy hden
    obtain⟨hl,hden⟩:=bf hden
    rw[e] at hden
    simp only at hden
    obtain⟨hz,_⟩:=bf hden
    simp only[Bool.and_eq_true,Bool.not_eq_true'] at hz
    have:=jc hz.1
    intro q
    subst q
    rw[←this] at hz
    exact absurd hz.2 (by decide))
   exact⟨h1,h2⟩
  ·cases h
theorem IX {o:IOp}{K:St→Option R}{r:R}(h:o.den ty call s K=some r) (hs:Sub s b):∃b',o.run call b=some b'∧∃s',Sub s' b'∧K s'=some r:=by
 unfold IOp.den at h
 rcases AV h hs with ⟨hg,s1,hs1,h⟩ | ⟨hg,s1,hs1,h⟩
 ·obtain⟨hok,h⟩:=Je h hs1
  have hl:=Eu h hs1
  obtain⟨v,c,c',b1,hrun,hc,s2,hs2,h⟩:=IG h hs1
  have hrun0:∀b2,(match o.dst,o.k.link b.env with
    |some d,some l=>if l=.slot d then some (match o.dst with | none=>b1 | some d=>{ b1 with env:=(d,v,c')::b1.env,lk:=lkSlot d b1.lk }) else some { (match o.dst with | none=>b1 | some d=>{ b1 with env:=(d,v,c')::b1.env,lk:=lkSlot d b1.lk }) with lk:=(d,l)::(match o.dst with | none=>b1 | some d=>{ b1 with env:=(d,v,c')::b1.env,lk:=lkSlot d b1.lk }).lk }
    |_,_=>some (match o.dst with | none=>b1 | some d=>{ b1 with env:=(d,v,c')::b1.env,lk:=lkSlot d b1.lk }))=some b2→o.run call b=some b2:=by
   intro b2 e
   unfold IOp.run
   simp only[hg,hok]
   unfold IOp.run0
   simp only[hg,hrun,put_eq]
   exact e
  unfold KH at h
  cases hd:o.dst with
  |none =>
   rw[hd] at h hrun0
   exact⟨b1,hrun0 b1 (by rfl),s2,hs2,h⟩
  |some d =>
   rw[hd] at h hrun0
   have h:=wG h
   rw[lG] at h
   obtain⟨l0,h,hl0⟩:=Bj h
   rw[←hl] at hl0
   cases hk:o.k.link b.env with
   |none =>
    rw[hk] at hl0 hrun0
    have:l0=none:=by rcases hl0 with e | e<;>exact e
    subst this
    exact⟨_,hrun0 _ rfl,_,(hs2.set d v hc).lkSlot d,h⟩
   |some l =>
    rw[hk] at hl0 hrun0
    simp only at h hrun0
    have hbig:∃b2,o.run call b=some b2∧Sub { s2 with env:=(d,v,c)::s2.env,lk:=lkSlot d s2.lk } b2∧(l ≠ .slot d→Sub { s2 with env:=(d,v,c)::s2.env,lk:=(d,l)::lkSlot d s2.lk } b2):=by
     by_cases q:l=.slot d
     ·exact⟨_,hrun0 _ (if_pos q),(hs2.set d v hc).lkSlot d,fun n=>absurd q n⟩
     ·refine⟨_,hrun0 _ (if_neg q),?_,fun _=>?_⟩
      ·refine ((hs2.set d v hc).lkSlot d).lks (l:=lkSlot d s2.lk) (l':=(d,l)::lkSlot d b1.lk) ?_ ?_
       ·intro p hp
        exact List.mem_cons_of_mem _ (lX hs2.lk p hp)
       ·exact mD.2 ⟨ly hs2.uq,oJ⟩
      ·refine ((hs2.set d v hc).lkSlot d).lks (l:=(d,l)::lkSlot d s2.lk) (l':=(d,l)::lkSlot d b1.lk) ?_ ?_
       ·intro p hp
        rcases List.mem_cons.1 hp with rfl | hp
        ·exact List.mem_cons_self
        ·exact List.mem_cons_of_mem _ (lX hs2.lk p hp)
       ·exact mD.2 ⟨ly hs2.uq,oJ⟩
    obtain⟨b2,hr,hsub1,hsub2⟩:=hbig
    rcases hl0 with rfl | rfl
    ·exact⟨b2,hr,_,hsub1,h⟩
    ·cases l with
     |slot j =>
      simp only at h
      split at h
      ·exact⟨b2,hr,_,hsub1,h⟩
      ·rename_i hj
       exact⟨b2,hr,_,hsub2 (fun e=>by cases e;rw[Nat.beq_refl] at hj;cases hj),h⟩
     |L a c=>exact⟨b2,hr,_,hsub2 (fun e=>by cases e),h⟩
     |B a c=>exact⟨b2,hr,_,hsub2 (fun e=>by cases e),h⟩
     |marked=>exact⟨b2,hr,_,hsub2 (fun e=>by cases e),h⟩
 ·obtain⟨b',e,s',hs',h⟩:=C3 h hs1
  refine⟨b',?_,s',hs',h⟩
  unfold IOp.run IOp.run0
  simp only[hg]
  exact e
theorem tN:∀{l:List IOp}{s b:St}{K:St→Option R}{r:R},uF ty call l s K=some r→Sub s b→∃b',aA call l b=some b'∧∃s',Sub s' b'∧K s'=some r
 |[],s,b,K,r,h,hs=>⟨b,rfl,s,hs,h⟩
 |o::l,s,b,K,r,h,hs=>by
  obtain⟨b1,e1,s1,hs1,h⟩:=IX h hs
  obtain⟨b2,e2,s2,hs2,h⟩:=tN h hs1
  exact⟨b2,by simp only[aA,e1,e2],s2,hs2,h⟩
end Go.Idl
namespace Go.Idl
variable {R:Type}{s b:St}{ty:Tys}{call:aN}
theorem sx {a b:Cap}(h:yo a b=true):bk a b:=by
 unfold yo at h
 rw[Bool.or_eq_true] at h
 rcases h with h | h
 ·exact .inl (of_decide_eq_true h)
 ·exact .inr (of_decide_eq_true h)
theorem ot:∀{a b:List Cap},pb a b=true→CapsR a b
 |[],[],_=>.nil
 |a::s,b::t,h=>by
  simp only[pb,Bool.and_eq_true] at h
  exact .cons (sx h.1) (ot h.2)
 |[],_::_,h=>by cases h
 |_::_,[],h=>by cases h
theorem qI:∀{l:List (Nat×Cap)}{env:Env}{K:List IV→Option R}{r:R},qT env l K=some r →
  ∃vs,K vs=some r∧∀{Q:Type}{K':Env→Option Q}{q:Q},DC ty l vs K'=some q→∃e,K' e=some q∧∀i v c,look e i=some (v,c)→∃c',look env i=some (v,c')∧bk c c'
 |[],env,K,r,h=>⟨[],h,fun {Q K' q} h'=>⟨[],(uc h').2,fun i v c e=>by cases e⟩⟩
 |(i,c)::l,env,K,r,h=>by
  unfold qT at h
  split at h
  ·rename_i v c' e
   obtain⟨hg,h⟩:=bf h
   have hc:=sx hg
   obtain⟨vs,h,hz⟩:=qI h
   refine⟨v::vs,h,fun {Q K' q} h'=>?_⟩
   unfold DC at h'
   obtain⟨v2,t,e2,h'⟩:=tL h'
   cases e2
   have h':=wG h'
   obtain⟨e3,h',hl⟩:=hz h'
   refine⟨_,h',fun j w d ej=>?_⟩
   rw[bQ] at ej
   split at ej
   ·rename_i q;subst q;cases ej;exact⟨c',e,hc⟩
   ·exact hl j w d ej
  ·cases h
theorem jb:∀{l:List BX}{lb:List (Nat×BObj)}{K:List BObj→Option R}{r:R},i5 lb l K=some r →
  ∃bs,K bs=some r∧∀{Q:Type}{K':List (Nat×BObj)→Option Q}{q:Q},uo l bs K'=some q→∃e,K' e=some q∧(∀k,hasB l k=true→BR (av e k) (av lb k))∧∀k,hasB l k=false→av e k=.none
 |[],lb,K,r,h=>⟨[],h,fun {Q K' q} h'=>by
   have:K' []=some q:=by
    unfold uo cr at h'
    exact h'
   exact⟨[],this,fun k e=>Bool.noConfusion e,fun k _=>rfl⟩⟩
 |.cells k sh cp::l,lb,K,r,h=>by
  unfold i5 at h
  split at h
  ·rename_i cs cp' e
   obtain⟨hg,h⟩:=bf h
   have hc:=ot hg
   obtain⟨bs,h,hz⟩:=jb h
   refine⟨.cells cs cp::bs,h,fun {Q K' q} h'=>?_⟩
   unfold uo at h'
   simp only[unb,asC] at h'
   have h':=oY h'
   obtain⟨e3,h',hl,hn⟩:=hz h'
   refine⟨_,h',fun j hj=>?_,fun j hj=>?_⟩
   ·rw[aR]
    split
    ·rename_i q;subst q;rw[e];exact BR.mk hc
    ·rename_i q
     refine hl j ?_
     simp only[hasB,BX.k,Bool.or_eq_true] at hj
     rcases hj with hj | hj
     ·exact absurd (jc hj) q
     ·exact hj
   ·simp only[hasB,BX.k,Bool.or_eq_false_iff] at hj
    rw[aR,if_neg (fun q=>by subst q;rw[Nat.beq_refl] at hj;cases hj.1)]
    exact hn j hj.2
  ·cases h
 |.iter k::l,lb,K,r,h=>by
  unfold i5 at h
  split at h
  ·rename_i cs cp' e
   obtain⟨bs,h,hz⟩:=jb h
   refine⟨.iter cs cp'::bs,h,fun {Q K' q} h'=>?_⟩
   unfold uo at h'
   simp only[unb,DM] at h'
   obtain⟨e3,h',hl,hn⟩:=hz h'
   refine⟨_,h',fun j hj=>?_,fun j hj=>?_⟩
   ·rw[aR]
    split
    ·rename_i q;subst q;rw[e];exact BR.refl _
    ·rename_i q
     refine hl j ?_
     simp only[hasB,BX.k,Bool.or_eq_true] at hj
     rcases hj with hj | hj
     ·exact absurd (jc hj) q
     ·exact hj
   ·simp only[hasB,BX.k,Bool.or_eq_false_iff] at hj
    rw[aR,if_neg (fun q=>by subst q;rw[Nat.beq_refl] at hj;cases hj.1)]
    exact hn j hj.2
  ·cases h
 |.dead k::l,lb,K,r,h=>by
  unfold i5 at h
  obtain⟨bs,h,hz⟩:=jb h
  refine⟨bs,h,fun {Q K' q} h'=>?_⟩
  unfold uo at h'
  obtain⟨e3,h',hl,hn⟩:=hz h'
  refine⟨_,h',fun j hj=>?_,fun j hj=>?_⟩
  ·rw[aR]
   split
   ·exact .inl rfl
   ·rename_i q
    refine hl j ?_
    simp only[hasB,BX.k,Bool.or_eq_true] at hj
    rcases hj with hj | hj
    ·exact absurd (jc hj) q
    ·exact hj
  ·simp only[hasB,BX.k,Bool.or_eq_false_iff] at hj
   rw[aR,if_neg (fun q=>by subst q;rw[Nat.beq_refl] at hj;cases hj.1)]
   exact hn j hj.2
theorem vC:∀{lb:List (Nat×BObj)}{bx:List BX},CJ lb bx=true→∀k,hasB bx k=false→av lb k=.none
 |[],_,_,_,_=>rfl
 |(j,o)::r,bx,h,k,hk=>by
  simp only[CJ,Bool.and_eq_true] at h
  rw[aR]
  split
  ·rename_i q;subst q;rw[h.1] at hk;cases hk
  ·exact vC h.2 k hk
theorem AW {a b:Ex}(h:CN a b=true):a=b:=by
 cases a<;>cases b<;>first | rfl | cases h | (have:=jc h;subst this;rfl)
theorem De {a b:Ex}(h:CN a b=false):a≠b:=by
 intro e;subst e
 cases a<;>simp[CN] at h
theorem ku:∀{l:List (Nat×Nat×Nat)}{env:Env}{X:Option R}{r:R},ss env l X=some r→X=some r∧∀i k o,(i,k,o)∈l→look env i=some (.pL k o,.any)
 |[],env,X,r,h=>⟨h,fun i k o hm=>by cases hm⟩
 |(i,k,o)::l,env,X,r,h=>by
  unfold ss at h
  split at h
  ·rename_i e
   obtain⟨hg,h2⟩:=bf h
   rw[Bool.and_eq_true] at hg
   have e1:=jc hg.1
   have e2:=jc hg.2
   obtain⟨h3,hl⟩:=ku h2
   rw[e1,e2] at e
   refine⟨h3,fun j k2 o2 hm=>?_⟩
   rcases List.mem_cons.1 hm with q | q
   ·cases q;exact e
   ·exact hl _ _ _ q
  ·cases h
theorem Cn {l:List (Nat×Nat×Nat)}{env:Env}{Q:Type}{X:Option Q}(h:∀i k o,(i,k,o)∈l→look env i=some (.pL k o,.any)):ss env l X=X:=by
 induction l with
 |nil=>rfl
 |cons p l ih =>
  obtain⟨i,k,o⟩:=p
  unfold ss
  rw[h i k o List.mem_cons_self]
  simp only[Nat.beq_refl,Bool.and_self,grd]
  exact ih fun i k o hm=>h i k o (List.mem_cons_of_mem _ hm)
theorem su:∀{l:List (Nat×Nat×Nat)}{e:Env}{i:Nat}{x:IV×Cap},look (Ci l e) i=some x→(∃k o,(i,k,o)∈l∧x=(.pL k o,.any))∨look e i=some x
 |[],e,i,x,h=>.inr h
 |(j,k,o)::l,e,i,x,h=>by
  simp only[Ci,bQ] at h
  split at h
  ·rename_i q;subst q;cases h;exact .inl ⟨k,o,List.mem_cons_self,rfl⟩
  ·rcases su h with ⟨k2,o2,hm,e2⟩ | h
   ·exact .inl ⟨k2,o2,List.mem_cons_of_mem _ hm,e2⟩
   ·exact .inr h
theorem iC:∀{xp:XP}{e:Ex}{s:St}{K:LR→Option R}{r:R},jw xp e s K=some r→∃q,jB xp e s=some q∧K q=some r
 |x::xr,e,s,K,r,h=>by
  unfold jw at h
  unfold jB jw
  have h0:jB xr e s=jw xr e s some:=rfl
  split at h
  ·have gen:∀(l:List (Nat×Cap)) (env:Env) (K1:List IV→Option R) (K2:List IV→Option LR) (r:R),(∀vs,K1 vs=some r→∃q,K2 vs=some q∧K q=some r)→qT env l K1=some r→∃q,qT env l K2=some q∧K q=some r:=by
    intro l
    induction l with
    |nil=>intro env K1 K2 r hk h;exact hk _ h
    |cons p l ih =>
     intro env K1 K2 r hk h
     obtain⟨i,c⟩:=p
     unfold qT at h ⊢
     split at h
     ·obtain⟨hg,h⟩:=bf h
      obtain⟨q,h1,h2⟩:=ih _ _ (fun vs=>K2 (_::vs)) _ (fun vs hv=>hk _ hv) h
      refine⟨q,?_,h2⟩
      simp only[hg]
      exact h1
     ·cases h
   have genB:∀(l:List BX) (lb:List (Nat×BObj)) (K1:List BObj→Option R) (K2:List BObj→Option LR) (r:R),(∀vs,K1 vs=some r→∃q,K2 vs=some q∧K q=some r)→i5 lb l K1=some r→∃q,i5 lb l K2=some q∧K q=some r:=by
    intro l
    induction l with
    |nil=>intro env K1 K2 r hk h;exact hk _ h
    |cons p l ih =>
     intro lb K1 K2 r hk h
     cases p with
     |cells k sh cp =>
      unfold i5 at h ⊢
      split at h
      ·obtain⟨hg,h⟩:=bf h
       obtain⟨q,h1,h2⟩:=ih _ _ (fun vs=>K2 (_::vs)) _ (fun vs hv=>hk _ hv) h
       refine⟨q,?_,h2⟩
       simp only[hg]
       exact h1
      ·cases h
     |iter k =>
      unfold i5 at h ⊢
      split at h
      ·obtain⟨q,h1,h2⟩:=ih _ _ (fun vs=>K2 (_::vs)) _ (fun vs hv=>hk _ hv) h
       exact⟨q,h1,h2⟩
      ·cases h
     |dead k =>
      unfold i5 at h ⊢
      exact ih _ _ K2 _ hk h
   obtain⟨h,hown⟩:=ku h
   rw[Cn hown]
   exact gen _ _ _ _ _ (fun vs hv=>genB _ _ _ _ _ (fun bs hb=>by
    obtain⟨hg,hb⟩:=bf hb
    exact⟨_,by rw[hg];rfl,hb⟩) hv) h
  ·exact iC h
theorem wj:∀{xp:XP}{e:Ex}{s:St}{ex:Ex}{vs:List IV}{bs:List BObj}{m:IM},jB xp e s=some (ex,vs,bs,m)→ex=e
 |x::r,e,s,ex,vs,bs,m,h=>by
  unfold jB jw at h
  split at h
  ·obtain⟨h,_⟩:=ku h
   obtain⟨vs',h,_⟩:=qI (ty:=[]) h
   obtain⟨bs',h,_⟩:=jb h
   obtain⟨_,h⟩:=bf h
   cases h;rfl
  ·exact wj h
theorem lp:∀{xp:XP}{e:Ex}{s b:St}{ex:Ex}{vs:List IV}{bs:List BObj}{m:IM}{K:Ex→St→Option R}{r:R},jB xp e s=some (ex,vs,bs,m)→uO ty xp ex vs bs m K=some r→Sub s b→∃s',Sub s' b∧K e s'=some r
 |x::xr,e,s,b,ex,vs,bs,m,K,r,h,h2,hs=>by
  have he:=wj h
  unfold jB jw at h
  unfold uO at h2
  split at h
  ·rename_i hx
   have hx:=AW hx
   obtain⟨h,hown⟩:=ku h
   obtain⟨vs',h,hzs⟩:=qI (ty:=ty) h
   obtain⟨bs',h,hzb⟩:=jb h
   obtain⟨ha,h⟩:=bf h
   cases h
   rcases yy h2 with ⟨_,h2⟩ | ⟨hne,_⟩
   ·obtain⟨env,h2,henv⟩:=hzs h2
    obtain⟨lb,h2,hlb1,hlb2⟩:=hzb h2
    rw[←hx] at h2
    refine⟨{ env:=Ci x.own env,lk:=[],lb:=lb,m:=s.m },⟨fun i v c el=>?_,fun p hp=>absurd hp List.not_mem_nil,hs.uq,fun k=>?_,hs.m⟩,h2⟩
    ·obtain⟨c1,e1,hc1⟩:∃c',look s.env i=some (v,c')∧bk c c':=by
      rcases su el with ⟨k,o,hm,e2⟩ | el
      ·cases e2;exact⟨_,hown _ _ _ hm,bk.refl _⟩
      ·exact henv i v c el
     obtain⟨c2,e2,hc2⟩:=hs.env _ _ _ e1
     exact⟨c2,e2,hc1.trans hc2⟩
    ·cases hk:hasB x.boxes k with
     |true=>exact (hlb1 k hk).trans (hs.lb k)
     |false =>
      show BR (av lb k) _
      rw[hlb2 k hk]
      have:=vC ha k hk
      have hb:=hs.lb k
      rw[this] at hb
      exact hb
   ·exact absurd hx hne
  ·rename_i hx
   have hx:=De hx
   rcases yy h2 with ⟨q,_⟩ | ⟨_,h2⟩
   ·exact absurd (he▸q) hx
   ·exact lp h h2 hs
def FB (v:IV) (keepL:List Nat):Bool:=match v with
 |.pL k _=>keepL.contains k
 |_=>true
theorem zF {sh:Sh}{v:IV}{keepL:List Nat}{X:Option R}{r:R}(h:BW sh v keepL X=some r):FB v keepL=true∧X=some r:=by
 unfold BW at h
 split at h
 ·obtain⟨h1,h2⟩:=vz h
  refine⟨?_,h2⟩
  cases v<;>first | rfl | cases h1
 ·unfold E7 at h
  split at h
  ·exact bf h
  ·rename_i hn
   refine⟨?_,h⟩
   cases v<;>first | rfl | exact (hn _ _ rfl).elim
theorem rG {e e2:Env}{keepL:List Nat}{i o:Nat}{l:List (Nat×Nat)}{v:IV}{c:Cap}(h1:look e i=some (v,c)) (h2:cy e keepL l=some e2) (hk:FB v keepL=true) :
  cy e keepL ((i,o)::l)=some ((i,v,match o with | 0=>.any | sz+1=>bq c v sz)::e2):=by
 simp only[cy,h1,h2]
 have fin:∀sz,(match bq c v sz with | .own s=>some ((i,v,Cap.own s)::e2) | .any=>some ((i,v,Cap.any)::e2))=some ((i,v,bq c v sz)::e2):=by
  intro sz
  cases bq c v sz<;>rfl
 cases v with
 |pL k off =>
  have hk:keepL.contains k=true:=hk
  simp only[hk]
  cases o with
  |zero=>rfl
  |succ sz=>exact fin sz
 |_=>cases o with
  |zero=>rfl
  |succ sz=>exact fin sz
theorem jC:∀{l:List (Nat×Nat)}{keepL:List Nat}{K:Env→Option R}{r:R},nq ty s.env keepL l K=some r→Sub s b→∃e,cy b.env keepL l=some e∧K e=some r
 |[],keepL,K,r,h,_=>⟨[],rfl,h⟩
 |(i,o)::l,keepL,K,r,h,hs=>by
  unfold nq at h
  split at h
  ·rename_i v c e
   obtain⟨cb,eb,hcb⟩:=hs.env _ _ _ e
   obtain⟨hk,h⟩:=zF h
   cases o with
   |zero =>
    simp only at h
    obtain⟨e2,h2,h⟩:=jC h hs
    exact⟨_,rG eb h2 hk,h⟩
   |succ sz =>
    simp only at h
    split at h
    ·obtain⟨hz,h⟩:=bf h
     have hcz:=iw hcb (fun q=>by subst q;cases hz)
     subst hcz
     obtain⟨e2,h2,h⟩:=jC h hs
     exact⟨_,rG eb h2 hk,h⟩
    ·have hc:=gH hcb
     subst hc
     obtain⟨hv,h⟩:=wD h
     subst hv
     obtain⟨e2,h2,h⟩:=jC h hs
     exact⟨_,rG eb h2 hk,h⟩
  ·cases h
theorem kD:∀{own:List (Nat×Nat×Nat)}{k:Nat}{cs:List IV}{cp cp':List Cap}{K:List Cap→Option R}{r:R},sK k cs own cp K=some r→CapsR cp cp'→∃cp1,K cp1=some r∧CapsR cp1 (cA k cs own cp')
 |[],k,cs,cp,cp',K,r,h,hc=>⟨cp,h,hc⟩
 |(k',o,sz)::own,k,cs,cp,cp',K,r,h,hc=>by
  unfold sK at h
  unfold cA
  split at h
  ·rename_i hk
   rw[if_pos (jc hk)]
   have hg:=hc.getD o
   split at h
   ·rename_i z ez
    rw[ez] at hg
    obtain⟨hz,h⟩:=bf h
    have hcz:=iw hg (fun q=>by subst q;cases hz)
    refine kD h ?_
    rw[hcz]
    exact hc.set o (bk.refl _)
   ·rename_i ez
    rw[ez] at hg
    have hcz:=gH hg
    obtain⟨en,h⟩:=wD h
    refine kD h ?_
    rw[hcz,en]
    exact hc.set o (bk.refl _)
  ·rename_i hk
   rw[if_neg (fun q=>by subst q;rw[Nat.beq_refl] at hk;cases hk)]
   exact kD h hc
theorem jF:∀{l:List Nat}{own:List (Nat×Nat×Nat)}{K:List (Nat×BObj)→Option R}{r:R},nL s.lb own l K=some r→Sub s b→∃lb1 lb2,K lb1=some r∧cx b.lb own l=some lb2∧∀k,BR (av lb1 k) (av lb2 k)
 |[],own,K,r,h,_=>⟨[],[],h,rfl,fun k=>BR.refl _⟩
 |k::l,own,K,r,h,hs=>by
  unfold nL at h
  have hb:=hs.lb k
  split at h
  ·rename_i cs cp e
   rw[e] at hb
   obtain⟨cp',eb,hc⟩:=hb.cells
   obtain⟨cp1,h,hc1⟩:=kD (own:=own) h hc
   obtain⟨lb1,lb2,h,h2,hl⟩:=jF h hs
   refine⟨_,(k,.cells cs (cA k cs own cp'))::lb2,h,?_,?_⟩
   ·simp only[cx,h2,eb,aq]
   ·intro j
    simp only[aR]
    split
    ·exact BR.mk hc1
    ·exact hl j
  ·rename_i t p e
   rw[e] at hb
   have eb:=hb.iter
   obtain⟨lb1,lb2,h,h2,hl⟩:=jF h hs
   refine⟨_,(k,.iter t p)::lb2,h,?_,?_⟩
   ·simp only[cx,h2,eb]
   ·intro j
    simp only[aR]
    split
    ·exact BR.refl _
    ·exact hl j
  ·rename_i e
   rw[e] at hb
   have eb:=hb.none
   obtain⟨lb1,lb2,h,h2,hl⟩:=jF h hs
   refine⟨_,lb2,h,?_,hl⟩
   simp only[cx,h2,eb]
  ·cases h
theorem nB {h:Head}{K:St→Option R}{r:R}(hh:yz ty s h K=some r) (hs:Sub s b):∃b2,b.head h=some b2∧∃s2,Sub s2 b2∧K s2=some r:=by
 unfold yz at hh
 obtain⟨e,h1,hh⟩:=jC hh hs
 obtain⟨lb1,lb2,hh,h2,hl⟩:=jF hh hs
 refine⟨_,by simp only[St.head,h1,h2];rfl,_,?_,hh⟩
 exact⟨fun i v c el=>⟨c,el,bk.refl _⟩,fun p hp=>absurd hp List.not_mem_nil,rfl,hl,hs.m⟩
variable {tab:Tab}{aa:pQ}
theorem sJ {x:Option LR}{K:Ex→List IV→List BObj→IM→Option R}{r:R}(h:bu x K=some r):∃ex vs bs m,x=some (ex,vs,bs,m)∧K ex vs bs m=some r:=by
 unfold bu at h
 split at h
 ·exact⟨_,_,_,_,rfl,h⟩
 ·cases h
theorem fc:∀(c:ICode) {R:Type}{pl:Pl}{s b:St}{K:Ex→St→Option R}{r:R},c.den ty (dt tab aa) R pl s K=some r→Sub s b →
  ∃e b',c.run (dt tab aa) (eU tab aa) b=some (e,b')∧∃s',Sub s' b'∧K e s'=some r
 |.skip,R,pl,s,b,K,r,h,hs=>⟨_,b,rfl,s,hs,h⟩
 |.ops l,R,pl,s,b,K,r,h,hs=>by
  obtain⟨b1,e1,s1,hs1,h⟩:=tN (K:=fun st=>K .normal st) h hs
  exact⟨_,b1,by simp only[ICode.run,e1],s1,hs1,h⟩
 |.draw l _,R,pl,s,b,K,r,h,hs=>by
  obtain⟨b1,e1,s1,hs1,h⟩:=tN (K:=fun st=>K .normal st) h hs
  exact⟨_,b1,by simp only[ICode.run,e1,hs.uq],s1,hs1,h⟩
 |.seq a c,R,pl,s,b,K,r,h,hs=>by
  have key:∀{s b:St},Sub s b→∀{e:Ex}{b0:St},a.run (dt tab aa) (eU tab aa) b0=some (e,b)→(match e with | .normal=>c.den ty (dt tab aa) R pl.b s K | e=>K e s)=some r →
    ∃e b',(ICode.seq a c).run (dt tab aa) (eU tab aa) b0=some (e,b')∧∃s',Sub s' b'∧K e s'=some r:=by
   intro s b hs e b0 hr hk
   cases e with
   |normal =>
    obtain⟨e2,b2,h2,s2,hs2,hk⟩:=fc c hk hs
    exact⟨e2,b2,by simp only[ICode.run,hr,h2],s2,hs2,hk⟩
   |exit i=>exact⟨_,b,by simp only[ICode.run,hr],s,hs,hk⟩
   |ret=>exact⟨_,b,by simp only[ICode.run,hr],s,hs,hk⟩
  simp only[ICode.den] at h
  split at h
  ·obtain⟨ex,vs,bs,m,hx,h⟩:=sJ h
   obtain⟨e,b1,hr,s1,hs1,hc⟩:=fc a hx hs
   obtain⟨s2,hs2,h⟩:=lp hc h hs1
   exact key hs2 hr h
  ·obtain⟨e,b1,hr,s1,hs1,h⟩:=fc a h hs
   exact key hs1 hr h
 |.cond d a c,R,pl,s,b,K,r,h,hs=>by
  simp only[ICode.den] at h
  split at h
  ·rename_i j
   split at h
   ·rename_i x cc e
    obtain⟨cb,eb,_⟩:=hs.env _ _ _ e
    rcases jo h with ⟨q,h⟩ | ⟨q,h⟩
    ·subst q
     obtain⟨e2,b2,hr,s2,hs2,h⟩:=fc a h (hs.refine e)
     exact⟨e2,b2,by simp only[ICode.run,eV eb,hr],s2,hs2,h⟩
    ·subst q
     obtain⟨e2,b2,hr,s2,hs2,h⟩:=fc c h (hs.refine e)
     exact⟨e2,b2,by simp only[ICode.run,eV eb,hr],s2,hs2,h⟩
   ·cases h
  ·split at h
   ·obtain⟨e2,b2,hr,s2,hs2,h⟩:=fc a h hs
    exact⟨e2,b2,by simp only[ICode.run,Arg.rd,hr],s2,hs2,h⟩
   ·obtain⟨e2,b2,hr,s2,hs2,h⟩:=fc c h hs
    exact⟨e2,b2,by simp only[ICode.run,Arg.rd,hr],s2,hs2,h⟩
   ·cases h
 |.block id c,R,pl,s,b,K,r,h,hs=>by
  simp only[ICode.den] at h
  obtain⟨e,b1,hr,s1,hs1,h⟩:=fc c h hs
  cases e with
  |normal=>exact⟨_,b1,by simp only[ICode.run,hr],s1,hs1,h⟩
  |ret=>exact⟨_,b1,by simp only[ICode.run,hr],s1,hs1,h⟩
  |exit i =>
   simp only at h
   split at h
   ·rename_i q
    have q:=jc q
    exact⟨_,b1,by simp only[ICode.run,hr,if_pos q],s1,hs1,h⟩
   ·rename_i q
    have q:i≠id:=fun e=>by subst e;rw[Nat.beq_refl] at q;cases q
    exact⟨_,b1,by simp only[ICode.run,hr,if_neg q],s1,hs1,h⟩
 |.loop hd c,R,pl,s,b,K,r,h,hs=>by
  simp only[ICode.den] at h
  split at h
  ·rename_i xp _
   obtain⟨b2,hb2,s2,hs2,h⟩:=nB h hs
   obtain⟨ex,vs,bs,m,hx,h⟩:=sJ h
   have main:=iter.partial_correctness (fun s=>c.den ty (dt tab aa) (St⊕LR) pl.a s (gP ty hd xp))
    (fun a q=>∀b,Sub a b→∃e b',lc tab aa hd c (some b)=some (e,b')∧∃s',Sub s' b'∧jB xp e s'=some q) (by
     intro it ih a q hq b hs
     split at hq
     ·rename_i a' ha
      obtain⟨e,b1,hr,s1,hs1,hk⟩:=fc c ha hs
      cases e with
      |normal =>
       unfold gP at hk
       obtain⟨b3,hb3,s3,hs3,hk⟩:=nB hk hs1
       cases hk
       obtain⟨e4,b4,hl,s4,hs4,hc⟩:=ih _ _ hq _ hs3
       refine⟨e4,b4,?_,s4,hs4,hc⟩
       rw[aM,hr]
       simp only[hb3]
       exact hl
      |exit i=>simp only[gP] at hk;obtain⟨q,_,hk⟩:=iC hk;cases hk
      |ret=>simp only[gP] at hk;obtain⟨q,_,hk⟩:=iC hk;cases hk
     ·rename_i q' ha
      cases hq
      obtain⟨e,b1,hr,s1,hs1,hk⟩:=fc c ha hs
      cases e with
      |normal =>
       unfold gP at hk
       obtain⟨b3,hb3,s3,hs3,hk⟩:=nB hk hs1
       cases hk
      |exit i =>
       simp only[gP] at hk
       obtain⟨q,hc,hk⟩:=iC hk
       cases hk
       exact⟨_,b1,by rw[aM,hr],s1,hs1,hc⟩
      |ret =>
       simp only[gP] at hk
       obtain⟨q,hc,hk⟩:=iC hk
       cases hk
       exact⟨_,b1,by rw[aM,hr],s1,hs1,hc⟩
     ·cases hq) s2 _ hx b2 hs2
   obtain⟨e,b3,hl,s3,hs3,hc⟩:=main
   obtain⟨s4,hs4,h⟩:=lp hc h hs3
   refine⟨e,b3,?_,s4,hs4,h⟩
   show eU tab aa hd c b=_
   rw[aP,hb2]
   exact hl
  ·cases h
 |.rangeF _ _ _,R,pl,s,b,K,r,h,hs=>by simp only[ICode.den] at h;cases h
 |.exit id,R,pl,s,b,K,r,h,hs=>⟨_,b,rfl,s,hs,h⟩
 |.ret,R,pl,s,b,K,r,h,hs=>⟨_,b,rfl,s,hs,h⟩
theorem kL:∀{l:List RV}{K:List IV→Option R}{r:R},oK s l K=some r→Sub s b→∃vs,ba b l=some vs∧K vs=some r
 |[],K,r,h,_=>⟨[],rfl,h⟩
 |.t i::l,K,r,h,hs=>by
  unfold oK at h
  split at h
  ·rename_i v c e
   obtain⟨cb,eb,_⟩:=hs.env _ _ _ e
   obtain⟨vs,e2,h⟩:=kL h hs
   exact⟨_,by simp only[ba,e2,bt,eb],h⟩
  ·cases h
 |.cell i agg n::l,K,r,h,hs=>by
  unfold oK at h
  split at h
  ·rename_i k off c e
   obtain⟨cb,eb,_⟩:=hs.env _ _ _ e
   split at h
   ·rename_i cs cp ek
    have hb:=hs.lb k
    rw[ek] at hb
    obtain⟨cp',ekb,_⟩:=hb.cells
    obtain⟨v,h,hv⟩:=my h
    obtain⟨vs,e2,h⟩:=kL h hs
    have:=pg (lb:=b.lb) (m:=b.m) (p:=.pL k off) (n:=n) (fun n=>by simp only[aI,ekb]) hv
    exact⟨_,by simp only[ba,e2,bt,eb,this],h⟩
   ·cases h
  ·rename_i p c hn e
   obtain⟨cb,eb,_⟩:=hs.env _ _ _ e
   obtain⟨v,h,hv⟩:=yn h
   obtain⟨vs,e2,h⟩:=kL h hs
   rw[hs.m] at hv
   exact⟨_,by simp only[ba,e2,bt,eb,hv b.lb],h⟩
  ·cases h
theorem aS {f:FuncId}{fn:IFn}(hp:aa f=none) (hf:tab.fns f=some fn) {pl:Pl}{args:List IV}{m:IM}{r:IV×IM}(h:eX ty pl fn (dt tab aa) args m=some r):dt tab aa (.f f) args m=some r:=by
 rw[aO hp hf]
 unfold eX at h
 split at h
 ·rename_i hn
  have hn:=jc hn
  obtain⟨e,b1,hr,s1,hs1,h⟩:=fc fn.body h (b:={ env:=br 0 args,lk:=[],lb:=[],m:=m }) ⟨fun i v c el=>⟨c,el,bk.refl _⟩,fun p hp=>absurd hp List.not_mem_nil,rfl,fun k=>BR.refl _,rfl⟩
  unfold IFn.call
  rw[if_neg (by simp[hn]),hr]
  have hrets:∀{X:Option (IV×IM)},(oK s1 fn.rets fun vs=>GC m s1.m vs)=some r→(match ba b1 fn.rets with
   |some [v]=>settle m b1.m v
   |some vs=>settle m b1.m (.tup vs)
   |none=>none)=some r:=by
   intro X hx
   obtain⟨vs,e2,hx⟩:=kL hx hs1
   rw[e2]
   unfold GC at hx
   rw[hs1.m] at hx
   match vs,hx with
   |[v],hx=>exact hx
   |[],hx=>exact hx
   |_::_::_,hx=>exact hx
  cases e with
  |exit i=>cases h
  |normal=>simp only;rw[if_pos (.inl trivial)];exact hrets (X:=none) h
  |ret=>simp only;rw[if_pos (.inr trivial)];exact hrets (X:=none) h
 ·cases h
end Go.Idl
namespace Go.Idl
noncomputable def nxt {α β:Type}(f:α→Option (α⊕β)) (x:Option (α⊕β)):Option β:=match x with
 |some (.inl a)=>iter f a
 |some (.inr b)=>some b
 |none=>none
theorem db {α β:Type}(f:α→Option (α⊕β)) (a:α):iter f a=nxt f (f a):=iter.eq_1 f a
end Go.Idl
namespace Go.Idl
variable {R:Type}
theorem bO (b:Bool) (x y:Option R):az b x y=if b=true then x else y:=by cases b<;>rfl
theorem cE (b:Bool) (x:Option R):grd b x=if b=true then x else none:=by cases b<;>rfl
theorem bw (k:IntKind) (n:Int) (K:Int→Option R):asI k (.int k n) K=K n:=by simp[asI,grd]
theorem dM (b:Bool) (K:Bool→Option R):asB (.bool b) K=K b:=rfl
theorem dp (s:List UInt8) (K:List UInt8→Option R):asS (.str s) K=K s:=rfl
theorem dV (s:List IV) (K:List IV→Option R):asA (.agg s) K=K s:=rfl
theorem dS (s:List IV) (K:List IV→Option R):asT (.tup s) K=K s:=rfl
theorem dO (i o:Nat) (K:Nat→Nat→Option R):asP (.pB i o) K=K i o:=rfl
theorem cI (i:Nat) (K:Nat→Option R):gw (.pB i 0) K=K i:=rfl
theorem bV (v:IV) (t:List IV) (K:IV→List IV→Option R):unc (v::t) K=K v t:=rfl
theorem cZ (K:Option R):unn [] K=K:=rfl
theorem bZ (v:BObj) (t:List BObj) (K:BObj→List BObj→Option R):unb (v::t) K=K v t:=rfl
theorem bX (K:Option R):cr [] K=K:=rfl
theorem dQ (cs:List IV) (cp:List Cap) (K:List IV→Option R):asC (.cells cs cp) K=K cs:=rfl
theorem cM (s:List UInt8) (p:Nat) (K:List UInt8→Nat→Option R):DM (.iter s p) K=K s p:=rfl
theorem bU (X:Option R):w5 .nilSlice X=X:=rfl
theorem dN (e ex:Ex) (A B:Option R):exC e ex A B=if ex=e then A else B:=by
 unfold exC
 by_cases h:ex=e
 ·rw[decide_eq_true h,if_pos h]
 ·rw[decide_eq_false h,if_neg h]
theorem bS (ex:Ex) (vs:List IV) (bs:List BObj) (m:IM) (K:Ex→List IV→List BObj→IM→Option R):bu (some (ex,vs,bs,m)) K=K ex vs bs m:=rfl
theorem bg (K:Ex→List IV→List BObj→IM→Option R):bu none K=none:=rfl
theorem au {o:POp}{vs:List IV}{v:IV}(h:o.ev vs=some v) (K:IV→Option R):evC o vs K=K v:=by simp[evC,h]
theorem kx {v:IV}{n:Nat}(h:v.refs=some n) (X:Option R):fS v X=X:=by
 unfold fS
 cases v<;>first | rfl | (simp[IV.refs,IV.plain] at h)
theorem af {v:IV}{n:Nat}(h:v.refs=some n) (X:Option R):aW v X=X:=by simp[aW,h]
theorem bA (X:Option R):oe [] X=X:=rfl
theorem bj (v:IV) (r:List IV) (X:Option R):oe (v::r) X=aW v (oe r X):=rfl
theorem bh (X:Option R):gi [] X=X:=rfl
theorem aQ (v:IV) (r:List IV) (X:Option R):gi (v::r) X=iU v (gi r X):=rfl
theorem bR {v:IV}(h:v.plain=true) (X:Option R):iU v X=X:=by simp[iU,h]
theorem gB {l:List IV}(h:l.all IV.plain=true) (X:Option R):gi l X=X:=by
 induction l with
 |nil=>rfl
 |cons v r ih =>
  rw[List.all_cons,Bool.and_eq_true] at h
  rw[aQ,bR h.1,ih h.2]
theorem du {m:IM}{id:Nat}{cs:List IV}{cp:List Cap}(h:m.get id=.cells cs cp) (K:List IV→List Cap→Option R):gr m id K=K cs cp:=by simp[gr,h]
theorem dB {cs:List IV}{off n:Nat}{v:IV}(h:cs[off]?=some v) (K:IV→Option R):eK false cs off n K=K v:=by simp[eK,h]
theorem gF {cs:List IV}{off n:Nat}{r:List IV}(h:cut cs off n=some r) (K:IV→Option R):eK true cs off n K=K (.agg r):=by simp[eK,h]
theorem dR (m:IM) (agg:Bool) (n off:Nat) (row:List IV) (K:IV→Option R):ldP m agg n (.pI row off) K=eK agg row off n K:=rfl
theorem dT (m:IM) (agg:Bool) (n id off:Nat) (K:IV→Option R):ldP m agg n (.pB id off) K=gr m id fun cs _=>eK agg cs off n K:=rfl
theorem cK {α β:Type}(f:α→Option (α⊕β)) (a:α):nxt f (some (.inl a))=iter f a:=rfl
theorem cQ {α β:Type}(f:α→Option (α⊕β)) (b:β):nxt f (some (.inr b))=some b:=rfl
theorem dP {α β:Type}(f:α→Option (α⊕β)) (c:Prop) [Decidable c] (x y:Option (α⊕β)):nxt f (if c then x else y)=if c then nxt f x else nxt f y:=by split<;>rfl
def tyG (l:List (Sh×List Nat)):Tys:=l.flatMap fun p=>p.2.map fun i=>(i,p.1)
@[reducible] noncomputable def uV (l:List IV) (K:Int→List UInt8→IV→IV→List IV→Option R):Option R:=unc l fun v l=>asI .i64 v fun n=>unc l fun v l=>asS v fun s=>unc l fun v l=>unc l fun w l=>K n s v w l
@[reducible] noncomputable def uI (k:IntKind) (l:List IV) (K:Int→List IV→Option R):Option R:=unc l fun v l=>asI k v fun n=>K n l
@[reducible] noncomputable def gI (m:IM) (r off:Nat) (K:Int→Option R):Option R:=gr m r fun l _=>eK false l off 1 fun v=>asI .i64 v K
@[reducible] noncomputable def gS (m:IM) (r off:Nat) (K:List UInt8→Option R):Option R:=gr m r fun l _=>eK false l off 1 fun v=>asS v K
def al (m:IM) (id:Nat) (o:BObj):IM:=⟨m.bs.set id o,m.esc⟩
theorem iN {m:IM}{id:Nat}{cs:List IV}{cp:List Cap}(h:m.get id=.cells cs cp):id<m.size:=by
 rcases Nat.lt_or_ge id m.size with q | q
 ·exact q
 ·rw[IM.get,List.getD_eq_getElem?_getD,List.getElem?_eq_none q] at h;cases h
theorem jm {m:IM}{id:Nat}(h:id<m.size) (o:BObj):(al m id o).get id=o:=by
 have h':id<m.bs.length:=h
 simp[al,IM.get,List.getD_eq_getElem?_getD,h']
theorem ah (m:IM) (id:Nat) (o o':BObj):al (al m id o) id o'=al m id o':=by simp[al]
theorem ze (m:IM) (id:Nat) (o:BObj):(al m id o).size=m.size:=by simp[al,IM.size]
theorem Ch (m:IM) (id:Nat) (o:BObj):(al m id o).esc=m.esc:=rfl
theorem ia {m:IM}{id:Nat}{o:BObj}(h:m.get id=o) (hl:id<m.size):al m id o=m:=by
 have hl':id<m.bs.length:=hl
 have:m.bs[id]=o:=by
  rw[←h,IM.get,List.getD_eq_getElem?_getD,List.getElem?_eq_getElem hl']
  rfl
 rw[al,←this,List.set_getElem_self]
theorem hF {m:IM}{id off:Nat}{vs:List IV}{c:Cap}{cs:List IV}{cp:List Cap}{r:Nat}(h:m.get id=.cells cs cp) (hr:an vs=some r) (hle:r≤id) (hf:off+vs.length≤cs.length) (K:IM→Option R) :
  stP m (.pB id off) vs c K=K (al m id (.cells (over cs off vs) (aB cp off vs.length c))):=by
 unfold stP
 simp only[sL,ne_eq,not_true,if_false,h,hr,if_pos hf,if_pos hle]
 rfl
theorem oC {m m':IM}{v:IV}(hv:v.refsDeep=some 0) (hs:m'.size=m.size) (he:m'.esc=m.esc):settle m m' v=some (v,m'):=by
 unfold settle
 have:m'.bs.take m.size=m'.bs:=List.take_of_length_le (by rw[IM.size] at hs;omega)
 simp only[hv,aq,he,this,if_true,Nat.zero_le]
 rw[←he]
theorem bm {m:IM}{v:IV}(hv:v.refsDeep=some 0):settle m m v=some (v,m):=oC hv rfl rfl
theorem aC {m:IM}{v:IV}{id:Nat}{o:BObj}(hv:v.refsDeep=some 0):settle m (al m id o) v=some (v,al m id o):=oC hv (ze _ _ _) (Ch _ _ _)
theorem jd (m:IM) (o:BObj):(bP m o).get m.size=o:=by simp[bP,IM.get,IM.size,List.getD_eq_getElem?_getD]
theorem dd (m:IM) (o o':BObj):al (bP m o) m.size o'=bP m o':=by simp[al,bP,IM.size]
theorem dH {m:IM}{v:IV}{o:BObj}(hv:v.refsDeep=some 0):settle m (bP m o) v=some (v,m):=by
 unfold settle
 simp[hv,aq,bP,IM.size]
theorem Bv {call:aN}{c:Callee}{vs:List IV}{m m':IM}{v:IV}(h:call c vs m=some (v,m')) (hr:(an (vs.flatMap IV.cells)).isSome=true) (K:IV→IM→Option R):ak call c vs [] m K=K v m':=by
 obtain⟨n,hn⟩:=Option.isSome_iff_exists.1 hr
 simp[ak,hn,cv,h,aT]
theorem a7:(an []).isSome=true:=id rfl
theorem aD (v:IV) (r:List IV):(an (v::r)).isSome=(v.refs.isSome&&(an r).isSome):=by
 simp only[an]
 cases v.refs<;>cases an r<;>rfl
theorem bT (k:IntKind) (n:Int):(IV.int k n).refs=some 0:=id rfl
theorem bC (n:Bool):(IV.bool n).refs=some 0:=id rfl
theorem b8 (n:List UInt8):(IV.str n).refs=some 0:=id rfl
theorem bW:IV.nilSlice.refs=some 0:=id rfl
theorem cV (r:List IV) (n:Nat):(IV.sl r n).refs=some 0:=id rfl
theorem c9 (i o:Nat):(IV.pB i o).refs=some (i+1):=id rfl
theorem c8 (f:FuncId):(IV.func f [] []).refs=some 0:=id rfl
theorem bJ (k:IntKind) (n:Int):(IV.int k n).cells=[.int k n]:=id rfl
theorem bo (n:Bool):(IV.bool n).cells=[.bool n]:=id rfl
theorem bF (n:List UInt8):(IV.str n).cells=[.str n]:=id rfl
theorem ck (i o:Nat):(IV.pB i o).cells=[.pB i o]:=id rfl
theorem bG (l:List IV):(IV.agg l).cells=l:=id rfl
theorem cm (f:FuncId):(IV.func f [] []).cells=[.func f [] []]:=id rfl
theorem bH:IV.nilSlice.cells=[.nilSlice]:=id rfl
theorem ct (r:List IV) (n:Nat):(IV.sl r n).cells=[.sl r n]:=id rfl
theorem dZ:an []=some 0:=id rfl
theorem cY (v:IV) (r:List IV):(an (v::r)=some 0)=(v.refs=some 0∧an r=some 0):=by
 simp only[an,eq_iff_iff]
 cases v.refs<;>cases an r<;>simp<;>omega
theorem fy {v:IV}(h:v.refs=some 0):v.refsDeep=some 0:=by
 cases v<;>first | exact h | (simp[IV.refs,IV.plain] at h)
theorem dK (k:IntKind) (n:Int):(IV.int k n).refsDeep=some 0:=id rfl
theorem cS (n:Bool):(IV.bool n).refsDeep=some 0:=id rfl
theorem dY (n:List UInt8):(IV.str n).refsDeep=some 0:=id rfl
theorem et (l:List IV):((IV.agg l).refsDeep=some 0)=(an l=some 0):=id rfl
theorem dL (l:List IV):((IV.tup l).refsDeep=some 0)=(IV.refsDeep.go l=some 0):=id rfl
def elR:IV→Option Nat
 |.agg cs=>an cs
 |v=>v.refs
theorem dU:IV.refsDeep.go []=some 0:=id rfl
theorem cH (v:IV) (r:List IV):(IV.refsDeep.go (v::r)=some 0)=(elR v=some 0∧IV.refsDeep.go r=some 0):=by
 have e:IV.refsDeep.go (v::r)=match elR v,IV.refsDeep.go r with | some a,some b=>some (Nat.max a b) | _,_=>none:=by
  cases v<;>rfl
 rw[e,eq_iff_iff]
 cases elR v<;>cases IV.refsDeep.go r<;>simp<;>omega
theorem cN (l:List IV):elR (.agg l)=an l:=id rfl
theorem cP (k:IntKind) (n:Int):elR (.int k n)=some 0:=id rfl
theorem bY (n:Bool):elR (.bool n)=some 0:=id rfl
theorem cJ (n:List UInt8):elR (.str n)=some 0:=id rfl
theorem eB {v:IV}(h:v.refs=some 0):elR v=some 0:=by
 cases v<;>first | exact h | (simp[IV.refs,IV.plain] at h)
end Go.Idl
