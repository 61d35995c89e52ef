/- This text proves that runs of single functions, of which only some slots are known, give calls of that interpreter; it has no conditions. -/
import Derived.Test.YtihkfdkoncekmaaGreatDoorIde
import Derived.Test.YtihkfdkoncekmaaGreatDoorIdd
import Derived.Test.YtihkfdkoncekmaaGreatDoorIdl
import Derived.KernelRfl
set_option linter.unusedSimpArgs false
set_option linter.unusedVariables false
namespace Go.Idl
variable {R:Type}
def aR (b:Bool) (x y:Option R):Option R:=match b with
 |true=>x
 |false=>y
def grd (b:Bool) (x:Option R):Option R:=match b with
 |true=>x
 |false=>none
def asI (k:IntKind) (v:IV) (K:Int→Option R):Option R:=match v with
 |.int k' n=>grd (decide (k'=k)) (K n)
 |_=>none
def asB (v:IV) (K:Bool→Option R):Option R:=match v with
 |.bool b=>K b
 |_=>none
def asS (v:IV) (K:List UInt8→Option R):Option R:=match v with
 |.str s=>K s
 |_=>none
def asA (v:IV) (K:List IV→Option R):Option R:=match v with
 |.agg cs=>K cs
 |_=>none
def asT (v:IV) (K:List IV→Option R):Option R:=match v with
 |.tup cs=>K cs
 |_=>none
def asP (v:IV) (K:Nat→Nat→Option R):Option R:=match v with
 |.pB id off=>K id off
 |_=>none
def unc (cs:List IV) (K:IV→List IV→Option R):Option R:=match cs with
 |v::t=>K v t
 |[]=>none
def unn (cs:List IV) (K:Option R):Option R:=match cs with
 |[]=>K
 |_=>none
def unb (cs:List BObj) (K:BObj→List BObj→Option R):Option R:=match cs with
 |v::t=>K v t
 |[]=>none
def dL (cs:List BObj) (K:Option R):Option R:=match cs with
 |[]=>K
 |_=>none
def asC (o:BObj) (K:List IV→Option R):Option R:=match o with
 |.cells cs _=>K cs
 |_=>none
def EJ (o:BObj) (K:List UInt8→Nat→Option R):Option R:=match o with
 |.iter s p=>K s p
 |_=>none
def gE (v:IV) (K:Nat→Option R):Option R:=match v with
 |.pB id 0=>K id
 |_=>none
def xn (v:IV) (X:Option R):Option R:=match v with
 |.nilSlice=>X
 |_=>none
def Bm (v:IV) (X:Option R):Option R:=match v with
 |.agg _=>none
 |.tup _=>none
 |.undef=>none
 |.pL ..=>none
 |_=>X
def gq (v:IV) (X:Option R):Option R:=match v with
 |.pL ..=>none
 |_=>X
def isSl (v:IV) (X:Option R):Option R:=match v with
 |.sl ..=>X
 |.nilSlice=>X
 |_=>none
def bm (v:IV) (X:Option R):Option R:=match v.refs with
 |some _=>X
 |none=>none
def ou (cs:List IV) (X:Option R):Option R:=match cs with
 |[]=>X
 |v::r=>bm v (ou r X)
def nM (v:IV) (X:Option R):Option R:=match v.plain with
 |true=>X
 |false=>none
def fU (cs:List IV) (X:Option R):Option R:=match cs with
 |[]=>X
 |v::r=>nM v (fU r X)
def evC (o:POp) (vs:List IV) (K:IV→Option R):Option R:=match o.ev vs with
 |some v=>K v
 |none=>none
def dD (agg:Bool) (cs:List IV) (off n:Nat) (K:IV→Option R):Option R:=match agg with
 |true=>match cut cs off n with
  |some r=>K (.agg r)
  |none=>none
 |false=>match cs[off]? with
  |some v=>K v
  |none=>none
def eS (m:IM) (id:Nat) (K:List IV→List Cap→Option R):Option R:=match m.get id with
 |.cells cs cp=>K cs cp
 |_=>none
def ldP (m:IM) (agg:Bool) (n:Nat) (p:IV) (K:IV→Option R):Option R:=match p with
 |.pI row off=>dD agg row off n K
 |.pB id off=>eS m id fun cs _=>dD agg cs off n K
 |_=>none
def stP (m:IM) (p:IV) (vs:List IV) (c:Cap) (K:IM→Option R):Option R:=match p with
 |.pB id off=>match aJ { env:=[],lk:=[],lb:=[],m:=m } vs.length (.pB id off) vs c with
  |some st=>K st.m
  |none=>none
 |_=>none
def bJ (m:IM) (o:BObj):IM:=⟨m.bs++[o],m.esc⟩
def tj (m:IM) (sz:Nat) (v:IV) (K:List IV→Nat→Option R):Option R:=match bS [] m sz v with
 |some (xs,n)=>K xs n
 |none=>none
def ja (sv:IV) (sz bytes:Nat) (xs:List IV) (n:Nat) (K:IV→Option R):Option R:=match sv with
 |.nilSlice=>aR (n==0) (K .nilSlice) (grd (decide (n*bytes≤ao)) (K (.sl xs n)))
 |.sl row len=>grd (decide ((len+n)*bytes≤ao∧row.length=len*sz)) (K (.sl (row++xs) (len+n)))
 |_=>none
def GZ (m:IM) (id off:Nat):Cap:=match m.get id with
 |.cells _ cp=>cp.getD off .any
 |_=>.any
def iT (m:IM) (id off:Nat) (sv:IV) (sz bytes:Nat) (xs:List IV) (n:Nat) (K:IV→IM→Option R):Option R:=match sv with
 |.nilSlice=>aR (n==0) (K .nilSlice m) (grd (decide (n*bytes≤ao)) (K (.sl xs n) m))
 |.sl row len=>grd (decide (GZ m id off=.own sz)) (grd (decide ((len+n)*bytes≤ao∧row.length=len*sz))
   (match ({ env:=[],lk:=[],lb:=[],m:=m }:St).drop (.B id off) with
    |some st=>K (.sl (row++xs) (len+n)) st.m
    |none=>none))
 |_=>none
def Ei (sv:IV) (bytes:Nat) (xs:List IV) (n:Nat) (K:IV→Option R):Option R:=match sv with
 |.nilSlice=>aR (n==0) (K .nilSlice) (grd (decide (n*bytes≤ao)) (K (.sl xs n)))
 |_=>none
def cpS (m:IM) (d:IV) (sz:Nat) (xs:List IV) (k:Nat) (K:Nat→IM→Option R):Option R:=match d with
 |.sB id off n _=>match aJ { env:=[],lk:=[],lb:=[],m:=m } (Nat.min k n*sz) (.pB id off) (xs.take (Nat.min k n*sz)) .any with
  |some st=>K (Nat.min k n) st.m
  |none=>none
 |.nilSlice=>K 0 m
 |_=>none
def cpC (m:IM) (d:IV) (sz:Nat) (xs:List IV) (k:Nat) (K:Nat→IM→Option R):Option R:=grd (decide (xs.length=k*sz)) (cpS m d sz xs k K)
def aw (call:aQ) (c:Callee) (vs:List IV) (ids:List Nat) (m:IM) (K:IV→IM→Option R):Option R:=match al (vs.flatMap IV.cells) with
 |some _=>match cH m ids with
  |some m1=>match call c vs m1 with
   |some (v,m2)=>match aT m m2 ids with
    |some m3=>K v m3
    |none=>none
   |none=>none
  |none=>none
 |none=>none
def tZ (call:aQ) (g:IV) (vs:List IV) (ids:List Nat) (m:IM) (K:IV→IM→Option R):Option R:=match g with
 |.func f fs cs=>aw call (.f f) (fs++vs++cs) ids m K
 |.yld id=>aw call (.y id) vs ids m K
 |_=>none
def JG (m:IM) (d:EqD) (zero:IV) (ok:Bool) (mv k:IV) (K:IV→Option R):Option R:=match mv with
 |.nilMap=>K (match ok with | true=>.tup [zero,.bool false] | false=>zero)
 |.map id=>match m.get id with
  |.map es=>match ob d k es with
   |some (some v)=>K (match ok with | true=>.tup [v,.bool true] | false=>v)
   |some none=>K (match ok with | true=>.tup [zero,.bool false] | false=>zero)
   |none=>none
  |_=>none
 |_=>none
def Ko (m:IM) (d:EqD) (mv k v:IV) (K:IM→Option R):Option R:=match mv with
 |.map id=>match m.get id with
  |.map es=>match qT d k v es,v.plain&&k.plain with
   |some es,true=>K ⟨m.bs.set id (.map es),m.esc⟩
   |_,_=>none
  |_=>none
 |_=>none
def Jw (m:IM) (mv:IV) (K:Nat→Option R):Option R:=match mv with
 |.nilMap=>K 0
 |.map id=>match m.get id with
  |.map es=>K es.length
  |_=>none
 |_=>none
def exC (e ex:Ex) (A B:Option R):Option R:=match decide (ex=e) with
 |true=>A
 |false=>B
inductive Sh1 where
 |any | int (k:IntKind) | bool | str | ptr | ptr0 | own | sl
 deriving DecidableEq,Inhabited
inductive ShA where
 |one (s:Sh1)
 |agg (l:List Sh1)
 deriving Inhabited
inductive Sh where
 |one (s:Sh1)
 |agg (l:List Sh1)
 |tup (l:List ShA)
 deriving Inhabited
def as1 (s:Sh1) (v:IV) (K:IV→Option R):Option R:=match s with
 |.int k=>asI k v fun n=>K (.int k n)
 |.bool=>asB v fun b=>K (.bool b)
 |.str=>asS v fun s=>K (.str s)
 |.ptr=>asP v fun id off=>K (.pB id off)
 |.ptr0=>gE v fun id=>K (.pB id 0)
 |_=>K v
def asL:List Sh1→List IV→(List IV→Option R)→Option R
 |[],cs,K=>unn cs (K [])
 |s::r,cs,K=>unc cs fun v t=>as1 s v fun v=>asL r t fun t=>K (v::t)
def Ju (s:ShA) (v:IV) (K:IV→Option R):Option R:=match s with
 |.one s=>as1 s v K
 |.agg l=>asA v fun cs=>asL l cs fun cs=>K (.agg cs)
def Iv:List ShA→List IV→(List IV→Option R)→Option R
 |[],cs,K=>unn cs (K [])
 |s::r,cs,K=>unc cs fun v t=>Ju s v fun v=>Iv r t fun t=>K (v::t)
def Ic (s:Sh) (v:IV) (K:IV→Option R):Option R:=match s with
 |.one s=>as1 s v K
 |.agg l=>asA v fun cs=>asL l cs fun cs=>K (.agg cs)
 |.tup l=>asT v fun cs=>Iv l cs fun cs=>K (.tup cs)
abbrev Tys:=List (Nat×Sh)
def vu:Tys→Nat→Sh
 |[],_=>.one .any
 |(j,s)::r,i=>match Nat.beq j i with
  |true=>s
  |false=>vu r i
def shV:IV→Sh
 |.agg _=>.agg []
 |.pL ..=>.one .own
 |_=>.one .any
inductive BX where
 |cells (k:Nat) (l:List Sh1) (cp:List Cap)
 |iter (k:Nat)
 |dead (k:Nat)
 deriving Inhabited
def Kf:BObj:=.loop 0 0 0 [] 0
def BX.k:BX→Nat
 |.cells k _ _=>k
 |.iter k=>k
 |.dead k=>k
structure XE where
 ex:Ex
 slots:List (Nat×Cap)
 boxes:List BX
 own:List (Nat×Nat×Nat)
 deriving Inhabited
abbrev XP:=List XE
inductive Pl where
 |z
 |n (x:Option XP) (a b:Pl)
 deriving Inhabited
def Pl.x:Pl→Option XP
 |.z=>none
 |.n x _ _=>x
def Pl.a:Pl→Pl
 |.z=>.z
 |.n _ a _=>a
def Pl.b:Pl→Pl
 |.z=>.z
 |.n _ _ b=>b
abbrev LR:=Ex×List IV×List BObj×IM
def unk:Cap:=.own 0
def yB (a b:Cap):Bool:=decide (a=unk)||decide (b=a)
def qn (env:Env):List (Nat×Cap)→(List IV→Option R)→Option R
 |[],K=>K []
 |(i,c)::r,K=>match look env i with
  |some (v,c')=>grd (yB c c') (qn env r fun vs=>K (v::vs))
  |none=>none
def oO:List Cap→List Cap→Bool
 |[],[]=>true
 |a::r,b::t=>yB a b&&oO r t
 |_,_=>false
def jl (lb:List (Nat×BObj)):List BX→(List BObj→Option R)→Option R
 |[],K=>K []
 |.cells k _ cp::r,K=>match au lb k with
  |.cells cs cp'=>grd (oO cp cp') (jl lb r fun bs=>K (.cells cs cp::bs))
  |_=>none
 |.iter k::r,K=>match au lb k with
  |.iter s p=>jl lb r fun bs=>K (.iter s p::bs)
  |_=>none
 |.dead _::r,K=>jl lb r K
def hasB (bx:List BX) (k:Nat):Bool:=match bx with
 |[]=>false
 |b::r=>Nat.beq b.k k||hasB r k
def Ek (lb:List (Nat×BObj)) (bx:List BX):Bool:=match lb with
 |[]=>true
 |(k,_)::r=>hasB bx k&&Ek r bx
def D0:Ex→Ex→Bool
 |.normal,.normal=>true
 |.ret,.ret=>true
 |.exit i,.exit j=>Nat.beq i j
 |_,_=>false
def tb (env:Env):List (Nat×Nat×Nat)→Option R→Option R
 |[],X=>X
 |(i,k,o)::r,X=>match look env i with
  |some (.pL k' o',.any)=>grd (Nat.beq k' k&&Nat.beq o' o) (tb env r X)
  |_=>none
def BG:List (Nat×Nat×Nat)→Env→Env
 |[],e=>e
 |(i,k,o)::r,e=>(i,.pL k o,.any)::BG r e
def jA:XP→Ex→St→(LR→Option R)→Option R
 |[],_,_,_=>none
 |x::r,e,s,K=>match D0 e x.ex with
  |true=>tb s.env x.own (qn s.env x.slots fun vs=>jl s.lb x.boxes fun bs=>grd (Ek s.lb x.boxes) (K (e,vs,bs,s.m)))
  |false=>jA r e s K
def jF (xp:XP) (e:Ex) (s:St):Option LR:=jA xp e s some
def DT (ty:Tys):List (Nat×Cap)→List IV→(Env→Option R)→Option R
 |[],vs,K=>unn vs (K [])
 |(i,c)::r,vs,K=>unc vs fun v t=>Ic (vu ty i) v fun v=>DT ty r t fun e=>K ((i,v,c)::e)
def uO:List BX→List BObj→(List (Nat×BObj)→Option R)→Option R
 |[],bs,K=>dL bs (K [])
 |.cells k l cp::r,bs,K=>unb bs fun o t=>asC o fun cs=>asL l cs fun cs=>uO r t fun lb=>K ((k,.cells cs cp)::lb)
 |.iter k::r,bs,K=>unb bs fun o t=>EJ o fun s p=>uO r t fun lb=>K ((k,.iter s p)::lb)
 |.dead k::r,bs,K=>uO r bs fun lb=>K ((k,Kf)::lb)
def vm (ty:Tys):XP→Ex→List IV→List BObj→IM→(Ex→St→Option R)→Option R
 |[],_,_,_,_,_=>none
 |x::r,ex,vs,bs,m,K=>exC x.ex ex (DT ty x.slots vs fun env=>uO x.boxes bs fun lb=>K x.ex { env:=BG x.own env,lk:=[],lb,m }) (vm ty r ex vs bs m K)
def cI (r:Option LR) (K:Ex→List IV→List BObj→IM→Option R):Option R:=match r with
 |some (ex,vs,bs,m)=>K ex vs bs m
 |none=>none
def rdC (ty:Tys) (e:Env) (a:Arg) (K:Sh→IV→Option R):Option R:=match a with
 |.t i=>match look e i with
  |some (v,_)=>K (vu ty i) v
  |none=>none
 |.c v=>K (shV v) v
def xz (ty:Tys) (e:Env):List Arg→(List (Sh×IV)→Option R)→Option R
 |[],K=>K []
 |a::r,K=>rdC ty e a fun s v=>xz ty e r fun l=>K ((s,v)::l)
def lL (sh:Sh) (v:IV) (K:List IV→Option R):Option R:=match sh with
 |.agg _=>asA v K
 |_=>Bm v (K [v])
def rh:List IV→List (Nat×Nat)→List (Sh×IV)→(List IV→Option R)→Option R
 |zero,(off,n)::ps,(sh,v)::vs,K=>lL sh v fun c=>grd (Nat.beq c.length n&&Nat.ble (off+n) zero.length) (rh (over zero off c) ps vs K)
 |cs,[],[],K=>K cs
 |_,_,_,_=>none
def known (c:Cap) (X:Option R):Option R:=match c with
 |.any=>X
 |.own z=>grd (!(Nat.beq z 0)) X
def tQ:List (Nat×Loc)→List (Nat×Loc)
 |[]=>[]
 |(i,l)::r=>match l with
  |.B ..=>tQ r
  |_=>(i,l)::tQ r
def xj:List (Nat×Loc)→List (Nat×Loc)
 |[]=>[]
 |(i,l)::r=>match l with
  |.B ..=>xj r
  |.marked=>xj r
  |_=>(i,l)::xj r
def rM (ids:List Nat):List (Nat×Loc)→(List (Nat×Loc)→Option R)→Option R
 |[],K=>K []
 |(i,l)::r,K=>match l with
  |.B id off=>match ids with
   |[]=>rM ids r K
   |_=>grd (ids.contains id) (rM ids r fun t=>K ((i,.B id off)::t))
  |.marked=>rM ids r K
  |l=>rM ids r fun t=>K ((i,l)::t)
def xt (e:Env):List Arg→(List Nat→Option R)→Option R
 |[],K=>K []
 |.c _::r,K=>xt e r K
 |.t i::r,K=>match look e i with
  |some (v,_)=>match v with
   |.pB id _=>xt e r fun ids=>K (id::ids)
   |_=>xt e r K
  |none=>none
def single:List (Sh×IV)→List IV
 |[]=>[]
 |(_,v)::r=>v::single r
def mvC (st:St) (i:Nat) (xf:Bool) (K:IV→Cap→St→Option R):Option R:=match look st.env i with
 |some (v,c)=>match xf with
  |false=>K v .any st
  |true=>match c with
   |.any=>K v .any st
   |.own sz=>K v (.own sz) { st with env:=(i,v,.any)::st.env,lk:=lkSlot i st.lk }
 |none=>none
def stC (lb:List (Nat×BObj)) (sh:Sh) (p:IV) (n:Nat) (cs:List IV) (c:Cap) (st:St) (K:St→Option R):Option R:=match sh with
 |.one .own=>match p with
  |.pL k off=>match au lb k with
   |.cells bs cp=>ou cs (grd (Nat.beq cs.length n&&Nat.ble (off+n) bs.length) (K { st with lb:=(k,.cells (over bs off cs) (aC cp off n c))::st.lb,lk:=lkL k st.lk }))
   |_=>none
  |_=>none
 |_=>known c (grd (Nat.beq cs.length n) (stP st.m p cs c fun m=>K { st with m:=m,lk:=tQ st.lk }))
def IK.den (ty:Tys) (call:aQ) (st:St) (k:IK) (K:IV→Cap→St→Option R):Option R:=match k with
 |.mv x xf _=>(match x with
  |.c v=>K v .any st
  |.t i=>mvC st i xf K)
 |.p o args=>match o,args with
  |.pick,[.t j,a,b]=>match look st.env j with
   |some (.bool c,cc)=>aR c (rdC ty st.env a fun _ v=>K v .any { st with env:=(j,.bool true,cc)::st.env }) (rdC ty st.env b fun _ v=>K v .any { st with env:=(j,.bool false,cc)::st.env })
   |_=>none
  |.build zero parts,args=>xz ty st.env args fun l=>rh zero parts l fun cs=>K (.agg cs) .any st
  |o,args=>xz ty st.env args fun l=>evC o (single l) fun v=>K v .any st
 |.same x=>match x with
  |.t i=>match look st.env i with
   |some (.sl row len,c)=>grd (decide (linkOf st.lk i=some .marked)) (match c with
    |.own sz=>K (.sl row len) (.own sz) { st with env:=(i,.sl row len,.any)::st.env,lk:=lkSlot i st.lk }
    |.any=>K (.sl row len) .any st)
   |_=>none
  |.c _=>none
 |.load agg n a _=>rdC ty st.env a fun sh p=>match sh with
  |.one .own=>match p with
   |.pL k off=>match au st.lb k with
    |.cells cs _=>dD agg cs off n fun v=>K v .any st
    |_=>none
   |_=>none
  |_=>ldP st.m agg n p fun v=>K v .any st
 |.store n a x xf=>rdC ty st.env a fun sh p=>match x with
  |.c v=>lL (shV v) v fun cs=>stC st.lb sh p n cs .any st fun st=>K .undef .any st
  |.t i=>mvC st i xf fun v c st'=>match c with
   |.any=>lL (vu ty i) v fun cs=>stC st.lb sh p n cs .any st' fun st=>K .undef .any st
   |.own sz=>isSl v (stC st.lb sh p n [v] (.own sz) st' fun st=>K .undef .any st)
 |.allocL k zero cp=>match au st.lb k with
  |.none=>K (.pL k 0) .any { st with lb:=(k,.cells zero (aF zero cp))::st.lb }
  |_=>none
 |.allocG zero cp=>K (.pB st.m.size 0) .any { st with m:=bJ st.m (.cells zero (aF zero cp))}
 |.boxL k n x=>rdC ty st.env x fun sh v=>lL sh v fun cs=>ou cs (grd (Nat.beq cs.length n) (match au st.lb k with
  |.none=>K (.pL k 0) .any { st with lb:=(k,.cells cs (aF cs []))::st.lb }
  |_=>none))
 |.boxG n x=>rdC ty st.env x fun sh v=>lL sh v fun cs=>ou cs (grd (Nat.beq cs.length n) (K (.pB st.m.size 0) .any { st with m:=bJ st.m (.cells cs (aF cs []))}))
 |.buildSlice sz len zero parts args=>xz ty st.env args fun l=>rh (cD zero len) parts l fun cs=>fU cs (K (.sl cs len) (.own sz) st)
 |.strBytes x=>rdC ty st.env x fun _ v=>asS v fun s=>grd (decide (s.length≤ao)) (K (.sl (aa s) s.length) (.own 1) st)
 |.makeI sz bytes zero len cap=>rdC ty st.env len fun _ l=>asI .i64 l fun l=>rdC ty st.env cap fun _ c=>asI .i64 c fun c =>
   grd (decide (0≤l∧l≤c∧c*bytes≤ao∧c≤ao)) (K (.sl (cD zero l.toNat) l.toNat) (.own sz) st)
 |.makeB sz bytes zero len cap=>rdC ty st.env len fun _ l=>asI .i64 l fun l=>rdC ty st.env cap fun _ c=>asI .i64 c fun c =>
   grd (decide (0≤l∧l≤c∧c*bytes≤ao∧c≤ao)) (K (.sB st.m.size 0 l.toNat sz) .any { st with m:=bJ st.m (.cells (cD zero c.toNat) (aF (cD zero c.toNat) []))})
 |.append sz bytes s x=>rdC ty st.env x fun _ x=>tj st.m sz x fun xs n=>fU xs (grd (Nat.beq xs.length (n*sz)) (match s with
  |.c sv=>Ei sv bytes xs n fun v=>K v (.own sz) st
  |.t i=>match look st.env i with
   |some (sv,.own z)=>grd (Nat.beq z sz && !(Nat.beq sz 0)) (ja sv sz bytes xs n fun v=>K v (.own sz) { st with env:=(i,sv,unk)::st.env,lk:=lkSlot i st.lk })
   |some (sv,.any)=>match linkOf st.lk i with
    |some (.L k off)=>match au st.lb k with
     |.cells cs cp=>grd (decide (cp.getD off .any=.own sz) && !(Nat.beq sz 0)) (ja sv sz bytes xs n fun v=>K v (.own sz) { st with lb:=(k,.cells cs (cp.set off unk))::st.lb })
     |_=>none
    |some (.B id off)=>iT st.m id off sv sz bytes xs n fun v m=>K v (.own sz) { st with m:=m }
    |some (.slot j)=>match look st.env j with
     |some (w,.own z)=>grd (Nat.beq z sz && !(Nat.beq sz 0)) (ja sv sz bytes xs n fun v=>K v (.own sz) { st with env:=(j,w,unk)::st.env,lk:=lkSlot j st.lk })
     |_=>none
    |_=>Ei sv bytes xs n fun v=>K v (.own sz) st
   |none=>none))
 |.copy sz d s=>rdC ty st.env d fun _ d=>rdC ty st.env s fun _ s=>tj st.m sz s fun xs k=>cpC st.m d sz xs k fun n m=>K (.int .i64 n) .any { st with m:=m,lk:=tQ st.lk }
 |.callF f args hide=>xz ty st.env args fun l=>xt st.env hide fun ids=>aw call (.f f) (single l) ids st.m fun v m=>rM ids st.lk fun lk=>K v .any { st with m:=m,lk:=lk }
 |.callV g args hide=>xz ty st.env args fun l=>rdC ty st.env g fun _ g=>xt st.env hide fun ids=>tZ call g (single l) ids st.m fun v m=>K v .any { st with m:=m,lk:=xj st.lk }
 |.mkMap=>K (.map st.m.size) .any { st with m:=bJ st.m (.map [])}
 |.lookup d zero ok a b=>rdC ty st.env a fun _ mp=>rdC ty st.env b fun _ k=>JG st.m d zero ok mp k fun v=>K v .any st
 |.mapUpd d a b x=>rdC ty st.env a fun _ mp=>rdC ty st.env b fun _ k=>rdC ty st.env x fun _ v=>Ko st.m d mp k v fun m=>K .undef .any { st with m:=m }
 |.mapLen a=>rdC ty st.env a fun _ mp=>Jw st.m mp fun n=>K (.int .i64 n) .any st
 |.rangeStr k x=>rdC ty st.env x fun _ v=>asS v fun s=>match au st.lb k with
  |.none=>K (.pL k 0) .any { st with lb:=(k,.iter s 0)::st.lb }
  |_=>none
 |.nextStr a=>rdC ty st.env a fun _ p=>match p with
  |.pL k 0=>match au st.lb k with
   |.iter s pos=>aR (decide (pos<s.length))
     (K (.tup [.bool true,.int .i64 pos,.int .i32 (Utf8.decode ⟨⟨s⟩⟩ pos).1]) .any { st with lb:=(k,.iter s (pos+(Utf8.decode ⟨⟨s⟩⟩ pos).2))::st.lb })
     (K (.tup [.bool false]) .any st)
   |_=>none
  |_=>none
def zB (e:Env) (a:Arg) (t:OTag) (X:Option R):Option R:=match a with
 |.c v=>match t with
  |.imm=>(match v with | .pI ..=>X | _=>none)
  |.mem=>gq v X
  |.own k=>(match v with | .pL k' _=>grd (Nat.beq k' k) X | _=>none)
  |_=>none
 |.t i=>match look e i with
  |some (v,_)=>match t with
   |.imm=>(match v with | .pI ..=>X | _=>none)
   |.mem=>gq v X
   |.own k=>(match v with | .pL k' _=>grd (Nat.beq k' k) X | _=>none)
   |.hid h=>match look e h with
    |some (w,_)=>asP v fun id _=>asP w fun id' _=>grd (Nat.beq id id') X
    |none=>none
   |_=>none
  |none=>none
def EX (e:Env) (lk:List (Nat×Loc)) (i:Nat) (t:OTag) (X:Option R):Option R:=match look e i with
 |some (v,c)=>match c with
  |.own _=>X
  |.any=>match linkOf lk i with
   |some l=>grd (t.hits l) X
   |none=>(match v with | .nilSlice=>X | _=>none)
 |none=>none
def okC (k:IK) (t:OTag) (st:St) (X:Option R):Option R:=match t with
 |.none=>X
 |t=>match k with
  |.load _ _ a _=>zB st.env a t X
  |.store _ a _ _=>zB st.env a t X
  |.nextStr a=>zB st.env a t X
  |.append _ _ (.t i) _=>EX st.env st.lk i t X
  |_=>none
def mA (d:Nat):List (Nat×Loc)→(List (Nat×Loc)→Option R)→Option R
 |[],K=>K []
 |(i,l)::r,K=>mA d r fun r'=>match Nat.beq i d with
  |true=>K r'
  |false=>match l with
   |.slot j=>(match Nat.beq j d with
    |true=>K r'
    |false=>K ((i,.slot j)::r'))
   |.L a b=>K ((i,.L a b)::r')
   |.B a b=>K ((i,.B a b)::r')
   |.marked=>K ((i,.marked)::r')
def Jg (ty:Tys) (env:Env) (k:IK) (K:Option Loc→Option R):Option R:=match k with
 |.mv (.t i) false true=>K (some (.slot i))
 |.strBytes _=>K (some .marked)
 |.buildSlice 1 _ _ _ _=>K (some .marked)
 |.load false _ (.t i) true=>match vu ty i with
  |.one .own=>(match look env i with | some (.pL k off,_)=>K (some (.L k off)) | _=>none)
  |.one .ptr=>(match look env i with | some (.pB k off,_)=>K (some (.B k off)) | _=>none)
  |.one .ptr0=>(match look env i with | some (.pB k off,_)=>K (some (.B k off)) | _=>none)
  |_=>K none
 |_=>K none
def Kp (ty:Tys) (d:Option Nat) (v:IV) (c:Cap) (k:IK) (env:Env) (st:St) (K:St→Option R):Option R:=match d with
 |none=>K st
 |some d=>Ic (vu ty d) v fun v=>mA d st.lk fun lk=>Jg ty env k fun l=>match l with
  |some l=>(match l with
   |.slot j=>(match Nat.beq j d with | true=>K { st with env:=(d,v,c)::st.env,lk:=lk } | false=>K { st with env:=(d,v,c)::st.env,lk:=(d,.slot j)::lk })
   |l=>K { st with env:=(d,v,c)::st.env,lk:=(d,l)::lk })
  |none=>K { st with env:=(d,v,c)::st.env,lk:=lk }
def H4 (d:Option Nat) (st:St) (K:St→Option R):Option R:=match d with
 |none=>K st
 |some d=>mA d st.lk fun lk=>K { st with env:=(d,.tup [],.any)::st.env,lk:=lk }
def Cm (st:St) (g:Option (Nat×Bool)) (A B:St→Option R):Option R:=match g with
 |none=>A st
 |some (j,want)=>match look st.env j with
  |some (.bool b,c)=>match want with
   |true=>aR b (A { st with env:=(j,.bool true,c)::st.env }) (B { st with env:=(j,.bool false,c)::st.env })
   |false=>aR b (B { st with env:=(j,.bool true,c)::st.env }) (A { st with env:=(j,.bool false,c)::st.env })
  |some (.tup _,_)=>B st
  |_=>none
def IOp.den (ty:Tys) (call:aQ) (o:IOp) (st:St) (K:St→Option R):Option R :=
 Cm st o.guard (fun st=>okC o.k o.tag st (o.k.den ty call st fun v c st'=>Kp ty o.dst v c o.k st.env st' K)) (fun st=>H4 o.dst st K)
def uB (ty:Tys) (call:aQ):List IOp→St→(St→Option R)→Option R
 |[],st,K=>K st
 |o::r,st,K=>o.den ty call st fun st=>uB ty call r st K
def iter {α β:Type}(f:α→Option (α⊕β)) (a:α):Option β:=match f a with
 |some (.inl a')=>iter f a'
 |some (.inr b)=>some b
 |none=>none
partial_fixpoint
def Fo (v:IV) (keepL:List Nat) (X:Option R):Option R:=match v with
 |.pL k _=>grd (keepL.contains k) X
 |_=>X
def BK (s:Sh) (v:IV) (keepL:List Nat) (X:Option R):Option R:=match s with
 |.one .sl=>gq v X
 |_=>Fo v keepL X
def nz (ty:Tys) (e:Env) (keepL:List Nat):List (Nat×Nat)→(Env→Option R)→Option R
 |[],K=>K []
 |(i,o)::r,K=>match look e i with
  |some (v,c)=>BK (vu ty i) v keepL (match o with
   |0=>nz ty e keepL r fun e=>K ((i,v,.any)::e)
   |sz+1=>match c with
    |.own s=>grd (!(Nat.beq s 0)) (nz ty e keepL r fun e=>K ((i,v,.own s)::e))
    |.any=>xn v (nz ty e keepL r fun e=>K ((i,v,.own sz)::e)))
  |none=>none
def su (k:Nat) (cs:List IV):List (Nat×Nat×Nat)→List Cap→(List Cap→Option R)→Option R
 |[],cp,K=>K cp
 |(k',o,sz)::r,cp,K=>match Nat.beq k' k with
  |true=>match cp.getD o .any with
   |.own s=>grd (!(Nat.beq s 0)) (su k cs r (cp.set o (.own s)) K)
   |.any=>xn (cs.getD o .undef) (su k cs r (cp.set o (.own sz)) K)
  |false=>su k cs r cp K
def nh (lb:List (Nat×BObj)) (own:List (Nat×Nat×Nat)):List Nat→(List (Nat×BObj)→Option R)→Option R
 |[],K=>K []
 |k::r,K=>match au lb k with
  |.cells cs cp=>su k cs own cp fun cp=>nh lb own r fun b=>K ((k,.cells cs cp)::b)
  |.iter s p=>nh lb own r fun b=>K ((k,.iter s p)::b)
  |.none=>nh lb own r K
  |_=>none
def yw (ty:Tys) (st:St) (h:Head) (K:St→Option R):Option R :=
 nz ty st.env h.keepL h.keep fun env=>nh st.lb h.ownL h.keepL fun lb=>K { env,lk:=[],lb,m:=st.m }
def iU (ty:Tys) (h:Head) (xp:XP) (e:Ex) (s:St):Option (St⊕LR):=match e with
 |.normal=>yw ty s h fun s=>some (.inl s)
 |e=>jA xp e s fun r=>some (.inr r)
def ICode.den (ty:Tys) (call:aQ):ICode→(R:Type)→Pl→St→(Ex→St→Option R)→Option R
 |.skip,_,_,st,K=>K .normal st
 |.ops l,_,_,st,K=>uB ty call l st fun st=>K .normal st
 |.draw l _,_,_,st,K=>uB ty call l st fun st=>K .normal st
 |.seq a b,R,pl,st,K=>match pl.x with
  |some xp=>cI (a.den ty call LR pl.a st (jF xp)) fun ex vs bs m=>vm ty xp ex vs bs m fun e s=>match e with
   |.normal=>b.den ty call R pl.b s K
   |e=>K e s
  |none=>a.den ty call R pl.a st fun e s=>match e with
   |.normal=>b.den ty call R pl.b s K
   |e=>K e s
 |.cond c a b,R,pl,st,K=>match c with
  |.t j=>match look st.env j with
   |some (.bool x,cc)=>aR x (a.den ty call R pl.a { st with env:=(j,.bool true,cc)::st.env } K) (b.den ty call R pl.b { st with env:=(j,.bool false,cc)::st.env } K)
   |_=>none
  |.c v=>match v with
   |.bool true=>a.den ty call R pl.a st K
   |.bool false=>b.den ty call R pl.b st K
   |_=>none
 |.block id b,R,pl,st,K=>b.den ty call R pl.a st fun e s=>match e with
   |.exit i=>(match Nat.beq i id with | true=>K .normal s | false=>K (.exit i) s)
   |e=>K e s
 |.loop h b,_,pl,st,K=>match pl.x with
  |some xp=>yw ty st h fun s=>cI (iter (fun s=>b.den ty call (St⊕LR) pl.a s (iU ty h xp)) s) fun ex vs bs m=>vm ty xp ex vs bs m K
  |none=>none
 |.rangeF _ _ _,_,_,_,_=>none
 |.exit id,_,_,st,K=>K (.exit id) st
 |.ret,_,_,st,K=>K .ret st
def nT (st:St):List RV→(List IV→Option R)→Option R
 |[],K=>K []
 |.t i::r,K=>match look st.env i with
  |some (v,_)=>nT st r fun vs=>K (v::vs)
  |none=>none
 |.cell i agg n::r,K=>match look st.env i with
  |some (.pL k off,_)=>(match au st.lb k with
   |.cells cs _=>dD agg cs off n fun v=>nT st r fun vs=>K (v::vs)
   |_=>none)
  |some (p,_)=>ldP st.m agg n p fun v=>nT st r fun vs=>K (v::vs)
  |none=>none
def IA (m m':IM) (vs:List IV):Option (IV×IM):=match vs with
 |[v]=>settle m m' v
 |vs=>settle m m' (.tup vs)
def fK (ty:Tys) (pl:Pl) (fn:IFn) (call:aQ) (args:List IV) (m:IM):Option (IV×IM) :=
 match Nat.beq args.length fn.nargs with
 |true=>fn.body.den ty call (IV×IM) pl { env:=bV 0 args,lk:=[],lb:=[],m:=m } fun e s=>match e with
  |.exit _=>none
  |_=>nT s fn.rets fun vs=>IA m s.m vs
 |false=>none
end Go.Idl
namespace Go.Idl
variable {R:Type}
theorem js {b:Bool}{x y:Option R}{r:R}(h:aR b x y=some r):(b=true∧x=some r)∨(b=false∧y=some r):=by
 cases b
 ·exact .inr ⟨rfl,h⟩
 ·exact .inl ⟨rfl,h⟩
theorem bc {b:Bool}{x:Option R}{r:R}(h:grd b x=some r):b=true∧x=some r:=by
 cases b
 ·cases h
 ·exact⟨rfl,h⟩
theorem mM {k:IntKind}{v:IV}{K:Int→Option R}{r:R}(h:asI k v K=some r):∃n,v=.int k n∧K n=some r:=by
 unfold asI at h
 split at h
 ·obtain⟨e,h2⟩:=bc h
  have e':=of_decide_eq_true e
  exact⟨_,by rw[e'],h2⟩
 ·cases h
theorem EW {v:IV}{K:Bool→Option R}{r:R}(h:asB v K=some r):∃n,v=.bool n∧K n=some r:=by
 unfold asB at h
 split at h
 ·exact⟨_,rfl,h⟩
 ·cases h
theorem tz {v:IV}{K:List UInt8→Option R}{r:R}(h:asS v K=some r):∃n,v=.str n∧K n=some r:=by
 unfold asS at h
 split at h
 ·exact⟨_,rfl,h⟩
 ·cases h
theorem uu {v:IV}{K:List IV→Option R}{r:R}(h:asA v K=some r):∃n,v=.agg n∧K n=some r:=by
 unfold asA at h
 split at h
 ·exact⟨_,rfl,h⟩
 ·cases h
theorem EC {v:IV}{K:List IV→Option R}{r:R}(h:asT v K=some r):∃n,v=.tup n∧K n=some r:=by
 unfold asT at h
 split at h
 ·exact⟨_,rfl,h⟩
 ·cases h
theorem t6 {v:IV}{K:Nat→Nat→Option R}{r:R}(h:asP v K=some r):∃i o,v=.pB i o∧K i o=some r:=by
 unfold asP at h
 split at h
 ·exact⟨_,_,rfl,h⟩
 ·cases h
theorem C0 {v:IV}{K:Nat→Option R}{r:R}(h:gE v K=some r):∃i,v=.pB i 0∧K i=some r:=by
 unfold gE at h
 split at h
 ·exact⟨_,rfl,h⟩
 ·cases h
theorem vQ {v:IV}{X:Option R}{r:R}(h:xn v X=some r):v=.nilSlice∧X=some r:=by
 unfold xn at h
 split at h
 ·exact⟨rfl,h⟩
 ·cases h
theorem tu {cs:List IV}{K:IV→List IV→Option R}{r:R}(h:unc cs K=some r):∃v t,cs=v::t∧K v t=some r:=by
 unfold unc at h
 split at h
 ·exact⟨_,_,rfl,h⟩
 ·cases h
theorem tr {cs:List IV}{K:Option R}{r:R}(h:unn cs K=some r):cs=[]∧K=some r:=by
 unfold unn at h
 split at h
 ·exact⟨rfl,h⟩
 ·cases h
theorem CC {v:IV}{X:Option R}{r:R}(h:Bm v X=some r):v.cells=[v]∧v.isU=false∧v.isL=false∧X=some r:=by
 unfold Bm at h
 split at h
 ·cases h
 ·cases h
 ·cases h
 ·cases h
 ·rename_i h1 h2 h3 h4
  cases v<;>first | exact⟨rfl,rfl,rfl,h⟩ | (exact (h1 _ rfl).elim) | (exact (h2 _ rfl).elim) | (exact (h3 rfl).elim) | (exact (h4 _ _ rfl).elim)
theorem vN {v:IV}{X:Option R}{r:R}(h:gq v X=some r):v.isL=false∧X=some r:=by
 unfold gq at h
 split at h
 ·cases h
 ·rename_i h1
  cases v<;>first | exact⟨rfl,h⟩ | (exact (h1 _ _ rfl).elim)
theorem CN {v:IV}{X:Option R}{r:R}(h:bm v X=some r):(∃n,v.refs=some n)∧X=some r:=by
 unfold bm at h
 split at h
 ·rename_i e;exact⟨⟨_,e⟩,h⟩
 ·cases h
theorem kH:∀{cs:List IV}{X:Option R}{r:R},ou cs X=some r→(∃n,al cs=some n)∧X=some r
 |[],X,r,h=>⟨⟨_,rfl⟩,h⟩
 |v::t,X,r,h=>by
  obtain⟨⟨n,e⟩,h⟩:=CN h
  obtain⟨⟨n',e'⟩,h⟩:=kH h
  exact⟨⟨_,by rw[al,e,e']⟩,h⟩
theorem jx:∀{cs:List IV}{X:Option R}{r:R},fU cs X=some r→cs.all IV.plain=true∧X=some r
 |[],X,r,h=>⟨rfl,h⟩
 |v::t,X,r,h=>by
  unfold fU nM at h
  split at h
  ·rename_i e
   obtain⟨e',h⟩:=jx h
   exact⟨by rw[List.all_cons,e,e'];rfl,h⟩
  ·cases h
theorem EZ {o:POp}{vs:List IV}{K:IV→Option R}{r:R}(h:evC o vs K=some r):∃v,o.ev vs=some v∧K v=some r:=by
 unfold evC at h
 split at h
 ·exact⟨_,by assumption,h⟩
 ·cases h
theorem Es {cs:List IV}{off:Nat}{v:IV}(h:cs[off]?=some v):cut cs off 1=some [v]:=by
 obtain⟨hl,he⟩:=List.getElem?_eq_some_iff.1 h
 unfold cut
 rw[if_pos (by omega),List.drop_eq_getElem_cons hl,he]
 rfl
def ldV (agg:Bool) (cs:List IV) (off n:Nat):Option IV:=match agg with
 |true=>(cut cs off n).map .agg
 |false=>cs[off]?
theorem md {agg:Bool}{cs:List IV}{off n:Nat}{K:IV→Option R}{r:R}(h:dD agg cs off n K=some r):∃v,K v=some r∧ldV agg cs off n=some v:=by
 cases agg with
 |true =>
  simp only[dD] at h
  split at h
  ·rename_i e;exact⟨_,h,by simp[ldV,e]⟩
  ·cases h
 |false =>
  simp only[dD] at h
  split at h
  ·rename_i e;exact⟨_,h,by simp[ldV,e]⟩
  ·cases h
theorem pd {lb:List (Nat×BObj)}{m:IM}{agg:Bool}{n:Nat}{p:IV}{cs:List IV}{off:Nat}{v:IV}(hc:∀n,aK lb m p n=cut cs off n) (h:ldV agg cs off n=some v):cy lb m agg n p=some v:=by
 unfold cy
 simp only[hc]
 cases agg with
 |true =>
  simp only[ldV,Option.map_eq_some_iff] at h
  obtain⟨x,e,rfl⟩:=h
  simp[e,an]
 |false =>
  simp only[ldV] at h
  simp[Es h]
theorem Dt {m:IM}{id:Nat}{K:List IV→List Cap→Option R}{r:R}(h:eS m id K=some r):∃cs cp,m.get id=.cells cs cp∧K cs cp=some r:=by
 unfold eS at h
 split at h
 ·rename_i e;exact⟨_,_,e,h⟩
 ·cases h
theorem zn {m:IM}{agg:Bool}{n:Nat}{p:IV}{K:IV→Option R}{r:R}(h:ldP m agg n p K=some r):∃v,K v=some r∧∀lb,cy lb m agg n p=some v:=by
 unfold ldP at h
 split at h
 ·obtain⟨v,h1,h2⟩:=md h
  exact⟨v,h1,fun lb=>pd (fun _=>rfl) h2⟩
 ·obtain⟨cs,cp,e,h⟩:=Dt h
  obtain⟨v,h1,h2⟩:=md h
  exact⟨v,h1,fun lb=>pd (fun n=>by simp[aK,e]) h2⟩
 ·cases h
theorem sk (st:St) (n id off:Nat) (vs:List IV) (c:Cap):aJ st n (.pB id off) vs c =
  if vs.length≠n then none else match st.m.get id,al vs with
   |.cells cs cp,some r=>if off+n≤cs.length then some { st with m:=⟨st.m.bs.set id (.cells (over cs off vs) (aC cp off n c)),if r≤id then st.m.esc else st.m.esc+1⟩,lk:=lkB (· == id) st.lk } else none
   |_,_=>none:=by
 unfold aJ
 split
 ·rfl
 ·simp only[an,IM.put]
  cases st.m.get id<;>cases al vs<;>rfl
theorem vI {st st':St}{n id off:Nat}{vs:List IV}{c:Cap}(h:aJ st n (.pB id off) vs c=some st') (b:St) (hb:b.m=st.m) :
  aJ b n (.pB id off) vs c=some { b with m:=st'.m,lk:=lkB (· == id) b.lk }:=by
 rw[sk] at h ⊢
 rw[hb]
 split at h
 ·cases h
 ·rename_i hn
  rw[if_neg hn]
  split at h
  ·rename_i e1 e2
   split at h
   ·rename_i e3
    rw[if_pos e3]
    cases h
    rfl
   ·cases h
  ·cases h
theorem ED {m:IM}{p:IV}{vs:List IV}{c:Cap}{K:IM→Option R}{r:R}(h:stP m p vs c K=some r) :
  ∃id m',K m'=some r∧∀b:St,b.m=m→aJ b vs.length p vs c=some { b with m:=m',lk:=lkB (· == id) b.lk }:=by
 unfold stP at h
 split at h
 ·rename_i id off
  split at h
  ·rename_i st e
   exact⟨id,st.m,h,fun b hb=>vI e b hb⟩
  ·cases h
 ·cases h
theorem pq {m:IM}{sz:Nat}{v:IV}{K:List IV→Nat→Option R}{r:R}(h:tj m sz v K=some r):∃xs n,K xs n=some r∧∀lb,bS lb m sz v=some (xs,n):=by
 unfold tj at h
 split at h
 ·rename_i e
  refine⟨_,_,h,fun lb=>?_⟩
  cases v<;>first | exact e | (simp only[bS] at e ⊢;exact e)
 ·cases h
theorem zz {e ex:Ex}{A B:Option R}{r:R}(h:exC e ex A B=some r):(ex=e∧A=some r)∨(ex≠e∧B=some r):=by
 unfold exC at h
 by_cases q:ex=e
 ·rw[decide_eq_true q] at h;exact .inl ⟨q,h⟩
 ·rw[decide_eq_false q] at h;exact .inr ⟨q,h⟩
theorem tx {s:Sh1}{v:IV}{K:IV→Option R}{r:R}(h:as1 s v K=some r):K v=some r:=by
 unfold as1 at h
 split at h
 ·obtain⟨n,rfl,h'⟩:=mM h;exact h'
 ·obtain⟨n,rfl,h'⟩:=EW h;exact h'
 ·obtain⟨n,rfl,h'⟩:=tz h;exact h'
 ·obtain⟨n,o,rfl,h'⟩:=t6 h;exact h'
 ·obtain⟨n,rfl,h'⟩:=C0 h;exact h'
 ·exact h
theorem pj:∀{l:List Sh1}{cs:List IV}{K:List IV→Option R}{r:R},asL l cs K=some r→K cs=some r
 |[],cs,K,r,h=>by obtain⟨rfl,h'⟩:=tr h;exact h'
 |s::l,cs,K,r,h=>by
  obtain⟨v,t,rfl,h'⟩:=tu h
  exact pj (l:=l) (K:=fun t=>K (v::t)) (tx h')
theorem CZ {s:ShA}{v:IV}{K:IV→Option R}{r:R}(h:Ju s v K=some r):K v=some r:=by
 cases s with
 |one s=>exact tx h
 |agg l=>obtain⟨n,rfl,h'⟩:=uu h;exact pj h'
theorem wg:∀{l:List ShA}{cs:List IV}{K:List IV→Option R}{r:R},Iv l cs K=some r→K cs=some r
 |[],cs,K,r,h=>by obtain⟨rfl,h'⟩:=tr h;exact h'
 |s::l,cs,K,r,h=>by
  obtain⟨v,t,rfl,h'⟩:=tu h
  exact wg (l:=l) (K:=fun t=>K (v::t)) (CZ h')
theorem vh {s:Sh}{v:IV}{K:IV→Option R}{r:R}(h:Ic s v K=some r):K v=some r:=by
 cases s with
 |one s=>exact tx h
 |agg l=>obtain⟨n,rfl,h'⟩:=uu h;exact pj h'
 |tup l=>obtain⟨n,rfl,h'⟩:=EC h;exact wg h'
def bk (c c':Cap):Prop:=c=unk∨c'=c
inductive CapsR:List Cap→List Cap→Prop where
 |nil:CapsR [] []
 |cons {a b:Cap}{s t:List Cap}:bk a b→CapsR s t→CapsR (a::s) (b::t)
def BR (o o':BObj):Prop:=o=Kf∨o=o'∨∃cs cp cp',o=.cells cs cp∧o'=.cells cs cp'∧CapsR cp cp'
structure Sub (s b:St):Prop where
 env:∀i v c,look s.env i=some (v,c)→∃c',look b.env i=some (v,c')∧bk c c'
 lk:∀p,p∈s.lk→p∈b.lk
 uq:uqB b.lk=true
 lb:∀k,BR (au s.lb k) (au b.lb k)
 m:s.m=b.m
theorem bk.refl (c:Cap):bk c c:=.inr rfl
theorem bk.unk (c:Cap):bk unk c:=.inl rfl
theorem bk.trans {a b c:Cap}(h1:bk a b) (h2:bk b c):bk a c:=by
 rcases h1 with rfl | rfl
 ·exact .inl rfl
 ·exact h2
theorem CapsR.refl:∀l,CapsR l l
 |[]=>.nil
 |a::r=>.cons (bk.refl a) (CapsR.refl r)
theorem CapsR.trans {a b c:List Cap}(h1:CapsR a b) (h2:CapsR b c):CapsR a c:=by
 induction h1 generalizing c with
 |nil=>exact h2
 |cons hab _ ih=>cases h2 with | cons hbc h=>exact .cons (hab.trans hbc) (ih h)
theorem CapsR.len {a b:List Cap}(h:CapsR a b):a.length=b.length:=by
 induction h with
 |nil=>rfl
 |cons _ _ ih=>simp[ih]
theorem CapsR.getD {a b:List Cap}(h:CapsR a b) (i:Nat):bk (a.getD i .any) (b.getD i .any):=by
 induction h generalizing i with
 |nil=>exact bk.refl _
 |cons hab _ ih=>cases i with
  |zero=>exact hab
  |succ i=>exact ih i
theorem CapsR.append {a b c d:List Cap}(h:CapsR a b) (h2:CapsR c d):CapsR (a++c) (b++d):=by
 induction h with
 |nil=>exact h2
 |cons hab _ ih=>exact .cons hab ih
theorem CapsR.take {a b:List Cap}(h:CapsR a b) (n:Nat):CapsR (a.take n) (b.take n):=by
 induction h generalizing n with
 |nil=>simp;exact .nil
 |cons hab _ ih=>cases n with
  |zero=>exact .nil
  |succ n=>exact .cons hab (ih n)
theorem CapsR.drop {a b:List Cap}(h:CapsR a b) (n:Nat):CapsR (a.drop n) (b.drop n):=by
 induction h generalizing n with
 |nil=>simp;exact .nil
 |cons hab h' ih=>cases n with
  |zero=>exact .cons hab h'
  |succ n=>exact ih n
theorem CapsR.set {a b:List Cap}(h:CapsR a b) (n:Nat) {c c':Cap}(hc:bk c c'):CapsR (a.set n c) (b.set n c'):=by
 induction h generalizing n with
 |nil=>exact .nil
 |cons hab h' ih=>cases n with
  |zero=>exact .cons hc h'
  |succ n=>exact .cons hab (ih n)
theorem CapsR.rep {c c':Cap}(h:bk c c'):∀n,CapsR (List.replicate n c) (List.replicate n c')
 |0=>.nil
 |n+1=>.cons h (CapsR.rep h n)
theorem CapsR.over {a b:List Cap}(h:CapsR a b) (off n:Nat) {c c':Cap}(hc:bk c c'):CapsR (aC a off n c) (aC b off n c') :=
 ((h.take off).append (CapsR.rep hc n)).append (h.drop (off+n))
theorem BR.refl (o:BObj):BR o o:=.inr (.inl rfl)
theorem BR.trans {a b c:BObj}(h1:BR a b) (h2:BR b c):BR a c:=by
 rcases h1 with rfl | rfl | ⟨cs,cp,cp',rfl,rfl,hc⟩
 ·exact .inl rfl
 ·exact h2
 ·rcases h2 with e | rfl | ⟨cs2,cp2,cp2',e1,rfl,hc2⟩
  ·cases e
  ·exact .inr (.inr ⟨cs,cp,cp',rfl,rfl,hc⟩)
  ·cases e1
   exact .inr (.inr ⟨cs,cp,cp2',rfl,rfl,hc.trans hc2⟩)
theorem BR.none {o:BObj}(h:BR .none o):o=.none:=by
 rcases h with e | rfl | ⟨_,_,_,e,_⟩
 ·cases e
 ·rfl
 ·cases e
theorem BR.iter {s:List UInt8}{p:Nat}{o:BObj}(h:BR (.iter s p) o):o=.iter s p:=by
 rcases h with e | rfl | ⟨_,_,_,e,_⟩
 ·cases e
 ·rfl
 ·cases e
theorem BR.cells {cs:List IV}{cp:List Cap}{o:BObj}(h:BR (.cells cs cp) o):∃cp',o=.cells cs cp'∧CapsR cp cp':=by
 rcases h with e | rfl | ⟨_,_,cp',e,rfl,hc⟩
 ·cases e
 ·exact⟨cp,rfl,CapsR.refl _⟩
 ·cases e;exact⟨cp',rfl,hc⟩
theorem BR.mk {cs:List IV}{cp cp':List Cap}(hc:CapsR cp cp'):BR (.cells cs cp) (.cells cs cp') :=
 .inr (.inr ⟨cs,cp,cp',rfl,rfl,hc⟩)
theorem mR {i:Nat}{l:Loc}{r:List (Nat×Loc)}:uqB ((i,l)::r)=true↔uqB r=true∧∀p∈r,p.1≠i:=by
 simp only[uqB]
 constructor
 ·intro h
  split at h
  ·rename_i e
   simp only[Bool.not_eq_true',List.any_eq_false] at h
   exact⟨e,fun p hp q=>h p hp (by rw[q];exact Nat.beq_refl i)⟩
  ·cases h
 ·rintro ⟨h1,h2⟩
  rw[h1]
  simp only[Bool.not_eq_true',List.any_eq_false]
  intro p hp q
  exact h2 p hp (Nat.eq_of_beq_eq_true q)
theorem gG {p:Nat×Loc→Bool}:∀{lk:List (Nat×Loc)},uqB lk=true→uqB (lk.filter p)=true
 |[],_=>rfl
 |(i,l)::r,h=>by
  obtain⟨h1,h2⟩:=mR.1 h
  rw[List.filter_cons]
  split
  ·exact mR.2 ⟨gG h1,fun q hq=>h2 q (List.mem_filter.1 hq).1⟩
  ·exact gG h1
theorem lV {d:Nat}{lk:List (Nat×Loc)}(h:uqB lk=true):uqB (lkSlot d lk)=true:=by rw[gg];exact gG h
theorem DX {d:Nat}{lk:List (Nat×Loc)}(h:uqB lk=true):uqB (lkL d lk)=true:=by rw[nG];exact gG h
theorem zf {d:Nat→Bool}{lk:List (Nat×Loc)}(h:uqB lk=true):uqB (lkB d lk)=true:=by rw[ni];exact gG h
theorem mH:∀{lk:List (Nat×Loc)}{p:Nat×Loc},p∈tQ lk→p∈lk∧∀i o,p.2 ≠ .B i o
 |(i,l)::r,p,h=>by
  unfold tQ at h
  split at h
  ·obtain⟨a,b⟩:=mH h;exact⟨List.mem_cons_of_mem _ a,b⟩
  ·rename_i hl
   rcases List.mem_cons.1 h with rfl | h
   ·exact⟨List.mem_cons_self,hl⟩
   ·obtain⟨a,b⟩:=mH h;exact⟨List.mem_cons_of_mem _ a,b⟩
theorem mg:∀{lk:List (Nat×Loc)}{p:Nat×Loc},p∈xj lk→p∈lk∧(∀i o,p.2 ≠ .B i o)∧p.2 ≠ .marked
 |(i,l)::r,p,h=>by
  unfold xj at h
  split at h
  ·obtain⟨a,b⟩:=mg h;exact⟨List.mem_cons_of_mem _ a,b⟩
  ·obtain⟨a,b⟩:=mg h;exact⟨List.mem_cons_of_mem _ a,b⟩
  ·rename_i hl hm
   rcases List.mem_cons.1 h with rfl | h
   ·exact⟨List.mem_cons_self,hl,hm⟩
   ·obtain⟨a,b⟩:=mg h;exact⟨List.mem_cons_of_mem _ a,b⟩
theorem pQ (f:Nat→Bool):∀lk:List (Nat×Loc),∃p:Nat×Loc→Bool,(lkC f lk=lk.filter p)∧∀q,(∀i o,q.2 ≠ .B i o)→q.2 ≠ .marked→p q=true:=by
 intro lk
 refine⟨fun q=>match q.2 with | .B id _=>!f id | .marked=>false | _=>true,?_,?_⟩
 ·induction lk with
  |nil=>rfl
  |cons q r ih =>
   obtain⟨i,l⟩:=q
   cases l with
   |B id o =>
    unfold lkC
    by_cases hf:f id=true
    ·simp[hf,ih]
    ·simp[hf,ih]
   |_=>simp[lkC,ih]
 ·rintro ⟨i,l⟩ h1 h2
  cases l with
  |B id o=>exact (h1 _ _ rfl).elim
  |marked=>exact (h2 rfl).elim
  |_=>rfl
theorem xG {d i:Nat}{l:Loc}:fy d i l=true↔i≠d∧l ≠ .slot d:=by
 unfold fy
 have hb:∀a b:Nat,(!(Nat.beq a b))=true↔a≠b:=fun a b=>by
  constructor
  ·intro h e;subst e;rw[Nat.beq_refl] at h;cases h
  ·intro h;rw[lJ h];rfl
 rw[Bool.and_eq_true,hb]
 constructor
 ·rintro ⟨h1,h2⟩
  refine⟨h1,fun e=>?_⟩
  subst e
  simp only at h2
  exact (hb _ _).1 h2 rfl
 ·rintro ⟨h1,h2⟩
  refine⟨h1,?_⟩
  cases l with
  |slot j=>exact (hb _ _).2 fun e=>h2 (by rw[e])
  |_=>rfl
theorem lq {d:Nat}{s b:List (Nat×Loc)}(h:∀p,p∈s→p∈b):∀p,p∈lkSlot d s→p∈lkSlot d b:=by
 intro p hp
 rw[gg] at hp ⊢
 rw[List.mem_filter] at hp ⊢
 exact⟨h p hp.1,hp.2⟩
theorem kF {d:Nat}{s:List (Nat×Loc)}:∀p,p∈lkSlot d s→p∈s:=by
 intro p hp
 rw[gg] at hp
 exact (List.mem_filter.1 hp).1
theorem D7 {d:Nat}{s b:List (Nat×Loc)}(h:∀p,p∈s→p∈b):∀p,p∈lkL d s→p∈lkL d b:=by
 intro p hp
 rw[nG] at hp ⊢
 rw[List.mem_filter] at hp ⊢
 exact⟨h p hp.1,hp.2⟩
theorem vY {f:Nat→Bool}{s b:List (Nat×Loc)}(h:∀p,p∈s→p∈b):∀p,p∈tQ s→p∈lkB f b:=by
 intro p hp
 obtain⟨h1,h2⟩:=mH hp
 rw[ni,List.mem_filter]
 refine⟨h p h1,?_⟩
 unfold bKp
 split
 ·rename_i e;exact (h2 _ _ e).elim
 ·rfl
theorem wJ {f:Nat→Bool}{s b:List (Nat×Loc)}(h:∀p,p∈s→p∈b):∀p,p∈xj s→p∈lkC f b:=by
 intro p hp
 obtain⟨h1,h2,h3⟩:=mg hp
 obtain⟨q,e,hq⟩:=pQ f b
 rw[e,List.mem_filter]
 exact⟨h p h1,hq _ h2 h3⟩
theorem ji {R:Type}{ids:List Nat}:∀{s:List (Nat×Loc)}{K:List (Nat×Loc)→Option R}{r:R},rM ids s K=some r→∃t,K t=some r∧∀p,p∈t→p∈lkC (fun i=>!ids.contains i) s
 |[],K,r,h=>⟨[],h,fun _ hp=>by cases hp⟩
 |(i,l)::q,K,r,h=>by
  cases l with
  |B id off =>
   simp only[rM] at h
   split at h
   ·obtain⟨t,e,ht⟩:=ji h
    refine⟨_,e,fun p hp=>?_⟩
    simp only[lkC,List.contains_nil,Bool.not_false,if_true]
    exact ht p hp
   ·obtain⟨h1,h⟩:=bc h
    obtain⟨t,e,ht⟩:=ji h
    refine⟨_,e,fun p hp=>?_⟩
    simp only[lkC,h1,Bool.not_true,Bool.false_eq_true,if_false]
    rcases List.mem_cons.1 hp with rfl | hp
    ·exact List.mem_cons_self
    ·exact List.mem_cons_of_mem _ (ht p hp)
  |marked =>
   simp only[rM] at h
   obtain⟨t,e,ht⟩:=ji h
   exact⟨_,e,fun p hp=>by simp only[lkC];exact ht p hp⟩
  |slot j =>
   simp only[rM] at h
   obtain⟨t,e,ht⟩:=ji h
   refine⟨_,e,fun p hp=>?_⟩
   simp only[lkC]
   rcases List.mem_cons.1 hp with rfl | hp
   ·exact List.mem_cons_self
   ·exact List.mem_cons_of_mem _ (ht p hp)
  |L k off =>
   simp only[rM] at h
   obtain⟨t,e,ht⟩:=ji h
   refine⟨_,e,fun p hp=>?_⟩
   simp only[lkC]
   rcases List.mem_cons.1 hp with rfl | hp
   ·exact List.mem_cons_self
   ·exact List.mem_cons_of_mem _ (ht p hp)
def Ca (f:Nat→Bool) (p:Nat×Loc):Bool:=match p.2 with
 |.B id _=>!f id
 |.marked=>false
 |_=>true
theorem DF (f:Nat→Bool) (l:List (Nat×Loc)):lkC f l=l.filter (Ca f):=by
 induction l with
 |nil=>rfl
 |cons x r ih =>
  obtain⟨i,l⟩:=x
  cases l with
  |B id off=>cases h:f id<;>simp[lkC,Ca,h,ih]
  |slot j=>simp[lkC,List.filter_cons,Ca,ih]
  |L k o=>simp[lkC,List.filter_cons,Ca,ih]
  |marked=>simp[lkC,Ca,ih]
theorem A7 {f:Nat→Bool}{s b:List (Nat×Loc)}(h:∀p,p∈s→p∈b):∀p,p∈lkC f s→p∈lkC f b:=by
 intro p hp
 rw[DF,List.mem_filter] at hp ⊢
 exact⟨h p hp.1,hp.2⟩
theorem tq {f:Nat→Bool}{lk:List (Nat×Loc)}(h:uqB lk=true):uqB (lkC f lk)=true:=by
 obtain⟨q,e,_⟩:=pQ f lk
 rw[e];exact gG h
theorem yh {lk:List (Nat×Loc)}(h:uqB lk=true) {i:Nat}{l:Loc}(hm:(i,l)∈lk):linkOf lk i=some l:=(w9 h).linkOf hm
variable {s b:St}
theorem Sub.link (h:Sub s b) {i:Nat}{l:Loc}(e:linkOf s.lk i=some l):linkOf b.lk i=some l:=yh h.uq (h.lk _ (fB e))
theorem Sub.set (h:Sub s b) (i:Nat) (v:IV) {c c':Cap}(hc:bk c c'):Sub { s with env:=(i,v,c)::s.env } { b with env:=(i,v,c')::b.env } where
 env:=by
  intro j v' c1 hl
  simp only[cB] at hl ⊢
  split at hl
  ·rename_i e;subst e;cases hl;exact⟨c',by simp,hc⟩
  ·rename_i e;rw[if_neg e];exact h.env _ _ _ hl
 lk:=h.lk
 uq:=h.uq
 lb:=h.lb
 m:=h.m
theorem Sub.say (h:Sub s b) (i:Nat) (v:IV) {c c':Cap}(hb:look b.env i=some (v,c')) (hc:bk c c'):Sub { s with env:=(i,v,c)::s.env } b where
 env:=by
  intro j v' c1 hl
  simp only[cB] at hl
  split at hl
  ·rename_i e;subst e;cases hl;exact⟨c',hb,hc⟩
  ·exact h.env _ _ _ hl
 lk:=h.lk
 uq:=h.uq
 lb:=h.lb
 m:=h.m
theorem Sub.refine (h:Sub s b) {i:Nat}{v:IV}{c:Cap}(e:look s.env i=some (v,c)):Sub { s with env:=(i,v,c)::s.env } b:=by
 obtain⟨c',h1,h2⟩:=h.env _ _ _ e
 exact h.say i v h1 h2
theorem Sub.lkSlot (h:Sub s b) (d:Nat):Sub { s with lk:=lkSlot d s.lk } { b with lk:=Idl.lkSlot d b.lk } where
 env:=h.env
 lk:=lq h.lk
 uq:=lV h.uq
 lb:=h.lb
 m:=h.m
theorem Sub.lkDrop (h:Sub s b) {l:List (Nat×Loc)}(hl:∀p,p∈l→p∈s.lk):Sub { s with lk:=l } b where
 env:=h.env
 lk:=fun p hp=>h.lk p (hl p hp)
 uq:=h.uq
 lb:=h.lb
 m:=h.m
theorem Sub.lks (h:Sub s b) {l l':List (Nat×Loc)}(hl:∀p,p∈l→p∈l') (hu:uqB l'=true):Sub { s with lk:=l } { b with lk:=l' } where
 env:=h.env
 lk:=hl
 uq:=hu
 lb:=h.lb
 m:=h.m
theorem Sub.mem (h:Sub s b) (m:IM):Sub { s with m:=m } { b with m:=m } where
 env:=h.env
 lk:=h.lk
 uq:=h.uq
 lb:=h.lb
 m:=rfl
theorem Sub.box (h:Sub s b) (k:Nat) {o o':BObj}(ho:BR o o'):Sub { s with lb:=(k,o)::s.lb } { b with lb:=(k,o')::b.lb } where
 env:=h.env
 lk:=h.lk
 uq:=h.uq
 lb:=by
  intro j
  simp only[aU]
  split
  ·exact ho
  ·exact h.lb j
 m:=h.m
theorem cK {ty:Tys}{a:Arg}{K:Sh→IV→Option R}{r:R}(h:rdC ty s.env a K=some r) (hs:Sub s b):∃v,a.rd s.env=some v∧a.rd b.env=some v∧K (match a with | .t i=>vu ty i | .c v=>shV v) v=some r:=by
 cases a with
 |t i =>
  simp only[rdC] at h
  split at h
  ·rename_i v c e
   obtain⟨c',e',_⟩:=hs.env _ _ _ e
   exact⟨v,by simp[Arg.rd,e],by simp[Arg.rd,e'],h⟩
  ·cases h
 |c v=>exact⟨_,rfl,rfl,h⟩
theorem jo {ty:Tys}:∀{as:List Arg}{K:List (Sh×IV)→Option R}{r:R},xz ty s.env as K=some r→Sub s b→∃l,rdAll b.env as=some (single l)∧K l=some r
 |[],K,r,h,_=>⟨[],rfl,h⟩
 |a::as,K,r,h,hs=>by
  obtain⟨v,_,e,h⟩:=cK h hs
  obtain⟨l,e',h⟩:=jo h hs
  exact⟨_,by rw[rdAll,e,e'];rfl,h⟩
theorem iL {sh:Sh}{v:IV}{K:List IV→Option R}{r:R}(h:lL sh v K=some r):v.isU=false∧v.isL=false∧K v.cells=some r:=by
 unfold lL at h
 split at h
 ·obtain⟨cs,rfl,h'⟩:=uu h;exact⟨rfl,rfl,h'⟩
 ·obtain⟨h1,h2,h3,h⟩:=CC h;exact⟨h2,h3,by rw[h1];exact h⟩
theorem jr {a b:Nat}(h:Nat.beq a b=true):a=b:=Nat.eq_of_beq_eq_true h
theorem Kv {a b:Nat}(h:Nat.ble a b=true):a≤b:=Nat.le_of_ble_eq_true h
theorem nx:∀{zero:List IV}{parts:List (Nat×Nat)}{l:List (Sh×IV)}{K:List IV→Option R}{r:R},rh zero parts l K=some r→∃cs,cz zero parts (single l)=some cs∧K cs=some r
 |zero,(off,n)::ps,(sh,v)::vs,K,r,h=>by
  unfold rh at h
  obtain⟨h1,h2,h⟩:=iL h
  obtain⟨h3,h⟩:=bc h
  rw[Bool.and_eq_true] at h3
  obtain⟨cs,e,h⟩:=nx h
  refine⟨cs,?_,h⟩
  have e1:=jr h3.1
  have e2:=Kv h3.2
  simp only[single,cz]
  rw[if_pos (by simp[h1,h2,e1,e2])]
  exact e
 |cs,[],[],K,r,h=>⟨cs,rfl,h⟩
 |_,[],_::_,_,_,h=>by simp[rh] at h
 |_,_::_,[],_,_,h=>by simp[rh] at h
theorem zU {v:IV}{X:Option R}{r:R}(h:isSl v X=some r):(∀z,dy v z=.own z)∧v.cells=[v]∧v.isU=false∧v.isL=false∧X=some r:=by
 unfold isSl at h
 split at h
 ·exact⟨fun _=>rfl,rfl,rfl,rfl,h⟩
 ·exact⟨fun _=>rfl,rfl,rfl,rfl,h⟩
 ·cases h
end Go.Idl
namespace Go.Idl
variable {R:Type}{s b:St}{ty:Tys}{call:aQ}
theorem kI {b:St}{i:Nat}{v:IV}{c:Cap}(e:look b.env i=some (v,c)):b.drop (.slot i)=some { b with env:=(i,v,.any)::b.env,lk:=lkSlot i b.lk }:=by
 simp only[St.drop,e,an]
theorem hJ {c:Cap}(h:bk .any c):c=.any:=by
 rcases h with h | h
 ·cases h
 ·exact h
theorem iS {z:Nat}{c:Cap}(h:bk (.own z) c) (hz:z≠0):c=.own z:=by
 rcases h with h | h
 ·cases h;exact absurd rfl hz
 ·exact h
theorem ym {i:Nat}{xf:Bool}{K:IV→Cap→St→Option R}{r:R}(h:mvC s i xf K=some r) (hs:Sub s b) :
  ∃v c cb c' b',look b.env i=some (v,cb)∧bk c c'∧((xf=false∧c'=.any∧b'=b)∨(xf=true∧cb=.any∧c'=.any∧b'=b)∨(xf=true∧∃sz,cb=.own sz∧c'=.own sz∧b.drop (.slot i)=some b')) ∧
   ∃s',Sub s' b'∧s'.lb=s.lb∧K v c s'=some r:=by
 unfold mvC at h
 split at h
 ·rename_i v c e
  obtain⟨cb,eb,hc⟩:=hs.env _ _ _ e
  split at h
  ·exact⟨v,.any,cb,.any,b,eb,bk.refl _,.inl ⟨rfl,rfl,rfl⟩,s,hs,rfl,h⟩
  ·split at h
   ·have:=hJ hc
    subst this
    exact⟨v,.any,.any,.any,b,eb,bk.refl _,.inr (.inl ⟨rfl,rfl,rfl,rfl⟩),s,hs,rfl,h⟩
   ·rename_i sz
    cases cb with
    |any =>
     refine⟨v,.own sz,.any,.any,b,eb,hc,.inr (.inl ⟨rfl,rfl,rfl,rfl⟩),{ s with env:=(i,v,.any)::s.env,lk:=lkSlot i s.lk },?_,rfl,h⟩
     exact (hs.say i v eb (bk.refl _)).lkDrop (kF (s:=s.lk))
    |own z =>
     refine⟨v,.own sz,.own z,.own z,_,eb,hc,.inr (.inr ⟨rfl,z,rfl,rfl,kI eb⟩),{ s with env:=(i,v,.any)::s.env,lk:=lkSlot i s.lk },?_,rfl,h⟩
     exact (hs.set i v (bk.refl .any)).lkSlot i
 ·cases h
theorem eQ {e:Env}{i:Nat}{v:IV}{c:Cap}(h:look e i=some (v,c)):bh e i=c:=by simp[bh,h]
theorem eX {e:Env}{i:Nat}{v:IV}{c:Cap}(h:look e i=some (v,c)):(Arg.t i).rd e=some v:=by simp[Arg.rd,h]
theorem Aj {c:Cap}{X:Option R}{r:R}(h:known c X=some r):(∀c',bk c c'→c'=c)∧X=some r:=by
 unfold known at h
 split at h
 ·exact⟨fun c' hc=>hJ hc,h⟩
 ·obtain⟨h1,h2⟩:=bc h
  refine⟨fun c' hc=>iS hc fun e=>?_,h2⟩
  subst e
  cases h1
theorem mw {lb:List (Nat×BObj)}{sh:Sh}{p:IV}{n:Nat}{cs:List IV}{c c':Cap}{K:St→Option R}{r:R}(h:stC lb sh p n cs c s K=some r) (hlb:s.lb=lb) (hs:Sub s b) (hc:bk c c') :
  ∃b',aJ b n p cs c'=some b'∧∃s',Sub s' b'∧K s'=some r:=by
 unfold stC at h
 split at h
 ·split at h
  ·rename_i k off
   split at h
   ·rename_i bs cp e
    rw[←hlb] at e
    have hb:=hs.lb k
    rw[e] at hb
    obtain⟨cp',eb,hcp⟩:=hb.cells
    obtain⟨⟨n',hr⟩,h⟩:=kH h
    obtain⟨hg,h⟩:=bc h
    rw[Bool.and_eq_true] at hg
    have e1:=jr hg.1
    have e2:=Kv hg.2
    refine⟨{ b with lb:=(k,.cells (over bs off cs) (aC cp' off n c'))::b.lb,lk:=lkL k b.lk },?_,_,?_,h⟩
    ·unfold aJ
     rw[if_neg (by simp[e1])]
     simp only[eb,hr,if_pos e2,an]
    ·exact (hs.box k (BR.mk (hcp.over off n hc))).lks (D7 hs.lk) (DX hs.uq)
   ·cases h
  ·cases h
 ·obtain⟨hk,h⟩:=Aj h
  rw[hk c' hc]
  obtain⟨hg,h⟩:=bc h
  have e1:=jr hg
  obtain⟨id,m',h,hst⟩:=ED h
  have:=hst b hs.m.symm
  rw[e1] at this
  exact⟨_,this,_,(hs.mem m').lks (vY hs.lk) (zf hs.uq),h⟩
def lG (xs:List IV) (n:Nat):IV:=if n=0 then .nilSlice else .sl xs n
theorem lC {bytes:Nat}{xs:List IV}{n:Nat}{K:IV→Option R}{r:R}(h:aR (n==0) (K .nilSlice) (grd (decide (n*bytes≤ao)) (K (.sl xs n)))=some r):(n=0∨n*bytes≤ao)∧K (lG xs n)=some r:=by
 rcases js h with ⟨h1,h⟩ | ⟨h1,h⟩
 ·have h1:n=0:=by simpa using h1
  exact⟨.inl h1,by rw[lG,if_pos h1];exact h⟩
 ·obtain⟨h2,h⟩:=bc h
  have h1:n≠0:=by simpa using h1
  exact⟨.inr (of_decide_eq_true h2),by rw[lG,if_neg h1];exact h⟩
theorem rG {sv:IV}{sz bytes:Nat}{xs:List IV}{n:Nat}{K:IV→Option R}{r:R}(h:ja sv sz bytes xs n K=some r) :
  (sv=.nilSlice∧(n=0∨n*bytes≤ao)∧K (lG xs n)=some r)∨(∃row len,sv=.sl row len∧((len+n)*bytes≤ao∧row.length=len*sz)∧K (.sl (row++xs) (len+n))=some r):=by
 unfold ja at h
 split at h
 ·exact .inl ⟨rfl,lC h⟩
 ·obtain⟨h2,h⟩:=bc h
  exact .inr ⟨_,_,rfl,of_decide_eq_true h2,h⟩
 ·cases h
theorem uR {sv:IV}{bytes:Nat}{xs:List IV}{n:Nat}{K:IV→Option R}{r:R}(h:Ei sv bytes xs n K=some r):sv=.nilSlice∧(n=0∨n*bytes≤ao)∧K (lG xs n)=some r:=by
 unfold Ei at h
 split at h
 ·exact⟨rfl,lC h⟩
 ·cases h
theorem E5 {st st':St}{id off:Nat}(h:st.drop (.B id off)=some st') (b:St) (hb:b.m=st.m):b.drop (.B id off)=some { b with m:=st'.m }:=by
 simp only[St.drop] at h ⊢
 rw[hb]
 split at h
 ·simp only[an,IM.put] at h ⊢
  cases h;rfl
 ·cases h;rw[←hb]
theorem kE {call:aQ}{b:St}{sz bytes:Nat}{a x:Arg}{xv:IV}{row xs:List IV}{len n:Nat}{l:Loc}{b':St}(hx:x.rd b.env=some xv) (ha:a.rd b.env=some (.sl row len)) (hsrc:bS b.lb b.m sz xv=some (xs,n)) (hp:xs.all IV.plain=true) (hl:xs.length=n*sz)
  (ho:b.owner a sz=some l) (hg:(len+n)*bytes≤ao∧row.length=len*sz) (hd:b.drop l=some b'):(IK.append sz bytes a x).run call b=some (.sl (row++xs) (len+n),.own sz,b'):=by
 have hq:(xs.all IV.plain&&xs.length==n*sz)=true:=by rw[hp,hl,beq_self_eq_true];rfl
 simp only[IK.run,hx,ha,hsrc,hq,if_true,ho,if_pos hg,hd]
theorem append_nil {call:aQ}{b:St}{sz bytes:Nat}{a x:Arg}{xv:IV}{xs:List IV}{n:Nat}(hx:x.rd b.env=some xv) (ha:a.rd b.env=some .nilSlice) (hsrc:bS b.lb b.m sz xv=some (xs,n)) (hp:xs.all IV.plain=true) (hl:xs.length=n*sz)
  (h:n=0∨n*bytes≤ao):(IK.append sz bytes a x).run call b=some (lG xs n,.own sz,b):=by
 have hq:(xs.all IV.plain&&xs.length==n*sz)=true:=by rw[hp,hl,beq_self_eq_true];rfl
 simp only[IK.run,hx,ha,hsrc,hq,if_true,lG]
 by_cases h0:n=0
 ·rw[if_pos h0,if_pos h0]
 ·rcases h with h | h
  ·exact absurd h h0
  ·rw[if_neg h0,if_neg h0,if_pos h]
theorem zZ {sz bytes:Nat}{a x:Arg}{K:IV→Cap→St→Option R}{r:R}(h:(IK.append sz bytes a x).den ty call s K=some r) (hs:Sub s b) :
  ∃v c c' b',(IK.append sz bytes a x).run call b=some (v,c',b')∧bk c c'∧∃s',Sub s' b'∧K v c s'=some r:=by
 simp only[IK.den] at h
 obtain⟨xv,_,hx,h⟩:=cK h hs
 obtain⟨xs,n,h,hsrc⟩:=pq h
 rw[hs.m] at hsrc
 obtain⟨hp,h⟩:=jx h
 obtain⟨hl,h⟩:=bc h
 have hl:=jr hl
 have hsrc:=hsrc b.lb
 cases a with
 |c sv =>
  simp only at h
  obtain⟨rfl,hn,h'⟩:=uR h
  exact⟨_,_,_,b,append_nil hx rfl hsrc hp hl hn,bk.refl _,s,hs,h'⟩
 |t i =>
  simp only at h
  split at h
  ·rename_i sv z e
   obtain⟨hz,h⟩:=bc h
   simp only[Bool.and_eq_true,Bool.not_eq_true'] at hz
   obtain⟨hz1,hz2⟩:=hz
   have hz1:=jr hz1
   subst hz1
   have hz0:z≠0:=fun q=>by subst q;cases hz2
   obtain⟨cb,eb,hcb⟩:=hs.env _ _ _ e
   have:=iS hcb hz0
   subst this
   rcases rG h with ⟨rfl,hn,h'⟩ | ⟨row,len,rfl,hg,h'⟩
   ·exact⟨_,_,_,b,append_nil hx (eX eb) hsrc hp hl hn,bk.refl _,_,(hs.say i _ eb (bk.unk _)).lkDrop (kF (s:=s.lk)),h'⟩
   ·exact⟨_,_,_,_,kE hx (eX eb) hsrc hp hl (l:=.slot i) (by simp only[St.owner,eQ eb,if_true]) hg (kI eb),bk.refl _,_,(hs.set i _ (bk.unk .any)).lkSlot i,h'⟩
  ·rename_i sv e
   obtain⟨cb,eb,hcb⟩:=hs.env _ _ _ e
   have:=hJ hcb
   subst this
   split at h
   ·rename_i k off el
    have elb:=hs.link el
    split at h
    ·rename_i cs cp ek
     have hb:=hs.lb k
     rw[ek] at hb
     obtain⟨cp',ekb,hcp⟩:=hb.cells
     obtain⟨hz,h⟩:=bc h
     simp only[Bool.and_eq_true,Bool.not_eq_true',decide_eq_true_eq] at hz
     obtain⟨hz1,hz2⟩:=hz
     have hz0:sz≠0:=fun q=>by subst q;cases hz2
     have hcap:=hcp.getD off
     rw[hz1] at hcap
     have hcap:=iS hcap hz0
     rcases rG h with ⟨rfl,hn,h'⟩ | ⟨row,len,rfl,hg,h'⟩
     ·refine⟨_,_,_,b,append_nil hx (eX eb) hsrc hp hl hn,bk.refl _,_,?_,h'⟩
      refine⟨hs.env,hs.lk,hs.uq,fun j=>?_,hs.m⟩
      simp only[aU]
      split
      ·rename_i q;subst q
       rw[ekb]
       refine BR.mk ?_
       have hset:CapsR (cp.set off unk) (cp'.set off (cp'.getD off .any)):=hcp.set off (bk.unk _)
       have hid:cp'.set off (cp'.getD off .any)=cp':=by
        by_cases hlt:off<cp'.length
        ·rw[List.getD_eq_getElem?_getD,List.getElem?_eq_getElem hlt]
         simp
        ·rw[List.set_eq_of_length_le (by omega)]
       rw[hid] at hset
       exact hset
      ·exact hs.lb j
     ·refine⟨_,_,_,{ b with lb:=(k,.cells cs (cp'.set off .any))::b.lb },kE hx (eX eb) hsrc hp hl (l:=.L k off) ?_ hg ?_,bk.refl _,_,hs.box k (BR.mk (hcp.set off (bk.unk .any))),h'⟩
      ·simp only[St.owner,eQ eb,elb,St.capAt,ekb,hcap,if_true]
      ·simp only[St.drop,ekb,an]
    ·cases h
   ·rename_i id off el
    have elb:=hs.link el
    unfold iT at h
    split at h
    ·obtain⟨hn,h'⟩:=lC (K:=fun v=>K v (.own sz) { s with m:=s.m }) h
     exact⟨_,_,_,b,append_nil hx (eX eb) hsrc hp hl hn,bk.refl _,s,hs,h'⟩
    ·rename_i row len _
     obtain⟨h1,h⟩:=bc h
     obtain⟨hg,h⟩:=bc h
     have h1:=of_decide_eq_true h1
     have hg:=of_decide_eq_true hg
     split at h
     ·rename_i st ed
      have ed':=E5 ed b hs.m.symm
      have hcap:b.capAt (.B id off)=.own sz:=by
       rw[hs.m] at h1
       exact h1
      exact⟨_,_,_,_,kE hx (eX eb) hsrc hp hl (l:=.B id off) (by simp only[St.owner,eQ eb,elb,hcap,if_true]) hg ed',bk.refl _,_,hs.mem st.m,h⟩
     ·cases h
    ·cases h
   ·rename_i j el
    have elb:=hs.link el
    split at h
    ·rename_i w z ej
     obtain⟨hz,h⟩:=bc h
     simp only[Bool.and_eq_true,Bool.not_eq_true'] at hz
     obtain⟨hz1,hz2⟩:=hz
     have hz1:=jr hz1
     subst hz1
     have hz0:z≠0:=fun q=>by subst q;cases hz2
     obtain⟨cj,ejb,hcj⟩:=hs.env _ _ _ ej
     have:=iS hcj hz0
     subst this
     rcases rG h with ⟨rfl,hn,h'⟩ | ⟨row,len,rfl,hg,h'⟩
     ·exact⟨_,_,_,b,append_nil hx (eX eb) hsrc hp hl hn,bk.refl _,_,(hs.say j _ ejb (bk.unk _)).lkDrop (kF (s:=s.lk)),h'⟩
     ·exact⟨_,_,_,_,kE hx (eX eb) hsrc hp hl (l:=.slot j) (by simp only[St.owner,eQ eb,elb,St.capAt,eQ ejb,if_true]) hg (kI ejb),bk.refl _,_,(hs.set j _ (bk.unk .any)).lkSlot j,h'⟩
    ·cases h
   ·obtain⟨rfl,hn,h'⟩:=uR h
    exact⟨_,_,_,b,append_nil hx (eX eb) hsrc hp hl hn,bk.refl _,s,hs,h'⟩
  ·cases h
theorem BD {n:Nat}{a x:Arg}{xf:Bool}{K:IV→Cap→St→Option R}{r:R}(h:(IK.store n a x xf).den ty call s K=some r) (hs:Sub s b) :
  ∃v c c' b',(IK.store n a x xf).run call b=some (v,c',b')∧bk c c'∧∃s',Sub s' b'∧K v c s'=some r:=by
 simp only[IK.den] at h
 obtain⟨p,_,hp,h⟩:=cK h hs
 cases x with
 |c v =>
  simp only at h
  obtain⟨_,_,h⟩:=iL h
  obtain⟨b',hst,s',hs',h⟩:=mw h rfl hs (bk.refl .any)
  refine⟨_,_,_,b',?_,bk.refl _,s',hs',h⟩
  have hv:(Arg.c v).rd b.env=some v:=rfl
  cases xf<;>simp[IK.run,hp,hv,hst]
 |t i =>
  simp only at h
  obtain⟨v,c,cb,c',b1,eb,hcc,hcase,s1,hs1,hlb,h⟩:=ym h hs
  split at h
  ·obtain⟨_,_,h⟩:=iL h
   have hc0:=hJ hcc
   subst hc0
   obtain⟨b',hst,s',hs',h⟩:=mw h hlb hs1 (bk.refl .any)
   refine⟨_,_,_,b',?_,bk.refl _,s',hs',h⟩
   rcases hcase with ⟨rfl,_,rfl⟩ | ⟨rfl,rfl,_,rfl⟩ | ⟨_,z,_,e,_⟩
   ·simp[IK.run,hp,eX eb,hst]
   ·simp[IK.run,hp,eX eb,eQ eb,hst]
   ·cases e
  ·rename_i sz
   obtain⟨hcs,hcells,_,_,h⟩:=zU h
   rcases hcase with ⟨_,rfl,rfl⟩ | ⟨rfl,rfl,rfl,rfl⟩ | ⟨rfl,z,rfl,rfl,hd⟩
   ·obtain⟨b',hst,s',hs',h⟩:=mw h hlb hs1 hcc
    refine⟨_,_,_,b',?_,bk.refl _,s',hs',h⟩
    rename_i hxf
    subst hxf
    simp[IK.run,hp,eX eb,hcells,hst]
   ·obtain⟨b',hst,s',hs',h⟩:=mw h hlb hs1 hcc
    refine⟨_,_,_,b',?_,bk.refl _,s',hs',h⟩
    simp[IK.run,hp,eX eb,eQ eb,hcells,hst]
   ·obtain⟨b',hst,s',hs',h⟩:=mw h hlb hs1 hcc
    refine⟨_,_,_,b',?_,bk.refl _,s',hs',h⟩
    simp[IK.run,hp,eX eb,eQ eb,hd,hcells,hcs,hst]
end Go.Idl
namespace Go.Idl
variable {R:Type}{s b:St}{ty:Tys}{call:aQ}
theorem put_eq (st:St) (d:Option Nat) (v:IV) (c:Cap):st.put d v c=some (match d with | none=>st | some d=>{ st with env:=(d,v,c)::st.env,lk:=lkSlot d st.lk }):=by
 cases d with
 |none=>rfl
 |some d=>simp only[St.put,an,aV]
theorem y9 (m:IM) (id:Nat) (o:BObj):m.put id o=some ⟨m.bs.set id o,m.esc⟩:=by simp only[IM.put,an]
theorem mem_push (m:IM) (o:BObj):m.push o=some (bJ m o):=by simp only[IM.push,an,bJ]
theorem jV:∀{hs:List Arg}{K:List Nat→Option R}{r:R},xt s.env hs K=some r→Sub s b→K (aq b.env hs)=some r
 |[],K,r,h,_=>h
 |.c _::t,K,r,h,hs=>jV (hs:=t) h hs
 |.t i::t,K,r,h,hs=>by
  unfold xt at h
  split at h
  ·rename_i v c e
   obtain⟨cb,eb,_⟩:=hs.env _ _ _ e
   split at h
   ·have:=jV h hs
    simp only[aq,eb]
    exact this
   ·rename_i hn
    have:=jV h hs
    simp only[aq,eb]
    cases v<;>first | exact this | exact (hn _ _ rfl).elim
  ·cases h
theorem nI {c:Callee}{vs:List IV}{hide:List Arg}{K:IV→IM→Option R}{r:R}(h:aw call c vs (aq b.env hide) b.m K=some r) :
  ∃v m',bN call b c vs hide=some (v,.any,{ b with m:=m',lk:=lkC (fun i=>!(aq b.env hide).contains i) b.lk })∧K v m'=some r:=by
 unfold aw at h
 unfold bN
 simp only[an]
 split at h
 ·rename_i e1
  split at h
  ·rename_i e2
   split at h
   ·rename_i v m2 e3
    split at h
    ·rename_i m3 e4
     refine⟨v,m3,?_,h⟩
     simp only[e1,e2,e3,e4]
    ·cases h
   ·cases h
  ·cases h
 ·cases h
theorem GI {k:IK}{K:IV→Cap→St→Option R}{r:R}(h:k.den ty call s K=some r) (hs:Sub s b) :
  ∃v c c' b',k.run call b=some (v,c',b')∧bk c c'∧∃s',Sub s' b'∧K v c s'=some r:=by
 cases k with
 |mv x xf lk =>
  cases x with
  |c v=>exact⟨_,_,_,b,rfl,bk.refl _,s,hs,h⟩
  |t i =>
   simp only[IK.den] at h
   obtain⟨v,c,cb,c',b1,eb,hcc,hcase,s1,hs1,_,h⟩:=ym h hs
   refine⟨v,c,c',b1,?_,hcc,s1,hs1,h⟩
   rcases hcase with ⟨rfl,rfl,rfl⟩ | ⟨rfl,rfl,rfl,rfl⟩ | ⟨rfl,z,rfl,rfl,hd⟩
   ·simp[IK.run,eX eb]
   ·simp[IK.run,eX eb,eQ eb]
   ·simp[IK.run,eX eb,eQ eb,hd]
 |p o args =>
  simp only[IK.den] at h
  split at h
  ·rename_i j a a2
   split at h
   ·rename_i c cc e
    obtain⟨cb,eb,_⟩:=hs.env _ _ _ e
    rcases js h with ⟨rfl,h'⟩ | ⟨rfl,h'⟩
    ·obtain⟨v,e1,e2,h⟩:=cK h' hs
     obtain⟨v2,e3⟩:=Arg.rd_some b.env a2
     refine⟨v,_,_,b,?_,bk.refl _,_,hs.refine e,h⟩
     simp[IK.run,rdAll,eX eb,e2,e3,POp.ev]
    ·obtain⟨v,e1,e2,h⟩:=cK h' hs
     obtain⟨v2,e3⟩:=Arg.rd_some b.env a
     refine⟨v,_,_,b,?_,bk.refl _,_,hs.refine e,h⟩
     simp[IK.run,rdAll,eX eb,e2,e3,POp.ev]
   ·cases h
  ·obtain⟨l,e,h⟩:=jo h hs
   obtain⟨cs,e2,h⟩:=nx h
   refine⟨_,_,_,b,?_,bk.refl _,s,hs,h⟩
   simp[IK.run,e,POp.ev,e2]
  ·obtain⟨l,e,h⟩:=jo h hs
   obtain⟨v,e2,h⟩:=EZ h
   refine⟨v,_,_,b,?_,bk.refl _,s,hs,h⟩
   simp only[IK.run,e,e2]
 |same x =>
  simp only[IK.den] at h
  split at h
  ·rename_i i
   split at h
   ·rename_i row len c e
    obtain⟨cb,eb,hcb⟩:=hs.env _ _ _ e
    obtain⟨hm,h⟩:=bc h
    have hm:=hs.link (of_decide_eq_true hm)
    cases cb with
    |any =>
     split at h
     ·refine⟨_,_,_,b,?_,hcb,_,(hs.say i _ eb (bk.refl _)).lkDrop (kF (s:=s.lk)),h⟩
      simp[IK.run,eX eb,hm,eQ eb]
     ·refine⟨_,_,_,b,?_,bk.refl _,s,hs,h⟩
      simp[IK.run,eX eb,hm,eQ eb]
    |own z =>
     split at h
     ·refine⟨_,_,_,_,?_,hcb,_,(hs.set i _ (bk.refl .any)).lkSlot i,h⟩
      simp[IK.run,eX eb,hm,eQ eb,kI eb]
     ·have:=hJ hcb;cases this
   ·cases h
  ·cases h
 |load agg n a lk =>
  simp only[IK.den] at h
  obtain⟨p,e1,e2,h⟩:=cK h hs
  have key:∀v,cy b.lb b.m agg n p=some v→(IK.load agg n a lk).run call b=some (v,.any,b):=by
   intro v hv
   simp only[IK.run,e2,hv]
  split at h
  ·split at h
   ·rename_i k off
    split at h
    ·rename_i cs cp ek
     have hb:=hs.lb k
     rw[ek] at hb
     obtain⟨cp',ekb,_⟩:=hb.cells
     obtain⟨v,h,hv⟩:=md h
     exact⟨v,_,_,b,key v (pd (fun n=>by simp only[aK,ekb]) hv),bk.refl _,s,hs,h⟩
    ·cases h
   ·cases h
  ·obtain⟨v,h,hv⟩:=zn h
   rw[hs.m] at hv
   exact⟨v,_,_,b,key v (hv _),bk.refl _,s,hs,h⟩
 |store n a x xf=>exact BD h hs
 |allocL k zero cp =>
  simp only[IK.den] at h
  split at h
  ·rename_i e
   have hb:=hs.lb k
   rw[e] at hb
   refine⟨_,_,_,{ b with lb:=(k,.cells zero (aF zero cp))::b.lb },?_,bk.refl _,_,hs.box k (BR.refl _),h⟩
   simp only[IK.run,dV,hb.none]
  ·cases h
 |allocG zero cp =>
  simp only[IK.den] at h
  refine⟨_,_,_,{ b with m:=bJ b.m (.cells zero (aF zero cp))},?_,bk.refl _,_,?_,h⟩
  ·simp only[IK.run,dK,mem_push,hs.m]
  ·rw[hs.m];exact hs.mem _
 |boxL k n x =>
  simp only[IK.den] at h
  obtain⟨v,_,e2,h⟩:=cK h hs
  obtain⟨_,_,h⟩:=iL h
  obtain⟨⟨n',hr⟩,h⟩:=kH h
  obtain⟨hl,h⟩:=bc h
  have hl:=jr hl
  split at h
  ·rename_i e
   have hb:=hs.lb k
   rw[e] at hb
   refine⟨_,_,_,{ b with lb:=(k,.cells v.cells (aF v.cells []))::b.lb },?_,bk.refl _,_,hs.box k (BR.refl _),h⟩
   simp only[IK.run,e2,hr,hl,if_true,dV,hb.none]
  ·cases h
 |boxG n x =>
  simp only[IK.den] at h
  obtain⟨v,_,e2,h⟩:=cK h hs
  obtain⟨_,_,h⟩:=iL h
  obtain⟨⟨n',hr⟩,h⟩:=kH h
  obtain⟨hl,h⟩:=bc h
  have hl:=jr hl
  refine⟨_,_,_,{ b with m:=bJ b.m (.cells v.cells (aF v.cells []))},?_,bk.refl _,_,?_,h⟩
  ·simp only[IK.run,e2,hr,hl,if_true,dK,mem_push,hs.m]
  ·rw[hs.m];exact hs.mem _
 |buildSlice sz len zero parts args =>
  simp only[IK.den] at h
  obtain⟨l,e,h⟩:=jo h hs
  obtain⟨cs,e2,h⟩:=nx h
  obtain⟨hp,h⟩:=jx h
  refine⟨_,_,_,b,?_,bk.refl _,s,hs,h⟩
  simp only[IK.run,e,e2,hp,if_true]
 |strBytes x =>
  simp only[IK.den] at h
  obtain⟨v,_,e2,h⟩:=cK h hs
  obtain⟨t,e3,h⟩:=tz h
  subst e3
  obtain⟨hl,h⟩:=bc h
  have hl:=of_decide_eq_true hl
  refine⟨_,_,_,b,?_,bk.refl _,s,hs,h⟩
  simp only[IK.run,e2,if_pos hl]
 |makeI sz bytes zero len cap =>
  simp only[IK.den] at h
  obtain⟨v,_,e2,h⟩:=cK h hs
  obtain⟨l,rfl,h1⟩:=mM h
  obtain⟨v,_,e3,h2⟩:=cK h1 hs
  obtain⟨c,rfl,h3⟩:=mM h2
  obtain⟨hg,h⟩:=bc h3
  have hg:=of_decide_eq_true hg
  refine⟨_,_,_,b,?_,bk.refl _,s,hs,h⟩
  simp only[IK.run,e2,e3,if_pos hg]
 |makeB sz bytes zero len cap =>
  simp only[IK.den] at h
  obtain⟨v,_,e2,h⟩:=cK h hs
  obtain⟨l,rfl,h1⟩:=mM h
  obtain⟨v,_,e3,h2⟩:=cK h1 hs
  obtain⟨c,rfl,h3⟩:=mM h2
  obtain⟨hg,h⟩:=bc h3
  have hg:=of_decide_eq_true hg
  refine⟨_,_,_,{ b with m:=bJ b.m (.cells (cD zero c.toNat) (aF (cD zero c.toNat) []))},?_,bk.refl _,_,?_,h⟩
  ·simp only[IK.run,e2,e3,if_pos hg,dK,mem_push,hs.m]
  ·rw[hs.m];exact hs.mem _
 |append sz bytes a x=>exact zZ h hs
 |copy sz d x =>
  simp only[IK.den] at h
  obtain⟨dv,_,e2,h⟩:=cK h hs
  obtain⟨xv,_,e3,h⟩:=cK h hs
  obtain⟨xs,k,h,hsrc⟩:=pq h
  rw[hs.m] at hsrc
  have hsrc:=hsrc b.lb
  unfold cpC at h
  obtain⟨hl,h⟩:=bc h
  have hl:xs.length=k*sz:=of_decide_eq_true hl
  unfold cpS at h
  cases dv with
  |sB id off n z =>
   simp only at h
   split at h
   ·rename_i st est
    have est':=vI est b hs.m.symm
    refine⟨_,_,_,{ b with m:=st.m,lk:=lkB (· == id) b.lk },?_,bk.refl _,_,(hs.mem st.m).lks (vY hs.lk) (zf hs.uq),h⟩
    simp only[IK.run,e2,e3,hsrc]
    rw[if_neg (by simp[hl]),est']
   ·cases h
  |nilSlice =>
   simp only at h
   refine⟨.int .i64 (0:Nat),.any,.any,b,?_,bk.refl _,{ s with lk:=tQ s.lk },hs.lkDrop (l:=tQ s.lk) (fun p hp=>(mH hp).1),h⟩
   ·simp only[IK.run,e2,e3,hsrc]
    rw[if_neg (by simp[hl])]
    rfl
  |_=>cases h
 |callF f args hide =>
  simp only[IK.den] at h
  obtain⟨l,e,h⟩:=jo h hs
  have h:=jV h hs
  rw[hs.m] at h
  obtain⟨v,m',e2,h⟩:=nI h
  obtain⟨t,h,ht⟩:=ji h
  refine⟨v,_,_,_,by simp only[IK.run,e];exact e2,bk.refl _,_,(hs.mem m').lks (fun p hp=>A7 hs.lk p (ht p hp)) (tq hs.uq),h⟩
 |callV g args hide =>
  simp only[IK.den] at h
  obtain⟨l,e,h⟩:=jo h hs
  obtain⟨gv,_,eg,h⟩:=cK h hs
  have h:=jV h hs
  rw[hs.m] at h
  unfold tZ at h
  split at h
  ·obtain⟨v,m',e2,h⟩:=nI h
   refine⟨v,_,_,_,by simp only[IK.run,e,eg];exact e2,bk.refl _,_,(hs.mem m').lks (wJ hs.lk) (tq hs.uq),h⟩
  ·obtain⟨v,m',e2,h⟩:=nI h
   refine⟨v,_,_,_,by simp only[IK.run,e,eg];exact e2,bk.refl _,_,(hs.mem m').lks (wJ hs.lk) (tq hs.uq),h⟩
  ·cases h
 |mkMap =>
  simp only[IK.den] at h
  refine⟨_,_,_,{ b with m:=bJ b.m (.map [])},?_,bk.refl _,_,?_,h⟩
  ·simp only[IK.run,dK,mem_push,hs.m]
  ·rw[hs.m];exact hs.mem _
 |lookup d zero ok a x =>
  simp only[IK.den] at h
  obtain⟨mp,_,e2,h⟩:=cK h hs
  obtain⟨k,_,e3,h⟩:=cK h hs
  unfold JG at h
  rw[hs.m] at h
  split at h
  ·refine⟨_,_,_,b,?_,bk.refl _,s,hs,h⟩
   simp only[IK.run,e2,e3]
   cases ok<;>rfl
  ·split at h
   ·rename_i em
    split at h
    ·rename_i ef
     refine⟨_,_,_,b,?_,bk.refl _,s,hs,h⟩
     simp only[IK.run,e2,e3,em,ef]
     cases ok<;>rfl
    ·rename_i ef
     refine⟨_,_,_,b,?_,bk.refl _,s,hs,h⟩
     simp only[IK.run,e2,e3,em,ef]
     cases ok<;>rfl
    ·cases h
   ·cases h
  ·cases h
 |mapUpd d a x y =>
  simp only[IK.den] at h
  obtain⟨mp,_,e2,h⟩:=cK h hs
  obtain⟨k,_,e3,h⟩:=cK h hs
  obtain⟨v,_,e4,h⟩:=cK h hs
  unfold Ko at h
  rw[hs.m] at h
  split at h
  ·split at h
   ·rename_i em
    split at h
    ·rename_i eu ep
     refine⟨_,_,_,{ b with m:=⟨b.m.bs.set _ _,b.m.esc⟩},?_,bk.refl _,_,hs.mem _,h⟩
     simp only[IK.run,e2,e3,e4,em,eu,ep,y9]
    ·cases h
   ·cases h
  ·cases h
 |mapLen a =>
  simp only[IK.den] at h
  obtain⟨mp,_,e2,h⟩:=cK h hs
  unfold Jw at h
  rw[hs.m] at h
  split at h
  ·exact⟨_,_,_,b,by simp only[IK.run,e2];rfl,bk.refl _,s,hs,h⟩
  ·split at h
   ·rename_i em
    exact⟨_,_,_,b,by simp only[IK.run,e2,em],bk.refl _,s,hs,h⟩
   ·cases h
  ·cases h
 |rangeStr k x =>
  simp only[IK.den] at h
  obtain⟨v,_,e2,h⟩:=cK h hs
  obtain⟨t,e3,h⟩:=tz h
  subst e3
  split at h
  ·rename_i e
   have hb:=hs.lb k
   rw[e] at hb
   refine⟨_,_,_,{ b with lb:=(k,.iter t 0)::b.lb },?_,bk.refl _,_,hs.box k (BR.refl _),h⟩
   simp only[IK.run,e2,dV,hb.none]
  ·cases h
 |nextStr a =>
  simp only[IK.den] at h
  obtain⟨p,e1,e2,h⟩:=cK h hs
  clear e1
  split at h
  ·rename_i q1 k
   split at h
   ·rename_i q3 t pos e
    have hb:=hs.lb k
    rw[e] at hb
    have hb:=hb.iter
    rcases js h with ⟨hp,h'⟩ | ⟨hp,h'⟩
    ·have hp:=of_decide_eq_true hp
     refine⟨_,_,_,{ b with lb:=(k,.iter t (pos+(Utf8.decode ⟨⟨t⟩⟩ pos).2))::b.lb },?_,bk.refl _,_,hs.box k (BR.refl _),h'⟩
     simp only[IK.run,e2,hb,if_pos hp]
    ·have hp:=of_decide_eq_false hp
     refine⟨_,_,_,b,?_,bk.refl _,s,hs,h'⟩
     simp only[IK.run,e2,hb,if_neg hp]
   ·cases h
  ·cases h
theorem DP {k:IK}{K:IV→Cap→St→Option R}{r:R}(h:k.den ty call s K=some r) (hs:Sub s b):k.link b.env=k.link s.env:=by
 cases k with
 |load agg n a lk =>
  simp only[IK.den] at h
  obtain⟨p,e1,e2,h⟩:=cK h hs
  cases agg<;>cases lk<;>simp[IK.link,e1,e2]
 |mv x xf lk=>cases x<;>cases xf<;>cases lk<;>rfl
 |buildSlice sz _ _ _ _=>unfold IK.link;by_cases q:sz=1<;>simp[q]
 |_=>rfl
theorem rH {a:Arg}{t:OTag}{X:Option R}{r:R}(h:zB s.env a t X=some r) (hs:Sub s b):aG b.env a t=true∧X=some r:=by
 have hn:∀{v:IV},gq v X=some r→(match (some v:Option IV) with | some (.pL ..)=>false | _=>true)=true∧X=some r:=by
  intro v h
  obtain⟨h1,h2⟩:=vN h
  refine⟨?_,h2⟩
  cases v<;>first | rfl | cases h1
 cases a with
 |c v =>
  unfold zB at h
  simp only at h
  split at h
  ·split at h
   ·exact⟨rfl,h⟩
   ·cases h
  ·exact hn h
  ·split at h
   ·obtain⟨h1,h2⟩:=bc h
    exact⟨h1,h2⟩
   ·cases h
  ·cases h
 |t i =>
  unfold zB at h
  simp only at h
  split at h
  ·rename_i v c e
   obtain⟨cb,eb,_⟩:=hs.env _ _ _ e
   have er:=eX eb
   split at h
   ·split at h
    ·exact⟨by simp only[aG,er],h⟩
    ·cases h
   ·obtain⟨h1,h2⟩:=hn h
    exact⟨by simp only[aG,er];exact h1,h2⟩
   ·split at h
    ·obtain⟨h1,h2⟩:=bc h
     exact⟨by simp only[aG,er];exact h1,h2⟩
    ·cases h
   ·split at h
    ·rename_i w _ e2
     obtain⟨cb2,eb2,_⟩:=hs.env _ _ _ e2
     obtain⟨id,o,rfl,h⟩:=t6 h
     rename_i h0
     obtain⟨id',o',rfl,h⟩:=t6 h0
     rename_i h0
     obtain⟨h1,h2⟩:=bc h0
     exact⟨by simp only[aG,er,eb2];exact h1,h2⟩
    ·cases h
   ·cases h
  ·cases h
theorem CY {i:Nat}{t:OTag}{X:Option R}{r:R}(h:EX s.env s.lk i t X=some r) (hs:Sub s b) (hreq:∀v c,look s.env i=some (v,c)→∀z,c=.own z→z≠0):cE b.env b.lk i t=true∧X=some r:=by
 unfold EX at h
 split at h
 ·rename_i v c e
  obtain⟨cb,eb,hcb⟩:=hs.env _ _ _ e
  split at h
  ·rename_i z
   have:=iS hcb (hreq _ _ e z rfl)
   subst this
   refine⟨?_,h⟩
   unfold cE
   rw[eb]
   cases v<;>rfl
  ·have:=hJ hcb
   subst this
   split at h
   ·rename_i l el
    have elb:=hs.link el
    obtain⟨h1,h2⟩:=bc h
    refine⟨?_,h2⟩
    unfold cE
    rw[eb,elb]
    cases v<;>first | rfl | exact h1
   ·split at h
    ·refine⟨?_,h⟩
     unfold cE
     rw[eb]
    ·cases h
 ·cases h
theorem lH {d:Nat}:∀{lk:List (Nat×Loc)}{K:List (Nat×Loc)→Option R},mA d lk K=K (lkSlot d lk)
 |[],K=>rfl
 |(i,l)::r,K=>by
  unfold mA
  rw[lH]
  simp only[lkSlot]
  cases hi:Nat.beq i d with
  |true=>rw[if_pos (jr hi)]
  |false =>
   have hi':¬i=d:=fun e=>by subst e;rw[Nat.beq_refl] at hi;cases hi
   rw[if_neg hi']
   cases l with
   |slot j =>
    cases hj:Nat.beq j d with
    |true=>simp only[if_pos (jr hj),hj]
    |false =>
     have hj':¬j=d:=fun e=>by subst e;rw[Nat.beq_refl] at hj;cases hj
     simp only[if_neg hj',hj]
   |_=>rfl
theorem Dq {k:IK}{env:Env}{K:Option Loc→Option R}{r:R}(h:Jg ty env k K=some r):∃l,K l=some r∧(l=none∨l=k.link env):=by
 unfold Jg at h
 split at h
 ·exact⟨_,h,.inr rfl⟩
 ·exact⟨_,h,.inr rfl⟩
 ·exact⟨_,h,.inr rfl⟩
 ·split at h
  ·split at h
   ·rename_i e
    exact⟨_,h,.inr (by simp[IK.link,Arg.rd,e])⟩
   ·cases h
  ·split at h
   ·rename_i e
    exact⟨_,h,.inr (by simp[IK.link,Arg.rd,e])⟩
   ·cases h
  ·split at h
   ·rename_i e
    exact⟨_,h,.inr (by simp[IK.link,Arg.rd,e])⟩
   ·cases h
  ·exact⟨_,h,.inl rfl⟩
 ·exact⟨_,h,.inl rfl⟩
theorem E4 {d:Option Nat}{K:St→Option R}{r:R}(h:H4 d s K=some r) (hs:Sub s b):∃b',b.put d (.tup []) .any=some b'∧∃s',Sub s' b'∧K s'=some r:=by
 cases d with
 |none=>exact⟨b,rfl,s,hs,h⟩
 |some d =>
  simp only[H4,lH] at h
  exact⟨_,put_eq _ _ _ _,_,(hs.set d _ (bk.refl .any)).lkSlot d,h⟩
theorem oG {d:Nat}{lk:List (Nat×Loc)}:∀p∈lkSlot d lk,p.1≠d:=by
 intro p hp
 rw[gg,List.mem_filter] at hp
 exact (xG.1 hp.2).1
theorem Bc {g:Option (Nat×Bool)}{A B:St→Option R}{r:R}(h:Cm s g A B=some r) (hs:Sub s b) :
  (gate b.env g=some true∧∃s',Sub s' b∧A s'=some r)∨(gate b.env g=some false∧∃s',Sub s' b∧B s'=some r):=by
 unfold Cm at h
 split at h
 ·exact .inl ⟨rfl,s,hs,h⟩
 ·rename_i j want
  split at h
  ·rename_i x c e
   obtain⟨cb,eb,_⟩:=hs.env _ _ _ e
   split at h
   ·rcases js h with ⟨rfl,h'⟩ | ⟨rfl,h'⟩
    ·exact .inl ⟨by simp[gate,eb],_,hs.refine e,h'⟩
    ·exact .inr ⟨by simp[gate,eb],_,hs.refine e,h'⟩
   ·rcases js h with ⟨rfl,h'⟩ | ⟨rfl,h'⟩
    ·exact .inr ⟨by simp[gate,eb],_,hs.refine e,h'⟩
    ·exact .inl ⟨by simp[gate,eb],_,hs.refine e,h'⟩
  ·rename_i e
   obtain⟨cb,eb,_⟩:=hs.env _ _ _ e
   exact .inr ⟨by simp[gate,eb],s,hs,h⟩
  ·cases h
def okB (k:IK) (t:OTag) (b:St):Bool:=match k with
 |.load _ _ a _=>aG b.env a t
 |.store _ a _ _=>aG b.env a t
 |.nextStr a=>aG b.env a t
 |.append _ _ (.t i) _=>cE b.env b.lk i t
 |_=>false
theorem Gu (k:IK) {t:OTag}(b:St) (ht:t ≠ .none):k.ok t b=okB k t b:=by
 unfold IK.ok okB
 cases t<;>first | exact absurd rfl ht | rfl
theorem HA {k:IK}{t:OTag}{K:IV→Cap→St→Option R}{r:R}(h:okC k t s (k.den ty call s K)=some r) (hs:Sub s b):k.ok t b=true∧k.den ty call s K=some r:=by
 unfold okC at h
 split at h
 ·cases k<;>exact⟨rfl,h⟩
 ·rename_i ht
  have hok:=Gu k (t:=t) b ht
  rw[hok]
  unfold okB
  split at h
  ·obtain⟨h1,h2⟩:=rH h hs;exact⟨h1,h2⟩
  ·obtain⟨h1,h2⟩:=rH h hs;exact⟨h1,h2⟩
  ·obtain⟨h1,h2⟩:=rH h hs;exact⟨h1,h2⟩
  ·rename_i sz bytes i x
   have hden:(IK.append sz bytes (.t i) x).den ty call s K=some r:=by
    unfold EX at h
    split at h
    ·split at h
     ·exact h
     ·split at h
      ·exact (bc h).2
      ·split at h
       ·exact h
       ·cases h
    ·cases h
   obtain⟨h1,h2⟩:=CY h hs (fun v c e z hc=>by
    subst hc
    simp only[IK.den] at hden
    obtain⟨xv,_,hx,hden⟩:=cK hden hs
    obtain⟨xs,n,hden,hsrc⟩:=pq hden
    obtain⟨hp,hden⟩:=jx hden
    obtain⟨hl,hden⟩:=bc hden
    rw[e] at hden
    simp only at hden
    obtain⟨hz,_⟩:=bc hden
    simp only[Bool.and_eq_true,Bool.not_eq_true'] at hz
    have:=jr hz.1
    intro q
    subst q
    rw[←this] at hz
    exact absurd hz.2 (by decide))
   exact⟨h1,h2⟩
  ·cases h
theorem Ii {o:IOp}{K:St→Option R}{r:R}(h:o.den ty call s K=some r) (hs:Sub s b):∃b',o.run call b=some b'∧∃s',Sub s' b'∧K s'=some r:=by
 unfold IOp.den at h
 rcases Bc h hs with ⟨hg,s1,hs1,h⟩ | ⟨hg,s1,hs1,h⟩
 ·obtain⟨hok,h⟩:=HA h hs1
  have hl:=DP h hs1
  obtain⟨v,c,c',b1,hrun,hc,s2,hs2,h⟩:=GI h hs1
  have hrun0:∀b2,(match o.dst,o.k.link b.env with
    |some d,some l=>if l=.slot d then some (match o.dst with | none=>b1 | some d=>{ b1 with env:=(d,v,c')::b1.env,lk:=lkSlot d b1.lk }) else some { (match o.dst with | none=>b1 | some d=>{ b1 with env:=(d,v,c')::b1.env,lk:=lkSlot d b1.lk }) with lk:=(d,l)::(match o.dst with | none=>b1 | some d=>{ b1 with env:=(d,v,c')::b1.env,lk:=lkSlot d b1.lk }).lk }
    |_,_=>some (match o.dst with | none=>b1 | some d=>{ b1 with env:=(d,v,c')::b1.env,lk:=lkSlot d b1.lk }))=some b2→o.run call b=some b2:=by
   intro b2 e
   unfold IOp.run
   simp only[hg,hok]
   unfold IOp.run0
   simp only[hg,hrun,put_eq]
   exact e
  unfold Kp at h
  cases hd:o.dst with
  |none =>
   rw[hd] at h hrun0
   exact⟨b1,hrun0 b1 (by rfl),s2,hs2,h⟩
  |some d =>
   rw[hd] at h hrun0
   have h:=vh h
   rw[lH] at h
   obtain⟨l0,h,hl0⟩:=Dq h
   rw[←hl] at hl0
   cases hk:o.k.link b.env with
   |none =>
    rw[hk] at hl0 hrun0
    have:l0=none:=by rcases hl0 with e | e<;>exact e
    subst this
    exact⟨_,hrun0 _ rfl,_,(hs2.set d v hc).lkSlot d,h⟩
   |some l =>
    rw[hk] at hl0 hrun0
    simp only at h hrun0
    have hbig:∃b2,o.run call b=some b2∧Sub { s2 with env:=(d,v,c)::s2.env,lk:=lkSlot d s2.lk } b2∧(l ≠ .slot d→Sub { s2 with env:=(d,v,c)::s2.env,lk:=(d,l)::lkSlot d s2.lk } b2):=by
     by_cases q:l=.slot d
     ·exact⟨_,hrun0 _ (if_pos q),(hs2.set d v hc).lkSlot d,fun n=>absurd q n⟩
     ·refine⟨_,hrun0 _ (if_neg q),?_,fun _=>?_⟩
      ·refine ((hs2.set d v hc).lkSlot d).lks (l:=lkSlot d s2.lk) (l':=(d,l)::lkSlot d b1.lk) ?_ ?_
       ·intro p hp
        exact List.mem_cons_of_mem _ (lq hs2.lk p hp)
       ·exact mR.2 ⟨lV hs2.uq,oG⟩
      ·refine ((hs2.set d v hc).lkSlot d).lks (l:=(d,l)::lkSlot d s2.lk) (l':=(d,l)::lkSlot d b1.lk) ?_ ?_
       ·intro p hp
        rcases List.mem_cons.1 hp with rfl | hp
        ·exact List.mem_cons_self
        ·exact List.mem_cons_of_mem _ (lq hs2.lk p hp)
       ·exact mR.2 ⟨lV hs2.uq,oG⟩
    obtain⟨b2,hr,hsub1,hsub2⟩:=hbig
    rcases hl0 with rfl | rfl
    ·exact⟨b2,hr,_,hsub1,h⟩
    ·cases l with
     |slot j =>
      simp only at h
      split at h
      ·exact⟨b2,hr,_,hsub1,h⟩
      ·rename_i hj
       exact⟨b2,hr,_,hsub2 (fun e=>by cases e;rw[Nat.beq_refl] at hj;cases hj),h⟩
     |L a c=>exact⟨b2,hr,_,hsub2 (fun e=>by cases e),h⟩
     |B a c=>exact⟨b2,hr,_,hsub2 (fun e=>by cases e),h⟩
     |marked=>exact⟨b2,hr,_,hsub2 (fun e=>by cases e),h⟩
 ·obtain⟨b',e,s',hs',h⟩:=E4 h hs1
  refine⟨b',?_,s',hs',h⟩
  unfold IOp.run IOp.run0
  simp only[hg]
  exact e
theorem tS:∀{l:List IOp}{s b:St}{K:St→Option R}{r:R},uB ty call l s K=some r→Sub s b→∃b',aD call l b=some b'∧∃s',Sub s' b'∧K s'=some r
 |[],s,b,K,r,h,hs=>⟨b,rfl,s,hs,h⟩
 |o::l,s,b,K,r,h,hs=>by
  obtain⟨b1,e1,s1,hs1,h⟩:=Ii h hs
  obtain⟨b2,e2,s2,hs2,h⟩:=tS h hs1
  exact⟨b2,by simp only[aD,e1,e2],s2,hs2,h⟩
end Go.Idl
namespace Go.Idl
variable {R:Type}{s b:St}{ty:Tys}{call:aQ}
theorem sS {a b:Cap}(h:yB a b=true):bk a b:=by
 unfold yB at h
 rw[Bool.or_eq_true] at h
 rcases h with h | h
 ·exact .inl (of_decide_eq_true h)
 ·exact .inr (of_decide_eq_true h)
theorem nZ:∀{a b:List Cap},oO a b=true→CapsR a b
 |[],[],_=>.nil
 |a::s,b::t,h=>by
  simp only[oO,Bool.and_eq_true] at h
  exact .cons (sS h.1) (nZ h.2)
 |[],_::_,h=>by cases h
 |_::_,[],h=>by cases h
theorem qb:∀{l:List (Nat×Cap)}{env:Env}{K:List IV→Option R}{r:R},qn env l K=some r →
  ∃vs,K vs=some r∧∀{Q:Type}{K':Env→Option Q}{q:Q},DT ty l vs K'=some q→∃e,K' e=some q∧∀i v c,look e i=some (v,c)→∃c',look env i=some (v,c')∧bk c c'
 |[],env,K,r,h=>⟨[],h,fun {Q K' q} h'=>⟨[],(tr h').2,fun i v c e=>by cases e⟩⟩
 |(i,c)::l,env,K,r,h=>by
  unfold qn at h
  split at h
  ·rename_i v c' e
   obtain⟨hg,h⟩:=bc h
   have hc:=sS hg
   obtain⟨vs,h,hz⟩:=qb h
   refine⟨v::vs,h,fun {Q K' q} h'=>?_⟩
   unfold DT at h'
   obtain⟨v2,t,e2,h'⟩:=tu h'
   cases e2
   have h':=vh h'
   obtain⟨e3,h',hl⟩:=hz h'
   refine⟨_,h',fun j w d ej=>?_⟩
   rw[cB] at ej
   split at ej
   ·rename_i q;subst q;cases ej;exact⟨c',e,hc⟩
   ·exact hl j w d ej
  ·cases h
theorem jk:∀{l:List BX}{lb:List (Nat×BObj)}{K:List BObj→Option R}{r:R},jl lb l K=some r →
  ∃bs,K bs=some r∧∀{Q:Type}{K':List (Nat×BObj)→Option Q}{q:Q},uO l bs K'=some q→∃e,K' e=some q∧(∀k,hasB l k=true→BR (au e k) (au lb k))∧∀k,hasB l k=false→au e k=.none
 |[],lb,K,r,h=>⟨[],h,fun {Q K' q} h'=>by
   have:K' []=some q:=by
    unfold uO dL at h'
    exact h'
   exact⟨[],this,fun k e=>Bool.noConfusion e,fun k _=>rfl⟩⟩
 |.cells k sh cp::l,lb,K,r,h=>by
  unfold jl at h
  split at h
  ·rename_i cs cp' e
   obtain⟨hg,h⟩:=bc h
   have hc:=nZ hg
   obtain⟨bs,h,hz⟩:=jk h
   refine⟨.cells cs cp::bs,h,fun {Q K' q} h'=>?_⟩
   unfold uO at h'
   simp only[unb,asC] at h'
   have h':=pj h'
   obtain⟨e3,h',hl,hn⟩:=hz h'
   refine⟨_,h',fun j hj=>?_,fun j hj=>?_⟩
   ·rw[aU]
    split
    ·rename_i q;subst q;rw[e];exact BR.mk hc
    ·rename_i q
     refine hl j ?_
     simp only[hasB,BX.k,Bool.or_eq_true] at hj
     rcases hj with hj | hj
     ·exact absurd (jr hj) q
     ·exact hj
   ·simp only[hasB,BX.k,Bool.or_eq_false_iff] at hj
    rw[aU,if_neg (fun q=>by subst q;rw[Nat.beq_refl] at hj;cases hj.1)]
    exact hn j hj.2
  ·cases h
 |.iter k::l,lb,K,r,h=>by
  unfold jl at h
  split at h
  ·rename_i cs cp' e
   obtain⟨bs,h,hz⟩:=jk h
   refine⟨.iter cs cp'::bs,h,fun {Q K' q} h'=>?_⟩
   unfold uO at h'
   simp only[unb,EJ] at h'
   obtain⟨e3,h',hl,hn⟩:=hz h'
   refine⟨_,h',fun j hj=>?_,fun j hj=>?_⟩
   ·rw[aU]
    split
    ·rename_i q;subst q;rw[e];exact BR.refl _
    ·rename_i q
     refine hl j ?_
     simp only[hasB,BX.k,Bool.or_eq_true] at hj
     rcases hj with hj | hj
     ·exact absurd (jr hj) q
     ·exact hj
   ·simp only[hasB,BX.k,Bool.or_eq_false_iff] at hj
    rw[aU,if_neg (fun q=>by subst q;rw[Nat.beq_refl] at hj;cases hj.1)]
    exact hn j hj.2
  ·cases h
 |.dead k::l,lb,K,r,h=>by
  unfold jl at h
  obtain⟨bs,h,hz⟩:=jk h
  refine⟨bs,h,fun {Q K' q} h'=>?_⟩
  unfold uO at h'
  obtain⟨e3,h',hl,hn⟩:=hz h'
  refine⟨_,h',fun j hj=>?_,fun j hj=>?_⟩
  ·rw[aU]
   split
   ·exact .inl rfl
   ·rename_i q
    refine hl j ?_
    simp only[hasB,BX.k,Bool.or_eq_true] at hj
    rcases hj with hj | hj
    ·exact absurd (jr hj) q
    ·exact hj
  ·simp only[hasB,BX.k,Bool.or_eq_false_iff] at hj
   rw[aU,if_neg (fun q=>by subst q;rw[Nat.beq_refl] at hj;cases hj.1)]
   exact hn j hj.2
theorem vZ:∀{lb:List (Nat×BObj)}{bx:List BX},Ek lb bx=true→∀k,hasB bx k=false→au lb k=.none
 |[],_,_,_,_=>rfl
 |(j,o)::r,bx,h,k,hk=>by
  simp only[Ek,Bool.and_eq_true] at h
  rw[aU]
  split
  ·rename_i q;subst q;rw[h.1] at hk;cases hk
  ·exact vZ h.2 k hk
theorem Ce {a b:Ex}(h:D0 a b=true):a=b:=by
 cases a<;>cases b<;>first | rfl | cases h | (have:=jr h;subst this;rfl)
theorem E7 {a b:Ex}(h:D0 a b=false):a≠b:=by
 intro e;subst e
 cases a<;>simp[D0] at h
theorem ky:∀{l:List (Nat×Nat×Nat)}{env:Env}{X:Option R}{r:R},tb env l X=some r→X=some r∧∀i k o,(i,k,o)∈l→look env i=some (.pL k o,.any)
 |[],env,X,r,h=>⟨h,fun i k o hm=>by cases hm⟩
 |(i,k,o)::l,env,X,r,h=>by
  unfold tb at h
  split at h
  ·rename_i e
   obtain⟨hg,h2⟩:=bc h
   rw[Bool.and_eq_true] at hg
   have e1:=jr hg.1
   have e2:=jr hg.2
   obtain⟨h3,hl⟩:=ky h2
   rw[e1,e2] at e
   refine⟨h3,fun j k2 o2 hm=>?_⟩
   rcases List.mem_cons.1 hm with q | q
   ·cases q;exact e
   ·exact hl _ _ _ q
  ·cases h
theorem Dz {l:List (Nat×Nat×Nat)}{env:Env}{Q:Type}{X:Option Q}(h:∀i k o,(i,k,o)∈l→look env i=some (.pL k o,.any)):tb env l X=X:=by
 induction l with
 |nil=>rfl
 |cons p l ih =>
  obtain⟨i,k,o⟩:=p
  unfold tb
  rw[h i k o List.mem_cons_self]
  simp only[Nat.beq_refl,Bool.and_self,grd]
  exact ih fun i k o hm=>h i k o (List.mem_cons_of_mem _ hm)
theorem th:∀{l:List (Nat×Nat×Nat)}{e:Env}{i:Nat}{x:IV×Cap},look (BG l e) i=some x→(∃k o,(i,k,o)∈l∧x=(.pL k o,.any))∨look e i=some x
 |[],e,i,x,h=>.inr h
 |(j,k,o)::l,e,i,x,h=>by
  simp only[BG,cB] at h
  split at h
  ·rename_i q;subst q;cases h;exact .inl ⟨k,o,List.mem_cons_self,rfl⟩
  ·rcases th h with ⟨k2,o2,hm,e2⟩ | h
   ·exact .inl ⟨k2,o2,List.mem_cons_of_mem _ hm,e2⟩
   ·exact .inr h
theorem iI:∀{xp:XP}{e:Ex}{s:St}{K:LR→Option R}{r:R},jA xp e s K=some r→∃q,jF xp e s=some q∧K q=some r
 |x::xr,e,s,K,r,h=>by
  unfold jA at h
  unfold jF jA
  have h0:jF xr e s=jA xr e s some:=rfl
  split at h
  ·have gen:∀(l:List (Nat×Cap)) (env:Env) (K1:List IV→Option R) (K2:List IV→Option LR) (r:R),(∀vs,K1 vs=some r→∃q,K2 vs=some q∧K q=some r)→qn env l K1=some r→∃q,qn env l K2=some q∧K q=some r:=by
    intro l
    induction l with
    |nil=>intro env K1 K2 r hk h;exact hk _ h
    |cons p l ih =>
     intro env K1 K2 r hk h
     obtain⟨i,c⟩:=p
     unfold qn at h ⊢
     split at h
     ·obtain⟨hg,h⟩:=bc h
      obtain⟨q,h1,h2⟩:=ih _ _ (fun vs=>K2 (_::vs)) _ (fun vs hv=>hk _ hv) h
      refine⟨q,?_,h2⟩
      simp only[hg]
      exact h1
     ·cases h
   have genB:∀(l:List BX) (lb:List (Nat×BObj)) (K1:List BObj→Option R) (K2:List BObj→Option LR) (r:R),(∀vs,K1 vs=some r→∃q,K2 vs=some q∧K q=some r)→jl lb l K1=some r→∃q,jl lb l K2=some q∧K q=some r:=by
    intro l
    induction l with
    |nil=>intro env K1 K2 r hk h;exact hk _ h
    |cons p l ih =>
     intro lb K1 K2 r hk h
     cases p with
     |cells k sh cp =>
      unfold jl at h ⊢
      split at h
      ·obtain⟨hg,h⟩:=bc h
       obtain⟨q,h1,h2⟩:=ih _ _ (fun vs=>K2 (_::vs)) _ (fun vs hv=>hk _ hv) h
       refine⟨q,?_,h2⟩
       simp only[hg]
       exact h1
      ·cases h
     |iter k =>
      unfold jl at h ⊢
      split at h
      ·obtain⟨q,h1,h2⟩:=ih _ _ (fun vs=>K2 (_::vs)) _ (fun vs hv=>hk _ hv) h
       exact⟨q,h1,h2⟩
      ·cases h
     |dead k =>
      unfold jl at h ⊢
      exact ih _ _ K2 _ hk h
   obtain⟨h,hown⟩:=ky h
   rw[Dz hown]
   exact gen _ _ _ _ _ (fun vs hv=>genB _ _ _ _ _ (fun bs hb=>by
    obtain⟨hg,hb⟩:=bc hb
    exact⟨_,by rw[hg];rfl,hb⟩) hv) h
  ·exact iI h
theorem uX:∀{xp:XP}{e:Ex}{s:St}{ex:Ex}{vs:List IV}{bs:List BObj}{m:IM},jF xp e s=some (ex,vs,bs,m)→ex=e
 |x::r,e,s,ex,vs,bs,m,h=>by
  unfold jF jA at h
  split at h
  ·obtain⟨h,_⟩:=ky h
   obtain⟨vs',h,_⟩:=qb (ty:=[]) h
   obtain⟨bs',h,_⟩:=jk h
   obtain⟨_,h⟩:=bc h
   cases h;rfl
  ·exact uX h
theorem lR:∀{xp:XP}{e:Ex}{s b:St}{ex:Ex}{vs:List IV}{bs:List BObj}{m:IM}{K:Ex→St→Option R}{r:R},jF xp e s=some (ex,vs,bs,m)→vm ty xp ex vs bs m K=some r→Sub s b→∃s',Sub s' b∧K e s'=some r
 |x::xr,e,s,b,ex,vs,bs,m,K,r,h,h2,hs=>by
  have he:=uX h
  unfold jF jA at h
  unfold vm at h2
  split at h
  ·rename_i hx
   have hx:=Ce hx
   obtain⟨h,hown⟩:=ky h
   obtain⟨vs',h,hzs⟩:=qb (ty:=ty) h
   obtain⟨bs',h,hzb⟩:=jk h
   obtain⟨ha,h⟩:=bc h
   cases h
   rcases zz h2 with ⟨_,h2⟩ | ⟨hne,_⟩
   ·obtain⟨env,h2,henv⟩:=hzs h2
    obtain⟨lb,h2,hlb1,hlb2⟩:=hzb h2
    rw[←hx] at h2
    refine⟨{ env:=BG x.own env,lk:=[],lb:=lb,m:=s.m },⟨fun i v c el=>?_,fun p hp=>absurd hp List.not_mem_nil,hs.uq,fun k=>?_,hs.m⟩,h2⟩
    ·obtain⟨c1,e1,hc1⟩:∃c',look s.env i=some (v,c')∧bk c c':=by
      rcases th el with ⟨k,o,hm,e2⟩ | el
      ·cases e2;exact⟨_,hown _ _ _ hm,bk.refl _⟩
      ·exact henv i v c el
     obtain⟨c2,e2,hc2⟩:=hs.env _ _ _ e1
     exact⟨c2,e2,hc1.trans hc2⟩
    ·cases hk:hasB x.boxes k with
     |true=>exact (hlb1 k hk).trans (hs.lb k)
     |false =>
      show BR (au lb k) _
      rw[hlb2 k hk]
      have:=vZ ha k hk
      have hb:=hs.lb k
      rw[this] at hb
      exact hb
   ·exact absurd hx hne
  ·rename_i hx
   have hx:=E7 hx
   rcases zz h2 with ⟨q,_⟩ | ⟨_,h2⟩
   ·exact absurd (he▸q) hx
   ·exact lR h h2 hs
def Fu (v:IV) (keepL:List Nat):Bool:=match v with
 |.pL k _=>keepL.contains k
 |_=>true
theorem zR {sh:Sh}{v:IV}{keepL:List Nat}{X:Option R}{r:R}(h:BK sh v keepL X=some r):Fu v keepL=true∧X=some r:=by
 unfold BK at h
 split at h
 ·obtain⟨h1,h2⟩:=vN h
  refine⟨?_,h2⟩
  cases v<;>first | rfl | cases h1
 ·unfold Fo at h
  split at h
  ·exact bc h
  ·rename_i hn
   refine⟨?_,h⟩
   cases v<;>first | rfl | exact (hn _ _ rfl).elim
theorem rm {e e2:Env}{keepL:List Nat}{i o:Nat}{l:List (Nat×Nat)}{v:IV}{c:Cap}(h1:look e i=some (v,c)) (h2:cN e keepL l=some e2) (hk:Fu v keepL=true) :
  cN e keepL ((i,o)::l)=some ((i,v,match o with | 0=>.any | sz+1=>bK c v sz)::e2):=by
 simp only[cN,h1,h2]
 have fin:∀sz,(match bK c v sz with | .own s=>some ((i,v,Cap.own s)::e2) | .any=>some ((i,v,Cap.any)::e2))=some ((i,v,bK c v sz)::e2):=by
  intro sz
  cases bK c v sz<;>rfl
 cases v with
 |pL k off =>
  have hk:keepL.contains k=true:=hk
  simp only[hk]
  cases o with
  |zero=>rfl
  |succ sz=>exact fin sz
 |_=>cases o with
  |zero=>rfl
  |succ sz=>exact fin sz
theorem jI:∀{l:List (Nat×Nat)}{keepL:List Nat}{K:Env→Option R}{r:R},nz ty s.env keepL l K=some r→Sub s b→∃e,cN b.env keepL l=some e∧K e=some r
 |[],keepL,K,r,h,_=>⟨[],rfl,h⟩
 |(i,o)::l,keepL,K,r,h,hs=>by
  unfold nz at h
  split at h
  ·rename_i v c e
   obtain⟨cb,eb,hcb⟩:=hs.env _ _ _ e
   obtain⟨hk,h⟩:=zR h
   cases o with
   |zero =>
    simp only at h
    obtain⟨e2,h2,h⟩:=jI h hs
    exact⟨_,rm eb h2 hk,h⟩
   |succ sz =>
    simp only at h
    split at h
    ·obtain⟨hz,h⟩:=bc h
     have hcz:=iS hcb (fun q=>by subst q;cases hz)
     subst hcz
     obtain⟨e2,h2,h⟩:=jI h hs
     exact⟨_,rm eb h2 hk,h⟩
    ·have hc:=hJ hcb
     subst hc
     obtain⟨hv,h⟩:=vQ h
     subst hv
     obtain⟨e2,h2,h⟩:=jI h hs
     exact⟨_,rm eb h2 hk,h⟩
  ·cases h
theorem kB:∀{own:List (Nat×Nat×Nat)}{k:Nat}{cs:List IV}{cp cp':List Cap}{K:List Cap→Option R}{r:R},su k cs own cp K=some r→CapsR cp cp'→∃cp1,K cp1=some r∧CapsR cp1 (cS k cs own cp')
 |[],k,cs,cp,cp',K,r,h,hc=>⟨cp,h,hc⟩
 |(k',o,sz)::own,k,cs,cp,cp',K,r,h,hc=>by
  unfold su at h
  unfold cS
  split at h
  ·rename_i hk
   rw[if_pos (jr hk)]
   have hg:=hc.getD o
   split at h
   ·rename_i z ez
    rw[ez] at hg
    obtain⟨hz,h⟩:=bc h
    have hcz:=iS hg (fun q=>by subst q;cases hz)
    refine kB h ?_
    rw[hcz]
    exact hc.set o (bk.refl _)
   ·rename_i ez
    rw[ez] at hg
    have hcz:=hJ hg
    obtain⟨en,h⟩:=vQ h
    refine kB h ?_
    rw[hcz,en]
    exact hc.set o (bk.refl _)
  ·rename_i hk
   rw[if_neg (fun q=>by subst q;rw[Nat.beq_refl] at hk;cases hk)]
   exact kB h hc
theorem jz:∀{l:List Nat}{own:List (Nat×Nat×Nat)}{K:List (Nat×BObj)→Option R}{r:R},nh s.lb own l K=some r→Sub s b→∃lb1 lb2,K lb1=some r∧cQ b.lb own l=some lb2∧∀k,BR (au lb1 k) (au lb2 k)
 |[],own,K,r,h,_=>⟨[],[],h,rfl,fun k=>BR.refl _⟩
 |k::l,own,K,r,h,hs=>by
  unfold nh at h
  have hb:=hs.lb k
  split at h
  ·rename_i cs cp e
   rw[e] at hb
   obtain⟨cp',eb,hc⟩:=hb.cells
   obtain⟨cp1,h,hc1⟩:=kB (own:=own) h hc
   obtain⟨lb1,lb2,h,h2,hl⟩:=jz h hs
   refine⟨_,(k,.cells cs (cS k cs own cp'))::lb2,h,?_,?_⟩
   ·simp only[cQ,h2,eb,an]
   ·intro j
    simp only[aU]
    split
    ·exact BR.mk hc1
    ·exact hl j
  ·rename_i t p e
   rw[e] at hb
   have eb:=hb.iter
   obtain⟨lb1,lb2,h,h2,hl⟩:=jz h hs
   refine⟨_,(k,.iter t p)::lb2,h,?_,?_⟩
   ·simp only[cQ,h2,eb]
   ·intro j
    simp only[aU]
    split
    ·exact BR.refl _
    ·exact hl j
  ·rename_i e
   rw[e] at hb
   have eb:=hb.none
   obtain⟨lb1,lb2,h,h2,hl⟩:=jz h hs
   refine⟨_,lb2,h,?_,hl⟩
   simp only[cQ,h2,eb]
  ·cases h
theorem nB {h:Head}{K:St→Option R}{r:R}(hh:yw ty s h K=some r) (hs:Sub s b):∃b2,b.head h=some b2∧∃s2,Sub s2 b2∧K s2=some r:=by
 unfold yw at hh
 obtain⟨e,h1,hh⟩:=jI hh hs
 obtain⟨lb1,lb2,hh,h2,hl⟩:=jz hh hs
 refine⟨_,by simp only[St.head,h1,h2];rfl,_,?_,hh⟩
 exact⟨fun i v c el=>⟨c,el,bk.refl _⟩,fun p hp=>absurd hp List.not_mem_nil,rfl,hl,hs.m⟩
variable {tab:Tab}{ae:qp}
theorem sn {x:Option LR}{K:Ex→List IV→List BObj→IM→Option R}{r:R}(h:cI x K=some r):∃ex vs bs m,x=some (ex,vs,bs,m)∧K ex vs bs m=some r:=by
 unfold cI at h
 split at h
 ·exact⟨_,_,_,_,rfl,h⟩
 ·cases h
theorem fC:∀(c:ICode) {R:Type}{pl:Pl}{s b:St}{K:Ex→St→Option R}{r:R},c.den ty (dM tab ae) R pl s K=some r→Sub s b →
  ∃e b',c.run (dM tab ae) (eT tab ae) b=some (e,b')∧∃s',Sub s' b'∧K e s'=some r
 |.skip,R,pl,s,b,K,r,h,hs=>⟨_,b,rfl,s,hs,h⟩
 |.ops l,R,pl,s,b,K,r,h,hs=>by
  obtain⟨b1,e1,s1,hs1,h⟩:=tS (K:=fun st=>K .normal st) h hs
  exact⟨_,b1,by simp only[ICode.run,e1],s1,hs1,h⟩
 |.draw l _,R,pl,s,b,K,r,h,hs=>by
  obtain⟨b1,e1,s1,hs1,h⟩:=tS (K:=fun st=>K .normal st) h hs
  exact⟨_,b1,by simp only[ICode.run,e1,hs.uq],s1,hs1,h⟩
 |.seq a c,R,pl,s,b,K,r,h,hs=>by
  have key:∀{s b:St},Sub s b→∀{e:Ex}{b0:St},a.run (dM tab ae) (eT tab ae) b0=some (e,b)→(match e with | .normal=>c.den ty (dM tab ae) R pl.b s K | e=>K e s)=some r →
    ∃e b',(ICode.seq a c).run (dM tab ae) (eT tab ae) b0=some (e,b')∧∃s',Sub s' b'∧K e s'=some r:=by
   intro s b hs e b0 hr hk
   cases e with
   |normal =>
    obtain⟨e2,b2,h2,s2,hs2,hk⟩:=fC c hk hs
    exact⟨e2,b2,by simp only[ICode.run,hr,h2],s2,hs2,hk⟩
   |exit i=>exact⟨_,b,by simp only[ICode.run,hr],s,hs,hk⟩
   |ret=>exact⟨_,b,by simp only[ICode.run,hr],s,hs,hk⟩
  simp only[ICode.den] at h
  split at h
  ·obtain⟨ex,vs,bs,m,hx,h⟩:=sn h
   obtain⟨e,b1,hr,s1,hs1,hc⟩:=fC a hx hs
   obtain⟨s2,hs2,h⟩:=lR hc h hs1
   exact key hs2 hr h
  ·obtain⟨e,b1,hr,s1,hs1,h⟩:=fC a h hs
   exact key hs1 hr h
 |.cond d a c,R,pl,s,b,K,r,h,hs=>by
  simp only[ICode.den] at h
  split at h
  ·rename_i j
   split at h
   ·rename_i x cc e
    obtain⟨cb,eb,_⟩:=hs.env _ _ _ e
    rcases js h with ⟨q,h⟩ | ⟨q,h⟩
    ·subst q
     obtain⟨e2,b2,hr,s2,hs2,h⟩:=fC a h (hs.refine e)
     exact⟨e2,b2,by simp only[ICode.run,eX eb,hr],s2,hs2,h⟩
    ·subst q
     obtain⟨e2,b2,hr,s2,hs2,h⟩:=fC c h (hs.refine e)
     exact⟨e2,b2,by simp only[ICode.run,eX eb,hr],s2,hs2,h⟩
   ·cases h
  ·split at h
   ·obtain⟨e2,b2,hr,s2,hs2,h⟩:=fC a h hs
    exact⟨e2,b2,by simp only[ICode.run,Arg.rd,hr],s2,hs2,h⟩
   ·obtain⟨e2,b2,hr,s2,hs2,h⟩:=fC c h hs
    exact⟨e2,b2,by simp only[ICode.run,Arg.rd,hr],s2,hs2,h⟩
   ·cases h
 |.block id c,R,pl,s,b,K,r,h,hs=>by
  simp only[ICode.den] at h
  obtain⟨e,b1,hr,s1,hs1,h⟩:=fC c h hs
  cases e with
  |normal=>exact⟨_,b1,by simp only[ICode.run,hr],s1,hs1,h⟩
  |ret=>exact⟨_,b1,by simp only[ICode.run,hr],s1,hs1,h⟩
  |exit i =>
   simp only at h
   split at h
   ·rename_i q
    have q:=jr q
    exact⟨_,b1,by simp only[ICode.run,hr,if_pos q],s1,hs1,h⟩
   ·rename_i q
    have q:i≠id:=fun e=>by subst e;rw[Nat.beq_refl] at q;cases q
    exact⟨_,b1,by simp only[ICode.run,hr,if_neg q],s1,hs1,h⟩
 |.loop hd c,R,pl,s,b,K,r,h,hs=>by
  simp only[ICode.den] at h
  split at h
  ·rename_i xp _
   obtain⟨b2,hb2,s2,hs2,h⟩:=nB h hs
   obtain⟨ex,vs,bs,m,hx,h⟩:=sn h
   have main:=iter.partial_correctness (fun s=>c.den ty (dM tab ae) (St⊕LR) pl.a s (iU ty hd xp))
    (fun a q=>∀b,Sub a b→∃e b',lc tab ae hd c (some b)=some (e,b')∧∃s',Sub s' b'∧jF xp e s'=some q) (by
     intro it ih a q hq b hs
     split at hq
     ·rename_i a' ha
      obtain⟨e,b1,hr,s1,hs1,hk⟩:=fC c ha hs
      cases e with
      |normal =>
       unfold iU at hk
       obtain⟨b3,hb3,s3,hs3,hk⟩:=nB hk hs1
       cases hk
       obtain⟨e4,b4,hl,s4,hs4,hc⟩:=ih _ _ hq _ hs3
       refine⟨e4,b4,?_,s4,hs4,hc⟩
       rw[cM,hr]
       simp only[hb3]
       exact hl
      |exit i=>simp only[iU] at hk;obtain⟨q,_,hk⟩:=iI hk;cases hk
      |ret=>simp only[iU] at hk;obtain⟨q,_,hk⟩:=iI hk;cases hk
     ·rename_i q' ha
      cases hq
      obtain⟨e,b1,hr,s1,hs1,hk⟩:=fC c ha hs
      cases e with
      |normal =>
       unfold iU at hk
       obtain⟨b3,hb3,s3,hs3,hk⟩:=nB hk hs1
       cases hk
      |exit i =>
       simp only[iU] at hk
       obtain⟨q,hc,hk⟩:=iI hk
       cases hk
       exact⟨_,b1,by rw[cM,hr],s1,hs1,hc⟩
      |ret =>
       simp only[iU] at hk
       obtain⟨q,hc,hk⟩:=iI hk
       cases hk
       exact⟨_,b1,by rw[cM,hr],s1,hs1,hc⟩
     ·cases hq) s2 _ hx b2 hs2
   obtain⟨e,b3,hl,s3,hs3,hc⟩:=main
   obtain⟨s4,hs4,h⟩:=lR hc h hs3
   refine⟨e,b3,?_,s4,hs4,h⟩
   show eT tab ae hd c b=_
   rw[aS,hb2]
   exact hl
  ·cases h
 |.rangeF _ _ _,R,pl,s,b,K,r,h,hs=>by simp only[ICode.den] at h;cases h
 |.exit id,R,pl,s,b,K,r,h,hs=>⟨_,b,rfl,s,hs,h⟩
 |.ret,R,pl,s,b,K,r,h,hs=>⟨_,b,rfl,s,hs,h⟩
theorem kD:∀{l:List RV}{K:List IV→Option R}{r:R},nT s l K=some r→Sub s b→∃vs,bb b l=some vs∧K vs=some r
 |[],K,r,h,_=>⟨[],rfl,h⟩
 |.t i::l,K,r,h,hs=>by
  unfold nT at h
  split at h
  ·rename_i v c e
   obtain⟨cb,eb,_⟩:=hs.env _ _ _ e
   obtain⟨vs,e2,h⟩:=kD h hs
   exact⟨_,by simp only[bb,e2,bM,eb],h⟩
  ·cases h
 |.cell i agg n::l,K,r,h,hs=>by
  unfold nT at h
  split at h
  ·rename_i k off c e
   obtain⟨cb,eb,_⟩:=hs.env _ _ _ e
   split at h
   ·rename_i cs cp ek
    have hb:=hs.lb k
    rw[ek] at hb
    obtain⟨cp',ekb,_⟩:=hb.cells
    obtain⟨v,h,hv⟩:=md h
    obtain⟨vs,e2,h⟩:=kD h hs
    have:=pd (lb:=b.lb) (m:=b.m) (p:=.pL k off) (n:=n) (fun n=>by simp only[aK,ekb]) hv
    exact⟨_,by simp only[bb,e2,bM,eb,this],h⟩
   ·cases h
  ·rename_i p c hn e
   obtain⟨cb,eb,_⟩:=hs.env _ _ _ e
   obtain⟨v,h,hv⟩:=zn h
   obtain⟨vs,e2,h⟩:=kD h hs
   rw[hs.m] at hv
   exact⟨_,by simp only[bb,e2,bM,eb,hv b.lb],h⟩
  ·cases h
theorem a8 {f:FuncId}{fn:IFn}(hp:ae f=none) (hf:tab.fns f=some fn) {pl:Pl}{args:List IV}{m:IM}{r:IV×IM}(h:fK ty pl fn (dM tab ae) args m=some r):dM tab ae (.f f) args m=some r:=by
 rw[bf hp hf]
 unfold fK at h
 split at h
 ·rename_i hn
  have hn:=jr hn
  obtain⟨e,b1,hr,s1,hs1,h⟩:=fC fn.body h (b:={ env:=bV 0 args,lk:=[],lb:=[],m:=m }) ⟨fun i v c el=>⟨c,el,bk.refl _⟩,fun p hp=>absurd hp List.not_mem_nil,rfl,fun k=>BR.refl _,rfl⟩
  unfold IFn.call
  rw[if_neg (by simp[hn]),hr]
  have hrets:∀{X:Option (IV×IM)},(nT s1 fn.rets fun vs=>IA m s1.m vs)=some r→(match bb b1 fn.rets with
   |some [v]=>settle m b1.m v
   |some vs=>settle m b1.m (.tup vs)
   |none=>none)=some r:=by
   intro X hx
   obtain⟨vs,e2,hx⟩:=kD hx hs1
   rw[e2]
   unfold IA at hx
   rw[hs1.m] at hx
   match vs,hx with
   |[v],hx=>exact hx
   |[],hx=>exact hx
   |_::_::_,hx=>exact hx
  cases e with
  |exit i=>cases h
  |normal=>simp only;rw[if_pos (.inl trivial)];exact hrets (X:=none) h
  |ret=>simp only;rw[if_pos (.inr trivial)];exact hrets (X:=none) h
 ·cases h
end Go.Idl
namespace Go.Idl
noncomputable def nxt {α β:Type}(f:α→Option (α⊕β)) (x:Option (α⊕β)):Option β:=match x with
 |some (.inl a)=>iter f a
 |some (.inr b)=>some b
 |none=>none
theorem eH {α β:Type}(f:α→Option (α⊕β)) (a:α):iter f a=nxt f (f a):=iter.eq_1 f a
end Go.Idl
namespace Go.Idl
variable {R:Type}
theorem bn (b:Bool) (x y:Option R):aR b x y=if b=true then x else y:=by cases b<;>rfl
theorem bU (b:Bool) (x:Option R):grd b x=if b=true then x else none:=by cases b<;>rfl
theorem cC (k:IntKind) (n:Int) (K:Int→Option R):asI k (.int k n) K=K n:=by simp[asI,grd]
theorem cU (b:Bool) (K:Bool→Option R):asB (.bool b) K=K b:=rfl
theorem cV (s:List UInt8) (K:List UInt8→Option R):asS (.str s) K=K s:=rfl
theorem c6 (s:List IV) (K:List IV→Option R):asA (.agg s) K=K s:=rfl
theorem dd (s:List IV) (K:List IV→Option R):asT (.tup s) K=K s:=rfl
theorem c7 (i o:Nat) (K:Nat→Nat→Option R):asP (.pB i o) K=K i o:=rfl
theorem cf (i:Nat) (K:Nat→Option R):gE (.pB i 0) K=K i:=rfl
theorem bG (v:IV) (t:List IV) (K:IV→List IV→Option R):unc (v::t) K=K v t:=rfl
theorem ct (K:Option R):unn [] K=K:=rfl
theorem bC (v:BObj) (t:List BObj) (K:BObj→List BObj→Option R):unb (v::t) K=K v t:=rfl
theorem bF (K:Option R):dL [] K=K:=rfl
theorem da (cs:List IV) (cp:List Cap) (K:List IV→Option R):asC (.cells cs cp) K=K cs:=rfl
theorem cv (s:List UInt8) (p:Nat) (K:List UInt8→Nat→Option R):EJ (.iter s p) K=K s p:=rfl
theorem bB (X:Option R):xn .nilSlice X=X:=rfl
theorem dh (e ex:Ex) (A B:Option R):exC e ex A B=if ex=e then A else B:=by
 unfold exC
 by_cases h:ex=e
 ·rw[decide_eq_true h,if_pos h]
 ·rw[decide_eq_false h,if_neg h]
theorem bD (ex:Ex) (vs:List IV) (bs:List BObj) (m:IM) (K:Ex→List IV→List BObj→IM→Option R):cI (some (ex,vs,bs,m)) K=K ex vs bs m:=rfl
theorem aN (K:Ex→List IV→List BObj→IM→Option R):cI none K=none:=rfl
theorem aE {o:POp}{vs:List IV}{v:IV}(h:o.ev vs=some v) (K:IV→Option R):evC o vs K=K v:=by simp[evC,h]
theorem kx {v:IV}{n:Nat}(h:v.refs=some n) (X:Option R):gq v X=X:=by
 unfold gq
 cases v<;>first | rfl | (simp[IV.refs,IV.plain] at h)
theorem ah {v:IV}{n:Nat}(h:v.refs=some n) (X:Option R):bm v X=X:=by simp[bm,h]
theorem aX (X:Option R):ou [] X=X:=rfl
theorem aO (v:IV) (r:List IV) (X:Option R):ou (v::r) X=bm v (ou r X):=rfl
theorem aM (X:Option R):fU [] X=X:=rfl
theorem aA (v:IV) (r:List IV) (X:Option R):fU (v::r) X=nM v (fU r X):=rfl
theorem gR {v:IV}(h:v.plain=true) (X:Option R):nM v X=X:=by simp[nM,h]
theorem gm {l:List IV}(h:l.all IV.plain=true) (X:Option R):fU l X=X:=by
 induction l with
 |nil=>rfl
 |cons v r ih =>
  rw[List.all_cons,Bool.and_eq_true] at h
  rw[aA,gR h.1,ih h.2]
theorem eW {m:IM}{id:Nat}{cs:List IV}{cp:List Cap}(h:m.get id=.cells cs cp) (K:List IV→List Cap→Option R):eS m id K=K cs cp:=by simp[eS,h]
theorem dY {cs:List IV}{off n:Nat}{v:IV}(h:cs[off]?=some v) (K:IV→Option R):dD false cs off n K=K v:=by simp[dD,h]
theorem iF {cs:List IV}{off n:Nat}{r:List IV}(h:cut cs off n=some r) (K:IV→Option R):dD true cs off n K=K (.agg r):=by simp[dD,h]
theorem dm (m:IM) (agg:Bool) (n off:Nat) (row:List IV) (K:IV→Option R):ldP m agg n (.pI row off) K=dD agg row off n K:=rfl
theorem dc (m:IM) (agg:Bool) (n id off:Nat) (K:IV→Option R):ldP m agg n (.pB id off) K=eS m id fun cs _=>dD agg cs off n K:=rfl
theorem cm {α β:Type}(f:α→Option (α⊕β)) (a:α):nxt f (some (.inl a))=iter f a:=rfl
theorem cg {α β:Type}(f:α→Option (α⊕β)) (b:β):nxt f (some (.inr b))=some b:=rfl
theorem dj {α β:Type}(f:α→Option (α⊕β)) (c:Prop) [Decidable c] (x y:Option (α⊕β)):nxt f (if c then x else y)=if c then nxt f x else nxt f y:=by split<;>rfl
def tyG (l:List (Sh×List Nat)):Tys:=l.flatMap fun p=>p.2.map fun i=>(i,p.1)
noncomputable def uV (l:List IV) (K:Int→List UInt8→IV→IV→List IV→Option R):Option R:=unc l fun v l=>asI .i64 v fun n=>unc l fun v l=>asS v fun s=>unc l fun v l=>unc l fun w l=>K n s v w l
noncomputable def uI (k:IntKind) (l:List IV) (K:Int→List IV→Option R):Option R:=unc l fun v l=>asI k v fun n=>K n l
theorem cn (n:Int) (s:List UInt8) (v w:IV) (l:List IV) (K:Int→List UInt8→IV→IV→List IV→Option R):uV (.int .i64 n :: .str s::v::w::l) K=K n s v w l:=by simp[uV,unc,asS,asI,grd]
theorem cu (k:IntKind) (n:Int) (l:List IV) (K:Int→List IV→Option R):uI k (.int k n::l) K=K n l:=by simp[uI,unc,asI,grd]
@[reducible] noncomputable def gI (m:IM) (r off:Nat) (K:Int→Option R):Option R:=eS m r fun l _=>dD false l off 1 fun v=>asI .i64 v K
@[reducible] noncomputable def gS (m:IM) (r off:Nat) (K:List UInt8→Option R):Option R:=eS m r fun l _=>dD false l off 1 fun v=>asS v K
def az (m:IM) (id:Nat) (o:BObj):IM:=⟨m.bs.set id o,m.esc⟩
theorem mS {m:IM}{id:Nat}{cs:List IV}{cp:List Cap}(h:m.get id=.cells cs cp):id<m.size:=by
 rcases Nat.lt_or_ge id m.size with q | q
 ·exact q
 ·rw[IM.get,List.getD_eq_getElem?_getD,List.getElem?_eq_none q] at h;cases h
theorem jt {m:IM}{id:Nat}(h:id<m.size) (o:BObj):(az m id o).get id=o:=by
 have h':id<m.bs.length:=h
 simp[az,IM.get,List.getD_eq_getElem?_getD,h']
theorem aj (m:IM) (id:Nat) (o o':BObj):az (az m id o) id o'=az m id o':=by simp[az]
theorem zI (m:IM) (id:Nat) (o:BObj):(az m id o).size=m.size:=by simp[az,IM.size]
theorem CH (m:IM) (id:Nat) (o:BObj):(az m id o).esc=m.esc:=rfl
theorem jq {m:IM}{id:Nat}{o:BObj}(h:m.get id=o) (hl:id<m.size):az m id o=m:=by
 have hl':id<m.bs.length:=hl
 have:m.bs[id]=o:=by
  rw[←h,IM.get,List.getD_eq_getElem?_getD,List.getElem?_eq_getElem hl']
  rfl
 rw[az,←this,List.set_getElem_self]
theorem i5 {m:IM}{id off:Nat}{vs:List IV}{c:Cap}{cs:List IV}{cp:List Cap}{r:Nat}(h:m.get id=.cells cs cp) (hr:al vs=some r) (hle:r≤id) (hf:off+vs.length≤cs.length) (K:IM→Option R) :
  stP m (.pB id off) vs c K=K (az m id (.cells (over cs off vs) (aC cp off vs.length c))):=by
 unfold stP
 simp only[sk,ne_eq,not_true,if_false,h,hr,if_pos hf,if_pos hle]
 rfl
theorem om {m m':IM}{v:IV}(hv:v.refsDeep=some 0) (hs:m'.size=m.size) (he:m'.esc=m.esc):settle m m' v=some (v,m'):=by
 unfold settle
 have:m'.bs.take m.size=m'.bs:=List.take_of_length_le (by rw[IM.size] at hs;omega)
 simp only[hv,an,he,this,if_true,Nat.zero_le]
 rw[←he]
theorem aL {m:IM}{v:IV}(hv:v.refsDeep=some 0):settle m m v=some (v,m):=om hv rfl rfl
theorem aB {m:IM}{v:IV}{id:Nat}{o:BObj}(hv:v.refsDeep=some 0):settle m (az m id o) v=some (v,az m id o):=om hv (zI _ _ _) (CH _ _ _)
theorem qt (m:IM) (o:BObj):(bJ m o).size=m.size+1:=by simp[bJ,IM.size]
theorem gK (m:IM) (o:BObj):(bJ m o).get m.size=o:=by simp[bJ,IM.get,IM.size,List.getD_eq_getElem?_getD]
theorem jy {m:IM}{id:Nat}(h:id<m.size) (o:BObj):(bJ m o).get id=m.get id:=by
 have h':id<m.bs.length:=h
 simp[bJ,IM.get,List.getD_eq_getElem?_getD,List.getElem?_append_left h']
theorem eJ (m:IM) (o o':BObj):az (bJ m o) m.size o'=bJ m o':=by simp[az,bJ,IM.size]
theorem gf {m:IM}{v:IV}{o:BObj}(hv:v.refsDeep=some 0):settle m (bJ m o) v=some (v,m):=by
 unfold settle
 simp[hv,an,bJ,IM.size]
theorem Dd {call:aQ}{c:Callee}{vs:List IV}{m m':IM}{v:IV}(h:call c vs m=some (v,m')) (hr:(al (vs.flatMap IV.cells)).isSome=true) (K:IV→IM→Option R):aw call c vs [] m K=K v m':=by
 obtain⟨n,hn⟩:=Option.isSome_iff_exists.1 hr
 simp[aw,hn,cH,h,aT]
theorem aP:(al []).isSome=true:=id rfl
theorem ay (v:IV) (r:List IV):(al (v::r)).isSome=(v.refs.isSome&&(al r).isSome):=by
 simp only[al]
 cases v.refs<;>cases al r<;>rfl
theorem bw (k:IntKind) (n:Int):(IV.int k n).refs=some 0:=id rfl
theorem aY (n:Bool):(IV.bool n).refs=some 0:=id rfl
theorem bE (n:List UInt8):(IV.str n).refs=some 0:=id rfl
theorem bu:IV.nilSlice.refs=some 0:=id rfl
theorem cr (r:List IV) (n:Nat):(IV.sl r n).refs=some 0:=id rfl
theorem cP (i o:Nat):(IV.pB i o).refs=some (i+1):=id rfl
theorem cO (f:FuncId):(IV.func f [] []).refs=some 0:=id rfl
theorem bo (k:IntKind) (n:Int):(IV.int k n).cells=[.int k n]:=id rfl
theorem aZ (n:Bool):(IV.bool n).cells=[.bool n]:=id rfl
theorem bp (n:List UInt8):(IV.str n).cells=[.str n]:=id rfl
theorem bP (i o:Nat):(IV.pB i o).cells=[.pB i o]:=id rfl
theorem bq (l:List IV):(IV.agg l).cells=l:=id rfl
theorem bR (f:FuncId):(IV.func f [] []).cells=[.func f [] []]:=id rfl
theorem bt:IV.nilSlice.cells=[.nilSlice]:=id rfl
theorem bQ (r:List IV) (n:Nat):(IV.sl r n).cells=[.sl r n]:=id rfl
theorem cZ:al []=some 0:=id rfl
theorem bY (v:IV) (r:List IV):(al (v::r)=some 0)=(v.refs=some 0∧al r=some 0):=by
 simp only[al,eq_iff_iff]
 cases v.refs<;>cases al r<;>simp<;>omega
theorem eC {v:IV}(h:v.refs=some 0):v.refsDeep=some 0:=by
 cases v<;>first | exact h | (simp[IV.refs,IV.plain] at h)
theorem dk (k:IntKind) (n:Int):(IV.int k n).refsDeep=some 0:=id rfl
theorem bZ (n:Bool):(IV.bool n).refsDeep=some 0:=id rfl
theorem dg (n:List UInt8):(IV.str n).refsDeep=some 0:=id rfl
theorem cY (l:List IV):((IV.agg l).refsDeep=some 0)=(al l=some 0):=id rfl
theorem c9 (l:List IV):((IV.tup l).refsDeep=some 0)=(IV.refsDeep.go l=some 0):=id rfl
def elR:IV→Option Nat
 |.agg cs=>al cs
 |v=>v.refs
theorem de:IV.refsDeep.go []=some 0:=id rfl
theorem cx (v:IV) (r:List IV):(IV.refsDeep.go (v::r)=some 0)=(elR v=some 0∧IV.refsDeep.go r=some 0):=by
 have e:IV.refsDeep.go (v::r)=match elR v,IV.refsDeep.go r with | some a,some b=>some (Nat.max a b) | _,_=>none:=by
  cases v<;>rfl
 rw[e,eq_iff_iff]
 cases elR v<;>cases IV.refsDeep.go r<;>simp<;>omega
theorem cd (l:List IV):elR (.agg l)=al l:=id rfl
theorem ck (k:IntKind) (n:Int):elR (.int k n)=some 0:=id rfl
theorem bA (n:Bool):elR (.bool n)=some 0:=id rfl
theorem b8 (n:List UInt8):elR (.str n)=some 0:=id rfl
theorem c8 {v:IV}(h:v.refs=some 0):elR v=some 0:=by
 cases v<;>first | exact h | (simp[IV.refs,IV.plain] at h)
end Go.Idl
