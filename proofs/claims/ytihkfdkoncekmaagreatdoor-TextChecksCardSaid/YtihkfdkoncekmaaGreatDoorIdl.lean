/- This text proves what the interpreter returns at the functions for strings, numbers and fields of values; it has no conditions. -/
import Derived.Test.YtihkfdkoncekmaaGreatDoorIdg
import Derived.KernelRfl
import Derived.Test.YtihkfdkoncekmaaGreatDoorIde
import Derived.Test.YtihkfdkoncekmaaGreatDoorIda
set_option linter.unusedSimpArgs false
set_option linter.unusedVariables false
namespace Go.Idl
def u7:Option (IV×IM)→Bool
 |some (.bool true,⟨[],0⟩)=>true
 |_=>false
theorem J6:u7 ((sem tab ae 400).call (.f 10) [] ⟨[],0⟩)=true:=by kernel_rfl
end Go.Idl
namespace Go.Idl
noncomputable abbrev cw:=dT tab ae
def HN (m:IM) (v:IV):Option (IV×IM):=settle m m v
theorem cJ {m:IM}{v:IV}:settle m m v=if v.refsDeep=some 0 then some (v,m) else HN m v:=by
 split
 ·rename_i h
  unfold settle
  simp[h,ay,IM.size]
 ·rfl
theorem w64 {x:Int}(h1:-9223372036854775808≤x) (h2:x≤9223372036854775807):IntKind.i64.wrap x=x:=by
 simp only[IntKind.wrap,IntKind.bits,IntKind.signed];simp;split<;>omega
theorem w8 {x:Int}(h1:0≤x) (h2:x≤255):IntKind.u8.wrap x=x:=by
 simp only[IntKind.wrap,IntKind.bits,IntKind.signed];simp;omega
theorem fj {k:IntKind}{a b:Int}:fg .add k a b=some (.int k (k.wrap (a+b))):=rfl
theorem fD {k:IntKind}{a b:Int}:fg .sub k a b=some (.int k (k.wrap (a-b))):=rfl
theorem fG {k:IntKind}{a b:Int}:fg .mul k a b=some (.int k (k.wrap (a*b))):=rfl
theorem fC {k:IntKind}{a b:Int}:fg .quo k a b=if b=0 then none else some (.int k (k.wrap (a.tdiv b))):=rfl
theorem fB {k:IntKind}{a b:Int}:fg .rem k a b=if b=0 then none else some (.int k (a.tmod b)):=rfl
theorem fE {k:IntKind}{a b:Int}:fg .lss k a b=some (.bool (decide (a<b))):=rfl
theorem fl {k:IntKind}{a b:Int}:fg .leq k a b=some (.bool (decide (a≤b))):=rfl
theorem fq {k:IntKind}{a b:Int}:fg .gtr k a b=some (.bool (decide (b<a))):=rfl
theorem fx {k:IntKind}{a b:Int}:fg .geq k a b=some (.bool (decide (b≤a))):=rfl
theorem fI {k:IntKind}{a b:Int}:fg .eql k a b=some (.bool (a==b)):=rfl
theorem fm {k:IntKind}{a b:Int}:fg .neq k a b=some (.bool (a != b)):=rfl
theorem fH {a:Int}:vn .shl .i64 a 6=some (.int .i64 (IntKind.i64.wrap (a*64))):=rfl
attribute [local go_sem] oA gA vA wA nA fA dA eA oV oW oN oD oF IFn.call ICode.run aU IOp.run IOp.run0 gate IK.ok aX da OTag.hits IK.run Arg.rd look aE rdAll POp.ev dy fj fD fG fC fB fE fl fq fx fI fm cY fH fh b8 St.put lkSlot lkL lkB lkC ay bM IK.link b9 cN St.drop St.capAt St.owner linkOf cM bV cJ IV.refsDeep IV.refsDeep.go IV.refs IV.refs.go al IV.plain cQ aC de bG IV.cells IV.isU IV.isL cZ cS over dz cut eqS aW bnd dS ee du dE dB cO aa aV eB dP a7 aH dH c5 a6 uqB bE St.head dj dh cI dn
def dt (n:Int):Bool:=decide (0≤n)&&decide (n≤1114111)&&(decide (n<55296)||decide (57343<n))
theorem f64:tab.fns 64=some i64:=by rfl
theorem p64:ae 64=none:=by rfl
theorem En (n:Int) (m:IM):cw (.f 64) [.int .i64 n] m=some (.bool (dt n),m):=by
 unfold cw;rw[bY p64 f64]
 by_cases h1:0≤n<;>by_cases h2:n≤1114111<;>by_cases h3:n<55296<;>by_cases h4:57343<n <;>
 simp[i64,go_sem,dt,h1,h2,h3,h4]
def iq (n:Nat):List UInt8 :=
 if n<128 then [UInt8.ofNat n]
 else if n<2048 then [UInt8.ofNat (192+n/64),UInt8.ofNat (128+n%64)]
 else if n<65536 then [UInt8.ofNat (224+n/4096),UInt8.ofNat (128+n/64%64),UInt8.ofNat (128+n%64)]
 else [UInt8.ofNat (240+n/262144),UInt8.ofNat (128+n/4096%64),UInt8.ofNat (128+n/64%64),UInt8.ofNat (128+n%64)]
theorem td {a b:Int}(h:0≤a):a.tdiv b=a/b:=Int.tdiv_eq_ediv_of_nonneg h
theorem tm {a b:Int}(h:0≤a):a.tmod b=a%b:=Int.tmod_eq_emod_of_nonneg h
theorem f42:tab.fns 42=some i42:=by rfl
theorem p42:ae 42=none:=by rfl
set_option maxRecDepth 100000 in
theorem Fo (n:Nat) (hn:n≤1114111) (m:IM):cw (.f 42) [.int .i64 (n:Int)] m=some (.str (iq n),m):=by
 unfold cw;rw[bY p42 f42]
 have e1:(192+(n:Int)/64).toNat=192+n/64:=by omega
 have e2:(128+(n:Int)%64).toNat=128+n%64:=by omega
 have e3:(224+(n:Int)/4096).toNat=224+n/4096:=by omega
 have e4:(128+(n:Int)/64%64).toNat=128+n/64%64:=by omega
 have e5:(240+(n:Int)/262144).toNat=240+n/262144:=by omega
 have e6:(128+(n:Int)/4096%64).toNat=128+n/4096%64:=by omega
 by_cases h1:n<128
 ·have:(n:Int)<128:=by omega
  simp (disch:=omega) [i42,go_sem,iq,h1,this,w8,w64]
 ·have g1:¬(n:Int)<128:=by omega
  by_cases h2:n<2048
  ·have g2:(n:Int)<2048:=by omega
   simp (disch:=omega) [-UInt8.ofNat_add,i42,go_sem,iq,h1,g1,h2,g2,td,tm,w8,w64,e1,e2]
  ·have g2:¬(n:Int)<2048:=by omega
   by_cases h3:n<65536
   ·have g3:(n:Int)<65536:=by omega
    simp (disch:=omega) [-UInt8.ofNat_add,i42,go_sem,iq,h1,g1,h2,g2,h3,g3,td,tm,w8,w64,e2,e3,e4]
   ·have g3:¬(n:Int)<65536:=by omega
    simp (disch:=omega) [-UInt8.ofNat_add,i42,go_sem,iq,h1,g1,h2,g2,h3,g3,td,tm,w8,w64,e2,e4,e5,e6]
end Go.Idl
namespace Go.Idl
attribute [local go_sem] oA gA vA wA nA fA dA eA oV oW oN oD oF IFn.call ICode.run aU IOp.run IOp.run0 gate IK.ok aX da OTag.hits IK.run Arg.rd look aE rdAll POp.ev dy fj fD fG fC fB fE fl fq fx fI fm cY fH fh b8 St.put lkSlot lkL lkB lkC ay bM IK.link b9 cN St.drop St.capAt St.owner linkOf cM bV cJ IV.refsDeep IV.refsDeep.go IV.refs IV.refs.go al IV.plain cQ aC de bG IV.cells IV.isU IV.isL cZ cS over dz cut eqS aW bnd dS ee du dE dB cO aa aV eB dP a7 aH dH c5 a6 uqB bE St.head dj dh cI dn
set_option maxRecDepth 10000 in
theorem MK (b:UInt8):fg .and .u8 (b.toNat:Int) 63=some (.int .u8 ((b.toNat%64:Nat):Int)):=by
 have:∀n:Nat,n<256→IntKind.u8.wrap ((BitVec.ofInt 8 (n:Int) &&& BitVec.ofInt 8 63).toNat:Int)=((n%64:Nat):Int):=by decide
 show some (IV.int .u8 (IntKind.u8.wrap ((BitVec.ofInt 8 (b.toNat:Int) &&& BitVec.ofInt 8 63).toNat:Int)))=_
 rw[this b.toNat b.toNat_lt]
theorem NQ (p x:Nat) (h1:p<2^50) (h2:x<64):fg .or .i64 ((p:Int)*64) (x:Int)=some (.int .i64 ((p*64+x:Nat):Int)):=by
 show some (IV.int .i64 (IntKind.i64.wrap ((BitVec.ofInt 64 ((p:Int)*64) ||| BitVec.ofInt 64 (x:Int)).toNat:Int)))=_
 have e1:((p:Int)*64)=((p*64:Nat):Int):=by omega
 have e2:(BitVec.ofInt 64 ((p*64:Nat):Int) ||| BitVec.ofInt 64 ((x:Nat):Int)).toNat=p*64+x:=by
  rw[BitVec.toNat_or,BitVec.ofInt_natCast,BitVec.ofInt_natCast,BitVec.toNat_ofNat,BitVec.toNat_ofNat,Nat.mod_eq_of_lt (by omega),Nat.mod_eq_of_lt (by omega)]
  have:=Nat.shiftLeft_add_eq_or_of_lt (i:=6) (b:=x) (by omega) p
  rw[Nat.shiftLeft_eq] at this
  exact this.symm
 rw[e1,e2,w64 (by omega) (by omega)]
def inn (s:List UInt8) (lo hi:Nat):Nat→Nat→Nat→Nat×Nat
 |0,n,p=>(n,p)
 |k+1,n,p=>match s[n]? with
  |none=>(n,p)
  |some b=>if b.toNat<(if n=1 then lo else 128)∨(if n=1 then hi else 191)<b.toNat then (n,p) else inn s lo hi k (n+1) (p*64+b.toNat%64)
theorem ET:qM.keep=[(0,0),(2,0),(4,0),(5,0),(6,0)]:=rfl
theorem yy:qM.keepL=[0,1]:=rfl
theorem yJ:qM.ownL=[]:=rfl
theorem xz:jS.keep=[(0,0),(2,0),(9,0),(10,0)]:=rfl
theorem qm:jS.keepL=[0]:=rfl
theorem rS:jS.ownL=[]:=rfl
def rN (s:List UInt8) (n p a b size lo hi:Nat) (fv:IV) (m:IM):St where
 env:=[(0,.str s,.any),(2,.pL 0 0,.any),(4,.pL 1 0,.any),(5,.int .i64 p,.any),(6,.int .i64 n,.any)]
 lk:=[]
 lb:=[(0,.cells [.int .i64 0,.bool false,.int .i64 0] [.any,.any,.any]),(1,.cells [.int .u8 a,.int .u8 b,.int .i64 size,.int .u8 lo,.int .u8 hi,fv] [.any,.any,.any,.any,.any,.any])]
 m:=m
theorem N9 (s:List UInt8) (a b size lo hi:Nat) (fv:IV) (m:IM) (hs:size≤4):∀(k n p:Nat),size=n+k→1≤n→n≤s.length→(p+1)*64^k≤2^31 →
  ∃e',lc tab ae qM jF (some (rN s n p a b size lo hi fv m))=some (.exit 2,{ env:=e',lk:=[],lb:=(rN s n p a b size lo hi fv m).lb,m:=m }) ∧
   look e' 0=some (.str s,.any)∧look e' 2=some (.pL 0 0,.any)∧look e' 4=some (.pL 1 0,.any)∧look e' 5=some (.int .i64 ((inn s lo hi k n p).2:Nat),.any)∧look e' 6=some (.int .i64 ((inn s lo hi k n p).1:Nat),.any):=by
 intro k
 induction k with
 |zero =>
  intro n p hk h1 h2 h3
  rw[bn]
  have c1:¬((n:Int)<(size:Int)):=by omega
  simp[jF,rN,go_sem,c1,inn]
 |succ k ih =>
  intro n p hk h1 h2 h3
  rw[bn]
  have c1:(n:Int)<(size:Int):=by omega
  cases hb:s[n]? with
  |none =>
   have c2:¬((n:Int)<(s.length:Int)):=by
    have:=List.getElem?_eq_none_iff.1 hb;omega
   simp[jF,rN,go_sem,c1,c2,inn,hb]
  |some c =>
   have c2:(n:Int)<(s.length:Int):=by
    have:=(List.getElem?_eq_some_iff.1 hb).1;omega
   have hp:p<2^31:=by
    have:1≤64^(k+1):=Nat.one_le_pow _ _ (by omega)
    have:=Nat.mul_le_mul_left (p+1) this
    omega
   have hstep:(p*64+c.toNat%64+1)*64^k≤2^31:=by
    have:(p*64+c.toNat%64+1)*64^k≤((p+1)*64)*64^k:=Nat.mul_le_mul_right _ (by omega)
    rw[Nat.pow_succ] at h3
    have e:(p+1)*64*64^k=(p+1)*(64^k*64):=by rw[Nat.mul_assoc,Nat.mul_comm 64]
    omega
   have hlen:n+1≤s.length:=by omega
   have ih':=ih (n+1) (p*64+c.toNat%64) (by omega) (by omega) hlen hstep
   have e64:IntKind.i64.wrap ((p:Int)*64)=(p:Int)*64:=w64 (by omega) (by omega)
   have e65:IntKind.i64.wrap ((n:Int)+1)=((n+1:Nat):Int):=by rw[w64 (by omega) (by omega)];rfl
   have o1:=NQ p (c.toNat%64) (by omega) (by omega)
   have a1:=MK c
   have e66:IntKind.i64.wrap ((c.toNat%64:Nat):Int)=((c.toNat%64:Nat):Int):=w64 (by omega) (by omega)
   have tn:(n:Int).toNat=n:=by omega
   have c3b:n=1→((n:Int)==1)=true:=fun h=>by subst h;rfl
   have c3f:n≠1→((n:Int)==1)=false:=fun h=>by simp;omega
   by_cases hl:c.toNat<(if n=1 then lo else 128)∨(if n=1 then hi else 191)<c.toNat
   ·have hinn:inn s lo hi (k+1) n p=(n,p):=by simp only[inn,hb,if_pos hl]
    rw[hinn]
    by_cases hn:n=1
    ·simp only[hn,if_true] at hl
     have c3:=c3b hn
     by_cases g1:c.toNat<lo
     ·have g1':(c.toNat:Int)<(lo:Int):=by omega
      simp[jF,rN,go_sem,c1,c2,c3,hb,g1']
     ·have g1':¬(c.toNat:Int)<(lo:Int):=by omega
      have g2':(hi:Int)<(c.toNat:Int):=by omega
      simp[jF,rN,go_sem,c1,c2,c3,hb,g1',g2']
    ·simp only[hn,if_false] at hl
     have c3:=c3f hn
     by_cases g1:c.toNat<128
     ·have g1':(c.toNat:Int)<128:=by omega
      simp[jF,rN,go_sem,c1,c2,c3,hb,g1']
     ·have g1':¬(c.toNat:Int)<128:=by omega
      have g2':(191:Int)<(c.toNat:Int):=by omega
      simp[jF,rN,go_sem,c1,c2,c3,hb,g1',g2']
   ·have hinn:inn s lo hi (k+1) n p=inn s lo hi k (n+1) (p*64+c.toNat%64):=by simp only[inn,hb,if_neg hl]
    rw[hinn]
    obtain⟨e',q0,q1,q2,q3,q4,q5⟩:=ih'
    refine⟨e',?_,q1,q2,q3,q4,q5⟩
    by_cases hn:n=1
    ·simp only[hn,if_true] at hl
     have c3:=c3b hn
     have g1:¬(c.toNat:Int)<(lo:Int):=by omega
     have g2:¬(hi:Int)<(c.toNat:Int):=by omega
     simp only[rN] at q0 ⊢
     generalize lc tab ae qM jF=L at q0 ⊢
     simp[-Int.natCast_emod,-Int.natCast_add,-Int.natCast_mul,jF,ET,yy,yJ,go_sem,c1,c2,c3,hb,g1,g2,a1,e64,e65,e66,o1,q0]
    ·simp only[hn,if_false] at hl
     have c3:=c3f hn
     have g1:¬(c.toNat:Int)<128:=by omega
     have g2:¬(191:Int)<(c.toNat:Int):=by omega
     simp only[rN] at q0 ⊢
     generalize lc tab ae qM jF=L at q0 ⊢
     simp[-Int.natCast_emod,-Int.natCast_add,-Int.natCast_mul,jF,ET,yy,yJ,go_sem,c1,c2,c3,hb,g1,g2,a1,e64,e65,e66,o1,q0]
def S57 (R:List IV) (s:List UInt8) (k:Nat) (m:IM):St where
 env:=[(0,.str s,.any),(2,.pL 0 0,.any),(9,.agg R,.any),(10,.int .i64 k,.any)]
 lk:=[]
 lb:=[(0,.cells [.int .i64 0,.bool false,.int .i64 0] [.any,.any,.any])]
 m:=m
theorem KS (R:List IV) (c:UInt8) (t:List UInt8) (k fr to sz lo hi f:Nat) (m:IM) (hk:k<9) (hl:k*6+6≤R.length) (hd:(R.drop (k*6)).take 6=[.int .u8 fr,.int .u8 to,.int .i64 sz,.int .u8 lo,.int .u8 hi,.func f [] []])
  (h:c.toNat<fr∨to<c.toNat):lc tab ae jS jG (some (S57 R (c::t) k m))=lc tab ae jS jG (some (S57 R (c::t) (k+1) m)):=by
 rw[bn]
 generalize lc tab ae jS jG=L
 have c1:(k:Int)<9:=by omega
 have c2:(0:Int)≤(k:Int):=by omega
 have e1:IntKind.i64.wrap ((k:Int)+1)=((k+1:Nat):Int):=by rw[w64 (by omega) (by omega)];rfl
 by_cases g1:c.toNat<fr
 ·have g1':(c.toNat:Int)<(fr:Int):=by omega
  simp[-Int.natCast_add,jG,xz,qm,rS,S57,go_sem,c1,c2,hl,hd,g1',e1]
 ·have g1':¬(c.toNat:Int)<(fr:Int):=by omega
  have g2':(to:Int)<(c.toNat:Int):=by omega
  simp[-Int.natCast_add,jG,xz,qm,rS,S57,go_sem,c1,c2,hl,hd,g1',g2',e1]
def fR (s:List UInt8) (sz lo hi p:Nat):Nat×Nat:=inn s lo hi (sz-1) 1 p
theorem MA (R:List IV) (c:UInt8) (t:List UInt8) (k fr to sz lo hi f p:Nat) (m:IM) (hk:k<9) (hl:k*6+6≤R.length) (hd:(R.drop (k*6)).take 6=[.int .u8 fr,.int .u8 to,.int .i64 sz,.int .u8 lo,.int .u8 hi,.func f [] []])
  (h:¬(c.toNat<fr∨to<c.toNat)) (hz:1≤sz∧sz≤4) (hp:p<128) (hf:cw (.f f) [.int .u8 (c.toNat:Int)] m=some (.int .i64 (p:Int),m)) :
  ∃e' lb',lc tab ae jS jG (some (S57 R (c::t) k m))=some (.ret,{ env:=e',lk:=[],lb:=lb',m:=m })∧look e' 2=some (.pL 0 0,.any) ∧
   ∃cp,aE lb' 0=.cells [.int .i64 ((fR (c::t) sz lo hi p).1:Nat),.bool (decide ((fR (c::t) sz lo hi p).1=sz)),.int .i64 ((fR (c::t) sz lo hi p).2:Nat)] cp:=by
 obtain⟨e',q0,q1,q2,q3,q4,q5⟩:=N9 (c::t) fr to sz lo hi (.func f [] []) m hz.2 (sz-1) 1 p (by omega) (by omega) (by simp) (by
  have:sz-1=0∨sz-1=1∨sz-1=2∨sz-1=3:=by omega
  rcases this with q | q | q | q<;>rw[q]<;>omega)
 rw[bn]
 have c1:(k:Int)<9:=by omega
 have c2:(0:Int)≤(k:Int):=by omega
 have g1:¬(c.toNat:Int)<(fr:Int):=by omega
 have g2:¬(to:Int)<(c.toNat:Int):=by omega
 simp only[rN] at q0
 rw[show ((1:Nat):Int)=1 from rfl] at q0
 unfold cw at hf
 have hb:((((inn (c::t) lo hi (sz-1) 1 p).1:Nat):Int)==(sz:Int))=decide ((inn (c::t) lo hi (sz-1) 1 p).1=sz):=by
  by_cases q:(inn (c::t) lo hi (sz-1) 1 p).1=sz
  ·simp[q]
  ·simp only[q,decide_false,beq_eq_false_iff_ne];omega
 simp[fR,jG,xz,qm,rS,ET,yy,yJ,S57,go_sem,c1,c2,hl,hd,g1,g2,hf,q0,q1,q2,q3,q4,q5,hb]
 exact⟨_,_,⟨rfl,rfl⟩,by simp[look,q2],_,rfl⟩
theorem Cn (R:List IV) (s:List UInt8) (m:IM):∃e',lc tab ae jS jG (some (S57 R s 9 m))=some (.exit 0,{ env:=e',lk:=[],lb:=(S57 R s 9 m).lb,m:=m })∧look e' 2=some (.pL 0 0,.any):=by
 rw[bn]
 simp[jG,S57,go_sem]
def eQ (c:Nat):Option (Nat×Nat×Nat×Nat) :=
 if c≤127 then some (1,0,0,c)
 else if c<194 then none
 else if c≤223 then some (2,128,191,c%32)
 else if c=224 then some (3,160,191,c%16)
 else if c≤236 then some (3,128,191,c%16)
 else if c=237 then some (3,128,159,c%16)
 else if c≤239 then some (3,128,191,c%16)
 else if c=240 then some (4,144,191,c%8)
 else if c≤243 then some (4,128,191,c%8)
 else if c=244 then some (4,128,143,c%8)
 else none
def aI (s:List UInt8):Nat×Bool×Nat :=
 match s with
 |[]=>(0,false,0)
 |c::t=>match eQ c.toNat with
  |none=>(0,false,0)
  |some (sz,lo,hi,p)=>let r:=fR (c::t) sz lo hi p;(r.1,decide (r.1=sz),r.2)
def jn (r:Nat×Bool×Nat):IV:=.agg [.int .i64 r.1,.bool r.2.1,.int .i64 r.2.2]
set_option maxRecDepth 10000 in
theorem andM (b:UInt8):fg .and .u8 (b.toNat:Int) 31=some (.int .u8 ((b.toNat%32:Nat):Int))∧fg .and .u8 (b.toNat:Int) 15=some (.int .u8 ((b.toNat%16:Nat):Int))∧fg .and .u8 (b.toNat:Int) 7=some (.int .u8 ((b.toNat%8:Nat):Int)):=by
 have h1:∀n:Nat,n<256→IntKind.u8.wrap ((BitVec.ofInt 8 (n:Int) &&& BitVec.ofInt 8 31).toNat:Int)=((n%32:Nat):Int):=by decide
 have h2:∀n:Nat,n<256→IntKind.u8.wrap ((BitVec.ofInt 8 (n:Int) &&& BitVec.ofInt 8 15).toNat:Int)=((n%16:Nat):Int):=by decide
 have h3:∀n:Nat,n<256→IntKind.u8.wrap ((BitVec.ofInt 8 (n:Int) &&& BitVec.ofInt 8 7).toNat:Int)=((n%8:Nat):Int):=by decide
 have hb:=b.toNat_lt
 refine⟨?_,?_,?_⟩
 ·show some (IV.int .u8 (IntKind.u8.wrap ((BitVec.ofInt 8 (b.toNat:Int) &&& BitVec.ofInt 8 31).toNat:Int)))=_
  rw[h1 _ hb]
 ·show some (IV.int .u8 (IntKind.u8.wrap ((BitVec.ofInt 8 (b.toNat:Int) &&& BitVec.ofInt 8 15).toNat:Int)))=_
  rw[h2 _ hb]
 ·show some (IV.int .u8 (IntKind.u8.wrap ((BitVec.ofInt 8 (b.toNat:Int) &&& BitVec.ofInt 8 7).toNat:Int)))=_
  rw[h3 _ hb]
theorem f208:tab.fns 208=some i208:=by rfl
theorem p208:ae 208=none:=by rfl
theorem f209:tab.fns 209=some i209:=by rfl
theorem p209:ae 209=none:=by rfl
theorem f210:tab.fns 210=some i210:=by rfl
theorem p210:ae 210=none:=by rfl
theorem f211:tab.fns 211=some i211:=by rfl
theorem p211:ae 211=none:=by rfl
theorem H7 (b:UInt8) (m:IM):cw (.f 208) [.int .u8 (b.toNat:Int)] m=some (.int .i64 (b.toNat:Int),m):=by
 unfold cw;rw[bY p208 f208]
 have hb:=b.toNat_lt
 simp (disch:=omega) [i208,go_sem,w64]
theorem HZ (b:UInt8) (m:IM):cw (.f 209) [.int .u8 (b.toNat:Int)] m=some (.int .i64 ((b.toNat%32:Nat):Int),m):=by
 unfold cw;rw[bY p209 f209]
 have hw:IntKind.i64.wrap ((b.toNat%32:Nat):Int)=((b.toNat%32:Nat):Int):=w64 (by omega) (by omega)
 simp[-Int.natCast_emod,i209,go_sem,(andM b).1,hw]
theorem pG (b:UInt8) (m:IM):cw (.f 210) [.int .u8 (b.toNat:Int)] m=some (.int .i64 ((b.toNat%16:Nat):Int),m):=by
 unfold cw;rw[bY p210 f210]
 have hw:IntKind.i64.wrap ((b.toNat%16:Nat):Int)=((b.toNat%16:Nat):Int):=w64 (by omega) (by omega)
 simp[-Int.natCast_emod,i210,go_sem,(andM b).2.1,hw]
theorem vK (b:UInt8) (m:IM):cw (.f 211) [.int .u8 (b.toNat:Int)] m=some (.int .i64 ((b.toNat%8:Nat):Int),m):=by
 unfold cw;rw[bY p211 f211]
 have hw:IntKind.i64.wrap ((b.toNat%8:Nat):Int)=((b.toNat%8:Nat):Int):=w64 (by omega) (by omega)
 simp[-Int.natCast_emod,i211,go_sem,(andM b).2.2,hw]
end Go.Idl
namespace Go.Idl
attribute [local go_sem] oA gA vA wA nA fA dA eA oV oW oN oD oF IFn.call ICode.run aU IOp.run IOp.run0 gate IK.ok aX da OTag.hits IK.run Arg.rd look aE rdAll POp.ev dy fj fD fG fC fB fE fl fq fx fI fm cY fH fh b8 St.put lkSlot lkL lkB lkC ay bM IK.link b9 cN St.drop St.capAt St.owner linkOf cM bV cJ IV.refsDeep IV.refsDeep.go IV.refs IV.refs.go al IV.plain cQ aC de bG IV.cells IV.isU IV.isL cZ cS over dz cut eqS aW bnd dS ee du dE dB cO aa aV eB dP a7 aH dH c5 a6 uqB bE St.head dj dh cI dn
def Found (c:UInt8) (t:List UInt8) (k:Nat) (m:IM) (r:Nat×Bool×Nat):Prop :=
 ∃e' lb',lc tab ae jS jG (some (S57 kS (c::t) k m))=some (.ret,{ env:=e',lk:=[],lb:=lb',m:=m })∧look e' 2=some (.pL 0 0,.any) ∧
   ∃cp,aE lb' 0=.cells [.int .i64 r.1,.bool r.2.1,.int .i64 r.2.2] cp
def Ff (c:UInt8) (t:List UInt8) (k:Nat) (m:IM):Prop :=
 ∃e',lc tab ae jS jG (some (S57 kS (c::t) k m))=some (.exit 0,{ env:=e',lk:=[],lb:=(S57 kS (c::t) 9 m).lb,m:=m })∧look e' 2=some (.pL 0 0,.any)
def Res (c:UInt8) (t:List UInt8) (k:Nat) (m:IM):Option (Nat×Nat×Nat×Nat)→Prop
 |none=>Ff c t k m
 |some (sz,lo,hi,p)=>Found c t k m ((fR (c::t) sz lo hi p).1,decide ((fR (c::t) sz lo hi p).1=sz),(fR (c::t) sz lo hi p).2)
theorem dR {c:UInt8}{t:List UInt8}{k:Nat}{m:IM}{o:Option (Nat×Nat×Nat×Nat)}(fr to sz lo hi f:Nat) (hk:k<9) (hl:k*6+6≤kS.length)
  (hd:(kS.drop (k*6)).take 6=[.int .u8 fr,.int .u8 to,.int .i64 sz,.int .u8 lo,.int .u8 hi,.func f [] []]) (h:c.toNat<fr∨to<c.toNat) (hr:Res c t (k+1) m o):Res c t k m o:=by
 have e:=KS kS c t k fr to sz lo hi f m hk hl hd h
 cases o with
 |none=>obtain⟨e',q1,q2⟩:=hr;exact⟨e',e.trans q1,q2⟩
 |some p =>
  obtain⟨sz,lo,hi,p⟩:=p
  obtain⟨e',lb',q1,q2⟩:=hr
  exact⟨e',lb',e.trans q1,q2⟩
theorem ia {c:UInt8}{t:List UInt8}{k:Nat}{m:IM}(fr to sz lo hi f p:Nat) (hk:k<9) (hl:k*6+6≤kS.length)
  (hd:(kS.drop (k*6)).take 6=[.int .u8 fr,.int .u8 to,.int .i64 sz,.int .u8 lo,.int .u8 hi,.func f [] []]) (h:fr≤c.toNat∧c.toNat≤to) (hz:1≤sz∧sz≤4) (hp:p<128)
  (hf:cw (.f f) [.int .u8 (c.toNat:Int)] m=some (.int .i64 (p:Int),m)):Res c t k m (some (sz,lo,hi,p)) :=
 MA kS c t k fr to sz lo hi f p m hk hl hd (by omega) hz hp hf
theorem M5 (c:UInt8) (t:List UInt8) (m:IM):Res c t 0 m (eQ c.toNat):=by
 have hb:=c.toNat_lt
 unfold eQ
 split
 ·exact ia 0 127 1 0 0 208 c.toNat (by decide) (by decide) rfl (by omega) (by omega) (by omega) (H7 c m)
 refine dR 0 127 1 0 0 208 (by decide) (by decide) rfl (by omega) ?_
 split
 ·refine dR 194 223 2 128 191 209 (by decide) (by decide) rfl (by omega) ?_
  refine dR 224 224 3 160 191 210 (by decide) (by decide) rfl (by omega) ?_
  refine dR 225 236 3 128 191 210 (by decide) (by decide) rfl (by omega) ?_
  refine dR 237 237 3 128 159 210 (by decide) (by decide) rfl (by omega) ?_
  refine dR 238 239 3 128 191 210 (by decide) (by decide) rfl (by omega) ?_
  refine dR 240 240 4 144 191 211 (by decide) (by decide) rfl (by omega) ?_
  refine dR 241 243 4 128 191 211 (by decide) (by decide) rfl (by omega) ?_
  refine dR 244 244 4 128 143 211 (by decide) (by decide) rfl (by omega) ?_
  exact Cn kS (c::t) m
 split
 ·exact ia 194 223 2 128 191 209 (c.toNat%32) (by decide) (by decide) rfl (by omega) (by omega) (by omega) (HZ c m)
 refine dR 194 223 2 128 191 209 (by decide) (by decide) rfl (by omega) ?_
 split
 ·exact ia 224 224 3 160 191 210 (c.toNat%16) (by decide) (by decide) rfl (by omega) (by omega) (by omega) (pG c m)
 refine dR 224 224 3 160 191 210 (by decide) (by decide) rfl (by omega) ?_
 split
 ·exact ia 225 236 3 128 191 210 (c.toNat%16) (by decide) (by decide) rfl (by omega) (by omega) (by omega) (pG c m)
 refine dR 225 236 3 128 191 210 (by decide) (by decide) rfl (by omega) ?_
 split
 ·exact ia 237 237 3 128 159 210 (c.toNat%16) (by decide) (by decide) rfl (by omega) (by omega) (by omega) (pG c m)
 refine dR 237 237 3 128 159 210 (by decide) (by decide) rfl (by omega) ?_
 split
 ·exact ia 238 239 3 128 191 210 (c.toNat%16) (by decide) (by decide) rfl (by omega) (by omega) (by omega) (pG c m)
 refine dR 238 239 3 128 191 210 (by decide) (by decide) rfl (by omega) ?_
 split
 ·exact ia 240 240 4 144 191 211 (c.toNat%8) (by decide) (by decide) rfl (by omega) (by omega) (by omega) (vK c m)
 refine dR 240 240 4 144 191 211 (by decide) (by decide) rfl (by omega) ?_
 split
 ·exact ia 241 243 4 128 191 211 (c.toNat%8) (by decide) (by decide) rfl (by omega) (by omega) (by omega) (vK c m)
 refine dR 241 243 4 128 191 211 (by decide) (by decide) rfl (by omega) ?_
 split
 ·exact ia 244 244 4 128 143 211 (c.toNat%8) (by decide) (by decide) rfl (by omega) (by omega) (by omega) (vK c m)
 refine dR 244 244 4 128 143 211 (by decide) (by decide) rfl (by omega) ?_
 exact Cn kS (c::t) m
theorem f57:tab.fns 57=some i57:=by rfl
theorem p57:ae 57=none:=by rfl
theorem IH (c:UInt8) (t:List UInt8) (m:IM):cw (.f 57) [.str (c::t)] m=some (jn (aI (c::t)),m):=by
 have h:=M5 c t m
 unfold cw;rw[bY p57 f57]
 have hl:54≤kS.length:=by decide
 have ht:kS.take 54=kS:=rfl
 cases hc:eQ c.toNat with
 |none =>
  rw[hc] at h
  obtain⟨e',q1,q2⟩:=h
  simp only[S57] at q1
  rw[show ((0:Nat):Int)=0 from rfl] at q1
  simp[i57,xz,qm,rS,go_sem,hl,ht,q1,q2,jn,aI,hc]
 |some p =>
  obtain⟨sz,lo,hi,p⟩:=p
  rw[hc] at h
  obtain⟨e',lb',q1,q2,cp,q3⟩:=h
  simp only[S57] at q1
  rw[show ((0:Nat):Int)=0 from rfl] at q1
  simp[i57,xz,qm,rS,go_sem,hl,ht,q1,q2,q3,jn,aI,hc]
end Go.Idl
namespace Go.Idl
attribute [local go_sem] oA gA vA wA nA fA dA eA oV oW oN oD oF IFn.call ICode.run aU IOp.run IOp.run0 gate IK.ok aX da OTag.hits IK.run Arg.rd look aE rdAll POp.ev dy fj fD fG fC fB fE fl fq fx fI fm cY fH fh b8 St.put lkSlot lkL lkB lkC ay bM IK.link b9 cN St.drop St.capAt St.owner linkOf cM bV cJ IV.refsDeep IV.refsDeep.go IV.refs IV.refs.go al IV.plain cQ aC de bG IV.cells IV.isU IV.isL cZ cS over dz cut eqS aW bnd dS ee du dE dB cO aa aV eB dP a7 aH dH c5 a6 uqB bE St.head dj dh cI dn
def tk (m m':IM):IM:=⟨m'.bs.take m.size,m'.esc⟩
theorem f38:tab.fns 38=some i38:=by rfl
theorem p38:ae 38=none:=by rfl
def lU:Nat→List UInt8→Nat→Option Nat
 |0,_,_=>none
 |_+1,[],_=>none
 |k+1,c::t,at_=>if (aI (c::t)).2.1 then lU k ((c::t).drop (max (aI (c::t)).1 1)) (at_+max (aI (c::t)).1 1) else some at_
theorem Ez (s:List UInt8) (lo hi:Nat):∀k n p,(inn s lo hi k n p).1≤n+k
 |0,n,p=>Nat.le_refl _
 |k+1,n,p=>by
  rw[inn]
  cases h:s[n]? with
  |none=>exact Nat.le_add_right _ _
  |some b =>
   simp only
   by_cases hc:b.toNat<(if n=1 then lo else 128)∨(if n=1 then hi else 191)<b.toNat
   ·rw[if_pos hc];exact Nat.le_add_right _ _
   ·rw[if_neg hc]
    have:=Ez s lo hi k (n+1) (p*64+b.toNat%64);omega
theorem BL {c sz lo hi p:Nat}(h:eQ c=some (sz,lo,hi,p)):1≤sz∧sz≤4:=by
 unfold eQ at h
 repeat' (split at h)
 all_goals (first | (cases h;done) | (cases h;exact⟨by decide,by decide⟩))
theorem AV (s:List UInt8):(aI s).1≤4:=by
 unfold aI
 split
 ·exact Nat.zero_le _
 ·split
  ·exact Nat.zero_le _
  ·rename_i c t _ sz lo hi p h
   have h1:=BL h
   have:=Ez (c::t) lo hi (sz-1) 1 p
   simp only[fR]
   omega
theorem w6:sA.keep=[(0,0),(1,0),(3,0)]:=rfl
theorem q8:sA.keepL=[]:=rfl
theorem qp:sA.ownL=[]:=rfl
end Go.Idl
namespace Go.Idl
attribute [local go_sem] oA gA vA wA nA fA dA eA oV oW oN oD oF IFn.call ICode.run aU IOp.run IOp.run0 gate IK.ok aX da OTag.hits IK.run Arg.rd look aE rdAll POp.ev dy fj fD fG fC fB fE fl fq fx fI fm cY fH fh b8 St.put lkSlot lkL lkB lkC ay bM IK.link b9 cN St.drop St.capAt St.owner linkOf cM bV cJ IV.refsDeep IV.refsDeep.go IV.refs IV.refs.go al IV.plain cQ aC de bG IV.cells IV.isU IV.isL cZ cS over dz cut eqS aW bnd dS ee du dE dB cO aa aV eB dP a7 aH dH c5 a6 uqB bE St.head dj dh cI dn
theorem f67:tab.fns 67=some i67:=by rfl
theorem p67:ae 67=none:=by rfl
theorem f31:tab.fns 31=some i31:=by rfl
theorem p31:ae 31=none:=by rfl
end Go.Idl
namespace Go.Idl
attribute [local go_sem] oA gA vA wA nA fA dA eA oV oW oN oD oF IFn.call ICode.run aU IOp.run IOp.run0 gate IK.ok aX da OTag.hits IK.run Arg.rd look aE rdAll POp.ev dy fj fD fG fC fB fE fl fq fx fI fm cY fH fh b8 St.put lkSlot lkL lkB lkC ay bM IK.link b9 cN St.drop St.capAt St.owner linkOf cM bV cJ IV.refsDeep IV.refsDeep.go IV.refs IV.refs.go al IV.plain cQ aC de bG IV.cells IV.isU IV.isL cZ cS over dz cut eqS aW bnd dS ee du dE dB cO aa aV eB dP a7 aH dH c5 a6 uqB bE St.head dj dh cI dn
def dp (c:Nat):Nat:=if c<128 then 1 else if 194≤c∧c<224 then 2 else if 224≤c∧c<240 then 3 else if 240≤c∧c<245 then 4 else 0
theorem f68:tab.fns 68=some i68:=by rfl
theorem p68:ae 68=none:=by rfl
theorem J2 (c : UInt8) (m : IM) : cw (.f 68) [.int .u8 (c.toNat : Int)] m = some (.int .i64 (dp c.toNat : Nat), m) := by
  unfold cw; rw [bY p68 f68]
  unfold dp
  by_cases h1 : c.toNat < 128
  · have g1 : (c.toNat : Int) < 128 := by omega
    simp [i68, go_sem, h1, g1]
  · have g1 : ¬ (c.toNat : Int) < 128 := by omega
    by_cases h2 : 194 ≤ c.toNat <;> by_cases h3 : c.toNat < 224 <;> by_cases h4 : 224 ≤ c.toNat <;> by_cases h5 : c.toNat < 240 <;> by_cases h6 : 240 ≤ c.toNat <;> by_cases h7 : c.toNat < 245 <;>
    first
      | omega
      | (have g2 : (194 ≤ (c.toNat : Int)) = (194 ≤ c.toNat) := by simp; omega
         have g3 : ((c.toNat : Int) < 224) = (c.toNat < 224) := by simp; omega
         have g4 : (224 ≤ (c.toNat : Int)) = (224 ≤ c.toNat) := by simp; omega
         have g5 : ((c.toNat : Int) < 240) = (c.toNat < 240) := by simp; omega
         have g6 : (240 ≤ (c.toNat : Int)) = (240 ≤ c.toNat) := by simp; omega
         have g7 : ((c.toNat : Int) < 245) = (c.toNat < 245) := by simp; omega
         simp [i68, go_sem, h1, g1, g2, g3, g4, g5, g6, g7, h2, h3, h4, h5, h6, h7])
def dcr (s:List UInt8):Nat→Nat→Nat→Option Nat
 |0,_,p=>some p
 |k+1,i,p=>match s[i]? with
  |none=>none
  |some b=>if b.toNat<128∨191<b.toNat then none else dcr s k (i+1) (64*p+b.toNat-128)
theorem jI:kZ.keep=[(0,0),(4,0),(5,0),(6,0)]:=rfl
theorem gX:kZ.keepL=[]:=rfl
theorem gT:kZ.ownL=[]:=rfl
def S40 (s:List UInt8) (n p i:Nat) (m:IM):St where
 env:=[(0,.str s,.any),(4,.int .i64 n,.any),(5,.int .i64 p,.any),(6,.int .i64 i,.any)]
 lk:=[]
 lb:=[]
 m:=m
theorem L40 (s:List UInt8) (n:Nat) (m:IM) (hs:n≤s.length) (hn:n≤4):∀(k i p:Nat),n=i+k→1≤i→(p+1)*64^k≤2^31 →
  match dcr s k i p with
  |some p'=>∃e',lc tab ae kZ ke (some (S40 s n p i m))=some (.exit 0,{ env:=e',lk:=[],lb:=[],m:=m })∧look e' 0=some (.str s,.any)∧look e' 4=some (.int .i64 n,.any)∧look e' 5=some (.int .i64 (p':Nat),.any)
  |none=>∃e',lc tab ae kZ ke (some (S40 s n p i m))=some (.ret,{ env:=e',lk:=[],lb:=[],m:=m })∧look e' 2=some (.int .i64 0,.any)∧look e' 3=some (.int .i64 0,.any):=by
 intro k
 induction k with
 |zero =>
  intro i p hk h1 h3
  rw[bn]
  have c1:¬((i:Int)<(n:Int)):=by omega
  simp only[dcr]
  simp[ke,jI,gX,gT,S40,go_sem,c1]
 |succ k ih =>
  intro i p hk h1 h3
  have c1:(i:Int)<(n:Int):=by omega
  cases hb:s[i]? with
  |none=>have:=List.getElem?_eq_none_iff.1 hb;omega
  |some c =>
   have c3:(0:Int)≤(i:Int):=by omega
   by_cases hl:c.toNat<128∨191<c.toNat
   ·have hd:dcr s (k+1) i p=none:=by simp only[dcr,hb,if_pos hl]
    rw[hd,bn]
    simp only
    by_cases g1:c.toNat<128
    ·have g1':(c.toNat:Int)<128:=by omega
     simp[ke,jI,gX,gT,S40,go_sem,c1,c3,hb,g1',look]
    ·have g1':¬(c.toNat:Int)<128:=by omega
     have g2':(191:Int)<(c.toNat:Int):=by omega
     simp[ke,jI,gX,gT,S40,go_sem,c1,c3,hb,g1',g2',look]
   ·have hd:dcr s (k+1) i p=dcr s k (i+1) (64*p+c.toNat-128):=by simp only[dcr,hb,if_neg hl]
    rw[hd]
    have hp:p<2^31:=by
     have:1≤64^(k+1):=Nat.one_le_pow _ _ (by omega)
     have:=Nat.mul_le_mul_left (p+1) this
     omega
    have hstep:(64*p+c.toNat-128+1)*64^k≤2^31:=by
     have:(64*p+c.toNat-128+1)*64^k≤((p+1)*64)*64^k:=Nat.mul_le_mul_right _ (by omega)
     rw[Nat.pow_succ] at h3
     have e:(p+1)*64*64^k=(p+1)*(64^k*64):=by rw[Nat.mul_assoc,Nat.mul_comm 64]
     omega
    have ih':=ih (i+1) (64*p+c.toNat-128) (by omega) (by omega) hstep
    have g1':¬(c.toNat:Int)<128:=by omega
    have g2':¬(191:Int)<(c.toNat:Int):=by omega
    have hlt:=c.toNat_lt
    have e1:IntKind.i64.wrap (64*(p:Int))=64*(p:Int):=w64 (by omega) (by omega)
    have e2:IntKind.i64.wrap (c.toNat:Int)=(c.toNat:Int):=w64 (by omega) (by omega)
    have e3:IntKind.i64.wrap (64*(p:Int)+(c.toNat:Int))=64*(p:Int)+(c.toNat:Int):=w64 (by omega) (by omega)
    have e4:IntKind.i64.wrap (64*(p:Int)+(c.toNat:Int)-128)=((64*p+c.toNat-128:Nat):Int):=by rw[w64 (by omega) (by omega)];omega
    have e5:IntKind.i64.wrap ((i:Int)+1)=((i+1:Nat):Int):=by rw[w64 (by omega) (by omega)];rfl
    have step:lc tab ae kZ ke (some (S40 s n p i m))=lc tab ae kZ ke (some (S40 s n (64*p+c.toNat-128) (i+1) m)):=by
     rw[bn]
     generalize 64*p+c.toNat-128=q at *
     generalize i+1=j at *
     simp[ke,jI,gX,gT,S40,go_sem,c1,c3,hb,g1',g2',e1,e2,e3,e4,e5]
    rw[step]
    exact ih'
end Go.Idl
namespace Go.Idl
attribute [local go_sem] oA gA vA wA nA fA dA eA oV oW oN oD oF IFn.call ICode.run aU IOp.run IOp.run0 gate IK.ok aX da OTag.hits IK.run Arg.rd look aE rdAll POp.ev dy fj fD fG fC fB fE fl fq fx fI fm cY fH fh b8 St.put lkSlot lkL lkB lkC ay bM IK.link b9 cN St.drop St.capAt St.owner linkOf cM bV cJ IV.refsDeep IV.refsDeep.go IV.refs IV.refs.go al IV.plain cQ aC de bG IV.cells IV.isU IV.isL cZ cS over dz cut eqS aW bnd dS ee du dE dB cO aa aV eB dP a7 aH dH c5 a6 uqB bE St.head dj dh cI dn
def eJ (s:List UInt8):Nat×Nat :=
 match s with
 |[]=>(0,0)
 |c::t =>
  let n:=dp c.toNat
  if n=0∨(c::t).length<n then (0,0) else
  match dcr (c::t) (n-1) 1 (if 1<n then c.toNat%(256/2^(n+1)) else c.toNat) with
  |none=>(0,0)
  |some p=>if dt p=true∧iq p=(c::t).take n then (p,n) else (0,0)
theorem mX (c:Nat):dp c=0∨dp c=1∨dp c=2∨dp c=3∨dp c=4:=by
 unfold dp
 repeat' split
 all_goals simp
theorem MG (s:List UInt8) (n p0:Nat) (hn:1≤n∧n≤4) (hl:n≤s.length) (hp:(p0+1)*64^(n-1)≤2^31) (m:IM) :
  match dcr s (n-1) 1 p0 with
  |some p'=>∃e',lc tab ae kZ ke (some (S40 s n p0 1 m))=some (.exit 0,{ env:=e',lk:=[],lb:=[],m:=m })∧look e' 0=some (.str s,.any)∧look e' 4=some (.int .i64 n,.any)∧look e' 5=some (.int .i64 (p':Nat),.any)
  |none=>∃e',lc tab ae kZ ke (some (S40 s n p0 1 m))=some (.ret,{ env:=e',lk:=[],lb:=[],m:=m })∧look e' 2=some (.int .i64 0,.any)∧look e' 3=some (.int .i64 0,.any) :=
 L40 s n m hl hn.2 (n-1) 1 p0 (by omega) (by omega) hp
theorem f40:tab.fns 40=some i40:=by rfl
theorem p40:ae 40=none:=by rfl
set_option maxHeartbeats 1000000 in
theorem IW (s:List UInt8) (m:IM):cw (.f 40) [.str s] m=some (.tup [.int .i64 (eJ s).1,.int .i64 (eJ s).2],m):=by
 unfold cw;rw[bY p40 f40]
 cases s with
 |nil=>simp[i40,go_sem,eJ]
 |cons c t =>
  have h68:=J2 c m
  unfold cw at h68
  have hlt:=c.toNat_lt
  have hcw:IntKind.i64.wrap (c.toNat:Int)=(c.toNat:Int):=w64 (by omega) (by omega)
  rcases mX c.toNat with hw | hw
  ·rw[hw] at h68
   simp[i40,go_sem,h68,eJ,hw]
  ·have hn:1≤dp c.toNat∧dp c.toNat≤4:=by omega
   by_cases hlen:(c::t).length<dp c.toNat
   ·have hd:eJ (c::t)=(0,0):=by simp only[eJ];rw[if_pos (.inr hlen)]
    have g0:((dp c.toNat:Int)==0)=false:=by simp;omega
    have g1:(((c::t).length:Nat):Int)<(dp c.toNat:Int):=by omega
    rw[hd]
    simp only[List.length_cons] at g1
    simp[-Int.natCast_add,i40,go_sem,h68,g0,g1]
   ·have hnot:¬(dp c.toNat=0∨(c::t).length<dp c.toNat):=by omega
    have hd:eJ (c::t)=match dcr (c::t) (dp c.toNat-1) 1 (if 1<dp c.toNat then c.toNat%(256/2^(dp c.toNat+1)) else c.toNat) with
     |none=>(0,0)
     |some p=>if dt p=true∧iq p=(c::t).take (dp c.toNat) then (p,dp c.toNat) else (0,0):=by simp only[eJ];rw[if_neg hnot]
    rw[hd]
    generalize hN:dp c.toNat=n at *
    generalize hP:(if 1<n then c.toNat%(256/2^(n+1)) else c.toNat)=p0 at *
    have hp0:(p0+1)*64^(n-1)≤2^31:=by
     have:n=1∨n=2∨n=3∨n=4:=by omega
     rcases this with q | q | q | q<;>subst q<;>simp at hP ⊢<;>omega
    have hf:=MG (c::t) n p0 hn (by omega) hp0 m
    have g0:((n:Int)==0)=false:=by simp;omega
    have g1:¬((((c::t).length:Nat):Int)<(n:Int)):=by omega
    have g2:(n:Int)≤(((c::t).length:Nat):Int):=by omega
    have g3:(0:Int)≤(n:Int):=by omega
    have hsz:(c::t).length=t.length+1:=rfl
    have e1:1<n→vn .shr .i64 256 (IntKind.i64.wrap ((n:Int)+1))=some (.int .i64 ((256/2^(n+1):Nat):Int)):=fun h=>by
     have:n=2∨n=3∨n=4:=by omega
     rcases this with q | q | q<;>subst q<;>rfl
    have e2:1<n→0<256/2^(n+1):=fun h=>by
     have:n=2∨n=3∨n=4:=by omega
     rcases this with q | q | q<;>subst q<;>decide
    generalize 256/2^(n+1)=X at *
    have hrem:1<n→((c.toNat:Int).tmod (X:Int))=(p0:Int):=fun h=>by
     rw[if_pos h] at hP
     rw[tm (by omega),←hP];rfl
    rw[hsz] at g1 g2
    by_cases h1n:1<n
    ·have g4:(1:Int)<(n:Int):=by omega
     have E1:=e1 h1n
     have E2:¬(X=0):=by have:=e2 h1n;omega
     have E3:=hrem h1n
     cases hdc:dcr (c::t) (n-1) 1 p0 with
     |none =>
      rw[hdc] at hf
      obtain⟨e',q0,q1,q2⟩:=hf
      simp only[S40] at q0
      rw[show ((1:Nat):Int)=1 from rfl] at q0
      simp[-Int.natCast_add,i40,jI,gX,gT,go_sem,h68,g0,g1,g4,hcw,E1,E2,E3,q0,q1,q2]
     |some p =>
      rw[hdc] at hf
      obtain⟨e',q0,q1,q2,q3⟩:=hf
      simp only[S40] at q0
      rw[show ((1:Nat):Int)=1 from rfl] at q0
      have h64:=En (p:Int) m
      unfold cw at h64
      cases hpt:dt (p:Int) with
      |false =>
       rw[hpt] at h64
       simp[-Int.natCast_add,i40,jI,gX,gT,go_sem,h68,g0,g1,g4,hcw,E1,E2,E3,q0,q1,q2,q3,h64,hpt]
      |true =>
       have hple:p≤1114111:=by simp[dt] at hpt;omega
       have h42:=Fo p hple m
       unfold cw at h42
       rw[hpt] at h64
       by_cases hq:iq p=(c::t).take n
       ·simp[-Int.natCast_add,i40,jI,gX,gT,go_sem,h68,g0,g1,g2,g3,g4,hcw,E1,E2,E3,q0,q1,q2,q3,h64,h42,hpt,hq]
       ·have hqb:(iq p==(c::t).take n)=false:=by simpa using hq
        simp[-Int.natCast_add,i40,jI,gX,gT,go_sem,h68,g0,g1,g2,g3,g4,hcw,E1,E2,E3,q0,q1,q2,q3,h64,h42,hpt,hq,hqb]
    ·have g4:¬(1:Int)<(n:Int):=by omega
     rw[if_neg h1n] at hP
     subst hP
     cases hdc:dcr (c::t) (n-1) 1 c.toNat with
     |none =>
      rw[hdc] at hf
      obtain⟨e',q0,q1,q2⟩:=hf
      simp only[S40] at q0
      rw[show ((1:Nat):Int)=1 from rfl] at q0
      simp[-Int.natCast_add,i40,jI,gX,gT,go_sem,h68,g0,g1,g4,hcw,q0,q1,q2]
     |some p =>
      rw[hdc] at hf
      obtain⟨e',q0,q1,q2,q3⟩:=hf
      simp only[S40] at q0
      rw[show ((1:Nat):Int)=1 from rfl] at q0
      have h64:=En (p:Int) m
      unfold cw at h64
      cases hpt:dt (p:Int) with
      |false =>
       rw[hpt] at h64
       simp[-Int.natCast_add,i40,jI,gX,gT,go_sem,h68,g0,g1,g4,hcw,q0,q1,q2,q3,h64,hpt]
      |true =>
       have hple:p≤1114111:=by simp[dt] at hpt;omega
       have h42:=Fo p hple m
       unfold cw at h42
       rw[hpt] at h64
       by_cases hq:iq p=(c::t).take n
       ·simp[-Int.natCast_add,i40,jI,gX,gT,go_sem,h68,g0,g1,g2,g3,g4,hcw,q0,q1,q2,q3,h64,h42,hpt,hq]
       ·have hqb:(iq p==(c::t).take n)=false:=by simpa using hq
        simp[-Int.natCast_add,i40,jI,gX,gT,go_sem,h68,g0,g1,g2,g3,g4,hcw,q0,q1,q2,q3,h64,h42,hpt,hq,hqb]
end Go.Idl
namespace Go.Idl
attribute [local go_sem] oA gA vA wA nA fA dA eA oV oW oN oD oF IFn.call ICode.run aU IOp.run IOp.run0 gate IK.ok aX da OTag.hits IK.run Arg.rd look aE rdAll POp.ev dy fj fD fG fC fB fE fl fq fx fI fm cY fH fh b8 St.put lkSlot lkL lkB lkC ay bM IK.link b9 cN St.drop St.capAt St.owner linkOf cM bV cJ IV.refsDeep IV.refsDeep.go IV.refs IV.refs.go al IV.plain cQ aC de bG IV.cells IV.isU IV.isL cZ cS over dz cut eqS aW bnd dS ee du dE dB cO aa aV eB dP a7 aH dH c5 a6 uqB bE St.head dj dh cI dn
theorem GA (s:List UInt8):(eJ s).2≤4∧(eJ s).2≤s.length:=by
 unfold eJ
 split
 ·simp
 ·rename_i c t
  have:=mX c.toNat
  simp only
  split
  ·simp
  ·split
   ·simp
   ·split
    ·rename_i h _ _ _ _
     simp only
     omega
    ·simp
def rvB:Nat→List UInt8→Nat→Option Nat
 |0,_,_=>none
 |k+1,s,a=>if s=[] then none else if (eJ s).2=0 then some a else rvB k (s.drop (eJ s).2) (a+(eJ s).2)
theorem wN:oH.keep=[(0,0),(4,0)]:=rfl
theorem qk:oH.keepL=[]:=rfl
theorem sm:oH.ownL=[]:=rfl
def S34 (s:List UInt8) (a:Nat) (m:IM):St where
 env:=[(0,.str s,.any),(4,.int .i64 a,.any)]
 lk:=[]
 lb:=[]
 m:=m
theorem L34 (s:List UInt8) (hs:s.length≤140737488355328) (m:IM):∀(k a:Nat),s.length-a<k→a≤s.length →
  match rvB k (s.drop a) a with
  |none=>∃e',lc tab ae oH pd (some (S34 s a m))=some (.exit 0,{ env:=e',lk:=[],lb:=[],m:=m })∧look e' 0=some (.str s,.any)
  |some a'=>∃e',lc tab ae oH pd (some (S34 s a m))=some (.ret,{ env:=e',lk:=[],lb:=[],m:=m })∧look e' 2=some (.bool false,.any)∧look e' 3=some (.int .i64 (a':Nat),.any):=by
 intro k
 induction k with
 |zero=>intro a h;omega
 |succ k ih =>
  intro a hk ha
  by_cases hlt:a<s.length
  ·have c1:(a:Int)<(s.length:Int):=by omega
   have c2:(a:Int)≤(s.length:Int):=by omega
   have c3:(0:Int)≤(a:Int):=by omega
   have hne:s.drop a≠[]:=fun e=>by have:=List.drop_eq_nil_iff.1 e;omega
   have htk:(s.drop a).take (s.length-a)=s.drop a:=List.take_of_length_le (by simp)
   have h40:=IW (s.drop a) m
   have hle:=GA (s.drop a)
   rw[List.length_drop] at hle
   unfold cw at h40
   generalize hD:eJ (s.drop a)=D at *
   by_cases hz:D.2=0
   ·have hv:rvB (k+1) (s.drop a) a=some a:=by simp[rvB,hne,hD,hz]
    rw[hv,bn]
    simp only
    have hzb:((D.2:Nat):Int)=0:=by omega
    simp[pd,wN,qk,sm,S34,go_sem,c1,c2,c3,htk,h40,hzb,hz]
   ·have hv:rvB (k+1) (s.drop a) a=rvB k (s.drop (a+D.2)) (a+D.2):=by simp[rvB,hne,hD,hz,List.drop_drop]
    rw[hv]
    have hzb:(((D.2:Nat):Int)==0)=false:=by simp;omega
    have e1:IntKind.i64.wrap ((a:Int)+((D.2:Nat):Int))=((a+D.2:Nat):Int):=by rw[w64 (by omega) (by omega)];rfl
    have step:lc tab ae oH pd (some (S34 s a m))=lc tab ae oH pd (some (S34 s (a+D.2) m)):=by
     rw[bn]
     generalize a+D.2=q at *
     simp[pd,wN,qk,sm,S34,go_sem,c1,c2,c3,htk,h40,hzb,e1]
    rw[step]
    exact ih (a+D.2) (by omega) (by omega)
  ·have c1:¬(a:Int)<(s.length:Int):=by omega
   have hd:s.drop a=[]:=List.drop_eq_nil_iff.2 (by omega)
   have hv:rvB (k+1) (s.drop a) a=none:=by simp[rvB,hd]
   rw[hv,bn]
   simp only
   simp[pd,wN,qk,sm,S34,go_sem,c1]
theorem f34:tab.fns 34=some i34:=by rfl
theorem p34:ae 34=none:=by rfl
theorem Kl (s:List UInt8) (hs:s.length≤140737488355328) (m:IM):cw (.f 34) [.str s] m=some (.tup (match rvB (s.length+1) s 0 with | none=>[.bool true,.int .i64 (s.length:Int)] | some a=>[.bool false,.int .i64 (a:Int)]),m):=by
 unfold cw;rw[bY p34 f34]
 have q:=L34 s hs m (s.length+1) 0 (by omega) (by omega)
 rw[List.drop_zero] at q
 cases hv:rvB (s.length+1) s 0 with
 |none =>
  rw[hv] at q
  obtain⟨e',q0,q1⟩:=q
  simp only[S34] at q0
  rw[show ((0:Nat):Int)=0 from rfl] at q0
  simp[i34,wN,qk,sm,go_sem,q0,q1]
 |some a =>
  rw[hv] at q
  obtain⟨e',q0,q1,q2⟩:=q
  simp only[S34] at q0
  rw[show ((0:Nat):Int)=0 from rfl] at q0
  simp[i34,wN,qk,sm,go_sem,q0,q1,q2]
end Go.Idl
namespace Go.Idl
attribute [local go_sem] oA gA vA wA nA fA dA eA oV oW oN oD oF IFn.call ICode.run aU IOp.run IOp.run0 gate IK.ok aX da OTag.hits IK.run Arg.rd look aE rdAll POp.ev dy fj fD fG fC fB fE fl fq fx fI fm cY fH fh b8 St.put lkSlot lkL lkB lkC ay bM IK.link b9 cN St.drop St.capAt St.owner linkOf cM bV cJ IV.refsDeep IV.refsDeep.go IV.refs IV.refs.go al IV.plain cQ aC de bG IV.cells IV.isU IV.isL cZ cS over dz cut eqS aW bnd dS ee du dE dB cO aa aV eB dP a7 aH dH c5 a6 uqB bE St.head dj dh cI dn
end Go.Idl
namespace Go.Idl
attribute [local go_sem] oA gA vA wA nA fA dA eA oV oW oN oD oF IFn.call ICode.run aU IOp.run IOp.run0 gate IK.ok aX da OTag.hits IK.run Arg.rd look aE rdAll POp.ev dy fj fD fG fC fB fE fl fq fx fI fm cY fH fh b8 St.put lkSlot lkL lkB lkC ay bM IK.link b9 cN St.drop St.capAt St.owner linkOf cM bV cJ IV.refsDeep IV.refsDeep.go IV.refs IV.refs.go al IV.plain cQ aC de bG IV.cells IV.isU IV.isL cZ cS over dz cut eqS aW bnd dS ee du dE dB cO aa aV eB dP a7 aH dH c5 a6 uqB bE St.head dj dh cI dn
end Go.Idl
namespace Go.Idl
attribute [local go_sem] oA gA vA wA nA fA dA eA oV oW oN oD oF IFn.call ICode.run aU IOp.run IOp.run0 gate IK.ok aX da OTag.hits IK.run Arg.rd look aE rdAll POp.ev dy fj fD fG fC fB fE fl fq fx fI fm cY fH fh b8 St.put lkSlot lkL lkB lkC ay bM IK.link b9 cN St.drop St.capAt St.owner linkOf cM bV cJ IV.refsDeep IV.refsDeep.go IV.refs IV.refs.go al IV.plain cQ aC de bG IV.cells IV.isU IV.isL cZ cS over dz cut eqS aW bnd dS ee du dE dB cO aa aV eB dP a7 aH dH c5 a6 uqB bE St.head dj dh cI dn
def visit {σ:Type}(step:σ→Nat→Nat×Bool×Nat→Bool×σ):Nat→List UInt8→Nat→σ→Bool×σ
 |0,_,_,x=>(true,x)
 |_+1,[],_,x=>(true,x)
 |k+1,c::t,a,x=>if (step x a (aI (c::t))).1 then visit step k ((c::t).drop (max (aI (c::t)).1 1)) (a+max (aI (c::t)).1 1) (step x a (aI (c::t))).2 else (false,(step x a (aI (c::t))).2)
def EU (yid bid a:Nat) (m:IM):St where
 env:=[(0,.yld yid,.any),(1,.pB bid 0,.any),(3,.int .i64 a,.any)]
 lk:=[]
 lb:=[]
 m:=m
theorem N0 {σ:Type}(s:List UInt8) (hs:s.length≤140737488355328) (yid bid:Nat) (Mg Ms:σ→IM) (step:σ→Nat→Nat×Bool×Nat→Bool×σ) (I:Nat→σ→Prop) (hget:∀x,(Mg x).get bid=.cells [.str s] [.any])
  (hI:∀a x,I a x→a<s.length→(step x a (aI (s.drop a))).1=true→I (a+max (aI (s.drop a)).1 1) (step x a (aI (s.drop a))).2)
  (hy:∀a x,I a x→a<s.length→cw (.y yid) [.int .i64 (a:Int),jn (aI (s.drop a))] (Mg x)=some (.bool (step x a (aI (s.drop a))).1,if (step x a (aI (s.drop a))).1=true then Mg (step x a (aI (s.drop a))).2 else Ms (step x a (aI (s.drop a))).2)) :
  ∀(k a:Nat) (x:σ),s.length-a<k→a≤140737488355332→I a x →
   ∃e' lb',lc tab ae sA sq (some (EU yid bid a (Mg x)))=match visit step k (s.drop a) a x with
    |(true,x')=>some (.exit 0,{ env:=e',lk:=[],lb:=lb',m:=Mg x' })
    |(false,x')=>some (.ret,{ env:=e',lk:=[],lb:=lb',m:=Ms x' }):=by
 intro k
 induction k with
 |zero=>intro a x h;omega
 |succ k ih =>
  intro a x hk hat hx
  rw[bn]
  have hg:=hget x
  by_cases hlt:a<s.length
  ·have c1:(a:Int)<(s.length:Int):=by omega
   have c2:(a:Int)≤(s.length:Int):=by omega
   have c3:(0:Int)≤(a:Int):=by omega
   have hI':=hI a x hx hlt
   have hy':=hy a x hx hlt
   cases hd:s.drop a with
   |nil=>have:=List.drop_eq_nil_iff.1 hd;omega
   |cons c t =>
    have htk:(s.drop a).take (s.length-a)=s.drop a:=List.take_of_length_le (by simp)
    have hb:=IH c t (Mg x)
    have hle:=AV (c::t)
    have hv0:visit step (k+1) (c::t) a x=if (step x a (aI (c::t))).1 then visit step k ((c::t).drop (max (aI (c::t)).1 1)) (a+max (aI (c::t)).1 1) (step x a (aI (c::t))).2 else (false,(step x a (aI (c::t))).2):=rfl
    rw[hv0]
    rw[←hd] at *
    unfold cw at hb hy'
    generalize hG:aI (List.drop a s)=G at *
    have hmax:(if ((G.1:Nat):Int)<1 then (1:Int) else ((G.1:Nat):Int))=((max G.1 1:Nat):Int):=by
     split<;>omega
    cases hw:(step x a G).1 with
    |true =>
     simp only[if_true]
     rw[List.drop_drop]
     obtain⟨e',lb',q⟩:=ih (a+max G.1 1) (step x a G).2 (by omega) (by omega) (hI' hw)
     refine⟨e',lb',?_⟩
     rw[←q]
     simp only[hw,if_true] at hy'
     have e1:IntKind.i64.wrap ((a:Int)+((max G.1 1:Nat):Int))=((a+max G.1 1:Nat):Int):=by rw[w64 (by omega) (by omega)];rfl
     simp only[EU,jn] at hb hy' ⊢
     generalize lc tab ae sA sq=L
     generalize Mg (step x a G).2=M' at *
     generalize a+max G.1 1=j at *
     generalize max G.1 1=j' at *
     generalize Mg x=M at *
     simp[sq,w6,q8,qp,go_sem,hg,c1,c2,c3,htk,hb,hy',hmax,e1]
    |false =>
     simp only[hw,Bool.false_eq_true,if_false] at hy' ⊢
     simp only[EU,jn] at hb hy' ⊢
     generalize lc tab ae sA sq=L
     generalize Ms (step x a G).2=M' at *
     generalize Mg x=M at *
     simp[sq,w6,q8,qp,go_sem,hg,c1,c2,c3,htk,hb,hy']
  ·have c1:¬(a:Int)<(s.length:Int):=by omega
   have hd:s.drop a=[]:=List.drop_eq_nil_iff.2 (by omega)
   rw[hd]
   have hv0:visit step (k+1) [] a x=(true,x):=rfl
   rw[hv0]
   simp only[EU]
   generalize Mg x=M at *
   simp[sq,w6,q8,qp,go_sem,hg,c1]
theorem f65:tab.fns 65=some i65:=by rfl
theorem p65:ae 65=none:=by rfl
theorem Kf (b:Bool) (e:Int) (m:IM):cw (.f 65) [.bool b,.int .i64 e] m=some (.int .i64 (if b then e else 0),m):=by
 unfold cw;rw[bY p65 f65]
 cases b<;>simp[i65,go_sem]
theorem f66:tab.fns 66=some i66:=by rfl
theorem p66:ae 66=none:=by rfl
theorem zR:Aq.keep=[(5,0),(6,0),(7,0)]:=rfl
theorem vy:Aq.keepL=[]:=rfl
theorem uD:Aq.ownL=[]:=rfl
theorem f58:tab.fns 58=some i58:=by rfl
theorem p58:ae 58=none:=by rfl
end Go.Idl
namespace Go.Idl
attribute [local go_sem] oA gA vA wA nA fA dA eA oV oW oN oD oF IFn.call ICode.run aU IOp.run IOp.run0 gate IK.ok aX da OTag.hits IK.run Arg.rd look aE rdAll POp.ev dy fj fD fG fC fB fE fl fq fx fI fm cY fH fh b8 St.put lkSlot lkL lkB lkC ay bM IK.link b9 cN St.drop St.capAt St.owner linkOf cM bV cJ IV.refsDeep IV.refsDeep.go IV.refs IV.refs.go al IV.plain cQ aC de bG IV.cells IV.isU IV.isL cZ cS over dz cut eqS aW bnd dS ee du dE dB cO aa aV eB dP a7 aH dH c5 a6 uqB bE St.head dj dh cI dn
end Go.Idl
namespace Go.Idl
theorem of_eq {n:Nat}{b:UInt8}(h:n=b.toNat):UInt8.ofNat n=b:=by subst h;simp
theorem Ou (c:UInt8) (t:List UInt8) (h:c.toNat≤127):aI (c::t)=(1,true,c.toNat)∧eJ (c::t)=(c.toNat,1):=by
 have hl:eQ c.toNat=some (1,0,0,c.toNat):=by simp[eQ,h]
 have hw:dp c.toNat=1:=by simp[dp];omega
 refine⟨by simp[aI,hl,fR,inn],?_⟩
 have hp:dt (c.toNat:Int)=true:=by simp[dt];omega
 have he:iq c.toNat=[c]:=by simp[iq,show c.toNat<128 by omega]
 simp[eJ,hw,dcr,hp,he]
theorem NY (c:UInt8) (t:List UInt8) (h:194≤c.toNat∧c.toNat≤223):eJ (c::t)=if (aI (c::t)).2.1 then ((aI (c::t)).2.2,(aI (c::t)).1) else (0,0):=by
 have hl:eQ c.toNat=some (2,128,191,c.toNat%32):=by
  unfold eQ
  rw[if_neg (by omega),if_neg (by omega),if_pos (by omega)]
 have hw:dp c.toNat=2:=by
  unfold dp
  rw[if_neg (by omega),if_pos (by omega)]
 cases t with
 |nil=>simp[eJ,aI,hl,hw,fR,inn]
 |cons b t =>
  have hb:=b.toNat_lt
  by_cases h1:b.toNat<128∨191<b.toNat
  ·simp[eJ,aI,hl,hw,fR,inn,dcr,h1]
  ·have e:64*(c.toNat%32)+b.toNat-128=c.toNat%32*64+b.toNat%64:=by omega
   have hp:dt ((c.toNat%32*64+b.toNat%64:Nat):Int)=true:=by simp[dt];omega
   have he:iq (c.toNat%32*64+b.toNat%64)=[c,b]:=by
    unfold iq
    rw[if_neg (by omega),if_pos (by omega),of_eq (b:=c) (by omega),of_eq (b:=b) (by omega)]
   simp only[eJ,aI,hl,hw,fR,inn,dcr]
   simp[h1,e,hp,he,-Int.natCast_add,-Int.natCast_emod,-Int.natCast_mul]
theorem Kx (c:UInt8) (t:List UInt8) (lo hi:Nat) (hl:eQ c.toNat=some (3,lo,hi,c.toNat%16)) (h:224≤c.toNat∧c.toNat≤239)
  (hx:(c.toNat=224∧lo=160∧hi=191)∨(c.toNat=237∧lo=128∧hi=159)∨(c.toNat≠224∧c.toNat≠237∧lo=128∧hi=191)) :
  eJ (c::t)=if (aI (c::t)).2.1 then ((aI (c::t)).2.2,(aI (c::t)).1) else (0,0):=by
 have hw:dp c.toNat=3:=by
  unfold dp
  rw[if_neg (by omega),if_neg (by omega),if_pos (by omega)]
 cases t with
 |nil=>simp[eJ,aI,hl,hw,fR,inn]
 |cons b t =>
  have hb:=b.toNat_lt
  cases t with
  |nil =>
   by_cases h1:b.toNat<lo∨hi<b.toNat
   ·simp[eJ,aI,hl,hw,fR,inn,h1]
   ·simp[eJ,aI,hl,hw,fR,inn,h1]
  |cons d t =>
   have hd:=d.toNat_lt
   by_cases h0:b.toNat<128∨191<b.toNat
   ·have h1:b.toNat<lo∨hi<b.toNat:=by omega
    simp[eJ,aI,hl,hw,fR,inn,dcr,h0,h1]
   ·by_cases h2:d.toNat<128∨191<d.toNat
    ·by_cases h1:b.toNat<lo∨hi<b.toNat
     ·simp[eJ,aI,hl,hw,fR,inn,dcr,h0,h1,h2]
     ·simp[eJ,aI,hl,hw,fR,inn,dcr,h0,h1,h2]
    ·have e1:64*(c.toNat%16)+b.toNat-128=c.toNat%16*64+b.toNat%64:=by omega
     have e2:64*(c.toNat%16*64+b.toNat%64)+d.toNat-128=(c.toNat%16*64+b.toNat%64)*64+d.toNat%64:=by omega
     by_cases h1:b.toNat<lo∨hi<b.toNat
     ·have hn:¬(dt (((c.toNat%16*64+b.toNat%64)*64+d.toNat%64:Nat):Int)=true∧iq ((c.toNat%16*64+b.toNat%64)*64+d.toNat%64)=[c,b,d]):=by
       rintro ⟨q1,q2⟩
       simp only[dt,Bool.and_eq_true,Bool.or_eq_true,decide_eq_true_eq] at q1
       have:(c.toNat%16*64+b.toNat%64)*64+d.toNat%64<2048:=by omega
       have:=congrArg List.length q2
       unfold iq at this
       rw[if_pos (show (c.toNat%16*64+b.toNat%64)*64+d.toNat%64<2048 by omega)] at this
       split at this<;>simp at this
      simp only[eJ,aI,hl,hw,fR,inn,dcr]
      simp[h0,h1,h2,e1,e2,-Int.natCast_add,-Int.natCast_emod,-Int.natCast_mul]
      exact if_neg hn
     ·have hp:dt (((c.toNat%16*64+b.toNat%64)*64+d.toNat%64:Nat):Int)=true:=by
       simp only[dt,Bool.and_eq_true,Bool.or_eq_true,decide_eq_true_eq];omega
      have he:iq ((c.toNat%16*64+b.toNat%64)*64+d.toNat%64)=[c,b,d]:=by
       unfold iq
       rw[if_neg (by omega),if_neg (by omega),if_pos (by omega),of_eq (b:=c) (by omega),of_eq (b:=b) (by omega),of_eq (b:=d) (by omega)]
      simp only[eJ,aI,hl,hw,fR,inn,dcr]
      simp[h0,h1,h2,e1,e2,hp,he,-Int.natCast_add,-Int.natCast_emod,-Int.natCast_mul]
theorem Jy (c:UInt8) (t:List UInt8) (lo hi:Nat) (hl:eQ c.toNat=some (4,lo,hi,c.toNat%8)) (h:240≤c.toNat∧c.toNat≤244)
  (hx:(c.toNat=240∧lo=144∧hi=191)∨(c.toNat=244∧lo=128∧hi=143)∨(c.toNat≠240∧c.toNat≠244∧lo=128∧hi=191)) :
  eJ (c::t)=if (aI (c::t)).2.1 then ((aI (c::t)).2.2,(aI (c::t)).1) else (0,0):=by
 have hw:dp c.toNat=4:=by
  unfold dp
  rw[if_neg (by omega),if_neg (by omega),if_neg (by omega),if_pos (by omega)]
 cases t with
 |nil=>simp[eJ,aI,hl,hw,fR,inn]
 |cons b t =>
  have hb:=b.toNat_lt
  cases t with
  |nil =>
   by_cases h1:b.toNat<lo∨hi<b.toNat
   ·simp[eJ,aI,hl,hw,fR,inn,h1]
   ·simp[eJ,aI,hl,hw,fR,inn,h1]
  |cons d t =>
   have hd:=d.toNat_lt
   cases t with
   |nil =>
    by_cases h1:b.toNat<lo∨hi<b.toNat
    ·simp[eJ,aI,hl,hw,fR,inn,h1]
    ·by_cases h2:d.toNat<128∨191<d.toNat
     ·simp[eJ,aI,hl,hw,fR,inn,h1,h2]
     ·simp[eJ,aI,hl,hw,fR,inn,h1,h2]
   |cons f t =>
    have hf:=f.toNat_lt
    by_cases h0:b.toNat<128∨191<b.toNat
    ·have h1:b.toNat<lo∨hi<b.toNat:=by omega
     simp[eJ,aI,hl,hw,fR,inn,dcr,h0,h1]
    ·by_cases h2:d.toNat<128∨191<d.toNat
     ·by_cases h1:b.toNat<lo∨hi<b.toNat
      ·simp[eJ,aI,hl,hw,fR,inn,dcr,h0,h1,h2]
      ·simp[eJ,aI,hl,hw,fR,inn,dcr,h0,h1,h2]
     ·by_cases h3:f.toNat<128∨191<f.toNat
      ·by_cases h1:b.toNat<lo∨hi<b.toNat
       ·simp[eJ,aI,hl,hw,fR,inn,dcr,h0,h1,h2,h3]
       ·simp[eJ,aI,hl,hw,fR,inn,dcr,h0,h1,h2,h3]
      ·have e1:64*(c.toNat%8)+b.toNat-128=c.toNat%8*64+b.toNat%64:=by omega
       have e2:64*(c.toNat%8*64+b.toNat%64)+d.toNat-128=(c.toNat%8*64+b.toNat%64)*64+d.toNat%64:=by omega
       have e3:64*((c.toNat%8*64+b.toNat%64)*64+d.toNat%64)+f.toNat-128=((c.toNat%8*64+b.toNat%64)*64+d.toNat%64)*64+f.toNat%64:=by omega
       by_cases h1:b.toNat<lo∨hi<b.toNat
       ·have hn:¬(dt ((((c.toNat%8*64+b.toNat%64)*64+d.toNat%64)*64+f.toNat%64:Nat):Int)=true∧iq (((c.toNat%8*64+b.toNat%64)*64+d.toNat%64)*64+f.toNat%64)=[c,b,d,f]):=by
         rintro ⟨q1,q2⟩
         simp only[dt,Bool.and_eq_true,Bool.or_eq_true,decide_eq_true_eq] at q1
         have:((c.toNat%8*64+b.toNat%64)*64+d.toNat%64)*64+f.toNat%64<65536:=by omega
         have:=congrArg List.length q2
         unfold iq at this
         rw[if_pos (show ((c.toNat%8*64+b.toNat%64)*64+d.toNat%64)*64+f.toNat%64<65536 by omega)] at this
         split at this
         ·simp at this
         ·split at this<;>simp at this
        simp only[eJ,aI,hl,hw,fR,inn,dcr]
        simp[h0,h1,h2,h3,e1,e2,e3,-Int.natCast_add,-Int.natCast_emod,-Int.natCast_mul]
        exact if_neg hn
       ·have hp:dt ((((c.toNat%8*64+b.toNat%64)*64+d.toNat%64)*64+f.toNat%64:Nat):Int)=true:=by
         simp only[dt,Bool.and_eq_true,Bool.or_eq_true,decide_eq_true_eq];omega
        have he:iq (((c.toNat%8*64+b.toNat%64)*64+d.toNat%64)*64+f.toNat%64)=[c,b,d,f]:=by
         unfold iq
         rw[if_neg (by omega),if_neg (by omega),if_neg (by omega),of_eq (b:=c) (by omega),of_eq (b:=b) (by omega),of_eq (b:=d) (by omega),of_eq (b:=f) (by omega)]
        simp only[eJ,aI,hl,hw,fR,inn,dcr]
        simp[h0,h1,h2,h3,e1,e2,e3,hp,he,-Int.natCast_add,-Int.natCast_emod,-Int.natCast_mul]
theorem Bk (c:UInt8) (t:List UInt8):eJ (c::t)=if (aI (c::t)).2.1 then ((aI (c::t)).2.2,(aI (c::t)).1) else (0,0):=by
 have hc:=c.toNat_lt
 by_cases h1:c.toNat≤127
 ·obtain⟨a,b⟩:=Ou c t h1
  rw[a,b];rfl
 by_cases h2:194≤c.toNat∧c.toNat≤223
 ·exact NY c t h2
 by_cases h3:224≤c.toNat∧c.toNat≤239
 ·by_cases q1:c.toNat=224
  ·exact Kx c t 160 191 (by simp[eQ,q1]) h3 (by omega)
  ·by_cases q2:c.toNat=237
   ·exact Kx c t 128 159 (by simp[eQ,q2]) h3 (by omega)
   ·refine Kx c t 128 191 ?_ h3 (by omega)
    unfold eQ
    rw[if_neg (by omega),if_neg (by omega),if_neg (by omega),if_neg (by omega)]
    by_cases q3:c.toNat≤236
    ·rw[if_pos q3]
    ·rw[if_neg q3,if_neg q2,if_pos (by omega)]
 by_cases h4:240≤c.toNat∧c.toNat≤244
 ·by_cases q1:c.toNat=240
  ·exact Jy c t 144 191 (by simp[eQ,q1]) h4 (by omega)
  ·by_cases q2:c.toNat=244
   ·exact Jy c t 128 143 (by simp[eQ,q2]) h4 (by omega)
   ·refine Jy c t 128 191 ?_ h4 (by omega)
    unfold eQ
    rw[if_neg (by omega),if_neg (by omega),if_neg (by omega),if_neg (by omega),if_neg (by omega),if_neg (by omega),if_neg (by omega),if_neg q1,if_pos (by omega)]
 ·have hl:eQ c.toNat=none:=by
   unfold eQ
   rw[if_neg (by omega)]
   by_cases q:c.toNat<194
   ·rw[if_pos q]
   ·rw[if_neg q,if_neg (by omega),if_neg (by omega),if_neg (by omega),if_neg (by omega),if_neg (by omega),if_neg (by omega),if_neg (by omega),if_neg (by omega)]
  have hw:dp c.toNat=0:=by
   unfold dp
   rw[if_neg (by omega),if_neg (by omega),if_neg (by omega),if_neg (by omega)]
  simp[eJ,aI,hl,hw]
theorem Dd (s:List UInt8) (lo hi:Nat):∀k n p,n≤(inn s lo hi k n p).1
 |0,n,p=>Nat.le_refl _
 |k+1,n,p=>by
  rw[inn]
  cases h:s[n]? with
  |none=>exact Nat.le_refl _
  |some b =>
   simp only
   by_cases hc:b.toNat<(if n=1 then lo else 128)∨(if n=1 then hi else 191)<b.toNat
   ·rw[if_pos hc];exact Nat.le_refl _
   ·rw[if_neg hc]
    have:=Dd s lo hi k (n+1) (p*64+b.toNat%64);omega
theorem BH (s:List UInt8) (h:(aI s).2.1=true):1≤(aI s).1:=by
 unfold aI at h ⊢
 split
 ·simp at h
 ·rename_i c t
  simp only at h ⊢
  cases hl:eQ c.toNat with
  |none=>rw[hl] at h;simp at h
  |some q =>
   obtain⟨sz,lo,hi,p⟩:=q
   simp only
   exact Dd _ _ _ _ _ _
theorem FW:∀(k:Nat) (s:List UInt8) (a:Nat),lU k s a=rvB k s a
 |0,_,_=>rfl
 |_+1,[],_=>by simp[lU,rvB]
 |k+1,c::t,a=>by
  have h:=Bk c t
  have hp:=BH (c::t)
  generalize hG:aI (c::t)=G at *
  obtain⟨n,w,p⟩:=G
  cases w with
  |false =>
   simp only[Bool.false_eq_true,if_false] at h
   simp[lU,rvB,hG,h]
  |true =>
   simp only[if_true] at h
   have hp':1≤n:=hp rfl
   have hm:max n 1=n:=by omega
   have hz:n≠0:=by omega
   simp only[lU,rvB,hG,h,hm,if_true]
   rw[if_neg (by simp),if_neg hz]
   exact FW k _ _
end Go.Idl
namespace Go.Idl
attribute [local go_sem] oA gA vA wA nA fA dA eA oV oW oN oD oF IFn.call ICode.run aU IOp.run IOp.run0 gate IK.ok aX da OTag.hits IK.run Arg.rd look aE rdAll POp.ev dy fj fD fG fC fB fE fl fq fx fI fm cY fH fh b8 St.put lkSlot lkL lkB lkC ay bM IK.link b9 cN St.drop St.capAt St.owner linkOf cM bV cJ IV.refsDeep IV.refsDeep.go IV.refs IV.refs.go al IV.plain cQ aC de bG IV.cells IV.isU IV.isL cZ cS over dz cut eqS aW bnd dS ee du dE dB cO aa aV eB dP a7 aH dH c5 a6 uqB bE St.head dj dh cI dn
theorem GX:∃m',cw (.f 10) [] ⟨[],0⟩=some (.bool true,m')∧m'=⟨[],0⟩:=by
 have h:=J6
 cases hq:(sem tab ae 400).call (.f 10) [] ⟨[],0⟩ with
 |none=>rw[hq] at h;simp[u7] at h
 |some r =>
  rw[hq] at h
  unfold u7 at h
  split at h
  ·rename_i e
   cases e
   exact⟨_,gi.2 ⟨400,hq⟩,rfl⟩
  ·cases h
theorem C8:cw (.f 10) [] ⟨[],0⟩=some (.bool true,⟨[],0⟩):=by
 obtain⟨m',h,e⟩:=GX
 subst e
 exact h
end Go.Idl
namespace Go.Idl
attribute [local go_sem] oA gA vA wA nA fA dA eA oV oW oN oD oF IFn.call ICode.run aU IOp.run IOp.run0 gate IK.ok aX da OTag.hits IK.run Arg.rd look aE rdAll POp.ev dy fj fD fG fC fB fE fl fq fx fI fm cY fH fh b8 St.put lkSlot lkL lkB lkC ay bM IK.link b9 cN St.drop St.capAt St.owner linkOf cM bV cJ IV.refsDeep IV.refsDeep.go IV.refs IV.refs.go al IV.plain cQ aC de bG IV.cells IV.isU IV.isL cZ cS over dz cut eqS aW bnd dS ee du dE dB cO aa aV eB dP a7 aH dH c5 a6 uqB bE St.head dj dh cI dn
def bsl:List UInt8→IV
 |[]=>.nilSlice
 |b::r=>.sl (aa (b::r)) (b::r).length
theorem dD (l:List UInt8):(aa l).length=l.length:=by
 induction l with
 |nil=>rfl
 |cons b r ih=>simp[aa,ih]
theorem cP (l:List UInt8):(aa l).all IV.plain=true:=by
 induction l with
 |nil=>rfl
 |cons b r ih=>simp[aa,ih,IV.plain,IV.refs]
theorem iJ (a b:List UInt8):aa (a++b)=aa a++aa b:=by
 induction a with
 |nil=>rfl
 |cons x r ih=>simp[aa,ih]
theorem r7 (l:List UInt8):aW (aa l)=some l:=by
 induction l with
 |nil=>rfl
 |cons b r ih=>simp[aa,aW,ih]
theorem uh (l:List UInt8):POp.ev .bytesStr [bsl l]=some (.str l):=by
 cases l with
 |nil=>rfl
 |cons b r =>
  have h1:=dD (b::r)
  have h2:=r7 (b::r)
  simp only[bsl]
  generalize (b::r)=x at *
  simp[POp.ev,h1,h2]
theorem pO (l:List UInt8):POp.ev .lenSlice [bsl l]=some (.int .i64 (l.length:Int)):=by
 cases l<;>rfl
theorem xD (l:List UInt8):(bsl l).refs=some 0:=by cases l<;>rfl
end Go.Idl
namespace Go.Idl
attribute [local go_sem] oA gA vA wA nA fA dA eA oV oW oN oD oF IFn.call ICode.run aU IOp.run IOp.run0 gate IK.ok aX da OTag.hits IK.run Arg.rd look aE rdAll POp.ev dy fj fD fG fC fB fE fl fq fx fI fm cY fH fh b8 St.put lkSlot lkL lkB lkC ay bM IK.link b9 cN St.drop St.capAt St.owner linkOf cM bV cJ IV.refsDeep IV.refsDeep.go IV.refs IV.refs.go al IV.plain cQ aC de bG IV.cells IV.isU IV.isL cZ cS over dz cut eqS aW bnd dS ee du dE dB cO aa aV eB dP a7 aH dH c5 a6 uqB bE St.head dj dh cI dn
end Go.Idl
namespace Go.Idl
attribute [local go_sem] oA gA vA wA nA fA dA eA oV oW oN oD oF IFn.call ICode.run aU IOp.run IOp.run0 gate IK.ok aX da OTag.hits IK.run Arg.rd look aE rdAll POp.ev dy fj fD fG fC fB fE fl fq fx fI fm cY fH fh b8 St.put lkSlot lkL lkB lkC ay bM IK.link b9 cN St.drop St.capAt St.owner linkOf cM bV cJ IV.refsDeep IV.refsDeep.go IV.refs IV.refs.go al IV.plain cQ aC de bG IV.cells IV.isU IV.isL cZ cS over dz cut eqS aW bnd dS ee du dE dB cO aa aV eB dP a7 aH dH c5 a6 uqB bE St.head dj dh cI dn
end Go.Idl
namespace Go.Idl
attribute [local go_sem] oA gA vA wA nA fA dA eA oV oW oN oD oF IFn.call ICode.run aU IOp.run IOp.run0 gate IK.ok aX da OTag.hits IK.run Arg.rd look aE rdAll POp.ev dy fj fD fG fC fB fE fl fq fx fI fm cY fH fh b8 St.put lkSlot lkL lkB lkC ay bM IK.link b9 cN St.drop St.capAt St.owner linkOf cM bV cJ IV.refsDeep IV.refsDeep.go IV.refs IV.refs.go al IV.plain cQ aC de bG IV.cells IV.isU IV.isL cZ cS over dz cut eqS aW bnd dS ee du dE dB cO aa aV eB dP a7 aH dH c5 a6 uqB bE St.head dj dh cI dn
end Go.Idl
namespace Go.Idl
end Go.Idl
namespace Go.Idl
attribute [local go_sem] oA gA vA wA nA fA dA eA oV oW oN oD oF IFn.call ICode.run aU IOp.run IOp.run0 gate IK.ok aX da OTag.hits IK.run Arg.rd look aE rdAll POp.ev dy fj fD fG fC fB fE fl fq fx fI fm cY fH fh b8 St.put lkSlot lkL lkB lkC ay bM IK.link b9 cN St.drop St.capAt St.owner linkOf cM bV cJ IV.refsDeep IV.refsDeep.go IV.refs IV.refs.go al IV.plain cQ aC de bG IV.cells IV.isU IV.isL cZ cS over dz cut eqS aW bnd dS ee du dE dB cO aa aV eB dP a7 aH dH c5 a6 uqB bE St.head dj dh cI dn
end Go.Idl
namespace Go.Idl
attribute [local go_sem] oA gA vA wA nA fA dA eA oV oW oN oD oF IFn.call ICode.run aU IOp.run IOp.run0 gate IK.ok aX da OTag.hits IK.run Arg.rd look aE rdAll POp.ev dy fj fD fG fC fB fE fl fq fx fI fm cY fH fh b8 St.put lkSlot lkL lkB lkC ay bM IK.link b9 cN St.drop St.capAt St.owner linkOf cM bV cJ IV.refsDeep IV.refsDeep.go IV.refs IV.refs.go al IV.plain cQ aC de bG IV.cells IV.isU IV.isL cZ cS over dz cut eqS aW bnd dS ee du dE dB cO aa aV eB dP a7 aH dH c5 a6 uqB bE St.head dj dh cI dn
theorem p3:ae 3=none:=by rfl
end Go.Idl
namespace Go.Idl
attribute [local go_sem] oA gA vA wA nA fA dA eA oV oW oN oD oF IFn.call ICode.run aU IOp.run IOp.run0 gate IK.ok aX da OTag.hits IK.run Arg.rd look aE rdAll POp.ev dy fj fD fG fC fB fE fl fq fx fI fm cY fH fh b8 St.put lkSlot lkL lkB lkC ay bM IK.link b9 cN St.drop St.capAt St.owner linkOf cM bV cJ IV.refsDeep IV.refsDeep.go IV.refs IV.refs.go al IV.plain cQ aC de bG IV.cells IV.isU IV.isL cZ cS over dz cut eqS aW bnd dS ee du dE dB cO aa aV eB dP a7 aH dH c5 a6 uqB bE St.head dj dh cI dn
noncomputable abbrev bO (c:ICode) (st:St):Option (Ex×St):=c.run (dT tab ae) (eY tab ae) st
theorem run_seq {a b:ICode}{st st':St}(h:bO a st=some (.normal,st')):bO (.seq a b) st=bO b st':=by
 show ICode.run _ _ (.seq a b) st=_
 rw[ICode.run]
 have h':a.run (dT tab ae) (eY tab ae) st=some (.normal,st'):=h
 rw[h']
theorem wo {a b:ICode}{st st':St}(h:bO a st=some (.ret,st')):bO (.seq a b) st=some (.ret,st'):=by
 show ICode.run _ _ (.seq a b) st=_
 rw[ICode.run]
 have h':a.run (dT tab ae) (eY tab ae) st=some (.ret,st'):=h
 rw[h']
def cL:ICode→ICode
 |.seq a _=>a
 |c=>c
def cR:ICode→ICode
 |.seq _ b=>b
 |c=>c
def st0 (e:Env) (m:IM):St:={ env:=e,lk:=[],lb:=[],m:=m }
theorem f122:tab.fns 122=some i122:=by rfl
theorem p122:ae 122=none:=by rfl
theorem A7 (t:List UInt8) (c:UInt8) (m:IM):cw (.f 122) [.str t,.str [c]] m=some (.bool (t.head?==some c),m):=by
 unfold cw;rw[bY p122 f122]
 cases t with
 |nil=>simp[i122,go_sem]
 |cons x t =>
  have g1:(1:Int)≤((t.length+1:Nat):Int):=by omega
  by_cases h:x=c
  ·subst h;simp[-Int.natCast_add,i122,go_sem,g1]
  ·have h':(x==c)=false:=by simpa using h
   simp[-Int.natCast_add,i122,go_sem,g1,h,h']
theorem f99:tab.fns 99=some i99:=by rfl
theorem p99:ae 99=none:=by rfl
theorem mx (t:List UInt8) (c:UInt8) (m:IM):cw (.f 99) [.str t,.str [c]] m=some (.bool (t.head?==some c),m):=by
 unfold cw;rw[bY p99 f99]
 have h:=A7 t c m
 unfold cw at h
 simp[i99,go_sem,h]
theorem f80:tab.fns 80=some i80:=by rfl
theorem p80:ae 80=none:=by rfl
def sG (c:UInt8):Bool:=decide (48≤c.toNat)&&decide (c.toNat≤57)
theorem Kb (c : UInt8) (m : IM) : cw (.f 80) [.int .u8 (c.toNat : Int)] m = some (.bool (sG c), m) := by
  unfold cw; rw [bY p80 f80]
  by_cases h1 : 48 ≤ c.toNat <;> by_cases h2 : c.toNat ≤ 57 <;>
  (have g1 : ((48 : Int) ≤ (c.toNat : Int)) = (48 ≤ c.toNat) := by simp; omega
   have g2 : ((c.toNat : Int) ≤ 57) = (c.toNat ≤ 57) := by simp; omega
   simp [i80, go_sem, sG, g1, g2, h1, h2])
def dgB (s:List UInt8):Nat→Nat→Nat
 |0,a=>a
 |k+1,a=>match s[a]? with
  |some c=>if sG c then dgB s k (a+1) else a
  |none=>a
theorem yT (s:List UInt8):∀k a,a≤s.length→dgB s k a≤s.length
 |0,a,ha=>ha
 |k+1,a,ha=>by
  rw[dgB]
  cases h:s[a]? with
  |none=>exact ha
  |some c =>
   have hn:a<s.length:=(List.getElem?_eq_some_iff.1 h).1
   simp only
   by_cases hc:sG c=true
   ·rw[if_pos hc];exact yT s k (a+1) hn
   ·rw[if_neg hc];exact ha
theorem Cu {s:List UInt8}{k a:Nat}(h:dgB s k a≠a):∃c,s[a]?=some c:=by
 cases k with
 |zero=>exact absurd rfl h
 |succ k =>
  rw[dgB] at h
  cases hs:s[a]? with
  |none=>rw[hs] at h;exact absurd rfl h
  |some c=>exact⟨c,rfl⟩
theorem f100:tab.fns 100=some i100:=by rfl
theorem p100:ae 100=none:=by rfl
theorem vQ:ma.keep=[(0,0),(1,0)]:=rfl
theorem pX:ma.keepL=[]:=rfl
theorem p8:ma.ownL=[]:=rfl
def yx (s:List UInt8) (a:Nat) (m:IM):St:=st0 [(0,.str s,.any),(1,.int .i64 a,.any)] m
theorem N4 (s:List UInt8) (hs:s.length≤140737488355328) (m:IM):∀(k a:Nat),s.length-a<k→a≤s.length+1 →
  ∃e',lc tab ae ma lX (some (yx s a m))=some (.exit 0,st0 e' m)∧look e' 1=some (.int .i64 (dgB s k a:Nat),.any):=by
 intro k
 induction k with
 |zero=>intro a h;omega
 |succ k ih =>
  intro a hk ha
  have c3:(0:Int)≤(a:Int):=by omega
  cases hb:s[a]? with
  |none =>
   have hge:=List.getElem?_eq_none_iff.1 hb
   have hd:dgB s (k+1) a=a:=by rw[dgB,hb]
   have c1:¬(a:Int)<(s.length:Int):=by omega
   rw[hd,bn]
   simp[lX,vQ,pX,p8,yx,st0,go_sem,c1]
  |some c =>
   have hn:a<s.length:=(List.getElem?_eq_some_iff.1 hb).1
   have c1:(a:Int)<(s.length:Int):=by omega
   by_cases h1:48≤c.toNat<;>by_cases h2:c.toNat≤57
   ·have hd:dgB s (k+1) a=dgB s k (a+1):=by rw[dgB,hb];simp[sG,h1,h2]
    have g1:(48:Int)≤(c.toNat:Int):=by omega
    have g2:(c.toNat:Int)≤57:=by omega
    have e5:IntKind.i64.wrap ((a:Int)+1)=((a+1:Nat):Int):=by rw[w64 (by omega) (by omega)];rfl
    rw[hd]
    have step:lc tab ae ma lX (some (yx s a m))=lc tab ae ma lX (some (yx s (a+1) m)):=by
     rw[bn]
     generalize a+1=j at *
     simp[lX,vQ,pX,p8,yx,st0,go_sem,c1,c3,hb,g1,g2,e5]
    rw[step]
    exact ih (a+1) (by omega) (by omega)
   all_goals
    have hd:dgB s (k+1) a=a:=by rw[dgB,hb];simp[sG,h1,h2]
    have g1:((48:Int)≤(c.toNat:Int))=(48≤c.toNat):=by simp;omega
    have g2:((c.toNat:Int)≤57)=(c.toNat≤57):=by simp;omega
    rw[hd,bn]
    simp[lX,vQ,pX,p8,yx,st0,go_sem,c1,c3,hb,g1,g2,h1,h2]
theorem uk (s:List UInt8) (hs:s.length≤140737488355328) (a:Nat) (ha:a≤s.length+1) (m:IM):cw (.f 100) [.str s,.int .i64 (a:Int)] m=some (.int .i64 (dgB s (s.length+1) a:Nat),m):=by
 unfold cw;rw[bY p100 f100]
 obtain⟨e',q0,q1⟩:=N4 s hs m (s.length+1) a (by omega) ha
 simp only[yx,st0] at q0
 simp[i100,vQ,pX,p8,go_sem,q0,q1]
theorem f105:tab.fns 105=some i105:=by rfl
theorem p105:ae 105=none:=by rfl
theorem u6:lD.keep=[(0,0),(1,0)]:=rfl
theorem pY:lD.keepL=[]:=rfl
theorem pP:lD.ownL=[]:=rfl
def yl (s:List UInt8) (a:Nat) (m:IM):St:=st0 [(0,.str s,.any),(1,.int .i64 a,.any)] m
theorem Ot (s:List UInt8) (hs:s.length≤140737488355328) (m:IM):∀(k a:Nat),s.length-a<k→a≤s.length+1 →
  ∃e',lc tab ae lD lI (some (yl s a m))=some (.exit 0,st0 e' m)∧look e' 1=some (.int .i64 (dgB s k a:Nat),.any):=by
 intro k
 induction k with
 |zero=>intro a h;omega
 |succ k ih =>
  intro a hk ha
  have c3:(0:Int)≤(a:Int):=by omega
  cases hb:s[a]? with
  |none =>
   have hge:=List.getElem?_eq_none_iff.1 hb
   have hd:dgB s (k+1) a=a:=by rw[dgB,hb]
   have c1:¬(a:Int)<(s.length:Int):=by omega
   rw[hd,bn]
   simp[lI,u6,pY,pP,yl,st0,go_sem,c1]
  |some c =>
   have hn:a<s.length:=(List.getElem?_eq_some_iff.1 hb).1
   have c1:(a:Int)<(s.length:Int):=by omega
   have h80:=Kb c m
   unfold cw at h80
   cases hd':sG c with
   |true =>
    rw[hd'] at h80
    have hd:dgB s (k+1) a=dgB s k (a+1):=by rw[dgB,hb];simp[hd']
    have e5:IntKind.i64.wrap ((a:Int)+1)=((a+1:Nat):Int):=by rw[w64 (by omega) (by omega)];rfl
    rw[hd]
    have step:lc tab ae lD lI (some (yl s a m))=lc tab ae lD lI (some (yl s (a+1) m)):=by
     rw[bn]
     generalize a+1=j at *
     simp[lI,u6,pY,pP,yl,st0,go_sem,c1,c3,hb,h80,e5]
    rw[step]
    exact ih (a+1) (by omega) (by omega)
   |false =>
    rw[hd'] at h80
    have hd:dgB s (k+1) a=a:=by rw[dgB,hb];simp[hd']
    rw[hd,bn]
    simp[lI,u6,pY,pP,yl,st0,go_sem,c1,c3,hb,h80]
theorem vq (s:List UInt8) (hs:s.length≤140737488355328) (a:Nat) (ha:a≤s.length+1) (m:IM):cw (.f 105) [.str s,.int .i64 (a:Int)] m=some (.int .i64 (dgB s (s.length+1) a:Nat),m):=by
 unfold cw;rw[bY p105 f105]
 obtain⟨e',q0,q1⟩:=Ot s hs m (s.length+1) a (by omega) ha
 simp only[yl,st0] at q0
 simp[i105,u6,pY,pP,go_sem,q0,q1]
end Go.Idl
namespace Go.Idl
attribute [local go_sem] oA gA vA wA nA fA dA eA oV oW oN oD oF IFn.call ICode.run aU IOp.run IOp.run0 gate IK.ok aX da OTag.hits IK.run Arg.rd look aE rdAll POp.ev dy fj fD fG fC fB fE fl fq fx fI fm cY fH fh b8 St.put lkSlot lkL lkB lkC ay bM IK.link b9 cN St.drop St.capAt St.owner linkOf cM bV cJ IV.refsDeep IV.refsDeep.go IV.refs IV.refs.go al IV.plain cQ aC de bG IV.cells IV.isU IV.isL cZ cS over dz cut eqS aW bnd dS ee du dE dB cO aa aV eB dP a7 aH dH c5 a6 uqB bE St.head dj dh cI dn
def nm1 (s:List UInt8) (a:Nat):Nat:=if s[a]?=some 45 then a+1 else a
def nm2 (s:List UInt8) (a:Nat):Nat:=if s[a]?=some 48 then a+1 else dgB s (s.length+1) a
def nm3 (s:List UInt8) (a:Nat):Nat×Bool:=if s[a]?=some 46 then (dgB s (s.length+1) (a+1),decide (dgB s (s.length+1) (a+1)≠a+1)) else (a,true)
def nmB (s:List UInt8) (a:Nat):Nat:=if s[a]?=some 43∨s[a]?=some 45 then a+1 else a
def nm4 (s:List UInt8) (a:Nat):Nat×Bool:=if s[a]?=some 101∨s[a]?=some 69 then (dgB s (s.length+1) (nmB s (a+1)),decide (dgB s (s.length+1) (nmB s (a+1))≠nmB s (a+1))) else (a,true)
def hJ (s:List UInt8) (a:Nat):Nat×Bool :=
 if dgB s (s.length+1) (nm1 s a)=nm1 s a then (nm1 s a,false)
 else if (nm3 s (nm2 s (nm1 s a))).2 then nm4 s (nm3 s (nm2 s (nm1 s a))).1 else nm3 s (nm2 s (nm1 s a))
theorem g8 {s:List UInt8}{a:Nat}{c:UInt8}(h:s[a]?=some c):a<s.length:=(List.getElem?_eq_some_iff.1 h).1
theorem DN {s:List UInt8}{a:Nat}(h:a≤s.length):nm1 s a≤s.length:=by
 unfold nm1;split
 ·rename_i q;exact g8 q
 ·exact h
theorem DH {s:List UInt8}{a:Nat}(h:a≤s.length):nmB s a≤s.length:=by
 unfold nmB;split
 ·rename_i q;rcases q with q | q<;>exact g8 q
 ·exact h
theorem Ea {s:List UInt8}{a:Nat}(h:a≤s.length):nm2 s a≤s.length:=by
 unfold nm2;split
 ·rename_i q;exact g8 q
 ·exact yT s _ a h
theorem DQ {s:List UInt8}{a:Nat}(h:a≤s.length):(nm3 s a).1≤s.length:=by
 unfold nm3;split
 ·rename_i q;exact yT s _ _ (g8 q)
 ·exact h
theorem dU (c:UInt8) (n:Nat) (hn:n<256):(((c.toNat:Nat):Int)==(n:Int))=(c==UInt8.ofNat n):=by
 by_cases h:c=UInt8.ofNat n
 ·subst h
  have:(UInt8.ofNat n).toNat=n:=by simp;omega
  rw[this];simp
 ·have h':(c==UInt8.ofNat n)=false:=by simpa using h
  rw[h']
  have:c.toNat≠n:=fun e=>h (by subst e;simp)
  simp;omega
def cT:ICode→ICode
 |.cond _ a _=>a
 |c=>c
theorem f74:tab.fns 74=some i74:=by rfl
theorem p74:ae 74=none:=by rfl
theorem Jl (e:Env) (s:List UInt8) (a:Nat) (m:IM) (hs:s.length≤140737488355328) (ha:a≤s.length) (h0:look e 0=some (.str s,.any)) (h1:look e 1=some (.int .i64 a,.any)) :
  ∃e',bO (cL (cR i74.body)) (st0 e m)=some (.normal,st0 e' m)∧look e' 0=some (.str s,.any)∧look e' 1=some (.int .i64 (nm1 s a:Nat),.any):=by
 have c2:(a:Int)≤(s.length:Int):=by omega
 have c3:(0:Int)≤(a:Int):=by omega
 have htk:(s.drop a).take (s.length-a)=s.drop a:=List.take_of_length_le (by simp)
 have h99:=mx (s.drop a) 45 m
 rw[List.head?_drop] at h99
 unfold cw at h99
 have e5:IntKind.i64.wrap ((a:Int)+1)=((a+1:Nat):Int):=by rw[w64 (by omega) (by omega)];rfl
 unfold nm1
 generalize a+1=j at *
 cases hb:s[a]? with
 |none =>
  have hge:=List.getElem?_eq_none_iff.1 hb
  have c1:¬(a:Int)<(s.length:Int):=by omega
  rw[hb] at h99
  simp[cL,cR,st0,i74,go_sem,h0,h1,c1,c2,c3,htk,h99,hb]
 |some c =>
  have c1:(a:Int)<(s.length:Int):=by have:=g8 hb;omega
  have hq:=dU c 45 (by omega)
  rw[hb] at h99
  by_cases h:c=45
  ·subst h
   simp[cL,cR,st0,i74,go_sem,h0,h1,c1,c2,c3,htk,h99,hb,e5]
  ·have h':(c==UInt8.ofNat 45)=false:=by simpa using h
   rw[h',show ((45:Nat):Int)=45 from rfl] at hq
   have h'':¬(some c=some (45:UInt8)):=by simpa using h
   have hb1:(c==(45:UInt8))=false:=by simpa using h
   simp[cL,cR,st0,i74,go_sem,h0,h1,c1,c2,c3,htk,h99,hb,hq,h,h'',hb1]
theorem Js (e:Env) (s:List UInt8) (a:Nat) (m:IM) (hs:s.length≤140737488355328) (ha:a≤s.length) (h0:look e 0=some (.str s,.any)) (h1:look e 1=some (.int .i64 a,.any)) :
  ∃e',bO (cL (cR (cR i74.body))) (st0 e m)=some (.normal,st0 e' m)∧look e' 0=some (.str s,.any)∧look e' 1=some (.int .i64 a,.any)∧look e' 6=some (.int .i64 (dgB s (s.length+1) a:Nat),.any):=by
 have hd:=uk s hs a (by omega) m
 unfold cw at hd
 simp[cL,cR,st0,i74,go_sem,h0,h1,hd]
theorem Ks (e:Env) (s:List UInt8) (a d:Nat) (m:IM) (h0:look e 0=some (.str s,.any)) (h1:look e 1=some (.int .i64 a,.any)) (h6:look e 6=some (.int .i64 d,.any)) :
  if d=a then ∃e',bO (cL (cR (cR (cR i74.body)))) (st0 e m)=some (.ret,st0 e' m)∧look e' 4=some (.int .i64 a,.any)∧look e' 5=some (.bool false,.any)
  else ∃e',bO (cL (cR (cR (cR i74.body)))) (st0 e m)=some (.normal,st0 e' m)∧look e' 0=some (.str s,.any)∧look e' 1=some (.int .i64 a,.any)∧look e' 6=some (.int .i64 d,.any):=by
 by_cases h:d=a
 ·subst h
  simp[cL,cR,st0,i74,go_sem,h0,h1,h6]
 ·have g:((d:Int)==(a:Int))=false:=by simp;omega
  rw[if_neg h]
  simp[cL,cR,st0,i74,go_sem,h0,h1,h6,g]
theorem Lc (e:Env) (s:List UInt8) (a d:Nat) (m:IM) (hs:s.length≤140737488355328) (c:UInt8) (hb:s[a]?=some c) (h0:look e 0=some (.str s,.any)) (h1:look e 1=some (.int .i64 a,.any)) (h6:look e 6=some (.int .i64 d,.any)) :
  ∃e',bO (cL (cR (cR (cR (cR i74.body))))) (st0 e m)=some (.normal,st0 e' m)∧look e' 0=some (.str s,.any)∧look e' 6=some (.int .i64 (if c=48 then a+1 else d:Nat),.any):=by
 have c3:(0:Int)≤(a:Int):=by omega
 have hlt:=g8 hb
 have e5:IntKind.i64.wrap ((a:Int)+1)=((a+1:Nat):Int):=by rw[w64 (by omega) (by omega)];rfl
 have hq:=dU c 48 (by omega)
 generalize a+1=j at *
 by_cases h:c=48
 ·subst h
  simp[cL,cR,st0,i74,go_sem,h0,h1,h6,c3,hb,e5]
 ·have h':(c==UInt8.ofNat 48)=false:=by simpa using h
  rw[h',show ((48:Nat):Int)=48 from rfl] at hq
  simp[cL,cR,st0,i74,go_sem,h0,h1,h6,c3,hb,hq,h]
theorem J9 (e:Env) (s:List UInt8) (d:Nat) (m:IM) (h0:look e 0=some (.str s,.any)) (h6:look e 6=some (.int .i64 d,.any)) :
  ∃e',bO (cL (cR (cR (cR (cR (cR i74.body)))))) (st0 e m)=some (.normal,st0 e' m)∧look e' 0=some (.str s,.any)∧look e' 1=some (.int .i64 d,.any):=by
 simp[cL,cR,st0,i74,go_sem,h0,h6]
theorem Ko (e:Env) (s:List UInt8) (a:Nat) (m:IM) (hs:s.length≤140737488355328) (ha:a≤s.length) (h0:look e 0=some (.str s,.any)) (h1:look e 1=some (.int .i64 a,.any)) :
  if (nm3 s a).2=true then ∃e',bO (cL (cR (cR (cR (cR (cR (cR i74.body))))))) (st0 e m)=some (.normal,st0 e' m)∧look e' 0=some (.str s,.any)∧look e' 1=some (.int .i64 ((nm3 s a).1:Nat),.any)
  else ∃e',bO (cL (cR (cR (cR (cR (cR (cR i74.body))))))) (st0 e m)=some (.ret,st0 e' m)∧look e' 4=some (.int .i64 ((nm3 s a).1:Nat),.any)∧look e' 5=some (.bool false,.any):=by
 have c2:(a:Int)≤(s.length:Int):=by omega
 have c3:(0:Int)≤(a:Int):=by omega
 have htk:(s.drop a).take (s.length-a)=s.drop a:=List.take_of_length_le (by simp)
 have h99:=mx (s.drop a) 46 m
 rw[List.head?_drop] at h99
 have hd:=uk s hs (a+1) (by omega) m
 unfold cw at h99 hd
 have e5:IntKind.i64.wrap ((a:Int)+1)=((a+1:Nat):Int):=by rw[w64 (by omega) (by omega)];rfl
 unfold nm3
 generalize dgB s (s.length+1) (a+1)=D at *
 generalize a+1=j at *
 cases hb:s[a]? with
 |none =>
  have hge:=List.getElem?_eq_none_iff.1 hb
  have c1:¬(a:Int)<(s.length:Int):=by omega
  rw[hb] at h99
  simp[cL,cR,st0,i74,go_sem,h0,h1,c1,c2,c3,htk,h99,hb]
 |some c =>
  have c1:(a:Int)<(s.length:Int):=by have:=g8 hb;omega
  have hq:=dU c 46 (by omega)
  rw[hb] at h99
  by_cases h:c=46
  ·subst h
   by_cases hD:D=j
   ·subst hD
    simp[cL,cR,st0,i74,go_sem,h0,h1,c1,c2,c3,htk,h99,hb,e5,hd]
   ·have hD':((D:Int)==(j:Int))=false:=by simp;omega
    simp[cL,cR,st0,i74,go_sem,h0,h1,c1,c2,c3,htk,h99,hb,e5,hd,hD,hD']
  ·have h':(c==UInt8.ofNat 46)=false:=by simpa using h
   rw[h',show ((46:Nat):Int)=46 from rfl] at hq
   have h'':¬(some c=some (46:UInt8)):=by simpa using h
   have hb1:(c==(46:UInt8))=false:=by simpa using h
   simp[cL,cR,st0,i74,go_sem,h0,h1,c1,c2,c3,htk,h99,hb,hq,h,h'',hb1]
theorem Gj (e:Env) (s:List UInt8) (a:Nat) (m:IM) (hs:s.length≤140737488355328) (ha:a≤s.length) (h0:look e 0=some (.str s,.any)) (h1:look e 1=some (.int .i64 a,.any)) :
  ∃e',bO (cL (cR (cT (cR (cL (cR (cR (cR (cR (cR (cR (cR i74.body)))))))))))) (st0 e m)=some (.normal,st0 e' m)∧look e' 0=some (.str s,.any)∧look e' 1=some (.int .i64 (nmB s a:Nat),.any):=by
 have c3:(0:Int)≤(a:Int):=by omega
 have e5:IntKind.i64.wrap ((a:Int)+1)=((a+1:Nat):Int):=by rw[w64 (by omega) (by omega)];rfl
 unfold nmB
 generalize a+1=j at *
 cases hb:s[a]? with
 |none =>
  have hge:=List.getElem?_eq_none_iff.1 hb
  have c1:¬(a:Int)<(s.length:Int):=by omega
  simp[cL,cR,cT,st0,i74,go_sem,h0,h1,c1,hb]
 |some c =>
  have c1:(a:Int)<(s.length:Int):=by have:=g8 hb;omega
  have hq:=dU c 43 (by omega)
  have hq2:=dU c 45 (by omega)
  by_cases h:c=43
  ·subst h
   simp[cL,cR,cT,st0,i74,go_sem,h0,h1,c1,c3,hb,e5]
  ·have h':(c==UInt8.ofNat 43)=false:=by simpa using h
   rw[h',show ((43:Nat):Int)=43 from rfl] at hq
   by_cases h2:c=45
   ·subst h2
    simp[cL,cR,cT,st0,i74,go_sem,h0,h1,c1,c3,hb,e5]
   ·have h2':(c==UInt8.ofNat 45)=false:=by simpa using h2
    rw[h2',show ((45:Nat):Int)=45 from rfl] at hq2
    simp[cL,cR,cT,st0,i74,go_sem,h0,h1,c1,c3,hb,hq,hq2,h,h2]
theorem f81:tab.fns 81=some i81:=by rfl
theorem p81:ae 81=none:=by rfl
theorem IL (e:Env) (s:List UInt8) (a:Nat) (m:IM) (hs:s.length≤140737488355328) (ha:a≤s.length) (h0:look e 0=some (.str s,.any)) (h1:look e 1=some (.int .i64 a,.any)) :
  ∃e',bO (cL (cR i81.body)) (st0 e m)=some (.normal,st0 e' m)∧look e' 0=some (.str s,.any)∧look e' 1=some (.int .i64 (nm1 s a:Nat),.any):=by
 have c2:(a:Int)≤(s.length:Int):=by omega
 have c3:(0:Int)≤(a:Int):=by omega
 have htk:(s.drop a).take (s.length-a)=s.drop a:=List.take_of_length_le (by simp)
 have h99:=mx (s.drop a) 45 m
 rw[List.head?_drop] at h99
 unfold cw at h99
 have e5:IntKind.i64.wrap ((a:Int)+1)=((a+1:Nat):Int):=by rw[w64 (by omega) (by omega)];rfl
 unfold nm1
 generalize a+1=j at *
 cases hb:s[a]? with
 |none =>
  have hge:=List.getElem?_eq_none_iff.1 hb
  have c1:¬(a:Int)<(s.length:Int):=by omega
  rw[hb] at h99
  simp[cL,cR,st0,i81,go_sem,h0,h1,c1,c2,c3,htk,h99,hb]
 |some c =>
  have c1:(a:Int)<(s.length:Int):=by have:=g8 hb;omega
  have hq:=dU c 45 (by omega)
  rw[hb] at h99
  by_cases h:c=45
  ·subst h
   simp[cL,cR,st0,i81,go_sem,h0,h1,c1,c2,c3,htk,h99,hb,e5]
  ·have h':(c==UInt8.ofNat 45)=false:=by simpa using h
   rw[h',show ((45:Nat):Int)=45 from rfl] at hq
   have h'':¬(some c=some (45:UInt8)):=by simpa using h
   have hb1:(c==(45:UInt8))=false:=by simpa using h
   simp[cL,cR,st0,i81,go_sem,h0,h1,c1,c2,c3,htk,h99,hb,hq,h,h'',hb1]
theorem KT (e:Env) (s:List UInt8) (a:Nat) (m:IM) (hs:s.length≤140737488355328) (ha:a≤s.length) (h0:look e 0=some (.str s,.any)) (h1:look e 1=some (.int .i64 a,.any)) :
  ∃e',bO (cL (cR (cR i81.body))) (st0 e m)=some (.normal,st0 e' m)∧look e' 0=some (.str s,.any)∧look e' 1=some (.int .i64 a,.any)∧look e' 6=some (.int .i64 (dgB s (s.length+1) a:Nat),.any):=by
 have hd:=vq s hs a (by omega) m
 unfold cw at hd
 simp[cL,cR,st0,i81,go_sem,h0,h1,hd]
theorem Lv (e:Env) (s:List UInt8) (a d:Nat) (m:IM) (h0:look e 0=some (.str s,.any)) (h1:look e 1=some (.int .i64 a,.any)) (h6:look e 6=some (.int .i64 d,.any)) :
  if d=a then ∃e',bO (cL (cR (cR (cR i81.body)))) (st0 e m)=some (.ret,st0 e' m)∧look e' 4=some (.int .i64 a,.any)∧look e' 5=some (.bool false,.any)
  else ∃e',bO (cL (cR (cR (cR i81.body)))) (st0 e m)=some (.normal,st0 e' m)∧look e' 0=some (.str s,.any)∧look e' 1=some (.int .i64 a,.any)∧look e' 6=some (.int .i64 d,.any):=by
 by_cases h:d=a
 ·subst h
  simp[cL,cR,st0,i81,go_sem,h0,h1,h6]
 ·have g:((d:Int)==(a:Int))=false:=by simp;omega
  rw[if_neg h]
  simp[cL,cR,st0,i81,go_sem,h0,h1,h6,g]
theorem J3 (e:Env) (s:List UInt8) (a d:Nat) (m:IM) (hs:s.length≤140737488355328) (c:UInt8) (hb:s[a]?=some c) (h0:look e 0=some (.str s,.any)) (h1:look e 1=some (.int .i64 a,.any)) (h6:look e 6=some (.int .i64 d,.any)) :
  ∃e',bO (cL (cR (cR (cR (cR i81.body))))) (st0 e m)=some (.normal,st0 e' m)∧look e' 0=some (.str s,.any)∧look e' 6=some (.int .i64 (if c=48 then a+1 else d:Nat),.any):=by
 have c3:(0:Int)≤(a:Int):=by omega
 have hlt:=g8 hb
 have e5:IntKind.i64.wrap ((a:Int)+1)=((a+1:Nat):Int):=by rw[w64 (by omega) (by omega)];rfl
 have hq:=dU c 48 (by omega)
 generalize a+1=j at *
 by_cases h:c=48
 ·subst h
  simp[cL,cR,st0,i81,go_sem,h0,h1,h6,c3,hb,e5]
 ·have h':(c==UInt8.ofNat 48)=false:=by simpa using h
  rw[h',show ((48:Nat):Int)=48 from rfl] at hq
  simp[cL,cR,st0,i81,go_sem,h0,h1,h6,c3,hb,hq,h]
theorem K0 (e:Env) (s:List UInt8) (d:Nat) (m:IM) (h0:look e 0=some (.str s,.any)) (h6:look e 6=some (.int .i64 d,.any)) :
  ∃e',bO (cL (cR (cR (cR (cR (cR i81.body)))))) (st0 e m)=some (.normal,st0 e' m)∧look e' 0=some (.str s,.any)∧look e' 1=some (.int .i64 d,.any):=by
 simp[cL,cR,st0,i81,go_sem,h0,h6]
theorem K4 (e:Env) (s:List UInt8) (a:Nat) (m:IM) (hs:s.length≤140737488355328) (ha:a≤s.length) (h0:look e 0=some (.str s,.any)) (h1:look e 1=some (.int .i64 a,.any)) :
  if (nm3 s a).2=true then ∃e',bO (cL (cR (cR (cR (cR (cR (cR i81.body))))))) (st0 e m)=some (.normal,st0 e' m)∧look e' 0=some (.str s,.any)∧look e' 1=some (.int .i64 ((nm3 s a).1:Nat),.any)
  else ∃e',bO (cL (cR (cR (cR (cR (cR (cR i81.body))))))) (st0 e m)=some (.ret,st0 e' m)∧look e' 4=some (.int .i64 ((nm3 s a).1:Nat),.any)∧look e' 5=some (.bool false,.any):=by
 have c2:(a:Int)≤(s.length:Int):=by omega
 have c3:(0:Int)≤(a:Int):=by omega
 have htk:(s.drop a).take (s.length-a)=s.drop a:=List.take_of_length_le (by simp)
 have h99:=mx (s.drop a) 46 m
 rw[List.head?_drop] at h99
 have hd:=vq s hs (a+1) (by omega) m
 unfold cw at h99 hd
 have e5:IntKind.i64.wrap ((a:Int)+1)=((a+1:Nat):Int):=by rw[w64 (by omega) (by omega)];rfl
 unfold nm3
 generalize dgB s (s.length+1) (a+1)=D at *
 generalize a+1=j at *
 cases hb:s[a]? with
 |none =>
  have hge:=List.getElem?_eq_none_iff.1 hb
  have c1:¬(a:Int)<(s.length:Int):=by omega
  rw[hb] at h99
  simp[cL,cR,st0,i81,go_sem,h0,h1,c1,c2,c3,htk,h99,hb]
 |some c =>
  have c1:(a:Int)<(s.length:Int):=by have:=g8 hb;omega
  have hq:=dU c 46 (by omega)
  rw[hb] at h99
  by_cases h:c=46
  ·subst h
   by_cases hD:D=j
   ·subst hD
    simp[cL,cR,st0,i81,go_sem,h0,h1,c1,c2,c3,htk,h99,hb,e5,hd]
   ·have hD':((D:Int)==(j:Int))=false:=by simp;omega
    simp[cL,cR,st0,i81,go_sem,h0,h1,c1,c2,c3,htk,h99,hb,e5,hd,hD,hD']
  ·have h':(c==UInt8.ofNat 46)=false:=by simpa using h
   rw[h',show ((46:Nat):Int)=46 from rfl] at hq
   have h'':¬(some c=some (46:UInt8)):=by simpa using h
   have hb1:(c==(46:UInt8))=false:=by simpa using h
   simp[cL,cR,st0,i81,go_sem,h0,h1,c1,c2,c3,htk,h99,hb,hq,h,h'',hb1]
theorem GP (e:Env) (s:List UInt8) (a:Nat) (m:IM) (hs:s.length≤140737488355328) (ha:a≤s.length) (h0:look e 0=some (.str s,.any)) (h1:look e 1=some (.int .i64 a,.any)) :
  ∃e',bO (cL (cR (cT (cR (cL (cR (cR (cR (cR (cR (cR (cR i81.body)))))))))))) (st0 e m)=some (.normal,st0 e' m)∧look e' 0=some (.str s,.any)∧look e' 1=some (.int .i64 (nmB s a:Nat),.any):=by
 have c3:(0:Int)≤(a:Int):=by omega
 have e5:IntKind.i64.wrap ((a:Int)+1)=((a+1:Nat):Int):=by rw[w64 (by omega) (by omega)];rfl
 unfold nmB
 generalize a+1=j at *
 cases hb:s[a]? with
 |none =>
  have hge:=List.getElem?_eq_none_iff.1 hb
  have c1:¬(a:Int)<(s.length:Int):=by omega
  simp[cL,cR,cT,st0,i81,go_sem,h0,h1,c1,hb]
 |some c =>
  have c1:(a:Int)<(s.length:Int):=by have:=g8 hb;omega
  have hq:=dU c 43 (by omega)
  have hq2:=dU c 45 (by omega)
  by_cases h:c=43
  ·subst h
   simp[cL,cR,cT,st0,i81,go_sem,h0,h1,c1,c3,hb,e5]
  ·have h':(c==UInt8.ofNat 43)=false:=by simpa using h
   rw[h',show ((43:Nat):Int)=43 from rfl] at hq
   by_cases h2:c=45
   ·subst h2
    simp[cL,cR,cT,st0,i81,go_sem,h0,h1,c1,c3,hb,e5]
   ·have h2':(c==UInt8.ofNat 45)=false:=by simpa using h2
    rw[h2',show ((45:Nat):Int)=45 from rfl] at hq2
    simp[cL,cR,cT,st0,i81,go_sem,h0,h1,c1,c3,hb,hq,hq2,h,h2]
end Go.Idl
namespace Go.Idl
attribute [local go_sem] oA gA vA wA nA fA dA eA oV oW oN oD oF IFn.call ICode.run aU IOp.run IOp.run0 gate IK.ok aX da OTag.hits IK.run Arg.rd look aE rdAll POp.ev dy fj fD fG fC fB fE fl fq fx fI fm cY fH fh b8 St.put lkSlot lkL lkB lkC ay bM IK.link b9 cN St.drop St.capAt St.owner linkOf cM bV cJ IV.refsDeep IV.refsDeep.go IV.refs IV.refs.go al IV.plain cQ aC de bG IV.cells IV.isU IV.isL cZ cS over dz cut eqS aW bnd dS ee du dE dB cO aa aV eB dP a7 aH dH c5 a6 uqB bE St.head dj dh cI dn
theorem ja {i:FuncId}{fn:IFn}{as:List IV}{m:IM}{x:Ex}{st:St}(hp:ae i=none) (hf:tab.fns i=some fn) (hn:as.length=fn.nargs) (hx:x=.normal∨x=.ret)
  (h:bO fn.body (st0 (cM 0 as) m)=some (x,st)):cw (.f i) as m=match bV st fn.rets with
   |some [v]=>settle m st.m v
   |some vs=>settle m st.m (.tup vs)
   |none=>none:=by
 unfold cw;rw[bY hp hf]
 unfold IFn.call
 rw[if_neg (by omega)]
 have h':fn.body.run (dT tab ae) (eY tab ae) { env:=cM 0 as,lk:=[],lb:=[],m:=m }=some (x,st):=h
 rw[h']
 simp only
 rw[if_pos hx]
 rfl
def cF:ICode→ICode
 |.cond _ _ b=>b
 |c=>c
theorem sp {c:ICode}{st st':St}(hs:c=.seq (cL c) (cR c)) (h:bO (cL c) st=some (.normal,st')):bO c st=bO (cR c) st':=by
 rw[hs];exact run_seq h
theorem fp {c:ICode}{st st':St}(hs:c=.seq (cL c) (cR c)) (h:bO (cL c) st=some (.ret,st')):bO c st=some (.ret,st'):=by
 rw[hs];exact wo h
theorem zz {i:Nat}{a b:ICode}{st:St}{c:Cap}(h:look st.env i=some (.bool true,c)):bO (.cond (.t i) a b) st=bO a st:=by
 show ICode.run _ _ (.cond (.t i) a b) st=_
 rw[ICode.run]
 simp[Arg.rd,h]
theorem zu {i:Nat}{a b:ICode}{st:St}{c:Cap}(h:look st.env i=some (.bool false,c)):bO (.cond (.t i) a b) st=bO b st:=by
 show ICode.run _ _ (.cond (.t i) a b) st=_
 rw[ICode.run]
 simp[Arg.rd,h]
theorem Nw {d:ICode}{i:Nat}{st:St}{c:Cap}(hs:d=.cond (.t i) (cT d) (cF d)) (h:look st.env i=some (.bool true,c)):bO d st=bO (cT d) st:=by
 rw[hs];exact zz h
theorem MN {d:ICode}{i:Nat}{st:St}{c:Cap}(hs:d=.cond (.t i) (cT d) (cF d)) (h:look st.env i=some (.bool false,c)):bO d st=bO (cF d) st:=by
 rw[hs];exact zu h
theorem GN (e:Env) (s:List UInt8) (a:Nat) (m:IM) (h0:look e 0=some (.str s,.any)) (h1:look e 1=some (.int .i64 a,.any)) :
  ∃e',bO (cL (cL (cR (cR (cR (cR (cR (cR (cR i74.body))))))))) (st0 e m)=some (.normal,st0 e' m)∧look e' 0=some (.str s,.any)∧look e' 1=some (.int .i64 a,.any)∧look e' 56=some (.bool (decide (s[a]?=some 101∨s[a]?=some 69)),.any):=by
 have c3:(0:Int)≤(a:Int):=by omega
 cases hb:s[a]? with
 |none =>
  have hge:=List.getElem?_eq_none_iff.1 hb
  have c1:¬(a:Int)<(s.length:Int):=by omega
  simp[cL,cR,st0,i74,go_sem,h0,h1,c1,hb]
 |some c =>
  have c1:(a:Int)<(s.length:Int):=by have:=g8 hb;omega
  have hq:=dU c 101 (by omega)
  have hq2:=dU c 69 (by omega)
  by_cases h:c=101
  ·subst h
   simp[cL,cR,st0,i74,go_sem,h0,h1,c1,c3,hb]
  ·have h':(c==UInt8.ofNat 101)=false:=by simpa using h
   rw[h',show ((101:Nat):Int)=101 from rfl] at hq
   by_cases h2:c=69
   ·subst h2
    simp[cL,cR,st0,i74,go_sem,h0,h1,c1,c3,hb]
   ·have h2':(c==UInt8.ofNat 69)=false:=by simpa using h2
    rw[h2',show ((69:Nat):Int)=69 from rfl] at hq2
    simp[cL,cR,st0,i74,go_sem,h0,h1,c1,c3,hb,hq,hq2,h,h2]
theorem HR (e:Env) (s:List UInt8) (a:Nat) (m:IM) (hs:s.length≤140737488355328) (ha:a≤s.length) (h0:look e 0=some (.str s,.any)) (h1:look e 1=some (.int .i64 a,.any)) :
  ∃e',bO (cL (cT (cR (cL (cR (cR (cR (cR (cR (cR (cR i74.body))))))))))) (st0 e m)=some (.normal,st0 e' m)∧look e' 0=some (.str s,.any)∧look e' 1=some (.int .i64 (a+1:Nat),.any):=by
 have e5:IntKind.i64.wrap ((a:Int)+1)=((a+1:Nat):Int):=by rw[w64 (by omega) (by omega)];rfl
 generalize a+1=j at *
 simp[cL,cR,cT,st0,i74,go_sem,h0,h1,e5]
theorem Hc (e:Env) (s:List UInt8) (a:Nat) (m:IM) (hs:s.length≤140737488355328) (ha:a≤s.length) (h0:look e 0=some (.str s,.any)) (h1:look e 1=some (.int .i64 a,.any)) :
  if dgB s (s.length+1) a=a then ∃e',bO (cL (cR (cR (cT (cR (cL (cR (cR (cR (cR (cR (cR (cR i74.body))))))))))))) (st0 e m)=some (.ret,st0 e' m)∧look e' 4=some (.int .i64 a,.any)∧look e' 5=some (.bool false,.any)
  else ∃e',bO (cL (cR (cR (cT (cR (cL (cR (cR (cR (cR (cR (cR (cR i74.body))))))))))))) (st0 e m)=some (.normal,st0 e' m)∧look e' 6=some (.int .i64 (dgB s (s.length+1) a:Nat),.any):=by
 have hd:=uk s hs a (by omega) m
 unfold cw at hd
 generalize dgB s (s.length+1) a=D at *
 by_cases h:D=a
 ·subst h
  simp[cL,cR,cT,st0,i74,go_sem,h0,h1,hd]
 ·have g:((D:Int)==(a:Int))=false:=by simp;omega
  rw[if_neg h]
  simp[cL,cR,cT,st0,i74,go_sem,h0,h1,hd,g]
theorem HX (e:Env) (d:Nat) (m:IM) (h6:look e 6=some (.int .i64 d,.any)) :
  ∃e',bO (cR (cR (cR (cT (cR (cL (cR (cR (cR (cR (cR (cR (cR i74.body))))))))))))) (st0 e m)=some (.normal,st0 e' m)∧look e' 1=some (.int .i64 d,.any):=by
 simp[cL,cR,cT,st0,i74,go_sem,h6]
theorem KJ (e:Env) (s:List UInt8) (a:Nat) (m:IM) (hs:s.length≤140737488355328) (ha:a≤s.length) (h0:look e 0=some (.str s,.any)) (h1:look e 1=some (.int .i64 a,.any)) :
  if (nm4 s a).2=true then ∃e',bO (cL (cR (cR (cR (cR (cR (cR (cR i74.body)))))))) (st0 e m)=some (.normal,st0 e' m)∧look e' 1=some (.int .i64 ((nm4 s a).1:Nat),.any)
  else ∃e',bO (cL (cR (cR (cR (cR (cR (cR (cR i74.body)))))))) (st0 e m)=some (.ret,st0 e' m)∧look e' 4=some (.int .i64 ((nm4 s a).1:Nat),.any)∧look e' 5=some (.bool false,.any):=by
 obtain⟨e1,q1,q2,q3,q4⟩:=GN e s a m h0 h1
 by_cases h:s[a]?=some 101∨s[a]?=some 69
 ·have hlt:a<s.length:=by rcases h with q | q<;>exact g8 q
  rw[decide_eq_true h] at q4
  obtain⟨e2,u1,u2,u3⟩:=HR e1 s a m hs ha q2 q3
  obtain⟨e3,v1,v2,v3⟩:=Gj e2 s (a+1) m hs hlt u2 u3
  have hw:=Hc e3 s (nmB s (a+1)) m hs (DH hlt) v2 v3
  have hrun:bO (cL (cR (cR (cR (cR (cR (cR (cR i74.body)))))))) (st0 e m)=bO (cR (cR (cT (cR (cL (cR (cR (cR (cR (cR (cR (cR i74.body)))))))))))) (st0 e3 m) :=
   (sp rfl q1).trans ((Nw (i:=56) rfl q4).trans ((sp rfl u1).trans (sp rfl v1)))
  rw[hrun]
  unfold nm4
  rw[if_pos h]
  by_cases hD:dgB s (s.length+1) (nmB s (a+1))=nmB s (a+1)
  ·rw[if_pos hD] at hw
   obtain⟨e4,w1,w2,w3⟩:=hw
   rw[fp rfl w1]
   simp only[hD,ne_eq,not_true_eq_false,decide_false,Bool.false_eq_true,if_false]
   exact⟨e4,rfl,w2,w3⟩
  ·rw[if_neg hD] at hw
   obtain⟨e4,w1,w2⟩:=hw
   rw[sp rfl w1]
   simp only[ne_eq,hD,not_false_eq_true,decide_true,if_true]
   exact HX e4 _ m w2
 ·rw[decide_eq_false h] at q4
  unfold nm4
  rw[if_neg h,(sp rfl q1).trans (MN (i:=56) rfl q4)]
  simp only[if_true]
  exact⟨e1,rfl,q3⟩
theorem Jz (e:Env) (a:Nat) (m:IM) (h1:look e 1=some (.int .i64 a,.any)) :
  ∃e',bO (cR (cR (cR (cR (cR (cR (cR (cR i74.body)))))))) (st0 e m)=some (.ret,st0 e' m)∧look e' 4=some (.int .i64 a,.any)∧look e' 5=some (.bool true,.any):=by
 simp[cL,cR,st0,i74,go_sem,h1]
theorem J4 (s:List UInt8) (a:Nat) (m:IM) :
  ∃e',bO (cL i74.body) (st0 (cM 0 [.str s,.int .i64 (a:Int)]) m)=some (.normal,st0 e' m)∧look e' 0=some (.str s,.any)∧look e' 1=some (.int .i64 a,.any):=by
 simp[cL,st0,i74,go_sem]
theorem Jv (s:List UInt8) (hs:s.length≤140737488355328) (a:Nat) (ha:a≤s.length) (m:IM):cw (.f 74) [.str s,.int .i64 (a:Int)] m=some (.tup [.int .i64 ((hJ s a).1:Nat),.bool (hJ s a).2],m):=by
 have hc:∃e',bO i74.body (st0 (cM 0 [.str s,.int .i64 (a:Int)]) m)=some (.ret,st0 e' m)∧look e' 4=some (.int .i64 ((hJ s a).1:Nat),.any)∧look e' 5=some (.bool (hJ s a).2,.any):=by
  obtain⟨e0,a0,a1,a2⟩:=J4 s a m
  obtain⟨e1,b0,b1,b2⟩:=Jl e0 s a m hs ha a1 a2
  have l1:=DN ha
  obtain⟨e2,x0,x1,x2,x3⟩:=Js e1 s _ m hs l1 b1 b2
  have h3:=Ks e2 s _ _ m x1 x2 x3
  have r3:bO i74.body (st0 (cM 0 [.str s,.int .i64 (a:Int)]) m)=bO (cR (cR (cR i74.body))) (st0 e2 m):=by
   exact (sp rfl a0).trans ((sp rfl b0).trans (sp rfl x0))
  rw[r3]
  unfold hJ
  by_cases hD:dgB s (s.length+1) (nm1 s a)=nm1 s a
  ·rw[if_pos hD] at h3 ⊢
   obtain⟨e3,y0,y1,y2⟩:=h3
   rw[fp rfl y0]
   exact⟨e3,rfl,y1,y2⟩
  ·rw[if_neg hD] at h3 ⊢
   obtain⟨e3,y0,y1,y2,y3⟩:=h3
   obtain⟨c,hb⟩:=Cu hD
   obtain⟨e4,z0,z1,z2⟩:=Lc e3 s _ _ m hs c hb y1 y2 y3
   obtain⟨e5,u0,u1,u2⟩:=J9 e4 s _ m z1 z2
   have hn2:(if c=48 then nm1 s a+1 else dgB s (s.length+1) (nm1 s a))=nm2 s (nm1 s a):=by
    unfold nm2;rw[hb];simp
   rw[hn2] at u2
   have l2:=Ea l1
   have h6:=Ko e5 s _ m hs l2 u1 u2
   have r6:bO (cR (cR (cR i74.body))) (st0 e2 m)=bO (cR (cR (cR (cR (cR (cR i74.body)))))) (st0 e5 m):=by
    exact (sp rfl y0).trans ((sp rfl z0).trans (sp rfl u0))
   rw[r6]
   generalize nm2 s (nm1 s a)=A2 at *
   by_cases h3':(nm3 s A2).2=true
   ·rw[if_pos h3'] at h6 ⊢
    obtain⟨e6,v0,v1,v2⟩:=h6
    have l3:=DQ (s:=s) (a:=A2) l2
    have h7:=KJ e6 s _ m hs l3 v1 v2
    rw[sp rfl v0]
    generalize (nm3 s A2).1=A3 at *
    by_cases h4':(nm4 s A3).2=true
    ·rw[if_pos h4'] at h7
     obtain⟨e7,w0,w1⟩:=h7
     rw[sp rfl w0,h4']
     exact Jz e7 _ m w1
    ·rw[if_neg h4'] at h7
     obtain⟨e7,w0,w1,w2⟩:=h7
     have h4f:(nm4 s A3).2=false:=by simpa using h4'
     rw[fp rfl w0,h4f]
     exact⟨e7,rfl,w1,w2⟩
   ·rw[if_neg h3'] at h6 ⊢
    obtain⟨e6,v0,v1,v2⟩:=h6
    have h3f:(nm3 s A2).2=false:=by simpa using h3'
    rw[fp rfl v0,h3f]
    exact⟨e6,rfl,v1,v2⟩
 obtain⟨e',q0,q1,q2⟩:=hc
 rw[ja p74 f74 rfl (.inr rfl) q0]
 simp[i74,st0,go_sem,q1,q2]
theorem HO (e:Env) (s:List UInt8) (a:Nat) (m:IM) (h0:look e 0=some (.str s,.any)) (h1:look e 1=some (.int .i64 a,.any)) :
  ∃e',bO (cL (cL (cR (cR (cR (cR (cR (cR (cR i81.body))))))))) (st0 e m)=some (.normal,st0 e' m)∧look e' 0=some (.str s,.any)∧look e' 1=some (.int .i64 a,.any)∧look e' 68=some (.bool (decide (s[a]?=some 101∨s[a]?=some 69)),.any):=by
 have c3:(0:Int)≤(a:Int):=by omega
 cases hb:s[a]? with
 |none =>
  have hge:=List.getElem?_eq_none_iff.1 hb
  have c1:¬(a:Int)<(s.length:Int):=by omega
  simp[cL,cR,st0,i81,go_sem,h0,h1,c1,hb]
 |some c =>
  have c1:(a:Int)<(s.length:Int):=by have:=g8 hb;omega
  have hq:=dU c 101 (by omega)
  have hq2:=dU c 69 (by omega)
  by_cases h:c=101
  ·subst h
   simp[cL,cR,st0,i81,go_sem,h0,h1,c1,c3,hb]
  ·have h':(c==UInt8.ofNat 101)=false:=by simpa using h
   rw[h',show ((101:Nat):Int)=101 from rfl] at hq
   by_cases h2:c=69
   ·subst h2
    simp[cL,cR,st0,i81,go_sem,h0,h1,c1,c3,hb]
   ·have h2':(c==UInt8.ofNat 69)=false:=by simpa using h2
    rw[h2',show ((69:Nat):Int)=69 from rfl] at hq2
    simp[cL,cR,st0,i81,go_sem,h0,h1,c1,c3,hb,hq,hq2,h,h2]
theorem Hb (e:Env) (s:List UInt8) (a:Nat) (m:IM) (hs:s.length≤140737488355328) (ha:a≤s.length) (h0:look e 0=some (.str s,.any)) (h1:look e 1=some (.int .i64 a,.any)) :
  ∃e',bO (cL (cT (cR (cL (cR (cR (cR (cR (cR (cR (cR i81.body))))))))))) (st0 e m)=some (.normal,st0 e' m)∧look e' 0=some (.str s,.any)∧look e' 1=some (.int .i64 (a+1:Nat),.any):=by
 have e5:IntKind.i64.wrap ((a:Int)+1)=((a+1:Nat):Int):=by rw[w64 (by omega) (by omega)];rfl
 generalize a+1=j at *
 simp[cL,cR,cT,st0,i81,go_sem,h0,h1,e5]
theorem GL (e:Env) (s:List UInt8) (a:Nat) (m:IM) (hs:s.length≤140737488355328) (ha:a≤s.length) (h0:look e 0=some (.str s,.any)) (h1:look e 1=some (.int .i64 a,.any)) :
  if dgB s (s.length+1) a=a then ∃e',bO (cL (cR (cR (cT (cR (cL (cR (cR (cR (cR (cR (cR (cR i81.body))))))))))))) (st0 e m)=some (.ret,st0 e' m)∧look e' 4=some (.int .i64 a,.any)∧look e' 5=some (.bool false,.any)
  else ∃e',bO (cL (cR (cR (cT (cR (cL (cR (cR (cR (cR (cR (cR (cR i81.body))))))))))))) (st0 e m)=some (.normal,st0 e' m)∧look e' 6=some (.int .i64 (dgB s (s.length+1) a:Nat),.any):=by
 have hd:=vq s hs a (by omega) m
 unfold cw at hd
 generalize dgB s (s.length+1) a=D at *
 by_cases h:D=a
 ·subst h
  simp[cL,cR,cT,st0,i81,go_sem,h0,h1,hd]
 ·have g:((D:Int)==(a:Int))=false:=by simp;omega
  rw[if_neg h]
  simp[cL,cR,cT,st0,i81,go_sem,h0,h1,hd,g]
theorem GC (e:Env) (d:Nat) (m:IM) (h6:look e 6=some (.int .i64 d,.any)) :
  ∃e',bO (cR (cR (cR (cT (cR (cL (cR (cR (cR (cR (cR (cR (cR i81.body))))))))))))) (st0 e m)=some (.normal,st0 e' m)∧look e' 1=some (.int .i64 d,.any):=by
 simp[cL,cR,cT,st0,i81,go_sem,h6]
theorem Lf (e:Env) (s:List UInt8) (a:Nat) (m:IM) (hs:s.length≤140737488355328) (ha:a≤s.length) (h0:look e 0=some (.str s,.any)) (h1:look e 1=some (.int .i64 a,.any)) :
  if (nm4 s a).2=true then ∃e',bO (cL (cR (cR (cR (cR (cR (cR (cR i81.body)))))))) (st0 e m)=some (.normal,st0 e' m)∧look e' 1=some (.int .i64 ((nm4 s a).1:Nat),.any)
  else ∃e',bO (cL (cR (cR (cR (cR (cR (cR (cR i81.body)))))))) (st0 e m)=some (.ret,st0 e' m)∧look e' 4=some (.int .i64 ((nm4 s a).1:Nat),.any)∧look e' 5=some (.bool false,.any):=by
 obtain⟨e1,q1,q2,q3,q4⟩:=HO e s a m h0 h1
 by_cases h:s[a]?=some 101∨s[a]?=some 69
 ·have hlt:a<s.length:=by rcases h with q | q<;>exact g8 q
  rw[decide_eq_true h] at q4
  obtain⟨e2,u1,u2,u3⟩:=Hb e1 s a m hs ha q2 q3
  obtain⟨e3,v1,v2,v3⟩:=GP e2 s (a+1) m hs hlt u2 u3
  have hw:=GL e3 s (nmB s (a+1)) m hs (DH hlt) v2 v3
  have hrun:bO (cL (cR (cR (cR (cR (cR (cR (cR i81.body)))))))) (st0 e m)=bO (cR (cR (cT (cR (cL (cR (cR (cR (cR (cR (cR (cR i81.body)))))))))))) (st0 e3 m) :=
   (sp rfl q1).trans ((Nw (i:=68) rfl q4).trans ((sp rfl u1).trans (sp rfl v1)))
  rw[hrun]
  unfold nm4
  rw[if_pos h]
  by_cases hD:dgB s (s.length+1) (nmB s (a+1))=nmB s (a+1)
  ·rw[if_pos hD] at hw
   obtain⟨e4,w1,w2,w3⟩:=hw
   rw[fp rfl w1]
   simp only[hD,ne_eq,not_true_eq_false,decide_false,Bool.false_eq_true,if_false]
   exact⟨e4,rfl,w2,w3⟩
  ·rw[if_neg hD] at hw
   obtain⟨e4,w1,w2⟩:=hw
   rw[sp rfl w1]
   simp only[ne_eq,hD,not_false_eq_true,decide_true,if_true]
   exact GC e4 _ m w2
 ·rw[decide_eq_false h] at q4
  unfold nm4
  rw[if_neg h,(sp rfl q1).trans (MN (i:=68) rfl q4)]
  simp only[if_true]
  exact⟨e1,rfl,q3⟩
theorem Kz (e:Env) (a:Nat) (m:IM) (h1:look e 1=some (.int .i64 a,.any)) :
  ∃e',bO (cR (cR (cR (cR (cR (cR (cR (cR i81.body)))))))) (st0 e m)=some (.ret,st0 e' m)∧look e' 4=some (.int .i64 a,.any)∧look e' 5=some (.bool true,.any):=by
 simp[cL,cR,st0,i81,go_sem,h1]
theorem Lj (s:List UInt8) (a:Nat) (m:IM) :
  ∃e',bO (cL i81.body) (st0 (cM 0 [.str s,.int .i64 (a:Int)]) m)=some (.normal,st0 e' m)∧look e' 0=some (.str s,.any)∧look e' 1=some (.int .i64 a,.any):=by
 simp[cL,st0,i81,go_sem]
theorem J5 (s:List UInt8) (hs:s.length≤140737488355328) (a:Nat) (ha:a≤s.length) (m:IM):cw (.f 81) [.str s,.int .i64 (a:Int)] m=some (.tup [.int .i64 ((hJ s a).1:Nat),.bool (hJ s a).2],m):=by
 have hc:∃e',bO i81.body (st0 (cM 0 [.str s,.int .i64 (a:Int)]) m)=some (.ret,st0 e' m)∧look e' 4=some (.int .i64 ((hJ s a).1:Nat),.any)∧look e' 5=some (.bool (hJ s a).2,.any):=by
  obtain⟨e0,a0,a1,a2⟩:=Lj s a m
  obtain⟨e1,b0,b1,b2⟩:=IL e0 s a m hs ha a1 a2
  have l1:=DN ha
  obtain⟨e2,x0,x1,x2,x3⟩:=KT e1 s _ m hs l1 b1 b2
  have h3:=Lv e2 s _ _ m x1 x2 x3
  have r3:bO i81.body (st0 (cM 0 [.str s,.int .i64 (a:Int)]) m)=bO (cR (cR (cR i81.body))) (st0 e2 m):=by
   exact (sp rfl a0).trans ((sp rfl b0).trans (sp rfl x0))
  rw[r3]
  unfold hJ
  by_cases hD:dgB s (s.length+1) (nm1 s a)=nm1 s a
  ·rw[if_pos hD] at h3 ⊢
   obtain⟨e3,y0,y1,y2⟩:=h3
   rw[fp rfl y0]
   exact⟨e3,rfl,y1,y2⟩
  ·rw[if_neg hD] at h3 ⊢
   obtain⟨e3,y0,y1,y2,y3⟩:=h3
   obtain⟨c,hb⟩:=Cu hD
   obtain⟨e4,z0,z1,z2⟩:=J3 e3 s _ _ m hs c hb y1 y2 y3
   obtain⟨e5,u0,u1,u2⟩:=K0 e4 s _ m z1 z2
   have hn2:(if c=48 then nm1 s a+1 else dgB s (s.length+1) (nm1 s a))=nm2 s (nm1 s a):=by
    unfold nm2;rw[hb];simp
   rw[hn2] at u2
   have l2:=Ea l1
   have h6:=K4 e5 s _ m hs l2 u1 u2
   have r6:bO (cR (cR (cR i81.body))) (st0 e2 m)=bO (cR (cR (cR (cR (cR (cR i81.body)))))) (st0 e5 m):=by
    exact (sp rfl y0).trans ((sp rfl z0).trans (sp rfl u0))
   rw[r6]
   generalize nm2 s (nm1 s a)=A2 at *
   by_cases h3':(nm3 s A2).2=true
   ·rw[if_pos h3'] at h6 ⊢
    obtain⟨e6,v0,v1,v2⟩:=h6
    have l3:=DQ (s:=s) (a:=A2) l2
    have h7:=Lf e6 s _ m hs l3 v1 v2
    rw[sp rfl v0]
    generalize (nm3 s A2).1=A3 at *
    by_cases h4':(nm4 s A3).2=true
    ·rw[if_pos h4'] at h7
     obtain⟨e7,w0,w1⟩:=h7
     rw[sp rfl w0,h4']
     exact Kz e7 _ m w1
    ·rw[if_neg h4'] at h7
     obtain⟨e7,w0,w1,w2⟩:=h7
     have h4f:(nm4 s A3).2=false:=by simpa using h4'
     rw[fp rfl w0,h4f]
     exact⟨e7,rfl,w1,w2⟩
   ·rw[if_neg h3'] at h6 ⊢
    obtain⟨e6,v0,v1,v2⟩:=h6
    have h3f:(nm3 s A2).2=false:=by simpa using h3'
    rw[fp rfl v0,h3f]
    exact⟨e6,rfl,v1,v2⟩
 obtain⟨e',q0,q1,q2⟩:=hc
 rw[ja p81 f81 rfl (.inr rfl) q0]
 simp[i81,st0,go_sem,q1,q2]
theorem f132:tab.fns 132=some i132:=by rfl
theorem p132:ae 132=none:=by rfl
theorem G6 (s:List UInt8) (hs:s.length≤140737488355328) (m:IM):cw (.f 132) [.str s] m=some (.bool ((hJ s 0).2&&decide ((hJ s 0).1=s.length)),m):=by
 unfold cw;rw[bY p132 f132]
 have h:=Jv s hs 0 (by omega) m
 unfold cw at h
 rw[show ((0:Nat):Int)=0 from rfl] at h
 generalize hJ s 0=N at *
 obtain⟨n,w⟩:=N
 cases w with
 |false=>simp[i132,go_sem,h]
 |true =>
  by_cases hq:n=s.length
  ·subst hq;simp[i132,go_sem,h]
  ·have g:((n:Int)==(s.length:Int))=false:=by simp;omega
   simp[i132,go_sem,h,g,hq]
theorem f134:tab.fns 134=some i134:=by rfl
theorem p134:ae 134=none:=by rfl
theorem Gm (s:List UInt8) (hs:s.length≤140737488355328) (m:IM):cw (.f 134) [.str s] m=some (.bool ((hJ s 0).2&&decide ((hJ s 0).1=s.length)),m):=by
 unfold cw;rw[bY p134 f134]
 have h:=J5 s hs 0 (by omega) m
 unfold cw at h
 rw[show ((0:Nat):Int)=0 from rfl] at h
 generalize hJ s 0=N at *
 obtain⟨n,w⟩:=N
 cases w with
 |false=>simp[i134,go_sem,h]
 |true =>
  by_cases hq:n=s.length
  ·subst hq;simp[i134,go_sem,h]
  ·have g:((n:Int)==(s.length:Int))=false:=by simp;omega
   simp[i134,go_sem,h,g,hq]
end Go.Idl
namespace Go.Idl
attribute [local go_sem] oA gA vA wA nA fA dA eA oV oW oN oD oF IFn.call ICode.run aU IOp.run IOp.run0 gate IK.ok aX da OTag.hits IK.run Arg.rd look aE rdAll POp.ev dy fj fD fG fC fB fE fl fq fx fI fm cY fH fh b8 St.put lkSlot lkL lkB lkC ay bM IK.link b9 cN St.drop St.capAt St.owner linkOf cM bV cJ IV.refsDeep IV.refsDeep.go IV.refs IV.refs.go al IV.plain cQ aC de bG IV.cells IV.isU IV.isL cZ cS over dz cut eqS aW bnd dS ee du dE dB cO aa aV eB dP a7 aH dH c5 a6 uqB bE St.head dj dh cI dn
def MM (bs L:List BObj) (E:Nat):IM:=⟨bs++L,E⟩
theorem FI (m:IM):m=MM m.bs [] m.esc:=by cases m;simp[MM]
theorem pN (bs L:List BObj) (E:Nat):(MM bs L E).size=bs.length+L.length:=by simp[MM,IM.size]
theorem vF (bs L:List BObj) (E:Nat):(MM bs L E).esc=E:=rfl
theorem pZ (bs L:List BObj) (E:Nat) (o:BObj):(MM bs L E).push o=some (MM bs (L++[o]) E):=by simp[MM,IM.push,ay]
theorem kK (bs:List BObj) (a:BObj) (L:List BObj) (E:Nat):(MM bs (a::L) E).get bs.length=a:=by simp[MM,IM.get]
theorem pM (bs:List BObj) (a b:BObj) (L:List BObj) (E:Nat):(MM bs (a::b::L) E).get (bs.length+1)=b:=by simp[MM,IM.get]
theorem vg (bs:List BObj) (a b c:BObj) (L:List BObj) (E:Nat):(MM bs (a::b::c::L) E).get (bs.length+2)=c:=by simp[MM,IM.get]
theorem mG (bs:List BObj) (a b c d:BObj) (L:List BObj) (E:Nat):(MM bs (a::b::c::d::L) E).get (bs.length+3)=d:=by simp[MM,IM.get]
theorem np (bs:List BObj) (a:BObj) (L:List BObj) (E:Nat) (o:BObj):(MM bs (a::L) E).put bs.length o=some (MM bs (o::L) E):=by simp[MM,IM.put,ay]
theorem pS (bs:List BObj) (a b:BObj) (L:List BObj) (E:Nat) (o:BObj):(MM bs (a::b::L) E).put (bs.length+1) o=some (MM bs (a::o::L) E):=by simp[MM,IM.put,ay]
theorem AG (bs:List BObj) (a b c:BObj) (L:List BObj) (E:Nat) (o:BObj):(MM bs (a::b::c::L) E).put (bs.length+2) o=some (MM bs (a::b::o::L) E):=by simp[MM,IM.put,ay]
theorem pQ (bs:List BObj) (a b c d:BObj) (L:List BObj) (E:Nat) (o:BObj):(MM bs (a::b::c::d::L) E).put (bs.length+3) o=some (MM bs (a::b::c::o::L) E):=by simp[MM,IM.put,ay]
theorem vI (bs L:List BObj) (E E':Nat):(⟨(MM bs L E).bs,E'⟩:IM)=MM bs L E':=rfl
def GH (m m':IM) (v:IV):Option (IV×IM):=settle m m' v
theorem ik (bs L L':List BObj) (E E':Nat) (v:IV):settle (MM bs L E) (MM bs L' E') v=if v.refsDeep=some 0∧E'=E then some (v,MM bs (L'.take L.length) E') else GH (MM bs L E) (MM bs L' E') v:=by
 split
 ·rename_i h
  unfold settle
  have e:bs.take (bs.length+L.length)=bs:=List.take_of_length_le (by omega)
  simp[h.1,h.2,ay,MM,IM.size,List.take_append,e]
 ·rfl
theorem Hl (s:List UInt8) (bs:List BObj) (a b:BObj) (E:Nat):cw (.f 38) [.str s] (MM bs [a,b] E)=some (.func 67 [] [.pB (bs.length+2) 0],MM bs [a,b,.cells [.str s] [.any]] E):=by
 unfold cw;rw[bY p38 f38]
 have hs:settle (MM bs [a,b] E) (MM bs [a,b,.cells [.str s] [.any]] E) (.func 67 [] [.pB (bs.length+2) 0])=some (.func 67 [] [.pB (bs.length+2) 0],MM bs [a,b,.cells [.str s] [.any]] E):=by
  simp[settle,IV.refsDeep,IV.refsDeep.go,IV.refs,IV.refs.go,ay,MM,IM.size,zA,frz,al]
 simp[-List.length_append,i38,go_sem,pZ,pN,hs]
def za (s:List UInt8) (n:Nat):Env:=[(7,.func 67 [] [.pB (n+2) 0],.any),(6,.str s,.any),(3,.pB (n+1) 0,.any),(2,.pB n 0,.any),(0,.str s,.any)]
def Vg (bs:List BObj) (E:Nat) (s:List UInt8) (b:Bool) (i:Nat) (busy j:Nat):IM :=
 MM bs [.cells [.bool b] [.any],.cells [.int .i64 (i:Int)] [.any],.cells [.str s] [.any],.loop busy 31 0 (za s bs.length) j] E
theorem Oa (bs:List BObj) (E:Nat) (s:List UInt8) (at_:Nat) (r:Nat×Bool×Nat):cw (.y (bs.length+3)) [.int .i64 (at_:Int),jn r] (Vg bs E s false 0 0 0)=some (.bool r.2.1,if r.2.1 then Vg bs E s false 0 0 0 else Vg bs E s false at_ 1 1):=by
 unfold cw;rw[HT (fn:=31) (site:=0) (r:=Am) (bz:=0) (j:=0) (tm:=za s bs.length) (by unfold Vg;rw[mG]) rfl]
 have h1:look (za s bs.length) 3=some (.pB (bs.length+1) 0,.any):=rfl
 have h2:look (za s bs.length) 2=some (.pB bs.length 0,.any):=rfl
 generalize za s bs.length=tm at *
 cases hw:r.2.1 with
 |true=>simp[Am,IRnd.call,jZ,jn,Vg,go_sem,mG,pQ,kK,np,pM,pS,ik,vF,vI,hw,sC]
 |false=>simp[Am,IRnd.call,jZ,jn,Vg,go_sem,mG,pQ,kK,np,pM,pS,ik,vF,vI,hw,sC,h1,h2]
end Go.Idl
namespace Go.Idl
attribute [local go_sem] oA gA vA wA nA fA dA eA oV oW oN oD oF IFn.call ICode.run aU IOp.run IOp.run0 gate IK.ok aX da OTag.hits IK.run Arg.rd look aE rdAll POp.ev dy fj fD fG fC fB fE fl fq fx fI fm cY fH fh b8 St.put lkSlot lkL lkB lkC ay bM IK.link b9 cN St.drop St.capAt St.owner linkOf cM bV cJ IV.refsDeep IV.refsDeep.go IV.refs IV.refs.go al IV.plain cQ aC de bG IV.cells IV.isU IV.isL cZ cS over dz cut eqS aW bnd dS ee du dE dB cO aa aV eB dP a7 aH dH c5 a6 uqB bE St.head dj dh cI dn
def qi (_:Nat) (a:Nat) (r:Nat×Bool×Nat):Bool×Nat:=(r.2.1,a)
theorem ud:∀(k:Nat) (s:List UInt8) (a x:Nat),match lU k s a with
  |none=>(visit qi k s a x).1=true
  |some a'=>visit qi k s a x=(false,a')
 |0,_,_,_=>rfl
 |_+1,[],_,_=>rfl
 |k+1,c::t,a,x=>by
  have ih:=ud k ((c::t).drop (max (aI (c::t)).1 1)) (a+max (aI (c::t)).1 1) a
  cases hw:(aI (c::t)).2.1 with
  |true =>
   simp only[lU,visit,qi,hw,if_true]
   exact ih
  |false=>simp[lU,visit,qi,hw]
theorem Fu (bs:List BObj) (E:Nat) (s:List UInt8) (hs:s.length≤140737488355328):cw (.f 67) [.yld (bs.length+3),.pB (bs.length+2) 0] (Vg bs E s false 0 0 0)=some (.tup [],match lU (s.length+1) s 0 with | none=>Vg bs E s false 0 0 0 | some a=>Vg bs E s false a 1 1):=by
 unfold cw;rw[bY p67 f67]
 obtain⟨e',lb',q⟩:=N0 s hs (bs.length+3) (bs.length+2) (fun _=>Vg bs E s false 0 0 0) (fun a=>Vg bs E s false a 1 1) qi (fun _ _=>True) (fun x=>by unfold Vg;rw[vg])
  (fun _ _ _ _ _=>trivial) (fun a x _ h=>by
   have:=Oa bs E s a (aI (s.drop a))
   cases hh:(aI (s.drop a)).2.1<;>simpa[hh,qi] using this) (s.length+1) 0 0 (by omega) (by omega) trivial
 rw[List.drop_zero] at q
 have hv:=ud (s.length+1) s 0 0
 generalize visit qi (s.length+1) s 0 0=V at *
 have hset:∀(i b j:Nat),settle (Vg bs E s false 0 0 0) (Vg bs E s false i b j) (.tup [])=some (.tup [],Vg bs E s false i b j):=by
  intro i b j
  unfold Vg
  rw[ik,if_pos ⟨rfl,rfl⟩]
  rfl
 have h0:=hset 0 0 0
 simp only[EU] at q
 rw[show ((0:Nat):Int)=0 from rfl] at q
 cases hq:lU (s.length+1) s 0 with
 |none =>
  rw[hq] at hv
  obtain⟨V1,V2⟩:=V
  simp only at hv
  subst hv
  generalize Vg bs E s false 0 0 0=M0 at *
  simp[i67,w6,q8,qp,go_sem,q,h0]
 |some a =>
  rw[hq] at hv
  simp only at hv
  subst hv
  have h1:=hset a 1 1
  simp only at q ⊢
  generalize Vg bs E s false 0 0 0=M0 at *
  generalize Vg bs E s false a 1 1=M1 at *
  simp[i67,w6,q8,qp,go_sem,q,h1]
theorem Hs (s:List UInt8) (hs:s.length≤140737488355328) (m:IM):cw (.f 31) [.str s] m=some (.tup (match lU (s.length+1) s 0 with | none=>[.bool true,.int .i64 (s.length:Int)] | some a=>[.bool false,.int .i64 (a:Int)]),m):=by
 rw[FI m]
 generalize m.bs=bs
 generalize m.esc=E
 unfold cw;rw[bY p31 f31]
 have h1:=Hl s bs (.cells [.bool false] [.any]) (.cells [.int .i64 0] [.any]) E
 have h2:=Fu bs E s hs
 unfold cw at h1 h2
 cases hv:lU (s.length+1) s 0 with
 |none =>
  rw[hv] at h2
  simp only[Vg,za] at h2
  rw[show ((0:Nat):Int)=0 from rfl] at h2
  simp[-List.length_append,i31,go_sem,h1,h2,pZ,pN,kK,pM,vg,mG,np,pS,AG,pQ,ik,vF,vI,noL]
 |some a =>
  rw[hv] at h2
  simp only[Vg,za] at h2
  rw[show ((0:Nat):Int)=0 from rfl] at h2
  simp[-List.length_append,i31,go_sem,h1,h2,pZ,pN,kK,pM,vg,mG,np,pS,AG,pQ,ik,vF,vI,noL]
def okS (s:List UInt8):Bool:=(lU (s.length+1) s 0).isNone
theorem Al (s:List UInt8) (hs:s.length≤140737488355328) (m:IM):cw (.f 66) [.str s] m=some (.bool (okS s),m):=by
 unfold cw;rw[bY p66 f66]
 have h:=Hs s hs m
 unfold cw at h
 unfold okS
 cases hv:lU (s.length+1) s 0 with
 |none=>rw[hv] at h;simp[i66,go_sem,h]
 |some a=>rw[hv] at h;simp[i66,go_sem,h]
theorem f135:tab.fns 135=some i135:=by rfl
theorem p135:ae 135=none:=by rfl
theorem zJ (s:List UInt8) (hs:s.length≤140737488355328) (m:IM):cw (.f 135) [.str s] m=some (.bool (okS s),m):=by
 unfold cw;rw[bY p135 f135]
 have h:=Kl s hs m
 rw[←FW] at h
 unfold cw at h
 unfold okS
 cases hv:lU (s.length+1) s 0 with
 |none=>rw[hv] at h;simp[i135,go_sem,h]
 |some a=>rw[hv] at h;simp[i135,go_sem,h]
end Go.Idl
namespace Go.Idl
attribute [local go_sem] oA gA vA wA nA fA dA eA oV oW oN oD oF IFn.call ICode.run aU IOp.run IOp.run0 gate IK.ok aX da OTag.hits IK.run Arg.rd look aE rdAll POp.ev dy fj fD fG fC fB fE fl fq fx fI fm cY fH fh b8 St.put lkSlot lkL lkB lkC ay bM IK.link b9 cN St.drop St.capAt St.owner linkOf cM bV cJ IV.refsDeep IV.refsDeep.go IV.refs IV.refs.go al IV.plain cQ aC de bG IV.cells IV.isU IV.isL cZ cS over dz cut eqS aW bnd dS ee du dE dB cO aa aV eB dP a7 aH dH c5 a6 uqB bE St.head dj dh cI dn
def SlS (K:IV) (ks:List (List UInt8)):Prop:=(K=.nilSlice∧ks=[])∨K=.sl (ks.map .str) ks.length
theorem i4 {ks:List (List UInt8)}{i:Nat}(h:i<ks.length):((ks.map IV.str).drop i).take 1=[.str ks[i]]:=by
 have h':i<(ks.map IV.str).length:=by simpa using h
 rw[List.drop_eq_getElem_cons h']
 simp
theorem f111:tab.fns 111=some i111:=by rfl
theorem p111:ae 111=none:=by rfl
theorem GZ (s:List UInt8) (m:IM):cw (.f 111) [.str s] m=some (.bool (decide (1000<s.length)),m):=by
 unfold cw;rw[bY p111 f111]
 by_cases h:1000<s.length
 ·have g:(1000:Int)<(s.length:Int):=by omega
  simp[i111,go_sem,g,h]
 ·have g:¬(1000:Int)<(s.length:Int):=by omega
  simp[i111,go_sem,g,h]
theorem f133:tab.fns 133=some i133:=by rfl
theorem p133:ae 133=none:=by rfl
theorem Gi (s:List UInt8) (hs:s.length≤140737488355328) (m:IM):cw (.f 133) [.str s] m=some (.bool (!okS s),m):=by
 unfold cw;rw[bY p133 f133]
 have h:=Al s hs m
 unfold cw at h
 simp[i133,go_sem,h]
theorem f131:tab.fns 131=some i131:=by rfl
theorem p131:ae 131=none:=by rfl
theorem ny:iS.keep=[(0,0),(1,0),(7,0),(8,0)]:=rfl
theorem kN:iS.keepL=[]:=rfl
theorem kA:iS.ownL=[]:=rfl
def xt (ks:List (List UInt8)) (f i:Nat) (m:IM):St:=st0 [(0,.sl (ks.map .str) ks.length,.any),(1,.func f [] [],.any),(7,.int .i64 (ks.length:Int),.any),(8,.int .i64 i,.any)] m
theorem Og (ks:List (List UInt8)) (f:Nat) (P:List UInt8→Bool) (hb:ks.length≤140737488355328) (m:IM) (hf:∀s,s∈ks→cw (.f f) [.str s] m=some (.bool (P s),m)):∀(k i:Nat),ks.length=i+k →
  if (ks.drop i).any P=true then ∃e' j,lc tab ae iS iu (some (xt ks f i m))=some (.ret,st0 e' m)∧look e' 4=some (.int .i64 (j:Nat),.any)
  else ∃e',lc tab ae iS iu (some (xt ks f i m))=some (.exit 0,st0 e' m):=by
 intro k
 induction k with
 |zero =>
  intro i hk
  have e:ks.drop i=[]:=List.drop_eq_nil_iff.2 (by omega)
  have c1:¬(i:Int)<(ks.length:Int):=by omega
  rw[e,bn]
  simp[iu,ny,kN,kA,xt,st0,go_sem,c1]
 |succ k ih =>
  intro i hk
  have hi:i<ks.length:=by omega
  have c1:(i:Int)<(ks.length:Int):=by omega
  have c3:(0:Int)≤(i:Int):=by omega
  have hg:=i4 hi
  have hl:i+1≤(ks.map IV.str).length:=by rw[List.length_map];omega
  have hq:=hf ks[i] (List.getElem_mem hi)
  have ex:ks.drop i=ks[i]::ks.drop (i+1):=List.drop_eq_getElem_cons hi
  rw[ex,List.any_cons]
  unfold cw at hq
  generalize ks[i]=x at *
  cases hP:P x with
  |true =>
   rw[hP] at hq
   rw[if_pos (by simp),bn]
   simp only[xt,st0]
   generalize lc tab ae iS iu=L
   generalize ks.map IV.str=R at *
   generalize ks.length=n at *
   simp[iu,ny,kN,kA,go_sem,c1,c3,hg,hl,hq]
   exact⟨i,rfl⟩
  |false =>
   rw[hP] at hq
   have e1:IntKind.i64.wrap ((i:Int)+1)=((i+1:Nat):Int):=by rw[w64 (by omega) (by omega)];rfl
   have step:lc tab ae iS iu (some (xt ks f i m))=lc tab ae iS iu (some (xt ks f (i+1) m)):=by
    rw[bn]
    simp only[xt,st0]
    generalize lc tab ae iS iu=L
    generalize hj:i+1=j at *
    generalize ks.map IV.str=R at *
    generalize ks.length=n at *
    simp[iu,ny,kN,kA,go_sem,c1,c3,hg,hl,hq,e1,hj]
   rw[step,Bool.false_or]
   exact ih (i+1) (by omega)
theorem f110:tab.fns 110=some i110:=by rfl
theorem p110:ae 110=none:=by rfl
theorem zN (K:IV) (ks:List (List UInt8)) (hK:SlS K ks) (f:Nat) (P:List UInt8→Bool) (hb:ks.length≤140737488355328) (m:IM) (hf:∀s,s∈ks→cw (.f f) [.str s] m=some (.bool (P s),m)) :
  cw (.f 110) [K,.func f [] []] m=some (.bool (ks.any P),m):=by
 have h131:∃j:Int,cw (.f 131) [K,.func f [] []] m=some (.int .i64 j,m)∧decide (0≤j)=ks.any P:=by
  rcases hK with ⟨rfl,rfl⟩ | rfl
  ·refine⟨-1,?_,rfl⟩
   unfold cw;rw[bY p131 f131]
   simp[i131,go_sem,bn,iu,ny,kN,kA]
  ·have q:=Og ks f P hb m hf ks.length 0 (by omega)
   rw[List.drop_zero] at q
   simp only[xt,st0] at q
   rw[show ((0:Nat):Int)=0 from rfl] at q
   by_cases h:ks.any P=true
   ·rw[if_pos h] at q
    obtain⟨e',j,q0,q1⟩:=q
    refine⟨(j:Nat),?_,by rw[h];simp⟩
    unfold cw;rw[bY p131 f131]
    generalize ks.map IV.str=R at *
    generalize ks.length=n at *
    simp[i131,go_sem,ny,kN,kA,q0,q1]
   ·rw[if_neg h] at q
    obtain⟨e',q0⟩:=q
    have h':ks.any P=false:=by simpa using h
    refine⟨-1,?_,by rw[h'];rfl⟩
    unfold cw;rw[bY p131 f131]
    generalize ks.map IV.str=R at *
    generalize ks.length=n at *
    simp[i131,go_sem,ny,kN,kA,q0]
 obtain⟨j,q0,q1⟩:=h131
 unfold cw;rw[bY p110 f110]
 unfold cw at q0
 rw[←q1]
 rcases hK with ⟨rfl,rfl⟩ | rfl
 ·simp[i110,go_sem,q0]
 ·generalize ks.map IV.str=R at *
  generalize ks.length=n at *
  simp[i110,go_sem,q0]
end Go.Idl
namespace Go.Idl
attribute [local go_sem] oA gA vA wA nA fA dA eA oV oW oN oD oF IFn.call ICode.run aU IOp.run IOp.run0 gate IK.ok aX da OTag.hits IK.run Arg.rd look aE rdAll POp.ev dy fj fD fG fC fB fE fl fq fx fI fm cY fH fh b8 St.put lkSlot lkL lkB lkC ay bM IK.link b9 cN St.drop St.capAt St.owner linkOf cM bV cJ IV.refsDeep IV.refsDeep.go IV.refs IV.refs.go al IV.plain cQ aC de bG IV.cells IV.isU IV.isL cZ cS over dz cut eqS aW bnd dS ee du dE dB cO aa aV eB dP a7 aH dH c5 a6 uqB bE St.head dj dh cI dn
def stG (e:Env) (l:List (Nat×Loc)) (b:List (Nat×BObj)) (m:IM):St:={ env:=e,lk:=l,lb:=b,m:=m }
def SlN (V:IV) (n:Nat):Prop:=(V=.nilSlice∧n=0)∨∃row,V=.sl row n
def vc (k:Int) (t:List UInt8) (K V:IV):List IV:=[.int .i64 k,.str t,K,V]
def VB (e:Env) (b:List (Nat×BObj)) (i:Nat) (k:Int) (t:List UInt8) (K V:IV):Prop :=
 look e i=some (.pL 0 0,.any)∧aE b 0=.cells [.int .i64 k,.str t,K,V] [.any,.any,.any,.any]
def jo (k:Int) (t:List UInt8):Bool :=
 if k=1 then decide (t=[116,114,117,101])||decide (t=[102,97,108,115,101])
 else if k=2 then (hJ t 0).2&&decide ((hJ t 0).1=t.length)
 else if k=3 then okS t
 else decide (t=[])
def dN (k:Int) (t:List UInt8) (ks:List (List UInt8)) (n:Nat):Bool :=
 jo k t&&(decide (k=5)||decide (ks=[]))&&(decide (k=5)||decide (k=4)||decide (n=0)) && !(ks.any fun s=>!okS s)
theorem f112:tab.fns 112=some i112:=by rfl
theorem p112:ae 112=none:=by rfl
theorem F3 (k:Int) (t:List UInt8) (K V:IV) (ks:List (List UInt8)) (n:Nat) (hK:SlS K ks) (hV:SlN V n) (m:IM) :
  ∃e b,bO (cL i112.body) (st0 (cM 0 [.agg (vc k t K V)]) m)=some (.normal,stG e [] b m)∧VB e b 1 k t K V∧aE b 1=.none:=by
 rcases hK with ⟨rfl,rfl⟩ | rfl<;>rcases hV with ⟨rfl,rfl⟩ | ⟨row,rfl⟩<;>simp[cL,st0,stG,i112,go_sem,and_assoc,VB,vc]
theorem Gr (k:Int) (t:List UInt8) (K V:IV) (m:IM) (e:Env) (b:List (Nat×BObj)) (h:VB e b 1 k t K V) (hb:aE b 1=.none) :
  ∃e' l' b',bO (cL (cR i112.body)) (stG e [] b m)=some (.normal,stG e' l' b' m)∧VB e' b' 1 k t K V∧look e' 3=some (.pL 1 0,.any)∧aE b' 1=.cells [.int .i64 k,.str t] [.any,.any]:=by
 obtain⟨h1,h2⟩:=h
 simp[cL,cR,st0,stG,i112,go_sem,and_assoc,VB,h1,h2,hb]
theorem H9 (k:Int) (t:List UInt8) (K V:IV) (m:IM) (e:Env) (l:List (Nat×Loc)) (b:List (Nat×BObj)) (h:VB e b 1 k t K V) (h3:look e 3=some (.pL 1 0,.any)) (hb:aE b 1=.cells [.int .i64 k,.str t] [.any,.any]) :
  ∃e' l' b',bO (cL (cR (cR i112.body))) (stG e l b m)=some (.normal,stG e' l' b' m)∧VB e' b' 1 k t K V∧look e' 3=some (.pL 1 0,.any)∧aE b' 1=.cells [.int .i64 k,.str t] [.any,.any]:=by
 obtain⟨h1,h2⟩:=h
 simp[cL,cR,st0,stG,i112,go_sem,and_assoc,VB,h1,h2,h3,hb]
theorem GB (k:Int) (t:List UInt8) (ht:t.length≤140737488355328) (K V:IV) (m:IM) (e:Env) (l:List (Nat×Loc)) (b:List (Nat×BObj)) (h:VB e b 1 k t K V) (h3:look e 3=some (.pL 1 0,.any)) (hb:aE b 1=.cells [.int .i64 k,.str t] [.any,.any]) :
  ∃e' l' b',bO (cL (cR (cR (cR i112.body)))) (stG e l b m)=some (.normal,stG e' l' b' m)∧VB e' b' 1 k t K V∧look e' 4=some (.bool (jo k t),.any):=by
 obtain⟨h1,h2⟩:=h
 have h132:=G6 t ht m
 have h66:=Al t ht m
 unfold cw at h132 h66
 by_cases k1:k=1
 ·subst k1
  by_cases u1:t=[116,114,117,101]
  ·subst u1
   simp[cL,cR,st0,stG,i112,go_sem,and_assoc,VB,h1,h2,h3,hb,jo,fU,mu]
  ·have u1':(t==[116,114,117,101])=false:=by simpa using u1
   by_cases u2:t=[102,97,108,115,101]
   ·subst u2
    simp[cL,cR,st0,stG,i112,go_sem,and_assoc,VB,h1,h2,h3,hb,jo,fU,mu]
   ·have u2':(t==[102,97,108,115,101])=false:=by simpa using u2
    simp[cL,cR,st0,stG,i112,go_sem,and_assoc,VB,h1,h2,h3,hb,jo,u1,u1',u2,u2',fU,mu]
 ·have k1':(k==1)=false:=by simpa using k1
  by_cases k2:k=2
  ·subst k2
   simp[cL,cR,st0,stG,i112,go_sem,and_assoc,VB,h1,h2,h3,hb,jo,h132]
  ·have k2':(k==2)=false:=by simpa using k2
   by_cases k3:k=3
   ·subst k3
    simp[cL,cR,st0,stG,i112,go_sem,and_assoc,VB,h1,h2,h3,hb,jo,h66]
   ·have k3':(k==3)=false:=by simpa using k3
    have hd:(t==[])=decide (t=[]):=by cases t<;>rfl
    simp[cL,cR,st0,stG,i112,go_sem,and_assoc,VB,h1,h2,h3,hb,jo,k1,k1',k2,k2',k3,k3',hd]
end Go.Idl
namespace Go.Idl
attribute [local go_sem] oA gA vA wA nA fA dA eA oV oW oN oD oF IFn.call ICode.run aU IOp.run IOp.run0 gate IK.ok aX da OTag.hits IK.run Arg.rd look aE rdAll POp.ev dy fj fD fG fC fB fE fl fq fx fI fm cY fH fh b8 St.put lkSlot lkL lkB lkC ay bM IK.link b9 cN St.drop St.capAt St.owner linkOf cM bV cJ IV.refsDeep IV.refsDeep.go IV.refs IV.refs.go al IV.plain cQ aC de bG IV.cells IV.isU IV.isL cZ cS over dz cut eqS aW bnd dS ee du dE dB cO aa aV eB dP a7 aH dH c5 a6 uqB bE St.head dj dh cI dn
theorem F6 {K:IV}{ks:List (List UInt8)}(h:SlS K ks):POp.ev .lenSlice [K]=some (.int .i64 (ks.length:Int)):=by
 rcases h with ⟨rfl,rfl⟩ | rfl<;>rfl
theorem GD {V:IV}{n:Nat}(h:SlN V n):POp.ev .lenSlice [V]=some (.int .i64 (n:Int)):=by
 rcases h with ⟨rfl,rfl⟩ | ⟨row,rfl⟩<;>rfl
theorem F9 (k:Int) (t:List UInt8) (K V:IV) (ks:List (List UInt8)) (n:Nat) (hK:SlS K ks) (hV:SlN V n) (hks:ks.length≤140737488355328) (hk:∀s,s∈ks→s.length≤140737488355328) (w:Bool) (m:IM) (e:Env) (l:List (Nat×Loc)) (b:List (Nat×BObj)) (h:VB e b 1 k t K V) (h4:look e 4=some (.bool w,.any)) :
  ∃e' l' b',bO (cR (cR (cR (cR i112.body)))) (stG e l b m)=some (.ret,stG e' l' b' m)∧look e' 2=some (.bool (w&&(decide (k=5)||decide (ks=[]))&&(decide (k=5)||decide (k=4)||decide (n=0)) && !(ks.any fun s=>!okS s)),.any):=by
 obtain⟨h1,h2⟩:=h
 have h110:=zN K ks hK 133 (fun s=>!okS s) hks m (fun s hs=>Gi s (hk s hs) m)
 unfold cw at h110
 have hz:((n:Int)==0)=decide (n=0):=by
  by_cases q:n=0
  ·subst q;rfl
  ·rw[decide_eq_false q];simp;omega
 have hz2:((ks.length:Int)==0)=decide (ks=[]):=by
  cases ks with
  |nil=>rfl
  |cons a r=>rw[decide_eq_false (by simp)];simp;omega
 generalize (ks.any fun s=>!okS s)=A at *
 cases w with
 |false=>simp[cR,st0,stG,i112,go_sem,and_assoc,h1,h2,h4]
 |true =>
  by_cases k5:k=5
  ·subst k5
   rcases hK with ⟨rfl,rfl⟩ | rfl<;>simp[cR,st0,stG,i112,go_sem,and_assoc,h1,h2,h4,h110]
  ·have k5':(k==5)=false:=by simpa using k5
   by_cases k4:k=4
   ·subst k4
    rcases hK with ⟨rfl,rfl⟩ | rfl
    ·simp[cR,st0,stG,i112,go_sem,and_assoc,h1,h2,h4,h110]
    ·by_cases he:ks=[]
     ·subst he
      simp only[List.map_nil,List.length_nil] at h110
      simp[cR,st0,stG,i112,go_sem,and_assoc,h1,h2,h4,h110]
     ·rw[decide_eq_false he] at hz2
      simp[cR,st0,stG,i112,go_sem,and_assoc,h1,h2,h4,h110,hz2,he]
   ·have k4':(k==4)=false:=by simpa using k4
    rcases hK with ⟨rfl,rfl⟩ | rfl<;>rcases hV with ⟨rfl,rfl⟩ | ⟨row,rfl⟩
    ·simp[cR,st0,stG,i112,go_sem,and_assoc,h1,h2,h4,h110,k5,k5',k4,k4']
    ·by_cases hn:n=0
     ·subst hn
      simp[cR,st0,stG,i112,go_sem,and_assoc,h1,h2,h4,h110,k5,k5',k4,k4']
     ·rw[decide_eq_false hn] at hz
      simp[cR,st0,stG,i112,go_sem,and_assoc,h1,h2,h4,h110,k5,k5',k4,k4',hz,hn]
    ·by_cases he:ks=[]
     ·subst he
      simp only[List.map_nil,List.length_nil] at h110
      simp[cR,st0,stG,i112,go_sem,and_assoc,h1,h2,h4,h110,k5,k5',k4,k4']
     ·rw[decide_eq_false he] at hz2
      simp[cR,st0,stG,i112,go_sem,and_assoc,h1,h2,h4,h110,k5,k5',k4,k4',hz2,he]
    ·by_cases he:ks=[]
     ·subst he
      simp only[List.map_nil,List.length_nil] at h110
      by_cases hn:n=0
      ·subst hn
       simp[cR,st0,stG,i112,go_sem,and_assoc,h1,h2,h4,h110,k5,k5',k4,k4']
      ·rw[decide_eq_false hn] at hz
       simp[cR,st0,stG,i112,go_sem,and_assoc,h1,h2,h4,h110,k5,k5',k4,k4',hz,hn]
     ·rw[decide_eq_false he] at hz2
      simp[cR,st0,stG,i112,go_sem,and_assoc,h1,h2,h4,h110,k5,k5',k4,k4',hz2,he]
theorem HH (k:Int) (t:List UInt8) (K V:IV) (ks:List (List UInt8)) (n:Nat) (hK:SlS K ks) (hV:SlN V n) (ht:t.length≤140737488355328) (hks:ks.length≤140737488355328) (hk:∀s,s∈ks→s.length≤140737488355328) (m:IM) :
  cw (.f 112) [.agg (vc k t K V)] m=some (.bool (dN k t ks n),m):=by
 obtain⟨e0,b0,a0,a1,a2⟩:=F3 k t K V ks n hK hV m
 obtain⟨e1,l1,b1,c0,c1,c2,c3⟩:=Gr k t K V m e0 b0 a1 a2
 obtain⟨e2,l2,b2,d0,d1,d2,d3⟩:=H9 k t K V m e1 l1 b1 c1 c2 c3
 obtain⟨e3,l3,b3,f0,f1,f2⟩:=GB k t ht K V m e2 l2 b2 d1 d2 d3
 obtain⟨e4,l4,b4,g0,g1⟩:=F9 k t K V ks n hK hV hks hk _ m e3 l3 b3 f1 f2
 have hr:=(sp rfl a0).trans ((sp rfl c0).trans ((sp rfl d0).trans ((sp rfl f0).trans g0)))
 rw[ja p112 f112 rfl (.inr rfl) hr]
 simp[i112,stG,go_sem,g1,dN]
end Go.Idl
namespace Go.Idl
attribute [local go_sem] oA gA vA wA nA fA dA eA oV oW oN oD oF IFn.call ICode.run aU IOp.run IOp.run0 gate IK.ok aX da OTag.hits IK.run Arg.rd look aE rdAll POp.ev dy fj fD fG fC fB fE fl fq fx fI fm cY fH fh b8 St.put lkSlot lkL lkB lkC ay bM IK.link b9 cN St.drop St.capAt St.owner linkOf cM bV cJ IV.refsDeep IV.refsDeep.go IV.refs IV.refs.go al IV.plain cQ aC de bG IV.cells IV.isU IV.isL cZ cS over dz cut eqS aW bnd dS ee du dE dB cO aa aV eB dP a7 aH dH c5 a6 uqB bE St.head dj dh cI dn
theorem EO (a b c:Int) (m:IM):cw (.f 58) [.sl [.int .i64 a,.int .i64 b,.int .i64 c] 3] m=some (.int .i64 (if a=0 then (if b=0 then c else b) else a),m):=by
 unfold cw;rw[bY p58 f58]
 have e1:IntKind.i64.wrap 1=1:=by decide
 have e2:IntKind.i64.wrap 2=2:=by decide
 have e3:IntKind.i64.wrap 3=3:=by decide
 by_cases h:a=0
 ·subst h
  by_cases h2:b=0
  ·subst h2
   by_cases h3:c=0
   ·subst h3
    simp[i58,go_sem,bn,w7,zR,vy,uD,e1,e2,e3]
   ·have hc:(c != 0)=true:=by simpa using h3
    simp[i58,go_sem,bn,w7,zR,vy,uD,e1,e2,e3,hc]
  ·have hb:(b != 0)=true:=by simpa using h2
   simp[i58,go_sem,bn,w7,zR,vy,uD,e1,e2,e3,hb,h2]
 ·have hb:(a != 0)=true:=by simpa using h
  simp[i58,go_sem,bn,w7,zR,vy,uD,e1,e2,e3,hb,h]
def jH (k:Int) (t:List UInt8) (ks:List (List UInt8)):Bool:=(decide (k=2)&&decide (60<t.length))||decide (1000<t.length)||ks.any fun s=>decide (1000<s.length)
def jJ:List (List UInt8)→List (List UInt8)→Bool
 |_,[]=>false
 |seen,x::r=>decide (x∈seen)||jJ (seen++[x]) r
def jA (k:Int) (t:List UInt8) (ks:List (List UInt8)) (n:Nat):Int :=
 if k<0∨6≤k then 11 else if dN k t ks n=false then 1 else if jH k t ks=true then 20 else if k=5∧ks.length≠n then 2 else if jJ [] ks=true then 7 else 0
theorem f84:tab.fns 84=some i84:=by rfl
theorem p84:ae 84=none:=by rfl
theorem tP:ll.keep=[(5,0),(62,0),(63,0),(64,0)]:=rfl
theorem nM:ll.keepL=[]:=rfl
theorem nD:ll.ownL=[]:=rfl
theorem IX (k:Int) (t:List UInt8) (K V:IV) (ks:List (List UInt8)) (n:Nat) (hK:SlS K ks) (hV:SlN V n) (m:IM) :
  ∃e b,bO (cL i84.body) (st0 (cM 0 [.agg (vc k t K V)]) m)=some (.normal,stG e [] b m)∧VB e b 1 k t K V:=by
 rcases hK with ⟨rfl,rfl⟩ | rfl<;>rcases hV with ⟨rfl,rfl⟩ | ⟨row,rfl⟩<;>simp[cL,st0,stG,i84,go_sem,and_assoc,VB,vc]
theorem Je (k:Int) (t:List UInt8) (K V:IV) (m:IM) (e:Env) (b:List (Nat×BObj)) (h:VB e b 1 k t K V) :
  if k<0∨6≤k then ∃e' l' b',bO (cL (cR i84.body)) (stG e [] b m)=some (.ret,stG e' l' b' m)∧look e' 2=some (.int .i64 11,.any)
  else ∃e' b',bO (cL (cR i84.body)) (stG e [] b m)=some (.normal,stG e' [] b' m)∧VB e' b' 1 k t K V:=by
 obtain⟨h1,h2⟩:=h
 by_cases k0:k<0
 ·simp[cL,cR,st0,stG,i84,go_sem,and_assoc,VB,h1,h2,k0]
 ·by_cases k6:6≤k<;>simp[cL,cR,st0,stG,i84,go_sem,and_assoc,VB,h1,h2,k0,k6]
theorem IP (k:Int) (t:List UInt8) (K V:IV) (ks:List (List UInt8)) (hK:SlS K ks) (hks:ks.length≤140737488355328) (m:IM) (e:Env) (b:List (Nat×BObj)) (h:VB e b 1 k t K V) :
  ∃e' l' b',bO (cL (cR (cR i84.body))) (stG e [] b m)=some (.normal,stG e' l' b' m)∧VB e' b' 1 k t K V∧look e' 3=some (.bool (jH k t ks),.any)∧uqB l'=true:=by
 obtain⟨h1,h2⟩:=h
 have h110:=zN K ks hK 111 (fun s=>decide (1000<s.length)) hks m (fun s _=>GZ s m)
 unfold cw at h110
 unfold jH
 generalize (ks.any fun s=>decide (1000<s.length))=A at *
 have g1:((60:Int)<(t.length:Int))=(60<t.length):=by simp;omega
 have g2:((1000:Int)<(t.length:Int))=(1000<t.length):=by simp;omega
 by_cases k2:k=2
 ·subst k2
  by_cases u1:60<t.length
  ·simp[cL,cR,st0,stG,i84,go_sem,and_assoc,VB,h1,h2,g1,u1]
  ·by_cases u2:1000<t.length
   ·omega
   ·rcases hK with ⟨rfl,rfl⟩ | rfl<;>simp[cL,cR,st0,stG,i84,go_sem,and_assoc,VB,h1,h2,g1,g2,u1,u2,h110]
 ·have k2':(k==2)=false:=by simpa using k2
  by_cases u2:1000<t.length
  ·simp[cL,cR,st0,stG,i84,go_sem,and_assoc,VB,h1,h2,g2,u2,k2,k2']
  ·rcases hK with ⟨rfl,rfl⟩ | rfl<;>simp[cL,cR,st0,stG,i84,go_sem,and_assoc,VB,h1,h2,g2,u2,k2,k2',h110]
def BP (f lg sh:Bool):Int:=if f=false then 1 else if lg=true then 20 else if sh=true then 2 else 0
theorem J8 (k:Int) (t:List UInt8) (K V:IV) (ks:List (List UInt8)) (n:Nat) (hK:SlS K ks) (hV:SlN V n) (ht:t.length≤140737488355328) (hks:ks.length≤140737488355328) (hk:∀s,s∈ks→s.length≤140737488355328) (lg:Bool) (m:IM) (e:Env) (l:List (Nat×Loc)) (b:List (Nat×BObj)) (h:VB e b 1 k t K V) (h3:look e 3=some (.bool lg,.any)) (hu:uqB l=true) :
  ∃e' l' b',bO (cL (cL (cR (cR (cR i84.body))))) (stG e l b m)=some (.normal,stG e' l' b' m)∧VB e' b' 1 k t K V∧look e' 4=some (.int .i64 (BP (dN k t ks n) lg (decide (k=5)&&decide (ks.length≠n))),.any):=by
 obtain⟨h1,h2⟩:=h
 have h112:=HH k t K V ks n hK hV ht hks hk m
 have h65:=Kf
 have h58:=EO
 unfold cw at h112 h65 h58
 unfold vc at h112
 generalize dN k t ks n=f at *
 have hne:∀(a c:Nat),((a:Int) != (c:Int))=decide (a≠c):=fun a c=>by
  by_cases q:a=c
  ·subst q;simp
  ·rw[decide_eq_true q];simp;omega
 by_cases k5:k=5
 ·subst k5
  have hq:=hne ks.length n
  have hz0:((0:Int)=(n:Int))=(0=n):=by rw[eq_iff_iff];omega
  rcases hK with ⟨rfl,rfl⟩ | rfl<;>rcases hV with ⟨rfl,rfl⟩ | ⟨row,rfl⟩<;>cases f<;>cases lg <;>
  simp[cL,cR,st0,stG,i84,go_sem,and_assoc,VB,h1,h2,h3,hu,h112,h65,h58,BP,hq,hz0]
 ·have k5':(k==5)=false:=by simpa using k5
  rcases hK with ⟨rfl,rfl⟩ | rfl<;>rcases hV with ⟨rfl,rfl⟩ | ⟨row,rfl⟩<;>cases f<;>cases lg <;>
  simp[cL,cR,st0,stG,i84,go_sem,and_assoc,VB,h1,h2,h3,hu,h112,h65,h58,BP,k5,k5']
theorem He (k:Int) (t:List UInt8) (K V:IV) (er:Int) (m:IM) (e:Env) (l:List (Nat×Loc)) (b:List (Nat×BObj)) (h:VB e b 1 k t K V) (h4:look e 4=some (.int .i64 er,.any)) :
  if er=0 then ∃e' l' b',bO (cR (cL (cR (cR (cR i84.body))))) (stG e l b m)=some (.normal,stG e' l' b' m)∧VB e' b' 1 k t K V
  else ∃e' l' b',bO (cR (cL (cR (cR (cR i84.body))))) (stG e l b m)=some (.ret,stG e' l' b' m)∧look e' 2=some (.int .i64 er,.any):=by
 obtain⟨h1,h2⟩:=h
 by_cases q:er=0
 ·subst q
  simp[cL,cR,st0,stG,i84,go_sem,and_assoc,VB,h1,h2,h4]
 ·have q':(er != 0)=true:=by simpa using q
  rw[if_neg q]
  simp[cL,cR,st0,stG,i84,go_sem,and_assoc,h4,q']
end Go.Idl
namespace Go.Idl
attribute [local go_sem] oA gA vA wA nA fA dA eA oV oW oN oD oF IFn.call ICode.run aU IOp.run IOp.run0 gate IK.ok aX da OTag.hits IK.run Arg.rd look aE rdAll POp.ev dy fj fD fG fC fB fE fl fq fx fI fm cY fH fh b8 St.put lkSlot lkL lkB lkC ay bM IK.link b9 cN St.drop St.capAt St.owner linkOf cM bV cJ IV.refsDeep IV.refsDeep.go IV.refs IV.refs.go al IV.plain cQ aC de bG IV.cells IV.isU IV.isL cZ cS over dz cut eqS aW bnd dS ee du dE dB cO aa aV eB dP a7 aH dH c5 a6 uqB bE St.head dj dh cI dn
def mapOf (ks:List (List UInt8)):List (IV×IV):=ks.map fun s=>(.str s,.bool true)
theorem rR (x:List UInt8):∀ks,oJ .str (.str x) (mapOf ks)=some (if x∈ks then some (.bool true) else none)
 |[]=>rfl
 |y::r=>by
  have ih:=rR x r
  simp only[mapOf,List.map_cons,oJ,mu] at ih ⊢
  by_cases h:x=y
  ·subst h;simp
  ·have h':(x==y)=false:=by simpa using h
   rw[h']
   simp only[List.mem_cons,h,false_or]
   exact ih
theorem tJ (x:List UInt8):∀ks,x∉ks→qs .str (.str x) (.bool true) (mapOf ks)=some (mapOf (ks++[x]))
 |[],_=>rfl
 |y::r,h=>by
  have hx:x≠y:=fun e=>h (by simp[e])
  have hr:x∉r:=fun e=>h (by simp[e])
  have ih:=tJ x r hr
  have h':(x==y)=false:=by simpa using hx
  simp only[mapOf,List.map_cons,qs,mu,h'] at ih ⊢
  rw[ih];rfl
theorem drop_cons {α:Type}{l:List α}{i:Nat}(h:i<l.length):l.drop i=l[i]::l.drop (i+1):=List.drop_eq_getElem_cons h
def S84 (bs:List BObj) (E:Nat) (ks:List (List UInt8)) (i:Nat):St:=st0 [(5,.map bs.length,.any),(62,.sl (ks.map .str) ks.length,.any),(63,.int .i64 (ks.length:Int),.any),(64,.int .i64 i,.any)] (MM bs [.map (mapOf (ks.take i))] E)
theorem L84 (bs:List BObj) (E:Nat) (ks:List (List UInt8)) (hb:ks.length≤140737488355328):∀(k i:Nat),ks.length=i+k →
  if jJ (ks.take i) (ks.drop i)=true then ∃q e' b',lc tab ae ll kg (some (S84 bs E ks i))=some (.ret,stG e' [] b' (MM bs [.map (mapOf q)] E))∧look e' 2=some (.int .i64 7,.any)
  else ∃q e' b',lc tab ae ll kg (some (S84 bs E ks i))=some (.exit 0,stG e' [] b' (MM bs [.map (mapOf q)] E)):=by
 intro k
 induction k with
 |zero =>
  intro i hk
  have e:ks.drop i=[]:=List.drop_eq_nil_iff.2 (by omega)
  have c1:¬(i:Int)<(ks.length:Int):=by omega
  rw[e,bn]
  simp only[jJ,Bool.false_eq_true,if_false]
  refine⟨ks.take i,?_⟩
  simp only[S84,st0,stG]
  generalize mapOf (ks.take i)=Q
  generalize ks.map IV.str=R at *
  generalize ks.length=n at *
  simp[kg,tP,nM,nD,go_sem,c1]
 |succ k ih =>
  intro i hk
  have hi:i<ks.length:=by omega
  have c1:(i:Int)<(ks.length:Int):=by omega
  have c3:(0:Int)≤(i:Int):=by omega
  have hg:=i4 hi
  have hl:i+1≤(ks.map IV.str).length:=by rw[List.length_map];omega
  have hf:=rR ks[i] (ks.take i)
  have ht:ks.take (i+1)=ks.take i++[ks[i]]:=by rw[List.take_add_one];simp[hi]
  rw[drop_cons hi,jJ]
  by_cases hm:ks[i]∈ks.take i
  ·rw[if_pos hm] at hf
   rw[decide_eq_true hm,Bool.true_or,if_pos rfl,bn]
   refine⟨ks.take i,?_⟩
   simp only[S84,st0,stG]
   generalize mapOf (ks.take i)=Q at *
   generalize ks[i]=x at *
   generalize ks.map IV.str=R at *
   generalize ks.length=n at *
   generalize lc tab ae ll kg=L
   simp[kg,tP,nM,nD,go_sem,c1,c3,hg,hl,kK,hf,and_assoc]
  ·rw[if_neg hm] at hf
   have hu:=tJ ks[i] (ks.take i) hm
   rw[←ht] at hu
   have e1:IntKind.i64.wrap ((i:Int)+1)=((i+1:Nat):Int):=by rw[w64 (by omega) (by omega)];rfl
   have step:lc tab ae ll kg (some (S84 bs E ks i))=lc tab ae ll kg (some (S84 bs E ks (i+1))):=by
    rw[bn]
    simp only[S84,st0,stG]
    generalize hj:i+1=j at *
    generalize mapOf (ks.take i)=Q at *
    generalize mapOf (ks.take j)=Q' at *
    generalize ks[i]=x at *
    generalize ks.map IV.str=R at *
    generalize ks.length=n at *
    generalize lc tab ae ll kg=L
    simp[kg,tP,nM,nD,go_sem,c1,c3,hg,hl,kK,np,hf,hu,e1,hj]
   rw[step,decide_eq_false hm,Bool.false_or,←ht]
   exact ih (i+1) (by omega)
end Go.Idl
namespace Go.Idl
attribute [local go_sem] oA gA vA wA nA fA dA eA oV oW oN oD oF IFn.call ICode.run aU IOp.run IOp.run0 gate IK.ok aX da OTag.hits IK.run Arg.rd look aE rdAll POp.ev dy fj fD fG fC fB fE fl fq fx fI fm cY fH fh b8 St.put lkSlot lkL lkB lkC ay bM IK.link b9 cN St.drop St.capAt St.owner linkOf cM bV cJ IV.refsDeep IV.refsDeep.go IV.refs IV.refs.go al IV.plain cQ aC de bG IV.cells IV.isU IV.isL cZ cS over dz cut eqS aW bnd dS ee du dE dB cO aa aV eB dP a7 aH dH c5 a6 uqB bE St.head dj dh cI dn
theorem I8 (k:Int) (t:List UInt8) (K V:IV) (bs:List BObj) (E:Nat) (e:Env) (l:List (Nat×Loc)) (b:List (Nat×BObj)) (h:VB e b 1 k t K V) :
  ∃e' l' b',bO (cL (cR (cR (cR (cR i84.body))))) (stG e l b (MM bs [] E))=some (.normal,stG e' l' b' (MM bs [.map []] E))∧VB e' b' 1 k t K V∧look e' 5=some (.map bs.length,.any):=by
 obtain⟨h1,h2⟩:=h
 simp[cL,cR,st0,stG,i84,go_sem,and_assoc,VB,h1,h2,pZ,pN]
theorem Ke (k:Int) (t:List UInt8) (K V:IV) (ks:List (List UInt8)) (hK:SlS K ks) (hks:ks.length≤140737488355328) (bs:List BObj) (E:Nat) (e:Env) (l:List (Nat×Loc)) (b:List (Nat×BObj)) (h:VB e b 1 k t K V) (h5:look e 5=some (.map bs.length,.any)) :
  if jJ [] ks=true then ∃q e' l' b',bO (cL (cR (cR (cR (cR (cR i84.body)))))) (stG e l b (MM bs [.map []] E))=some (.ret,stG e' l' b' (MM bs [.map (mapOf q)] E))∧look e' 2=some (.int .i64 7,.any)
  else ∃q e' l' b',bO (cL (cR (cR (cR (cR (cR i84.body)))))) (stG e l b (MM bs [.map []] E))=some (.normal,stG e' l' b' (MM bs [.map (mapOf q)] E)):=by
 obtain⟨h1,h2⟩:=h
 rcases hK with ⟨rfl,rfl⟩ | rfl
 ·rw[if_neg (by simp[jJ])]
  refine⟨[],?_⟩
  simp[cL,cR,st0,stG,i84,go_sem,and_assoc,h1,h2,h5,bn,kg,tP,nM,nD,mapOf]
 ·have q:=L84 bs E ks hks ks.length 0 (by omega)
  simp only[List.take_zero,List.drop_zero] at q
  by_cases hd:jJ [] ks=true
  ·rw[if_pos hd] at q ⊢
   obtain⟨s,e',b',q0,q1⟩:=q
   refine⟨s,?_⟩
   simp only[S84,st0,stG,List.take_zero] at q0
   rw[show ((0:Nat):Int)=0 from rfl,show mapOf []=[] from rfl] at q0
   generalize mapOf s=Q at *
   generalize ks.map IV.str=R at *
   generalize ks.length=n at *
   simp[cL,cR,st0,stG,i84,go_sem,and_assoc,h1,h2,h5,tP,nM,nD,q0,q1]
  ·rw[if_neg hd] at q ⊢
   obtain⟨s,e',b',q0⟩:=q
   refine⟨s,?_⟩
   simp only[S84,st0,stG,List.take_zero] at q0
   rw[show ((0:Nat):Int)=0 from rfl,show mapOf []=[] from rfl] at q0
   generalize mapOf s=Q at *
   generalize ks.map IV.str=R at *
   generalize ks.length=n at *
   simp[cL,cR,st0,stG,i84,go_sem,and_assoc,h1,h2,h5,tP,nM,nD,q0]
theorem KE (m:IM) (e:Env) (l:List (Nat×Loc)) (b:List (Nat×BObj)) :
  ∃e' l' b',bO (cR (cR (cR (cR (cR (cR i84.body)))))) (stG e l b m)=some (.ret,stG e' l' b' m)∧look e' 2=some (.int .i64 0,.any):=by
 simp[cL,cR,st0,stG,i84,go_sem,and_assoc]
theorem IQ (k:Int) (t:List UInt8) (K V:IV) (ks:List (List UInt8)) (n:Nat) (hK:SlS K ks) (hV:SlN V n) (ht:t.length≤140737488355328) (hks:ks.length≤140737488355328) (hk:∀s,s∈ks→s.length≤140737488355328) (m:IM) :
  cw (.f 84) [.agg (vc k t K V)] m=some (.int .i64 (jA k t ks n),m):=by
 rw[FI m]
 generalize m.bs=bs
 generalize m.esc=E
 have main:∃L e l b,bO i84.body (st0 (cM 0 [.agg (vc k t K V)]) (MM bs [] E))=some (.ret,stG e l b (MM bs L E))∧look e 2=some (.int .i64 (jA k t ks n),.any):=by
  obtain⟨e0,b0,a0,a1⟩:=IX k t K V ks n hK hV (MM bs [] E)
  have h1:=Je k t K V (MM bs [] E) e0 b0 a1
  unfold jA
  by_cases g1:k<0∨6≤k
  ·rw[if_pos g1] at h1 ⊢
   obtain⟨e1,l1,b1,c0,c1⟩:=h1
   exact⟨_,_,_,_,(sp rfl a0).trans (fp rfl c0),c1⟩
  ·rw[if_neg g1] at h1 ⊢
   obtain⟨e1,b1,c0,c1⟩:=h1
   obtain⟨e2,l2,b2,d0,d1,d2,d3⟩:=IP k t K V ks hK hks (MM bs [] E) e1 b1 c1
   obtain⟨e3,l3,b3,f0,f1,f2⟩:=J8 k t K V ks n hK hV ht hks hk _ (MM bs [] E) e2 l2 b2 d1 d2 d3
   have h3b:=He k t K V _ (MM bs [] E) e3 l3 b3 f1 f2
   have hr3:=(sp (c:=i84.body) rfl a0).trans ((sp rfl c0).trans (sp rfl d0))
   have ho:BP (dN k t ks n) (jH k t ks) (decide (k=5)&&decide (ks.length≠n))=if dN k t ks n=false then 1 else if jH k t ks=true then 20 else if k=5∧ks.length≠n then 2 else 0:=by
    unfold BP
    by_cases u:k=5∧ks.length≠n
    ·simp[u]
    ·by_cases v:k=5
     ·have:ks.length=n:=by
       by_cases w:ks.length=n
       ·exact w
       ·exact absurd ⟨v,w⟩ u
      simp[v,this]
     ·simp[v]
   by_cases hz:BP (dN k t ks n) (jH k t ks) (decide (k=5)&&decide (ks.length≠n))=0
   ·rw[if_pos hz] at h3b
    obtain⟨e4,l4,b4,g0,g1'⟩:=h3b
    rw[ho] at hz
    obtain⟨e5,l5,b5,u0,u1,u2⟩:=I8 k t K V bs E e4 l4 b4 g1'
    have h5:=Ke k t K V ks hK hks bs E e5 l5 b5 u1 u2
    have hf:dN k t ks n=true:=by
     by_cases w:dN k t ks n=false
     ·rw[if_pos w] at hz;cases hz
     ·simpa using w
    have hl:¬jH k t ks=true:=by
     intro w
     rw[if_neg (by simp[hf]),if_pos w] at hz;cases hz
    have hsh:¬(k=5∧ks.length≠n):=by
     intro w
     rw[if_neg (by simp[hf]),if_neg hl,if_pos w] at hz;cases hz
    rw[if_neg (by simp[hf]),if_neg hl,if_neg hsh]
    have hr5:=hr3.trans ((sp rfl ((sp rfl f0).trans g0)).trans (sp rfl u0))
    by_cases hd:jJ [] ks=true
    ·rw[if_pos hd] at h5 ⊢
     obtain⟨q,e6,l6,b6,w0,w1⟩:=h5
     exact⟨_,_,_,_,hr5.trans (fp rfl w0),w1⟩
    ·rw[if_neg hd] at h5 ⊢
     obtain⟨q,e6,l6,b6,w0⟩:=h5
     obtain⟨e7,l7,b7,x0,x1⟩:=KE (MM bs [.map (mapOf q)] E) e6 l6 b6
     exact⟨_,_,_,_,hr5.trans ((sp rfl w0).trans x0),x1⟩
   ·rw[if_neg hz] at h3b
    obtain⟨e4,l4,b4,g0,g1'⟩:=h3b
    refine⟨_,_,_,_,hr3.trans (fp rfl ((sp rfl f0).trans g0)),?_⟩
    rw[g1',ho]
    rw[ho] at hz
    by_cases w:dN k t ks n=false
    ·simp[w]
    ·by_cases w2:jH k t ks=true
     ·simp[w,w2]
     ·by_cases w3:k=5∧ks.length≠n
      ·simp[w,w2,w3]
      ·rw[if_neg w,if_neg w2,if_neg w3] at hz;exact absurd rfl hz
 obtain⟨L,e,l,b,q0,q1⟩:=main
 rw[ja p84 f84 rfl (.inr rfl) q0]
 simp[i84,stG,go_sem,q1,ik]
end Go.Idl
namespace Go.Idl
attribute [local go_sem] oA gA vA wA nA fA dA eA oV oW oN oD oF IFn.call ICode.run aU IOp.run IOp.run0 gate IK.ok aX da OTag.hits IK.run Arg.rd look aE rdAll POp.ev dy fj fD fG fC fB fE fl fq fx fI fm cY fH fh b8 St.put lkSlot lkL lkB lkC ay bM IK.link b9 cN St.drop St.capAt St.owner linkOf cM bV cJ IV.refsDeep IV.refsDeep.go IV.refs IV.refs.go al IV.plain cQ aC de bG IV.cells IV.isU IV.isL cZ cS over dz cut eqS aW bnd dS ee du dE dB cO aa aV eB dP a7 aH dH c5 a6 uqB bE St.head dj dh cI dn
theorem f113:tab.fns 113=some i113:=by rfl
theorem p113:ae 113=none:=by rfl
theorem ox:iR.keep=[(1,0),(3,0)]:=rfl
theorem kC:iR.keepL=[0]:=rfl
theorem kz:iR.ownL=[]:=rfl
def c1B (k:Int) (t:List UInt8) (ks:List (List UInt8)) (n:Nat):Bool :=
 (!decide (k=1) && !decide (k=2) && !decide (k=3) && !decide (t=[]))||(!decide (k=5) && !decide (ks=[]))||(!decide (k=5) && !decide (k=4) && !decide (n=0))
def c2B (k:Int) (t:List UInt8):Bool :=
 (decide (k=1) && !(decide (t=[116,114,117,101])) && !(decide (t=[102,97,108,115,101])))||(decide (k=2) && !((hJ t 0).2&&decide ((hJ t 0).1=t.length)))||(decide (k=3) && !okS t)
theorem HF (k:Int) (t:List UInt8) (K V:IV) (ks:List (List UInt8)) (n:Nat) (hK:SlS K ks) (hV:SlN V n) (m:IM) :
  ∃e b,bO (cL i113.body) (st0 (cM 0 [.agg (vc k t K V)]) m)=some (.normal,stG e [] b m)∧VB e b 1 k t K V:=by
 rcases hK with ⟨rfl,rfl⟩ | rfl<;>rcases hV with ⟨rfl,rfl⟩ | ⟨row,rfl⟩<;>simp[cL,st0,stG,i113,go_sem,and_assoc,VB,vc]
set_option maxHeartbeats 4000000 in
theorem Gc (k:Int) (t:List UInt8) (K V:IV) (ks:List (List UInt8)) (n:Nat) (hK:SlS K ks) (hV:SlN V n) (m:IM) (e:Env) (b:List (Nat×BObj)) (h:VB e b 1 k t K V) :
  if c1B k t ks n=true then ∃e' l' b',bO (cL (cR i113.body)) (stG e [] b m)=some (.ret,stG e' l' b' m)∧look e' 2=some (.int .i64 1,.any)
  else ∃e' l' b',bO (cL (cR i113.body)) (stG e [] b m)=some (.normal,stG e' l' b' m)∧VB e' b' 1 k t K V:=by
 obtain⟨h1,h2⟩:=h
 have ht:(t==[])=decide (t=[]):=by cases t<;>rfl
 have hn:((0:Int)<(n:Int))=(n≠0):=by rw[eq_iff_iff];omega
 have hn':(0<n)=(n≠0):=by rw[eq_iff_iff];omega
 have hs:((0:Int)<(ks.length:Int))=(ks≠[]):=by
  rw[eq_iff_iff];cases ks<;>simp<;>omega
 have hs':(0<ks.length)=(ks≠[]):=by
  rw[eq_iff_iff];cases ks<;>simp
 unfold c1B
 by_cases k1:k=1
 ·subst k1
  by_cases u2:ks=[]<;>by_cases u3:n=0<;>rcases hK with ⟨rfl,q⟩ | rfl<;>rcases hV with ⟨rfl,q'⟩ | ⟨row,rfl⟩ <;>
  (first
   |exact absurd q u2
   |exact absurd q' u3
   |simp[cL,cR,st0,stG,i113,go_sem,and_assoc,VB,h1,h2,hs,hs',hn,hn',u2,u3])
 ·have k1':(k != 1)=true:=by simpa using k1
  by_cases k2:k=2
  ·subst k2
   by_cases u2:ks=[]<;>by_cases u3:n=0<;>rcases hK with ⟨rfl,q⟩ | rfl<;>rcases hV with ⟨rfl,q'⟩ | ⟨row,rfl⟩ <;>
   (first
    |exact absurd q u2
    |exact absurd q' u3
    |simp[cL,cR,st0,stG,i113,go_sem,and_assoc,VB,h1,h2,hs,hs',hn,hn',u2,u3])
  ·have k2':(k != 2)=true:=by simpa using k2
   by_cases k3:k=3
   ·subst k3
    by_cases u2:ks=[]<;>by_cases u3:n=0<;>rcases hK with ⟨rfl,q⟩ | rfl<;>rcases hV with ⟨rfl,q'⟩ | ⟨row,rfl⟩ <;>
    (first
     |exact absurd q u2
     |exact absurd q' u3
     |simp[cL,cR,st0,stG,i113,go_sem,and_assoc,VB,h1,h2,hs,hs',hn,hn',u2,u3])
   ·have k3':(k != 3)=true:=by simpa using k3
    by_cases k4:k=4
    ·subst k4
     by_cases u1:t=[]<;>by_cases u2:ks=[]<;>rcases hK with ⟨rfl,q⟩ | rfl <;>
     (first
      |exact absurd q u2
      |simp[cL,cR,st0,stG,i113,go_sem,and_assoc,VB,h1,h2,ht,hs,hs',u1,u2])
    ·have k4':(k != 4)=true:=by simpa using k4
     by_cases k5:k=5
     ·subst k5
      by_cases u1:t=[]<;>simp[cL,cR,st0,stG,i113,go_sem,and_assoc,VB,h1,h2,ht,u1]
     ·have k5':(k != 5)=true:=by simpa using k5
      by_cases u1:t=[]<;>by_cases u2:ks=[]<;>by_cases u3:n=0<;>rcases hK with ⟨rfl,q⟩ | rfl<;>rcases hV with ⟨rfl,q'⟩ | ⟨row,rfl⟩ <;>
      (first
       |exact absurd q u2
       |exact absurd q' u3
       |simp[cL,cR,st0,stG,i113,go_sem,and_assoc,VB,h1,h2,ht,hs,hs',hn,hn',k1,k1',k2,k2',k3,k3',k4,k4',k5,k5',u1,u2,u3])
theorem HS (k:Int) (t:List UInt8) (hlen:t.length≤140737488355328) (K V:IV) (m:IM) (e:Env) (l:List (Nat×Loc)) (b:List (Nat×BObj)) (h:VB e b 1 k t K V) :
  if c2B k t=true then ∃e' l' b',bO (cL (cR (cR i113.body))) (stG e l b m)=some (.ret,stG e' l' b' m)∧look e' 2=some (.int .i64 1,.any)
  else ∃e' l' b',bO (cL (cR (cR i113.body))) (stG e l b m)=some (.normal,stG e' l' b' m)∧VB e' b' 1 k t K V:=by
 obtain⟨h1,h2⟩:=h
 have h134:=Gm t hlen m
 have h135:=zJ t hlen m
 unfold cw at h134 h135
 unfold c2B
 by_cases k1:k=1
 ·subst k1
  by_cases u1:t=[116,114,117,101]
  ·subst u1
   simp[cL,cR,st0,stG,i113,go_sem,and_assoc,VB,h1,h2]
  ·have u1':(t==[116,114,117,101])=false:=by simpa using u1
   by_cases u2:t=[102,97,108,115,101]
   ·subst u2
    simp[cL,cR,st0,stG,i113,go_sem,and_assoc,VB,h1,h2]
   ·have u2':(t==[102,97,108,115,101])=false:=by simpa using u2
    simp[cL,cR,st0,stG,i113,go_sem,and_assoc,VB,h1,h2,u1,u1',u2,u2']
 ·have k1':(k==1)=false:=by simpa using k1
  by_cases k2:k=2
  ·subst k2
   generalize ((hJ t 0).2&&decide ((hJ t 0).1=t.length))=B at *
   cases B<;>simp[cL,cR,st0,stG,i113,go_sem,and_assoc,VB,h1,h2,h134]
  ·have k2':(k==2)=false:=by simpa using k2
   by_cases k3:k=3
   ·subst k3
    generalize okS t=B at *
    cases B<;>simp[cL,cR,st0,stG,i113,go_sem,and_assoc,VB,h1,h2,h135]
   ·have k3':(k==3)=false:=by simpa using k3
    simp[cL,cR,st0,stG,i113,go_sem,and_assoc,VB,h1,h2,k1,k1',k2,k2',k3,k3']
end Go.Idl
namespace Go.Idl
attribute [local go_sem] oA gA vA wA nA fA dA eA oV oW oN oD oF IFn.call ICode.run aU IOp.run IOp.run0 gate IK.ok aX da OTag.hits IK.run Arg.rd look aE rdAll POp.ev dy fj fD fG fC fB fE fl fq fx fI fm cY fH fh b8 St.put lkSlot lkL lkB lkC ay bM IK.link b9 cN St.drop St.capAt St.owner linkOf cM bV cJ IV.refsDeep IV.refsDeep.go IV.refs IV.refs.go al IV.plain cQ aC de bG IV.cells IV.isU IV.isL cZ cS over dz cut eqS aW bnd dS ee du dE dB cO aa aV eB dP a7 aH dH c5 a6 uqB bE St.head dj dh cI dn
def wh (k:Int) (t:List UInt8) (K V:IV) (i:Nat) (m:IM):St:={ env:=[(1,.pL 0 0,.any),(3,.int .i64 i,.any)],lk:=[],lb:=[(0,.cells [.int .i64 k,.str t,K,V] [.any,.any,.any,.any])],m:=m }
theorem NV (kk:Int) (t:List UInt8) (V:IV) (ks:List (List UInt8)) (hb:ks.length≤140737488355328) (hk:∀s,s∈ks→s.length≤140737488355328) (m:IM):∀(k i:Nat),ks.length=i+k →
  if (ks.drop i).any (fun s=>!okS s)=true then ∃e' l' b',lc tab ae iR iD (some (wh kk t (.sl (ks.map .str) ks.length) V i m))=some (.ret,stG e' l' b' m)∧look e' 2=some (.int .i64 1,.any)
  else ∃e' l' b',lc tab ae iR iD (some (wh kk t (.sl (ks.map .str) ks.length) V i m))=some (.exit 0,stG e' l' b' m):=by
 intro k
 induction k with
 |zero =>
  intro i hk
  have e:ks.drop i=[]:=List.drop_eq_nil_iff.2 (by omega)
  have c1:¬(i:Int)<(ks.length:Int):=by omega
  rw[e,bn]
  simp only[wh,st0,stG,List.any_nil,Bool.false_eq_true,if_false]
  generalize ks.map IV.str=R at *
  generalize ks.length=n at *
  simp[iD,ox,kC,kz,go_sem,c1,and_assoc]
 |succ k ih =>
  intro i hk'
  have hi:i<ks.length:=by omega
  have c1:(i:Int)<(ks.length:Int):=by omega
  have c3:(0:Int)≤(i:Int):=by omega
  have hg:=i4 hi
  have hl:i+1≤(ks.map IV.str).length:=by rw[List.length_map];omega
  have hq:=zJ ks[i] (hk _ (List.getElem_mem hi)) m
  unfold cw at hq
  rw[drop_cons hi,List.any_cons]
  generalize ks[i]=x at *
  cases hP:okS x with
  |false =>
   rw[hP] at hq
   rw[if_pos (by simp),bn]
   simp only[wh,st0,stG]
   generalize lc tab ae iR iD=L
   generalize ks.map IV.str=R at *
   generalize ks.length=n at *
   simp[iD,ox,kC,kz,go_sem,c1,c3,hg,hl,hq,and_assoc]
  |true =>
   rw[hP] at hq
   have e1:IntKind.i64.wrap ((i:Int)+1)=((i+1:Nat):Int):=by rw[w64 (by omega) (by omega)];rfl
   have step:lc tab ae iR iD (some (wh kk t (.sl (ks.map .str) ks.length) V i m))=lc tab ae iR iD (some (wh kk t (.sl (ks.map .str) ks.length) V (i+1) m)):=by
    rw[bn]
    simp only[wh,st0,stG]
    generalize lc tab ae iR iD=L
    generalize hj:i+1=j at *
    generalize ks.map IV.str=R at *
    generalize ks.length=n at *
    simp[iD,ox,kC,kz,go_sem,c1,c3,hg,hl,hq,e1,hj]
   rw[step,Bool.not_true,Bool.false_or]
   exact ih (i+1) (by omega)
theorem HE (k:Int) (t:List UInt8) (K V:IV) (ks:List (List UInt8)) (n:Nat) (hK:SlS K ks) (hV:SlN V n) (hks:ks.length≤140737488355328) (hk:∀s,s∈ks→s.length≤140737488355328) (m:IM) (e:Env) (l:List (Nat×Loc)) (b:List (Nat×BObj)) (h:VB e b 1 k t K V) :
  ∃e' l' b',bO (cR (cR (cR i113.body))) (stG e l b m)=some (.ret,stG e' l' b' m)∧look e' 2=some (.int .i64 (if (ks.any fun s=>!okS s)=true then 1 else 0),.any):=by
 obtain⟨h1,h2⟩:=h
 rcases hK with ⟨rfl,rfl⟩ | rfl
 ·rcases hV with ⟨rfl,rfl⟩ | ⟨row,rfl⟩<;>simp[cL,cR,st0,stG,i113,go_sem,and_assoc,h1,h2,bn,iD,ox,kC,kz]
 ·have q:=NV k t V ks hks hk m ks.length 0 (by omega)
  rw[List.drop_zero] at q
  simp only[wh,stG] at q
  rw[show ((0:Nat):Int)=0 from rfl] at q
  by_cases hd:(ks.any fun s=>!okS s)=true
  ·rw[if_pos hd] at q ⊢
   obtain⟨e',l',b',q0,q1⟩:=q
   generalize ks.map IV.str=R at *
   generalize ks.length=n' at *
   rcases hV with ⟨rfl,rfl⟩ | ⟨row,rfl⟩<;>simp[cR,st0,stG,i113,go_sem,and_assoc,h1,h2,ox,kC,kz,q0,q1]
  ·rw[if_neg hd] at q ⊢
   obtain⟨e',l',b',q0⟩:=q
   generalize ks.map IV.str=R at *
   generalize ks.length=n' at *
   rcases hV with ⟨rfl,rfl⟩ | ⟨row,rfl⟩<;>simp[cR,st0,stG,i113,go_sem,and_assoc,h1,h2,ox,kC,kz,q0]
theorem HU (k:Int) (t:List UInt8) (ks:List (List UInt8)) (n:Nat):(if c1B k t ks n=true then (1:Int) else if c2B k t=true then 1 else if (ks.any fun s=>!okS s)=true then 1 else 0)=if dN k t ks n=false then 1 else 0:=by
 unfold dN c1B c2B jo
 generalize (ks.any fun s=>!okS s)=A
 generalize ((hJ t 0).2&&decide ((hJ t 0).1=t.length))=B
 generalize okS t=C
 by_cases k1:k=1
 ·subst k1
  by_cases u1:t=[116,114,117,101]<;>by_cases u2:t=[102,97,108,115,101]<;>by_cases u3:ks=[]<;>by_cases u4:n=0<;>cases A<;>simp[u1,u2,u3,u4]
 ·by_cases k2:k=2
  ·subst k2
   by_cases u3:ks=[]<;>by_cases u4:n=0<;>cases A<;>cases B<;>simp[u3,u4]
  ·by_cases k3:k=3
   ·subst k3
    by_cases u3:ks=[]<;>by_cases u4:n=0<;>cases A<;>cases C<;>simp[u3,u4]
   ·by_cases k4:k=4
    ·subst k4
     by_cases u1:t=[]<;>by_cases u3:ks=[]<;>by_cases u4:n=0<;>cases A<;>simp[u1,u3,u4]
    ·by_cases k5:k=5
     ·subst k5
      by_cases u1:t=[]<;>cases A<;>simp[u1]
     ·by_cases u1:t=[]<;>by_cases u3:ks=[]<;>by_cases u4:n=0<;>cases A<;>simp[k1,k2,k3,k4,k5,u1,u3,u4]
theorem Gn (k:Int) (t:List UInt8) (K V:IV) (ks:List (List UInt8)) (n:Nat) (hK:SlS K ks) (hV:SlN V n) (ht:t.length≤140737488355328) (hks:ks.length≤140737488355328) (hk:∀s,s∈ks→s.length≤140737488355328) (m:IM) :
  cw (.f 113) [.agg (vc k t K V)] m=some (.int .i64 (if dN k t ks n=false then 1 else 0),m):=by
 have main:∃e l b,bO i113.body (st0 (cM 0 [.agg (vc k t K V)]) m)=some (.ret,stG e l b m)∧look e 2=some (.int .i64 (if dN k t ks n=false then 1 else 0),.any):=by
  rw[←HU]
  obtain⟨e0,b0,a0,a1⟩:=HF k t K V ks n hK hV m
  have h1:=Gc k t K V ks n hK hV m e0 b0 a1
  by_cases g1:c1B k t ks n=true
  ·rw[if_pos g1] at h1 ⊢
   obtain⟨e1,l1,b1,c0,c1⟩:=h1
   exact⟨_,_,_,(sp rfl a0).trans (fp rfl c0),c1⟩
  ·rw[if_neg g1] at h1 ⊢
   obtain⟨e1,l1,b1,c0,c1⟩:=h1
   have h2:=HS k t ht K V m e1 l1 b1 c1
   by_cases g2:c2B k t=true
   ·rw[if_pos g2] at h2 ⊢
    obtain⟨e2,l2,b2,d0,d1⟩:=h2
    exact⟨_,_,_,(sp rfl a0).trans ((sp rfl c0).trans (fp rfl d0)),d1⟩
   ·rw[if_neg g2] at h2 ⊢
    obtain⟨e2,l2,b2,d0,d1⟩:=h2
    obtain⟨e3,l3,b3,f0,f1⟩:=HE k t K V ks n hK hV hks hk m e2 l2 b2 d1
    exact⟨_,_,_,(sp rfl a0).trans ((sp rfl c0).trans ((sp rfl d0).trans f0)),f1⟩
 obtain⟨e,l,b,q0,q1⟩:=main
 rw[ja p113 f113 rfl (.inr rfl) q0]
 simp[i113,stG,go_sem,q1]
end Go.Idl
namespace Go.Idl
attribute [local go_sem] oA gA vA wA nA fA dA eA oV oW oN oD oF IFn.call ICode.run aU IOp.run IOp.run0 gate IK.ok aX da OTag.hits IK.run Arg.rd look aE rdAll POp.ev dy fj fD fG fC fB fE fl fq fx fI fm cY fH fh b8 St.put lkSlot lkL lkB lkC ay bM IK.link b9 cN St.drop St.capAt St.owner linkOf cM bV cJ IV.refsDeep IV.refsDeep.go IV.refs IV.refs.go al IV.plain cQ aC de bG IV.cells IV.isU IV.isL cZ cS over dz cut eqS aW bnd dS ee du dE dB cO aa aV eB dP a7 aH dH c5 a6 uqB bE St.head dj dh cI dn
theorem f85:tab.fns 85=some i85:=by rfl
theorem p85:ae 85=none:=by rfl
theorem wJ:pr.keep=[(1,0),(4,0),(5,0)]:=rfl
theorem rL:pr.keepL=[0]:=rfl
theorem qZ:pr.ownL=[]:=rfl
theorem xB:kV.keep=[(1,0),(6,0),(7,0)]:=rfl
theorem qB:kV.keepL=[0]:=rfl
theorem sL:kV.ownL=[]:=rfl
theorem tO:lx.keep=[(1,0),(6,0)]:=rfl
theorem oc:lx.keepL=[0]:=rfl
theorem nR:lx.ownL=[]:=rfl
theorem Lx (k:Int) (t:List UInt8) (K V:IV) (ks:List (List UInt8)) (n:Nat) (hK:SlS K ks) (hV:SlN V n) (m:IM) :
  ∃e b,bO (cL i85.body) (st0 (cM 0 [.agg (vc k t K V)]) m)=some (.normal,stG e [] b m)∧VB e b 1 k t K V:=by
 rcases hK with ⟨rfl,rfl⟩ | rfl<;>rcases hV with ⟨rfl,rfl⟩ | ⟨row,rfl⟩<;>simp[cL,st0,stG,i85,go_sem,and_assoc,VB,vc]
theorem JC (k:Int) (t:List UInt8) (K V:IV) (m:IM) (e:Env) (b:List (Nat×BObj)) (h:VB e b 1 k t K V) :
  if k<0∨6≤k then ∃e' l' b',bO (cL (cR i85.body)) (stG e [] b m)=some (.ret,stG e' l' b' m)∧look e' 2=some (.int .i64 11,.any)
  else ∃e' l' b',bO (cL (cR i85.body)) (stG e [] b m)=some (.normal,stG e' l' b' m)∧VB e' b' 1 k t K V:=by
 obtain⟨h1,h2⟩:=h
 by_cases k0:k<0
 ·simp[cL,cR,st0,stG,i85,go_sem,and_assoc,VB,h1,h2,k0]
 ·by_cases k6:6≤k<;>simp[cL,cR,st0,stG,i85,go_sem,and_assoc,VB,h1,h2,k0,k6]
theorem Jc (k:Int) (t:List UInt8) (K V:IV) (ks:List (List UInt8)) (n:Nat) (hK:SlS K ks) (hV:SlN V n) (ht:t.length≤140737488355328) (hks:ks.length≤140737488355328) (hk:∀s,s∈ks→s.length≤140737488355328) (m:IM) (e:Env) (l:List (Nat×Loc)) (b:List (Nat×BObj)) (h:VB e b 1 k t K V) :
  if dN k t ks n=false then ∃e' l' b',bO (cL (cR (cR i85.body))) (stG e l b m)=some (.ret,stG e' l' b' m)∧look e' 2=some (.int .i64 1,.any)
  else ∃e' l' b',bO (cL (cR (cR i85.body))) (stG e l b m)=some (.normal,stG e' l' b' m)∧VB e' b' 1 k t K V:=by
 obtain⟨h1,h2⟩:=h
 have h113:=Gn k t K V ks n hK hV ht hks hk m
 unfold cw at h113
 unfold vc at h113
 cases hf:dN k t ks n<;>rw[hf] at h113<;>rcases hK with ⟨rfl,rfl⟩ | rfl<;>rcases hV with ⟨rfl,rfl⟩ | ⟨row,rfl⟩ <;>
 simp only[if_true,Bool.true_eq_false,if_false] at h113<;>simp[cL,cR,st0,stG,i85,go_sem,and_assoc,VB,h1,h2,h113]
theorem KH (k:Int) (t:List UInt8) (K V:IV) (m:IM) (e:Env) (l:List (Nat×Loc)) (b:List (Nat×BObj)) (h:VB e b 1 k t K V) :
  ∃e' l' b',bO (cL (cR (cR (cR i85.body)))) (stG e l b m)=some (.normal,stG e' l' b' m)∧VB e' b' 1 k t K V∧look e' 4=some (.bool ((decide (k=2)&&decide (60<t.length))||decide (1000<t.length)),.any):=by
 obtain⟨h1,h2⟩:=h
 have g1:((60:Int)<(t.length:Int))=(60<t.length):=by simp;omega
 have g2:((1000:Int)<(t.length:Int))=(1000<t.length):=by simp;omega
 by_cases k2:k=2
 ·subst k2
  by_cases u1:60<t.length
  ·simp[cL,cR,st0,stG,i85,go_sem,and_assoc,VB,h1,h2,g1,u1]
  ·by_cases u2:1000<t.length
   ·omega
   ·simp[cL,cR,st0,stG,i85,go_sem,and_assoc,VB,h1,h2,g1,g2,u1,u2]
 ·have k2':(k==2)=false:=by simpa using k2
  by_cases u2:1000<t.length<;>simp[cL,cR,st0,stG,i85,go_sem,and_assoc,VB,h1,h2,g2,u2,k2,k2']
def S85 (k:Int) (t:List UInt8) (K V:IV) (lg:Bool) (i:Nat) (m:IM):St:={ env:=[(1,.pL 0 0,.any),(4,.bool lg,.any),(5,.int .i64 i,.any)],lk:=[],lb:=[(0,.cells [.int .i64 k,.str t,K,V] [.any,.any,.any,.any])],m:=m }
theorem NZ (kk:Int) (t:List UInt8) (V:IV) (ks:List (List UInt8)) (hb:ks.length≤140737488355328) (m:IM):∀(k i:Nat) (lg:Bool),ks.length=i+k →
  ∃e' l' b',lc tab ae pr mL (some (S85 kk t (.sl (ks.map .str) ks.length) V lg i m))=some (.exit 0,stG e' l' b' m)∧VB e' b' 1 kk t (.sl (ks.map .str) ks.length) V∧look e' 4=some (.bool (lg||(ks.drop i).any fun s=>decide (1000<s.length)),.any):=by
 intro k
 induction k with
 |zero =>
  intro i lg hk
  have e:ks.drop i=[]:=List.drop_eq_nil_iff.2 (by omega)
  have c1:¬(i:Int)<(ks.length:Int):=by omega
  rw[e,bn]
  simp only[S85,st0,stG,List.any_nil,Bool.or_false]
  generalize ks.map IV.str=R at *
  generalize ks.length=n at *
  simp[mL,wJ,rL,qZ,go_sem,c1,and_assoc,VB]
 |succ k ih =>
  intro i lg hk'
  have hi:i<ks.length:=by omega
  have c1:(i:Int)<(ks.length:Int):=by omega
  have c3:(0:Int)≤(i:Int):=by omega
  have hg:=i4 hi
  have hl:i+1≤(ks.map IV.str).length:=by rw[List.length_map];omega
  rw[drop_cons hi,List.any_cons,←Bool.or_assoc]
  generalize ks[i]=x at *
  have g2:((1000:Int)<(x.length:Int))=(1000<x.length):=by simp;omega
  have e1:IntKind.i64.wrap ((i:Int)+1)=((i+1:Nat):Int):=by rw[w64 (by omega) (by omega)];rfl
  have step:lc tab ae pr mL (some (S85 kk t (.sl (ks.map .str) ks.length) V lg i m))=lc tab ae pr mL (some (S85 kk t (.sl (ks.map .str) ks.length) V (lg||decide (1000<x.length)) (i+1) m)):=by
   rw[bn]
   simp only[S85,st0,stG]
   generalize lc tab ae pr mL=L
   generalize hj:i+1=j at *
   generalize ks.map IV.str=R at *
   generalize ks.length=n at *
   cases lg with
   |true=>simp[mL,wJ,rL,qZ,go_sem,c1,c3,hg,hl,e1,hj]
   |false=>simp[mL,wJ,rL,qZ,go_sem,c1,c3,hg,hl,e1,hj,g2]
  rw[step]
  exact ih (i+1) _ (by omega)
theorem JT (k:Int) (t:List UInt8) (K V:IV) (ks:List (List UInt8)) (hK:SlS K ks) (hks:ks.length≤140737488355328) (lg:Bool) (m:IM) (e:Env) (l:List (Nat×Loc)) (b:List (Nat×BObj)) (h:VB e b 1 k t K V) (h4:look e 4=some (.bool lg,.any)) :
  ∃e' l' b',bO (cL (cR (cR (cR (cR i85.body))))) (stG e l b m)=some (.normal,stG e' l' b' m)∧VB e' b' 1 k t K V∧look e' 4=some (.bool (lg||ks.any fun s=>decide (1000<s.length)),.any):=by
 obtain⟨h1,h2⟩:=h
 rcases hK with ⟨rfl,rfl⟩ | rfl
 ·simp[cL,cR,st0,stG,i85,go_sem,and_assoc,VB,h1,h2,h4,bn,mL,wJ,rL,qZ]
 ·obtain⟨e',l',b',q0,q1,q2⟩:=NZ k t V ks hks m ks.length 0 lg (by omega)
  obtain⟨q1a,q1b⟩:=q1
  rw[List.drop_zero] at q2
  simp only[S85,stG] at q0
  rw[show ((0:Nat):Int)=0 from rfl] at q0
  generalize (ks.any fun s=>decide (1000<s.length))=A at *
  generalize ks.map IV.str=R at *
  generalize ks.length=n' at *
  simp[cL,cR,st0,stG,i85,go_sem,and_assoc,VB,h1,h2,h4,wJ,rL,qZ,q0,q1a,q1b,q2]
theorem Li (k:Int) (t:List UInt8) (K V:IV) (lg:Bool) (m:IM) (e:Env) (l:List (Nat×Loc)) (b:List (Nat×BObj)) (h:VB e b 1 k t K V) (h4:look e 4=some (.bool lg,.any)) :
  if lg=true then ∃e' l' b',bO (cL (cR (cR (cR (cR (cR i85.body)))))) (stG e l b m)=some (.ret,stG e' l' b' m)∧look e' 2=some (.int .i64 20,.any)
  else ∃e' l' b',bO (cL (cR (cR (cR (cR (cR i85.body)))))) (stG e l b m)=some (.normal,stG e' l' b' m)∧VB e' b' 1 k t K V:=by
 obtain⟨h1,h2⟩:=h
 cases lg<;>simp[cL,cR,st0,stG,i85,go_sem,and_assoc,VB,h1,h2,h4]
theorem KW (k:Int) (t:List UInt8) (K V:IV) (ks:List (List UInt8)) (n:Nat) (hK:SlS K ks) (hV:SlN V n) (m:IM) (e:Env) (l:List (Nat×Loc)) (b:List (Nat×BObj)) (h:VB e b 1 k t K V) :
  if k=5∧ks.length≠n then ∃e' l' b',bO (cL (cR (cR (cR (cR (cR (cR i85.body))))))) (stG e l b m)=some (.ret,stG e' l' b' m)∧look e' 2=some (.int .i64 2,.any)
  else ∃e' l' b',bO (cL (cR (cR (cR (cR (cR (cR i85.body))))))) (stG e l b m)=some (.normal,stG e' l' b' m)∧VB e' b' 1 k t K V:=by
 obtain⟨h1,h2⟩:=h
 by_cases k5:k=5
 ·subst k5
  by_cases u:ks.length=n
  ·rw[if_neg (fun w=>w.2 u)]
   rcases hK with ⟨rfl,rfl⟩ | rfl<;>rcases hV with ⟨rfl,rfl⟩ | ⟨row,rfl⟩
   ·simp[cL,cR,st0,stG,i85,go_sem,and_assoc,VB,h1,h2]
   ·subst u
    simp[cL,cR,st0,stG,i85,go_sem,and_assoc,VB,h1,h2]
   ·have u':ks=[]:=List.length_eq_zero_iff.1 u
    subst u'
    simp[cL,cR,st0,stG,i85,go_sem,and_assoc,VB,h1,h2]
   ·subst u
    simp[cL,cR,st0,stG,i85,go_sem,and_assoc,VB,h1,h2]
  ·rw[if_pos ⟨rfl,u⟩]
   have g:((ks.length:Int)==(n:Int))=false:=by simp;omega
   rcases hK with ⟨rfl,rfl⟩ | rfl<;>rcases hV with ⟨rfl,rfl⟩ | ⟨row,rfl⟩
   ·exact absurd rfl u
   ·rw[show (([]:List (List UInt8)).length:Int)=0 from rfl] at g
    simp[cL,cR,st0,stG,i85,go_sem,and_assoc,VB,h1,h2,g,bne]
   ·rw[show ((0:Nat):Int)=0 from rfl] at g
    simp[cL,cR,st0,stG,i85,go_sem,and_assoc,VB,h1,h2,g,bne]
   ·simp[cL,cR,st0,stG,i85,go_sem,and_assoc,VB,h1,h2,g,bne]
 ·have k5':(k==5)=false:=by simpa using k5
  rw[if_neg (fun w=>k5 w.1)]
  simp[cL,cR,st0,stG,i85,go_sem,and_assoc,VB,h1,h2,k5']
end Go.Idl
namespace Go.Idl
attribute [local go_sem] oA gA vA wA nA fA dA eA oV oW oN oD oF IFn.call ICode.run aU IOp.run IOp.run0 gate IK.ok aX da OTag.hits IK.run Arg.rd look aE rdAll POp.ev dy fj fD fG fC fB fE fl fq fx fI fm cY fH fh b8 St.put lkSlot lkL lkB lkC ay bM IK.link b9 cN St.drop St.capAt St.owner linkOf cM bV cJ IV.refsDeep IV.refsDeep.go IV.refs IV.refs.go al IV.plain cQ aC de bG IV.cells IV.isU IV.isL cZ cS over dz cut eqS aW bnd dS ee du dE dB cO aa aV eB dP a7 aH dH c5 a6 uqB bE St.head dj dh cI dn
def vV (k:Int) (t:List UInt8) (K V:IV) (i j:Nat) (m:IM):St:={ env:=[(1,.pL 0 0,.any),(6,.int .i64 i,.any),(7,.int .i64 j,.any)],lk:=[],lb:=[(0,.cells [.int .i64 k,.str t,K,V] [.any,.any,.any,.any])],m:=m }
theorem Ob (kk:Int) (t:List UInt8) (V:IV) (ks:List (List UInt8)) (hb:ks.length≤140737488355328) (i:Nat) (hi:i<ks.length) (m:IM):∀(k j:Nat),i=j+k →
  if ks[i]∈(ks.take i).drop j then ∃e' l' b',lc tab ae kV la (some (vV kk t (.sl (ks.map .str) ks.length) V i j m))=some (.ret,stG e' l' b' m)∧look e' 2=some (.int .i64 7,.any)
  else ∃e' l' b',lc tab ae kV la (some (vV kk t (.sl (ks.map .str) ks.length) V i j m))=some (.exit 4,stG e' l' b' m)∧VB e' b' 1 kk t (.sl (ks.map .str) ks.length) V∧look e' 6=some (.int .i64 i,.any):=by
 intro k
 induction k with
 |zero =>
  intro j hk
  have e:(ks.take i).drop j=[]:=List.drop_eq_nil_iff.2 (by rw[List.length_take];omega)
  have c1:¬(j:Int)<(i:Int):=by omega
  rw[e,if_neg (by simp),bn]
  simp only[vV,st0,stG]
  generalize ks.map IV.str=R at *
  simp[la,xB,qB,sL,go_sem,c1,and_assoc,VB]
 |succ k ih =>
  intro j hk'
  have hj:j<ks.length:=by omega
  have c1:(j:Int)<(i:Int):=by omega
  have c2:(j:Int)<(ks.length:Int):=by omega
  have c2':(i:Int)<(ks.length:Int):=by omega
  have c3:(0:Int)≤(j:Int):=by omega
  have c3':(0:Int)≤(i:Int):=by omega
  have hg:=i4 hj
  have hg':=i4 hi
  have hl:j+1≤(ks.map IV.str).length:=by rw[List.length_map];omega
  have hl':i+1≤(ks.map IV.str).length:=by rw[List.length_map];omega
  have ed:(ks.take i).drop j=ks[j]::(ks.take i).drop (j+1):=by
   rw[drop_cons (by rw[List.length_take];omega)]
   simp
  have ih':=ih (j+1) (by omega)
  rw[ed]
  generalize ks[i]=x at *
  generalize ks[j]=y at *
  by_cases hxy:x=y
  ·subst hxy
   rw[if_pos (by simp),bn]
   simp only[vV,st0,stG]
   generalize lc tab ae kV la=L
   generalize ks.map IV.str=R at *
   generalize ks.length=n at *
   simp[la,xB,qB,sL,go_sem,c1,c2,c2',c3,c3',hg,hg',hl,hl',and_assoc]
  ·have hne:(x==y)=false:=by simpa using hxy
   have e1:IntKind.i64.wrap ((j:Int)+1)=((j+1:Nat):Int):=by rw[w64 (by omega) (by omega)];rfl
   have step:lc tab ae kV la (some (vV kk t (.sl (ks.map .str) ks.length) V i j m))=lc tab ae kV la (some (vV kk t (.sl (ks.map .str) ks.length) V i (j+1) m)):=by
    rw[bn]
    simp only[vV,st0,stG]
    generalize lc tab ae kV la=L
    generalize hj':j+1=j' at *
    generalize hi':i+1=i' at *
    generalize ks.map IV.str=R at *
    generalize ks.length=n at *
    simp[la,xB,qB,sL,go_sem,c1,c2,c2',c3,c3',hg,hg',hl,hl',e1,hj',hi',hne]
   rw[step]
   by_cases hm:x∈(ks.take i).drop (j+1)
   ·rw[if_pos (by simp[hm])];rwa [if_pos hm] at ih'
   ·rw[if_neg (by simp[hm,hxy])];rwa [if_neg hm] at ih'
def vZ (k:Int) (t:List UInt8) (K V:IV) (i:Nat) (m:IM):St:={ env:=[(1,.pL 0 0,.any),(6,.int .i64 i,.any)],lk:=[],lb:=[(0,.cells [.int .i64 k,.str t,K,V] [.any,.any,.any,.any])],m:=m }
theorem N6 (kk:Int) (t:List UInt8) (V:IV) (ks:List (List UInt8)) (hb:ks.length≤140737488355328) (m:IM):∀(k i:Nat),ks.length=i+k →
  if jJ (ks.take i) (ks.drop i)=true then ∃e' l' b',lc tab ae lx j6 (some (vZ kk t (.sl (ks.map .str) ks.length) V i m))=some (.ret,stG e' l' b' m)∧look e' 2=some (.int .i64 7,.any)
  else ∃e' l' b',lc tab ae lx j6 (some (vZ kk t (.sl (ks.map .str) ks.length) V i m))=some (.exit 2,stG e' l' b' m):=by
 intro k
 induction k with
 |zero =>
  intro i hk
  have e:ks.drop i=[]:=List.drop_eq_nil_iff.2 (by omega)
  have c1:¬(i:Int)<(ks.length:Int):=by omega
  rw[e,bn]
  simp only[vZ,st0,stG,jJ,Bool.false_eq_true,if_false]
  generalize ks.map IV.str=R at *
  generalize ks.length=n at *
  simp[j6,tO,oc,nR,go_sem,c1,and_assoc]
 |succ k ih =>
  intro i hk
  have hi:i<ks.length:=by omega
  have c1:(i:Int)<(ks.length:Int):=by omega
  have ht:ks.take (i+1)=ks.take i++[ks[i]]:=by rw[List.take_add_one];simp[hi]
  have q:=Ob kk t V ks hb i hi m i 0 (by omega)
  rw[List.drop_zero] at q
  rw[drop_cons hi,jJ]
  by_cases hm:ks[i]∈ks.take i
  ·rw[if_pos hm] at q
   obtain⟨e',l',b',q0,q1⟩:=q
   simp only[vV,stG] at q0
   rw[show ((0:Nat):Int)=0 from rfl] at q0
   rw[decide_eq_true hm,Bool.true_or,if_pos rfl,bn]
   simp only[vZ,stG]
   generalize lc tab ae lx j6=L
   generalize ks[i]=x at *
   generalize ks.map IV.str=R at *
   generalize ks.length=n at *
   simp[j6,tO,oc,nR,xB,qB,sL,go_sem,c1,q0,q1,and_assoc]
  ·rw[if_neg hm] at q
   obtain⟨e',l',b',q0,⟨q1,q2⟩,q3⟩:=q
   simp only[vV,stG] at q0
   rw[show ((0:Nat):Int)=0 from rfl] at q0
   have e1:IntKind.i64.wrap ((i:Int)+1)=((i+1:Nat):Int):=by rw[w64 (by omega) (by omega)];rfl
   have step:lc tab ae lx j6 (some (vZ kk t (.sl (ks.map .str) ks.length) V i m))=lc tab ae lx j6 (some (vZ kk t (.sl (ks.map .str) ks.length) V (i+1) m)):=by
    rw[bn]
    simp only[vZ,stG]
    generalize i+1=j at *
    generalize lc tab ae lx j6=L
    generalize ks[i]=x at *
    generalize ks.map IV.str=R at *
    generalize ks.length=n at *
    simp[j6,tO,oc,nR,xB,qB,sL,go_sem,c1,q0,q1,q2,q3,e1]
   rw[step,decide_eq_false hm,Bool.false_or,←ht]
   exact ih (i+1) (by omega)
theorem Jm (k:Int) (t:List UInt8) (K V:IV) (ks:List (List UInt8)) (hK:SlS K ks) (hks:ks.length≤140737488355328) (m:IM) (e:Env) (l:List (Nat×Loc)) (b:List (Nat×BObj)) (h:VB e b 1 k t K V) :
  ∃e' l' b',bO (cR (cR (cR (cR (cR (cR (cR i85.body))))))) (stG e l b m)=some (.ret,stG e' l' b' m)∧look e' 2=some (.int .i64 (if jJ [] ks=true then 7 else 0),.any):=by
 obtain⟨h1,h2⟩:=h
 rcases hK with ⟨rfl,rfl⟩ | rfl
 ·simp[cL,cR,st0,stG,i85,go_sem,and_assoc,h1,h2,bn,j6,tO,oc,nR,jJ]
 ·have q:=N6 k t V ks hks m ks.length 0 (by omega)
  rw[List.drop_zero,List.take_zero] at q
  simp only[vZ,stG] at q
  rw[show ((0:Nat):Int)=0 from rfl] at q
  by_cases hd:jJ [] ks=true
  ·rw[if_pos hd] at q ⊢
   obtain⟨e',l',b',q0,q1⟩:=q
   generalize ks.map IV.str=R at *
   generalize ks.length=n' at *
   simp[cL,cR,st0,stG,i85,go_sem,and_assoc,h1,h2,tO,oc,nR,q0,q1]
  ·rw[if_neg hd] at q ⊢
   obtain⟨e',l',b',q0⟩:=q
   generalize ks.map IV.str=R at *
   generalize ks.length=n' at *
   simp[cL,cR,st0,stG,i85,go_sem,and_assoc,h1,h2,tO,oc,nR,q0]
theorem Jd (k:Int) (t:List UInt8) (K V:IV) (ks:List (List UInt8)) (n:Nat) (hK:SlS K ks) (hV:SlN V n) (ht:t.length≤140737488355328) (hks:ks.length≤140737488355328) (hk:∀s,s∈ks→s.length≤140737488355328) (m:IM) :
  cw (.f 85) [.agg (vc k t K V)] m=some (.int .i64 (jA k t ks n),m):=by
 have main:∃e l b,bO i85.body (st0 (cM 0 [.agg (vc k t K V)]) m)=some (.ret,stG e l b m)∧look e 2=some (.int .i64 (jA k t ks n),.any):=by
  unfold jA
  obtain⟨e0,b0,a0,a1⟩:=Lx k t K V ks n hK hV m
  have h1:=JC k t K V m e0 b0 a1
  by_cases g1:k<0∨6≤k
  ·rw[if_pos g1] at h1 ⊢
   obtain⟨e1,l1,b1,c0,c1⟩:=h1
   exact⟨_,_,_,(sp rfl a0).trans (fp rfl c0),c1⟩
  ·rw[if_neg g1] at h1 ⊢
   obtain⟨e1,l1,b1,c0,c1⟩:=h1
   have h2:=Jc k t K V ks n hK hV ht hks hk m e1 l1 b1 c1
   by_cases g2:dN k t ks n=false
   ·rw[if_pos g2] at h2 ⊢
    obtain⟨e2,l2,b2,d0,d1⟩:=h2
    exact⟨_,_,_,(sp rfl a0).trans ((sp rfl c0).trans (fp rfl d0)),d1⟩
   ·rw[if_neg g2] at h2 ⊢
    obtain⟨e2,l2,b2,d0,d1⟩:=h2
    obtain⟨e3,l3,b3,f0,f1,f2⟩:=KH k t K V m e2 l2 b2 d1
    obtain⟨e4,l4,b4,g0,g3,g4⟩:=JT k t K V ks hK hks _ m e3 l3 b3 f1 f2
    have h5:=Li k t K V _ m e4 l4 b4 g3 g4
    have r4:=(sp (c:=i85.body) rfl a0).trans ((sp rfl c0).trans ((sp rfl d0).trans ((sp rfl f0).trans (sp rfl g0))))
    have hlg:((decide (k=2)&&decide (60<t.length)||decide (1000<t.length))||ks.any fun s=>decide (1000<s.length))=jH k t ks:=rfl
    rw[hlg] at h5
    by_cases g5:jH k t ks=true
    ·rw[if_pos g5] at h5 ⊢
     obtain⟨e5,l5,b5,u0,u1⟩:=h5
     exact⟨_,_,_,r4.trans (fp rfl u0),u1⟩
    ·rw[if_neg g5] at h5 ⊢
     obtain⟨e5,l5,b5,u0,u1⟩:=h5
     have h6:=KW k t K V ks n hK hV m e5 l5 b5 u1
     by_cases g6:k=5∧ks.length≠n
     ·rw[if_pos g6] at h6 ⊢
      obtain⟨e6,l6,b6,v0,v1⟩:=h6
      exact⟨_,_,_,r4.trans ((sp rfl u0).trans (fp rfl v0)),v1⟩
     ·rw[if_neg g6] at h6 ⊢
      obtain⟨e6,l6,b6,v0,v1⟩:=h6
      obtain⟨e7,l7,b7,w0,w1⟩:=Jm k t K V ks hK hks m e6 l6 b6 v1
      exact⟨_,_,_,r4.trans ((sp rfl u0).trans ((sp rfl v0).trans w0)),w1⟩
 obtain⟨e,l,b,q0,q1⟩:=main
 rw[ja p85 f85 rfl (.inr rfl) q0]
 simp[i85,stG,go_sem,q1]
end Go.Idl
