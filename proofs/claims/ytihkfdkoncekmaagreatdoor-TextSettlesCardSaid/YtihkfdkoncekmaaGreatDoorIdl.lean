/- This text proves what the interpreter returns at the functions for strings, numbers and fields of values; it has no conditions. -/
import Derived.Test.YtihkfdkoncekmaaGreatDoorIdg
import Derived.KernelRfl
import Derived.Test.YtihkfdkoncekmaaGreatDoorIde
import Derived.Test.YtihkfdkoncekmaaGreatDoorIda
set_option linter.unusedSimpArgs false
set_option linter.unusedVariables false
namespace Go.Idl
def uf:Option (IV×IM)→Bool
 |some (.bool true,⟨[],0⟩)=>true
 |_=>false
theorem GG:uf ((sem tab ae 400).call (.f 10) [] ⟨[],0⟩)=true:=by kernel_rfl
end Go.Idl
namespace Go.Idl
noncomputable abbrev cw:=dM tab ae
def E6 (m:IM) (v:IV):Option (IV×IM):=settle m m v
theorem bI {m:IM}{v:IV}:settle m m v=if v.refsDeep=some 0 then some (v,m) else E6 m v:=by
 split
 ·rename_i h
  unfold settle
  simp[h,an,IM.size]
 ·rfl
theorem w64 {x:Int}(h1:-9223372036854775808≤x) (h2:x≤9223372036854775807):IntKind.i64.wrap x=x:=by
 simp only[IntKind.wrap,IntKind.bits,IntKind.signed];simp;split<;>omega
theorem w32 {x:Int}(h1:-2147483648≤x) (h2:x≤2147483647):IntKind.i32.wrap x=x:=by
 simp only[IntKind.wrap,IntKind.bits,IntKind.signed];simp;split<;>omega
theorem w8 {x:Int}(h1:0≤x) (h2:x≤255):IntKind.u8.wrap x=x:=by
 simp only[IntKind.wrap,IntKind.bits,IntKind.signed];simp;omega
theorem fc {k:IntKind}{a b:Int}:fa .add k a b=some (.int k (k.wrap (a+b))):=rfl
theorem fw {k:IntKind}{a b:Int}:fa .sub k a b=some (.int k (k.wrap (a-b))):=rfl
theorem fe {k:IntKind}{a b:Int}:fa .mul k a b=some (.int k (k.wrap (a*b))):=rfl
theorem fD {k:IntKind}{a b:Int}:fa .quo k a b=if b=0 then none else some (.int k (k.wrap (a.tdiv b))):=rfl
theorem fx {k:IntKind}{a b:Int}:fa .rem k a b=if b=0 then none else some (.int k (a.tmod b)):=rfl
theorem fu {k:IntKind}{a b:Int}:fa .lss k a b=some (.bool (decide (a<b))):=rfl
theorem fI {k:IntKind}{a b:Int}:fa .leq k a b=some (.bool (decide (a≤b))):=rfl
theorem ft {k:IntKind}{a b:Int}:fa .gtr k a b=some (.bool (decide (b<a))):=rfl
theorem fq {k:IntKind}{a b:Int}:fa .geq k a b=some (.bool (decide (b≤a))):=rfl
theorem fH {k:IntKind}{a b:Int}:fa .eql k a b=some (.bool (a==b)):=rfl
theorem fj {k:IntKind}{a b:Int}:fa .neq k a b=some (.bool (a != b)):=rfl
theorem fE {a:Int}:xK .shl .i64 a 6=some (.int .i64 (IntKind.i64.wrap (a*64))):=rfl
attribute [local go_sem] oA gA vA wA nA fA dA eA oV oW oN oD oF IFn.call ICode.run aD IOp.run IOp.run0 gate IK.ok aG cE OTag.hits IK.run Arg.rd look au rdAll POp.ev dp fc fw fe fD fx fu fI ft fq fH fj bX fE fb bj St.put lkSlot lkL lkB lkC an aV IK.link bh bM St.drop St.capAt St.owner linkOf bV bb bI IV.refsDeep IV.refsDeep.go IV.refs IV.refs.go al IV.plain bN aq cH aT IV.cells IV.isU IV.isL cz cD over dn cut eqS aH bnd dN dW cX du dt bS aa aF dV dK aJ aC dy cy aK uqB aS St.head cN cQ bK cS
def bg (n:Int):Bool:=decide (0≤n)&&decide (n≤1114111)&&(decide (n<55296)||decide (57343<n))
theorem f56:tab.fns 56=some i56:=by rfl
theorem p56:ae 56=none:=by rfl
theorem Hx (n:Int) (m:IM):cw (.f 56) [.int .i64 n] m=some (.bool (bg n),m):=by
 unfold cw;rw[bf p56 f56]
 by_cases h1:0≤n<;>by_cases h2:n≤1114111<;>by_cases h3:n<55296<;>by_cases h4:57343<n <;>
 simp[i56,go_sem,bg,h1,h2,h3,h4]
def jb (n:Nat):List UInt8 :=
 if n<128 then [UInt8.ofNat n]
 else if n<2048 then [UInt8.ofNat (192+n/64),UInt8.ofNat (128+n%64)]
 else if n<65536 then [UInt8.ofNat (224+n/4096),UInt8.ofNat (128+n/64%64),UInt8.ofNat (128+n%64)]
 else [UInt8.ofNat (240+n/262144),UInt8.ofNat (128+n/4096%64),UInt8.ofNat (128+n/64%64),UInt8.ofNat (128+n%64)]
theorem tm {a b:Int}(h:0≤a):a.tmod b=a%b:=Int.tmod_eq_emod_of_nonneg h
theorem ox (n:Nat) (h:bg n=true):(Utf8.encode n).data.toList=jb n:=by
 have hv:Utf8.valid (n:Int)=true:=by
  simp[bg,Utf8.valid] at h ⊢
  omega
 simp only[Utf8.encode,hv,if_true,Int.toNat_natCast,jb]
 split
 ·rfl
 ·split
  ·rfl
  ·split<;>rfl
theorem f39:tab.fns 39=some i39:=by rfl
theorem p39:ae 39=none:=by rfl
theorem HP (n:Nat) (h:n≤1114111) (m:IM):cw (.f 39) [.int .i64 (n:Int)] m=some (.str (Utf8.encode n).data.toList,m):=by
 unfold cw;rw[bf p39 f39]
 simp (disch:=omega) [i39,go_sem,w32]
end Go.Idl
namespace Go.Idl
attribute [local go_sem] oA gA vA wA nA fA dA eA oV oW oN oD oF IFn.call ICode.run aD IOp.run IOp.run0 gate IK.ok aG cE OTag.hits IK.run Arg.rd look au rdAll POp.ev dp fc fw fe fD fx fu fI ft fq fH fj bX fE fb bj St.put lkSlot lkL lkB lkC an aV IK.link bh bM St.drop St.capAt St.owner linkOf bV bb bI IV.refsDeep IV.refsDeep.go IV.refs IV.refs.go al IV.plain bN aq cH aT IV.cells IV.isU IV.isL cz cD over dn cut eqS aH bnd dN dW cX du dt bS aa aF dV dK aJ aC dy cy aK uqB aS St.head cN cQ bK cS
set_option maxRecDepth 10000 in
theorem J5 (b:UInt8):fa .and .u8 (b.toNat:Int) 63=some (.int .u8 ((b.toNat%64:Nat):Int)):=by
 have:∀n:Nat,n<256→IntKind.u8.wrap ((BitVec.ofInt 8 (n:Int) &&& BitVec.ofInt 8 63).toNat:Int)=((n%64:Nat):Int):=by decide
 show some (IV.int .u8 (IntKind.u8.wrap ((BitVec.ofInt 8 (b.toNat:Int) &&& BitVec.ofInt 8 63).toNat:Int)))=_
 rw[this b.toNat b.toNat_lt]
theorem KM (p x:Nat) (h1:p<2^50) (h2:x<64):fa .or .i64 ((p:Int)*64) (x:Int)=some (.int .i64 ((p*64+x:Nat):Int)):=by
 show some (IV.int .i64 (IntKind.i64.wrap ((BitVec.ofInt 64 ((p:Int)*64) ||| BitVec.ofInt 64 (x:Int)).toNat:Int)))=_
 have e1:((p:Int)*64)=((p*64:Nat):Int):=by omega
 have e2:(BitVec.ofInt 64 ((p*64:Nat):Int) ||| BitVec.ofInt 64 ((x:Nat):Int)).toNat=p*64+x:=by
  rw[BitVec.toNat_or,BitVec.ofInt_natCast,BitVec.ofInt_natCast,BitVec.toNat_ofNat,BitVec.toNat_ofNat,Nat.mod_eq_of_lt (by omega),Nat.mod_eq_of_lt (by omega)]
  have:=Nat.shiftLeft_add_eq_or_of_lt (i:=6) (b:=x) (by omega) p
  rw[Nat.shiftLeft_eq] at this
  exact this.symm
 rw[e1,e2,w64 (by omega) (by omega)]
def inn (s:List UInt8) (lo hi:Nat):Nat→Nat→Nat→Nat×Nat
 |0,n,p=>(n,p)
 |k+1,n,p=>match s[n]? with
  |none=>(n,p)
  |some b=>if b.toNat<(if n=1 then lo else 128)∨(if n=1 then hi else 191)<b.toNat then (n,p) else inn s lo hi k (n+1) (p*64+b.toNat%64)
theorem Cp:pM.keep=[(0,0),(2,0),(4,0),(5,0),(6,0)]:=rfl
theorem xY:pM.keepL=[0,1]:=rfl
theorem yj:pM.ownL=[]:=rfl
theorem wt:ki.keep=[(0,0),(2,0),(9,0),(10,0)]:=rfl
theorem p6:ki.keepL=[0]:=rfl
theorem rI:ki.ownL=[]:=rfl
def qe (s:List UInt8) (n p a b size lo hi:Nat) (fv:IV) (m:IM):St where
 env:=[(0,.str s,.any),(2,.pL 0 0,.any),(4,.pL 1 0,.any),(5,.int .i64 p,.any),(6,.int .i64 n,.any)]
 lk:=[]
 lb:=[(0,.cells [.int .i64 0,.bool false,.int .i64 0] [.any,.any,.any]),(1,.cells [.int .u8 a,.int .u8 b,.int .i64 size,.int .u8 lo,.int .u8 hi,fv] [.any,.any,.any,.any,.any,.any])]
 m:=m
theorem Lx (s:List UInt8) (a b size lo hi:Nat) (fv:IV) (m:IM) (hs:size≤4):∀(k n p:Nat),size=n+k→1≤n→n≤s.length→(p+1)*64^k≤2^31 →
  ∃e',lc tab ae pM jN (some (qe s n p a b size lo hi fv m))=some (.exit 2,{ env:=e',lk:=[],lb:=(qe s n p a b size lo hi fv m).lb,m:=m }) ∧
   look e' 0=some (.str s,.any)∧look e' 2=some (.pL 0 0,.any)∧look e' 4=some (.pL 1 0,.any)∧look e' 5=some (.int .i64 ((inn s lo hi k n p).2:Nat),.any)∧look e' 6=some (.int .i64 ((inn s lo hi k n p).1:Nat),.any):=by
 intro k
 induction k with
 |zero =>
  intro n p hk h1 h2 h3
  rw[cM]
  have c1:¬((n:Int)<(size:Int)):=by omega
  simp[jN,qe,go_sem,c1,inn]
 |succ k ih =>
  intro n p hk h1 h2 h3
  rw[cM]
  have c1:(n:Int)<(size:Int):=by omega
  cases hb:s[n]? with
  |none =>
   have c2:¬((n:Int)<(s.length:Int)):=by
    have:=List.getElem?_eq_none_iff.1 hb;omega
   simp[jN,qe,go_sem,c1,c2,inn,hb]
  |some c =>
   have c2:(n:Int)<(s.length:Int):=by
    have:=(List.getElem?_eq_some_iff.1 hb).1;omega
   have hp:p<2^31:=by
    have:1≤64^(k+1):=Nat.one_le_pow _ _ (by omega)
    have:=Nat.mul_le_mul_left (p+1) this
    omega
   have hstep:(p*64+c.toNat%64+1)*64^k≤2^31:=by
    have:(p*64+c.toNat%64+1)*64^k≤((p+1)*64)*64^k:=Nat.mul_le_mul_right _ (by omega)
    rw[Nat.pow_succ] at h3
    have e:(p+1)*64*64^k=(p+1)*(64^k*64):=by rw[Nat.mul_assoc,Nat.mul_comm 64]
    omega
   have hlen:n+1≤s.length:=by omega
   have ih':=ih (n+1) (p*64+c.toNat%64) (by omega) (by omega) hlen hstep
   have e64:IntKind.i64.wrap ((p:Int)*64)=(p:Int)*64:=w64 (by omega) (by omega)
   have e65:IntKind.i64.wrap ((n:Int)+1)=((n+1:Nat):Int):=by rw[w64 (by omega) (by omega)];rfl
   have o1:=KM p (c.toNat%64) (by omega) (by omega)
   have a1:=J5 c
   have e66:IntKind.i64.wrap ((c.toNat%64:Nat):Int)=((c.toNat%64:Nat):Int):=w64 (by omega) (by omega)
   have tn:(n:Int).toNat=n:=by omega
   have c3b:n=1→((n:Int)==1)=true:=fun h=>by subst h;rfl
   have c3f:n≠1→((n:Int)==1)=false:=fun h=>by simp;omega
   by_cases hl:c.toNat<(if n=1 then lo else 128)∨(if n=1 then hi else 191)<c.toNat
   ·have hinn:inn s lo hi (k+1) n p=(n,p):=by simp only[inn,hb,if_pos hl]
    rw[hinn]
    by_cases hn:n=1
    ·simp only[hn,if_true] at hl
     have c3:=c3b hn
     by_cases g1:c.toNat<lo
     ·have g1':(c.toNat:Int)<(lo:Int):=by omega
      simp[jN,qe,go_sem,c1,c2,c3,hb,g1']
     ·have g1':¬(c.toNat:Int)<(lo:Int):=by omega
      have g2':(hi:Int)<(c.toNat:Int):=by omega
      simp[jN,qe,go_sem,c1,c2,c3,hb,g1',g2']
    ·simp only[hn,if_false] at hl
     have c3:=c3f hn
     by_cases g1:c.toNat<128
     ·have g1':(c.toNat:Int)<128:=by omega
      simp[jN,qe,go_sem,c1,c2,c3,hb,g1']
     ·have g1':¬(c.toNat:Int)<128:=by omega
      have g2':(191:Int)<(c.toNat:Int):=by omega
      simp[jN,qe,go_sem,c1,c2,c3,hb,g1',g2']
   ·have hinn:inn s lo hi (k+1) n p=inn s lo hi k (n+1) (p*64+c.toNat%64):=by simp only[inn,hb,if_neg hl]
    rw[hinn]
    obtain⟨e',q0,q1,q2,q3,q4,q5⟩:=ih'
    refine⟨e',?_,q1,q2,q3,q4,q5⟩
    by_cases hn:n=1
    ·simp only[hn,if_true] at hl
     have c3:=c3b hn
     have g1:¬(c.toNat:Int)<(lo:Int):=by omega
     have g2:¬(hi:Int)<(c.toNat:Int):=by omega
     simp only[qe] at q0 ⊢
     generalize lc tab ae pM jN=L at q0 ⊢
     simp[-Int.natCast_emod,-Int.natCast_add,-Int.natCast_mul,jN,Cp,xY,yj,go_sem,c1,c2,c3,hb,g1,g2,a1,e64,e65,e66,o1,q0]
    ·simp only[hn,if_false] at hl
     have c3:=c3f hn
     have g1:¬(c.toNat:Int)<128:=by omega
     have g2:¬(191:Int)<(c.toNat:Int):=by omega
     simp only[qe] at q0 ⊢
     generalize lc tab ae pM jN=L at q0 ⊢
     simp[-Int.natCast_emod,-Int.natCast_add,-Int.natCast_mul,jN,Cp,xY,yj,go_sem,c1,c2,c3,hb,g1,g2,a1,e64,e65,e66,o1,q0]
def S57 (R:List IV) (s:List UInt8) (k:Nat) (m:IM):St where
 env:=[(0,.str s,.any),(2,.pL 0 0,.any),(9,.agg R,.any),(10,.int .i64 k,.any)]
 lk:=[]
 lb:=[(0,.cells [.int .i64 0,.bool false,.int .i64 0] [.any,.any,.any])]
 m:=m
theorem Gg (R:List IV) (c:UInt8) (t:List UInt8) (k fr to sz lo hi f:Nat) (m:IM) (hk:k<9) (hl:k*6+6≤R.length) (hd:(R.drop (k*6)).take 6=[.int .u8 fr,.int .u8 to,.int .i64 sz,.int .u8 lo,.int .u8 hi,.func f [] []])
  (h:c.toNat<fr∨to<c.toNat):lc tab ae ki jO (some (S57 R (c::t) k m))=lc tab ae ki jO (some (S57 R (c::t) (k+1) m)):=by
 rw[cM]
 generalize lc tab ae ki jO=L
 have c1:(k:Int)<9:=by omega
 have c2:(0:Int)≤(k:Int):=by omega
 have e1:IntKind.i64.wrap ((k:Int)+1)=((k+1:Nat):Int):=by rw[w64 (by omega) (by omega)];rfl
 by_cases g1:c.toNat<fr
 ·have g1':(c.toNat:Int)<(fr:Int):=by omega
  simp[-Int.natCast_add,jO,wt,p6,rI,S57,go_sem,c1,c2,hl,hd,g1',e1]
 ·have g1':¬(c.toNat:Int)<(fr:Int):=by omega
  have g2':(to:Int)<(c.toNat:Int):=by omega
  simp[-Int.natCast_add,jO,wt,p6,rI,S57,go_sem,c1,c2,hl,hd,g1',g2',e1]
def fM (s:List UInt8) (sz lo hi p:Nat):Nat×Nat:=inn s lo hi (sz-1) 1 p
theorem Kx (R:List IV) (c:UInt8) (t:List UInt8) (k fr to sz lo hi f p:Nat) (m:IM) (hk:k<9) (hl:k*6+6≤R.length) (hd:(R.drop (k*6)).take 6=[.int .u8 fr,.int .u8 to,.int .i64 sz,.int .u8 lo,.int .u8 hi,.func f [] []])
  (h:¬(c.toNat<fr∨to<c.toNat)) (hz:1≤sz∧sz≤4) (hp:p<128) (hf:cw (.f f) [.int .u8 (c.toNat:Int)] m=some (.int .i64 (p:Int),m)) :
  ∃e' lb',lc tab ae ki jO (some (S57 R (c::t) k m))=some (.ret,{ env:=e',lk:=[],lb:=lb',m:=m })∧look e' 2=some (.pL 0 0,.any) ∧
   ∃cp,au lb' 0=.cells [.int .i64 ((fM (c::t) sz lo hi p).1:Nat),.bool (decide ((fM (c::t) sz lo hi p).1=sz)),.int .i64 ((fM (c::t) sz lo hi p).2:Nat)] cp:=by
 obtain⟨e',q0,q1,q2,q3,q4,q5⟩:=Lx (c::t) fr to sz lo hi (.func f [] []) m hz.2 (sz-1) 1 p (by omega) (by omega) (by simp) (by
  have:sz-1=0∨sz-1=1∨sz-1=2∨sz-1=3:=by omega
  rcases this with q | q | q | q<;>rw[q]<;>omega)
 rw[cM]
 have c1:(k:Int)<9:=by omega
 have c2:(0:Int)≤(k:Int):=by omega
 have g1:¬(c.toNat:Int)<(fr:Int):=by omega
 have g2:¬(to:Int)<(c.toNat:Int):=by omega
 simp only[qe] at q0
 rw[show ((1:Nat):Int)=1 from rfl] at q0
 unfold cw at hf
 have hb:((((inn (c::t) lo hi (sz-1) 1 p).1:Nat):Int)==(sz:Int))=decide ((inn (c::t) lo hi (sz-1) 1 p).1=sz):=by
  by_cases q:(inn (c::t) lo hi (sz-1) 1 p).1=sz
  ·simp[q]
  ·simp only[q,decide_false,beq_eq_false_iff_ne];omega
 simp[fM,jO,wt,p6,rI,Cp,xY,yj,S57,go_sem,c1,c2,hl,hd,g1,g2,hf,q0,q1,q2,q3,q4,q5,hb]
 exact⟨_,_,⟨rfl,rfl⟩,by simp[look,q2],_,rfl⟩
theorem Dh (R:List IV) (s:List UInt8) (m:IM):∃e',lc tab ae ki jO (some (S57 R s 9 m))=some (.exit 0,{ env:=e',lk:=[],lb:=(S57 R s 9 m).lb,m:=m })∧look e' 2=some (.pL 0 0,.any):=by
 rw[cM]
 simp[jO,S57,go_sem]
def eK (c:Nat):Option (Nat×Nat×Nat×Nat) :=
 if c≤127 then some (1,0,0,c)
 else if c<194 then none
 else if c≤223 then some (2,128,191,c%32)
 else if c=224 then some (3,160,191,c%16)
 else if c≤236 then some (3,128,191,c%16)
 else if c=237 then some (3,128,159,c%16)
 else if c≤239 then some (3,128,191,c%16)
 else if c=240 then some (4,144,191,c%8)
 else if c≤243 then some (4,128,191,c%8)
 else if c=244 then some (4,128,143,c%8)
 else none
def ak (s:List UInt8):Nat×Bool×Nat :=
 match s with
 |[]=>(0,false,0)
 |c::t=>match eK c.toNat with
  |none=>(0,false,0)
  |some (sz,lo,hi,p)=>let r:=fM (c::t) sz lo hi p;(r.1,decide (r.1=sz),r.2)
def gb (r:Nat×Bool×Nat):IV:=.agg [.int .i64 r.1,.bool r.2.1,.int .i64 r.2.2]
set_option maxRecDepth 10000 in
theorem andM (b:UInt8):fa .and .u8 (b.toNat:Int) 31=some (.int .u8 ((b.toNat%32:Nat):Int))∧fa .and .u8 (b.toNat:Int) 15=some (.int .u8 ((b.toNat%16:Nat):Int))∧fa .and .u8 (b.toNat:Int) 7=some (.int .u8 ((b.toNat%8:Nat):Int)):=by
 have h1:∀n:Nat,n<256→IntKind.u8.wrap ((BitVec.ofInt 8 (n:Int) &&& BitVec.ofInt 8 31).toNat:Int)=((n%32:Nat):Int):=by decide
 have h2:∀n:Nat,n<256→IntKind.u8.wrap ((BitVec.ofInt 8 (n:Int) &&& BitVec.ofInt 8 15).toNat:Int)=((n%16:Nat):Int):=by decide
 have h3:∀n:Nat,n<256→IntKind.u8.wrap ((BitVec.ofInt 8 (n:Int) &&& BitVec.ofInt 8 7).toNat:Int)=((n%8:Nat):Int):=by decide
 have hb:=b.toNat_lt
 refine⟨?_,?_,?_⟩
 ·show some (IV.int .u8 (IntKind.u8.wrap ((BitVec.ofInt 8 (b.toNat:Int) &&& BitVec.ofInt 8 31).toNat:Int)))=_
  rw[h1 _ hb]
 ·show some (IV.int .u8 (IntKind.u8.wrap ((BitVec.ofInt 8 (b.toNat:Int) &&& BitVec.ofInt 8 15).toNat:Int)))=_
  rw[h2 _ hb]
 ·show some (IV.int .u8 (IntKind.u8.wrap ((BitVec.ofInt 8 (b.toNat:Int) &&& BitVec.ofInt 8 7).toNat:Int)))=_
  rw[h3 _ hb]
theorem f208:tab.fns 208=some i208:=by rfl
theorem p208:ae 208=none:=by rfl
theorem f209:tab.fns 209=some i209:=by rfl
theorem p209:ae 209=none:=by rfl
theorem f210:tab.fns 210=some i210:=by rfl
theorem p210:ae 210=none:=by rfl
theorem f211:tab.fns 211=some i211:=by rfl
theorem p211:ae 211=none:=by rfl
theorem DE (b:UInt8) (m:IM):cw (.f 208) [.int .u8 (b.toNat:Int)] m=some (.int .i64 (b.toNat:Int),m):=by
 unfold cw;rw[bf p208 f208]
 have hb:=b.toNat_lt
 simp (disch:=omega) [i208,go_sem,w64]
theorem DM (b:UInt8) (m:IM):cw (.f 209) [.int .u8 (b.toNat:Int)] m=some (.int .i64 ((b.toNat%32:Nat):Int),m):=by
 unfold cw;rw[bf p209 f209]
 have hw:IntKind.i64.wrap ((b.toNat%32:Nat):Int)=((b.toNat%32:Nat):Int):=w64 (by omega) (by omega)
 simp[-Int.natCast_emod,i209,go_sem,(andM b).1,hw]
theorem oZ (b:UInt8) (m:IM):cw (.f 210) [.int .u8 (b.toNat:Int)] m=some (.int .i64 ((b.toNat%16:Nat):Int),m):=by
 unfold cw;rw[bf p210 f210]
 have hw:IntKind.i64.wrap ((b.toNat%16:Nat):Int)=((b.toNat%16:Nat):Int):=w64 (by omega) (by omega)
 simp[-Int.natCast_emod,i210,go_sem,(andM b).2.1,hw]
theorem tB (b:UInt8) (m:IM):cw (.f 211) [.int .u8 (b.toNat:Int)] m=some (.int .i64 ((b.toNat%8:Nat):Int),m):=by
 unfold cw;rw[bf p211 f211]
 have hw:IntKind.i64.wrap ((b.toNat%8:Nat):Int)=((b.toNat%8:Nat):Int):=w64 (by omega) (by omega)
 simp[-Int.natCast_emod,i211,go_sem,(andM b).2.2,hw]
end Go.Idl
namespace Go.Idl
attribute [local go_sem] oA gA vA wA nA fA dA eA oV oW oN oD oF IFn.call ICode.run aD IOp.run IOp.run0 gate IK.ok aG cE OTag.hits IK.run Arg.rd look au rdAll POp.ev dp fc fw fe fD fx fu fI ft fq fH fj bX fE fb bj St.put lkSlot lkL lkB lkC an aV IK.link bh bM St.drop St.capAt St.owner linkOf bV bb bI IV.refsDeep IV.refsDeep.go IV.refs IV.refs.go al IV.plain bN aq cH aT IV.cells IV.isU IV.isL cz cD over dn cut eqS aH bnd dN dW cX du dt bS aa aF dV dK aJ aC dy cy aK uqB aS St.head cN cQ bK cS
def Found (c:UInt8) (t:List UInt8) (k:Nat) (m:IM) (r:Nat×Bool×Nat):Prop :=
 ∃e' lb',lc tab ae ki jO (some (S57 kS (c::t) k m))=some (.ret,{ env:=e',lk:=[],lb:=lb',m:=m })∧look e' 2=some (.pL 0 0,.any) ∧
   ∃cp,au lb' 0=.cells [.int .i64 r.1,.bool r.2.1,.int .i64 r.2.2] cp
def Db (c:UInt8) (t:List UInt8) (k:Nat) (m:IM):Prop :=
 ∃e',lc tab ae ki jO (some (S57 kS (c::t) k m))=some (.exit 0,{ env:=e',lk:=[],lb:=(S57 kS (c::t) 9 m).lb,m:=m })∧look e' 2=some (.pL 0 0,.any)
def Res (c:UInt8) (t:List UInt8) (k:Nat) (m:IM):Option (Nat×Nat×Nat×Nat)→Prop
 |none=>Db c t k m
 |some (sz,lo,hi,p)=>Found c t k m ((fM (c::t) sz lo hi p).1,decide ((fM (c::t) sz lo hi p).1=sz),(fM (c::t) sz lo hi p).2)
theorem dH {c:UInt8}{t:List UInt8}{k:Nat}{m:IM}{o:Option (Nat×Nat×Nat×Nat)}(fr to sz lo hi f:Nat) (hk:k<9) (hl:k*6+6≤kS.length)
  (hd:(kS.drop (k*6)).take 6=[.int .u8 fr,.int .u8 to,.int .i64 sz,.int .u8 lo,.int .u8 hi,.func f [] []]) (h:c.toNat<fr∨to<c.toNat) (hr:Res c t (k+1) m o):Res c t k m o:=by
 have e:=Gg kS c t k fr to sz lo hi f m hk hl hd h
 cases o with
 |none=>obtain⟨e',q1,q2⟩:=hr;exact⟨e',e.trans q1,q2⟩
 |some p =>
  obtain⟨sz,lo,hi,p⟩:=p
  obtain⟨e',lb',q1,q2⟩:=hr
  exact⟨e',lb',e.trans q1,q2⟩
theorem ir {c:UInt8}{t:List UInt8}{k:Nat}{m:IM}(fr to sz lo hi f p:Nat) (hk:k<9) (hl:k*6+6≤kS.length)
  (hd:(kS.drop (k*6)).take 6=[.int .u8 fr,.int .u8 to,.int .i64 sz,.int .u8 lo,.int .u8 hi,.func f [] []]) (h:fr≤c.toNat∧c.toNat≤to) (hz:1≤sz∧sz≤4) (hp:p<128)
  (hf:cw (.f f) [.int .u8 (c.toNat:Int)] m=some (.int .i64 (p:Int),m)):Res c t k m (some (sz,lo,hi,p)) :=
 Kx kS c t k fr to sz lo hi f p m hk hl hd (by omega) hz hp hf
theorem JA (c:UInt8) (t:List UInt8) (m:IM):Res c t 0 m (eK c.toNat):=by
 have hb:=c.toNat_lt
 unfold eK
 split
 ·exact ir 0 127 1 0 0 208 c.toNat (by decide) (by decide) rfl (by omega) (by omega) (by omega) (DE c m)
 refine dH 0 127 1 0 0 208 (by decide) (by decide) rfl (by omega) ?_
 split
 ·refine dH 194 223 2 128 191 209 (by decide) (by decide) rfl (by omega) ?_
  refine dH 224 224 3 160 191 210 (by decide) (by decide) rfl (by omega) ?_
  refine dH 225 236 3 128 191 210 (by decide) (by decide) rfl (by omega) ?_
  refine dH 237 237 3 128 159 210 (by decide) (by decide) rfl (by omega) ?_
  refine dH 238 239 3 128 191 210 (by decide) (by decide) rfl (by omega) ?_
  refine dH 240 240 4 144 191 211 (by decide) (by decide) rfl (by omega) ?_
  refine dH 241 243 4 128 191 211 (by decide) (by decide) rfl (by omega) ?_
  refine dH 244 244 4 128 143 211 (by decide) (by decide) rfl (by omega) ?_
  exact Dh kS (c::t) m
 split
 ·exact ir 194 223 2 128 191 209 (c.toNat%32) (by decide) (by decide) rfl (by omega) (by omega) (by omega) (DM c m)
 refine dH 194 223 2 128 191 209 (by decide) (by decide) rfl (by omega) ?_
 split
 ·exact ir 224 224 3 160 191 210 (c.toNat%16) (by decide) (by decide) rfl (by omega) (by omega) (by omega) (oZ c m)
 refine dH 224 224 3 160 191 210 (by decide) (by decide) rfl (by omega) ?_
 split
 ·exact ir 225 236 3 128 191 210 (c.toNat%16) (by decide) (by decide) rfl (by omega) (by omega) (by omega) (oZ c m)
 refine dH 225 236 3 128 191 210 (by decide) (by decide) rfl (by omega) ?_
 split
 ·exact ir 237 237 3 128 159 210 (c.toNat%16) (by decide) (by decide) rfl (by omega) (by omega) (by omega) (oZ c m)
 refine dH 237 237 3 128 159 210 (by decide) (by decide) rfl (by omega) ?_
 split
 ·exact ir 238 239 3 128 191 210 (c.toNat%16) (by decide) (by decide) rfl (by omega) (by omega) (by omega) (oZ c m)
 refine dH 238 239 3 128 191 210 (by decide) (by decide) rfl (by omega) ?_
 split
 ·exact ir 240 240 4 144 191 211 (c.toNat%8) (by decide) (by decide) rfl (by omega) (by omega) (by omega) (tB c m)
 refine dH 240 240 4 144 191 211 (by decide) (by decide) rfl (by omega) ?_
 split
 ·exact ir 241 243 4 128 191 211 (c.toNat%8) (by decide) (by decide) rfl (by omega) (by omega) (by omega) (tB c m)
 refine dH 241 243 4 128 191 211 (by decide) (by decide) rfl (by omega) ?_
 split
 ·exact ir 244 244 4 128 143 211 (c.toNat%8) (by decide) (by decide) rfl (by omega) (by omega) (by omega) (tB c m)
 refine dH 244 244 4 128 143 211 (by decide) (by decide) rfl (by omega) ?_
 exact Dh kS (c::t) m
theorem f57:tab.fns 57=some i57:=by rfl
theorem p57:ae 57=none:=by rfl
theorem CE (c:UInt8) (t:List UInt8) (m:IM):cw (.f 57) [.str (c::t)] m=some (gb (ak (c::t)),m):=by
 have h:=JA c t m
 unfold cw;rw[bf p57 f57]
 have hl:54≤kS.length:=by decide
 have ht:kS.take 54=kS:=rfl
 cases hc:eK c.toNat with
 |none =>
  rw[hc] at h
  obtain⟨e',q1,q2⟩:=h
  simp only[S57] at q1
  rw[show ((0:Nat):Int)=0 from rfl] at q1
  simp[i57,wt,p6,rI,go_sem,hl,ht,q1,q2,gb,ak,hc]
 |some p =>
  obtain⟨sz,lo,hi,p⟩:=p
  rw[hc] at h
  obtain⟨e',lb',q1,q2,cp,q3⟩:=h
  simp only[S57] at q1
  rw[show ((0:Nat):Int)=0 from rfl] at q1
  simp[i57,wt,p6,rI,go_sem,hl,ht,q1,q2,q3,gb,ak,hc]
end Go.Idl
namespace Go.Idl
attribute [local go_sem] oA gA vA wA nA fA dA eA oV oW oN oD oF IFn.call ICode.run aD IOp.run IOp.run0 gate IK.ok aG cE OTag.hits IK.run Arg.rd look au rdAll POp.ev dp fc fw fe fD fx fu fI ft fq fH fj bX fE fb bj St.put lkSlot lkL lkB lkC an aV IK.link bh bM St.drop St.capAt St.owner linkOf bV bb bI IV.refsDeep IV.refsDeep.go IV.refs IV.refs.go al IV.plain bN aq cH aT IV.cells IV.isU IV.isL cz cD over dn cut eqS aH bnd dN dW cX du dt bS aa aF dV dK aJ aC dy cy aK uqB aS St.head cN cQ bK cS
def tk (m m':IM):IM:=⟨m'.bs.take m.size,m'.esc⟩
theorem sH (a b:List BObj) (e e':Nat):tk ⟨a,e⟩ ⟨b,e'⟩=⟨b.take a.length,e'⟩:=rfl
def yA (m m':IM) (v:IV):Option (IV×IM):=settle m m' v
theorem iX {m m':IM}{v:IV}:settle m m' v=if v.refsDeep=some 0∧m'.esc=m.esc then some (v,tk m m') else yA m m' v:=by
 split
 ·rename_i h
  unfold settle
  simp[h.1,h.2,an,tk]
 ·rfl
theorem f38:tab.fns 38=some i38:=by rfl
theorem p38:ae 38=none:=by rfl
theorem I5 (s:List UInt8) (a b:BObj):cw (.f 38) [.str s] ⟨[a,b],0⟩=some (.func 67 [] [.pB 2 0],⟨[a,b,.cells [.str s] [.any]],0⟩):=by
 unfold cw;rw[bf p38 f38]
 simp[i38,go_sem,iX,yA,settle,IM.push,IM.size,vL,frz]
def lz:Nat→List UInt8→Nat→Option Nat
 |0,_,_=>none
 |_+1,[],_=>none
 |k+1,c::t,at_=>if (ak (c::t)).2.1 then lz k ((c::t).drop (max (ak (c::t)).1 1)) (at_+max (ak (c::t)).1 1) else some at_
theorem B2 (s:List UInt8) (lo hi:Nat):∀k n p,(inn s lo hi k n p).1≤n+k
 |0,n,p=>Nat.le_refl _
 |k+1,n,p=>by
  rw[inn]
  cases h:s[n]? with
  |none=>exact Nat.le_add_right _ _
  |some b =>
   simp only
   by_cases hc:b.toNat<(if n=1 then lo else 128)∨(if n=1 then hi else 191)<b.toNat
   ·rw[if_pos hc];exact Nat.le_add_right _ _
   ·rw[if_neg hc]
    have:=B2 s lo hi k (n+1) (p*64+b.toNat%64);omega
theorem AM {c sz lo hi p:Nat}(h:eK c=some (sz,lo,hi,p)):1≤sz∧sz≤4:=by
 unfold eK at h
 repeat' (split at h)
 all_goals (first | (cases h;done) | (cases h;exact⟨by decide,by decide⟩))
theorem kM (s:List UInt8):(ak s).1≤4:=by
 unfold ak
 split
 ·exact Nat.zero_le _
 ·split
  ·exact Nat.zero_le _
  ·rename_i c t _ sz lo hi p h
   have h1:=AM h
   have:=B2 (c::t) lo hi (sz-1) 1 p
   simp only[fM]
   omega
theorem sU:rJ.keep=[(0,0),(1,0),(3,0)]:=rfl
theorem nE:rJ.keepL=[]:=rfl
theorem nR:rJ.ownL=[]:=rfl
end Go.Idl
namespace Go.Idl
attribute [local go_sem] oA gA vA wA nA fA dA eA oV oW oN oD oF IFn.call ICode.run aD IOp.run IOp.run0 gate IK.ok aG cE OTag.hits IK.run Arg.rd look au rdAll POp.ev dp fc fw fe fD fx fu fI ft fq fH fj bX fE fb bj St.put lkSlot lkL lkB lkC an aV IK.link bh bM St.drop St.capAt St.owner linkOf bV bb bI IV.refsDeep IV.refsDeep.go IV.refs IV.refs.go al IV.plain bN aq cH aT IV.cells IV.isU IV.isL cz cD over dn cut eqS aH bnd dN dW cX du dt bS aa aF dV dK aJ aC dy cy aK uqB aS St.head cN cQ bK cS
theorem f67:tab.fns 67=some i67:=by rfl
theorem p67:ae 67=none:=by rfl
theorem f31:tab.fns 31=some i31:=by rfl
theorem p31:ae 31=none:=by rfl
end Go.Idl
namespace Go.Idl
attribute [local go_sem] oA gA vA wA nA fA dA eA oV oW oN oD oF IFn.call ICode.run aD IOp.run IOp.run0 gate IK.ok aG cE OTag.hits IK.run Arg.rd look au rdAll POp.ev dp fc fw fe fD fx fu fI ft fq fH fj bX fE fb bj St.put lkSlot lkL lkB lkC an aV IK.link bh bM St.drop St.capAt St.owner linkOf bV bb bI IV.refsDeep IV.refsDeep.go IV.refs IV.refs.go al IV.plain bN aq cH aT IV.cells IV.isU IV.isL cz cD over dn cut eqS aH bnd dN dW cX du dt bS aa aF dV dK aJ aC dy cy aK uqB aS St.head cN cQ bK cS
def cA (c:Nat):Nat:=if c<128 then 1 else if 194≤c∧c<224 then 2 else if 224≤c∧c<240 then 3 else if 240≤c∧c<245 then 4 else 0
def dcr (s:List UInt8):Nat→Nat→Nat→Option Nat
 |0,_,p=>some p
 |k+1,i,p=>match s[i]? with
  |none=>none
  |some b=>if b.toNat<128∨191<b.toNat then none else dcr s k (i+1) (64*p+b.toNat-128)
end Go.Idl
namespace Go.Idl
attribute [local go_sem] oA gA vA wA nA fA dA eA oV oW oN oD oF IFn.call ICode.run aD IOp.run IOp.run0 gate IK.ok aG cE OTag.hits IK.run Arg.rd look au rdAll POp.ev dp fc fw fe fD fx fu fI ft fq fH fj bX fE fb bj St.put lkSlot lkL lkB lkC an aV IK.link bh bM St.drop St.capAt St.owner linkOf bV bb bI IV.refsDeep IV.refsDeep.go IV.refs IV.refs.go al IV.plain bN aq cH aT IV.cells IV.isU IV.isL cz cD over dn cut eqS aH bnd dN dW cX du dt bS aa aF dV dK aJ aC dy cy aK uqB aS St.head cN cQ bK cS
def dS (s:List UInt8):Nat×Nat :=
 match s with
 |[]=>(0,0)
 |c::t =>
  let n:=cA c.toNat
  if n=0∨(c::t).length<n then (0,0) else
  match dcr (c::t) (n-1) 1 (if 1<n then c.toNat%(256/2^(n+1)) else c.toNat) with
  |none=>(0,0)
  |some p=>if bg p=true∧jb p=(c::t).take n then (p,n) else (0,0)
end Go.Idl
namespace Go.Idl
attribute [local go_sem] oA gA vA wA nA fA dA eA oV oW oN oD oF IFn.call ICode.run aD IOp.run IOp.run0 gate IK.ok aG cE OTag.hits IK.run Arg.rd look au rdAll POp.ev dp fc fw fe fD fx fu fI ft fq fH fj bX fE fb bj St.put lkSlot lkL lkB lkC an aV IK.link bh bM St.drop St.capAt St.owner linkOf bV bb bI IV.refsDeep IV.refsDeep.go IV.refs IV.refs.go al IV.plain bN aq cH aT IV.cells IV.isU IV.isL cz cD over dn cut eqS aH bnd dN dW cX du dt bS aa aF dV dK aJ aC dy cy aK uqB aS St.head cN cQ bK cS
end Go.Idl
namespace Go.Idl
attribute [local go_sem] oA gA vA wA nA fA dA eA oV oW oN oD oF IFn.call ICode.run aD IOp.run IOp.run0 gate IK.ok aG cE OTag.hits IK.run Arg.rd look au rdAll POp.ev dp fc fw fe fD fx fu fI ft fq fH fj bX fE fb bj St.put lkSlot lkL lkB lkC an aV IK.link bh bM St.drop St.capAt St.owner linkOf bV bb bI IV.refsDeep IV.refsDeep.go IV.refs IV.refs.go al IV.plain bN aq cH aT IV.cells IV.isU IV.isL cz cD over dn cut eqS aH bnd dN dW cX du dt bS aa aF dV dK aJ aC dy cy aK uqB aS St.head cN cQ bK cS
end Go.Idl
namespace Go.Idl
attribute [local go_sem] oA gA vA wA nA fA dA eA oV oW oN oD oF IFn.call ICode.run aD IOp.run IOp.run0 gate IK.ok aG cE OTag.hits IK.run Arg.rd look au rdAll POp.ev dp fc fw fe fD fx fu fI ft fq fH fj bX fE fb bj St.put lkSlot lkL lkB lkC an aV IK.link bh bM St.drop St.capAt St.owner linkOf bV bb bI IV.refsDeep IV.refsDeep.go IV.refs IV.refs.go al IV.plain bN aq cH aT IV.cells IV.isU IV.isL cz cD over dn cut eqS aH bnd dN dW cX du dt bS aa aF dV dK aJ aC dy cy aK uqB aS St.head cN cQ bK cS
theorem JT:Ea.keep=[(5,0),(6,0),(7,0)]:=rfl
theorem FI:Ea.keepL=[]:=rfl
theorem FY:Ea.ownL=[]:=rfl
theorem f9:tab.fns 9=some i9:=by rfl
theorem p9:ae 9=none:=by rfl
theorem Jv (s:List UInt8) (m:IM):cw (.f 9) [.sl [.str s] 1] m=some (.bool (decide (s.length≤1200)),m):=by
 unfold cw;rw[bf p9 f9]
 have e1:IntKind.i64.wrap 1=1:=by decide
 by_cases h:s.length≤1200
 ·have g:¬(1200:Int)<(s.length:Int):=by omega
  simp[i9,go_sem,cM,Gd,JT,FI,FY,g,h,e1]
 ·have g:(1200:Int)<(s.length:Int):=by omega
  simp[i9,go_sem,cM,Gd,JT,FI,FY,g,h,e1]
end Go.Idl
namespace Go.Idl
attribute [local go_sem] oA gA vA wA nA fA dA eA oV oW oN oD oF IFn.call ICode.run aD IOp.run IOp.run0 gate IK.ok aG cE OTag.hits IK.run Arg.rd look au rdAll POp.ev dp fc fw fe fD fx fu fI ft fq fH fj bX fE fb bj St.put lkSlot lkL lkB lkC an aV IK.link bh bM St.drop St.capAt St.owner linkOf bV bb bI IV.refsDeep IV.refsDeep.go IV.refs IV.refs.go al IV.plain bN aq cH aT IV.cells IV.isU IV.isL cz cD over dn cut eqS aH bnd dN dW cX du dt bS aa aF dV dK aJ aC dy cy aK uqB aS St.head cN cQ bK cS
def visit {σ:Type}(step:σ→Nat→Nat×Bool×Nat→Bool×σ):Nat→List UInt8→Nat→σ→Bool×σ
 |0,_,_,x=>(true,x)
 |_+1,[],_,x=>(true,x)
 |k+1,c::t,a,x=>if (step x a (ak (c::t))).1 then visit step k ((c::t).drop (max (ak (c::t)).1 1)) (a+max (ak (c::t)).1 1) (step x a (ak (c::t))).2 else (false,(step x a (ak (c::t))).2)
def zE (yid bid a:Nat) (m:IM):St where
 env:=[(0,.yld yid,.any),(1,.pB bid 0,.any),(3,.int .i64 a,.any)]
 lk:=[]
 lb:=[]
 m:=m
theorem KB {σ:Type}(s:List UInt8) (hs:s.length≤1099511627776) (yid bid:Nat) (Mg Ms:σ→IM) (step:σ→Nat→Nat×Bool×Nat→Bool×σ) (I:Nat→σ→Prop) (hget:∀x,(Mg x).get bid=.cells [.str s] [.any])
  (hI:∀a x,I a x→a<s.length→(step x a (ak (s.drop a))).1=true→I (a+max (ak (s.drop a)).1 1) (step x a (ak (s.drop a))).2)
  (hy:∀a x,I a x→a<s.length→cw (.y yid) [.int .i64 (a:Int),gb (ak (s.drop a))] (Mg x)=some (.bool (step x a (ak (s.drop a))).1,if (step x a (ak (s.drop a))).1=true then Mg (step x a (ak (s.drop a))).2 else Ms (step x a (ak (s.drop a))).2)) :
  ∀(k a:Nat) (x:σ),s.length-a<k→a≤1099511627780→I a x →
   ∃e' lb',lc tab ae rJ p5 (some (zE yid bid a (Mg x)))=match visit step k (s.drop a) a x with
    |(true,x')=>some (.exit 0,{ env:=e',lk:=[],lb:=lb',m:=Mg x' })
    |(false,x')=>some (.ret,{ env:=e',lk:=[],lb:=lb',m:=Ms x' }):=by
 intro k
 induction k with
 |zero=>intro a x h;omega
 |succ k ih =>
  intro a x hk hat hx
  rw[cM]
  have hg:=hget x
  by_cases hlt:a<s.length
  ·have c1:(a:Int)<(s.length:Int):=by omega
   have c2:(a:Int)≤(s.length:Int):=by omega
   have c3:(0:Int)≤(a:Int):=by omega
   have hI':=hI a x hx hlt
   have hy':=hy a x hx hlt
   cases hd:s.drop a with
   |nil=>have:=List.drop_eq_nil_iff.1 hd;omega
   |cons c t =>
    have htk:(s.drop a).take (s.length-a)=s.drop a:=List.take_of_length_le (by simp)
    have hb:=CE c t (Mg x)
    have hle:=kM (c::t)
    have hv0:visit step (k+1) (c::t) a x=if (step x a (ak (c::t))).1 then visit step k ((c::t).drop (max (ak (c::t)).1 1)) (a+max (ak (c::t)).1 1) (step x a (ak (c::t))).2 else (false,(step x a (ak (c::t))).2):=rfl
    rw[hv0]
    rw[←hd] at *
    unfold cw at hb hy'
    generalize hG:ak (List.drop a s)=G at *
    have hmax:(if ((G.1:Nat):Int)<1 then (1:Int) else ((G.1:Nat):Int))=((max G.1 1:Nat):Int):=by
     split<;>omega
    cases hw:(step x a G).1 with
    |true =>
     simp only[if_true]
     rw[List.drop_drop]
     obtain⟨e',lb',q⟩:=ih (a+max G.1 1) (step x a G).2 (by omega) (by omega) (hI' hw)
     refine⟨e',lb',?_⟩
     rw[←q]
     simp only[hw,if_true] at hy'
     have e1:IntKind.i64.wrap ((a:Int)+((max G.1 1:Nat):Int))=((a+max G.1 1:Nat):Int):=by rw[w64 (by omega) (by omega)];rfl
     simp only[zE,gb] at hb hy' ⊢
     generalize lc tab ae rJ p5=L
     generalize Mg (step x a G).2=M' at *
     generalize a+max G.1 1=j at *
     generalize max G.1 1=j' at *
     generalize Mg x=M at *
     simp[p5,sU,nE,nR,go_sem,hg,c1,c2,c3,htk,hb,hy',hmax,e1]
    |false =>
     simp only[hw,Bool.false_eq_true,if_false] at hy' ⊢
     simp only[zE,gb] at hb hy' ⊢
     generalize lc tab ae rJ p5=L
     generalize Ms (step x a G).2=M' at *
     generalize Mg x=M at *
     simp[p5,sU,nE,nR,go_sem,hg,c1,c2,c3,htk,hb,hy']
  ·have c1:¬(a:Int)<(s.length:Int):=by omega
   have hd:s.drop a=[]:=List.drop_eq_nil_iff.2 (by omega)
   rw[hd]
   have hv0:visit step (k+1) [] a x=(true,x):=rfl
   rw[hv0]
   simp only[zE]
   generalize Mg x=M at *
   simp[p5,sU,nE,nR,go_sem,hg,c1]
theorem f65:tab.fns 65=some i65:=by rfl
theorem p65:ae 65=none:=by rfl
theorem GW (b:Bool) (e:Int) (m:IM):cw (.f 65) [.bool b,.int .i64 e] m=some (.int .i64 (if b then e else 0),m):=by
 unfold cw;rw[bf p65 f65]
 cases b<;>simp[i65,go_sem]
theorem f66:tab.fns 66=some i66:=by rfl
theorem p66:ae 66=none:=by rfl
theorem yN:yz.keep=[(5,0),(6,0),(7,0)]:=rfl
theorem t7:yz.keepL=[]:=rfl
theorem uH:yz.ownL=[]:=rfl
theorem f58:tab.fns 58=some i58:=by rfl
theorem p58:ae 58=none:=by rfl
end Go.Idl
namespace Go.Idl
attribute [local go_sem] oA gA vA wA nA fA dA eA oV oW oN oD oF IFn.call ICode.run aD IOp.run IOp.run0 gate IK.ok aG cE OTag.hits IK.run Arg.rd look au rdAll POp.ev dp fc fw fe fD fx fu fI ft fq fH fj bX fE fb bj St.put lkSlot lkL lkB lkC an aV IK.link bh bM St.drop St.capAt St.owner linkOf bV bb bI IV.refsDeep IV.refsDeep.go IV.refs IV.refs.go al IV.plain bN aq cH aT IV.cells IV.isU IV.isL cz cD over dn cut eqS aH bnd dN dW cX du dt bS aa aF dV dK aJ aC dy cy aK uqB aS St.head cN cQ bK cS
theorem qV {σ:Type}(f:σ→Nat→Nat×Bool×Nat→σ):∀(k:Nat) (s:List UInt8) (a:Nat) (x:σ),(visit (fun x a r=>(true,f x a r)) k s a x).1=true
 |0,_,_,_=>rfl
 |_+1,[],_,_=>rfl
 |k+1,c::t,a,x=>by simp only[visit,if_true];exact qV f k _ _ _
end Go.Idl
namespace Go.Idl
theorem of_eq {n:Nat}{b:UInt8}(h:n=b.toNat):UInt8.ofNat n=b:=by subst h;simp
theorem KF (c:UInt8) (t:List UInt8) (h:c.toNat≤127):ak (c::t)=(1,true,c.toNat)∧dS (c::t)=(c.toNat,1):=by
 have hl:eK c.toNat=some (1,0,0,c.toNat):=by simp[eK,h]
 have hw:cA c.toNat=1:=by simp[cA];omega
 refine⟨by simp[ak,hl,fM,inn],?_⟩
 have hp:bg (c.toNat:Int)=true:=by simp[bg];omega
 have he:jb c.toNat=[c]:=by simp[jb,show c.toNat<128 by omega]
 simp[dS,hw,dcr,hp,he]
theorem LC (c:UInt8) (t:List UInt8) (h:194≤c.toNat∧c.toNat≤223):dS (c::t)=if (ak (c::t)).2.1 then ((ak (c::t)).2.2,(ak (c::t)).1) else (0,0):=by
 have hl:eK c.toNat=some (2,128,191,c.toNat%32):=by
  unfold eK
  rw[if_neg (by omega),if_neg (by omega),if_pos (by omega)]
 have hw:cA c.toNat=2:=by
  unfold cA
  rw[if_neg (by omega),if_pos (by omega)]
 cases t with
 |nil=>simp[dS,ak,hl,hw,fM,inn]
 |cons b t =>
  have hb:=b.toNat_lt
  by_cases h1:b.toNat<128∨191<b.toNat
  ·simp[dS,ak,hl,hw,fM,inn,dcr,h1]
  ·have e:64*(c.toNat%32)+b.toNat-128=c.toNat%32*64+b.toNat%64:=by omega
   have hp:bg ((c.toNat%32*64+b.toNat%64:Nat):Int)=true:=by simp[bg];omega
   have he:jb (c.toNat%32*64+b.toNat%64)=[c,b]:=by
    unfold jb
    rw[if_neg (by omega),if_pos (by omega),of_eq (b:=c) (by omega),of_eq (b:=b) (by omega)]
   simp only[dS,ak,hl,hw,fM,inn,dcr]
   simp[h1,e,hp,he,-Int.natCast_add,-Int.natCast_emod,-Int.natCast_mul]
theorem IJ (c:UInt8) (t:List UInt8) (lo hi:Nat) (hl:eK c.toNat=some (3,lo,hi,c.toNat%16)) (h:224≤c.toNat∧c.toNat≤239)
  (hx:(c.toNat=224∧lo=160∧hi=191)∨(c.toNat=237∧lo=128∧hi=159)∨(c.toNat≠224∧c.toNat≠237∧lo=128∧hi=191)) :
  dS (c::t)=if (ak (c::t)).2.1 then ((ak (c::t)).2.2,(ak (c::t)).1) else (0,0):=by
 have hw:cA c.toNat=3:=by
  unfold cA
  rw[if_neg (by omega),if_neg (by omega),if_pos (by omega)]
 cases t with
 |nil=>simp[dS,ak,hl,hw,fM,inn]
 |cons b t =>
  have hb:=b.toNat_lt
  cases t with
  |nil =>
   by_cases h1:b.toNat<lo∨hi<b.toNat
   ·simp[dS,ak,hl,hw,fM,inn,h1]
   ·simp[dS,ak,hl,hw,fM,inn,h1]
  |cons d t =>
   have hd:=d.toNat_lt
   by_cases h0:b.toNat<128∨191<b.toNat
   ·have h1:b.toNat<lo∨hi<b.toNat:=by omega
    simp[dS,ak,hl,hw,fM,inn,dcr,h0,h1]
   ·by_cases h2:d.toNat<128∨191<d.toNat
    ·by_cases h1:b.toNat<lo∨hi<b.toNat
     ·simp[dS,ak,hl,hw,fM,inn,dcr,h0,h1,h2]
     ·simp[dS,ak,hl,hw,fM,inn,dcr,h0,h1,h2]
    ·have e1:64*(c.toNat%16)+b.toNat-128=c.toNat%16*64+b.toNat%64:=by omega
     have e2:64*(c.toNat%16*64+b.toNat%64)+d.toNat-128=(c.toNat%16*64+b.toNat%64)*64+d.toNat%64:=by omega
     by_cases h1:b.toNat<lo∨hi<b.toNat
     ·have hn:¬(bg (((c.toNat%16*64+b.toNat%64)*64+d.toNat%64:Nat):Int)=true∧jb ((c.toNat%16*64+b.toNat%64)*64+d.toNat%64)=[c,b,d]):=by
       rintro ⟨q1,q2⟩
       simp only[bg,Bool.and_eq_true,Bool.or_eq_true,decide_eq_true_eq] at q1
       have:(c.toNat%16*64+b.toNat%64)*64+d.toNat%64<2048:=by omega
       have:=congrArg List.length q2
       unfold jb at this
       rw[if_pos (show (c.toNat%16*64+b.toNat%64)*64+d.toNat%64<2048 by omega)] at this
       split at this<;>simp at this
      simp only[dS,ak,hl,hw,fM,inn,dcr]
      simp[h0,h1,h2,e1,e2,-Int.natCast_add,-Int.natCast_emod,-Int.natCast_mul]
      exact if_neg hn
     ·have hp:bg (((c.toNat%16*64+b.toNat%64)*64+d.toNat%64:Nat):Int)=true:=by
       simp only[bg,Bool.and_eq_true,Bool.or_eq_true,decide_eq_true_eq];omega
      have he:jb ((c.toNat%16*64+b.toNat%64)*64+d.toNat%64)=[c,b,d]:=by
       unfold jb
       rw[if_neg (by omega),if_neg (by omega),if_pos (by omega),of_eq (b:=c) (by omega),of_eq (b:=b) (by omega),of_eq (b:=d) (by omega)]
      simp only[dS,ak,hl,hw,fM,inn,dcr]
      simp[h0,h1,h2,e1,e2,hp,he,-Int.natCast_add,-Int.natCast_emod,-Int.natCast_mul]
theorem H9 (c:UInt8) (t:List UInt8) (lo hi:Nat) (hl:eK c.toNat=some (4,lo,hi,c.toNat%8)) (h:240≤c.toNat∧c.toNat≤244)
  (hx:(c.toNat=240∧lo=144∧hi=191)∨(c.toNat=244∧lo=128∧hi=143)∨(c.toNat≠240∧c.toNat≠244∧lo=128∧hi=191)) :
  dS (c::t)=if (ak (c::t)).2.1 then ((ak (c::t)).2.2,(ak (c::t)).1) else (0,0):=by
 have hw:cA c.toNat=4:=by
  unfold cA
  rw[if_neg (by omega),if_neg (by omega),if_neg (by omega),if_pos (by omega)]
 cases t with
 |nil=>simp[dS,ak,hl,hw,fM,inn]
 |cons b t =>
  have hb:=b.toNat_lt
  cases t with
  |nil =>
   by_cases h1:b.toNat<lo∨hi<b.toNat
   ·simp[dS,ak,hl,hw,fM,inn,h1]
   ·simp[dS,ak,hl,hw,fM,inn,h1]
  |cons d t =>
   have hd:=d.toNat_lt
   cases t with
   |nil =>
    by_cases h1:b.toNat<lo∨hi<b.toNat
    ·simp[dS,ak,hl,hw,fM,inn,h1]
    ·by_cases h2:d.toNat<128∨191<d.toNat
     ·simp[dS,ak,hl,hw,fM,inn,h1,h2]
     ·simp[dS,ak,hl,hw,fM,inn,h1,h2]
   |cons f t =>
    have hf:=f.toNat_lt
    by_cases h0:b.toNat<128∨191<b.toNat
    ·have h1:b.toNat<lo∨hi<b.toNat:=by omega
     simp[dS,ak,hl,hw,fM,inn,dcr,h0,h1]
    ·by_cases h2:d.toNat<128∨191<d.toNat
     ·by_cases h1:b.toNat<lo∨hi<b.toNat
      ·simp[dS,ak,hl,hw,fM,inn,dcr,h0,h1,h2]
      ·simp[dS,ak,hl,hw,fM,inn,dcr,h0,h1,h2]
     ·by_cases h3:f.toNat<128∨191<f.toNat
      ·by_cases h1:b.toNat<lo∨hi<b.toNat
       ·simp[dS,ak,hl,hw,fM,inn,dcr,h0,h1,h2,h3]
       ·simp[dS,ak,hl,hw,fM,inn,dcr,h0,h1,h2,h3]
      ·have e1:64*(c.toNat%8)+b.toNat-128=c.toNat%8*64+b.toNat%64:=by omega
       have e2:64*(c.toNat%8*64+b.toNat%64)+d.toNat-128=(c.toNat%8*64+b.toNat%64)*64+d.toNat%64:=by omega
       have e3:64*((c.toNat%8*64+b.toNat%64)*64+d.toNat%64)+f.toNat-128=((c.toNat%8*64+b.toNat%64)*64+d.toNat%64)*64+f.toNat%64:=by omega
       by_cases h1:b.toNat<lo∨hi<b.toNat
       ·have hn:¬(bg ((((c.toNat%8*64+b.toNat%64)*64+d.toNat%64)*64+f.toNat%64:Nat):Int)=true∧jb (((c.toNat%8*64+b.toNat%64)*64+d.toNat%64)*64+f.toNat%64)=[c,b,d,f]):=by
         rintro ⟨q1,q2⟩
         simp only[bg,Bool.and_eq_true,Bool.or_eq_true,decide_eq_true_eq] at q1
         have:((c.toNat%8*64+b.toNat%64)*64+d.toNat%64)*64+f.toNat%64<65536:=by omega
         have:=congrArg List.length q2
         unfold jb at this
         rw[if_pos (show ((c.toNat%8*64+b.toNat%64)*64+d.toNat%64)*64+f.toNat%64<65536 by omega)] at this
         split at this
         ·simp at this
         ·split at this<;>simp at this
        simp only[dS,ak,hl,hw,fM,inn,dcr]
        simp[h0,h1,h2,h3,e1,e2,e3,-Int.natCast_add,-Int.natCast_emod,-Int.natCast_mul]
        exact if_neg hn
       ·have hp:bg ((((c.toNat%8*64+b.toNat%64)*64+d.toNat%64)*64+f.toNat%64:Nat):Int)=true:=by
         simp only[bg,Bool.and_eq_true,Bool.or_eq_true,decide_eq_true_eq];omega
        have he:jb (((c.toNat%8*64+b.toNat%64)*64+d.toNat%64)*64+f.toNat%64)=[c,b,d,f]:=by
         unfold jb
         rw[if_neg (by omega),if_neg (by omega),if_neg (by omega),of_eq (b:=c) (by omega),of_eq (b:=b) (by omega),of_eq (b:=d) (by omega),of_eq (b:=f) (by omega)]
        simp only[dS,ak,hl,hw,fM,inn,dcr]
        simp[h0,h1,h2,h3,e1,e2,e3,hp,he,-Int.natCast_add,-Int.natCast_emod,-Int.natCast_mul]
theorem se (c:UInt8) (t:List UInt8):dS (c::t)=if (ak (c::t)).2.1 then ((ak (c::t)).2.2,(ak (c::t)).1) else (0,0):=by
 have hc:=c.toNat_lt
 by_cases h1:c.toNat≤127
 ·obtain⟨a,b⟩:=KF c t h1
  rw[a,b];rfl
 by_cases h2:194≤c.toNat∧c.toNat≤223
 ·exact LC c t h2
 by_cases h3:224≤c.toNat∧c.toNat≤239
 ·by_cases q1:c.toNat=224
  ·exact IJ c t 160 191 (by simp[eK,q1]) h3 (by omega)
  ·by_cases q2:c.toNat=237
   ·exact IJ c t 128 159 (by simp[eK,q2]) h3 (by omega)
   ·refine IJ c t 128 191 ?_ h3 (by omega)
    unfold eK
    rw[if_neg (by omega),if_neg (by omega),if_neg (by omega),if_neg (by omega)]
    by_cases q3:c.toNat≤236
    ·rw[if_pos q3]
    ·rw[if_neg q3,if_neg q2,if_pos (by omega)]
 by_cases h4:240≤c.toNat∧c.toNat≤244
 ·by_cases q1:c.toNat=240
  ·exact H9 c t 144 191 (by simp[eK,q1]) h4 (by omega)
  ·by_cases q2:c.toNat=244
   ·exact H9 c t 128 143 (by simp[eK,q2]) h4 (by omega)
   ·refine H9 c t 128 191 ?_ h4 (by omega)
    unfold eK
    rw[if_neg (by omega),if_neg (by omega),if_neg (by omega),if_neg (by omega),if_neg (by omega),if_neg (by omega),if_neg (by omega),if_neg q1,if_pos (by omega)]
 ·have hl:eK c.toNat=none:=by
   unfold eK
   rw[if_neg (by omega)]
   by_cases q:c.toNat<194
   ·rw[if_pos q]
   ·rw[if_neg q,if_neg (by omega),if_neg (by omega),if_neg (by omega),if_neg (by omega),if_neg (by omega),if_neg (by omega),if_neg (by omega),if_neg (by omega)]
  have hw:cA c.toNat=0:=by
   unfold cA
   rw[if_neg (by omega),if_neg (by omega),if_neg (by omega),if_neg (by omega)]
  simp[dS,ak,hl,hw]
theorem Br (s:List UInt8) (lo hi:Nat):∀k n p,n≤(inn s lo hi k n p).1
 |0,n,p=>Nat.le_refl _
 |k+1,n,p=>by
  rw[inn]
  cases h:s[n]? with
  |none=>exact Nat.le_refl _
  |some b =>
   simp only
   by_cases hc:b.toNat<(if n=1 then lo else 128)∨(if n=1 then hi else 191)<b.toNat
   ·rw[if_pos hc];exact Nat.le_refl _
   ·rw[if_neg hc]
    have:=Br s lo hi k (n+1) (p*64+b.toNat%64);omega
theorem iB (s:List UInt8) (h:(ak s).2.1=true):1≤(ak s).1:=by
 unfold ak at h ⊢
 split
 ·simp at h
 ·rename_i c t
  simp only at h ⊢
  cases hl:eK c.toNat with
  |none=>rw[hl] at h;simp at h
  |some q =>
   obtain⟨sz,lo,hi,p⟩:=q
   simp only
   exact Br _ _ _ _ _ _
end Go.Idl
namespace Go.Idl
attribute [local go_sem] oA gA vA wA nA fA dA eA oV oW oN oD oF IFn.call ICode.run aD IOp.run IOp.run0 gate IK.ok aG cE OTag.hits IK.run Arg.rd look au rdAll POp.ev dp fc fw fe fD fx fu fI ft fq fH fj bX fE fb bj St.put lkSlot lkL lkB lkC an aV IK.link bh bM St.drop St.capAt St.owner linkOf bV bb bI IV.refsDeep IV.refsDeep.go IV.refs IV.refs.go al IV.plain bN aq cH aT IV.cells IV.isU IV.isL cz cD over dn cut eqS aH bnd dN dW cX du dt bS aa aF dV dK aJ aC dy cy aK uqB aS St.head cN cQ bK cS
theorem ER:∃m',cw (.f 10) [] ⟨[],0⟩=some (.bool true,m')∧m'=⟨[],0⟩:=by
 have h:=GG
 cases hq:(sem tab ae 400).call (.f 10) [] ⟨[],0⟩ with
 |none=>rw[hq] at h;simp[uf] at h
 |some r =>
  rw[hq] at h
  unfold uf at h
  split at h
  ·rename_i e
   cases e
   exact⟨_,gi.2 ⟨400,hq⟩,rfl⟩
  ·cases h
theorem A5:cw (.f 10) [] ⟨[],0⟩=some (.bool true,⟨[],0⟩):=by
 obtain⟨m',h,e⟩:=ER
 subst e
 exact h
end Go.Idl
namespace Go.Idl
attribute [local go_sem] oA gA vA wA nA fA dA eA oV oW oN oD oF IFn.call ICode.run aD IOp.run IOp.run0 gate IK.ok aG cE OTag.hits IK.run Arg.rd look au rdAll POp.ev dp fc fw fe fD fx fu fI ft fq fH fj bX fE fb bj St.put lkSlot lkL lkB lkC an aV IK.link bh bM St.drop St.capAt St.owner linkOf bV bb bI IV.refsDeep IV.refsDeep.go IV.refs IV.refs.go al IV.plain bN aq cH aT IV.cells IV.isU IV.isL cz cD over dn cut eqS aH bnd dN dW cX du dt bS aa aF dV dK aJ aC dy cy aK uqB aS St.head cN cQ bK cS
theorem yC (s:List UInt8) (lo hi:Nat):∀k n p,n≤s.length→(inn s lo hi k n p).1≤s.length
 |0,n,p,h=>h
 |k+1,n,p,h=>by
  rw[inn]
  cases hq:s[n]? with
  |none=>exact h
  |some b =>
   have hn:n<s.length:=(List.getElem?_eq_some_iff.1 hq).1
   simp only
   by_cases hc:b.toNat<(if n=1 then lo else 128)∨(if n=1 then hi else 191)<b.toNat
   ·rw[if_pos hc];exact h
   ·rw[if_neg hc]
    exact yC s lo hi k (n+1) _ hn
theorem ta (s:List UInt8):(ak s).1≤s.length:=by
 unfold ak
 split
 ·exact Nat.zero_le _
 ·split
  ·exact Nat.zero_le _
  ·exact yC _ _ _ _ _ _ (by simp)
def bsl:List UInt8→IV
 |[]=>.nilSlice
 |b::r=>.sl (aa (b::r)) (b::r).length
theorem bW (l:List UInt8):(aa l).length=l.length:=by
 induction l with
 |nil=>rfl
 |cons b r ih=>simp[aa,ih]
theorem cW (l:List UInt8):(aa l).all IV.plain=true:=by
 induction l with
 |nil=>rfl
 |cons b r ih=>simp[aa,ih,IV.plain,IV.refs]
theorem gw (a b:List UInt8):aa (a++b)=aa a++aa b:=by
 induction a with
 |nil=>rfl
 |cons x r ih=>simp[aa,ih]
theorem qd (l:List UInt8):aH (aa l)=some l:=by
 induction l with
 |nil=>rfl
 |cons b r ih=>simp[aa,aH,ih]
theorem ue (l:List UInt8):POp.ev .bytesStr [bsl l]=some (.str l):=by
 cases l with
 |nil=>rfl
 |cons b r =>
  have h1:=bW (b::r)
  have h2:=qd (b::r)
  simp only[bsl]
  generalize (b::r)=x at *
  simp[POp.ev,h1,h2]
theorem tW (l:List UInt8):POp.ev .lenSlice [bsl l]=some (.int .i64 (l.length:Int)):=by
 cases l<;>rfl
theorem ve (l:List UInt8):(bsl l).refs=some 0:=by cases l<;>rfl
theorem pY (a:List UInt8) (x:List UInt8) (hx:x≠[]):bsl (a++x)=.sl (aa a++aa x) (a.length+x.length):=by
 cases a with
 |nil =>
  cases x with
  |nil=>exact absurd rfl hx
  |cons b r=>simp[bsl,aa]
 |cons b r=>simp[bsl,gw,aa];omega
def gN (s:List UInt8) (r:Nat×Bool×Nat):List UInt8:=if r.2.1 then s.take r.1 else [239,191,189]
def fR (s:List UInt8) (acc:List UInt8) (a:Nat) (r:Nat×Bool×Nat):Bool×List UInt8:=(true,acc++gN (s.drop a) r)
def xX (s:List UInt8):Env:=[(11,.func 67 [] [.pB 2 0],.any),(10,.str s,.any),(4,.pB 1 0,.any),(9,.bool false,.any),(8,.int .i64 s.length,.any),(7,.str s,.any),(3,.int .i64 0,.any),(2,.str [],.any),(1,.pB 0 0,.any),(0,.str s,.any)]
def Rm (s:List UInt8) (acc:List UInt8):IM :=
 ⟨[.cells [.str s] [.any],.cells [bsl acc] [.own 1],.cells [.str s] [.any],.loop 0 11 0 (xX s) 0],0⟩
theorem y11 (s:List UInt8) (acc:List UInt8) (hb:acc.length≤100000) (a:Nat) (ha:a≤100000) (r:Nat×Bool×Nat) (h1:r.2.1=true→1≤r.1) (h2:a+r.1≤s.length) (h4:r.1≤4) :
  cw (.y 3) [.int .i64 (a:Int),gb r] (Rm s acc)=some (.bool true,Rm s (acc++gN (s.drop a) r)):=by
 unfold cw;rw[yP (fn:=11) (site:=0) (r:=sE) (bz:=0) (j:=0) (tm:=xX s) rfl rfl]
 unfold Rm
 have htm:look (xX s) 4=some (.pB 1 0,.any):=rfl
 have htm1:look (xX s) 1=some (.pB 0 0,.any):=rfl
 have h39:=HP 65533 (by decide) ⟨[.cells [.str s] [.any],.none,.cells [.str s] [.any],.loop 2 11 0 (xX s) 0],0⟩
 have hE:(Utf8.encode (65533:Nat)).data.toList=[239,191,189]:=by decide
 rw[hE] at h39
 unfold cw at h39
 rw[show ((65533:Nat):Int)=65533 from rfl] at h39
 obtain⟨sz,w,p⟩:=r
 simp only at h1 h2 h4
 generalize xX s=tm at *
 cases w with
 |false =>
  simp only[gN,Bool.false_eq_true,if_false]
  rw[pY acc _ (by simp)]
  cases acc with
  |nil =>
   have hm3:3≤ao:=by decide
   simp[hm3,bsl,aa,sE,IRnd.call,ia,gb,go_sem,IM.get,IM.put,iX,sH,lS,htm,htm1,h39]
  |cons b t =>
   have hb':(b::t).length+3≤ao:=by unfold ao;omega
   have hl:=bW (b::t)
   simp only[bsl]
   generalize (b::t)=X at *
   generalize aa X=R at *
   generalize X.length=n at *
   simp[aa,sE,IRnd.call,ia,gb,go_sem,IM.get,IM.put,iX,sH,lS,htm,htm1,h39,hb',hl]
 |true =>
  have h1':=h1 rfl
  simp only[gN,if_true]
  have hlt:((s.drop a).take sz).length=sz:=by rw[List.length_take,List.length_drop];omega
  have hne:(s.drop a).take sz≠[]:=by intro e;rw[e] at hlt;simp at hlt;omega
  rw[pY acc _ hne]
  have e1:IntKind.i64.wrap ((a:Int)+((sz:Nat):Int))=((a+sz:Nat):Int):=by rw[w64 (by omega) (by omega)];rfl
  have hsub:a+sz-a=sz:=by omega
  have c1:(a:Int)≤((a+sz:Nat):Int):=by omega
  have c2:((a+sz:Nat):Int)≤(s.length:Int):=by omega
  have c3:(0:Int)≤(a:Int):=by omega
  have c4:(0:Int)≤((a+sz:Nat):Int):=by omega
  have c5:(a:Int)≤(s.length:Int):=by omega
  have hP:=cW ((s.drop a).take sz)
  have hL:=bW ((s.drop a).take sz)
  rw[hlt] at hL
  have hz:sz≠0:=by omega
  generalize hj:a+sz=j at *
  generalize hT:(s.drop a).take sz=T at *
  have hT':(s.drop a).take (j-a)=T:=by rw[hsub];exact hT
  cases acc with
  |nil =>
   have hb':sz≤ao:=by unfold ao;omega
   simp[-Int.natCast_add,bsl,aa,sE,IRnd.call,ia,gb,go_sem,IM.get,IM.put,iX,sH,lS,htm,htm1,e1,c1,c2,c3,c4,c5,hT',hP,hL,hlt,hz,hb']
  |cons b t =>
   have hb':(b::t).length+sz≤ao:=by unfold ao;omega
   have hl:=bW (b::t)
   simp only[bsl]
   generalize (b::t)=X at *
   generalize aa X=R at *
   generalize X.length=n at *
   simp[-Int.natCast_add,sE,IRnd.call,ia,gb,go_sem,IM.get,IM.put,iX,sH,lS,htm,htm1,e1,c1,c2,c3,c4,c5,hT',hP,hL,hlt,hz,hb',hl]
end Go.Idl
namespace Go.Idl
attribute [local go_sem] oA gA vA wA nA fA dA eA oV oW oN oD oF IFn.call ICode.run aD IOp.run IOp.run0 gate IK.ok aG cE OTag.hits IK.run Arg.rd look au rdAll POp.ev dp fc fw fe fD fx fu fI ft fq fH fj bX fE fb bj St.put lkSlot lkL lkB lkC an aV IK.link bh bM St.drop St.capAt St.owner linkOf bV bb bI IV.refsDeep IV.refsDeep.go IV.refs IV.refs.go al IV.plain bN aq cH aT IV.cells IV.isU IV.isL cz cD over dn cut eqS aH bnd dN dW cX du dt bS aa aF dV dK aJ aC dy cy aK uqB aS St.head cN cQ bK cS
theorem pP (s:List UInt8) (r:Nat×Bool×Nat):(gN s r).length≤3*max r.1 1:=by
 unfold gN
 split
 ·rw[List.length_take];omega
 ·simp;omega
theorem yQ (s:List UInt8) (hs:s.length≤30000):cw (.f 67) [.yld 3,.pB 2 0] (Rm s [])=some (.tup [],Rm s (visit (fR s) (s.length+1) s 0 []).2)∧(visit (fR s) (s.length+1) s 0 []).2.length≤3*(s.length+4):=by
 have hlen:∀(k a:Nat) (acc:List UInt8),acc.length≤3*a→a≤s.length+3→(visit (fR s) k (s.drop a) a acc).2.length≤3*(s.length+4):=by
  intro k
  induction k with
  |zero=>intro a acc h1 h2;simp only[visit];omega
  |succ k ih =>
   intro a acc h1 h2
   cases hd:s.drop a with
   |nil=>simp only[visit];omega
   |cons c t =>
    have hlt:a<s.length:=by
     rcases Nat.lt_or_ge a s.length with q | q
     ·exact q
     ·rw[List.drop_eq_nil_iff.2 q] at hd;cases hd
    have hle:=kM (c::t)
    have hp:=pP (c::t) (ak (c::t))
    simp only[visit,fR,if_true]
    rw[←hd] at *
    rw[List.drop_drop]
    have:=ih (a+max (ak (s.drop a)).1 1) (acc++gN (s.drop a) (ak (s.drop a))) (by rw[List.length_append];omega) (by omega)
    exact this
 have hl:=hlen (s.length+1) 0 [] (by simp) (by omega)
 rw[List.drop_zero] at hl
 refine⟨?_,hl⟩
 unfold cw;rw[bf p67 f67]
 obtain⟨e',lb',q⟩:=KB s (by omega) 3 2 (fun acc=>Rm s acc) (fun acc=>Rm s acc) (fR s) (fun a acc=>acc.length≤3*a) (fun x=>rfl)
  (fun a x h1 h2 _=>by
   have hp:=pP (s.drop a) (ak (s.drop a))
   simp only[fR,List.length_append];omega)
  (fun a x h1 h2=>by
   have hb:=ta (s.drop a)
   rw[List.length_drop] at hb
   have:=y11 s x (by omega) a (by omega) (ak (s.drop a)) (iB _) (by omega) (kM _)
   simpa[fR] using this) (s.length+1) 0 [] (by omega) (by omega) (by simp)
 rw[List.drop_zero] at q
 have ht:(visit (fR s) (s.length+1) s 0 []).1=true:=qV (fun acc a r=>acc++gN (s.drop a) r) _ _ _ _
 generalize visit (fR s) (s.length+1) s 0 []=V at *
 obtain⟨V1,V2⟩:=V
 simp only at ht
 subst ht
 simp only[zE] at q
 rw[show ((0:Nat):Int)=0 from rfl] at q
 have htk:tk (Rm s []) (Rm s V2)=Rm s V2:=rfl
 have hesc:(Rm s V2).esc=(Rm s []).esc:=rfl
 generalize Rm s []=P0 at *
 generalize Rm s V2=P2 at *
 simp[i67,sU,nE,nR,go_sem,q,iX,htk,hesc]
theorem f11:tab.fns 11=some i11:=by rfl
theorem p11:ae 11=none:=by rfl
theorem HO (l:List UInt8):bsl l=.nilSlice∨∃row n,bsl l=.sl row n:=by
 cases l with
 |nil=>exact .inl rfl
 |cons x xs=>exact .inr ⟨_,_,rfl⟩
theorem Jb (s:List UInt8) (hs:s.length≤30000):cw (.f 11) [.str s] ⟨[],0⟩=some (.tup [.str (visit (fR s) (s.length+1) s 0 []).2,.int .i64 0],⟨[],0⟩):=by
 unfold cw;rw[bf p11 f11]
 have h1:=I5 s (.cells [.str s] [.any]) (.cells [.nilSlice] [.own 1])
 obtain⟨h2,hl⟩:=yQ s hs
 unfold cw at h1 h2
 have g1:¬(100000:Int)<(s.length:Int):=by omega
 simp only[Rm,xX] at h2
 rw[show bsl []=.nilSlice from rfl] at h2
 generalize (visit (fR s) (s.length+1) s 0 []).2=V at *
 have g2:¬(100000:Int)<(V.length:Int):=by omega
 have e1:=ue V
 have e2:=tW V
 rcases HO V with e | ⟨row,n,e⟩
 ·simp only[e] at h2 e1 e2
  simp only[POp.ev,Option.some.injEq,IV.str.injEq,IV.int.injEq] at e1 e2
  simp[i11,go_sem,g1,g2,h1,h2,iX,sH,IM.push,IM.size,IM.get,IM.put,noL,←e1]
 ·simp only[e] at h2 e1 e2
  simp only[POp.ev] at e1 e2
  have e3:n=V.length:=by
   simp only[Option.some.injEq,IV.int.injEq,true_and] at e2;omega
  have e4:row.length=n:=by
   by_cases q:row.length=n
   ·exact q
   ·rw[if_neg q] at e1;cases e1
  rw[if_pos e4] at e1
  subst e3
  simp[i11,go_sem,g1,g2,h1,h2,iX,sH,IM.push,IM.size,IM.get,IM.put,noL,e1,e4]
end Go.Idl
namespace Go.Idl
attribute [local go_sem] oA gA vA wA nA fA dA eA oV oW oN oD oF IFn.call ICode.run aD IOp.run IOp.run0 gate IK.ok aG cE OTag.hits IK.run Arg.rd look au rdAll POp.ev dp fc fw fe fD fx fu fI ft fq fH fj bX fE fb bj St.put lkSlot lkL lkB lkC an aV IK.link bh bM St.drop St.capAt St.owner linkOf bV bb bI IV.refsDeep IV.refsDeep.go IV.refs IV.refs.go al IV.plain bN aq cH aT IV.cells IV.isU IV.isL cz cD over dn cut eqS aH bnd dN dW cX du dt bS aa aF dV dK aJ aC dy cy aK uqB aS St.head cN cQ bK cS
end Go.Idl
namespace Go.Idl
attribute [local go_sem] oA gA vA wA nA fA dA eA oV oW oN oD oF IFn.call ICode.run aD IOp.run IOp.run0 gate IK.ok aG cE OTag.hits IK.run Arg.rd look au rdAll POp.ev dp fc fw fe fD fx fu fI ft fq fH fj bX fE fb bj St.put lkSlot lkL lkB lkC an aV IK.link bh bM St.drop St.capAt St.owner linkOf bV bb bI IV.refsDeep IV.refsDeep.go IV.refs IV.refs.go al IV.plain bN aq cH aT IV.cells IV.isU IV.isL cz cD over dn cut eqS aH bnd dN dW cX du dt bS aa aF dV dK aJ aC dy cy aK uqB aS St.head cN cQ bK cS
end Go.Idl
namespace Go.Idl
end Go.Idl
namespace Go.Idl
attribute [local go_sem] oA gA vA wA nA fA dA eA oV oW oN oD oF IFn.call ICode.run aD IOp.run IOp.run0 gate IK.ok aG cE OTag.hits IK.run Arg.rd look au rdAll POp.ev dp fc fw fe fD fx fu fI ft fq fH fj bX fE fb bj St.put lkSlot lkL lkB lkC an aV IK.link bh bM St.drop St.capAt St.owner linkOf bV bb bI IV.refsDeep IV.refsDeep.go IV.refs IV.refs.go al IV.plain bN aq cH aT IV.cells IV.isU IV.isL cz cD over dn cut eqS aH bnd dN dW cX du dt bS aa aF dV dK aJ aC dy cy aK uqB aS St.head cN cQ bK cS
end Go.Idl
namespace Go.Idl
attribute [local go_sem] oA gA vA wA nA fA dA eA oV oW oN oD oF IFn.call ICode.run aD IOp.run IOp.run0 gate IK.ok aG cE OTag.hits IK.run Arg.rd look au rdAll POp.ev dp fc fw fe fD fx fu fI ft fq fH fj bX fE fb bj St.put lkSlot lkL lkB lkC an aV IK.link bh bM St.drop St.capAt St.owner linkOf bV bb bI IV.refsDeep IV.refsDeep.go IV.refs IV.refs.go al IV.plain bN aq cH aT IV.cells IV.isU IV.isL cz cD over dn cut eqS aH bnd dN dW cX du dt bS aa aF dV dK aJ aC dy cy aK uqB aS St.head cN cQ bK cS
end Go.Idl
namespace Go.Idl
attribute [local go_sem] oA gA vA wA nA fA dA eA oV oW oN oD oF IFn.call ICode.run aD IOp.run IOp.run0 gate IK.ok aG cE OTag.hits IK.run Arg.rd look au rdAll POp.ev dp fc fw fe fD fx fu fI ft fq fH fj bX fE fb bj St.put lkSlot lkL lkB lkC an aV IK.link bh bM St.drop St.capAt St.owner linkOf bV bb bI IV.refsDeep IV.refsDeep.go IV.refs IV.refs.go al IV.plain bN aq cH aT IV.cells IV.isU IV.isL cz cD over dn cut eqS aH bnd dN dW cX du dt bS aa aF dV dK aJ aC dy cy aK uqB aS St.head cN cQ bK cS
noncomputable abbrev db (c:ICode) (st:St):Option (Ex×St):=c.run (dM tab ae) (eT tab ae) st
theorem run_seq {a b:ICode}{st st':St}(h:db a st=some (.normal,st')):db (.seq a b) st=db b st':=by
 show ICode.run _ _ (.seq a b) st=_
 rw[ICode.run]
 have h':a.run (dM tab ae) (eT tab ae) st=some (.normal,st'):=h
 rw[h']
theorem wv {a b:ICode}{st st':St}(h:db a st=some (.ret,st')):db (.seq a b) st=some (.ret,st'):=by
 show ICode.run _ _ (.seq a b) st=_
 rw[ICode.run]
 have h':a.run (dM tab ae) (eT tab ae) st=some (.ret,st'):=h
 rw[h']
def cL:ICode→ICode
 |.seq a _=>a
 |c=>c
def cR:ICode→ICode
 |.seq _ b=>b
 |c=>c
def st0 (e:Env) (m:IM):St:={ env:=e,lk:=[],lb:=[],m:=m }
theorem f122:tab.fns 122=some i122:=by rfl
theorem p122:ae 122=none:=by rfl
theorem zN (t:List UInt8) (c:UInt8) (m:IM):cw (.f 122) [.str t,.str [c]] m=some (.bool (t.head?==some c),m):=by
 unfold cw;rw[bf p122 f122]
 cases t with
 |nil=>simp[i122,go_sem]
 |cons x t =>
  have g1:(1:Int)≤((t.length+1:Nat):Int):=by omega
  by_cases h:x=c
  ·subst h;simp[-Int.natCast_add,i122,go_sem,g1]
  ·have h':(x==c)=false:=by simpa using h
   simp[-Int.natCast_add,i122,go_sem,g1,h,h']
theorem f99:tab.fns 99=some i99:=by rfl
theorem p99:ae 99=none:=by rfl
theorem u4 (t:List UInt8) (c:UInt8) (m:IM):cw (.f 99) [.str t,.str [c]] m=some (.bool (t.head?==some c),m):=by
 unfold cw;rw[bf p99 f99]
 have h:=zN t c m
 unfold cw at h
 simp[i99,go_sem,h]
def fQ (c:UInt8):Bool:=decide (48≤c.toNat)&&decide (c.toNat≤57)
def dgB (s:List UInt8):Nat→Nat→Nat
 |0,a=>a
 |k+1,a=>match s[a]? with
  |some c=>if fQ c then dgB s k (a+1) else a
  |none=>a
theorem Bp (s:List UInt8):∀k a,a≤dgB s k a
 |0,a=>Nat.le_refl _
 |k+1,a=>by
  rw[dgB]
  cases h:s[a]? with
  |none=>exact Nat.le_refl _
  |some c =>
   simp only
   by_cases hc:fQ c=true
   ·rw[if_pos hc];have:=Bp s k (a+1);omega
   ·rw[if_neg hc];exact Nat.le_refl _
theorem uJ (s:List UInt8):∀k a,a≤s.length→dgB s k a≤s.length
 |0,a,ha=>ha
 |k+1,a,ha=>by
  rw[dgB]
  cases h:s[a]? with
  |none=>exact ha
  |some c =>
   have hn:a<s.length:=(List.getElem?_eq_some_iff.1 h).1
   simp only
   by_cases hc:fQ c=true
   ·rw[if_pos hc];exact uJ s k (a+1) hn
   ·rw[if_neg hc];exact ha
theorem F4 {s:List UInt8}{k a:Nat}(h:dgB s k a≠a):∃c,s[a]?=some c:=by
 cases k with
 |zero=>exact absurd rfl h
 |succ k =>
  rw[dgB] at h
  cases hs:s[a]? with
  |none=>rw[hs] at h;exact absurd rfl h
  |some c=>exact⟨c,rfl⟩
theorem f100:tab.fns 100=some i100:=by rfl
theorem p100:ae 100=none:=by rfl
theorem tV:lB.keep=[(0,0),(1,0)]:=rfl
theorem ph:lB.keepL=[]:=rfl
theorem oS:lB.ownL=[]:=rfl
def w5 (s:List UInt8) (a:Nat) (m:IM):St:=st0 [(0,.str s,.any),(1,.int .i64 a,.any)] m
theorem KK (s:List UInt8) (hs:s.length≤1099511627776) (m:IM):∀(k a:Nat),s.length-a<k→a≤s.length+1 →
  ∃e',lc tab ae lB lI (some (w5 s a m))=some (.exit 0,st0 e' m)∧look e' 1=some (.int .i64 (dgB s k a:Nat),.any):=by
 intro k
 induction k with
 |zero=>intro a h;omega
 |succ k ih =>
  intro a hk ha
  have c3:(0:Int)≤(a:Int):=by omega
  cases hb:s[a]? with
  |none =>
   have hge:=List.getElem?_eq_none_iff.1 hb
   have hd:dgB s (k+1) a=a:=by rw[dgB,hb]
   have c1:¬(a:Int)<(s.length:Int):=by omega
   rw[hd,cM]
   simp[lI,tV,ph,oS,w5,st0,go_sem,c1]
  |some c =>
   have hn:a<s.length:=(List.getElem?_eq_some_iff.1 hb).1
   have c1:(a:Int)<(s.length:Int):=by omega
   by_cases h1:48≤c.toNat<;>by_cases h2:c.toNat≤57
   ·have hd:dgB s (k+1) a=dgB s k (a+1):=by rw[dgB,hb];simp[fQ,h1,h2]
    have g1:(48:Int)≤(c.toNat:Int):=by omega
    have g2:(c.toNat:Int)≤57:=by omega
    have e5:IntKind.i64.wrap ((a:Int)+1)=((a+1:Nat):Int):=by rw[w64 (by omega) (by omega)];rfl
    rw[hd]
    have step:lc tab ae lB lI (some (w5 s a m))=lc tab ae lB lI (some (w5 s (a+1) m)):=by
     rw[cM]
     generalize a+1=j at *
     simp[lI,tV,ph,oS,w5,st0,go_sem,c1,c3,hb,g1,g2,e5]
    rw[step]
    exact ih (a+1) (by omega) (by omega)
   all_goals
    have hd:dgB s (k+1) a=a:=by rw[dgB,hb];simp[fQ,h1,h2]
    have g1:((48:Int)≤(c.toNat:Int))=(48≤c.toNat):=by simp;omega
    have g2:((c.toNat:Int)≤57)=(c.toNat≤57):=by simp;omega
    rw[hd,cM]
    simp[lI,tV,ph,oS,w5,st0,go_sem,c1,c3,hb,g1,g2,h1,h2]
theorem tM (s:List UInt8) (hs:s.length≤1099511627776) (a:Nat) (ha:a≤s.length+1) (m:IM):cw (.f 100) [.str s,.int .i64 (a:Int)] m=some (.int .i64 (dgB s (s.length+1) a:Nat),m):=by
 unfold cw;rw[bf p100 f100]
 obtain⟨e',q0,q1⟩:=KK s hs m (s.length+1) a (by omega) ha
 simp only[w5,st0] at q0
 simp[i100,tV,ph,oS,go_sem,q0,q1]
end Go.Idl
namespace Go.Idl
attribute [local go_sem] oA gA vA wA nA fA dA eA oV oW oN oD oF IFn.call ICode.run aD IOp.run IOp.run0 gate IK.ok aG cE OTag.hits IK.run Arg.rd look au rdAll POp.ev dp fc fw fe fD fx fu fI ft fq fH fj bX fE fb bj St.put lkSlot lkL lkB lkC an aV IK.link bh bM St.drop St.capAt St.owner linkOf bV bb bI IV.refsDeep IV.refsDeep.go IV.refs IV.refs.go al IV.plain bN aq cH aT IV.cells IV.isU IV.isL cz cD over dn cut eqS aH bnd dN dW cX du dt bS aa aF dV dK aJ aC dy cy aK uqB aS St.head cN cQ bK cS
def nm1 (s:List UInt8) (a:Nat):Nat:=if s[a]?=some 45 then a+1 else a
def nm2 (s:List UInt8) (a:Nat):Nat:=if s[a]?=some 48 then a+1 else dgB s (s.length+1) a
def nm3 (s:List UInt8) (a:Nat):Nat×Bool:=if s[a]?=some 46 then (dgB s (s.length+1) (a+1),decide (dgB s (s.length+1) (a+1)≠a+1)) else (a,true)
def nmB (s:List UInt8) (a:Nat):Nat:=if s[a]?=some 43∨s[a]?=some 45 then a+1 else a
def nm4 (s:List UInt8) (a:Nat):Nat×Bool:=if s[a]?=some 101∨s[a]?=some 69 then (dgB s (s.length+1) (nmB s (a+1)),decide (dgB s (s.length+1) (nmB s (a+1))≠nmB s (a+1))) else (a,true)
def eR (s:List UInt8) (a:Nat):Nat×Bool :=
 if dgB s (s.length+1) (nm1 s a)=nm1 s a then (nm1 s a,false)
 else if (nm3 s (nm2 s (nm1 s a))).2 then nm4 s (nm3 s (nm2 s (nm1 s a))).1 else nm3 s (nm2 s (nm1 s a))
theorem bL {s:List UInt8}{a:Nat}{c:UInt8}(h:s[a]?=some c):a<s.length:=(List.getElem?_eq_some_iff.1 h).1
theorem pF {s:List UInt8}{a:Nat}(h:a≤s.length):nm1 s a≤s.length:=by
 unfold nm1;split
 ·rename_i q;exact bL q
 ·exact h
theorem yi {s:List UInt8}{a:Nat}(h:a≤s.length):nmB s a≤s.length:=by
 unfold nmB;split
 ·rename_i q;rcases q with q | q<;>exact bL q
 ·exact h
theorem uG {s:List UInt8}{a:Nat}(h:a≤s.length):nm2 s a≤s.length:=by
 unfold nm2;split
 ·rename_i q;exact bL q
 ·exact uJ s _ a h
theorem tE {s:List UInt8}{a:Nat}(h:a≤s.length):(nm3 s a).1≤s.length:=by
 unfold nm3;split
 ·rename_i q;exact uJ s _ _ (bL q)
 ·exact h
theorem G8 {s:List UInt8}{a:Nat}(h:a≤s.length):(nm4 s a).1≤s.length:=by
 unfold nm4;split
 ·rename_i q
  have:a<s.length:=by rcases q with q | q<;>exact bL q
  exact uJ s _ _ (yi this)
 ·exact h
theorem gO (c:UInt8) (n:Nat) (hn:n<256):(((c.toNat:Nat):Int)==(n:Int))=(c==UInt8.ofNat n):=by
 by_cases h:c=UInt8.ofNat n
 ·subst h
  have:(UInt8.ofNat n).toNat=n:=by simp;omega
  rw[this];simp
 ·have h':(c==UInt8.ofNat n)=false:=by simpa using h
  rw[h']
  have:c.toNat≠n:=fun e=>h (by subst e;simp)
  simp;omega
def cT:ICode→ICode
 |.cond _ a _=>a
 |c=>c
theorem f74:tab.fns 74=some i74:=by rfl
theorem p74:ae 74=none:=by rfl
theorem Iw (e:Env) (s:List UInt8) (a:Nat) (m:IM) (hs:s.length≤1099511627776) (ha:a≤s.length) (h0:look e 0=some (.str s,.any)) (h1:look e 1=some (.int .i64 a,.any)) :
  ∃e',db (cL (cR i74.body)) (st0 e m)=some (.normal,st0 e' m)∧look e' 0=some (.str s,.any)∧look e' 1=some (.int .i64 (nm1 s a:Nat),.any):=by
 have c2:(a:Int)≤(s.length:Int):=by omega
 have c3:(0:Int)≤(a:Int):=by omega
 have htk:(s.drop a).take (s.length-a)=s.drop a:=List.take_of_length_le (by simp)
 have h99:=u4 (s.drop a) 45 m
 rw[List.head?_drop] at h99
 unfold cw at h99
 have e5:IntKind.i64.wrap ((a:Int)+1)=((a+1:Nat):Int):=by rw[w64 (by omega) (by omega)];rfl
 unfold nm1
 generalize a+1=j at *
 cases hb:s[a]? with
 |none =>
  have hge:=List.getElem?_eq_none_iff.1 hb
  have c1:¬(a:Int)<(s.length:Int):=by omega
  rw[hb] at h99
  simp[cL,cR,st0,i74,go_sem,h0,h1,c1,c2,c3,htk,h99,hb]
 |some c =>
  have c1:(a:Int)<(s.length:Int):=by have:=bL hb;omega
  have hq:=gO c 45 (by omega)
  rw[hb] at h99
  by_cases h:c=45
  ·subst h
   simp[cL,cR,st0,i74,go_sem,h0,h1,c1,c2,c3,htk,h99,hb,e5]
  ·have h':(c==UInt8.ofNat 45)=false:=by simpa using h
   rw[h',show ((45:Nat):Int)=45 from rfl] at hq
   have h'':¬(some c=some (45:UInt8)):=by simpa using h
   have hb1:(c==(45:UInt8))=false:=by simpa using h
   simp[cL,cR,st0,i74,go_sem,h0,h1,c1,c2,c3,htk,h99,hb,hq,h,h'',hb1]
theorem HK (e:Env) (s:List UInt8) (a:Nat) (m:IM) (hs:s.length≤1099511627776) (ha:a≤s.length) (h0:look e 0=some (.str s,.any)) (h1:look e 1=some (.int .i64 a,.any)) :
  ∃e',db (cL (cR (cR i74.body))) (st0 e m)=some (.normal,st0 e' m)∧look e' 0=some (.str s,.any)∧look e' 1=some (.int .i64 a,.any)∧look e' 6=some (.int .i64 (dgB s (s.length+1) a:Nat),.any):=by
 have hd:=tM s hs a (by omega) m
 unfold cw at hd
 simp[cL,cR,st0,i74,go_sem,h0,h1,hd]
theorem I3 (e:Env) (s:List UInt8) (a d:Nat) (m:IM) (h0:look e 0=some (.str s,.any)) (h1:look e 1=some (.int .i64 a,.any)) (h6:look e 6=some (.int .i64 d,.any)) :
  if d=a then ∃e',db (cL (cR (cR (cR i74.body)))) (st0 e m)=some (.ret,st0 e' m)∧look e' 4=some (.int .i64 a,.any)∧look e' 5=some (.bool false,.any)
  else ∃e',db (cL (cR (cR (cR i74.body)))) (st0 e m)=some (.normal,st0 e' m)∧look e' 0=some (.str s,.any)∧look e' 1=some (.int .i64 a,.any)∧look e' 6=some (.int .i64 d,.any):=by
 by_cases h:d=a
 ·subst h
  simp[cL,cR,st0,i74,go_sem,h0,h1,h6]
 ·have g:((d:Int)==(a:Int))=false:=by simp;omega
  rw[if_neg h]
  simp[cL,cR,st0,i74,go_sem,h0,h1,h6,g]
theorem Ha (e:Env) (s:List UInt8) (a d:Nat) (m:IM) (hs:s.length≤1099511627776) (c:UInt8) (hb:s[a]?=some c) (h0:look e 0=some (.str s,.any)) (h1:look e 1=some (.int .i64 a,.any)) (h6:look e 6=some (.int .i64 d,.any)) :
  ∃e',db (cL (cR (cR (cR (cR i74.body))))) (st0 e m)=some (.normal,st0 e' m)∧look e' 0=some (.str s,.any)∧look e' 6=some (.int .i64 (if c=48 then a+1 else d:Nat),.any):=by
 have c3:(0:Int)≤(a:Int):=by omega
 have hlt:=bL hb
 have e5:IntKind.i64.wrap ((a:Int)+1)=((a+1:Nat):Int):=by rw[w64 (by omega) (by omega)];rfl
 have hq:=gO c 48 (by omega)
 generalize a+1=j at *
 by_cases h:c=48
 ·subst h
  simp[cL,cR,st0,i74,go_sem,h0,h1,h6,c3,hb,e5]
 ·have h':(c==UInt8.ofNat 48)=false:=by simpa using h
  rw[h',show ((48:Nat):Int)=48 from rfl] at hq
  simp[cL,cR,st0,i74,go_sem,h0,h1,h6,c3,hb,hq,h]
theorem Iu (e:Env) (s:List UInt8) (d:Nat) (m:IM) (h0:look e 0=some (.str s,.any)) (h6:look e 6=some (.int .i64 d,.any)) :
  ∃e',db (cL (cR (cR (cR (cR (cR i74.body)))))) (st0 e m)=some (.normal,st0 e' m)∧look e' 0=some (.str s,.any)∧look e' 1=some (.int .i64 d,.any):=by
 simp[cL,cR,st0,i74,go_sem,h0,h6]
theorem Hm (e:Env) (s:List UInt8) (a:Nat) (m:IM) (hs:s.length≤1099511627776) (ha:a≤s.length) (h0:look e 0=some (.str s,.any)) (h1:look e 1=some (.int .i64 a,.any)) :
  if (nm3 s a).2=true then ∃e',db (cL (cR (cR (cR (cR (cR (cR i74.body))))))) (st0 e m)=some (.normal,st0 e' m)∧look e' 0=some (.str s,.any)∧look e' 1=some (.int .i64 ((nm3 s a).1:Nat),.any)
  else ∃e',db (cL (cR (cR (cR (cR (cR (cR i74.body))))))) (st0 e m)=some (.ret,st0 e' m)∧look e' 4=some (.int .i64 ((nm3 s a).1:Nat),.any)∧look e' 5=some (.bool false,.any):=by
 have c2:(a:Int)≤(s.length:Int):=by omega
 have c3:(0:Int)≤(a:Int):=by omega
 have htk:(s.drop a).take (s.length-a)=s.drop a:=List.take_of_length_le (by simp)
 have h99:=u4 (s.drop a) 46 m
 rw[List.head?_drop] at h99
 have hd:=tM s hs (a+1) (by omega) m
 unfold cw at h99 hd
 have e5:IntKind.i64.wrap ((a:Int)+1)=((a+1:Nat):Int):=by rw[w64 (by omega) (by omega)];rfl
 unfold nm3
 generalize dgB s (s.length+1) (a+1)=D at *
 generalize a+1=j at *
 cases hb:s[a]? with
 |none =>
  have hge:=List.getElem?_eq_none_iff.1 hb
  have c1:¬(a:Int)<(s.length:Int):=by omega
  rw[hb] at h99
  simp[cL,cR,st0,i74,go_sem,h0,h1,c1,c2,c3,htk,h99,hb]
 |some c =>
  have c1:(a:Int)<(s.length:Int):=by have:=bL hb;omega
  have hq:=gO c 46 (by omega)
  rw[hb] at h99
  by_cases h:c=46
  ·subst h
   by_cases hD:D=j
   ·subst hD
    simp[cL,cR,st0,i74,go_sem,h0,h1,c1,c2,c3,htk,h99,hb,e5,hd]
   ·have hD':((D:Int)==(j:Int))=false:=by simp;omega
    simp[cL,cR,st0,i74,go_sem,h0,h1,c1,c2,c3,htk,h99,hb,e5,hd,hD,hD']
  ·have h':(c==UInt8.ofNat 46)=false:=by simpa using h
   rw[h',show ((46:Nat):Int)=46 from rfl] at hq
   have h'':¬(some c=some (46:UInt8)):=by simpa using h
   have hb1:(c==(46:UInt8))=false:=by simpa using h
   simp[cL,cR,st0,i74,go_sem,h0,h1,c1,c2,c3,htk,h99,hb,hq,h,h'',hb1]
theorem DO (e:Env) (s:List UInt8) (a:Nat) (m:IM) (hs:s.length≤1099511627776) (ha:a≤s.length) (h0:look e 0=some (.str s,.any)) (h1:look e 1=some (.int .i64 a,.any)) :
  ∃e',db (cL (cR (cT (cR (cL (cR (cR (cR (cR (cR (cR (cR i74.body)))))))))))) (st0 e m)=some (.normal,st0 e' m)∧look e' 0=some (.str s,.any)∧look e' 1=some (.int .i64 (nmB s a:Nat),.any):=by
 have c3:(0:Int)≤(a:Int):=by omega
 have e5:IntKind.i64.wrap ((a:Int)+1)=((a+1:Nat):Int):=by rw[w64 (by omega) (by omega)];rfl
 unfold nmB
 generalize a+1=j at *
 cases hb:s[a]? with
 |none =>
  have hge:=List.getElem?_eq_none_iff.1 hb
  have c1:¬(a:Int)<(s.length:Int):=by omega
  simp[cL,cR,cT,st0,i74,go_sem,h0,h1,c1,hb]
 |some c =>
  have c1:(a:Int)<(s.length:Int):=by have:=bL hb;omega
  have hq:=gO c 43 (by omega)
  have hq2:=gO c 45 (by omega)
  by_cases h:c=43
  ·subst h
   simp[cL,cR,cT,st0,i74,go_sem,h0,h1,c1,c3,hb,e5]
  ·have h':(c==UInt8.ofNat 43)=false:=by simpa using h
   rw[h',show ((43:Nat):Int)=43 from rfl] at hq
   by_cases h2:c=45
   ·subst h2
    simp[cL,cR,cT,st0,i74,go_sem,h0,h1,c1,c3,hb,e5]
   ·have h2':(c==UInt8.ofNat 45)=false:=by simpa using h2
    rw[h2',show ((45:Nat):Int)=45 from rfl] at hq2
    simp[cL,cR,cT,st0,i74,go_sem,h0,h1,c1,c3,hb,hq,hq2,h,h2]
end Go.Idl
namespace Go.Idl
attribute [local go_sem] oA gA vA wA nA fA dA eA oV oW oN oD oF IFn.call ICode.run aD IOp.run IOp.run0 gate IK.ok aG cE OTag.hits IK.run Arg.rd look au rdAll POp.ev dp fc fw fe fD fx fu fI ft fq fH fj bX fE fb bj St.put lkSlot lkL lkB lkC an aV IK.link bh bM St.drop St.capAt St.owner linkOf bV bb bI IV.refsDeep IV.refsDeep.go IV.refs IV.refs.go al IV.plain bN aq cH aT IV.cells IV.isU IV.isL cz cD over dn cut eqS aH bnd dN dW cX du dt bS aa aF dV dK aJ aC dy cy aK uqB aS St.head cN cQ bK cS
theorem pN {i:FuncId}{fn:IFn}{as:List IV}{m:IM}{x:Ex}{st:St}(hp:ae i=none) (hf:tab.fns i=some fn) (hn:as.length=fn.nargs) (hx:x=.normal∨x=.ret)
  (h:db fn.body (st0 (bV 0 as) m)=some (x,st)):cw (.f i) as m=match bb st fn.rets with
   |some [v]=>settle m st.m v
   |some vs=>settle m st.m (.tup vs)
   |none=>none:=by
 unfold cw;rw[bf hp hf]
 unfold IFn.call
 rw[if_neg (by omega)]
 have h':fn.body.run (dM tab ae) (eT tab ae) { env:=bV 0 as,lk:=[],lb:=[],m:=m }=some (x,st):=h
 rw[h']
 simp only
 rw[if_pos hx]
 rfl
def cF:ICode→ICode
 |.cond _ _ b=>b
 |c=>c
theorem sp {c:ICode}{st st':St}(hs:c=.seq (cL c) (cR c)) (h:db (cL c) st=some (.normal,st')):db c st=db (cR c) st':=by
 rw[hs];exact run_seq h
theorem lK {c:ICode}{st st':St}(hs:c=.seq (cL c) (cR c)) (h:db (cL c) st=some (.ret,st')):db c st=some (.ret,st'):=by
 rw[hs];exact wv h
theorem xW {i:Nat}{a b:ICode}{st:St}{c:Cap}(h:look st.env i=some (.bool true,c)):db (.cond (.t i) a b) st=db a st:=by
 show ICode.run _ _ (.cond (.t i) a b) st=_
 rw[ICode.run]
 simp[Arg.rd,h]
theorem xi {i:Nat}{a b:ICode}{st:St}{c:Cap}(h:look st.env i=some (.bool false,c)):db (.cond (.t i) a b) st=db b st:=by
 show ICode.run _ _ (.cond (.t i) a b) st=_
 rw[ICode.run]
 simp[Arg.rd,h]
theorem Lk {d:ICode}{i:Nat}{st:St}{c:Cap}(hs:d=.cond (.t i) (cT d) (cF d)) (h:look st.env i=some (.bool true,c)):db d st=db (cT d) st:=by
 rw[hs];exact xW h
theorem KW {d:ICode}{i:Nat}{st:St}{c:Cap}(hs:d=.cond (.t i) (cT d) (cF d)) (h:look st.env i=some (.bool false,c)):db d st=db (cF d) st:=by
 rw[hs];exact xi h
theorem D8 (e:Env) (s:List UInt8) (a:Nat) (m:IM) (h0:look e 0=some (.str s,.any)) (h1:look e 1=some (.int .i64 a,.any)) :
  ∃e',db (cL (cL (cR (cR (cR (cR (cR (cR (cR i74.body))))))))) (st0 e m)=some (.normal,st0 e' m)∧look e' 0=some (.str s,.any)∧look e' 1=some (.int .i64 a,.any)∧look e' 56=some (.bool (decide (s[a]?=some 101∨s[a]?=some 69)),.any):=by
 have c3:(0:Int)≤(a:Int):=by omega
 cases hb:s[a]? with
 |none =>
  have hge:=List.getElem?_eq_none_iff.1 hb
  have c1:¬(a:Int)<(s.length:Int):=by omega
  simp[cL,cR,st0,i74,go_sem,h0,h1,c1,hb]
 |some c =>
  have c1:(a:Int)<(s.length:Int):=by have:=bL hb;omega
  have hq:=gO c 101 (by omega)
  have hq2:=gO c 69 (by omega)
  by_cases h:c=101
  ·subst h
   simp[cL,cR,st0,i74,go_sem,h0,h1,c1,c3,hb]
  ·have h':(c==UInt8.ofNat 101)=false:=by simpa using h
   rw[h',show ((101:Nat):Int)=101 from rfl] at hq
   by_cases h2:c=69
   ·subst h2
    simp[cL,cR,st0,i74,go_sem,h0,h1,c1,c3,hb]
   ·have h2':(c==UInt8.ofNat 69)=false:=by simpa using h2
    rw[h2',show ((69:Nat):Int)=69 from rfl] at hq2
    simp[cL,cR,st0,i74,go_sem,h0,h1,c1,c3,hb,hq,hq2,h,h2]
theorem DI (e:Env) (s:List UInt8) (a:Nat) (m:IM) (hs:s.length≤1099511627776) (ha:a≤s.length) (h0:look e 0=some (.str s,.any)) (h1:look e 1=some (.int .i64 a,.any)) :
  ∃e',db (cL (cT (cR (cL (cR (cR (cR (cR (cR (cR (cR i74.body))))))))))) (st0 e m)=some (.normal,st0 e' m)∧look e' 0=some (.str s,.any)∧look e' 1=some (.int .i64 (a+1:Nat),.any):=by
 have e5:IntKind.i64.wrap ((a:Int)+1)=((a+1:Nat):Int):=by rw[w64 (by omega) (by omega)];rfl
 generalize a+1=j at *
 simp[cL,cR,cT,st0,i74,go_sem,h0,h1,e5]
theorem Eg (e:Env) (s:List UInt8) (a:Nat) (m:IM) (hs:s.length≤1099511627776) (ha:a≤s.length) (h0:look e 0=some (.str s,.any)) (h1:look e 1=some (.int .i64 a,.any)) :
  if dgB s (s.length+1) a=a then ∃e',db (cL (cR (cR (cT (cR (cL (cR (cR (cR (cR (cR (cR (cR i74.body))))))))))))) (st0 e m)=some (.ret,st0 e' m)∧look e' 4=some (.int .i64 a,.any)∧look e' 5=some (.bool false,.any)
  else ∃e',db (cL (cR (cR (cT (cR (cL (cR (cR (cR (cR (cR (cR (cR i74.body))))))))))))) (st0 e m)=some (.normal,st0 e' m)∧look e' 6=some (.int .i64 (dgB s (s.length+1) a:Nat),.any):=by
 have hd:=tM s hs a (by omega) m
 unfold cw at hd
 generalize dgB s (s.length+1) a=D at *
 by_cases h:D=a
 ·subst h
  simp[cL,cR,cT,st0,i74,go_sem,h0,h1,hd]
 ·have g:((D:Int)==(a:Int))=false:=by simp;omega
  rw[if_neg h]
  simp[cL,cR,cT,st0,i74,go_sem,h0,h1,hd,g]
theorem DY (e:Env) (d:Nat) (m:IM) (h6:look e 6=some (.int .i64 d,.any)) :
  ∃e',db (cR (cR (cR (cT (cR (cL (cR (cR (cR (cR (cR (cR (cR i74.body))))))))))))) (st0 e m)=some (.normal,st0 e' m)∧look e' 1=some (.int .i64 d,.any):=by
 simp[cL,cR,cT,st0,i74,go_sem,h6]
theorem Ja (e:Env) (s:List UInt8) (a:Nat) (m:IM) (hs:s.length≤1099511627776) (ha:a≤s.length) (h0:look e 0=some (.str s,.any)) (h1:look e 1=some (.int .i64 a,.any)) :
  if (nm4 s a).2=true then ∃e',db (cL (cR (cR (cR (cR (cR (cR (cR i74.body)))))))) (st0 e m)=some (.normal,st0 e' m)∧look e' 1=some (.int .i64 ((nm4 s a).1:Nat),.any)
  else ∃e',db (cL (cR (cR (cR (cR (cR (cR (cR i74.body)))))))) (st0 e m)=some (.ret,st0 e' m)∧look e' 4=some (.int .i64 ((nm4 s a).1:Nat),.any)∧look e' 5=some (.bool false,.any):=by
 obtain⟨e1,q1,q2,q3,q4⟩:=D8 e s a m h0 h1
 by_cases h:s[a]?=some 101∨s[a]?=some 69
 ·have hlt:a<s.length:=by rcases h with q | q<;>exact bL q
  rw[decide_eq_true h] at q4
  obtain⟨e2,u1,u2,u3⟩:=DI e1 s a m hs ha q2 q3
  obtain⟨e3,v1,v2,v3⟩:=DO e2 s (a+1) m hs hlt u2 u3
  have hw:=Eg e3 s (nmB s (a+1)) m hs (yi hlt) v2 v3
  have hrun:db (cL (cR (cR (cR (cR (cR (cR (cR i74.body)))))))) (st0 e m)=db (cR (cR (cT (cR (cL (cR (cR (cR (cR (cR (cR (cR i74.body)))))))))))) (st0 e3 m) :=
   (sp rfl q1).trans ((Lk (i:=56) rfl q4).trans ((sp rfl u1).trans (sp rfl v1)))
  rw[hrun]
  unfold nm4
  rw[if_pos h]
  by_cases hD:dgB s (s.length+1) (nmB s (a+1))=nmB s (a+1)
  ·rw[if_pos hD] at hw
   obtain⟨e4,w1,w2,w3⟩:=hw
   rw[lK rfl w1]
   simp only[hD,ne_eq,not_true_eq_false,decide_false,Bool.false_eq_true,if_false]
   exact⟨e4,rfl,w2,w3⟩
  ·rw[if_neg hD] at hw
   obtain⟨e4,w1,w2⟩:=hw
   rw[sp rfl w1]
   simp only[ne_eq,hD,not_false_eq_true,decide_true,if_true]
   exact DY e4 _ m w2
 ·rw[decide_eq_false h] at q4
  unfold nm4
  rw[if_neg h,(sp rfl q1).trans (KW (i:=56) rfl q4)]
  simp only[if_true]
  exact⟨e1,rfl,q3⟩
theorem Gr (e:Env) (a:Nat) (m:IM) (h1:look e 1=some (.int .i64 a,.any)) :
  ∃e',db (cR (cR (cR (cR (cR (cR (cR (cR i74.body)))))))) (st0 e m)=some (.ret,st0 e' m)∧look e' 4=some (.int .i64 a,.any)∧look e' 5=some (.bool true,.any):=by
 simp[cL,cR,st0,i74,go_sem,h1]
theorem Je (s:List UInt8) (a:Nat) (m:IM) :
  ∃e',db (cL i74.body) (st0 (bV 0 [.str s,.int .i64 (a:Int)]) m)=some (.normal,st0 e' m)∧look e' 0=some (.str s,.any)∧look e' 1=some (.int .i64 a,.any):=by
 simp[cL,st0,i74,go_sem]
theorem CG (s:List UInt8) (hs:s.length≤1099511627776) (a:Nat) (ha:a≤s.length) (m:IM):cw (.f 74) [.str s,.int .i64 (a:Int)] m=some (.tup [.int .i64 ((eR s a).1:Nat),.bool (eR s a).2],m):=by
 have hc:∃e',db i74.body (st0 (bV 0 [.str s,.int .i64 (a:Int)]) m)=some (.ret,st0 e' m)∧look e' 4=some (.int .i64 ((eR s a).1:Nat),.any)∧look e' 5=some (.bool (eR s a).2,.any):=by
  obtain⟨e0,a0,a1,a2⟩:=Je s a m
  obtain⟨e1,b0,b1,b2⟩:=Iw e0 s a m hs ha a1 a2
  have l1:=pF ha
  obtain⟨e2,x0,x1,x2,x3⟩:=HK e1 s _ m hs l1 b1 b2
  have h3:=I3 e2 s _ _ m x1 x2 x3
  have r3:db i74.body (st0 (bV 0 [.str s,.int .i64 (a:Int)]) m)=db (cR (cR (cR i74.body))) (st0 e2 m):=by
   exact (sp rfl a0).trans ((sp rfl b0).trans (sp rfl x0))
  rw[r3]
  unfold eR
  by_cases hD:dgB s (s.length+1) (nm1 s a)=nm1 s a
  ·rw[if_pos hD] at h3 ⊢
   obtain⟨e3,y0,y1,y2⟩:=h3
   rw[lK rfl y0]
   exact⟨e3,rfl,y1,y2⟩
  ·rw[if_neg hD] at h3 ⊢
   obtain⟨e3,y0,y1,y2,y3⟩:=h3
   obtain⟨c,hb⟩:=F4 hD
   obtain⟨e4,z0,z1,z2⟩:=Ha e3 s _ _ m hs c hb y1 y2 y3
   obtain⟨e5,u0,u1,u2⟩:=Iu e4 s _ m z1 z2
   have hn2:(if c=48 then nm1 s a+1 else dgB s (s.length+1) (nm1 s a))=nm2 s (nm1 s a):=by
    unfold nm2;rw[hb];simp
   rw[hn2] at u2
   have l2:=uG l1
   have h6:=Hm e5 s _ m hs l2 u1 u2
   have r6:db (cR (cR (cR i74.body))) (st0 e2 m)=db (cR (cR (cR (cR (cR (cR i74.body)))))) (st0 e5 m):=by
    exact (sp rfl y0).trans ((sp rfl z0).trans (sp rfl u0))
   rw[r6]
   generalize nm2 s (nm1 s a)=A2 at *
   by_cases h3':(nm3 s A2).2=true
   ·rw[if_pos h3'] at h6 ⊢
    obtain⟨e6,v0,v1,v2⟩:=h6
    have l3:=tE (s:=s) (a:=A2) l2
    have h7:=Ja e6 s _ m hs l3 v1 v2
    rw[sp rfl v0]
    generalize (nm3 s A2).1=A3 at *
    by_cases h4':(nm4 s A3).2=true
    ·rw[if_pos h4'] at h7
     obtain⟨e7,w0,w1⟩:=h7
     rw[sp rfl w0,h4']
     exact Gr e7 _ m w1
    ·rw[if_neg h4'] at h7
     obtain⟨e7,w0,w1,w2⟩:=h7
     have h4f:(nm4 s A3).2=false:=by simpa using h4'
     rw[lK rfl w0,h4f]
     exact⟨e7,rfl,w1,w2⟩
   ·rw[if_neg h3'] at h6 ⊢
    obtain⟨e6,v0,v1,v2⟩:=h6
    have h3f:(nm3 s A2).2=false:=by simpa using h3'
    rw[lK rfl v0,h3f]
    exact⟨e6,rfl,v1,v2⟩
 obtain⟨e',q0,q1,q2⟩:=hc
 rw[pN p74 f74 rfl (.inr rfl) q0]
 simp[i74,st0,go_sem,q1,q2]
theorem f132:tab.fns 132=some i132:=by rfl
theorem p132:ae 132=none:=by rfl
theorem DC (s:List UInt8) (hs:s.length≤1099511627776) (m:IM):cw (.f 132) [.str s] m=some (.bool ((eR s 0).2&&decide ((eR s 0).1=s.length)),m):=by
 unfold cw;rw[bf p132 f132]
 have h:=CG s hs 0 (by omega) m
 unfold cw at h
 rw[show ((0:Nat):Int)=0 from rfl] at h
 generalize eR s 0=N at *
 obtain⟨n,w⟩:=N
 cases w with
 |false=>simp[i132,go_sem,h]
 |true =>
  by_cases hq:n=s.length
  ·subst hq;simp[i132,go_sem,h]
  ·have g:((n:Int)==(s.length:Int))=false:=by simp;omega
   simp[i132,go_sem,h,g,hq]
end Go.Idl
namespace Go.Idl
attribute [local go_sem] oA gA vA wA nA fA dA eA oV oW oN oD oF IFn.call ICode.run aD IOp.run IOp.run0 gate IK.ok aG cE OTag.hits IK.run Arg.rd look au rdAll POp.ev dp fc fw fe fD fx fu fI ft fq fH fj bX fE fb bj St.put lkSlot lkL lkB lkC an aV IK.link bh bM St.drop St.capAt St.owner linkOf bV bb bI IV.refsDeep IV.refsDeep.go IV.refs IV.refs.go al IV.plain bN aq cH aT IV.cells IV.isU IV.isL cz cD over dn cut eqS aH bnd dN dW cX du dt bS aa aF dV dK aJ aC dy cy aK uqB aS St.head cN cQ bK cS
def MM (bs L:List BObj) (E:Nat):IM:=⟨bs++L,E⟩
theorem Cr (m:IM):m=MM m.bs [] m.esc:=by cases m;simp[MM]
theorem oP (bs L:List BObj) (E:Nat):(MM bs L E).size=bs.length+L.length:=by simp[MM,IM.size]
theorem tX (bs L:List BObj) (E:Nat):(MM bs L E).esc=E:=rfl
theorem pe (bs L:List BObj) (E:Nat) (o:BObj):(MM bs L E).push o=some (MM bs (L++[o]) E):=by simp[MM,IM.push,an]
theorem kL (bs:List BObj) (a:BObj) (L:List BObj) (E:Nat):(MM bs (a::L) E).get bs.length=a:=by simp[MM,IM.get]
theorem oU (bs:List BObj) (a b:BObj) (L:List BObj) (E:Nat):(MM bs (a::b::L) E).get (bs.length+1)=b:=by simp[MM,IM.get]
theorem uA (bs:List BObj) (a b c:BObj) (L:List BObj) (E:Nat):(MM bs (a::b::c::L) E).get (bs.length+2)=c:=by simp[MM,IM.get]
theorem mc (bs:List BObj) (a b c d:BObj) (L:List BObj) (E:Nat):(MM bs (a::b::c::d::L) E).get (bs.length+3)=d:=by simp[MM,IM.get]
theorem mW (bs:List BObj) (a:BObj) (L:List BObj) (E:Nat) (o:BObj):(MM bs (a::L) E).put bs.length o=some (MM bs (o::L) E):=by simp[MM,IM.put,an]
theorem pk (bs:List BObj) (a b:BObj) (L:List BObj) (E:Nat) (o:BObj):(MM bs (a::b::L) E).put (bs.length+1) o=some (MM bs (a::o::L) E):=by simp[MM,IM.put,an]
theorem y8 (bs:List BObj) (a b c:BObj) (L:List BObj) (E:Nat) (o:BObj):(MM bs (a::b::c::L) E).put (bs.length+2) o=some (MM bs (a::b::o::L) E):=by simp[MM,IM.put,an]
theorem pc (bs:List BObj) (a b c d:BObj) (L:List BObj) (E:Nat) (o:BObj):(MM bs (a::b::c::d::L) E).put (bs.length+3) o=some (MM bs (a::b::c::o::L) E):=by simp[MM,IM.put,an]
theorem ti (bs L:List BObj) (E E':Nat):(⟨(MM bs L E).bs,E'⟩:IM)=MM bs L E':=rfl
def Eh (m m':IM) (v:IV):Option (IV×IM):=settle m m' v
theorem iA (bs L L':List BObj) (E E':Nat) (v:IV):settle (MM bs L E) (MM bs L' E') v=if v.refsDeep=some 0∧E'=E then some (v,MM bs (L'.take L.length) E') else Eh (MM bs L E) (MM bs L' E') v:=by
 split
 ·rename_i h
  unfold settle
  have e:bs.take (bs.length+L.length)=bs:=List.take_of_length_le (by omega)
  simp[h.1,h.2,an,MM,IM.size,List.take_append,e]
 ·rfl
theorem Eo (s:List UInt8) (bs:List BObj) (a b:BObj) (E:Nat):cw (.f 38) [.str s] (MM bs [a,b] E)=some (.func 67 [] [.pB (bs.length+2) 0],MM bs [a,b,.cells [.str s] [.any]] E):=by
 unfold cw;rw[bf p38 f38]
 have hs:settle (MM bs [a,b] E) (MM bs [a,b,.cells [.str s] [.any]] E) (.func 67 [] [.pB (bs.length+2) 0])=some (.func 67 [] [.pB (bs.length+2) 0],MM bs [a,b,.cells [.str s] [.any]] E):=by
  simp[settle,IV.refsDeep,IV.refsDeep.go,IV.refs,IV.refs.go,an,MM,IM.size,vL,frz,al]
 simp[-List.length_append,i38,go_sem,pe,oP,hs]
def xb (s:List UInt8) (n:Nat):Env:=[(7,.func 67 [] [.pB (n+2) 0],.any),(6,.str s,.any),(3,.pB (n+1) 0,.any),(2,.pB n 0,.any),(0,.str s,.any)]
def Vg (bs:List BObj) (E:Nat) (s:List UInt8) (b:Bool) (i:Nat) (busy j:Nat):IM :=
 MM bs [.cells [.bool b] [.any],.cells [.int .i64 (i:Int)] [.any],.cells [.str s] [.any],.loop busy 31 0 (xb s bs.length) j] E
theorem Ls (bs:List BObj) (E:Nat) (s:List UInt8) (at_:Nat) (r:Nat×Bool×Nat):cw (.y (bs.length+3)) [.int .i64 (at_:Int),gb r] (Vg bs E s false 0 0 0)=some (.bool r.2.1,if r.2.1 then Vg bs E s false 0 0 0 else Vg bs E s false at_ 1 1):=by
 unfold cw;rw[yP (fn:=31) (site:=0) (r:=zp) (bz:=0) (j:=0) (tm:=xb s bs.length) (by unfold Vg;rw[mc]) rfl]
 have h1:look (xb s bs.length) 3=some (.pB (bs.length+1) 0,.any):=rfl
 have h2:look (xb s bs.length) 2=some (.pB bs.length 0,.any):=rfl
 generalize xb s bs.length=tm at *
 cases hw:r.2.1 with
 |true=>simp[zp,IRnd.call,ia,gb,Vg,go_sem,mc,pc,kL,mW,oU,pk,iA,tX,ti,hw,lS]
 |false=>simp[zp,IRnd.call,ia,gb,Vg,go_sem,mc,pc,kL,mW,oU,pk,iA,tX,ti,hw,lS,h1,h2]
end Go.Idl
namespace Go.Idl
attribute [local go_sem] oA gA vA wA nA fA dA eA oV oW oN oD oF IFn.call ICode.run aD IOp.run IOp.run0 gate IK.ok aG cE OTag.hits IK.run Arg.rd look au rdAll POp.ev dp fc fw fe fD fx fu fI ft fq fH fj bX fE fb bj St.put lkSlot lkL lkB lkC an aV IK.link bh bM St.drop St.capAt St.owner linkOf bV bb bI IV.refsDeep IV.refsDeep.go IV.refs IV.refs.go al IV.plain bN aq cH aT IV.cells IV.isU IV.isL cz cD over dn cut eqS aH bnd dN dW cX du dt bS aa aF dV dK aJ aC dy cy aK uqB aS St.head cN cQ bK cS
def qN (_:Nat) (a:Nat) (r:Nat×Bool×Nat):Bool×Nat:=(r.2.1,a)
theorem sL:∀(k:Nat) (s:List UInt8) (a x:Nat),match lz k s a with
  |none=>(visit qN k s a x).1=true
  |some a'=>visit qN k s a x=(false,a')
 |0,_,_,_=>rfl
 |_+1,[],_,_=>rfl
 |k+1,c::t,a,x=>by
  have ih:=sL k ((c::t).drop (max (ak (c::t)).1 1)) (a+max (ak (c::t)).1 1) a
  cases hw:(ak (c::t)).2.1 with
  |true =>
   simp only[lz,visit,qN,hw,if_true]
   exact ih
  |false=>simp[lz,visit,qN,hw]
theorem Cu (bs:List BObj) (E:Nat) (s:List UInt8) (hs:s.length≤1099511627776):cw (.f 67) [.yld (bs.length+3),.pB (bs.length+2) 0] (Vg bs E s false 0 0 0)=some (.tup [],match lz (s.length+1) s 0 with | none=>Vg bs E s false 0 0 0 | some a=>Vg bs E s false a 1 1):=by
 unfold cw;rw[bf p67 f67]
 obtain⟨e',lb',q⟩:=KB s hs (bs.length+3) (bs.length+2) (fun _=>Vg bs E s false 0 0 0) (fun a=>Vg bs E s false a 1 1) qN (fun _ _=>True) (fun x=>by unfold Vg;rw[uA])
  (fun _ _ _ _ _=>trivial) (fun a x _ h=>by
   have:=Ls bs E s a (ak (s.drop a))
   cases hh:(ak (s.drop a)).2.1<;>simpa[hh,qN] using this) (s.length+1) 0 0 (by omega) (by omega) trivial
 rw[List.drop_zero] at q
 have hv:=sL (s.length+1) s 0 0
 generalize visit qN (s.length+1) s 0 0=V at *
 have hset:∀(i b j:Nat),settle (Vg bs E s false 0 0 0) (Vg bs E s false i b j) (.tup [])=some (.tup [],Vg bs E s false i b j):=by
  intro i b j
  unfold Vg
  rw[iA,if_pos ⟨rfl,rfl⟩]
  rfl
 have h0:=hset 0 0 0
 simp only[zE] at q
 rw[show ((0:Nat):Int)=0 from rfl] at q
 cases hq:lz (s.length+1) s 0 with
 |none =>
  rw[hq] at hv
  obtain⟨V1,V2⟩:=V
  simp only at hv
  subst hv
  generalize Vg bs E s false 0 0 0=M0 at *
  simp[i67,sU,nE,nR,go_sem,q,h0]
 |some a =>
  rw[hq] at hv
  simp only at hv
  subst hv
  have h1:=hset a 1 1
  simp only at q ⊢
  generalize Vg bs E s false 0 0 0=M0 at *
  generalize Vg bs E s false a 1 1=M1 at *
  simp[i67,sU,nE,nR,go_sem,q,h1]
theorem uC (s:List UInt8) (hs:s.length≤1099511627776) (m:IM):cw (.f 31) [.str s] m=some (.tup (match lz (s.length+1) s 0 with | none=>[.bool true,.int .i64 (s.length:Int)] | some a=>[.bool false,.int .i64 (a:Int)]),m):=by
 rw[Cr m]
 generalize m.bs=bs
 generalize m.esc=E
 unfold cw;rw[bf p31 f31]
 have h1:=Eo s bs (.cells [.bool false] [.any]) (.cells [.int .i64 0] [.any]) E
 have h2:=Cu bs E s hs
 unfold cw at h1 h2
 cases hv:lz (s.length+1) s 0 with
 |none =>
  rw[hv] at h2
  simp only[Vg,xb] at h2
  rw[show ((0:Nat):Int)=0 from rfl] at h2
  simp[-List.length_append,i31,go_sem,h1,h2,pe,oP,kL,oU,uA,mc,mW,pk,y8,pc,iA,tX,ti,noL]
 |some a =>
  rw[hv] at h2
  simp only[Vg,xb] at h2
  rw[show ((0:Nat):Int)=0 from rfl] at h2
  simp[-List.length_append,i31,go_sem,h1,h2,pe,oP,kL,oU,uA,mc,mW,pk,y8,pc,iA,tX,ti,noL]
def okS (s:List UInt8):Bool:=(lz (s.length+1) s 0).isNone
theorem yS (s:List UInt8) (hs:s.length≤1099511627776) (m:IM):cw (.f 66) [.str s] m=some (.bool (okS s),m):=by
 unfold cw;rw[bf p66 f66]
 have h:=uC s hs m
 unfold cw at h
 unfold okS
 cases hv:lz (s.length+1) s 0 with
 |none=>rw[hv] at h;simp[i66,go_sem,h]
 |some a=>rw[hv] at h;simp[i66,go_sem,h]
end Go.Idl
namespace Go.Idl
attribute [local go_sem] oA gA vA wA nA fA dA eA oV oW oN oD oF IFn.call ICode.run aD IOp.run IOp.run0 gate IK.ok aG cE OTag.hits IK.run Arg.rd look au rdAll POp.ev dp fc fw fe fD fx fu fI ft fq fH fj bX fE fb bj St.put lkSlot lkL lkB lkC an aV IK.link bh bM St.drop St.capAt St.owner linkOf bV bb bI IV.refsDeep IV.refsDeep.go IV.refs IV.refs.go al IV.plain bN aq cH aT IV.cells IV.isU IV.isL cz cD over dn cut eqS aH bnd dN dW cX du dt bS aa aF dV dK aJ aC dy cy aK uqB aS St.head cN cQ bK cS
def SlS (K:IV) (ks:List (List UInt8)):Prop:=(K=.nilSlice∧ks=[])∨K=.sl (ks.map .str) ks.length
theorem vd {ks:List (List UInt8)}{i:Nat}(h:i<ks.length):((ks.map IV.str).drop i).take 1=[.str ks[i]]:=by
 have h':i<(ks.map IV.str).length:=by simpa using h
 rw[List.drop_eq_getElem_cons h']
 simp
theorem f111:tab.fns 111=some i111:=by rfl
theorem p111:ae 111=none:=by rfl
theorem EY (s:List UInt8) (m:IM):cw (.f 111) [.str s] m=some (.bool (decide (1000<s.length)),m):=by
 unfold cw;rw[bf p111 f111]
 by_cases h:1000<s.length
 ·have g:(1000:Int)<(s.length:Int):=by omega
  simp[i111,go_sem,g,h]
 ·have g:¬(1000:Int)<(s.length:Int):=by omega
  simp[i111,go_sem,g,h]
theorem f133:tab.fns 133=some i133:=by rfl
theorem p133:ae 133=none:=by rfl
theorem EU (s:List UInt8) (hs:s.length≤1099511627776) (m:IM):cw (.f 133) [.str s] m=some (.bool (!okS s),m):=by
 unfold cw;rw[bf p133 f133]
 have h:=yS s hs m
 unfold cw at h
 simp[i133,go_sem,h]
theorem f131:tab.fns 131=some i131:=by rfl
theorem p131:ae 131=none:=by rfl
theorem nK:je.keep=[(0,0),(1,0),(7,0),(8,0)]:=rfl
theorem kG:je.keepL=[]:=rfl
theorem kK:je.ownL=[]:=rfl
def wU (ks:List (List UInt8)) (f i:Nat) (m:IM):St:=st0 [(0,.sl (ks.map .str) ks.length,.any),(1,.func f [] [],.any),(7,.int .i64 (ks.length:Int),.any),(8,.int .i64 i,.any)] m
theorem Lv (ks:List (List UInt8)) (f:Nat) (P:List UInt8→Bool) (hb:ks.length≤1099511627776) (m:IM) (hf:∀s,s∈ks→cw (.f f) [.str s] m=some (.bool (P s),m)):∀(k i:Nat),ks.length=i+k →
  if (ks.drop i).any P=true then ∃e' j,lc tab ae je iH (some (wU ks f i m))=some (.ret,st0 e' m)∧look e' 4=some (.int .i64 (j:Nat),.any)
  else ∃e',lc tab ae je iH (some (wU ks f i m))=some (.exit 0,st0 e' m):=by
 intro k
 induction k with
 |zero =>
  intro i hk
  have e:ks.drop i=[]:=List.drop_eq_nil_iff.2 (by omega)
  have c1:¬(i:Int)<(ks.length:Int):=by omega
  rw[e,cM]
  simp[iH,nK,kG,kK,wU,st0,go_sem,c1]
 |succ k ih =>
  intro i hk
  have hi:i<ks.length:=by omega
  have c1:(i:Int)<(ks.length:Int):=by omega
  have c3:(0:Int)≤(i:Int):=by omega
  have hg:=vd hi
  have hl:i+1≤(ks.map IV.str).length:=by rw[List.length_map];omega
  have hq:=hf ks[i] (List.getElem_mem hi)
  have ex:ks.drop i=ks[i]::ks.drop (i+1):=List.drop_eq_getElem_cons hi
  rw[ex,List.any_cons]
  unfold cw at hq
  generalize ks[i]=x at *
  cases hP:P x with
  |true =>
   rw[hP] at hq
   rw[if_pos (by simp),cM]
   simp only[wU,st0]
   generalize lc tab ae je iH=L
   generalize ks.map IV.str=R at *
   generalize ks.length=n at *
   simp[iH,nK,kG,kK,go_sem,c1,c3,hg,hl,hq]
   exact⟨i,rfl⟩
  |false =>
   rw[hP] at hq
   have e1:IntKind.i64.wrap ((i:Int)+1)=((i+1:Nat):Int):=by rw[w64 (by omega) (by omega)];rfl
   have step:lc tab ae je iH (some (wU ks f i m))=lc tab ae je iH (some (wU ks f (i+1) m)):=by
    rw[cM]
    simp only[wU,st0]
    generalize lc tab ae je iH=L
    generalize hj:i+1=j at *
    generalize ks.map IV.str=R at *
    generalize ks.length=n at *
    simp[iH,nK,kG,kK,go_sem,c1,c3,hg,hl,hq,e1,hj]
   rw[step,Bool.false_or]
   exact ih (i+1) (by omega)
theorem f110:tab.fns 110=some i110:=by rfl
theorem p110:ae 110=none:=by rfl
theorem yx (K:IV) (ks:List (List UInt8)) (hK:SlS K ks) (f:Nat) (P:List UInt8→Bool) (hb:ks.length≤1099511627776) (m:IM) (hf:∀s,s∈ks→cw (.f f) [.str s] m=some (.bool (P s),m)) :
  cw (.f 110) [K,.func f [] []] m=some (.bool (ks.any P),m):=by
 have h131:∃j:Int,cw (.f 131) [K,.func f [] []] m=some (.int .i64 j,m)∧decide (0≤j)=ks.any P:=by
  rcases hK with ⟨rfl,rfl⟩ | rfl
  ·refine⟨-1,?_,rfl⟩
   unfold cw;rw[bf p131 f131]
   simp[i131,go_sem,cM,iH,nK,kG,kK]
  ·have q:=Lv ks f P hb m hf ks.length 0 (by omega)
   rw[List.drop_zero] at q
   simp only[wU,st0] at q
   rw[show ((0:Nat):Int)=0 from rfl] at q
   by_cases h:ks.any P=true
   ·rw[if_pos h] at q
    obtain⟨e',j,q0,q1⟩:=q
    refine⟨(j:Nat),?_,by rw[h];simp⟩
    unfold cw;rw[bf p131 f131]
    generalize ks.map IV.str=R at *
    generalize ks.length=n at *
    simp[i131,go_sem,nK,kG,kK,q0,q1]
   ·rw[if_neg h] at q
    obtain⟨e',q0⟩:=q
    have h':ks.any P=false:=by simpa using h
    refine⟨-1,?_,by rw[h'];rfl⟩
    unfold cw;rw[bf p131 f131]
    generalize ks.map IV.str=R at *
    generalize ks.length=n at *
    simp[i131,go_sem,nK,kG,kK,q0]
 obtain⟨j,q0,q1⟩:=h131
 unfold cw;rw[bf p110 f110]
 unfold cw at q0
 rw[←q1]
 rcases hK with ⟨rfl,rfl⟩ | rfl
 ·simp[i110,go_sem,q0]
 ·generalize ks.map IV.str=R at *
  generalize ks.length=n at *
  simp[i110,go_sem,q0]
end Go.Idl
namespace Go.Idl
attribute [local go_sem] oA gA vA wA nA fA dA eA oV oW oN oD oF IFn.call ICode.run aD IOp.run IOp.run0 gate IK.ok aG cE OTag.hits IK.run Arg.rd look au rdAll POp.ev dp fc fw fe fD fx fu fI ft fq fH fj bX fE fb bj St.put lkSlot lkL lkB lkC an aV IK.link bh bM St.drop St.capAt St.owner linkOf bV bb bI IV.refsDeep IV.refsDeep.go IV.refs IV.refs.go al IV.plain bN aq cH aT IV.cells IV.isU IV.isL cz cD over dn cut eqS aH bnd dN dW cX du dt bS aa aF dV dK aJ aC dy cy aK uqB aS St.head cN cQ bK cS
def stG (e:Env) (l:List (Nat×Loc)) (b:List (Nat×BObj)) (m:IM):St:={ env:=e,lk:=l,lb:=b,m:=m }
def SlN (V:IV) (n:Nat):Prop:=(V=.nilSlice∧n=0)∨∃row,V=.sl row n
def vc (k:Int) (t:List UInt8) (K V:IV):List IV:=[.int .i64 k,.str t,K,V]
def VB (e:Env) (b:List (Nat×BObj)) (i:Nat) (k:Int) (t:List UInt8) (K V:IV):Prop :=
 look e i=some (.pL 0 0,.any)∧au b 0=.cells [.int .i64 k,.str t,K,V] [.any,.any,.any,.any]
def fT (k:Int) (t:List UInt8):Bool :=
 if k=1 then decide (t=[116,114,117,101])||decide (t=[102,97,108,115,101])
 else if k=2 then (eR t 0).2&&decide ((eR t 0).1=t.length)
 else if k=3 then okS t
 else decide (t=[])
def eM (k:Int) (t:List UInt8) (ks:List (List UInt8)) (n:Nat):Bool :=
 fT k t&&(decide (k=5)||decide (ks=[]))&&(decide (k=5)||decide (k=4)||decide (n=0)) && !(ks.any fun s=>!okS s)
theorem f112:tab.fns 112=some i112:=by rfl
theorem p112:ae 112=none:=by rfl
theorem EN (k:Int) (t:List UInt8) (K V:IV) (ks:List (List UInt8)) (n:Nat) (hK:SlS K ks) (hV:SlN V n) (m:IM) :
  ∃e b,db (cL i112.body) (st0 (bV 0 [.agg (vc k t K V)]) m)=some (.normal,stG e [] b m)∧VB e b 1 k t K V∧au b 1=.none:=by
 rcases hK with ⟨rfl,rfl⟩ | rfl<;>rcases hV with ⟨rfl,rfl⟩ | ⟨row,rfl⟩<;>simp[cL,st0,stG,i112,go_sem,and_assoc,VB,vc]
theorem DJ (k:Int) (t:List UInt8) (K V:IV) (m:IM) (e:Env) (b:List (Nat×BObj)) (h:VB e b 1 k t K V) (hb:au b 1=.none) :
  ∃e' l' b',db (cL (cR i112.body)) (stG e [] b m)=some (.normal,stG e' l' b' m)∧VB e' b' 1 k t K V∧look e' 3=some (.pL 1 0,.any)∧au b' 1=.cells [.int .i64 k,.str t] [.any,.any]:=by
 obtain⟨h1,h2⟩:=h
 simp[cL,cR,st0,stG,i112,go_sem,and_assoc,VB,h1,h2,hb]
theorem DK (k:Int) (t:List UInt8) (K V:IV) (m:IM) (e:Env) (l:List (Nat×Loc)) (b:List (Nat×BObj)) (h:VB e b 1 k t K V) (h3:look e 3=some (.pL 1 0,.any)) (hb:au b 1=.cells [.int .i64 k,.str t] [.any,.any]) :
  ∃e' l' b',db (cL (cR (cR i112.body))) (stG e l b m)=some (.normal,stG e' l' b' m)∧VB e' b' 1 k t K V∧look e' 3=some (.pL 1 0,.any)∧au b' 1=.cells [.int .i64 k,.str t] [.any,.any]:=by
 obtain⟨h1,h2⟩:=h
 simp[cL,cR,st0,stG,i112,go_sem,and_assoc,VB,h1,h2,h3,hb]
theorem EE (k:Int) (t:List UInt8) (ht:t.length≤1099511627776) (K V:IV) (m:IM) (e:Env) (l:List (Nat×Loc)) (b:List (Nat×BObj)) (h:VB e b 1 k t K V) (h3:look e 3=some (.pL 1 0,.any)) (hb:au b 1=.cells [.int .i64 k,.str t] [.any,.any]) :
  ∃e' l' b',db (cL (cR (cR (cR i112.body)))) (stG e l b m)=some (.normal,stG e' l' b' m)∧VB e' b' 1 k t K V∧look e' 4=some (.bool (fT k t),.any):=by
 obtain⟨h1,h2⟩:=h
 have h132:=DC t ht m
 have h66:=yS t ht m
 unfold cw at h132 h66
 by_cases k1:k=1
 ·subst k1
  by_cases u1:t=[116,114,117,101]
  ·subst u1
   simp[cL,cR,st0,stG,i112,go_sem,and_assoc,VB,h1,h2,h3,hb,fT,fS,mL]
  ·have u1':(t==[116,114,117,101])=false:=by simpa using u1
   by_cases u2:t=[102,97,108,115,101]
   ·subst u2
    simp[cL,cR,st0,stG,i112,go_sem,and_assoc,VB,h1,h2,h3,hb,fT,fS,mL]
   ·have u2':(t==[102,97,108,115,101])=false:=by simpa using u2
    simp[cL,cR,st0,stG,i112,go_sem,and_assoc,VB,h1,h2,h3,hb,fT,u1,u1',u2,u2',fS,mL]
 ·have k1':(k==1)=false:=by simpa using k1
  by_cases k2:k=2
  ·subst k2
   simp[cL,cR,st0,stG,i112,go_sem,and_assoc,VB,h1,h2,h3,hb,fT,h132]
  ·have k2':(k==2)=false:=by simpa using k2
   by_cases k3:k=3
   ·subst k3
    simp[cL,cR,st0,stG,i112,go_sem,and_assoc,VB,h1,h2,h3,hb,fT,h66]
   ·have k3':(k==3)=false:=by simpa using k3
    have hd:(t==[])=decide (t=[]):=by cases t<;>rfl
    simp[cL,cR,st0,stG,i112,go_sem,and_assoc,VB,h1,h2,h3,hb,fT,k1,k1',k2,k2',k3,k3',hd]
end Go.Idl
namespace Go.Idl
attribute [local go_sem] oA gA vA wA nA fA dA eA oV oW oN oD oF IFn.call ICode.run aD IOp.run IOp.run0 gate IK.ok aG cE OTag.hits IK.run Arg.rd look au rdAll POp.ev dp fc fw fe fD fx fu fI ft fq fH fj bX fE fb bj St.put lkSlot lkL lkB lkC an aV IK.link bh bM St.drop St.capAt St.owner linkOf bV bb bI IV.refsDeep IV.refsDeep.go IV.refs IV.refs.go al IV.plain bN aq cH aT IV.cells IV.isU IV.isL cz cD over dn cut eqS aH bnd dN dW cX du dt bS aa aF dV dK aJ aC dy cy aK uqB aS St.head cN cQ bK cS
theorem pn {K:IV}{ks:List (List UInt8)}(h:SlS K ks):POp.ev .lenSlice [K]=some (.int .i64 (ks.length:Int)):=by
 rcases h with ⟨rfl,rfl⟩ | rfl<;>rfl
theorem E3 {V:IV}{n:Nat}(h:SlN V n):POp.ev .lenSlice [V]=some (.int .i64 (n:Int)):=by
 rcases h with ⟨rfl,rfl⟩ | ⟨row,rfl⟩<;>rfl
theorem EI (k:Int) (t:List UInt8) (K V:IV) (ks:List (List UInt8)) (n:Nat) (hK:SlS K ks) (hV:SlN V n) (hks:ks.length≤1099511627776) (hk:∀s,s∈ks→s.length≤1099511627776) (w:Bool) (m:IM) (e:Env) (l:List (Nat×Loc)) (b:List (Nat×BObj)) (h:VB e b 1 k t K V) (h4:look e 4=some (.bool w,.any)) :
  ∃e' l' b',db (cR (cR (cR (cR i112.body)))) (stG e l b m)=some (.ret,stG e' l' b' m)∧look e' 2=some (.bool (w&&(decide (k=5)||decide (ks=[]))&&(decide (k=5)||decide (k=4)||decide (n=0)) && !(ks.any fun s=>!okS s)),.any):=by
 obtain⟨h1,h2⟩:=h
 have h110:=yx K ks hK 133 (fun s=>!okS s) hks m (fun s hs=>EU s (hk s hs) m)
 unfold cw at h110
 have hz:((n:Int)==0)=decide (n=0):=by
  by_cases q:n=0
  ·subst q;rfl
  ·rw[decide_eq_false q];simp;omega
 have hz2:((ks.length:Int)==0)=decide (ks=[]):=by
  cases ks with
  |nil=>rfl
  |cons a r=>rw[decide_eq_false (by simp)];simp;omega
 generalize (ks.any fun s=>!okS s)=A at *
 cases w with
 |false=>simp[cR,st0,stG,i112,go_sem,and_assoc,h1,h2,h4]
 |true =>
  by_cases k5:k=5
  ·subst k5
   rcases hK with ⟨rfl,rfl⟩ | rfl<;>simp[cR,st0,stG,i112,go_sem,and_assoc,h1,h2,h4,h110]
  ·have k5':(k==5)=false:=by simpa using k5
   by_cases k4:k=4
   ·subst k4
    rcases hK with ⟨rfl,rfl⟩ | rfl
    ·simp[cR,st0,stG,i112,go_sem,and_assoc,h1,h2,h4,h110]
    ·by_cases he:ks=[]
     ·subst he
      simp only[List.map_nil,List.length_nil] at h110
      simp[cR,st0,stG,i112,go_sem,and_assoc,h1,h2,h4,h110]
     ·rw[decide_eq_false he] at hz2
      simp[cR,st0,stG,i112,go_sem,and_assoc,h1,h2,h4,h110,hz2,he]
   ·have k4':(k==4)=false:=by simpa using k4
    rcases hK with ⟨rfl,rfl⟩ | rfl<;>rcases hV with ⟨rfl,rfl⟩ | ⟨row,rfl⟩
    ·simp[cR,st0,stG,i112,go_sem,and_assoc,h1,h2,h4,h110,k5,k5',k4,k4']
    ·by_cases hn:n=0
     ·subst hn
      simp[cR,st0,stG,i112,go_sem,and_assoc,h1,h2,h4,h110,k5,k5',k4,k4']
     ·rw[decide_eq_false hn] at hz
      simp[cR,st0,stG,i112,go_sem,and_assoc,h1,h2,h4,h110,k5,k5',k4,k4',hz,hn]
    ·by_cases he:ks=[]
     ·subst he
      simp only[List.map_nil,List.length_nil] at h110
      simp[cR,st0,stG,i112,go_sem,and_assoc,h1,h2,h4,h110,k5,k5',k4,k4']
     ·rw[decide_eq_false he] at hz2
      simp[cR,st0,stG,i112,go_sem,and_assoc,h1,h2,h4,h110,k5,k5',k4,k4',hz2,he]
    ·by_cases he:ks=[]
     ·subst he
      simp only[List.map_nil,List.length_nil] at h110
      by_cases hn:n=0
      ·subst hn
       simp[cR,st0,stG,i112,go_sem,and_assoc,h1,h2,h4,h110,k5,k5',k4,k4']
      ·rw[decide_eq_false hn] at hz
       simp[cR,st0,stG,i112,go_sem,and_assoc,h1,h2,h4,h110,k5,k5',k4,k4',hz,hn]
     ·rw[decide_eq_false he] at hz2
      simp[cR,st0,stG,i112,go_sem,and_assoc,h1,h2,h4,h110,k5,k5',k4,k4',hz2,he]
theorem Eb (k:Int) (t:List UInt8) (K V:IV) (ks:List (List UInt8)) (n:Nat) (hK:SlS K ks) (hV:SlN V n) (ht:t.length≤1099511627776) (hks:ks.length≤1099511627776) (hk:∀s,s∈ks→s.length≤1099511627776) (m:IM) :
  cw (.f 112) [.agg (vc k t K V)] m=some (.bool (eM k t ks n),m):=by
 obtain⟨e0,b0,a0,a1,a2⟩:=EN k t K V ks n hK hV m
 obtain⟨e1,l1,b1,c0,c1,c2,c3⟩:=DJ k t K V m e0 b0 a1 a2
 obtain⟨e2,l2,b2,d0,d1,d2,d3⟩:=DK k t K V m e1 l1 b1 c1 c2 c3
 obtain⟨e3,l3,b3,f0,f1,f2⟩:=EE k t ht K V m e2 l2 b2 d1 d2 d3
 obtain⟨e4,l4,b4,g0,g1⟩:=EI k t K V ks n hK hV hks hk _ m e3 l3 b3 f1 f2
 have hr:=(sp rfl a0).trans ((sp rfl c0).trans ((sp rfl d0).trans ((sp rfl f0).trans g0)))
 rw[pN p112 f112 rfl (.inr rfl) hr]
 simp[i112,stG,go_sem,g1,eM]
end Go.Idl
namespace Go.Idl
attribute [local go_sem] oA gA vA wA nA fA dA eA oV oW oN oD oF IFn.call ICode.run aD IOp.run IOp.run0 gate IK.ok aG cE OTag.hits IK.run Arg.rd look au rdAll POp.ev dp fc fw fe fD fx fu fI ft fq fH fj bX fE fb bj St.put lkSlot lkL lkB lkC an aV IK.link bh bM St.drop St.capAt St.owner linkOf bV bb bI IV.refsDeep IV.refsDeep.go IV.refs IV.refs.go al IV.plain bN aq cH aT IV.cells IV.isU IV.isL cz cD over dn cut eqS aH bnd dN dW cX du dt bS aa aF dV dK aJ aC dy cy aK uqB aS St.head cN cQ bK cS
theorem C2 (a b c:Int) (m:IM):cw (.f 58) [.sl [.int .i64 a,.int .i64 b,.int .i64 c] 3] m=some (.int .i64 (if a=0 then (if b=0 then c else b) else a),m):=by
 unfold cw;rw[bf p58 f58]
 have e1:IntKind.i64.wrap 1=1:=by decide
 have e2:IntKind.i64.wrap 2=2:=by decide
 have e3:IntKind.i64.wrap 3=3:=by decide
 by_cases h:a=0
 ·subst h
  by_cases h2:b=0
  ·subst h2
   by_cases h3:c=0
   ·subst h3
    simp[i58,go_sem,cM,wN,yN,t7,uH,e1,e2,e3]
   ·have hc:(c != 0)=true:=by simpa using h3
    simp[i58,go_sem,cM,wN,yN,t7,uH,e1,e2,e3,hc]
  ·have hb:(b != 0)=true:=by simpa using h2
   simp[i58,go_sem,cM,wN,yN,t7,uH,e1,e2,e3,hb,h2]
 ·have hb:(a != 0)=true:=by simpa using h
  simp[i58,go_sem,cM,wN,yN,t7,uH,e1,e2,e3,hb,h]
def ll (k:Int) (t:List UInt8) (ks:List (List UInt8)):Bool:=(decide (k=2)&&decide (60<t.length))||decide (1000<t.length)||ks.any fun s=>decide (1000<s.length)
def oH:List (List UInt8)→List (List UInt8)→Bool
 |_,[]=>false
 |seen,x::r=>decide (x∈seen)||oH (seen++[x]) r
def lE (k:Int) (t:List UInt8) (ks:List (List UInt8)) (n:Nat):Int :=
 if k<0∨6≤k then 11 else if eM k t ks n=false then 1 else if ll k t ks=true then 20 else if k=5∧ks.length≠n then 2 else if oH [] ks=true then 7 else 0
theorem f84:tab.fns 84=some i84:=by rfl
theorem p84:ae 84=none:=by rfl
theorem sK:lj.keep=[(5,0),(62,0),(63,0),(64,0)]:=rfl
theorem na:lj.keepL=[]:=rfl
theorem ns:lj.ownL=[]:=rfl
theorem G6 (k:Int) (t:List UInt8) (K V:IV) (ks:List (List UInt8)) (n:Nat) (hK:SlS K ks) (hV:SlN V n) (m:IM) :
  ∃e b,db (cL i84.body) (st0 (bV 0 [.agg (vc k t K V)]) m)=some (.normal,stG e [] b m)∧VB e b 1 k t K V:=by
 rcases hK with ⟨rfl,rfl⟩ | rfl<;>rcases hV with ⟨rfl,rfl⟩ | ⟨row,rfl⟩<;>simp[cL,st0,stG,i84,go_sem,and_assoc,VB,vc]
theorem IZ (k:Int) (t:List UInt8) (K V:IV) (m:IM) (e:Env) (b:List (Nat×BObj)) (h:VB e b 1 k t K V) :
  if k<0∨6≤k then ∃e' l' b',db (cL (cR i84.body)) (stG e [] b m)=some (.ret,stG e' l' b' m)∧look e' 2=some (.int .i64 11,.any)
  else ∃e' b',db (cL (cR i84.body)) (stG e [] b m)=some (.normal,stG e' [] b' m)∧VB e' b' 1 k t K V:=by
 obtain⟨h1,h2⟩:=h
 by_cases k0:k<0
 ·simp[cL,cR,st0,stG,i84,go_sem,and_assoc,VB,h1,h2,k0]
 ·by_cases k6:6≤k<;>simp[cL,cR,st0,stG,i84,go_sem,and_assoc,VB,h1,h2,k0,k6]
theorem Ih (k:Int) (t:List UInt8) (K V:IV) (ks:List (List UInt8)) (hK:SlS K ks) (hks:ks.length≤1099511627776) (m:IM) (e:Env) (b:List (Nat×BObj)) (h:VB e b 1 k t K V) :
  ∃e' l' b',db (cL (cR (cR i84.body))) (stG e [] b m)=some (.normal,stG e' l' b' m)∧VB e' b' 1 k t K V∧look e' 3=some (.bool (ll k t ks),.any)∧uqB l'=true:=by
 obtain⟨h1,h2⟩:=h
 have h110:=yx K ks hK 111 (fun s=>decide (1000<s.length)) hks m (fun s _=>EY s m)
 unfold cw at h110
 unfold ll
 generalize (ks.any fun s=>decide (1000<s.length))=A at *
 have g1:((60:Int)<(t.length:Int))=(60<t.length):=by simp;omega
 have g2:((1000:Int)<(t.length:Int))=(1000<t.length):=by simp;omega
 by_cases k2:k=2
 ·subst k2
  by_cases u1:60<t.length
  ·simp[cL,cR,st0,stG,i84,go_sem,and_assoc,VB,h1,h2,g1,u1]
  ·by_cases u2:1000<t.length
   ·omega
   ·rcases hK with ⟨rfl,rfl⟩ | rfl<;>simp[cL,cR,st0,stG,i84,go_sem,and_assoc,VB,h1,h2,g1,g2,u1,u2,h110]
 ·have k2':(k==2)=false:=by simpa using k2
  by_cases u2:1000<t.length
  ·simp[cL,cR,st0,stG,i84,go_sem,and_assoc,VB,h1,h2,g2,u2,k2,k2']
  ·rcases hK with ⟨rfl,rfl⟩ | rfl<;>simp[cL,cR,st0,stG,i84,go_sem,and_assoc,VB,h1,h2,g2,u2,k2,k2',h110]
def Ad (f lg sh:Bool):Int:=if f=false then 1 else if lg=true then 20 else if sh=true then 2 else 0
theorem G4 (k:Int) (t:List UInt8) (K V:IV) (ks:List (List UInt8)) (n:Nat) (hK:SlS K ks) (hV:SlN V n) (ht:t.length≤1099511627776) (hks:ks.length≤1099511627776) (hk:∀s,s∈ks→s.length≤1099511627776) (lg:Bool) (m:IM) (e:Env) (l:List (Nat×Loc)) (b:List (Nat×BObj)) (h:VB e b 1 k t K V) (h3:look e 3=some (.bool lg,.any)) (hu:uqB l=true) :
  ∃e' l' b',db (cL (cL (cR (cR (cR i84.body))))) (stG e l b m)=some (.normal,stG e' l' b' m)∧VB e' b' 1 k t K V∧look e' 4=some (.int .i64 (Ad (eM k t ks n) lg (decide (k=5)&&decide (ks.length≠n))),.any):=by
 obtain⟨h1,h2⟩:=h
 have h112:=Eb k t K V ks n hK hV ht hks hk m
 have h65:=GW
 have h58:=C2
 unfold cw at h112 h65 h58
 unfold vc at h112
 generalize eM k t ks n=f at *
 have hne:∀(a c:Nat),((a:Int) != (c:Int))=decide (a≠c):=fun a c=>by
  by_cases q:a=c
  ·subst q;simp
  ·rw[decide_eq_true q];simp;omega
 by_cases k5:k=5
 ·subst k5
  have hq:=hne ks.length n
  have hz0:((0:Int)=(n:Int))=(0=n):=by rw[eq_iff_iff];omega
  rcases hK with ⟨rfl,rfl⟩ | rfl<;>rcases hV with ⟨rfl,rfl⟩ | ⟨row,rfl⟩<;>cases f<;>cases lg <;>
  simp[cL,cR,st0,stG,i84,go_sem,and_assoc,VB,h1,h2,h3,hu,h112,h65,h58,Ad,hq,hz0]
 ·have k5':(k==5)=false:=by simpa using k5
  rcases hK with ⟨rfl,rfl⟩ | rfl<;>rcases hV with ⟨rfl,rfl⟩ | ⟨row,rfl⟩<;>cases f<;>cases lg <;>
  simp[cL,cR,st0,stG,i84,go_sem,and_assoc,VB,h1,h2,h3,hu,h112,h65,h58,Ad,k5,k5']
theorem DR (k:Int) (t:List UInt8) (K V:IV) (er:Int) (m:IM) (e:Env) (l:List (Nat×Loc)) (b:List (Nat×BObj)) (h:VB e b 1 k t K V) (h4:look e 4=some (.int .i64 er,.any)) :
  if er=0 then ∃e' l' b',db (cR (cL (cR (cR (cR i84.body))))) (stG e l b m)=some (.normal,stG e' l' b' m)∧VB e' b' 1 k t K V
  else ∃e' l' b',db (cR (cL (cR (cR (cR i84.body))))) (stG e l b m)=some (.ret,stG e' l' b' m)∧look e' 2=some (.int .i64 er,.any):=by
 obtain⟨h1,h2⟩:=h
 by_cases q:er=0
 ·subst q
  simp[cL,cR,st0,stG,i84,go_sem,and_assoc,VB,h1,h2,h4]
 ·have q':(er != 0)=true:=by simpa using q
  rw[if_neg q]
  simp[cL,cR,st0,stG,i84,go_sem,and_assoc,h4,q']
end Go.Idl
namespace Go.Idl
attribute [local go_sem] oA gA vA wA nA fA dA eA oV oW oN oD oF IFn.call ICode.run aD IOp.run IOp.run0 gate IK.ok aG cE OTag.hits IK.run Arg.rd look au rdAll POp.ev dp fc fw fe fD fx fu fI ft fq fH fj bX fE fb bj St.put lkSlot lkL lkB lkC an aV IK.link bh bM St.drop St.capAt St.owner linkOf bV bb bI IV.refsDeep IV.refsDeep.go IV.refs IV.refs.go al IV.plain bN aq cH aT IV.cells IV.isU IV.isL cz cD over dn cut eqS aH bnd dN dW cX du dt bS aa aF dV dK aJ aC dy cy aK uqB aS St.head cN cQ bK cS
def mapOf (ks:List (List UInt8)):List (IV×IV):=ks.map fun s=>(.str s,.bool true)
theorem rK (x:List UInt8):∀ks,ob .str (.str x) (mapOf ks)=some (if x∈ks then some (.bool true) else none)
 |[]=>rfl
 |y::r=>by
  have ih:=rK x r
  simp only[mapOf,List.map_cons,ob,mL] at ih ⊢
  by_cases h:x=y
  ·subst h;simp
  ·have h':(x==y)=false:=by simpa using h
   rw[h']
   simp only[List.mem_cons,h,false_or]
   exact ih
theorem sy (x:List UInt8):∀ks,x∉ks→qT .str (.str x) (.bool true) (mapOf ks)=some (mapOf (ks++[x]))
 |[],_=>rfl
 |y::r,h=>by
  have hx:x≠y:=fun e=>h (by simp[e])
  have hr:x∉r:=fun e=>h (by simp[e])
  have ih:=sy x r hr
  have h':(x==y)=false:=by simpa using hx
  simp only[mapOf,List.map_cons,qT,mL,h'] at ih ⊢
  rw[ih];rfl
theorem drop_cons {α:Type}{l:List α}{i:Nat}(h:i<l.length):l.drop i=l[i]::l.drop (i+1):=List.drop_eq_getElem_cons h
def S84 (bs:List BObj) (E:Nat) (ks:List (List UInt8)) (i:Nat):St:=st0 [(5,.map bs.length,.any),(62,.sl (ks.map .str) ks.length,.any),(63,.int .i64 (ks.length:Int),.any),(64,.int .i64 i,.any)] (MM bs [.map (mapOf (ks.take i))] E)
theorem L84 (bs:List BObj) (E:Nat) (ks:List (List UInt8)) (hb:ks.length≤1099511627776):∀(k i:Nat),ks.length=i+k →
  if oH (ks.take i) (ks.drop i)=true then ∃q e' b',lc tab ae lj j9 (some (S84 bs E ks i))=some (.ret,stG e' [] b' (MM bs [.map (mapOf q)] E))∧look e' 2=some (.int .i64 7,.any)
  else ∃q e' b',lc tab ae lj j9 (some (S84 bs E ks i))=some (.exit 0,stG e' [] b' (MM bs [.map (mapOf q)] E)):=by
 intro k
 induction k with
 |zero =>
  intro i hk
  have e:ks.drop i=[]:=List.drop_eq_nil_iff.2 (by omega)
  have c1:¬(i:Int)<(ks.length:Int):=by omega
  rw[e,cM]
  simp only[oH,Bool.false_eq_true,if_false]
  refine⟨ks.take i,?_⟩
  simp only[S84,st0,stG]
  generalize mapOf (ks.take i)=Q
  generalize ks.map IV.str=R at *
  generalize ks.length=n at *
  simp[j9,sK,na,ns,go_sem,c1]
 |succ k ih =>
  intro i hk
  have hi:i<ks.length:=by omega
  have c1:(i:Int)<(ks.length:Int):=by omega
  have c3:(0:Int)≤(i:Int):=by omega
  have hg:=vd hi
  have hl:i+1≤(ks.map IV.str).length:=by rw[List.length_map];omega
  have hf:=rK ks[i] (ks.take i)
  have ht:ks.take (i+1)=ks.take i++[ks[i]]:=by rw[List.take_add_one];simp[hi]
  rw[drop_cons hi,oH]
  by_cases hm:ks[i]∈ks.take i
  ·rw[if_pos hm] at hf
   rw[decide_eq_true hm,Bool.true_or,if_pos rfl,cM]
   refine⟨ks.take i,?_⟩
   simp only[S84,st0,stG]
   generalize mapOf (ks.take i)=Q at *
   generalize ks[i]=x at *
   generalize ks.map IV.str=R at *
   generalize ks.length=n at *
   generalize lc tab ae lj j9=L
   simp[j9,sK,na,ns,go_sem,c1,c3,hg,hl,kL,hf,and_assoc]
  ·rw[if_neg hm] at hf
   have hu:=sy ks[i] (ks.take i) hm
   rw[←ht] at hu
   have e1:IntKind.i64.wrap ((i:Int)+1)=((i+1:Nat):Int):=by rw[w64 (by omega) (by omega)];rfl
   have step:lc tab ae lj j9 (some (S84 bs E ks i))=lc tab ae lj j9 (some (S84 bs E ks (i+1))):=by
    rw[cM]
    simp only[S84,st0,stG]
    generalize hj:i+1=j at *
    generalize mapOf (ks.take i)=Q at *
    generalize mapOf (ks.take j)=Q' at *
    generalize ks[i]=x at *
    generalize ks.map IV.str=R at *
    generalize ks.length=n at *
    generalize lc tab ae lj j9=L
    simp[j9,sK,na,ns,go_sem,c1,c3,hg,hl,kL,mW,hf,hu,e1,hj]
   rw[step,decide_eq_false hm,Bool.false_or,←ht]
   exact ih (i+1) (by omega)
end Go.Idl
namespace Go.Idl
attribute [local go_sem] oA gA vA wA nA fA dA eA oV oW oN oD oF IFn.call ICode.run aD IOp.run IOp.run0 gate IK.ok aG cE OTag.hits IK.run Arg.rd look au rdAll POp.ev dp fc fw fe fD fx fu fI ft fq fH fj bX fE fb bj St.put lkSlot lkL lkB lkC an aV IK.link bh bM St.drop St.capAt St.owner linkOf bV bb bI IV.refsDeep IV.refsDeep.go IV.refs IV.refs.go al IV.plain bN aq cH aT IV.cells IV.isU IV.isL cz cD over dn cut eqS aH bnd dN dW cX du dt bS aa aF dV dK aJ aC dy cy aK uqB aS St.head cN cQ bK cS
theorem H0 (k:Int) (t:List UInt8) (K V:IV) (bs:List BObj) (E:Nat) (e:Env) (l:List (Nat×Loc)) (b:List (Nat×BObj)) (h:VB e b 1 k t K V) :
  ∃e' l' b',db (cL (cR (cR (cR (cR i84.body))))) (stG e l b (MM bs [] E))=some (.normal,stG e' l' b' (MM bs [.map []] E))∧VB e' b' 1 k t K V∧look e' 5=some (.map bs.length,.any):=by
 obtain⟨h1,h2⟩:=h
 simp[cL,cR,st0,stG,i84,go_sem,and_assoc,VB,h1,h2,pe,oP]
theorem IB (k:Int) (t:List UInt8) (K V:IV) (ks:List (List UInt8)) (hK:SlS K ks) (hks:ks.length≤1099511627776) (bs:List BObj) (E:Nat) (e:Env) (l:List (Nat×Loc)) (b:List (Nat×BObj)) (h:VB e b 1 k t K V) (h5:look e 5=some (.map bs.length,.any)) :
  if oH [] ks=true then ∃q e' l' b',db (cL (cR (cR (cR (cR (cR i84.body)))))) (stG e l b (MM bs [.map []] E))=some (.ret,stG e' l' b' (MM bs [.map (mapOf q)] E))∧look e' 2=some (.int .i64 7,.any)
  else ∃q e' l' b',db (cL (cR (cR (cR (cR (cR i84.body)))))) (stG e l b (MM bs [.map []] E))=some (.normal,stG e' l' b' (MM bs [.map (mapOf q)] E)):=by
 obtain⟨h1,h2⟩:=h
 rcases hK with ⟨rfl,rfl⟩ | rfl
 ·rw[if_neg (by simp[oH])]
  refine⟨[],?_⟩
  simp[cL,cR,st0,stG,i84,go_sem,and_assoc,h1,h2,h5,cM,j9,sK,na,ns,mapOf]
 ·have q:=L84 bs E ks hks ks.length 0 (by omega)
  simp only[List.take_zero,List.drop_zero] at q
  by_cases hd:oH [] ks=true
  ·rw[if_pos hd] at q ⊢
   obtain⟨s,e',b',q0,q1⟩:=q
   refine⟨s,?_⟩
   simp only[S84,st0,stG,List.take_zero] at q0
   rw[show ((0:Nat):Int)=0 from rfl,show mapOf []=[] from rfl] at q0
   generalize mapOf s=Q at *
   generalize ks.map IV.str=R at *
   generalize ks.length=n at *
   simp[cL,cR,st0,stG,i84,go_sem,and_assoc,h1,h2,h5,sK,na,ns,q0,q1]
  ·rw[if_neg hd] at q ⊢
   obtain⟨s,e',b',q0⟩:=q
   refine⟨s,?_⟩
   simp only[S84,st0,stG,List.take_zero] at q0
   rw[show ((0:Nat):Int)=0 from rfl,show mapOf []=[] from rfl] at q0
   generalize mapOf s=Q at *
   generalize ks.map IV.str=R at *
   generalize ks.length=n at *
   simp[cL,cR,st0,stG,i84,go_sem,and_assoc,h1,h2,h5,sK,na,ns,q0]
theorem H7 (m:IM) (e:Env) (l:List (Nat×Loc)) (b:List (Nat×BObj)) :
  ∃e' l' b',db (cR (cR (cR (cR (cR (cR i84.body)))))) (stG e l b m)=some (.ret,stG e' l' b' m)∧look e' 2=some (.int .i64 0,.any):=by
 simp[cL,cR,st0,stG,i84,go_sem,and_assoc]
theorem GJ (k:Int) (t:List UInt8) (K V:IV) (ks:List (List UInt8)) (n:Nat) (hK:SlS K ks) (hV:SlN V n) (ht:t.length≤1099511627776) (hks:ks.length≤1099511627776) (hk:∀s,s∈ks→s.length≤1099511627776) (m:IM) :
  cw (.f 84) [.agg (vc k t K V)] m=some (.int .i64 (lE k t ks n),m):=by
 rw[Cr m]
 generalize m.bs=bs
 generalize m.esc=E
 have main:∃L e l b,db i84.body (st0 (bV 0 [.agg (vc k t K V)]) (MM bs [] E))=some (.ret,stG e l b (MM bs L E))∧look e 2=some (.int .i64 (lE k t ks n),.any):=by
  obtain⟨e0,b0,a0,a1⟩:=G6 k t K V ks n hK hV (MM bs [] E)
  have h1:=IZ k t K V (MM bs [] E) e0 b0 a1
  unfold lE
  by_cases g1:k<0∨6≤k
  ·rw[if_pos g1] at h1 ⊢
   obtain⟨e1,l1,b1,c0,c1⟩:=h1
   exact⟨_,_,_,_,(sp rfl a0).trans (lK rfl c0),c1⟩
  ·rw[if_neg g1] at h1 ⊢
   obtain⟨e1,b1,c0,c1⟩:=h1
   obtain⟨e2,l2,b2,d0,d1,d2,d3⟩:=Ih k t K V ks hK hks (MM bs [] E) e1 b1 c1
   obtain⟨e3,l3,b3,f0,f1,f2⟩:=G4 k t K V ks n hK hV ht hks hk _ (MM bs [] E) e2 l2 b2 d1 d2 d3
   have h3b:=DR k t K V _ (MM bs [] E) e3 l3 b3 f1 f2
   have hr3:=(sp (c:=i84.body) rfl a0).trans ((sp rfl c0).trans (sp rfl d0))
   have ho:Ad (eM k t ks n) (ll k t ks) (decide (k=5)&&decide (ks.length≠n))=if eM k t ks n=false then 1 else if ll k t ks=true then 20 else if k=5∧ks.length≠n then 2 else 0:=by
    unfold Ad
    by_cases u:k=5∧ks.length≠n
    ·simp[u]
    ·by_cases v:k=5
     ·have:ks.length=n:=by
       by_cases w:ks.length=n
       ·exact w
       ·exact absurd ⟨v,w⟩ u
      simp[v,this]
     ·simp[v]
   by_cases hz:Ad (eM k t ks n) (ll k t ks) (decide (k=5)&&decide (ks.length≠n))=0
   ·rw[if_pos hz] at h3b
    obtain⟨e4,l4,b4,g0,g1'⟩:=h3b
    rw[ho] at hz
    obtain⟨e5,l5,b5,u0,u1,u2⟩:=H0 k t K V bs E e4 l4 b4 g1'
    have h5:=IB k t K V ks hK hks bs E e5 l5 b5 u1 u2
    have hf:eM k t ks n=true:=by
     by_cases w:eM k t ks n=false
     ·rw[if_pos w] at hz;cases hz
     ·simpa using w
    have hl:¬ll k t ks=true:=by
     intro w
     rw[if_neg (by simp[hf]),if_pos w] at hz;cases hz
    have hsh:¬(k=5∧ks.length≠n):=by
     intro w
     rw[if_neg (by simp[hf]),if_neg hl,if_pos w] at hz;cases hz
    rw[if_neg (by simp[hf]),if_neg hl,if_neg hsh]
    have hr5:=hr3.trans ((sp rfl ((sp rfl f0).trans g0)).trans (sp rfl u0))
    by_cases hd:oH [] ks=true
    ·rw[if_pos hd] at h5 ⊢
     obtain⟨q,e6,l6,b6,w0,w1⟩:=h5
     exact⟨_,_,_,_,hr5.trans (lK rfl w0),w1⟩
    ·rw[if_neg hd] at h5 ⊢
     obtain⟨q,e6,l6,b6,w0⟩:=h5
     obtain⟨e7,l7,b7,x0,x1⟩:=H7 (MM bs [.map (mapOf q)] E) e6 l6 b6
     exact⟨_,_,_,_,hr5.trans ((sp rfl w0).trans x0),x1⟩
   ·rw[if_neg hz] at h3b
    obtain⟨e4,l4,b4,g0,g1'⟩:=h3b
    refine⟨_,_,_,_,hr3.trans (lK rfl ((sp rfl f0).trans g0)),?_⟩
    rw[g1',ho]
    rw[ho] at hz
    by_cases w:eM k t ks n=false
    ·simp[w]
    ·by_cases w2:ll k t ks=true
     ·simp[w,w2]
     ·by_cases w3:k=5∧ks.length≠n
      ·simp[w,w2,w3]
      ·rw[if_neg w,if_neg w2,if_neg w3] at hz;exact absurd rfl hz
 obtain⟨L,e,l,b,q0,q1⟩:=main
 rw[pN p84 f84 rfl (.inr rfl) q0]
 simp[i84,stG,go_sem,q1,iA]
end Go.Idl
namespace Go.Idl
attribute [local go_sem] oA gA vA wA nA fA dA eA oV oW oN oD oF IFn.call ICode.run aD IOp.run IOp.run0 gate IK.ok aG cE OTag.hits IK.run Arg.rd look au rdAll POp.ev dp fc fw fe fD fx fu fI ft fq fH fj bX fE fb bj St.put lkSlot lkL lkB lkC an aV IK.link bh bM St.drop St.capAt St.owner linkOf bV bb bI IV.refsDeep IV.refsDeep.go IV.refs IV.refs.go al IV.plain bN aq cH aT IV.cells IV.isU IV.isL cz cD over dn cut eqS aH bnd dN dW cX du dt bS aa aF dV dK aJ aC dy cy aK uqB aS St.head cN cQ bK cS
end Go.Idl
namespace Go.Idl
attribute [local go_sem] oA gA vA wA nA fA dA eA oV oW oN oD oF IFn.call ICode.run aD IOp.run IOp.run0 gate IK.ok aG cE OTag.hits IK.run Arg.rd look au rdAll POp.ev dp fc fw fe fD fx fu fI ft fq fH fj bX fE fb bj St.put lkSlot lkL lkB lkC an aV IK.link bh bM St.drop St.capAt St.owner linkOf bV bb bI IV.refsDeep IV.refsDeep.go IV.refs IV.refs.go al IV.plain bN aq cH aT IV.cells IV.isU IV.isL cz cD over dn cut eqS aH bnd dN dW cX du dt bS aa aF dV dK aJ aC dy cy aK uqB aS St.head cN cQ bK cS
end Go.Idl
namespace Go.Idl
attribute [local go_sem] oA gA vA wA nA fA dA eA oV oW oN oD oF IFn.call ICode.run aD IOp.run IOp.run0 gate IK.ok aG cE OTag.hits IK.run Arg.rd look au rdAll POp.ev dp fc fw fe fD fx fu fI ft fq fH fj bX fE fb bj St.put lkSlot lkL lkB lkC an aV IK.link bh bM St.drop St.capAt St.owner linkOf bV bb bI IV.refsDeep IV.refsDeep.go IV.refs IV.refs.go al IV.plain bN aq cH aT IV.cells IV.isU IV.isL cz cD over dn cut eqS aH bnd dN dW cX du dt bS aa aF dV dK aJ aC dy cy aK uqB aS St.head cN cQ bK cS
end Go.Idl
namespace Go.Idl
attribute [local go_sem] oA gA vA wA nA fA dA eA oV oW oN oD oF IFn.call ICode.run aD IOp.run IOp.run0 gate IK.ok aG cE OTag.hits IK.run Arg.rd look au rdAll POp.ev dp fc fw fe fD fx fu fI ft fq fH fj bX fE fb bj St.put lkSlot lkL lkB lkC an aV IK.link bh bM St.drop St.capAt St.owner linkOf bV bb bI IV.refsDeep IV.refsDeep.go IV.refs IV.refs.go al IV.plain bN aq cH aT IV.cells IV.isU IV.isL cz cD over dn cut eqS aH bnd dN dW cX du dt bS aa aF dV dK aJ aC dy cy aK uqB aS St.head cN cQ bK cS
end Go.Idl
