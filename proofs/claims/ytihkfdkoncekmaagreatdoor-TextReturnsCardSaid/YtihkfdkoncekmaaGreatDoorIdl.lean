/- This text proves what the interpreter returns at the functions for strings, numbers and fields of values; it has no conditions. -/
import Derived.Test.YtihkfdkoncekmaaGreatDoorIdg
import Derived.KernelRfl
import Derived.Test.YtihkfdkoncekmaaGreatDoorIde
import Derived.Test.YtihkfdkoncekmaaGreatDoorIda
set_option linter.unusedSimpArgs false
set_option linter.unusedVariables false
namespace Go.Idl
def AG:Option (IV×IM)→Bool
 |some (.bool true,⟨[],0⟩)=>true
 |_=>false
theorem Q0:AG ((jc da al 400).call (.f 10) [] ⟨[],0⟩)=true:=by kernel_rfl
end Go.Idl
namespace Go.Idl
noncomputable abbrev cw:=fR da al
def Ok (m:IM) (v:IV):Option (IV×IM):=settle m m v
theorem du {m:IM}{v:IV}:settle m m v=if v.ak=some 0 then some (v,m) else Ok m v:=by
 split
 ·rename_i h;unfold settle;simp[h,aK,IM.size]
 ·rfl
theorem w64 {x:Int}(h1:-9223372036854775808≤x) (h2:x≤9223372036854775807):IntKind.i64.wrap x=x:=by simp only[IntKind.wrap,IntKind.bits,IntKind.signed];simp;split<;>omega
theorem w32 {x:Int}(h1:-2147483648≤x) (h2:x≤2147483647):IntKind.i32.wrap x=x:=by simp only[IntKind.wrap,IntKind.bits,IntKind.signed];simp;split<;>omega
theorem w8 {x:Int}(h1:0≤x) (h2:x≤255):IntKind.u8.wrap x=x:=by simp only[IntKind.wrap,IntKind.bits,IntKind.signed];simp;omega
theorem iw {k:IntKind}{a b:Int}:ix .add k a b=some (.int k (k.wrap (a+b))):=rfl
theorem iO {k:IntKind}{a b:Int}:ix .sub k a b=some (.int k (k.wrap (a-b))):=rfl
theorem iK {k:IntKind}{a b:Int}:ix .mul k a b=some (.int k (k.wrap (a*b))):=rfl
theorem iM {k:IntKind}{a b:Int}:ix .quo k a b=if b=0 then none else some (.int k (k.wrap (a.tdiv b))):=rfl
theorem iN {k:IntKind}{a b:Int}:ix .rem k a b=if b=0 then none else some (.int k (a.tmod b)):=rfl
theorem iJ {k:IntKind}{a b:Int}:ix .lss k a b=some (.bool (decide (a<b))):=rfl
theorem iI {k:IntKind}{a b:Int}:ix .leq k a b=some (.bool (decide (a≤b))):=rfl
theorem iH {k:IntKind}{a b:Int}:ix .gtr k a b=some (.bool (decide (b<a))):=rfl
theorem iG {k:IntKind}{a b:Int}:ix .geq k a b=some (.bool (decide (b≤a))):=rfl
theorem iF {k:IntKind}{a b:Int}:ix .eql k a b=some (.bool (a==b)):=rfl
theorem iL {k:IntKind}{a b:Int}:ix .neq k a b=some (.bool (a != b)):=rfl
theorem iW {a:Int}:E3 .shl .i64 a 6=some (.int .i64 (IntKind.i64.wrap (a*64))):=rfl
attribute [local go_sem] oA gA vA wA nA fA dA eA oV oW oN oD oF dJ.call aq.run bm dh.run dh.fF gate IK.ok bq eE cW.gC IK.run Arg.rd look aQ de dW.ev eX iw iO iK iM iN iJ iI iH iG iF iL dN iW iA c7 St.put aR kU kT je aK ck IK.link c8 dy St.drop St.dn St.owner aU dQ cY du IV.ak IV.ak.go IV.refs IV.refs.go aC IV.plain dC aM eJ cf IV.cells IV.nd IV.jO dT dY over fe cut lx bo mx fO f9 eZ fm fl dG ah bp ga fK bK bh ft dU bu j8 bY St.head eN eM dp eR
def bT (n:Int):Bool:=decide (0≤n)&&decide (n≤1114111)&&(decide (n<55296)||decide (57343<n))
theorem f56:da.fns 56=some i56:=by rfl
theorem p56:al 56=none:=by rfl
theorem D4 (n:Int) (m:IM):cw (.f 56) [.int .i64 n] m=some (.bool (bT n),m):=by
 unfold cw;rw[dd p56 f56];by_cases h1:0≤n<;>by_cases h2:n≤1114111<;>by_cases h3:n<55296<;>by_cases h4:57343<n <;>
 simp[i56,go_sem,bT,h1,h2,h3,h4]
def fV (n:Nat):List UInt8 :=
 if n<128 then [UInt8.ofNat n]
 else if n<2048 then [UInt8.ofNat (192+n/64),UInt8.ofNat (128+n%64)]
 else if n<65536 then [UInt8.ofNat (224+n/4096),UInt8.ofNat (128+n/64%64),UInt8.ofNat (128+n%64)]
 else [UInt8.ofNat (240+n/262144),UInt8.ofNat (128+n/4096%64),UInt8.ofNat (128+n/64%64),UInt8.ofNat (128+n%64)]
theorem tm {a b:Int}(h:0≤a):a.tmod b=a%b:=Int.tmod_eq_emod_of_nonneg h
theorem ov (n:Nat) (h:bT n=true):(Utf8.encode n).data.toList=fV n:=by
 have hv:Utf8.valid (n:Int)=true:=by simp[bT,Utf8.valid] at h ⊢;omega
 simp only[Utf8.encode,hv,if_true,Int.toNat_natCast,fV];split
 ·rfl
 ·split
  ·rfl
  ·split<;>rfl
theorem f39:da.fns 39=some i39:=by rfl
theorem p39:al 39=none:=by rfl
theorem Q5 (n:Nat) (h:n≤1114111) (m:IM):cw (.f 39) [.int .i64 (n:Int)] m=some (.str (Utf8.encode n).data.toList,m):=by unfold cw;rw[dd p39 f39];simp (disch:=omega) [i39,go_sem,w32]
theorem f27:da.fns 27=some i27:=by rfl
theorem p27:al 27=none:=by rfl
theorem Q3 (n:Int) (m:IM):cw (.f 27) [.int .i64 n] m=some (if bT n then .db [.str (Utf8.encode n).data.toList,.int .i64 0] else .db [.str [],.int .i64 3],m):=by
 unfold cw;rw[dd p27 f27]
 cases hp:bT n with
 |false=>simp (disch:=omega) [i27,go_sem,D4,hp]
 |true =>
  have hn:0≤n∧n≤1114111:=by simp[bT] at hp;omega
  obtain⟨k,rfl⟩:∃k:Nat,n=k:=⟨n.toNat,by omega⟩
  simp (disch:=omega) [i27,go_sem,D4,hp,Q5]
end Go.Idl
namespace Go.Idl
attribute [local go_sem] oA gA vA wA nA fA dA eA oV oW oN oD oF dJ.call aq.run bm dh.run dh.fF gate IK.ok bq eE cW.gC IK.run Arg.rd look aQ de dW.ev eX iw iO iK iM iN iJ iI iH iG iF iL dN iW iA c7 St.put aR kU kT je aK ck IK.link c8 dy St.drop St.dn St.owner aU dQ cY du IV.ak IV.ak.go IV.refs IV.refs.go aC IV.plain dC aM eJ cf IV.cells IV.nd IV.jO dT dY over fe cut lx bo mx fO f9 eZ fm fl dG ah bp ga fK bK bh ft dU bu j8 bY St.head eN eM dp eR
set_option maxRecDepth 10000 in
theorem T7 (b:UInt8):ix .and .u8 (b.toNat:Int) 63=some (.int .u8 ((b.toNat%64:Nat):Int)):=by
 have:∀n:Nat,n<256→IntKind.u8.wrap ((BitVec.ofInt 8 (n:Int) &&& BitVec.ofInt 8 63).toNat:Int)=((n%64:Nat):Int):=by decide
 show some (IV.int .u8 (IntKind.u8.wrap ((BitVec.ofInt 8 (b.toNat:Int) &&& BitVec.ofInt 8 63).toNat:Int)))=_;rw[this b.toNat b.toNat_lt]
theorem WR (p x:Nat) (h1:p<2^50) (h2:x<64):ix .or .i64 ((p:Int)*64) (x:Int)=some (.int .i64 ((p*64+x:Nat):Int)):=by
 show some (IV.int .i64 (IntKind.i64.wrap ((BitVec.ofInt 64 ((p:Int)*64) ||| BitVec.ofInt 64 (x:Int)).toNat:Int)))=_;have e1:((p:Int)*64)=((p*64:Nat):Int):=by omega
 have e2:(BitVec.ofInt 64 ((p*64:Nat):Int) ||| BitVec.ofInt 64 ((x:Nat):Int)).toNat=p*64+x:=by rw[BitVec.toNat_or,BitVec.ofInt_natCast,BitVec.ofInt_natCast,BitVec.toNat_ofNat,BitVec.toNat_ofNat,Nat.mod_eq_of_lt (by omega),Nat.mod_eq_of_lt (by omega)];have:=Nat.shiftLeft_add_eq_or_of_lt (i:=6) (b:=x) (by omega) p;rw[Nat.shiftLeft_eq] at this;exact this.symm
 rw[e1,e2,w64 (by omega) (by omega)]
def my (s:List UInt8) (lo hi:Nat):Nat→Nat→Nat→Nat×Nat
 |0,n,p=>(n,p)
 |k+1,n,p=>match s[n]? with
  |none=>(n,p)
  |some b=>if b.toNat<(if n=1 then lo else 128)∨(if n=1 then hi else 191)<b.toNat then (n,p) else my s lo hi k (n+1) (p*64+b.toNat%64)
theorem KM:wQ.AK=[(0,0),(2,0),(4,0),(5,0),(6,0)]:=rfl
theorem Ep:wQ.eC=[0,1]:=rfl
theorem Er:wQ.Bb=[]:=rfl
theorem Cs:oz.AK=[(0,0),(2,0),(9,0),(10,0)]:=rfl
theorem xa:oz.eC=[0]:=rfl
theorem xc:oz.Bb=[]:=rfl
def vP (s:List UInt8) (n p a b size lo hi:Nat) (fv:IV) (m:IM):St where
 env:=[(0,.str s,.any),(2,.pL 0 0,.any),(4,.pL 1 0,.any),(5,.int .i64 p,.any),(6,.int .i64 n,.any)]
 lk:=[]
 lb:=[(0,.cells [.int .i64 0,.bool false,.int .i64 0] [.any,.any,.any]),(1,.cells [.int .u8 a,.int .u8 b,.int .i64 size,.int .u8 lo,.int .u8 hi,fv] [.any,.any,.any,.any,.any,.any])]
 m:=m
theorem Wu (s:List UInt8) (a b size lo hi:Nat) (fv:IV) (m:IM) (hs:size≤4):∀(k n p:Nat),size=n+k→1≤n→n≤s.length→(p+1)*64^k≤2^31 →
  ∃e',lc da al wQ nU (some (vP s n p a b size lo hi fv m))=some (.exit 2,{ env:=e',lk:=[],lb:=(vP s n p a b size lo hi fv m).lb,m:=m }) ∧
   look e' 0=some (.str s,.any)∧look e' 2=some (.pL 0 0,.any)∧look e' 4=some (.pL 1 0,.any)∧look e' 5=some (.int .i64 ((my s lo hi k n p).2:Nat),.any)∧look e' 6=some (.int .i64 ((my s lo hi k n p).1:Nat),.any):=by
 intro k
 induction k with
 |zero =>
  intro n p hk h1 h2 h3;rw[eG];have c1:¬((n:Int)<(size:Int)):=by omega
  simp[nU,vP,go_sem,c1,my]
 |succ k ih =>
  intro n p hk h1 h2 h3;rw[eG];have c1:(n:Int)<(size:Int):=by omega
  cases hb:s[n]? with
  |none =>
   have c2:¬((n:Int)<(s.length:Int)):=by have:=List.getElem?_eq_none_iff.1 hb;omega
   simp[nU,vP,go_sem,c1,c2,my,hb]
  |some c =>
   have c2:(n:Int)<(s.length:Int):=by have:=(List.getElem?_eq_some_iff.1 hb).1;omega
   have hp:p<2^31:=by have:1≤64^(k+1):=Nat.one_le_pow _ _ (by omega);have:=Nat.mul_le_mul_left (p+1) this;omega
   have hstep:(p*64+c.toNat%64+1)*64^k≤2^31:=by
    have:(p*64+c.toNat%64+1)*64^k≤((p+1)*64)*64^k:=Nat.mul_le_mul_right _ (by omega);rw[Nat.pow_succ] at h3;have e:(p+1)*64*64^k=(p+1)*(64^k*64):=by rw[Nat.mul_assoc,Nat.mul_comm 64]
    omega
   have hlen:n+1≤s.length:=by omega
   have ih':=ih (n+1) (p*64+c.toNat%64) (by omega) (by omega) hlen hstep;have e64:IntKind.i64.wrap ((p:Int)*64)=(p:Int)*64:=w64 (by omega) (by omega);have e65:IntKind.i64.wrap ((n:Int)+1)=((n+1:Nat):Int):=by rw[w64 (by omega) (by omega)];rfl
   have o1:=WR p (c.toNat%64) (by omega) (by omega);have a1:=T7 c;have e66:IntKind.i64.wrap ((c.toNat%64:Nat):Int)=((c.toNat%64:Nat):Int):=w64 (by omega) (by omega);have tn:(n:Int).toNat=n:=by omega
   have c3b:n=1→((n:Int)==1)=true:=fun h=>by subst h;rfl
   have c3f:n≠1→((n:Int)==1)=false:=fun h=>by simp;omega
   by_cases hl:c.toNat<(if n=1 then lo else 128)∨(if n=1 then hi else 191)<c.toNat
   ·have hinn:my s lo hi (k+1) n p=(n,p):=by simp only[my,hb,if_pos hl]
    rw[hinn];by_cases hn:n=1
    ·simp only[hn,if_true] at hl;have c3:=c3b hn;by_cases g1:c.toNat<lo
     ·have g1':(c.toNat:Int)<(lo:Int):=by omega
      simp[nU,vP,go_sem,c1,c2,c3,hb,g1']
     ·have g1':¬(c.toNat:Int)<(lo:Int):=by omega
      have g2':(hi:Int)<(c.toNat:Int):=by omega
      simp[nU,vP,go_sem,c1,c2,c3,hb,g1',g2']
    ·simp only[hn,if_false] at hl;have c3:=c3f hn;by_cases g1:c.toNat<128
     ·have g1':(c.toNat:Int)<128:=by omega
      simp[nU,vP,go_sem,c1,c2,c3,hb,g1']
     ·have g1':¬(c.toNat:Int)<128:=by omega
      have g2':(191:Int)<(c.toNat:Int):=by omega
      simp[nU,vP,go_sem,c1,c2,c3,hb,g1',g2']
   ·have hinn:my s lo hi (k+1) n p=my s lo hi k (n+1) (p*64+c.toNat%64):=by simp only[my,hb,if_neg hl]
    rw[hinn];obtain⟨e',q0,q1,q2,q3,q4,q5⟩:=ih';refine⟨e',?_,q1,q2,q3,q4,q5⟩;by_cases hn:n=1
    ·simp only[hn,if_true] at hl;have c3:=c3b hn;have g1:¬(c.toNat:Int)<(lo:Int):=by omega
     have g2:¬(hi:Int)<(c.toNat:Int):=by omega
     simp only[vP] at q0 ⊢;generalize lc da al wQ nU=L at q0 ⊢;simp[-Int.natCast_emod,-Int.natCast_add,-Int.natCast_mul,nU,KM,Ep,Er,go_sem,c1,c2,c3,hb,g1,g2,a1,e64,e65,e66,o1,q0]
    ·simp only[hn,if_false] at hl;have c3:=c3f hn;have g1:¬(c.toNat:Int)<128:=by omega
     have g2:¬(191:Int)<(c.toNat:Int):=by omega
     simp only[vP] at q0 ⊢;generalize lc da al wQ nU=L at q0 ⊢;simp[-Int.natCast_emod,-Int.natCast_add,-Int.natCast_mul,nU,KM,Ep,Er,go_sem,c1,c2,c3,hb,g1,g2,a1,e64,e65,e66,o1,q0]
def FC (R:List IV) (s:List UInt8) (k:Nat) (m:IM):St where
 env:=[(0,.str s,.any),(2,.pL 0 0,.any),(9,.agg R,.any),(10,.int .i64 k,.any)]
 lk:=[]
 lb:=[(0,.cells [.int .i64 0,.bool false,.int .i64 0] [.any,.any,.any])]
 m:=m
theorem RI (R:List IV) (c:UInt8) (t:List UInt8) (k fr to sz lo hi f:Nat) (m:IM) (hk:k<9) (hl:k*6+6≤R.length) (hd:(R.drop (k*6)).take 6=[.int .u8 fr,.int .u8 to,.int .i64 sz,.int .u8 lo,.int .u8 hi,.func f [] []])
  (h:c.toNat<fr∨to<c.toNat):lc da al oz nV (some (FC R (c::t) k m))=lc da al oz nV (some (FC R (c::t) (k+1) m)):=by
 rw[eG];generalize lc da al oz nV=L;have c1:(k:Int)<9:=by omega
 have c2:(0:Int)≤(k:Int):=by omega
 have e1:IntKind.i64.wrap ((k:Int)+1)=((k+1:Nat):Int):=by rw[w64 (by omega) (by omega)];rfl
 by_cases g1:c.toNat<fr
 ·have g1':(c.toNat:Int)<(fr:Int):=by omega
  simp[-Int.natCast_add,nV,Cs,xa,xc,FC,go_sem,c1,c2,hl,hd,g1',e1]
 ·have g1':¬(c.toNat:Int)<(fr:Int):=by omega
  have g2':(to:Int)<(c.toNat:Int):=by omega
  simp[-Int.natCast_add,nV,Cs,xa,xc,FC,go_sem,c1,c2,hl,hd,g1',g2',e1]
def i9 (s:List UInt8) (sz lo hi p:Nat):Nat×Nat:=my s lo hi (sz-1) 1 p
theorem Us (R:List IV) (c:UInt8) (t:List UInt8) (k fr to sz lo hi f p:Nat) (m:IM) (hk:k<9) (hl:k*6+6≤R.length) (hd:(R.drop (k*6)).take 6=[.int .u8 fr,.int .u8 to,.int .i64 sz,.int .u8 lo,.int .u8 hi,.func f [] []])
  (h:¬(c.toNat<fr∨to<c.toNat)) (hz:1≤sz∧sz≤4) (hp:p<128) (hf:cw (.f f) [.int .u8 (c.toNat:Int)] m=some (.int .i64 (p:Int),m)) :
  ∃e' lb',lc da al oz nV (some (FC R (c::t) k m))=some (.ret,{ env:=e',lk:=[],lb:=lb',m:=m })∧look e' 2=some (.pL 0 0,.any) ∧
   ∃cp,aQ lb' 0=.cells [.int .i64 ((i9 (c::t) sz lo hi p).1:Nat),.bool (decide ((i9 (c::t) sz lo hi p).1=sz)),.int .i64 ((i9 (c::t) sz lo hi p).2:Nat)] cp:=by
 obtain⟨e',q0,q1,q2,q3,q4,q5⟩:=Wu (c::t) fr to sz lo hi (.func f [] []) m hz.2 (sz-1) 1 p (by omega) (by omega) (by simp) (by
  have:sz-1=0∨sz-1=1∨sz-1=2∨sz-1=3:=by omega
  rcases this with q | q | q | q<;>rw[q]<;>omega)
 rw[eG];have c1:(k:Int)<9:=by omega
 have c2:(0:Int)≤(k:Int):=by omega
 have g1:¬(c.toNat:Int)<(fr:Int):=by omega
 have g2:¬(to:Int)<(c.toNat:Int):=by omega
 simp only[vP] at q0;rw[show ((1:Nat):Int)=1 from rfl] at q0;unfold cw at hf;have hb:((((my (c::t) lo hi (sz-1) 1 p).1:Nat):Int)==(sz:Int))=decide ((my (c::t) lo hi (sz-1) 1 p).1=sz):=by
  by_cases q:(my (c::t) lo hi (sz-1) 1 p).1=sz
  ·simp[q]
  ·simp only[q,decide_false,beq_eq_false_iff_ne];omega
 simp[i9,nV,Cs,xa,xc,KM,Ep,Er,FC,go_sem,c1,c2,hl,hd,g1,g2,hf,q0,q1,q2,q3,q4,q5,hb];exact⟨_,_,⟨rfl,rfl⟩,by simp[look,q2],_,rfl⟩
theorem Ls (R:List IV) (s:List UInt8) (m:IM):∃e',lc da al oz nV (some (FC R s 9 m))=some (.exit 0,{ env:=e',lk:=[],lb:=(FC R s 9 m).lb,m:=m })∧look e' 2=some (.pL 0 0,.any):=by rw[eG];simp[nV,FC,go_sem]
def gN (c:Nat):Option (Nat×Nat×Nat×Nat) :=
 if c≤127 then some (1,0,0,c)
 else if c<194 then none
 else if c≤223 then some (2,128,191,c%32)
 else if c=224 then some (3,160,191,c%16)
 else if c≤236 then some (3,128,191,c%16)
 else if c=237 then some (3,128,159,c%16)
 else if c≤239 then some (3,128,191,c%16)
 else if c=240 then some (4,144,191,c%8)
 else if c≤243 then some (4,128,191,c%8)
 else if c=244 then some (4,128,143,c%8)
 else none
def aI (s:List UInt8):Nat×Bool×Nat :=
 match s with
 |[]=>(0,false,0)
 |c::t=>match gN c.toNat with
  |none=>(0,false,0)
  |some (sz,lo,hi,p)=>let r:=i9 (c::t) sz lo hi p;(r.1,decide (r.1=sz),r.2)
def lp (r:Nat×Bool×Nat):IV:=.agg [.int .i64 r.1,.bool r.2.1,.int .i64 r.2.2]
set_option maxRecDepth 10000 in
theorem andM (b:UInt8):ix .and .u8 (b.toNat:Int) 31=some (.int .u8 ((b.toNat%32:Nat):Int))∧ix .and .u8 (b.toNat:Int) 15=some (.int .u8 ((b.toNat%16:Nat):Int))∧ix .and .u8 (b.toNat:Int) 7=some (.int .u8 ((b.toNat%8:Nat):Int)):=by
 have h1:∀n:Nat,n<256→IntKind.u8.wrap ((BitVec.ofInt 8 (n:Int) &&& BitVec.ofInt 8 31).toNat:Int)=((n%32:Nat):Int):=by decide
 have h2:∀n:Nat,n<256→IntKind.u8.wrap ((BitVec.ofInt 8 (n:Int) &&& BitVec.ofInt 8 15).toNat:Int)=((n%16:Nat):Int):=by decide
 have h3:∀n:Nat,n<256→IntKind.u8.wrap ((BitVec.ofInt 8 (n:Int) &&& BitVec.ofInt 8 7).toNat:Int)=((n%8:Nat):Int):=by decide
 have hb:=b.toNat_lt;refine⟨?_,?_,?_⟩
 ·show some (IV.int .u8 (IntKind.u8.wrap ((BitVec.ofInt 8 (b.toNat:Int) &&& BitVec.ofInt 8 31).toNat:Int)))=_;rw[h1 _ hb]
 ·show some (IV.int .u8 (IntKind.u8.wrap ((BitVec.ofInt 8 (b.toNat:Int) &&& BitVec.ofInt 8 15).toNat:Int)))=_;rw[h2 _ hb]
 ·show some (IV.int .u8 (IntKind.u8.wrap ((BitVec.ofInt 8 (b.toNat:Int) &&& BitVec.ofInt 8 7).toNat:Int)))=_;rw[h3 _ hb]
theorem f208:da.fns 208=some i208:=by rfl
theorem p208:al 208=none:=by rfl
theorem f209:da.fns 209=some i209:=by rfl
theorem p209:al 209=none:=by rfl
theorem f210:da.fns 210=some i210:=by rfl
theorem p210:al 210=none:=by rfl
theorem f211:da.fns 211=some i211:=by rfl
theorem p211:al 211=none:=by rfl
theorem Nh (b:UInt8) (m:IM):cw (.f 208) [.int .u8 (b.toNat:Int)] m=some (.int .i64 (b.toNat:Int),m):=by unfold cw;rw[dd p208 f208];have hb:=b.toNat_lt;simp (disch:=omega) [i208,go_sem,w64]
theorem Ni (b:UInt8) (m:IM):cw (.f 209) [.int .u8 (b.toNat:Int)] m=some (.int .i64 ((b.toNat%32:Nat):Int),m):=by unfold cw;rw[dd p209 f209];have hw:IntKind.i64.wrap ((b.toNat%32:Nat):Int)=((b.toNat%32:Nat):Int):=w64 (by omega) (by omega);simp[-Int.natCast_emod,i209,go_sem,(andM b).1,hw]
theorem uQ (b:UInt8) (m:IM):cw (.f 210) [.int .u8 (b.toNat:Int)] m=some (.int .i64 ((b.toNat%16:Nat):Int),m):=by unfold cw;rw[dd p210 f210];have hw:IntKind.i64.wrap ((b.toNat%16:Nat):Int)=((b.toNat%16:Nat):Int):=w64 (by omega) (by omega);simp[-Int.natCast_emod,i210,go_sem,(andM b).2.1,hw]
theorem Av (b:UInt8) (m:IM):cw (.f 211) [.int .u8 (b.toNat:Int)] m=some (.int .i64 ((b.toNat%8:Nat):Int),m):=by unfold cw;rw[dd p211 f211];have hw:IntKind.i64.wrap ((b.toNat%8:Nat):Int)=((b.toNat%8:Nat):Int):=w64 (by omega) (by omega);simp[-Int.natCast_emod,i211,go_sem,(andM b).2.2,hw]
def Found (c:UInt8) (t:List UInt8) (k:Nat) (m:IM) (r:Nat×Bool×Nat):Prop :=
 ∃e' lb',lc da al oz nV (some (FC pT (c::t) k m))=some (.ret,{ env:=e',lk:=[],lb:=lb',m:=m })∧look e' 2=some (.pL 0 0,.any) ∧
   ∃cp,aQ lb' 0=.cells [.int .i64 r.1,.bool r.2.1,.int .i64 r.2.2] cp
def I2 (c:UInt8) (t:List UInt8) (k:Nat) (m:IM):Prop :=
 ∃e',lc da al oz nV (some (FC pT (c::t) k m))=some (.exit 0,{ env:=e',lk:=[],lb:=(FC pT (c::t) 9 m).lb,m:=m })∧look e' 2=some (.pL 0 0,.any)
def VZ (c:UInt8) (t:List UInt8) (k:Nat) (m:IM):Option (Nat×Nat×Nat×Nat)→Prop
 |none=>I2 c t k m
 |some (sz,lo,hi,p)=>Found c t k m ((i9 (c::t) sz lo hi p).1,decide ((i9 (c::t) sz lo hi p).1=sz),(i9 (c::t) sz lo hi p).2)
theorem fM {c:UInt8}{t:List UInt8}{k:Nat}{m:IM}{o:Option (Nat×Nat×Nat×Nat)}(fr to sz lo hi f:Nat) (hk:k<9) (hl:k*6+6≤pT.length)
  (hd:(pT.drop (k*6)).take 6=[.int .u8 fr,.int .u8 to,.int .i64 sz,.int .u8 lo,.int .u8 hi,.func f [] []]) (h:c.toNat<fr∨to<c.toNat) (hr:VZ c t (k+1) m o):VZ c t k m o:=by
 have e:=RI pT c t k fr to sz lo hi f m hk hl hd h
 cases o with
 |none=>obtain⟨e',q1,q2⟩:=hr;exact⟨e',e.trans q1,q2⟩
 |some p =>obtain⟨sz,lo,hi,p⟩:=p;obtain⟨e',lb',q1,q2⟩:=hr;exact⟨e',lb',e.trans q1,q2⟩
theorem lF {c:UInt8}{t:List UInt8}{k:Nat}{m:IM}(fr to sz lo hi f p:Nat) (hk:k<9) (hl:k*6+6≤pT.length)
  (hd:(pT.drop (k*6)).take 6=[.int .u8 fr,.int .u8 to,.int .i64 sz,.int .u8 lo,.int .u8 hi,.func f [] []]) (h:fr≤c.toNat∧c.toNat≤to) (hz:1≤sz∧sz≤4) (hp:p<128)
  (hf:cw (.f f) [.int .u8 (c.toNat:Int)] m=some (.int .i64 (p:Int),m)):VZ c t k m (some (sz,lo,hi,p)) :=
 Us pT c t k fr to sz lo hi f p m hk hl hd (by omega) hz hp hf
theorem Vl (c:UInt8) (t:List UInt8) (m:IM):VZ c t 0 m (gN c.toNat):=by
 have hb:=c.toNat_lt;unfold gN;split
 ·exact lF 0 127 1 0 0 208 c.toNat (by decide) (by decide) rfl (by omega) (by omega) (by omega) (Nh c m)
 refine fM 0 127 1 0 0 208 (by decide) (by decide) rfl (by omega) ?_;split
 ·refine fM 194 223 2 128 191 209 (by decide) (by decide) rfl (by omega) ?_;refine fM 224 224 3 160 191 210 (by decide) (by decide) rfl (by omega) ?_;refine fM 225 236 3 128 191 210 (by decide) (by decide) rfl (by omega) ?_;refine fM 237 237 3 128 159 210 (by decide) (by decide) rfl (by omega) ?_;refine fM 238 239 3 128 191 210 (by decide) (by decide) rfl (by omega) ?_;refine fM 240 240 4 144 191 211 (by decide) (by decide) rfl (by omega) ?_;refine fM 241 243 4 128 191 211 (by decide) (by decide) rfl (by omega) ?_;refine fM 244 244 4 128 143 211 (by decide) (by decide) rfl (by omega) ?_;exact Ls pT (c::t) m
 split
 ·exact lF 194 223 2 128 191 209 (c.toNat%32) (by decide) (by decide) rfl (by omega) (by omega) (by omega) (Ni c m)
 refine fM 194 223 2 128 191 209 (by decide) (by decide) rfl (by omega) ?_;split
 ·exact lF 224 224 3 160 191 210 (c.toNat%16) (by decide) (by decide) rfl (by omega) (by omega) (by omega) (uQ c m)
 refine fM 224 224 3 160 191 210 (by decide) (by decide) rfl (by omega) ?_;split
 ·exact lF 225 236 3 128 191 210 (c.toNat%16) (by decide) (by decide) rfl (by omega) (by omega) (by omega) (uQ c m)
 refine fM 225 236 3 128 191 210 (by decide) (by decide) rfl (by omega) ?_;split
 ·exact lF 237 237 3 128 159 210 (c.toNat%16) (by decide) (by decide) rfl (by omega) (by omega) (by omega) (uQ c m)
 refine fM 237 237 3 128 159 210 (by decide) (by decide) rfl (by omega) ?_;split
 ·exact lF 238 239 3 128 191 210 (c.toNat%16) (by decide) (by decide) rfl (by omega) (by omega) (by omega) (uQ c m)
 refine fM 238 239 3 128 191 210 (by decide) (by decide) rfl (by omega) ?_;split
 ·exact lF 240 240 4 144 191 211 (c.toNat%8) (by decide) (by decide) rfl (by omega) (by omega) (by omega) (Av c m)
 refine fM 240 240 4 144 191 211 (by decide) (by decide) rfl (by omega) ?_;split
 ·exact lF 241 243 4 128 191 211 (c.toNat%8) (by decide) (by decide) rfl (by omega) (by omega) (by omega) (Av c m)
 refine fM 241 243 4 128 191 211 (by decide) (by decide) rfl (by omega) ?_;split
 ·exact lF 244 244 4 128 143 211 (c.toNat%8) (by decide) (by decide) rfl (by omega) (by omega) (by omega) (Av c m)
 refine fM 244 244 4 128 143 211 (by decide) (by decide) rfl (by omega) ?_;exact Ls pT (c::t) m
theorem f57:da.fns 57=some i57:=by rfl
theorem p57:al 57=none:=by rfl
theorem D5 (c:UInt8) (t:List UInt8) (m:IM):cw (.f 57) [.str (c::t)] m=some (lp (aI (c::t)),m):=by
 have h:=Vl c t m;unfold cw;rw[dd p57 f57];have hl:54≤pT.length:=by decide
 have ht:pT.take 54=pT:=rfl
 cases hc:gN c.toNat with
 |none =>rw[hc] at h;obtain⟨e',q1,q2⟩:=h;simp only[FC] at q1;rw[show ((0:Nat):Int)=0 from rfl] at q1;simp[i57,Cs,xa,xc,go_sem,hl,ht,q1,q2,lp,aI,hc]
 |some p =>obtain⟨sz,lo,hi,p⟩:=p;rw[hc] at h;obtain⟨e',lb',q1,q2,cp,q3⟩:=h;simp only[FC] at q1;rw[show ((0:Nat):Int)=0 from rfl] at q1;simp[i57,Cs,xa,xc,go_sem,hl,ht,q1,q2,q3,lp,aI,hc]
def tk (m m':IM):IM:=⟨m'.bs.take m.size,m'.kS⟩
theorem f28:da.fns 28=some i28:=by rfl
theorem p28:al 28=none:=by rfl
theorem Q4 (s:List UInt8) (m:IM):cw (.f 28) [.str s] m=some (.db (if s=[] then [.int .i64 0,.int .i64 0,.int .i64 10] else if (aI s).2.1 then [.int .i64 (aI s).2.2,.int .i64 (aI s).1,.int .i64 0] else [.int .i64 0,.int .i64 0,.int .i64 1]),m):=by
 unfold cw;rw[dd p28 f28]
 cases s with
 |nil=>simp[i28,go_sem]
 |cons c t =>
  have h:=D5 c t m;unfold cw at h
  cases hw:(aI (c::t)).2.1 with
  |true=>simp[i28,go_sem,h,lp,hw]
  |false=>simp[i28,go_sem,h,lp,hw]
theorem f38:da.fns 38=some i38:=by rfl
theorem p38:al 38=none:=by rfl
def si:Nat→List UInt8→Nat→Option Nat
 |0,_,_=>none
 |_+1,[],_=>none
 |k+1,c::t,at_=>if (aI (c::t)).2.1 then si k ((c::t).drop (max (aI (c::t)).1 1)) (at_+max (aI (c::t)).1 1) else some at_
theorem KH (s:List UInt8) (lo hi:Nat):∀k n p,(my s lo hi k n p).1≤n+k
 |0,n,p=>Nat.le_refl _
 |k+1,n,p=>by
  rw[my]
  cases h:s[n]? with
  |none=>exact Nat.le_add_right _ _
  |some b =>
   simp only;by_cases hc:b.toNat<(if n=1 then lo else 128)∨(if n=1 then hi else 191)<b.toNat
   ·rw[if_pos hc];exact Nat.le_add_right _ _
   ·rw[if_neg hc];have:=KH s lo hi k (n+1) (p*64+b.toNat%64);omega
theorem HM {c sz lo hi p:Nat}(h:gN c=some (sz,lo,hi,p)):1≤sz∧sz≤4:=by
 unfold gN at h
 repeat' (split at h)
 all_goals (first | (cases h;done) | (cases h;exact⟨by decide,by decide⟩))
theorem yS (s:List UInt8):(aI s).1≤4:=by
 unfold aI;split
 ·exact Nat.zero_le _
 ·split
  ·exact Nat.zero_le _
  ·rename_i c t _ sz lo hi p h;have h1:=HM h;have:=KH (c::t) lo hi (sz-1) 1 p;simp only[i9];omega
theorem Ct:wR.AK=[(0,0),(1,0),(3,0)]:=rfl
theorem xb:wR.eC=[]:=rfl
theorem xd:wR.Bb=[]:=rfl
theorem f67:da.fns 67=some i67:=by rfl
theorem p67:al 67=none:=by rfl
theorem f31:da.fns 31=some i31:=by rfl
theorem p31:al 31=none:=by rfl
def dH (c:Nat):Nat:=if c<128 then 1 else if 194≤c∧c<224 then 2 else if 224≤c∧c<240 then 3 else if 240≤c∧c<245 then 4 else 0
def qq (s:List UInt8):Nat→Nat→Nat→Option Nat
 |0,_,p=>some p
 |k+1,i,p=>match s[i]? with
  |none=>none
  |some b=>if b.toNat<128∨191<b.toNat then none else qq s k (i+1) (64*p+b.toNat-128)
def fP (s:List UInt8):Nat×Nat :=
 match s with
 |[]=>(0,0)
 |c::t =>
  let n:=dH c.toNat
  if n=0∨(c::t).length<n then (0,0) else
  match qq (c::t) (n-1) 1 (if 1<n then c.toNat%(256/2^(n+1)) else c.toNat) with
  |none=>(0,0)
  |some p=>if bT p=true∧fV p=(c::t).take n then (p,n) else (0,0)
def visit {σ:Type}(step:σ→Nat→Nat×Bool×Nat→Bool×σ):Nat→List UInt8→Nat→σ→Bool×σ
 |0,_,_,x=>(true,x)
 |_+1,[],_,x=>(true,x)
 |k+1,c::t,a,x=>if (step x a (aI (c::t))).1 then visit step k ((c::t).drop (max (aI (c::t)).1 1)) (a+max (aI (c::t)).1 1) (step x a (aI (c::t))).2 else (false,(step x a (aI (c::t))).2)
def I6 (yid bid a:Nat) (m:IM):St where
 env:=[(0,.nT yid,.any),(1,.pB bid 0,.any),(3,.int .i64 a,.any)]
 lk:=[]
 lb:=[]
 m:=m
theorem Ww {σ:Type}(s:List UInt8) (hs:s.length≤140737488355328) (yid bid:Nat) (Mg Ms:σ→IM) (step:σ→Nat→Nat×Bool×Nat→Bool×σ) (I:Nat→σ→Prop) (hget:∀x,(Mg x).get bid=.cells [.str s] [.any])
  (hI:∀a x,I a x→a<s.length→(step x a (aI (s.drop a))).1=true→I (a+max (aI (s.drop a)).1 1) (step x a (aI (s.drop a))).2)
  (hy:∀a x,I a x→a<s.length→cw (.y yid) [.int .i64 (a:Int),lp (aI (s.drop a))] (Mg x)=some (.bool (step x a (aI (s.drop a))).1,if (step x a (aI (s.drop a))).1=true then Mg (step x a (aI (s.drop a))).2 else Ms (step x a (aI (s.drop a))).2)) :
  ∀(k a:Nat) (x:σ),s.length-a<k→a≤140737488355332→I a x →
   ∃e' lb',lc da al wR xe (some (I6 yid bid a (Mg x)))=match visit step k (s.drop a) a x with
    |(true,x')=>some (.exit 0,{ env:=e',lk:=[],lb:=lb',m:=Mg x' })
    |(false,x')=>some (.ret,{ env:=e',lk:=[],lb:=lb',m:=Ms x' }):=by
 intro k
 induction k with
 |zero=>intro a x h;omega
 |succ k ih =>
  intro a x hk hat hx;rw[eG];have hg:=hget x;by_cases hlt:a<s.length
  ·have c1:(a:Int)<(s.length:Int):=by omega
   have c2:(a:Int)≤(s.length:Int):=by omega
   have c3:(0:Int)≤(a:Int):=by omega
   have hI':=hI a x hx hlt;have hy':=hy a x hx hlt
   cases hd:s.drop a with
   |nil=>have:=List.drop_eq_nil_iff.1 hd;omega
   |cons c t =>
    have htk:(s.drop a).take (s.length-a)=s.drop a:=List.take_of_length_le (by simp);have hb:=D5 c t (Mg x);have hle:=yS (c::t);have hv0:visit step (k+1) (c::t) a x=if (step x a (aI (c::t))).1 then visit step k ((c::t).drop (max (aI (c::t)).1 1)) (a+max (aI (c::t)).1 1) (step x a (aI (c::t))).2 else (false,(step x a (aI (c::t))).2):=rfl;rw[hv0];rw[←hd] at *;unfold cw at hb hy';generalize hG:aI (List.drop a s)=G at *;have hmax:(if ((G.1:Nat):Int)<1 then (1:Int) else ((G.1:Nat):Int))=((max G.1 1:Nat):Int):=by split<;>omega
    cases hw:(step x a G).1 with
    |true =>
     simp only[if_true];rw[List.drop_drop];obtain⟨e',lb',q⟩:=ih (a+max G.1 1) (step x a G).2 (by omega) (by omega) (hI' hw);refine⟨e',lb',?_⟩;rw[←q];simp only[hw,if_true] at hy';have e1:IntKind.i64.wrap ((a:Int)+((max G.1 1:Nat):Int))=((a+max G.1 1:Nat):Int):=by rw[w64 (by omega) (by omega)];rfl
     simp only[I6,lp] at hb hy' ⊢;generalize lc da al wR xe=L;generalize Mg (step x a G).2=M' at *;generalize a+max G.1 1=j at *;generalize max G.1 1=j' at *;generalize Mg x=M at *;simp[xe,Ct,xb,xd,go_sem,hg,c1,c2,c3,htk,hb,hy',hmax,e1]
    |false =>simp only[hw,Bool.false_eq_true,if_false] at hy' ⊢;simp only[I6,lp] at hb hy' ⊢;generalize lc da al wR xe=L;generalize Ms (step x a G).2=M' at *;generalize Mg x=M at *;simp[xe,Ct,xb,xd,go_sem,hg,c1,c2,c3,htk,hb,hy']
  ·have c1:¬(a:Int)<(s.length:Int):=by omega
   have hd:s.drop a=[]:=List.drop_eq_nil_iff.2 (by omega);rw[hd];have hv0:visit step (k+1) [] a x=(true,x):=rfl;rw[hv0];simp only[I6];generalize Mg x=M at *;simp[xe,Ct,xb,xd,go_sem,hg,c1]
theorem f65:da.fns 65=some i65:=by rfl
theorem p65:al 65=none:=by rfl
theorem Q7 (b:Bool) (e:Int) (m:IM):cw (.f 65) [.bool b,.int .i64 e] m=some (.int .i64 (if b then e else 0),m):=by
 unfold cw;rw[dd p65 f65]
 cases b<;>simp[i65,go_sem]
theorem f66:da.fns 66=some i66:=by rfl
theorem p66:al 66=none:=by rfl
theorem w6:F4.AK=[(5,0),(6,0),(7,0)]:=rfl
theorem qy:F4.eC=[]:=rfl
theorem qz:F4.Bb=[]:=rfl
theorem f58:da.fns 58=some i58:=by rfl
theorem p58:al 58=none:=by rfl
theorem Q6 (a b:Int) (m:IM):cw (.f 58) [.sl [.int .i64 a,.int .i64 b] 2] m=some (.int .i64 (if a=0 then b else a),m):=by
 unfold cw;rw[dd p58 f58];have e1:IntKind.i64.wrap 1=1:=by decide
 have e2:IntKind.i64.wrap 2=2:=by decide
 by_cases h:a=0
 ·subst h;by_cases h2:b=0
  ·subst h2;simp[i58,go_sem,eG,tR,w6,qy,qz,e1,e2]
  ·have hb:(b != 0)=true:=by simpa using h2
   simp[i58,go_sem,eG,tR,w6,qy,qz,e1,e2,hb]
 ·have hb:(a != 0)=true:=by simpa using h
  simp[i58,go_sem,eG,tR,w6,qy,qz,e1,e2,hb,h]
theorem of_eq {n:Nat}{b:UInt8}(h:n=b.toNat):UInt8.ofNat n=b:=by subst h;simp
theorem WD (c:UInt8) (t:List UInt8) (h:c.toNat≤127):aI (c::t)=(1,true,c.toNat)∧fP (c::t)=(c.toNat,1):=by
 have hl:gN c.toNat=some (1,0,0,c.toNat):=by simp[gN,h]
 have hw:dH c.toNat=1:=by simp[dH];omega
 refine⟨by simp[aI,hl,i9,my],?_⟩;have hp:bT (c.toNat:Int)=true:=by simp[bT];omega
 have he:fV c.toNat=[c]:=by simp[fV,show c.toNat<128 by omega]
 simp[fP,hw,qq,hp,he]
theorem WE (c:UInt8) (t:List UInt8) (h:194≤c.toNat∧c.toNat≤223):fP (c::t)=if (aI (c::t)).2.1 then ((aI (c::t)).2.2,(aI (c::t)).1) else (0,0):=by
 have hl:gN c.toNat=some (2,128,191,c.toNat%32):=by unfold gN;rw[if_neg (by omega),if_neg (by omega),if_pos (by omega)]
 have hw:dH c.toNat=2:=by unfold dH;rw[if_neg (by omega),if_pos (by omega)]
 cases t with
 |nil=>simp[fP,aI,hl,hw,i9,my]
 |cons b t =>
  have hb:=b.toNat_lt;by_cases h1:b.toNat<128∨191<b.toNat
  ·simp[fP,aI,hl,hw,i9,my,qq,h1]
  ·have e:64*(c.toNat%32)+b.toNat-128=c.toNat%32*64+b.toNat%64:=by omega
   have hp:bT ((c.toNat%32*64+b.toNat%64:Nat):Int)=true:=by simp[bT];omega
   have he:fV (c.toNat%32*64+b.toNat%64)=[c,b]:=by unfold fV;rw[if_neg (by omega),if_pos (by omega),of_eq (b:=c) (by omega),of_eq (b:=b) (by omega)]
   simp only[fP,aI,hl,hw,i9,my,qq];simp[h1,e,hp,he,-Int.natCast_add,-Int.natCast_emod,-Int.natCast_mul]
theorem Rh (c:UInt8) (t:List UInt8) (lo hi:Nat) (hl:gN c.toNat=some (3,lo,hi,c.toNat%16)) (h:224≤c.toNat∧c.toNat≤239)
  (hx:(c.toNat=224∧lo=160∧hi=191)∨(c.toNat=237∧lo=128∧hi=159)∨(c.toNat≠224∧c.toNat≠237∧lo=128∧hi=191)) :
  fP (c::t)=if (aI (c::t)).2.1 then ((aI (c::t)).2.2,(aI (c::t)).1) else (0,0):=by
 have hw:dH c.toNat=3:=by unfold dH;rw[if_neg (by omega),if_neg (by omega),if_pos (by omega)]
 cases t with
 |nil=>simp[fP,aI,hl,hw,i9,my]
 |cons b t =>
  have hb:=b.toNat_lt
  cases t with
  |nil =>
   by_cases h1:b.toNat<lo∨hi<b.toNat
   ·simp[fP,aI,hl,hw,i9,my,h1]
   ·simp[fP,aI,hl,hw,i9,my,h1]
  |cons d t =>
   have hd:=d.toNat_lt;by_cases h0:b.toNat<128∨191<b.toNat
   ·have h1:b.toNat<lo∨hi<b.toNat:=by omega
    simp[fP,aI,hl,hw,i9,my,qq,h0,h1]
   ·by_cases h2:d.toNat<128∨191<d.toNat
    ·by_cases h1:b.toNat<lo∨hi<b.toNat
     ·simp[fP,aI,hl,hw,i9,my,qq,h0,h1,h2]
     ·simp[fP,aI,hl,hw,i9,my,qq,h0,h1,h2]
    ·have e1:64*(c.toNat%16)+b.toNat-128=c.toNat%16*64+b.toNat%64:=by omega
     have e2:64*(c.toNat%16*64+b.toNat%64)+d.toNat-128=(c.toNat%16*64+b.toNat%64)*64+d.toNat%64:=by omega
     by_cases h1:b.toNat<lo∨hi<b.toNat
     ·have hn:¬(bT (((c.toNat%16*64+b.toNat%64)*64+d.toNat%64:Nat):Int)=true∧fV ((c.toNat%16*64+b.toNat%64)*64+d.toNat%64)=[c,b,d]):=by
       rintro ⟨q1,q2⟩;simp only[bT,Bool.and_eq_true,Bool.or_eq_true,decide_eq_true_eq] at q1;have:(c.toNat%16*64+b.toNat%64)*64+d.toNat%64<2048:=by omega
       have:=congrArg List.length q2;unfold fV at this;rw[if_pos (show (c.toNat%16*64+b.toNat%64)*64+d.toNat%64<2048 by omega)] at this;split at this<;>simp at this
      simp only[fP,aI,hl,hw,i9,my,qq];simp[h0,h1,h2,e1,e2,-Int.natCast_add,-Int.natCast_emod,-Int.natCast_mul];exact if_neg hn
     ·have hp:bT (((c.toNat%16*64+b.toNat%64)*64+d.toNat%64:Nat):Int)=true:=by simp only[bT,Bool.and_eq_true,Bool.or_eq_true,decide_eq_true_eq];omega
      have he:fV ((c.toNat%16*64+b.toNat%64)*64+d.toNat%64)=[c,b,d]:=by unfold fV;rw[if_neg (by omega),if_neg (by omega),if_pos (by omega),of_eq (b:=c) (by omega),of_eq (b:=b) (by omega),of_eq (b:=d) (by omega)]
      simp only[fP,aI,hl,hw,i9,my,qq];simp[h0,h1,h2,e1,e2,hp,he,-Int.natCast_add,-Int.natCast_emod,-Int.natCast_mul]
theorem Ri (c:UInt8) (t:List UInt8) (lo hi:Nat) (hl:gN c.toNat=some (4,lo,hi,c.toNat%8)) (h:240≤c.toNat∧c.toNat≤244)
  (hx:(c.toNat=240∧lo=144∧hi=191)∨(c.toNat=244∧lo=128∧hi=143)∨(c.toNat≠240∧c.toNat≠244∧lo=128∧hi=191)) :
  fP (c::t)=if (aI (c::t)).2.1 then ((aI (c::t)).2.2,(aI (c::t)).1) else (0,0):=by
 have hw:dH c.toNat=4:=by unfold dH;rw[if_neg (by omega),if_neg (by omega),if_neg (by omega),if_pos (by omega)]
 cases t with
 |nil=>simp[fP,aI,hl,hw,i9,my]
 |cons b t =>
  have hb:=b.toNat_lt
  cases t with
  |nil =>
   by_cases h1:b.toNat<lo∨hi<b.toNat
   ·simp[fP,aI,hl,hw,i9,my,h1]
   ·simp[fP,aI,hl,hw,i9,my,h1]
  |cons d t =>
   have hd:=d.toNat_lt
   cases t with
   |nil =>
    by_cases h1:b.toNat<lo∨hi<b.toNat
    ·simp[fP,aI,hl,hw,i9,my,h1]
    ·by_cases h2:d.toNat<128∨191<d.toNat
     ·simp[fP,aI,hl,hw,i9,my,h1,h2]
     ·simp[fP,aI,hl,hw,i9,my,h1,h2]
   |cons f t =>
    have hf:=f.toNat_lt;by_cases h0:b.toNat<128∨191<b.toNat
    ·have h1:b.toNat<lo∨hi<b.toNat:=by omega
     simp[fP,aI,hl,hw,i9,my,qq,h0,h1]
    ·by_cases h2:d.toNat<128∨191<d.toNat
     ·by_cases h1:b.toNat<lo∨hi<b.toNat
      ·simp[fP,aI,hl,hw,i9,my,qq,h0,h1,h2]
      ·simp[fP,aI,hl,hw,i9,my,qq,h0,h1,h2]
     ·by_cases h3:f.toNat<128∨191<f.toNat
      ·by_cases h1:b.toNat<lo∨hi<b.toNat
       ·simp[fP,aI,hl,hw,i9,my,qq,h0,h1,h2,h3]
       ·simp[fP,aI,hl,hw,i9,my,qq,h0,h1,h2,h3]
      ·have e1:64*(c.toNat%8)+b.toNat-128=c.toNat%8*64+b.toNat%64:=by omega
       have e2:64*(c.toNat%8*64+b.toNat%64)+d.toNat-128=(c.toNat%8*64+b.toNat%64)*64+d.toNat%64:=by omega
       have e3:64*((c.toNat%8*64+b.toNat%64)*64+d.toNat%64)+f.toNat-128=((c.toNat%8*64+b.toNat%64)*64+d.toNat%64)*64+f.toNat%64:=by omega
       by_cases h1:b.toNat<lo∨hi<b.toNat
       ·have hn:¬(bT ((((c.toNat%8*64+b.toNat%64)*64+d.toNat%64)*64+f.toNat%64:Nat):Int)=true∧fV (((c.toNat%8*64+b.toNat%64)*64+d.toNat%64)*64+f.toNat%64)=[c,b,d,f]):=by
         rintro ⟨q1,q2⟩;simp only[bT,Bool.and_eq_true,Bool.or_eq_true,decide_eq_true_eq] at q1;have:((c.toNat%8*64+b.toNat%64)*64+d.toNat%64)*64+f.toNat%64<65536:=by omega
         have:=congrArg List.length q2;unfold fV at this;rw[if_pos (show ((c.toNat%8*64+b.toNat%64)*64+d.toNat%64)*64+f.toNat%64<65536 by omega)] at this;split at this
         ·simp at this
         ·split at this<;>simp at this
        simp only[fP,aI,hl,hw,i9,my,qq];simp[h0,h1,h2,h3,e1,e2,e3,-Int.natCast_add,-Int.natCast_emod,-Int.natCast_mul];exact if_neg hn
       ·have hp:bT ((((c.toNat%8*64+b.toNat%64)*64+d.toNat%64)*64+f.toNat%64:Nat):Int)=true:=by simp only[bT,Bool.and_eq_true,Bool.or_eq_true,decide_eq_true_eq];omega
        have he:fV (((c.toNat%8*64+b.toNat%64)*64+d.toNat%64)*64+f.toNat%64)=[c,b,d,f]:=by unfold fV;rw[if_neg (by omega),if_neg (by omega),if_neg (by omega),of_eq (b:=c) (by omega),of_eq (b:=b) (by omega),of_eq (b:=d) (by omega),of_eq (b:=f) (by omega)]
        simp only[fP,aI,hl,hw,i9,my,qq];simp[h0,h1,h2,h3,e1,e2,e3,hp,he,-Int.natCast_add,-Int.natCast_emod,-Int.natCast_mul]
theorem sK (c:UInt8) (t:List UInt8):fP (c::t)=if (aI (c::t)).2.1 then ((aI (c::t)).2.2,(aI (c::t)).1) else (0,0):=by
 have hc:=c.toNat_lt;by_cases h1:c.toNat≤127
 ·obtain⟨a,b⟩:=WD c t h1;rw[a,b];rfl
 by_cases h2:194≤c.toNat∧c.toNat≤223
 ·exact WE c t h2
 by_cases h3:224≤c.toNat∧c.toNat≤239
 ·by_cases q1:c.toNat=224
  ·exact Rh c t 160 191 (by simp[gN,q1]) h3 (by omega)
  ·by_cases q2:c.toNat=237
   ·exact Rh c t 128 159 (by simp[gN,q2]) h3 (by omega)
   ·refine Rh c t 128 191 ?_ h3 (by omega);unfold gN;rw[if_neg (by omega),if_neg (by omega),if_neg (by omega),if_neg (by omega)];by_cases q3:c.toNat≤236
    ·rw[if_pos q3]
    ·rw[if_neg q3,if_neg q2,if_pos (by omega)]
 by_cases h4:240≤c.toNat∧c.toNat≤244
 ·by_cases q1:c.toNat=240
  ·exact Ri c t 144 191 (by simp[gN,q1]) h4 (by omega)
  ·by_cases q2:c.toNat=244
   ·exact Ri c t 128 143 (by simp[gN,q2]) h4 (by omega)
   ·refine Ri c t 128 191 ?_ h4 (by omega);unfold gN;rw[if_neg (by omega),if_neg (by omega),if_neg (by omega),if_neg (by omega),if_neg (by omega),if_neg (by omega),if_neg (by omega),if_neg q1,if_pos (by omega)]
 ·have hl:gN c.toNat=none:=by
   unfold gN;rw[if_neg (by omega)];by_cases q:c.toNat<194
   ·rw[if_pos q]
   ·rw[if_neg q,if_neg (by omega),if_neg (by omega),if_neg (by omega),if_neg (by omega),if_neg (by omega),if_neg (by omega),if_neg (by omega),if_neg (by omega)]
  have hw:dH c.toNat=0:=by unfold dH;rw[if_neg (by omega),if_neg (by omega),if_neg (by omega),if_neg (by omega)]
  simp[fP,aI,hl,hw]
theorem KG (s:List UInt8) (lo hi:Nat):∀k n p,n≤(my s lo hi k n p).1
 |0,n,p=>Nat.le_refl _
 |k+1,n,p=>by
  rw[my]
  cases h:s[n]? with
  |none=>exact Nat.le_refl _
  |some b =>
   simp only;by_cases hc:b.toNat<(if n=1 then lo else 128)∨(if n=1 then hi else 191)<b.toNat
   ·rw[if_pos hc];exact Nat.le_refl _
   ·rw[if_neg hc];have:=KG s lo hi k (n+1) (p*64+b.toNat%64);omega
theorem ph (s:List UInt8) (h:(aI s).2.1=true):1≤(aI s).1:=by
 unfold aI at h ⊢;split
 ·simp at h
 ·rename_i c t;simp only at h ⊢
  cases hl:gN c.toNat with
  |none=>rw[hl] at h;simp at h
  |some q =>obtain⟨sz,lo,hi,p⟩:=q;simp only;exact KG _ _ _ _ _ _
theorem M6:∃m',cw (.f 10) [] ⟨[],0⟩=some (.bool true,m')∧m'=⟨[],0⟩:=by
 have h:=Q0
 cases hq:(jc da al 400).call (.f 10) [] ⟨[],0⟩ with
 |none=>rw[hq] at h;simp[AG] at h
 |some r =>
  rw[hq] at h;unfold AG at h;split at h
  ·rename_i e
   cases e
   exact⟨_,jF.2 ⟨400,hq⟩,rfl⟩
  ·cases h
theorem Jk:cw (.f 10) [] ⟨[],0⟩=some (.bool true,⟨[],0⟩):=by obtain⟨m',h,e⟩:=M6;subst e;exact h
theorem F7 (s:List UInt8) (lo hi:Nat):∀k n p,n≤s.length→(my s lo hi k n p).1≤s.length
 |0,n,p,h=>h
 |k+1,n,p,h=>by
  rw[my]
  cases hq:s[n]? with
  |none=>exact h
  |some b =>
   have hn:n<s.length:=(List.getElem?_eq_some_iff.1 hq).1;simp only;by_cases hc:b.toNat<(if n=1 then lo else 128)∨(if n=1 then hi else 191)<b.toNat
   ·rw[if_pos hc];exact h
   ·rw[if_neg hc];exact F7 s lo hi k (n+1) _ hn
theorem Hg (s:List UInt8):(aI s).1≤s.length:=by
 unfold aI;split
 ·exact Nat.zero_le _
 ·split
  ·exact Nat.zero_le _
  ·exact F7 _ _ _ _ _ _ (by simp)
def oa:List UInt8→IV
 |[]=>.aa
 |b::r=>.sl (ah (b::r)) (b::r).length
theorem fj (l:List UInt8):(ah l).length=l.length:=by
 induction l with
 |nil=>rfl
 |cons b r ih=>simp[ah,ih]
theorem fx (l:List UInt8):(ah l).all IV.plain=true:=by
 induction l with
 |nil=>rfl
 |cons b r ih=>simp[ah,ih,IV.plain,IV.refs]
theorem mB (a b:List UInt8):ah (a++b)=ah a++ah b:=by
 induction a with
 |nil=>rfl
 |cons x r ih=>simp[ah,ih]
theorem vY (l:List UInt8):bo (ah l)=some l:=by
 induction l with
 |nil=>rfl
 |cons b r ih=>simp[ah,bo,ih]
theorem FI (l:List UInt8):dW.ev .gT [oa l]=some (.str l):=by
 cases l with
 |nil=>rfl
 |cons b r =>have h1:=fj (b::r);have h2:=vY (b::r);simp only[oa];generalize (b::r)=x at *;simp[dW.ev,h1,h2]
theorem FH (l:List UInt8):dW.ev .ay [oa l]=some (.int .i64 (l.length:Int)):=by
 cases l<;>rfl
theorem B8 (l:List UInt8):(oa l).refs=some 0:=by cases l<;>rfl
theorem p3:al 3=none:=by rfl
noncomputable abbrev fc (c:aq) (st:St):Option (Ex×St):=c.run (fR da al) (g9 da al) st
theorem run_seq {a b:aq}{st st':St}(h:fc a st=some (.normal,st')):fc (.seq a b) st=fc b st':=by show aq.run _ _ (.seq a b) st=_;rw[aq.run];have h':a.run (fR da al) (g9 da al) st=some (.normal,st'):=h;rw[h']
theorem Db {a b:aq}{st st':St}(h:fc a st=some (.ret,st')):fc (.seq a b) st=some (.ret,st'):=by show aq.run _ _ (.seq a b) st=_;rw[aq.run];have h':a.run (fR da al) (g9 da al) st=some (.ret,st'):=h;rw[h']
def cL:aq→aq
 |.seq a _=>a
 |c=>c
def cR:aq→aq
 |.seq _ b=>b
 |c=>c
def eP (e:Env) (m:IM):St:={ env:=e,lk:=[],lb:=[],m:=m }
theorem f122:da.fns 122=some i122:=by rfl
theorem p122:al 122=none:=by rfl
theorem yW (t:List UInt8) (c:UInt8) (m:IM):cw (.f 122) [.str t,.str [c]] m=some (.bool (t.head?==some c),m):=by
 unfold cw;rw[dd p122 f122]
 cases t with
 |nil=>simp[i122,go_sem]
 |cons x t =>
  have g1:(1:Int)≤((t.length+1:Nat):Int):=by omega
  by_cases h:x=c
  ·subst h;simp[-Int.natCast_add,i122,go_sem,g1]
  ·have h':(x==c)=false:=by simpa using h
   simp[-Int.natCast_add,i122,go_sem,g1,h,h']
theorem f99:da.fns 99=some i99:=by rfl
theorem p99:al 99=none:=by rfl
theorem Cb (t:List UInt8) (c:UInt8) (m:IM):cw (.f 99) [.str t,.str [c]] m=some (.bool (t.head?==some c),m):=by unfold cw;rw[dd p99 f99];have h:=yW t c m;unfold cw at h;simp[i99,go_sem,h]
def fS (c:UInt8):Bool:=decide (48≤c.toNat)&&decide (c.toNat≤57)
def lV (s:List UInt8):Nat→Nat→Nat
 |0,a=>a
 |k+1,a=>match s[a]? with
  |some c=>if fS c then lV s k (a+1) else a
  |none=>a
theorem wC (s:List UInt8):∀k a,a≤lV s k a
 |0,a=>Nat.le_refl _
 |k+1,a=>by
  rw[lV]
  cases h:s[a]? with
  |none=>exact Nat.le_refl _
  |some c =>
   simp only;by_cases hc:fS c=true
   ·rw[if_pos hc];have:=wC s k (a+1);omega
   ·rw[if_neg hc];exact Nat.le_refl _
theorem AA (s:List UInt8):∀k a,a≤s.length→lV s k a≤s.length
 |0,a,ha=>ha
 |k+1,a,ha=>by
  rw[lV]
  cases h:s[a]? with
  |none=>exact ha
  |some c =>
   have hn:a<s.length:=(List.getElem?_eq_some_iff.1 h).1;simp only;by_cases hc:fS c=true
   ·rw[if_pos hc];exact AA s k (a+1) hn
   ·rw[if_neg hc];exact ha
theorem Rj {s:List UInt8}{k a:Nat}(h:lV s k a≠a):∃c,s[a]?=some c:=by
 cases k with
 |zero=>exact absurd rfl h
 |succ k =>
  rw[lV] at h
  cases hs:s[a]? with
  |none=>rw[hs] at h;exact absurd rfl h
  |some c=>exact⟨c,rfl⟩
theorem f100:da.fns 100=some i100:=by rfl
theorem p100:al 100=none:=by rfl
theorem AJ:qx.AK=[(0,0),(1,0)]:=rfl
theorem uT:qx.eC=[]:=rfl
theorem uU:qx.Bb=[]:=rfl
def DZ (s:List UInt8) (a:Nat) (m:IM):St:=eP [(0,.str s,.any),(1,.int .i64 a,.any)] m
theorem Wq (s:List UInt8) (hs:s.length≤140737488355328) (m:IM):∀(k a:Nat),s.length-a<k→a≤s.length+1 →
  ∃e',lc da al qx qA (some (DZ s a m))=some (.exit 0,eP e' m)∧look e' 1=some (.int .i64 (lV s k a:Nat),.any):=by
 intro k
 induction k with
 |zero=>intro a h;omega
 |succ k ih =>
  intro a hk ha;have c3:(0:Int)≤(a:Int):=by omega
  cases hb:s[a]? with
  |none =>
   have hge:=List.getElem?_eq_none_iff.1 hb;have hd:lV s (k+1) a=a:=by rw[lV,hb]
   have c1:¬(a:Int)<(s.length:Int):=by omega
   rw[hd,eG];simp[qA,AJ,uT,uU,DZ,eP,go_sem,c1]
  |some c =>
   have hn:a<s.length:=(List.getElem?_eq_some_iff.1 hb).1;have c1:(a:Int)<(s.length:Int):=by omega
   by_cases h1:48≤c.toNat<;>by_cases h2:c.toNat≤57
   ·have hd:lV s (k+1) a=lV s k (a+1):=by rw[lV,hb];simp[fS,h1,h2]
    have g1:(48:Int)≤(c.toNat:Int):=by omega
    have g2:(c.toNat:Int)≤57:=by omega
    have e5:IntKind.i64.wrap ((a:Int)+1)=((a+1:Nat):Int):=by rw[w64 (by omega) (by omega)];rfl
    rw[hd];have step:lc da al qx qA (some (DZ s a m))=lc da al qx qA (some (DZ s (a+1) m)):=by rw[eG];generalize a+1=j at *;simp[qA,AJ,uT,uU,DZ,eP,go_sem,c1,c3,hb,g1,g2,e5]
    rw[step];exact ih (a+1) (by omega) (by omega)
   all_goals
    have hd:lV s (k+1) a=a:=by rw[lV,hb];simp[fS,h1,h2]
    have g1:((48:Int)≤(c.toNat:Int))=(48≤c.toNat):=by simp;omega
    have g2:((c.toNat:Int)≤57)=(c.toNat≤57):=by simp;omega
    rw[hd,eG];simp[qA,AJ,uT,uU,DZ,eP,go_sem,c1,c3,hb,g1,g2,h1,h2]
theorem Au (s:List UInt8) (hs:s.length≤140737488355328) (a:Nat) (ha:a≤s.length+1) (m:IM):cw (.f 100) [.str s,.int .i64 (a:Int)] m=some (.int .i64 (lV s (s.length+1) a:Nat),m):=by unfold cw;rw[dd p100 f100];obtain⟨e',q0,q1⟩:=Wq s hs m (s.length+1) a (by omega) ha;simp only[DZ,eP] at q0;simp[i100,AJ,uT,uU,go_sem,q0,q1]
def nm (s:List UInt8) (a:Nat):Nat:=if s[a]?=some 45 then a+1 else a
def yi (s:List UInt8) (a:Nat):Nat:=if s[a]?=some 48 then a+1 else lV s (s.length+1) a
def rP (s:List UInt8) (a:Nat):Nat×Bool:=if s[a]?=some 46 then (lV s (s.length+1) (a+1),decide (lV s (s.length+1) (a+1)≠a+1)) else (a,true)
def uw (s:List UInt8) (a:Nat):Nat:=if s[a]?=some 43∨s[a]?=some 45 then a+1 else a
def ya (s:List UInt8) (a:Nat):Nat×Bool:=if s[a]?=some 101∨s[a]?=some 69 then (lV s (s.length+1) (uw s (a+1)),decide (lV s (s.length+1) (uw s (a+1))≠uw s (a+1))) else (a,true)
def gf (s:List UInt8) (a:Nat):Nat×Bool :=
 if lV s (s.length+1) (nm s a)=nm s a then (nm s a,false)
 else if (rP s (yi s (nm s a))).2 then ya s (rP s (yi s (nm s a))).1 else rP s (yi s (nm s a))
theorem dP {s:List UInt8}{a:Nat}{c:UInt8}(h:s[a]?=some c):a<s.length:=(List.getElem?_eq_some_iff.1 h).1
theorem xt {s:List UInt8}{a:Nat}(h:a≤s.length):nm s a≤s.length:=by
 unfold nm;split
 ·rename_i q;exact dP q
 ·exact h
theorem EI {s:List UInt8}{a:Nat}(h:a≤s.length):uw s a≤s.length:=by
 unfold uw;split
 ·rename_i q;rcases q with q | q<;>exact dP q
 ·exact h
theorem AZ {s:List UInt8}{a:Nat}(h:a≤s.length):yi s a≤s.length:=by
 unfold yi;split
 ·rename_i q;exact dP q
 ·exact AA s _ a h
theorem A0 {s:List UInt8}{a:Nat}(h:a≤s.length):(rP s a).1≤s.length:=by
 unfold rP;split
 ·rename_i q;exact AA s _ _ (dP q)
 ·exact h
theorem RN {s:List UInt8}{a:Nat}(h:a≤s.length):(ya s a).1≤s.length:=by
 unfold ya;split
 ·rename_i q;have:a<s.length:=by rcases q with q | q<;>exact dP q
  exact AA s _ _ (EI this)
 ·exact h
theorem km (c:UInt8) (n:Nat) (hn:n<256):(((c.toNat:Nat):Int)==(n:Int))=(c==UInt8.ofNat n):=by
 by_cases h:c=UInt8.ofNat n
 ·subst h;have:(UInt8.ofNat n).toNat=n:=by simp;omega
  rw[this];simp
 ·have h':(c==UInt8.ofNat n)=false:=by simpa using h
  rw[h'];have:c.toNat≠n:=fun e=>h (by subst e;simp);simp;omega
def cT:aq→aq
 |.cond _ a _=>a
 |c=>c
theorem f74:da.fns 74=some i74:=by rfl
theorem p74:al 74=none:=by rfl
theorem R0 (e:Env) (s:List UInt8) (a:Nat) (m:IM) (hs:s.length≤140737488355328) (ha:a≤s.length) (h0:look e 0=some (.str s,.any)) (h1:look e 1=some (.int .i64 a,.any)) :
  ∃e',fc (cL (cR i74.body)) (eP e m)=some (.normal,eP e' m)∧look e' 0=some (.str s,.any)∧look e' 1=some (.int .i64 (nm s a:Nat),.any):=by
 have c2:(a:Int)≤(s.length:Int):=by omega
 have c3:(0:Int)≤(a:Int):=by omega
 have htk:(s.drop a).take (s.length-a)=s.drop a:=List.take_of_length_le (by simp);have h99:=Cb (s.drop a) 45 m;rw[List.head?_drop] at h99;unfold cw at h99;have e5:IntKind.i64.wrap ((a:Int)+1)=((a+1:Nat):Int):=by rw[w64 (by omega) (by omega)];rfl
 unfold nm;generalize a+1=j at *
 cases hb:s[a]? with
 |none =>
  have hge:=List.getElem?_eq_none_iff.1 hb;have c1:¬(a:Int)<(s.length:Int):=by omega
  rw[hb] at h99;simp[cL,cR,eP,i74,go_sem,h0,h1,c1,c2,c3,htk,h99,hb]
 |some c =>
  have c1:(a:Int)<(s.length:Int):=by have:=dP hb;omega
  have hq:=km c 45 (by omega);rw[hb] at h99;by_cases h:c=45
  ·subst h;simp[cL,cR,eP,i74,go_sem,h0,h1,c1,c2,c3,htk,h99,hb,e5]
  ·have h':(c==UInt8.ofNat 45)=false:=by simpa using h
   rw[h',show ((45:Nat):Int)=45 from rfl] at hq;have h'':¬(some c=some (45:UInt8)):=by simpa using h
   have hb1:(c==(45:UInt8))=false:=by simpa using h
   simp[cL,cR,eP,i74,go_sem,h0,h1,c1,c2,c3,htk,h99,hb,hq,h,h'',hb1]
theorem R1 (e:Env) (s:List UInt8) (a:Nat) (m:IM) (hs:s.length≤140737488355328) (ha:a≤s.length) (h0:look e 0=some (.str s,.any)) (h1:look e 1=some (.int .i64 a,.any)) :
  ∃e',fc (cL (cR (cR i74.body))) (eP e m)=some (.normal,eP e' m)∧look e' 0=some (.str s,.any)∧look e' 1=some (.int .i64 a,.any)∧look e' 6=some (.int .i64 (lV s (s.length+1) a:Nat),.any):=by
 have hd:=Au s hs a (by omega) m;unfold cw at hd;simp[cL,cR,eP,i74,go_sem,h0,h1,hd]
theorem R2 (e:Env) (s:List UInt8) (a d:Nat) (m:IM) (h0:look e 0=some (.str s,.any)) (h1:look e 1=some (.int .i64 a,.any)) (h6:look e 6=some (.int .i64 d,.any)) :
  if d=a then ∃e',fc (cL (cR (cR (cR i74.body)))) (eP e m)=some (.ret,eP e' m)∧look e' 4=some (.int .i64 a,.any)∧look e' 5=some (.bool false,.any)
  else ∃e',fc (cL (cR (cR (cR i74.body)))) (eP e m)=some (.normal,eP e' m)∧look e' 0=some (.str s,.any)∧look e' 1=some (.int .i64 a,.any)∧look e' 6=some (.int .i64 d,.any):=by
 by_cases h:d=a
 ·subst h;simp[cL,cR,eP,i74,go_sem,h0,h1,h6]
 ·have g:((d:Int)==(a:Int))=false:=by simp;omega
  rw[if_neg h];simp[cL,cR,eP,i74,go_sem,h0,h1,h6,g]
theorem R3 (e:Env) (s:List UInt8) (a d:Nat) (m:IM) (hs:s.length≤140737488355328) (c:UInt8) (hb:s[a]?=some c) (h0:look e 0=some (.str s,.any)) (h1:look e 1=some (.int .i64 a,.any)) (h6:look e 6=some (.int .i64 d,.any)) :
  ∃e',fc (cL (cR (cR (cR (cR i74.body))))) (eP e m)=some (.normal,eP e' m)∧look e' 0=some (.str s,.any)∧look e' 6=some (.int .i64 (if c=48 then a+1 else d:Nat),.any):=by
 have c3:(0:Int)≤(a:Int):=by omega
 have hlt:=dP hb;have e5:IntKind.i64.wrap ((a:Int)+1)=((a+1:Nat):Int):=by rw[w64 (by omega) (by omega)];rfl
 have hq:=km c 48 (by omega);generalize a+1=j at *;by_cases h:c=48
 ·subst h;simp[cL,cR,eP,i74,go_sem,h0,h1,h6,c3,hb,e5]
 ·have h':(c==UInt8.ofNat 48)=false:=by simpa using h
  rw[h',show ((48:Nat):Int)=48 from rfl] at hq;simp[cL,cR,eP,i74,go_sem,h0,h1,h6,c3,hb,hq,h]
theorem R4 (e:Env) (s:List UInt8) (d:Nat) (m:IM) (h0:look e 0=some (.str s,.any)) (h6:look e 6=some (.int .i64 d,.any)) :
  ∃e',fc (cL (cR (cR (cR (cR (cR i74.body)))))) (eP e m)=some (.normal,eP e' m)∧look e' 0=some (.str s,.any)∧look e' 1=some (.int .i64 d,.any):=by
 simp[cL,cR,eP,i74,go_sem,h0,h6]
theorem R5 (e:Env) (s:List UInt8) (a:Nat) (m:IM) (hs:s.length≤140737488355328) (ha:a≤s.length) (h0:look e 0=some (.str s,.any)) (h1:look e 1=some (.int .i64 a,.any)) :
  if (rP s a).2=true then ∃e',fc (cL (cR (cR (cR (cR (cR (cR i74.body))))))) (eP e m)=some (.normal,eP e' m)∧look e' 0=some (.str s,.any)∧look e' 1=some (.int .i64 ((rP s a).1:Nat),.any)
  else ∃e',fc (cL (cR (cR (cR (cR (cR (cR i74.body))))))) (eP e m)=some (.ret,eP e' m)∧look e' 4=some (.int .i64 ((rP s a).1:Nat),.any)∧look e' 5=some (.bool false,.any):=by
 have c2:(a:Int)≤(s.length:Int):=by omega
 have c3:(0:Int)≤(a:Int):=by omega
 have htk:(s.drop a).take (s.length-a)=s.drop a:=List.take_of_length_le (by simp);have h99:=Cb (s.drop a) 46 m;rw[List.head?_drop] at h99;have hd:=Au s hs (a+1) (by omega) m;unfold cw at h99 hd;have e5:IntKind.i64.wrap ((a:Int)+1)=((a+1:Nat):Int):=by rw[w64 (by omega) (by omega)];rfl
 unfold rP;generalize lV s (s.length+1) (a+1)=D at *;generalize a+1=j at *
 cases hb:s[a]? with
 |none =>
  have hge:=List.getElem?_eq_none_iff.1 hb;have c1:¬(a:Int)<(s.length:Int):=by omega
  rw[hb] at h99;simp[cL,cR,eP,i74,go_sem,h0,h1,c1,c2,c3,htk,h99,hb]
 |some c =>
  have c1:(a:Int)<(s.length:Int):=by have:=dP hb;omega
  have hq:=km c 46 (by omega);rw[hb] at h99;by_cases h:c=46
  ·subst h;by_cases hD:D=j
   ·subst hD;simp[cL,cR,eP,i74,go_sem,h0,h1,c1,c2,c3,htk,h99,hb,e5,hd]
   ·have hD':((D:Int)==(j:Int))=false:=by simp;omega
    simp[cL,cR,eP,i74,go_sem,h0,h1,c1,c2,c3,htk,h99,hb,e5,hd,hD,hD']
  ·have h':(c==UInt8.ofNat 46)=false:=by simpa using h
   rw[h',show ((46:Nat):Int)=46 from rfl] at hq;have h'':¬(some c=some (46:UInt8)):=by simpa using h
   have hb1:(c==(46:UInt8))=false:=by simpa using h
   simp[cL,cR,eP,i74,go_sem,h0,h1,c1,c2,c3,htk,h99,hb,hq,h,h'',hb1]
theorem Ob (e:Env) (s:List UInt8) (a:Nat) (m:IM) (hs:s.length≤140737488355328) (ha:a≤s.length) (h0:look e 0=some (.str s,.any)) (h1:look e 1=some (.int .i64 a,.any)) :
  ∃e',fc (cL (cR (cT (cR (cL (cR (cR (cR (cR (cR (cR (cR i74.body)))))))))))) (eP e m)=some (.normal,eP e' m)∧look e' 0=some (.str s,.any)∧look e' 1=some (.int .i64 (uw s a:Nat),.any):=by
 have c3:(0:Int)≤(a:Int):=by omega
 have e5:IntKind.i64.wrap ((a:Int)+1)=((a+1:Nat):Int):=by rw[w64 (by omega) (by omega)];rfl
 unfold uw;generalize a+1=j at *
 cases hb:s[a]? with
 |none =>
  have hge:=List.getElem?_eq_none_iff.1 hb;have c1:¬(a:Int)<(s.length:Int):=by omega
  simp[cL,cR,cT,eP,i74,go_sem,h0,h1,c1,hb]
 |some c =>
  have c1:(a:Int)<(s.length:Int):=by have:=dP hb;omega
  have hq:=km c 43 (by omega);have hq2:=km c 45 (by omega);by_cases h:c=43
  ·subst h;simp[cL,cR,cT,eP,i74,go_sem,h0,h1,c1,c3,hb,e5]
  ·have h':(c==UInt8.ofNat 43)=false:=by simpa using h
   rw[h',show ((43:Nat):Int)=43 from rfl] at hq;by_cases h2:c=45
   ·subst h2;simp[cL,cR,cT,eP,i74,go_sem,h0,h1,c1,c3,hb,e5]
   ·have h2':(c==UInt8.ofNat 45)=false:=by simpa using h2
    rw[h2',show ((45:Nat):Int)=45 from rfl] at hq2;simp[cL,cR,cT,eP,i74,go_sem,h0,h1,c1,c3,hb,hq,hq2,h,h2]
theorem wh {i:FuncId}{fn:dJ}{as:List IV}{m:IM}{x:Ex}{st:St}(hp:al i=none) (hf:da.fns i=some fn) (hn:as.length=fn.rO) (hx:x=.normal∨x=.ret)
  (h:fc fn.body (eP (dQ 0 as) m)=some (x,st)):cw (.f i) as m=match cY st fn.yp with
   |some [v]=>settle m st.m v
   |some vs=>settle m st.m (.db vs)
   |none=>none:=by
 unfold cw;rw[dd hp hf];unfold dJ.call;rw[if_neg (by omega)];have h':fn.body.run (fR da al) (g9 da al) { env:=dQ 0 as,lk:=[],lb:=[],m:=m }=some (x,st):=h;rw[h'];simp only;rw[if_pos hx];rfl
def cF:aq→aq
 |.cond _ _ b=>b
 |c=>c
theorem sp {c:aq}{st st':St}(hs:c=.seq (cL c) (cR c)) (h:fc (cL c) st=some (.normal,st')):fc c st=fc (cR c) st':=by rw[hs];exact run_seq h
theorem qO {c:aq}{st st':St}(hs:c=.seq (cL c) (cR c)) (h:fc (cL c) st=some (.ret,st')):fc c st=some (.ret,st'):=by rw[hs];exact Db h
theorem EZ {i:Nat}{a b:aq}{st:St}{c:cV}(h:look st.env i=some (.bool true,c)):fc (.cond (.t i) a b) st=fc a st:=by show aq.run _ _ (.cond (.t i) a b) st=_;rw[aq.run];simp[Arg.rd,h]
theorem EY {i:Nat}{a b:aq}{st:St}{c:cV}(h:look st.env i=some (.bool false,c)):fc (.cond (.t i) a b) st=fc b st:=by show aq.run _ _ (.cond (.t i) a b) st=_;rw[aq.run];simp[Arg.rd,h]
theorem XA {d:aq}{i:Nat}{st:St}{c:cV}(hs:d=.cond (.t i) (cT d) (cF d)) (h:look st.env i=some (.bool true,c)):fc d st=fc (cT d) st:=by rw[hs];exact EZ h
theorem Xz {d:aq}{i:Nat}{st:St}{c:cV}(hs:d=.cond (.t i) (cT d) (cF d)) (h:look st.env i=some (.bool false,c)):fc d st=fc (cF d) st:=by rw[hs];exact EY h
theorem Oa (e:Env) (s:List UInt8) (a:Nat) (m:IM) (h0:look e 0=some (.str s,.any)) (h1:look e 1=some (.int .i64 a,.any)) :
  ∃e',fc (cL (cL (cR (cR (cR (cR (cR (cR (cR i74.body))))))))) (eP e m)=some (.normal,eP e' m)∧look e' 0=some (.str s,.any)∧look e' 1=some (.int .i64 a,.any)∧look e' 56=some (.bool (decide (s[a]?=some 101∨s[a]?=some 69)),.any):=by
 have c3:(0:Int)≤(a:Int):=by omega
 cases hb:s[a]? with
 |none =>
  have hge:=List.getElem?_eq_none_iff.1 hb;have c1:¬(a:Int)<(s.length:Int):=by omega
  simp[cL,cR,eP,i74,go_sem,h0,h1,c1,hb]
 |some c =>
  have c1:(a:Int)<(s.length:Int):=by have:=dP hb;omega
  have hq:=km c 101 (by omega);have hq2:=km c 69 (by omega);by_cases h:c=101
  ·subst h;simp[cL,cR,eP,i74,go_sem,h0,h1,c1,c3,hb]
  ·have h':(c==UInt8.ofNat 101)=false:=by simpa using h
   rw[h',show ((101:Nat):Int)=101 from rfl] at hq;by_cases h2:c=69
   ·subst h2;simp[cL,cR,eP,i74,go_sem,h0,h1,c1,c3,hb]
   ·have h2':(c==UInt8.ofNat 69)=false:=by simpa using h2
    rw[h2',show ((69:Nat):Int)=69 from rfl] at hq2;simp[cL,cR,eP,i74,go_sem,h0,h1,c1,c3,hb,hq,hq2,h,h2]
theorem Oc (e:Env) (s:List UInt8) (a:Nat) (m:IM) (hs:s.length≤140737488355328) (ha:a≤s.length) (h0:look e 0=some (.str s,.any)) (h1:look e 1=some (.int .i64 a,.any)) :
  ∃e',fc (cL (cT (cR (cL (cR (cR (cR (cR (cR (cR (cR i74.body))))))))))) (eP e m)=some (.normal,eP e' m)∧look e' 0=some (.str s,.any)∧look e' 1=some (.int .i64 (a+1:Nat),.any):=by
 have e5:IntKind.i64.wrap ((a:Int)+1)=((a+1:Nat):Int):=by rw[w64 (by omega) (by omega)];rfl
 generalize a+1=j at *;simp[cL,cR,cT,eP,i74,go_sem,h0,h1,e5]
theorem Od (e:Env) (s:List UInt8) (a:Nat) (m:IM) (hs:s.length≤140737488355328) (ha:a≤s.length) (h0:look e 0=some (.str s,.any)) (h1:look e 1=some (.int .i64 a,.any)) :
  if lV s (s.length+1) a=a then ∃e',fc (cL (cR (cR (cT (cR (cL (cR (cR (cR (cR (cR (cR (cR i74.body))))))))))))) (eP e m)=some (.ret,eP e' m)∧look e' 4=some (.int .i64 a,.any)∧look e' 5=some (.bool false,.any)
  else ∃e',fc (cL (cR (cR (cT (cR (cL (cR (cR (cR (cR (cR (cR (cR i74.body))))))))))))) (eP e m)=some (.normal,eP e' m)∧look e' 6=some (.int .i64 (lV s (s.length+1) a:Nat),.any):=by
 have hd:=Au s hs a (by omega) m;unfold cw at hd;generalize lV s (s.length+1) a=D at *;by_cases h:D=a
 ·subst h;simp[cL,cR,cT,eP,i74,go_sem,h0,h1,hd]
 ·have g:((D:Int)==(a:Int))=false:=by simp;omega
  rw[if_neg h];simp[cL,cR,cT,eP,i74,go_sem,h0,h1,hd,g]
theorem Oe (e:Env) (d:Nat) (m:IM) (h6:look e 6=some (.int .i64 d,.any)) :
  ∃e',fc (cR (cR (cR (cT (cR (cL (cR (cR (cR (cR (cR (cR (cR i74.body))))))))))))) (eP e m)=some (.normal,eP e' m)∧look e' 1=some (.int .i64 d,.any):=by
 simp[cL,cR,cT,eP,i74,go_sem,h6]
theorem R6 (e:Env) (s:List UInt8) (a:Nat) (m:IM) (hs:s.length≤140737488355328) (ha:a≤s.length) (h0:look e 0=some (.str s,.any)) (h1:look e 1=some (.int .i64 a,.any)) :
  if (ya s a).2=true then ∃e',fc (cL (cR (cR (cR (cR (cR (cR (cR i74.body)))))))) (eP e m)=some (.normal,eP e' m)∧look e' 1=some (.int .i64 ((ya s a).1:Nat),.any)
  else ∃e',fc (cL (cR (cR (cR (cR (cR (cR (cR i74.body)))))))) (eP e m)=some (.ret,eP e' m)∧look e' 4=some (.int .i64 ((ya s a).1:Nat),.any)∧look e' 5=some (.bool false,.any):=by
 obtain⟨e1,q1,q2,q3,q4⟩:=Oa e s a m h0 h1;by_cases h:s[a]?=some 101∨s[a]?=some 69
 ·have hlt:a<s.length:=by rcases h with q | q<;>exact dP q
  rw[decide_eq_true h] at q4;obtain⟨e2,u1,u2,u3⟩:=Oc e1 s a m hs ha q2 q3;obtain⟨e3,v1,v2,v3⟩:=Ob e2 s (a+1) m hs hlt u2 u3;have hw:=Od e3 s (uw s (a+1)) m hs (EI hlt) v2 v3;have hrun:fc (cL (cR (cR (cR (cR (cR (cR (cR i74.body)))))))) (eP e m)=fc (cR (cR (cT (cR (cL (cR (cR (cR (cR (cR (cR (cR i74.body)))))))))))) (eP e3 m) :=
   (sp rfl q1).trans ((XA (i:=56) rfl q4).trans ((sp rfl u1).trans (sp rfl v1)))
  rw[hrun];unfold ya;rw[if_pos h];by_cases hD:lV s (s.length+1) (uw s (a+1))=uw s (a+1)
  ·rw[if_pos hD] at hw;obtain⟨e4,w1,w2,w3⟩:=hw;rw[qO rfl w1];simp only[hD,ne_eq,not_true_eq_false,decide_false,Bool.false_eq_true,if_false];exact⟨e4,rfl,w2,w3⟩
  ·rw[if_neg hD] at hw;obtain⟨e4,w1,w2⟩:=hw;rw[sp rfl w1];simp only[ne_eq,hD,not_false_eq_true,decide_true,if_true];exact Oe e4 _ m w2
 ·rw[decide_eq_false h] at q4;unfold ya;rw[if_neg h,(sp rfl q1).trans (Xz (i:=56) rfl q4)];simp only[if_true];exact⟨e1,rfl,q3⟩
theorem R7 (e:Env) (a:Nat) (m:IM) (h1:look e 1=some (.int .i64 a,.any)) :
  ∃e',fc (cR (cR (cR (cR (cR (cR (cR (cR i74.body)))))))) (eP e m)=some (.ret,eP e' m)∧look e' 4=some (.int .i64 a,.any)∧look e' 5=some (.bool true,.any):=by
 simp[cL,cR,eP,i74,go_sem,h1]
theorem RZ (s:List UInt8) (a:Nat) (m:IM) :
  ∃e',fc (cL i74.body) (eP (dQ 0 [.str s,.int .i64 (a:Int)]) m)=some (.normal,eP e' m)∧look e' 0=some (.str s,.any)∧look e' 1=some (.int .i64 a,.any):=by
 simp[cL,eP,i74,go_sem]
theorem Jn (s:List UInt8) (hs:s.length≤140737488355328) (a:Nat) (ha:a≤s.length) (m:IM):cw (.f 74) [.str s,.int .i64 (a:Int)] m=some (.db [.int .i64 ((gf s a).1:Nat),.bool (gf s a).2],m):=by
 have hc:∃e',fc i74.body (eP (dQ 0 [.str s,.int .i64 (a:Int)]) m)=some (.ret,eP e' m)∧look e' 4=some (.int .i64 ((gf s a).1:Nat),.any)∧look e' 5=some (.bool (gf s a).2,.any):=by
  obtain⟨e0,a0,a1,a2⟩:=RZ s a m;obtain⟨e1,b0,b1,b2⟩:=R0 e0 s a m hs ha a1 a2;have l1:=xt ha;obtain⟨e2,x0,x1,x2,x3⟩:=R1 e1 s _ m hs l1 b1 b2;have h3:=R2 e2 s _ _ m x1 x2 x3;have r3:fc i74.body (eP (dQ 0 [.str s,.int .i64 (a:Int)]) m)=fc (cR (cR (cR i74.body))) (eP e2 m):=by exact (sp rfl a0).trans ((sp rfl b0).trans (sp rfl x0))
  rw[r3];unfold gf;by_cases hD:lV s (s.length+1) (nm s a)=nm s a
  ·rw[if_pos hD] at h3 ⊢;obtain⟨e3,y0,y1,y2⟩:=h3;rw[qO rfl y0];exact⟨e3,rfl,y1,y2⟩
  ·rw[if_neg hD] at h3 ⊢;obtain⟨e3,y0,y1,y2,y3⟩:=h3;obtain⟨c,hb⟩:=Rj hD;obtain⟨e4,z0,z1,z2⟩:=R3 e3 s _ _ m hs c hb y1 y2 y3;obtain⟨e5,u0,u1,u2⟩:=R4 e4 s _ m z1 z2;have hn2:(if c=48 then nm s a+1 else lV s (s.length+1) (nm s a))=yi s (nm s a):=by unfold yi;rw[hb];simp
   rw[hn2] at u2;have l2:=AZ l1;have h6:=R5 e5 s _ m hs l2 u1 u2;have r6:fc (cR (cR (cR i74.body))) (eP e2 m)=fc (cR (cR (cR (cR (cR (cR i74.body)))))) (eP e5 m):=by exact (sp rfl y0).trans ((sp rfl z0).trans (sp rfl u0))
   rw[r6];generalize yi s (nm s a)=A2 at *;by_cases h3':(rP s A2).2=true
   ·rw[if_pos h3'] at h6 ⊢;obtain⟨e6,v0,v1,v2⟩:=h6;have l3:=A0 (s:=s) (a:=A2) l2;have h7:=R6 e6 s _ m hs l3 v1 v2;rw[sp rfl v0];generalize (rP s A2).1=A3 at *;by_cases h4':(ya s A3).2=true
    ·rw[if_pos h4'] at h7;obtain⟨e7,w0,w1⟩:=h7;rw[sp rfl w0,h4'];exact R7 e7 _ m w1
    ·rw[if_neg h4'] at h7;obtain⟨e7,w0,w1,w2⟩:=h7;have h4f:(ya s A3).2=false:=by simpa using h4'
     rw[qO rfl w0,h4f];exact⟨e7,rfl,w1,w2⟩
   ·rw[if_neg h3'] at h6 ⊢;obtain⟨e6,v0,v1,v2⟩:=h6;have h3f:(rP s A2).2=false:=by simpa using h3'
    rw[qO rfl v0,h3f];exact⟨e6,rfl,v1,v2⟩
 obtain⟨e',q0,q1,q2⟩:=hc;rw[wh p74 f74 rfl (.inr rfl) q0];simp[i74,eP,go_sem,q1,q2]
theorem f132:da.fns 132=some i132:=by rfl
theorem p132:al 132=none:=by rfl
theorem Nf (s:List UInt8) (hs:s.length≤140737488355328) (m:IM):cw (.f 132) [.str s] m=some (.bool ((gf s 0).2&&decide ((gf s 0).1=s.length)),m):=by
 unfold cw;rw[dd p132 f132];have h:=Jn s hs 0 (by omega) m;unfold cw at h;rw[show ((0:Nat):Int)=0 from rfl] at h;generalize gf s 0=N at *;obtain⟨n,w⟩:=N
 cases w with
 |false=>simp[i132,go_sem,h]
 |true =>
  by_cases hq:n=s.length
  ·subst hq;simp[i132,go_sem,h]
  ·have g:((n:Int)==(s.length:Int))=false:=by simp;omega
   simp[i132,go_sem,h,g,hq]
def MM (bs L:List aS) (E:Nat):IM:=⟨bs++L,E⟩
theorem I1 (m:IM):m=MM m.bs [] m.kS:=by cases m;simp[MM]
theorem uO (bs L:List aS) (E:Nat):(MM bs L E).size=bs.length+L.length:=by simp[MM,IM.size]
theorem Ah (bs L:List aS) (E:Nat):(MM bs L E).kS=E:=rfl
theorem uL (bs L:List aS) (E:Nat) (o:aS):(MM bs L E).push o=some (MM bs (L++[o]) E):=by simp[MM,IM.push,aK]
theorem pe (bs:List aS) (a:aS) (L:List aS) (E:Nat):(MM bs (a::L) E).get bs.length=a:=by simp[MM,IM.get]
theorem uK (bs:List aS) (a b:aS) (L:List aS) (E:Nat):(MM bs (a::b::L) E).get (bs.length+1)=b:=by simp[MM,IM.get]
theorem Aj (bs:List aS) (a b c:aS) (L:List aS) (E:Nat):(MM bs (a::b::c::L) E).get (bs.length+2)=c:=by simp[MM,IM.get]
theorem rb (bs:List aS) (a b c d:aS) (L:List aS) (E:Nat):(MM bs (a::b::c::d::L) E).get (bs.length+3)=d:=by simp[MM,IM.get]
theorem rh (bs:List aS) (a:aS) (L:List aS) (E:Nat) (o:aS):(MM bs (a::L) E).put bs.length o=some (MM bs (o::L) E):=by simp[MM,IM.put,aK]
theorem uM (bs:List aS) (a b:aS) (L:List aS) (E:Nat) (o:aS):(MM bs (a::b::L) E).put (bs.length+1) o=some (MM bs (a::o::L) E):=by simp[MM,IM.put,aK]
theorem FB (bs:List aS) (a b c:aS) (L:List aS) (E:Nat) (o:aS):(MM bs (a::b::c::L) E).put (bs.length+2) o=some (MM bs (a::b::o::L) E):=by simp[MM,IM.put,aK]
theorem uN (bs:List aS) (a b c d:aS) (L:List aS) (E:Nat) (o:aS):(MM bs (a::b::c::d::L) E).put (bs.length+3) o=some (MM bs (a::b::c::o::L) E):=by simp[MM,IM.put,aK]
theorem Ai (bs L:List aS) (E E':Nat):(⟨(MM bs L E).bs,E'⟩:IM)=MM bs L E':=rfl
def Ol (m m':IM) (v:IV):Option (IV×IM):=settle m m' v
theorem lJ (bs L L':List aS) (E E':Nat) (v:IV):settle (MM bs L E) (MM bs L' E') v=if v.ak=some 0∧E'=E then some (v,MM bs (L'.take L.length) E') else Ol (MM bs L E) (MM bs L' E') v:=by
 split
 ·rename_i h;unfold settle;have e:bs.take (bs.length+L.length)=bs:=List.take_of_length_le (by omega);simp[h.1,h.2,aK,MM,IM.size,List.take_append,e]
 ·rfl
theorem Nk (s:List UInt8) (bs:List aS) (a b:aS) (E:Nat):cw (.f 38) [.str s] (MM bs [a,b] E)=some (.func 67 [] [.pB (bs.length+2) 0],MM bs [a,b,.cells [.str s] [.any]] E):=by
 unfold cw;rw[dd p38 f38];have hs:settle (MM bs [a,b] E) (MM bs [a,b,.cells [.str s] [.any]] E) (.func 67 [] [.pB (bs.length+2) 0])=some (.func 67 [] [.pB (bs.length+2) 0],MM bs [a,b,.cells [.str s] [.any]] E):=by simp[settle,IV.ak,IV.ak.go,IV.refs,IV.refs.go,aK,MM,IM.size,Ej,ND,aC]
 simp[-List.length_append,i38,go_sem,uL,uO,hs]
def E6 (s:List UInt8) (n:Nat):Env:=[(7,.func 67 [] [.pB (n+2) 0],.any),(6,.str s,.any),(3,.pB (n+1) 0,.any),(2,.pB n 0,.any),(0,.str s,.any)]
def Vg (bs:List aS) (E:Nat) (s:List UInt8) (b:Bool) (i:Nat) (busy j:Nat):IM :=
 MM bs [.cells [.bool b] [.any],.cells [.int .i64 (i:Int)] [.any],.cells [.str s] [.any],.loop busy 31 0 (E6 s bs.length) j] E
theorem X0 (bs:List aS) (E:Nat) (s:List UInt8) (at_:Nat) (r:Nat×Bool×Nat):cw (.y (bs.length+3)) [.int .i64 (at_:Int),lp r] (Vg bs E s false 0 0 0)=some (.bool r.2.1,if r.2.1 then Vg bs E s false 0 0 0 else Vg bs E s false at_ 1 1):=by
 unfold cw;rw[Nl (fn:=31) (site:=0) (r:=Gu) (bz:=0) (j:=0) (tm:=E6 s bs.length) (by unfold Vg;rw[rb]) rfl];have h1:look (E6 s bs.length) 3=some (.pB (bs.length+1) 0,.any):=rfl;have h2:look (E6 s bs.length) 2=some (.pB bs.length 0,.any):=rfl;generalize E6 s bs.length=tm at *
 cases hw:r.2.1 with
 |true=>simp[Gu,mX.call,oQ,lp,Vg,go_sem,rb,uN,pe,rh,uK,uM,lJ,Ah,Ai,hw,w5]
 |false=>simp[Gu,mX.call,oQ,lp,Vg,go_sem,rb,uN,pe,rh,uK,uM,lJ,Ah,Ai,hw,w5,h1,h2]
def xU (_:Nat) (a:Nat) (r:Nat×Bool×Nat):Bool×Nat:=(r.2.1,a)
theorem zB:∀(k:Nat) (s:List UInt8) (a x:Nat),match si k s a with
  |none=>(visit xU k s a x).1=true
  |some a'=>visit xU k s a x=(false,a')
 |0,_,_,_=>rfl
 |_+1,[],_,_=>rfl
 |k+1,c::t,a,x=>by
  have ih:=zB k ((c::t).drop (max (aI (c::t)).1 1)) (a+max (aI (c::t)).1 1) a
  cases hw:(aI (c::t)).2.1 with
  |true =>simp only[si,visit,xU,hw,if_true];exact ih
  |false=>simp[si,visit,xU,hw]
theorem Jm (bs:List aS) (E:Nat) (s:List UInt8) (hs:s.length≤140737488355328):cw (.f 67) [.nT (bs.length+3),.pB (bs.length+2) 0] (Vg bs E s false 0 0 0)=some (.db [],match si (s.length+1) s 0 with | none=>Vg bs E s false 0 0 0 | some a=>Vg bs E s false a 1 1):=by
 unfold cw;rw[dd p67 f67];obtain⟨e',lb',q⟩:=Ww s hs (bs.length+3) (bs.length+2) (fun _=>Vg bs E s false 0 0 0) (fun a=>Vg bs E s false a 1 1) xU (fun _ _=>True) (fun x=>by unfold Vg;rw[Aj])
  (fun _ _ _ _ _=>trivial) (fun a x _ h=>by
   have:=X0 bs E s a (aI (s.drop a))
   cases hh:(aI (s.drop a)).2.1<;>simpa[hh,xU] using this) (s.length+1) 0 0 (by omega) (by omega) trivial
 rw[List.drop_zero] at q;have hv:=zB (s.length+1) s 0 0;generalize visit xU (s.length+1) s 0 0=V at *;have hset:∀(i b j:Nat),settle (Vg bs E s false 0 0 0) (Vg bs E s false i b j) (.db [])=some (.db [],Vg bs E s false i b j):=by intro i b j;unfold Vg;rw[lJ,if_pos ⟨rfl,rfl⟩];rfl
 have h0:=hset 0 0 0;simp only[I6] at q;rw[show ((0:Nat):Int)=0 from rfl] at q
 cases hq:si (s.length+1) s 0 with
 |none =>rw[hq] at hv;obtain⟨V1,V2⟩:=V;simp only at hv;subst hv;generalize Vg bs E s false 0 0 0=M0 at *;simp[i67,Ct,xb,xd,go_sem,q,h0]
 |some a =>rw[hq] at hv;simp only at hv;subst hv;have h1:=hset a 1 1;simp only at q ⊢;generalize Vg bs E s false 0 0 0=M0 at *;generalize Vg bs E s false a 1 1=M1 at *;simp[i67,Ct,xb,xd,go_sem,q,h1]
theorem Nj (s:List UInt8) (hs:s.length≤140737488355328) (m:IM):cw (.f 31) [.str s] m=some (.db (match si (s.length+1) s 0 with | none=>[.bool true,.int .i64 (s.length:Int)] | some a=>[.bool false,.int .i64 (a:Int)]),m):=by
 rw[I1 m];generalize m.bs=bs;generalize m.kS=E;unfold cw;rw[dd p31 f31];have h1:=Nk s bs (.cells [.bool false] [.any]) (.cells [.int .i64 0] [.any]) E;have h2:=Jm bs E s hs;unfold cw at h1 h2
 cases hv:si (s.length+1) s 0 with
 |none =>rw[hv] at h2;simp only[Vg,E6] at h2;rw[show ((0:Nat):Int)=0 from rfl] at h2;simp[-List.length_append,i31,go_sem,h1,h2,uL,uO,pe,uK,Aj,rb,rh,uM,FB,uN,lJ,Ah,Ai,N0]
 |some a =>rw[hv] at h2;simp only[Vg,E6] at h2;rw[show ((0:Nat):Int)=0 from rfl] at h2;simp[-List.length_append,i31,go_sem,h1,h2,uL,uO,pe,uK,Aj,rb,rh,uM,FB,uN,lJ,Ah,Ai,N0]
def Ic (s:List UInt8):Bool:=(si (s.length+1) s 0).isNone
theorem FL (s:List UInt8) (hs:s.length≤140737488355328) (m:IM):cw (.f 66) [.str s] m=some (.bool (Ic s),m):=by
 unfold cw;rw[dd p66 f66];have h:=Nj s hs m;unfold cw at h;unfold Ic
 cases hv:si (s.length+1) s 0 with
 |none=>rw[hv] at h;simp[i66,go_sem,h]
 |some a=>rw[hv] at h;simp[i66,go_sem,h]
def mU (K:IV) (ks:List (List UInt8)):Prop:=(K=.aa∧ks=[])∨K=.sl (ks.map .str) ks.length
theorem Dr {ks:List (List UInt8)}{i:Nat}(h:i<ks.length):((ks.map IV.str).drop i).take 1=[.str ks[i]]:=by
 have h':i<(ks.map IV.str).length:=by simpa using h
 rw[List.drop_eq_getElem_cons h'];simp
theorem f111:da.fns 111=some i111:=by rfl
theorem p111:al 111=none:=by rfl
theorem M9 (s:List UInt8) (m:IM):cw (.f 111) [.str s] m=some (.bool (decide (1000<s.length)),m):=by
 unfold cw;rw[dd p111 f111];by_cases h:1000<s.length
 ·have g:(1000:Int)<(s.length:Int):=by omega
  simp[i111,go_sem,g,h]
 ·have g:¬(1000:Int)<(s.length:Int):=by omega
  simp[i111,go_sem,g,h]
theorem f133:da.fns 133=some i133:=by rfl
theorem p133:al 133=none:=by rfl
theorem Ng (s:List UInt8) (hs:s.length≤140737488355328) (m:IM):cw (.f 133) [.str s] m=some (.bool (!Ic s),m):=by unfold cw;rw[dd p133 f133];have h:=FL s hs m;unfold cw at h;simp[i133,go_sem,h]
theorem f131:da.fns 131=some i131:=by rfl
theorem p131:al 131=none:=by rfl
theorem sS:mO.AK=[(0,0),(1,0),(7,0),(8,0)]:=rfl
theorem pz:mO.eC=[]:=rfl
theorem pA:mO.Bb=[]:=rfl
def BZ (ks:List (List UInt8)) (f i:Nat) (m:IM):St:=eP [(0,.sl (ks.map .str) ks.length,.any),(1,.func f [] [],.any),(7,.int .i64 (ks.length:Int),.any),(8,.int .i64 i,.any)] m
theorem Ws (ks:List (List UInt8)) (f:Nat) (P:List UInt8→Bool) (hb:ks.length≤140737488355328) (m:IM) (hf:∀s,s∈ks→cw (.f f) [.str s] m=some (.bool (P s),m)):∀(k i:Nat),ks.length=i+k →
  if (ks.drop i).any P=true then ∃e' j,lc da al mO lY (some (BZ ks f i m))=some (.ret,eP e' m)∧look e' 4=some (.int .i64 (j:Nat),.any)
  else ∃e',lc da al mO lY (some (BZ ks f i m))=some (.exit 0,eP e' m):=by
 intro k
 induction k with
 |zero =>
  intro i hk;have e:ks.drop i=[]:=List.drop_eq_nil_iff.2 (by omega);have c1:¬(i:Int)<(ks.length:Int):=by omega
  rw[e,eG];simp[lY,sS,pz,pA,BZ,eP,go_sem,c1]
 |succ k ih =>
  intro i hk;have hi:i<ks.length:=by omega
  have c1:(i:Int)<(ks.length:Int):=by omega
  have c3:(0:Int)≤(i:Int):=by omega
  have hg:=Dr hi;have hl:i+1≤(ks.map IV.str).length:=by rw[List.length_map];omega
  have hq:=hf ks[i] (List.getElem_mem hi);have ex:ks.drop i=ks[i]::ks.drop (i+1):=List.drop_eq_getElem_cons hi;rw[ex,List.any_cons];unfold cw at hq;generalize ks[i]=x at *
  cases hP:P x with
  |true =>rw[hP] at hq;rw[if_pos (by simp),eG];simp only[BZ,eP];generalize lc da al mO lY=L;generalize ks.map IV.str=R at *;generalize ks.length=n at *;simp[lY,sS,pz,pA,go_sem,c1,c3,hg,hl,hq];exact⟨i,rfl⟩
  |false =>
   rw[hP] at hq;have e1:IntKind.i64.wrap ((i:Int)+1)=((i+1:Nat):Int):=by rw[w64 (by omega) (by omega)];rfl
   have step:lc da al mO lY (some (BZ ks f i m))=lc da al mO lY (some (BZ ks f (i+1) m)):=by rw[eG];simp only[BZ,eP];generalize lc da al mO lY=L;generalize hj:i+1=j at *;generalize ks.map IV.str=R at *;generalize ks.length=n at *;simp[lY,sS,pz,pA,go_sem,c1,c3,hg,hl,hq,e1,hj]
   rw[step,Bool.false_or];exact ih (i+1) (by omega)
theorem f110:da.fns 110=some i110:=by rfl
theorem p110:al 110=none:=by rfl
theorem FJ (K:IV) (ks:List (List UInt8)) (hK:mU K ks) (f:Nat) (P:List UInt8→Bool) (hb:ks.length≤140737488355328) (m:IM) (hf:∀s,s∈ks→cw (.f f) [.str s] m=some (.bool (P s),m)) :
  cw (.f 110) [K,.func f [] []] m=some (.bool (ks.any P),m):=by
 have h131:∃j:Int,cw (.f 131) [K,.func f [] []] m=some (.int .i64 j,m)∧decide (0≤j)=ks.any P:=by
  rcases hK with ⟨rfl,rfl⟩ | rfl
  ·refine⟨-1,?_,rfl⟩;unfold cw;rw[dd p131 f131];simp[i131,go_sem,eG,lY,sS,pz,pA]
  ·have q:=Ws ks f P hb m hf ks.length 0 (by omega);rw[List.drop_zero] at q;simp only[BZ,eP] at q;rw[show ((0:Nat):Int)=0 from rfl] at q;by_cases h:ks.any P=true
   ·rw[if_pos h] at q;obtain⟨e',j,q0,q1⟩:=q;refine⟨(j:Nat),?_,by rw[h];simp⟩;unfold cw;rw[dd p131 f131];generalize ks.map IV.str=R at *;generalize ks.length=n at *;simp[i131,go_sem,sS,pz,pA,q0,q1]
   ·rw[if_neg h] at q;obtain⟨e',q0⟩:=q;have h':ks.any P=false:=by simpa using h
    refine⟨-1,?_,by rw[h'];rfl⟩;unfold cw;rw[dd p131 f131];generalize ks.map IV.str=R at *;generalize ks.length=n at *;simp[i131,go_sem,sS,pz,pA,q0]
 obtain⟨j,q0,q1⟩:=h131;unfold cw;rw[dd p110 f110];unfold cw at q0;rw[←q1];rcases hK with ⟨rfl,rfl⟩ | rfl
 ·simp[i110,go_sem,q0]
 ·generalize ks.map IV.str=R at *;generalize ks.length=n at *;simp[i110,go_sem,q0]
def ij (e:Env) (l:List (Nat×Loc)) (b:List (Nat×aS)) (m:IM):St:={ env:=e,lk:=l,lb:=b,m:=m }
def OY (V:IV) (n:Nat):Prop:=(V=.aa∧n=0)∨∃row,V=.sl row n
def vc (k:Int) (t:List UInt8) (K V:IV):List IV:=[.int .i64 k,.str t,K,V]
def VB (e:Env) (b:List (Nat×aS)) (i:Nat) (k:Int) (t:List UInt8) (K V:IV):Prop :=
 look e i=some (.pL 0 0,.any)∧aQ b 0=.cells [.int .i64 k,.str t,K,V] [.any,.any,.any,.any]
def iz (k:Int) (t:List UInt8):Bool :=
 if k=1 then decide (t=[116,114,117,101])||decide (t=[102,97,108,115,101])
 else if k=2 then (gf t 0).2&&decide ((gf t 0).1=t.length)
 else if k=3 then Ic t
 else decide (t=[])
def f7 (k:Int) (t:List UInt8) (ks:List (List UInt8)) (n:Nat):Bool :=
 iz k t&&(decide (k=5)||decide (ks=[]))&&(decide (k=5)||decide (k=4)||decide (n=0)) && !(ks.any fun s=>!Ic s)
theorem f112:da.fns 112=some i112:=by rfl
theorem p112:al 112=none:=by rfl
theorem N5 (k:Int) (t:List UInt8) (K V:IV) (ks:List (List UInt8)) (n:Nat) (hK:mU K ks) (hV:OY V n) (m:IM) :
  ∃e b,fc (cL i112.body) (eP (dQ 0 [.agg (vc k t K V)]) m)=some (.normal,ij e [] b m)∧VB e b 1 k t K V∧aQ b 1=.none:=by
 rcases hK with ⟨rfl,rfl⟩ | rfl<;>rcases hV with ⟨rfl,rfl⟩ | ⟨row,rfl⟩<;>simp[cL,eP,ij,i112,go_sem,and_assoc,VB,vc]
theorem N6 (k:Int) (t:List UInt8) (K V:IV) (m:IM) (e:Env) (b:List (Nat×aS)) (h:VB e b 1 k t K V) (hb:aQ b 1=.none) :
  ∃e' l' b',fc (cL (cR i112.body)) (ij e [] b m)=some (.normal,ij e' l' b' m)∧VB e' b' 1 k t K V∧look e' 3=some (.pL 1 0,.any)∧aQ b' 1=.cells [.int .i64 k,.str t] [.any,.any]:=by
 obtain⟨h1,h2⟩:=h;simp[cL,cR,eP,ij,i112,go_sem,and_assoc,VB,h1,h2,hb]
theorem N7 (k:Int) (t:List UInt8) (K V:IV) (m:IM) (e:Env) (l:List (Nat×Loc)) (b:List (Nat×aS)) (h:VB e b 1 k t K V) (h3:look e 3=some (.pL 1 0,.any)) (hb:aQ b 1=.cells [.int .i64 k,.str t] [.any,.any]) :
  ∃e' l' b',fc (cL (cR (cR i112.body))) (ij e l b m)=some (.normal,ij e' l' b' m)∧VB e' b' 1 k t K V∧look e' 3=some (.pL 1 0,.any)∧aQ b' 1=.cells [.int .i64 k,.str t] [.any,.any]:=by
 obtain⟨h1,h2⟩:=h;simp[cL,cR,eP,ij,i112,go_sem,and_assoc,VB,h1,h2,h3,hb]
theorem N8 (k:Int) (t:List UInt8) (ht:t.length≤140737488355328) (K V:IV) (m:IM) (e:Env) (l:List (Nat×Loc)) (b:List (Nat×aS)) (h:VB e b 1 k t K V) (h3:look e 3=some (.pL 1 0,.any)) (hb:aQ b 1=.cells [.int .i64 k,.str t] [.any,.any]) :
  ∃e' l' b',fc (cL (cR (cR (cR i112.body)))) (ij e l b m)=some (.normal,ij e' l' b' m)∧VB e' b' 1 k t K V∧look e' 4=some (.bool (iz k t),.any):=by
 obtain⟨h1,h2⟩:=h;have h132:=Nf t ht m;have h66:=FL t ht m;unfold cw at h132 h66;by_cases k1:k=1
 ·subst k1;by_cases u1:t=[116,114,117,101]
  ·subst u1;simp[cL,cR,eP,ij,i112,go_sem,and_assoc,VB,h1,h2,h3,hb,iz,iQ,rJ]
  ·have u1':(t==[116,114,117,101])=false:=by simpa using u1
   by_cases u2:t=[102,97,108,115,101]
   ·subst u2;simp[cL,cR,eP,ij,i112,go_sem,and_assoc,VB,h1,h2,h3,hb,iz,iQ,rJ]
   ·have u2':(t==[102,97,108,115,101])=false:=by simpa using u2
    simp[cL,cR,eP,ij,i112,go_sem,and_assoc,VB,h1,h2,h3,hb,iz,u1,u1',u2,u2',iQ,rJ]
 ·have k1':(k==1)=false:=by simpa using k1
  by_cases k2:k=2
  ·subst k2;simp[cL,cR,eP,ij,i112,go_sem,and_assoc,VB,h1,h2,h3,hb,iz,h132]
  ·have k2':(k==2)=false:=by simpa using k2
   by_cases k3:k=3
   ·subst k3;simp[cL,cR,eP,ij,i112,go_sem,and_assoc,VB,h1,h2,h3,hb,iz,h66]
   ·have k3':(k==3)=false:=by simpa using k3
    have hd:(t==[])=decide (t=[]):=by cases t<;>rfl
    simp[cL,cR,eP,ij,i112,go_sem,and_assoc,VB,h1,h2,h3,hb,iz,k1,k1',k2,k2',k3,k3',hd]
theorem pf {K:IV}{ks:List (List UInt8)}(h:mU K ks):dW.ev .ay [K]=some (.int .i64 (ks.length:Int)):=by rcases h with ⟨rfl,rfl⟩ | rfl<;>rfl
theorem MV {V:IV}{n:Nat}(h:OY V n):dW.ev .ay [V]=some (.int .i64 (n:Int)):=by rcases h with ⟨rfl,rfl⟩ | ⟨row,rfl⟩<;>rfl
theorem N9 (k:Int) (t:List UInt8) (K V:IV) (ks:List (List UInt8)) (n:Nat) (hK:mU K ks) (hV:OY V n) (hks:ks.length≤140737488355328) (hk:∀s,s∈ks→s.length≤140737488355328) (w:Bool) (m:IM) (e:Env) (l:List (Nat×Loc)) (b:List (Nat×aS)) (h:VB e b 1 k t K V) (h4:look e 4=some (.bool w,.any)) :
  ∃e' l' b',fc (cR (cR (cR (cR i112.body)))) (ij e l b m)=some (.ret,ij e' l' b' m)∧look e' 2=some (.bool (w&&(decide (k=5)||decide (ks=[]))&&(decide (k=5)||decide (k=4)||decide (n=0)) && !(ks.any fun s=>!Ic s)),.any):=by
 obtain⟨h1,h2⟩:=h;have h110:=FJ K ks hK 133 (fun s=>!Ic s) hks m (fun s hs=>Ng s (hk s hs) m);unfold cw at h110;have hz:((n:Int)==0)=decide (n=0):=by
  by_cases q:n=0
  ·subst q;rfl
  ·rw[decide_eq_false q];simp;omega
 have hz2:((ks.length:Int)==0)=decide (ks=[]):=by
  cases ks with
  |nil=>rfl
  |cons a r=>rw[decide_eq_false (by simp)];simp;omega
 generalize (ks.any fun s=>!Ic s)=A at *
 cases w with
 |false=>simp[cR,eP,ij,i112,go_sem,and_assoc,h1,h2,h4]
 |true =>
  by_cases k5:k=5
  ·subst k5;rcases hK with ⟨rfl,rfl⟩ | rfl<;>simp[cR,eP,ij,i112,go_sem,and_assoc,h1,h2,h4,h110]
  ·have k5':(k==5)=false:=by simpa using k5
   by_cases k4:k=4
   ·subst k4;rcases hK with ⟨rfl,rfl⟩ | rfl
    ·simp[cR,eP,ij,i112,go_sem,and_assoc,h1,h2,h4,h110]
    ·by_cases he:ks=[]
     ·subst he;simp only[List.map_nil,List.length_nil] at h110;simp[cR,eP,ij,i112,go_sem,and_assoc,h1,h2,h4,h110]
     ·rw[decide_eq_false he] at hz2;simp[cR,eP,ij,i112,go_sem,and_assoc,h1,h2,h4,h110,hz2,he]
   ·have k4':(k==4)=false:=by simpa using k4
    rcases hK with ⟨rfl,rfl⟩ | rfl<;>rcases hV with ⟨rfl,rfl⟩ | ⟨row,rfl⟩
    ·simp[cR,eP,ij,i112,go_sem,and_assoc,h1,h2,h4,h110,k5,k5',k4,k4']
    ·by_cases hn:n=0
     ·subst hn;simp[cR,eP,ij,i112,go_sem,and_assoc,h1,h2,h4,h110,k5,k5',k4,k4']
     ·rw[decide_eq_false hn] at hz;simp[cR,eP,ij,i112,go_sem,and_assoc,h1,h2,h4,h110,k5,k5',k4,k4',hz,hn]
    ·by_cases he:ks=[]
     ·subst he;simp only[List.map_nil,List.length_nil] at h110;simp[cR,eP,ij,i112,go_sem,and_assoc,h1,h2,h4,h110,k5,k5',k4,k4']
     ·rw[decide_eq_false he] at hz2;simp[cR,eP,ij,i112,go_sem,and_assoc,h1,h2,h4,h110,k5,k5',k4,k4',hz2,he]
    ·by_cases he:ks=[]
     ·subst he;simp only[List.map_nil,List.length_nil] at h110;by_cases hn:n=0
      ·subst hn;simp[cR,eP,ij,i112,go_sem,and_assoc,h1,h2,h4,h110,k5,k5',k4,k4']
      ·rw[decide_eq_false hn] at hz;simp[cR,eP,ij,i112,go_sem,and_assoc,h1,h2,h4,h110,k5,k5',k4,k4',hz,hn]
     ·rw[decide_eq_false he] at hz2;simp[cR,eP,ij,i112,go_sem,and_assoc,h1,h2,h4,h110,k5,k5',k4,k4',hz2,he]
theorem Na (k:Int) (t:List UInt8) (K V:IV) (ks:List (List UInt8)) (n:Nat) (hK:mU K ks) (hV:OY V n) (ht:t.length≤140737488355328) (hks:ks.length≤140737488355328) (hk:∀s,s∈ks→s.length≤140737488355328) (m:IM) :
  cw (.f 112) [.agg (vc k t K V)] m=some (.bool (f7 k t ks n),m):=by
 obtain⟨e0,b0,a0,a1,a2⟩:=N5 k t K V ks n hK hV m;obtain⟨e1,l1,b1,c0,c1,c2,c3⟩:=N6 k t K V m e0 b0 a1 a2;obtain⟨e2,l2,b2,d0,d1,d2,d3⟩:=N7 k t K V m e1 l1 b1 c1 c2 c3;obtain⟨e3,l3,b3,f0,f1,f2⟩:=N8 k t ht K V m e2 l2 b2 d1 d2 d3;obtain⟨e4,l4,b4,g0,g1⟩:=N9 k t K V ks n hK hV hks hk _ m e3 l3 b3 f1 f2;have hr:=(sp rfl a0).trans ((sp rfl c0).trans ((sp rfl d0).trans ((sp rfl f0).trans g0)));rw[wh p112 f112 rfl (.inr rfl) hr];simp[i112,ij,go_sem,g1,f7]
theorem Jl (a b c:Int) (m:IM):cw (.f 58) [.sl [.int .i64 a,.int .i64 b,.int .i64 c] 3] m=some (.int .i64 (if a=0 then (if b=0 then c else b) else a),m):=by
 unfold cw;rw[dd p58 f58];have e1:IntKind.i64.wrap 1=1:=by decide
 have e2:IntKind.i64.wrap 2=2:=by decide
 have e3:IntKind.i64.wrap 3=3:=by decide
 by_cases h:a=0
 ·subst h;by_cases h2:b=0
  ·subst h2;by_cases h3:c=0
   ·subst h3;simp[i58,go_sem,eG,tR,w6,qy,qz,e1,e2,e3]
   ·have hc:(c != 0)=true:=by simpa using h3
    simp[i58,go_sem,eG,tR,w6,qy,qz,e1,e2,e3,hc]
  ·have hb:(b != 0)=true:=by simpa using h2
   simp[i58,go_sem,eG,tR,w6,qy,qz,e1,e2,e3,hb,h2]
 ·have hb:(a != 0)=true:=by simpa using h
  simp[i58,go_sem,eG,tR,w6,qy,qz,e1,e2,e3,hb,h]
def ni (k:Int) (t:List UInt8) (ks:List (List UInt8)):Bool:=(decide (k=2)&&decide (60<t.length))||decide (1000<t.length)||ks.any fun s=>decide (1000<s.length)
def pR:List (List UInt8)→List (List UInt8)→Bool
 |_,[]=>false
 |seen,x::r=>decide (x∈seen)||pR (seen++[x]) r
def oc (k:Int) (t:List UInt8) (ks:List (List UInt8)) (n:Nat):Int :=
 if k<0∨6≤k then 11 else if f7 k t ks n=false then 1 else if ni k t ks=true then 20 else if k=5∧ks.length≠n then 2 else if pR [] ks=true then 7 else 0
theorem f84:da.fns 84=some i84:=by rfl
theorem p84:al 84=none:=by rfl
theorem zh:p6.AK=[(5,0),(62,0),(63,0),(64,0)]:=rfl
theorem sT:p6.eC=[]:=rfl
theorem sU:p6.Bb=[]:=rfl
theorem R8 (k:Int) (t:List UInt8) (K V:IV) (ks:List (List UInt8)) (n:Nat) (hK:mU K ks) (hV:OY V n) (m:IM) :
  ∃e b,fc (cL i84.body) (eP (dQ 0 [.agg (vc k t K V)]) m)=some (.normal,ij e [] b m)∧VB e b 1 k t K V:=by
 rcases hK with ⟨rfl,rfl⟩ | rfl<;>rcases hV with ⟨rfl,rfl⟩ | ⟨row,rfl⟩<;>simp[cL,eP,ij,i84,go_sem,and_assoc,VB,vc]
theorem R9 (k:Int) (t:List UInt8) (K V:IV) (m:IM) (e:Env) (b:List (Nat×aS)) (h:VB e b 1 k t K V) :
  if k<0∨6≤k then ∃e' l' b',fc (cL (cR i84.body)) (ij e [] b m)=some (.ret,ij e' l' b' m)∧look e' 2=some (.int .i64 11,.any)
  else ∃e' b',fc (cL (cR i84.body)) (ij e [] b m)=some (.normal,ij e' [] b' m)∧VB e' b' 1 k t K V:=by
 obtain⟨h1,h2⟩:=h;by_cases k0:k<0
 ·simp[cL,cR,eP,ij,i84,go_sem,and_assoc,VB,h1,h2,k0]
 ·by_cases k6:6≤k<;>simp[cL,cR,eP,ij,i84,go_sem,and_assoc,VB,h1,h2,k0,k6]
theorem Sa (k:Int) (t:List UInt8) (K V:IV) (ks:List (List UInt8)) (hK:mU K ks) (hks:ks.length≤140737488355328) (m:IM) (e:Env) (b:List (Nat×aS)) (h:VB e b 1 k t K V) :
  ∃e' l' b',fc (cL (cR (cR i84.body))) (ij e [] b m)=some (.normal,ij e' l' b' m)∧VB e' b' 1 k t K V∧look e' 3=some (.bool (ni k t ks),.any)∧j8 l'=true:=by
 obtain⟨h1,h2⟩:=h;have h110:=FJ K ks hK 111 (fun s=>decide (1000<s.length)) hks m (fun s _=>M9 s m);unfold cw at h110;unfold ni;generalize (ks.any fun s=>decide (1000<s.length))=A at *;have g1:((60:Int)<(t.length:Int))=(60<t.length):=by simp;omega
 have g2:((1000:Int)<(t.length:Int))=(1000<t.length):=by simp;omega
 by_cases k2:k=2
 ·subst k2;by_cases u1:60<t.length
  ·simp[cL,cR,eP,ij,i84,go_sem,and_assoc,VB,h1,h2,g1,u1]
  ·by_cases u2:1000<t.length
   ·omega
   ·rcases hK with ⟨rfl,rfl⟩ | rfl<;>simp[cL,cR,eP,ij,i84,go_sem,and_assoc,VB,h1,h2,g1,g2,u1,u2,h110]
 ·have k2':(k==2)=false:=by simpa using k2
  by_cases u2:1000<t.length
  ·simp[cL,cR,eP,ij,i84,go_sem,and_assoc,VB,h1,h2,g2,u2,k2,k2']
  ·rcases hK with ⟨rfl,rfl⟩ | rfl<;>simp[cL,cR,eP,ij,i84,go_sem,and_assoc,VB,h1,h2,g2,u2,k2,k2',h110]
def HU (f lg sh:Bool):Int:=if f=false then 1 else if lg=true then 20 else if sh=true then 2 else 0
theorem Sb (k:Int) (t:List UInt8) (K V:IV) (ks:List (List UInt8)) (n:Nat) (hK:mU K ks) (hV:OY V n) (ht:t.length≤140737488355328) (hks:ks.length≤140737488355328) (hk:∀s,s∈ks→s.length≤140737488355328) (lg:Bool) (m:IM) (e:Env) (l:List (Nat×Loc)) (b:List (Nat×aS)) (h:VB e b 1 k t K V) (h3:look e 3=some (.bool lg,.any)) (hu:j8 l=true) :
  ∃e' l' b',fc (cL (cL (cR (cR (cR i84.body))))) (ij e l b m)=some (.normal,ij e' l' b' m)∧VB e' b' 1 k t K V∧look e' 4=some (.int .i64 (HU (f7 k t ks n) lg (decide (k=5)&&decide (ks.length≠n))),.any):=by
 obtain⟨h1,h2⟩:=h;have h112:=Na k t K V ks n hK hV ht hks hk m;have h65:=Q7;have h58:=Jl;unfold cw at h112 h65 h58;unfold vc at h112;generalize f7 k t ks n=f at *;have hne:∀(a c:Nat),((a:Int) != (c:Int))=decide (a≠c):=fun a c=>by
  by_cases q:a=c
  ·subst q;simp
  ·rw[decide_eq_true q];simp;omega
 by_cases k5:k=5
 ·subst k5;have hq:=hne ks.length n;have hz0:((0:Int)=(n:Int))=(0=n):=by rw[eq_iff_iff];omega
  rcases hK with ⟨rfl,rfl⟩ | rfl<;>rcases hV with ⟨rfl,rfl⟩ | ⟨row,rfl⟩<;>cases f<;>cases lg <;>
  simp[cL,cR,eP,ij,i84,go_sem,and_assoc,VB,h1,h2,h3,hu,h112,h65,h58,HU,hq,hz0]
 ·have k5':(k==5)=false:=by simpa using k5
  rcases hK with ⟨rfl,rfl⟩ | rfl<;>rcases hV with ⟨rfl,rfl⟩ | ⟨row,rfl⟩<;>cases f<;>cases lg <;>
  simp[cL,cR,eP,ij,i84,go_sem,and_assoc,VB,h1,h2,h3,hu,h112,h65,h58,HU,k5,k5']
theorem Of (k:Int) (t:List UInt8) (K V:IV) (er:Int) (m:IM) (e:Env) (l:List (Nat×Loc)) (b:List (Nat×aS)) (h:VB e b 1 k t K V) (h4:look e 4=some (.int .i64 er,.any)) :
  if er=0 then ∃e' l' b',fc (cR (cL (cR (cR (cR i84.body))))) (ij e l b m)=some (.normal,ij e' l' b' m)∧VB e' b' 1 k t K V
  else ∃e' l' b',fc (cR (cL (cR (cR (cR i84.body))))) (ij e l b m)=some (.ret,ij e' l' b' m)∧look e' 2=some (.int .i64 er,.any):=by
 obtain⟨h1,h2⟩:=h;by_cases q:er=0
 ·subst q;simp[cL,cR,eP,ij,i84,go_sem,and_assoc,VB,h1,h2,h4]
 ·have q':(er != 0)=true:=by simpa using q
  rw[if_neg q];simp[cL,cR,eP,ij,i84,go_sem,and_assoc,h4,q']
def mapOf (ks:List (List UInt8)):List (IV×IV):=ks.map fun s=>(.str s,.bool true)
theorem wM (x:List UInt8):∀ks,tL .str (.str x) (mapOf ks)=some (if x∈ks then some (.bool true) else none)
 |[]=>rfl
 |y::r=>by
  have ih:=wM x r;simp only[mapOf,List.map_cons,tL,rJ] at ih ⊢;by_cases h:x=y
  ·subst h;simp
  ·have h':(x==y)=false:=by simpa using h
   rw[h'];simp only[List.mem_cons,h,false_or];exact ih
theorem zz (x:List UInt8):∀ks,x∉ks→xT .str (.str x) (.bool true) (mapOf ks)=some (mapOf (ks++[x]))
 |[],_=>rfl
 |y::r,h=>by
  have hx:x≠y:=fun e=>h (by simp[e]);have hr:x∉r:=fun e=>h (by simp[e]);have ih:=zz x r hr;have h':(x==y)=false:=by simpa using hx
  simp only[mapOf,List.map_cons,xT,rJ,h'] at ih ⊢;rw[ih];rfl
theorem drop_cons {α:Type}{l:List α}{i:Nat}(h:i<l.length):l.drop i=l[i]::l.drop (i+1):=List.drop_eq_getElem_cons h
def MT (bs:List aS) (E:Nat) (ks:List (List UInt8)) (i:Nat):St:=eP [(5,.map bs.length,.any),(62,.sl (ks.map .str) ks.length,.any),(63,.int .i64 (ks.length:Int),.any),(64,.int .i64 i,.any)] (MM bs [.map (mapOf (ks.take i))] E)
theorem Yu (bs:List aS) (E:Nat) (ks:List (List UInt8)) (hb:ks.length≤140737488355328):∀(k i:Nat),ks.length=i+k →
  if pR (ks.take i) (ks.drop i)=true then ∃q e' b',lc da al p6 oE (some (MT bs E ks i))=some (.ret,ij e' [] b' (MM bs [.map (mapOf q)] E))∧look e' 2=some (.int .i64 7,.any)
  else ∃q e' b',lc da al p6 oE (some (MT bs E ks i))=some (.exit 0,ij e' [] b' (MM bs [.map (mapOf q)] E)):=by
 intro k
 induction k with
 |zero =>
  intro i hk;have e:ks.drop i=[]:=List.drop_eq_nil_iff.2 (by omega);have c1:¬(i:Int)<(ks.length:Int):=by omega
  rw[e,eG];simp only[pR,Bool.false_eq_true,if_false];refine⟨ks.take i,?_⟩;simp only[MT,eP,ij];generalize mapOf (ks.take i)=Q;generalize ks.map IV.str=R at *;generalize ks.length=n at *;simp[oE,zh,sT,sU,go_sem,c1]
 |succ k ih =>
  intro i hk;have hi:i<ks.length:=by omega
  have c1:(i:Int)<(ks.length:Int):=by omega
  have c3:(0:Int)≤(i:Int):=by omega
  have hg:=Dr hi;have hl:i+1≤(ks.map IV.str).length:=by rw[List.length_map];omega
  have hf:=wM ks[i] (ks.take i);have ht:ks.take (i+1)=ks.take i++[ks[i]]:=by rw[List.take_add_one];simp[hi]
  rw[drop_cons hi,pR];by_cases hm:ks[i]∈ks.take i
  ·rw[if_pos hm] at hf;rw[decide_eq_true hm,Bool.true_or,if_pos rfl,eG];refine⟨ks.take i,?_⟩;simp only[MT,eP,ij];generalize mapOf (ks.take i)=Q at *;generalize ks[i]=x at *;generalize ks.map IV.str=R at *;generalize ks.length=n at *;generalize lc da al p6 oE=L;simp[oE,zh,sT,sU,go_sem,c1,c3,hg,hl,pe,hf,and_assoc]
  ·rw[if_neg hm] at hf;have hu:=zz ks[i] (ks.take i) hm;rw[←ht] at hu;have e1:IntKind.i64.wrap ((i:Int)+1)=((i+1:Nat):Int):=by rw[w64 (by omega) (by omega)];rfl
   have step:lc da al p6 oE (some (MT bs E ks i))=lc da al p6 oE (some (MT bs E ks (i+1))):=by rw[eG];simp only[MT,eP,ij];generalize hj:i+1=j at *;generalize mapOf (ks.take i)=Q at *;generalize mapOf (ks.take j)=Q' at *;generalize ks[i]=x at *;generalize ks.map IV.str=R at *;generalize ks.length=n at *;generalize lc da al p6 oE=L;simp[oE,zh,sT,sU,go_sem,c1,c3,hg,hl,pe,rh,hf,hu,e1,hj]
   rw[step,decide_eq_false hm,Bool.false_or,←ht];exact ih (i+1) (by omega)
theorem Sc (k:Int) (t:List UInt8) (K V:IV) (bs:List aS) (E:Nat) (e:Env) (l:List (Nat×Loc)) (b:List (Nat×aS)) (h:VB e b 1 k t K V) :
  ∃e' l' b',fc (cL (cR (cR (cR (cR i84.body))))) (ij e l b (MM bs [] E))=some (.normal,ij e' l' b' (MM bs [.map []] E))∧VB e' b' 1 k t K V∧look e' 5=some (.map bs.length,.any):=by
 obtain⟨h1,h2⟩:=h;simp[cL,cR,eP,ij,i84,go_sem,and_assoc,VB,h1,h2,uL,uO]
theorem Sd (k:Int) (t:List UInt8) (K V:IV) (ks:List (List UInt8)) (hK:mU K ks) (hks:ks.length≤140737488355328) (bs:List aS) (E:Nat) (e:Env) (l:List (Nat×Loc)) (b:List (Nat×aS)) (h:VB e b 1 k t K V) (h5:look e 5=some (.map bs.length,.any)) :
  if pR [] ks=true then ∃q e' l' b',fc (cL (cR (cR (cR (cR (cR i84.body)))))) (ij e l b (MM bs [.map []] E))=some (.ret,ij e' l' b' (MM bs [.map (mapOf q)] E))∧look e' 2=some (.int .i64 7,.any)
  else ∃q e' l' b',fc (cL (cR (cR (cR (cR (cR i84.body)))))) (ij e l b (MM bs [.map []] E))=some (.normal,ij e' l' b' (MM bs [.map (mapOf q)] E)):=by
 obtain⟨h1,h2⟩:=h;rcases hK with ⟨rfl,rfl⟩ | rfl
 ·rw[if_neg (by simp[pR])];refine⟨[],?_⟩;simp[cL,cR,eP,ij,i84,go_sem,and_assoc,h1,h2,h5,eG,oE,zh,sT,sU,mapOf]
 ·have q:=Yu bs E ks hks ks.length 0 (by omega);simp only[List.take_zero,List.drop_zero] at q;by_cases hd:pR [] ks=true
  ·rw[if_pos hd] at q ⊢;obtain⟨s,e',b',q0,q1⟩:=q;refine⟨s,?_⟩;simp only[MT,eP,ij,List.take_zero] at q0;rw[show ((0:Nat):Int)=0 from rfl,show mapOf []=[] from rfl] at q0;generalize mapOf s=Q at *;generalize ks.map IV.str=R at *;generalize ks.length=n at *;simp[cL,cR,eP,ij,i84,go_sem,and_assoc,h1,h2,h5,zh,sT,sU,q0,q1]
  ·rw[if_neg hd] at q ⊢;obtain⟨s,e',b',q0⟩:=q;refine⟨s,?_⟩;simp only[MT,eP,ij,List.take_zero] at q0;rw[show ((0:Nat):Int)=0 from rfl,show mapOf []=[] from rfl] at q0;generalize mapOf s=Q at *;generalize ks.map IV.str=R at *;generalize ks.length=n at *;simp[cL,cR,eP,ij,i84,go_sem,and_assoc,h1,h2,h5,zh,sT,sU,q0]
theorem Se (m:IM) (e:Env) (l:List (Nat×Loc)) (b:List (Nat×aS)) :
  ∃e' l' b',fc (cR (cR (cR (cR (cR (cR i84.body)))))) (ij e l b m)=some (.ret,ij e' l' b' m)∧look e' 2=some (.int .i64 0,.any):=by
 simp[cL,cR,eP,ij,i84,go_sem,and_assoc]
theorem Q8 (k:Int) (t:List UInt8) (K V:IV) (ks:List (List UInt8)) (n:Nat) (hK:mU K ks) (hV:OY V n) (ht:t.length≤140737488355328) (hks:ks.length≤140737488355328) (hk:∀s,s∈ks→s.length≤140737488355328) (m:IM) :
  cw (.f 84) [.agg (vc k t K V)] m=some (.int .i64 (oc k t ks n),m):=by
 rw[I1 m];generalize m.bs=bs;generalize m.kS=E;have main:∃L e l b,fc i84.body (eP (dQ 0 [.agg (vc k t K V)]) (MM bs [] E))=some (.ret,ij e l b (MM bs L E))∧look e 2=some (.int .i64 (oc k t ks n),.any):=by
  obtain⟨e0,b0,a0,a1⟩:=R8 k t K V ks n hK hV (MM bs [] E);have h1:=R9 k t K V (MM bs [] E) e0 b0 a1;unfold oc;by_cases g1:k<0∨6≤k
  ·rw[if_pos g1] at h1 ⊢;obtain⟨e1,l1,b1,c0,c1⟩:=h1;exact⟨_,_,_,_,(sp rfl a0).trans (qO rfl c0),c1⟩
  ·rw[if_neg g1] at h1 ⊢;obtain⟨e1,b1,c0,c1⟩:=h1;obtain⟨e2,l2,b2,d0,d1,d2,d3⟩:=Sa k t K V ks hK hks (MM bs [] E) e1 b1 c1;obtain⟨e3,l3,b3,f0,f1,f2⟩:=Sb k t K V ks n hK hV ht hks hk _ (MM bs [] E) e2 l2 b2 d1 d2 d3;have h3b:=Of k t K V _ (MM bs [] E) e3 l3 b3 f1 f2;have hr3:=(sp (c:=i84.body) rfl a0).trans ((sp rfl c0).trans (sp rfl d0));have ho:HU (f7 k t ks n) (ni k t ks) (decide (k=5)&&decide (ks.length≠n))=if f7 k t ks n=false then 1 else if ni k t ks=true then 20 else if k=5∧ks.length≠n then 2 else 0:=by
    unfold HU;by_cases u:k=5∧ks.length≠n
    ·simp[u]
    ·by_cases v:k=5
     ·have:ks.length=n:=by
       by_cases w:ks.length=n
       ·exact w
       ·exact absurd ⟨v,w⟩ u
      simp[v,this]
     ·simp[v]
   by_cases hz:HU (f7 k t ks n) (ni k t ks) (decide (k=5)&&decide (ks.length≠n))=0
   ·rw[if_pos hz] at h3b;obtain⟨e4,l4,b4,g0,g1'⟩:=h3b;rw[ho] at hz;obtain⟨e5,l5,b5,u0,u1,u2⟩:=Sc k t K V bs E e4 l4 b4 g1';have h5:=Sd k t K V ks hK hks bs E e5 l5 b5 u1 u2;have hf:f7 k t ks n=true:=by
     by_cases w:f7 k t ks n=false
     ·rw[if_pos w] at hz;cases hz
     ·simpa using w
    have hl:¬ni k t ks=true:=by intro w;rw[if_neg (by simp[hf]),if_pos w] at hz;cases hz
    have hsh:¬(k=5∧ks.length≠n):=by intro w;rw[if_neg (by simp[hf]),if_neg hl,if_pos w] at hz;cases hz
    rw[if_neg (by simp[hf]),if_neg hl,if_neg hsh];have hr5:=hr3.trans ((sp rfl ((sp rfl f0).trans g0)).trans (sp rfl u0));by_cases hd:pR [] ks=true
    ·rw[if_pos hd] at h5 ⊢;obtain⟨q,e6,l6,b6,w0,w1⟩:=h5;exact⟨_,_,_,_,hr5.trans (qO rfl w0),w1⟩
    ·rw[if_neg hd] at h5 ⊢;obtain⟨q,e6,l6,b6,w0⟩:=h5;obtain⟨e7,l7,b7,x0,x1⟩:=Se (MM bs [.map (mapOf q)] E) e6 l6 b6;exact⟨_,_,_,_,hr5.trans ((sp rfl w0).trans x0),x1⟩
   ·rw[if_neg hz] at h3b;obtain⟨e4,l4,b4,g0,g1'⟩:=h3b;refine⟨_,_,_,_,hr3.trans (qO rfl ((sp rfl f0).trans g0)),?_⟩;rw[g1',ho];rw[ho] at hz;by_cases w:f7 k t ks n=false
    ·simp[w]
    ·by_cases w2:ni k t ks=true
     ·simp[w,w2]
     ·by_cases w3:k=5∧ks.length≠n
      ·simp[w,w2,w3]
      ·rw[if_neg w,if_neg w2,if_neg w3] at hz;exact absurd rfl hz
 obtain⟨L,e,l,b,q0,q1⟩:=main;rw[wh p84 f84 rfl (.inr rfl) q0];simp[i84,ij,go_sem,q1,lJ]
end Go.Idl
