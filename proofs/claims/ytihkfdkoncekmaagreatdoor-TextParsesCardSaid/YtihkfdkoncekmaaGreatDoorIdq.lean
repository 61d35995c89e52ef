/- This text proves what the interpreter returns at the functions that TextParses reaches, last part, and that it returns true at TextParses; it has no conditions. -/
import Derived.Test.YtihkfdkoncekmaaGreatDoorIdp
import Derived.Test.YtihkfdkoncekmaaGreatDoorIdl
set_option linter.unusedSimpArgs false
set_option linter.unusedVariables false
namespace Go.Idl
attribute [local go_sem] uV uI gI gS bO cE bw dM dp dV dS dO cI bV cZ bZ bX dQ cM bU dN bS bg bA bj bh aQ dR dT cK cQ dP dZ cY fy dK cS dY et dL dU cH cN cP bY cJ eB bT bC b8 bW cV bm aC a7 aD c9 c8 bJ bo bF ck bG cm bH ct List.flatMap_cons List.flatMap_nil
def rdR (s:List UInt8) (a bad e:Int):BObj:=.cells [.str s,.int .i64 a,.int .i64 bad,.int .i64 e] [.any,.any,.any,.any]
section
variable {R:Type}{m:IM}{id:Nat}{s:List UInt8}{a bad e:Int}
theorem eN (h:m.get id=rdR s a bad e) (K:Int→Option R):(gr m id fun l0 _=>eK false l0 1 1 fun v=>asI .i64 v K)=K a:=by
 rw[du h];simp[eK,bw]
theorem de (h:m.get id=rdR s a bad e) (K:Int→Option R):(gr m id fun l0 _=>eK false l0 2 1 fun v=>asI .i64 v K)=K bad:=by
 rw[du h];simp[eK,bw]
theorem CB (h:m.get id=rdR s a bad e) (K:Int→Option R):(gr m id fun l0 _=>eK false l0 3 1 fun v=>asI .i64 v K)=K e:=by
 rw[du h];simp[eK,bw]
theorem gN (h:m.get id=rdR s a bad e) (K:List UInt8→Option R):(gr m id fun l0 _=>eK false l0 0 1 fun v=>asS v K)=K s:=by
 rw[du h];simp[eK,dp]
theorem nx (h:m.get id=rdR s a bad e) (x:Int) (K:IM→Option R):stP m (.pB id 1) [.int .i64 x] .any K=K (al m id (rdR s x bad e)):=by
 rw[hF h (r:=0) rfl (Nat.zero_le _) (by simp)];rfl
theorem Ik (h:m.get id=rdR s a bad e) (x:Int) (K:IM→Option R):stP m (.pB id 2) [.int .i64 x] .any K=K (al m id (rdR s a x e)):=by
 rw[hF h (r:=0) rfl (Nat.zero_le _) (by simp)];rfl
theorem Lx (h:m.get id=rdR s a bad e) (x:Int) (K:IM→Option R):stP m (.pB id 3) [.int .i64 x] .any K=K (al m id (rdR s a bad x)):=by
 rw[hF h (r:=0) rfl (Nat.zero_le _) (by simp)];rfl
theorem Cd (h:m.get id=rdR s a bad e):id<m.size:=iN h
theorem bK {a' bad' e':Int}(h:m.get id=rdR s a bad e):(al m id (rdR s a' bad' e')).get id=rdR s a' bad' e':=jm (Cd h) _
theorem ke (h:m.get id=rdR s a bad e):al m id (rdR s a bad e)=m:=ia h (Cd h)
end
theorem JN (s:List UInt8) (a e at_ c:Int) (id:Nat) (m:IM) (hm:m.get id=rdR s a (-1) e) :
  cw (.f 48) [.pB id 0,.int .i64 at_,.int .i64 c] m=some (dz,al m id (rdR s a at_ c)):=by
 apply vZ
 simp[F48,xy,go_sem,de hm,Ik hm,Lx (bK hm),ah,dz]
theorem DK (s:List UInt8) (a e at_ c:Int) (b:Nat) (id:Nat) (m:IM) (hm:m.get id=rdR s a b e) :
  cw (.f 48) [.pB id 0,.int .i64 at_,.int .i64 c] m=some (dz,m):=by
 apply vZ
 have c1:¬((b:Int)<0):=by omega
 simp[F48,xy,go_sem,de hm,dz,c1]
theorem oy {R:Type}(s:List UInt8) (a e at_ c:Int) (id:Nat) (m:IM) (hm:m.get id=rdR s a (-1) e) (K2:IV→IM→Option R):ak cw (.f 48) [.pB id 0,.int .i64 at_,.int .i64 c] [] m K2=K2 dz (al m id (rdR s a at_ c)) :=
 ae (JN s a e at_ c id m hm) (by simp[go_sem]) K2
theorem EY {R:Type}(s:List UInt8) (a e at_ c:Int) (b:Nat) (id:Nat) (m:IM) (hm:m.get id=rdR s a b e) (K2:IV→IM→Option R):ak cw (.f 48) [.pB id 0,.int .i64 at_,.int .i64 c] [] m K2=K2 dz m :=
 ae (DK s a e at_ c b id m hm) (by simp[go_sem]) K2
theorem C47 (s:List UInt8) (a:Nat) (bad e:Int) (id:Nat) (m:IM) (hm:m.get id=rdR s a bad e):lN id m=some (.normal,[.pB id 0,.bool (zk s a)],[],m):=by
 unfold zk
 cases hs:s[a]? with
 |none =>
  have hge:=List.getElem?_eq_none_iff.1 hs
  have c1:¬(a:Int)<(s.length:Int):=by omega
  simp[lN,go_sem,eN hm,gN hm,c1]
 |some c =>
  have hlt:=aZ hs
  have c1:(a:Int)<(s.length:Int):=by omega
  have k1:=cq c 32
  have k2:=cq c 9
  have k3:=cq c 10
  have k4:=cq c 13
  have j1:(c==32)=decide (c.toNat=32):=by rw[←k1];exact (sN (c:=c) (d:=32)).symm
  have j2:(c==9)=decide (c.toNat=9):=by rw[←k2];exact (sN (c:=c) (d:=9)).symm
  have j3:(c==10)=decide (c.toNat=10):=by rw[←k3];exact (sN (c:=c) (d:=10)).symm
  have j4:(c==13)=decide (c.toNat=13):=by rw[←k4];exact (sN (c:=c) (d:=13)).symm
  simp only[wM,j1,j2,j3,j4]
  by_cases h1:c.toNat=32
  ·simp[lN,go_sem,eN hm,gN hm,c1,au (iP hs),h1]
  ·by_cases h2:c.toNat=9
   ·simp[lN,go_sem,eN hm,gN hm,c1,au (iP hs),h2]
   ·by_cases h3:c.toNat=10
    ·simp[lN,go_sem,eN hm,gN hm,c1,au (iP hs),h3]
    ·have q1:((c.toNat:Int)==32)=false:=by simpa[h1] using k1
     have q2:((c.toNat:Int)==9)=false:=by simpa[h2] using k2
     have q3:((c.toNat:Int)==10)=false:=by simpa[h3] using k3
     have q4:((c.toNat:Int)==13)=decide (c.toNat=13):=k4
     simp only[lN,eN hm,gN hm,au (iP hs),bw,q1,q2,q3,q4]
     simp[go_sem,c1,h1,h2,h3]
theorem L47 (s:List UInt8) (hs:s.length≤1099511627776) (bad e:Int) (id:Nat):∀(k a:Nat) (m:IM),s.length<a+k→a≤s.length→m.get id=rdR s a bad e →
  yh id m=some (.exit 0,[],[],al m id (rdR s (tG s k a:Nat) bad e)):=by
 intro k
 induction k with
 |zero=>intro a m h;omega
 |succ k ih =>
  intro a m hk ha hm
  have hC:=C47 s a bad e id m hm
  rw[BF]
  unfold tG
  unfold zk at hC
  cases hq:s[a]? with
  |none =>
   rw[hq] at hC
   simp[vq,go_sem,hC,ke hm]
  |some c =>
   have hlt:=aZ hq
   rw[hq] at hC
   simp only at hC ⊢
   cases hb:wM c with
   |false =>
    rw[hb] at hC
    simp[vq,go_sem,hC,ke hm]
   |true =>
    rw[hb] at hC
    have hw:IntKind.i64.wrap ((a:Int)+1)=((a+1:Nat):Int):=by rw[w64 (by omega) (by omega)];rfl
    have h:=ih (a+1) (al m id (rdR s (a+1:Nat) bad e)) (by omega) (by omega) (bK hm)
    rw[ah] at h
    generalize hj:a+1=j at *
    simp[vq,go_sem,hC,eN hm,nx hm,hw]
    rw[xT]
    exact h
theorem B2 (s:List UInt8) (hs:s.length≤1099511627776) (a:Nat) (ha:a≤s.length) (bad e:Int) (id:Nat) (m:IM) (hm:m.get id=rdR s a bad e) :
  cw (.f 47) [.pB id 0] m=some (.tup [],al m id (rdR s (blk s a:Nat) bad e)):=by
 apply An
 have h:=L47 s hs bad e id (s.length+1-a) a m (by omega) ha hm
 simp[F47,go_sem,h,blk]
theorem blR {R:Type}(s:List UInt8) (hs:s.length≤1099511627776) (a:Nat) (ha:a≤s.length) (bad e:Int) (id:Nat) (m:IM) (hm:m.get id=rdR s a bad e) (K2:IV→IM→Option R):ak cw (.f 47) [.pB id 0] [] m K2=K2 (.tup []) (al m id (rdR s (blk s a:Nat) bad e)) :=
 ae (B2 s hs a ha bad e id m hm) (by simp[go_sem]) K2
theorem yg (s:List UInt8) (a:Nat) (c:UInt8) (id:Nat) (m:IM) (hm:m.get id=rdR s a (-1) 0) :
  cw (.f 124) [.pB id 0,.int .u8 (c.toNat:Int)] m=some (.bool (decide (s[a]?=some c)),m):=by
 apply sg
 cases hs:s[a]? with
 |none =>
  have hge:=List.getElem?_eq_none_iff.1 hs
  have c1:¬(a:Int)<(s.length:Int):=by omega
  simp[zf,mC,go_sem,de hm,eN hm,gN hm,c1]
 |some d =>
  have hlt:=aZ hs
  have c1:(a:Int)<(s.length:Int):=by omega
  have hne:=sN (c:=d) (d:=c)
  by_cases h:d=c
  ·subst h
   simp[zf,mC,go_sem,de hm,eN hm,gN hm,c1,au (iP hs)]
  ·have h2:(d==c)=false:=by simpa using h
   rw[h2] at hne
   simp[zf,mC,go_sem,de hm,eN hm,gN hm,c1,au (iP hs),hne,h]
theorem Bt (s:List UInt8) (a e:Int) (b:Nat) (c:UInt8) (id:Nat) (m:IM) (hm:m.get id=rdR s a b e) :
  cw (.f 124) [.pB id 0,.int .u8 (c.toNat:Int)] m=some (.bool false,m):=by
 apply sg
 have c1:¬((b:Int)<0):=by omega
 simp[zf,mC,go_sem,de hm,c1]
section
variable {R:Type}{m:IM}{id:Nat}{s:List UInt8}
theorem skR {a:Nat}{c:UInt8}(ha:a≤1099511627776) (hm:m.get id=rdR s a (-1) 0) (h:s[a]?=some c) (K2:IV→IM→Option R):ak cw (.f 103) [.pB id 0,.int .u8 (c.toNat:Int)] [] m K2=K2 (.bool true) (al m id (rdR s (a+1:Nat) (-1) 0)):=by
 have hn:=yg s a c id m hm
 rw[h] at hn
 have hc:=fun (K2:IV→IM→Option (IV×IM))=>ae hn (by simp[go_sem]) K2
 have hw:IntKind.i64.wrap ((a:Int)+1)=((a+1:Nat):Int):=by rw[w64 (by omega) (by omega)];rfl
 refine ae (?_:cw (.f 103) [.pB id 0,.int .u8 (c.toNat:Int)] m=_) (by simp[go_sem]) K2
 apply nO
 generalize a+1=j at *
 simp[Bu,go_sem,hc,eN hm,nx hm,hw]
theorem DJ {a:Nat}{c:UInt8}(hm:m.get id=rdR s a (-1) 0) (h:¬s[a]?=some c) (K2:IV→IM→Option R):ak cw (.f 103) [.pB id 0,.int .u8 (c.toNat:Int)] [] m K2=K2 (.bool false) m:=by
 have hn:=yg s a c id m hm
 have hc:=fun (K2:IV→IM→Option (IV×IM))=>ae hn (by simp[go_sem]) K2
 refine ae (?_:cw (.f 103) [.pB id 0,.int .u8 (c.toNat:Int)] m=_) (by simp[go_sem]) K2
 apply nO
 simp[Bu,go_sem,hc,h]
theorem J7 {a e:Int}{b:Nat}{c:UInt8}(hm:m.get id=rdR s a b e) (K2:IV→IM→Option R):ak cw (.f 103) [.pB id 0,.int .u8 (c.toNat:Int)] [] m K2=K2 (.bool false) m:=by
 have hn:=Bt s a e b c id m hm
 have hc:=fun (K2:IV→IM→Option (IV×IM))=>ae hn (by simp[go_sem]) K2
 refine ae (?_:cw (.f 103) [.pB id 0,.int .u8 (c.toNat:Int)] m=_) (by simp[go_sem]) K2
 apply nO
 simp[Bu,go_sem,hc]
theorem waR {a:Nat}{c:UInt8}(ha:a≤1099511627776) (hm:m.get id=rdR s a (-1) 0) (h:s[a]?=some c) (K2:IV→IM→Option R):ak cw (.f 102) [.pB id 0,.int .u8 (c.toNat:Int)] [] m K2=K2 (.tup []) (al m id (rdR s (a+1:Nat) (-1) 0)):=by
 refine ae (?_:cw (.f 102) [.pB id 0,.int .u8 (c.toNat:Int)] m=_) (by simp[go_sem]) K2
 apply nC
 have hc:=fun (K2:IV→IM→Option (IV×IM))=>skR ha hm h K2
 simp only[Ck,hc]
 simp[go_sem]
theorem Kq {a:Nat}{c:UInt8}(hm:m.get id=rdR s a (-1) 0) (h:¬s[a]?=some c) (K2:IV→IM→Option R):ak cw (.f 102) [.pB id 0,.int .u8 (c.toNat:Int)] [] m K2=K2 (.tup []) (al m id (rdR s a a 19)):=by
 refine ae (?_:cw (.f 102) [.pB id 0,.int .u8 (c.toNat:Int)] m=_) (by simp[go_sem]) K2
 apply nC
 have hc:=fun (K2:IV→IM→Option (IV×IM))=>DJ hm h K2
 have hf:=fun (K2:IV→IM→Option (IV×IM))=>oy s a 0 a 19 id m hm K2
 simp[Ck,go_sem,hc,hf,eN hm,dz,af]
theorem Kx {a e:Int}{b:Nat}{c:UInt8}(hm:m.get id=rdR s a b e) (K2:IV→IM→Option R):ak cw (.f 102) [.pB id 0,.int .u8 (c.toNat:Int)] [] m K2=K2 (.tup []) m:=by
 refine ae (?_:cw (.f 102) [.pB id 0,.int .u8 (c.toNat:Int)] m=_) (by simp[go_sem]) K2
 apply nC
 have hc:=fun (K2:IV→IM→Option (IV×IM))=>J7 (c:=c) hm K2
 have hf:=fun (K2:IV→IM→Option (IV×IM))=>EY s a e a 19 b id m hm K2
 simp[Ck,go_sem,hc,hf,eN hm,dz,af]
end
end Go.Idl
namespace Go.Idl
attribute [local go_sem] uV uI gI gS bO cE bw dM dp dV dS dO cI bV cZ bZ bX dQ cM bU dN bS bg bA bj bh aQ dR dT cK cQ dP dZ cY fy dK cS dY et dL dU cH cN cP bY cJ eB bT bC b8 bW cV bm aC a7 aD c9 c8 bJ bo bF ck bG cm bH ct List.flatMap_cons List.flatMap_nil
section
variable {R:Type}{m:IM}{id:Nat}{s:List UInt8}
theorem L6 (w:List UInt8) (hw:w.length≤100) {a:Int}{b:Nat}{e:Int}(hm:m.get id=rdR s a b e):∀(j k:Nat),w.length=k+j→nZ id w k m=some (.exit 0,[],[],m):=by
 intro j
 induction j with
 |zero =>
  intro k hk
  have c1:¬(k:Int)<(w.length:Int):=by omega
  rw[jT]
  simp[kV,go_sem,c1]
 |succ j ih =>
  intro k hk
  have hlt:k<w.length:=by omega
  have c1:(k:Int)<(w.length:Int):=by omega
  have hi:w[k]?=some w[k]:=List.getElem?_eq_getElem hlt
  have hc:=fun (K2:IV→IM→Option (St⊕LR))=>Kx (c:=w[k]) hm K2
  have hw1:IntKind.i64.wrap ((k:Int)+1)=((k+1:Nat):Int):=by rw[w64 (by omega) (by omega)];rfl
  have h:=ih (k+1) (by omega)
  rw[jT]
  generalize hk1:k+1=k1 at *
  have step:nxt sP (kV id w k m)=nZ id w k1 m:=by
   simp only[kV,go_sem,c1,au (iP hi),hc,hw1,decide_true,if_true]
   rfl
  rw[step,h]
theorem LL (w:List UInt8) (hw:w.length≤100) (hs:s.length≤1099511627776):∀(j k a:Nat) (m:IM),w.length=k+j→a≤s.length→m.get id=rdR s a (-1) 0 →
  match eS s (w.drop k) a with
  |.ok _ a'=>nZ id w k m=some (.exit 0,[],[],al m id (rdR s a' (-1) 0))
  |.err b c=>c=19∧b≤s.length∧nZ id w k m=some (.exit 0,[],[],al m id (rdR s b b c)):=by
 intro j
 induction j with
 |zero =>
  intro k a m hk ha hm
  have c1:¬(k:Int)<(w.length:Int):=by omega
  rw[List.drop_eq_nil_of_le (by omega)]
  simp only[eS]
  rw[jT]
  simp[kV,go_sem,c1,ke hm]
 |succ j ih =>
  intro k a m hk ha hm
  have hlt:k<w.length:=by omega
  have c1:(k:Int)<(w.length:Int):=by omega
  have hi:w[k]?=some w[k]:=List.getElem?_eq_getElem hlt
  have hw1:IntKind.i64.wrap ((k:Int)+1)=((k+1:Nat):Int):=by rw[w64 (by omega) (by omega)];rfl
  rw[List.drop_eq_getElem_cons hlt]
  simp only[eS]
  by_cases hq:s[a]?=some w[k]
  ·rw[if_pos hq]
   have hc:=fun (K2:IV→IM→Option (St⊕LR))=>waR (by omega) hm hq K2
   have h:=ih (k+1) (a+1) (al m id (rdR s (a+1:Nat) (-1) 0)) (by omega) (aZ hq) (bK hm)
   have step:nxt sP (kV id w k m)=nZ id w (k+1:Nat) (al m id (rdR s (a+1:Nat) (-1) 0)):=by
    generalize k+1=k1 at *
    generalize a+1=a1 at *
    simp only[kV,go_sem,c1,au (iP hi),hc,hw1,decide_true,if_true]
    rfl
   rw[jT,step]
   cases hx:eS s (w.drop (k+1)) (a+1) with
   |ok u a'=>rw[hx] at h;simpa only[ah] using h
   |err b c=>rw[hx] at h;simpa only[ah] using h
  ·rw[if_neg hq]
   have hc:=fun (K2:IV→IM→Option (St⊕LR))=>Kq hm hq K2
   have hm1:(al m id (rdR s a a 19)).get id=rdR s a a 19:=bK hm
   have h:=L6 w hw hm1 j (k+1) (by omega)
   refine⟨rfl,ha,?_⟩
   have step:nxt sP (kV id w k m)=nZ id w (k+1:Nat) (al m id (rdR s a a 19)):=by
    generalize k+1=k1 at *
    simp only[kV,go_sem,c1,au (iP hi),hc,hw1,decide_true,if_true]
    rfl
   rw[jT,step,h]
theorem G6 (w:List UInt8) (hw:w.length≤100) (hs:s.length≤1099511627776) (a:Nat) (ha:a≤s.length) (hm:m.get id=rdR s a (-1) 0) (K2:IV→IM→Option R) :
  match eS s w a with
  |.ok _ a'=>ak cw (.f 76) [.pB id 0,.str w] [] m K2=K2 (.tup []) (al m id (rdR s a' (-1) 0))
  |.err b c=>c=19∧b≤s.length∧ak cw (.f 76) [.pB id 0,.str w] [] m K2=K2 (.tup []) (al m id (rdR s b b c)):=by
 have h:=LL (id:=id) w hw hs w.length 0 a m (by omega) ha hm
 rw[List.drop_zero,show ((0:Nat):Int)=0 from rfl] at h
 cases hx:eS s w a with
 |ok u a' =>
  rw[hx] at h
  refine ae (?_:cw (.f 76) [.pB id 0,.str w] m=_) (by simp[go_sem]) K2
  apply vS
  simp[F76,go_sem,h]
 |err b c =>
  rw[hx] at h
  refine⟨h.1,h.2.1,ae (?_:cw (.f 76) [.pB id 0,.str w] m=_) (by simp[go_sem]) K2⟩
  apply vS
  simp[F76,go_sem,h.2.2]
end
theorem Jj (c:UInt8):nW c=if fJ c then (c.toNat:Int)-48 else if 97≤c.toNat∧c.toNat≤102 then (c.toNat:Int)-87 else if 65≤c.toNat∧c.toNat≤70 then (c.toNat:Int)-55 else -1:=by
 have:∀n,n<256→nW (UInt8.ofNat n)=if fJ (UInt8.ofNat n) then ((UInt8.ofNat n).toNat:Int)-48 else if 97≤(UInt8.ofNat n).toNat∧(UInt8.ofNat n).toNat≤102 then ((UInt8.ofNat n).toNat:Int)-87 else if 65≤(UInt8.ofNat n).toNat∧(UInt8.ofNat n).toNat≤70 then ((UInt8.ofNat n).toNat:Int)-55 else -1:=by decide +kernel
 have h:=this c.toNat c.toNat_lt
 simpa using h
theorem C5 (c:UInt8):fJ c=decide (48≤c.toNat∧c.toNat≤57):=by
 have:∀n,n<256→fJ (UInt8.ofNat n)=decide (48≤(UInt8.ofNat n).toNat∧(UInt8.ofNat n).toNat≤57):=by decide +kernel
 have h:=this c.toNat c.toNat_lt
 simpa using h
theorem wu8 {x:Int}(h0:0≤x) (h1:x<256):IntKind.u8.wrap x=x:=by
 have h:IntKind.u8.wrap x=x%256:=by rfl
 rw[h];omega
theorem Dq (c:UInt8) (m:IM):cw (.f 151) [.int .u8 (c.toNat:Int)] m=some (.int .i64 (nW c),m):=by
 rw[Jj]
 have h80:=xM c m
 have hcl:=c.toNat_lt
 have hc:=fun (K2:IV→IM→Option (IV×IM))=>ae h80 (by simp[go_sem]) K2
 apply zG
 by_cases hd:fJ c=true
 ·rw[if_pos hd]
  rw[hd] at hc
  rw[C5] at hd
  have hd:=of_decide_eq_true hd
  have e1:IntKind.u8.wrap ((c.toNat:Int)-48)=(c.toNat:Int)-48:=wu8 (by omega) (by omega)
  have e2:IntKind.i64.wrap ((c.toNat:Int)-48)=(c.toNat:Int)-48:=w64 (by omega) (by omega)
  simp[u7,go_sem,hc,e1,e2]
 ·rw[if_neg hd]
  have hd':fJ c=false:=by simpa using hd
  rw[hd'] at hc
  by_cases h1:97≤c.toNat
  ·have g1:(97:Int)≤(c.toNat:Int):=by omega
   by_cases h2:c.toNat≤102
   ·have g2:(c.toNat:Int)≤102:=by omega
    have e1:IntKind.u8.wrap ((c.toNat:Int)-97)=(c.toNat:Int)-97:=wu8 (by omega) (by omega)
    have e2:IntKind.i64.wrap ((c.toNat:Int)-97)=(c.toNat:Int)-97:=w64 (by omega) (by omega)
    have e3:IntKind.i64.wrap ((c.toNat:Int)-97+10)=(c.toNat:Int)-87:=by rw[w64 (by omega) (by omega)];omega
    rw[if_pos ⟨h1,h2⟩]
    simp[u7,kC,go_sem,hc,g1,g2,e1,e2,e3]
   ·have g2:¬(c.toNat:Int)≤102:=by omega
    have g3:(65:Int)≤(c.toNat:Int):=by omega
    have g4:¬(c.toNat:Int)≤70:=by omega
    rw[if_neg (by omega),if_neg (by omega)]
    simp[u7,kC,mS,go_sem,hc,g1,g2,g3,g4]
  ·have g1:¬(97:Int)≤(c.toNat:Int):=by omega
   rw[if_neg (by omega)]
   by_cases h3:65≤c.toNat
   ·have g3:(65:Int)≤(c.toNat:Int):=by omega
    by_cases h4:c.toNat≤70
    ·have g4:(c.toNat:Int)≤70:=by omega
     have e1:IntKind.u8.wrap ((c.toNat:Int)-65)=(c.toNat:Int)-65:=wu8 (by omega) (by omega)
     have e2:IntKind.i64.wrap ((c.toNat:Int)-65)=(c.toNat:Int)-65:=w64 (by omega) (by omega)
     have e3:IntKind.i64.wrap ((c.toNat:Int)-65+10)=(c.toNat:Int)-55:=by rw[w64 (by omega) (by omega)];omega
     rw[if_pos ⟨h3,h4⟩]
     simp[u7,kC,mS,go_sem,hc,g1,g3,g4,e1,e2,e3]
    ·have g4:¬(c.toNat:Int)≤70:=by omega
     rw[if_neg (by omega)]
     simp[u7,kC,mS,go_sem,hc,g1,g3,g4]
   ·have g3:¬(65:Int)≤(c.toNat:Int):=by omega
    rw[if_neg (by omega)]
    simp[u7,kC,mS,go_sem,hc,g1,g3]
theorem L8 (s:List UInt8) (a:Nat) (e n n1:Int) (id:Nat) (m:IM) (hm:m.get id=rdR s a (-1) e) :
  pr id n n1 (-1) m=some (.normal,[.pB id 0,.int .i64 n,.int .i64 n1,.int .i64 (match s[a]? with | some c=>nW c | none=>-1)],[],m):=by
 cases hs:s[a]? with
 |none =>
  have hge:=List.getElem?_eq_none_iff.1 hs
  have c1:¬(a:Int)<(s.length:Int):=by omega
  simp[pr,go_sem,eN hm,gN hm,c1]
 |some c =>
  have hlt:=aZ hs
  have c1:(a:Int)<(s.length:Int):=by omega
  have hc:=fun (K2:IV→IM→Option LR)=>ae (Dq c m) (by simp[go_sem]) K2
  simp[pr,go_sem,eN hm,gN hm,c1,au (iP hs),hc]
theorem L9 (s:List UInt8) (hs:s.length≤1099511627776) (id:Nat):∀(k i:Nat) (a:Nat) (n:Int) (m:IM),4=i+k→a≤s.length→0≤n→n<16^i→m.get id=rdR s a (-1) 0 →
  match gC s k a n with
  |.ok x a'=>qi id n i m=some (.exit 0,[.int .i64 x],[],al m id (rdR s a' (-1) 0))∧a'=a+k∧a'≤s.length∧0≤x∧x<65536
  |.err b c=>qi id n i m=some (.ret,[.int .i64 0],[],al m id (rdR s b b c)):=by
 intro k
 induction k with
 |zero =>
  intro i a n m hk ha hn0 hn1 hm
  have hi:i=4:=by omega
  subst hi
  simp only[gC]
  refine⟨?_,rfl,ha,hn0,by simpa using hn1⟩
  rw[s5]
  simp[lW,go_sem,ke hm]
 |succ k ih =>
  intro i a n m hk ha hn0 hn1 hm
  have c1:(i:Int)<4:=by omega
  have hC:=L8 s a 0 n i id m hm
  have hp:(16:Int)^i≤16^3:=by
   have:i≤3:=by omega
   have h:=Nat.pow_le_pow_right (n:=16) (by omega) this
   exact_mod_cast h
  rw[s5]
  have hcw:=fun (K2:IV→IM→Option (St⊕LR))=>oy s a 0 a 19 id m hm K2
  simp only[dz] at hcw
  unfold gC
  cases hq:s[a]? with
  |none =>
   rw[hq] at hC
   simp only at hC ⊢
   simp[lW,go_sem,c1,hC,hcw,eN hm,af]
  |some c =>
   rw[hq] at hC
   simp only at hC ⊢
   have hlt:=aZ hq
   have hx:=yZ c
   generalize nW c=d at *
   by_cases h0:d<0
   ·rw[if_pos h0]
    simp[lW,go_sem,c1,hC,hcw,h0,eN hm,af]
   ·rw[if_neg h0]
    have hpow:(16:Int)^(i+1)=16*16^i:=by rw[Int.pow_succ];omega
    have h:=ih (i+1) (a+1) (16*n+d) (al m id (rdR s (a+1:Nat) (-1) 0)) (by omega) (by omega) (by omega) (by omega) (bK hm)
    simp only[ah] at h
    have hw1:IntKind.i64.wrap ((a:Int)+1)=((a+1:Nat):Int):=by rw[w64 (by omega) (by omega)];rfl
    have hw2:IntKind.i64.wrap ((i:Int)+1)=((i+1:Nat):Int):=by rw[w64 (by omega) (by omega)];rfl
    have hw3:IntKind.i64.wrap (16*n)=16*n:=w64 (by omega) (by omega)
    have hw4:IntKind.i64.wrap (16*n+d)=16*n+d:=w64 (by omega) (by omega)
    have step:nxt tj (lW id n i m)=qi id (16*n+d) ((i+1:Nat):Int) (al m id (rdR s (a+1:Nat) (-1) 0)):=by
     generalize hj:a+1=j at *
     generalize hi':i+1=i' at *
     simp[lW,go_sem,c1,hC,h0,eN hm,nx hm,hw1,hw2,hw3,hw4]
     rfl
    rw[step]
    cases hx2:gC s k (a+1) (16*n+d) with
    |ok x a' =>
     rw[hx2] at h
     simp only at h ⊢
     exact⟨h.1,by omega,h.2.2.1,h.2.2.2⟩
    |err b c=>rw[hx2] at h;exact h
theorem Ce (s:List UInt8) (hs:s.length≤1099511627776) (id:Nat) (a:Nat) (m:IM) (ha:a≤s.length) (hm:m.get id=rdR s a (-1) 0) :
  match gC s 4 a 0 with
  |.ok x a'=>cw (.f 125) [.pB id 0] m=some (.int .i64 x,al m id (rdR s a' (-1) 0))∧a'=a+4∧a'≤s.length∧0≤x∧x<65536
  |.err b c=>cw (.f 125) [.pB id 0] m=some (.int .i64 0,al m id (rdR s b b c)):=by
 have h:=L9 s hs id 4 0 a 0 m rfl ha (by omega) (by simp) hm
 rw[show ((0:Nat):Int)=0 from rfl] at h
 cases hx:gC s 4 a 0 with
 |ok x a' =>
  rw[hx] at h
  simp only at h ⊢
  refine⟨?_,h.2⟩
  apply ta
  simp[DD,go_sem,h.1]
 |err b c =>
  rw[hx] at h
  simp only at h ⊢
  apply ta
  simp[DD,go_sem,h]
end Go.Idl
namespace Go.Idl
attribute [local go_sem] uV uI gI gS bO cE bw dM dp dV dS dO cI bV cZ bZ bX dQ cM bU dN bS bg bA bj bh aQ dR dT cK cQ dP dZ cY fy dK cS dY et dL dU cH cN cP bY cJ eB bT bC b8 bW cV bm aC a7 aD c9 c8 bJ bo bF ck bG cm bH ct List.flatMap_cons List.flatMap_nil
theorem Ha:∀i,i<8→POp.ev .idxStr [.str ([34,34,92,92,47,47,98,8,102,12,110,10,114,13,116,9]:List UInt8),.int .i64 ((2*i:Nat):Int)]=some (.int .u8 ((shT.getD i (0,0)).1.toNat:Int)):=by
 intro i hi
 rcases i with _ | _ | _ | _ | _ | _ | _ | _ | i<;>first | rfl | omega
theorem H9:∀i,i<8→POp.ev (.sliceStr true true) [.str ([34,34,92,92,47,47,98,8,102,12,110,10,114,13,116,9]:List UInt8),.int .i64 (IntKind.i64.wrap (((2*i:Nat):Int)+1)),.int .i64 (IntKind.i64.wrap (((2*i:Nat):Int)+2))]=some (.str [(shT.getD i (0,0)).2]):=by
 intro i hi
 rcases i with _ | _ | _ | _ | _ | _ | _ | _ | i<;>first | rfl | omega
theorem Lr (s:List UInt8) (hs:s.length≤1099511627776) (id:Nat) (from_:Int) (a:Nat) (c:UInt8) (m:IM) (ha:a≤s.length) (hm:m.get id=rdR s a (-1) 0):∀(j i:Nat),8=i+j →
  tA id from_ (c.toNat:Int) ([34,34,92,92,47,47,98,8,102,12,110,10,114,13,116,9]:List UInt8) (2*i:Nat) m=match pz (shT.drop i) (some c) with
   |some d=>some (.ret,[.str [d]],[],al m id (rdR s (a+1:Nat) (-1) 0))
   |none=>some (.exit 0,[.pB id 0,.int .i64 from_,.int .u8 (c.toNat:Int)],[],m):=by
 intro j
 induction j with
 |zero =>
  intro i hk
  have:i=8:=by omega
  subst this
  rw[sG]
  simp[nd,go_sem,shT,pz]
 |succ j ih =>
  intro i hk
  have hi:i<8:=by omega
  have c1:((2*i:Nat):Int)<16:=by omega
  have hat:=Ha i hi
  have hsl:=H9 i hi
  rw[vn i hi]
  have hw:IntKind.i64.wrap ((a:Int)+1)=((a+1:Nat):Int):=by rw[w64 (by omega) (by omega)];rfl
  have hw2:IntKind.i64.wrap (((2*i:Nat):Int)+2)=((2*(i+1):Nat):Int):=by rw[w64 (by omega) (by omega)];omega
  have h:=ih (i+1) (by omega)
  unfold pz
  rw[sG]
  generalize shT.getD i (0,0)=p at *
  obtain⟨x,y⟩:=p
  simp only at *
  have hq:=sN (c:=x) (d:=c)
  generalize 2*i=i2 at *
  generalize 2*(i+1)=i3 at *
  by_cases g:c=x
  ·subst g
   rw[if_pos rfl]
   generalize a+1=a1 at *
   simp only[nd,go_sem,List.length_cons,List.length_nil]
   simp[go_sem,c1,au hat,eN hm,nx hm,hw,au hsl]
  ·have g':(x==c)=false:=by simpa using fun q:x=c=>g q.symm
   rw[g'] at hq
   rw[if_neg (fun q=>g (Option.some.inj q))]
   have hq2:¬((x.toNat:Int)=(c.toNat:Int)):=by simpa using hq
   have step:nxt tW (nd id from_ (c.toNat:Int) ([34,34,92,92,47,47,98,8,102,12,110,10,114,13,116,9]:List UInt8) i2 m)=tA id from_ (c.toNat:Int) ([34,34,92,92,47,47,98,8,102,12,110,10,114,13,116,9]:List UInt8) i3 m:=by
    simp only[nd,go_sem,List.length_cons,List.length_nil]
    simp[go_sem,c1,au hat,hq2,hw2]
    rfl
   rw[step]
   exact h
section
variable {s:List UInt8}{id:Nat}{m:IM}
theorem DU {a:Nat}{from_ n:Int}(hm:m.get id=rdR s a (-1) 0):mF id from_ n m=some (.normal,[.pB id 0,.int .i64 from_,.int .i64 n,.bool (aL n)],[],m):=by
 have hc:=fun (K2:IV→IM→Option LR)=>ae (xj n m) (by simp[go_sem]) K2
 simp[mF,go_sem,de hm,hc]
theorem DG {a:Int}{b:Nat}{e from_ n:Int}(hm:m.get id=rdR s a b e):mF id from_ n m=some (.normal,[.pB id 0,.int .i64 from_,.int .i64 n,.bool true],[],m):=by
 have c1:(0:Int)≤(b:Int):=by omega
 simp[mF,go_sem,de hm,c1]
theorem Dw {a:Nat}{from_ n:Int}(hs:s.length≤1099511627776) (ha:a≤s.length) (hm:m.get id=rdR s a (-1) 0):lZ id from_ n m=some (.normal,[.pB id 0,.int .i64 from_,.int .i64 n,.bool (decide (56320≤n∨¬(s[a]?=some 92∧s[a+1]?=some 117)))],[],m):=by
 have hw:IntKind.i64.wrap ((a:Int)+1)=((a+1:Nat):Int):=by rw[w64 (by omega) (by omega)];rfl
 by_cases h1:56320≤n
 ·simp[lZ,go_sem,h1]
 ·cases h2:s[a+1]? with
  |none =>
   have hge:=List.getElem?_eq_none_iff.1 h2
   have c1:(s.length:Int)≤((a+1:Nat):Int):=by omega
   generalize a+1=a1 at *
   simp[lZ,go_sem,h1,eN hm,gN hm,hw,c1]
  |some d =>
   have hlt:=aZ h2
   have c1:¬(s.length:Int)≤((a+1:Nat):Int):=by omega
   have hq:s[a]?=some s[a]:=List.getElem?_eq_getElem (by omega)
   rw[hq]
   generalize s[a]'(by omega)=c at *
   have hi:=iP h2
   generalize a+1=a1 at *
   have u1:=ya (c:=c) (d:=92)
   have u2:=ya (c:=d) (d:=117)
   rw[show ((92:UInt8).toNat:Int)=92 from rfl] at u1
   rw[show ((117:UInt8).toNat:Int)=117 from rfl] at u2
   simp only[lZ,eN hm,gN hm,hw,au (iP hq),au hi,bw,u1,u2]
   by_cases g1:c=92<;>by_cases g2:d=117<;>simp[go_sem,h1,c1,g1,g2]
theorem Dh {a:Nat}{from_ n k:Int}(hm:m.get id=rdR s a (-1) 0):mB id from_ n k m=some (.normal,[.pB id 0,.int .i64 from_,.int .i64 n,.int .i64 k,.bool (decide (k<56320∨57343<k))],[],m):=by
 by_cases h1:k<56320<;>by_cases h2:57343<k<;>simp[mB,go_sem,de hm,h1,h2]
theorem Eb {a:Int}{b:Nat}{e from_ n k:Int}(hm:m.get id=rdR s a b e):mB id from_ n k m=some (.normal,[.pB id 0,.int .i64 from_,.int .i64 n,.int .i64 k,.bool false],[],m):=by
 have c1:¬((b:Int)<0):=by omega
 simp[mB,go_sem,de hm,c1]
end
theorem Ay {n:Int}(h:aL n=true) (h0:0≤n):vg n=gb n.toNat:=by
 have e:=ou n.toNat (by rw[Int.toNat_of_nonneg h0];exact h)
 rw[vg.eq_1,e]
set_option maxHeartbeats 1000000 in
theorem Ia (s:List UInt8) (hs:s.length≤1099511627776) (id:Nat) (a:Nat) (m:IM) (ha:a≤s.length) (ha1:1≤a) (hm:m.get id=rdR s a (-1) 0) :
  match oR s a with
  |.ok x a'=>cw (.f 104) [.pB id 0,.int .i64 ((a-1:Nat):Int)] m=some (.str x,al m id (rdR s a' (-1) 0))∧a'≤s.length∧a<a'
  |.err b c=>c=19∧∃(t:List UInt8) (a':Nat),t.length≤4∧a'≤s.length∧cw (.f 104) [.pB id 0,.int .i64 ((a-1:Nat):Int)] m=some (.str t,al m id (rdR s a' b c)):=by
 have hf:=fun (K2:IV→IM→Option (IV×IM))=>oy s a 0 a 19 id m hm K2
 unfold oR
 cases hq:s[a]? with
 |none =>
  have hge:=List.getElem?_eq_none_iff.1 hq
  have c1:(s.length:Int)≤(a:Int):=by omega
  rw[show pz shT none=none from rfl]
  simp only
  rw[if_neg (fun h=>by cases h)]
  refine⟨rfl,[],a,by simp,ha,?_⟩
  apply fI
  simp only[rM,eN hm,gN hm,hf]
  simp[go_sem,c1,dz,af]
 |some c =>
  have hlt:=aZ hq
  have c1:¬(s.length:Int)≤(a:Int):=by omega
  have hL:=Lr s hs id ((a-1:Nat):Int) a c m ha hm 8 0 rfl
  rw[List.drop_zero,show ((2*0:Nat):Int)=0 from rfl] at hL
  have hix:=iP hq
  cases hE:pz shT (some c) with
  |some d =>
   rw[hE] at hL
   refine⟨?_,hlt,Nat.lt_succ_self a⟩
   apply fI
   simp only[rM,eN hm,gN hm,au hix,bw,hL]
   simp[go_sem,c1]
  |none =>
   rw[hE] at hL
   simp only at hL ⊢
   have u1:=ya (c:=c) (d:=117)
   rw[show ((117:UInt8).toNat:Int)=117 from rfl] at u1
   by_cases g:c=117
   ·subst g
    rw[if_pos rfl]
    have hw:IntKind.i64.wrap ((a:Int)+1)=((a+1:Nat):Int):=by rw[w64 (by omega) (by omega)];rfl
    have hm1:(al m id (rdR s (a+1:Nat) (-1) 0)).get id=rdR s (a+1:Nat) (-1) 0:=bK hm
    have hx:=Ce s hs id (a+1) _ hlt hm1
    have hne:((((117:UInt8).toNat:Int)) != 117)=false:=rfl
    cases hX:gC s 4 (a+1) 0 with
    |err b e =>
     rw[hX] at hx
     simp only[ah] at hx ⊢
     have hc:=ki _ _ _ _ _ _ hX
     have hble:=mR _ _ _ _ _ _ hlt hX
     subst hc
     refine⟨rfl,gb 0,b,vh _,hble,?_⟩
     have hxc:=fun (K2:IV→IM→Option (IV×IM))=>ae hx (by simp[go_sem]) K2
     have hm2:(al m id (rdR s b b 19)).get id=rdR s b b 19:=bK hm
     have h42:=fun (K2:IV→IM→Option (IV×IM))=>ae (rI 0 (by omega) (al m id (rdR s b b 19))) (by simp[go_sem]) K2
     rw[show ((0:Nat):Int)=0 from rfl] at h42
     apply fI
     generalize a+1=a1 at *
     simp only[rM,eN hm,gN hm,au hix,bw,hL,hne,nx hm,hw,hxc,DG hm2,h42,go_sem,Bool.false_eq_true,if_false,if_true]
     simp[go_sem,c1]
    |ok n a1 =>
     rw[hX] at hx
     simp only[ah] at hx ⊢
     obtain⟨hx,ha1',ha1l,hn0,hn1⟩:=hx
     have hxc:=fun (K2:IV→IM→Option (IV×IM))=>ae hx (by simp[go_sem]) K2
     have hm2:(al m id (rdR s a1 (-1) 0)).get id=rdR s a1 (-1) 0:=bK hm
     have hC0:=DU (from_:=((a-1:Nat):Int)) (n:=n) hm2
     by_cases gp:aL n=true
     ·rw[if_pos gp]
      refine⟨?_,ha1l,by omega⟩
      rw[gp] at hC0
      rw[Ay gp hn0]
      have h42:=fun (K2:IV→IM→Option (IV×IM))=>ae (rI n.toNat (by omega) (al m id (rdR s a1 (-1) 0))) (by simp[go_sem]) K2
      rw[show ((n.toNat:Nat):Int)=n by omega] at h42
      apply fI
      generalize a+1=a2 at *
      simp only[rM,eN hm,gN hm,au hix,bw,hL,hne,nx hm,hw,hxc,hC0,h42,go_sem,Bool.false_eq_true,if_false,if_true]
      simp[go_sem,c1]
     ·rw[if_neg gp]
      have gp':aL n=false:=by simpa using gp
      have hC1:=Dw (from_:=((a-1:Nat):Int)) (n:=n) hs ha1l hm2
      rw[gp'] at hC0
      by_cases g1:56320≤n∨¬(s[a1]?=some 92∧s[a1+1]?=some 117)
      ·rw[if_pos g1]
       rw[decide_eq_true g1] at hC1
       have hf2:=fun (K2:IV→IM→Option (IV×IM))=>oy s a1 0 ((a-1:Nat):Int) 19 id _ hm2 K2
       refine⟨rfl,[],a1,by simp,ha1l,?_⟩
       apply fI
       generalize a+1=a2 at *
       simp only[rM,eN hm,gN hm,au hix,bw,hL,hne,nx hm,hw,hxc,hC0,hC1,hf2,go_sem,Bool.false_eq_true,if_false,if_true,ah]
       simp[go_sem,c1,dz,af]
      ·rw[if_neg g1]
       rw[decide_eq_false g1] at hC1
       have hw2:IntKind.i64.wrap ((a1:Int)+2)=((a1+2:Nat):Int):=by rw[w64 (by omega) (by omega)];rfl
       have h2l:a1+2≤s.length:=by
        have:s[a1+1]?=some 117:=by
         by_cases q:s[a1]?=some 92∧s[a1+1]?=some 117
         ·exact q.2
         ·exact absurd (.inr q) g1
        have:=aZ this
        omega
       have hn3:n<56320:=by
        by_cases q:56320≤n
        ·exact absurd (.inl q) g1
        ·omega
       have hn2:55296≤n:=by
        by_cases q:55296≤n
        ·exact q
        ·exfalso
         have e1:n<55296:=by omega
         have e2:n≤1114111:=by omega
         simp[aL,hn0,e1,e2] at gp'
       have hsa:=fun (K:IM→Option (IV×IM))=>nx hm2 ((a1+2:Nat):Int) K
       simp only[ah] at hsa
       have hm3:(al m id (rdR s (a1+2:Nat) (-1) 0)).get id=rdR s (a1+2:Nat) (-1) 0:=bK hm
       have hy:=Ce s hs id (a1+2) _ h2l hm3
       have hwa:IntKind.i64.wrap (n-55296)=n-55296:=w64 (by omega) (by omega)
       have hwb:IntKind.i64.wrap ((n-55296)*1024)=(n-55296)*1024:=w64 (by omega) (by omega)
       have hwc:IntKind.i64.wrap (65536+(n-55296)*1024)=65536+(n-55296)*1024:=w64 (by omega) (by omega)
       cases hY:gC s 4 (a1+2) 0 with
       |err b e =>
        rw[hY] at hy
        simp only[ah] at hy ⊢
        have hc:=ki _ _ _ _ _ _ hY
        have hble:=mR _ _ _ _ _ _ h2l hY
        subst hc
        have hyc:=fun (K2:IV→IM→Option (IV×IM))=>ae hy (by simp[go_sem]) K2
        have hm4:(al m id (rdR s b b 19)).get id=rdR s b b 19:=bK hm
        have hC2:=Eb (from_:=((a-1:Nat):Int)) (n:=n) (k:=0) hm4
        have c2:(0:Int)≤(b:Int):=by omega
        refine⟨rfl,[],b,by simp,hble,?_⟩
        apply fI
        generalize a1+2=a3 at *
        generalize a+1=a2 at *
        simp only[rM,eN hm,eN hm2,de hm4,gN hm,au hix,bw,hL,hne,nx hm,hw,hw2,hxc,hC0,hC1,hsa,hyc,o7,hC2,go_sem,Bool.false_eq_true,if_false,if_true,ah]
        simp[go_sem,c1,c2]
       |ok k a2 =>
        rw[hY] at hy
        simp only[ah] at hy ⊢
        obtain⟨hy,ha2,ha2l,hk0,hk1⟩:=hy
        have hyc:=fun (K2:IV→IM→Option (IV×IM))=>ae hy (by simp[go_sem]) K2
        have hm4:(al m id (rdR s a2 (-1) 0)).get id=rdR s a2 (-1) 0:=bK hm
        have hC2:=Dh (from_:=((a-1:Nat):Int)) (n:=n) (k:=k) hm4
        have hwd:IntKind.i64.wrap (65536+(n-55296)*1024+k)=65536+(n-55296)*1024+k:=w64 (by omega) (by omega)
        obtain⟨q,hq⟩:=Int.eq_ofNat_of_zero_le (show 0≤65536+(n-55296)*1024+k-56320 by omega)
        have hwe:IntKind.i64.wrap (65536+(n-55296)*1024+k-56320)=(q:Int):=by rw[w64 (by omega) (by omega)];omega
        by_cases g2:k<56320∨57343<k
        ·rw[if_pos g2]
         rw[decide_eq_true g2] at hC2
         have hf2:=fun (K2:IV→IM→Option LR)=>oy s a2 0 ((a-1:Nat):Int) 19 id _ hm4 K2
         have hm5:(al m id (rdR s a2 ((a-1:Nat):Int) 19)).get id=rdR s a2 ((a-1:Nat):Int) 19:=bK hm
         have c2:(0:Int)≤((a-1:Nat):Int):=by omega
         refine⟨rfl,[],a2,by simp,ha2l,?_⟩
         apply fI
         generalize a-1=a0 at *
         generalize a1+2=a3 at *
         generalize a+1=a4 at *
         simp only[ah] at hf2
         simp only[rM,eN hm,eN hm2,de hm5,gN hm,au hix,bw,hL,hne,nx hm,hw,hw2,hxc,hC0,hC1,hsa,hyc,o7,hC2,hf2,dz,go_sem,Bool.false_eq_true,if_false,if_true,ah]
         simp[go_sem,c1,c2,af,de hm5]
        ·rw[if_neg g2]
         rw[decide_eq_false g2] at hC2
         have hk2:56320≤k:=by
          by_cases q:56320≤k
          ·exact q
          ·exact absurd (.inl (by omega)) g2
         have hk3:k≤57343:=by
          by_cases q:k≤57343
          ·exact q
          ·exact absurd (.inr (by omega)) g2
         have hpt:aL (65536+(n-55296)*1024+k-56320)=true:=by
          have e0:0≤65536+(n-55296)*1024+k-56320:=by omega
          have e1:65536+(n-55296)*1024+k-56320≤1114111:=by omega
          have e2:57343<65536+(n-55296)*1024+k-56320:=by omega
          generalize 65536+(n-55296)*1024+k-56320=z at e0 e1 e2 ⊢
          simp[aL,e0,e1,e2]
         have h42:=fun (K2:IV→IM→Option (IV×IM))=>ae (rI q (by omega) (al m id (rdR s a2 (-1) 0))) (by simp[go_sem]) K2
         refine⟨?_,ha2l,by omega⟩
         rw[Ay hpt (by omega),hq,Int.toNat_natCast]
         apply fI
         generalize a1+2=a3 at *
         generalize a+1=a4 at *
         simp only[rM,eN hm,eN hm2,de hm4,gN hm,au hix,bw,hL,hne,nx hm,hw,hw2,hxc,hC0,hC1,hsa,hyc,o7,hC2,go_sem,Bool.false_eq_true,if_false,if_true,ah]
         simp[go_sem,c1,hwa,hwb,hwc,hwd,hwe,h42,de hm4]
   ·have g':(c==117)=false:=by simpa using g
    rw[if_neg (fun h=>g (Option.some.inj h))]
    rw[g'] at u1
    refine⟨rfl,[],a,by simp,ha,?_⟩
    apply fI
    simp only[rM,eN hm,gN hm,au hix,bw,hL,hf,u1,go_sem]
    simp[go_sem,c1,dz,af]
end Go.Idl
namespace Go.Idl
attribute [local go_sem] uV uI gI gS bO cE bw dM dp dV dS dO cI bV cZ bZ bX dQ cM bU dN bS bg bA bj bh aQ dR dT cK cQ dP dZ cY fy dK cS dY et dL dU cH cN cP bY cJ eB bT bC b8 bW cV bm aC a7 aD c9 c8 bJ bo bF ck bG cm bH ct List.flatMap_cons List.flatMap_nil
theorem C77 (s:List UInt8) (a:Nat) (bad e:Int) (out:IV) (id:Nat) (m:IM) (hm:m.get id=rdR s a bad e):qx id out m=some (.normal,[.pB id 0,out,.bool (match s[a]? with | some c=>decide (c.toNat<32) | none=>true)],[],m):=by
 cases hs:s[a]? with
 |none =>
  have hge:=List.getElem?_eq_none_iff.1 hs
  have c1:(s.length:Int)≤(a:Int):=by omega
  simp[qx,go_sem,eN hm,gN hm,c1]
 |some c =>
  have hlt:=aZ hs
  have c1:¬(s.length:Int)≤(a:Int):=by omega
  have g:decide ((c.toNat:Int)<32)=decide (c.toNat<32):=by
   by_cases q:c.toNat<32
   ·rw[decide_eq_true q,decide_eq_true (by omega)]
   ·rw[decide_eq_false q,decide_eq_false (by omega)]
  simp[qx,go_sem,eN hm,gN hm,c1,au (iP hs),g]
def CY (x:Option LR) (s:List UInt8) (id:Nat) (m:IM) (b:Nat) (c:Int):Prop:=c=19∧∃a':Nat,a'≤s.length∧(x=some (.exit 0,[],[],al m id (rdR s a' b c))∨x=some (.ret,[.str []],[],al m id (rdR s a' b c)))
set_option maxHeartbeats 1000000 in
set_option maxRecDepth 100000 in
theorem L77 (s:List UInt8) (hs:s.length≤30000) (id:Nat):∀(n a:Nat) (acc:List UInt8) (m:IM) (r:Rd (List UInt8)),iH s n a acc=some r→a≤s.length→1≤a→acc.length≤4*a→m.get id=rdR s a (-1) 0 →
  match r with
  |.ok x a'=>oL id (bsl acc) m=some (.ret,[.str x],[],al m id (rdR s a' (-1) 0))∧a'≤s.length∧x.length≤4*a'
  |.err b c=>CY (oL id (bsl acc) m) s id m b c:=by
 have hml:aK=1099511627776:=rfl
 have hneg:((-1:Int)<0)=True:=by simp
 intro n
 induction n with
 |zero=>intro a acc m r h;cases h
 |succ n ih =>
  intro a acc m r h ha ha1 hacc hm
  have hC:=C77 s a (-1) 0 (bsl acc) id m hm
  have hcw:=fun (K2:IV→IM→Option (St⊕LR))=>oy s a 0 a 19 id m hm K2
  simp only[dz] at hcw
  have hbad:qx id (bsl acc) m=some (.normal,[.pB id 0,bsl acc,.bool true],[],m)→oL id (bsl acc) m=some (.ret,[.str []],[],al m id (rdR s a a 19)):=by
   intro hC
   rw[il]
   simp only[jI,go_sem,de hm,hneg,decide_true,eN hm,hC,hcw,if_true]
  unfold iH at h
  cases hq:s[a]? with
  |none =>
   rw[hq] at h hC
   cases h
   exact⟨rfl,a,ha,.inr (hbad hC)⟩
  |some c =>
   rw[hq] at h hC
   simp only at h hC
   have hlt:=aZ hq
   by_cases g1:c.toNat<32
   ·rw[if_pos g1] at h
    rw[decide_eq_true g1] at hC
    cases h
    exact⟨rfl,a,ha,.inr (hbad hC)⟩
   ·rw[if_neg g1] at h
    rw[decide_eq_false g1] at hC
    by_cases g2:c=34
    ·rw[if_pos g2] at h
     subst g2
     have hcq:=fun (K2:IV→IM→Option (St⊕LR))=>skR (by omega) hm hq K2
     rw[show ((34:UInt8).toNat:Int)=34 from rfl] at hcq
     cases h
     refine⟨?_,hlt,by omega⟩
     rw[il]
     simp only[jI,go_sem,de hm,hneg,decide_true,hC,hcq,au (yV acc),if_true,Bool.false_eq_true,if_false]
    ·rw[if_neg g2] at h
     have hcq:=fun (K2:IV→IM→Option (St⊕LR))=>DJ (c:=34) hm (by rw[hq];exact fun q=>g2 (Option.some.inj q)) K2
     rw[show ((34:UInt8).toNat:Int)=34 from rfl] at hcq
     by_cases g3:c=92
     ·rw[if_pos g3] at h
      subst g3
      have hcb:=fun (K2:IV→IM→Option (St⊕LR))=>skR (by omega) hm hq K2
      rw[show ((92:UInt8).toNat:Int)=92 from rfl] at hcb
      have hm1:(al m id (rdR s (a+1:Nat) (-1) 0)).get id=rdR s (a+1:Nat) (-1) 0:=bK hm
      have hla:=fun (K:Int→Option (St⊕LR))=>eN hm1 K
      have hw1:IntKind.i64.wrap (((a+1:Nat):Int)-1)=((a+1-1:Nat):Int):=by rw[w64 (by omega) (by omega)];omega
      have he:=Ia s (by omega) id (a+1) _ hlt (by omega) hm1
      cases hE:oR s (a+1) with
      |err b e =>
       rw[hE] at h he
       cases h
       simp only at he
       obtain⟨rfl,t,a',ht4,hal,he⟩:=he
       rw[ah] at he
       have hce:=fun (K2:IV→IM→Option (St⊕LR))=>ae he (by simp[go_sem]) K2
       have hm2:(al m id (rdR s a' b 19)).get id=rdR s a' b 19:=bK hm
       have hbn:¬((b:Int)<0):=by omega
       refine⟨rfl,a',hal,.inl ?_⟩
       have step:nxt sS (jI id (bsl acc) m)=oL id (bsl (acc++t)) (al m id (rdR s a' b 19)):=by
        generalize a+1=a1 at *
        simp only[jI,go_sem,de hm,hneg,decide_true,hC,hcq,hcb,hla,hw1,hce,gB (dJ t),dq,Nat.mul_one,Nat.beq_refl,je acc t (by omega),ix,if_true,Bool.false_eq_true,if_false]
        rfl
       rw[il,step,il]
       simp only[jI,go_sem,de hm2,hbn,decide_false,Bool.false_eq_true,if_false]
      |ok x a' =>
       rw[hE] at h he
       simp only at h he
       obtain⟨he,hal,hlt2⟩:=he
       rw[ah] at he
       have hx4:=qM hE
       have hce:=fun (K2:IV→IM→Option (St⊕LR))=>ae he (by simp[go_sem]) K2
       have hm2:(al m id (rdR s a' (-1) 0)).get id=rdR s a' (-1) 0:=bK hm
       have step:nxt sS (jI id (bsl acc) m)=oL id (bsl (acc++x)) (al m id (rdR s a' (-1) 0)):=by
        generalize a+1=a1 at *
        simp only[jI,go_sem,de hm,hneg,decide_true,hC,hcq,hcb,hla,hw1,hce,gB (dJ x),dq,Nat.mul_one,Nat.beq_refl,je acc x (by omega),ix,if_true,Bool.false_eq_true,if_false]
        rfl
       have hi:=ih a' (acc++x) _ r h hal (by omega) (by rw[List.length_append];omega) hm2
       rw[il,step]
       cases r with
       |ok y a2=>simpa only[ah] using hi
       |err b e=>simpa only[CY,ah] using hi
     ·rw[if_neg g3] at h
      have hcb:=fun (K2:IV→IM→Option (St⊕LR))=>DJ (c:=92) hm (by rw[hq];exact fun q=>g3 (Option.some.inj q)) K2
      rw[show ((92:UInt8).toNat:Int)=92 from rfl] at hcb
      obtain⟨t,ht⟩:∃t,s.drop a=c::t:=⟨s.drop (a+1),by
       rw[List.drop_eq_getElem_cons hlt]
       have:=(List.getElem?_eq_some_iff.1 hq).2
       rw[this]⟩
      have h40:=Ak (s.drop a) m
      have hdb:=sC c t
      rw[←ht] at hdb
      rw[hdb] at h40
      have hc40:=fun (K2:IV→IM→Option (St⊕LR))=>ae h40 (by simp[go_sem]) K2
      have hbl:=sE (s.drop a)
      rw[List.length_drop] at hbl
      have hb4:=nS (s.drop a)
      have hbp:=jn (s.drop a)
      clear hdb h40
      generalize ay (s.drop a)=B at *
      obtain⟨sz,w,p⟩:=B
      simp only at *
      cases w with
      |false =>
       cases h
       refine⟨rfl,a,ha,.inr ?_⟩
       simp only[Bool.false_eq_true,if_false] at hc40
       rw[il]
       simp only[jI,go_sem,de hm,hneg,decide_true,eN hm,gN hm,hC,hcq,hcb,au (Bz s a ha),hc40,hcw,if_true,Bool.false_eq_true,if_false]
       simp[go_sem,af]
      |true =>
       have hsz:=hbp rfl
       simp only[if_true] at h hc40
       have htl:((s.drop a).take sz).length=sz:=by rw[List.length_take,List.length_drop];omega
       have hm2:(al m id (rdR s (a+sz:Nat) (-1) 0)).get id=rdR s (a+sz:Nat) (-1) 0:=bK hm
       have hw:IntKind.i64.wrap ((a:Int)+(sz:Int))=((a+sz:Nat):Int):=by rw[w64 (by omega) (by omega)];rfl
       have hsl:=CO s a sz (by omega) (by omega)
       rw[hw] at hsl
       have hz:((sz:Int)==0)=false:=by simp;omega
       have step:nxt sS (jI id (bsl acc) m)=oL id (bsl (acc++(s.drop a).take sz)) (al m id (rdR s (a+sz:Nat) (-1) 0)):=by
        generalize (s.drop a).take sz=T at *
        generalize a+sz=j at *
        simp only[jI,go_sem,de hm,hneg,decide_true,eN hm,gN hm,hC,hcq,hcb,au (Bz s a ha),hc40,hz,hw,au hsl,gB (dJ T),dq,Nat.mul_one,Nat.beq_refl,je acc T (by omega),ix,nx hm,if_true,Bool.false_eq_true,if_false]
        rfl
       have hi:=ih (a+sz) (acc++(s.drop a).take sz) _ r h (by omega) (by omega) (by rw[List.length_append,htl];omega) hm2
       rw[il,step]
       cases r with
       |ok y a2=>simpa only[ah] using hi
       |err b e=>simpa only[CY,ah] using hi
theorem Fq (s:List UInt8) (hs:s.length≤30000) (id:Nat) (n a:Nat) (m:IM) (r:Rd (List UInt8)) (h:iH s n a []=some r) (ha:a≤s.length) (ha1:1≤a) (hm:m.get id=rdR s a (-1) 0) :
  match r with
  |.ok x a'=>cw (.f 77) [.pB id 0] m=some (.str x,al m id (rdR s a' (-1) 0))∧a'≤s.length∧x.length≤4*a'
  |.err b c=>c=19∧∃(a':Nat),a'≤s.length∧cw (.f 77) [.pB id 0] m=some (.str [],al m id (rdR s a' b c)):=by
 have hL:=L77 s hs id n a [] m r h ha ha1 (by simp) hm
 cases r with
 |ok x a' =>
  simp only at hL ⊢
  refine⟨?_,hL.2⟩
  apply ru
  have h1:=hL.1
  simp only[bsl] at h1
  simp[F77,go_sem,h1]
 |err b c =>
  simp only[CY] at hL ⊢
  obtain⟨rfl,a',hal,h1 | h1⟩:=hL
  ·refine⟨rfl,a',hal,?_⟩
   apply ru
   simp only[bsl] at h1
   simp[F77,go_sem,h1]
  ·refine⟨rfl,a',hal,?_⟩
   apply ru
   simp only[bsl] at h1
   simp[F77,go_sem,h1]
end Go.Idl
namespace Go.Idl
attribute [local go_sem] uV uI gI gS bO cE bw dM dp dV dS dO cI bV cZ bZ bX dQ cM bU dN bS bg bA bj bh aQ dR dT cK cQ dP dZ cY fy dK cS dY et dL dU cH cN cP bY cJ eB bT bC b8 bW cV bm aC a7 aD c9 c8 bJ bo bF ck bG cm bH ct List.flatMap_cons List.flatMap_nil
section
variable {R:Type}{m:IM}{id:Nat}{s:List UInt8}{a0 b0 e0:Int}
theorem MbM (hm:m.get id=rdR s a0 b0 e0) (a bad e:Int) (K:Int→Option R):(gr (al m id (rdR s a bad e)) id fun l0 _=>eK false l0 2 1 fun v=>asI .i64 v K)=K bad:=de (bK hm) K
theorem Mbl (hs:s.length≤1099511627776) (hm:m.get id=rdR s a0 b0 e0) {a:Nat}(ha:a≤s.length) (bad e:Int) (K2:IV→IM→Option R):ak cw (.f 47) [.pB id 0] [] (al m id (rdR s a bad e)) K2=K2 (.tup []) (al m id (rdR s (blk s a:Nat) bad e)):=by
 have h:=blR s hs a ha bad e id _ (bK hm) K2
 rwa [ah] at h
theorem Msk (hm:m.get id=rdR s a0 b0 e0) {a:Nat}{c:UInt8}(ha:a≤1099511627776) (h:s[a]?=some c) (K2:IV→IM→Option R):ak cw (.f 103) [.pB id 0,.int .u8 (c.toNat:Int)] [] (al m id (rdR s a (-1) 0)) K2=K2 (.bool true) (al m id (rdR s (a+1:Nat) (-1) 0)):=by
 have h:=skR ha (bK hm) h K2
 rwa [ah] at h
theorem C9 (hm:m.get id=rdR s a0 b0 e0) {a:Nat}{c:UInt8}(h:¬s[a]?=some c) (K2:IV→IM→Option R):ak cw (.f 103) [.pB id 0,.int .u8 (c.toNat:Int)] [] (al m id (rdR s a (-1) 0)) K2=K2 (.bool false) (al m id (rdR s a (-1) 0)) :=
 DJ (bK hm) h K2
theorem Ec (hm:m.get id=rdR s a0 b0 e0) (a e:Int) (b:Nat) (c:UInt8) (K2:IV→IM→Option R):ak cw (.f 103) [.pB id 0,.int .u8 (c.toNat:Int)] [] (al m id (rdR s a b e)) K2=K2 (.bool false) (al m id (rdR s a b e)) :=
 J7 (bK hm) K2
theorem Mwa (hm:m.get id=rdR s a0 b0 e0) {a:Nat}{c:UInt8}(ha:a≤1099511627776) (h:s[a]?=some c) (K2:IV→IM→Option R):ak cw (.f 102) [.pB id 0,.int .u8 (c.toNat:Int)] [] (al m id (rdR s a (-1) 0)) K2=K2 (.tup []) (al m id (rdR s (a+1:Nat) (-1) 0)):=by
 have h:=waR ha (bK hm) h K2
 rwa [ah] at h
theorem Ee (hm:m.get id=rdR s a0 b0 e0) {a:Nat}{c:UInt8}(h:¬s[a]?=some c) (K2:IV→IM→Option R):ak cw (.f 102) [.pB id 0,.int .u8 (c.toNat:Int)] [] (al m id (rdR s a (-1) 0)) K2=K2 (.tup []) (al m id (rdR s a a 19)):=by
 have h:=Kq (bK hm) h K2
 rwa [ah] at h
theorem Cl (hm:m.get id=rdR s a0 b0 e0) (a e:Int) (b:Nat) (c:UInt8) (K2:IV→IM→Option R):ak cw (.f 102) [.pB id 0,.int .u8 (c.toNat:Int)] [] (al m id (rdR s a b e)) K2=K2 (.tup []) (al m id (rdR s a b e)) :=
 Kx (bK hm) K2
end
def Iy (X:Option (IV×IM)) (s:List UInt8) (id:Nat) (m:IM):Rd Val→Prop
 |.ok v a'=>∃c,ValR v c∧X=some (.agg c,al m id (rdR s a' (-1) 0))∧a'≤s.length
 |.err b e=>(e=19∨e=21)∧∃(v:Val) (c:List IV) (a':Nat),ValR v c∧a'≤s.length∧X=some (.agg c,al m id (rdR s a' b e))
def yl (X:Option LR) (s:List UInt8) (id:Nat) (m:IM):Rd Val→Prop
 |.ok v a'=>∃c,ValR v c∧X=some (.ret,[],[.cells c [.any,.any,.any,.any]],al m id (rdR s a' (-1) 0))∧a'≤s.length
 |.err b e=>(e=19∨e=21)∧∃(v:Val) (c:List IV) (a':Nat),ValR v c∧a'≤s.length∧(X=some (.ret,[],[.cells c [.any,.any,.any,.any]],al m id (rdR s a' b e))∨∃cp,X=some (.exit 0,[],[bxW 0 [],.cells c cp],al m id (rdR s a' b e)))
def HVR (s:List UInt8) (id n:Nat):Prop:=∀(lvl:Int) (a:Nat) (m:IM) (r:Rd Val) (a0 b0 e0:Int),iS s n lvl a=some r→0≤lvl→lvl≤41→a≤s.length→m.get id=rdR s a0 b0 e0 →
 Iy (cw (.f 46) [.pB id 0,.int .i64 lvl] (al m id (rdR s a (-1) 0))) s id m r
noncomputable def lpR (o:Bool) (id:Nat) (lvl:Int) (K V:IV) (m:IM):Option LR:=if o then mK id lvl 0 [] .nilSlice .nilSlice 5 [] K V m else qZ id lvl 0 [] .nilSlice .nilSlice 4 [] K V m
def HLR (s:List UInt8) (id n:Nat):Prop:=∀(o:Bool) (lvl:Int) (a:Nat) (ks:List (List UInt8)) (vs:List Val) (K V:IV) (m:IM) (r:Rd Val) (a0 b0 e0:Int),gg s n o lvl a ks vs=some r→SlS K ks→SlV V vs→ks.length≤a→vs.length≤a→0≤lvl→lvl≤40→a≤s.length→m.get id=rdR s a0 b0 e0 →
 yl (lpR o id lvl K V (al m id (rdR s a (-1) 0))) s id m r
def HIR (s:List UInt8) (id n:Nat):Prop:=∀(o:Bool) (lvl:Int) (a:Nat) (m:IM) (r:Rd Val) (a0 b0 e0:Int),fW s n o lvl a=some r→0≤lvl→lvl≤40→a≤s.length→1≤a→m.get id=rdR s a0 b0 e0 →
 Iy (cw (.f (if o then 79 else 78)) [.pB id 0,.int .i64 lvl] (al m id (rdR s a (-1) 0))) s id m r
theorem aX {m:IM}{v:IV}{id:Nat}{o o':BObj}(hv:v.refsDeep=some 0):settle (al m id o) (al m id o') v=some (v,al m id o'):=by
 have h:=aC (m:=al m id o) (id:=id) (o:=o') hv
 rwa [ah] at h
theorem AH {R:Type}{m:IM}{id:Nat}{s:List UInt8}{a0 b0 e0:Int}(hs:s.length≤1099511627776) (hm:m.get id=rdR s a0 b0 e0) {a:Nat}(ha:a≤s.length) (b:Nat) (e lvl:Int) (K2:IV→IM→Option R) :
  ak cw (.f 46) [.pB id 0,.int .i64 lvl] [] (al m id (rdR s a b e)) K2=K2 dz (al m id (rdR s (blk s a:Nat) b e)):=by
 refine ae (?_:cw (.f 46) [.pB id 0,.int .i64 lvl] _=_) (by simp[go_sem]) K2
 apply ew
 have h1:=fun (K2:IV→IM→Option (IV×IM))=>Mbl hs hm ha b e K2
 have c1:(0:Int)≤(b:Int):=by omega
 simp[F46,go_sem,h1,MbM hm,c1,dz,aX]
set_option maxHeartbeats 1000000 in
theorem zL (s:List UInt8) (hs:s.length≤30000) (id n:Nat) (hV:HVR s id n) (hL:HLR s id n) (lvl:Int) (a:Nat) (ks:List (List UInt8)) (vs:List Val) (K V:IV) (m:IM) (r:Rd Val) (a0 b0 e0:Int) (h:gg s (n+1) false lvl a ks vs=some r) (hK:SlS K ks) (hVV:SlV V vs) (hkl:ks.length≤a) (hvl:vs.length≤a) (hl0:0≤lvl) (hl1:lvl≤40) (ha:a≤s.length) (hm:m.get id=rdR s a0 b0 e0) :
  yl (qZ id lvl 0 [] .nilSlice .nilSlice 4 [] K V (al m id (rdR s a (-1) 0))) s id m r:=by
 have hml:aK=1099511627776:=rfl
 have hneg:((-1:Int)<0)=True:=by simp
 unfold gg at h
 have e1:IntKind.i64.wrap (lvl+1)=lvl+1:=w64 (by omega) (by omega)
 simp only[oT,Bool.false_eq_true,if_false,List.append_nil] at h
 cases hv:iS s n (lvl+1) a with
 |none=>rw[hv] at h;cases h
 |some q =>
  rw[hv] at h
  have hP:=hV (lvl+1) a m q _ _ _ hv (by omega) (by omega) ha hm
  cases q with
  |err b e =>
   simp only[Option.some.injEq] at h
   subst h
   obtain⟨he,v,c,a',hc,hal,hP⟩:=hP
   obtain⟨kk,t,CK,CV,rfl,hcK,hcV,hcKp,hcVp⟩:=hc.cells
   obtain⟨V',hV',hap⟩:=hVV.app hc (by omega)
   have h1:=fun (K2:IV→IM→Option (St⊕LR))=>ae hP (by simp[go_sem]) K2
   have h2:=fun (K2:IV→IM→Option (St⊕LR))=>Mbl (by omega) hm hal b e K2
   have hb2:=cz hal
   have h3:=fun (K2:IV→IM→Option (St⊕LR))=>Ec hm (blk s a':Nat) e b 93 K2
   have h4:=fun (K2:IV→IM→Option (St⊕LR))=>Cl hm (blk s a':Nat) e b 44 K2
   rw[show ((93:UInt8).toNat:Int)=93 from rfl] at h3
   rw[show ((44:UInt8).toNat:Int)=44 from rfl] at h4
   have hbn:¬((b:Int)<0):=by omega
   refine⟨he,.mk 4 [] ks (vs++[v]),_,blk s a',.mk hK hV',hb2.2,.inr ⟨[.any,.any,.any,.own 4],?_⟩⟩
   have step:nxt sU (jQ id lvl 0 [] .nilSlice .nilSlice 4 [] K V (al m id (rdR s a (-1) 0)))=qZ id lvl 0 [] .nilSlice .nilSlice 4 [] K V' (al m id (rdR s (blk s a':Nat) b e)):=by
    simp only[jQ,go_sem,MbM hm,hneg,decide_true,e1,h1,bR hcKp,bR hcVp,hap,hV'.isSl,af hV'.refs,h2,h3,h4,if_true,Bool.false_eq_true,if_false]
    rfl
   rw[ja,step,ja]
   simp only[jQ,go_sem,MbM hm,hbn,decide_false,Bool.false_eq_true,if_false,bxW]
  |ok v a5 =>
   simp only at h
   obtain⟨c,hc,hP,h5l⟩:=hP
   obtain⟨kk,t,CK,CV,rfl,hcK,hcV,hcKp,hcVp⟩:=hc.cells
   have h1:=fun (K2:IV→IM→Option (St⊕LR))=>ae hP (by simp[go_sem]) K2
   have h2:=fun (K2:IV→IM→Option (St⊕LR))=>Mbl (by omega) hm h5l (-1) 0 K2
   have hb2:=cz h5l
   have hadv:=((jM s n).1 _ _ _ _ hv ha).1
   obtain⟨V',hV',hap⟩:=hVV.app hc (by omega)
   rw[show cl false=93 from rfl] at h
   rw[show kd false=4 from rfl] at h
   by_cases g:s[blk s a5]?=some 93
   ·rw[if_pos g] at h
    cases h
    have h3:=fun (K2:IV→IM→Option (St⊕LR))=>Msk hm (by omega) g K2
    rw[show ((93:UInt8).toNat:Int)=93 from rfl] at h3
    refine⟨_,.mk hK hV',?_,aZ g⟩
    rw[ja]
    simp only[jQ,go_sem,MbM hm,hneg,decide_true,e1,h1,bR hcKp,bR hcVp,hap,hV'.isSl,af hV'.refs,af hK.refs,h2,h3,if_true,Bool.false_eq_true,if_false]
   ·rw[if_neg g] at h
    have h3:=fun (K2:IV→IM→Option (St⊕LR))=>C9 hm g K2
    rw[show ((93:UInt8).toNat:Int)=93 from rfl] at h3
    by_cases g2:s[blk s a5]?=some 44
    ·rw[if_pos g2] at h
     have hlt:=aZ g2
     have h4:=fun (K2:IV→IM→Option (St⊕LR))=>Mwa hm (by omega) g2 K2
     rw[show ((44:UInt8).toNat:Int)=44 from rfl] at h4
     have hi:=hL false lvl (blk s a5+1) _ _ K V' _ r _ _ _ h hK hV' (by omega) (by rw[List.length_append];simp;omega) hl0 hl1 hlt hm
     have step:nxt sU (jQ id lvl 0 [] .nilSlice .nilSlice 4 [] K V (al m id (rdR s a (-1) 0)))=qZ id lvl 0 [] .nilSlice .nilSlice 4 [] K V' (al m id (rdR s (blk s a5+1:Nat) (-1) 0)):=by
      generalize blk s a5+1=j at *
      simp only[jQ,go_sem,MbM hm,hneg,decide_true,e1,h1,bR hcKp,bR hcVp,hap,hV'.isSl,af hV'.refs,h2,h3,h4,if_true,Bool.false_eq_true,if_false]
      rfl
     rw[ja,step]
     exact hi
    ·rw[if_neg g2] at h
     cases h
     have h4:=fun (K2:IV→IM→Option (St⊕LR))=>Ee hm g2 K2
     rw[show ((44:UInt8).toNat:Int)=44 from rfl] at h4
     have hbn:¬(((blk s a5:Nat):Int)<0):=by omega
     refine⟨.inl rfl,.mk 4 [] ks (vs++[v]),_,blk s a5,.mk hK hV',hb2.2,.inr ⟨[.any,.any,.any,.own 4],?_⟩⟩
     have step:nxt sU (jQ id lvl 0 [] .nilSlice .nilSlice 4 [] K V (al m id (rdR s a (-1) 0)))=qZ id lvl 0 [] .nilSlice .nilSlice 4 [] K V' (al m id (rdR s (blk s a5:Nat) (blk s a5:Nat) 19)):=by
      simp only[jQ,go_sem,MbM hm,hneg,decide_true,e1,h1,bR hcKp,bR hcVp,hap,hV'.isSl,af hV'.refs,h2,h3,h4,if_true,Bool.false_eq_true,if_false]
      rfl
     rw[ja,step,ja]
     simp only[jQ,go_sem,MbM hm,hbn,decide_false,Bool.false_eq_true,if_false,bxW]
end Go.Idl
namespace Go.Idl
attribute [local go_sem] uV uI gI gS bO cE bw dM dp dV dS dO cI bV cZ bZ bX dQ cM bU dN bS bg bA bj bh aQ dR dT cK cQ dP dZ cY fy dK cS dY et dL dU cH cN cP bY cJ eB bT bC b8 bW cV bm aC a7 aD c9 c8 bJ bo bF ck bG cm bH ct List.flatMap_cons List.flatMap_nil
theorem mh:ValR (.mk 0 [] [] []) [.int .i64 0,.str [],.nilSlice,.nilSlice]:=.mk (.inl ⟨rfl,rfl⟩) .nil
set_option maxHeartbeats 4000000 in
theorem vd (s:List UInt8) (hs:s.length≤30000) (id n:Nat) (hV:HVR s id n) (hL:HLR s id n) (lvl:Int) (a:Nat) (ks:List (List UInt8)) (vs:List Val) (K V:IV) (m:IM) (r:Rd Val) (a0 b0 e0:Int) (h:gg s (n+1) true lvl a ks vs=some r) (hK:SlS K ks) (hVV:SlV V vs) (hkl:ks.length≤a) (hvl:vs.length≤a) (hl0:0≤lvl) (hl1:lvl≤40) (ha:a≤s.length) (hm:m.get id=rdR s a0 b0 e0) :
  yl (mK id lvl 0 [] .nilSlice .nilSlice 5 [] K V (al m id (rdR s a (-1) 0))) s id m r:=by
 have hml:aK=1099511627776:=rfl
 have hneg:((-1:Int)<0)=True:=by simp
 have hge:((0:Int)≤-1)=False:=by simp
 have hnp:IV.nilSlice.plain=true:=rfl
 unfold gg at h
 have e1:IntKind.i64.wrap (lvl+1)=lvl+1:=w64 (by omega) (by omega)
 have hba:=cz ha
 have t1:=fun (K2:IV→IM→Option (St⊕LR))=>Mbl (by omega) hm ha (-1) 0 K2
 simp only[oT,if_true,show cl true=125 from rfl,show kd true=5 from rfl] at h
 have tail:∀(K':IV) (ks':List (List UInt8)) (V':IV) (vs':List Val) (a' b:Nat),SlS K' ks'→SlV V' vs'→a'≤s.length →
   mK id lvl 0 [] .nilSlice .nilSlice 5 [] K V (al m id (rdR s a (-1) 0))=mK id lvl 0 [] .nilSlice .nilSlice 5 [] K' V' (al m id (rdR s a' b 19)) →
   yl (mK id lvl 0 [] .nilSlice .nilSlice 5 [] K V (al m id (rdR s a (-1) 0))) s id m (.err b 19):=by
  intro K' ks' V' vs' a' b hK' hV' hal hX
  have hbn:¬((b:Int)<0):=by omega
  refine⟨.inl rfl,.mk 5 [] ks' vs',_,a',.mk hK' hV',hal,.inr ⟨[.any,.any,.own 1,.own 4],?_⟩⟩
  rw[hX,gf]
  simp only[jq,go_sem,MbM hm,hbn,decide_false,Bool.false_eq_true,if_false,bxW]
 by_cases g1:s[blk s a]?=some 34
 ·rw[if_pos g1] at h
  have hlt1:=aZ g1
  have t2:=fun (K2:IV→IM→Option (St⊕LR))=>Mwa hm (by omega) g1 K2
  rw[show ((34:UInt8).toNat:Int)=34 from rfl] at t2
  have hm2:(al m id (rdR s (blk s a+1:Nat) (-1) 0)).get id=rdR s (blk s a+1:Nat) (-1) 0:=bK hm
  cases hq:iH s n (blk s a+1) [] with
  |none=>rw[hq] at h;cases h
  |some q =>
   rw[hq] at h
   have hst:=Fq s hs id n (blk s a+1) _ q hq hlt1 (by omega) hm2
   cases q with
   |err b e =>
    simp only[Option.some.injEq,ah] at h hst
    subst h
    obtain⟨rfl,a',hal,hst⟩:=hst
    have t3:=fun (K2:IV→IM→Option (St⊕LR))=>ae hst (by simp[go_sem]) K2
    have hb2:=cz hal
    have t4:=fun (K2:IV→IM→Option (St⊕LR))=>Mbl (by omega) hm hal b 19 K2
    have t5:=fun (K2:IV→IM→Option (St⊕LR))=>Cl hm (blk s a':Nat) 19 b 58 K2
    rw[show ((58:UInt8).toNat:Int)=58 from rfl] at t5
    have hb3:=cz hb2.2
    have t6:=fun (K2:IV→IM→Option (St⊕LR))=>AH (by omega) hm hb2.2 b 19 (lvl+1) K2
    have t7:=fun (K2:IV→IM→Option (St⊕LR))=>Mbl (by omega) hm hb3.2 b 19 K2
    have hb4:=cz hb3.2
    have t8:=fun (K2:IV→IM→Option (St⊕LR))=>Ec hm (blk s (blk s (blk s a')):Nat) 19 b 125 K2
    rw[show ((125:UInt8).toNat:Int)=125 from rfl] at t8
    have t9:=fun (K2:IV→IM→Option (St⊕LR))=>Cl hm (blk s (blk s (blk s a')):Nat) 19 b 44 K2
    rw[show ((44:UInt8).toNat:Int)=44 from rfl] at t9
    obtain⟨K',hK',hap⟩:=hK.app [] (by omega)
    obtain⟨V',hV',haq⟩:=hVV.app mh (by omega)
    refine tail K' _ V' _ (blk s (blk s (blk s a'))) b hK' hV' hb4.2 ?_
    rw[gf]
    generalize blk s a+1=j at *
    simp only[jq,go_sem,MbM hm,hneg,hge,decide_true,decide_false,ge_iff_le,e1,t1,t2,t3,t4,t5,t6,t7,t8,t9,dz,hap,haq,hK'.isSl,af hK'.refs,bR hnp,hV'.isSl,af hV'.refs,if_true,Bool.false_eq_true,if_false]
    rfl
   |ok t a2 =>
    simp only[ah] at h hst
    obtain⟨hst,h2l,htl⟩:=hst
    have t3:=fun (K2:IV→IM→Option (St⊕LR))=>ae hst (by simp[go_sem]) K2
    have hadv2:=ma _ _ _ _ _ _ hq
    have hb2:=cz h2l
    have t4:=fun (K2:IV→IM→Option (St⊕LR))=>Mbl (by omega) hm h2l (-1) 0 K2
    obtain⟨K',hK',hap⟩:=hK.app t (by omega)
    by_cases g2:s[blk s a2]?=some 58
    ·rw[if_pos g2] at h
     simp only at h
     have hlt2:=aZ g2
     have t5:=fun (K2:IV→IM→Option (St⊕LR))=>Mwa hm (by omega) g2 K2
     rw[show ((58:UInt8).toNat:Int)=58 from rfl] at t5
     cases hv:iS s n (lvl+1) (blk s a2+1) with
     |none=>rw[hv] at h;cases h
     |some q =>
      rw[hv] at h
      have hP:=hV (lvl+1) (blk s a2+1) m q _ _ _ hv (by omega) (by omega) hlt2 hm
      cases q with
      |err b e =>
       simp only[Option.some.injEq] at h
       subst h
       obtain⟨he,v,c,a',hc,hal,hP⟩:=hP
       obtain⟨kk,t',CK,CV,rfl,hcK,hcV,hcKp,hcVp⟩:=hc.cells
       obtain⟨V',hV',haq⟩:=hVV.app hc (by omega)
       have t6:=fun (K2:IV→IM→Option (St⊕LR))=>ae hP (by simp[go_sem]) K2
       have hb3:=cz hal
       have t7:=fun (K2:IV→IM→Option (St⊕LR))=>Mbl (by omega) hm hal b e K2
       have t8:=fun (K2:IV→IM→Option (St⊕LR))=>Ec hm (blk s a':Nat) e b 125 K2
       rw[show ((125:UInt8).toNat:Int)=125 from rfl] at t8
       have t9:=fun (K2:IV→IM→Option (St⊕LR))=>Cl hm (blk s a':Nat) e b 44 K2
       rw[show ((44:UInt8).toNat:Int)=44 from rfl] at t9
       have hbn:¬((b:Int)<0):=by omega
       refine⟨he,.mk 5 [] (ks++[t]) (vs++[v]),_,blk s a',.mk hK' hV',hb3.2,.inr ⟨[.any,.any,.own 1,.own 4],?_⟩⟩
       have step:nxt vw (jq id lvl 0 [] .nilSlice .nilSlice 5 [] K V (al m id (rdR s a (-1) 0)))=mK id lvl 0 [] .nilSlice .nilSlice 5 [] K' V' (al m id (rdR s (blk s a':Nat) b e)):=by
        generalize blk s a+1=j at *
        generalize blk s a2+1=j2 at *
        simp only[jq,go_sem,MbM hm,hneg,hge,decide_true,decide_false,ge_iff_le,e1,t1,t2,t3,t4,t5,t6,t7,t8,t9,hap,haq,hK'.isSl,af hK'.refs,bR hcKp,bR hcVp,hV'.isSl,af hV'.refs,if_true,Bool.false_eq_true,if_false]
        rfl
       rw[gf,step,gf]
       simp only[jq,go_sem,MbM hm,hbn,decide_false,Bool.false_eq_true,if_false,bxW]
      |ok v a5 =>
       simp only at h
       obtain⟨c,hc,hP,h5l⟩:=hP
       obtain⟨kk,t',CK,CV,rfl,hcK,hcV,hcKp,hcVp⟩:=hc.cells
       have t6:=fun (K2:IV→IM→Option (St⊕LR))=>ae hP (by simp[go_sem]) K2
       have t7:=fun (K2:IV→IM→Option (St⊕LR))=>Mbl (by omega) hm h5l (-1) 0 K2
       have hb3:=cz h5l
       have hadv:=((jM s n).1 _ _ _ _ hv hlt2).1
       obtain⟨V',hV',haq⟩:=hVV.app hc (by omega)
       by_cases g:s[blk s a5]?=some 125
       ·rw[if_pos g] at h
        cases h
        have t8:=fun (K2:IV→IM→Option (St⊕LR))=>Msk hm (by omega) g K2
        rw[show ((125:UInt8).toNat:Int)=125 from rfl] at t8
        refine⟨_,.mk hK' hV',?_,aZ g⟩
        rw[gf]
        generalize blk s a+1=j at *
        generalize blk s a2+1=j2 at *
        simp only[jq,go_sem,MbM hm,hneg,hge,decide_true,decide_false,ge_iff_le,e1,t1,t2,t3,t4,t5,t6,t7,t8,hap,haq,hK'.isSl,af hK'.refs,bR hcKp,bR hcVp,hV'.isSl,af hV'.refs,if_true,Bool.false_eq_true,if_false]
       ·rw[if_neg g] at h
        have t8:=fun (K2:IV→IM→Option (St⊕LR))=>C9 hm g K2
        rw[show ((125:UInt8).toNat:Int)=125 from rfl] at t8
        by_cases g2':s[blk s a5]?=some 44
        ·rw[if_pos g2'] at h
         have hlt:=aZ g2'
         have t9:=fun (K2:IV→IM→Option (St⊕LR))=>Mwa hm (by omega) g2' K2
         rw[show ((44:UInt8).toNat:Int)=44 from rfl] at t9
         have hi:=hL true lvl (blk s a5+1) _ _ K' V' _ r _ _ _ h hK' hV' (by rw[List.length_append];simp;omega) (by rw[List.length_append];simp;omega) hl0 hl1 hlt hm
         have step:nxt vw (jq id lvl 0 [] .nilSlice .nilSlice 5 [] K V (al m id (rdR s a (-1) 0)))=mK id lvl 0 [] .nilSlice .nilSlice 5 [] K' V' (al m id (rdR s (blk s a5+1:Nat) (-1) 0)):=by
          generalize blk s a+1=j at *
          generalize blk s a2+1=j2 at *
          generalize blk s a5+1=j5 at *
          simp only[jq,go_sem,MbM hm,hneg,hge,decide_true,decide_false,ge_iff_le,e1,t1,t2,t3,t4,t5,t6,t7,t8,t9,hap,haq,hK'.isSl,af hK'.refs,bR hcKp,bR hcVp,hV'.isSl,af hV'.refs,if_true,Bool.false_eq_true,if_false]
          rfl
         rw[gf,step]
         exact hi
        ·rw[if_neg g2'] at h
         cases h
         have t9:=fun (K2:IV→IM→Option (St⊕LR))=>Ee hm g2' K2
         rw[show ((44:UInt8).toNat:Int)=44 from rfl] at t9
         refine tail K' _ V' _ (blk s a5) (blk s a5) hK' hV' hb3.2 ?_
         rw[gf]
         generalize blk s a+1=j at *
         generalize blk s a2+1=j2 at *
         simp only[jq,go_sem,MbM hm,hneg,hge,decide_true,decide_false,ge_iff_le,e1,t1,t2,t3,t4,t5,t6,t7,t8,t9,hap,haq,hK'.isSl,af hK'.refs,bR hcKp,bR hcVp,hV'.isSl,af hV'.refs,if_true,Bool.false_eq_true,if_false]
         rfl
    ·rw[if_neg g2] at h
     simp only[Option.some.injEq] at h
     subst h
     have t5:=fun (K2:IV→IM→Option (St⊕LR))=>Ee hm g2 K2
     rw[show ((58:UInt8).toNat:Int)=58 from rfl] at t5
     have hb3:=cz hb2.2
     have t6:=fun (K2:IV→IM→Option (St⊕LR))=>AH (by omega) hm hb2.2 (blk s a2) 19 (lvl+1) K2
     have t7:=fun (K2:IV→IM→Option (St⊕LR))=>Mbl (by omega) hm hb3.2 (blk s a2:Nat) 19 K2
     have hb4:=cz hb3.2
     have t8:=fun (K2:IV→IM→Option (St⊕LR))=>Ec hm (blk s (blk s (blk s a2)):Nat) 19 (blk s a2) 125 K2
     rw[show ((125:UInt8).toNat:Int)=125 from rfl] at t8
     have t9:=fun (K2:IV→IM→Option (St⊕LR))=>Cl hm (blk s (blk s (blk s a2)):Nat) 19 (blk s a2) 44 K2
     rw[show ((44:UInt8).toNat:Int)=44 from rfl] at t9
     obtain⟨V',hV',haq⟩:=hVV.app mh (by omega)
     refine tail K' _ V' _ (blk s (blk s (blk s a2))) (blk s a2) hK' hV' hb4.2 ?_
     rw[gf]
     generalize blk s a+1=j at *
     simp only[jq,go_sem,MbM hm,hneg,hge,decide_true,decide_false,ge_iff_le,e1,t1,t2,t3,t4,t5,t6,t7,t8,t9,dz,hap,haq,hK'.isSl,af hK'.refs,bR hnp,hV'.isSl,af hV'.refs,if_true,Bool.false_eq_true,if_false]
     rfl
 ·rw[if_neg g1] at h
  simp only[Option.some.injEq] at h
  subst h
  have t2:=fun (K2:IV→IM→Option (St⊕LR))=>Ee hm g1 K2
  rw[show ((34:UInt8).toNat:Int)=34 from rfl] at t2
  have hbn:(0:Int)≤((blk s a:Nat):Int):=by omega
  refine⟨.inl rfl,.mk 5 [] ks vs,_,blk s a,.mk hK hVV,hba.2,.inl ?_⟩
  rw[gf]
  simp only[jq,go_sem,MbM hm,hneg,hbn,decide_true,ge_iff_le,t1,t2,af hK.refs,af hVV.refs,if_true]
end Go.Idl
namespace Go.Idl
attribute [local go_sem] uV uI gI gS bO cE bw dM dp dV dS dO cI bV cZ bZ bX dQ cM bU dN bS bg bA bj bh aQ dR dT cK cQ dP dZ cY fy dK cS dY et dL dU cH cN cP bY cJ eB bT bC b8 bW cV bm aC a7 aD c9 c8 bJ bo bF ck bG cm bH ct List.flatMap_cons List.flatMap_nil
section
variable {R:Type}{m:IM}{id:Nat}{s:List UInt8}{a0 b0 e0:Int}
theorem Mla (hm:m.get id=rdR s a0 b0 e0) (a bad e:Int) (K:Int→Option R):(gr (al m id (rdR s a bad e)) id fun l0 _=>eK false l0 1 1 fun v=>asI .i64 v K)=K a:=eN (bK hm) K
theorem Mls (hm:m.get id=rdR s a0 b0 e0) (a bad e:Int) (K:List UInt8→Option R):(gr (al m id (rdR s a bad e)) id fun l0 _=>eK false l0 0 1 fun v=>asS v K)=K s:=gN (bK hm) K
theorem Msa (hm:m.get id=rdR s a0 b0 e0) (a bad e x:Int) (K:IM→Option R):stP (al m id (rdR s a bad e)) (.pB id 1) [.int .i64 x] .any K=K (al m id (rdR s x bad e)):=by
 have h:=nx (bK (a':=a) (bad':=bad) (e':=e) hm) x K
 rwa [ah] at h
theorem Mfl (hm:m.get id=rdR s a0 b0 e0) (a at_ c:Int) (K2:IV→IM→Option R):ak cw (.f 48) [.pB id 0,.int .i64 at_,.int .i64 c] [] (al m id (rdR s a (-1) 0)) K2=K2 dz (al m id (rdR s a at_ c)):=by
 have h:=oy s a 0 at_ c id _ (bK hm) K2
 rwa [ah] at h
theorem Mwd (hm:m.get id=rdR s a0 b0 e0) (hs:s.length≤1099511627776) (w:List UInt8) (hw:w.length≤100) {a:Nat}(ha:a≤s.length) (K2:IV→IM→Option R) :
  match eS s w a with
  |.ok _ a'=>ak cw (.f 76) [.pB id 0,.str w] [] (al m id (rdR s a (-1) 0)) K2=K2 (.tup []) (al m id (rdR s a' (-1) 0))
  |.err b c=>c=19∧b≤s.length∧ak cw (.f 76) [.pB id 0,.str w] [] (al m id (rdR s a (-1) 0)) K2=K2 (.tup []) (al m id (rdR s b b c)):=by
 have h:=G6 w hw hs a ha (bK hm) K2
 cases hx:eS s w a with
 |ok u a'=>rw[hx] at h;simpa only[ah] using h
 |err b c=>rw[hx] at h;simpa only[ah] using h
end
theorem vB (s:List UInt8) (hs:s.length≤30000) (id n:Nat) (hL:HLR s id n):HIR s id (n+1):=by
 intro o lvl a m r a0 b0 e0 h hl0 hl1 ha ha1 hm
 unfold fW at h
 have hb:=cz ha
 have hnn:IV.nilSlice.refs=some 0:=rfl
 have h0:=fun (K2:IV→IM→Option (IV×IM))=>Mbl (by omega) hm ha (-1) 0 K2
 cases o with
 |false =>
  rw[show cl false=93 from rfl,show kd false=4 from rfl] at h
  simp only[Bool.false_eq_true,if_false]
  by_cases g:s[blk s a]?=some 93
  ·rw[if_pos g] at h
   cases h
   have h1:=fun (K2:IV→IM→Option (IV×IM))=>Msk hm (by omega) g K2
   rw[show ((93:UInt8).toNat:Int)=93 from rfl] at h1
   refine⟨_,.mk (.inl ⟨rfl,rfl⟩) .nil,?_,aZ g⟩
   apply pC
   generalize blk s a+1=j at *
   simp[F78,go_sem,h0,h1,aX]
  ·rw[if_neg g] at h
   have h1:=fun (K2:IV→IM→Option (IV×IM))=>C9 hm g K2
   rw[show ((93:UInt8).toNat:Int)=93 from rfl] at h1
   have hl:=hL false lvl (blk s a) [] [] .nilSlice .nilSlice m r _ _ _ h (.inl ⟨rfl,rfl⟩) .nil (by simp) (by simp) hl0 hl1 hb.2 hm
   simp only[lpR,Bool.false_eq_true,if_false] at hl
   cases r with
   |ok v a' =>
    obtain⟨c,hc,hX,hal⟩:=hl
    obtain⟨k,t,K,V,rfl,hK,hV,_,_⟩:=hc.cells
    refine⟨_,hc,?_,hal⟩
    apply pC
    simp[F78,go_sem,h0,h1,hX,hK,hV,aX]
   |err b e =>
    obtain⟨he,v,c,a',hc,hal,hX⟩:=hl
    obtain⟨k,t,K,V,rfl,hK,hV,_,_⟩:=hc.cells
    refine⟨he,v,_,a',hc,hal,?_⟩
    apply pC
    rcases hX with hX | ⟨cp,hX⟩
    ·simp[F78,go_sem,h0,h1,hX,hK,hV,aX]
    ·simp[F78,go_sem,h0,h1,hX,hK,hV,aX,bxW,af hK,af hV]
 |true =>
  rw[show cl true=125 from rfl,show kd true=5 from rfl] at h
  simp only[if_true]
  by_cases g:s[blk s a]?=some 125
  ·rw[if_pos g] at h
   cases h
   have h1:=fun (K2:IV→IM→Option (IV×IM))=>Msk hm (by omega) g K2
   rw[show ((125:UInt8).toNat:Int)=125 from rfl] at h1
   refine⟨_,.mk (.inl ⟨rfl,rfl⟩) .nil,?_,aZ g⟩
   apply qQ
   generalize blk s a+1=j at *
   simp[F79,go_sem,h0,h1,aX]
  ·rw[if_neg g] at h
   have h1:=fun (K2:IV→IM→Option (IV×IM))=>C9 hm g K2
   rw[show ((125:UInt8).toNat:Int)=125 from rfl] at h1
   have hl:=hL true lvl (blk s a) [] [] .nilSlice .nilSlice m r _ _ _ h (.inl ⟨rfl,rfl⟩) .nil (by simp) (by simp) hl0 hl1 hb.2 hm
   simp only[lpR,if_true] at hl
   cases r with
   |ok v a' =>
    obtain⟨c,hc,hX,hal⟩:=hl
    obtain⟨k,t,K,V,rfl,hK,hV,_,_⟩:=hc.cells
    refine⟨_,hc,?_,hal⟩
    apply qQ
    simp[F79,go_sem,h0,h1,hX,hK,hV,aX]
   |err b e =>
    obtain⟨he,v,c,a',hc,hal,hX⟩:=hl
    obtain⟨k,t,K,V,rfl,hK,hV,_,_⟩:=hc.cells
    refine⟨he,v,_,a',hc,hal,?_⟩
    apply qQ
    rcases hX with hX | ⟨cp,hX⟩
    ·simp[F79,go_sem,h0,h1,hX,hK,hV,aX]
    ·simp[F79,go_sem,h0,h1,hX,hK,hV,aX,bxW,af hK,af hV]
theorem KS (lvl fr n:Int) (c:UInt8) (t:List UInt8) (v v1:IV) (id:Nat) (m:IM) :
  xc id lvl fr (c.toNat:Int) n t v v1 m=some (.normal,[.pB id 0,.int .i64 lvl,.int .i64 fr,.int .u8 (c.toNat:Int),.bool (decide (c.toNat=91∨c.toNat=123))],[.cells [.int .i64 n,.str t,v,v1] [.any,.any,.own 1,.own 4]],m):=by
 have q91:((c.toNat:Int)==91)=decide (c.toNat=91):=cq c 91
 have q123:((c.toNat:Int)==123)=decide (c.toNat=123):=cq c 123
 simp only[xc,q91,q123]
 by_cases g:c.toNat=91<;>simp[go_sem,g]
theorem Kz (fr n:Int) (c:UInt8) (t:List UInt8) (v v1:IV) (id:Nat) (m:IM) :
  xB id fr (c.toNat:Int) n t v v1 m=some (.normal,[.pB id 0,.int .i64 fr,.bool (decide (c.toNat=45∨fJ c=true))],[.cells [.int .i64 n,.str t,v,v1] [.any,.any,.own 1,.own 4]],m):=by
 have q45:((c.toNat:Int)==45)=decide (c.toNat=45):=cq c 45
 have hc:=fun (K2:IV→IM→Option LR)=>ae (xM c m) (by simp[go_sem]) K2
 simp only[xB,q45,hc]
 by_cases g:c.toNat=45<;>simp[go_sem,g]
set_option maxHeartbeats 2000000 in
theorem wh (s:List UInt8) (hs:s.length≤30000) (id n:Nat) (hI:HIR s id n):HVR s id (n+1):=by
 intro lvl a m r a0 b0 e0 h hl0 hl1 ha hm
 unfold iS at h
 have hb:=cz ha
 have hnn:IV.nilSlice.refs=some 0:=rfl
 have hge:((0:Int)≤-1)=False:=by simp
 have h0:=fun (K2:IV→IM→Option (IV×IM))=>Mbl (by omega) hm ha (-1) 0 K2
 cases hq:s[blk s a]? with
 |none =>
  rw[hq] at h
  cases h
  have hle:=List.getElem?_eq_none_iff.1 hq
  have c1:(s.length:Int)≤((blk s a:Nat):Int):=by omega
  refine⟨.inl rfl,_,_,blk s a,mh,hb.2,?_⟩
  apply ew
  simp only[F46,go_sem,h0,MbM hm,hge,ge_iff_le,decide_false,Mla hm,Mls hm,c1,decide_true,Mfl hm,dz,af hnn,Bool.false_eq_true,if_false,if_true]
  simp[go_sem,aX]
 |some c =>
  rw[hq] at h
  simp only at h
  have hlt:=aZ hq
  have c1:¬(s.length:Int)≤((blk s a:Nat):Int):=by omega
  have q110:((c.toNat:Int)==110)=decide (c.toNat=110):=cq c 110
  have q116:((c.toNat:Int)==116)=decide (c.toNat=116):=cq c 116
  have q102:((c.toNat:Int)==102)=decide (c.toNat=102):=cq c 102
  have q34:((c.toNat:Int)==34)=decide (c.toNat=34):=cq c 34
  have q91:((c.toNat:Int)==91)=decide (c.toNat=91):=cq c 91
  have hw:IntKind.i64.wrap ((blk s a:Nat)+1:Int)=((blk s a+1:Nat):Int):=by rw[w64 (by omega) (by omega)];rfl
  have hix:=iP hq
  have word:∀(w:List UInt8) (k:Int) (t:List UInt8) (Y:Option (IV×IM)),w.length≤100→i6 s w (blk s a) (.mk k t [] [])=r →
    (∀(a':Nat) (b e:Int),(∀K2:IV→IM→Option (IV×IM),ak cw (.f 76) [.pB id 0,.str w] [] (al m id (rdR s (blk s a:Nat) (-1) 0)) K2=K2 (.tup []) (al m id (rdR s a' b e)))→Y=some (.agg [.int .i64 k,.str t,.nilSlice,.nilSlice],al m id (rdR s a' b e)))→Iy Y s id m r:=by
   intro w k t Y hw' hr hY
   have hx:=fun (K2:IV→IM→Option (IV×IM))=>Mwd hm (by omega) w hw' hb.2 K2
   unfold i6 at hr
   have hadv:=nD s w (blk s a)
   have hle:∀a' u,eS s w (blk s a)=.ok u a'→a'≤s.length:=by
    have hg:∀(w:List UInt8) (a a':Nat) (u:Unit),a≤s.length→eS s w a=.ok u a'→a'≤s.length:=by
     intro w
     induction w with
     |nil=>intro a a' u ha h;cases h;exact ha
     |cons x r ih =>
      intro a a' u ha h
      unfold eS at h
      split at h
      ·rename_i g;exact ih _ _ _ (aZ g) h
      ·cases h
    exact fun a' u hN=>hg w _ _ _ hb.2 hN
   cases hN:eS s w (blk s a) with
   |ok u a' =>
    simp only[hN] at hx hr
    subst hr
    exact⟨_,.mk (.inl ⟨rfl,rfl⟩) .nil,hY a' _ _ hx,hle _ _ hN⟩
   |err b e =>
    simp only[hN] at hx hr
    subst hr
    have h1:=(hx fun v m=>some (v,m)).1
    have h2:=(hx fun v m=>some (v,m)).2.1
    subst h1
    exact⟨.inl rfl,.mk k t [] [],_,b,.mk (.inl ⟨rfl,rfl⟩) .nil,h2,hY b _ _ fun K2=>(hx K2).2.2⟩
  by_cases g1:c.toNat=110
  ·rw[if_pos g1] at h
   simp only[Option.some.injEq] at h
   refine word _ 0 [] _ (by decide) h fun a' b e hcc=>?_
   apply ew
   simp only[F46,go_sem,h0,MbM hm,hge,ge_iff_le,Mla hm,Mls hm,c1,au hix,q110,g1,hcc,decide_false,decide_true,if_true,Bool.false_eq_true,if_false]
   simp[go_sem,aX]
  ·rw[if_neg g1] at h
   by_cases g2:c.toNat=116
   ·rw[if_pos g2] at h
    simp only[Option.some.injEq] at h
    refine word _ 1 _ _ (by decide) h fun a' b e hcc=>?_
    apply ew
    simp only[F46,go_sem,h0,MbM hm,hge,ge_iff_le,Mla hm,Mls hm,c1,au hix,q110,q116,g1,decide_false,decide_eq_true g2,hcc,decide_true,if_true,Bool.false_eq_true,if_false]
    simp[go_sem,aX]
   ·rw[if_neg g2] at h
    by_cases g3:c.toNat=102
    ·rw[if_pos g3] at h
     simp only[Option.some.injEq] at h
     refine word _ 1 _ _ (by decide) h fun a' b e hcc=>?_
     apply ew
     simp only[F46,go_sem,h0,MbM hm,hge,ge_iff_le,Mla hm,Mls hm,c1,au hix,q110,q116,q102,g1,g2,decide_false,decide_eq_true g3,hcc,decide_true,if_true,Bool.false_eq_true,if_false]
     simp[go_sem,aX]
    ·rw[if_neg g3] at h
     by_cases g4:c.toNat=34
     ·rw[if_pos g4] at h
      have hm2:(al m id (rdR s (blk s a+1:Nat) (-1) 0)).get id=rdR s (blk s a+1:Nat) (-1) 0:=bK hm
      cases hS:iH s n (blk s a+1) [] with
      |none=>rw[hS] at h;cases h
      |some q =>
       rw[hS] at h
       have h77:=Fq s hs id n (blk s a+1) _ q hS hlt (by omega) hm2
       cases q with
       |err b e =>
        simp only[Option.some.injEq] at h h77
        subst h
        obtain⟨rfl,a',hal,h77⟩:=h77
        simp only[ah] at h77
        have h2:=fun (K2:IV→IM→Option (IV×IM))=>ae h77 (by simp[go_sem]) K2
        refine⟨.inl rfl,.mk 3 [] [] [],_,a',.mk (.inl ⟨rfl,rfl⟩) .nil,hal,?_⟩
        apply ew
        generalize blk s a+1=j at *
        simp only[F46,go_sem,h0,MbM hm,hge,ge_iff_le,Mla hm,Mls hm,c1,au hix,q110,q116,q102,q34,g1,g2,g3,decide_false,decide_eq_true g4,hw,Msa hm,h2,decide_true,if_true,Bool.false_eq_true,if_false]
        simp[go_sem,aX]
       |ok t a' =>
        simp only[Option.some.injEq] at h h77
        subst h
        obtain⟨h77,hal,_⟩:=h77
        simp only[ah] at h77
        have h2:=fun (K2:IV→IM→Option (IV×IM))=>ae h77 (by simp[go_sem]) K2
        refine⟨_,.mk (.inl ⟨rfl,rfl⟩) .nil,?_,hal⟩
        apply ew
        generalize blk s a+1=j at *
        simp only[F46,go_sem,h0,MbM hm,hge,ge_iff_le,Mla hm,Mls hm,c1,au hix,q110,q116,q102,q34,g1,g2,g3,decide_false,decide_eq_true g4,hw,Msa hm,h2,decide_true,if_true,Bool.false_eq_true,if_false]
        simp[go_sem,aX]
     ·rw[if_neg g4] at h
      have hCb:=KS lvl (blk s a:Nat) 0 c [] .nilSlice .nilSlice id (al m id (rdR s (blk s a:Nat) (-1) 0))
      by_cases g5:c.toNat=91∨c.toNat=123
      ·rw[if_pos g5] at h
       rw[decide_eq_true g5] at hCb
       by_cases g6:lvl>40
       ·rw[if_pos g6] at h
        cases h
        refine⟨.inr rfl,_,_,blk s a,mh,hb.2,?_⟩
        apply ew
        simp only[F46,go_sem,h0,MbM hm,hge,ge_iff_le,Mla hm,Mls hm,c1,au hix,q110,q116,q102,q34,g1,g2,g3,g4,hCb,decide_false,decide_eq_true g6,Mfl hm,dz,af hnn,decide_true,if_true,Bool.false_eq_true,if_false]
        simp[go_sem,aX]
       ·rw[if_neg g6] at h
        have hi:=hI _ lvl (blk s a+1) m r _ _ _ h hl0 (by omega) hlt (by omega) hm
        by_cases g7:c.toNat=91
        ·rw[decide_eq_false (show ¬c.toNat=123 by omega)] at hi
         simp only[Bool.false_eq_true,if_false] at hi
         cases r with
         |ok v a' =>
          obtain⟨cc,hc,hX,hal⟩:=hi
          obtain⟨k,t,K,V,rfl,hK,hV,_,_⟩:=hc.cells
          have h2:=fun (K2:IV→IM→Option (IV×IM))=>ae hX (by simp[go_sem]) K2
          refine⟨_,hc,?_,hal⟩
          apply ew
          generalize blk s a+1=j at *
          simp only[F46,go_sem,h0,MbM hm,hge,ge_iff_le,Mla hm,Mls hm,c1,au hix,q110,q116,q102,q34,q91,g1,g2,g3,g4,g6,hCb,decide_false,decide_eq_true g7,hw,Msa hm,h2,af hK,af hV,decide_true,if_true,Bool.false_eq_true,if_false]
          simp[go_sem,hK,hV,aX]
         |err b e =>
          obtain⟨he,v,cc,a',hc,hal,hX⟩:=hi
          obtain⟨k,t,K,V,rfl,hK,hV,_,_⟩:=hc.cells
          have h2:=fun (K2:IV→IM→Option (IV×IM))=>ae hX (by simp[go_sem]) K2
          refine⟨he,v,_,a',hc,hal,?_⟩
          apply ew
          generalize blk s a+1=j at *
          simp only[F46,go_sem,h0,MbM hm,hge,ge_iff_le,Mla hm,Mls hm,c1,au hix,q110,q116,q102,q34,q91,g1,g2,g3,g4,g6,hCb,decide_false,decide_eq_true g7,hw,Msa hm,h2,af hK,af hV,decide_true,if_true,Bool.false_eq_true,if_false]
          simp[go_sem,hK,hV,aX]
        ·have g8:c.toNat=123:=by omega
         rw[decide_eq_true g8] at hi
         simp only[if_true] at hi
         cases r with
         |ok v a' =>
          obtain⟨cc,hc,hX,hal⟩:=hi
          obtain⟨k,t,K,V,rfl,hK,hV,_,_⟩:=hc.cells
          have h2:=fun (K2:IV→IM→Option (IV×IM))=>ae hX (by simp[go_sem]) K2
          refine⟨_,hc,?_,hal⟩
          apply ew
          generalize blk s a+1=j at *
          simp only[F46,go_sem,h0,MbM hm,hge,ge_iff_le,Mla hm,Mls hm,c1,au hix,q110,q116,q102,q34,q91,g1,g2,g3,g4,g6,g7,hCb,decide_false,hw,Msa hm,h2,af hK,af hV,decide_true,if_true,Bool.false_eq_true,if_false]
          simp[go_sem,hK,hV,aX]
         |err b e =>
          obtain⟨he,v,cc,a',hc,hal,hX⟩:=hi
          obtain⟨k,t,K,V,rfl,hK,hV,_,_⟩:=hc.cells
          have h2:=fun (K2:IV→IM→Option (IV×IM))=>ae hX (by simp[go_sem]) K2
          refine⟨he,v,_,a',hc,hal,?_⟩
          apply ew
          generalize blk s a+1=j at *
          simp only[F46,go_sem,h0,MbM hm,hge,ge_iff_le,Mla hm,Mls hm,c1,au hix,q110,q116,q102,q34,q91,g1,g2,g3,g4,g6,g7,hCb,decide_false,hw,Msa hm,h2,af hK,af hV,decide_true,if_true,Bool.false_eq_true,if_false]
          simp[go_sem,hK,hV,aX]
      ·rw[if_neg g5] at h
       rw[decide_eq_false g5] at hCb
       have hCc:=Kz (blk s a:Nat) 0 c [] .nilSlice .nilSlice id (al m id (rdR s (blk s a:Nat) (-1) 0))
       by_cases g6:c.toNat=45∨fJ c=true
       ·rw[if_pos g6] at h
        rw[decide_eq_true g6] at hCc
        have h81:=A7 s (by omega) (blk s a) hb.2 (al m id (rdR s (blk s a:Nat) (-1) 0))
        have h2:=fun (K2:IV→IM→Option (IV×IM))=>ae h81 (by simp[go_sem]) K2
        by_cases g7:(ee s (blk s a)).2=true
        ·rw[if_pos g7] at h
         cases h
         have hgt:=uA g7
         have hle:=mN (s:=s) hb.2
         rw[g7] at h2
         have hsl:=CO s (blk s a) ((ee s (blk s a)).1-blk s a) (by omega) (by omega)
         rw[show IntKind.i64.wrap (((blk s a:Nat):Int)+(((ee s (blk s a)).1-blk s a:Nat):Int))=(((ee s (blk s a)).1:Nat):Int) by rw[w64 (by omega) (by omega)];omega] at hsl
         refine⟨_,.mk (.inl ⟨rfl,rfl⟩) .nil,?_,hle⟩
         apply ew
         simp only[F46,go_sem,h0,MbM hm,hge,ge_iff_le,Mla hm,Mls hm,c1,au hix,q110,q116,q102,q34,g1,g2,g3,g4,hCb,hCc,decide_false,h2,Msa hm,au hsl,Bool.not_true,decide_true,if_true,Bool.false_eq_true,if_false]
         simp[go_sem,aX]
        ·rw[if_neg g7] at h
         cases h
         have g7':(ee s (blk s a)).2=false:=by simpa using g7
         rw[g7'] at h2
         have hle:=mN (s:=s) hb.2
         refine⟨.inl rfl,_,_,blk s a,mh,hb.2,?_⟩
         apply ew
         simp only[F46,go_sem,h0,MbM hm,hge,ge_iff_le,Mla hm,Mls hm,c1,au hix,q110,q116,q102,q34,g1,g2,g3,g4,hCb,hCc,decide_false,h2,Mfl hm,dz,af hnn,Bool.not_false,decide_true,if_true,Bool.false_eq_true,if_false]
         simp[go_sem,aX]
       ·rw[if_neg g6] at h
        rw[decide_eq_false g6] at hCc
        cases h
        refine⟨.inl rfl,_,_,blk s a,mh,hb.2,?_⟩
        apply ew
        simp only[F46,go_sem,h0,MbM hm,hge,ge_iff_le,Mla hm,Mls hm,c1,au hix,q110,q116,q102,q34,g1,g2,g3,g4,hCb,hCc,decide_false,Mfl hm,dz,af hnn,decide_true,if_true,Bool.false_eq_true,if_false]
        simp[go_sem,aX]
end Go.Idl
namespace Go.Idl
attribute [local go_sem] uV uI gI gS bO cE bw dM dp dV dS dO cI bV cZ bZ bX dQ cM bU dN bS bg bA bj bh aQ dR dT cK cQ dP dZ cY fy dK cS dY et dL dU cH cN cP bY cJ eB bT bC b8 bW cV bm aC a7 aD c9 c8 bJ bo bF ck bG cm bH ct List.flatMap_cons List.flatMap_nil
theorem p8 (s:List UInt8) (hs:s.length≤30000) (id:Nat):∀n,HVR s id n∧HIR s id n∧HLR s id n
 |0=>⟨fun _ _ _ _ _ _ _ h=>by simp[iS] at h,fun _ _ _ _ _ _ _ _ h=>by simp[fW] at h,fun _ _ _ _ _ _ _ _ _ _ _ _ h=>by simp[gg] at h⟩
 |n+1=>by
  obtain⟨h1,h2,h3⟩:=p8 s hs id n
  refine⟨wh s hs id n h2,vB s hs id n h3,?_⟩
  intro o lvl a ks vs K V m r a0 b0 e0 h hK hVV hkl hvl hl0 hl1 ha hm
  cases o with
  |false=>exact zL s hs id n h1 h3 lvl a ks vs K V m r a0 b0 e0 h hK hVV hkl hvl hl0 hl1 ha hm
  |true=>exact vd s hs id n h1 h3 lvl a ks vs K V m r a0 b0 e0 h hK hVV hkl hvl hl0 hl1 ha hm
theorem i7 (s:List UInt8) (a b e:Int) (m:IM):(bP m (rdR s a b e)).get m.size=rdR s a b e:=jd _ _
set_option maxHeartbeats 1000000 in
theorem Es (s:List UInt8) (hs:s.length≤30000) (n:Nat) (r:Rd Val) (h:iS s n 1 0=some r) (m:IM) :
  ∃c,ValR (fT s r).1 c∧cw (.f 14) [.str s] m=some (.tup [.agg c,.int .i64 ((fT s r).2.1:Nat),.int .i64 (fT s r).2.2],m):=by
 have hm0:=i7 s 0 (-1) 0 m
 have hP:=(p8 s hs m.size n).1 1 0 (bP m (rdR s 0 (-1) 0)) r _ _ _ h (by omega) (by omega) (Nat.zero_le _) hm0
 rw[show (((0:Nat):Int))=0 from rfl,ke hm0] at hP
 have c0:¬(s.length:Int)>100000:=by omega
 have hnn:IV.nilSlice.refs=some 0:=rfl
 have hge:((0:Int)≤-1)=False:=by simp
 cases r with
 |err b e =>
  obtain⟨he,v,c,a',hc,hal,hP⟩:=hP
  obtain⟨k,t,K,V,rfl,hK,hV,_,_⟩:=hc.cells
  simp only[dd] at hP
  have h1:=fun (K2:IV→IM→Option (IV×IM))=>ae hP (by simp[go_sem]) K2
  have hm1:=i7 s a' b e m
  have h2:=fun (K2:IV→IM→Option (IV×IM))=>blR s (by omega) a' hal b e m.size _ hm1 K2
  simp only[dd] at h2
  have hm2:=i7 s (blk s a':Nat) b e m
  have h3:=fun (K2:IV→IM→Option LR)=>EY s (blk s a':Nat) e (blk s a':Nat) 19 b m.size _ hm2 K2
  have hC:∀n s1 v v1 n1 s2 v2 v3,jR s m.size 0 n s1 v v1 n1 s2 v2 v3 (bP m (rdR s (blk s a':Nat) b e))=some (.normal,[.pB m.size 0],[.cells [.int .i64 n,.str s1,v,v1] [.any,.any,.own 1,.own 4],.cells [.int .i64 n1,.str s2,v2,v3] [.any,.any,.any,.any]],bP m (rdR s (blk s a':Nat) b e)):=by
   intro n s1 v v1 n1 s2 v2 v3
   by_cases g:((blk s a':Nat):Int)<(s.length:Int)
   ·simp[jR,go_sem,eN hm2,g,h3,dz,af]
   ·simp[jR,go_sem,eN hm2,g]
  have hbn:(0:Int)≤(b:Int):=by omega
  refine⟨_,mh,?_⟩
  apply mP
  simp only[rdR] at h1 h2 hC hm2
  simp only[F14,go_sem,c0,h1,h2,hC,af hK,af hV,decide_false,Bool.false_eq_true,if_false,if_true]
  rw[show (0+2:Nat)=2 from rfl,show (0+3:Nat)=3 from rfl]
  have hm3:(bP m (BObj.cells [.str s,IV.int .i64 (blk s a':Nat),.int .i64 b,.int .i64 e] [.any,.any,.any,.any])).get m.size=rdR s (blk s a':Nat) b e:=hm2
  simp[go_sem,CB hm3,de hm3,hbn,dH,fT]
 |ok v a =>
  obtain⟨c,hc,hP,hal⟩:=hP
  have hok:=(tI s hs n).1 _ _ _ _ h (Nat.zero_le _)
  obtain⟨k,t,K,V,rfl,hK,hV,_,_⟩:=hc.cells
  simp only[dd] at hP
  have h1:=fun (K2:IV→IM→Option (IV×IM))=>ae hP (by simp[go_sem]) K2
  have hm1:=i7 s a (-1) 0 m
  have h2:=fun (K2:IV→IM→Option (IV×IM))=>blR s (by omega) a hal (-1) 0 m.size _ hm1 K2
  simp only[dd] at h2
  have hm2:=i7 s (blk s a:Nat) (-1) 0 m
  have hm3:(bP m (BObj.cells [.str s,IV.int .i64 (blk s a:Nat),.int .i64 (-1),.int .i64 0] [.any,.any,.any,.any])).get m.size=rdR s (blk s a:Nat) (-1) 0:=hm2
  by_cases g:blk s a<s.length
  ·have g':((blk s a:Nat):Int)<(s.length:Int):=by omega
   have h3:=fun (K2:IV→IM→Option LR)=>oy s (blk s a:Nat) 0 (blk s a:Nat) 19 m.size _ hm2 K2
   simp only[dd] at h3
   have hC:∀n s1 v v1 n1 s2 v2 v3,jR s m.size 0 n s1 v v1 n1 s2 v2 v3 (bP m (rdR s (blk s a:Nat) (-1) 0))=some (.normal,[.pB m.size 0],[.cells [.int .i64 n,.str s1,v,v1] [.any,.any,.own 1,.own 4],.cells [.int .i64 n1,.str s2,v2,v3] [.any,.any,.any,.any]],bP m (rdR s (blk s a:Nat) (blk s a:Nat) 19)):=by
    intro n s1 v v1 n1 s2 v2 v3
    simp[jR,go_sem,eN hm2,g',h3,dz,af]
   have hbn:(0:Int)≤((blk s a:Nat):Int):=by omega
   have hm4:(bP m (BObj.cells [.str s,IV.int .i64 (blk s a:Nat),.int .i64 (blk s a:Nat),.int .i64 19] [.any,.any,.any,.any])).get m.size=rdR s (blk s a:Nat) (blk s a:Nat) 19:=i7 _ _ _ _ _
   simp only[fT,if_pos g]
   refine⟨_,mh,?_⟩
   apply mP
   simp only[rdR] at h1 h2 hC
   simp only[F14,go_sem,c0,h1,h2,hC,af hK,af hV,decide_false,Bool.false_eq_true,if_false,if_true]
   rw[show (0+2:Nat)=2 from rfl,show (0+3:Nat)=3 from rfl]
   simp[go_sem,CB hm4,de hm4,hbn,dH]
  ·have g':¬((blk s a:Nat):Int)<(s.length:Int):=by omega
   have hC:∀n s1 v v1 n1 s2 v2 v3,jR s m.size 0 n s1 v v1 n1 s2 v2 v3 (bP m (rdR s (blk s a:Nat) (-1) 0))=some (.normal,[.pB m.size 0],[.cells [.int .i64 n,.str s1,v,v1] [.any,.any,.own 1,.own 4],.cells [.int .i64 n1,.str s2,v2,v3] [.any,.any,.any,.any]],bP m (rdR s (blk s a:Nat) (-1) 0)):=by
    intro n s1 v v1 n1 s2 v2 v3
    simp[jR,go_sem,eN hm2,g']
   have h26:=CG v _ (bP m (rdR s (blk s a:Nat) (-1) 0)) hc hok
   have h4:=fun (K2:IV→IM→Option (IV×IM))=>ae h26 (by simp[go_sem,hK,hV]) K2
   simp only[fT,if_neg g]
   by_cases g2:iY v=0
   ·rw[if_neg (fun q=>q g2)]
    rw[g2] at h4
    refine⟨_,hc,?_⟩
    apply mP
    simp only[rdR] at h1 h2 hC h4
    simp only[F14,go_sem,c0,h1,h2,hC,af hK,af hV,decide_false,Bool.false_eq_true,if_false,if_true]
    rw[show (0+2:Nat)=2 from rfl,show (0+3:Nat)=3 from rfl]
    simp[go_sem,CB hm3,de hm3,h4,dH,hK,hV,af hK,af hV]
   ·rw[if_pos g2]
    have g3:(iY v != 0)=true:=by simpa using g2
    refine⟨_,mh,?_⟩
    apply mP
    simp only[rdR] at h1 h2 hC h4
    simp only[F14,go_sem,c0,h1,h2,hC,af hK,af hV,decide_false,Bool.false_eq_true,if_false,if_true]
    rw[show (0+2:Nat)=2 from rfl,show (0+3:Nat)=3 from rfl]
    simp[go_sem,CB hm3,de hm3,h4,g2,g3,dH,hK,hV,af hK,af hV]
end Go.Idl
namespace Go.Idl
attribute [local go_sem] uV uI gI gS bO cE bw dM dp dV dS dO cI bV cZ bZ bX dQ cM bU dN bS bg bA bj bh aQ dR dT cK cQ dP dZ cY fy dK cS dY et dL dU cH cN cP bY cJ eB bT bC b8 bW cV bm aC a7 aD c9 c8 bJ bo bF ck bG cm bH ct List.flatMap_cons List.flatMap_nil
theorem Kl {K:IV}{ks:List (List UInt8)}(h:SlS K ks) (hb:ks.length≤1000000) (m:IM):∃K',SlS K' ks∧cw (.f 50) [K] m=some (K',m):=by
 have hml:aK=1099511627776:=rfl
 rcases h with ⟨rfl,rfl⟩ | rfl
 ·refine⟨.nilSlice,.inl ⟨rfl,rfl⟩,?_⟩
  apply pS
  simp[F50,vo,bE,go_sem]
 ·have hp:(ks.map IV.str).all IV.plain=true:=by
   rw[List.all_eq_true]
   intro x hx
   obtain⟨s,_,rfl⟩:=List.mem_map.1 hx
   rfl
  cases ks with
  |nil =>
   refine⟨.nilSlice,.inl ⟨rfl,rfl⟩,?_⟩
   apply pS
   simp[F50,vo,bE,go_sem]
  |cons k r =>
   refine⟨.sl ((k::r).map .str) (k::r).length,.inr rfl,?_⟩
   apply pS
   have hb2:(k::r).length*16≤aK:=by omega
   have hz:((k::r).length==0)=false:=rfl
   have hN:Nat.beq ((k::r).map IV.str).length ((k::r).length*1)=true:=by simp
   simp only[F50,vo,bE,gB hp,hN,cE,if_true,hz,decide_eq_true hb2,bO,Bool.false_eq_true,if_false]
   refine bm ?_
   have hr:=SlS.refs (.inr rfl:SlS (.sl ((k::r).map .str) (k::r).length) (k::r))
   simpa[IV.refsDeep] using hr
theorem LV {row:List IV}{n i:Nat}(h:i<n):POp.ev (.indexS 1) [.sl row n,.int .i64 (i:Int)]=some (.pI row (i*1)):=by
 have c1:(0:Int)≤(i:Int):=by omega
 have c2:(i:Int)<(n:Int):=by omega
 simp[POp.ev,c1,h]
theorem H6 {K K':IV}{ks:List (List UInt8)}(h:SlS K ks) (h':SlS K' ks) (hb:ks.length≤1000000) (m:IM):cw (.f 49) [K,K'] m=some (.bool true,m):=by
 have hn:=kx h.refs (R:=IV×IM)
 have hn':=kx h'.refs (R:=IV×IM)
 have hq:=kx h.refs (R:=St⊕LR)
 have hq':=kx h'.refs (R:=St⊕LR)
 have L:∀(k i:Nat),ks.length=i+k→yi K K' i m=some (.exit 0,[],[],m):=by
  intro k
  induction k with
  |zero =>
   intro i hk
   have c1:¬(i:Int)<(ks.length:Int):=by omega
   rw[uR]
   simp[uY,go_sem,au (pe h),c1]
  |succ k ih =>
   intro i hk
   have hi:i<ks.length:=by omega
   have c1:(i:Int)<(ks.length:Int):=by omega
   have e2:IntKind.i64.wrap ((i:Int)+1)=((i+1:Nat):Int):=by rw[w64 (by omega) (by omega)];rfl
   have hg:(ks.map IV.str)[i*1]?=some (.str ks[i]):=by simp[hi]
   have g:K=.sl (ks.map .str) ks.length:=by
    rcases h with ⟨_,rfl⟩ | h
    ·simp at hi
    ·exact h
   have g':K'=.sl (ks.map .str) ks.length:=by
    rcases h' with ⟨_,rfl⟩ | h'
    ·simp at hi
    ·exact h'
   have hs:=ih (i+1) (by omega)
   have step:nxt yI (uY K K' i m)=yi K K' (i+1:Nat) m:=by
    subst g
    subst g'
    generalize i+1=j at *
    simp only[uY,go_sem,au (pe h),c1,decide_true,if_true,au (LV hi),eK,hg,dp,BEq.rfl,Bool.not_true,Bool.false_eq_true,if_false,hq,hq',e2]
    try simp[go_sem,hq,e2]
    rfl
   rw[uR,step,hs]
 have hL:=L ks.length 0 (by omega)
 rw[show ((0:Nat):Int)=0 from rfl] at hL
 apply A4
 simp[F49,go_sem,au (pe h),au (pe h'),hn,hn',hL]
def D16 (v:Val):Prop:=∀(c:List IV) (m:IM),ValR v c→okV v→∃c',ValR v c'∧cw (.f 16) [.agg c] m=some (.agg c',m)
theorem H2 (vs:List Val) (row:List IV) (hr:RowR vs row) (hok:okL vs) (hn:vs.length≤1000000) (ih:∀v,v∈vs→D16 v) (k:Int) (t:List UInt8) (K:IV) (m:IM):∀(j i:Nat) (V:IV),vs.length=i+j→SlV V (vs.take i) →
  ∃V',SlV V' vs∧yr (.sl row vs.length) vs.length i 0 [] .nilSlice .nilSlice k t K V m=some (.exit 0,[],[bxW 0 [],.cells [.int .i64 k,.str t,K,V'] [.any,.any,.any,.own 4]],m):=by
 have hml:aK=1099511627776:=rfl
 intro j
 induction j with
 |zero =>
  intro i V hk hV
  have c1:¬(i:Int)<(vs.length:Int):=by omega
  rw[List.take_of_length_le (by omega)] at hV
  refine⟨V,hV,?_⟩
  rw[rl]
  simp[wH,go_sem,c1,bxW]
 |succ j ihj =>
  intro i V hk hV
  have hi:i<vs.length:=by omega
  have c1:(i:Int)<(vs.length:Int):=by omega
  have e2:IntKind.i64.wrap ((i:Int)+1)=((i+1:Nat):Int):=by rw[w64 (by omega) (by omega)];rfl
  obtain⟨c,hc,hcut⟩:=hr.get i hi
  have hv:vs[i]∈vs:=List.getElem_mem hi
  obtain⟨c',hc',hcall⟩:=ih _ hv c m hc (hok.mem hv)
  obtain⟨a,t1,K1,V1,rfl,hK,hV1,_,_⟩:=hc.cells
  obtain⟨a',t2,K2,V2,rfl,hK2,hV2,hKp,hVp⟩:=hc'.cells
  have hcc:=fun (K2:IV→IM→Option (St⊕LR))=>ae hcall (by simp[go_sem,hK,hV1]) K2
  obtain⟨V',hV',hap⟩:=hV.app hc' (by rw[List.length_take];omega)
  have hV'':SlV V' (vs.take (i+1)):=by rw[List.take_succ_eq_append_getElem hi];exact hV'
  obtain⟨W,hW,hL⟩:=ihj (i+1) V' (by omega) hV''
  refine⟨W,hW,?_⟩
  rw[rl,←hL]
  generalize i+1=i2 at *
  simp only[wH,go_sem,c1,decide_true,if_true,au (zS hi),gF hcut,af hK,af hV1,hcc,bR hKp,bR hVp,hap,hV'.isSl,af hV'.refs,fS,e2]
  rfl
theorem EJ (v:Val):D16 v:=by
 obtain⟨k,t,ks,vs⟩:=v
 intro c m hc hok
 have ih:∀v,v∈vs→D16 v:=fun v hv=>by
  have:SizeOf.sizeOf v<SizeOf.sizeOf vs:=List.sizeOf_lt_of_mem hv
  exact EJ v
 cases hc with
 | @mk _ _ _ _ K V hK hV =>
  cases hok with
  |mk h1 h2 h3 h4 h5 =>
   obtain⟨K',hK',h50⟩:=Kl hK h2 m
   have hcell:K.cells=[K]:=by rcases hK with ⟨rfl,_⟩ | rfl<;>rfl
   have h50c:=fun (K2:IV→IM→Option (IV×IM))=>ae h50 (by simp[go_sem,hcell,hK.refs]) K2
   have hone:∀(X:Option (IV×IM)),BP K' X=X:=fun X=>by rcases hK' with ⟨rfl,_⟩ | rfl<;>rfl
   have hlen:=hV.len
   have hnl:=kx hV.refs (R:=IV×IM)
   cases hV with
   |nil =>
    refine⟨_,.mk hK' .nil,?_⟩
    apply vf
    have hL:yr .nilSlice 0 0 0 [] .nilSlice .nilSlice k t K' .nilSlice m=some (.exit 0,[],[bxW 0 [],.cells [.int .i64 k,.str t,K',.nilSlice] [.any,.any,.any,.own 4]],m):=by
     rw[rl]
     simp[wH,go_sem,bxW]
    simp only[F16,af hK.refs,af (v:=.nilSlice) rfl,h50c,hone,af hK'.refs,au hlen,bw,hnl,show (((([]:List Val).length:Nat)):Int)=0 from rfl,hL,bxW]
    simp[go_sem,af hK'.refs,hK'.refs]
    rfl
   | @sl _ row n hr hn =>
    subst hn
    obtain⟨V',hV',hL⟩:=H2 vs row hr h4 h5 ih k t K' m vs.length 0 .nilSlice (by omega) (by rw[List.take_zero];exact .nil)
    rw[show ((0:Nat):Int)=0 from rfl] at hL
    refine⟨_,.mk hK' hV',?_⟩
    apply vf
    simp only[F16,af hK.refs,af (SlV.refs (.sl hr rfl)),h50c,hone,af hK'.refs,au hlen,bw,hnl,hL,bxW]
    simp[go_sem,af hK'.refs,af hV'.refs,hK'.refs,hV'.refs]
termination_by SizeOf.sizeOf v
decreasing_by simp_wf;omega
def S15 (v:Val):Prop:=∀(c c':List IV) (m:IM),ValR v c→ValR v c'→okV v→cw (.f 15) [.agg c,.agg c'] m=some (.bool true,m)
theorem GL (vs:List Val) (hok:okL vs) (hn:vs.length≤1000000) (ih:∀v,v∈vs→S15 v) (k:Int) (t:List UInt8) (K K' V V':IV) (hV:SlV V vs) (hV':SlV V' vs) (m:IM):∀(j i:Nat),vs.length=i+j →
  Ah i k t K V k t K' V' m=some (.exit 0,[],[],m):=by
 intro j
 induction j with
 |zero =>
  intro i hk
  have c1:¬(i:Int)<(vs.length:Int):=by omega
  rw[wm]
  simp[yT,go_sem,au hV.len,c1]
 |succ j ihj =>
  intro i hk
  have hi:i<vs.length:=by omega
  have c1:(i:Int)<(vs.length:Int):=by omega
  have e2:IntKind.i64.wrap ((i:Int)+1)=((i+1:Nat):Int):=by rw[w64 (by omega) (by omega)];rfl
  have hlen:=hV.len
  have hs:=ihj (i+1) (by omega)
  cases hV with
  |nil=>simp at hi
  | @sl _ row _ hr h1 =>
   subst h1
   cases hV' with
   |nil=>simp at hi
   | @sl _ row' _ hr' h1 =>
    subst h1
    obtain⟨c,hc,hcut⟩:=hr.get i hi
    obtain⟨c',hc',hcut'⟩:=hr'.get i hi
    have hv:vs[i]∈vs:=List.getElem_mem hi
    have hcall:=ih _ hv c c' m hc hc' (hok.mem hv)
    obtain⟨a1,t1,K1,V1,rfl,hK1,hV1,_,_⟩:=hc.cells
    obtain⟨a2,t2,K2,V2,rfl,hK2,hV2,_,_⟩:=hc'.cells
    have hcc:=fun (Q:IV→IM→Option (St⊕LR))=>ae hcall (by simp[go_sem,hK1,hV1,hK2,hV2]) Q
    rw[wm,←hs]
    generalize i+1=i2 at *
    simp only[yT,go_sem,au hlen,c1,decide_true,if_true,au (zS hi),gF hcut,gF hcut',hcc,Bool.not_true,Bool.false_eq_true,if_false,e2]
    rfl
theorem Ca (v:Val):S15 v:=by
 obtain⟨k,t,ks,vs⟩:=v
 intro c c' m hc hc' hok
 have ih:∀v,v∈vs→S15 v:=fun v hv=>by
  have:SizeOf.sizeOf v<SizeOf.sizeOf vs:=List.sizeOf_lt_of_mem hv
  exact Ca v
 cases hc with
 | @mk _ _ _ _ K V hK hV =>
  cases hc' with
  | @mk _ _ _ _ K' V' hK' hV' =>
   cases hok with
   |mk h1 h2 h3 h4 h5 =>
    have h49:=H6 hK hK' h2 m
    have hcell:K.cells=[K]:=by rcases hK with ⟨rfl,_⟩ | rfl<;>rfl
    have hcell':K'.cells=[K']:=by rcases hK' with ⟨rfl,_⟩ | rfl<;>rfl
    have h49c:=fun (Q:IV→IM→Option LR)=>ae h49 (by simp[go_sem,hcell,hcell',hK.refs,hK'.refs]) Q
    have hL:=GL vs h4 h5 ih k t K K' V V' hV hV' m vs.length 0 (by omega)
    rw[show ((0:Nat):Int)=0 from rfl] at hL
    apply AB
    simp only[F15,Ac,go_sem,af hK.refs,af hV.refs,af hK'.refs,af hV'.refs,bne_self_eq_false,BEq.rfl,Bool.not_true,Bool.false_eq_true,if_false,h49c,au hV.len,au hV'.len,hL]
    try simp[go_sem]
termination_by SizeOf.sizeOf v
decreasing_by simp_wf;omega
end Go.Idl
namespace Go.Idl
theorem sQ (s:List UInt8):∀(n a:Nat) (acc:List UInt8),1≤n→s.length<a+n→∃r,iH s n a acc=some r:=by
 intro n
 induction n with
 |zero=>intro a acc h;omega
 |succ n ih =>
  intro a acc _ h
  unfold iH
  cases hq:s[a]? with
  |none=>exact⟨_,rfl⟩
  |some c =>
   have hlt:=aZ hq
   simp only
   split
   ·exact⟨_,rfl⟩
   ·split
    ·exact⟨_,rfl⟩
    ·split
     ·cases hE:oR s (a+1) with
      |err b e=>exact⟨_,rfl⟩
      |ok x a' =>
       have:=qy hE
       exact ih a' _ (by omega) (by omega)
     ·split
      ·rename_i g
       have:=jn (s.drop a) g
       exact ih _ _ (by omega) (by omega)
      ·exact⟨_,rfl⟩
theorem zA (s:List UInt8) (n:Nat) (o:Bool) (a:Nat) (ha:a≤s.length) (hn:1≤n) (h:s.length<a+1+n):∃r,oT s n o a=some r:=by
 have hb:=cz ha
 unfold oT
 split
 ·split
  ·obtain⟨q,hq⟩:=sQ s n (blk s a+1) [] hn (by omega)
   rw[hq]
   cases q with
   |err b c=>exact⟨_,rfl⟩
   |ok t a2 =>
    simp only
    split<;>exact⟨_,rfl⟩
  ·exact⟨_,rfl⟩
 ·exact⟨_,rfl⟩
theorem zP (s:List UInt8):∀n,(∀lvl a,a≤s.length→3*s.length+1≤3*a+n→∃r,iS s n lvl a=some r)∧(∀o lvl a,a≤s.length→3*s.length+3≤3*a+n→∃r,fW s n o lvl a=some r)∧(∀o lvl a ks vs,a≤s.length→3*s.length+2≤3*a+n→∃r,gg s n o lvl a ks vs=some r):=by
 intro n
 induction n with
 |zero=>exact⟨fun _ a h1 h2=>by omega,fun _ _ a h1 h2=>by omega,fun _ _ a _ _ h1 h2=>by omega⟩
 |succ n ih =>
  obtain⟨i1,i2,i3⟩:=ih
  refine⟨?_,?_,?_⟩
  ·intro lvl a ha h
   have hb:=cz ha
   unfold iS
   cases hq:s[blk s a]? with
   |none=>exact⟨_,rfl⟩
   |some c =>
    have hlt:=aZ hq
    simp only
    split
    ·exact⟨_,rfl⟩
    ·split
     ·exact⟨_,rfl⟩
     ·split
      ·exact⟨_,rfl⟩
      ·split
       ·obtain⟨q,hq⟩:=sQ s n (blk s a+1) [] (by omega) (by omega)
        rw[hq]
        cases q<;>exact⟨_,rfl⟩
       ·split
        ·split
         ·exact⟨_,rfl⟩
         ·exact i2 _ _ _ (by omega) (by omega)
        ·split
         ·split<;>exact⟨_,rfl⟩
         ·exact⟨_,rfl⟩
  ·intro o lvl a ha h
   have hb:=cz ha
   unfold fW
   split
   ·exact⟨_,rfl⟩
   ·exact i3 _ _ _ _ _ hb.2 (by omega)
  ·intro o lvl a ks vs ha h
   unfold gg
   obtain⟨q,hq⟩:=zA s n o a ha (by omega) (by omega)
   rw[hq]
   cases q with
   |err b e=>exact⟨_,rfl⟩
   |ok k a4 =>
    have hk:=qh hq ha
    obtain⟨q,hv⟩:=i1 (lvl+1) a4 hk.2 (by omega)
    simp only[hv]
    cases q with
    |err b e=>exact⟨_,rfl⟩
    |ok v a5 =>
     have hv5:=(jM s n).1 _ _ _ _ hv hk.2
     have hb5:=cz hv5.2
     simp only
     split
     ·exact⟨_,rfl⟩
     ·split
      ·rename_i g
       exact i3 _ _ _ _ _ (aZ g) (by omega)
      ·exact⟨_,rfl⟩
theorem zi (s:List UInt8) (hs:s.length≤30000) (n:Nat) (r:Rd Val) (h:iS s n 1 0=some r):okV (fT s r).1:=by
 have hz:okV (.mk 0 [] [] []):=.mk (by simp) (by simp) (by simp) .nil (by simp)
 cases r with
 |err b e=>exact hz
 |ok v a =>
  have hok:=(tI s hs n).1 _ _ _ _ h (Nat.zero_le _)
  simp only[fT]
  split
  ·exact hz
  ·split
   ·exact hz
   ·exact hok
end Go.Idl
namespace Go.Idl
attribute [local go_sem] uV uI gI gS bO cE bw dM dp dV dS dO cI bV cZ bZ bX dQ cM bU dN bS bg bA bj bh aQ dR dT cK cQ dP dZ cY fy dK cS dY et dL dU cH cN cP bY cJ eB bT bC b8 bW cV bm aC a7 aD c9 c8 bJ bo bF ck bG cm bH ct List.flatMap_cons List.flatMap_nil
theorem LJ (s:List UInt8):cw (.f 4) [.str s] ⟨[],0⟩=some (.bool true,⟨[],0⟩):=by
 have h9:=fun (Q:IV→IM→Option (IV×IM))=>ae (Kv s ⟨[],0⟩) (by simp[go_sem]) Q
 have h10:=fun (Q:IV→IM→Option (IV×IM))=>ae Bm (by simp[go_sem]) Q
 have h10':=fun (Q:IV→IM→Option LR)=>ae Bm (by simp[go_sem]) Q
 apply DA
 by_cases hl:s.length≤1200
 ·obtain⟨r,hr⟩:=(zP s (3*s.length+1)).1 1 0 (Nat.zero_le _) (by omega)
  obtain⟨c1,hc1,h13⟩:=DR s (by omega) _ r hr ⟨[],0⟩
  obtain⟨c2,hc2,h14⟩:=Es s (by omega) _ r hr ⟨[],0⟩
  have hok:=zi s (by omega) _ r hr
  obtain⟨c3,hc3,h16⟩:=EJ _ c1 ⟨[],0⟩ hc1 hok
  have h15:=Ca _ c3 c2 ⟨[],0⟩ hc3 hc2 hok
  generalize fT s r=p at *
  obtain⟨v,off,e⟩:=p
  simp only at *
  obtain⟨k1,t1,K1,V1,rfl,hK1,hV1,_,_⟩:=hc1.cells
  obtain⟨k2,t2,K2,V2,rfl,hK2,hV2,_,_⟩:=hc2.cells
  obtain⟨k3,t3,K3,V3,rfl,hK3,hV3,_,_⟩:=hc3.cells
  have q13:=fun (Q:IV→IM→Option (IV×IM))=>ae h13 (by simp[go_sem]) Q
  have q14:=fun (Q:IV→IM→Option (IV×IM))=>ae h14 (by simp[go_sem]) Q
  have q16:=fun (Q:IV→IM→Option LR)=>ae h16 (by simp[go_sem,hK1,hV1]) Q
  have q15:=fun (Q:IV→IM→Option LR)=>ae h15 (by simp[go_sem,hK3,hV3,hK2,hV2]) Q
  simp[F4,FE,go_sem,h9,hl,q13,q14,q16,q15,h10',af hK1,af hV1,af hK2,af hV2]
 ·simp[F4,go_sem,h9,hl,h10]
end Go.Idl
