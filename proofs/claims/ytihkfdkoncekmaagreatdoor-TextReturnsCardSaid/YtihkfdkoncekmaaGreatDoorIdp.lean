/- This text proves what the interpreter returns at the functions that TextReturns reaches, first part; it has no conditions. -/
import Derived.Test.YtihkfdkoncekmaaGreatDoorIdo
import Derived.Test.YtihkfdkoncekmaaGreatDoorIdl
import Derived.Test.YtihkfdkoncekmaaGreatDoorIdn
set_option linter.unusedSimpArgs false
set_option linter.unusedVariables false
namespace Go.Idl
attribute [local go_sem] bM bL gI gS bg bO bV cr ct cD cH cG bA bc bN ba bb cE bw aZ cJ aX aE aO aG aF aA cM cA bF bG cN cO bH dS cQ bI cS cP cU cK bE bB bC aY bD cI a6 aP a8 a7 bJ av aB aV aD dt dq bQ bk bS cx bP cu bR cy List.flatMap_cons List.flatMap_nil
inductive dL where
 |mk (k:Int) (t:List UInt8) (ks:List (List UInt8)) (vs:List dL)
 deriving Inhabited
mutual
inductive gh:dL→List IV→Prop
 |mk {k:Int}{t:List UInt8}{ks:List (List UInt8)}{vs:List dL}{K V:IV}:mU K ks→mL V vs→gh (.mk k t ks vs) [.int .i64 k,.str t,K,V]
inductive mL:IV→List dL→Prop
 |nil:mL .aa []
 |sl {vs:List dL}{row:List IV}{n:Nat}:nX vs row→n=vs.length→mL (.sl row n) vs
inductive nX:List dL→List IV→Prop
 |nil:nX [] []
 |cons {v:dL}{vs:List dL}{c r:List IV}:gh v c→nX vs r→nX (v::vs) (c++r)
end
theorem gh.len {v:dL}{c:List IV}(h:gh v c):c.length=4:=by cases h;rfl
theorem nX.len:∀{vs:List dL}{r:List IV},nX vs r→r.length=4*vs.length
 |_,_,.nil=>rfl
 |_,_,.cons hv hr=>by rw[List.length_append,hv.len,hr.len,List.length_cons];omega
theorem nX.get:∀{vs:List dL}{r:List IV},nX vs r→∀(i:Nat) (h:i<vs.length),∃c,gh vs[i] c∧cut r (i*4) 4=some c
 |_,_,.nil,i,h=>by simp at h
 |_,_,.cons (v:=v) (vs:=vs) (c:=c) (r:=r) hv hr,i,h=>by
  cases i with
  |zero =>refine⟨c,hv,?_⟩;have:=hv.len;simp[cut,this]
  |succ i =>
   obtain⟨d,h1,h2⟩:=hr.get i (by simpa using h);refine⟨d,h1,?_⟩;have:=hv.len;unfold cut at h2 ⊢;split at h2
   ·rename_i hl;rw[if_pos (by rw[List.length_append];omega),List.drop_append];have e:(i+1)*4-c.length=i*4:=by omega
    have e2:c.drop ((i+1)*4)=[]:=List.drop_eq_nil_iff.2 (by omega);rw[e,e2];exact h2
   ·cases h2
theorem mU.refs {K:IV}{ks:List (List UInt8)}(h:mU K ks):K.refs=some 0:=by rcases h with ⟨rfl,_⟩ | rfl<;>rfl
theorem mU.plain {K:IV}{ks:List (List UInt8)}(h:mU K ks):K.plain=true:=by rcases h with ⟨rfl,_⟩ | rfl<;>rfl
theorem mL.refs {K:IV}{ks:List dL}(h:mL K ks):K.refs=some 0:=by cases h<;>rfl
theorem mL.plain {K:IV}{ks:List dL}(h:mL K ks):K.plain=true:=by cases h<;>rfl
theorem mL.Yn {V:IV}{vs:List dL}(h:mL V vs):OY V vs.length:=by
 cases h with
 |nil=>exact .inl ⟨rfl,rfl⟩
 |sl hr hn=>exact .inr ⟨_,by rw[hn]⟩
theorem mL.len {V:IV}{vs:List dL}(h:mL V vs):dW.ev .ay [V]=some (.int .i64 (vs.length:Int)):=MV h.Yn
mutual
inductive sk:dL→Prop
 |mk {k:Int}{t:List UInt8}{ks:List (List UInt8)}{vs:List dL}:t.length≤140737488355328→ks.length≤1000000→(∀s,s∈ks→s.length≤140737488355328)→Bx vs→vs.length≤1000000→sk (.mk k t ks vs)
inductive Bx:List dL→Prop
 |nil:Bx []
 |cons {v:dL}{vs:List dL}:sk v→Bx vs→Bx (v::vs)
end
mutual
def gB:dL→Int→Int→Int×Int
 |.mk k t ks vs,lvl,left=>if left=0 then (5,left) else if lvl>40 then (21,left-1) else
   if oc k t ks vs.length≠0 then (oc k t ks vs.length,left-1) else gU vs (lvl+1) (left-1)
def gU:List dL→Int→Int→Int×Int
 |[],_,left=>(0,left)
 |v::vs,lvl,left=>if (gB v lvl left).1≠0 then gB v lvl left else gU vs lvl (gB v lvl left).2
end
mutual
theorem FP:∀(v:dL) (lvl left:Int),0≤left→0≤(gB v lvl left).2∧(gB v lvl left).2≤left
 |.mk k t ks vs,lvl,left,h=>by
  unfold gB;by_cases h0:left=0
  ·rw[if_pos h0];exact⟨h,Int.le_refl _⟩
  ·rw[if_neg h0];by_cases h1:lvl>40
   ·rw[if_pos h1];exact⟨by simp only;omega,by simp only;omega⟩
   ·rw[if_neg h1];by_cases h2:oc k t ks vs.length≠0
    ·rw[if_pos h2];exact⟨by simp only;omega,by simp only;omega⟩
    ·rw[if_neg h2];have:=pn vs (lvl+1) (left-1) (by omega);omega
theorem pn:∀(vs:List dL) (lvl left:Int),0≤left→0≤(gU vs lvl left).2∧(gU vs lvl left).2≤left
 |[],lvl,left,h=>⟨h,Int.le_refl _⟩
 |v::vs,lvl,left,h=>by
  unfold gU;have h1:=FP v lvl left h;by_cases h2:(gB v lvl left).1≠0
  ·rw[if_pos h2];exact h1
  ·rw[if_neg h2];have:=pn vs lvl (gB v lvl left).2 h1.1;omega
end
def Ca (n:Int):aS:=.cells [.int .i64 n] [.any]
theorem ae {R:Type}{c:Callee}{vs:List IV}{m m':IM}{v:IV}(h:cw c vs m=some (v,m')) (hr:(aC (vs.flatMap IV.cells)).isSome=true) (K:IV→IM→Option R):an cw c vs [] m K=K v m':=Jq h hr K
theorem gh.cells {v:dL}{c:List IV}(h:gh v c):∃k t K V,c=[.int .i64 k,.str t,K,V]∧K.refs=some 0∧V.refs=some 0∧K.plain=true∧V.plain=true:=by
 cases h with
 |mk hK hV=>exact⟨_,_,_,_,rfl,hK.refs,hV.refs,hK.plain,hV.plain⟩
theorem ur {row:List IV}{n i:Nat}(h:i<n):dW.ev (.aw 4) [.sl row n,.int .i64 (i:Int)]=some (.pI row (i*4)):=by
 have c1:(i:Int)<(n:Int):=by omega
 have c2:(0:Int)≤(i:Int):=by omega
 simp[dW.ev,c1,c2]
def Wy (v:dL):Prop:=∀(c:List IV) (lvl left:Int) (id:Nat) (m:IM),gh v c→sk v→0≤lvl→lvl≤41→0≤left→left≤1000000→m.get id=Ca left →
  cw (.f 54) [.agg c,.int .i64 lvl,.pB id 0] m=some (.int .i64 (gB v lvl left).1,aW m id (Ca (gB v lvl left).2))
theorem Bx.mem {vs:List dL}(h:Bx vs) {v:dL}(hv:v∈vs):sk v:=by
 induction vs with
 |nil=>cases hv
 |cons a r ih=>cases h with | cons h1 h2=>rcases List.mem_cons.1 hv with rfl | hv;exact h1;exact ih h2 hv
theorem RG (vs:List dL) (row:List IV) (hr:nX vs row) (hok:Bx vs) (hn:vs.length≤140737488355328) (ih:∀v,v∈vs→Wy v) (lvl:Int) (id:Nat) (hl0:0≤lvl) (hl1:lvl≤40):∀(k i:Nat) (left:Int) (m:IM),vs.length=i+k→0≤left→left≤1000000→m.get id=Ca left →
  IY lvl id (.sl row vs.length) vs.length i m=some (if (gU (vs.drop i) (lvl+1) left).1=0 then (.exit 0,[],[],aW m id (Ca (gU (vs.drop i) (lvl+1) left).2)) else (.ret,[.int .i64 (gU (vs.drop i) (lvl+1) left).1],[],aW m id (Ca (gU (vs.drop i) (lvl+1) left).2))):=by
 intro k
 induction k with
 |zero =>
  intro i left m hk hf0 hf1 hm;have e:vs.drop i=[]:=List.drop_eq_nil_iff.2 (by omega);have c1:¬(i:Int)<(vs.length:Int):=by omega
  rw[e,vH];simp[BA,go_sem,c1,gU,nw hm (rH hm)]
 |succ k ihk =>
  intro i left m hk hf0 hf1 hm;have hi:i<vs.length:=by omega
  have c1:(i:Int)<(vs.length:Int):=by omega
  obtain⟨c,hc,hcut⟩:=hr.get i hi;have hv:vs[i]∈vs:=List.getElem_mem hi;have hcall:=ih _ hv c (lvl+1) left id m hc (hok.mem hv) (by omega) (by omega) hf0 hf1 hm;have hle:=FP vs[i] (lvl+1) left hf0;have e1:IntKind.i64.wrap (lvl+1)=lvl+1:=w64 (by omega) (by omega);have e2:IntKind.i64.wrap ((i:Int)+1)=((i+1:Nat):Int):=by rw[w64 (by omega) (by omega)];rfl
  have hm':(aW m id (Ca (gB vs[i] (lvl+1) left).2)).get id=Ca (gB vs[i] (lvl+1) left).2:=lX (rH hm) _;have hstep:=ihk (i+1) (gB vs[i] (lvl+1) left).2 (aW m id (Ca (gB vs[i] (lvl+1) left).2)) (by omega) hle.1 (by omega) hm';rw[az] at hstep;rw[List.drop_eq_getElem_cons hi];obtain⟨a,t,K,V,rfl,hK,hV,hKp,hVp⟩:=hc.cells;have hcc:=fun (K2:IV→IM→Option (St⊕LR))=>ae hcall (by simp[go_sem,hK,hV]) K2;rw[vH];generalize vs[i]=x at *;by_cases g:(gB x (lvl+1) left).1=0
  ·have hc0:gU (x::vs.drop (i+1)) (lvl+1) left=gU (vs.drop (i+1)) (lvl+1) (gB x (lvl+1) left).2:=by rw[gU,if_neg (fun h=>h g)]
   rw[hc0,←hstep];simp only[BA,go_sem,c1,decide_true,if_true,au (ur hi),gi hcut,af hK,af hV,e1,hcc,g,e2,dk,bne_self_eq_false,Bool.false_eq_true,if_false];rfl
  ·have g':((gB x (lvl+1) left).1 != 0)=true:=by simpa using g
   have hc0:gU (x::vs.drop (i+1)) (lvl+1) left=gB x (lvl+1) left:=by rw[gU,if_pos g]
   rw[hc0,if_neg g];simp only[BA,go_sem,c1,decide_true,if_true,au (ur hi),gi hcut,af hK,af hV,e1,hcc,g']
theorem FN (v:dL):Wy v:=by
 intro c lvl left id m hR hO hl0 hl1 hf0 hf1 hm
 match v,hR,hO with
 |.mk k t ks vs,.mk (K:=K) (V:=V) hK hV,.mk h1 h2 h3 h4 h5 =>
  have hlt:id<m.size:=rH hm;have ih:∀x,x∈vs→Wy x:=fun x hx=>FN x;unfold gB;apply Iz;unfold Yd;rw[af hK.refs,af hV.refs];simp only[Ca] at hm ⊢;by_cases g0:left=0
  ·subst g0;have:aW m id (.cells [.int .i64 0] [.any])=m:=nw hm hlt;simp[go_sem,f8 hm,dD,this,av]
  ·have g0':(left==0)=false:=by simpa using g0
   have hw:IntKind.i64.wrap (left-1)=left-1:=w64 (by omega) (by omega);have hst:=fun (K:IM→Option (IV×IM))=>kE (m:=m) (id:=id) (off:=0) (vs:=[.int .i64 (left-1)]) (c:=.any) hm (r:=0) rfl (Nat.zero_le _) (Nat.le_refl _) K;rw[show over [IV.int .i64 left] 0 [.int .i64 (left-1)]=[.int .i64 (left-1)] from rfl,show bh [cV.any] 0 [IV.int .i64 (left-1)].length .any=[.any] from rfl] at hst;by_cases g1:lvl>40
   ·simp[go_sem,f8 hm,dD,g0,g0',hw,hst,g1,aB]
   ·have h84:=Q8 k t K V ks vs.length hK hV.Yn h1 (by omega) h3 (aW m id (.cells [.int .i64 (left-1)] [.any]));have hc:=fun (K2:IV→IM→Option (IV×IM))=>ae h84 (by simp[vc,go_sem,hK.refs,hV.refs]) K2;simp only[vc] at hc;by_cases g2:oc k t ks vs.length=0
    ·have hm':(aW m id (Ca (left-1))).get id=Ca (left-1):=lX hlt _;have hle:=pn vs (lvl+1) (left-1) (by omega);rw[if_neg g0,if_neg g1,if_neg (fun h=>h g2)]
     cases hV with
     |nil =>have g2:oc k t ks 0=0:=g2;simp[go_sem,f8 hm,dD,g0,g0',hw,hst,g1,hc,g2,aB,au,dk,dW.ev,vH,BA,gU,fq]
     |sl hr hn =>
      subst hn;have hL:=RG vs _ hr h4 (by omega) ih lvl id hl0 (by omega) vs.length 0 (left-1) (aW m id (Ca (left-1))) (by omega) (by omega) (by omega) hm';rw[az,List.drop_zero] at hL;simp only[Ca] at hL;rw[show ((0:Nat):Int)=0 from rfl] at hL;have hlen:∀row,dW.ev .ay [.sl row vs.length]=some (.int .i64 (vs.length:Int)):=fun _=>rfl;by_cases g3:(gU vs (lvl+1) (left-1)).1=0
      ·rw[if_pos g3] at hL;simp[go_sem,f8 hm,dD,g0,g0',hw,hst,g1,hc,g2,aB,au (hlen _),dk,hL,g3]
      ·rw[if_neg g3] at hL;simp[go_sem,f8 hm,dD,g0,g0',hw,hst,g1,hc,g2,aB,au (hlen _),dk,hL]
    ·have g2':(oc k t ks vs.length != 0)=true:=by simpa using g2
     rw[if_neg g0,if_neg g1,if_pos g2];simp[go_sem,f8 hm,dD,g0,g0',hw,hst,g1,hc,g2,g2',aB]
termination_by SizeOf.sizeOf v
decreasing_by
 have:=List.sizeOf_lt_of_mem hx
 simp_wf
 omega
def ia (v:dL):Int:=(gB v 1 2000).1
theorem ru (v:dL) (c:List IV) (m:IM) (hR:gh v c) (hO:sk v):cw (.f 25) [.agg c] m=some (.int .i64 (ia v),m):=by obtain⟨k,t,K,V,rfl,hK,hV,hKp,hVp⟩:=hR.cells;apply It;have h:=FN v _ 1 2000 m.size (bZ m (Ca 2000)) hR hO (by omega) (by omega) (by omega) (by omega) (gW _ _);have hc:=fun (K2:IV→IM→Option (IV×IM))=>ae h (by simp[go_sem,hK,hV]) K2;simp only[Ca,fo] at hc;have hst:=fun (K2:IM→Option (IV×IM))=>kE (m:=bZ m (Ca 0)) (id:=m.size) (off:=0) (vs:=[.int .i64 2000]) (c:=.any) (gW _ _) (r:=0) rfl (Nat.zero_le _) (Nat.le_refl _) K2;rw[fo,show over [IV.int .i64 0] 0 [.int .i64 2000]=[.int .i64 2000] from rfl,show bh [cV.any] 0 [IV.int .i64 2000].length .any=[.any] from rfl] at hst;simp only[Ca] at hst;simp[X8,go_sem,af hK,af hV,hst,hc,jL,ia]
def dw (s:List UInt8) (a bad e:Int):aS:=.cells [.int .i64 a,.int .i64 bad,.int .i64 e,.str s] [.any,.any,.any,.any]
section
variable {R:Type}{m:IM}{id:Nat}{s:List UInt8}{a bad e:Int}
theorem gD (h:m.get id=dw s a bad e) (K:Int→Option R):(gH m id fun l0 _=>eV false l0 0 1 fun v=>fG .i64 v K)=K a:=by rw[f8 h];simp[eV,bV]
theorem AL (h:m.get id=dw s a bad e) (K:Int→Option R):(gH m id fun l0 _=>eV false l0 1 1 fun v=>fG .i64 v K)=K bad:=by rw[f8 h];simp[eV,bV]
theorem kh (h:m.get id=dw s a bad e) (K:Int→Option R):(gH m id fun l0 _=>eV false l0 2 1 fun v=>fG .i64 v K)=K e:=by rw[f8 h];simp[eV,bV]
theorem ki (h:m.get id=dw s a bad e) (K:List UInt8→Option R):(gH m id fun l0 _=>eV false l0 3 1 fun v=>gQ v K)=K s:=by rw[f8 h];simp[eV,ct]
theorem Dl (h:m.get id=dw s a bad e) (x:Int) (K:IM→Option R):lN m (.pB id 0) [.int .i64 x] .any K=K (aW m id (dw s x bad e)):=by rw[kE h (r:=0) rfl (Nat.zero_le _) (by simp)];rfl
theorem Sz (h:m.get id=dw s a bad e) (x:Int) (K:IM→Option R):lN m (.pB id 1) [.int .i64 x] .any K=K (aW m id (dw s a x e)):=by rw[kE h (r:=0) rfl (Nat.zero_le _) (by simp)];rfl
theorem XB (h:m.get id=dw s a bad e) (x:Int) (K:IM→Option R):lN m (.pB id 2) [.int .i64 x] .any K=K (aW m id (dw s a bad x)):=by rw[kE h (r:=0) rfl (Nat.zero_le _) (by simp)];rfl
theorem L4 (h:m.get id=dw s a bad e):id<m.size:=rH h
theorem dI {a' bad' e':Int}(h:m.get id=dw s a bad e):(aW m id (dw s a' bad' e')).get id=dw s a' bad' e':=lX (L4 h) _
theorem mu (h:m.get id=dw s a bad e):aW m id (dw s a bad e)=m:=nw h (L4 h)
end
theorem Cp {s:List UInt8}{i:Nat}{c:UInt8}(h:s[i]?=some c):dW.ev .cm [.str s,.int .i64 (i:Int)]=some (.int .u8 (c.toNat:Int)):=by
 have c2:(0:Int)≤(i:Int):=by omega
 simp[dW.ev,c2,h]
theorem VM {c d:UInt8}:((c.toNat:Int) != (d.toNat:Int))=!(c==d):=by
 by_cases h:c=d
 ·subst h;simp
 ·have h1:(c==d)=false:=by simpa using h
  have h2:c.toNat≠d.toNat:=fun e=>h (UInt8.toNat_inj.1 e);rw[h1];simp;omega
theorem Qm {c d:UInt8}:((c.toNat:Int)==(d.toNat:Int))=(c==d):=by
 by_cases h:c=d
 ·subst h;simp
 ·have h1:(c==d)=false:=by simpa using h
  have h2:c.toNat≠d.toNat:=fun e=>h (UInt8.toNat_inj.1 e);rw[h1];simp;omega
theorem oR (s:List UInt8) (a:Nat) (bad e:Int) (c:UInt8) (id:Nat) (m:IM) (ha:a≤1099511627776) (hm:m.get id=dw s a bad e) :
  cw (.f 97) [.pB id 0,.int .u8 (c.toNat:Int)] m=if e=0∧s[a]?=some c then some (.bool true,aW m id (dw s (a+1:Nat) bad e)) else some (.bool false,m):=by
 have hw:IntKind.i64.wrap ((a:Int)+1)=((a+1:Nat):Int):=by rw[w64 (by omega) (by omega)];rfl
 by_cases h0:e=0
 ·cases hs:s[a]? with
  |none =>
   have hge:=List.getElem?_eq_none_iff.1 hs;have c1:(s.length:Int)≤(a:Int):=by omega
   rw[if_neg (by simp)];apply qZ;simp[TN,vp,go_sem,kh hm,gD hm,ki hm,h0,c1]
  |some d =>
   have hlt:=dP hs;have c1:¬(s.length:Int)≤(a:Int):=by omega
   by_cases hd:d=c
   ·subst hd;rw[if_pos ⟨h0,rfl⟩];apply qZ;simp[TN,vp,go_sem,kh hm,gD hm,ki hm,h0,c1,au (Cp hs),Dl hm,hw]
   ·have hd':(d==c)=false:=by simpa using hd
    rw[if_neg (by simp[hd])];apply qZ;have hne:=VM (c:=d) (d:=c);rw[hd'] at hne;simp[TN,vp,go_sem,kh hm,gD hm,ki hm,h0,c1,au (Cp hs),hne]
 ·have h0':(e != 0)=true:=by simpa using h0
  rw[if_neg (fun h=>h0 h.1)];apply qZ;simp[TN,vp,go_sem,kh hm,gD hm,ki hm,h0,h0']
def kR:IV:=.agg [.int .i64 0,.str [],.aa,.aa]
def lW (bad e at_ c:Int):Int×Int:=if e=0 then (at_,c) else (bad,e)
theorem wI (s:List UInt8) (a bad e at_ c:Int) (id:Nat) (m:IM) (hm:m.get id=dw s a bad e) :
  cw (.f 72) [.pB id 0,.int .i64 at_,.int .i64 c] m=some (kR,aW m id (dw s a (lW bad e at_ c).1 (lW bad e at_ c).2)):=by
 apply IF;unfold lW;by_cases h0:e=0
 ·have h0':(e==0)=true:=by simpa using h0
  subst h0;simp[Wk,DO,go_sem,kh hm,Sz hm,XB (dI hm),az,kR]
 ·have h0':(e==0)=false:=by simpa using h0
  simp[Wk,DO,go_sem,kh hm,h0,h0',kR,mu hm]
theorem pQ (s:List UInt8) (a bad e:Int) (id:Nat) (m:IM) (hm:m.get id=dw s a bad e) :
  cw (.f 45) [.pB id 0] m=some (kR,aW m id (dw s a (lW bad e a 19).1 (lW bad e a 19).2)):=by
 apply Iw;have h:=wI s a bad e a 19 id m hm;have hc:=fun (K2:IV→IM→Option (IV×IM))=>ae h (by simp[go_sem]) K2;simp[Yb,go_sem,gD hm,hc,kR,af]
def la (c:UInt8):Bool:=c==32||c==9||c==10||c==13
def yc (s:List UInt8):Nat→Nat→Nat
 |0,a=>a
 |k+1,a=>match s[a]? with
  |some c=>if la c then yc s k (a+1) else a
  |none=>a
def dz (s:List UInt8) (a:Nat):Nat:=yc s (s.length+1-a) a
theorem Nd (s:List UInt8) (c:UInt8) (m:IM):cw (.f 123) [.str s,.int .u8 (c.toNat:Int)] m=some (.int .i64 (jV c s 0),m):=by unfold cw;rw[jv (p:=mh) rfl];simp[mh]
theorem Jo (s:List UInt8) (c:UInt8) (m:IM):cw (.f 75) [.str s,.int .u8 (c.toNat:Int)] m=some (.int .i64 (jV c s 0),m):=by
 have h1:cw (.f 101) [.str s,.int .u8 (c.toNat:Int)] m=some (.int .i64 (jV c s 0),m):=by apply GK;have hc:=fun (K2:IV→IM→Option (IV×IM))=>ae (Nd s c m) (by simp[go_sem]) K2;simp[Tv,go_sem,hc]
 apply IG;have hc:=fun (K2:IV→IM→Option (IV×IM))=>ae h1 (by simp[go_sem]) K2;simp[Yh,go_sem,hc]
theorem Q2 (c:UInt8):decide (0≤jV c [32,9,10,13] 0)=la c:=by
 have:∀n,n<256→decide (0≤jV (UInt8.ofNat n) [32,9,10,13] 0)=la (UInt8.ofNat n):=by decide +kernel
 have h:=this c.toNat c.toNat_lt;simpa using h
def Q1 (s:List UInt8) (a:Nat):Bool:=match s[a]? with
 |some c=>la c
 |none=>false
theorem Yo (s:List UInt8) (a:Nat) (bad e:Int) (id:Nat) (m:IM) (hm:m.get id=dw s a bad e):zQ id m=some (.normal,[.pB id 0,.bool (Q1 s a)],[],m):=by
 unfold Q1
 cases hs:s[a]? with
 |none =>
  have hge:=List.getElem?_eq_none_iff.1 hs;have c1:¬(a:Int)<(s.length:Int):=by omega
  simp[zQ,go_sem,gD hm,ki hm,c1]
 |some c =>
  have hlt:=dP hs;have c1:(a:Int)<(s.length:Int):=by omega
  have hc:=fun (K2:IV→IM→Option LR)=>ae (Jo [32,9,10,13] c m) (by simp[go_sem]) K2;have hb:=Q2 c;simp[zQ,go_sem,gD hm,ki hm,c1,au (Cp hs),hc,hb]
theorem Yr (s:List UInt8) (hs:s.length≤1099511627776) (bad e:Int) (id:Nat):∀(k a:Nat) (m:IM),s.length<a+k→a≤s.length→m.get id=dw s a bad e →
  Fs id m=some (.exit 0,[],[],aW m id (dw s (yc s k a:Nat) bad e)):=by
 intro k
 induction k with
 |zero=>intro a m h;omega
 |succ k ih =>
  intro a m hk ha hm;have hC:=Yo s a bad e id m hm;rw[IX];unfold yc;unfold Q1 at hC
  cases hq:s[a]? with
  |none =>rw[hq] at hC;simp[Fg,go_sem,hC,mu hm]
  |some c =>
   have hlt:=dP hq;rw[hq] at hC;simp only at hC ⊢
   cases hb:la c with
   |false =>rw[hb] at hC;simp[Fg,go_sem,hC,mu hm]
   |true =>
    rw[hb] at hC;have hw:IntKind.i64.wrap ((a:Int)+1)=((a+1:Nat):Int):=by rw[w64 (by omega) (by omega)];rfl
    have h:=ih (a+1) (aW m id (dw s (a+1:Nat) bad e)) (by omega) (by omega) (dI hm);rw[az] at h;generalize hj:a+1=j at *;simp[Fg,go_sem,hC,gD hm,Dl hm,hw];rw[DW];exact h
theorem Jg (s:List UInt8) (hs:s.length≤1099511627776) (a:Nat) (ha:a≤s.length) (bad e:Int) (id:Nat) (m:IM) (hm:m.get id=dw s a bad e) :
  cw (.f 44) [.pB id 0] m=some (.db [],aW m id (dw s (dz s a:Nat) bad e)):=by
 apply Iv;have h:=Yr s hs bad e id (s.length+1-a) a m (by omega) ha hm;simp[Ya,go_sem,h,dz]
theorem FG (s:List UInt8):∀(k a:Nat),a≤s.length→a≤yc s k a∧yc s k a≤s.length
 |0,a,h=>⟨Nat.le_refl _,h⟩
 |k+1,a,h=>by
  unfold yc
  cases hq:s[a]? with
  |none=>exact⟨Nat.le_refl _,h⟩
  |some c =>
   simp only;split
   ·have:=FG s k (a+1) (dP hq);omega
   ·exact⟨Nat.le_refl _,h⟩
theorem jg {s:List UInt8}{a:Nat}(h:a≤s.length):a≤dz s a∧dz s a≤s.length:=FG s _ a h
inductive Rd (α:Type) where
 |ok (x:α) (a:Nat)
 |err (b:Nat) (c:Int)
def wT (c:UInt8):Int:=if 15<jV c [48,49,50,51,52,53,54,55,56,57,97,98,99,100,101,102,65,66,67,68,69,70] 0 then jV c [48,49,50,51,52,53,54,55,56,57,97,98,99,100,101,102,65,66,67,68,69,70] 0-6 else jV c [48,49,50,51,52,53,54,55,56,57,97,98,99,100,101,102,65,66,67,68,69,70] 0
theorem NH (c:UInt8):-1≤wT c∧wT c≤15:=by
 have:∀n,n<256→-1≤wT (UInt8.ofNat n)∧wT (UInt8.ofNat n)≤15:=by decide +kernel
 have h:=this c.toNat c.toNat_lt;simpa using h
def kZ (s:List UInt8):Nat→Nat→Int→Rd Int
 |0,a,n=>.ok n a
 |k+1,a,n=>match s[a]? with
  |some c=>if wT c<0 then .err a 19 else kZ s k (a+1) (16*n+wT c)
  |none=>.err a 19
theorem V6 (s:List UInt8) (a:Nat) (bad e n n1:Int) (id:Nat) (m:IM) (hm:m.get id=dw s a bad e) :
  uB id n (-1) n1 m=some (.normal,[.pB id 0,.int .i64 n,.int .i64 (match s[a]? with | some c=>jV c [48,49,50,51,52,53,54,55,56,57,97,98,99,100,101,102,65,66,67,68,69,70] 0 | none=>-1),.int .i64 n1],[],m):=by
 cases hs:s[a]? with
 |none =>
  have hge:=List.getElem?_eq_none_iff.1 hs;have c1:¬(a:Int)<(s.length:Int):=by omega
  simp[uB,go_sem,gD hm,ki hm,c1]
 |some c =>
  have hlt:=dP hs;have c1:(a:Int)<(s.length:Int):=by omega
  have hc:=fun (K2:IV→IM→Option LR)=>ae (Jo [48,49,50,51,52,53,54,55,56,57,97,98,99,100,101,102,65,66,67,68,69,70] c m) (by simp[go_sem]) K2;simp[uB,go_sem,gD hm,ki hm,c1,au (Cp hs),hc]
theorem OT (n d n1:Int) (hd:-10≤d∧d≤100) (id:Nat) (m:IM):zO id n d n1 m=some (.normal,[.pB id 0,.int .i64 n,.int .i64 (if 15<d then d-6 else d),.int .i64 n1],[],m):=by have hw:IntKind.i64.wrap (d-6)=d-6:=w64 (by omega) (by omega);by_cases h:15<d<;>simp[zO,go_sem,h,hw]
theorem Wr (s:List UInt8) (hs:s.length≤1099511627776) (id:Nat):∀(k i:Nat) (a:Nat) (n bad:Int) (m:IM),4=i+k→a≤s.length→0≤n→n<16^i→m.get id=dw s a bad 0 →
  match kZ s k a n with
  |.ok x a'=>vz id n i m=some (.exit 0,[.int .i64 x],[],aW m id (dw s a' bad 0))∧a'=a+k∧a'≤s.length∧0≤x∧x<65536
  |.err b c=>vz id n i m=some (.ret,[.int .i64 0],[],aW m id (dw s b b c)):=by
 intro k
 induction k with
 |zero =>
  intro i a n bad m hk ha hn0 hn1 hm;have hi:i=4:=by omega
  subst hi;simp only[kZ];refine⟨?_,rfl,ha,hn0,by simpa using hn1⟩;rw[yF];simp[sm,go_sem,mu hm]
 |succ k ih =>
  intro i a n bad m hk ha hn0 hn1 hm;have c1:(i:Int)<4:=by omega
  have hC:=V6 s a bad 0 n i id m hm;have hp:(16:Int)^i≤16^3:=by
   have:i≤3:=by omega
   have h:=Nat.pow_le_pow_right (n:=16) (by omega) this
   exact_mod_cast h
  rw[yF];have hwr:=pQ s a bad 0 id m hm;have hcw:=fun (K2:IV→IM→Option (St⊕LR))=>ae hwr (by simp[go_sem]) K2;simp only[lW,if_true,kR] at hcw;unfold kZ
  cases hq:s[a]? with
  |none =>rw[hq] at hC;simp only at hC ⊢;have hCb:=OT n (-1) i (by omega) id m;simp[sm,go_sem,c1,hC,hCb,hcw]
  |some c =>
   rw[hq] at hC;simp only at hC ⊢;have hlt:=dP hq;have hx:=NH c;have hbd:∀c:UInt8,-10≤jV c [48,49,50,51,52,53,54,55,56,57,97,98,99,100,101,102,65,66,67,68,69,70] 0∧jV c [48,49,50,51,52,53,54,55,56,57,97,98,99,100,101,102,65,66,67,68,69,70] 0≤100:=by
    intro c;have:∀n,n<256→-10≤jV (UInt8.ofNat n) [48,49,50,51,52,53,54,55,56,57,97,98,99,100,101,102,65,66,67,68,69,70] 0∧jV (UInt8.ofNat n) [48,49,50,51,52,53,54,55,56,57,97,98,99,100,101,102,65,66,67,68,69,70] 0≤100:=by decide +kernel
    have h:=this c.toNat c.toNat_lt;simpa using h
   have hCb:=OT n _ i (hbd c) id m;rw[show (if 15<jV c [48,49,50,51,52,53,54,55,56,57,97,98,99,100,101,102,65,66,67,68,69,70] 0 then jV c [48,49,50,51,52,53,54,55,56,57,97,98,99,100,101,102,65,66,67,68,69,70] 0-6 else jV c [48,49,50,51,52,53,54,55,56,57,97,98,99,100,101,102,65,66,67,68,69,70] 0)=wT c from rfl] at hCb;generalize jV c [48,49,50,51,52,53,54,55,56,57,97,98,99,100,101,102,65,66,67,68,69,70] 0=D at *;generalize wT c=d at *;by_cases h0:d<0
   ·rw[if_pos h0];simp[sm,go_sem,c1,hC,hCb,hcw,h0]
   ·rw[if_neg h0];have hpow:(16:Int)^(i+1)=16*16^i:=by rw[Int.pow_succ];omega
    have h:=ih (i+1) (a+1) (16*n+d) bad (aW m id (dw s (a+1:Nat) bad 0)) (by omega) (by omega) (by omega) (by omega) (dI hm);simp only[az] at h;have hw1:IntKind.i64.wrap ((a:Int)+1)=((a+1:Nat):Int):=by rw[w64 (by omega) (by omega)];rfl
    have hw2:IntKind.i64.wrap ((i:Int)+1)=((i+1:Nat):Int):=by rw[w64 (by omega) (by omega)];rfl
    have hw3:IntKind.i64.wrap (16*n)=16*n:=w64 (by omega) (by omega);have hw4:IntKind.i64.wrap (16*n+d)=16*n+d:=w64 (by omega) (by omega);have step:gK Ec (sm id n i m)=vz id (16*n+d) ((i+1:Nat):Int) (aW m id (dw s (a+1:Nat) bad 0)):=by generalize hj:a+1=j at *;generalize hi':i+1=i' at *;simp[sm,go_sem,c1,hC,hCb,h0,gD hm,Dl hm,hw1,hw2,hw3,hw4];rfl
    rw[step]
    cases hx2:kZ s k (a+1) (16*n+d) with
    |ok x a' =>rw[hx2] at h;simp only at h ⊢;exact⟨h.1,by omega,h.2.2.1,h.2.2.2⟩
    |err b c=>rw[hx2] at h;exact h
theorem KA (s:List UInt8) (hs:s.length≤1099511627776) (id:Nat) (a:Nat) (bad:Int) (m:IM) (ha:a≤s.length) (hm:m.get id=dw s a bad 0) :
  match kZ s 4 a 0 with
  |.ok x a'=>cw (.f 121) [.pB id 0] m=some (.int .i64 x,aW m id (dw s a' bad 0))∧a'=a+4∧a'≤s.length∧0≤x∧x<65536
  |.err b c=>cw (.f 121) [.pB id 0] m=some (.int .i64 0,aW m id (dw s b b c)):=by
 have h:=Wr s hs id 4 0 a 0 bad m rfl ha (by omega) (by simp) hm;rw[show ((0:Nat):Int)=0 from rfl] at h
 cases hx:kZ s 4 a 0 with
 |ok x a' =>rw[hx] at h;simp only at h ⊢;refine⟨?_,h.2⟩;apply yA;simp[QG,go_sem,h.1]
 |err b c =>rw[hx] at h;simp only at h ⊢;apply yA;simp[QG,go_sem,h]
def lz (s:List UInt8):List UInt8→Nat→Rd Unit
 |[],a=>.ok () a
 |c::r,a=>if s[a]?=some c then lz s r (a+1) else .err a 19
def D3 (k:Int) (t:List UInt8):aS:=.cells [.int .i64 k,.str t,.aa,.aa] [.any,.any,.any,.any]
def xZ (k:Int) (t:List UInt8):aS:=.cells [.int .i64 k,.str t,.aa,.aa] [.any,.any,.own 1,.own 4]
theorem Wx (s:List UInt8) (hs:s.length≤1099511627776) (w:List UInt8) (hw:∀k (h:k<w.length),Utf8.decode ⟨⟨w⟩⟩ k=((w[k].toNat,1):Nat×Nat)) (vk:Int) (vt:List UInt8) (id:Nat) (bad:Int):∀(j k a:Nat) (m:IM),w.length=k+j→a≤s.length→m.get id=dw s a bad 0 →
  match lz s (w.drop k) a with
  |.ok _ a'=>BT id vk vt .aa .aa 0 [] .aa .aa w k m=some (.exit 0,[],[D3 vk vt,xZ 0 []],aW m id (dw s a' bad 0))∧a'≤s.length
  |.err b c=>BT id vk vt .aa .aa 0 [] .aa .aa w k m=some (.ret,[],[D3 0 []],aW m id (dw s b b c)):=by
 intro j
 induction j with
 |zero =>
  intro k a m hk ha hm;have e:w.drop k=[]:=List.drop_eq_nil_iff.2 (by omega);have c1:¬k<w.length:=by omega
  rw[e];simp only[lz];refine⟨?_,ha⟩;rw[BU];simp[BB,zT,go_sem,c1,mu hm,D3,xZ]
 |succ j ih =>
  intro k a m hk ha hm;have hlt:k<w.length:=by omega
  have hd:=hw k hlt;rw[List.drop_eq_getElem_cons hlt];have hsk:=oR s a bad 0 w[k] id m (by omega) hm;have hu:IntKind.u8.wrap ((w[k].toNat:Nat):Int)=(w[k].toNat:Int):=w8 (by omega) (by have:=w[k].toNat_lt;omega);generalize w[k]=c at *;rw[BU];unfold lz;by_cases g:s[a]?=some c
  ·rw[if_pos ⟨rfl,g⟩] at hsk;rw[if_pos g];have hcc:=fun (K2:IV→IM→Option (St⊕LR))=>ae hsk (by simp[go_sem]) K2;have hlt2:=dP g;have h:=ih (k+1) (a+1) (aW m id (dw s (a+1:Nat) bad 0)) (by omega) (by omega) (dI hm);simp only[az] at h;have step:gK J1 (BB id vk vt .aa .aa 0 [] .aa .aa w k m)=BT id vk vt .aa .aa 0 [] .aa .aa w (k+1) (aW m id (dw s (a+1:Nat) bad 0)):=by generalize hj:a+1=j' at *;simp[BB,zT,go_sem,hlt,hd,fq,dW.ev,hu,hcc];rfl
   rw[step];exact h
  ·rw[if_neg (fun h=>g h.2)] at hsk;rw[if_neg g];have hcc:=fun (K2:IV→IM→Option (St⊕LR))=>ae hsk (by simp[go_sem]) K2;have hwr:=pQ s a bad 0 id m hm;have hcw:=fun (K2:IV→IM→Option (St⊕LR))=>ae hwr (by simp[go_sem]) K2;simp only[lW,if_true,kR] at hcw;simp[BB,zT,go_sem,hlt,hd,fq,dW.ev,hu,hcc,hcw,af,D3]
theorem SW (s:List UInt8) (hs:s.length≤1099511627776) (w:List UInt8) (hw:∀k (h:k<w.length),Utf8.decode ⟨⟨w⟩⟩ k=((w[k].toNat,1):Nat×Nat)) (vk:Int) (vt:List UInt8) (id:Nat) (bad:Int) (a:Nat) (m:IM) (ha:a≤s.length) (hm:m.get id=dw s a bad 0) :
  match lz s w a with
  |.ok _ a'=>cw (.f 70) [.pB id 0,.str w,.agg [.int .i64 vk,.str vt,.aa,.aa]] m=some (.agg [.int .i64 vk,.str vt,.aa,.aa],aW m id (dw s a' bad 0))∧a'≤s.length
  |.err b c=>cw (.f 70) [.pB id 0,.str w,.agg [.int .i64 vk,.str vt,.aa,.aa]] m=some (kR,aW m id (dw s b b c)):=by
 have h:=Wx s hs w hw vk vt id bad w.length 0 a m (by omega) ha hm;rw[List.drop_zero] at h
 cases hx:lz s w a with
 |ok x a' =>rw[hx] at h;refine⟨?_,h.2⟩;apply BJ;simp[Wj,go_sem,h.1,af,D3,xZ]
 |err b c =>rw[hx] at h;simp only at h;apply BJ;simp[Wj,go_sem,h,af,D3,kR]
def E2:List (UInt8×UInt8):=[(34,34),(92,92),(47,47),(98,8),(102,12),(110,10),(114,13),(116,9)]
def Ck (l:List (UInt8×UInt8)) (c:Option UInt8):Option UInt8:=match l with
 |[]=>none
 |p::r=>if c=some p.1 then some p.2 else Ck r c
theorem Sx:∀i,i<8→dW.ev (.ji 8 true 2) [.agg [.int .u8 34,.int .u8 34,.int .u8 92,.int .u8 92,.int .u8 47,.int .u8 47,.int .u8 98,.int .u8 8,.int .u8 102,.int .u8 12,.int .u8 110,.int .u8 10,.int .u8 114,.int .u8 13,.int .u8 116,.int .u8 9],.int .i64 (i:Nat)]=some (.agg [.int .u8 ((E2.getD i (0,0)).1.toNat:Int),.int .u8 ((E2.getD i (0,0)).2.toNat:Int)]):=by intro i hi;rcases i with _ | _ | _ | _ | _ | _ | _ | _ | i<;>first | rfl | omega
theorem Om:∀i,i<8→(Utf8.encode (IntKind.i32.wrap ((E2.getD i (0,0)).2.toNat:Int))).data.toList=[(E2.getD i (0,0)).2]:=by intro i hi;rcases i with _ | _ | _ | _ | _ | _ | _ | _ | i<;>first | decide | omega
theorem Md (i:Nat) (hi:i<8):E2.drop i=E2.getD i (0,0)::E2.drop (i+1):=by rcases i with _ | _ | _ | _ | _ | _ | _ | _ | i<;>first | rfl | omega
theorem Yv (s:List UInt8) (hs:s.length≤1099511627776) (id:Nat) (bad from_:Int) (a:Nat) (m:IM) (ha:a≤s.length) (hm:m.get id=dw s a bad 0):∀(j i:Nat),8=i+j →
  Fz id from_ 34 34 92 92 47 47 98 8 102 12 110 10 114 13 116 9 i m=match Ck (E2.drop i) s[a]? with
   |some d=>some (.ret,[.str [d]],[],aW m id (dw s (a+1:Nat) bad 0))
   |none=>some (.exit 0,[.pB id 0,.int .i64 from_],[],m):=by
 intro j
 induction j with
 |zero =>
  intro i hk;have:i=8:=by omega
  subst this;rw[BW];simp[BC,go_sem,E2,Ck]
 |succ j ih =>
  intro i hk;have hi:i<8:=by omega
  have c1:(i:Int)<8:=by omega
  have hat:=Sx i hi;have hen:=Om i hi;rw[Md i hi];have hsk:=oR s a bad 0 (E2.getD i (0,0)).1 id m (by omega) hm;have hw2:IntKind.i64.wrap ((i:Int)+1)=((i+1:Nat):Int):=by rw[w64 (by omega) (by omega)];rfl
  have h:=ih (i+1) (by omega);unfold Ck;rw[BW];generalize E2.getD i (0,0)=p at *;obtain⟨x,y⟩:=p;simp only at *;by_cases g:s[a]?=some x
  ·rw[if_pos ⟨trivial,g⟩] at hsk;rw[if_pos g];have hcc:=fun (K2:IV→IM→Option (St⊕LR))=>ae hsk (by simp[go_sem]) K2;simp only[BC,go_sem,c1,decide_true,if_true,au hat,hcc,hen]
  ·rw[if_neg (fun h=>g h.2)] at hsk;rw[if_neg g];have hcc:=fun (K2:IV→IM→Option (St⊕LR))=>ae hsk (by simp[go_sem]) K2;have step:gK J3 (BC id from_ 34 34 92 92 47 47 98 8 102 12 110 10 114 13 116 9 i m)=Fz id from_ 34 34 92 92 47 47 98 8 102 12 110 10 114 13 116 9 (i+1:Nat) m:=by generalize hj:i+1=i' at *;simp only[BC,go_sem,c1,decide_true,if_true,au hat,hcc,hw2,Bool.false_eq_true,if_false];rfl
   rw[step];exact h
end Go.Idl
namespace Go.Idl
attribute [local go_sem] bM bL gI gS bg bO bV cr ct cD cH cG bA bc bN ba bb cE bw aZ cJ aX aE aO aG aF aA cM cA bF bG cN cO bH dS cQ bI cS cP cU cK bE bB bC aY bD cI a6 aP a8 a7 bJ av aB aV aD dt dq bQ bk bS cx bP cu bR cy List.flatMap_cons List.flatMap_nil
attribute [local go_sem] oA gA vA wA nA fA dA eA oV oW oN oD oF dJ.call aq.run bm dh.run dh.fF gate IK.ok bq eE cW.gC IK.run Arg.rd look aQ de dW.ev eX iw iO iK iM iN iJ iI iH iG iF iL dN iW iA c7 St.put aR kU kT je aK ck IK.link c8 dy St.drop St.dn St.owner aU dQ cY du IV.ak IV.ak.go IV.refs IV.refs.go aC IV.plain dC aM eJ cf IV.cells IV.nd IV.jO dT dY over fe cut lx bo mx fO f9 eZ fm fl dG ah bp ga fK bK bh ft dU bu j8 bY St.head eN eM dp eR
theorem rq (n:Nat) (h:n≤2147483647) (m:IM):cw (.f 39) [.int .i64 (n:Int)] m=some (.str (Utf8.encode n).data.toList,m):=by unfold cw;rw[dd p39 f39];simp (disch:=omega) [i39,go_sem,w32]
def Ch (n:Int):List UInt8:=(Utf8.encode n.toNat).data.toList
def wH (s:List UInt8) (a:Nat):Rd (List UInt8) :=
 match Ck E2 s[a]? with
 |some d=>.ok [d] (a+1)
 |none=>if s[a]?=some 117 then (match kZ s 4 (a+1) 0 with
  |.err b c=>.err b c
  |.ok n a1=>if bT n then .ok (Ch n) a1 else if 56320≤n∨¬(s[a1]?=some 92∧s[a1+1]?=some 117) then .err (a-1) 19 else (match kZ s 4 (a1+2) 0 with
   |.err b c=>.err b c
   |.ok k a2=>if k<56320∨57343<k then .err (a-1) 19 else .ok (Ch (65536+(n-55296)*1024+k-56320)) a2)) else .err a 19
theorem Hj (t:List UInt8) (c d:UInt8) (m:IM):cw (.f 122) [.str t,.str [c,d]] m=some (.bool (decide (t[0]?=some c∧t[1]?=some d)),m):=by
 unfold cw;rw[dd p122 f122]
 match t with
 |[]=>simp[i122,go_sem]
 |[x] =>simp[i122,go_sem]
 |x::y::t =>
  have g1:(2:Int)≤((t.length+1+1:Nat):Int):=by omega
  by_cases h:x=c
  ·subst h;by_cases h2:y=d
   ·subst h2;simp[-Int.natCast_add,i122,go_sem,g1]
   ·have h':(y==d)=false:=by simpa using h2
    simp[-Int.natCast_add,i122,go_sem,g1,h2,h']
  ·have h':(x==c)=false:=by simpa using h
   simp[-Int.natCast_add,i122,go_sem,g1,h,h']
theorem Jp (t:List UInt8) (c d:UInt8) (m:IM):cw (.f 99) [.str t,.str [c,d]] m=some (.bool (decide (t[0]?=some c∧t[1]?=some d)),m):=by unfold cw;rw[dd p99 f99];have h:=Hj t c d m;unfold cw at h;simp[i99,go_sem,h]
theorem H4 (s:List UInt8) (a:Nat) (h:a≤s.length):dW.ev (.bU true false) [.str s,.int .i64 (a:Int)]=some (.str (s.drop a)):=by
 have c2:(a:Int)≤(s.length:Int):=by omega
 have c3:(0:Int)≤(a:Int):=by omega
 have htk:(s.drop a).take (s.length-a)=s.drop a:=List.take_of_length_le (by simp);simp[dW.ev,f9,fO,mx,c2,c3,htk]
theorem Tr (s:List UInt8) (a bad from_ n:Int) (id:Nat) (m:IM) (hm:m.get id=dw s a bad 0):vq id from_ n m=some (.normal,[.pB id 0,.int .i64 from_,.int .i64 n,.bool (bT n)],[],m):=by have hcc:=fun (K2:IV→IM→Option LR)=>ae (D4 n m) (by simp[go_sem]) K2;simp[vq,go_sem,kh hm,hcc]
theorem Ts (s:List UInt8) (a:Nat) (ha:a≤s.length) (bad from_ n:Int) (id:Nat) (m:IM) (hm:m.get id=dw s a bad 0):zW id from_ n m=some (.normal,[.pB id 0,.int .i64 from_,.int .i64 n,.bool (decide (56320≤n∨¬(s[a]?=some 92∧s[a+1]?=some 117)))],[],m):=by
 by_cases h:56320≤n
 ·simp[zW,go_sem,h]
 ·have hcc:=fun (K2:IV→IM→Option LR)=>ae (Jp (s.drop a) 92 117 m) (by simp[go_sem]) K2;rw[List.getElem?_drop,List.getElem?_drop,Nat.add_zero] at hcc;simp only[zW,go_sem,ki hm,gD hm,au (H4 s a ha),hcc];simp[h,-not_and]
theorem Tt (s:List UInt8) (a bad from_ n k:Int) (id:Nat) (m:IM) (hm:m.get id=dw s a bad 0):vu id from_ n k m=some (.normal,[.pB id 0,.int .i64 from_,.int .i64 n,.int .i64 k,.bool (decide (k<56320∨57343<k))],[],m):=by by_cases h:k<56320<;>by_cases h2:57343<k<;>simp[vu,go_sem,kh hm,h,h2]
theorem QE (s:List UInt8) (a bad e from_ n k:Int) (he:e≠0) (id:Nat) (m:IM) (hm:m.get id=dw s a bad e):vu id from_ n k m=some (.normal,[.pB id 0,.int .i64 from_,.int .i64 n,.int .i64 k,.bool false],[],m):=by
 have h':(e==0)=false:=by simpa using he
 simp[vu,go_sem,kh hm,h',he]
end Go.Idl
namespace Go.Idl
attribute [local go_sem] bM bL gI gS bg bO bV cr ct cD cH cG bA bc bN ba bb cE bw aZ cJ aX aE aO aG aF aA cM cA bF bG cN cO bH dS cQ bI cS cP cU cK bE bB bC aY bD cI a6 aP a8 a7 bJ av aB aV aD dt dq bQ bk bS cx bP cu bR cy List.flatMap_cons List.flatMap_nil
theorem wV (s:List UInt8):∀(k a:Nat) (n:Int) (b:Nat) (c:Int),kZ s k a n=.err b c→c=19
 |0,_,_,_,_,h=>by cases h
 |k+1,a,n,b,c,h=>by
  unfold kZ at h
  cases hq:s[a]? with
  |none=>rw[hq] at h;cases h;rfl
  |some x =>
   rw[hq] at h;simp only at h;split at h
   ·cases h;rfl
   ·exact wV s k _ _ b c h
theorem AE (s:List UInt8):∀(k a:Nat) (n:Int) (b:Nat) (c:Int),a≤s.length→kZ s k a n=.err b c→b≤s.length
 |0,_,_,_,_,_,h=>by cases h
 |k+1,a,n,b,c,ha,h=>by
  unfold kZ at h
  cases hq:s[a]? with
  |none=>rw[hq] at h;cases h;exact ha
  |some x =>
   rw[hq] at h;simp only at h;split at h
   ·cases h;exact ha
   ·exact AE s k _ _ b c (dP hq) h
theorem AD (n:Int):(Utf8.encode n).data.toList.length≤4:=by
 unfold Utf8.encode;simp only;generalize (if Utf8.valid n=true then n.toNat else Utf8.runeError)=c;by_cases h1:c<128
 ·simp[h1]
 ·by_cases h2:c<2048
  ·simp[h1,h2]
  ·by_cases h3:c<65536
   ·simp[h1,h2,h3]
   ·simp[h1,h2,h3]
set_option maxHeartbeats 1000000 in
set_option maxRecDepth 100000 in
theorem Ui (s:List UInt8) (hs:s.length≤1099511627776) (id:Nat) (bad:Int) (a:Nat) (m:IM) (ha:a≤s.length) (ha1:1≤a) (hm:m.get id=dw s a bad 0) :
  match wH s a with
  |.ok x a'=>cw (.f 98) [.pB id 0] m=some (.str x,aW m id (dw s a' bad 0))∧a'≤s.length∧a<a'
  |.err b c=>c=19∧∃(t:List UInt8) (a':Nat),t.length≤4∧a'≤s.length∧cw (.f 98) [.pB id 0] m=some (.str t,aW m id (dw s a' b c)):=by
 have hL:=Yv s hs id bad ((a-1:Nat):Int) a m ha hm 8 0 rfl;rw[List.drop_zero,show ((0:Nat):Int)=0 from rfl] at hL;have hw:IntKind.i64.wrap ((a:Int)-1)=((a-1:Nat):Int):=by rw[w64 (by omega) (by omega)];omega
 unfold wH
 cases hE:Ck E2 s[a]? with
 |some d =>
  rw[hE] at hL;have hlt:a<s.length:=by
   cases hq:s[a]? with
   |none=>rw[hq] at hE;cases hE
   |some c=>exact dP hq
  refine⟨?_,hlt,Nat.lt_succ_self a⟩;apply kF;simp[MS,go_sem,gD hm,hw,hL]
 |none =>
  rw[hE] at hL;simp only at hL ⊢;have hsk:=oR s a bad 0 117 id m (by omega) hm;by_cases g:s[a]?=some 117
  ·rw[if_pos ⟨rfl,g⟩] at hsk;rw[if_pos g];have hlt:=dP g;have hsc:=fun (K2:IV→IM→Option (IV×IM))=>ae hsk (by simp[go_sem]) K2;rw[show ((117:UInt8).toNat:Int)=117 from rfl] at hsc;have hm1:(aW m id (dw s (a+1:Nat) bad 0)).get id=dw s (a+1:Nat) bad 0:=dI hm;have hx:=KA s hs id (a+1) bad _ hlt hm1
   cases hX:kZ s 4 (a+1) 0 with
   |err b c =>
    rw[hX] at hx;simp only[az] at hx ⊢;have hc:=wV _ _ _ _ _ _ hX;have hble:=AE _ _ _ _ _ _ hlt hX;subst hc;refine⟨rfl,(Utf8.encode ((0:Nat):Int)).data.toList,b,AD _,hble,?_⟩
    ·apply kF;have hxc:=fun (K2:IV→IM→Option (IV×IM))=>ae hx (by simp[go_sem]) K2;have hm2:(aW m id (dw s b b 19)).get id=dw s b b 19:=dI hm;have h39:=rq 0 (by omega) (aW m id (dw s b b 19));have h39c:=fun (K2:IV→IM→Option (IV×IM))=>ae h39 (by simp[go_sem]) K2;rw[show ((0:Nat):Int)=0 from rfl] at h39c;have hC0:vq id ((a-1:Nat):Int) 0 (aW m id (dw s b b 19))=some (.normal,[.pB id 0,.int .i64 ((a-1:Nat):Int),.int .i64 0,.bool true],[],aW m id (dw s b b 19)):=by simp[vq,go_sem,kh hm2]
     simp only[MS,go_sem,gD hm,hw,hL,hsc,hxc,hC0,h39c,if_true,Bool.not_true,Bool.false_eq_true,if_false]
     try simp[go_sem]
   |ok n a1 =>
    rw[hX] at hx;simp only[az] at hx ⊢;obtain⟨hx,ha1',ha1l,hn0,hn1⟩:=hx;have hxc:=fun (K2:IV→IM→Option (IV×IM))=>ae hx (by simp[go_sem]) K2;have hm2:(aW m id (dw s a1 bad 0)).get id=dw s a1 bad 0:=dI hm;have hC0:=Tr s a1 bad ((a-1:Nat):Int) n id _ hm2;by_cases gp:bT n=true
    ·rw[if_pos gp];refine⟨?_,ha1l,by omega⟩;apply kF;have h39:=rq n.toNat (by omega) (aW m id (dw s a1 bad 0));rw[show ((n.toNat:Nat):Int)=n by omega] at h39;have h39c:=fun (K2:IV→IM→Option (IV×IM))=>ae h39 (by simp[go_sem]) K2;rw[gp] at hC0;simp only[MS,go_sem,gD hm,hw,hL,hsc,hxc,hC0,h39c,if_true,Bool.not_true,Bool.false_eq_true,if_false,Ch];simp[go_sem,show ((n.toNat:Nat):Int)=n by omega]
    ·rw[if_neg gp];have gp':bT n=false:=by simpa using gp
     have hC1:=Ts s a1 ha1l bad ((a-1:Nat):Int) n id _ hm2;rw[gp'] at hC0;by_cases g1:56320≤n∨¬(s[a1]?=some 92∧s[a1+1]?=some 117)
     ·rw[if_pos g1];rw[decide_eq_true g1] at hC1;have hf:=wI s a1 bad 0 ((a-1:Nat):Int) 19 id _ hm2;simp only[lW,if_true,kR,az] at hf;have hfc:=fun (K2:IV→IM→Option (IV×IM))=>ae hf (by simp[go_sem]) K2;refine⟨rfl,[],a1,by simp,ha1l,?_⟩;apply kF;simp only[MS,go_sem,gD hm,hw,hL,hsc,hxc,hC0,hC1,hfc,if_true,Bool.not_true,Bool.false_eq_true,if_false]
      try simp[go_sem]
     ·rw[if_neg g1];rw[decide_eq_false g1] at hC1;have hw2:IntKind.i64.wrap ((a1:Int)+2)=((a1+2:Nat):Int):=by rw[w64 (by omega) (by omega)];rfl
      have h2l:a1+2≤s.length:=by
       have:s[a1+1]?=some 117:=by
        by_cases q:s[a1]?=some 92∧s[a1+1]?=some 117
        ·exact q.2
        ·exact absurd (.inr q) g1
       have:=dP this;omega
      have hn2:55296≤n:=by
       have hlt2:n<56320:=by
        by_cases q:56320≤n
        ·exact absurd (.inl q) g1
        ·omega
       by_cases q:55296≤n
       ·exact q
       ·exfalso;have e1:n<55296:=by omega
        have e2:n≤1114111:=by omega
        simp[bT,hn0,e1,e2] at gp'
      have hn3:n<56320:=by
       by_cases q:56320≤n
       ·exact absurd (.inl q) g1
       ·omega
      have hsa:=fun (K:IM→Option (IV×IM))=>Dl hm2 ((a1+2:Nat):Int) K;simp only[az] at hsa;have hm3:(aW m id (dw s (a1+2:Nat) bad 0)).get id=dw s (a1+2:Nat) bad 0:=dI hm;have hy:=KA s hs id (a1+2) bad _ h2l hm3;have hp10:(2:Int)^Nat.min (Int.toNat 10) IntKind.i64.bits=1024:=by decide
      have hp10':(2:Int)^Nat.min 10 IntKind.i64.bits=1024:=by decide
      have hwa:IntKind.i64.wrap (n-55296)=n-55296:=w64 (by omega) (by omega);have hwb:IntKind.i64.wrap ((n-55296)*1024)=(n-55296)*1024:=w64 (by omega) (by omega);have hwc:IntKind.i64.wrap (65536+(n-55296)*1024)=65536+(n-55296)*1024:=w64 (by omega) (by omega)
      cases hY:kZ s 4 (a1+2) 0 with
      |err b c =>
       rw[hY] at hy;simp only[az] at hy ⊢;have hc:=wV _ _ _ _ _ _ hY;have hble:=AE _ _ _ _ _ _ h2l hY;subst hc;have hyc:=fun (K2:IV→IM→Option (IV×IM))=>ae hy (by simp[go_sem]) K2;have hm4:(aW m id (dw s b b 19)).get id=dw s b b 19:=dI hm;have hC2:=QE s b b 19 ((a-1:Nat):Int) n 0 (by omega) id _ hm4;obtain⟨q,hq⟩:=Int.eq_ofNat_of_zero_le (show 0≤65536+(n-55296)*1024-56320 by omega);have hwe:IntKind.i64.wrap (65536+(n-55296)*1024-56320)=(q:Int):=by rw[w64 (by omega) (by omega)];omega
       have h39:=rq q (by omega) (aW m id (dw s b b 19));have h39c:=fun (K2:IV→IM→Option (IV×IM))=>ae h39 (by simp[go_sem]) K2;refine⟨rfl,(Utf8.encode (q:Int)).data.toList,b,AD _,hble,?_⟩;apply kF;simp only[MS,go_sem,gD hm,gD hm2,hw,hw2,hL,hsc,hxc,hC0,hC1,hsa,hyc,zX,hC2,hwa,if_true,Bool.not_true,Bool.false_eq_true,if_false];simp[go_sem,hp10',hwb,hwc,hwe,h39c]
      |ok k a2 =>
       rw[hY] at hy;simp only[az] at hy ⊢;obtain⟨hy,ha2,ha2l,hk0,hk1⟩:=hy;have hyc:=fun (K2:IV→IM→Option (IV×IM))=>ae hy (by simp[go_sem]) K2;have hm4:(aW m id (dw s a2 bad 0)).get id=dw s a2 bad 0:=dI hm;have hC2:=Tt s a2 bad ((a-1:Nat):Int) n k id _ hm4;have hwd:IntKind.i64.wrap (65536+(n-55296)*1024+k)=65536+(n-55296)*1024+k:=w64 (by omega) (by omega);obtain⟨q,hq⟩:=Int.eq_ofNat_of_zero_le (show 0≤65536+(n-55296)*1024+k-56320 by omega);have hwe:IntKind.i64.wrap (65536+(n-55296)*1024+k-56320)=(q:Int):=by rw[w64 (by omega) (by omega)];omega
       by_cases g2:k<56320∨57343<k
       ·rw[if_pos g2];rw[decide_eq_true g2] at hC2;have hf:=wI s a2 bad 0 ((a-1:Nat):Int) 19 id _ hm4;simp only[lW,if_true,kR,az] at hf;have hfc:=fun (K2:IV→IM→Option LR)=>ae hf (by simp[go_sem]) K2;have h39:=rq q (by omega) (aW m id (dw s a2 ((a-1:Nat):Int) 19));have h39c:=fun (K2:IV→IM→Option (IV×IM))=>ae h39 (by simp[go_sem]) K2;refine⟨rfl,(Utf8.encode (q:Int)).data.toList,a2,AD _,ha2l,?_⟩;apply kF;simp only[MS,go_sem,gD hm,gD hm2,hw,hw2,hL,hsc,hxc,hC0,hC1,hsa,hyc,zX,hC2,hfc,hwa,if_true,Bool.not_true,Bool.false_eq_true,if_false];simp[go_sem,hp10',hwb,hwc,hwd,hwe,h39c]
       ·rw[if_neg g2];rw[decide_eq_false g2] at hC2;have h39:=rq q (by omega) (aW m id (dw s a2 bad 0));have h39c:=fun (K2:IV→IM→Option (IV×IM))=>ae h39 (by simp[go_sem]) K2;refine⟨?_,ha2l,by omega⟩;apply kF;simp only[MS,go_sem,gD hm,gD hm2,hw,hw2,hL,hsc,hxc,hC0,hC1,hsa,hyc,zX,hC2,hwa,if_true,Bool.not_true,Bool.false_eq_true,if_false,Ch];rw[show 65536+(n-55296)*1024+k-56320=((q:Nat):Int) from hq];simp[go_sem,hp10',hwb,hwc,hwd,hwe,h39c]
  ·rw[if_neg (fun h=>g h.2)] at hsk;rw[if_neg g];have hsc:=fun (K2:IV→IM→Option (IV×IM))=>ae hsk (by simp[go_sem]) K2;rw[show ((117:UInt8).toNat:Int)=117 from rfl] at hsc;have hwr:=pQ s a bad 0 id m hm;have hcw:=fun (K2:IV→IM→Option (IV×IM))=>ae hwr (by simp[go_sem]) K2;simp only[lW,if_true,kR] at hcw;refine⟨rfl,[],a,by simp,ha,?_⟩;apply kF;simp[MS,go_sem,gD hm,hw,hL,hsc,hcw]
theorem vS {R:Type}(acc x:List UInt8) (h:acc.length+x.length≤aH) (K:IV→Option R):j9 (oa acc) 1 1 (ah x) x.length K=K (oa (acc++x)):=by
 cases acc with
 |nil =>
  cases x with
  |nil=>simp[oa,j9,aL,ah]
  |cons b r =>
   have h':r.length+1≤aH:=by simpa using h
   simp[oa,j9,bg,bO,h']
 |cons b r =>
  have hl:=fj (b::r);have hx:oa (b::r++x)=.sl (ah (b::r)++ah x) ((b::r).length+x.length):=by rw[←mB,←List.length_append];rfl
  rw[hx];show j9 (.sl (ah (b::r)) (b::r).length) 1 1 (ah x) x.length K=_;generalize (b::r)=q at *;simp[j9,bO,h,hl]
theorem rQ {R:Type}(l:List UInt8) (X:Option R):dk (oa l) X=X:=iB (B8 l) X
theorem wU (s:List UInt8):∀(k a:Nat) (n x:Int) (b:Nat),kZ s k a n=.ok x b→a≤b
 |0,a,n,x,b,h=>by cases h;exact Nat.le_refl _
 |k+1,a,n,x,b,h=>by
  unfold kZ at h
  cases hq:s[a]? with
  |none=>rw[hq] at h;cases h
  |some c =>
   rw[hq] at h;simp only at h;split at h
   ·cases h
   ·have:=wU s k _ _ _ _ h;omega
theorem eD {α:Type}{b:Nat}{c:Int}{x:α}{a:Nat}(h:(Rd.err b c:Rd α)=.ok x a):False:=by cases h
theorem Cm {s:List UInt8}{a:Nat}{x:List UInt8}{a':Nat}(h:wH s a=.ok x a'):a<a':=by
 unfold wH at h;split at h
 ·obtain⟨_,rfl⟩:=Rd.ok.inj h;omega
 ·split at h
  ·split at h
   ·exact (eD h).elim
   ·rename_i n a1 hX;have:=wU _ _ _ _ _ _ hX;split at h
    ·obtain⟨_,rfl⟩:=Rd.ok.inj h;omega
    ·split at h
     ·exact (eD h).elim
     ·split at h
      ·exact (eD h).elim
      ·rename_i k a2 hY;have:=wU _ _ _ _ _ _ hY;split at h
       ·exact (eD h).elim
       ·obtain⟨_,rfl⟩:=Rd.ok.inj h;omega
  ·exact (eD h).elim
def nx (s:List UInt8):Nat→Nat→List UInt8→Option (Rd (List UInt8))
 |0,_,_=>none
 |n+1,a,acc=>match s[a]? with
  |none=>some (.err a 19)
  |some c=>if c.toNat<32 then some (.err a 19)
   else if c=34 then some (.ok acc (a+1))
   else if c=92 then (match wH s (a+1) with
    |.err b e=>some (.err b e)
    |.ok x a'=>nx s n a' (acc++x))
   else if (aI (s.drop a)).2.1=true then nx s n (a+(aI (s.drop a)).1) (acc++(s.drop a).take (aI (s.drop a)).1)
   else some (.err a 19)
theorem JJ (n:Nat):(fV n).length≤4:=by
 unfold fV;split
 ·simp
 ·split
  ·simp
  ·split<;>simp
set_option maxRecDepth 100000 in
theorem Cl {s:List UInt8}{a:Nat}{x:List UInt8}{a':Nat}(h:wH s a=.ok x a'):x.length≤4:=by
 have hN:∀(k a:Nat) (n:Int) (x:Int) (b:Nat),0≤n→kZ s k a n=.ok x b→0≤x:=by
  intro k
  induction k with
  |zero=>intro a n x b hn h;cases h;exact hn
  |succ k ih =>
   intro a n x b hn h;unfold kZ at h
   cases hq:s[a]? with
   |none=>rw[hq] at h;cases h
   |some c =>
    rw[hq] at h;simp only at h;split at h
    ·cases h
    ·exact ih _ _ _ _ (by omega) h
 have hpt:∀n:Int,bT n=true→(Ch n).length≤4:=by
  intro n hn;unfold Ch;have h0:0≤n:=by unfold bT at hn;simp only[Bool.and_eq_true,decide_eq_true_eq] at hn;exact hn.1.1
  rw[ov n.toNat (by rw[show ((n.toNat:Nat):Int)=n by omega];exact hn)];exact JJ _
 unfold wH at h;split at h
 ·cases h;simp
 ·split at h
  ·split at h
   ·cases h
   ·rename_i n a1 hX;split at h
    ·rename_i hp;obtain⟨rfl,rfl⟩:=Rd.ok.inj h;exact hpt _ hp
    ·split at h
     ·exact (eD h).elim
     ·rename_i hg;split at h
      ·cases h
      ·rename_i k a2 hY;split at h
       ·exact (eD h).elim
       ·rename_i hk;obtain⟨rfl,rfl⟩:=Rd.ok.inj h;have hn0:=hN _ _ _ _ _ (by omega) hX;have hnp:¬bT n=true:=by assumption
        refine hpt _ ?_;have h1:n<56320:=by
         by_cases q:56320≤n
         ·exact absurd (.inl q) hg
         ·omega
        have h2:55296≤n:=by
         by_cases q:55296≤n
         ·exact q
         ·exfalso;apply hnp;have e1:n<55296:=by omega
          have e2:n≤1114111:=by omega
          simp[bT,hn0,e1,e2]
        have h3:56320≤k∧k≤57343:=by
         constructor
         ·by_cases q:k<56320
          ·exact absurd (.inl q) hk
          ·omega
         ·by_cases q:57343<k
          ·exact absurd (.inr q) hk
          ·omega
        have e1:(0:Int)≤65536+(n-55296)*1024+k-56320:=by omega
        have e2:65536+(n-55296)*1024+k-56320≤1114111:=by omega
        have e3:57343<65536+(n-55296)*1024+k-56320:=by omega
        unfold bT;rw[decide_eq_true e1,decide_eq_true e2,decide_eq_true e3];simp
  ·cases h
theorem Vs (s:List UInt8) (a n:Nat) (h:a+n≤s.length) (hs:s.length≤1099511627776):dW.ev (.bU true true) [.str s,.int .i64 (a:Int),.int .i64 (IntKind.i64.wrap ((a:Int)+(n:Int)))]=some (.str ((s.drop a).take n)):=by
 have hw:IntKind.i64.wrap ((a:Int)+(n:Int))=((a+n:Nat):Int):=by rw[w64 (by omega) (by omega)];rfl
 have c1:((a+n:Nat):Int)≤(s.length:Int):=by omega
 have c2:(a:Int)≤((a+n:Nat):Int):=by omega
 have c3:(0:Int)≤(a:Int):=by omega
 have c4:(0:Int)≤((a+n:Nat):Int):=by omega
 rw[hw];have c5:a+n-a=n:=by omega
 generalize a+n=j at *;simp[dW.ev,f9,fO,mx,c1,c2,c3,c4,c5]
theorem Yp (s:List UInt8) (a:Nat) (bad:Int) (out:IV) (id:Nat) (m:IM) (hm:m.get id=dw s a bad 0):vo id out m=some (.normal,[.pB id 0,out,.bool (match s[a]? with | some c=>decide (c.toNat<32) | none=>true)],[],m):=by
 cases hs:s[a]? with
 |none =>
  have hge:=List.getElem?_eq_none_iff.1 hs;have c1:(s.length:Int)≤(a:Int):=by omega
  simp[vo,go_sem,gD hm,ki hm,c1]
 |some c =>
  have hlt:=dP hs;have c1:¬(s.length:Int)≤(a:Int):=by omega
  have g:decide ((c.toNat:Int)<32)=decide (c.toNat<32):=by
   by_cases q:c.toNat<32
   ·rw[decide_eq_true q,decide_eq_true (by omega)]
   ·rw[decide_eq_false q,decide_eq_false (by omega)]
  simp[vo,go_sem,gD hm,ki hm,c1,au (Cp hs),g]
def MQ (x:Option LR) (s:List UInt8) (id:Nat) (m:IM) (b:Nat) (c:Int):Prop:=c=19∧∃a':Nat,a'≤s.length∧(x=some (.exit 0,[],[],aW m id (dw s a' b c))∨∃t,x=some (.ret,[.str t],[],aW m id (dw s a' b c)))
set_option maxHeartbeats 1000000 in
set_option maxRecDepth 100000 in
theorem Yt (s:List UInt8) (hs:s.length≤100000) (id:Nat) (bad:Int):∀(n a:Nat) (acc:List UInt8) (m:IM) (r:Rd (List UInt8)),nx s n a acc=some r→a≤s.length→1≤a→acc.length≤4*a→m.get id=dw s a bad 0 →
  match r with
  |.ok x a'=>ra id (oa acc) m=some (.ret,[.str x],[],aW m id (dw s a' bad 0))∧a'≤s.length∧x.length≤4*a'
  |.err b c=>MQ (ra id (oa acc) m) s id m b c:=by
 have hml:aH=1099511627776:=rfl;intro n
 induction n with
 |zero=>intro a acc m r h;cases h
 |succ n ih =>
  intro a acc m r h ha ha1 hacc hm;have hC:=Yp s a bad (oa acc) id m hm;have hwr:=pQ s a bad 0 id m hm;have hcw:=fun (K2:IV→IM→Option (St⊕LR))=>ae hwr (by simp[go_sem]) K2;simp only[lW,if_true,kR] at hcw;have hm19:(aW m id (dw s a a 19)).get id=dw s a a 19:=dI hm;have hbad:vo id (oa acc) m=some (.normal,[.pB id 0,oa acc,.bool true],[],m)→ra id (oa acc) m=some (.exit 0,[],[],aW m id (dw s a a 19)):=by
   intro hC;have step:gK y9 (mW id (oa acc) m)=ra id (oa acc) (aW m id (dw s a a 19)):=by simp only[mW,go_sem,kh hm,hC,hcw,rQ,beq_self_eq_true,if_true];rfl
   rw[kG,step,kG];simp only[mW,go_sem,kh hm19,show ((19:Int)==0)=false from rfl,Bool.false_eq_true,if_false]
  unfold nx at h
  cases hq:s[a]? with
  |none =>
   rw[hq] at h hC
   cases h
   exact⟨rfl,a,ha,.inl (hbad hC)⟩
  |some c =>
   rw[hq] at h hC;simp only at h hC;have hlt:=dP hq;by_cases g1:c.toNat<32
   ·rw[if_pos g1] at h;rw[decide_eq_true g1] at hC
    cases h
    exact⟨rfl,a,ha,.inl (hbad hC)⟩
   ·rw[if_neg g1] at h;rw[decide_eq_false g1] at hC;have hsq:=oR s a bad 0 34 id m (by omega) hm;have hsb:=oR s a bad 0 92 id m (by omega) hm;rw[hq] at hsq hsb;by_cases g2:c=34
    ·rw[if_pos g2] at h;subst g2;rw[if_pos ⟨rfl,rfl⟩] at hsq;have hcq:=fun (K2:IV→IM→Option (St⊕LR))=>ae hsq (by simp[go_sem]) K2;rw[show ((34:UInt8).toNat:Int)=34 from rfl] at hcq
     cases h
     refine⟨?_,hlt,by omega⟩;rw[kG];simp only[mW,go_sem,kh hm,hC,hcq,au (FI acc),beq_self_eq_true,if_true,Bool.false_eq_true,if_false]
    ·rw[if_neg g2] at h;rw[if_neg (fun q=>g2 (Option.some.inj q.2))] at hsq;have hcq:=fun (K2:IV→IM→Option (St⊕LR))=>ae hsq (by simp[go_sem]) K2;rw[show ((34:UInt8).toNat:Int)=34 from rfl] at hcq;by_cases g3:c=92
     ·rw[if_pos g3] at h;subst g3;rw[if_pos ⟨rfl,rfl⟩] at hsb;have hcb:=fun (K2:IV→IM→Option (St⊕LR))=>ae hsb (by simp[go_sem]) K2;rw[show ((92:UInt8).toNat:Int)=92 from rfl] at hcb;have hm1:(aW m id (dw s (a+1:Nat) bad 0)).get id=dw s (a+1:Nat) bad 0:=dI hm;have he:=Ui s (by omega) id bad (a+1) _ hlt (by omega) hm1
      cases hE:wH s (a+1) with
      |err b e =>
       rw[hE] at h he
       cases h
       simp only at he;obtain⟨rfl,t,a',ht4,hal,he⟩:=he;rw[az] at he;have hce:=fun (K2:IV→IM→Option (St⊕LR))=>ae he (by simp[go_sem]) K2;have hm2:(aW m id (dw s a' b 19)).get id=dw s a' b 19:=dI hm;refine⟨rfl,a',hal,.inl ?_⟩;have step:gK y9 (mW id (oa acc) m)=ra id (oa (acc++t)) (aW m id (dw s a' b 19)):=by simp only[mW,go_sem,kh hm,hC,hcq,hcb,hce,jb (fx t),fj,Nat.mul_one,Nat.beq_refl,vS acc t (by omega),rQ,beq_self_eq_true,if_true,Bool.false_eq_true,if_false];rfl
       rw[kG,step,kG];simp only[mW,go_sem,kh hm2,show ((19:Int)==0)=false from rfl,Bool.false_eq_true,if_false]
      |ok x a' =>
       rw[hE] at h he;simp only at h he;obtain⟨he,hal,hlt2⟩:=he;rw[az] at he;have hx4:=Cl hE;have hce:=fun (K2:IV→IM→Option (St⊕LR))=>ae he (by simp[go_sem]) K2;have hm2:(aW m id (dw s a' bad 0)).get id=dw s a' bad 0:=dI hm;have step:gK y9 (mW id (oa acc) m)=ra id (oa (acc++x)) (aW m id (dw s a' bad 0)):=by simp only[mW,go_sem,kh hm,hC,hcq,hcb,hce,jb (fx x),fj,Nat.mul_one,Nat.beq_refl,vS acc x (by omega),rQ,beq_self_eq_true,if_true,Bool.false_eq_true,if_false];rfl
       have hi:=ih a' (acc++x) _ r h hal (by omega) (by rw[List.length_append];omega) hm2;rw[kG,step]
       cases r with
       |ok y a2=>simpa only[az] using hi
       |err b e=>simpa only[MQ,az] using hi
     ·rw[if_neg g3] at h;rw[if_neg (fun q=>g3 (Option.some.inj q.2))] at hsb;have hcb:=fun (K2:IV→IM→Option (St⊕LR))=>ae hsb (by simp[go_sem]) K2;rw[show ((92:UInt8).toNat:Int)=92 from rfl] at hcb;obtain⟨t,ht⟩:∃t,s.drop a=c::t:=⟨s.drop (a+1),by
       rw[List.drop_eq_getElem_cons hlt];have:=(List.getElem?_eq_some_iff.1 hq).2;rw[this]⟩
      have h57:=D5 c t m;rw[←ht] at h57;have hc57:=fun (K2:IV→IM→Option (St⊕LR))=>ae h57 (by simp[go_sem]) K2;have hbl:=Hg (s.drop a);rw[List.length_drop] at hbl;have hb4:=yS (s.drop a);have hbp:=ph (s.drop a);simp only[lp] at hc57;generalize aI (s.drop a)=B at *;obtain⟨sz,w,p⟩:=B;simp only at *
      cases w with
      |false =>
       cases h
       refine⟨rfl,a,ha,.inr ⟨[],?_⟩⟩;rw[kG];simp only[mW,go_sem,kh hm,gD hm,ki hm,hC,hcq,hcb,au (H4 s a ha),hc57,hcw,Bool.not_false,beq_self_eq_true,if_true,Bool.false_eq_true,if_false]
      |true =>
       have hsz:=hbp rfl;simp only[if_true] at h;have htl:((s.drop a).take sz).length=sz:=by rw[List.length_take,List.length_drop];omega
       have hm2:(aW m id (dw s (a+sz:Nat) bad 0)).get id=dw s (a+sz:Nat) bad 0:=dI hm;have hw:IntKind.i64.wrap ((a:Int)+(sz:Int))=((a+sz:Nat):Int):=by rw[w64 (by omega) (by omega)];rfl
       have hsl:=Vs s a sz (by omega) (by omega);rw[hw] at hsl;have step:gK y9 (mW id (oa acc) m)=ra id (oa (acc++(s.drop a).take sz)) (aW m id (dw s (a+sz:Nat) bad 0)):=by generalize (s.drop a).take sz=T at *;generalize a+sz=j at *;simp only[mW,go_sem,kh hm,gD hm,ki hm,hC,hcq,hcb,au (H4 s a ha),hc57,hw,au hsl,jb (fx T),fj,Nat.mul_one,Nat.beq_refl,vS acc T (by omega),rQ,Dl hm,Bool.not_true,beq_self_eq_true,if_true,Bool.false_eq_true,if_false];rfl
       have hi:=ih (a+sz) (acc++(s.drop a).take sz) _ r h (by omega) (by omega) (by rw[List.length_append,htl];omega) hm2;rw[kG,step]
       cases r with
       |ok y a2=>simpa only[az] using hi
       |err b e=>simpa only[MQ,az] using hi
theorem Qk (s:List UInt8) (hs:s.length≤100000) (id:Nat) (bad:Int) (n a:Nat) (m:IM) (r:Rd (List UInt8)) (h:nx s n a []=some r) (ha:a≤s.length) (ha1:1≤a) (hm:m.get id=dw s a bad 0) :
  match r with
  |.ok x a'=>cw (.f 71) [.pB id 0] m=some (.str x,aW m id (dw s a' bad 0))∧a'≤s.length∧x.length≤4*a'
  |.err b c=>c=19∧∃(t:List UInt8) (a':Nat),a'≤s.length∧cw (.f 71) [.pB id 0] m=some (.str t,aW m id (dw s a' b c)):=by
 have hL:=Yt s hs id bad n a [] m r h ha ha1 (by simp) hm
 cases r with
 |ok x a' =>simp only at hL ⊢;refine⟨?_,hL.2⟩;apply vx;have h1:=hL.1;simp only[oa] at h1;simp[VW,go_sem,h1]
 |err b c =>
  simp only[MQ] at hL ⊢;obtain⟨rfl,a',hal,h1 | ⟨t,h1⟩⟩:=hL
  ·refine⟨rfl,[],a',hal,?_⟩;apply vx;simp only[oa] at h1;simp[VW,go_sem,h1]
  ·refine⟨rfl,t,a',hal,?_⟩;apply vx;simp only[oa] at h1;simp[VW,go_sem,h1]
theorem xQ (s:List UInt8):∀(n a:Nat) (acc x:List UInt8) (a':Nat),nx s n a acc=some (.ok x a')→a<a':=by
 intro n
 induction n with
 |zero=>intro a acc x a' h;cases h
 |succ n ih =>
  intro a acc x a' h;unfold nx at h
  cases hq:s[a]? with
  |none=>rw[hq] at h;simp only[Option.some.injEq] at h;exact (eD h).elim
  |some c =>
   rw[hq] at h;simp only at h;split at h
   ·simp only[Option.some.injEq] at h;exact (eD h).elim
   ·split at h
    ·simp only[Option.some.injEq] at h;obtain⟨_,rfl⟩:=Rd.ok.inj h;omega
    ·split at h
     ·split at h
      ·simp only[Option.some.injEq] at h;exact (eD h).elim
      ·rename_i x2 a2 hE;have:=ih _ _ _ _ h;have h2:=Cm hE;omega
     ·split at h
      ·rename_i hw;have:=ih _ _ _ _ h;have:=ph _ hw;omega
      ·simp only[Option.some.injEq] at h;exact (eD h).elim
theorem cq (c:UInt8) (k:Nat):((c.toNat:Int)==((k:Nat):Int))=decide (c.toNat=k):=by
 by_cases h:c.toNat=k
 ·subst h;simp
 ·rw[decide_eq_false h];simp;omega
def kd (o:Bool):Int:=if o then 5 else 4
def cl (o:Bool):UInt8:=if o then 125 else 93
def w7 (s:List UInt8) (n:Nat) (o:Bool) (a:Nat):Option (Rd (List (List UInt8))) :=
 if o then (if s[dz s a]?=some 34 then (match nx s n (dz s a+1) [] with
   |none=>none
   |some (.err b c)=>some (.err b c)
   |some (.ok t a2)=>if s[dz s a2]?=some 58 then some (.ok [t] (dz s a2+1)) else some (.err (dz s a2) 19)) else some (.err (dz s a) 19))
 else some (.ok [] a)
def mK (s w:List UInt8) (a:Nat) (v:dL):Rd dL:=match lz s w a with
 |.ok _ a'=>.ok v a'
 |.err b c=>.err b c
mutual
def lr (s:List UInt8):Nat→Int→Nat→Option (Rd dL)
 |0,_,_=>none
 |n+1,lvl,a=>match s[dz s a]? with
  |none=>some (.err (dz s a) 19)
  |some c =>
   if c.toNat=110 then some (mK s [110,117,108,108] (dz s a) (.mk 0 [] [] []))
   else if c.toNat=116 then some (mK s [116,114,117,101] (dz s a) (.mk 1 [116,114,117,101] [] []))
   else if c.toNat=102 then some (mK s [102,97,108,115,101] (dz s a) (.mk 1 [102,97,108,115,101] [] []))
   else if c.toNat=34 then (match nx s n (dz s a+1) [] with
    |none=>none
    |some (.err b e)=>some (.err b e)
    |some (.ok t a')=>some (.ok (.mk 3 t [] []) a'))
   else if c.toNat=91∨c.toNat=123 then (if lvl>40 then some (.err (dz s a) 21) else lj s n (decide (c.toNat=123)) lvl (dz s a+1))
   else if c.toNat=45∨fS c=true then (if (gf s (dz s a)).2=true then some (.ok (.mk 2 ((s.drop (dz s a)).take ((gf s (dz s a)).1-dz s a)) [] []) (gf s (dz s a)).1) else some (.err (gf s (dz s a)).1 19))
   else some (.err (dz s a) 19)
def lj (s:List UInt8):Nat→Bool→Int→Nat→Option (Rd dL)
 |0,_,_,_=>none
 |n+1,o,lvl,a=>if s[dz s a]?=some (cl o) then some (.ok (.mk (kd o) [] [] []) (dz s a+1)) else md s n o lvl (dz s a) [] []
def md (s:List UInt8):Nat→Bool→Int→Nat→List (List UInt8)→List dL→Option (Rd dL)
 |0,_,_,_,_,_=>none
 |n+1,o,lvl,a,ks,vs=>match w7 s n o a with
  |none=>none
  |some (.err b e)=>some (.err b e)
  |some (.ok k a4)=>match lr s n (lvl+1) a4 with
   |none=>none
   |some (.err b e)=>some (.err b e)
   |some (.ok v a5)=>if s[dz s a5]?=some (cl o) then some (.ok (.mk (kd o) [] (ks++k) (vs++[v])) (dz s a5+1))
    else if s[dz s a5]?=some 44 then md s n o lvl (dz s a5+1) (ks++k) (vs++[v]) else some (.err (dz s a5) 19)
end
theorem mU.app {K:IV}{ks:List (List UInt8)}(h:mU K ks) (x:List UInt8) (hb:(ks.length+1)*16≤aH):∃K',mU K' (ks++[x])∧∀{R:Type}(f:IV→Option R),j9 K 1 16 [.str x] 1 f=f K':=by
 have hb2:1*16≤aH:=by decide
 rcases h with ⟨rfl,rfl⟩ | rfl
 ·refine⟨.sl [.str x] 1,.inr rfl,fun f=>?_⟩;simp[j9,bg,bO,hb2]
 ·refine⟨.sl (ks.map .str++[.str x]) (ks.length+1),.inr (by simp),fun f=>?_⟩;simp[j9,bO,hb]
theorem nX.app:∀{vs:List dL}{r:List IV}{v:dL}{c:List IV},nX vs r→gh v c→nX (vs++[v]) (r++c)
 |_,_,_,c,.nil,h=>by
  have:=nX.cons h .nil;simpa using this
 |_,_,_,_,.cons hv hr,h=>by
  rw[List.cons_append,List.append_assoc];exact .cons hv (hr.app h)
theorem mL.app {V:IV}{vs:List dL}(h:mL V vs) {v:dL}{c:List IV}(hc:gh v c) (hb:(vs.length+1)*72≤aH):∃V',mL V' (vs++[v])∧∀{R:Type}(f:IV→Option R),j9 V 4 72 c 1 f=f V':=by
 have hb2:1*72≤aH:=by decide
 cases h with
 |nil =>refine⟨.sl c 1,.sl (by simpa using nX.cons hc .nil) rfl,fun f=>?_⟩;simp[j9,bg,bO,hb2]
 |sl hr hn =>subst hn;refine⟨.sl (_++c) (vs.length+1),.sl (hr.app hc) (by simp),fun f=>?_⟩;have:=hr.len;simp[j9,bO,hb,this,Nat.mul_comm]
theorem V7 (s:List UInt8) (a:Nat) (bad lvl n:Int) (t:List UInt8) (v v1:IV) (id:Nat) (m:IM) (hm:m.get id=dw s a bad 0) :
  DK id lvl n t v v1 m=some (.normal,[.pB id 0,.int .i64 lvl,.bool (decide (s.length≤a))],[.cells [.int .i64 n,.str t,v,v1] [.any,.any,.own 1,.own 4]],m):=by
 have g:decide ((s.length:Int)≤(a:Int))=decide (s.length≤a):=by
  by_cases q:s.length≤a
  ·rw[decide_eq_true q,decide_eq_true (by omega)]
  ·rw[decide_eq_false q,decide_eq_false (by omega)]
 simp[DK,go_sem,gD hm,kh hm,ki hm,g]
theorem V8 (lvl fr n:Int) (c:UInt8) (t:List UInt8) (v v1:IV) (id:Nat) (m:IM) :
  vj id lvl fr c.toNat c.toNat n t v v1 m=some (.normal,[.pB id 0,.int .i64 lvl,.int .i64 fr,.int .u8 (c.toNat:Int),.int .u8 (c.toNat:Int),.bool (decide (c.toNat=91∨c.toNat=123))],[.cells [.int .i64 n,.str t,v,v1] [.any,.any,.own 1,.own 4]],m):=by
 have q1:((c.toNat:Int)==91)=decide (c.toNat=91):=cq c 91;have q2:((c.toNat:Int)==123)=decide (c.toNat=123):=cq c 123;by_cases h1:c.toNat=91
 ·simp[vj,go_sem,q1,q2,h1]
 ·by_cases h2:c.toNat=123
  ·simp[vj,go_sem,q1,q2,h1,h2]
  ·simp only[vj,bg,q1,q2,h1,h2,decide_false,Bool.false_eq_true,if_false,or_self]
theorem V9 (fr n:Int) (c:UInt8) (t:List UInt8) (v v1:IV) (id:Nat) (m:IM) :
  DL id fr c.toNat n t v v1 m=some (.normal,[.pB id 0,.int .i64 fr,.bool (decide (c.toNat=45∨fS c=true))],[.cells [.int .i64 n,.str t,v,v1] [.any,.any,.own 1,.own 4]],m):=by
 have q0:((c.toNat:Int)==45)=decide (c.toNat=45):=cq c 45;have q1:((c.toNat:Int)==48)=decide (c.toNat=48):=cq c 48;have q2:((c.toNat:Int)==49)=decide (c.toNat=49):=cq c 49;have q3:((c.toNat:Int)==50)=decide (c.toNat=50):=cq c 50;have q4:((c.toNat:Int)==51)=decide (c.toNat=51):=cq c 51;have q5:((c.toNat:Int)==52)=decide (c.toNat=52):=cq c 52;have q6:((c.toNat:Int)==53)=decide (c.toNat=53):=cq c 53;have q7:((c.toNat:Int)==54)=decide (c.toNat=54):=cq c 54;have q8:((c.toNat:Int)==55)=decide (c.toNat=55):=cq c 55;have q9:((c.toNat:Int)==56)=decide (c.toNat=56):=cq c 56;have qa:((c.toNat:Int)==57)=decide (c.toNat=57):=cq c 57;simp only[DL,bg,q0,q1,q2,q3,q4,q5,q6,q7,q8,q9,qa,decide_eq_true_eq];have hdig:fS c=true↔48≤c.toNat∧c.toNat≤57:=by simp[fS]
 by_cases hy:c.toNat=45∨fS c=true
 ·rw[decide_eq_true hy];rw[hdig] at hy;generalize c.toNat=x at *;have:x=45∨x=48∨x=49∨x=50∨x=51∨x=52∨x=53∨x=54∨x=55∨x=56∨x=57:=by omega
  rcases this with h | h | h | h | h | h | h | h | h | h | h<;>subst h<;>simp
 ·rw[decide_eq_false hy];rw[hdig] at hy;generalize c.toNat=x at *;rw[if_neg (by omega),if_neg (by omega),if_neg (by omega),if_neg (by omega),if_neg (by omega),if_neg (by omega),if_neg (by omega),if_neg (by omega),if_neg (by omega),if_neg (by omega),decide_eq_false (by omega)]
theorem mU.iy {K:IV}{ks:List (List UInt8)}(h:mU K ks) {R:Type}(X:Option R):Idl.iy K X=X:=by rcases h with ⟨rfl,_⟩ | rfl<;>rfl
theorem mL.iy {K:IV}{ks:List dL}(h:mL K ks) {R:Type}(X:Option R):Idl.iy K X=X:=by cases h<;>rfl
def QP (X:Option (IV×IM)) (s:List UInt8) (id:Nat) (bad:Int) (m:IM):Rd dL→Prop
 |.ok v a'=>∃c,gh v c∧X=some (.agg c,aW m id (dw s a' bad 0))∧a'≤s.length
 |.err b e=>(e=19∨e=21)∧∃(k:Int) (t:List UInt8) (a':Nat),a'≤s.length∧X=some (.agg [.int .i64 k,.str t,.aa,.aa],aW m id (dw s a' b e))
def QO (X:Option LR) (s:List UInt8) (id:Nat) (bad:Int) (m:IM):Rd dL→Prop
 |.ok v a'=>∃c,gh v c∧X=some (.ret,[],[.cells c [.any,.any,.any,.any]],aW m id (dw s a' bad 0))∧a'≤s.length
 |.err b e=>(e=19∨e=21)∧∃(k:Int) (t:List UInt8) (a':Nat),a'≤s.length∧X=some (.ret,[],[D3 k t],aW m id (dw s a' b e))
theorem xX {R:Type}(s:List UInt8) (a bad:Int) (id:Nat) (m:IM) (hm:m.get id=dw s a bad 0) (K2:IV→IM→Option R):an cw (.f 45) [.pB id 0] [] m K2=K2 kR (aW m id (dw s a a 19)):=by have h:=pQ s a bad 0 id m hm;simp only[lW,if_true] at h;exact ae h (by simp[go_sem]) K2
theorem Fc {R:Type}(s:List UInt8) (a bad e:Int) (he:e≠0) (id:Nat) (m:IM) (hm:m.get id=dw s a bad e) (K2:IV→IM→Option R):an cw (.f 45) [.pB id 0] [] m K2=K2 kR m:=by have h:=pQ s a bad e id m hm;simp only[lW,if_neg he,mu hm] at h;exact ae h (by simp[go_sem]) K2
theorem M8 {R:Type}(s:List UInt8) (hs:s.length≤1099511627776) (a:Nat) (ha:a≤s.length) (bad e:Int) (id:Nat) (m:IM) (hm:m.get id=dw s a bad e) (K2:IV→IM→Option R):an cw (.f 44) [.pB id 0] [] m K2=K2 (.db []) (aW m id (dw s (dz s a:Nat) bad e)) :=
 ae (Jg s hs a ha bad e id m hm) (by simp[go_sem]) K2
theorem Vr {R:Type}(s:List UInt8) (a:Nat) (bad:Int) (c:UInt8) (id:Nat) (m:IM) (ha:a≤1099511627776) (hm:m.get id=dw s a bad 0) (h:s[a]?=some c) (K2:IV→IM→Option R):an cw (.f 97) [.pB id 0,.int .u8 (c.toNat:Int)] [] m K2=K2 (.bool true) (aW m id (dw s (a+1:Nat) bad 0)):=by have hk:=oR s a bad 0 c id m ha hm;rw[if_pos ⟨rfl,h⟩] at hk;exact ae hk (by simp[go_sem]) K2
theorem Vq {R:Type}(s:List UInt8) (a:Nat) (bad:Int) (c:UInt8) (id:Nat) (m:IM) (ha:a≤1099511627776) (hm:m.get id=dw s a bad 0) (h:¬s[a]?=some c) (K2:IV→IM→Option R):an cw (.f 97) [.pB id 0,.int .u8 (c.toNat:Int)] [] m K2=K2 (.bool false) m:=by have hk:=oR s a bad 0 c id m ha hm;rw[if_neg (fun q=>h q.2)] at hk;exact ae hk (by simp[go_sem]) K2
theorem Xy {R:Type}(s:List UInt8) (a:Nat) (bad e:Int) (he:e≠0) (c:UInt8) (id:Nat) (m:IM) (ha:a≤1099511627776) (hm:m.get id=dw s a bad e) (K2:IV→IM→Option R):an cw (.f 97) [.pB id 0,.int .u8 (c.toNat:Int)] [] m K2=K2 (.bool false) m:=by have hk:=oR s a bad e c id m ha hm;rw[if_neg (fun q=>he q.1)] at hk;exact ae hk (by simp[go_sem]) K2
set_option maxHeartbeats 1000000 in
theorem Yq (s:List UInt8) (hs:s.length≤100000) (id:Nat) (bad lvl:Int) (n a:Nat) (o:Bool) (K V:IV) (ks:List (List UInt8)) (hK:mU K ks) (hkl:ks.length≤a) (m:IM) (r:Rd (List (List UInt8))) (h:w7 s n o a=some r) (ha:a≤s.length) (hm:m.get id=dw s a bad 0) :
  match r with
  |.ok k a4=>a4≤s.length∧a≤a4∧(ks++k).length≤a4∧∃K',mU K' (ks++k)∧og id (cl o).toNat lvl (kd o) [] K V 0 [] .aa .aa m=some (.normal,[.pB id 0,.int .u8 ((cl o).toNat:Int),.int .i64 lvl],[.cells [.int .i64 (kd o),.str [],K',V] [.any,.any,.own 1,.own 4],xZ 0 []],aW m id (dw s a4 bad 0))
  |.err b e=>e=19∧∃a',a'≤s.length∧og id (cl o).toNat lvl (kd o) [] K V 0 [] .aa .aa m=some (.ret,[],[D3 0 []],aW m id (dw s (a':Nat) b e)):=by
 have hml:aH=1099511627776:=rfl;unfold w7 at h
 cases o with
 |false =>simp only[Bool.false_eq_true,if_false,Option.some.injEq] at h;subst h;refine⟨ha,Nat.le_refl _,by simpa using hkl,K,by simpa using hK,?_⟩;simp[og,go_sem,kd,mu hm,xZ]
 |true =>
  simp only[if_true] at h;have hb:=jg ha;have hm1:(aW m id (dw s (dz s a:Nat) bad 0)).get id=dw s (dz s a:Nat) bad 0:=dI hm;have h0:=fun (K2:IV→IM→Option LR)=>M8 s (by omega) a ha bad 0 id m hm K2;have hnn:IV.aa.refs=some 0:=rfl;by_cases g:s[dz s a]?=some 34
  ·rw[if_pos g] at h;have h1:=fun (K2:IV→IM→Option LR)=>Vr s (dz s a) bad 34 id _ (by omega) hm1 g K2;rw[show ((34:UInt8).toNat:Int)=34 from rfl] at h1;simp only[az] at h1;have hlt:=dP g;have hm2:(aW m id (dw s (dz s a+1:Nat) bad 0)).get id=dw s (dz s a+1:Nat) bad 0:=dI hm
   cases hS:nx s n (dz s a+1) [] with
   |none=>rw[hS] at h;cases h
   |some q =>
    rw[hS] at h;have h71:=Qk s hs id bad n (dz s a+1) _ q hS hlt (by omega) hm2
    cases q with
    |err b c =>simp only[Option.some.injEq] at h h71;subst h;obtain⟨rfl,t,a',hal,h71⟩:=h71;simp only[az] at h71;have h2:=fun (K2:IV→IM→Option LR)=>ae h71 (by simp[go_sem]) K2;have hm3:(aW m id (dw s a' b 19)).get id=dw s a' b 19:=dI hm;have h3:=fun (K2:IV→IM→Option LR)=>M8 s (by omega) a' hal b 19 id _ hm3 K2;simp only[az] at h3;have hm4:(aW m id (dw s (dz s a':Nat) b 19)).get id=dw s (dz s a':Nat) b 19:=dI hm;have hb2:=jg hal;have h4:=fun (K2:IV→IM→Option LR)=>Xy s (dz s a') b 19 (by omega) 58 id _ (by omega) hm4 K2;rw[show ((58:UInt8).toNat:Int)=58 from rfl] at h4;have h5:=fun (K2:IV→IM→Option LR)=>Fc s (dz s a':Nat) b 19 (by omega) id _ hm4 K2;obtain⟨K',hK',hap⟩:=hK.app t (by omega);refine⟨rfl,dz s a',hb2.2,?_⟩;simp only[og,go_sem,kd,if_true,beq_self_eq_true,h0,h1,h2,h3,h4,h5,hap,hK'.iy,af hK'.refs,kR,Bool.not_true,Bool.not_false,Bool.false_eq_true,if_false,af hnn,D3]
    |ok t a2 =>
     simp only at h h71;obtain⟨h71,hal,htl⟩:=h71;simp only[az] at h71;have hadv:=xQ _ _ _ _ _ _ hS;have h2:=fun (K2:IV→IM→Option LR)=>ae h71 (by simp[go_sem]) K2;have hm3:(aW m id (dw s a2 bad 0)).get id=dw s a2 bad 0:=dI hm;have h3:=fun (K2:IV→IM→Option LR)=>M8 s (by omega) a2 hal bad 0 id _ hm3 K2;simp only[az] at h3;have hm4:(aW m id (dw s (dz s a2:Nat) bad 0)).get id=dw s (dz s a2:Nat) bad 0:=dI hm;have hb2:=jg hal;obtain⟨K',hK',hap⟩:=hK.app t (by omega);by_cases g2:s[dz s a2]?=some 58
     ·rw[if_pos g2] at h
      cases h
      have hlt2:=dP g2;have h4:=fun (K2:IV→IM→Option LR)=>Vr s (dz s a2) bad 58 id _ (by omega) hm4 g2 K2;rw[show ((58:UInt8).toNat:Int)=58 from rfl] at h4;simp only[az] at h4;refine⟨hlt2,by omega,by rw[List.length_append];simp;omega,K',hK',?_⟩;simp only[og,go_sem,kd,if_true,beq_self_eq_true,h0,h1,h2,h3,h4,hap,hK'.iy,af hK'.refs,Bool.not_true,Bool.not_false,Bool.false_eq_true,if_false,xZ]
     ·rw[if_neg g2] at h
      cases h
      have h4:=fun (K2:IV→IM→Option LR)=>Vq s (dz s a2) bad 58 id _ (by omega) hm4 g2 K2;rw[show ((58:UInt8).toNat:Int)=58 from rfl] at h4;have h5:=fun (K2:IV→IM→Option LR)=>xX s (dz s a2:Nat) bad id _ hm4 K2;simp only[az] at h5;refine⟨rfl,dz s a2,hb2.2,?_⟩;simp only[og,go_sem,kd,if_true,beq_self_eq_true,h0,h1,h2,h3,h4,h5,hap,hK'.iy,af hK'.refs,kR,Bool.not_true,Bool.not_false,Bool.false_eq_true,if_false,af hnn,D3]
  ·rw[if_neg g] at h
   cases h
   have h1:=fun (K2:IV→IM→Option LR)=>Vq s (dz s a) bad 34 id _ (by omega) hm1 g K2;rw[show ((34:UInt8).toNat:Int)=34 from rfl] at h1;have h2:=fun (K2:IV→IM→Option LR)=>xX s (dz s a:Nat) bad id _ hm1 K2;simp only[az] at h2;refine⟨rfl,dz s a,hb.2,?_⟩;simp only[og,go_sem,kd,if_true,beq_self_eq_true,h0,h1,h2,kR,Bool.not_true,Bool.not_false,Bool.false_eq_true,if_false,af hnn,D3]
theorem JF (s:List UInt8) (a:Nat):a≤lV s (s.length+1) a:=wC s _ a
theorem RK (s:List UInt8) (a:Nat):a≤nm s a:=by unfold nm;split<;>omega
theorem RO (s:List UInt8) (a:Nat):a≤uw s a:=by unfold uw;split<;>omega
theorem RL (s:List UInt8) (a:Nat):a≤(rP s a).1:=by
 unfold rP;split
 ·have:=JF s (a+1);simp only;omega
 ·exact Nat.le_refl _
theorem RM (s:List UInt8) (a:Nat):a≤(ya s a).1:=by
 unfold ya;split
 ·have:=JF s (uw s (a+1));have:=RO s (a+1);simp only;omega
 ·exact Nat.le_refl _
theorem A4 {s:List UInt8}{a:Nat}(h:a≤s.length):(gf s a).1≤s.length:=by
 unfold gf;split
 ·exact xt h
 ·split
  ·exact RN (A0 (AZ (xt h)))
  ·exact A0 (AZ (xt h))
theorem u7 {s:List UInt8}{a:Nat}(h:(gf s a).2=true):a<(gf s a).1:=by
 unfold gf at h ⊢;split at h
 ·cases h
 ·rename_i h1;rw[if_neg h1];have e1:=RK s a;have e2:nm s a<yi s (nm s a):=by
   unfold yi;split
   ·omega
   ·have:=JF s (nm s a);omega
  have e3:=RL s (yi s (nm s a));split
  ·have e4:=RM s (rP s (yi s (nm s a))).1;omega
  ·omega
theorem zC (s:List UInt8):∀(w:List UInt8) (a a':Nat) (u:Unit),lz s w a=.ok u a'→a'=a+w.length
 |[],a,a',u,h=>by obtain⟨_,rfl⟩:=Rd.ok.inj h;rfl
 |c::r,a,a',u,h=>by
  unfold lz at h;split at h
  ·have:=zC s r _ _ _ h;rw[List.length_cons];omega
  ·exact (eD h).elim
theorem Ia {s w:List UInt8}{a a':Nat}{v v':dL}(h:mK s w a v=.ok v' a'):a'=a+w.length:=by
 unfold mK at h;split at h
 ·rename_i u b hw;obtain⟨_,rfl⟩:=Rd.ok.inj h;exact zC s w _ _ _ hw
 ·exact (eD h).elim
theorem Cu {s:List UInt8}{n:Nat}{o:Bool}{a:Nat}{k:List (List UInt8)}{a':Nat}(h:w7 s n o a=some (.ok k a')) (ha:a≤s.length):a≤a'∧a'≤s.length:=by
 unfold w7 at h;have hb:=jg ha;split at h
 ·split at h
  ·split at h
   ·cases h
   ·simp only[Option.some.injEq] at h;exact (eD h).elim
   ·rename_i t a2 hS;have:=xQ _ _ _ _ _ _ hS;split at h
    ·rename_i g;simp only[Option.some.injEq] at h;obtain⟨_,rfl⟩:=Rd.ok.inj h;have hlt:=dP g;have hb2:a2≤dz s a2:=by
      by_cases q:a2≤s.length
      ·exact (jg q).1
      ·have e:dz s a2=a2:=by
        unfold dz;have:s.length+1-a2=0:=by omega
        rw[this];rfl
       omega
     exact⟨by omega,hlt⟩
    ·simp only[Option.some.injEq] at h;exact (eD h).elim
  ·simp only[Option.some.injEq] at h;exact (eD h).elim
 ·simp only[Option.some.injEq] at h;obtain⟨_,rfl⟩:=Rd.ok.inj h;exact⟨Nat.le_refl _,ha⟩
theorem Bo (s:List UInt8):∀(n a:Nat) (acc x:List UInt8) (a':Nat),nx s n a acc=some (.ok x a')→a'≤s.length:=by
 intro n
 induction n with
 |zero=>intro a acc x a' h;cases h
 |succ n ih =>
  intro a acc x a' h;unfold nx at h
  cases hq:s[a]? with
  |none=>rw[hq] at h;simp only[Option.some.injEq] at h;exact (eD h).elim
  |some c =>
   rw[hq] at h;simp only at h;split at h
   ·simp only[Option.some.injEq] at h;exact (eD h).elim
   ·split at h
    ·simp only[Option.some.injEq] at h;obtain⟨_,rfl⟩:=Rd.ok.inj h;exact dP hq
    ·split at h
     ·split at h
      ·simp only[Option.some.injEq] at h;exact (eD h).elim
      ·exact ih _ _ _ _ h
     ·split at h
      ·exact ih _ _ _ _ h
      ·simp only[Option.some.injEq] at h;exact (eD h).elim
theorem DF (s:List UInt8):∀(n:Nat),(∀lvl a v a',lr s n lvl a=some (.ok v a')→a≤s.length→a<a'∧a'≤s.length)∧(∀o lvl a v a',lj s n o lvl a=some (.ok v a')→a≤s.length→a<a'∧a'≤s.length)∧(∀o lvl a ks vs v a',md s n o lvl a ks vs=some (.ok v a')→a≤s.length→a<a'∧a'≤s.length):=by
 intro n
 induction n with
 |zero=>refine⟨fun lvl a v a' h _=>?_,fun o lvl a v a' h _=>?_,fun o lvl a ks vs v a' h _=>?_⟩<;>simp[lr,lj,md] at h
 |succ n ih =>
  obtain⟨ihV,ihI,ihL⟩:=ih;refine⟨?_,?_,?_⟩
  ·intro lvl a v a' h ha;have hb:=jg ha;unfold lr at h
   cases hq:s[dz s a]? with
   |none=>rw[hq] at h;simp only[Option.some.injEq] at h;exact (eD h).elim
   |some c =>
    rw[hq] at h;simp only at h;have hlt:=dP hq;have hw:∀(w:List UInt8) (v0:dL),w≠[]→mK s w (dz s a) v0=.ok v a'→a<a'∧a'≤s.length:=by
     intro w v0 hne hh;have e:=Ia hh;have:0<w.length:=List.length_pos_iff.2 hne;refine⟨by omega,?_⟩;have hle:∀(w:List UInt8) (b b':Nat) (u:Unit),b≤s.length→lz s w b=.ok u b'→b'≤s.length:=by
      intro w
      induction w with
      |nil=>intro b b' u hb h;obtain⟨_,rfl⟩:=Rd.ok.inj h;exact hb
      |cons x r ihw =>
       intro b b' u hb h;unfold lz at h;split at h
       ·rename_i g;exact ihw _ _ _ (dP g) h
       ·exact (eD h).elim
     unfold mK at hh;split at hh
     ·rename_i u b hw;obtain⟨_,rfl⟩:=Rd.ok.inj hh;exact hle w _ _ _ hb.2 hw
     ·exact (eD hh).elim
    split at h
    ·simp only[Option.some.injEq] at h;exact hw _ _ (by simp) h
    ·split at h
     ·simp only[Option.some.injEq] at h;exact hw _ _ (by simp) h
     ·split at h
      ·simp only[Option.some.injEq] at h;exact hw _ _ (by simp) h
      ·split at h
       ·split at h
        ·cases h
        ·simp only[Option.some.injEq] at h;exact (eD h).elim
        ·rename_i t a2 hS;simp only[Option.some.injEq] at h;obtain⟨_,rfl⟩:=Rd.ok.inj h;have:=xQ _ _ _ _ _ _ hS;exact⟨by omega,Bo _ _ _ _ _ _ hS⟩
       ·split at h
        ·split at h
         ·simp only[Option.some.injEq] at h;exact (eD h).elim
         ·have:=ihI _ _ _ _ _ h hlt;exact⟨by omega,this.2⟩
        ·split at h
         ·split at h
          ·rename_i hn;simp only[Option.some.injEq] at h;obtain⟨_,rfl⟩:=Rd.ok.inj h;have:=u7 hn;exact⟨by omega,A4 hb.2⟩
          ·simp only[Option.some.injEq] at h;exact (eD h).elim
         ·simp only[Option.some.injEq] at h;exact (eD h).elim
  ·intro o lvl a v a' h ha;have hb:=jg ha;unfold lj at h;split at h
   ·rename_i g;simp only[Option.some.injEq] at h;obtain⟨_,rfl⟩:=Rd.ok.inj h;exact⟨by omega,dP g⟩
   ·have:=ihL _ _ _ _ _ _ _ h hb.2;exact⟨by omega,this.2⟩
  ·intro o lvl a ks vs v a' h ha;unfold md at h;split at h
   ·cases h
   ·simp only[Option.some.injEq] at h;exact (eD h).elim
   ·rename_i k a4 hk;have hk2:=Cu hk ha;split at h
    ·cases h
    ·simp only[Option.some.injEq] at h;exact (eD h).elim
    ·rename_i v2 a5 hv;have hv2:=ihV _ _ _ _ hv hk2.2;have hb:=jg hv2.2;split at h
     ·rename_i g;simp only[Option.some.injEq] at h;obtain⟨_,rfl⟩:=Rd.ok.inj h;exact⟨by omega,dP g⟩
     ·split at h
      ·rename_i g;have:=ihL _ _ _ _ _ _ _ h (dP g);exact⟨by omega,this.2⟩
      ·simp only[Option.some.injEq] at h;exact (eD h).elim
def HV (s:List UInt8) (id n:Nat):Prop:=∀(lvl:Int) (a:Nat) (m:IM) (bad:Int) (r:Rd dL),lr s n lvl a=some r→0≤lvl→lvl≤41→a≤s.length→m.get id=dw s a bad 0 →
 QP (cw (.f 43) [.pB id 0,.int .i64 lvl] m) s id bad m r
def HI (s:List UInt8) (id n:Nat):Prop:=∀(o:Bool) (lvl:Int) (a:Nat) (m:IM) (bad:Int) (r:Rd dL),lj s n o lvl a=some r→0≤lvl→lvl≤40→a≤s.length→1≤a→m.get id=dw s a bad 0 →
 QP (cw (.f 73) [.pB id 0,.agg [.int .i64 (kd o),.str [],.aa,.aa],.int .u8 ((cl o).toNat:Int),.int .i64 lvl] m) s id bad m r
def HL (s:List UInt8) (id n:Nat):Prop:=∀(o:Bool) (lvl:Int) (a:Nat) (ks:List (List UInt8)) (vs:List dL) (K V:IV) (m:IM) (bad:Int) (r:Rd dL),md s n o lvl a ks vs=some r→mU K ks→mL V vs→ks.length≤a→vs.length≤a→0≤lvl→lvl≤40→a≤s.length→m.get id=dw s a bad 0 →
 QO (Fw id (cl o).toNat lvl (kd o) [] K V 0 [] .aa .aa m) s id bad m r
set_option maxHeartbeats 1000000 in
theorem HO (s:List UInt8) (hs:s.length≤100000) (id n:Nat) (hV:HV s id n) (hL:HL s id n):HL s id (n+1):=by
 have hml:aH=1099511627776:=rfl;intro o lvl a ks vs K V m bad r h hK hVV hkl hvl hl0 hl1 ha hm;unfold md at h;have e1:IntKind.i64.wrap (lvl+1)=lvl+1:=w64 (by omega) (by omega)
 cases hk:w7 s n o a with
 |none=>rw[hk] at h;cases h
 |some q =>
  rw[hk] at h;have hC:=Yq s hs id bad lvl n a o K V ks hK hkl m q hk ha hm
  cases q with
  |err b e =>simp only[Option.some.injEq] at h hC;subst h;obtain⟨rfl,a',hal,hC⟩:=hC;refine⟨.inl rfl,0,[],a',hal,?_⟩;rw[oi];simp only[vh,go_sem,kh hm,hC,beq_self_eq_true,if_true,D3]
  |ok k a4 =>
   simp only at h hC;obtain⟨h4l,h4a,h4k,K',hK',hC⟩:=hC;have hm4:(aW m id (dw s a4 bad 0)).get id=dw s a4 bad 0:=dI hm
   cases hv:lr s n (lvl+1) a4 with
   |none=>rw[hv] at h;cases h
   |some q =>
    rw[hv] at h;have hP:=hV (lvl+1) a4 _ bad q hv (by omega) (by omega) h4l hm4
    cases q with
    |err b e =>
     simp only[Option.some.injEq] at h;subst h;obtain⟨he,kk,t,a',hal,hP⟩:=hP;simp only[az] at hP;have he0:e≠0:=by rcases he with rfl | rfl<;>omega
     have h1:=fun (K2:IV→IM→Option (St⊕LR))=>ae hP (by simp[go_sem]) K2;have hm5:(aW m id (dw s a' b e)).get id=dw s a' b e:=dI hm;have h2:=fun (K2:IV→IM→Option (St⊕LR))=>M8 s (by omega) a' hal b e id _ hm5 K2;simp only[az] at h2;have hm6:(aW m id (dw s (dz s a':Nat) b e)).get id=dw s (dz s a':Nat) b e:=dI hm;have hb2:=jg hal;have h3:=fun (K2:IV→IM→Option (St⊕LR))=>Xy s (dz s a') b e he0 (cl o) id _ (by omega) hm6 K2;have h4:=fun (K2:IV→IM→Option (St⊕LR))=>Xy s (dz s a') b e he0 44 id _ (by omega) hm6 K2;rw[show ((44:UInt8).toNat:Int)=44 from rfl] at h4;have h5:=fun (K2:IV→IM→Option (St⊕LR))=>Fc s (dz s a':Nat) b e he0 id _ hm6 K2;obtain⟨V',hV',hap⟩:=hVV.app (v:=.mk kk t [] []) (gh.mk (k:=kk) (t:=t) (.inl ⟨rfl,rfl⟩) .nil) (by omega);have hnp:IV.aa.plain=true:=rfl;have hnn:IV.aa.refs=some 0:=rfl;refine⟨he,0,[],dz s a',hb2.2,?_⟩;rw[oi]
     simp only[vh,go_sem,kh hm,hC,xZ,e1,h1,iC hnp,hap,hV'.iy,af hV'.refs,h2,h3,h4,h5,kR,af hnn,Bool.not_false,beq_self_eq_true,if_true,Bool.false_eq_true,if_false,D3,reduceCtorEq]
    |ok v a5 =>
     simp only at h;obtain⟨c,hc,hP,h5l⟩:=hP;simp only[az] at hP;obtain⟨kk,t,CK,CV,rfl,hcK,hcV,hcKp,hcVp⟩:=hc.cells;have h1:=fun (K2:IV→IM→Option (St⊕LR))=>ae hP (by simp[go_sem]) K2;have hm5:(aW m id (dw s a5 bad 0)).get id=dw s a5 bad 0:=dI hm;have h2:=fun (K2:IV→IM→Option (St⊕LR))=>M8 s (by omega) a5 h5l bad 0 id _ hm5 K2;simp only[az] at h2;have hm6:(aW m id (dw s (dz s a5:Nat) bad 0)).get id=dw s (dz s a5:Nat) bad 0:=dI hm;have hb2:=jg h5l;have hadv:=((DF s n).1 _ _ _ _ hv h4l).1;obtain⟨V',hV',hap⟩:=hVV.app hc (by omega);by_cases g:s[dz s a5]?=some (cl o)
     ·rw[if_pos g] at h
      cases h
      have h3:=fun (K2:IV→IM→Option (St⊕LR))=>Vr s (dz s a5) bad (cl o) id _ (by omega) hm6 g K2;simp only[az] at h3;refine⟨_,.mk hK' hV',?_,dP g⟩;rw[oi];simp only[vh,go_sem,kh hm,hC,xZ,e1,h1,iC hcKp,iC hcVp,hap,hV'.iy,af hV'.refs,af hK'.refs,h2,h3,beq_self_eq_true,if_true,Bool.false_eq_true,if_false,reduceCtorEq]
     ·rw[if_neg g] at h;have h3:=fun (K2:IV→IM→Option (St⊕LR))=>Vq s (dz s a5) bad (cl o) id _ (by omega) hm6 g K2;by_cases g2:s[dz s a5]?=some 44
      ·rw[if_pos g2] at h;have hlt:=dP g2;have h4:=fun (K2:IV→IM→Option (St⊕LR))=>Vr s (dz s a5) bad 44 id _ (by omega) hm6 g2 K2;rw[show ((44:UInt8).toNat:Int)=44 from rfl] at h4;simp only[az] at h4;have hm7:(aW m id (dw s (dz s a5+1:Nat) bad 0)).get id=dw s (dz s a5+1:Nat) bad 0:=dI hm;have hi:=hL o lvl (dz s a5+1) _ _ K' V' _ bad r h hK' hV' (by omega) (by rw[List.length_append];simp;omega) hl0 hl1 hlt hm7;have step:gK J2 (vh id (cl o).toNat lvl (kd o) [] K V 0 [] .aa .aa m)=Fw id (cl o).toNat lvl (kd o) [] K' V' 0 [] .aa .aa (aW m id (dw s (dz s a5+1:Nat) bad 0)):=by simp only[vh,go_sem,kh hm,hC,xZ,e1,h1,iC hcKp,iC hcVp,hap,hV'.iy,af hV'.refs,h2,h3,h4,Bool.not_true,beq_self_eq_true,if_true,Bool.false_eq_true,if_false,reduceCtorEq];rfl
       rw[oi,step]
       cases r with
       |ok y a2=>simpa only[QO,az] using hi
       |err b e=>simpa only[QO,az] using hi
      ·rw[if_neg g2] at h
       cases h
       have h4:=fun (K2:IV→IM→Option (St⊕LR))=>Vq s (dz s a5) bad 44 id _ (by omega) hm6 g2 K2;rw[show ((44:UInt8).toNat:Int)=44 from rfl] at h4;have h5:=fun (K2:IV→IM→Option (St⊕LR))=>xX s (dz s a5:Nat) bad id _ hm6 K2;simp only[az] at h5;have hnn:IV.aa.refs=some 0:=rfl;refine⟨.inl rfl,0,[],dz s a5,hb2.2,?_⟩;rw[oi];simp only[vh,go_sem,kh hm,hC,xZ,e1,h1,iC hcKp,iC hcVp,hap,hV'.iy,af hV'.refs,h2,h3,h4,h5,kR,af hnn,Bool.not_false,beq_self_eq_true,if_true,Bool.false_eq_true,if_false,D3,reduceCtorEq]
theorem Eo (s:List UInt8) (hs:s.length≤100000) (id n:Nat) (hL:HL s id n):HI s id (n+1):=by
 intro o lvl a m bad r h hl0 hl1 ha ha1 hm;unfold lj at h;have hb:=jg ha;have hnn:IV.aa.refs=some 0:=rfl;have h0:=fun (K2:IV→IM→Option (IV×IM))=>M8 s (by omega) a ha bad 0 id m hm K2;have hm1:(aW m id (dw s (dz s a:Nat) bad 0)).get id=dw s (dz s a:Nat) bad 0:=dI hm;by_cases g:s[dz s a]?=some (cl o)
 ·rw[if_pos g] at h
  cases h
  have h1:=fun (K2:IV→IM→Option (IV×IM))=>Vr s (dz s a) bad (cl o) id _ (by omega) hm1 g K2;simp only[az] at h1;refine⟨_,.mk (.inl ⟨rfl,rfl⟩) .nil,?_,dP g⟩;apply vy;simp[VX,go_sem,h0,h1,af hnn]
 ·rw[if_neg g] at h;have h1:=fun (K2:IV→IM→Option (IV×IM))=>Vq s (dz s a) bad (cl o) id _ (by omega) hm1 g K2;have hl:=hL o lvl (dz s a) [] [] .aa .aa _ bad r h (.inl ⟨rfl,rfl⟩) .nil (by simp) (by simp) hl0 hl1 hb.2 hm1
  cases r with
  |ok v a' =>obtain⟨c,hc,hX,hal⟩:=hl;simp only[az] at hX;obtain⟨k,t,K,V,rfl,hK,hV,_,_⟩:=hc.cells;refine⟨_,hc,?_,hal⟩;apply vy;simp[VX,go_sem,h0,h1,af hnn,hX,hK,hV]
  |err b e =>obtain⟨he,k,t,a',hal,hX⟩:=hl;simp only[az] at hX;refine⟨he,k,t,a',hal,?_⟩;apply vy;simp[VX,go_sem,h0,h1,af hnn,hX,D3]
set_option maxHeartbeats 2000000 in
theorem Fa (s:List UInt8) (hs:s.length≤100000) (id n:Nat) (hI:HI s id n):HV s id (n+1):=by
 intro lvl a m bad r h hl0 hl1 ha hm;unfold lr at h;have hb:=jg ha;have hnn:IV.aa.refs=some 0:=rfl;have h0:=fun (K2:IV→IM→Option (IV×IM))=>M8 s (by omega) a ha bad 0 id m hm K2;have hm1:(aW m id (dw s (dz s a:Nat) bad 0)).get id=dw s (dz s a:Nat) bad 0:=dI hm;have hCa:=V7 s (dz s a) bad lvl 0 [] .aa .aa id _ hm1;have hW:=fun (K2:IV→IM→Option (IV×IM))=>xX s (dz s a:Nat) bad id _ hm1 K2;simp only[az] at hW
 cases hq:s[dz s a]? with
 |none =>
  rw[hq] at h
  cases h
  have hge:=List.getElem?_eq_none_iff.1 hq;rw[decide_eq_true (by omega)] at hCa;refine⟨.inl rfl,0,[],dz s a,hb.2,?_⟩;apply gF;simp only[DP,go_sem,h0,hCa,hW,kR,af hnn,if_true];simp[go_sem]
 |some c =>
  rw[hq] at h;simp only at h;have hlt:=dP hq;rw[decide_eq_false (by omega)] at hCa;have q110:((c.toNat:Int)==110)=decide (c.toNat=110):=cq c 110;have q116:((c.toNat:Int)==116)=decide (c.toNat=116):=cq c 116;have q102:((c.toNat:Int)==102)=decide (c.toNat=102):=cq c 102;have q34:((c.toNat:Int)==34)=decide (c.toNat=34):=cq c 34;have q91:((c.toNat:Int)==91)=decide (c.toNat=91):=cq c 91;have hw:IntKind.i64.wrap ((dz s a:Nat)+1:Int)=((dz s a+1:Nat):Int):=by rw[w64 (by omega) (by omega)];rfl
  have hix:=Cp hq
  have word:∀(w:List UInt8) (k:Int) (t:List UInt8),(∀k (h:k<w.length),Utf8.decode ⟨⟨w⟩⟩ k=((w[k].toNat,1):Nat×Nat)) →
    (∀v m',an cw (.f 70) [.pB id 0,.str w,.agg [.int .i64 k,.str t,.aa,.aa]] [] (aW m id (dw s (dz s a:Nat) bad 0)) (fun v m1=>some (v,m1))=some (.agg v,m')→True) →
    mK s w (dz s a) (.mk k t [] [])=r →
    (∀(Y:Option (IV×IM)),(∀kk tt mm,an cw (.f 70) [.pB id 0,.str w,.agg [.int .i64 k,.str t,.aa,.aa]] [] (aW m id (dw s (dz s a:Nat) bad 0))=(fun (K2:IV→IM→Option (IV×IM))=>K2 (.agg [.int .i64 kk,.str tt,.aa,.aa]) mm)→(∃x,mm=aW m id x)→Y=some (.agg [.int .i64 kk,.str tt,.aa,.aa],mm))→QP Y s id bad m r):=by
   intro w k t hw' _ hr Y hY;have hx:=SW s (by omega) w hw' k t id bad (dz s a) _ hb.2 hm1;unfold mK at hr
   cases hN:lz s w (dz s a) with
   |ok u a' =>rw[hN] at hx hr;simp only[az] at hx hr;subst hr;refine⟨_,.mk (.inl ⟨rfl,rfl⟩) .nil,?_,hx.2⟩;exact hY k t _ (funext fun K2=>ae hx.1 (by simp[go_sem]) K2) ⟨_,rfl⟩
   |err b e =>
    rw[hN] at hx hr;simp only[az] at hx hr;subst hr;have he:e=19∧b≤s.length:=by
     have hg:∀(w:List UInt8) (a b:Nat) (e:Int),a≤s.length→lz s w a=.err b e→e=19∧b≤s.length:=by
      intro w
      induction w with
      |nil=>intro a b e _ h;cases h
      |cons x r ih =>
       intro a b e ha h;unfold lz at h;split at h
       ·rename_i g;exact ih _ _ _ (dP g) h
       ·cases h;exact⟨rfl,ha⟩
     exact hg w _ _ _ hb.2 hN
    obtain⟨rfl,hbl⟩:=he;refine⟨.inl rfl,0,[],b,hbl,?_⟩;exact hY 0 [] _ (funext fun K2=>ae hx (by simp[go_sem]) K2) ⟨_,rfl⟩
  by_cases g1:c.toNat=110
  ·rw[if_pos g1] at h;simp only[Option.some.injEq] at h;refine word _ 0 [] (by decide) (fun _ _ _=>trivial) h _ fun kk tt mm hcc ⟨x,hx⟩=>?_;subst hx;apply gF;simp only[DP,go_sem,h0,hCa,gD hm1,ki hm1,au hix,q110,g1,hcc,af hnn,decide_true,if_true,Bool.false_eq_true,if_false];simp[go_sem]
  ·rw[if_neg g1] at h;by_cases g2:c.toNat=116
   ·rw[if_pos g2] at h;simp only[Option.some.injEq] at h;refine word _ 1 _ (by decide) (fun _ _ _=>trivial) h _ fun kk tt mm hcc ⟨x,hx⟩=>?_;subst hx;apply gF;simp only[DP,go_sem,h0,hCa,gD hm1,ki hm1,au hix,q110,q116,g1,decide_false,decide_eq_true g2,hcc,af hnn,decide_true,if_true,Bool.false_eq_true,if_false];simp[go_sem]
   ·rw[if_neg g2] at h;by_cases g3:c.toNat=102
    ·rw[if_pos g3] at h;simp only[Option.some.injEq] at h;refine word _ 1 _ (by decide) (fun _ _ _=>trivial) h _ fun kk tt mm hcc ⟨x,hx⟩=>?_;subst hx;apply gF;simp only[DP,go_sem,h0,hCa,gD hm1,ki hm1,au hix,q110,q116,q102,g1,g2,decide_false,decide_eq_true g3,hcc,af hnn,decide_true,if_true,Bool.false_eq_true,if_false];simp[go_sem]
    ·rw[if_neg g3] at h;by_cases g4:c.toNat=34
     ·rw[if_pos g4] at h;have hsa:=fun (K:IM→Option (IV×IM))=>Dl hm1 ((dz s a+1:Nat):Int) K;simp only[az] at hsa;have hm2:(aW m id (dw s (dz s a+1:Nat) bad 0)).get id=dw s (dz s a+1:Nat) bad 0:=dI hm
      cases hS:nx s n (dz s a+1) [] with
      |none=>rw[hS] at h;cases h
      |some q =>
       rw[hS] at h;have h71:=Qk s hs id bad n (dz s a+1) _ q hS hlt (by omega) hm2
       cases q with
       |err b e =>simp only[Option.some.injEq] at h h71;subst h;obtain⟨rfl,t,a',hal,h71⟩:=h71;simp only[az] at h71;have h2:=fun (K2:IV→IM→Option (IV×IM))=>ae h71 (by simp[go_sem]) K2;refine⟨.inl rfl,3,t,a',hal,?_⟩;apply gF;simp only[DP,go_sem,h0,hCa,gD hm1,ki hm1,au hix,q110,q116,q102,q34,g1,g2,g3,decide_false,decide_eq_true g4,hw,hsa,h2,decide_true,if_true,Bool.false_eq_true,if_false];simp[go_sem]
       |ok t a' =>simp only[Option.some.injEq] at h h71;subst h;obtain⟨h71,hal,_⟩:=h71;simp only[az] at h71;have h2:=fun (K2:IV→IM→Option (IV×IM))=>ae h71 (by simp[go_sem]) K2;refine⟨_,.mk (.inl ⟨rfl,rfl⟩) .nil,?_,hal⟩;apply gF;simp only[DP,go_sem,h0,hCa,gD hm1,ki hm1,au hix,q110,q116,q102,q34,g1,g2,g3,decide_false,decide_eq_true g4,hw,hsa,h2,decide_true,if_true,Bool.false_eq_true,if_false];simp[go_sem]
     ·rw[if_neg g4] at h;have hCb:=V8 lvl (dz s a:Nat) 0 c [] .aa .aa id (aW m id (dw s (dz s a:Nat) bad 0));by_cases g5:c.toNat=91∨c.toNat=123
      ·rw[if_pos g5] at h;rw[decide_eq_true g5] at hCb;by_cases g6:lvl>40
       ·rw[if_pos g6] at h
        cases h
        have hf:=wI s (dz s a:Nat) bad 0 (dz s a:Nat) 21 id _ hm1;simp only[lW,if_true,az] at hf;have h2:=fun (K2:IV→IM→Option (IV×IM))=>ae hf (by simp[go_sem]) K2;refine⟨.inr rfl,0,[],dz s a,hb.2,?_⟩;apply gF;simp only[DP,go_sem,h0,hCa,hCb,gD hm1,ki hm1,au hix,q110,q116,q102,q34,g1,g2,g3,g4,decide_false,decide_eq_true g6,h2,kR,af hnn,decide_true,if_true,Bool.false_eq_true,if_false];simp[go_sem]
       ·rw[if_neg g6] at h;have hsa:=fun (K:IM→Option (IV×IM))=>Dl hm1 ((dz s a+1:Nat):Int) K;simp only[az] at hsa;have hm2:(aW m id (dw s (dz s a+1:Nat) bad 0)).get id=dw s (dz s a+1:Nat) bad 0:=dI hm;have hi:=hI _ lvl (dz s a+1) _ bad r h hl0 (by omega) hlt (by omega) hm2;by_cases g7:c.toNat=91
        ·rw[decide_eq_false (show ¬c.toNat=123 by omega)] at hi;simp only[kd,cl,Bool.false_eq_true,if_false] at hi;rw[show ((93:UInt8).toNat:Int)=93 from rfl] at hi
         cases r with
         |ok v a' =>obtain⟨cc,hc,hX,hal⟩:=hi;simp only[az] at hX;obtain⟨k,t,K,V,rfl,hK,hV,_,_⟩:=hc.cells;have h2:=fun (K2:IV→IM→Option (IV×IM))=>ae hX (by simp[go_sem]) K2;refine⟨_,hc,?_,hal⟩;apply gF;simp only[DP,go_sem,h0,hCa,hCb,gD hm1,ki hm1,au hix,q110,q116,q102,q34,q91,g1,g2,g3,g4,g6,decide_false,decide_eq_true g7,hw,hsa,h2,af hK,af hV,decide_true,if_true,Bool.false_eq_true,if_false];simp[go_sem,hK,hV]
         |err b e =>obtain⟨he,k,t,a',hal,hX⟩:=hi;simp only[az] at hX;have h2:=fun (K2:IV→IM→Option (IV×IM))=>ae hX (by simp[go_sem]) K2;refine⟨he,k,t,a',hal,?_⟩;apply gF;simp only[DP,go_sem,h0,hCa,hCb,gD hm1,ki hm1,au hix,q110,q116,q102,q34,q91,g1,g2,g3,g4,g6,decide_false,decide_eq_true g7,hw,hsa,h2,af hnn,decide_true,if_true,Bool.false_eq_true,if_false];simp[go_sem]
        ·have g8:c.toNat=123:=by omega
         rw[decide_eq_true g8] at hi;simp only[kd,cl,if_true] at hi;rw[show ((125:UInt8).toNat:Int)=125 from rfl] at hi
         cases r with
         |ok v a' =>obtain⟨cc,hc,hX,hal⟩:=hi;simp only[az] at hX;obtain⟨k,t,K,V,rfl,hK,hV,_,_⟩:=hc.cells;have h2:=fun (K2:IV→IM→Option (IV×IM))=>ae hX (by simp[go_sem]) K2;refine⟨_,hc,?_,hal⟩;apply gF;simp only[DP,go_sem,h0,hCa,hCb,gD hm1,ki hm1,au hix,q110,q116,q102,q34,q91,g1,g2,g3,g4,g6,g7,decide_false,hw,hsa,h2,af hK,af hV,decide_true,if_true,Bool.false_eq_true,if_false];simp[go_sem,hK,hV]
         |err b e =>obtain⟨he,k,t,a',hal,hX⟩:=hi;simp only[az] at hX;have h2:=fun (K2:IV→IM→Option (IV×IM))=>ae hX (by simp[go_sem]) K2;refine⟨he,k,t,a',hal,?_⟩;apply gF;simp only[DP,go_sem,h0,hCa,hCb,gD hm1,ki hm1,au hix,q110,q116,q102,q34,q91,g1,g2,g3,g4,g6,g7,decide_false,hw,hsa,h2,af hnn,decide_true,if_true,Bool.false_eq_true,if_false];simp[go_sem]
      ·rw[if_neg g5] at h;rw[decide_eq_false g5] at hCb;have hCc:=V9 (dz s a:Nat) 0 c [] .aa .aa id (aW m id (dw s (dz s a:Nat) bad 0));by_cases g6:c.toNat=45∨fS c=true
       ·rw[if_pos g6] at h;rw[decide_eq_true g6] at hCc;have h74:=Jn s (by omega) (dz s a) hb.2 (aW m id (dw s (dz s a:Nat) bad 0));have h2:=fun (K2:IV→IM→Option (IV×IM))=>ae h74 (by simp[go_sem]) K2;by_cases g7:(gf s (dz s a)).2=true
        ·rw[if_pos g7] at h
         cases h
         have hgt:=u7 g7;have hle:=A4 (s:=s) hb.2;rw[g7] at h2;have hsa:=fun (K:IM→Option (IV×IM))=>Dl hm1 (((gf s (dz s a)).1:Nat):Int) K;simp only[az] at hsa;have hm3:(aW m id (dw s ((gf s (dz s a)).1:Nat) bad 0)).get id=dw s ((gf s (dz s a)).1:Nat) bad 0:=dI hm;have hsl:=Vs s (dz s a) ((gf s (dz s a)).1-dz s a) (by omega) (by omega);rw[show IntKind.i64.wrap (((dz s a:Nat):Int)+(((gf s (dz s a)).1-dz s a:Nat):Int))=(((gf s (dz s a)).1:Nat):Int) by rw[w64 (by omega) (by omega)];omega] at hsl;refine⟨_,.mk (.inl ⟨rfl,rfl⟩) .nil,?_,hle⟩;apply gF;simp only[DP,go_sem,h0,hCa,hCb,hCc,gD hm1,ki hm1,ki hm3,au hix,q110,q116,q102,q34,g1,g2,g3,g4,decide_false,h2,hsa,au hsl,Bool.not_true,decide_true,if_true,Bool.false_eq_true,if_false];simp[go_sem]
        ·rw[if_neg g7] at h
         cases h
         have g7':(gf s (dz s a)).2=false:=by simpa using g7
         rw[g7'] at h2;have hle:=A4 (s:=s) hb.2;have hf:=wI s (dz s a:Nat) bad 0 ((gf s (dz s a)).1:Nat) 19 id _ hm1;simp only[lW,if_true,az] at hf;have h3:=fun (K2:IV→IM→Option (IV×IM))=>ae hf (by simp[go_sem]) K2;refine⟨.inl rfl,0,[],dz s a,hb.2,?_⟩;apply gF;simp only[DP,go_sem,h0,hCa,hCb,hCc,gD hm1,ki hm1,au hix,q110,q116,q102,q34,g1,g2,g3,g4,decide_false,h2,h3,kR,af hnn,Bool.not_false,decide_true,if_true,Bool.false_eq_true,if_false];simp[go_sem]
       ·rw[if_neg g6] at h;rw[decide_eq_false g6] at hCc
        cases h
        refine⟨.inl rfl,0,[],dz s a,hb.2,?_⟩;apply gF;simp only[DP,go_sem,h0,hCa,hCb,hCc,gD hm1,ki hm1,au hix,q110,q116,q102,q34,g1,g2,g3,g4,decide_false,hW,kR,af hnn,decide_true,if_true,Bool.false_eq_true,if_false];simp[go_sem]
theorem yP (s:List UInt8) (hs:s.length≤100000) (id:Nat):∀n,HV s id n∧HI s id n∧HL s id n
 |0=>⟨fun _ _ _ _ _ h=>by simp[lr] at h,fun _ _ _ _ _ _ h=>by simp[lj] at h,fun _ _ _ _ _ _ _ _ _ _ h=>by simp[md] at h⟩
 |n+1=>by
  obtain⟨h1,h2,h3⟩:=yP s hs id n;exact⟨Fa s hs id n h2,Eo s hs id n h3,HO s hs id n h1 h3⟩
theorem Dq (s:List UInt8):∀(n a:Nat) (acc x:List UInt8) (a':Nat),nx s n a acc=some (.ok x a')→acc.length≤4*a→x.length≤4*a':=by
 intro n
 induction n with
 |zero=>intro a acc x a' h;cases h
 |succ n ih =>
  intro a acc x a' h hl;unfold nx at h
  cases hq:s[a]? with
  |none=>rw[hq] at h;simp only[Option.some.injEq] at h;exact (eD h).elim
  |some c =>
   rw[hq] at h;simp only at h;split at h
   ·simp only[Option.some.injEq] at h;exact (eD h).elim
   ·split at h
    ·simp only[Option.some.injEq] at h;obtain⟨rfl,rfl⟩:=Rd.ok.inj h;omega
    ·split at h
     ·split at h
      ·simp only[Option.some.injEq] at h;exact (eD h).elim
      ·rename_i x2 a2 hE;have h1:=Cl hE;have h2:=Cm hE;exact ih _ _ _ _ h (by rw[List.length_append];omega)
     ·split at h
      ·exact ih _ _ _ _ h (by rw[List.length_append,List.length_take];omega)
      ·simp only[Option.some.injEq] at h;exact (eD h).elim
theorem KP {s:List UInt8}{n:Nat}{o:Bool}{a:Nat}{k:List (List UInt8)}{a':Nat}(h:w7 s n o a=some (.ok k a')):(∀x,x∈k→x.length≤4*s.length)∧k.length≤1:=by
 unfold w7 at h;split at h
 ·split at h
  ·split at h
   ·cases h
   ·simp only[Option.some.injEq] at h;exact (eD h).elim
   ·rename_i t a2 hS;split at h
    ·simp only[Option.some.injEq] at h;obtain⟨rfl,_⟩:=Rd.ok.inj h;have h1:=Dq _ _ _ _ _ _ hS (by simp);have h2:=Bo _ _ _ _ _ _ hS;refine⟨fun x hx=>?_,by simp⟩;rw[List.mem_singleton] at hx;subst hx;omega
    ·simp only[Option.some.injEq] at h;exact (eD h).elim
  ·simp only[Option.some.injEq] at h;exact (eD h).elim
 ·simp only[Option.some.injEq] at h;obtain⟨rfl,_⟩:=Rd.ok.inj h;exact⟨fun x hx=>(List.not_mem_nil hx).elim,by simp⟩
theorem Gl {vs:List dL}{v:dL}(h:Bx vs) (hv:sk v):Bx (vs++[v]):=by
 induction vs with
 |nil=>exact .cons hv .nil
 |cons a r ih=>cases h with | cons h1 h2=>exact .cons h1 (ih h2)
theorem A5 {s w:List UInt8}{a a':Nat}{v v':dL}(h:mK s w a v=.ok v' a') (hv:sk v):sk v':=by
 unfold mK at h;split at h
 ·obtain⟨rfl,_⟩:=Rd.ok.inj h;exact hv
 ·exact (eD h).elim
theorem Ow (s:List UInt8) (hs:s.length≤100000):∀(n:Nat),(∀lvl a v a',lr s n lvl a=some (.ok v a')→a≤s.length→sk v)∧(∀o lvl a v a',lj s n o lvl a=some (.ok v a')→a≤s.length→sk v) ∧
  (∀o lvl a ks vs v a',md s n o lvl a ks vs=some (.ok v a')→a≤s.length→ks.length≤a→vs.length≤a→(∀x,x∈ks→x.length≤4*s.length)→Bx vs→sk v):=by
 intro n
 induction n with
 |zero=>refine⟨fun lvl a v a' h _=>?_,fun o lvl a v a' h _=>?_,fun o lvl a ks vs v a' h _ _ _ _ _=>?_⟩<;>simp[lr,lj,md] at h
 |succ n ih =>
  obtain⟨ihV,ihI,ihL⟩:=ih;refine⟨?_,?_,?_⟩
  ·intro lvl a v a' h ha;have hb:=jg ha;unfold lr at h
   cases hq:s[dz s a]? with
   |none=>rw[hq] at h;simp only[Option.some.injEq] at h;exact (eD h).elim
   |some c =>
    rw[hq] at h;simp only at h;have hlt:=dP hq;have plain:∀(k:Int) (t:List UInt8),t.length≤1000000→sk (.mk k t [] []):=fun k t ht=>.mk (by omega) (by simp) (fun x hx=>(List.not_mem_nil hx).elim) .nil (by simp);split at h
    ·simp only[Option.some.injEq] at h;exact A5 h (plain _ _ (by simp))
    ·split at h
     ·simp only[Option.some.injEq] at h;exact A5 h (plain _ _ (by simp))
     ·split at h
      ·simp only[Option.some.injEq] at h;exact A5 h (plain _ _ (by simp))
      ·split at h
       ·split at h
        ·cases h
        ·simp only[Option.some.injEq] at h;exact (eD h).elim
        ·rename_i t a2 hS;simp only[Option.some.injEq] at h;obtain⟨rfl,_⟩:=Rd.ok.inj h;have h1:=Dq _ _ _ _ _ _ hS (by simp);have h2:=Bo _ _ _ _ _ _ hS;exact plain _ _ (by omega)
       ·split at h
        ·split at h
         ·simp only[Option.some.injEq] at h;exact (eD h).elim
         ·exact ihI _ _ _ _ _ h hlt
        ·split at h
         ·split at h
          ·simp only[Option.some.injEq] at h;obtain⟨rfl,_⟩:=Rd.ok.inj h;refine plain _ _ ?_;rw[List.length_take,List.length_drop];omega
          ·simp only[Option.some.injEq] at h;exact (eD h).elim
         ·simp only[Option.some.injEq] at h;exact (eD h).elim
  ·intro o lvl a v a' h ha;have hb:=jg ha;unfold lj at h;split at h
   ·simp only[Option.some.injEq] at h;obtain⟨rfl,_⟩:=Rd.ok.inj h;exact .mk (by simp) (by simp) (fun x hx=>(List.not_mem_nil hx).elim) .nil (by simp)
   ·exact ihL _ _ _ _ _ _ _ h hb.2 (by simp) (by simp) (fun x hx=>(List.not_mem_nil hx).elim) .nil
  ·intro o lvl a ks vs v a' h ha hkl hvl hks hvs;unfold md at h;split at h
   ·cases h
   ·simp only[Option.some.injEq] at h;exact (eD h).elim
   ·rename_i k a4 hk;have hk2:=Cu hk ha;have hk3:=KP hk;split at h
    ·cases h
    ·simp only[Option.some.injEq] at h;exact (eD h).elim
    ·rename_i v2 a5 hv;have hv2:=(DF s n).1 _ _ _ _ hv hk2.2;have hb:=jg hv2.2;have hok:=ihV _ _ _ _ hv hk2.2;have hks2:∀x,x∈ks++k→x.length≤4*s.length:=by
      intro x hx;rcases List.mem_append.1 hx with hx | hx
      ·exact hks x hx
      ·exact hk3.1 x hx
     split at h
     ·simp only[Option.some.injEq] at h;obtain⟨rfl,_⟩:=Rd.ok.inj h;refine .mk (by simp) ?_ (fun x hx=>?_) (Gl hvs hok) ?_
      ·rw[List.length_append];omega
      ·have:=hks2 x hx;omega
      ·rw[List.length_append];simp;omega
     ·split at h
      ·rename_i g;exact ihL _ _ _ _ _ _ _ h (dP g) (by rw[List.length_append];omega) (by rw[List.length_append];simp;omega) hks2 (Gl hvs hok)
      ·simp only[Option.some.injEq] at h;exact (eD h).elim
def oM (s:List UInt8) (r:Rd dL):dL×Nat×Int:=match r with
 |.err b e=>(.mk 0 [] [] [],b,e)
 |.ok v a=>if dz s a<s.length then (.mk 0 [] [] [],dz s a,19) else if ia v≠0 then (.mk 0 [] [] [],0,ia v) else (v,0,0)
theorem ns (s:List UInt8) (a b e:Int) (m:IM):(bZ m (dw s a b e)).get m.size=dw s a b e:=gW _ _
set_option maxHeartbeats 1000000 in
theorem Bc (s:List UInt8) (hs:s.length≤100000) (n:Nat) (r:Rd dL) (h:lr s n 1 0=some r) (m:IM) :
  ∃c,gh (oM s r).1 c∧cw (.f 13) [.str s] m=some (.db [.agg c,.int .i64 ((oM s r).2.1:Nat),.int .i64 (oM s r).2.2],m):=by
 have hP:=(yP s hs m.size n).1 1 0 (bZ m (dw s 0 0 0)) 0 r h (by omega) (by omega) (Nat.zero_le _) (ns _ _ _ _ _);have c0:¬(s.length:Int)>100000:=by omega
 have hnn:IV.aa.refs=some 0:=rfl;have hz:gh (.mk 0 [] [] []) [.int .i64 0,.str [],.aa,.aa]:=.mk (.inl ⟨rfl,rfl⟩) .nil
 cases r with
 |err b e =>
  obtain⟨he,k,t,a',hal,hP⟩:=hP;have he0:e≠0:=by rcases he with rfl | rfl<;>omega
  have he1:(e != 0)=true:=by simpa using he0
  simp only[fo] at hP;have h1:=fun (K2:IV→IM→Option (IV×IM))=>ae hP (by simp[go_sem]) K2;have hm1:=ns s a' b e m;have h2:=fun (K2:IV→IM→Option (IV×IM))=>M8 s (by omega) a' hal b e m.size _ hm1 K2;simp only[fo] at h2;have hm2:=ns s (dz s a':Nat) b e m;have h3:=fun (K2:IV→IM→Option LR)=>Fc s (dz s a':Nat) b e he0 m.size _ hm2 K2;have hC:∀n s1 v v1 n1 s2 v2 v3,oe s m.size 0 n s1 v v1 n1 s2 v2 v3 (bZ m (dw s (dz s a':Nat) b e))=some (.normal,[.pB m.size 0],[.cells [.int .i64 n,.str s1,v,v1] [.any,.any,.own 1,.own 4],.cells [.int .i64 n1,.str s2,v2,v3] [.any,.any,.any,.any]],bZ m (dw s (dz s a':Nat) b e)):=by
   intro n s1 v v1 n1 s2 v2 v3;by_cases g:((dz s a':Nat):Int)<(s.length:Int)
   ·simp[oe,go_sem,gD hm2,g,h3,kR]
   ·simp[oe,go_sem,gD hm2,g]
  refine⟨_,hz,?_⟩;apply qY;simp only[dw] at h1 h2 hC hm2;simp only[TC,go_sem,c0,h1,h2,hC,af hnn,decide_false,Bool.false_eq_true,if_false,if_true];rw[show (0+0+2:Nat)=2 from rfl,show (0+0+1:Nat)=1 from rfl];have hm3:(bZ m (aS.cells [IV.int .i64 (dz s a':Nat),.int .i64 b,.int .i64 e,.str s] [.any,.any,.any,.any])).get m.size=dw s (dz s a':Nat) b e:=hm2;simp[go_sem,kh hm3,AL hm3,he1,he0,jL,oM]
 |ok v a =>
  obtain⟨c,hc,hP,hal⟩:=hP;have hok:=(Ow s hs n).1 _ _ _ _ h (Nat.zero_le _);obtain⟨k,t,K,V,rfl,hK,hV,_,_⟩:=hc.cells;simp only[fo] at hP;have h1:=fun (K2:IV→IM→Option (IV×IM))=>ae hP (by simp[go_sem]) K2;have hm1:=ns s a 0 0 m;have h2:=fun (K2:IV→IM→Option (IV×IM))=>M8 s (by omega) a hal 0 0 m.size _ hm1 K2;simp only[fo] at h2;have hm2:=ns s (dz s a:Nat) 0 0 m;have hm3:(bZ m (aS.cells [IV.int .i64 (dz s a:Nat),.int .i64 0,.int .i64 0,.str s] [.any,.any,.any,.any])).get m.size=dw s (dz s a:Nat) 0 0:=hm2;by_cases g:dz s a<s.length
  ·have g':((dz s a:Nat):Int)<(s.length:Int):=by omega
   have h3:=fun (K2:IV→IM→Option LR)=>xX s (dz s a:Nat) 0 m.size _ hm2 K2;simp only[fo] at h3;have hC:∀n s1 v v1 n1 s2 v2 v3,oe s m.size 0 n s1 v v1 n1 s2 v2 v3 (bZ m (dw s (dz s a:Nat) 0 0))=some (.normal,[.pB m.size 0],[.cells [.int .i64 n,.str s1,v,v1] [.any,.any,.own 1,.own 4],.cells [.int .i64 n1,.str s2,v2,v3] [.any,.any,.any,.any]],bZ m (dw s (dz s a:Nat) (dz s a:Nat) 19)):=by intro n s1 v v1 n1 s2 v2 v3;simp[oe,go_sem,gD hm2,g',h3,kR]
   have hm4:(bZ m (aS.cells [IV.int .i64 (dz s a:Nat),.int .i64 (dz s a:Nat),.int .i64 19,.str s] [.any,.any,.any,.any])).get m.size=dw s (dz s a:Nat) (dz s a:Nat) 19:=ns _ _ _ _ _;simp only[oM,if_pos g];refine⟨_,hz,?_⟩;apply qY;simp only[dw] at h1 h2 hC;simp only[TC,go_sem,c0,h1,h2,hC,af hK,af hV,decide_false,Bool.false_eq_true,if_false,if_true];rw[show (0+0+2:Nat)=2 from rfl,show (0+0+1:Nat)=1 from rfl];simp[go_sem,kh hm4,AL hm4,jL]
  ·have g':¬((dz s a:Nat):Int)<(s.length:Int):=by omega
   have hC:∀n s1 v v1 n1 s2 v2 v3,oe s m.size 0 n s1 v v1 n1 s2 v2 v3 (bZ m (dw s (dz s a:Nat) 0 0))=some (.normal,[.pB m.size 0],[.cells [.int .i64 n,.str s1,v,v1] [.any,.any,.own 1,.own 4],.cells [.int .i64 n1,.str s2,v2,v3] [.any,.any,.any,.any]],bZ m (dw s (dz s a:Nat) 0 0)):=by intro n s1 v v1 n1 s2 v2 v3;simp[oe,go_sem,gD hm2,g']
   have h25:=ru v _ (bZ m (dw s (dz s a:Nat) 0 0)) hc hok;have h4:=fun (K2:IV→IM→Option (IV×IM))=>ae h25 (by simp[go_sem,hK,hV]) K2;simp only[oM,if_neg g];by_cases g2:ia v=0
   ·rw[if_neg (fun q=>q g2)];rw[g2] at h4;refine⟨_,hc,?_⟩;apply qY;simp only[dw] at h1 h2 hC h4;simp only[TC,go_sem,c0,h1,h2,hC,af hK,af hV,decide_false,Bool.false_eq_true,if_false,if_true];rw[show (0+0+2:Nat)=2 from rfl,show (0+0+1:Nat)=1 from rfl];simp[go_sem,kh hm3,AL hm3,h4,jL,hK,hV,af hK,af hV]
   ·rw[if_pos g2];have g3:(ia v != 0)=true:=by simpa using g2
    refine⟨_,hz,?_⟩;apply qY;simp only[dw] at h1 h2 hC h4;simp only[TC,go_sem,c0,h1,h2,hC,af hK,af hV,decide_false,Bool.false_eq_true,if_false,if_true];rw[show (0+0+2:Nat)=2 from rfl,show (0+0+1:Nat)=1 from rfl];simp[go_sem,kh hm3,AL hm3,h4,g2,g3,jL,hK,hV,af hK,af hV]
section
variable {R:Type}{m:IM}{id:Nat}{s:List UInt8}{a bad e:Int}
end
section
variable {R:Type}{m:IM}{id:Nat}{s:List UInt8}
end
section
variable {R:Type}{m:IM}{id:Nat}{s:List UInt8}
end
section
variable {s:List UInt8}{id:Nat}{m:IM}
end
section
variable {R:Type}{m:IM}{id:Nat}{s:List UInt8}{a0 b0 e0:Int}
end
section
variable {R:Type}{m:IM}{id:Nat}{s:List UInt8}{a0 b0 e0:Int}
end
theorem PZ {K:IV}{ks:List (List UInt8)}(h:mU K ks) (hb:ks.length≤1000000) (m:IM):∃K',mU K' ks∧cw (.f 50) [K] m=some (K',m):=by
 have hml:aH=1099511627776:=rfl;rcases h with ⟨rfl,rfl⟩ | rfl
 ·refine⟨.aa,.inl ⟨rfl,rfl⟩,?_⟩;apply vw;simp[VU,tu,dG,go_sem]
 ·have hp:(ks.map IV.str).all IV.plain=true:=by rw[List.all_eq_true];intro x hx;obtain⟨s,_,rfl⟩:=List.mem_map.1 hx;rfl
  cases ks with
  |nil =>refine⟨.aa,.inl ⟨rfl,rfl⟩,?_⟩;apply vw;simp[VU,tu,dG,go_sem]
  |cons k r =>
   refine⟨.sl ((k::r).map .str) (k::r).length,.inr rfl,?_⟩;apply vw;have hb2:(k::r).length*16≤aH:=by omega
   have hz:((k::r).length==0)=false:=rfl;have hN:Nat.beq ((k::r).map IV.str).length ((k::r).length*1)=true:=by simp
   simp only[VU,tu,dG,jb hp,hN,bO,if_true,hz,decide_eq_true hb2,bg,Bool.false_eq_true,if_false];refine av ?_;have hr:=mU.refs (.inr rfl:mU (.sl ((k::r).map .str) (k::r).length) (k::r));simpa[IV.ak] using hr
theorem NI {row:List IV}{n i:Nat}(h:i<n):dW.ev (.aw 1) [.sl row n,.int .i64 (i:Int)]=some (.pI row (i*1)):=by
 have c1:(0:Int)≤(i:Int):=by omega
 have c2:(i:Int)<(n:Int):=by omega
 simp[dW.ev,c1,h]
theorem Ss {K K':IV}{ks:List (List UInt8)}(h:mU K ks) (h':mU K' ks) (hb:ks.length≤1000000) (m:IM):cw (.f 49) [K,K'] m=some (.bool true,m):=by
 have hn:=iB h.refs (R:=IV×IM);have hn':=iB h'.refs (R:=IV×IM);have hq:=iB h.refs (R:=St⊕LR);have hq':=iB h'.refs (R:=St⊕LR);have L:∀(k i:Nat),ks.length=i+k→Ft K K' i m=some (.exit 0,[],[],m):=by
  intro k
  induction k with
  |zero =>
   intro i hk;have c1:¬(i:Int)<(ks.length:Int):=by omega
   rw[BP];simp[Fh,go_sem,au (pf h),c1]
  |succ k ih =>
   intro i hk;have hi:i<ks.length:=by omega
   have c1:(i:Int)<(ks.length:Int):=by omega
   have e2:IntKind.i64.wrap ((i:Int)+1)=((i+1:Nat):Int):=by rw[w64 (by omega) (by omega)];rfl
   have hg:(ks.map IV.str)[i*1]?=some (.str ks[i]):=by simp[hi]
   have g:K=.sl (ks.map .str) ks.length:=by
    rcases h with ⟨_,rfl⟩ | h
    ·simp at hi
    ·exact h
   have g':K'=.sl (ks.map .str) ks.length:=by
    rcases h' with ⟨_,rfl⟩ | h'
    ·simp at hi
    ·exact h'
   have hs:=ih (i+1) (by omega);have step:gK J0 (Fh K K' i m)=Ft K K' (i+1:Nat) m:=by
    subst g;subst g';generalize i+1=j at *;simp only[Fh,go_sem,au (pf h),c1,decide_true,if_true,au (NI hi),eV,hg,ct,BEq.rfl,Bool.not_true,Bool.false_eq_true,if_false,hq,hq',e2]
    try simp[go_sem,hq,e2]
    rfl
   rw[BP,step,hs]
 have hL:=L ks.length 0 (by omega);rw[show ((0:Nat):Int)=0 from rfl] at hL;apply Ix;simp[Yc,go_sem,au (pf h),au (pf h'),hn,hn',hL]
def Wa (v:dL):Prop:=∀(c:List IV) (m:IM),gh v c→sk v→∃c',gh v c'∧cw (.f 16) [.agg c] m=some (.agg c',m)
theorem RE (vs:List dL) (row:List IV) (hr:nX vs row) (hok:Bx vs) (hn:vs.length≤1000000) (ih:∀v,v∈vs→Wa v) (k:Int) (t:List UInt8) (K:IV) (m:IM):∀(j i:Nat) (V:IV),vs.length=i+j→mL V (vs.take i) →
  ∃V',mL V' vs∧Fp (.sl row vs.length) vs.length i 0 [] .aa .aa k t K V m=some (.exit 0,[],[xZ 0 [],.cells [.int .i64 k,.str t,K,V'] [.any,.any,.any,.own 4]],m):=by
 have hml:aH=1099511627776:=rfl;intro j
 induction j with
 |zero =>
  intro i V hk hV;have c1:¬(i:Int)<(vs.length:Int):=by omega
  rw[List.take_of_length_le (by omega)] at hV;refine⟨V,hV,?_⟩;rw[vE];simp[Fe,go_sem,c1,xZ]
 |succ j ihj =>
  intro i V hk hV;have hi:i<vs.length:=by omega
  have c1:(i:Int)<(vs.length:Int):=by omega
  have e2:IntKind.i64.wrap ((i:Int)+1)=((i+1:Nat):Int):=by rw[w64 (by omega) (by omega)];rfl
  obtain⟨c,hc,hcut⟩:=hr.get i hi;have hv:vs[i]∈vs:=List.getElem_mem hi;obtain⟨c',hc',hcall⟩:=ih _ hv c m hc (hok.mem hv);obtain⟨a,t1,K1,V1,rfl,hK,hV1,_,_⟩:=hc.cells;obtain⟨a',t2,K2,V2,rfl,hK2,hV2,hKp,hVp⟩:=hc'.cells;have hcc:=fun (K2:IV→IM→Option (St⊕LR))=>ae hcall (by simp[go_sem,hK,hV1]) K2;obtain⟨V',hV',hap⟩:=hV.app hc' (by rw[List.length_take];omega);have hV'':mL V' (vs.take (i+1)):=by rw[List.take_succ_eq_append_getElem hi];exact hV'
  obtain⟨W,hW,hL⟩:=ihj (i+1) V' (by omega) hV'';refine⟨W,hW,?_⟩;rw[vE,←hL];generalize i+1=i2 at *;simp only[Fe,go_sem,c1,decide_true,if_true,au (ur hi),gi hcut,af hK,af hV1,hcc,iC hKp,iC hVp,hap,hV'.iy,af hV'.refs,dk,e2];rfl
theorem JI (v:dL):Wa v:=by
 obtain⟨k,t,ks,vs⟩:=v;intro c m hc hok;have ih:∀v,v∈vs→Wa v:=fun v hv=>by
  have:SizeOf.sizeOf v<SizeOf.sizeOf vs:=List.sizeOf_lt_of_mem hv;exact JI v
 cases hc with
 | @mk _ _ _ _ K V hK hV =>
  cases hok with
  |mk h1 h2 h3 h4 h5 =>
   obtain⟨K',hK',h50⟩:=PZ hK h2 m;have hcell:K.cells=[K]:=by rcases hK with ⟨rfl,_⟩ | rfl<;>rfl
   have h50c:=fun (K2:IV→IM→Option (IV×IM))=>ae h50 (by simp[go_sem,hcell,hK.refs]) K2;have hone:∀(X:Option (IV×IM)),xw K' X=X:=fun X=>by rcases hK' with ⟨rfl,_⟩ | rfl<;>rfl
   have hlen:=hV.len;have hnl:=iB hV.refs (R:=IV×IM)
   cases hV with
   |nil =>
    refine⟨_,.mk hK' .nil,?_⟩;apply BF;have hL:Fp .aa 0 0 0 [] .aa .aa k t K' .aa m=some (.exit 0,[],[xZ 0 [],.cells [.int .i64 k,.str t,K',.aa] [.any,.any,.any,.own 4]],m):=by rw[vE];simp[Fe,go_sem,xZ]
    simp only[We,af hK.refs,af (v:=.aa) rfl,h50c,hone,af hK'.refs,au hlen,bV,hnl,show (((([]:List dL).length:Nat)):Int)=0 from rfl,hL,xZ];simp[go_sem,af hK'.refs,hK'.refs];rfl
   | @sl _ row n hr hn =>subst hn;obtain⟨V',hV',hL⟩:=RE vs row hr h4 h5 ih k t K' m vs.length 0 .aa (by omega) (by rw[List.take_zero];exact .nil);rw[show ((0:Nat):Int)=0 from rfl] at hL;refine⟨_,.mk hK' hV',?_⟩;apply BF;simp only[We,af hK.refs,af (mL.refs (.sl hr rfl)),h50c,hone,af hK'.refs,au hlen,bV,hnl,hL,xZ];simp[go_sem,af hK'.refs,af hV'.refs,hK'.refs,hV'.refs]
termination_by SizeOf.sizeOf v
decreasing_by simp_wf;omega
def Wz (v:dL):Prop:=∀(c c':List IV) (m:IM),gh v c→gh v c'→sk v→cw (.f 15) [.agg c,.agg c'] m=some (.bool true,m)
theorem RD (vs:List dL) (hok:Bx vs) (hn:vs.length≤1000000) (ih:∀v,v∈vs→Wz v) (k:Int) (t:List UInt8) (K K' V V':IV) (hV:mL V vs) (hV':mL V' vs) (m:IM):∀(j i:Nat),vs.length=i+j →
  IQ i k t K V k t K' V' m=some (.exit 0,[],[],m):=by
 intro j
 induction j with
 |zero =>
  intro i hk;have c1:¬(i:Int)<(vs.length:Int):=by omega
  rw[BO];simp[Ig,go_sem,au hV.len,c1]
 |succ j ihj =>
  intro i hk;have hi:i<vs.length:=by omega
  have c1:(i:Int)<(vs.length:Int):=by omega
  have e2:IntKind.i64.wrap ((i:Int)+1)=((i+1:Nat):Int):=by rw[w64 (by omega) (by omega)];rfl
  have hlen:=hV.len;have hs:=ihj (i+1) (by omega)
  cases hV with
  |nil=>simp at hi
  | @sl _ row _ hr h1 =>
   subst h1
   cases hV' with
   |nil=>simp at hi
   | @sl _ row' _ hr' h1 =>subst h1;obtain⟨c,hc,hcut⟩:=hr.get i hi;obtain⟨c',hc',hcut'⟩:=hr'.get i hi;have hv:vs[i]∈vs:=List.getElem_mem hi;have hcall:=ih _ hv c c' m hc hc' (hok.mem hv);obtain⟨a1,t1,K1,V1,rfl,hK1,hV1,_,_⟩:=hc.cells;obtain⟨a2,t2,K2,V2,rfl,hK2,hV2,_,_⟩:=hc'.cells;have hcc:=fun (Q:IV→IM→Option (St⊕LR))=>ae hcall (by simp[go_sem,hK1,hV1,hK2,hV2]) Q;rw[BO,←hs];generalize i+1=i2 at *;simp only[Ig,go_sem,au hlen,c1,decide_true,if_true,au (ur hi),gi hcut,gi hcut',hcc,Bool.not_true,Bool.false_eq_true,if_false,e2];rfl
theorem E0 (v:dL):Wz v:=by
 obtain⟨k,t,ks,vs⟩:=v;intro c c' m hc hc' hok;have ih:∀v,v∈vs→Wz v:=fun v hv=>by
  have:SizeOf.sizeOf v<SizeOf.sizeOf vs:=List.sizeOf_lt_of_mem hv;exact E0 v
 cases hc with
 | @mk _ _ _ _ K V hK hV =>
  cases hc' with
  | @mk _ _ _ _ K' V' hK' hV' =>
   cases hok with
   |mk h1 h2 h3 h4 h5 =>
    have h49:=Ss hK hK' h2 m;have hcell:K.cells=[K]:=by rcases hK with ⟨rfl,_⟩ | rfl<;>rfl
    have hcell':K'.cells=[K']:=by rcases hK' with ⟨rfl,_⟩ | rfl<;>rfl
    have h49c:=fun (Q:IV→IM→Option LR)=>ae h49 (by simp[go_sem,hcell,hcell',hK.refs,hK'.refs]) Q;have hL:=RD vs h4 h5 ih k t K K' V V' hV hV' m vs.length 0 (by omega);rw[show ((0:Nat):Int)=0 from rfl] at hL;apply Im;simp only[X3,Ij,go_sem,af hK.refs,af hV.refs,af hK'.refs,af hV'.refs,bne_self_eq_false,BEq.rfl,Bool.not_true,Bool.false_eq_true,if_false,h49c,au hV.len,au hV'.len,hL]
    try simp[go_sem]
termination_by SizeOf.sizeOf v
decreasing_by simp_wf;omega
section
set_option maxRecDepth 100000
def XV:gO:=js [(.one .mn,[0]),(.agg [.int .i64,.str,.sl,.sl],[1,12]),(.one (.int .i64),[2,8,13]),(.one .own,[4,7]),(.agg [.any,.any,.any,.any,.any,.any],[6]),(.agg [.any],[9]),(.one .ptr,[11]),(.db [],[14])]
def Xl:Pl:=.z
noncomputable def Yi (w:Nat) (v:Int) (v1:List UInt8) (v2 v3:IV) (level:Int) (m:IM):Option (IV×IM):=bf v2 (bf v3 (an cw (.f 106) [] [] m fun v0 m1=>iq v0 fun l2=>c6 l2 fun v3_1 l4=>c6 l4 fun v5 l6=>c6 l6 fun v7 l8=>c6 l8 fun v9 l10=>c6 l10 fun v11 l12=>c6 l12 fun v13 l14=>bj l14 (fq (.ji 6 true 1) [.agg [v3_1,v5,v7,v9,v11,v13],.int .i64 v] fun v15=>iq v15 fun l16=>c6 l16 fun v17 l18=>bj l18 (jS cw v17 [.pB w 0,.agg [.int .i64 v,.str v1,v2,v3],.int .i64 level] [] m1 fun v19 m20=>jE v19 fun l21=>bj l21 (settle m m20 (.db []))))))
theorem II w v v1 v2 v3 level m {res} (h:Yi w v v1 v2 v3 level m=some res):cw (.f 82) [.pB w 0,.agg [.int .i64 v,.str v1,v2,v3],.int .i64 level] m=some res:=aJ rfl rfl ((by kernel_rfl:eL XV Xl i82 cw _ _=_).trans h)
def Vw:gO:=js [(.one .own,[0]),(.agg [.any],[1,2,3,4,5,6]),(.agg [.any,.any,.any,.any,.any,.any],[7])]
def UL:Pl:=.z
noncomputable def Wd (m:IM):Option (IV×IM):=settle m m (.agg [.func 126 [] [],.func 127 [] [],.func 127 [] [],.func 128 [] [],.func 129 [] [],.func 130 [] []])
theorem GL m {res} (h:Wd m=some res):cw (.f 106) [] m=some res:=aJ rfl rfl ((by kernel_rfl:eL Vw UL i106 cw _ _=_).trans h)
def Vz:gO:=js [(.one .mn,[0]),(.agg [.int .i64,.str,.sl,.sl],[1]),(.one (.int .i64),[2]),(.one .own,[4]),(.one .ptr,[6,7,8,9,12,13]),(.one .sl,[10,11])]
def UQ:Pl:=.z
noncomputable def Ty (w:Nat) (n:Int) (s:List UInt8) (v v1:IV) (n1:Int) (m:IM):Option (IV×IM):=bf v (bf v1 (gH m w fun l0 x1=>eV false l0 2 1 fun v2=>iT (ah [110,117,108,108]) (jN (Nat.beq (List.length (ah [110,117,108,108])) (List.length [110,117,108,108]*1)) (mw m w 2 v2 1 1 (ah [110,117,108,108]) 4 fun v3 m4=>iy v3 (lN m4 (.pB w 2) [v3] (.own 1) fun m5=>settle m m5 (.db []))))))
theorem GO w n s v v1 n1 m {res} (h:Ty w n s v v1 n1 m=some res):cw (.f 126) [.pB w 0,.agg [.int .i64 n,.str s,v,v1],.int .i64 n1] m=some res:=aJ rfl rfl ((by kernel_rfl:eL Vz UQ i126 cw _ _=_).trans h)
def VA:gO:=js [(.one .mn,[0]),(.agg [.int .i64,.str,.sl,.sl],[1]),(.one (.int .i64),[2]),(.one .own,[4,11]),(.one .ptr,[6,7,8,9,14,15]),(.one .sl,[10,13]),(.one .str,[12])]
def UR:Pl:=.z
noncomputable def Tz (w:Nat) (v:Int) (v1:List UInt8) (v2 v3:IV) (n:Int) (m:IM):Option (IV×IM):=bf v2 (bf v3 (jN (Nat.beq w w) (gH m w fun l0 x1=>eV false l0 2 1 fun v2=>iT (ah v1) (jN (Nat.beq (List.length (ah v1)) (List.length v1*1)) (mw m w 2 v2 1 1 (ah v1) (List.length v1) fun v3 m4=>iy v3 (lN m4 (.pB w 2) [v3] (.own 1) fun m5=>settle m m5 (.db [])))))))
theorem GP w v v1 v2 v3 n m {res} (h:Tz w v v1 v2 v3 n m=some res):cw (.f 127) [.pB w 0,.agg [.int .i64 v,.str v1,v2,v3],.int .i64 n] m=some res:=aJ rfl rfl ((by kernel_rfl:eL VA UR i127 cw _ _=_).trans h)
def VC:gO:=js [(.one .mn,[0]),(.agg [.int .i64,.str,.sl,.sl],[1]),(.one (.int .i64),[2]),(.one .own,[4,7]),(.one .ptr,[6]),(.one .str,[8]),(.db [],[9])]
def US:Pl:=.z
noncomputable def TA (w:Nat) (v:Int) (v1:List UInt8) (v2 v3:IV) (n:Int) (m:IM):Option (IV×IM):=bf v2 (bf v3 (an cw (.f 152) [.pB w 0,.str v1] [] m fun v0 m1=>jE v0 fun l2=>bj l2 (settle m m1 (.db []))))
theorem GQ w v v1 v2 v3 n m {res} (h:TA w v v1 v2 v3 n m=some res):cw (.f 128) [.pB w 0,.agg [.int .i64 v,.str v1,v2,v3],.int .i64 n] m=some res:=aJ rfl rfl ((by kernel_rfl:eL VC US i128 cw _ _=_).trans h)
def VD:gO:=js [(.one .mn,[0]),(.agg [.int .i64,.str,.sl,.sl],[1,7]),(.one (.int .i64),[2,8]),(.one .own,[4]),(.one .ptr,[6]),(.db [],[9])]
def UT:Pl:=.z
noncomputable def TB (w:Nat) (v:Int) (v1:List UInt8) (v2 v3:IV) (level:Int) (m:IM):Option (IV×IM):=bf v2 (bf v3 (an cw (.f 153) [.pB w 0,.agg [.int .i64 v,.str v1,v2,v3],.str [91,93],.int .i64 level] [] m fun v0 m1=>jE v0 fun l2=>bj l2 (settle m m1 (.db []))))
theorem GR w v v1 v2 v3 level m {res} (h:TB w v v1 v2 v3 level m=some res):cw (.f 129) [.pB w 0,.agg [.int .i64 v,.str v1,v2,v3],.int .i64 level] m=some res:=aJ rfl rfl ((by kernel_rfl:eL VD UT i129 cw _ _=_).trans h)
def VE:gO:=js [(.one .mn,[0]),(.agg [.int .i64,.str,.sl,.sl],[1,7]),(.one (.int .i64),[2,8]),(.one .own,[4]),(.one .ptr,[6]),(.db [],[9])]
def UU:Pl:=.z
noncomputable def TD (w:Nat) (v:Int) (v1:List UInt8) (v2 v3:IV) (level:Int) (m:IM):Option (IV×IM):=bf v2 (bf v3 (an cw (.f 153) [.pB w 0,.agg [.int .i64 v,.str v1,v2,v3],.str [123,125],.int .i64 level] [] m fun v0 m1=>jE v0 fun l2=>bj l2 (settle m m1 (.db []))))
theorem GS w v v1 v2 v3 level m {res} (h:TD w v v1 v2 v3 level m=some res):cw (.f 130) [.pB w 0,.agg [.int .i64 v,.str v1,v2,v3],.int .i64 level] m=some res:=aJ rfl rfl ((by kernel_rfl:eL VE UU i130 cw _ _=_).trans h)
def DA:gO:=js [(.one .mn,[0]),(.one .str,[1,17,22]),(.one (.int .i64),[4,18,19,21,23,26,49,85]),(.one (.int .u8),[5,24,30,31,44,50,65,66,67,68,69,70,80]),(.one .own,[7,29,43]),(.one .ptr,[8,9,10,11,15,16,38,39,40,41,47,48,52,53,54,55,58,59,60,61,62,63,73,74,75,76,77,78,83,84,86,87,88,89,93,94]),(.one .sl,[12,13,14,42,45,46,56,57,64,71,72,79,81,82,90,91,92]),(.one .bool,[20,32,33,36,37,51]),(.agg [.int .u8,.int .u8,.int .u8,.int .u8,.int .u8,.int .u8,.int .u8,.int .u8,.int .u8,.int .u8,.int .u8,.int .u8,.int .u8,.int .u8,.int .u8,.int .u8],[25]),(.agg [.int .u8,.int .u8],[28,34,35])]
def OB:XP:=[⟨.normal,[(0,.any),(1,.any),(5,.any),(18,.any),(19,.any),(25,.any),(26,.any),(37,.any)],[.cells 0 [.int .u8,.int .u8] [.any,.any]],[(7,0,0)]⟩]
def Mx:XP:=[⟨(.exit 2),[(0,.any),(1,.any),(5,.any),(18,.any),(19,.any)],[],[]⟩,⟨(.exit 1),[(0,.any),(1,.any),(18,.any),(19,.any)],[.dead 0],[]⟩]
def LF:Pl:=(.n none .z (.n none .z (.n none (.n none (.n none .z (.n (some OB) .z .z)) .z) .z)))
def OC:XP:=[⟨.normal,[(0,.any),(1,.any),(18,.any),(19,.any)],[.dead 0],[]⟩]
def My:XP:=[⟨(.exit 0),[(0,.any)],[],[]⟩]
def LG:Pl:=(.n none .z (.n none .z (.n (some OC) (.n none (.n none .z (.n none .z (.n none (.n none .z (.n none (.n (some Mx) LF .z) .z)) .z))) .z) .z)))
def UY:Pl:=(.n none .z (.n none .z (.n none (.n none .z (.n none (.n (some My) LG .z) .z)) .z)))
noncomputable def qT (w:Nat) (s:List UInt8) (c n:Int) (n1 n2:Int) (n3 n4:Int) (n5 n6:Int) (n7 n8:Int) (n9 n10:Int) (n11 n12:Int) (n13 n14:Int) (n15 n16:Int) (n17 n18:Int) (n19 n20:Int) (m:IM):Option LR:=aL (n20==c) (fq (.lu true [(0,.int),(1,.int)]) [.agg [.int .u8 n19,.int .u8 n20],.agg [.int .u8 47,.int .u8 47]] fun v0=>gu v0 fun b1=>some (.normal,[.pB w 0,.str s,.int .u8 c,.int .i64 n,.int .i64 n1,.agg [.int .u8 n2,.int .u8 n3,.int .u8 n4,.int .u8 n5,.int .u8 n6,.int .u8 n7,.int .u8 n8,.int .u8 n9,.int .u8 n10,.int .u8 n11,.int .u8 n12,.int .u8 n13,.int .u8 n14,.int .u8 n15,.int .u8 n16,.int .u8 n17],.int .i64 n18,.bool b1],[.cells [.int .u8 n19,.int .u8 n20] [.any,.any]],m)) (some (.normal,[.pB w 0,.str s,.int .u8 c,.int .i64 n,.int .i64 n1,.agg [.int .u8 n2,.int .u8 n3,.int .u8 n4,.int .u8 n5,.int .u8 n6,.int .u8 n7,.int .u8 n8,.int .u8 n9,.int .u8 n10,.int .u8 n11,.int .u8 n12,.int .u8 n13,.int .u8 n14,.int .u8 n15,.int .u8 n16,.int .u8 n17],.int .i64 n18,.bool false],[.cells [.int .u8 n19,.int .u8 n20] [.any,.any]],m))
noncomputable def Ed:St→Option (St⊕LR):=fun s=>KV.den DA cw (St⊕LR) LF s (gM DA Kj Mx)
noncomputable def vB (w:Nat) (s:List UInt8) (c n:Int) (n1 n2:Int) (n3 n4:Int) (n5 n6:Int) (n7 n8:Int) (n9 n10:Int) (n11 n12:Int) (n13 n14:Int) (n15 n16:Int) (n17 n18:Int) (m:IM):Option LR:=iter Ed (St.mk [(0,.pB w 0,.any),(1,.str s,.any),(5,.int .u8 c,.any),(18,.int .i64 n,.any),(19,.int .i64 n1,.any),(25,.agg [.int .u8 n2,.int .u8 n3,.int .u8 n4,.int .u8 n5,.int .u8 n6,.int .u8 n7,.int .u8 n8,.int .u8 n9,.int .u8 n10,.int .u8 n11,.int .u8 n12,.int .u8 n13,.int .u8 n14,.int .u8 n15,.int .u8 n16,.int .u8 n17],.any),(26,.int .i64 n18,.any)] [] [] m)
noncomputable def vd (w:Nat) (s:List UInt8) (c n:Int) (n1 n2:Int) (n3 n4:Int) (n5 n6:Int) (n7 n8:Int) (n9 n10:Int) (n11 n12:Int) (n13 n14:Int) (n15 n16:Int) (n17 n18:Int) (m:IM):Option (St⊕LR):=aL (decide (n18<8)) (fq (.ji 8 true 2) [.agg [.int .u8 n2,.int .u8 n3,.int .u8 n4,.int .u8 n5,.int .u8 n6,.int .u8 n7,.int .u8 n8,.int .u8 n9,.int .u8 n10,.int .u8 n11,.int .u8 n12,.int .u8 n13,.int .u8 n14,.int .u8 n15,.int .u8 n16,.int .u8 n17],.int .i64 n18] fun v0=>iq v0 fun l1=>uI .u8 l1 fun n4_1 l3=>uI .u8 l3 fun n7_1 l6=>bj l6 (bn (qT w s c n n1 n2 n3 n4 n5 n6 n7 n8 n9 n10 n11 n12 n13 n14 n15 n16 n17 n18 n4_1 n7_1 m) fun e8 l9 o10 m11=>fJ .normal e8 (c6 l9 fun v12 l13=>kg v12 fun k14=>c6 l13 fun v15 l16=>gQ v15 fun s17=>uI .u8 l16 fun n20 l19=>uI .i64 l19 fun n23 l22=>uI .i64 l22 fun n26 l25=>c6 l25 fun v27 l28=>iq v27 fun l29=>uI .u8 l29 fun n32 l31=>uI .u8 l31 fun n35 l34=>uI .u8 l34 fun n38 l37=>uI .u8 l37 fun n41 l40=>uI .u8 l40 fun n44 l43=>uI .u8 l43 fun n47 l46=>uI .u8 l46 fun n50 l49=>uI .u8 l49 fun n53 l52=>uI .u8 l52 fun n56 l55=>uI .u8 l55 fun n59 l58=>uI .u8 l58 fun n62 l61=>uI .u8 l61 fun n65 l64=>uI .u8 l64 fun n68 l67=>uI .u8 l67 fun n71 l70=>uI .u8 l70 fun n74 l73=>uI .u8 l73 fun n77 l76=>bj l76 (uI .i64 l28 fun n80 l79=>c6 l79 fun v81 l82=>gu v81 fun b83=>bj l82 (jB o10 fun x84 o85=>jP x84 fun l86=>uI .u8 l86 fun n89 l88=>uI .u8 l88 fun n92 l91=>bj l91 (cB o85 (aL b83 (jN (Nat.beq k14 k14) (gH m11 k14 fun l93 x94=>eV false l93 2 1 fun v95=>mw m11 k14 2 v95 1 1 [.int .u8 92,.int .u8 n89] 2 fun v96 m97=>iy v96 (lN m97 (.pB k14 2) [v96] (.own 1) fun m98=>some (.inr (.exit 1,[.pB k14 0,.str s17,.int .i64 n23,.int .i64 n26],[],m98))))) (some (.inl (St.mk [(0,.pB k14 0,.any),(1,.str s17,.any),(5,.int .u8 n20,.any),(18,.int .i64 n23,.any),(19,.int .i64 n26,.any),(25,.agg [.int .u8 n32,.int .u8 n35,.int .u8 n38,.int .u8 n41,.int .u8 n44,.int .u8 n47,.int .u8 n50,.int .u8 n53,.int .u8 n56,.int .u8 n59,.int .u8 n62,.int .u8 n65,.int .u8 n68,.int .u8 n71,.int .u8 n74,.int .u8 n77],.any),(26,.int .i64 (IntKind.wrap .i64 (n80+1)),.any)] [] [] m11)))))))) none)) (some (.inr (.exit 2,[.pB w 0,.str s,.int .u8 c,.int .i64 n,.int .i64 n1],[],m)))
theorem yG w s c n n1 n2 n3 n4 n5 n6 n7 n8 n9 n10 n11 n12 n13 n14 n15 n16 n17 n18 m:vB w s c n n1 n2 n3 n4 n5 n6 n7 n8 n9 n10 n11 n12 n13 n14 n15 n16 n17 n18 m=gK Ed (vd w s c n n1 n2 n3 n4 n5 n6 n7 n8 n9 n10 n11 n12 n13 n14 n15 n16 n17 n18 m):=(cz _ _).trans (congrArg (gK _) (by kernel_rfl))
noncomputable def qU (w:Nat) (s:List UInt8) (n n1:Int) (m:IM):Option LR:=fq .cm [.str s,.int .i64 n1] fun v0=>fG .u8 v0 fun n1_1=>bn (vB w s n1_1 n n1 34 34 92 92 47 47 98 8 102 12 110 10 114 13 116 9 0 m) fun e2 l3 o4 m5=>fJ (.exit 2) e2 (c6 l3 fun v6 l7=>kg v6 fun k8=>c6 l7 fun v9 l10=>gQ v9 fun s11=>uI .u8 l10 fun n14 l13=>uI .i64 l13 fun n17 l16=>uI .i64 l16 fun n20 l19=>bj l19 (cB o4 (aL (decide (n14<32)) (gH m5 k8 fun l21 x22=>eV false l21 2 1 fun v23=>iT (ah [92,117,48,48]) (jN (Nat.beq (List.length (ah [92,117,48,48])) (List.length [92,117,48,48]*1)) (mw m5 k8 2 v23 1 1 (ah [92,117,48,48]) 4 fun v24 m25=>iy v24 (lN m25 (.pB k8 2) [v24] (.own 1) fun m26=>jN (Nat.beq k8 k8) (gH m26 k8 fun l27 x28=>eV false l27 2 1 fun v29=>fq .cm [.str [48,49,50,51,52,53,54,55,56,57,97,98,99,100,101,102],.int .u8 (IntKind.wrap .u8 (Int.tdiv n14 16))] fun v30=>fG .u8 v30 fun n31=>fq .cm [.str [48,49,50,51,52,53,54,55,56,57,97,98,99,100,101,102],.int .u8 (Int.tmod n14 16)] fun v32=>fG .u8 v32 fun n33=>mw m26 k8 2 v29 1 1 [.int .u8 n31,.int .u8 n33] 2 fun v34 m35=>iy v34 (lN m35 (.pB k8 2) [v34] (.own 1) fun m36=>some (.normal,[.pB k8 0,.str s11,.int .i64 n17,.int .i64 n20],[],m36))))))) (gH m5 k8 fun l37 x38=>eV false l37 2 1 fun v39=>mw m5 k8 2 v39 1 1 [.int .u8 n14] 1 fun v40 m41=>iy v40 (lN m41 (.pB k8 2) [v40] (.own 1) fun m42=>some (.normal,[.pB k8 0,.str s11,.int .i64 n17,.int .i64 n20],[],m42)))))) (fJ (.exit 1) e2 (c6 l3 fun v43 l44=>kg v43 fun k45=>c6 l44 fun v46 l47=>gQ v46 fun s48=>uI .i64 l47 fun n51 l50=>uI .i64 l50 fun n54 l53=>bj l53 (cB o4 (some (.normal,[.pB k45 0,.str s48,.int .i64 n51,.int .i64 n54],[],m5)))) none)
noncomputable def Ee:St→Option (St⊕LR):=fun s=>KW.den DA cw (St⊕LR) LG s (gM DA Kl My)
noncomputable def vC (w:Nat) (s:List UInt8) (n n1:Int) (m:IM):Option LR:=iter Ee (St.mk [(0,.pB w 0,.any),(1,.str s,.any),(18,.int .i64 n,.any),(19,.int .i64 n1,.any)] [] [] m)
noncomputable def zF (w:Nat) (s:List UInt8) (n n1:Int) (m:IM):Option (St⊕LR):=aL (decide (n1<n)) (bn (qU w s n n1 m) fun e0 l1 o2 m3=>fJ .normal e0 (c6 l1 fun v4 l5=>kg v4 fun k6=>c6 l5 fun v7 l8=>gQ v7 fun s9=>uI .i64 l8 fun n12 l11=>uI .i64 l11 fun n15 l14=>bj l14 (cB o2 (some (.inl (St.mk [(0,.pB k6 0,.any),(1,.str s9,.any),(18,.int .i64 n12,.any),(19,.int .i64 (IntKind.wrap .i64 (n15+1)),.any)] [] [] m3))))) none) (some (.inr (.exit 0,[.pB w 0],[],m)))
theorem yH w s n n1 m:vC w s n n1 m=gK Ee (zF w s n n1 m):=(cz _ _).trans (congrArg (gK _) (by kernel_rfl))
noncomputable def TE (w:Nat) (s:List UInt8) (m:IM):Option (IV×IM):=gH m w fun l0 x1=>eV false l0 2 1 fun v2=>mw m w 2 v2 1 1 [.int .u8 34] 1 fun v3 m4=>iy v3 (lN m4 (.pB w 2) [v3] (.own 1) fun m5=>bn (vC w s (↑(List.length s):Int) 0 m5) fun e6 l7 o8 m9=>fJ (.exit 0) e6 (c6 l7 fun v10 l11=>kg v10 fun k12=>bj l11 (cB o8 (gH m9 k12 fun l13 x14=>eV false l13 2 1 fun v15=>mw m9 k12 2 v15 1 1 [.int .u8 34] 1 fun v16 m17=>iy v16 (lN m17 (.pB k12 2) [v16] (.own 1) fun m18=>settle m m18 (.db []))))) none)
theorem GV w s m {res} (h:TE w s m=some res):cw (.f 152) [.pB w 0,.str s] m=some res:=aJ rfl rfl ((by kernel_rfl:eL DA UY i152 cw _ _=_).trans h)
def Mn:gO:=js [(.one .mn,[0]),(.agg [.int .i64,.str,.sl,.sl],[1,22,83]),(.one .str,[2,15,53,100]),(.one (.int .i64),[3,8,9,24,25,27,29,30,42,43,46,51,81,84,85,87,90,93]),(.one .own,[5,45,49,79,88]),(.one .ptr,[10,11,12,13,19,20,21,32,33,34,35,39,40,41,48,55,56,57,58,62,63,64,65,66,67,69,70,71,72,76,77,78,92,95,96,97,98,104,105]),(.one .sl,[14,17,18,23,36,37,38,50,59,60,61,73,74,75,80,89,99,102,103]),(.one (.int .u8),[16,101]),(.one .bool,[31,47,68,91]),(.db [],[44,54,86,94])]
def OD:XP:=[⟨.normal,[(0,.any),(2,.any),(3,.any),(9,.any),(23,.any),(24,.any),(25,.any)],[.cells 0 [.int .i64,.str,.sl,.sl] [.any,.any,.any,.any]],[(5,0,0)]⟩]
def OE:XP:=[⟨.normal,[(0,.any),(2,.any),(3,.any),(9,.any),(23,.any),(24,.any),(25,.any)],[.cells 0 [.int .i64,.str,.sl,.sl] [.any,.any,.any,.any]],[(5,0,0)]⟩]
def Mz:XP:=[⟨(.exit 0),[(0,.any),(2,.any),(3,.any)],[.cells 0 [.int .i64,.str,.sl,.sl] [.any,.any,.any,.any]],[(5,0,0)]⟩]
def LH:Pl:=(.n none .z (.n none .z (.n none (.n none (.n none .z (.n (some OD) .z (.n none .z (.n (some OE) .z .z)))) .z) .z)))
def OG:XP:=[⟨.normal,[(0,.any),(2,.any)],[.dead 0],[]⟩]
def UZ:Pl:=(.n none .z (.n none .z (.n none (.n none .z (.n none (.n (some Mz) LH .z) .z)) (.n (some OG) .z .z))))
noncomputable def uC (w:Nat) (brackets:List UInt8) (level n i:Int) (v:IV) (n1 n2 n3:Int) (s:List UInt8) (v1 v2:IV) (m:IM):Option LR:=aL (decide (n>0)) (gH m w fun l0 x1=>eV false l0 2 1 fun v2_1=>mw m w 2 v2_1 1 1 [.int .u8 44] 1 fun v3 m4=>iy v3 (lN m4 (.pB w 2) [v3] (.own 1) fun m5=>some (.normal,[.pB w 0,.str brackets,.int .i64 level,.int .i64 i,v,.int .i64 n1,.int .i64 n2],[.cells [.int .i64 n3,.str s,v1,v2] [.any,.any,.any,.any]],m5))) (some (.normal,[.pB w 0,.str brackets,.int .i64 level,.int .i64 i,v,.int .i64 n1,.int .i64 n2],[.cells [.int .i64 n3,.str s,v1,v2] [.any,.any,.any,.any]],m))
noncomputable def qV (w:Nat) (brackets:List UInt8) (level i:Int) (v:IV) (n n1 n2:Int) (s:List UInt8) (v1 v2:IV) (m:IM):Option LR:=aL (n2==5) (fq (.aw 1) [v1,.int .i64 i] fun v0=>lD m false 1 v0 fun v1_1=>gQ v1_1 fun s2=>an cw (.f 152) [.pB w 0,.str s2] [] m fun v3 m4=>jE v3 fun l5=>bj l5 (gH m4 w fun l6 x7=>eV false l6 2 1 fun v8=>mw m4 w 2 v8 1 1 [.int .u8 58] 1 fun v9 m10=>iy v9 (lN m10 (.pB w 2) [v9] (.own 1) fun m11=>gH m11 w fun l12 x13=>eV false l12 1 1 fun v14=>gu v14 fun b15=>aL b15 (gH m11 w fun l16 x17=>eV false l16 2 1 fun v18=>mw m11 w 2 v18 1 1 [.int .u8 32] 1 fun v19 m20=>iy v19 (lN m20 (.pB w 2) [v19] (.own 1) fun m21=>some (.normal,[.pB w 0,.str brackets,.int .i64 level,.int .i64 i,v,.int .i64 n,.int .i64 n1],[.cells [.int .i64 n2,.str s,v1,v2] [.any,.any,.any,.any]],m21))) (some (.normal,[.pB w 0,.str brackets,.int .i64 level,.int .i64 i,v,.int .i64 n,.int .i64 n1],[.cells [.int .i64 n2,.str s,v1,v2] [.any,.any,.any,.any]],m11))))) (some (.normal,[.pB w 0,.str brackets,.int .i64 level,.int .i64 i,v,.int .i64 n,.int .i64 n1],[.cells [.int .i64 n2,.str s,v1,v2] [.any,.any,.any,.any]],m))
noncomputable def Ef:St→Option (St⊕LR):=fun s=>KX.den Mn cw (St⊕LR) LH s (gM Mn Km Mz)
noncomputable def vD (w:Nat) (brackets:List UInt8) (level:Int) (v:IV) (n n1 n2:Int) (s:List UInt8) (v1 v2:IV) (m:IM):Option LR:=iter Ef (St.mk [(0,.pB w 0,.any),(2,.str brackets,.any),(3,.int .i64 level,.any),(5,.pL 0 0,.any),(23,v,.any),(24,.int .i64 n,.any),(25,.int .i64 n1,.any)] [] [(0,.cells [.int .i64 n2,.str s,v1,v2] [.any,.any,.any,.any])] m)
noncomputable def zG (w:Nat) (brackets:List UInt8) (level:Int) (v:IV) (n n1 n2:Int) (s:List UInt8) (v1 v2:IV) (m:IM):Option (St⊕LR):=aL (decide (n1<n)) (fq (.aw 1) [v,.int .i64 n1] fun v0=>lD m false 1 v0 fun v1_1=>fG .i64 v1_1 fun n2_1=>bn (uC w brackets level n1 n2_1 v n n1 n2 s v1 v2 m) fun e3 l4 o5 m6=>fJ .normal e3 (c6 l4 fun v7 l8=>kg v7 fun k9=>c6 l8 fun v10 l11=>gQ v10 fun s12=>uI .i64 l11 fun n15 l14=>uI .i64 l14 fun n18 l17=>c6 l17 fun v19 l20=>uI .i64 l20 fun n23 l22=>uI .i64 l22 fun n26 l25=>bj l25 (jB o5 fun x27 o28=>jP x27 fun l29=>uV l29 fun n32 s35 v36 v38 l39=>bj l39 (cB o28 (an cw (.f 164) [.pB k9 0,.int .i64 (IntKind.wrap .i64 (n15+1))] [] m6 fun v40 m41=>jE v40 fun l42=>bj l42 (bn (qV k9 s12 n15 n18 v19 n23 n26 n32 s35 v36 v38 m41) fun e43 l44 o45 m46=>fJ .normal e43 (c6 l44 fun v47 l48=>kg v47 fun k49=>c6 l48 fun v50 l51=>gQ v50 fun s52=>uI .i64 l51 fun n55 l54=>uI .i64 l54 fun n58 l57=>c6 l57 fun v59 l60=>uI .i64 l60 fun n63 l62=>uI .i64 l62 fun n66 l65=>bj l65 (jB o45 fun x67 o68=>jP x67 fun l69=>uV l69 fun n72 s75 v76 v78 l79=>bj l79 (cB o68 (fq (.aw 4) [v78,.int .i64 n58] fun v80=>lD m46 true 4 v80 fun v81=>iq v81 fun l82=>uV l82 fun n85 s88 v89 v91 l92=>bj l92 (an cw (.f 82) [.pB k49 0,.agg [.int .i64 n85,.str s88,v89,v91],.int .i64 (IntKind.wrap .i64 (n55+1))] [] m46 fun v93 m94=>jE v93 fun l95=>bj l95 (dk v59 (some (.inl (St.mk [(0,.pB k49 0,.any),(2,.str s52,.any),(3,.int .i64 n55,.any),(5,.pL 0 0,.any),(23,v59,.any),(24,.int .i64 n63,.any),(25,.int .i64 (IntKind.wrap .i64 (n66+1)),.any)] [] [(0,.cells [.int .i64 n72,.str s75,v76,v78] [.any,.any,.any,.any])] m94))))))))) none))))) none) (some (.inr (.exit 0,[.pB w 0,.str brackets,.int .i64 level],[.cells [.int .i64 n2,.str s,v1,v2] [.any,.any,.any,.any]],m)))
theorem yI w brackets level v n n1 n2 s v1 v2 m:vD w brackets level v n n1 n2 s v1 v2 m=gK Ef (zG w brackets level v n n1 n2 s v1 v2 m):=(cz _ _).trans (congrArg (gK _) (by kernel_rfl))
noncomputable def uD (w:Nat) (brackets:List UInt8) (level n:Int) (s:List UInt8) (v v1:IV) (m:IM):Option LR:=fq .ay [v1] fun v0=>fG .i64 v0 fun n1=>aL (decide (n1>0)) (an cw (.f 164) [.pB w 0,.int .i64 level] [] m fun v2 m3=>jE v2 fun l4=>bj l4 (some (.normal,[.pB w 0,.str brackets],[],m3))) (some (.normal,[.pB w 0,.str brackets],[],m))
noncomputable def TF (w:Nat) (v:Int) (v1:List UInt8) (v2 v3:IV) (brackets:List UInt8) (level:Int) (m:IM):Option (IV×IM):=bf v2 (bf v3 (jN (Nat.beq w w) (gH m w fun l0 x1=>eV false l0 2 1 fun v2_1=>fq .cm [.str brackets,.int .i64 0] fun v3_1=>fG .u8 v3_1 fun n4=>mw m w 2 v2_1 1 1 [.int .u8 n4] 1 fun v5 m6=>iy v5 (lN m6 (.pB w 2) [v5] (.own 1) fun m7=>an cw (.f 163) [.pB w 0,.agg [.int .i64 v,.str v1,v2,v3]] [] m7 fun v8 m9=>fq .ay [v8] fun v10=>fG .i64 v10 fun n11=>dk v8 (bn (vD w brackets level v8 n11 0 v v1 v2 v3 m9) fun e12 l13 o14 m15=>fJ (.exit 0) e12 (c6 l13 fun v16 l17=>kg v16 fun k18=>c6 l17 fun v19 l20=>gQ v19 fun s21=>uI .i64 l20 fun n24 l23=>bj l23 (jB o14 fun x25 o26=>jP x25 fun l27=>uV l27 fun n30 s33 v34 v36 l37=>bj l37 (cB o26 (bn (uD k18 s21 n24 n30 s33 v34 v36 m15) fun e38 l39 o40 m41=>fJ .normal e38 (c6 l39 fun v42 l43=>kg v42 fun k44=>c6 l43 fun v45 l46=>gQ v45 fun s47=>bj l46 (cB o40 (jN (Nat.beq k44 k44) (gH m41 k44 fun l48 x49=>eV false l48 2 1 fun v50=>fq .cm [.str s47,.int .i64 1] fun v51=>fG .u8 v51 fun n52=>mw m41 k44 2 v50 1 1 [.int .u8 n52] 1 fun v53 m54=>iy v53 (lN m54 (.pB k44 2) [v53] (.own 1) fun m55=>settle m m55 (.db [])))))) none)))) none)))))
theorem GW w v v1 v2 v3 brackets level m {res} (h:TF w v v1 v2 v3 brackets level m=some res):cw (.f 153) [.pB w 0,.agg [.int .i64 v,.str v1,v2,v3],.str brackets,.int .i64 level] m=some res:=aJ rfl rfl ((by kernel_rfl:eL Mn UZ i153 cw _ _=_).trans h)
def Mo:gO:=js [(.one .mn,[0]),(.agg [.int .i64,.str,.sl,.sl],[1]),(.one .ptr,[3,8,22,23,24,25,29]),(.one .sl,[4,5,7,9,11,12,17,33,34,36,37,38,40,43]),(.one (.int .i64),[6,10,13,14,16,18,19,21,30,35,39]),(.one .bool,[26,27,28,31,32]),(.db [],[42])]
def MA:XP:=[⟨(.exit 0),[(0,.any),(3,.any),(5,.any)],[],[]⟩]
def LI:Pl:=.z
def OH:XP:=[⟨.normal,[(3,.any),(5,.any),(32,.any)],[],[]⟩]
def U0:Pl:=(.n none .z (.n none .z (.n none (.n none .z (.n none (.n (some MA) LI .z) .z)) (.n none (.n (some OH) .z .z) .z))))
noncomputable def Eg:St→Option (St⊕LR):=fun s=>KY.den Mo cw (St⊕LR) LI s (gM Mo Kn MA)
noncomputable def sn (w v v1:Nat) (l:IV) (n n1:Int) (m:IM):Option LR:=iter Eg (St.mk [(0,.pB w 0,.any),(3,.pB v v1,.any),(5,l,.any),(13,.int .i64 n,.any),(14,.int .i64 n1,.any)] [] [] m)
noncomputable def zH (w v v1:Nat) (l:IV) (n n1:Int) (m:IM):Option (St⊕LR):=aL (decide (n1<n)) (fq (.aw 1) [l,.int .i64 n1] fun v0=>lN m v0 [.int .i64 n1] .any fun m1=>dk l (some (.inl (St.mk [(0,.pB w 0,.any),(3,.pB v v1,.any),(5,l,.any),(13,.int .i64 n,.any),(14,.int .i64 (IntKind.wrap .i64 (n1+1)),.any)] [] [] m1)))) (some (.inr (.exit 0,[.pB w 0,.pB v v1,l],[],m)))
theorem yJ w v v1 l n n1 m:sn w v v1 l n n1 m=gK Eg (zH w v v1 l n n1 m):=(cz _ _).trans (congrArg (gK _) (by kernel_rfl))
noncomputable def oX (w v v1:Nat) (l:IV) (m:IM):Option LR:=gH m w fun l0 x1=>eV false l0 0 1 fun v2=>gu v2 fun b3=>aL (!b3) (some (.normal,[.pB v v1,l,.bool true],[],m)) (gH m v fun l4 x5=>eV false l4 (v1+0) 1 fun v6=>fG .i64 v6 fun n7=>some (.normal,[.pB v v1,l,.bool (n7 != 5)],[],m))
noncomputable def QJ (w:Nat) (v:Int) (v1:List UInt8) (v2 v3:IV) (m:IM):Option (IV×IM):=bf v2 (bf v3 (gH (bZ m (.cells [.int .i64 v,.str v1,v2,v3] [.any,.any,.any,.any])) (IM.size m) fun l0 x1=>eV false l0 3 1 fun v2_1=>fq .ay [v2_1] fun v3_1=>fG .i64 v3_1 fun n4=>jN (decide (0≤n4∧n4≤n4∧n4*(↑8:Int)≤(↑aH:Int)∧n4≤(↑aH:Int))) (bn (sn w (IM.size m) 0 (.sB (IM.size (bZ m (.cells [.int .i64 v,.str v1,v2,v3] [.any,.any,.any,.any]))) 0 (Int.toNat n4) 1) (↑(Int.toNat n4):Int) 0 (bZ (bZ m (.cells [.int .i64 v,.str v1,v2,v3] [.any,.any,.any,.any])) (.cells (dY [.int .i64 0] (Int.toNat n4)) (bp (dY [.int .i64 0] (Int.toNat n4)) [])))) fun e5 l6 o7 m8=>fJ (.exit 0) e5 (c6 l6 fun v9 l10=>kg v9 fun k11=>c6 l10 fun v12 l13=>M4 v12 fun k14 k15=>c6 l13 fun v16 l17=>bj l17 (cB o7 (bn (oX k11 k14 k15 v16 m8) fun e18 l19 o20 m21=>fJ .normal e18 (c6 l19 fun v22 l23=>M4 v22 fun k24 k25=>c6 l23 fun v26 l27=>c6 l27 fun v28 l29=>gu v28 fun b30=>bj l29 (cB o20 (aL b30 (settle m m21 v26) (fq .ay [v26] fun v31=>fG .i64 v31 fun n32=>jN (decide (0≤n32∧n32≤n32∧n32*(↑8:Int)≤(↑aH:Int)∧n32≤(↑aH:Int))) (tu (bZ m21 (.cells (dY [.int .i64 0] (Int.toNat n32)) (bp (dY [.int .i64 0] (Int.toNat n32)) []))) 1 v26 fun l33 k34=>jN (decide (List.length l33=k34*1)) (Uc (bZ m21 (.cells (dY [.int .i64 0] (Int.toNat n32)) (bp (dY [.int .i64 0] (Int.toNat n32)) []))) (.sB (IM.size m21) 0 (Int.toNat n32) 1) 1 l33 k34 fun k35 m36=>an cw (.f 168) [.sB (IM.size m21) 0 (Int.toNat n32) 1,.func 169 [] [.pB k24 k25]] [] m36 fun v37 m38=>jE v37 fun l39=>bj l39 (settle m m38 (.sB (IM.size m21) 0 (Int.toNat n32) 1)))))))) none))) none)))
theorem yC w v v1 v2 v3 m {res} (h:QJ w v v1 v2 v3 m=some res):cw (.f 163) [.pB w 0,.agg [.int .i64 v,.str v1,v2,v3]] m=some res:=aJ rfl rfl ((by kernel_rfl:eL Mo U0 i163 cw _ _=_).trans h)
def VH:gO:=js [(.one .mn,[0]),(.one (.int .i64),[1,14]),(.one .ptr,[4,5,6,7,9,10,11,12,18,19]),(.one .bool,[8]),(.one .sl,[13,17]),(.one .str,[15,16])]
def U1:Pl:=.z
noncomputable def QK (w:Nat) (level:Int) (m:IM):Option (IV×IM):=gH m w fun l0 x1=>eV false l0 1 1 fun v2=>gu v2 fun b3=>aL b3 (jN (Nat.beq w w) (gH m w fun l4 x5=>eV false l4 2 1 fun v6=>an cw (.f 171) [.str [32,32],.int .i64 level] [w] m fun v7 m8=>jN (List.contains [w] w) (gQ v7 fun s9=>fq (.bin .add) [.str [10],.str s9] fun v10=>gQ v10 fun s11=>iT (ah s11) (jN (Nat.beq (List.length (ah s11)) (List.length s11*1)) (mw m8 w 2 v6 1 1 (ah s11) (List.length s11) fun v12 m13=>iy v12 (lN m13 (.pB w 2) [v12] (.own 1) fun m14=>settle m m14 (.db []))))))) (settle m m (.db []))
theorem GX w level m {res} (h:QK w level m=some res):cw (.f 164) [.pB w 0,.int .i64 level] m=some res:=aJ rfl rfl ((by kernel_rfl:eL VH U1 i164 cw _ _=_).trans h)
def VJ:gO:=js [(.one (.int .i64),[0,1,5,8,13,16]),(.one .ptr,[6,11]),(.one .sl,[7,12]),(.one .str,[10,15])]
def U3:Pl:=.z
noncomputable def TH (a b:Int) (p:Nat) (m:IM):Option (IV×IM):=gH m p fun l0 x1=>eV false l0 2 1 fun v2=>fq (.aw 1) [v2,.int .i64 a] fun v3=>lD m false 1 v3 fun v4=>gQ v4 fun s5=>gH m p fun l6 x7=>eV false l6 2 1 fun v8=>fq (.aw 1) [v8,.int .i64 b] fun v9=>lD m false 1 v9 fun v10=>gQ v10 fun s11=>an cw (.f 170) [.str s5,.str s11] [] m fun v12 m13=>fG .i64 v12 fun n14=>settle m m13 (.int .i64 n14)
theorem GZ a b p m {res} (h:TH a b p m=some res):cw (.f 169) [.int .i64 a,.int .i64 b,.pB p 0] m=some res:=aJ rfl rfl ((by kernel_rfl:eL VJ U3 i169 cw _ _=_).trans h)
def XG:gO:=js [(.agg [.int .i64,.str,.sl,.sl],[0,4]),(.one .own,[1]),(.one .str,[2,7]),(.one (.int .i64),[3,8]),(.agg [.bool,.bool],[5]),(.db [.one .str,.one (.int .i64)],[6])]
def WW:Pl:=.z
noncomputable def X5 (v:Int) (v1:List UInt8) (v2 v3:IV) (m:IM):Option (IV×IM):=bf v2 (bf v3 (an cw (.f 52) [.agg [.int .i64 v,.str v1,v2,v3],.agg [.bool false,.bool false]] [] m fun v0 m1=>jE v0 fun l2=>c6 l2 fun v3 l4=>gQ v3 fun s5=>uI .i64 l4 fun n8 l7=>bj l7 (settle m m1 (.db [.str s5,.int .i64 n8]))))
theorem Iq v v1 v2 v3 m {res} (h:X5 v v1 v2 v3 m=some res):cw (.f 18) [.agg [.int .i64 v,.str v1,v2,v3]] m=some res:=aJ rfl rfl ((by kernel_rfl:eL XG WW i18 cw _ _=_).trans h)
def XO:gO:=js [(.agg [.int .i64,.str,.sl,.sl],[0,9,20]),(.agg [.bool,.bool],[1,14]),(.one .own,[2,3]),(.one .str,[4,32]),(.one (.int .i64),[5,6,10,11,13,26]),(.one .ptr,[7,16,17,22,23,24,28,29,30]),(.one .bool,[12,27]),(.agg [.bool,.bool,.sl],[15]),(.db [],[21]),(.one .sl,[25,31])]
def Xa:Pl:=.z
noncomputable def VV (v:Int) (v1:List UInt8) (v2 v3:IV) (s s1:Bool) (m:IM):Option (IV×IM):=bf v2 (bf v3 (an cw (.f 25) [.agg [.int .i64 v,.str v1,v2,v3]] [] m fun v0 m1=>fG .i64 v0 fun n2=>aL (n2 != 0) (settle m m1 (.db [.str [],.int .i64 n2])) (an cw (.f 82) [.pB (IM.size m1) 0,.agg [.int .i64 v,.str v1,v2,v3],.int .i64 0] [] (bZ m1 (.cells [.bool s,.bool s1,.aa] [.any,.any,.any])) fun v3 m4=>jE v3 fun l5=>bj l5 (gH m4 (IM.size m1) fun l6 x7=>eV false l6 2 1 fun v8=>fq .ay [v8] fun v9=>fG .i64 v9 fun n10=>aL (decide (n10>100000)) (settle m m4 (.db [.str [],.int .i64 20])) (gH m4 (IM.size m1) fun l11 x12=>eV false l11 2 1 fun v13=>fq .gT [v13] fun v14=>gQ v14 fun s15=>settle m m4 (.db [.str s15,.int .i64 0]))))))
theorem Iy v v1 v2 v3 s s1 m {res} (h:VV v v1 v2 v3 s s1 m=some res):cw (.f 52) [.agg [.int .i64 v,.str v1,v2,v3],.agg [.bool s,.bool s1]] m=some res:=aJ rfl rfl ((by kernel_rfl:eL XO Xa i52 cw _ _=_).trans h)
def XF:gO:=js [(.agg [.int .i64,.str,.sl,.sl],[0,3]),(.one .own,[1]),(.one .bool,[2,5]),(.one (.int .i64),[4])]
def WV:Pl:=.z
noncomputable def X4 (v:Int) (v1:List UInt8) (v2 v3:IV) (m:IM):Option (IV×IM):=bf v2 (bf v3 (an cw (.f 51) [.agg [.int .i64 v,.str v1,v2,v3],.int .i64 0] [] m fun v0 m1=>fG .i64 v0 fun n2=>settle m m1 (.bool (decide (n2≤60)))))
theorem Io v v1 v2 v3 m {res} (h:X4 v v1 v2 v3 m=some res):cw (.f 17) [.agg [.int .i64 v,.str v1,v2,v3]] m=some res:=aJ rfl rfl ((by kernel_rfl:eL XF WV i17 cw _ _=_).trans h)
def SH:gO:=js [(.agg [.int .i64,.str,.sl,.sl],[0,34]),(.one (.int .i64),[1,4,5,6,7,11,12,15,16,17,18,21,24,27,28,29,32,35,36,37,38,39]),(.one .own,[2,9,13,19,30]),(.one .bool,[8,22,23,25,26]),(.one .sl,[10,20,31]),(.one .str,[14])]
def S4:XP:=[⟨.normal,[(1,.any),(5,.any),(6,.any),(26,.any)],[.cells 0 [.int .i64,.str,.sl,.sl] [.any,.any,.any,.any]],[(2,0,0)]⟩]
def Qt:XP:=[⟨(.exit 0),[(5,.any)],[.dead 0],[]⟩]
def P7:Pl:=(.n none (.n (some S4) .z .z) .z)
def W9:Pl:=(.n none .z (.n none .z (.n none .z (.n none (.n none .z (.n none (.n (some Qt) P7 .z) .z)) .z))))
noncomputable def vl (level n:Int) (i n1:Int) (s:List UInt8) (v v1:IV) (m:IM):Option LR:=fq .ay [v1] fun v0=>fG .i64 v0 fun n1_1=>aL (decide (i<n1_1)) (some (.normal,[.int .i64 level,.int .i64 n,.int .i64 i,.bool (decide (n≤60))],[.cells [.int .i64 n1,.str s,v,v1] [.any,.any,.any,.any]],m)) (some (.normal,[.int .i64 level,.int .i64 n,.int .i64 i,.bool false],[.cells [.int .i64 n1,.str s,v,v1] [.any,.any,.any,.any]],m))
noncomputable def Pa:St→Option (St⊕LR):=fun s=>PI.den SH cw (St⊕LR) P7 s (gM SH Pp Qt)
noncomputable def Fu (level n:Int) (i n1:Int) (s:List UInt8) (v v1:IV) (m:IM):Option LR:=iter Pa (St.mk [(1,.int .i64 level,.any),(2,.pL 0 0,.any),(5,.int .i64 n,.any),(6,.int .i64 i,.any)] [] [(0,.cells [.int .i64 n1,.str s,v,v1] [.any,.any,.any,.any])] m)
noncomputable def Fi (level n:Int) (i n1:Int) (s:List UInt8) (v v1:IV) (m:IM):Option (St⊕LR):=bn (vl level n i n1 s v v1 m) fun e0 l1 o2 m3=>fJ .normal e0 (uI .i64 l1 fun n6 l5=>uI .i64 l5 fun n9 l8=>uI .i64 l8 fun n12 l11=>c6 l11 fun v13 l14=>gu v13 fun b15=>bj l14 (jB o2 fun x16 o17=>jP x16 fun l18=>uV l18 fun n21 s24 v25 v27 l28=>bj l28 (cB o17 (aL b15 (fq (.aw 4) [v27,.int .i64 n12] fun v29=>lD m3 true 4 v29 fun v30=>iq v30 fun l31=>uV l31 fun n34 s37 v38 v40 l41=>bj l41 (an cw (.f 51) [.agg [.int .i64 n34,.str s37,v38,v40],.int .i64 (IntKind.wrap .i64 (n6+1))] [] m3 fun v42 m43=>fG .i64 v42 fun n44=>some (.inl (St.mk [(1,.int .i64 n6,.any),(2,.pL 0 0,.any),(5,.int .i64 (IntKind.wrap .i64 (n9+n44)),.any),(6,.int .i64 (IntKind.wrap .i64 (n12+1)),.any)] [] [(0,.cells [.int .i64 n21,.str s24,v25,v27] [.any,.any,.any,.any])] m43)))) (some (.inr (.exit 0,[.int .i64 n9],[],m3))))))) none
theorem BQ level n i n1 s v v1 m:Fu level n i n1 s v v1 m=gK Pa (Fi level n i n1 s v v1 m):=(cz _ _).trans (congrArg (gK _) (by kernel_rfl))
noncomputable def Wh (v:Int) (v1:List UInt8) (v2 v3:IV) (level:Int) (m:IM):Option (IV×IM):=bf v2 (bf v3 (aL (decide (level>50)) (settle m m (.int .i64 100)) (fq .ay [v2] fun v0=>fG .i64 v0 fun n1=>bn (Fu level (IntKind.wrap .i64 (IntKind.wrap .i64 (1+n1)+IntKind.wrap .i64 (Int.tdiv (↑(List.length v1):Int) 200))) 0 v v1 v2 v3 m) fun e2 l3 o4 m5=>fJ (.exit 0) e2 (uI .i64 l3 fun n8 l7=>bj l7 (cB o4 (settle m m5 (.int .i64 n8)))) none)))
theorem BI v v1 v2 v3 level m {res} (h:Wh v v1 v2 v3 level m=some res):cw (.f 51) [.agg [.int .i64 v,.str v1,v2,v3],.int .i64 level] m=some res:=aJ rfl rfl ((by kernel_rfl:eL SH W9 i51 cw _ _=_).trans h)
def SD:gO:=js [(.agg [.int .i64,.str,.sl,.sl],[0,13,20,23,24,29]),(.one .own,[1,2,3,5,6,8,10,14,21,27]),(.one (.int .i64),[7,16,17,28]),(.one .str,[9]),(.one .sl,[11,12,15,22,25,26])]
def Qp:XP:=[⟨(.exit 0),[],[.cells 1 [.int .i64,.str,.sl,.sl] [.any,.any,(.own 1),(.own 4)],.cells 2 [.int .i64,.str,.sl,.sl] [.any,.any,.any,(.own 4)]],[(2,1,0),(3,2,0)]⟩]
def P3:Pl:=.z
def WX:Pl:=(.n none .z (.n none .z (.n none (.n none .z (.n none (.n (some Qp) P3 .z) .z)) .z)))
noncomputable def O8:St→Option (St⊕LR):=fun s=>PE.den SD cw (St⊕LR) P3 s (gM SD Pk Qp)
noncomputable def Fq (v:IV) (n n1 n2:Int) (s:List UInt8) (v1 v2:IV) (n3:Int) (s1:List UInt8) (v3 v4:IV) (m:IM):Option LR:=iter O8 (St.mk [(2,.pL 1 0,.any),(3,.pL 2 0,.any),(15,v,.any),(16,.int .i64 n,.any),(17,.int .i64 n1,.any)] [] [(1,.cells [.int .i64 n2,.str s,v1,v2] [.any,.any,.own 1,.own 4]),(2,.cells [.int .i64 n3,.str s1,v3,v4] [.any,.any,.any,.own 4])] m)
noncomputable def Ff (v:IV) (n n1 n2:Int) (s:List UInt8) (v1 v2:IV) (n3:Int) (s1:List UInt8) (v3 v4:IV) (m:IM):Option (St⊕LR):=aL (decide (n1<n)) (fq (.aw 4) [v,.int .i64 n1] fun v0=>lD m true 4 v0 fun v1_1=>iq v1_1 fun l2=>uV l2 fun n5 s8 v9 v11 l12=>bj l12 (bf v9 (bf v11 (an cw (.f 19) [.agg [.int .i64 n5,.str s8,v9,v11]] [] m fun v13 m14=>iq v13 fun l15=>uV l15 fun n18 s21 v22 v24 l25=>bj l25 (mR v22 (mR v24 (mR v22 (mR v24 (j9 v4 4 72 [.int .i64 n18,.str s21,v22,v24] 1 fun v26=>iy v26 (bf v26 (dk v (some (.inl (St.mk [(2,.pL 1 0,.any),(3,.pL 2 0,.any),(15,v,.any),(16,.int .i64 n,.any),(17,.int .i64 (IntKind.wrap .i64 (n1+1)),.any)] [] [(1,.cells [.int .i64 n2,.str s,v1,v2] [.any,.any,.own 1,.own 4]),(2,.cells [.int .i64 n3,.str s1,v3,v26] [.any,.any,.any,.own 4])] m14)))))))))))))) (some (.inr (.exit 0,[],[.cells [.int .i64 n2,.str s,v1,v2] [.any,.any,.own 1,.own 4],.cells [.int .i64 n3,.str s1,v3,v4] [.any,.any,.any,.own 4]],m)))
theorem vG v n n1 n2 s v1 v2 n3 s1 v3 v4 m:Fq v n n1 n2 s v1 v2 n3 s1 v3 v4 m=gK O8 (Ff v n n1 n2 s v1 v2 n3 s1 v3 v4 m):=(cz _ _).trans (congrArg (gK _) (by kernel_rfl))
noncomputable def Wf (v:Int) (v1:List UInt8) (v2 v3:IV) (m:IM):Option (IV×IM):=bf v2 (bf v3 (an cw (.f 50) [v2] [] m fun v0 m1=>xw v0 (bf v0 (fq .ay [v3] fun v2=>fG .i64 v2 fun n3=>dk v3 (bn (Fq v3 n3 0 0 [] .aa .aa v v1 v0 .aa m1) fun e4 l5 o6 m7=>fJ (.exit 0) e4 (bj l5 (jB o6 fun x8 o9=>jP x8 fun l10=>uV l10 fun n13 s16 v17 v19 l20=>bj l20 (jB o9 fun x21 o22=>jP x21 fun l23=>uV l23 fun n26 s29 v30 v32 l33=>bj l33 (cB o22 (bf v30 (bf v32 (settle m m7 (.agg [.int .i64 n26,.str s29,v30,v32])))))))) none)))))
theorem BG v v1 v2 v3 m {res} (h:Wf v v1 v2 v3 m=some res):cw (.f 19) [.agg [.int .i64 v,.str v1,v2,v3]] m=some res:=aJ rfl rfl ((by kernel_rfl:eL SD WX i19 cw _ _=_).trans h)
def XH:gO:=js [(.agg [.int .i64,.str,.sl,.sl],[0,4]),(.one .own,[1]),(.one .str,[2,7]),(.one (.int .i64),[3,8]),(.agg [.bool,.bool],[5]),(.db [.one .str,.one (.int .i64)],[6])]
def WY:Pl:=.z
noncomputable def X6 (v:Int) (v1:List UInt8) (v2 v3:IV) (m:IM):Option (IV×IM):=bf v2 (bf v3 (an cw (.f 52) [.agg [.int .i64 v,.str v1,v2,v3],.agg [.bool true,.bool false]] [] m fun v0 m1=>jE v0 fun l2=>c6 l2 fun v3 l4=>gQ v3 fun s5=>uI .i64 l4 fun n8 l7=>bj l7 (settle m m1 (.db [.str s5,.int .i64 n8]))))
theorem Ir v v1 v2 v3 m {res} (h:X6 v v1 v2 v3 m=some res):cw (.f 21) [.agg [.int .i64 v,.str v1,v2,v3]] m=some res:=aJ rfl rfl ((by kernel_rfl:eL XH WY i21 cw _ _=_).trans h)
def XI:gO:=js [(.agg [.int .i64,.str,.sl,.sl],[0,4]),(.one .own,[1]),(.one .str,[2,7]),(.one (.int .i64),[3,8]),(.agg [.bool,.bool],[5]),(.db [.one .str,.one (.int .i64)],[6])]
def WZ:Pl:=.z
noncomputable def X7 (v:Int) (v1:List UInt8) (v2 v3:IV) (m:IM):Option (IV×IM):=bf v2 (bf v3 (an cw (.f 52) [.agg [.int .i64 v,.str v1,v2,v3],.agg [.bool false,.bool true]] [] m fun v0 m1=>jE v0 fun l2=>c6 l2 fun v3 l4=>gQ v3 fun s5=>uI .i64 l4 fun n8 l7=>bj l7 (settle m m1 (.db [.str s5,.int .i64 n8]))))
theorem Is v v1 v2 v3 m {res} (h:X7 v v1 v2 v3 m=some res):cw (.f 23) [.agg [.int .i64 v,.str v1,v2,v3]] m=some res:=aJ rfl rfl ((by kernel_rfl:eL XI WZ i23 cw _ _=_).trans h)
def VI:gO:=js [(.one .sl,[0,4,5]),(.one (.int .i64),[6]),(.db [],[8])]
def U2:Pl:=.z
noncomputable def TG (x cmp:IV) (m:IM):Option (IV×IM):=fq .ay [x] fun v0=>fG .i64 v0 fun n1=>an cw (.f 173) [x,.int .i64 n1,cmp] [] m fun v2 m3=>jE v2 fun l4=>bj l4 (settle m m3 (.db []))
theorem GY x cmp m {res} (h:TG x cmp m=some res):cw (.f 168) [x,cmp] m=some res:=aJ rfl rfl ((by kernel_rfl:eL VI U2 i168 cw _ _=_).trans h)
def xR:gO:=js [(.one .sl,[0,14,23,36,55]),(.one (.int .i64),[1,6,7,8,9,10,11,12,15,16,19,20,21,22,24,25,28,29,31,32,33,34,37,38,39,40,41,44,45,46,47,48,49,50,51,52,53,56,57,58,61,62]),(.one .bool,[13,30,35,54]),(.db [],[18,27,43,60])]
def MB:XP:=[⟨(.exit 0),[(0,.any),(1,.any),(2,.any),(6,.any),(7,.any)],[],[]⟩]
def LJ:Pl:=.z
def MC:XP:=[⟨(.exit 4),[(0,.any),(1,.any),(2,.any),(6,.any),(7,.any)],[],[]⟩]
def LK:Pl:=.z
def OI:XP:=[⟨.normal,[(0,.any),(1,.any),(2,.any),(6,.any)],[],[]⟩]
def MD:XP:=[⟨(.exit 2),[],[],[]⟩]
def LL:Pl:=(.n none .z (.n none (.n none .z (.n none (.n none (.n (some MC) LK .z) .z) (.n (some OI) .z .z))) .z))
def U5:Pl:=(.n none .z (.n none .z (.n none (.n none (.n (some MB) LJ .z) .z) (.n none .z (.n none (.n (some MD) LL .z) .z)))))
noncomputable def JN:St→Option (St⊕LR):=fun s=>KZ.den xR cw (St⊕LR) LJ s (gM xR Ko MB)
noncomputable def Ac (data:IV) (n:Int) (cmp:IV) (blockSize a b:Int) (m:IM):Option LR:=iter JN (St.mk [(0,data,.any),(1,.int .i64 n,.any),(2,cmp,.any),(6,.int .i64 blockSize,.any),(7,.int .i64 a,.any),(8,.int .i64 b,.any)] [] [] m)
noncomputable def zI (data:IV) (n:Int) (cmp:IV) (blockSize a b:Int) (m:IM):Option (St⊕LR):=aL (decide (b≤n)) (an cw (.f 180) [data,.int .i64 a,.int .i64 b,cmp] [] m fun v0 m1=>jE v0 fun l2=>bj l2 (dk data (gg cmp [] (some (.inl (St.mk [(0,data,.any),(1,.int .i64 n,.any),(2,cmp,.any),(6,.int .i64 blockSize,.any),(7,.int .i64 b,.any),(8,.int .i64 (IntKind.wrap .i64 (b+blockSize)),.any)] [] [] m1)))))) (some (.inr (.exit 0,[data,.int .i64 n,cmp,.int .i64 blockSize,.int .i64 a],[],m)))
theorem sq data n cmp blockSize a b m:Ac data n cmp blockSize a b m=gK JN (zI data n cmp blockSize a b m):=(cz _ _).trans (congrArg (gK _) (by kernel_rfl))
noncomputable def JO:St→Option (St⊕LR):=fun s=>K0.den xR cw (St⊕LR) LK s (gM xR Kp MC)
noncomputable def Ad (data:IV) (n:Int) (cmp:IV) (blockSize a b:Int) (m:IM):Option LR:=iter JO (St.mk [(0,data,.any),(1,.int .i64 n,.any),(2,cmp,.any),(6,.int .i64 blockSize,.any),(7,.int .i64 a,.any),(8,.int .i64 b,.any)] [] [] m)
noncomputable def zJ (data:IV) (n:Int) (cmp:IV) (blockSize a b:Int) (m:IM):Option (St⊕LR):=aL (decide (b≤n)) (an cw (.f 181) [data,.int .i64 a,.int .i64 (IntKind.wrap .i64 (a+blockSize)),.int .i64 b,cmp] [] m fun v0 m1=>jE v0 fun l2=>bj l2 (dk data (gg cmp [] (some (.inl (St.mk [(0,data,.any),(1,.int .i64 n,.any),(2,cmp,.any),(6,.int .i64 blockSize,.any),(7,.int .i64 b,.any),(8,.int .i64 (IntKind.wrap .i64 (b+IntKind.wrap .i64 (2*blockSize))),.any)] [] [] m1)))))) (some (.inr (.exit 4,[data,.int .i64 n,cmp,.int .i64 blockSize,.int .i64 a],[],m)))
theorem ss data n cmp blockSize a b m:Ad data n cmp blockSize a b m=gK JO (zJ data n cmp blockSize a b m):=(cz _ _).trans (congrArg (gK _) (by kernel_rfl))
noncomputable def uE (data:IV) (n:Int) (cmp:IV) (blockSize a:Int) (m:IM):Option LR:=aL (decide (IntKind.wrap .i64 (a+blockSize)<n)) (an cw (.f 181) [data,.int .i64 a,.int .i64 (IntKind.wrap .i64 (a+blockSize)),.int .i64 n,cmp] [] m fun v0 m1=>jE v0 fun l2=>bj l2 (some (.normal,[data,.int .i64 n,cmp,.int .i64 blockSize],[],m1))) (some (.normal,[data,.int .i64 n,cmp,.int .i64 blockSize],[],m))
noncomputable def JP:St→Option (St⊕LR):=fun s=>K3.den xR cw (St⊕LR) LL s (gM xR Kq MD)
noncomputable def Ae (data:IV) (n:Int) (cmp:IV) (blockSize:Int) (m:IM):Option LR:=iter JP (St.mk [(0,data,.any),(1,.int .i64 n,.any),(2,cmp,.any),(6,.int .i64 blockSize,.any)] [] [] m)
noncomputable def zK (data:IV) (n:Int) (cmp:IV) (blockSize:Int) (m:IM):Option (St⊕LR):=aL (decide (blockSize<n)) (dk data (gg cmp [] (bn (Ad data n cmp blockSize 0 (IntKind.wrap .i64 (2*blockSize)) m) fun e0 l1 o2 m3=>fJ (.exit 4) e0 (c6 l1 fun v4 l5=>uI .i64 l5 fun n8 l7=>c6 l7 fun v9 l10=>uI .i64 l10 fun n13 l12=>uI .i64 l12 fun n16 l15=>bj l15 (cB o2 (bn (uE v4 n8 v9 n13 n16 m3) fun e17 l18 o19 m20=>fJ .normal e17 (c6 l18 fun v21 l22=>uI .i64 l22 fun n25 l24=>c6 l24 fun v26 l27=>uI .i64 l27 fun n30 l29=>bj l29 (cB o19 (dk v21 (gg v26 [] (some (.inl (St.mk [(0,v21,.any),(1,.int .i64 n25,.any),(2,v26,.any),(6,.int .i64 (IntKind.wrap .i64 (n30*2)),.any)] [] [] m20))))))) none))) none))) (some (.inr (.exit 2,[],[],m)))
theorem su data n cmp blockSize m:Ae data n cmp blockSize m=gK JP (zK data n cmp blockSize m):=(cz _ _).trans (congrArg (gK _) (by kernel_rfl))
noncomputable def TJ (data:IV) (n:Int) (cmp:IV) (m:IM):Option (IV×IM):=dk data (gg cmp [] (bn (Ac data n cmp 20 0 20 m) fun e0 l1 o2 m3=>fJ (.exit 0) e0 (c6 l1 fun v4 l5=>uI .i64 l5 fun n8 l7=>c6 l7 fun v9 l10=>uI .i64 l10 fun n13 l12=>uI .i64 l12 fun n16 l15=>bj l15 (cB o2 (an cw (.f 180) [v4,.int .i64 n16,.int .i64 n8,v9] [] m3 fun v17 m18=>jE v17 fun l19=>bj l19 (dk v4 (gg v9 [] (bn (Ae v4 n8 v9 n13 m18) fun e20 l21 o22 m23=>fJ (.exit 2) e20 (bj l21 (cB o22 (settle m m23 (.db [])))) none)))))) none))
theorem G5 data n cmp m {res} (h:TJ data n cmp m=some res):cw (.f 173) [data,.int .i64 n,cmp] m=some res:=aJ rfl rfl ((by kernel_rfl:eL xR U5 i173 cw _ _=_).trans h)
def DB:gO:=js [(.one .sl,[0,23,27,37,39,42,47]),(.one (.int .i64),[1,2,8,9,10,11,12,13,15,16,17,18,19,24,26,28,29,31,32,35,36,38,40,41,43,44,46,48,50]),(.one .bool,[14,20,21,33,34])]
def OJ:XP:=[⟨.normal,[(0,.any),(1,.any),(2,.any),(3,.any),(8,.any),(9,.any),(34,.any)],[],[]⟩]
def ME:XP:=[⟨(.exit 2),[(0,.any),(1,.any),(2,.any),(3,.any),(8,.any)],[],[]⟩]
def LM:Pl:=(.n none (.n (some OJ) .z .z) .z)
def MF:XP:=[⟨(.exit 0),[],[],[]⟩]
def LN:Pl:=(.n none .z (.n none (.n none (.n none .z (.n none (.n (some ME) LM .z) .z)) .z) .z))
def U7:Pl:=(.n none .z (.n none (.n (some MF) LN .z) .z))
noncomputable def uF (data:IV) (a b:Int) (cmp:IV) (i j:Int) (m:IM):Option LR:=aL (decide (j>a)) (fq (.aw 1) [data,.int .i64 j] fun v0=>lD m false 1 v0 fun v1=>fG .i64 v1 fun n2=>fq (.aw 1) [data,.int .i64 (IntKind.wrap .i64 (j-1))] fun v3=>lD m false 1 v3 fun v4=>fG .i64 v4 fun n5=>jS cw cmp [.int .i64 n2,.int .i64 n5] [] m fun v6 m7=>fG .i64 v6 fun n8=>some (.normal,[data,.int .i64 a,.int .i64 b,cmp,.int .i64 i,.int .i64 j,.bool (decide (n8<0))],[],m7)) (some (.normal,[data,.int .i64 a,.int .i64 b,cmp,.int .i64 i,.int .i64 j,.bool false],[],m))
noncomputable def JQ:St→Option (St⊕LR):=fun s=>K4.den DB cw (St⊕LR) LM s (gM DB Kr ME)
noncomputable def Af (data:IV) (a b:Int) (cmp:IV) (i j:Int) (m:IM):Option LR:=iter JQ (St.mk [(0,data,.any),(1,.int .i64 a,.any),(2,.int .i64 b,.any),(3,cmp,.any),(8,.int .i64 i,.any),(9,.int .i64 j,.any)] [] [] m)
noncomputable def zL (data:IV) (a b:Int) (cmp:IV) (i j:Int) (m:IM):Option (St⊕LR):=bn (uF data a b cmp i j m) fun e0 l1 o2 m3=>fJ .normal e0 (c6 l1 fun v4 l5=>uI .i64 l5 fun n8 l7=>uI .i64 l7 fun n11 l10=>c6 l10 fun v12 l13=>uI .i64 l13 fun n16 l15=>uI .i64 l15 fun n19 l18=>c6 l18 fun v20 l21=>gu v20 fun b22=>bj l21 (cB o2 (aL b22 (fq (.aw 1) [v4,.int .i64 (IntKind.wrap .i64 (n19-1))] fun v23=>lD m3 false 1 v23 fun v24=>fG .i64 v24 fun n25=>fq (.aw 1) [v4,.int .i64 n19] fun v26=>lD m3 false 1 v26 fun v27=>fG .i64 v27 fun n28=>fq (.aw 1) [v4,.int .i64 n19] fun v29=>dk v29 (lN m3 v29 [.int .i64 n25] .any fun m30=>fq (.aw 1) [v4,.int .i64 (IntKind.wrap .i64 (n19-1))] fun v31=>dk v31 (lN m30 v31 [.int .i64 n28] .any fun m32=>dk v4 (gg v12 [] (some (.inl (St.mk [(0,v4,.any),(1,.int .i64 n8,.any),(2,.int .i64 n11,.any),(3,v12,.any),(8,.int .i64 n16,.any),(9,.int .i64 (IntKind.wrap .i64 (n19-1)),.any)] [] [] m32))))))) (some (.inr (.exit 2,[v4,.int .i64 n8,.int .i64 n11,v12,.int .i64 n16],[],m3)))))) none
theorem yK data a b cmp i j m:Af data a b cmp i j m=gK JQ (zL data a b cmp i j m):=(cz _ _).trans (congrArg (gK _) (by kernel_rfl))
noncomputable def JR:St→Option (St⊕LR):=fun s=>K5.den DB cw (St⊕LR) LN s (gM DB Ks MF)
noncomputable def vF (data:IV) (a b:Int) (cmp:IV) (i:Int) (m:IM):Option LR:=iter JR (St.mk [(0,data,.any),(1,.int .i64 a,.any),(2,.int .i64 b,.any),(3,cmp,.any),(8,.int .i64 i,.any)] [] [] m)
noncomputable def zM (data:IV) (a b:Int) (cmp:IV) (i:Int) (m:IM):Option (St⊕LR):=aL (decide (i<b)) (dk data (gg cmp [] (bn (Af data a b cmp i i m) fun e0 l1 o2 m3=>fJ (.exit 2) e0 (c6 l1 fun v4 l5=>uI .i64 l5 fun n8 l7=>uI .i64 l7 fun n11 l10=>c6 l10 fun v12 l13=>uI .i64 l13 fun n16 l15=>bj l15 (cB o2 (dk v4 (gg v12 [] (some (.inl (St.mk [(0,v4,.any),(1,.int .i64 n8,.any),(2,.int .i64 n11,.any),(3,v12,.any),(8,.int .i64 (IntKind.wrap .i64 (n16+1)),.any)] [] [] m3))))))) none))) (some (.inr (.exit 0,[],[],m)))
theorem sw data a b cmp i m:vF data a b cmp i m=gK JR (zM data a b cmp i m):=(cz _ _).trans (congrArg (gK _) (by kernel_rfl))
noncomputable def QL (data:IV) (a b:Int) (cmp:IV) (m:IM):Option (IV×IM):=dk data (gg cmp [] (bn (vF data a b cmp (IntKind.wrap .i64 (a+1)) m) fun e0 l1 o2 m3=>fJ (.exit 0) e0 (bj l1 (cB o2 (settle m m3 (.db [])))) none))
theorem yD data a b cmp m {res} (h:QL data a b cmp m=some res):cw (.f 180) [data,.int .i64 a,.int .i64 b,cmp] m=some res:=aJ rfl rfl ((by kernel_rfl:eL DB U7 i180 cw _ _=_).trans h)
def oT:gO:=js [(.one .sl,[0,41,45,61,63,66,71,93,97,113,115,118,123,159,165,186,200,214]),(.one (.int .i64),[1,2,3,10,11,12,13,14,15,16,17,18,19,20,21,22,23,24,25,26,27,29,30,31,32,34,35,36,39,42,44,46,48,49,51,52,53,54,55,56,57,59,60,62,64,65,67,68,70,72,74,77,78,79,81,82,83,84,86,87,88,91,94,96,98,100,101,104,105,106,107,108,109,111,112,114,116,117,119,120,122,124,126,129,130,131,134,135,136,137,138,139,141,142,143,144,145,146,147,148,149,150,152,153,154,157,160,161,162,164,166,168,169,172,173,174,175,176,177,178,179,182,183,187,188,189,192,193,196,197,201,202,203,206,207,210,211,215,216,217]),(.one .bool,[28,33,50,58,80,85,102,103,110,140,151,170,171,180,181,184,185,194,195,198,199,208,209,212,213]),(.one (.int .u64),[37,38,89,90,132,133,155,156]),(.db [],[191,205,219])]
def MG:XP:=[⟨(.exit 0),[(0,.any),(1,.any),(10,.any)],[],[]⟩]
def LO:Pl:=.z
def MH:XP:=[⟨(.exit 2),[],[],[]⟩]
def LP:Pl:=.z
def MI:XP:=[⟨(.exit 4),[(0,.any),(2,.any),(14,.any)],[],[]⟩]
def LQ:Pl:=.z
def MJ:XP:=[⟨(.exit 6),[],[],[]⟩]
def LS:Pl:=.z
def OK:XP:=[⟨.normal,[(0,.any),(1,.any),(2,.any),(3,.any),(4,.any),(18,.any),(19,.any),(20,.any),(21,.any)],[],[]⟩]
def MK:XP:=[⟨(.exit 8),[(0,.any),(1,.any),(2,.any),(3,.any),(4,.any),(18,.any),(19,.any),(20,.any)],[],[]⟩]
def LU:Pl:=.z
def OL:XP:=[⟨.normal,[(0,.any),(1,.any),(2,.any),(3,.any),(4,.any),(18,.any),(20,.any),(24,.any),(185,.any)],[],[]⟩]
def OM:XP:=[⟨.normal,[(0,.any),(1,.any),(3,.any),(4,.any),(18,.any),(20,.any),(24,.any)],[],[]⟩]
def ON:XP:=[⟨.normal,[(0,.any),(1,.any),(3,.any),(4,.any),(18,.any),(20,.any),(24,.any),(199,.any)],[],[]⟩]
def OO:XP:=[⟨.normal,[(0,.any),(3,.any),(4,.any),(18,.any),(24,.any)],[],[]⟩]
def OP:XP:=[⟨.normal,[(0,.any),(3,.any),(4,.any),(18,.any),(24,.any),(213,.any)],[],[]⟩]
def U8:Pl:=(.n none (.n none .z (.n none (.n none .z (.n none .z (.n none (.n none (.n (some MG) LO .z) .z) (.n none (.n none .z (.n none (.n (some MH) LP .z) .z)) .z)))) .z)) (.n none (.n none .z (.n none (.n none .z (.n none .z (.n none (.n none (.n (some MI) LQ .z) .z) (.n none (.n none .z (.n none (.n (some MJ) LS .z) .z)) .z)))) .z)) (.n none .z (.n none .z (.n none .z (.n (some OK) .z (.n none .z (.n none (.n none (.n (some MK) LU .z) .z) (.n none .z (.n (some OM) (.n (some OL) .z .z) (.n (some OO) (.n (some ON) .z .z) (.n (some OP) .z .z))))))))))))
noncomputable def JS:St→Option (St⊕LR):=fun s=>K6.den oT cw (St⊕LR) LO s (gM oT Kt MG)
noncomputable def DQ (data:IV) (a:Int) (cmp:IV) (i j:Int) (m:IM):Option LR:=iter JS (St.mk [(0,data,.any),(1,.int .i64 a,.any),(4,cmp,.any),(10,.int .i64 i,.any),(11,.int .i64 j,.any)] [] [] m)
noncomputable def ve (data:IV) (a:Int) (cmp:IV) (i j:Int) (m:IM):Option (St⊕LR):=aL (decide (i<j)) (fq (.aw 1) [data,.int .i64 (IntKind.wrap .i64 (Int.fdiv (IntKind.wrap .u64 (IntKind.wrap .i64 (i+j))) (2^Nat.min (Int.toNat 1) (IntKind.bits .u64))))] fun v0=>lD m false 1 v0 fun v1=>fG .i64 v1 fun n2=>fq (.aw 1) [data,.int .i64 a] fun v3=>lD m false 1 v3 fun v4=>fG .i64 v4 fun n5=>jS cw cmp [.int .i64 n2,.int .i64 n5] [] m fun v6 m7=>fG .i64 v6 fun n8=>aL (decide (n8<0)) (dk data (gg cmp [] (some (.inl (St.mk [(0,data,.any),(1,.int .i64 a,.any),(4,cmp,.any),(10,.int .i64 (IntKind.wrap .i64 (IntKind.wrap .i64 (Int.fdiv (IntKind.wrap .u64 (IntKind.wrap .i64 (i+j))) (2^Nat.min (Int.toNat 1) (IntKind.bits .u64)))+1)),.any),(11,.int .i64 j,.any)] [] [] m7))))) (dk data (gg cmp [] (some (.inl (St.mk [(0,data,.any),(1,.int .i64 a,.any),(4,cmp,.any),(10,.int .i64 i,.any),(11,.int .i64 (IntKind.wrap .i64 (Int.fdiv (IntKind.wrap .u64 (IntKind.wrap .i64 (i+j))) (2^Nat.min (Int.toNat 1) (IntKind.bits .u64)))),.any)] [] [] m7)))))) (some (.inr (.exit 0,[data,.int .i64 a,.int .i64 i],[],m)))
theorem pb data a cmp i j m:DQ data a cmp i j m=gK JS (ve data a cmp i j m):=(cz _ _).trans (congrArg (gK _) (by kernel_rfl))
noncomputable def JT:St→Option (St⊕LR):=fun s=>K7.den oT cw (St⊕LR) LP s (gM oT Ku MH)
noncomputable def DR (data:IV) (i k:Int) (m:IM):Option LR:=iter JT (St.mk [(0,data,.any),(10,.int .i64 i,.any),(13,.int .i64 k,.any)] [] [] m)
noncomputable def DH (data:IV) (i k:Int) (m:IM):Option (St⊕LR):=aL (decide (k<IntKind.wrap .i64 (i-1))) (fq (.aw 1) [data,.int .i64 (IntKind.wrap .i64 (k+1))] fun v0=>lD m false 1 v0 fun v1=>fG .i64 v1 fun n2=>fq (.aw 1) [data,.int .i64 k] fun v3=>lD m false 1 v3 fun v4=>fG .i64 v4 fun n5=>fq (.aw 1) [data,.int .i64 k] fun v6=>dk v6 (lN m v6 [.int .i64 n2] .any fun m7=>fq (.aw 1) [data,.int .i64 (IntKind.wrap .i64 (k+1))] fun v8=>dk v8 (lN m7 v8 [.int .i64 n5] .any fun m9=>dk data (some (.inl (St.mk [(0,data,.any),(10,.int .i64 i,.any),(13,.int .i64 (IntKind.wrap .i64 (k+1)),.any)] [] [] m9)))))) (some (.inr (.exit 2,[],[],m)))
theorem yL data i k m:DR data i k m=gK JT (DH data i k m):=(cz _ _).trans (congrArg (gK _) (by kernel_rfl))
noncomputable def JU:St→Option (St⊕LR):=fun s=>K8.den oT cw (St⊕LR) LQ s (gM oT Kv MI)
noncomputable def DS (data:IV) (n:Int) (cmp:IV) (i j:Int) (m:IM):Option LR:=iter JU (St.mk [(0,data,.any),(2,.int .i64 n,.any),(4,cmp,.any),(14,.int .i64 i,.any),(15,.int .i64 j,.any)] [] [] m)
noncomputable def vf (data:IV) (n:Int) (cmp:IV) (i j:Int) (m:IM):Option (St⊕LR):=aL (decide (i<j)) (fq (.aw 1) [data,.int .i64 n] fun v0=>lD m false 1 v0 fun v1=>fG .i64 v1 fun n2=>fq (.aw 1) [data,.int .i64 (IntKind.wrap .i64 (Int.fdiv (IntKind.wrap .u64 (IntKind.wrap .i64 (i+j))) (2^Nat.min (Int.toNat 1) (IntKind.bits .u64))))] fun v3=>lD m false 1 v3 fun v4=>fG .i64 v4 fun n5=>jS cw cmp [.int .i64 n2,.int .i64 n5] [] m fun v6 m7=>fG .i64 v6 fun n8=>aL (!decide (n8<0)) (dk data (gg cmp [] (some (.inl (St.mk [(0,data,.any),(2,.int .i64 n,.any),(4,cmp,.any),(14,.int .i64 (IntKind.wrap .i64 (IntKind.wrap .i64 (Int.fdiv (IntKind.wrap .u64 (IntKind.wrap .i64 (i+j))) (2^Nat.min (Int.toNat 1) (IntKind.bits .u64)))+1)),.any),(15,.int .i64 j,.any)] [] [] m7))))) (dk data (gg cmp [] (some (.inl (St.mk [(0,data,.any),(2,.int .i64 n,.any),(4,cmp,.any),(14,.int .i64 i,.any),(15,.int .i64 (IntKind.wrap .i64 (Int.fdiv (IntKind.wrap .u64 (IntKind.wrap .i64 (i+j))) (2^Nat.min (Int.toNat 1) (IntKind.bits .u64)))),.any)] [] [] m7)))))) (some (.inr (.exit 4,[data,.int .i64 n,.int .i64 i],[],m)))
theorem pc data n cmp i j m:DS data n cmp i j m=gK JU (vf data n cmp i j m):=(cz _ _).trans (congrArg (gK _) (by kernel_rfl))
noncomputable def JV:St→Option (St⊕LR):=fun s=>K9.den oT cw (St⊕LR) LS s (gM oT Kw MJ)
noncomputable def DT (data:IV) (i k:Int) (m:IM):Option LR:=iter JV (St.mk [(0,data,.any),(14,.int .i64 i,.any),(17,.int .i64 k,.any)] [] [] m)
noncomputable def DI (data:IV) (i k:Int) (m:IM):Option (St⊕LR):=aL (decide (k>i)) (fq (.aw 1) [data,.int .i64 (IntKind.wrap .i64 (k-1))] fun v0=>lD m false 1 v0 fun v1=>fG .i64 v1 fun n2=>fq (.aw 1) [data,.int .i64 k] fun v3=>lD m false 1 v3 fun v4=>fG .i64 v4 fun n5=>fq (.aw 1) [data,.int .i64 k] fun v6=>dk v6 (lN m v6 [.int .i64 n2] .any fun m7=>fq (.aw 1) [data,.int .i64 (IntKind.wrap .i64 (k-1))] fun v8=>dk v8 (lN m7 v8 [.int .i64 n5] .any fun m9=>dk data (some (.inl (St.mk [(0,data,.any),(14,.int .i64 i,.any),(17,.int .i64 (IntKind.wrap .i64 (k-1)),.any)] [] [] m9)))))) (some (.inr (.exit 6,[],[],m)))
theorem yM data i k m:DT data i k m=gK JV (DI data i k m):=(cz _ _).trans (congrArg (gK _) (by kernel_rfl))
noncomputable def uG (data:IV) (a n b:Int) (cmp:IV) (mid n1:Int) (m:IM):Option LR:=aL (decide (n>mid)) (some (.normal,[data,.int .i64 a,.int .i64 n,.int .i64 b,cmp,.int .i64 mid,.int .i64 n1,.int .i64 (IntKind.wrap .i64 (n1-b)),.int .i64 mid],[],m)) (some (.normal,[data,.int .i64 a,.int .i64 n,.int .i64 b,cmp,.int .i64 mid,.int .i64 n1,.int .i64 a,.int .i64 n],[],m))
noncomputable def JW:St→Option (St⊕LR):=fun s=>La.den oT cw (St⊕LR) LU s (gM oT Kx MK)
noncomputable def DU (data:IV) (a n b:Int) (cmp:IV) (mid n1:Int) (start r p:Int) (m:IM):Option LR:=iter JW (St.mk [(0,data,.any),(1,.int .i64 a,.any),(2,.int .i64 n,.any),(3,.int .i64 b,.any),(4,cmp,.any),(18,.int .i64 mid,.any),(19,.int .i64 n1,.any),(20,.int .i64 start,.any),(21,.int .i64 r,.any),(22,.int .i64 p,.any)] [] [] m)
noncomputable def vg (data:IV) (a n b:Int) (cmp:IV) (mid n1:Int) (start r p:Int) (m:IM):Option (St⊕LR):=aL (decide (start<r)) (fq (.aw 1) [data,.int .i64 (IntKind.wrap .i64 (p-IntKind.wrap .i64 (Int.fdiv (IntKind.wrap .u64 (IntKind.wrap .i64 (start+r))) (2^Nat.min (Int.toNat 1) (IntKind.bits .u64)))))] fun v0=>lD m false 1 v0 fun v1=>fG .i64 v1 fun n2=>fq (.aw 1) [data,.int .i64 (IntKind.wrap .i64 (Int.fdiv (IntKind.wrap .u64 (IntKind.wrap .i64 (start+r))) (2^Nat.min (Int.toNat 1) (IntKind.bits .u64))))] fun v3=>lD m false 1 v3 fun v4=>fG .i64 v4 fun n5=>jS cw cmp [.int .i64 n2,.int .i64 n5] [] m fun v6 m7=>fG .i64 v6 fun n8=>aL (!decide (n8<0)) (dk data (gg cmp [] (some (.inl (St.mk [(0,data,.any),(1,.int .i64 a,.any),(2,.int .i64 n,.any),(3,.int .i64 b,.any),(4,cmp,.any),(18,.int .i64 mid,.any),(19,.int .i64 n1,.any),(20,.int .i64 (IntKind.wrap .i64 (IntKind.wrap .i64 (Int.fdiv (IntKind.wrap .u64 (IntKind.wrap .i64 (start+r))) (2^Nat.min (Int.toNat 1) (IntKind.bits .u64)))+1)),.any),(21,.int .i64 r,.any),(22,.int .i64 p,.any)] [] [] m7))))) (dk data (gg cmp [] (some (.inl (St.mk [(0,data,.any),(1,.int .i64 a,.any),(2,.int .i64 n,.any),(3,.int .i64 b,.any),(4,cmp,.any),(18,.int .i64 mid,.any),(19,.int .i64 n1,.any),(20,.int .i64 start,.any),(21,.int .i64 (IntKind.wrap .i64 (Int.fdiv (IntKind.wrap .u64 (IntKind.wrap .i64 (start+r))) (2^Nat.min (Int.toNat 1) (IntKind.bits .u64)))),.any),(22,.int .i64 p,.any)] [] [] m7)))))) (some (.inr (.exit 8,[data,.int .i64 a,.int .i64 n,.int .i64 b,cmp,.int .i64 mid,.int .i64 n1,.int .i64 start],[],m)))
theorem pd data a n b cmp mid n1 start r p m:DU data a n b cmp mid n1 start r p m=gK JW (vg data a n b cmp mid n1 start r p m):=(cz _ _).trans (congrArg (gK _) (by kernel_rfl))
noncomputable def uH (data:IV) (a n b:Int) (cmp:IV) (mid start end_:Int) (m:IM):Option LR:=aL (decide (start<n)) (some (.normal,[data,.int .i64 a,.int .i64 n,.int .i64 b,cmp,.int .i64 mid,.int .i64 start,.int .i64 end_,.bool (decide (n<end_))],[],m)) (some (.normal,[data,.int .i64 a,.int .i64 n,.int .i64 b,cmp,.int .i64 mid,.int .i64 start,.int .i64 end_,.bool false],[],m))
noncomputable def qW (data:IV) (a n b:Int) (cmp:IV) (mid start end_:Int) (m:IM):Option LR:=bn (uH data a n b cmp mid start end_ m) fun e0 l1 o2 m3=>fJ .normal e0 (c6 l1 fun v4 l5=>uI .i64 l5 fun n8 l7=>uI .i64 l7 fun n11 l10=>uI .i64 l10 fun n14 l13=>c6 l13 fun v15 l16=>uI .i64 l16 fun n19 l18=>uI .i64 l18 fun n22 l21=>uI .i64 l21 fun n25 l24=>c6 l24 fun v26 l27=>gu v26 fun b28=>bj l27 (cB o2 (aL b28 (an cw (.f 187) [v4,.int .i64 n22,.int .i64 n11,.int .i64 n25,v15] [] m3 fun v29 m30=>jE v29 fun l31=>bj l31 (some (.normal,[v4,.int .i64 n8,.int .i64 n14,v15,.int .i64 n19,.int .i64 n22,.int .i64 n25],[],m30))) (some (.normal,[v4,.int .i64 n8,.int .i64 n14,v15,.int .i64 n19,.int .i64 n22,.int .i64 n25],[],m3))))) none
noncomputable def uJ (data:IV) (a b:Int) (cmp:IV) (mid start end_:Int) (m:IM):Option LR:=aL (decide (a<start)) (some (.normal,[data,.int .i64 a,.int .i64 b,cmp,.int .i64 mid,.int .i64 start,.int .i64 end_,.bool (decide (start<mid))],[],m)) (some (.normal,[data,.int .i64 a,.int .i64 b,cmp,.int .i64 mid,.int .i64 start,.int .i64 end_,.bool false],[],m))
noncomputable def qX (data:IV) (a b:Int) (cmp:IV) (mid start end_:Int) (m:IM):Option LR:=bn (uJ data a b cmp mid start end_ m) fun e0 l1 o2 m3=>fJ .normal e0 (c6 l1 fun v4 l5=>uI .i64 l5 fun n8 l7=>uI .i64 l7 fun n11 l10=>c6 l10 fun v12 l13=>uI .i64 l13 fun n16 l15=>uI .i64 l15 fun n19 l18=>uI .i64 l18 fun n22 l21=>c6 l21 fun v23 l24=>gu v23 fun b25=>bj l24 (cB o2 (aL b25 (an cw (.f 181) [v4,.int .i64 n8,.int .i64 n19,.int .i64 n16,v12] [] m3 fun v26 m27=>jE v26 fun l28=>bj l28 (some (.normal,[v4,.int .i64 n11,v12,.int .i64 n16,.int .i64 n22],[],m27))) (some (.normal,[v4,.int .i64 n11,v12,.int .i64 n16,.int .i64 n22],[],m3))))) none
noncomputable def oY (data:IV) (b:Int) (cmp:IV) (mid end_:Int) (m:IM):Option LR:=aL (decide (mid<end_)) (some (.normal,[data,.int .i64 b,cmp,.int .i64 mid,.int .i64 end_,.bool (decide (end_<b))],[],m)) (some (.normal,[data,.int .i64 b,cmp,.int .i64 mid,.int .i64 end_,.bool false],[],m))
noncomputable def Ip (data:IV) (a n b:Int) (cmp:IV) (m:IM):Option (IV×IM):=aL (IntKind.wrap .i64 (n-a)==1) (dk data (gg cmp [] (bn (DQ data a cmp n b m) fun e0 l1 o2 m3=>fJ (.exit 0) e0 (c6 l1 fun v4 l5=>uI .i64 l5 fun n8 l7=>uI .i64 l7 fun n11 l10=>bj l10 (cB o2 (dk v4 (bn (DR v4 n11 n8 m3) fun e12 l13 o14 m15=>fJ (.exit 2) e12 (bj l13 (cB o14 (settle m m15 (.db [])))) none)))) none))) (aL (IntKind.wrap .i64 (b-n)==1) (dk data (gg cmp [] (bn (DS data n cmp a n m) fun e16 l17 o18 m19=>fJ (.exit 4) e16 (c6 l17 fun v20 l21=>uI .i64 l21 fun n24 l23=>uI .i64 l23 fun n27 l26=>bj l26 (cB o18 (dk v20 (bn (DT v20 n27 n24 m19) fun e28 l29 o30 m31=>fJ (.exit 6) e28 (bj l29 (cB o30 (settle m m31 (.db [])))) none)))) none))) (bn (uG data a n b cmp (IntKind.wrap .i64 (Int.fdiv (IntKind.wrap .u64 (IntKind.wrap .i64 (a+b))) (2^Nat.min (Int.toNat 1) (IntKind.bits .u64)))) (IntKind.wrap .i64 (IntKind.wrap .i64 (Int.fdiv (IntKind.wrap .u64 (IntKind.wrap .i64 (a+b))) (2^Nat.min (Int.toNat 1) (IntKind.bits .u64)))+n)) m) fun e32 l33 o34 m35=>fJ .normal e32 (c6 l33 fun v36 l37=>uI .i64 l37 fun n40 l39=>uI .i64 l39 fun n43 l42=>uI .i64 l42 fun n46 l45=>c6 l45 fun v47 l48=>uI .i64 l48 fun n51 l50=>uI .i64 l50 fun n54 l53=>uI .i64 l53 fun n57 l56=>uI .i64 l56 fun n60 l59=>bj l59 (cB o34 (dk v36 (gg v47 [] (bn (DU v36 n40 n43 n46 v47 n51 n54 n57 n60 (IntKind.wrap .i64 (n54-1)) m35) fun e61 l62 o63 m64=>fJ (.exit 8) e61 (c6 l62 fun v65 l66=>uI .i64 l66 fun n69 l68=>uI .i64 l68 fun n72 l71=>uI .i64 l71 fun n75 l74=>c6 l74 fun v76 l77=>uI .i64 l77 fun n80 l79=>uI .i64 l79 fun n83 l82=>uI .i64 l82 fun n86 l85=>bj l85 (cB o63 (bn (qW v65 n69 n72 n75 v76 n80 n86 (IntKind.wrap .i64 (n83-n86)) m64) fun e87 l88 o89 m90=>fJ .normal e87 (c6 l88 fun v91 l92=>uI .i64 l92 fun n95 l94=>uI .i64 l94 fun n98 l97=>c6 l97 fun v99 l100=>uI .i64 l100 fun n103 l102=>uI .i64 l102 fun n106 l105=>uI .i64 l105 fun n109 l108=>bj l108 (cB o89 (bn (qX v91 n95 n98 v99 n103 n106 n109 m90) fun e110 l111 o112 m113=>fJ .normal e110 (c6 l111 fun v114 l115=>uI .i64 l115 fun n118 l117=>c6 l117 fun v119 l120=>uI .i64 l120 fun n123 l122=>uI .i64 l122 fun n126 l125=>bj l125 (cB o112 (bn (oY v114 n118 v119 n123 n126 m113) fun e127 l128 o129 m130=>fJ .normal e127 (c6 l128 fun v131 l132=>uI .i64 l132 fun n135 l134=>c6 l134 fun v136 l137=>uI .i64 l137 fun n140 l139=>uI .i64 l139 fun n143 l142=>c6 l142 fun v144 l145=>gu v144 fun b146=>bj l145 (cB o129 (aL b146 (an cw (.f 181) [v131,.int .i64 n140,.int .i64 n143,.int .i64 n135,v136] [] m130 fun v147 m148=>jE v147 fun l149=>bj l149 (settle m m148 (.db []))) (settle m m130 (.db []))))) none))) none))) none))) none))))) none))
theorem oZ data a n b cmp m {res} (h:Ip data a n b cmp m=some res):cw (.f 181) [data,.int .i64 a,.int .i64 n,.int .i64 b,cmp] m=some res:=aJ rfl rfl ((by kernel_rfl:eL oT U8 i181 cw _ _=_).trans h)
def Mp:gO:=js [(.one .sl,[0,24,35,50]),(.one (.int .i64),[1,2,3,10,11,12,13,14,15,16,17,18,19,21,22,25,26,27,28,29,32,33,34,36,37,38,39,40,41,42,43,44,47,48,49,51,52,53,54,55]),(.one .bool,[20,23]),(.db [],[31,46,57])]
def ML:XP:=[⟨(.exit 0),[(0,.any),(2,.any),(4,.any),(10,.any)],[],[]⟩]
def LV:Pl:=.z
def U9:Pl:=(.n none .z (.n none .z (.n none (.n none (.n (some ML) LV .z) .z) .z)))
noncomputable def JX:St→Option (St⊕LR):=fun s=>Lb.den Mp cw (St⊕LR) LV s (gM Mp Ky ML)
noncomputable def DV (data:IV) (n:Int) (cmp:IV) (i j:Int) (m:IM):Option LR:=iter JX (St.mk [(0,data,.any),(2,.int .i64 n,.any),(4,cmp,.any),(10,.int .i64 i,.any),(11,.int .i64 j,.any)] [] [] m)
noncomputable def zN (data:IV) (n:Int) (cmp:IV) (i j:Int) (m:IM):Option (St⊕LR):=aL (i != j) (aL (decide (i>j)) (an cw (.f 190) [data,.int .i64 (IntKind.wrap .i64 (n-i)),.int .i64 n,.int .i64 j,cmp] [] m fun v0 m1=>jE v0 fun l2=>bj l2 (dk data (gg cmp [] (some (.inl (St.mk [(0,data,.any),(2,.int .i64 n,.any),(4,cmp,.any),(10,.int .i64 (IntKind.wrap .i64 (i-j)),.any),(11,.int .i64 j,.any)] [] [] m1)))))) (an cw (.f 190) [data,.int .i64 (IntKind.wrap .i64 (n-i)),.int .i64 (IntKind.wrap .i64 (IntKind.wrap .i64 (n+j)-i)),.int .i64 i,cmp] [] m fun v3 m4=>jE v3 fun l5=>bj l5 (dk data (gg cmp [] (some (.inl (St.mk [(0,data,.any),(2,.int .i64 n,.any),(4,cmp,.any),(10,.int .i64 i,.any),(11,.int .i64 (IntKind.wrap .i64 (j-i)),.any)] [] [] m4))))))) (some (.inr (.exit 0,[data,.int .i64 n,cmp,.int .i64 i],[],m)))
theorem sx data n cmp i j m:DV data n cmp i j m=gK JX (zN data n cmp i j m):=(cz _ _).trans (congrArg (gK _) (by kernel_rfl))
noncomputable def TL (data:IV) (a n b:Int) (cmp:IV) (m:IM):Option (IV×IM):=dk data (gg cmp [] (bn (DV data n cmp (IntKind.wrap .i64 (n-a)) (IntKind.wrap .i64 (b-n)) m) fun e0 l1 o2 m3=>fJ (.exit 0) e0 (c6 l1 fun v4 l5=>uI .i64 l5 fun n8 l7=>c6 l7 fun v9 l10=>uI .i64 l10 fun n13 l12=>bj l12 (cB o2 (an cw (.f 190) [v4,.int .i64 (IntKind.wrap .i64 (n8-n13)),.int .i64 n8,.int .i64 n13,v9] [] m3 fun v14 m15=>jE v14 fun l16=>bj l16 (settle m m15 (.db []))))) none))
theorem G7 data a n b cmp m {res} (h:TL data a n b cmp m=some res):cw (.f 187) [data,.int .i64 a,.int .i64 n,.int .i64 b,cmp] m=some res:=aJ rfl rfl ((by kernel_rfl:eL Mp U9 i187 cw _ _=_).trans h)
def Mq:gO:=js [(.one .sl,[0,16,20,24,30]),(.one (.int .i64),[1,2,3,10,11,12,14,15,17,18,19,21,22,23,25,26,27,29,31,32,33,35]),(.one .bool,[13])]
def MN:XP:=[⟨(.exit 0),[],[],[]⟩]
def LW:Pl:=.z
def Vh:Pl:=(.n none .z (.n none (.n (some MN) LW .z) .z))
noncomputable def JY:St→Option (St⊕LR):=fun s=>Lc.den Mq cw (St⊕LR) LW s (gM Mq Kz MN)
noncomputable def Ag (data:IV) (a b:Int) (n i:Int) (m:IM):Option LR:=iter JY (St.mk [(0,data,.any),(1,.int .i64 a,.any),(2,.int .i64 b,.any),(3,.int .i64 n,.any),(10,.int .i64 i,.any)] [] [] m)
noncomputable def DJ (data:IV) (a b:Int) (n i:Int) (m:IM):Option (St⊕LR):=aL (decide (i<n)) (fq (.aw 1) [data,.int .i64 (IntKind.wrap .i64 (b+i))] fun v0=>lD m false 1 v0 fun v1=>fG .i64 v1 fun n2=>fq (.aw 1) [data,.int .i64 (IntKind.wrap .i64 (a+i))] fun v3=>lD m false 1 v3 fun v4=>fG .i64 v4 fun n5=>fq (.aw 1) [data,.int .i64 (IntKind.wrap .i64 (a+i))] fun v6=>dk v6 (lN m v6 [.int .i64 n2] .any fun m7=>fq (.aw 1) [data,.int .i64 (IntKind.wrap .i64 (b+i))] fun v8=>dk v8 (lN m7 v8 [.int .i64 n5] .any fun m9=>dk data (some (.inl (St.mk [(0,data,.any),(1,.int .i64 a,.any),(2,.int .i64 b,.any),(3,.int .i64 n,.any),(10,.int .i64 (IntKind.wrap .i64 (i+1)),.any)] [] [] m9)))))) (some (.inr (.exit 0,[],[],m)))
theorem yN data a b n i m:Ag data a b n i m=gK JY (DJ data a b n i m):=(cz _ _).trans (congrArg (gK _) (by kernel_rfl))
noncomputable def TM (data:IV) (a b n:Int) (cmp:IV) (m:IM):Option (IV×IM):=dk data (bn (Ag data a b n 0 m) fun e0 l1 o2 m3=>fJ (.exit 0) e0 (bj l1 (cB o2 (settle m m3 (.db [])))) none)
theorem G8 data a b n cmp m {res} (h:TM data a b n cmp m=some res):cw (.f 190) [data,.int .i64 a,.int .i64 b,.int .i64 n,cmp] m=some res:=aJ rfl rfl ((by kernel_rfl:eL Mq Vh i190 cw _ _=_).trans h)
end
def sQ (n:Nat):UInt8:=if n<10 then UInt8.ofNat (48+n) else UInt8.ofNat (87+n)
def fZ (c:UInt8):List UInt8 :=
 if c=34 then [92,34] else if c=92 then [92,92] else if c=8 then [92,98] else if c=12 then [92,102] else if c=10 then [92,110] else if c=13 then [92,114] else if c=9 then [92,116]
 else if c.toNat<32 then [92,117,48,48,sQ (c.toNat/16),sQ (c.toNat%16)] else [c]
def mq (s:List UInt8):List UInt8:=34::(s.flatMap fZ++[34])
def gx (li:Bool) (lvl:Nat):List UInt8:=if li then 10::pS [32,32] lvl else []
def kN (li:Bool) (k:Int) (ks:List (List UInt8)) (i:Nat):List UInt8:=if k=5 then mq (ks.getD i [])++(58::if li then [32] else []) else []
def mz (li:Bool) (lvl:Nat) (k:Int) (ks ts:List (List UInt8)):Nat→List Nat→List UInt8
 |_,[]=>[]
 |n,i::r=>(if 0<n then [44] else [])++(gx li lvl++(kN li k ks i++(ts.getD i []++mz li lvl k ks ts (n+1) r)))
def uu (ks:List (List UInt8)) (i:Nat):List Nat→List Nat
 |[]=>[i]
 |j::r=>if aT (ks.getD i []) (ks.getD j []) then i::j::r else j::uu ks i r
def uy (ks:List (List UInt8)):Nat→List Nat
 |0=>[]
 |n+1=>uu ks n (uy ks n)
def ib (so:Bool) (k:Int) (ks:List (List UInt8)) (n:Nat):List Nat:=if so&&decide (k=5) then uy ks n else List.range n
def qS (k:Int):UInt8:=if k=5 then 123 else 91
def yd (k:Int):UInt8:=if k=5 then 125 else 93
mutual
def gP (so li:Bool):dL→Nat→List UInt8
 |.mk k t ks vs,lvl=>if k=0 then [110,117,108,108] else if k=1∨k=2 then t else if k=3 then mq t
  else qS k::(mz li (lvl+1) k ks (pJ so li vs (lvl+1)) 0 (ib so k ks vs.length)++((if vs=[] then [] else gx li lvl)++[yd k]))
def pJ (so li:Bool):List dL→Nat→List (List UInt8)
 |[],_=>[]
 |v::vs,lvl=>gP so li v lvl::pJ so li vs lvl
end
theorem Gp (so li:Bool):∀(vs:List dL) (lvl:Nat),(pJ so li vs lvl).length=vs.length
 |[],_=>rfl
 |v::vs,lvl=>by unfold pJ;simp[Gp so li vs lvl]
theorem rY (so li:Bool):∀(vs:List dL) (lvl i:Nat) (h:i<vs.length),(pJ so li vs lvl).getD i []=gP so li vs[i] lvl
 |v::vs,lvl,0,h=>by unfold pJ;rfl
 |v::vs,lvl,i+1,h=>by
  unfold pJ;simpa using rY so li vs lvl i (by simpa using h)
def gZ (so li:Bool) (out:List UInt8) (c:cV):aS:=.cells [.bool so,.bool li,oa out] [.any,.any,c]
theorem KK {R:Type}(l:List UInt8) (X:Option R):iy (oa l) X=X:=by cases l<;>rfl
theorem tF (l:List UInt8):aC [oa l]=some 0:=by have:=B8 l;simp[aC,this]
theorem I8 {R:Type}{m:IM}{id off:Nat}{cs:List IV}{cp:List cV}{out x:List UInt8}(hm:m.get id=.cells cs cp) (hc:out=[]∨cp.getD off .any=.own 1) (hl:out.length+x.length≤aH) (K:IV→IM→Option R) :
  ∃m',(out=[]∧m'=m∨out≠[]∧m'=aW m id (.cells cs (cp.set off .any)))∧mw m id off (oa out) 1 1 (ah x) x.length K=K (oa (out++x)) m':=by
 cases out with
 |nil =>
  refine⟨m,.inl ⟨rfl,rfl⟩,?_⟩
  cases x with
  |nil=>simp[oa,mw,aL]
  |cons b r =>
   have h':r.length+1≤aH:=by simpa using hl
   simp[oa,mw,bg,bO,h']
 |cons b r =>
  refine⟨_,.inr ⟨by simp,rfl⟩,?_⟩;have hcap:Q9 m id off=.own 1:=by
   rcases hc with h | h
   ·cases h
   ·simp only[Q9,hm];exact h
  have hb:=fj (b::r);have hx:oa (b::r++x)=.sl (ah (b::r)++ah x) ((b::r).length+x.length):=by rw[←mB,←List.length_append];rfl
  rw[hx];show mw m id off (.sl (ah (b::r)) (b::r).length) 1 1 (ah x) x.length K=_;generalize (b::r)=q at *;simp only[mw,hcap,decide_true,bO,if_true,hb,Nat.mul_one];rw[if_pos (by simpa using hl)];simp[St.drop,hm,aW,aK,IM.put]
section
variable {R:Type}{m:IM}{id:Nat}{so li:Bool}{out:List UInt8}{c:cV}
theorem Ld (h:m.get id=gZ so li out c) (K:Bool→Option R):(gH m id fun l0 _=>eV false l0 0 1 fun v=>gu v K)=K so:=by rw[f8 h];simp[eV,cr]
theorem F9 (h:m.get id=gZ so li out c) (K:Bool→Option R):(gH m id fun l0 _=>eV false l0 1 1 fun v=>gu v K)=K li:=by rw[f8 h];simp[eV,cr]
theorem iR (h:m.get id=gZ so li out c) (K:IV→Option R):(gH m id fun l0 _=>eV false l0 2 1 K)=K (oa out):=by rw[f8 h];simp[eV]
theorem zD (h:m.get id=gZ so li out c):id<m.size:=rH h
theorem kz {so' li':Bool}{out':List UInt8}{c':cV}(h:m.get id=gZ so li out c):(aW m id (gZ so' li' out' c')).get id=gZ so' li' out' c':=lX (zD h) _
theorem sj (h:m.get id=gZ so li out c):aW m id (gZ so li out c)=m:=nw h (zD h)
theorem mJ (hm:m.get id=gZ so li out c) (hc:out=[]∨c=.own 1) {x:List UInt8}{xs:List IV}{n:Nat}(hx:xs=ah x) (hn:n=x.length) (hl:out.length+x.length≤aH) (K:IM→Option R) :
  (mw m id 2 (oa out) 1 1 xs n fun v3 m4=>iy v3 (lN m4 (.pB id 2) [v3] (.own 1) K))=K (aW m id (gZ so li (out++x) (.own 1))):=by
 subst hx hn;obtain⟨m',hm',e⟩:=I8 (x:=x) (off:=2) hm (by rcases hc with h | h;exact .inl h;exact .inr (by rw[h];rfl)) hl (fun v3 m4=>iy v3 (lN m4 (.pB id 2) [v3] (.own 1) K));rw[e,KK];rcases hm' with ⟨_,rfl⟩ | ⟨_,rfl⟩
 ·rw[kE hm (tF _) (Nat.zero_le _) (by simp)];rfl
 ·rw[kE (lX (zD hm) _) (tF _) (Nat.zero_le _) (by simp),az];rfl
end
def C1:List (UInt8×UInt8):=[(34,34),(92,92),(47,47),(98,8),(102,12),(110,10),(114,13),(116,9)]
def LY (c:UInt8):List (UInt8×UInt8)→Option UInt8
 |[]=>none
 |(a,b)::r=>if b=c∧b≠47 then some a else LY c r
theorem LX (c:UInt8):fZ c=match LY c C1 with
  |some a=>[92,a]
  |none=>if c.toNat<32 then [92,117,48,48,sQ (c.toNat/16),sQ (c.toNat%16)] else [c]:=by
 simp only[fZ,LY,C1];by_cases h1:c=34
 ·subst h1;rfl
 by_cases h2:c=92
 ·subst h2;rfl
 by_cases h3:c=8
 ·subst h3;rfl
 by_cases h4:c=12
 ·subst h4;rfl
 by_cases h5:c=10
 ·subst h5;rfl
 by_cases h6:c=13
 ·subst h6;rfl
 by_cases h7:c=9
 ·subst h7;rfl
 have k1:¬(34:UInt8)=c:=fun q=>h1 q.symm;have k2:¬(92:UInt8)=c:=fun q=>h2 q.symm;have k3:¬(8:UInt8)=c:=fun q=>h3 q.symm;have k4:¬(12:UInt8)=c:=fun q=>h4 q.symm;have k5:¬(10:UInt8)=c:=fun q=>h5 q.symm;have k6:¬(13:UInt8)=c:=fun q=>h6 q.symm;have k7:¬(9:UInt8)=c:=fun q=>h7 q.symm;simp only[h1,h2,h3,h4,h5,h6,h7,k1,k2,k3,k4,k5,k6,k7,if_false,false_and,ne_eq,not_true,and_false]
theorem LZ (i:Nat) (h:i<8):C1.drop i=C1.getD i (0,0)::C1.drop (i+1):=by rcases i with _ | _ | _ | _ | _ | _ | _ | _ | i<;>first | rfl | omega
theorem Sl:∀i:Nat,i<8→dW.ev (.ji 8 true 2) [.agg [.int .u8 34,.int .u8 34,.int .u8 92,.int .u8 92,.int .u8 47,.int .u8 47,.int .u8 98,.int .u8 8,.int .u8 102,.int .u8 12,.int .u8 110,.int .u8 10,.int .u8 114,.int .u8 13,.int .u8 116,.int .u8 9],.int .i64 (i:Int)]=some (.agg [.int .u8 ((C1.getD i (0,0)).1.toNat:Int),.int .u8 ((C1.getD i (0,0)).2.toNat:Int)]):=by intro i hi;rcases i with _ | _ | _ | _ | _ | _ | _ | _ | i<;>first | rfl | omega
theorem Sk:∀i,i<8→(C1.getD i (0,0)).2=47→(C1.getD i (0,0)).1=47:=by intro i hi;rcases i with _ | _ | _ | _ | _ | _ | _ | _ | i<;>first | decide | omega
theorem Tn (w:Nat) (s:List UInt8) (c x y:UInt8) (n n1 i:Int) (m:IM) (h47:y=47→x=47) :
  qT w s (c.toNat:Int) n n1 34 34 92 92 47 47 98 8 102 12 110 10 114 13 116 9 i (x.toNat:Int) (y.toNat:Int) m=some (.normal,[.pB w 0,.str s,.int .u8 (c.toNat:Int),.int .i64 n,.int .i64 n1,.agg [.int .u8 34,.int .u8 34,.int .u8 92,.int .u8 92,.int .u8 47,.int .u8 47,.int .u8 98,.int .u8 8,.int .u8 102,.int .u8 12,.int .u8 110,.int .u8 10,.int .u8 114,.int .u8 13,.int .u8 116,.int .u8 9],.int .i64 i,.bool (decide (y=c∧y≠47))],[.cells [.int .u8 (x.toNat:Int),.int .u8 (y.toNat:Int)] [.any,.any]],m):=by
 have hq:=Qm (c:=y) (d:=c);by_cases g1:y=c
 ·subst g1;by_cases g2:y=47
  ·rw[h47 g2,g2];have e:dW.ev (.lu true [(0,.int),(1,.int)]) [.agg [.int .u8 ((47:UInt8).toNat:Int),.int .u8 ((47:UInt8).toNat:Int)],.agg [.int .u8 47,.int .u8 47]]=some (.bool false):=by rfl
   simp only[qT,go_sem,au e,BEq.rfl,if_true,ne_eq,not_true,and_false,decide_false]
  ·have e:dW.ev (.lu true [(0,.int),(1,.int)]) [.agg [.int .u8 (x.toNat:Int),.int .u8 (y.toNat:Int)],.agg [.int .u8 47,.int .u8 47]]=some (.bool true):=by
    have:¬((y.toNat:Int)=47):=by intro q;exact g2 (UInt8.toNat_inj.1 (by show y.toNat=47;omega))
    have e1:lx .int (.int .u8 (y.toNat:Int)) (.int .u8 47)=some false:=by simp[lx,this]
    cases hx:lx .int (.int .u8 (x.toNat:Int)) (.int .u8 47) with
    |none=>simp[lx] at hx
    |some b=>cases b<;>simp[dW.ev,iQ,e1,hx]
   simp only[qT,go_sem,au e,BEq.rfl,if_true,ne_eq,g2,not_false_eq_true,and_self,decide_true]
 ·have g':(y==c)=false:=by simpa using g1
  rw[g'] at hq;simp only[qT,go_sem,hq,Bool.false_eq_true,if_false,g1,false_and,decide_false]
theorem TQ (w:Nat) (s:List UInt8) (c:UInt8) (n n1:Int) (so li:Bool) (out:List UInt8) (cp:cV) (m:IM) (hm:m.get w=gZ so li out cp) (hc:out=[]∨cp=.own 1) (hl:out.length+2≤aH):∀(j i:Nat),8=i+j →
  vB w s (c.toNat:Int) n n1 34 34 92 92 47 47 98 8 102 12 110 10 114 13 116 9 i m=match LY c (C1.drop i) with
   |some a=>some (.exit 1,[.pB w 0,.str s,.int .i64 n,.int .i64 n1],[],aW m w (gZ so li (out++[92,a]) (.own 1)))
   |none=>some (.exit 2,[.pB w 0,.str s,.int .u8 (c.toNat:Int),.int .i64 n,.int .i64 n1],[],m):=by
 intro j
 induction j with
 |zero =>
  intro i hk;have:i=8:=by omega
  subst this;rw[yG];simp[vd,go_sem,C1,LY]
 |succ j ih =>
  intro i hk;have hi:i<8:=by omega
  have c1:(i:Int)<8:=by omega
  have hat:=Sl i hi;have h47:=Sk i hi;rw[LZ i hi];have hw2:IntKind.i64.wrap ((i:Int)+1)=((i+1:Nat):Int):=by rw[w64 (by omega) (by omega)];omega
  have h:=ih (i+1) (by omega);unfold LY;rw[yG];generalize C1.getD i (0,0)=p at *;obtain⟨x,y⟩:=p;simp only at *;have hq:=Qm (c:=y) (d:=c);generalize i+1=i3 at *;have happ:=mJ hm hc (x:=[92,x]) (xs:=[.int .u8 92,.int .u8 (x.toNat:Int)]) (n:=2) rfl rfl hl (R:=St⊕LR);have hC:=Tn w s c x y n n1 i m h47;by_cases g:y=c∧y≠47
  ·rw[if_pos g];rw[decide_eq_true g] at hC;simp only[vd,go_sem];simp[go_sem,c1,au hat,hC,iR hm,happ]
  ·rw[if_neg g];rw[decide_eq_false g] at hC;have step:gK Ed (vd w s (c.toNat:Int) n n1 34 34 92 92 47 47 98 8 102 12 110 10 114 13 116 9 i m)=vB w s (c.toNat:Int) n n1 34 34 92 92 47 47 98 8 102 12 110 10 114 13 116 9 i3 m:=by simp only[vd,go_sem];simp[go_sem,c1,au hat,hC,hw2];rfl
   rw[step];exact h
theorem PA:∀n:Nat,n<16→dW.ev .cm [.str [48,49,50,51,52,53,54,55,56,57,97,98,99,100,101,102],.int .u8 (n:Int)]=some (.int .u8 ((sQ n).toNat:Int)):=by intro i hi;rcases i with _ | _ | _ | _ | _ | _ | _ | _ | _ | _ | _ | _ | _ | _ | _ | _ | i<;>first | rfl | omega
theorem TS (w:Nat) (s:List UInt8) (c:UInt8) (n n1:Int) (so li:Bool) (out:List UInt8) (cp:cV) (m:IM) (hm:m.get w=gZ so li out cp) (hc:out=[]∨cp=.own 1) (hl:out.length+2≤aH) :
  vB w s (c.toNat:Int) n n1 34 34 92 92 47 47 98 8 102 12 110 10 114 13 116 9 0 m=match LY c C1 with
   |some a=>some (.exit 1,[.pB w 0,.str s,.int .i64 n,.int .i64 n1],[],aW m w (gZ so li (out++[92,a]) (.own 1)))
   |none=>some (.exit 2,[.pB w 0,.str s,.int .u8 (c.toNat:Int),.int .i64 n,.int .i64 n1],[],m):=TQ w s c n n1 so li out cp m hm hc hl 8 0 rfl
theorem To (w:Nat) (s:List UInt8) (n:Int) (i:Nat) (hi:i<s.length) (so li:Bool) (out:List UInt8) (m:IM) (hm:m.get w=gZ so li out (.own 1)) (hl:out.length+6≤aH) :
  qU w s n i m=some (.normal,[.pB w 0,.str s,.int .i64 n,.int .i64 i],[],aW m w (gZ so li (out++fZ s[i]) (.own 1))):=by
 have hx:=Cp (List.getElem?_eq_getElem hi);generalize s[i]=c at *;have hL:=TS w s c n i so li out _ m hm (.inr rfl) (by omega);rw[LX]
 cases hq:LY c C1 with
 |some a =>rw[hq] at hL;simp[qU,go_sem,au hx,hL]
 |none =>
  rw[hq] at hL;simp only at hL;have hc256:c.toNat<256:=UInt8.toNat_lt c;by_cases g:c.toNat<32
  ·have g':(c.toNat:Int)<32:=by omega
   have hm1:(aW m w (gZ so li (out++[92,117,48,48]) (.own 1))).get w=gZ so li (out++[92,117,48,48]) (.own 1):=kz hm;have e1:IntKind.u8.wrap (Int.tdiv (c.toNat:Int) 16)=((c.toNat/16:Nat):Int):=by have:Int.tdiv (c.toNat:Int) 16=((c.toNat/16:Nat):Int):=rfl;rw[this];unfold IntKind.wrap;simp[IntKind.bits,IntKind.signed];omega
   have e2:Int.tmod (c.toNat:Int) 16=((c.toNat%16:Nat):Int):=rfl;have h1:=PA (c.toNat/16) (by omega);have h2:=PA (c.toNat%16) (by omega);have a1:=mJ hm (.inr rfl) (x:=[92,117,48,48]) (xs:=ah [92,117,48,48]) (n:=4) rfl rfl (by simp;omega) (R:=LR);have a2:=mJ hm1 (.inr rfl) (x:=[sQ (c.toNat/16),sQ (c.toNat%16)]) (xs:=[.int .u8 ((sQ (c.toNat/16)).toNat:Int),.int .u8 ((sQ (c.toNat%16)).toNat:Int)]) (n:=2) rfl rfl (by simp;omega) (R:=LR);rw[←e1] at h1;rw[←e2] at h2;simp only[qU,go_sem,au hx,hL,if_pos g];have hb:Nat.beq (List.length (ah [92,117,48,48])) (List.length ([92,117,48,48]:List UInt8)*1)=true:=rfl;simp only[go_sem,decide_eq_true g',if_true,iR hm,jb (fx [92,117,48,48]),hb,a1,iR hm1,au h1,au h2,a2,az,Nat.beq_refl];simp[fj]
  ·have g':¬(c.toNat:Int)<32:=by omega
   have a1:=mJ hm (.inr rfl) (x:=[c]) (xs:=[.int .u8 (c.toNat:Int)]) (n:=1) rfl rfl (by simp;omega) (R:=LR);simp[qU,go_sem,au hx,hL,g,g',iR hm,a1]
theorem C3 (c:UInt8):(fZ c).length≤6:=by
 unfold fZ
 repeat' split
 all_goals simp
theorem u9:∀s:List UInt8,(s.flatMap fZ).length≤6*s.length
 |[]=>Nat.le_refl _
 |c::r=>by
  have h1:=C3 c;have h2:=u9 r;rw[List.flatMap_cons,List.length_append,List.length_cons];omega
theorem TR (w:Nat) (s:List UInt8) (hs:s.length≤1099511627776) (so li:Bool):∀(k i:Nat) (out:List UInt8) (m:IM),s.length=i+k→m.get w=gZ so li out (.own 1)→out.length+6*k≤aH →
  vC w s (s.length:Int) i m=some (.exit 0,[.pB w 0],[],aW m w (gZ so li (out++(s.drop i).flatMap fZ) (.own 1))):=by
 intro k
 induction k with
 |zero =>
  intro i out m hk hm hl;have hi:s.length=i:=by omega
  have c1:¬(i:Int)<(s.length:Int):=by omega
  rw[yH,List.drop_eq_nil_iff.2 (by omega)];simp[zF,go_sem,c1,sj hm]
 |succ k ih =>
  intro i out m hk hm hl;have hi:i<s.length:=by omega
  have c1:(i:Int)<(s.length:Int):=by omega
  have hw:IntKind.i64.wrap ((i:Int)+1)=((i+1:Nat):Int):=by rw[w64 (by omega) (by omega)];rfl
  have hC:=To w s (s.length:Int) i hi so li out m hm (by omega);have hq:=C3 s[i];have h:=ih (i+1) (out++fZ s[i]) _ (by omega) (kz hm) (by rw[List.length_append];omega);rw[List.drop_eq_getElem_cons hi,List.flatMap_cons,←List.append_assoc];rw[az] at h;have step:gK Ee (zF w s (s.length:Int) i m)=vC w s (s.length:Int) (i+1:Nat) (aW m w (gZ so li (out++fZ s[i]) (.own 1))):=by generalize i+1=j at *;simp only[zF,go_sem,hC];simp[go_sem,c1,hw];rfl
  rw[yH,step,h]
theorem C5 (w:Nat) (s:List UInt8) (hs:s.length≤150000000000) (so li:Bool) (out:List UInt8) (c:cV) (m:IM) (hm:m.get w=gZ so li out c) (hc:out=[]∨c=.own 1) (hl:out.length≤150000000000) :
  cw (.f 152) [.pB w 0,.str s] m=some (.db [],aW m w (gZ so li (out++mq s) (.own 1))):=by
 have hml:aH=1099511627776:=rfl;have hq:=u9 s;have a1:=mJ hm hc (x:=[34]) (xs:=[.int .u8 34]) (n:=1) rfl rfl (by simp only[List.length_append,List.length_cons,List.length_nil];omega) (R:=IV×IM);have hm1:(aW m w (gZ so li (out++[34]) (.own 1))).get w=gZ so li (out++[34]) (.own 1):=kz hm;have hL:=TR w s (by omega) so li s.length 0 (out++[34]) _ (by omega) hm1 (by simp;omega);rw[List.drop_zero,az] at hL;have hm2:(aW m w (gZ so li (out++[34]++s.flatMap fZ) (.own 1))).get w=gZ so li (out++[34]++s.flatMap fZ) (.own 1):=kz hm;have a2:=mJ hm2 (.inr rfl) (x:=[34]) (xs:=[.int .u8 34]) (n:=1) rfl rfl (by simp only[List.length_append,List.length_cons,List.length_nil];omega) (R:=IV×IM);simp only[az] at a2;apply GV;have hL':vC w s (s.length:Int) 0 (aW m w (gZ so li (out++[34]) (.own 1)))=_:=hL;simp only[TE,iR hm,a1,hL'];simp only[go_sem,if_true,iR hm2,a2];simp[mq]
theorem Hk {R:Type}{c:Callee}{vs:List IV}{v:IV}{m:IM}{id:Nat}(h:∀m,cw c vs m=some (v,m)) (cd:id<m.size) (hr:(aC (vs.flatMap IV.cells)).isSome=true) (K:IV→IM→Option R):an cw c vs [id] m K=K v m:=by
 obtain⟨n,hn⟩:=Option.isSome_iff_exists.1 hr;have e:(⟨(m.bs.set id .none).set id (m.get id),m.kS⟩:IM)=m:=by have:=nw (m:=m) (id:=id) rfl cd;rw[List.set_set];exact this
 simp only[an,hn,eJ,Ge,h,cf];rw[e]
theorem C6 (n:Nat):(pS [32,32] n).length=2*n:=by
 induction n with
 |zero=>rfl
 |succ n ih=>simp[pS,ih];omega
theorem Sn (n:Nat) (hn:n≤1000000) (m:IM):cw (.f 171) [.str [32,32],.int .i64 (n:Int)] m=some (.str (pS [32,32] n),m):=by
 unfold cw;rw[jv (p:=rW) rfl];have h1:Nat.ble n 9223372036854775807=true:=by rw[Nat.ble_eq];omega
 have h2:Nat.ble (2*n) 140737488355328=true:=by rw[Nat.ble_eq];omega
 simp[rW,h1,h2]
theorem Ga (w:Nat) (lvl:Nat) (hv:lvl≤1000000) (so li:Bool) (out:List UInt8) (m:IM) (hm:m.get w=gZ so li out (.own 1)) (hl:out.length≤500000000000) :
  cw (.f 164) [.pB w 0,.int .i64 (lvl:Int)] m=some (.db [],aW m w (gZ so li (out++gx li lvl) (.own 1))):=by
 have hml:aH=1099511627776:=rfl;have hr:=C6 lvl;apply GX
 cases li with
 |false=>simp[QK,go_sem,F9 hm,gx,sj hm,av]
 |true =>
  have h1:=fun K:IV→IM→Option (IV×IM)=>Hk (Sn lvl hv) (zD hm) (by simp[go_sem]) K;have e:dW.ev (.bin .add) [.str [10],.str (pS [32,32] lvl)]=some (.str (10::pS [32,32] lvl)):=by simp[dW.ev,eX,iw,dN];omega
  have a1:=mJ hm (.inr rfl) (x:=10::pS [32,32] lvl) (n:=(10::pS [32,32] lvl).length) rfl rfl (by simp;omega) (R:=IV×IM);have hb:Nat.beq (ah (10::pS [32,32] lvl)).length ((10::pS [32,32] lvl).length*1)=true:=by simp[fj]
  have hc:List.contains [w] w=true:=by simp
  simp only[QK,go_sem,F9 hm,if_true,Nat.beq_refl,iR hm,h1,hc,au e,jb (fx _),hb,a1];simp[gx]
def dj (l:List Nat):List IV:=l.map fun (i:Nat)=>.int .i64 (i:Int)
theorem tO (l:List Nat):(dj l).all IV.plain=true:=by rw[List.all_eq_true];intro x hx;obtain⟨i,_,rfl⟩:=List.mem_map.1 hx;rfl
theorem Gz (v:IV) (n:Nat):dY [v] n=List.replicate n v:=by
 induction n with
 |zero=>rfl
 |succ n ih=>simp[dY,ih,List.replicate_succ]
theorem xY (l:List IV):bp l []=List.replicate l.length .any:=by
 induction l with
 |nil=>rfl
 |cons v r ih=>simp[bp,ih,List.replicate_succ]
def H7 (i n:Nat):List IV:=dj (List.range i)++List.replicate (n-i) (.int .i64 0)
theorem Ou {i n:Nat}(h:i≤n):(H7 i n).length=n:=by simp[H7,dj];omega
theorem Mt {i n:Nat}(h:i<n):over (H7 i n) i [.int .i64 (i:Int)]=H7 (i+1) n:=by
 have hl:(dj (List.range i)).length=i:=by simp[dj]
 unfold over H7;have e:n-i=(n-(i+1))+1:=by omega
 rw[List.take_append_of_le_length (by omega),List.take_of_length_le (by omega),e,List.replicate_succ,List.drop_append,List.drop_eq_nil_iff.2 (by simp[hl])];have e2:i+[IV.int .i64 (i:Int)].length-(dj (List.range i)).length=1:=by rw[hl];simp
 rw[e2];simp[dj,List.range_succ]
theorem Cf {i n:Nat}(h:i<n):bh (List.replicate n cV.any) i 1 .any=List.replicate n .any:=by unfold bh;rw[List.take_replicate,List.drop_replicate,List.replicate_append_replicate,List.replicate_append_replicate];congr 1;omega
theorem Mr (n:Nat):H7 n n=dj (List.range n):=by simp[H7]
theorem DD (n:Nat):H7 0 n=List.replicate n (.int .i64 0):=by simp[H7,dj]
theorem kM {id n i:Nat}(h:i<n):dW.ev (.aw 1) [.sB id 0 n 1,.int .i64 (i:Int)]=some (.pB id i):=by
 have c1:(0:Int)≤(i:Int):=by omega
 have c2:(i:Int)<(n:Int):=by omega
 simp[dW.ev,c1,h]
theorem eH {R:Type}(id o n z:Nat) (X:Option R):dk (.sB id o n z) X=X:=rfl
theorem TT (w v b n:Nat) (hn:n≤1000000) (m:IM):∀(k i:Nat),n=i+k→b<m.size →
  sn w v 0 (.sB b 0 n 1) (n:Int) (i:Int) (aW m b (.cells (H7 i n) (List.replicate n .any)))=some (.exit 0,[.pB w 0,.pB v 0,.sB b 0 n 1],[],aW m b (.cells (dj (List.range n)) (List.replicate n .any))):=by
 intro k
 induction k with
 |zero =>
  intro i hk hb;have hi:i=n:=by omega
  subst hi;have c1:¬(i:Int)<(i:Int):=by omega
  rw[yJ];simp[zH,go_sem,Mr]
 |succ k ih =>
  intro i hk hb;have hi:i<n:=by omega
  have c1:(i:Int)<(n:Int):=by omega
  have hw:IntKind.i64.wrap ((i:Int)+1)=((i+1:Nat):Int):=by rw[w64 (by omega) (by omega)];rfl
  have h:=ih (i+1) (by omega) hb;have hl:=Ou (i:=i) (n:=n) (by omega);have hs:=fun K:IM→Option (St⊕LR)=>kE (lX hb (.cells (H7 i n) (List.replicate n .any))) (vs:=[.int .i64 (i:Int)]) (c:=.any) (off:=i) (r:=0) rfl (Nat.zero_le _) (by rw[hl];simp;omega) K;simp only[az,Mt hi,List.length_cons,List.length_nil,Nat.zero_add,Cf hi] at hs;have step:gK Eg (zH w v 0 (.sB b 0 n 1) (n:Int) (i:Int) (aW m b (.cells (H7 i n) (List.replicate n .any))))=sn w v 0 (.sB b 0 n 1) (n:Int) (i+1:Nat) (aW m b (.cells (H7 (i+1) n) (List.replicate n .any))):=by generalize i+1=j at *;simp only[zH,go_sem,decide_eq_true c1,if_true,au (kM hi),hs,eH,hw];rfl
  rw[yJ,step,h]
theorem zu {m m':IM}{n:Nat}{l:List IV}{cp:List cV}(hs:m'.bs.take m.size=m.bs) (he:m'.kS=m.kS) (hp:l.all IV.plain=true) (hn:l.length=n) {id:Nat}(cd:m.size≤id) (hg:m'.get id=.cells l cp):settle m m' (.sB id 0 n 1)=some (.sl l n,m):=by
 have h1:(IV.sB id 0 n 1).ak=some (id+1):=rfl;have h2:Ej m.size m' (.sB id 0 n 1)=.sl l n:=by
  have hc:cut l 0 (n*1)=some l:=by simp[cut,hn,List.take_of_length_le (Nat.le_of_eq hn)]
  simp only[Ej,ND,hg,hc,hp,if_true];rw[if_neg (by omega)]
 have h3:(IV.sl l n).ak=some 0:=rfl;unfold settle;simp only[h1,aK,hs,he,if_true,h2,h3,Nat.zero_le];rw[if_neg (by omega)]
theorem CX (w:Nat) (so li:Bool) (out:List UInt8) (c:cV) (k:Int) (t:List UInt8) (K V:IV) (n:Nat) (hn:n≤1000000) (hV:dW.ev .ay [V]=some (.int .i64 (n:Int))) (hK:K.refs=some 0) (hV2:V.refs=some 0) (m:IM) (hm:m.get w=gZ so li out c) (h:(so&&decide (k=5))=false) :
  cw (.f 163) [.pB w 0,.agg [.int .i64 k,.str t,K,V]] m=some (.sl (dj (List.range n)) n,m):=by
 have hml:aH=1099511627776:=rfl;have hw:=zD hm;have g1:(bZ m (.cells [.int .i64 k,.str t,K,V] [.any,.any,.any,.any])).get m.size=.cells [.int .i64 k,.str t,K,V] [.any,.any,.any,.any]:=gW _ _;generalize hM:bZ m (.cells [.int .i64 k,.str t,K,V] [.any,.any,.any,.any])=M at *;have hMs:M.size=m.size+1:=by rw[←hM,jA]
 have hL:=TT w m.size M.size n hn (bZ M (.cells (List.replicate n (.int .i64 0)) (List.replicate n .any))) n 0 (by omega) (by rw[jA];omega);rw[fo,fo,DD] at hL;have hA:decide ((0:Int)≤(n:Int)∧(n:Int)≤(n:Int)∧(n:Int)*8≤(aH:Int)∧(n:Int)≤(aH:Int))=true:=by rw[decide_eq_true_eq,hml];omega
 have hq:(bZ M (.cells (dj (List.range n)) (List.replicate n .any))).get w=gZ so li out c:=by rw[gJ (by omega),←hM,gJ hw,hm]
 have hq2:(bZ M (.cells (dj (List.range n)) (List.replicate n .any))).get m.size=.cells [.int .i64 k,.str t,K,V] [.any,.any,.any,.any]:=by rw[gJ (by omega),g1]
 have hC:oX w m.size 0 (.sB M.size 0 n 1) (bZ M (.cells (dj (List.range n)) (List.replicate n .any)))=some (.normal,[.pB m.size 0,.sB M.size 0 n 1,.bool true],[],bZ M (.cells (dj (List.range n)) (List.replicate n .any))):=by
  cases so with
  |false=>simp[oX,go_sem,Ld hq]
  |true =>
   have hk:¬k=5:=by simpa using h
   have hk':(k != 5)=true:=by simpa using hk
   simp only[oX,go_sem,Ld hq,f8 hq2,Bool.not_true,Bool.false_eq_true,if_false];rw[dD (v:=.int .i64 k) rfl];simp only[go_sem,hk']
 have hS:settle m (bZ M (.cells (dj (List.range n)) (List.replicate n .any))) (.sB M.size 0 n 1)=some (.sl (dj (List.range n)) n,m):=by
  refine zu (cp:=List.replicate n .any) ?_ ?_ (tO _) (by simp[dj]) (by omega) (gW _ _)
  ·rw[←hM];simp[bZ,IM.size]
  ·rw[←hM];rfl
 have hL':sn w m.size 0 (.sB M.size 0 n 1) (n:Int) 0 (bZ M (.cells (List.replicate n (.int .i64 0)) (List.replicate n .any)))=_:=hL;apply yC;simp only[QJ,hM,af hK,af hV2,f8 g1];rw[dD (v:=V) rfl];simp only[au hV,go_sem,hA,if_true,Gz,xY,List.length_replicate,Int.toNat_natCast];simp only[hL',go_sem,if_true,hC,hS]
theorem Ut {row:List IV}{n i:Nat}(h:i<n):dW.ev (.aw 1) [.sl row n,.int .i64 (i:Int)]=some (.pI row (i*1)):=by
 have c1:(0:Int)≤(i:Int):=by omega
 have c2:(i:Int)<(n:Int):=by omega
 simp[dW.ev,c1,h]
theorem Tp (w:Nat) (br:List UInt8) (lvl:Int) (p:Nat) (i:Int) (l:IV) (len:Int) (k:Int) (t:List UInt8) (K V:IV) (so li:Bool) (out:List UInt8) (m:IM) (hm:m.get w=gZ so li out (.own 1)) (hl:out.length≤150000000000) :
  uC w br lvl p i l len p k t K V m=some (.normal,[.pB w 0,.str br,.int .i64 lvl,.int .i64 i,l,.int .i64 len,.int .i64 (p:Int)],[.cells [.int .i64 k,.str t,K,V] [.any,.any,.any,.any]],aW m w (gZ so li (out++if 0<p then [44] else []) (.own 1))):=by
 have hml:aH=1099511627776:=rfl;by_cases g:0<p
 ·have g':(p:Int)>0:=by omega
  have a1:=mJ hm (.inr rfl) (x:=[44]) (xs:=[.int .u8 44]) (n:=1) rfl rfl (by simp only[List.length_cons,List.length_nil];omega) (R:=LR);simp only[uC,go_sem,decide_eq_true g',if_true,iR hm,a1,if_pos g]
 ·have g':¬(p:Int)>0:=by omega
  simp only[uC,go_sem,decide_eq_false g',Bool.false_eq_true,if_false,if_neg g,List.append_nil,sj hm]
theorem Tq (w:Nat) (br:List UInt8) (lvl:Int) (p:Int) (i:Nat) (l:IV) (len:Int) (k:Int) (t:List UInt8) (K V:IV) (ks:List (List UInt8)) (hK:mU K ks) (hi:k=5→i<ks.length) (so li:Bool) (out:List UInt8) (m:IM) (hm:m.get w=gZ so li out (.own 1)) (hl:out.length+(kN li k ks i).length≤120000000000) :
  qV w br lvl i l len p k t K V m=some (.normal,[.pB w 0,.str br,.int .i64 lvl,.int .i64 (i:Int),l,.int .i64 len,.int .i64 p],[.cells [.int .i64 k,.str t,K,V] [.any,.any,.any,.any]],aW m w (gZ so li (out++kN li k ks i) (.own 1))):=by
 have hml:aH=1099511627776:=rfl;by_cases g:k=5
 ·subst g;have hi:=hi rfl;have hg:K=.sl (ks.map .str) ks.length:=by
   rcases hK with ⟨_,rfl⟩ | h
   ·simp at hi
   ·exact h
  have hx:ks.getD i []=ks[i]:=by simp[List.getD_eq_getElem?_getD,hi]
  have hrow:(ks.map IV.str)[i*1]?=some (.str ks[i]):=by simp[hi]
  have hk:kN li 5 ks i=mq ks[i]++(58::if li then [32] else []):=by simp only[kN,if_true,hx]
  rw[hk] at hl ⊢;have hql:ks[i].length≤(mq ks[i]).length:=by
   have:∀s:List UInt8,s.length≤(s.flatMap fZ).length:=by
    intro s
    induction s with
    |nil=>exact Nat.zero_le _
    |cons c r ih =>
     have hc:1≤(fZ c).length:=by
      unfold fZ
      repeat' split
      all_goals simp
     rw[List.flatMap_cons,List.length_append,List.length_cons];omega
   have:=this ks[i];simp only[mq,List.length_cons,List.length_append];omega
  simp only[List.length_append,List.length_cons] at hl;have hq:=C5 w ks[i] (by omega) so li out (.own 1) m hm (.inr rfl) (by omega);have h1:=fun K2:IV→IM→Option LR=>ae hq (by simp[go_sem]) K2;have hm1:(aW m w (gZ so li (out++mq ks[i]) (.own 1))).get w=gZ so li (out++mq ks[i]) (.own 1):=kz hm;have a1:=mJ hm1 (.inr rfl) (x:=[58]) (xs:=[.int .u8 58]) (n:=1) rfl rfl (by simp only[List.length_cons,List.length_nil,List.length_append];omega) (R:=LR);simp only[az] at a1;have hm2:(aW m w (gZ so li (out++mq ks[i]++[58]) (.own 1))).get w=gZ so li (out++mq ks[i]++[58]) (.own 1):=kz hm;subst hg
  cases li with
  |false =>simp only[qV,go_sem,BEq.rfl,if_true,au (Ut hi),dD hrow,h1,iR hm1,a1,F9 hm2,Bool.false_eq_true,if_false];simp only[List.append_assoc,List.cons_append,List.nil_append]
  |true =>have a2:=mJ hm2 (.inr rfl) (x:=[32]) (xs:=[.int .u8 32]) (n:=1) rfl rfl (by simp only[List.length_cons,List.length_nil,List.length_append];omega) (R:=LR);simp only[az] at a2;simp only[qV,go_sem,BEq.rfl,if_true,au (Ut hi),dD hrow,h1,iR hm1,a1,F9 hm2,iR hm2,a2];simp only[List.append_assoc,List.cons_append,List.nil_append]
 ·have g':(k==5)=false:=by simpa using g
  simp only[qV,go_sem,g',Bool.false_eq_true,if_false,kN,if_neg g,List.append_nil,sj hm]
theorem Wt (w:Nat) (br:List UInt8) (lvl:Nat) (hlv:lvl≤1000) (k:Int) (t:List UInt8) (K V:IV) (ks:List (List UInt8)) (vs:List dL) (hK:mU K ks) (hV:mL V vs) (so li:Bool) (ts:List (List UInt8)) (l:List Nat) (hl:∀i,i∈l→i<vs.length∧(k=5→i<ks.length)) (hn:l.length≤1000000)
  (hI:∀(i:Nat) (h:i<vs.length) (c:List IV),gh vs[i] c→∀(out:List UInt8) (m:IM),m.get w=gZ so li out (.own 1)→out.length+(ts.getD i []).length≤100000000000→cw (.f 82) [.pB w 0,.agg c,.int .i64 ((lvl+1:Nat):Int)] m=some (.db [],aW m w (gZ so li (out++ts.getD i []) (.own 1)))) :
  ∀(j p:Nat) (out:List UInt8) (m:IM),l.length=p+j→m.get w=gZ so li out (.own 1)→out.length+(mz li (lvl+1) k ks ts p (l.drop p)).length≤100000000000 →
  vD w br lvl (.sl (dj l) l.length) l.length p k t K V m=some (.exit 0,[.pB w 0,.str br,.int .i64 (lvl:Int)],[.cells [.int .i64 k,.str t,K,V] [.any,.any,.any,.any]],aW m w (gZ so li (out++mz li (lvl+1) k ks ts p (l.drop p)) (.own 1))):=by
 intro j
 induction j with
 |zero =>
  intro p out m hj hm hb;have c1:¬(p:Int)<(l.length:Int):=by omega
  rw[yI,List.drop_eq_nil_iff.2 (by omega)];simp only[zG,go_sem,decide_eq_false c1,Bool.false_eq_true,if_false,mz,List.append_nil,sj hm]
 |succ j ih =>
  intro p out m hj hm hb;have hp:p<l.length:=by omega
  have c1:(p:Int)<(l.length:Int):=by omega
  have hw:IntKind.i64.wrap ((p:Int)+1)=((p+1:Nat):Int):=by rw[w64 (by omega) (by omega)];rfl
  have hw2:IntKind.i64.wrap ((lvl:Int)+1)=((lvl+1:Nat):Int):=by rw[w64 (by omega) (by omega)];rfl
  rw[List.drop_eq_getElem_cons hp] at hb ⊢;obtain⟨hi,hik⟩:=hl l[p] (List.getElem_mem hp);have hrow:(dj l)[p*1]?=some (.int .i64 (l[p]:Int)):=by simp[dj,hp]
  generalize l[p]=i at *;unfold mz at hb ⊢;simp only[List.length_append] at hb;have hA:=Tp w br lvl p i (.sl (dj l) l.length) l.length k t K V so li out m hm (by omega);have hm1:(aW m w (gZ so li (out++if 0<p then [44] else []) (.own 1))).get w=gZ so li (out++if 0<p then [44] else []) (.own 1):=kz hm;have hB:=Ga w (lvl+1) (by omega) so li (out++if 0<p then [44] else []) _ hm1 (by rw[List.length_append];omega);rw[az] at hB;have h1:=fun K2:IV→IM→Option (St⊕LR)=>ae hB (by simp[go_sem]) K2;have hm2:(aW m w (gZ so li ((out++if 0<p then [44] else [])++gx li (lvl+1)) (.own 1))).get w=gZ so li ((out++if 0<p then [44] else [])++gx li (lvl+1)) (.own 1):=kz hm;have hC:=Tq w br lvl p i (.sl (dj l) l.length) l.length k t K V ks hK hik so li _ _ hm2 (by simp only[List.length_append];omega);rw[az] at hC
  have hm3:(aW m w (gZ so li (((out++if 0<p then [44] else [])++gx li (lvl+1))++kN li k ks i) (.own 1))).get w=gZ so li (((out++if 0<p then [44] else [])++gx li (lvl+1))++kN li k ks i) (.own 1):=kz hm
  cases hV with
  |nil=>simp at hi
  | @sl _ row n hr hnn =>
   obtain⟨c,hc,hcut⟩:=hr.get i hi;have hD:=hI i hi c hc _ _ hm3 (by simp only[List.length_append];omega);rw[az] at hD;have hin:i<n:=by omega
   obtain⟨k',t',K',V',rfl,hK',hV',_,_⟩:=hc.cells;have h2:=fun K2:IV→IM→Option (St⊕LR)=>ae hD (by simp[go_sem,hK',hV']) K2;have h:=ih (p+1) _ _ (by omega) (kz (out':=(((out++if 0<p then [44] else [])++gx li (lvl+1))++kN li k ks i)++ts.getD i []) hm) (by simp only[List.length_append];omega);rw[az] at h;have step:gK Ef (zG w br lvl (.sl (dj l) l.length) l.length p k t K (.sl row n) m)=vD w br lvl (.sl (dj l) l.length) l.length (p+1:Nat) k t K (.sl row n) (aW m w (gZ so li ((((out++if 0<p then [44] else [])++gx li (lvl+1))++kN li k ks i)++ts.getD i []) (.own 1))):=by simp only[zG,go_sem,decide_eq_true c1,if_true,au (Ut hp),dD hrow,hA,hw2,h1,hC,au (ur hin),gi hcut,h2,hw];rfl
   rw[yI,step,h];simp only[List.append_assoc]
inductive V4:Nat→dL→Prop
 |mk {d:Nat}{k:Int}{t:List UInt8}{ks:List (List UInt8)}{vs:List dL}:0≤k→k≤5→(k=5→ks.length=vs.length∧ks.Nodup)→vs.length≤1000000→(∀v,v∈vs→V4 d v)→V4 (d+1) (.mk k t ks vs)
def Ha (so:Bool):Prop:=∀(w:Nat) (li:Bool) (out:List UInt8) (c:cV) (k:Int) (t:List UInt8) (K V:IV) (ks:List (List UInt8)) (n:Nat) (m:IM),n≤1000000→dW.ev .ay [V]=some (.int .i64 (n:Int))→mU K ks→V.refs=some 0→(k=5→ks.length=n∧ks.Nodup)→m.get w=gZ so li out c →
  cw (.f 163) [.pB w 0,.agg [.int .i64 k,.str t,K,V]] m=some (.sl (dj (ib so k ks n)) n,m)
theorem xz:Ha false:=by intro w li out c k t K V ks n m hn hV hK hV2 hk hm;exact CX w false li out c k t K V n hn hV hK.refs hV2 m hm rfl
theorem wY (ks:List (List UInt8)) (i:Nat):∀(l:List Nat) (x:Nat),x∈uu ks i l↔x=i∨x∈l
 |[],x=>by simp[uu]
 |j::r,x=>by
  unfold uu;split
  ·simp
  ·simp only[List.mem_cons,wY ks i r];constructor
   ·rintro (h | h | h)<;>simp[h]
   ·rintro (h | h | h)<;>simp[h]
theorem Cq (ks:List (List UInt8)) (i:Nat):∀l:List Nat,(uu ks i l).length=l.length+1
 |[]=>rfl
 |j::r=>by unfold uu;split<;>simp[Cq ks i r]
theorem CW (ks:List (List UInt8)):∀(n x:Nat),x∈uy ks n↔x<n
 |0,x=>by simp[uy]
 |n+1,x=>by rw[uy,wY,CW ks n];omega
theorem CU (ks:List (List UInt8)):∀n:Nat,(uy ks n).length=n
 |0=>rfl
 |n+1=>by rw[uy,Cq,CU ks n]
theorem xB (so:Bool) (k:Int) (ks:List (List UInt8)) (n x:Nat):x∈ib so k ks n↔x<n:=by
 unfold ib;split
 ·exact CW ks n x
 ·simp
theorem xA (so:Bool) (k:Int) (ks:List (List UInt8)) (n:Nat):(ib so k ks n).length=n:=by
 unfold ib;split
 ·exact CU ks n
 ·simp
theorem KL (w:Nat) (lvl:Nat) (hlv:lvl≤1000) (k:Int) (hk4:k=4∨k=5) (t:List UInt8) (K V:IV) (ks:List (List UInt8)) (vs:List dL) (hK:mU K ks) (hV:mL V vs) (so li:Bool) (hO:Ha so) (hkv:k=5→ks.length=vs.length∧ks.Nodup) (hn:vs.length≤1000000)
  (hI:∀(i:Nat) (h:i<vs.length) (c:List IV),gh vs[i] c→∀(out:List UInt8) (m:IM),m.get w=gZ so li out (.own 1)→out.length+(gP so li vs[i] (lvl+1)).length≤100000000000→cw (.f 82) [.pB w 0,.agg c,.int .i64 ((lvl+1:Nat):Int)] m=some (.db [],aW m w (gZ so li (out++gP so li vs[i] (lvl+1)) (.own 1))))
  (out:List UInt8) (c:cV) (m:IM) (hm:m.get w=gZ so li out c) (hc:out=[]∨c=.own 1) (hb:out.length+(gP so li (.mk k t ks vs) lvl).length≤100000000000) :
  cw (.f 153) [.pB w 0,.agg [.int .i64 k,.str t,K,V],.str [qS k,yd k],.int .i64 (lvl:Int)] m=some (.db [],aW m w (gZ so li (out++gP so li (.mk k t ks vs) lvl) (.own 1))):=by
 have hml:aH=1099511627776:=rfl;have hpr:gP so li (.mk k t ks vs) lvl=qS k::(mz li (lvl+1) k ks (pJ so li vs (lvl+1)) 0 (ib so k ks vs.length)++((if vs=[] then [] else gx li lvl)++[yd k])):=by unfold gP;rw[if_neg (by omega),if_neg (by omega),if_neg (by omega)]
 rw[hpr] at hb ⊢;simp only[List.length_cons,List.length_append] at hb;have a1:=mJ hm hc (x:=[qS k]) (xs:=[.int .u8 ((qS k).toNat:Int)]) (n:=1) rfl rfl (by simp only[List.length_cons,List.length_nil];omega) (R:=IV×IM);have hm1:(aW m w (gZ so li (out++[qS k]) (.own 1))).get w=gZ so li (out++[qS k]) (.own 1):=kz hm;have hord:=hO w li (out++[qS k]) (.own 1) k t K V ks vs.length _ hn hV.len hK hV.refs hkv hm1;have h1:=fun K2:IV→IM→Option (IV×IM)=>ae hord (by simp[go_sem,hK.refs,hV.refs]) K2;have hlen:=xA so k ks vs.length;have hL:=Wt w [qS k,yd k] lvl hlv k t K V ks vs hK hV so li (pJ so li vs (lvl+1)) (ib so k ks vs.length)
  (fun i hi=>⟨(xB so k ks vs.length i).1 hi,fun h5=>by rw[(hkv h5).1];exact (xB so k ks vs.length i).1 hi⟩) (by omega)
  (fun i h c hc out m hm hb=>by rw[rY so li vs (lvl+1) i h] at hb ⊢;exact hI i h c hc out m hm hb)
  vs.length 0 (out++[qS k]) _ (by omega) hm1 (by rw[List.drop_zero,List.length_append,List.length_cons,List.length_nil];omega)
 rw[List.drop_zero,az,hlen] at hL;generalize hit:mz li (lvl+1) k ks (pJ so li vs (lvl+1)) 0 (ib so k ks vs.length)=it at *;have hm2:(aW m w (gZ so li ((out++[qS k])++it) (.own 1))).get w=gZ so li ((out++[qS k])++it) (.own 1):=kz hm;have hC:uD w [qS k,yd k] lvl k t K V (aW m w (gZ so li ((out++[qS k])++it) (.own 1)))=some (.normal,[.pB w 0,.str [qS k,yd k]],[],aW m w (gZ so li (((out++[qS k])++it)++if vs=[] then [] else gx li lvl) (.own 1))):=by
  by_cases g:vs=[]
  ·have g':¬(vs.length:Int)>0:=by rw[g];simp
   simp only[uD,au hV.len,go_sem,decide_eq_false g',Bool.false_eq_true,if_false,if_pos g,List.append_nil]
  ·have g':(vs.length:Int)>0:=by have:vs.length≠0:=fun e=>g (List.length_eq_zero_iff.1 e);omega
   rw[if_neg g] at hb ⊢;have hB:=Ga w lvl (by omega) so li _ _ hm2 (by simp only[List.length_append,List.length_cons,List.length_nil];omega);rw[az] at hB;have h2:=fun K2:IV→IM→Option LR=>ae hB (by simp[go_sem]) K2;simp only[uD,au hV.len,go_sem,decide_eq_true g',if_true,h2]
 generalize hln:(if vs=[] then [] else gx li lvl)=ln at *;have hm3:(aW m w (gZ so li (((out++[qS k])++it)++ln) (.own 1))).get w=gZ so li (((out++[qS k])++it)++ln) (.own 1):=kz hm;have a2:=mJ hm3 (.inr rfl) (x:=[yd k]) (xs:=[.int .u8 ((yd k).toNat:Int)]) (n:=1) rfl rfl (by simp only[List.length_cons,List.length_nil,List.length_append];omega) (R:=IV×IM);simp only[az] at a2;have e0:dW.ev .cm [.str [qS k,yd k],.int .i64 0]=some (.int .u8 ((qS k).toNat:Int)):=by simp[dW.ev]
 have e1:dW.ev .cm [.str [qS k,yd k],.int .i64 1]=some (.int .u8 ((yd k).toNat:Int)):=by simp[dW.ev]
 have e2:dW.ev .ay [.sl (dj (ib so k ks vs.length)) vs.length]=some (.int .i64 (vs.length:Int)):=by simp[dW.ev]
 have e3:∀(X:Option (IV×IM)),dk (.sl (dj (ib so k ks vs.length)) vs.length) X=X:=fun X=>rfl;have hL':vD w [qS k,yd k] lvl (.sl (dj (ib so k ks vs.length)) vs.length) vs.length 0 k t K V (aW m w (gZ so li (out++[qS k]) (.own 1)))=_:=hL;apply GW;simp only[TF,af hK.refs,af hV.refs,go_sem,Nat.beq_refl,if_true,iR hm,au e0,a1,h1,au e2,e3,hL',hC,iR hm3,au e1,a2];simp only[List.append_assoc,List.cons_append,List.nil_append]
theorem KS (m:IM):cw (.f 106) [] m=some (.agg [.func 126 [] [],.func 127 [] [],.func 127 [] [],.func 128 [] [],.func 129 [] [],.func 130 [] []],m):=by apply GL;exact av (by rfl)
theorem Rw (n:Nat) (h:n<6):dW.ev (.ji 6 true 1) [.agg [.func 126 [] [],.func 127 [] [],.func 127 [] [],.func 128 [] [],.func 129 [] [],.func 130 [] []],.int .i64 (n:Int)]=some (.agg [.func ([126,127,127,128,129,130].getD n 0) [] []]):=by rcases n with _ | _ | _ | _ | _ | _ | n<;>first | rfl | omega
theorem Bg:∀s:List UInt8,s.length≤(s.flatMap fZ).length
 |[]=>Nat.zero_le _
 |c::r=>by
  have hc:1≤(fZ c).length:=by
   unfold fZ
   repeat' split
   all_goals simp
  have:=Bg r;rw[List.flatMap_cons,List.length_append,List.length_cons];omega
theorem Oy (so li:Bool) (hO:Ha so) (w:Nat):∀(d:Nat) (v:dL) (c:List IV),V4 d v→gh v c→∀(lvl:Nat) (out:List UInt8) (cp:cV) (m:IM),lvl+d≤1000→m.get w=gZ so li out cp→(out=[]∨cp=.own 1)→out.length+(gP so li v lvl).length≤100000000000 →
  cw (.f 82) [.pB w 0,.agg c,.int .i64 (lvl:Int)] m=some (.db [],aW m w (gZ so li (out++gP so li v lvl) (.own 1))):=by
 have hml:aH=1099511627776:=rfl;intro d
 induction d with
 |zero=>intro v c hw;cases hw
 |succ d ih =>
  intro v c hw hc lvl out cp m hlv hm hcp hb
  cases hw with
  | @mk _ k t ks vs h0 h5 hkv hn hall =>
   cases hc with
   | @mk _ _ _ _ K V hK hV =>
    have hk:=hK.refs;have hv:=hV.refs;have h1:=fun K2:IV→IM→Option (IV×IM)=>ae (KS m) (by simp[go_sem]) K2;obtain⟨n,rfl⟩:∃n:Nat,k=(n:Int):=⟨k.toNat,by omega⟩
    have hn6:n<6:=by omega
    have e1:=Rw n hn6;have hcall:∀g,cw (.f g) [.pB w 0,.agg [.int .i64 (n:Int),.str t,K,V],.int .i64 (lvl:Int)] m=some (.db [],aW m w (gZ so li (out++gP so li (.mk (n:Int) t ks vs) lvl) (.own 1)))→∀K2:IV→IM→Option (IV×IM),jS cw (.func g [] []) [.pB w 0,.agg [.int .i64 (n:Int),.str t,K,V],.int .i64 (lvl:Int)] [] m K2=K2 (.db []) (aW m w (gZ so li (out++gP so li (.mk (n:Int) t ks vs) lvl) (.own 1))):=by intro g hg K2;show an cw (.f g) ([]++_++[]) [] m K2=_;rw[List.nil_append,List.append_nil];exact ae hg (by simp[go_sem,hk,hv]) K2
    have fin:cw (.f ([126,127,127,128,129,130].getD n 0)) [.pB w 0,.agg [.int .i64 (n:Int),.str t,K,V],.int .i64 (lvl:Int)] m=some (.db [],aW m w (gZ so li (out++gP so li (.mk (n:Int) t ks vs) lvl) (.own 1))):=by
     have plain:((n:Int)=1∨(n:Int)=2)→cw (.f 127) [.pB w 0,.agg [.int .i64 (n:Int),.str t,K,V],.int .i64 (lvl:Int)] m=some (.db [],aW m w (gZ so li (out++gP so li (.mk (n:Int) t ks vs) lvl) (.own 1))):=by
      intro h;have e:gP so li (.mk (n:Int) t ks vs) lvl=t:=by unfold gP;rw[if_neg (by omega),if_pos h]
      rw[e] at hb ⊢;have a1:=mJ hm hcp (x:=t) (xs:=ah t) (n:=t.length) rfl rfl (by omega) (R:=IV×IM);have hB:Nat.beq (ah t).length (t.length*1)=true:=by simp[fj]
      apply GP;simp only[Tz,af hk,af hv,go_sem,Nat.beq_refl,if_true,iR hm,jb (fx t),hB,a1]
     have lst:∀hk4:(n:Int)=4∨(n:Int)=5,cw (.f 153) [.pB w 0,.agg [.int .i64 (n:Int),.str t,K,V],.str [qS (n:Int),yd (n:Int)],.int .i64 (lvl:Int)] m=some (.db [],aW m w (gZ so li (out++gP so li (.mk (n:Int) t ks vs) lvl) (.own 1))):=by intro hk4;exact KL w lvl (by omega) (n:Int) hk4 t K V ks vs hK hV so li hO hkv hn (fun i h c hc out m hm hb=>ih _ _ (hall _ (List.getElem_mem h)) hc (lvl+1) out _ m (by omega) hm (.inr rfl) hb) out cp m hm hcp hb
     rcases n with _ | _ | _ | _ | _ | _ | n
     ·have e:gP so li (.mk ((0:Nat):Int) t ks vs) lvl=[110,117,108,108]:=by unfold gP;rw[if_pos (show ((0:Nat):Int)=0 from rfl)]
      rw[e] at hb ⊢;have a1:=mJ hm hcp (x:=[110,117,108,108]) (xs:=ah [110,117,108,108]) (n:=4) rfl rfl (by simp only[List.length_cons,List.length_nil] at hb ⊢;omega) (R:=IV×IM);have hB:Nat.beq (List.length (ah [110,117,108,108])) (List.length ([110,117,108,108]:List UInt8)*1)=true:=rfl;apply GO;simp only[Ty,af hk,af hv,go_sem,if_true,iR hm,jb (fx [110,117,108,108]),a1];exact if_pos hB
     ·exact plain (.inl rfl)
     ·exact plain (.inr rfl)
     ·have e:gP so li (.mk ((3:Nat):Int) t ks vs) lvl=mq t:=by unfold gP;rw[if_neg (by omega),if_neg (by omega),if_pos (show ((3:Nat):Int)=3 from rfl)]
      rw[e] at hb ⊢;have hq:=Bg t;simp only[mq,List.length_cons,List.length_append] at hb;have hQ:=C5 w t (by omega) so li out cp m hm hcp (by omega);have h2:=fun K2:IV→IM→Option (IV×IM)=>ae hQ (by simp[go_sem]) K2;apply GQ;simp only[TA,af hk,af hv,go_sem,h2]
     ·have h2:=fun K2:IV→IM→Option (IV×IM)=>ae (lst (.inl rfl)) (by simp[go_sem,hk,hv]) K2;apply GR;simp only[qS,yd] at h2;rw[if_neg (by omega),if_neg (by omega)] at h2;simp only[TB,af hk,af hv,go_sem];rw[h2];simp only[go_sem]
     ·have h2:=fun K2:IV→IM→Option (IV×IM)=>ae (lst (.inr rfl)) (by simp[go_sem,hk,hv]) K2;apply GS;simp only[qS,yd] at h2;rw[if_pos (by omega),if_pos (by omega)] at h2;simp only[TD,af hk,af hv,go_sem];rw[h2];simp only[go_sem]
     ·omega
    apply II;simp only[Yi,af hk,af hv,h1,go_sem,au e1,hcall _ fin]
theorem wF:∀(l seen:List (List UInt8)),pR seen l=false→l.Nodup∧∀x,x∈l→x∉seen
 |[],_,_=>⟨List.nodup_nil,fun _ h=>by cases h⟩
 |x::r,seen,h=>by
  unfold pR at h;rw[Bool.or_eq_false_iff,decide_eq_false_iff_not] at h;obtain⟨h1,h2⟩:=wF r (seen++[x]) h.2;refine⟨List.nodup_cons.2 ⟨fun hx=>h2 x hx (by simp),h1⟩,fun y hy=>?_⟩;rcases List.mem_cons.1 hy with rfl | hy
  ·exact h.1
  ·exact fun hs=>h2 y hy (List.mem_append_left _ hs)
theorem jZ {k:Int}{t:List UInt8}{ks:List (List UInt8)}{n:Nat}(h:oc k t ks n=0) :
  0≤k∧k≤5∧f7 k t ks n=true∧t.length≤1000∧(∀s,s∈ks→s.length≤1000)∧(k=5→ks.length=n∧ks.Nodup)∧(k≠5→ks=[])∧(k≠4→k≠5→n=0):=by
 unfold oc at h;split at h
 ·omega
 ·rename_i g1;split at h
  ·omega
  ·rename_i g2;have g2:f7 k t ks n=true:=by simpa using g2
   split at h
   ·omega
   ·rename_i g3;split at h
    ·omega
    ·rename_i g4;split at h
     ·omega
     ·rename_i g5;have g5:pR [] ks=false:=by simpa using g5
      have g3:ni k t ks=false:=by simpa using g3
      have f:=g2;simp only[f7,Bool.and_eq_true,Bool.or_eq_true,decide_eq_true_eq] at f;simp only[ni,Bool.or_eq_false_iff,decide_eq_false_iff_not] at g3;refine⟨by omega,by omega,g2,by omega,fun s hs=>?_,fun h5=>⟨?_,(wF ks [] g5).1⟩,fun h5=>?_,fun h4 h5=>?_⟩
      ·have:=g3.2;rw[List.any_eq_false] at this;have:=this s hs;simp only[decide_eq_true_eq] at this;omega
      ·by_cases q:ks.length=n
       ·exact q
       ·exact (g4 ⟨h5,q⟩).elim
      ·rcases f.1.1.2 with q | q
       ·exact (h5 q).elim
       ·exact q
      ·rcases f.1.2 with (q | q) | q
       ·exact (h5 q).elim
       ·exact (h4 q).elim
       ·exact q
theorem mC {k:Int}{t:List UInt8}{ks:List (List UInt8)}{vs:List dL}{lvl left:Int}(h:(gB (.mk k t ks vs) lvl left).1=0) :
  left≠0∧lvl≤40∧oc k t ks vs.length=0∧(gU vs (lvl+1) (left-1)).1=0∧(gB (.mk k t ks vs) lvl left).2=(gU vs (lvl+1) (left-1)).2:=by
 unfold gB at h ⊢;by_cases h0:left=0
 ·rw[if_pos h0] at h;simp at h
 ·rw[if_neg h0] at h ⊢;by_cases h1:lvl>40
  ·rw[if_pos h1] at h;simp at h
  ·rw[if_neg h1] at h ⊢;by_cases h2:oc k t ks vs.length≠0
   ·rw[if_pos h2] at h;exact (h2 h).elim
   ·rw[if_neg h2] at h ⊢;exact⟨h0,by omega,by omega,h,rfl⟩
theorem rA {v:dL}{vs:List dL}{lvl left:Int}(h:(gU (v::vs) lvl left).1=0):(gB v lvl left).1=0∧(gU vs lvl (gB v lvl left).2).1=0∧(gU (v::vs) lvl left).2=(gU vs lvl (gB v lvl left).2).2:=by
 have e:gU (v::vs) lvl left=(if (gB v lvl left).1≠0 then gB v lvl left else gU vs lvl (gB v lvl left).2):=by rw[gU]
 rw[e] at h ⊢;by_cases h2:(gB v lvl left).1≠0
 ·rw[if_pos h2] at h;exact (h2 h).elim
 ·rw[if_neg h2] at h ⊢;exact⟨by omega,h,rfl⟩
theorem mY (v:dL) (lvl left:Int) (hl:0≤left) (h:(gB v lvl left).1=0):(gB v lvl left).2+1≤left∧0≤(gB v lvl left).2:=by
 cases v with
 |mk k t ks vs =>obtain⟨h0,_,_,h3,h4⟩:=mC h;rw[h4];have:=pn vs (lvl+1) (left-1) (by omega);omega
theorem Cg:∀(vs:List dL) (lvl left:Int),0≤left→(gU vs lvl left).1=0→(vs.length:Int)+(gU vs lvl left).2≤left
 |[],_,left,_,_=>by unfold gU;simp
 |x::r,lvl,left,hl,h=>by
  obtain⟨h1,h2,h3⟩:=rA h;have hd:=mY x lvl left hl h1;have:=Cg r lvl _ hd.2 h2;rw[h3,List.length_cons];omega
theorem FQ:∀(d:Nat) (v:dL) (lvl left:Int),0≤left→left≤100000→(gB v lvl left).1=0→41≤lvl+d→V4 d v
 |0,v,lvl,left,_,_,h,hd=>by
  cases v with
  |mk k t ks vs=>obtain⟨_,h1,_⟩:=mC h;omega
 |d+1,v,lvl,left,hl,hl2,h,hd=>by
  cases v with
  |mk k t ks vs =>
   obtain⟨h0,h1,h2,h3,h4⟩:=mC h;obtain⟨o1,o2,_,_,_,o3,_⟩:=jZ h2;have hlen:=Cg vs (lvl+1) (left-1) (by omega) h3;have hle:=pn vs (lvl+1) (left-1) (by omega);refine .mk o1 o2 o3 (by omega) (fun v hv=>?_);have key:∀(l:List dL) (lf:Int),0≤lf→lf≤100000→(gU l (lvl+1) lf).1=0→v∈l→∃x,0≤x∧x≤100000∧(gB v (lvl+1) x).1=0:=by
    intro l
    induction l with
    |nil=>intro lf _ _ _ hv;cases hv
    |cons y r ih =>
     intro lf g1 g2 g3 hv;obtain⟨e1,e2,_⟩:=rA g3;rcases List.mem_cons.1 hv with rfl | hv
     ·exact⟨lf,g1,g2,e1⟩
     ·have hd:=mY y _ lf g1 e1;exact ih _ hd.2 (by omega) e2 hv
   obtain⟨x,x1,x2,x3⟩:=key vs (left-1) (by omega) (by omega) h3 hv;exact FQ d v (lvl+1) x x1 x2 x3 (by omega)
theorem Cy (li:Bool) (l:Nat):(gx li l).length≤1+2*l:=by
 cases li with
 |false=>simp[gx]
 |true=>simp[gx,C6];omega
theorem KO (li:Bool) (k:Int) (ks:List (List UInt8)) (i:Nat) (hs:∀s,s∈ks→s.length≤1000):(kN li k ks i).length≤6004:=by
 unfold kN;split
 ·have:(ks.getD i []).length≤1000:=by
   rw[List.getD_eq_getElem?_getD]
   cases h:ks[i]? with
   |none=>simp
   |some s=>exact hs s (List.mem_of_getElem? h)
  have h2:=u9 (ks.getD i []);have h3:(if li then [32] else ([]:List UInt8)).length≤1:=by split<;>simp
  simp only[mq,List.length_append,List.length_cons,List.length_nil];omega
 ·simp
theorem Cr (li:Bool) (lvl:Nat) (hl:lvl≤101) (k:Int) (ks ts:List (List UInt8)) (hs:∀s,s∈ks→s.length≤1000):∀(l:List Nat) (n:Nat),(mz li lvl k ks ts n l).length≤(l.map fun i=>6300+(ts.getD i []).length).sum
 |[],n=>by simp[mz]
 |i::r,n=>by
  have h1:=Cr li lvl hl k ks ts hs r (n+1);have h2:=Cy li lvl;have h3:=KO li k ks i hs;have h4:(if 0<n then [44] else ([]:List UInt8)).length≤1:=by split<;>simp
  unfold mz;simp only[List.length_append,List.map_cons,List.sum_cons];omega
theorem zg (ks:List (List UInt8)) (i:Nat):∀l:List Nat,(uu ks i l).Perm (i::l)
 |[]=>.refl _
 |j::r=>by
  unfold uu;split
  ·exact .refl _
  ·exact ((zg ks i r).cons j).trans (.swap i j r)
theorem te (ks:List (List UInt8)):∀n:Nat,(uy ks n).Perm (List.range n)
 |0=>.refl _
 |n+1=>by
  rw[uy,List.range_succ];exact (zg ks n _).trans (((te ks n).cons n).trans (by
   have:=List.perm_append_comm (l₁:=[n]) (l₂:=List.range n);simpa using this))
theorem pG (so:Bool) (k:Int) (ks:List (List UInt8)) (n:Nat):(ib so k ks n).Perm (List.range n):=by
 unfold ib;split
 ·exact te ks n
 ·exact .refl _
theorem EP (ts:List (List UInt8)) (f:List UInt8→Nat):((List.range ts.length).map fun i=>f (ts.getD i []))=ts.map f:=by
 apply List.ext_getElem
 ·simp
 ·intro i h1 h2;have h:i<ts.length:=by simpa using h2
  simp[List.getD_eq_getElem?_getD,h]
theorem Gq (so li:Bool) (d lvl:Nat) (lv:Int) (ih:∀(v:dL) (left:Int),0≤left→(gB v lv left).1=0→((gP so li v lvl).length:Int)+6300+13000*(gB v lv left).2≤13000*left):∀(vs:List dL) (left:Int),0≤left→(gU vs lv left).1=0→((((pJ so li vs lvl).map fun t=>6300+t.length).sum:Nat):Int)+13000*(gU vs lv left).2≤13000*left
 |[],left,_,_=>by unfold pJ gU;simp
 |v::vs,left,h0,h=>by
  obtain⟨h1,h2,h3⟩:=rA h;have hd:=mY v lv left h0 h1;have a:=ih v left h0 h1;have b:=Gq so li d lvl lv ih vs _ hd.2 h2;rw[h3];unfold pJ;simp only[List.map_cons,List.sum_cons];omega
theorem Gr (so li:Bool):∀(d:Nat) (v:dL) (lvl:Nat) (lv left:Int),0≤left→(gB v lv left).1=0→41≤lv+d→lvl+d≤100→((gP so li v lvl).length:Int)+6300+13000*(gB v lv left).2≤13000*left
 |0,.mk k t ks vs,lvl,lv,left,_,h,hd,_=>by obtain⟨_,h1,_⟩:=mC h;omega
 |d+1,.mk k t ks vs,lvl,lv,left,h0,h,hd,hd2=>by
  obtain⟨c0,c1,c2,c3,c4⟩:=mC h;obtain⟨o1,o2,_,o3,o4,_,_,_⟩:=jZ c2;have hs:=Gq so li d (lvl+1) (lv+1) (fun v lf g1 g2=>Gr so li d v (lvl+1) (lv+1) lf g1 g2 (by omega) (by omega)) vs (left-1) (by omega) c3;rw[c4];have hle:=pn vs (lv+1) (left-1) (by omega);generalize (gU vs (lv+1) (left-1)).2=rest at *;have hown:(gP so li (.mk k t ks vs) lvl).length≤6700+((pJ so li vs (lvl+1)).map fun t=>6300+t.length).sum:=by
   unfold gP;split
   ·simp;omega
   ·split
    ·omega
    ·split
     ·have:=u9 t;simp only[mq,List.length_cons,List.length_append,List.length_nil];omega
     ·have hi:=Cr li (lvl+1) (by omega) k ks (pJ so li vs (lvl+1)) o4 (ib so k ks vs.length) 0;have hp:=((pG so k ks vs.length).map fun i=>6300+((pJ so li vs (lvl+1)).getD i []).length).sum_nat;have hr:=EP (pJ so li vs (lvl+1)) (fun t=>6300+t.length);rw[Gp] at hr;rw[hp,hr] at hi;have hl:=Cy li lvl;have h4:(if vs=[] then [] else gx li lvl).length≤1+2*lvl:=by
       split
       ·simp
       ·exact hl
      simp only[List.length_cons,List.length_append,List.length_nil];omega
  omega
theorem HW (so li:Bool) (v:dL) (h:ia v=0):(gP so li v 0).length≤26000000:=by have hd:=mY v 1 2000 (by omega) h;have:=Gr so li 41 v 0 1 2000 (by omega) h (by omega) (by omega);omega
def ie (so li:Bool) (v:dL):List UInt8×Int:=if ia v≠0 then ([],ia v) else if 100000<(gP so li v 0).length then ([],20) else (gP so li v 0,0)
theorem tz (so li:Bool) (hO:Ha so) (v:dL) (c:List IV) (hc:gh v c) (ho:sk v) (m:IM) :
  cw (.f 52) [.agg c,.agg [.bool so,.bool li]] m=some (.db [.str (ie so li v).1,.int .i64 (ie so li v).2],m):=by
 have hml:aH=1099511627776:=rfl;obtain⟨k,t,K,V,rfl,hK,hV,_,_⟩:=hc.cells;have h1:=fun K2:IV→IM→Option (IV×IM)=>ae (ru v _ m hc ho) (by simp[go_sem,hK,hV]) K2;apply Iy;by_cases g:ia v=0
 ·have hg:¬ia v≠0:=fun h=>h g;rw[g] at h1;have hb:=HW so li v g;have hwf:=FQ 41 v 1 2000 (by omega) (by omega) g (by omega);have hm1:(bZ m (gZ so li [] .any)).get m.size=gZ so li [] .any:=gW _ _;have hW:=Oy so li hO m.size 41 v _ hwf hc 0 [] .any _ (by omega) hm1 (.inl rfl) (by simp only[List.length_nil];omega);rw[fo,List.nil_append] at hW;have h2:=fun K2:IV→IM→Option (IV×IM)=>ae hW (by simp[go_sem,hK,hV]) K2;have hm2:(bZ m (gZ so li (gP so li v 0) (.own 1))).get m.size=gZ so li (gP so li v 0) (.own 1):=gW _ _;have h2':∀K2:IV→IM→Option (IV×IM),an cw (.f 82) [.pB m.size 0,.agg [.int .i64 k,.str t,K,V],.int .i64 0] [] (bZ m (.cells [.bool so,.bool li,.aa] [.any,.any,.any])) K2=K2 (.db []) (bZ m (gZ so li (gP so li v 0) (.own 1))):=h2;have hst:∀w:IV,w.ak=some 0→settle m (bZ m (gZ so li (gP so li v 0) (.own 1))) w=some (w,m):=fun w hw=>jL hw;simp only[ie,if_neg hg]
  by_cases g2:100000<(gP so li v 0).length
  ·have g3:((gP so li v 0).length:Int)>100000:=by omega
   rw[if_pos g2];simp only[VV,af hK,af hV,h1,go_sem];simp only[bne_self_eq_false,Bool.false_eq_true,if_false,h2',go_sem,iR hm2,au (FH _),decide_eq_true g3,if_true];exact hst _ rfl
  ·have g3:¬((gP so li v 0).length:Int)>100000:=by omega
   rw[if_neg g2];simp only[VV,af hK,af hV,h1,go_sem];simp only[bne_self_eq_false,Bool.false_eq_true,if_false,h2',go_sem,iR hm2,au (FH _),decide_eq_false g3,au (FI _)];exact hst _ rfl
 ·have g':(ia v != 0)=true:=by simpa using g
  simp only[ie];rw[if_pos g];simp only[VV,af hK,af hV,h1,go_sem,g',if_true];exact av rfl
theorem Oh (v:dL) (c:List IV) (hc:gh v c) (ho:sk v) (m:IM) :
  cw (.f 18) [.agg c] m=some (.db [.str (ie false false v).1,.int .i64 (ie false false v).2],m):=by
 have h:=tz false false xz v c hc ho m;obtain⟨k,t,K,V,rfl,hK,hV,_,_⟩:=hc.cells;have h1:=fun K2:IV→IM→Option (IV×IM)=>ae h (by simp[go_sem,hK,hV]) K2;apply Iq;simp only[X5,af hK,af hV,h1,go_sem];exact av rfl
theorem KF (v:dL) (c:List IV) (hc:gh v c) (ho:sk v) (m:IM) :
  cw (.f 23) [.agg c] m=some (.db [.str (ie false true v).1,.int .i64 (ie false true v).2],m):=by
 have h:=tz false true xz v c hc ho m;obtain⟨k,t,K,V,rfl,hK,hV,_,_⟩:=hc.cells;have h1:=fun K2:IV→IM→Option (IV×IM)=>ae h (by simp[go_sem,hK,hV]) K2;apply Is;simp only[X7,af hK,af hV,h1,go_sem];exact av rfl
theorem Me (hO:Ha true) (v:dL) (c:List IV) (hc:gh v c) (ho:sk v) (m:IM) :
  cw (.f 21) [.agg c] m=some (.db [.str (ie true false v).1,.int .i64 (ie true false v).2],m):=by
 have h:=tz true false hO v c hc ho m;obtain⟨k,t,K,V,rfl,hK,hV,_,_⟩:=hc.cells;have h1:=fun K2:IV→IM→Option (IV×IM)=>ae h (by simp[go_sem,hK,hV]) K2;apply Ir;simp only[X6,af hK,af hV,h1,go_sem];exact av rfl
theorem y7 (s s':List UInt8):∀(k i p:Nat),(∀j,i≤j→j<i+k→s[j]?=s'[j]?)→qq s k i p=qq s' k i p
 |0,_,_,_=>rfl
 |k+1,i,p,h=>by
  unfold qq;rw[h i (Nat.le_refl _) (by omega)]
  cases s'[i]? with
  |none=>rfl
  |some b =>
   simp only;split
   ·rfl
   ·exact y7 s s' k (i+1) _ (fun j h1 h2=>h j (by omega) (by omega))
theorem JD (s:List UInt8):∀(k i p q:Nat),qq s k i p=some q→∀j,i≤j→j<i+k→∃b,s[j]?=some b∧128≤b.toNat
 |0,i,p,q,_,j,h1,h2=>by omega
 |k+1,i,p,q,h,j,h1,h2=>by
  unfold qq at h
  cases hb:s[i]? with
  |none=>rw[hb] at h;cases h
  |some b =>
   rw[hb] at h;simp only at h;split at h
   ·cases h
   ·rename_i g;by_cases e:j=i
    ·subst e;exact⟨b,hb,by omega⟩
    ·exact JD s k (i+1) _ q h j (by omega) (by omega)
theorem H9 (c:Nat):dH c≤4∧(dH c=1↔c<128)∧(2≤dH c→128≤c):=by
 unfold dH
 repeat' split
 all_goals omega
theorem JE {s:List UInt8}(h:(fP s).2≠0):(fP s).2≤s.length∧1≤(fP s).2∧(∀r,fP (s.take (fP s).2++r)=fP s)∧((∃c,s.take (fP s).2=[c]∧c.toNat<128)∨∀b,b∈s.take (fP s).2→128≤b.toNat):=by
 cases s with
 |nil=>exact (h rfl).elim
 |cons c t =>
  obtain⟨_,w1,w2⟩:=H9 c.toNat;have hd:fP (c::t)=(if dH c.toNat=0∨(c::t).length<dH c.toNat then (0,0) else
   match qq (c::t) (dH c.toNat-1) 1 (if 1<dH c.toNat then c.toNat%(256/2^(dH c.toNat+1)) else c.toNat) with
   |none=>(0,0)
   |some p=>if bT p=true∧fV p=(c::t).take (dH c.toNat) then (p,dH c.toNat) else (0,0)):=rfl
  rw[hd] at h;by_cases g:dH c.toNat=0∨(c::t).length<dH c.toNat
  ·rw[if_pos g] at h;exact (h rfl).elim
  ·rw[if_neg g] at h hd
   cases hc:qq (c::t) (dH c.toNat-1) 1 (if 1<dH c.toNat then c.toNat%(256/2^(dH c.toNat+1)) else c.toNat) with
   |none=>rw[hc] at h;exact (h rfl).elim
   |some p =>
    rw[hc] at h hd;simp only at h hd;by_cases g2:bT p=true∧fV p=(c::t).take (dH c.toNat)
    ·rw[if_pos g2] at hd;rw[hd];simp only;generalize hn:dH c.toNat=n at *;have hn1:1≤n:=by omega
     have hnl:n≤(c::t).length:=by omega
     obtain⟨k,rfl⟩:∃k,n=k+1:=⟨n-1,by omega⟩
     have hlt:(t.take k).length=k:=by rw[List.length_take];simp only[List.length_cons] at hnl;omega
     refine⟨hnl,hn1,fun r=>?_,?_⟩
     ·rw[List.take_succ_cons,List.cons_append];have hd2:fP (c::(t.take k++r))=(if dH c.toNat=0∨(c::(t.take k++r)).length<dH c.toNat then (0,0) else
       match qq (c::(t.take k++r)) (dH c.toNat-1) 1 (if 1<dH c.toNat then c.toNat%(256/2^(dH c.toNat+1)) else c.toNat) with
       |none=>(0,0)
       |some p=>if bT p=true∧fV p=(c::(t.take k++r)).take (dH c.toNat) then (p,dH c.toNat) else (0,0)):=rfl
      rw[hd2,hn,if_neg (by simp only[List.length_cons,List.length_append,hlt];omega)];have e:qq (c::(t.take k++r)) (k+1-1) 1 (if 1<k+1 then c.toNat%(256/2^(k+1+1)) else c.toNat)=some p:=by
       rw[←hc];apply y7;intro j h1 h2;obtain⟨i,rfl⟩:∃i,j=i+1:=⟨j-1,by omega⟩
       rw[List.getElem?_cons_succ,List.getElem?_cons_succ,List.getElem?_append_left (by rw[hlt];omega),List.getElem?_take,if_pos (by omega)]
      rw[e];simp only;have e2:(c::(t.take k++r)).take (k+1)=(c::t).take (k+1):=by rw[List.take_succ_cons,List.take_succ_cons,List.take_append_of_le_length (by omega),List.take_of_length_le (by omega)]
      rw[e2,if_pos g2]
     ·by_cases k0:k=0
      ·subst k0;exact .inl ⟨c,rfl,w1.1 rfl⟩
      ·refine .inr (fun b hb=>?_);rw[List.take_succ_cons] at hb;rcases List.mem_cons.1 hb with rfl | hb
       ·exact w2 (by omega)
       ·obtain⟨i,hi,rfl⟩:=List.getElem_of_mem hb;rw[hlt] at hi;obtain⟨b,e1,e2⟩:=JD _ _ _ _ _ hc (i+1) (by omega) (by omega);rw[List.getElem?_cons_succ] at e1;rw[List.getElem_take];have hit:i<t.length:=by rw[List.length_take] at hlt;omega
        have:t[i]?=some t[i]:=List.getElem?_eq_getElem hit;rw[this] at e1
        cases e1;exact e2
    ·rw[if_neg g2] at h;exact (h rfl).elim
def NL (x:List UInt8):Prop:=x≠[]∧(∀r,(aI (x++r)).2.1=true∧(aI (x++r)).1=x.length)∧((∃c,x=[c]∧c.toNat<128)∨∀b,b∈x→128≤b.toNat)
theorem yT (s:List UInt8) (h:(fP s).2≠0):(aI s).2.1=true∧(aI s).1=(fP s).2:=by
 cases s with
 |nil=>exact (h rfl).elim
 |cons c t =>
  have e:=sK c t
  cases hw:(aI (c::t)).2.1 with
  |true=>rw[hw,if_pos rfl] at e;rw[e];exact⟨rfl,rfl⟩
  |false=>rw[hw] at e;rw[e] at h;exact (h rfl).elim
theorem Hm {s:List UInt8}(h:(fP s).2≠0):NL (s.take (fP s).2):=by
 obtain⟨h1,h2,h3,h4⟩:=JE h;have hl:(s.take (fP s).2).length=(fP s).2:=by rw[List.length_take];omega
 refine⟨fun e=>by rw[e] at hl;simp at hl;omega,fun r=>?_,h4⟩;have e:=h3 r;have:=yT (s.take (fP s).2++r) (by rw[e];exact h);rw[hl,this.2,e];exact⟨this.1,rfl⟩
theorem Ub {s:List UInt8}(h:(aI s).2.1=true):NL (s.take (aI s).1):=by
 cases s with
 |nil=>simp[aI] at h
 |cons c t =>
  have e:=sK c t;have hp:=ph _ h;rw[h,if_pos rfl] at e;have e2:(fP (c::t)).2=(aI (c::t)).1:=by rw[e]
  rw[←e2];exact Hm (by rw[e2];omega)
inductive zY:List UInt8→Prop
 |nil:zY []
 |cons {x r:List UInt8}:NL x→zY r→zY (x++r)
theorem zY.app {a b:List UInt8}(ha:zY a) (hb:zY b):zY (a++b):=by
 induction ha with
 |nil=>exact hb
 |cons hx _ ih=>rw[List.append_assoc];exact .cons hx ih
theorem zY.one {x:List UInt8}(h:NL x):zY x:=by simpa using zY.cons h .nil
theorem DE:∀(k:Nat) (s:List UInt8) (a:Nat),s.length<k→si k s a=none→zY s
 |0,s,a,h,_=>by omega
 |k+1,[],a,_,_=>.nil
 |k+1,c::t,a,h,hv=>by
  rw[si] at hv;split at hv
  ·rename_i g;have hp:=ph _ g;have hm:max (aI (c::t)).1 1=(aI (c::t)).1:=by omega
   rw[hm] at hv;have hr:=DE k _ _ (by rw[List.length_drop];simp only[List.length_cons] at h ⊢;omega) hv;have:=zY.cons (Ub g) hr;rwa [List.take_append_drop] at this
  ·cases hv
theorem Jt {s:List UInt8}(h:zY s):∀(k a:Nat),si k s a=none:=by
 induction h with
 |nil=>intro k a;cases k<;>rfl
 | @cons x r hx _ ih =>
  intro k a
  cases k with
  |zero=>rfl
  |succ k =>
   obtain⟨h1,h2,_⟩:=hx;obtain⟨h3,h4⟩:=h2 r;have hl:1≤x.length:=by
    cases x with
    |nil=>exact (h1 rfl).elim
    |cons _ _=>simp
   cases hxr:x++r with
   |nil=>rfl
   |cons c t =>
    rw[si,←hxr,if_pos h3,h4];have hm:max x.length 1=x.length:=by omega
    rw[hm,List.drop_left];exact ih _ _
theorem Gm {s:List UInt8}:Ic s=true↔zY s:=by unfold Ic;rw[Option.isNone_iff_eq_none];exact⟨DE _ _ _ (by omega),fun h=>Jt h _ _⟩
theorem fw {S x rest:List UInt8}{a:Nat}(h:S.drop a=x++rest) (i:Nat):S[a+i]?=(x++rest)[i]?:=by rw[←h,List.getElem?_drop]
def PX (o:Option UInt8):Prop:=∀c,o=some c→fS c=false∧c≠46∧c≠101∧c≠69∧c≠43∧c≠45
section
variable {S t rest:List UInt8}{a:Nat}(h:S.drop a=t++rest) (hn:PX rest[0]?)
include h hn
theorem xq {i:Nat}(hi:i≤t.length) {c:UInt8}(hc:fS c=true∨c=46∨c=101∨c=69∨c=43∨c=45):S[a+i]?=some c↔t[i]?=some c:=by
 rw[fw h];by_cases g:i<t.length
 ·rw[List.getElem?_append_left g]
 ·have e:i=t.length:=by omega
  subst e;rw[List.getElem?_append_right (Nat.le_refl _),Nat.sub_self];constructor
  ·intro q;obtain⟨h1,h2,h3,h4,h5,h6⟩:=hn c q;rcases hc with q | q | q | q | q | q
   ·rw[q] at h1;cases h1
   ·exact (h2 q).elim
   ·exact (h3 q).elim
   ·exact (h4 q).elim
   ·exact (h5 q).elim
   ·exact (h6 q).elim
  ·intro q;rw[List.getElem?_eq_none (Nat.le_refl _)] at q
   cases q
theorem PW:∀(m i k k':Nat),i+m=t.length→m<k→m<k'→lV S k (a+i)=a+lV t k' i
 |m,i,0,k',_,h1,_=>by omega
 |m,i,k+1,0,_,_,h1=>by omega
 |m,i,k+1,k'+1,e,h1,h2=>by
  rw[lV,lV]
  cases ht:t[i]? with
  |none =>
   have hm:i=t.length:=by have:=List.getElem?_eq_none_iff.1 ht;omega
   have hs:S[a+i]?=rest[0]?:=by rw[fw h,hm,List.getElem?_append_right (Nat.le_refl _),Nat.sub_self]
   cases hr:S[a+i]? with
   |none=>rfl
   |some c =>rw[hs] at hr;obtain⟨q,_⟩:=hn c hr;simp only[q,Bool.false_eq_true,if_false]
  |some c =>
   have hlt:=dP ht;have hs:S[a+i]?=some c:=by rw[fw h,List.getElem?_append_left hlt,ht]
   rw[hs];simp only
   cases hd:fS c with
   |false=>rfl
   |true =>simp only[if_true];rw[Nat.add_assoc];exact PW (m-1) (i+1) k k' (by omega) (by omega) (by omega)
theorem AW {i:Nat}(hi:i≤t.length):lV S (S.length+1) (a+i)=a+lV t (t.length+1) i:=by
 have hl:(S.drop a).length=t.length+rest.length:=by rw[h,List.length_append]
 rw[List.length_drop] at hl;exact PW h hn (t.length-i) i _ _ (by omega) (by omega) (by omega)
theorem WK {i:Nat}(hi:i≤t.length):nm S (a+i)=a+nm t i:=by unfold nm;simp only[show S[a+i]?=some 45↔t[i]?=some 45 from xq h hn hi (by simp)];split<;>omega
theorem WO {i:Nat}(hi:i≤t.length):uw S (a+i)=a+uw t i:=by unfold uw;simp only[show S[a+i]?=some 45↔t[i]?=some 45 from xq h hn hi (by simp),show S[a+i]?=some 43↔t[i]?=some 43 from xq h hn hi (by simp)];split<;>omega
theorem WL {i:Nat}(hi:i≤t.length):yi S (a+i)=a+yi t i:=by
 unfold yi;simp only[show S[a+i]?=some 48↔t[i]?=some 48 from xq h hn hi (.inl (by decide))];split
 ·omega
 ·exact AW h hn hi
theorem WM {i:Nat}(hi:i≤t.length):rP S (a+i)=(a+(rP t i).1,(rP t i).2):=by
 unfold rP;simp only[show S[a+i]?=some 46↔t[i]?=some 46 from xq h hn hi (by simp)];split
 ·rename_i q;have:=dP q;have e:=AW h hn (i:=i+1) (by omega);rw[←Nat.add_assoc] at e;rw[e];simp only[Prod.mk.injEq,true_and,decide_eq_decide];omega
 ·rfl
theorem WN {i:Nat}(hi:i≤t.length):ya S (a+i)=(a+(ya t i).1,(ya t i).2):=by
 unfold ya;simp only[show S[a+i]?=some 101↔t[i]?=some 101 from xq h hn hi (by simp),show S[a+i]?=some 69↔t[i]?=some 69 from xq h hn hi (by simp)];split
 ·rename_i q;have hlt:i<t.length:=by rcases q with q | q<;>exact dP q
  have eB:=WO h hn (i:=i+1) (by omega);rw[←Nat.add_assoc] at eB;have e:=AW h hn (i:=uw t (i+1)) (EI (by omega));rw[eB,e];simp only[Prod.mk.injEq,true_and,decide_eq_decide];omega
 ·rfl
theorem RJ:gf S a=(a+(gf t 0).1,(gf t 0).2):=by
 have h0:=WK h hn (i:=0) (Nat.zero_le _);rw[Nat.add_zero] at h0;have l1:nm t 0≤t.length:=xt (Nat.zero_le _);have l2:=AZ l1;have h1:=AW h hn l1;have h2:=WL h hn l1;have h3:=WM h hn l2;have h4:=WN h hn (A0 l2);unfold gf;rw[h0,h1,h2,h3];by_cases g:lV t (t.length+1) (nm t 0)=nm t 0
 ·rw[if_pos g,if_pos (by omega)]
 ·rw[if_neg g,if_neg (by omega)];simp only;split
  ·exact h4
  ·rfl
end
theorem va:∀(w:List UInt8) (S rest:List UInt8) (a:Nat),S.drop a=w++rest→lz S w a=.ok () (a+w.length)
 |[],_,_,_,_=>rfl
 |c::r,S,rest,a,h=>by
  have h0:=fw h 0;rw[Nat.add_zero] at h0;have e:S[a]?=some c:=h0;have hd:S.drop (a+1)=r++rest:=by rw[←List.drop_drop,h];rfl
  rw[lz,if_pos e,va r S rest (a+1) hd,List.length_cons];congr 1;omega
theorem KB (k:Nat) (h:k<16):wT (sQ k)=(k:Int):=by
 have:∀k,k<16→wT (sQ k)=(k:Int):=by decide +kernel
 exact this k h
theorem Nw (c:UInt8) (S rest:List UInt8) (a:Nat) (hc:c.toNat<128) (hq:(fZ c).length≠1) (h:S.drop a=fZ c++rest):S[a]?=some 92∧wH S (a+1)=.ok [c] (a+(fZ c).length):=by
 have e0:=fw h 0;have e1:=fw h 1;rw[Nat.add_zero] at e0;rw[LX] at h hq e0 e1 ⊢
 cases hF:LY c C1 with
 |some b =>
  rw[hF] at e0 e1;have e0:S[a]?=some 92:=e0;have e1:S[a+1]?=some b:=e1;refine⟨e0,?_⟩;rw[wH.eq_1,e1];have key:∀n,n<256→Ck E2 (LY (UInt8.ofNat n) C1)=(LY (UInt8.ofNat n) C1).map fun _=>UInt8.ofNat n:=by decide +kernel
  have:=key c.toNat c.toNat_lt;rw[UInt8.ofNat_toNat,hF] at this;simp only[Option.map_some] at this;rw[this];rfl
 |none =>
  rw[hF] at h hq e0 e1;simp only at h hq e0 e1 ⊢;by_cases g:c.toNat<32
  ·rw[if_pos g] at h hq e0 e1 ⊢;have e0:S[a]?=some 92:=e0;have e1:S[a+1]?=some 117:=e1;have e2:S[a+1+1]?=some 48:=fw h 2;have e3:S[a+1+1+1]?=some 48:=fw h 3;have e4:S[a+1+1+1+1]?=some (sQ (c.toNat/16)):=fw h 4;have e5:S[a+1+1+1+1+1]?=some (sQ (c.toNat%16)):=fw h 5;refine⟨e0,?_⟩;have x1:=KB (c.toNat/16) (by omega);have x2:=KB (c.toNat%16) (by omega);have x0:wT 48=0:=by decide +kernel
   have hX:kZ S 4 (a+1+1) 0=.ok (c.toNat:Int) (a+6):=by rw[kZ,e2];simp only[x0];rw[if_neg (by omega),kZ,e3];simp only[x0];rw[if_neg (by omega),kZ,e4];simp only[x1];rw[if_neg (by omega),kZ,e5];simp only[x2];rw[if_neg (by omega),kZ];congr 1;omega
   have hp:bT (c.toNat:Int)=true:=by simp[bT];omega
   have hE:Ch (c.toNat:Int)=[c]:=by rw[Ch.eq_1,show ((c.toNat:Int)).toNat=c.toNat from rfl,ov c.toNat hp,fV.eq_1];rw[if_pos hc,UInt8.ofNat_toNat]
   have hesc:Ck E2 (some 117)=none:=by decide
   rw[wH.eq_1,e1,hesc];simp only;rw[if_pos trivial,hX];simp only;rw[if_pos hp,hE];rfl
  ·rw[if_neg g] at hq;exact (hq rfl).elim
theorem C4 {c:UInt8}(h:(fZ c).length=1):fZ c=[c]∧¬c.toNat<32∧c≠34∧c≠92:=by
 have key:∀n,n<256→(fZ (UInt8.ofNat n)).length=1→fZ (UInt8.ofNat n)=[UInt8.ofNat n]∧¬(UInt8.ofNat n).toNat<32∧UInt8.ofNat n≠34∧UInt8.ofNat n≠92:=by decide +kernel
 have:=key c.toNat c.toNat_lt;rw[UInt8.ofNat_toNat] at this;exact this h
theorem C2 {c:UInt8}(h:128≤c.toNat):fZ c=[c]∧¬c.toNat<32∧c≠34∧c≠92:=by
 have key:∀n,n<256→128≤(UInt8.ofNat n).toNat→(fZ (UInt8.ofNat n)).length=1:=by decide +kernel
 have:=key c.toNat c.toNat_lt;rw[UInt8.ofNat_toNat] at this;exact C4 (this h)
theorem Gt:∀x:List UInt8,(∀b,b∈x→128≤b.toNat)→x.flatMap fZ=x
 |[],_=>rfl
 |c::r,h=>by
  rw[List.flatMap_cons,(C2 (h c List.mem_cons_self)).1,Gt r (fun b hb=>h b (List.mem_cons_of_mem _ hb))];rfl
theorem GB (S rest:List UInt8) {s:List UInt8}(hs:zY s):∀(n a:Nat) (acc:List UInt8),S.drop a=s.flatMap fZ++34::rest→S.length<a+n→nx S n a acc=some (.ok (acc++s) (a+(s.flatMap fZ).length+1)):=by
 induction hs with
 |nil =>
  intro n a acc h hn;have e0:=fw h 0;rw[Nat.add_zero] at e0;have e0:S[a]?=some 34:=e0;have:=dP e0;obtain⟨k,rfl⟩:∃k,n=k+1:=⟨n-1,by omega⟩
  rw[nx,e0];simp
 | @cons x r hx hr ih =>
  intro n a acc h hn;obtain⟨x1,x2,x3⟩:=hx;rw[List.flatMap_append,List.append_assoc] at h;have hlen:(S.drop a).length=(x.flatMap fZ).length+(r.flatMap fZ++34::rest).length:=by rw[h,List.length_append]
  rw[List.length_drop] at hlen;have hq:=Bg x;have hxl:1≤x.length:=by
   cases x with
   |nil=>exact (x1 rfl).elim
   |cons _ _=>simp
  obtain⟨k,rfl⟩:∃k,n=k+1:=⟨n-1,by omega⟩
  have plain:x.flatMap fZ=x→(∃c,x[0]?=some c∧¬c.toNat<32∧c≠34∧c≠92)→nx S (k+1) a acc=some (.ok (acc++(x++r)) (a+((x++r).flatMap fZ).length+1)):=by
   intro g ⟨c,g0,g1,g2,g3⟩;rw[g] at h;have e0:=fw h 0;rw[Nat.add_zero,List.getElem?_append_left (by omega),g0] at e0;obtain⟨y1,y2⟩:=x2 (r.flatMap fZ++34::rest);rw[←h] at y1 y2;have hd:S.drop (a+x.length)=r.flatMap fZ++34::rest:=by rw[←List.drop_drop,h,List.drop_left]
   have ht:(S.drop a).take x.length=x:=by rw[h,List.take_left]
   rw[nx,e0];simp only[if_neg g1,if_neg g2,if_neg g3,y1,if_true,y2,ht];rw[ih k (a+x.length) (acc++x) hd (by omega),List.flatMap_append,g,List.length_append,List.append_assoc];congr 2;omega
  rcases x3 with ⟨c,rfl,hc⟩ | hbig
  ·by_cases g:(fZ c).length=1
   ·obtain⟨g0,g1,g2,g3⟩:=C4 g;exact plain (by simp[g0]) ⟨c,rfl,g1,g2,g3⟩
   ·have hh:S.drop a=fZ c++(r.flatMap fZ++34::rest):=by simpa using h
    obtain⟨e0,e1⟩:=Nw c S _ a hc g hh;have hd:S.drop (a+(fZ c).length)=r.flatMap fZ++34::rest:=by rw[←List.drop_drop,hh,List.drop_left]
    have hc1:1≤(fZ c).length:=by have:=Bg [c];simpa using this
    rw[nx,e0];simp only[e1];rw[if_neg (by decide),if_neg (by decide),if_pos trivial,ih k _ _ hd (by omega),List.flatMap_append];simp[List.append_assoc];omega
  ·refine plain (Gt x hbig) ?_
   cases x with
   |nil=>exact (x1 rfl).elim
   |cons c t =>obtain⟨_,q1,q2,q3⟩:=C2 (hbig c List.mem_cons_self);exact⟨c,rfl,q1,q2,q3⟩
end Go.Idl
