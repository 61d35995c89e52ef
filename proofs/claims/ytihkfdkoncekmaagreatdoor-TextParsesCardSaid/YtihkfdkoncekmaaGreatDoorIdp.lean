/- This text proves what the interpreter returns at the functions that TextParses reaches, first part; it has no conditions. -/
import Derived.Test.YtihkfdkoncekmaaGreatDoorIdo
import Derived.Test.YtihkfdkoncekmaaGreatDoorIdl
set_option linter.unusedSimpArgs false
set_option linter.unusedVariables false
namespace Go.Idl
attribute [local go_sem] uV uI gI gS bO cE bw dM dp dV dS dO cI bV cZ bZ bX dQ cM bU dN bS bg bA bj bh aQ dR dT cK cQ dP dZ cY fy dK cS dY et dL dU cH cN cP bY cJ eB bT bC b8 bW cV bm aC a7 aD c9 c8 bJ bo bF ck bG cm bH ct List.flatMap_cons List.flatMap_nil
inductive Val where
 |mk (k:Int) (t:List UInt8) (ks:List (List UInt8)) (vs:List Val)
 deriving Inhabited
mutual
inductive ValR:Val→List IV→Prop
 |mk {k:Int}{t:List UInt8}{ks:List (List UInt8)}{vs:List Val}{K V:IV}:SlS K ks→SlV V vs→ValR (.mk k t ks vs) [.int .i64 k,.str t,K,V]
inductive SlV:IV→List Val→Prop
 |nil:SlV .nilSlice []
 |sl {vs:List Val}{row:List IV}{n:Nat}:RowR vs row→n=vs.length→SlV (.sl row n) vs
inductive RowR:List Val→List IV→Prop
 |nil:RowR [] []
 |cons {v:Val}{vs:List Val}{c r:List IV}:ValR v c→RowR vs r→RowR (v::vs) (c++r)
end
theorem ValR.len {v:Val}{c:List IV}(h:ValR v c):c.length=4:=by cases h;rfl
theorem RowR.len:∀{vs:List Val}{r:List IV},RowR vs r→r.length=4*vs.length
 |_,_,.nil=>rfl
 |_,_,.cons hv hr=>by rw[List.length_append,hv.len,hr.len,List.length_cons];omega
theorem RowR.get:∀{vs:List Val}{r:List IV},RowR vs r→∀(i:Nat) (h:i<vs.length),∃c,ValR vs[i] c∧cut r (i*4) 4=some c
 |_,_,.nil,i,h=>by simp at h
 |_,_,.cons (v:=v) (vs:=vs) (c:=c) (r:=r) hv hr,i,h=>by
  cases i with
  |zero =>
   refine⟨c,hv,?_⟩
   have:=hv.len
   simp[cut,this]
  |succ i =>
   obtain⟨d,h1,h2⟩:=hr.get i (by simpa using h)
   refine⟨d,h1,?_⟩
   have:=hv.len
   unfold cut at h2 ⊢
   split at h2
   ·rename_i hl
    rw[if_pos (by rw[List.length_append];omega),List.drop_append]
    have e:(i+1)*4-c.length=i*4:=by omega
    have e2:c.drop ((i+1)*4)=[]:=List.drop_eq_nil_iff.2 (by omega)
    rw[e,e2]
    exact h2
   ·cases h2
theorem SlS.refs {K:IV}{ks:List (List UInt8)}(h:SlS K ks):K.refs=some 0:=by rcases h with ⟨rfl,_⟩ | rfl<;>rfl
theorem SlS.plain {K:IV}{ks:List (List UInt8)}(h:SlS K ks):K.plain=true:=by rcases h with ⟨rfl,_⟩ | rfl<;>rfl
theorem SlV.refs {K:IV}{ks:List Val}(h:SlV K ks):K.refs=some 0:=by cases h<;>rfl
theorem SlV.plain {K:IV}{ks:List Val}(h:SlV K ks):K.plain=true:=by cases h<;>rfl
theorem SlV.toN {V:IV}{vs:List Val}(h:SlV V vs):SlN V vs.length:=by
 cases h with
 |nil=>exact .inl ⟨rfl,rfl⟩
 |sl hr hn=>exact .inr ⟨_,by rw[hn]⟩
theorem SlV.len {V:IV}{vs:List Val}(h:SlV V vs):POp.ev .lenSlice [V]=some (.int .i64 (vs.length:Int)):=Ed h.toN
mutual
inductive okV:Val→Prop
 |mk {k:Int}{t:List UInt8}{ks:List (List UInt8)}{vs:List Val}:t.length≤1099511627776→ks.length≤1000000→(∀s,s∈ks→s.length≤1099511627776)→okL vs→vs.length≤1000000→okV (.mk k t ks vs)
inductive okL:List Val→Prop
 |nil:okL []
 |cons {v:Val}{vs:List Val}:okV v→okL vs→okL (v::vs)
end
mutual
def fV:Val→Int→Int→Int×Int
 |.mk k t ks vs,lvl,left=>if left=0 then (5,left) else if lvl>40 then (21,left-1) else
   if lI k t ks vs.length≠0 then (lI k t ks vs.length,left-1) else gk vs (lvl+1) (left-1)
def gk:List Val→Int→Int→Int×Int
 |[],_,left=>(0,left)
 |v::vs,lvl,left=>if (fV v lvl left).1≠0 then fV v lvl left else gk vs lvl (fV v lvl left).2
end
mutual
theorem tX:∀(v:Val) (lvl left:Int),0≤left→0≤(fV v lvl left).2∧(fV v lvl left).2≤left
 |.mk k t ks vs,lvl,left,h=>by
  unfold fV
  by_cases h0:left=0
  ·rw[if_pos h0];exact⟨h,Int.le_refl _⟩
  ·rw[if_neg h0]
   by_cases h1:lvl>40
   ·rw[if_pos h1];exact⟨by simp only;omega,by simp only;omega⟩
   ·rw[if_neg h1]
    by_cases h2:lI k t ks vs.length≠0
    ·rw[if_pos h2];exact⟨by simp only;omega,by simp only;omega⟩
    ·rw[if_neg h2]
     have:=pc vs (lvl+1) (left-1) (by omega)
     omega
theorem pc:∀(vs:List Val) (lvl left:Int),0≤left→0≤(gk vs lvl left).2∧(gk vs lvl left).2≤left
 |[],lvl,left,h=>⟨h,Int.le_refl _⟩
 |v::vs,lvl,left,h=>by
  unfold gk
  have h1:=tX v lvl left h
  by_cases h2:(fV v lvl left).1≠0
  ·rw[if_pos h2];exact h1
  ·rw[if_neg h2]
   have:=pc vs lvl (fV v lvl left).2 h1.1
   omega
end
def bxI (n:Int):BObj:=.cells [.int .i64 n] [.any]
theorem ae {R:Type}{c:Callee}{vs:List IV}{m m':IM}{v:IV}(h:cw c vs m=some (v,m')) (hr:(an (vs.flatMap IV.cells)).isSome=true) (K:IV→IM→Option R):ak cw c vs [] m K=K v m':=Bv h hr K
theorem ValR.cells {v:Val}{c:List IV}(h:ValR v c):∃k t K V,c=[.int .i64 k,.str t,K,V]∧K.refs=some 0∧V.refs=some 0∧K.plain=true∧V.plain=true:=by
 cases h with
 |mk hK hV=>exact⟨_,_,_,_,rfl,hK.refs,hV.refs,hK.plain,hV.plain⟩
theorem zS {row:List IV}{n i:Nat}(h:i<n):POp.ev (.indexS 4) [.sl row n,.int .i64 (i:Int)]=some (.pI row (i*4)):=by
 have c1:(i:Int)<(n:Int):=by omega
 have c2:(0:Int)≤(i:Int):=by omega
 simp[POp.ev,c1,c2]
def P54 (v:Val):Prop:=∀(c:List IV) (lvl left:Int) (id:Nat) (m:IM),ValR v c→okV v→0≤lvl→lvl≤41→0≤left→left≤1000000→m.get id=bxI left →
  cw (.f 54) [.agg c,.int .i64 lvl,.pB id 0] m=some (.int .i64 (fV v lvl left).1,al m id (bxI (fV v lvl left).2))
theorem okL.mem {vs:List Val}(h:okL vs) {v:Val}(hv:v∈vs):okV v:=by
 induction vs with
 |nil=>cases hv
 |cons a r ih=>cases h with | cons h1 h2=>rcases List.mem_cons.1 hv with rfl | hv;exact h1;exact ih h2 hv
theorem HC (vs:List Val) (row:List IV) (hr:RowR vs row) (hok:okL vs) (hn:vs.length≤1099511627776) (ih:∀v,v∈vs→P54 v) (lvl:Int) (id:Nat) (hl0:0≤lvl) (hl1:lvl≤40):∀(k i:Nat) (left:Int) (m:IM),vs.length=i+k→0≤left→left≤1000000→m.get id=bxI left →
  Cm lvl id (.sl row vs.length) vs.length i m=some (if (gk (vs.drop i) (lvl+1) left).1=0 then (.exit 0,[],[],al m id (bxI (gk (vs.drop i) (lvl+1) left).2)) else (.ret,[.int .i64 (gk (vs.drop i) (lvl+1) left).1],[],al m id (bxI (gk (vs.drop i) (lvl+1) left).2))):=by
 intro k
 induction k with
 |zero =>
  intro i left m hk hf0 hf1 hm
  have e:vs.drop i=[]:=List.drop_eq_nil_iff.2 (by omega)
  have c1:¬(i:Int)<(vs.length:Int):=by omega
  rw[e,rj]
  simp[sm,go_sem,c1,gk,ia hm (iN hm)]
 |succ k ihk =>
  intro i left m hk hf0 hf1 hm
  have hi:i<vs.length:=by omega
  have c1:(i:Int)<(vs.length:Int):=by omega
  obtain⟨c,hc,hcut⟩:=hr.get i hi
  have hv:vs[i]∈vs:=List.getElem_mem hi
  have hcall:=ih _ hv c (lvl+1) left id m hc (hok.mem hv) (by omega) (by omega) hf0 hf1 hm
  have hle:=tX vs[i] (lvl+1) left hf0
  have e1:IntKind.i64.wrap (lvl+1)=lvl+1:=w64 (by omega) (by omega)
  have e2:IntKind.i64.wrap ((i:Int)+1)=((i+1:Nat):Int):=by rw[w64 (by omega) (by omega)];rfl
  have hm':(al m id (bxI (fV vs[i] (lvl+1) left).2)).get id=bxI (fV vs[i] (lvl+1) left).2:=jm (iN hm) _
  have hstep:=ihk (i+1) (fV vs[i] (lvl+1) left).2 (al m id (bxI (fV vs[i] (lvl+1) left).2)) (by omega) hle.1 (by omega) hm'
  rw[ah] at hstep
  rw[List.drop_eq_getElem_cons hi]
  obtain⟨a,t,K,V,rfl,hK,hV,hKp,hVp⟩:=hc.cells
  have hcc:=fun (K2:IV→IM→Option (St⊕LR))=>ae hcall (by simp[go_sem,hK,hV]) K2
  rw[rj]
  generalize vs[i]=x at *
  by_cases g:(fV x (lvl+1) left).1=0
  ·have hc0:gk (x::vs.drop (i+1)) (lvl+1) left=gk (vs.drop (i+1)) (lvl+1) (fV x (lvl+1) left).2:=by rw[gk,if_neg (fun h=>h g)]
   rw[hc0,←hstep]
   simp only[sm,go_sem,c1,decide_true,if_true,au (zS hi),gF hcut,af hK,af hV,e1,hcc,g,e2,fS,bne_self_eq_false,Bool.false_eq_true,if_false]
   rfl
  ·have g':((fV x (lvl+1) left).1 != 0)=true:=by simpa using g
   have hc0:gk (x::vs.drop (i+1)) (lvl+1) left=fV x (lvl+1) left:=by rw[gk,if_pos g]
   rw[hc0,if_neg g]
   simp only[sm,go_sem,c1,decide_true,if_true,au (zS hi),gF hcut,af hK,af hV,e1,hcc,g']
theorem yN (v:Val):P54 v:=by
 intro c lvl left id m hR hO hl0 hl1 hf0 hf1 hm
 match v,hR,hO with
 |.mk k t ks vs,.mk (K:=K) (V:=V) hK hV,.mk h1 h2 h3 h4 h5 =>
  have hlt:id<m.size:=iN hm
  have ih:∀x,x∈vs→P54 x:=fun x hx=>yN x
  unfold fV
  apply AM
  unfold F54
  rw[af hK.refs,af hV.refs]
  simp only[bxI] at hm ⊢
  by_cases g0:left=0
  ·subst g0
   have:al m id (.cells [.int .i64 0] [.any])=m:=ia hm hlt
   simp[go_sem,du hm,dB,this,bm]
  ·have g0':(left==0)=false:=by simpa using g0
   have hw:IntKind.i64.wrap (left-1)=left-1:=w64 (by omega) (by omega)
   have hst:=fun (K:IM→Option (IV×IM))=>hF (m:=m) (id:=id) (off:=0) (vs:=[.int .i64 (left-1)]) (c:=.any) hm (r:=0) rfl (Nat.zero_le _) (Nat.le_refl _) K
   rw[show over [IV.int .i64 left] 0 [.int .i64 (left-1)]=[.int .i64 (left-1)] from rfl,show aB [Cap.any] 0 [IV.int .i64 (left-1)].length .any=[.any] from rfl] at hst
   by_cases g1:lvl>40
   ·simp[go_sem,du hm,dB,g0,g0',hw,hst,g1,aC]
   ·have h84:=F6 k t K V ks vs.length hK hV.toN h1 (by omega) h3 (al m id (.cells [.int .i64 (left-1)] [.any]))
    have hc:=fun (K2:IV→IM→Option (IV×IM))=>ae h84 (by simp[vc,go_sem,hK.refs,hV.refs]) K2
    simp only[vc] at hc
    by_cases g2:lI k t ks vs.length=0
    ·have hm':(al m id (bxI (left-1))).get id=bxI (left-1):=jm hlt _
     have hle:=pc vs (lvl+1) (left-1) (by omega)
     rw[if_neg g0,if_neg g1,if_neg (fun h=>h g2)]
     cases hV with
     |nil =>
      have g2:lI k t ks 0=0:=g2
      simp[go_sem,du hm,dB,g0,g0',hw,hst,g1,hc,g2,aC,au,fS,POp.ev,rj,sm,gk,evC]
     |sl hr hn =>
      subst hn
      have hL:=HC vs _ hr h4 (by omega) ih lvl id hl0 (by omega) vs.length 0 (left-1) (al m id (bxI (left-1))) (by omega) (by omega) (by omega) hm'
      rw[ah,List.drop_zero] at hL
      simp only[bxI] at hL
      rw[show ((0:Nat):Int)=0 from rfl] at hL
      have hlen:∀row,POp.ev .lenSlice [.sl row vs.length]=some (.int .i64 (vs.length:Int)):=fun _=>rfl
      by_cases g3:(gk vs (lvl+1) (left-1)).1=0
      ·rw[if_pos g3] at hL
       simp[go_sem,du hm,dB,g0,g0',hw,hst,g1,hc,g2,aC,au (hlen _),fS,hL,g3]
      ·rw[if_neg g3] at hL
       simp[go_sem,du hm,dB,g0,g0',hw,hst,g1,hc,g2,aC,au (hlen _),fS,hL]
    ·have g2':(lI k t ks vs.length != 0)=true:=by simpa using g2
     rw[if_neg g0,if_neg g1,if_pos g2]
     simp[go_sem,du hm,dB,g0,g0',hw,hst,g1,hc,g2,g2',aC]
termination_by SizeOf.sizeOf v
decreasing_by
 have:=List.sizeOf_lt_of_mem hx
 simp_wf
 omega
end Go.Idl
namespace Go.Idl
attribute [local go_sem] uV uI gI gS bO cE bw dM dp dV dS dO cI bV cZ bZ bX dQ cM bU dN bS bg bA bj bh aQ dR dT cK cQ dP dZ cY fy dK cS dY et dL dU cH cN cP bY cJ eB bT bC b8 bW cV bm aC a7 aD c9 c8 bJ bo bF ck bG cm bH ct List.flatMap_cons List.flatMap_nil
def P55 (v:Val):Prop:=∀(c:List IV) (lvl left:Int) (id:Nat) (m:IM),ValR v c→okV v→0≤lvl→lvl≤41→0≤left→left≤1000000→m.get id=bxI left →
  cw (.f 55) [.pB id 0,.agg c,.int .i64 lvl] m=some (.int .i64 (fV v lvl left).1,al m id (bxI (fV v lvl left).2))
theorem GH (kk:Int) (t:List UInt8) (KK:IV) (vs:List Val) (row:List IV) (hr:RowR vs row) (hok:okL vs) (hn:vs.length≤1099511627776) (ih:∀v,v∈vs→P55 v) (lvl:Int) (id:Nat) (hl0:0≤lvl) (hl1:lvl≤40):∀(k i:Nat) (left:Int) (m:IM),vs.length=i+k→0≤left→left≤1000000→m.get id=bxI left →
  AO id lvl i kk t KK (.sl row vs.length) m=some (if (gk (vs.drop i) (lvl+1) left).1=0 then (.exit 0,[],[],al m id (bxI (gk (vs.drop i) (lvl+1) left).2)) else (.ret,[.int .i64 (gk (vs.drop i) (lvl+1) left).1],[],al m id (bxI (gk (vs.drop i) (lvl+1) left).2))):=by
 have hlen:POp.ev .lenSlice [.sl row vs.length]=some (.int .i64 (vs.length:Int)):=rfl
 intro k
 induction k with
 |zero =>
  intro i left m hk hf0 hf1 hm
  have e:vs.drop i=[]:=List.drop_eq_nil_iff.2 (by omega)
  have c1:¬(i:Int)<(vs.length:Int):=by omega
  rw[e,qJ]
  simp[sX,go_sem,c1,gk,ia hm (iN hm),au hlen]
 |succ k ihk =>
  intro i left m hk hf0 hf1 hm
  have hi:i<vs.length:=by omega
  have c1:(i:Int)<(vs.length:Int):=by omega
  obtain⟨c,hc,hcut⟩:=hr.get i hi
  have hv:vs[i]∈vs:=List.getElem_mem hi
  have hcall:=ih _ hv c (lvl+1) left id m hc (hok.mem hv) (by omega) (by omega) hf0 hf1 hm
  have hle:=tX vs[i] (lvl+1) left hf0
  have e1:IntKind.i64.wrap (lvl+1)=lvl+1:=w64 (by omega) (by omega)
  have e2:IntKind.i64.wrap ((i:Int)+1)=((i+1:Nat):Int):=by rw[w64 (by omega) (by omega)];rfl
  have hm':(al m id (bxI (fV vs[i] (lvl+1) left).2)).get id=bxI (fV vs[i] (lvl+1) left).2:=jm (iN hm) _
  have hstep:=ihk (i+1) (fV vs[i] (lvl+1) left).2 (al m id (bxI (fV vs[i] (lvl+1) left).2)) (by omega) hle.1 (by omega) hm'
  rw[ah] at hstep
  rw[List.drop_eq_getElem_cons hi]
  obtain⟨a,t,K,V,rfl,hK,hV,hKp,hVp⟩:=hc.cells
  have hcc:=fun (K2:IV→IM→Option (St⊕LR))=>ae hcall (by simp[go_sem,hK,hV]) K2
  rw[qJ]
  generalize vs[i]=x at *
  by_cases g:(fV x (lvl+1) left).1=0
  ·have hc0:gk (x::vs.drop (i+1)) (lvl+1) left=gk (vs.drop (i+1)) (lvl+1) (fV x (lvl+1) left).2:=by rw[gk,if_neg (fun h=>h g)]
   rw[hc0,←hstep]
   simp only[sX,go_sem,c1,decide_true,if_true,au hlen,au (zS hi),gF hcut,af hK,af hV,e1,hcc,g,e2,fS,bne_self_eq_false,Bool.false_eq_true,if_false]
   rfl
  ·have g':((fV x (lvl+1) left).1 != 0)=true:=by simpa using g
   have hc0:gk (x::vs.drop (i+1)) (lvl+1) left=fV x (lvl+1) left:=by rw[gk,if_pos g]
   rw[hc0,if_neg g]
   simp only[sX,go_sem,c1,decide_true,if_true,au hlen,au (zS hi),gF hcut,af hK,af hV,e1,hcc,g']
theorem yQ (v:Val):P55 v:=by
 intro c lvl left id m hR hO hl0 hl1 hf0 hf1 hm
 match v,hR,hO with
 |.mk k t ks vs,.mk (K:=K) (V:=V) hK hV,.mk h1 h2 h3 h4 h5 =>
  have hlt:id<m.size:=iN hm
  have ih:∀x,x∈vs→P55 x:=fun x hx=>yQ x
  unfold fV
  apply B5
  unfold F55
  rw[af hK.refs,af hV.refs]
  simp only[bxI] at hm ⊢
  by_cases g0:left=0
  ·subst g0
   have:al m id (.cells [.int .i64 0] [.any])=m:=ia hm hlt
   simp[go_sem,du hm,dB,this,bm]
  ·have g0':(left==0)=false:=by simpa using g0
   have hw:IntKind.i64.wrap (left-1)=left-1:=w64 (by omega) (by omega)
   have hst:=fun (K:IM→Option (IV×IM))=>hF (m:=m) (id:=id) (off:=0) (vs:=[.int .i64 (left-1)]) (c:=.any) hm (r:=0) rfl (Nat.zero_le _) (Nat.le_refl _) K
   rw[show over [IV.int .i64 left] 0 [.int .i64 (left-1)]=[.int .i64 (left-1)] from rfl,show aB [Cap.any] 0 [IV.int .i64 (left-1)].length .any=[.any] from rfl] at hst
   by_cases g1:lvl>40
   ·simp[go_sem,du hm,dB,g0,g0',hw,hst,g1,aC]
   ·have h84:=HE k t K V ks vs.length hK hV.toN h1 (by omega) h3 (al m id (.cells [.int .i64 (left-1)] [.any]))
    have hc:=fun (K2:IV→IM→Option (IV×IM))=>ae h84 (by simp[vc,go_sem,hK.refs,hV.refs]) K2
    simp only[vc] at hc
    by_cases g2:lI k t ks vs.length=0
    ·have hm':(al m id (bxI (left-1))).get id=bxI (left-1):=jm hlt _
     have hle:=pc vs (lvl+1) (left-1) (by omega)
     rw[if_neg g0,if_neg g1,if_neg (fun h=>h g2)]
     cases hV with
     |nil =>
      have g2:lI k t ks 0=0:=g2
      simp[go_sem,du hm,dB,g0,g0',hw,hst,g1,hc,g2,aC,au,fS,POp.ev,qJ,sX,gk,evC]
     |sl hr hn =>
      subst hn
      have hL:=GH k t K vs _ hr h4 (by omega) ih lvl id hl0 (by omega) vs.length 0 (left-1) (al m id (bxI (left-1))) (by omega) (by omega) (by omega) hm'
      rw[ah,List.drop_zero] at hL
      simp only[bxI] at hL
      rw[show ((0:Nat):Int)=0 from rfl] at hL
      by_cases g3:(gk vs (lvl+1) (left-1)).1=0
      ·rw[if_pos g3] at hL
       simp[go_sem,du hm,dB,g0,g0',hw,hst,g1,hc,g2,aC,fS,hL,g3]
      ·rw[if_neg g3] at hL
       simp[go_sem,du hm,dB,g0,g0',hw,hst,g1,hc,g2,aC,fS,hL]
    ·have g2':(lI k t ks vs.length != 0)=true:=by simpa using g2
     rw[if_neg g0,if_neg g1,if_pos g2]
     simp[go_sem,du hm,dB,g0,g0',hw,hst,g1,hc,g2,g2',aC]
termination_by SizeOf.sizeOf v
decreasing_by
 have:=List.sizeOf_lt_of_mem hx
 simp_wf
 omega
def iY (v:Val):Int:=(fV v 1 2000).1
theorem D5 (v:Val) (c:List IV) (m:IM) (hR:ValR v c) (hO:okV v):cw (.f 25) [.agg c] m=some (.int .i64 (iY v),m):=by
 obtain⟨k,t,K,V,rfl,hK,hV,hKp,hVp⟩:=hR.cells
 apply Br
 have h:=yN v _ 1 2000 m.size (bP m (bxI 2000)) hR hO (by omega) (by omega) (by omega) (by omega) (jd _ _)
 have hc:=fun (K2:IV→IM→Option (IV×IM))=>ae h (by simp[go_sem,hK,hV]) K2
 simp only[bxI,dd] at hc
 have hst:=fun (K2:IM→Option (IV×IM))=>hF (m:=bP m (bxI 0)) (id:=m.size) (off:=0) (vs:=[.int .i64 2000]) (c:=.any) (jd _ _) (r:=0) rfl (Nat.zero_le _) (Nat.le_refl _) K2
 rw[dd,show over [IV.int .i64 0] 0 [.int .i64 2000]=[.int .i64 2000] from rfl,show aB [Cap.any] 0 [IV.int .i64 2000].length .any=[.any] from rfl] at hst
 simp only[bxI] at hst
 simp[F25,go_sem,af hK,af hV,hst,hc,dH,iY]
theorem CG (v:Val) (c:List IV) (m:IM) (hR:ValR v c) (hO:okV v):cw (.f 26) [.agg c] m=some (.int .i64 (iY v),m):=by
 obtain⟨k,t,K,V,rfl,hK,hV,hKp,hVp⟩:=hR.cells
 apply B3
 have h:=yQ v _ 1 2000 m.size (bP m (bxI 2000)) hR hO (by omega) (by omega) (by omega) (by omega) (jd _ _)
 have hc:=fun (K2:IV→IM→Option (IV×IM))=>ae h (by simp[go_sem,hK,hV]) K2
 simp only[bxI,dd] at hc
 simp[F26,go_sem,af hK,af hV,hc,dH,iY]
end Go.Idl
namespace Go.Idl
attribute [local go_sem] uV uI gI gS bO cE bw dM dp dV dS dO cI bV cZ bZ bX dQ cM bU dN bS bg bA bj bh aQ dR dT cK cQ dP dZ cY fy dK cS dY et dL dU cH cN cP bY cJ eB bT bC b8 bW cV bm aC a7 aD c9 c8 bJ bo bF ck bG cm bH ct List.flatMap_cons List.flatMap_nil
def rdP (s:List UInt8) (a bad e:Int):BObj:=.cells [.int .i64 a,.int .i64 bad,.int .i64 e,.str s] [.any,.any,.any,.any]
section
variable {R:Type}{m:IM}{id:Nat}{s:List UInt8}{a bad e:Int}
theorem eH (h:m.get id=rdP s a bad e) (K:Int→Option R):(gr m id fun l0 _=>eK false l0 0 1 fun v=>asI .i64 v K)=K a:=by
 rw[du h];simp[eK,bw]
theorem tT (h:m.get id=rdP s a bad e) (K:Int→Option R):(gr m id fun l0 _=>eK false l0 1 1 fun v=>asI .i64 v K)=K bad:=by
 rw[du h];simp[eK,bw]
theorem gq (h:m.get id=rdP s a bad e) (K:Int→Option R):(gr m id fun l0 _=>eK false l0 2 1 fun v=>asI .i64 v K)=K e:=by
 rw[du h];simp[eK,bw]
theorem gu (h:m.get id=rdP s a bad e) (K:List UInt8→Option R):(gr m id fun l0 _=>eK false l0 3 1 fun v=>asS v K)=K s:=by
 rw[du h];simp[eK,dp]
theorem vl (h:m.get id=rdP s a bad e) (x:Int) (K:IM→Option R):stP m (.pB id 0) [.int .i64 x] .any K=K (al m id (rdP s x bad e)):=by
 rw[hF h (r:=0) rfl (Nat.zero_le _) (by simp)];rfl
theorem Jv (h:m.get id=rdP s a bad e) (x:Int) (K:IM→Option R):stP m (.pB id 1) [.int .i64 x] .any K=K (al m id (rdP s a x e)):=by
 rw[hF h (r:=0) rfl (Nat.zero_le _) (by simp)];rfl
theorem LM (h:m.get id=rdP s a bad e) (x:Int) (K:IM→Option R):stP m (.pB id 2) [.int .i64 x] .any K=K (al m id (rdP s a bad x)):=by
 rw[hF h (r:=0) rfl (Nat.zero_le _) (by simp)];rfl
theorem BG (h:m.get id=rdP s a bad e):id<m.size:=iN h
theorem bD {a' bad' e':Int}(h:m.get id=rdP s a bad e):(al m id (rdP s a' bad' e')).get id=rdP s a' bad' e':=jm (BG h) _
theorem iy (h:m.get id=rdP s a bad e):al m id (rdP s a bad e)=m:=ia h (BG h)
end
theorem iP {s:List UInt8}{i:Nat}{c:UInt8}(h:s[i]?=some c):POp.ev .idxStr [.str s,.int .i64 (i:Int)]=some (.int .u8 (c.toNat:Int)):=by
 have c2:(0:Int)≤(i:Int):=by omega
 simp[POp.ev,c2,h]
theorem ya {c d:UInt8}:((c.toNat:Int) != (d.toNat:Int))=!(c==d):=by
 by_cases h:c=d
 ·subst h;simp
 ·have h1:(c==d)=false:=by simpa using h
  have h2:c.toNat≠d.toNat:=fun e=>h (UInt8.toNat_inj.1 e)
  rw[h1];simp;omega
theorem sN {c d:UInt8}:((c.toNat:Int)==(d.toNat:Int))=(c==d):=by
 by_cases h:c=d
 ·subst h;simp
 ·have h1:(c==d)=false:=by simpa using h
  have h2:c.toNat≠d.toNat:=fun e=>h (UInt8.toNat_inj.1 e)
  rw[h1];simp;omega
theorem jW (s:List UInt8) (a:Nat) (bad e:Int) (c:UInt8) (id:Nat) (m:IM) (ha:a≤1099511627776) (hm:m.get id=rdP s a bad e) :
  cw (.f 97) [.pB id 0,.int .u8 (c.toNat:Int)] m=if e=0∧s[a]?=some c then some (.bool true,al m id (rdP s (a+1:Nat) bad e)) else some (.bool false,m):=by
 have hw:IntKind.i64.wrap ((a:Int)+1)=((a+1:Nat):Int):=by rw[w64 (by omega) (by omega)];rfl
 by_cases h0:e=0
 ·cases hs:s[a]? with
  |none =>
   have hge:=List.getElem?_eq_none_iff.1 hs
   have c1:(s.length:Int)≤(a:Int):=by omega
   rw[if_neg (by simp)]
   apply mj
   simp[F97,qP,go_sem,gq hm,eH hm,gu hm,h0,c1]
  |some d =>
   have hlt:=aZ hs
   have c1:¬(s.length:Int)≤(a:Int):=by omega
   by_cases hd:d=c
   ·subst hd
    rw[if_pos ⟨h0,rfl⟩]
    apply mj
    simp[F97,qP,go_sem,gq hm,eH hm,gu hm,h0,c1,au (iP hs),vl hm,hw]
   ·have hd':(d==c)=false:=by simpa using hd
    rw[if_neg (by simp[hd])]
    apply mj
    have hne:=ya (c:=d) (d:=c)
    rw[hd'] at hne
    simp[F97,qP,go_sem,gq hm,eH hm,gu hm,h0,c1,au (iP hs),hne]
 ·have h0':(e != 0)=true:=by simpa using h0
  rw[if_neg (fun h=>h0 h.1)]
  apply mj
  simp[F97,qP,go_sem,gq hm,eH hm,gu hm,h0,h0']
def dz:IV:=.agg [.int .i64 0,.str [],.nilSlice,.nilSlice]
def iG (bad e at_ c:Int):Int×Int:=if e=0 then (at_,c) else (bad,e)
theorem rK (s:List UInt8) (a bad e at_ c:Int) (id:Nat) (m:IM) (hm:m.get id=rdP s a bad e) :
  cw (.f 72) [.pB id 0,.int .i64 at_,.int .i64 c] m=some (dz,al m id (rdP s a (iG bad e at_ c).1 (iG bad e at_ c).2)):=by
 apply Cy
 unfold iG
 by_cases h0:e=0
 ·have h0':(e==0)=true:=by simpa using h0
  subst h0
  simp[F72,wJ,go_sem,gq hm,Jv hm,LM (bD hm),ah,dz]
 ·have h0':(e==0)=false:=by simpa using h0
  simp[F72,wJ,go_sem,gq hm,h0,h0',dz,iy hm]
theorem kN (s:List UInt8) (a bad e:Int) (id:Nat) (m:IM) (hm:m.get id=rdP s a bad e) :
  cw (.f 45) [.pB id 0] m=some (dz,al m id (rdP s a (iG bad e a 19).1 (iG bad e a 19).2)):=by
 apply Cx
 have h:=rK s a bad e a 19 id m hm
 have hc:=fun (K2:IV→IM→Option (IV×IM))=>ae h (by simp[go_sem]) K2
 simp[F45,go_sem,eH hm,hc,dz,af]
def wM (c:UInt8):Bool:=c==32||c==9||c==10||c==13
def tG (s:List UInt8):Nat→Nat→Nat
 |0,a=>a
 |k+1,a=>match s[a]? with
  |some c=>if wM c then tG s k (a+1) else a
  |none=>a
def blk (s:List UInt8) (a:Nat):Nat:=tG s (s.length+1-a) a
end Go.Idl
namespace Go.Idl
attribute [local go_sem] uV uI gI gS bO cE bw dM dp dV dS dO cI bV cZ bZ bX dQ cM bU dN bS bg bA bj bh aQ dR dT cK cQ dP dZ cY fy dK cS dY et dL dU cH cN cP bY cJ eB bT bC b8 bW cV bm aC a7 aD c9 c8 bJ bo bF ck bG cm bH ct List.flatMap_cons List.flatMap_nil
theorem Ej (s:List UInt8) (c:UInt8) (m:IM):cw (.f 123) [.str s,.int .u8 (c.toNat:Int)] m=some (.int .i64 (gY c s 0),m):=by
 unfold cw
 rw[wO (p:=iF) rfl]
 simp[iF]
theorem Bk (s:List UInt8) (c:UInt8) (m:IM):cw (.f 75) [.str s,.int .u8 (c.toNat:Int)] m=some (.int .i64 (gY c s 0),m):=by
 have h1:cw (.f 101) [.str s,.int .u8 (c.toNat:Int)] m=some (.int .i64 (gY c s 0),m):=by
  apply zv
  have hc:=fun (K2:IV→IM→Option (IV×IM))=>ae (Ej s c m) (by simp[go_sem]) K2
  simp[HS,go_sem,hc]
 apply B8
 have hc:=fun (K2:IV→IM→Option (IV×IM))=>ae h1 (by simp[go_sem]) K2
 simp[F75,go_sem,hc]
theorem F3 (c:UInt8):decide (0≤gY c [32,9,10,13] 0)=wM c:=by
 have:∀n,n<256→decide (0≤gY (UInt8.ofNat n) [32,9,10,13] 0)=wM (UInt8.ofNat n):=by decide +kernel
 have h:=this c.toNat c.toNat_lt
 simpa using h
def zk (s:List UInt8) (a:Nat):Bool:=match s[a]? with
 |some c=>wM c
 |none=>false
theorem C44 (s:List UInt8) (a:Nat) (bad e:Int) (id:Nat) (m:IM) (hm:m.get id=rdP s a bad e):tU id m=some (.normal,[.pB id 0,.bool (zk s a)],[],m):=by
 unfold zk
 cases hs:s[a]? with
 |none =>
  have hge:=List.getElem?_eq_none_iff.1 hs
  have c1:¬(a:Int)<(s.length:Int):=by omega
  simp[tU,go_sem,eH hm,gu hm,c1]
 |some c =>
  have hlt:=aZ hs
  have c1:(a:Int)<(s.length:Int):=by omega
  have hc:=fun (K2:IV→IM→Option LR)=>ae (Bk [32,9,10,13] c m) (by simp[go_sem]) K2
  have hb:=F3 c
  simp[tU,go_sem,eH hm,gu hm,c1,au (iP hs),hc,hb]
theorem L44 (s:List UInt8) (hs:s.length≤1099511627776) (bad e:Int) (id:Nat):∀(k a:Nat) (m:IM),s.length<a+k→a≤s.length→m.get id=rdP s a bad e →
  xY id m=some (.exit 0,[],[],al m id (rdP s (tG s k a:Nat) bad e)):=by
 intro k
 induction k with
 |zero=>intro a m h;omega
 |succ k ih =>
  intro a m hk ha hm
  have hC:=C44 s a bad e id m hm
  rw[B6]
  unfold tG
  unfold zk at hC
  cases hq:s[a]? with
  |none =>
   rw[hq] at hC
   simp[vT,go_sem,hC,iy hm]
  |some c =>
   have hlt:=aZ hq
   rw[hq] at hC
   simp only at hC ⊢
   cases hb:wM c with
   |false =>
    rw[hb] at hC
    simp[vT,go_sem,hC,iy hm]
   |true =>
    rw[hb] at hC
    have hw:IntKind.i64.wrap ((a:Int)+1)=((a+1:Nat):Int):=by rw[w64 (by omega) (by omega)];rfl
    have h:=ih (a+1) (al m id (rdP s (a+1:Nat) bad e)) (by omega) (by omega) (bD hm)
    rw[ah] at h
    generalize hj:a+1=j at *
    simp[vT,go_sem,hC,eH hm,vl hm,hw]
    rw[xm]
    exact h
theorem AQ (s:List UInt8) (hs:s.length≤1099511627776) (a:Nat) (ha:a≤s.length) (bad e:Int) (id:Nat) (m:IM) (hm:m.get id=rdP s a bad e) :
  cw (.f 44) [.pB id 0] m=some (.tup [],al m id (rdP s (blk s a:Nat) bad e)):=by
 apply B4
 have h:=L44 s hs bad e id (s.length+1-a) a m (by omega) ha hm
 simp[F44,go_sem,h,blk]
theorem yd (s:List UInt8):∀(k a:Nat),a≤s.length→a≤tG s k a∧tG s k a≤s.length
 |0,a,h=>⟨Nat.le_refl _,h⟩
 |k+1,a,h=>by
  unfold tG
  cases hq:s[a]? with
  |none=>exact⟨Nat.le_refl _,h⟩
  |some c =>
   simp only
   split
   ·have:=yd s k (a+1) (aZ hq);omega
   ·exact⟨Nat.le_refl _,h⟩
theorem cz {s:List UInt8}{a:Nat}(h:a≤s.length):a≤blk s a∧blk s a≤s.length:=yd s _ a h
inductive Rd (α:Type) where
 |ok (x:α) (a:Nat)
 |err (b:Nat) (c:Int)
def nW (c:UInt8):Int:=if 15<gY c [48,49,50,51,52,53,54,55,56,57,97,98,99,100,101,102,65,66,67,68,69,70] 0 then gY c [48,49,50,51,52,53,54,55,56,57,97,98,99,100,101,102,65,66,67,68,69,70] 0-6 else gY c [48,49,50,51,52,53,54,55,56,57,97,98,99,100,101,102,65,66,67,68,69,70] 0
theorem yZ (c:UInt8):-1≤nW c∧nW c≤15:=by
 have:∀n,n<256→-1≤nW (UInt8.ofNat n)∧nW (UInt8.ofNat n)≤15:=by decide +kernel
 have h:=this c.toNat c.toNat_lt
 simpa using h
def gC (s:List UInt8):Nat→Nat→Int→Rd Int
 |0,a,n=>.ok n a
 |k+1,a,n=>match s[a]? with
  |some c=>if nW c<0 then .err a 19 else gC s k (a+1) (16*n+nW c)
  |none=>.err a 19
theorem Ln (s:List UInt8) (a:Nat) (bad e n n1:Int) (id:Nat) (m:IM) (hm:m.get id=rdP s a bad e) :
  o4 id n (-1) n1 m=some (.normal,[.pB id 0,.int .i64 n,.int .i64 (match s[a]? with | some c=>gY c [48,49,50,51,52,53,54,55,56,57,97,98,99,100,101,102,65,66,67,68,69,70] 0 | none=>-1),.int .i64 n1],[],m):=by
 cases hs:s[a]? with
 |none =>
  have hge:=List.getElem?_eq_none_iff.1 hs
  have c1:¬(a:Int)<(s.length:Int):=by omega
  simp[o4,go_sem,eH hm,gu hm,c1]
 |some c =>
  have hlt:=aZ hs
  have c1:(a:Int)<(s.length:Int):=by omega
  have hc:=fun (K2:IV→IM→Option LR)=>ae (Bk [48,49,50,51,52,53,54,55,56,57,97,98,99,100,101,102,65,66,67,68,69,70] c m) (by simp[go_sem]) K2
  simp[o4,go_sem,eH hm,gu hm,c1,au (iP hs),hc]
theorem EE (n d n1:Int) (hd:-10≤d∧d≤100) (id:Nat) (m:IM):uu id n d n1 m=some (.normal,[.pB id 0,.int .i64 n,.int .i64 (if 15<d then d-6 else d),.int .i64 n1],[],m):=by
 have hw:IntKind.i64.wrap (d-6)=d-6:=w64 (by omega) (by omega)
 by_cases h:15<d<;>simp[uu,go_sem,h,hw]
theorem Lh (s:List UInt8) (hs:s.length≤1099511627776) (id:Nat):∀(k i:Nat) (a:Nat) (n bad:Int) (m:IM),4=i+k→a≤s.length→0≤n→n<16^i→m.get id=rdP s a bad 0 →
  match gC s k a n with
  |.ok x a'=>qt id n i m=some (.exit 0,[.int .i64 x],[],al m id (rdP s a' bad 0))∧a'=a+k∧a'≤s.length∧0≤x∧x<65536
  |.err b c=>qt id n i m=some (.ret,[.int .i64 0],[],al m id (rdP s b b c)):=by
 intro k
 induction k with
 |zero =>
  intro i a n bad m hk ha hn0 hn1 hm
  have hi:i=4:=by omega
  subst hi
  simp only[gC]
  refine⟨?_,rfl,ha,hn0,by simpa using hn1⟩
  rw[sY]
  simp[lR,go_sem,iy hm]
 |succ k ih =>
  intro i a n bad m hk ha hn0 hn1 hm
  have c1:(i:Int)<4:=by omega
  have hC:=Ln s a bad 0 n i id m hm
  have hp:(16:Int)^i≤16^3:=by
   have:i≤3:=by omega
   have h:=Nat.pow_le_pow_right (n:=16) (by omega) this
   exact_mod_cast h
  rw[sY]
  have hwr:=kN s a bad 0 id m hm
  have hcw:=fun (K2:IV→IM→Option (St⊕LR))=>ae hwr (by simp[go_sem]) K2
  simp only[iG,if_true,dz] at hcw
  unfold gC
  cases hq:s[a]? with
  |none =>
   rw[hq] at hC
   simp only at hC ⊢
   have hCb:=EE n (-1) i (by omega) id m
   simp[lR,go_sem,c1,hC,hCb,hcw]
  |some c =>
   rw[hq] at hC
   simp only at hC ⊢
   have hlt:=aZ hq
   have hx:=yZ c
   have hbd:∀c:UInt8,-10≤gY c [48,49,50,51,52,53,54,55,56,57,97,98,99,100,101,102,65,66,67,68,69,70] 0∧gY c [48,49,50,51,52,53,54,55,56,57,97,98,99,100,101,102,65,66,67,68,69,70] 0≤100:=by
    intro c
    have:∀n,n<256→-10≤gY (UInt8.ofNat n) [48,49,50,51,52,53,54,55,56,57,97,98,99,100,101,102,65,66,67,68,69,70] 0∧gY (UInt8.ofNat n) [48,49,50,51,52,53,54,55,56,57,97,98,99,100,101,102,65,66,67,68,69,70] 0≤100:=by decide +kernel
    have h:=this c.toNat c.toNat_lt
    simpa using h
   have hCb:=EE n _ i (hbd c) id m
   rw[show (if 15<gY c [48,49,50,51,52,53,54,55,56,57,97,98,99,100,101,102,65,66,67,68,69,70] 0 then gY c [48,49,50,51,52,53,54,55,56,57,97,98,99,100,101,102,65,66,67,68,69,70] 0-6 else gY c [48,49,50,51,52,53,54,55,56,57,97,98,99,100,101,102,65,66,67,68,69,70] 0)=nW c from rfl] at hCb
   generalize gY c [48,49,50,51,52,53,54,55,56,57,97,98,99,100,101,102,65,66,67,68,69,70] 0=D at *
   generalize nW c=d at *
   by_cases h0:d<0
   ·rw[if_pos h0]
    simp[lR,go_sem,c1,hC,hCb,hcw,h0]
   ·rw[if_neg h0]
    have hpow:(16:Int)^(i+1)=16*16^i:=by rw[Int.pow_succ];omega
    have h:=ih (i+1) (a+1) (16*n+d) bad (al m id (rdP s (a+1:Nat) bad 0)) (by omega) (by omega) (by omega) (by omega) (bD hm)
    simp only[ah] at h
    have hw1:IntKind.i64.wrap ((a:Int)+1)=((a+1:Nat):Int):=by rw[w64 (by omega) (by omega)];rfl
    have hw2:IntKind.i64.wrap ((i:Int)+1)=((i+1:Nat):Int):=by rw[w64 (by omega) (by omega)];rfl
    have hw3:IntKind.i64.wrap (16*n)=16*n:=w64 (by omega) (by omega)
    have hw4:IntKind.i64.wrap (16*n+d)=16*n+d:=w64 (by omega) (by omega)
    have step:nxt ug (lR id n i m)=qt id (16*n+d) ((i+1:Nat):Int) (al m id (rdP s (a+1:Nat) bad 0)):=by
     generalize hj:a+1=j at *
     generalize hi':i+1=i' at *
     simp[lR,go_sem,c1,hC,hCb,h0,eH hm,vl hm,hw1,hw2,hw3,hw4]
     rfl
    rw[step]
    cases hx2:gC s k (a+1) (16*n+d) with
    |ok x a' =>
     rw[hx2] at h
     simp only at h ⊢
     exact⟨h.1,by omega,h.2.2.1,h.2.2.2⟩
    |err b c=>rw[hx2] at h;exact h
theorem AJ (s:List UInt8) (hs:s.length≤1099511627776) (id:Nat) (a:Nat) (bad:Int) (m:IM) (ha:a≤s.length) (hm:m.get id=rdP s a bad 0) :
  match gC s 4 a 0 with
  |.ok x a'=>cw (.f 121) [.pB id 0] m=some (.int .i64 x,al m id (rdP s a' bad 0))∧a'=a+4∧a'≤s.length∧0≤x∧x<65536
  |.err b c=>cw (.f 121) [.pB id 0] m=some (.int .i64 0,al m id (rdP s b b c)):=by
 have h:=Lh s hs id 4 0 a 0 bad m rfl ha (by omega) (by simp) hm
 rw[show ((0:Nat):Int)=0 from rfl] at h
 cases hx:gC s 4 a 0 with
 |ok x a' =>
  rw[hx] at h
  simp only at h ⊢
  refine⟨?_,h.2⟩
  apply sT
  simp[CS,go_sem,h.1]
 |err b c =>
  rw[hx] at h
  simp only at h ⊢
  apply sT
  simp[CS,go_sem,h]
end Go.Idl
namespace Go.Idl
attribute [local go_sem] uV uI gI gS bO cE bw dM dp dV dS dO cI bV cZ bZ bX dQ cM bU dN bS bg bA bj bh aQ dR dT cK cQ dP dZ cY fy dK cS dY et dL dU cH cN cP bY cJ eB bT bC b8 bW cV bm aC a7 aD c9 c8 bJ bo bF ck bG cm bH ct List.flatMap_cons List.flatMap_nil
def eS (s:List UInt8):List UInt8→Nat→Rd Unit
 |[],a=>.ok () a
 |c::r,a=>if s[a]?=some c then eS s r (a+1) else .err a 19
def bxV (k:Int) (t:List UInt8):BObj:=.cells [.int .i64 k,.str t,.nilSlice,.nilSlice] [.any,.any,.any,.any]
def bxW (k:Int) (t:List UInt8):BObj:=.cells [.int .i64 k,.str t,.nilSlice,.nilSlice] [.any,.any,.own 1,.own 4]
theorem LS (s:List UInt8) (hs:s.length≤1099511627776) (w:List UInt8) (hw:∀k (h:k<w.length),Utf8.decode ⟨⟨w⟩⟩ k=((w[k].toNat,1):Nat×Nat)) (vk:Int) (vt:List UInt8) (id:Nat) (bad:Int):∀(j k a:Nat) (m:IM),w.length=k+j→a≤s.length→m.get id=rdP s a bad 0 →
  match eS s (w.drop k) a with
  |.ok _ a'=>vV id vk vt .nilSlice .nilSlice 0 [] .nilSlice .nilSlice w k m=some (.exit 0,[],[bxV vk vt,bxW 0 []],al m id (rdP s a' bad 0))∧a'≤s.length
  |.err b c=>vV id vk vt .nilSlice .nilSlice 0 [] .nilSlice .nilSlice w k m=some (.ret,[],[bxV 0 []],al m id (rdP s b b c)):=by
 intro j
 induction j with
 |zero =>
  intro k a m hk ha hm
  have e:w.drop k=[]:=List.drop_eq_nil_iff.2 (by omega)
  have c1:¬k<w.length:=by omega
  rw[e]
  simp only[eS]
  refine⟨?_,ha⟩
  rw[uZ]
  simp[sI,tF,go_sem,c1,iy hm,bxV,bxW]
 |succ j ih =>
  intro k a m hk ha hm
  have hlt:k<w.length:=by omega
  have hd:=hw k hlt
  rw[List.drop_eq_getElem_cons hlt]
  have hsk:=jW s a bad 0 w[k] id m (by omega) hm
  have hu:IntKind.u8.wrap ((w[k].toNat:Nat):Int)=(w[k].toNat:Int):=w8 (by omega) (by have:=w[k].toNat_lt;omega)
  generalize w[k]=c at *
  rw[uZ]
  unfold eS
  by_cases g:s[a]?=some c
  ·rw[if_pos ⟨rfl,g⟩] at hsk
   rw[if_pos g]
   have hcc:=fun (K2:IV→IM→Option (St⊕LR))=>ae hsk (by simp[go_sem]) K2
   have hlt2:=aZ g
   have h:=ih (k+1) (a+1) (al m id (rdP s (a+1:Nat) bad 0)) (by omega) (by omega) (bD hm)
   simp only[ah] at h
   have step:nxt yH (sI id vk vt .nilSlice .nilSlice 0 [] .nilSlice .nilSlice w k m)=vV id vk vt .nilSlice .nilSlice 0 [] .nilSlice .nilSlice w (k+1) (al m id (rdP s (a+1:Nat) bad 0)):=by
    generalize hj:a+1=j' at *
    simp[sI,tF,go_sem,hlt,hd,evC,POp.ev,hu,hcc]
    rfl
   rw[step]
   exact h
  ·rw[if_neg (fun h=>g h.2)] at hsk
   rw[if_neg g]
   have hcc:=fun (K2:IV→IM→Option (St⊕LR))=>ae hsk (by simp[go_sem]) K2
   have hwr:=kN s a bad 0 id m hm
   have hcw:=fun (K2:IV→IM→Option (St⊕LR))=>ae hwr (by simp[go_sem]) K2
   simp only[iG,if_true,dz] at hcw
   simp[sI,tF,go_sem,hlt,hd,evC,POp.ev,hu,hcc,hcw,af,bxV]
theorem ID (s:List UInt8) (hs:s.length≤1099511627776) (w:List UInt8) (hw:∀k (h:k<w.length),Utf8.decode ⟨⟨w⟩⟩ k=((w[k].toNat,1):Nat×Nat)) (vk:Int) (vt:List UInt8) (id:Nat) (bad:Int) (a:Nat) (m:IM) (ha:a≤s.length) (hm:m.get id=rdP s a bad 0) :
  match eS s w a with
  |.ok _ a'=>cw (.f 70) [.pB id 0,.str w,.agg [.int .i64 vk,.str vt,.nilSlice,.nilSlice]] m=some (.agg [.int .i64 vk,.str vt,.nilSlice,.nilSlice],al m id (rdP s a' bad 0))∧a'≤s.length
  |.err b c=>cw (.f 70) [.pB id 0,.str w,.agg [.int .i64 vk,.str vt,.nilSlice,.nilSlice]] m=some (dz,al m id (rdP s b b c)):=by
 have h:=LS s hs w hw vk vt id bad w.length 0 a m (by omega) ha hm
 rw[List.drop_zero] at h
 cases hx:eS s w a with
 |ok x a' =>
  rw[hx] at h
  refine⟨?_,h.2⟩
  apply uT
  simp[F70,go_sem,h.1,af,bxV,bxW]
 |err b c =>
  rw[hx] at h
  simp only at h
  apply uT
  simp[F70,go_sem,h,af,bxV,dz]
def shT:List (UInt8×UInt8):=[(34,34),(92,92),(47,47),(98,8),(102,12),(110,10),(114,13),(116,9)]
def pz (l:List (UInt8×UInt8)) (c:Option UInt8):Option UInt8:=match l with
 |[]=>none
 |p::r=>if c=some p.1 then some p.2 else pz r c
theorem IH:∀i,i<8→POp.ev (.idxArr 8 true 2) [.agg [.int .u8 34,.int .u8 34,.int .u8 92,.int .u8 92,.int .u8 47,.int .u8 47,.int .u8 98,.int .u8 8,.int .u8 102,.int .u8 12,.int .u8 110,.int .u8 10,.int .u8 114,.int .u8 13,.int .u8 116,.int .u8 9],.int .i64 (i:Nat)]=some (.agg [.int .u8 ((shT.getD i (0,0)).1.toNat:Int),.int .u8 ((shT.getD i (0,0)).2.toNat:Int)]):=by
 intro i hi
 rcases i with _ | _ | _ | _ | _ | _ | _ | _ | i<;>first | rfl | omega
theorem Ds:∀i,i<8→(Utf8.encode (IntKind.i32.wrap ((shT.getD i (0,0)).2.toNat:Int))).data.toList=[(shT.getD i (0,0)).2]:=by
 intro i hi
 rcases i with _ | _ | _ | _ | _ | _ | _ | _ | i<;>first | decide | omega
theorem vn (i:Nat) (hi:i<8):shT.drop i=shT.getD i (0,0)::shT.drop (i+1):=by
 rcases i with _ | _ | _ | _ | _ | _ | _ | _ | i<;>first | rfl | omega
theorem L98 (s:List UInt8) (hs:s.length≤1099511627776) (id:Nat) (bad from_:Int) (a:Nat) (m:IM) (ha:a≤s.length) (hm:m.get id=rdP s a bad 0):∀(j i:Nat),8=i+j →
  yO id from_ 34 34 92 92 47 47 98 8 102 12 110 10 114 13 116 9 i m=match pz (shT.drop i) s[a]? with
   |some d=>some (.ret,[.str [d]],[],al m id (rdP s (a+1:Nat) bad 0))
   |none=>some (.exit 0,[.pB id 0,.int .i64 from_],[],m):=by
 intro j
 induction j with
 |zero =>
  intro i hk
  have:i=8:=by omega
  subst this
  rw[vY]
  simp[si,go_sem,shT,pz]
 |succ j ih =>
  intro i hk
  have hi:i<8:=by omega
  have c1:(i:Int)<8:=by omega
  have hat:=IH i hi
  have hen:=Ds i hi
  rw[vn i hi]
  have hsk:=jW s a bad 0 (shT.getD i (0,0)).1 id m (by omega) hm
  have hw2:IntKind.i64.wrap ((i:Int)+1)=((i+1:Nat):Int):=by rw[w64 (by omega) (by omega)];rfl
  have h:=ih (i+1) (by omega)
  unfold pz
  rw[vY]
  generalize shT.getD i (0,0)=p at *
  obtain⟨x,y⟩:=p
  simp only at *
  by_cases g:s[a]?=some x
  ·rw[if_pos ⟨trivial,g⟩] at hsk
   rw[if_pos g]
   have hcc:=fun (K2:IV→IM→Option (St⊕LR))=>ae hsk (by simp[go_sem]) K2
   simp only[si,go_sem,c1,decide_true,if_true,au hat,hcc,hen]
  ·rw[if_neg (fun h=>g h.2)] at hsk
   rw[if_neg g]
   have hcc:=fun (K2:IV→IM→Option (St⊕LR))=>ae hsk (by simp[go_sem]) K2
   have step:nxt y6 (si id from_ 34 34 92 92 47 47 98 8 102 12 110 10 114 13 116 9 i m)=yO id from_ 34 34 92 92 47 47 98 8 102 12 110 10 114 13 116 9 (i+1:Nat) m:=by
    generalize hj:i+1=i' at *
    simp only[si,go_sem,c1,decide_true,if_true,au hat,hcc,hw2,Bool.false_eq_true,if_false]
    rfl
   rw[step]
   exact h
end Go.Idl
namespace Go.Idl
attribute [local go_sem] uV uI gI gS bO cE bw dM dp dV dS dO cI bV cZ bZ bX dQ cM bU dN bS bg bA bj bh aQ dR dT cK cQ dP dZ cY fy dK cS dY et dL dU cH cN cP bY cJ eB bT bC b8 bW cV bm aC a7 aD c9 c8 bJ bo bF ck bG cm bH ct List.flatMap_cons List.flatMap_nil
attribute [local go_sem] oA gA vA wA nA fA dA eA oV oW oN oD oF IFn.call ICode.run aA IOp.run IOp.run0 gate IK.ok aE cf OTag.hits IK.run Arg.rd look av rdAll POp.ev cU fB fo fh fw fD fa fe fj fl fg ft bN fk e8 bb St.put lkSlot lkL lkB lkC aq aV IK.link bc bt St.drop St.capAt St.owner linkOf br ba bp IV.refsDeep IV.refsDeep.go IV.refs IV.refs.go an IV.plain bB ao cv aT IV.cells IV.isU IV.isL bL cC over cG cut eqS aG bnd dy dI cD cX cW bE aj aJ dG dn aH aB c7 bM aI uqB aP St.head cy cx bq cA
theorem mT (n:Nat) (h:n≤2147483647) (m:IM):cw (.f 39) [.int .i64 (n:Int)] m=some (.str (Utf8.encode n).data.toList,m):=by
 unfold cw;rw[aO p39 f39]
 simp (disch:=omega) [i39,go_sem,w32]
def vg (n:Int):List UInt8:=(Utf8.encode n.toNat).data.toList
def oR (s:List UInt8) (a:Nat):Rd (List UInt8) :=
 match pz shT s[a]? with
 |some d=>.ok [d] (a+1)
 |none=>if s[a]?=some 117 then (match gC s 4 (a+1) 0 with
  |.err b c=>.err b c
  |.ok n a1=>if aL n then .ok (vg n) a1 else if 56320≤n∨¬(s[a1]?=some 92∧s[a1+1]?=some 117) then .err (a-1) 19 else (match gC s 4 (a1+2) 0 with
   |.err b c=>.err b c
   |.ok k a2=>if k<56320∨57343<k then .err (a-1) 19 else .ok (vg (65536+(n-55296)*1024+k-56320)) a2)) else .err a 19
theorem zE (t:List UInt8) (c d:UInt8) (m:IM):cw (.f 122) [.str t,.str [c,d]] m=some (.bool (decide (t[0]?=some c∧t[1]?=some d)),m):=by
 unfold cw;rw[aO p122 f122]
 match t with
 |[]=>simp[i122,go_sem]
 |[x] =>
  simp[i122,go_sem]
 |x::y::t =>
  have g1:(2:Int)≤((t.length+1+1:Nat):Int):=by omega
  by_cases h:x=c
  ·subst h
   by_cases h2:y=d
   ·subst h2;simp[-Int.natCast_add,i122,go_sem,g1]
   ·have h':(y==d)=false:=by simpa using h2
    simp[-Int.natCast_add,i122,go_sem,g1,h2,h']
  ·have h':(x==c)=false:=by simpa using h
   simp[-Int.natCast_add,i122,go_sem,g1,h,h']
theorem Av (t:List UInt8) (c d:UInt8) (m:IM):cw (.f 99) [.str t,.str [c,d]] m=some (.bool (decide (t[0]?=some c∧t[1]?=some d)),m):=by
 unfold cw;rw[aO p99 f99]
 have h:=zE t c d m
 unfold cw at h
 simp[i99,go_sem,h]
theorem Bz (s:List UInt8) (a:Nat) (h:a≤s.length):POp.ev (.sliceStr true false) [.str s,.int .i64 (a:Int)]=some (.str (s.drop a)):=by
 have c2:(a:Int)≤(s.length:Int):=by omega
 have c3:(0:Int)≤(a:Int):=by omega
 have htk:(s.drop a).take (s.length-a)=s.drop a:=List.take_of_length_le (by simp)
 simp[POp.ev,dI,dy,bnd,c2,c3,htk]
theorem J1 (s:List UInt8) (a bad from_ n:Int) (id:Nat) (m:IM) (hm:m.get id=rdP s a bad 0):rh id from_ n m=some (.normal,[.pB id 0,.int .i64 from_,.int .i64 n,.bool (aL n)],[],m):=by
 have hcc:=fun (K2:IV→IM→Option LR)=>ae (Hs n m) (by simp[go_sem]) K2
 simp[rh,go_sem,gq hm,hcc]
theorem Km (s:List UInt8) (a:Nat) (ha:a≤s.length) (bad from_ n:Int) (id:Nat) (m:IM) (hm:m.get id=rdP s a bad 0):tq id from_ n m=some (.normal,[.pB id 0,.int .i64 from_,.int .i64 n,.bool (decide (56320≤n∨¬(s[a]?=some 92∧s[a+1]?=some 117)))],[],m):=by
 by_cases h:56320≤n
 ·simp[tq,go_sem,h]
 ·have hcc:=fun (K2:IV→IM→Option LR)=>ae (Av (s.drop a) 92 117 m) (by simp[go_sem]) K2
  rw[List.getElem?_drop,List.getElem?_drop,Nat.add_zero] at hcc
  simp only[tq,go_sem,gu hm,eH hm,au (Bz s a ha),hcc]
  simp[h,-not_and]
theorem KG (s:List UInt8) (a bad from_ n k:Int) (id:Nat) (m:IM) (hm:m.get id=rdP s a bad 0):qn id from_ n k m=some (.normal,[.pB id 0,.int .i64 from_,.int .i64 n,.int .i64 k,.bool (decide (k<56320∨57343<k))],[],m):=by
 by_cases h:k<56320<;>by_cases h2:57343<k<;>simp[qn,go_sem,gq hm,h,h2]
theorem Hg (s:List UInt8) (a bad e from_ n k:Int) (he:e≠0) (id:Nat) (m:IM) (hm:m.get id=rdP s a bad e):qn id from_ n k m=some (.normal,[.pB id 0,.int .i64 from_,.int .i64 n,.int .i64 k,.bool false],[],m):=by
 have h':(e==0)=false:=by simpa using he
 simp[qn,go_sem,gq hm,h',he]
end Go.Idl
namespace Go.Idl
attribute [local go_sem] uV uI gI gS bO cE bw dM dp dV dS dO cI bV cZ bZ bX dQ cM bU dN bS bg bA bj bh aQ dR dT cK cQ dP dZ cY fy dK cS dY et dL dU cH cN cP bY cJ eB bT bC b8 bW cV bm aC a7 aD c9 c8 bJ bo bF ck bG cm bH ct List.flatMap_cons List.flatMap_nil
theorem ki (s:List UInt8):∀(k a:Nat) (n:Int) (b:Nat) (c:Int),gC s k a n=.err b c→c=19
 |0,_,_,_,_,h=>by cases h
 |k+1,a,n,b,c,h=>by
  unfold gC at h
  cases hq:s[a]? with
  |none=>rw[hq] at h;cases h;rfl
  |some x =>
   rw[hq] at h
   simp only at h
   split at h
   ·cases h;rfl
   ·exact ki s k _ _ b c h
theorem mR (s:List UInt8):∀(k a:Nat) (n:Int) (b:Nat) (c:Int),a≤s.length→gC s k a n=.err b c→b≤s.length
 |0,_,_,_,_,_,h=>by cases h
 |k+1,a,n,b,c,ha,h=>by
  unfold gC at h
  cases hq:s[a]? with
  |none=>rw[hq] at h;cases h;exact ha
  |some x =>
   rw[hq] at h
   simp only at h
   split at h
   ·cases h;exact ha
   ·exact mR s k _ _ b c (aZ hq) h
theorem tK (n:Int):(Utf8.encode n).data.toList.length≤4:=by
 unfold Utf8.encode
 simp only
 generalize (if Utf8.valid n=true then n.toNat else Utf8.runeError)=c
 by_cases h1:c<128
 ·simp[h1]
 ·by_cases h2:c<2048
  ·simp[h1,h2]
  ·by_cases h3:c<65536
   ·simp[h1,h2,h3]
   ·simp[h1,h2,h3]
set_option maxHeartbeats 1000000 in
set_option maxRecDepth 100000 in
theorem KU (s:List UInt8) (hs:s.length≤1099511627776) (id:Nat) (bad:Int) (a:Nat) (m:IM) (ha:a≤s.length) (ha1:1≤a) (hm:m.get id=rdP s a bad 0) :
  match oR s a with
  |.ok x a'=>cw (.f 98) [.pB id 0] m=some (.str x,al m id (rdP s a' bad 0))∧a'≤s.length∧a<a'
  |.err b c=>c=19∧∃(t:List UInt8) (a':Nat),t.length≤4∧a'≤s.length∧cw (.f 98) [.pB id 0] m=some (.str t,al m id (rdP s a' b c)):=by
 have hL:=L98 s hs id bad ((a-1:Nat):Int) a m ha hm 8 0 rfl
 rw[List.drop_zero,show ((0:Nat):Int)=0 from rfl] at hL
 have hw:IntKind.i64.wrap ((a:Int)-1)=((a-1:Nat):Int):=by rw[w64 (by omega) (by omega)];omega
 unfold oR
 cases hE:pz shT s[a]? with
 |some d =>
  rw[hE] at hL
  have hlt:a<s.length:=by
   cases hq:s[a]? with
   |none=>rw[hq] at hE;cases hE
   |some c=>exact aZ hq
  refine⟨?_,hlt,Nat.lt_succ_self a⟩
  apply gO
  simp[F98,go_sem,eH hm,hw,hL]
 |none =>
  rw[hE] at hL
  simp only at hL ⊢
  have hsk:=jW s a bad 0 117 id m (by omega) hm
  by_cases g:s[a]?=some 117
  ·rw[if_pos ⟨rfl,g⟩] at hsk
   rw[if_pos g]
   have hlt:=aZ g
   have hsc:=fun (K2:IV→IM→Option (IV×IM))=>ae hsk (by simp[go_sem]) K2
   rw[show ((117:UInt8).toNat:Int)=117 from rfl] at hsc
   have hm1:(al m id (rdP s (a+1:Nat) bad 0)).get id=rdP s (a+1:Nat) bad 0:=bD hm
   have hx:=AJ s hs id (a+1) bad _ hlt hm1
   cases hX:gC s 4 (a+1) 0 with
   |err b c =>
    rw[hX] at hx
    simp only[ah] at hx ⊢
    have hc:=ki _ _ _ _ _ _ hX
    have hble:=mR _ _ _ _ _ _ hlt hX
    subst hc
    refine⟨rfl,(Utf8.encode ((0:Nat):Int)).data.toList,b,tK _,hble,?_⟩
    ·apply gO
     have hxc:=fun (K2:IV→IM→Option (IV×IM))=>ae hx (by simp[go_sem]) K2
     have hm2:(al m id (rdP s b b 19)).get id=rdP s b b 19:=bD hm
     have h39:=mT 0 (by omega) (al m id (rdP s b b 19))
     have h39c:=fun (K2:IV→IM→Option (IV×IM))=>ae h39 (by simp[go_sem]) K2
     rw[show ((0:Nat):Int)=0 from rfl] at h39c
     have hC0:rh id ((a-1:Nat):Int) 0 (al m id (rdP s b b 19))=some (.normal,[.pB id 0,.int .i64 ((a-1:Nat):Int),.int .i64 0,.bool true],[],al m id (rdP s b b 19)):=by
      simp[rh,go_sem,gq hm2]
     simp only[F98,go_sem,eH hm,hw,hL,hsc,hxc,hC0,h39c,if_true,Bool.not_true,Bool.false_eq_true,if_false]
     try simp[go_sem]
   |ok n a1 =>
    rw[hX] at hx
    simp only[ah] at hx ⊢
    obtain⟨hx,ha1',ha1l,hn0,hn1⟩:=hx
    have hxc:=fun (K2:IV→IM→Option (IV×IM))=>ae hx (by simp[go_sem]) K2
    have hm2:(al m id (rdP s a1 bad 0)).get id=rdP s a1 bad 0:=bD hm
    have hC0:=J1 s a1 bad ((a-1:Nat):Int) n id _ hm2
    by_cases gp:aL n=true
    ·rw[if_pos gp]
     refine⟨?_,ha1l,by omega⟩
     apply gO
     have h39:=mT n.toNat (by omega) (al m id (rdP s a1 bad 0))
     rw[show ((n.toNat:Nat):Int)=n by omega] at h39
     have h39c:=fun (K2:IV→IM→Option (IV×IM))=>ae h39 (by simp[go_sem]) K2
     rw[gp] at hC0
     simp only[F98,go_sem,eH hm,hw,hL,hsc,hxc,hC0,h39c,if_true,Bool.not_true,Bool.false_eq_true,if_false,vg]
     simp[go_sem,show ((n.toNat:Nat):Int)=n by omega]
    ·rw[if_neg gp]
     have gp':aL n=false:=by simpa using gp
     have hC1:=Km s a1 ha1l bad ((a-1:Nat):Int) n id _ hm2
     rw[gp'] at hC0
     by_cases g1:56320≤n∨¬(s[a1]?=some 92∧s[a1+1]?=some 117)
     ·rw[if_pos g1]
      rw[decide_eq_true g1] at hC1
      have hf:=rK s a1 bad 0 ((a-1:Nat):Int) 19 id _ hm2
      simp only[iG,if_true,dz,ah] at hf
      have hfc:=fun (K2:IV→IM→Option (IV×IM))=>ae hf (by simp[go_sem]) K2
      refine⟨rfl,[],a1,by simp,ha1l,?_⟩
      apply gO
      simp only[F98,go_sem,eH hm,hw,hL,hsc,hxc,hC0,hC1,hfc,if_true,Bool.not_true,Bool.false_eq_true,if_false]
      try simp[go_sem]
     ·rw[if_neg g1]
      rw[decide_eq_false g1] at hC1
      have hw2:IntKind.i64.wrap ((a1:Int)+2)=((a1+2:Nat):Int):=by rw[w64 (by omega) (by omega)];rfl
      have h2l:a1+2≤s.length:=by
       have:s[a1+1]?=some 117:=by
        by_cases q:s[a1]?=some 92∧s[a1+1]?=some 117
        ·exact q.2
        ·exact absurd (.inr q) g1
       have:=aZ this
       omega
      have hn2:55296≤n:=by
       have hlt2:n<56320:=by
        by_cases q:56320≤n
        ·exact absurd (.inl q) g1
        ·omega
       by_cases q:55296≤n
       ·exact q
       ·exfalso
        have e1:n<55296:=by omega
        have e2:n≤1114111:=by omega
        simp[aL,hn0,e1,e2] at gp'
      have hn3:n<56320:=by
       by_cases q:56320≤n
       ·exact absurd (.inl q) g1
       ·omega
      have hsa:=fun (K:IM→Option (IV×IM))=>vl hm2 ((a1+2:Nat):Int) K
      simp only[ah] at hsa
      have hm3:(al m id (rdP s (a1+2:Nat) bad 0)).get id=rdP s (a1+2:Nat) bad 0:=bD hm
      have hy:=AJ s hs id (a1+2) bad _ h2l hm3
      have hp10:(2:Int)^Nat.min (Int.toNat 10) IntKind.i64.bits=1024:=by decide
      have hp10':(2:Int)^Nat.min 10 IntKind.i64.bits=1024:=by decide
      have hwa:IntKind.i64.wrap (n-55296)=n-55296:=w64 (by omega) (by omega)
      have hwb:IntKind.i64.wrap ((n-55296)*1024)=(n-55296)*1024:=w64 (by omega) (by omega)
      have hwc:IntKind.i64.wrap (65536+(n-55296)*1024)=65536+(n-55296)*1024:=w64 (by omega) (by omega)
      cases hY:gC s 4 (a1+2) 0 with
      |err b c =>
       rw[hY] at hy
       simp only[ah] at hy ⊢
       have hc:=ki _ _ _ _ _ _ hY
       have hble:=mR _ _ _ _ _ _ h2l hY
       subst hc
       have hyc:=fun (K2:IV→IM→Option (IV×IM))=>ae hy (by simp[go_sem]) K2
       have hm4:(al m id (rdP s b b 19)).get id=rdP s b b 19:=bD hm
       have hC2:=Hg s b b 19 ((a-1:Nat):Int) n 0 (by omega) id _ hm4
       obtain⟨q,hq⟩:=Int.eq_ofNat_of_zero_le (show 0≤65536+(n-55296)*1024-56320 by omega)
       have hwe:IntKind.i64.wrap (65536+(n-55296)*1024-56320)=(q:Int):=by rw[w64 (by omega) (by omega)];omega
       have h39:=mT q (by omega) (al m id (rdP s b b 19))
       have h39c:=fun (K2:IV→IM→Option (IV×IM))=>ae h39 (by simp[go_sem]) K2
       refine⟨rfl,(Utf8.encode (q:Int)).data.toList,b,tK _,hble,?_⟩
       apply gO
       simp only[F98,go_sem,eH hm,eH hm2,hw,hw2,hL,hsc,hxc,hC0,hC1,hsa,hyc,ua,hC2,hwa,if_true,Bool.not_true,Bool.false_eq_true,if_false]
       simp[go_sem,hp10',hwb,hwc,hwe,h39c]
      |ok k a2 =>
       rw[hY] at hy
       simp only[ah] at hy ⊢
       obtain⟨hy,ha2,ha2l,hk0,hk1⟩:=hy
       have hyc:=fun (K2:IV→IM→Option (IV×IM))=>ae hy (by simp[go_sem]) K2
       have hm4:(al m id (rdP s a2 bad 0)).get id=rdP s a2 bad 0:=bD hm
       have hC2:=KG s a2 bad ((a-1:Nat):Int) n k id _ hm4
       have hwd:IntKind.i64.wrap (65536+(n-55296)*1024+k)=65536+(n-55296)*1024+k:=w64 (by omega) (by omega)
       obtain⟨q,hq⟩:=Int.eq_ofNat_of_zero_le (show 0≤65536+(n-55296)*1024+k-56320 by omega)
       have hwe:IntKind.i64.wrap (65536+(n-55296)*1024+k-56320)=(q:Int):=by rw[w64 (by omega) (by omega)];omega
       by_cases g2:k<56320∨57343<k
       ·rw[if_pos g2]
        rw[decide_eq_true g2] at hC2
        have hf:=rK s a2 bad 0 ((a-1:Nat):Int) 19 id _ hm4
        simp only[iG,if_true,dz,ah] at hf
        have hfc:=fun (K2:IV→IM→Option LR)=>ae hf (by simp[go_sem]) K2
        have h39:=mT q (by omega) (al m id (rdP s a2 ((a-1:Nat):Int) 19))
        have h39c:=fun (K2:IV→IM→Option (IV×IM))=>ae h39 (by simp[go_sem]) K2
        refine⟨rfl,(Utf8.encode (q:Int)).data.toList,a2,tK _,ha2l,?_⟩
        apply gO
        simp only[F98,go_sem,eH hm,eH hm2,hw,hw2,hL,hsc,hxc,hC0,hC1,hsa,hyc,ua,hC2,hfc,hwa,if_true,Bool.not_true,Bool.false_eq_true,if_false]
        simp[go_sem,hp10',hwb,hwc,hwd,hwe,h39c]
       ·rw[if_neg g2]
        rw[decide_eq_false g2] at hC2
        have h39:=mT q (by omega) (al m id (rdP s a2 bad 0))
        have h39c:=fun (K2:IV→IM→Option (IV×IM))=>ae h39 (by simp[go_sem]) K2
        refine⟨?_,ha2l,by omega⟩
        apply gO
        simp only[F98,go_sem,eH hm,eH hm2,hw,hw2,hL,hsc,hxc,hC0,hC1,hsa,hyc,ua,hC2,hwa,if_true,Bool.not_true,Bool.false_eq_true,if_false,vg]
        rw[show 65536+(n-55296)*1024+k-56320=((q:Nat):Int) from hq]
        simp[go_sem,hp10',hwb,hwc,hwd,hwe,h39c]
  ·rw[if_neg (fun h=>g h.2)] at hsk
   rw[if_neg g]
   have hsc:=fun (K2:IV→IM→Option (IV×IM))=>ae hsk (by simp[go_sem]) K2
   rw[show ((117:UInt8).toNat:Int)=117 from rfl] at hsc
   have hwr:=kN s a bad 0 id m hm
   have hcw:=fun (K2:IV→IM→Option (IV×IM))=>ae hwr (by simp[go_sem]) K2
   simp only[iG,if_true,dz] at hcw
   refine⟨rfl,[],a,by simp,ha,?_⟩
   apply gO
   simp[F98,go_sem,eH hm,hw,hL,hsc,hcw]
end Go.Idl
namespace Go.Idl
attribute [local go_sem] uV uI gI gS bO cE bw dM dp dV dS dO cI bV cZ bZ bX dQ cM bU dN bS bg bA bj bh aQ dR dT cK cQ dP dZ cY fy dK cS dY et dL dU cH cN cP bY cJ eB bT bC b8 bW cV bm aC a7 aD c9 c8 bJ bo bF ck bG cm bH ct List.flatMap_cons List.flatMap_nil
theorem je {R:Type}(acc x:List UInt8) (h:acc.length+x.length≤aK) (K:IV→Option R):gJ (bsl acc) 1 1 (aj x) x.length K=K (bsl (acc++x)):=by
 cases acc with
 |nil =>
  cases x with
  |nil=>simp[bsl,gJ,az,aj]
  |cons b r =>
   have h':r.length+1≤aK:=by simpa using h
   simp[bsl,gJ,bO,cE,h']
 |cons b r =>
  have hl:=dq (b::r)
  have hx:bsl (b::r++x)=.sl (aj (b::r)++aj x) ((b::r).length+x.length):=by
   rw[←mX,←List.length_append];rfl
  rw[hx]
  show gJ (.sl (aj (b::r)) (b::r).length) 1 1 (aj x) x.length K=_
  generalize (b::r)=q at *
  simp[gJ,cE,h,hl]
theorem ix {R:Type}(l:List UInt8) (X:Option R):fS (bsl l) X=X:=kx (BE l) X
theorem rQ (s:List UInt8):∀(k a:Nat) (n x:Int) (b:Nat),gC s k a n=.ok x b→a≤b
 |0,a,n,x,b,h=>by cases h;exact Nat.le_refl _
 |k+1,a,n,x,b,h=>by
  unfold gC at h
  cases hq:s[a]? with
  |none=>rw[hq] at h;cases h
  |some c =>
   rw[hq] at h
   simp only at h
   split at h
   ·cases h
   ·have:=rQ s k _ _ _ _ h;omega
theorem cd {α:Type}{b:Nat}{c:Int}{x:α}{a:Nat}(h:(Rd.err b c:Rd α)=.ok x a):False:=by cases h
theorem qy {s:List UInt8}{a:Nat}{x:List UInt8}{a':Nat}(h:oR s a=.ok x a'):a<a':=by
 unfold oR at h
 split at h
 ·obtain⟨_,rfl⟩:=Rd.ok.inj h;omega
 ·split at h
  ·split at h
   ·exact (cd h).elim
   ·rename_i n a1 hX
    have:=rQ _ _ _ _ _ _ hX
    split at h
    ·obtain⟨_,rfl⟩:=Rd.ok.inj h;omega
    ·split at h
     ·exact (cd h).elim
     ·split at h
      ·exact (cd h).elim
      ·rename_i k a2 hY
       have:=rQ _ _ _ _ _ _ hY
       split at h
       ·exact (cd h).elim
       ·obtain⟨_,rfl⟩:=Rd.ok.inj h;omega
  ·exact (cd h).elim
def iH (s:List UInt8):Nat→Nat→List UInt8→Option (Rd (List UInt8))
 |0,_,_=>none
 |n+1,a,acc=>match s[a]? with
  |none=>some (.err a 19)
  |some c=>if c.toNat<32 then some (.err a 19)
   else if c=34 then some (.ok acc (a+1))
   else if c=92 then (match oR s (a+1) with
    |.err b e=>some (.err b e)
    |.ok x a'=>iH s n a' (acc++x))
   else if (ay (s.drop a)).2.1=true then iH s n (a+(ay (s.drop a)).1) (acc++(s.drop a).take (ay (s.drop a)).1)
   else some (.err a 19)
theorem vh (n:Nat):(gb n).length≤4:=by
 unfold gb
 split
 ·simp
 ·split
  ·simp
  ·split<;>simp
set_option maxRecDepth 100000 in
theorem qM {s:List UInt8}{a:Nat}{x:List UInt8}{a':Nat}(h:oR s a=.ok x a'):x.length≤4:=by
 have hN:∀(k a:Nat) (n:Int) (x:Int) (b:Nat),0≤n→gC s k a n=.ok x b→0≤x:=by
  intro k
  induction k with
  |zero=>intro a n x b hn h;cases h;exact hn
  |succ k ih =>
   intro a n x b hn h
   unfold gC at h
   cases hq:s[a]? with
   |none=>rw[hq] at h;cases h
   |some c =>
    rw[hq] at h
    simp only at h
    split at h
    ·cases h
    ·exact ih _ _ _ _ (by omega) h
 have hpt:∀n:Int,aL n=true→(vg n).length≤4:=by
  intro n hn
  unfold vg
  have h0:0≤n:=by
   unfold aL at hn
   simp only[Bool.and_eq_true,decide_eq_true_eq] at hn
   exact hn.1.1
  rw[ou n.toNat (by rw[show ((n.toNat:Nat):Int)=n by omega];exact hn)]
  exact vh _
 unfold oR at h
 split at h
 ·cases h;simp
 ·split at h
  ·split at h
   ·cases h
   ·rename_i n a1 hX
    split at h
    ·rename_i hp
     obtain⟨rfl,rfl⟩:=Rd.ok.inj h
     exact hpt _ hp
    ·split at h
     ·exact (cd h).elim
     ·rename_i hg
      split at h
      ·cases h
      ·rename_i k a2 hY
       split at h
       ·exact (cd h).elim
       ·rename_i hk
        obtain⟨rfl,rfl⟩:=Rd.ok.inj h
        have hn0:=hN _ _ _ _ _ (by omega) hX
        have hnp:¬aL n=true:=by assumption
        refine hpt _ ?_
        have h1:n<56320:=by
         by_cases q:56320≤n
         ·exact absurd (.inl q) hg
         ·omega
        have h2:55296≤n:=by
         by_cases q:55296≤n
         ·exact q
         ·exfalso
          apply hnp
          have e1:n<55296:=by omega
          have e2:n≤1114111:=by omega
          simp[aL,hn0,e1,e2]
        have h3:56320≤k∧k≤57343:=by
         constructor
         ·by_cases q:k<56320
          ·exact absurd (.inl q) hk
          ·omega
         ·by_cases q:57343<k
          ·exact absurd (.inr q) hk
          ·omega
        have e1:(0:Int)≤65536+(n-55296)*1024+k-56320:=by omega
        have e2:65536+(n-55296)*1024+k-56320≤1114111:=by omega
        have e3:57343<65536+(n-55296)*1024+k-56320:=by omega
        unfold aL
        rw[decide_eq_true e1,decide_eq_true e2,decide_eq_true e3]
        simp
  ·cases h
theorem CO (s:List UInt8) (a n:Nat) (h:a+n≤s.length) (hs:s.length≤1099511627776):POp.ev (.sliceStr true true) [.str s,.int .i64 (a:Int),.int .i64 (IntKind.i64.wrap ((a:Int)+(n:Int)))]=some (.str ((s.drop a).take n)):=by
 have hw:IntKind.i64.wrap ((a:Int)+(n:Int))=((a+n:Nat):Int):=by rw[w64 (by omega) (by omega)];rfl
 have c1:((a+n:Nat):Int)≤(s.length:Int):=by omega
 have c2:(a:Int)≤((a+n:Nat):Int):=by omega
 have c3:(0:Int)≤(a:Int):=by omega
 have c4:(0:Int)≤((a+n:Nat):Int):=by omega
 rw[hw]
 have c5:a+n-a=n:=by omega
 generalize a+n=j at *
 simp[POp.ev,dI,dy,bnd,c1,c2,c3,c4,c5]
theorem C71 (s:List UInt8) (a:Nat) (bad:Int) (out:IV) (id:Nat) (m:IM) (hm:m.get id=rdP s a bad 0):rE id out m=some (.normal,[.pB id 0,out,.bool (match s[a]? with | some c=>decide (c.toNat<32) | none=>true)],[],m):=by
 cases hs:s[a]? with
 |none =>
  have hge:=List.getElem?_eq_none_iff.1 hs
  have c1:(s.length:Int)≤(a:Int):=by omega
  simp[rE,go_sem,eH hm,gu hm,c1]
 |some c =>
  have hlt:=aZ hs
  have c1:¬(s.length:Int)≤(a:Int):=by omega
  have g:decide ((c.toNat:Int)<32)=decide (c.toNat<32):=by
   by_cases q:c.toNat<32
   ·rw[decide_eq_true q,decide_eq_true (by omega)]
   ·rw[decide_eq_false q,decide_eq_false (by omega)]
  simp[rE,go_sem,eH hm,gu hm,c1,au (iP hs),g]
def Ey (x:Option LR) (s:List UInt8) (id:Nat) (m:IM) (b:Nat) (c:Int):Prop:=c=19∧∃a':Nat,a'≤s.length∧(x=some (.exit 0,[],[],al m id (rdP s a' b c))∨∃t,x=some (.ret,[.str t],[],al m id (rdP s a' b c)))
set_option maxHeartbeats 1000000 in
set_option maxRecDepth 100000 in
theorem L71 (s:List UInt8) (hs:s.length≤30000) (id:Nat) (bad:Int):∀(n a:Nat) (acc:List UInt8) (m:IM) (r:Rd (List UInt8)),iH s n a acc=some r→a≤s.length→1≤a→acc.length≤4*a→m.get id=rdP s a bad 0 →
  match r with
  |.ok x a'=>mw id (bsl acc) m=some (.ret,[.str x],[],al m id (rdP s a' bad 0))∧a'≤s.length∧x.length≤4*a'
  |.err b c=>Ey (mw id (bsl acc) m) s id m b c:=by
 have hml:aK=1099511627776:=rfl
 intro n
 induction n with
 |zero=>intro a acc m r h;cases h
 |succ n ih =>
  intro a acc m r h ha ha1 hacc hm
  have hC:=C71 s a bad (bsl acc) id m hm
  have hwr:=kN s a bad 0 id m hm
  have hcw:=fun (K2:IV→IM→Option (St⊕LR))=>ae hwr (by simp[go_sem]) K2
  simp only[iG,if_true,dz] at hcw
  have hm19:(al m id (rdP s a a 19)).get id=rdP s a a 19:=bD hm
  have hbad:rE id (bsl acc) m=some (.normal,[.pB id 0,bsl acc,.bool true],[],m)→mw id (bsl acc) m=some (.exit 0,[],[],al m id (rdP s a a 19)):=by
   intro hC
   have step:nxt rD (iJ id (bsl acc) m)=mw id (bsl acc) (al m id (rdP s a a 19)):=by
    simp only[iJ,go_sem,gq hm,hC,hcw,ix,beq_self_eq_true,if_true]
    rfl
   rw[gM,step,gM]
   simp only[iJ,go_sem,gq hm19,show ((19:Int)==0)=false from rfl,Bool.false_eq_true,if_false]
  unfold iH at h
  cases hq:s[a]? with
  |none =>
   rw[hq] at h hC
   cases h
   exact⟨rfl,a,ha,.inl (hbad hC)⟩
  |some c =>
   rw[hq] at h hC
   simp only at h hC
   have hlt:=aZ hq
   by_cases g1:c.toNat<32
   ·rw[if_pos g1] at h
    rw[decide_eq_true g1] at hC
    cases h
    exact⟨rfl,a,ha,.inl (hbad hC)⟩
   ·rw[if_neg g1] at h
    rw[decide_eq_false g1] at hC
    have hsq:=jW s a bad 0 34 id m (by omega) hm
    have hsb:=jW s a bad 0 92 id m (by omega) hm
    rw[hq] at hsq hsb
    by_cases g2:c=34
    ·rw[if_pos g2] at h
     subst g2
     rw[if_pos ⟨rfl,rfl⟩] at hsq
     have hcq:=fun (K2:IV→IM→Option (St⊕LR))=>ae hsq (by simp[go_sem]) K2
     rw[show ((34:UInt8).toNat:Int)=34 from rfl] at hcq
     cases h
     refine⟨?_,hlt,by omega⟩
     rw[gM]
     simp only[iJ,go_sem,gq hm,hC,hcq,au (yV acc),beq_self_eq_true,if_true,Bool.false_eq_true,if_false]
    ·rw[if_neg g2] at h
     rw[if_neg (fun q=>g2 (Option.some.inj q.2))] at hsq
     have hcq:=fun (K2:IV→IM→Option (St⊕LR))=>ae hsq (by simp[go_sem]) K2
     rw[show ((34:UInt8).toNat:Int)=34 from rfl] at hcq
     by_cases g3:c=92
     ·rw[if_pos g3] at h
      subst g3
      rw[if_pos ⟨rfl,rfl⟩] at hsb
      have hcb:=fun (K2:IV→IM→Option (St⊕LR))=>ae hsb (by simp[go_sem]) K2
      rw[show ((92:UInt8).toNat:Int)=92 from rfl] at hcb
      have hm1:(al m id (rdP s (a+1:Nat) bad 0)).get id=rdP s (a+1:Nat) bad 0:=bD hm
      have he:=KU s (by omega) id bad (a+1) _ hlt (by omega) hm1
      cases hE:oR s (a+1) with
      |err b e =>
       rw[hE] at h he
       cases h
       simp only at he
       obtain⟨rfl,t,a',ht4,hal,he⟩:=he
       rw[ah] at he
       have hce:=fun (K2:IV→IM→Option (St⊕LR))=>ae he (by simp[go_sem]) K2
       have hm2:(al m id (rdP s a' b 19)).get id=rdP s a' b 19:=bD hm
       refine⟨rfl,a',hal,.inl ?_⟩
       have step:nxt rD (iJ id (bsl acc) m)=mw id (bsl (acc++t)) (al m id (rdP s a' b 19)):=by
        simp only[iJ,go_sem,gq hm,hC,hcq,hcb,hce,gB (dJ t),dq,Nat.mul_one,Nat.beq_refl,je acc t (by omega),ix,beq_self_eq_true,if_true,Bool.false_eq_true,if_false]
        rfl
       rw[gM,step,gM]
       simp only[iJ,go_sem,gq hm2,show ((19:Int)==0)=false from rfl,Bool.false_eq_true,if_false]
      |ok x a' =>
       rw[hE] at h he
       simp only at h he
       obtain⟨he,hal,hlt2⟩:=he
       rw[ah] at he
       have hx4:=qM hE
       have hce:=fun (K2:IV→IM→Option (St⊕LR))=>ae he (by simp[go_sem]) K2
       have hm2:(al m id (rdP s a' bad 0)).get id=rdP s a' bad 0:=bD hm
       have step:nxt rD (iJ id (bsl acc) m)=mw id (bsl (acc++x)) (al m id (rdP s a' bad 0)):=by
        simp only[iJ,go_sem,gq hm,hC,hcq,hcb,hce,gB (dJ x),dq,Nat.mul_one,Nat.beq_refl,je acc x (by omega),ix,beq_self_eq_true,if_true,Bool.false_eq_true,if_false]
        rfl
       have hi:=ih a' (acc++x) _ r h hal (by omega) (by rw[List.length_append];omega) hm2
       rw[gM,step]
       cases r with
       |ok y a2=>simpa only[ah] using hi
       |err b e=>simpa only[Ey,ah] using hi
     ·rw[if_neg g3] at h
      rw[if_neg (fun q=>g3 (Option.some.inj q.2))] at hsb
      have hcb:=fun (K2:IV→IM→Option (St⊕LR))=>ae hsb (by simp[go_sem]) K2
      rw[show ((92:UInt8).toNat:Int)=92 from rfl] at hcb
      obtain⟨t,ht⟩:∃t,s.drop a=c::t:=⟨s.drop (a+1),by
       rw[List.drop_eq_getElem_cons hlt]
       have:=(List.getElem?_eq_some_iff.1 hq).2
       rw[this]⟩
      have h57:=AX c t m
      rw[←ht] at h57
      have hc57:=fun (K2:IV→IM→Option (St⊕LR))=>ae h57 (by simp[go_sem]) K2
      have hbl:=sE (s.drop a)
      rw[List.length_drop] at hbl
      have hb4:=nS (s.drop a)
      have hbp:=jn (s.drop a)
      simp only[iT] at hc57
      generalize ay (s.drop a)=B at *
      obtain⟨sz,w,p⟩:=B
      simp only at *
      cases w with
      |false =>
       cases h
       refine⟨rfl,a,ha,.inr ⟨[],?_⟩⟩
       rw[gM]
       simp only[iJ,go_sem,gq hm,eH hm,gu hm,hC,hcq,hcb,au (Bz s a ha),hc57,hcw,Bool.not_false,beq_self_eq_true,if_true,Bool.false_eq_true,if_false]
      |true =>
       have hsz:=hbp rfl
       simp only[if_true] at h
       have htl:((s.drop a).take sz).length=sz:=by rw[List.length_take,List.length_drop];omega
       have hm2:(al m id (rdP s (a+sz:Nat) bad 0)).get id=rdP s (a+sz:Nat) bad 0:=bD hm
       have hw:IntKind.i64.wrap ((a:Int)+(sz:Int))=((a+sz:Nat):Int):=by rw[w64 (by omega) (by omega)];rfl
       have hsl:=CO s a sz (by omega) (by omega)
       rw[hw] at hsl
       have step:nxt rD (iJ id (bsl acc) m)=mw id (bsl (acc++(s.drop a).take sz)) (al m id (rdP s (a+sz:Nat) bad 0)):=by
        generalize (s.drop a).take sz=T at *
        generalize a+sz=j at *
        simp only[iJ,go_sem,gq hm,eH hm,gu hm,hC,hcq,hcb,au (Bz s a ha),hc57,hw,au hsl,gB (dJ T),dq,Nat.mul_one,Nat.beq_refl,je acc T (by omega),ix,vl hm,Bool.not_true,beq_self_eq_true,if_true,Bool.false_eq_true,if_false]
        rfl
       have hi:=ih (a+sz) (acc++(s.drop a).take sz) _ r h (by omega) (by omega) (by rw[List.length_append,htl];omega) hm2
       rw[gM,step]
       cases r with
       |ok y a2=>simpa only[ah] using hi
       |err b e=>simpa only[Ey,ah] using hi
theorem E0 (s:List UInt8) (hs:s.length≤30000) (id:Nat) (bad:Int) (n a:Nat) (m:IM) (r:Rd (List UInt8)) (h:iH s n a []=some r) (ha:a≤s.length) (ha1:1≤a) (hm:m.get id=rdP s a bad 0) :
  match r with
  |.ok x a'=>cw (.f 71) [.pB id 0] m=some (.str x,al m id (rdP s a' bad 0))∧a'≤s.length∧x.length≤4*a'
  |.err b c=>c=19∧∃(t:List UInt8) (a':Nat),a'≤s.length∧cw (.f 71) [.pB id 0] m=some (.str t,al m id (rdP s a' b c)):=by
 have hL:=L71 s hs id bad n a [] m r h ha ha1 (by simp) hm
 cases r with
 |ok x a' =>
  simp only at hL ⊢
  refine⟨?_,hL.2⟩
  apply pG
  have h1:=hL.1
  simp only[bsl] at h1
  simp[F71,go_sem,h1]
 |err b c =>
  simp only[Ey] at hL ⊢
  obtain⟨rfl,a',hal,h1 | ⟨t,h1⟩⟩:=hL
  ·refine⟨rfl,[],a',hal,?_⟩
   apply pG
   simp only[bsl] at h1
   simp[F71,go_sem,h1]
  ·refine⟨rfl,t,a',hal,?_⟩
   apply pG
   simp only[bsl] at h1
   simp[F71,go_sem,h1]
theorem ma (s:List UInt8):∀(n a:Nat) (acc x:List UInt8) (a':Nat),iH s n a acc=some (.ok x a')→a<a':=by
 intro n
 induction n with
 |zero=>intro a acc x a' h;cases h
 |succ n ih =>
  intro a acc x a' h
  unfold iH at h
  cases hq:s[a]? with
  |none=>rw[hq] at h;simp only[Option.some.injEq] at h;exact (cd h).elim
  |some c =>
   rw[hq] at h
   simp only at h
   split at h
   ·simp only[Option.some.injEq] at h;exact (cd h).elim
   ·split at h
    ·simp only[Option.some.injEq] at h
     obtain⟨_,rfl⟩:=Rd.ok.inj h
     omega
    ·split at h
     ·split at h
      ·simp only[Option.some.injEq] at h;exact (cd h).elim
      ·rename_i x2 a2 hE
       have:=ih _ _ _ _ h
       have h2:=qy hE
       omega
     ·split at h
      ·rename_i hw
       have:=ih _ _ _ _ h
       have:=jn _ hw
       omega
      ·simp only[Option.some.injEq] at h;exact (cd h).elim
end Go.Idl
namespace Go.Idl
attribute [local go_sem] uV uI gI gS bO cE bw dM dp dV dS dO cI bV cZ bZ bX dQ cM bU dN bS bg bA bj bh aQ dR dT cK cQ dP dZ cY fy dK cS dY et dL dU cH cN cP bY cJ eB bT bC b8 bW cV bm aC
theorem cq (c:UInt8) (k:Nat):((c.toNat:Int)==((k:Nat):Int))=decide (c.toNat=k):=by
 by_cases h:c.toNat=k
 ·subst h;simp
 ·rw[decide_eq_false h];simp;omega
def kd (o:Bool):Int:=if o then 5 else 4
def cl (o:Bool):UInt8:=if o then 125 else 93
def oT (s:List UInt8) (n:Nat) (o:Bool) (a:Nat):Option (Rd (List (List UInt8))) :=
 if o then (if s[blk s a]?=some 34 then (match iH s n (blk s a+1) [] with
   |none=>none
   |some (.err b c)=>some (.err b c)
   |some (.ok t a2)=>if s[blk s a2]?=some 58 then some (.ok [t] (blk s a2+1)) else some (.err (blk s a2) 19)) else some (.err (blk s a) 19))
 else some (.ok [] a)
def i6 (s w:List UInt8) (a:Nat) (v:Val):Rd Val:=match eS s w a with
 |.ok _ a'=>.ok v a'
 |.err b c=>.err b c
mutual
def iS (s:List UInt8):Nat→Int→Nat→Option (Rd Val)
 |0,_,_=>none
 |n+1,lvl,a=>match s[blk s a]? with
  |none=>some (.err (blk s a) 19)
  |some c =>
   if c.toNat=110 then some (i6 s [110,117,108,108] (blk s a) (.mk 0 [] [] []))
   else if c.toNat=116 then some (i6 s [116,114,117,101] (blk s a) (.mk 1 [116,114,117,101] [] []))
   else if c.toNat=102 then some (i6 s [102,97,108,115,101] (blk s a) (.mk 1 [102,97,108,115,101] [] []))
   else if c.toNat=34 then (match iH s n (blk s a+1) [] with
    |none=>none
    |some (.err b e)=>some (.err b e)
    |some (.ok t a')=>some (.ok (.mk 3 t [] []) a'))
   else if c.toNat=91∨c.toNat=123 then (if lvl>40 then some (.err (blk s a) 21) else fW s n (decide (c.toNat=123)) lvl (blk s a+1))
   else if c.toNat=45∨fJ c=true then (if (ee s (blk s a)).2=true then some (.ok (.mk 2 ((s.drop (blk s a)).take ((ee s (blk s a)).1-blk s a)) [] []) (ee s (blk s a)).1) else some (.err (ee s (blk s a)).1 19))
   else some (.err (blk s a) 19)
def fW (s:List UInt8):Nat→Bool→Int→Nat→Option (Rd Val)
 |0,_,_,_=>none
 |n+1,o,lvl,a=>if s[blk s a]?=some (cl o) then some (.ok (.mk (kd o) [] [] []) (blk s a+1)) else gg s n o lvl (blk s a) [] []
def gg (s:List UInt8):Nat→Bool→Int→Nat→List (List UInt8)→List Val→Option (Rd Val)
 |0,_,_,_,_,_=>none
 |n+1,o,lvl,a,ks,vs=>match oT s n o a with
  |none=>none
  |some (.err b e)=>some (.err b e)
  |some (.ok k a4)=>match iS s n (lvl+1) a4 with
   |none=>none
   |some (.err b e)=>some (.err b e)
   |some (.ok v a5)=>if s[blk s a5]?=some (cl o) then some (.ok (.mk (kd o) [] (ks++k) (vs++[v])) (blk s a5+1))
    else if s[blk s a5]?=some 44 then gg s n o lvl (blk s a5+1) (ks++k) (vs++[v]) else some (.err (blk s a5) 19)
end
theorem SlS.app {K:IV}{ks:List (List UInt8)}(h:SlS K ks) (x:List UInt8) (hb:(ks.length+1)*16≤aK):∃K',SlS K' (ks++[x])∧∀{R:Type}(f:IV→Option R),gJ K 1 16 [.str x] 1 f=f K':=by
 have hb2:1*16≤aK:=by decide
 rcases h with ⟨rfl,rfl⟩ | rfl
 ·refine⟨.sl [.str x] 1,.inr rfl,fun f=>?_⟩
  simp[gJ,bO,cE,hb2]
 ·refine⟨.sl (ks.map .str++[.str x]) (ks.length+1),.inr (by simp),fun f=>?_⟩
  simp[gJ,cE,hb]
theorem RowR.app:∀{vs:List Val}{r:List IV}{v:Val}{c:List IV},RowR vs r→ValR v c→RowR (vs++[v]) (r++c)
 |_,_,_,c,.nil,h=>by
  have:=RowR.cons h .nil
  simpa using this
 |_,_,_,_,.cons hv hr,h=>by
  rw[List.cons_append,List.append_assoc]
  exact .cons hv (hr.app h)
theorem SlV.app {V:IV}{vs:List Val}(h:SlV V vs) {v:Val}{c:List IV}(hc:ValR v c) (hb:(vs.length+1)*72≤aK):∃V',SlV V' (vs++[v])∧∀{R:Type}(f:IV→Option R),gJ V 4 72 c 1 f=f V':=by
 have hb2:1*72≤aK:=by decide
 cases h with
 |nil =>
  refine⟨.sl c 1,.sl (by simpa using RowR.cons hc .nil) rfl,fun f=>?_⟩
  simp[gJ,bO,cE,hb2]
 |sl hr hn =>
  subst hn
  refine⟨.sl (_++c) (vs.length+1),.sl (hr.app hc) (by simp),fun f=>?_⟩
  have:=hr.len
  simp[gJ,cE,hb,this,Nat.mul_comm]
theorem Mb (s:List UInt8) (a:Nat) (bad lvl n:Int) (t:List UInt8) (v v1:IV) (id:Nat) (m:IM) (hm:m.get id=rdP s a bad 0) :
  xb id lvl n t v v1 m=some (.normal,[.pB id 0,.int .i64 lvl,.bool (decide (s.length≤a))],[.cells [.int .i64 n,.str t,v,v1] [.any,.any,.own 1,.own 4]],m):=by
 have g:decide ((s.length:Int)≤(a:Int))=decide (s.length≤a):=by
  by_cases q:s.length≤a
  ·rw[decide_eq_true q,decide_eq_true (by omega)]
  ·rw[decide_eq_false q,decide_eq_false (by omega)]
 simp[xb,go_sem,eH hm,gq hm,gu hm,g]
theorem LH (lvl fr n:Int) (c:UInt8) (t:List UInt8) (v v1:IV) (id:Nat) (m:IM) :
  rP id lvl fr c.toNat c.toNat n t v v1 m=some (.normal,[.pB id 0,.int .i64 lvl,.int .i64 fr,.int .u8 (c.toNat:Int),.int .u8 (c.toNat:Int),.bool (decide (c.toNat=91∨c.toNat=123))],[.cells [.int .i64 n,.str t,v,v1] [.any,.any,.own 1,.own 4]],m):=by
 have q1:((c.toNat:Int)==91)=decide (c.toNat=91):=cq c 91
 have q2:((c.toNat:Int)==123)=decide (c.toNat=123):=cq c 123
 by_cases h1:c.toNat=91
 ·simp[rP,go_sem,q1,q2,h1]
 ·by_cases h2:c.toNat=123
  ·simp[rP,go_sem,q1,q2,h1,h2]
  ·simp only[rP,bO,q1,q2,h1,h2,decide_false,Bool.false_eq_true,if_false,or_self]
theorem Md (fr n:Int) (c:UInt8) (t:List UInt8) (v v1:IV) (id:Nat) (m:IM) :
  xa id fr c.toNat n t v v1 m=some (.normal,[.pB id 0,.int .i64 fr,.bool (decide (c.toNat=45∨fJ c=true))],[.cells [.int .i64 n,.str t,v,v1] [.any,.any,.own 1,.own 4]],m):=by
 have q0:((c.toNat:Int)==45)=decide (c.toNat=45):=cq c 45
 have q1:((c.toNat:Int)==48)=decide (c.toNat=48):=cq c 48
 have q2:((c.toNat:Int)==49)=decide (c.toNat=49):=cq c 49
 have q3:((c.toNat:Int)==50)=decide (c.toNat=50):=cq c 50
 have q4:((c.toNat:Int)==51)=decide (c.toNat=51):=cq c 51
 have q5:((c.toNat:Int)==52)=decide (c.toNat=52):=cq c 52
 have q6:((c.toNat:Int)==53)=decide (c.toNat=53):=cq c 53
 have q7:((c.toNat:Int)==54)=decide (c.toNat=54):=cq c 54
 have q8:((c.toNat:Int)==55)=decide (c.toNat=55):=cq c 55
 have q9:((c.toNat:Int)==56)=decide (c.toNat=56):=cq c 56
 have qa:((c.toNat:Int)==57)=decide (c.toNat=57):=cq c 57
 simp only[xa,bO,q0,q1,q2,q3,q4,q5,q6,q7,q8,q9,qa,decide_eq_true_eq]
 have hdig:fJ c=true↔48≤c.toNat∧c.toNat≤57:=by simp[fJ]
 by_cases hy:c.toNat=45∨fJ c=true
 ·rw[decide_eq_true hy]
  rw[hdig] at hy
  generalize c.toNat=x at *
  have:x=45∨x=48∨x=49∨x=50∨x=51∨x=52∨x=53∨x=54∨x=55∨x=56∨x=57:=by omega
  rcases this with h | h | h | h | h | h | h | h | h | h | h<;>subst h<;>simp
 ·rw[decide_eq_false hy]
  rw[hdig] at hy
  generalize c.toNat=x at *
  rw[if_neg (by omega),if_neg (by omega),if_neg (by omega),if_neg (by omega),if_neg (by omega),if_neg (by omega),if_neg (by omega),if_neg (by omega),if_neg (by omega),if_neg (by omega),decide_eq_false (by omega)]
end Go.Idl
namespace Go.Idl
attribute [local go_sem] uV uI gI gS bO cE bw dM dp dV dS dO cI bV cZ bZ bX dQ cM bU dN bS bg bA bj bh aQ dR dT cK cQ dP dZ cY fy dK cS dY et dL dU cH cN cP bY cJ eB bT bC b8 bW cV bm aC a7 aD c9 c8 bJ bo bF ck bG cm bH ct List.flatMap_cons List.flatMap_nil
theorem SlS.isSl {K:IV}{ks:List (List UInt8)}(h:SlS K ks) {R:Type}(X:Option R):Idl.isSl K X=X:=by rcases h with ⟨rfl,_⟩ | rfl<;>rfl
theorem SlV.isSl {K:IV}{ks:List Val}(h:SlV K ks) {R:Type}(X:Option R):Idl.isSl K X=X:=by cases h<;>rfl
def JI (X:Option (IV×IM)) (s:List UInt8) (id:Nat) (bad:Int) (m:IM):Rd Val→Prop
 |.ok v a'=>∃c,ValR v c∧X=some (.agg c,al m id (rdP s a' bad 0))∧a'≤s.length
 |.err b e=>(e=19∨e=21)∧∃(k:Int) (t:List UInt8) (a':Nat),a'≤s.length∧X=some (.agg [.int .i64 k,.str t,.nilSlice,.nilSlice],al m id (rdP s a' b e))
def Jm (X:Option LR) (s:List UInt8) (id:Nat) (bad:Int) (m:IM):Rd Val→Prop
 |.ok v a'=>∃c,ValR v c∧X=some (.ret,[],[.cells c [.any,.any,.any,.any]],al m id (rdP s a' bad 0))∧a'≤s.length
 |.err b e=>(e=19∨e=21)∧∃(k:Int) (t:List UInt8) (a':Nat),a'≤s.length∧X=some (.ret,[],[bxV k t],al m id (rdP s a' b e))
theorem rJ {R:Type}(s:List UInt8) (a bad:Int) (id:Nat) (m:IM) (hm:m.get id=rdP s a bad 0) (K2:IV→IM→Option R):ak cw (.f 45) [.pB id 0] [] m K2=K2 dz (al m id (rdP s a a 19)):=by
 have h:=kN s a bad 0 id m hm
 simp only[iG,if_true] at h
 exact ae h (by simp[go_sem]) K2
theorem xh {R:Type}(s:List UInt8) (a bad e:Int) (he:e≠0) (id:Nat) (m:IM) (hm:m.get id=rdP s a bad e) (K2:IV→IM→Option R):ak cw (.f 45) [.pB id 0] [] m K2=K2 dz m:=by
 have h:=kN s a bad e id m hm
 simp only[iG,if_neg he,iy hm] at h
 exact ae h (by simp[go_sem]) K2
theorem blC {R:Type}(s:List UInt8) (hs:s.length≤1099511627776) (a:Nat) (ha:a≤s.length) (bad e:Int) (id:Nat) (m:IM) (hm:m.get id=rdP s a bad e) (K2:IV→IM→Option R):ak cw (.f 44) [.pB id 0] [] m K2=K2 (.tup []) (al m id (rdP s (blk s a:Nat) bad e)) :=
 ae (AQ s hs a ha bad e id m hm) (by simp[go_sem]) K2
theorem skT {R:Type}(s:List UInt8) (a:Nat) (bad:Int) (c:UInt8) (id:Nat) (m:IM) (ha:a≤1099511627776) (hm:m.get id=rdP s a bad 0) (h:s[a]?=some c) (K2:IV→IM→Option R):ak cw (.f 97) [.pB id 0,.int .u8 (c.toNat:Int)] [] m K2=K2 (.bool true) (al m id (rdP s (a+1:Nat) bad 0)):=by
 have hk:=jW s a bad 0 c id m ha hm
 rw[if_pos ⟨rfl,h⟩] at hk
 exact ae hk (by simp[go_sem]) K2
theorem skF {R:Type}(s:List UInt8) (a:Nat) (bad:Int) (c:UInt8) (id:Nat) (m:IM) (ha:a≤1099511627776) (hm:m.get id=rdP s a bad 0) (h:¬s[a]?=some c) (K2:IV→IM→Option R):ak cw (.f 97) [.pB id 0,.int .u8 (c.toNat:Int)] [] m K2=K2 (.bool false) m:=by
 have hk:=jW s a bad 0 c id m ha hm
 rw[if_neg (fun q=>h q.2)] at hk
 exact ae hk (by simp[go_sem]) K2
theorem skE {R:Type}(s:List UInt8) (a:Nat) (bad e:Int) (he:e≠0) (c:UInt8) (id:Nat) (m:IM) (ha:a≤1099511627776) (hm:m.get id=rdP s a bad e) (K2:IV→IM→Option R):ak cw (.f 97) [.pB id 0,.int .u8 (c.toNat:Int)] [] m K2=K2 (.bool false) m:=by
 have hk:=jW s a bad e c id m ha hm
 rw[if_neg (fun q=>he q.1)] at hk
 exact ae hk (by simp[go_sem]) K2
set_option maxHeartbeats 1000000 in
theorem C73 (s:List UInt8) (hs:s.length≤30000) (id:Nat) (bad lvl:Int) (n a:Nat) (o:Bool) (K V:IV) (ks:List (List UInt8)) (hK:SlS K ks) (hkl:ks.length≤a) (m:IM) (r:Rd (List (List UInt8))) (h:oT s n o a=some r) (ha:a≤s.length) (hm:m.get id=rdP s a bad 0) :
  match r with
  |.ok k a4=>a4≤s.length∧a≤a4∧(ks++k).length≤a4∧∃K',SlS K' (ks++k)∧kh id (cl o).toNat lvl (kd o) [] K V 0 [] .nilSlice .nilSlice m=some (.normal,[.pB id 0,.int .u8 ((cl o).toNat:Int),.int .i64 lvl],[.cells [.int .i64 (kd o),.str [],K',V] [.any,.any,.own 1,.own 4],bxW 0 []],al m id (rdP s a4 bad 0))
  |.err b e=>e=19∧∃a',a'≤s.length∧kh id (cl o).toNat lvl (kd o) [] K V 0 [] .nilSlice .nilSlice m=some (.ret,[],[bxV 0 []],al m id (rdP s (a':Nat) b e)):=by
 have hml:aK=1099511627776:=rfl
 unfold oT at h
 cases o with
 |false =>
  simp only[Bool.false_eq_true,if_false,Option.some.injEq] at h
  subst h
  refine⟨ha,Nat.le_refl _,by simpa using hkl,K,by simpa using hK,?_⟩
  simp[kh,go_sem,kd,iy hm,bxW]
 |true =>
  simp only[if_true] at h
  have hb:=cz ha
  have hm1:(al m id (rdP s (blk s a:Nat) bad 0)).get id=rdP s (blk s a:Nat) bad 0:=bD hm
  have h0:=fun (K2:IV→IM→Option LR)=>blC s (by omega) a ha bad 0 id m hm K2
  have hnn:IV.nilSlice.refs=some 0:=rfl
  by_cases g:s[blk s a]?=some 34
  ·rw[if_pos g] at h
   have h1:=fun (K2:IV→IM→Option LR)=>skT s (blk s a) bad 34 id _ (by omega) hm1 g K2
   rw[show ((34:UInt8).toNat:Int)=34 from rfl] at h1
   simp only[ah] at h1
   have hlt:=aZ g
   have hm2:(al m id (rdP s (blk s a+1:Nat) bad 0)).get id=rdP s (blk s a+1:Nat) bad 0:=bD hm
   cases hS:iH s n (blk s a+1) [] with
   |none=>rw[hS] at h;cases h
   |some q =>
    rw[hS] at h
    have h71:=E0 s hs id bad n (blk s a+1) _ q hS hlt (by omega) hm2
    cases q with
    |err b c =>
     simp only[Option.some.injEq] at h h71
     subst h
     obtain⟨rfl,t,a',hal,h71⟩:=h71
     simp only[ah] at h71
     have h2:=fun (K2:IV→IM→Option LR)=>ae h71 (by simp[go_sem]) K2
     have hm3:(al m id (rdP s a' b 19)).get id=rdP s a' b 19:=bD hm
     have h3:=fun (K2:IV→IM→Option LR)=>blC s (by omega) a' hal b 19 id _ hm3 K2
     simp only[ah] at h3
     have hm4:(al m id (rdP s (blk s a':Nat) b 19)).get id=rdP s (blk s a':Nat) b 19:=bD hm
     have hb2:=cz hal
     have h4:=fun (K2:IV→IM→Option LR)=>skE s (blk s a') b 19 (by omega) 58 id _ (by omega) hm4 K2
     rw[show ((58:UInt8).toNat:Int)=58 from rfl] at h4
     have h5:=fun (K2:IV→IM→Option LR)=>xh s (blk s a':Nat) b 19 (by omega) id _ hm4 K2
     obtain⟨K',hK',hap⟩:=hK.app t (by omega)
     refine⟨rfl,blk s a',hb2.2,?_⟩
     simp only[kh,go_sem,kd,if_true,beq_self_eq_true,h0,h1,h2,h3,h4,h5,hap,hK'.isSl,af hK'.refs,dz,Bool.not_true,Bool.not_false,Bool.false_eq_true,if_false,af hnn,bxV]
    |ok t a2 =>
     simp only at h h71
     obtain⟨h71,hal,htl⟩:=h71
     simp only[ah] at h71
     have hadv:=ma _ _ _ _ _ _ hS
     have h2:=fun (K2:IV→IM→Option LR)=>ae h71 (by simp[go_sem]) K2
     have hm3:(al m id (rdP s a2 bad 0)).get id=rdP s a2 bad 0:=bD hm
     have h3:=fun (K2:IV→IM→Option LR)=>blC s (by omega) a2 hal bad 0 id _ hm3 K2
     simp only[ah] at h3
     have hm4:(al m id (rdP s (blk s a2:Nat) bad 0)).get id=rdP s (blk s a2:Nat) bad 0:=bD hm
     have hb2:=cz hal
     obtain⟨K',hK',hap⟩:=hK.app t (by omega)
     by_cases g2:s[blk s a2]?=some 58
     ·rw[if_pos g2] at h
      cases h
      have hlt2:=aZ g2
      have h4:=fun (K2:IV→IM→Option LR)=>skT s (blk s a2) bad 58 id _ (by omega) hm4 g2 K2
      rw[show ((58:UInt8).toNat:Int)=58 from rfl] at h4
      simp only[ah] at h4
      refine⟨hlt2,by omega,by rw[List.length_append];simp;omega,K',hK',?_⟩
      simp only[kh,go_sem,kd,if_true,beq_self_eq_true,h0,h1,h2,h3,h4,hap,hK'.isSl,af hK'.refs,Bool.not_true,Bool.not_false,Bool.false_eq_true,if_false,bxW]
     ·rw[if_neg g2] at h
      cases h
      have h4:=fun (K2:IV→IM→Option LR)=>skF s (blk s a2) bad 58 id _ (by omega) hm4 g2 K2
      rw[show ((58:UInt8).toNat:Int)=58 from rfl] at h4
      have h5:=fun (K2:IV→IM→Option LR)=>rJ s (blk s a2:Nat) bad id _ hm4 K2
      simp only[ah] at h5
      refine⟨rfl,blk s a2,hb2.2,?_⟩
      simp only[kh,go_sem,kd,if_true,beq_self_eq_true,h0,h1,h2,h3,h4,h5,hap,hK'.isSl,af hK'.refs,dz,Bool.not_true,Bool.not_false,Bool.false_eq_true,if_false,af hnn,bxV]
  ·rw[if_neg g] at h
   cases h
   have h1:=fun (K2:IV→IM→Option LR)=>skF s (blk s a) bad 34 id _ (by omega) hm1 g K2
   rw[show ((34:UInt8).toNat:Int)=34 from rfl] at h1
   have h2:=fun (K2:IV→IM→Option LR)=>rJ s (blk s a:Nat) bad id _ hm1 K2
   simp only[ah] at h2
   refine⟨rfl,blk s a,hb.2,?_⟩
   simp only[kh,go_sem,kd,if_true,beq_self_eq_true,h0,h1,h2,dz,Bool.not_true,Bool.not_false,Bool.false_eq_true,if_false,af hnn,bxV]
end Go.Idl
namespace Go.Idl
theorem BV (s:List UInt8) (a:Nat):a≤dgB s (s.length+1) a:=AU s _ a
theorem Hw (s:List UInt8) (a:Nat):a≤nm1 s a:=by unfold nm1;split<;>omega
theorem HP (s:List UInt8) (a:Nat):a≤nmB s a:=by unfold nmB;split<;>omega
theorem GU (s:List UInt8) (a:Nat):a≤(nm3 s a).1:=by
 unfold nm3;split
 ·have:=BV s (a+1);simp only;omega
 ·exact Nat.le_refl _
theorem GN (s:List UInt8) (a:Nat):a≤(nm4 s a).1:=by
 unfold nm4;split
 ·have:=BV s (nmB s (a+1));have:=HP s (a+1);simp only;omega
 ·exact Nat.le_refl _
theorem mN {s:List UInt8}{a:Nat}(h:a≤s.length):(ee s a).1≤s.length:=by
 unfold ee
 split
 ·exact ql h
 ·split
  ·exact IY (uB (th (ql h)))
  ·exact uB (th (ql h))
theorem uA {s:List UInt8}{a:Nat}(h:(ee s a).2=true):a<(ee s a).1:=by
 unfold ee at h ⊢
 split at h
 ·cases h
 ·rename_i h1
  rw[if_neg h1]
  have e1:=Hw s a
  have e2:nm1 s a<nm2 s (nm1 s a):=by
   unfold nm2
   split
   ·omega
   ·have:=BV s (nm1 s a);omega
  have e3:=GU s (nm2 s (nm1 s a))
  split
  ·have e4:=GN s (nm3 s (nm2 s (nm1 s a))).1
   omega
  ·omega
theorem nD (s:List UInt8):∀(w:List UInt8) (a a':Nat) (u:Unit),eS s w a=.ok u a'→a'=a+w.length
 |[],a,a',u,h=>by obtain⟨_,rfl⟩:=Rd.ok.inj h;rfl
 |c::r,a,a',u,h=>by
  unfold eS at h
  split at h
  ·have:=nD s r _ _ _ h
   rw[List.length_cons];omega
  ·exact (cd h).elim
theorem zO {s w:List UInt8}{a a':Nat}{v v':Val}(h:i6 s w a v=.ok v' a'):a'=a+w.length:=by
 unfold i6 at h
 split at h
 ·rename_i u b hw
  obtain⟨_,rfl⟩:=Rd.ok.inj h
  exact nD s w _ _ _ hw
 ·exact (cd h).elim
theorem qh {s:List UInt8}{n:Nat}{o:Bool}{a:Nat}{k:List (List UInt8)}{a':Nat}(h:oT s n o a=some (.ok k a')) (ha:a≤s.length):a≤a'∧a'≤s.length:=by
 unfold oT at h
 have hb:=cz ha
 split at h
 ·split at h
  ·split at h
   ·cases h
   ·simp only[Option.some.injEq] at h;exact (cd h).elim
   ·rename_i t a2 hS
    have:=ma _ _ _ _ _ _ hS
    split at h
    ·rename_i g
     simp only[Option.some.injEq] at h
     obtain⟨_,rfl⟩:=Rd.ok.inj h
     have hlt:=aZ g
     have hb2:a2≤blk s a2:=by
      by_cases q:a2≤s.length
      ·exact (cz q).1
      ·have e:blk s a2=a2:=by
        unfold blk
        have:s.length+1-a2=0:=by omega
        rw[this];rfl
       omega
     exact⟨by omega,hlt⟩
    ·simp only[Option.some.injEq] at h;exact (cd h).elim
  ·simp only[Option.some.injEq] at h;exact (cd h).elim
 ·simp only[Option.some.injEq] at h
  obtain⟨_,rfl⟩:=Rd.ok.inj h
  exact⟨Nat.le_refl _,ha⟩
theorem tR (s:List UInt8):∀(n a:Nat) (acc x:List UInt8) (a':Nat),iH s n a acc=some (.ok x a')→a'≤s.length:=by
 intro n
 induction n with
 |zero=>intro a acc x a' h;cases h
 |succ n ih =>
  intro a acc x a' h
  unfold iH at h
  cases hq:s[a]? with
  |none=>rw[hq] at h;simp only[Option.some.injEq] at h;exact (cd h).elim
  |some c =>
   rw[hq] at h
   simp only at h
   split at h
   ·simp only[Option.some.injEq] at h;exact (cd h).elim
   ·split at h
    ·simp only[Option.some.injEq] at h
     obtain⟨_,rfl⟩:=Rd.ok.inj h
     exact aZ hq
    ·split at h
     ·split at h
      ·simp only[Option.some.injEq] at h;exact (cd h).elim
      ·exact ih _ _ _ _ h
     ·split at h
      ·exact ih _ _ _ _ h
      ·simp only[Option.some.injEq] at h;exact (cd h).elim
theorem jM (s:List UInt8):∀(n:Nat),(∀lvl a v a',iS s n lvl a=some (.ok v a')→a≤s.length→a<a'∧a'≤s.length)∧(∀o lvl a v a',fW s n o lvl a=some (.ok v a')→a≤s.length→a<a'∧a'≤s.length)∧(∀o lvl a ks vs v a',gg s n o lvl a ks vs=some (.ok v a')→a≤s.length→a<a'∧a'≤s.length):=by
 intro n
 induction n with
 |zero=>refine⟨fun lvl a v a' h _=>?_,fun o lvl a v a' h _=>?_,fun o lvl a ks vs v a' h _=>?_⟩<;>simp[iS,fW,gg] at h
 |succ n ih =>
  obtain⟨ihV,ihI,ihL⟩:=ih
  refine⟨?_,?_,?_⟩
  ·intro lvl a v a' h ha
   have hb:=cz ha
   unfold iS at h
   cases hq:s[blk s a]? with
   |none=>rw[hq] at h;simp only[Option.some.injEq] at h;exact (cd h).elim
   |some c =>
    rw[hq] at h
    simp only at h
    have hlt:=aZ hq
    have hw:∀(w:List UInt8) (v0:Val),w≠[]→i6 s w (blk s a) v0=.ok v a'→a<a'∧a'≤s.length:=by
     intro w v0 hne hh
     have e:=zO hh
     have:0<w.length:=List.length_pos_iff.2 hne
     refine⟨by omega,?_⟩
     have hle:∀(w:List UInt8) (b b':Nat) (u:Unit),b≤s.length→eS s w b=.ok u b'→b'≤s.length:=by
      intro w
      induction w with
      |nil=>intro b b' u hb h;obtain⟨_,rfl⟩:=Rd.ok.inj h;exact hb
      |cons x r ihw =>
       intro b b' u hb h
       unfold eS at h
       split at h
       ·rename_i g;exact ihw _ _ _ (aZ g) h
       ·exact (cd h).elim
     unfold i6 at hh
     split at hh
     ·rename_i u b hw
      obtain⟨_,rfl⟩:=Rd.ok.inj hh
      exact hle w _ _ _ hb.2 hw
     ·exact (cd hh).elim
    split at h
    ·simp only[Option.some.injEq] at h;exact hw _ _ (by simp) h
    ·split at h
     ·simp only[Option.some.injEq] at h;exact hw _ _ (by simp) h
     ·split at h
      ·simp only[Option.some.injEq] at h;exact hw _ _ (by simp) h
      ·split at h
       ·split at h
        ·cases h
        ·simp only[Option.some.injEq] at h;exact (cd h).elim
        ·rename_i t a2 hS
         simp only[Option.some.injEq] at h
         obtain⟨_,rfl⟩:=Rd.ok.inj h
         have:=ma _ _ _ _ _ _ hS
         exact⟨by omega,tR _ _ _ _ _ _ hS⟩
       ·split at h
        ·split at h
         ·simp only[Option.some.injEq] at h;exact (cd h).elim
         ·have:=ihI _ _ _ _ _ h hlt
          exact⟨by omega,this.2⟩
        ·split at h
         ·split at h
          ·rename_i hn
           simp only[Option.some.injEq] at h
           obtain⟨_,rfl⟩:=Rd.ok.inj h
           have:=uA hn
           exact⟨by omega,mN hb.2⟩
          ·simp only[Option.some.injEq] at h;exact (cd h).elim
         ·simp only[Option.some.injEq] at h;exact (cd h).elim
  ·intro o lvl a v a' h ha
   have hb:=cz ha
   unfold fW at h
   split at h
   ·rename_i g
    simp only[Option.some.injEq] at h
    obtain⟨_,rfl⟩:=Rd.ok.inj h
    exact⟨by omega,aZ g⟩
   ·have:=ihL _ _ _ _ _ _ _ h hb.2
    exact⟨by omega,this.2⟩
  ·intro o lvl a ks vs v a' h ha
   unfold gg at h
   split at h
   ·cases h
   ·simp only[Option.some.injEq] at h;exact (cd h).elim
   ·rename_i k a4 hk
    have hk2:=qh hk ha
    split at h
    ·cases h
    ·simp only[Option.some.injEq] at h;exact (cd h).elim
    ·rename_i v2 a5 hv
     have hv2:=ihV _ _ _ _ hv hk2.2
     have hb:=cz hv2.2
     split at h
     ·rename_i g
      simp only[Option.some.injEq] at h
      obtain⟨_,rfl⟩:=Rd.ok.inj h
      exact⟨by omega,aZ g⟩
     ·split at h
      ·rename_i g
       have:=ihL _ _ _ _ _ _ _ h (aZ g)
       exact⟨by omega,this.2⟩
      ·simp only[Option.some.injEq] at h;exact (cd h).elim
end Go.Idl
namespace Go.Idl
attribute [local go_sem] uV uI gI gS bO cE bw dM dp dV dS dO cI bV cZ bZ bX dQ cM bU dN bS bg bA bj bh aQ dR dT cK cQ dP dZ cY fy dK cS dY et dL dU cH cN cP bY cJ eB bT bC b8 bW cV bm aC a7 aD c9 c8 bJ bo bF ck bG cm bH ct List.flatMap_cons List.flatMap_nil
def HV (s:List UInt8) (id n:Nat):Prop:=∀(lvl:Int) (a:Nat) (m:IM) (bad:Int) (r:Rd Val),iS s n lvl a=some r→0≤lvl→lvl≤41→a≤s.length→m.get id=rdP s a bad 0 →
 JI (cw (.f 43) [.pB id 0,.int .i64 lvl] m) s id bad m r
def HI (s:List UInt8) (id n:Nat):Prop:=∀(o:Bool) (lvl:Int) (a:Nat) (m:IM) (bad:Int) (r:Rd Val),fW s n o lvl a=some r→0≤lvl→lvl≤40→a≤s.length→1≤a→m.get id=rdP s a bad 0 →
 JI (cw (.f 73) [.pB id 0,.agg [.int .i64 (kd o),.str [],.nilSlice,.nilSlice],.int .u8 ((cl o).toNat:Int),.int .i64 lvl] m) s id bad m r
def HL (s:List UInt8) (id n:Nat):Prop:=∀(o:Bool) (lvl:Int) (a:Nat) (ks:List (List UInt8)) (vs:List Val) (K V:IV) (m:IM) (bad:Int) (r:Rd Val),gg s n o lvl a ks vs=some r→SlS K ks→SlV V vs→ks.length≤a→vs.length≤a→0≤lvl→lvl≤40→a≤s.length→m.get id=rdP s a bad 0 →
 Jm (yW id (cl o).toNat lvl (kd o) [] K V 0 [] .nilSlice .nilSlice m) s id bad m r
set_option maxHeartbeats 1000000 in
theorem zo (s:List UInt8) (hs:s.length≤30000) (id n:Nat) (hV:HV s id n) (hL:HL s id n):HL s id (n+1):=by
 have hml:aK=1099511627776:=rfl
 intro o lvl a ks vs K V m bad r h hK hVV hkl hvl hl0 hl1 ha hm
 unfold gg at h
 have e1:IntKind.i64.wrap (lvl+1)=lvl+1:=w64 (by omega) (by omega)
 cases hk:oT s n o a with
 |none=>rw[hk] at h;cases h
 |some q =>
  rw[hk] at h
  have hC:=C73 s hs id bad lvl n a o K V ks hK hkl m q hk ha hm
  cases q with
  |err b e =>
   simp only[Option.some.injEq] at h hC
   subst h
   obtain⟨rfl,a',hal,hC⟩:=hC
   refine⟨.inl rfl,0,[],a',hal,?_⟩
   rw[j6]
   simp only[oH,go_sem,gq hm,hC,beq_self_eq_true,if_true,bxV]
  |ok k a4 =>
   simp only at h hC
   obtain⟨h4l,h4a,h4k,K',hK',hC⟩:=hC
   have hm4:(al m id (rdP s a4 bad 0)).get id=rdP s a4 bad 0:=bD hm
   cases hv:iS s n (lvl+1) a4 with
   |none=>rw[hv] at h;cases h
   |some q =>
    rw[hv] at h
    have hP:=hV (lvl+1) a4 _ bad q hv (by omega) (by omega) h4l hm4
    cases q with
    |err b e =>
     simp only[Option.some.injEq] at h
     subst h
     obtain⟨he,kk,t,a',hal,hP⟩:=hP
     simp only[ah] at hP
     have he0:e≠0:=by rcases he with rfl | rfl<;>omega
     have h1:=fun (K2:IV→IM→Option (St⊕LR))=>ae hP (by simp[go_sem]) K2
     have hm5:(al m id (rdP s a' b e)).get id=rdP s a' b e:=bD hm
     have h2:=fun (K2:IV→IM→Option (St⊕LR))=>blC s (by omega) a' hal b e id _ hm5 K2
     simp only[ah] at h2
     have hm6:(al m id (rdP s (blk s a':Nat) b e)).get id=rdP s (blk s a':Nat) b e:=bD hm
     have hb2:=cz hal
     have h3:=fun (K2:IV→IM→Option (St⊕LR))=>skE s (blk s a') b e he0 (cl o) id _ (by omega) hm6 K2
     have h4:=fun (K2:IV→IM→Option (St⊕LR))=>skE s (blk s a') b e he0 44 id _ (by omega) hm6 K2
     rw[show ((44:UInt8).toNat:Int)=44 from rfl] at h4
     have h5:=fun (K2:IV→IM→Option (St⊕LR))=>xh s (blk s a':Nat) b e he0 id _ hm6 K2
     obtain⟨V',hV',hap⟩:=hVV.app (v:=.mk kk t [] []) (ValR.mk (k:=kk) (t:=t) (.inl ⟨rfl,rfl⟩) .nil) (by omega)
     have hnp:IV.nilSlice.plain=true:=rfl
     have hnn:IV.nilSlice.refs=some 0:=rfl
     refine⟨he,0,[],blk s a',hb2.2,?_⟩
     rw[j6]
     simp only[oH,go_sem,gq hm,hC,bxW,e1,h1,bR hnp,hap,hV'.isSl,af hV'.refs,h2,h3,h4,h5,dz,af hnn,Bool.not_false,beq_self_eq_true,if_true,Bool.false_eq_true,if_false,bxV,reduceCtorEq]
    |ok v a5 =>
     simp only at h
     obtain⟨c,hc,hP,h5l⟩:=hP
     simp only[ah] at hP
     obtain⟨kk,t,CK,CV,rfl,hcK,hcV,hcKp,hcVp⟩:=hc.cells
     have h1:=fun (K2:IV→IM→Option (St⊕LR))=>ae hP (by simp[go_sem]) K2
     have hm5:(al m id (rdP s a5 bad 0)).get id=rdP s a5 bad 0:=bD hm
     have h2:=fun (K2:IV→IM→Option (St⊕LR))=>blC s (by omega) a5 h5l bad 0 id _ hm5 K2
     simp only[ah] at h2
     have hm6:(al m id (rdP s (blk s a5:Nat) bad 0)).get id=rdP s (blk s a5:Nat) bad 0:=bD hm
     have hb2:=cz h5l
     have hadv:=((jM s n).1 _ _ _ _ hv h4l).1
     obtain⟨V',hV',hap⟩:=hVV.app hc (by omega)
     by_cases g:s[blk s a5]?=some (cl o)
     ·rw[if_pos g] at h
      cases h
      have h3:=fun (K2:IV→IM→Option (St⊕LR))=>skT s (blk s a5) bad (cl o) id _ (by omega) hm6 g K2
      simp only[ah] at h3
      refine⟨_,.mk hK' hV',?_,aZ g⟩
      rw[j6]
      simp only[oH,go_sem,gq hm,hC,bxW,e1,h1,bR hcKp,bR hcVp,hap,hV'.isSl,af hV'.refs,af hK'.refs,h2,h3,beq_self_eq_true,if_true,Bool.false_eq_true,if_false,reduceCtorEq]
     ·rw[if_neg g] at h
      have h3:=fun (K2:IV→IM→Option (St⊕LR))=>skF s (blk s a5) bad (cl o) id _ (by omega) hm6 g K2
      by_cases g2:s[blk s a5]?=some 44
      ·rw[if_pos g2] at h
       have hlt:=aZ g2
       have h4:=fun (K2:IV→IM→Option (St⊕LR))=>skT s (blk s a5) bad 44 id _ (by omega) hm6 g2 K2
       rw[show ((44:UInt8).toNat:Int)=44 from rfl] at h4
       simp only[ah] at h4
       have hm7:(al m id (rdP s (blk s a5+1:Nat) bad 0)).get id=rdP s (blk s a5+1:Nat) bad 0:=bD hm
       have hi:=hL o lvl (blk s a5+1) _ _ K' V' _ bad r h hK' hV' (by omega) (by rw[List.length_append];simp;omega) hl0 hl1 hlt hm7
       have step:nxt yK (oH id (cl o).toNat lvl (kd o) [] K V 0 [] .nilSlice .nilSlice m)=yW id (cl o).toNat lvl (kd o) [] K' V' 0 [] .nilSlice .nilSlice (al m id (rdP s (blk s a5+1:Nat) bad 0)):=by
        simp only[oH,go_sem,gq hm,hC,bxW,e1,h1,bR hcKp,bR hcVp,hap,hV'.isSl,af hV'.refs,h2,h3,h4,Bool.not_true,beq_self_eq_true,if_true,Bool.false_eq_true,if_false,reduceCtorEq]
        rfl
       rw[j6,step]
       cases r with
       |ok y a2=>simpa only[Jm,ah] using hi
       |err b e=>simpa only[Jm,ah] using hi
      ·rw[if_neg g2] at h
       cases h
       have h4:=fun (K2:IV→IM→Option (St⊕LR))=>skF s (blk s a5) bad 44 id _ (by omega) hm6 g2 K2
       rw[show ((44:UInt8).toNat:Int)=44 from rfl] at h4
       have h5:=fun (K2:IV→IM→Option (St⊕LR))=>rJ s (blk s a5:Nat) bad id _ hm6 K2
       simp only[ah] at h5
       have hnn:IV.nilSlice.refs=some 0:=rfl
       refine⟨.inl rfl,0,[],blk s a5,hb2.2,?_⟩
       rw[j6]
       simp only[oH,go_sem,gq hm,hC,bxW,e1,h1,bR hcKp,bR hcVp,hap,hV'.isSl,af hV'.refs,h2,h3,h4,h5,dz,af hnn,Bool.not_false,beq_self_eq_true,if_true,Bool.false_eq_true,if_false,bxV,reduceCtorEq]
end Go.Idl
namespace Go.Idl
attribute [local go_sem] uV uI gI gS bO cE bw dM dp dV dS dO cI bV cZ bZ bX dQ cM bU dN bS bg bA bj bh aQ dR dT cK cQ dP dZ cY fy dK cS dY et dL dU cH cN cP bY cJ eB bT bC b8 bW cV bm aC a7 aD c9 c8 bJ bo bF ck bG cm bH ct List.flatMap_cons List.flatMap_nil
theorem xV (s:List UInt8) (hs:s.length≤30000) (id n:Nat) (hL:HL s id n):HI s id (n+1):=by
 intro o lvl a m bad r h hl0 hl1 ha ha1 hm
 unfold fW at h
 have hb:=cz ha
 have hnn:IV.nilSlice.refs=some 0:=rfl
 have h0:=fun (K2:IV→IM→Option (IV×IM))=>blC s (by omega) a ha bad 0 id m hm K2
 have hm1:(al m id (rdP s (blk s a:Nat) bad 0)).get id=rdP s (blk s a:Nat) bad 0:=bD hm
 by_cases g:s[blk s a]?=some (cl o)
 ·rw[if_pos g] at h
  cases h
  have h1:=fun (K2:IV→IM→Option (IV×IM))=>skT s (blk s a) bad (cl o) id _ (by omega) hm1 g K2
  simp only[ah] at h1
  refine⟨_,.mk (.inl ⟨rfl,rfl⟩) .nil,?_,aZ g⟩
  apply rm
  simp[F73,go_sem,h0,h1,af hnn]
 ·rw[if_neg g] at h
  have h1:=fun (K2:IV→IM→Option (IV×IM))=>skF s (blk s a) bad (cl o) id _ (by omega) hm1 g K2
  have hl:=hL o lvl (blk s a) [] [] .nilSlice .nilSlice _ bad r h (.inl ⟨rfl,rfl⟩) .nil (by simp) (by simp) hl0 hl1 hb.2 hm1
  cases r with
  |ok v a' =>
   obtain⟨c,hc,hX,hal⟩:=hl
   simp only[ah] at hX
   obtain⟨k,t,K,V,rfl,hK,hV,_,_⟩:=hc.cells
   refine⟨_,hc,?_,hal⟩
   apply rm
   simp[F73,go_sem,h0,h1,af hnn,hX,hK,hV]
  |err b e =>
   obtain⟨he,k,t,a',hal,hX⟩:=hl
   simp only[ah] at hX
   refine⟨he,k,t,a',hal,?_⟩
   apply rm
   simp[F73,go_sem,h0,h1,af hnn,hX,bxV]
set_option maxHeartbeats 2000000 in
theorem xu (s:List UInt8) (hs:s.length≤30000) (id n:Nat) (hI:HI s id n):HV s id (n+1):=by
 intro lvl a m bad r h hl0 hl1 ha hm
 unfold iS at h
 have hb:=cz ha
 have hnn:IV.nilSlice.refs=some 0:=rfl
 have h0:=fun (K2:IV→IM→Option (IV×IM))=>blC s (by omega) a ha bad 0 id m hm K2
 have hm1:(al m id (rdP s (blk s a:Nat) bad 0)).get id=rdP s (blk s a:Nat) bad 0:=bD hm
 have hCa:=Mb s (blk s a) bad lvl 0 [] .nilSlice .nilSlice id _ hm1
 have hW:=fun (K2:IV→IM→Option (IV×IM))=>rJ s (blk s a:Nat) bad id _ hm1 K2
 simp only[ah] at hW
 cases hq:s[blk s a]? with
 |none =>
  rw[hq] at h
  cases h
  have hge:=List.getElem?_eq_none_iff.1 hq
  rw[decide_eq_true (by omega)] at hCa
  refine⟨.inl rfl,0,[],blk s a,hb.2,?_⟩
  apply eI
  simp only[F43,go_sem,h0,hCa,hW,dz,af hnn,if_true]
  simp[go_sem]
 |some c =>
  rw[hq] at h
  simp only at h
  have hlt:=aZ hq
  rw[decide_eq_false (by omega)] at hCa
  have q110:((c.toNat:Int)==110)=decide (c.toNat=110):=cq c 110
  have q116:((c.toNat:Int)==116)=decide (c.toNat=116):=cq c 116
  have q102:((c.toNat:Int)==102)=decide (c.toNat=102):=cq c 102
  have q34:((c.toNat:Int)==34)=decide (c.toNat=34):=cq c 34
  have q91:((c.toNat:Int)==91)=decide (c.toNat=91):=cq c 91
  have hw:IntKind.i64.wrap ((blk s a:Nat)+1:Int)=((blk s a+1:Nat):Int):=by rw[w64 (by omega) (by omega)];rfl
  have hix:=iP hq
  have word:∀(w:List UInt8) (k:Int) (t:List UInt8),(∀k (h:k<w.length),Utf8.decode ⟨⟨w⟩⟩ k=((w[k].toNat,1):Nat×Nat)) →
    (∀v m',ak cw (.f 70) [.pB id 0,.str w,.agg [.int .i64 k,.str t,.nilSlice,.nilSlice]] [] (al m id (rdP s (blk s a:Nat) bad 0)) (fun v m1=>some (v,m1))=some (.agg v,m')→True) →
    i6 s w (blk s a) (.mk k t [] [])=r →
    (∀(Y:Option (IV×IM)),(∀kk tt mm,ak cw (.f 70) [.pB id 0,.str w,.agg [.int .i64 k,.str t,.nilSlice,.nilSlice]] [] (al m id (rdP s (blk s a:Nat) bad 0))=(fun (K2:IV→IM→Option (IV×IM))=>K2 (.agg [.int .i64 kk,.str tt,.nilSlice,.nilSlice]) mm)→(∃x,mm=al m id x)→Y=some (.agg [.int .i64 kk,.str tt,.nilSlice,.nilSlice],mm))→JI Y s id bad m r):=by
   intro w k t hw' _ hr Y hY
   have hx:=ID s (by omega) w hw' k t id bad (blk s a) _ hb.2 hm1
   unfold i6 at hr
   cases hN:eS s w (blk s a) with
   |ok u a' =>
    rw[hN] at hx hr
    simp only[ah] at hx hr
    subst hr
    refine⟨_,.mk (.inl ⟨rfl,rfl⟩) .nil,?_,hx.2⟩
    exact hY k t _ (funext fun K2=>ae hx.1 (by simp[go_sem]) K2) ⟨_,rfl⟩
   |err b e =>
    rw[hN] at hx hr
    simp only[ah] at hx hr
    subst hr
    have he:e=19∧b≤s.length:=by
     have hg:∀(w:List UInt8) (a b:Nat) (e:Int),a≤s.length→eS s w a=.err b e→e=19∧b≤s.length:=by
      intro w
      induction w with
      |nil=>intro a b e _ h;cases h
      |cons x r ih =>
       intro a b e ha h
       unfold eS at h
       split at h
       ·rename_i g;exact ih _ _ _ (aZ g) h
       ·cases h;exact⟨rfl,ha⟩
     exact hg w _ _ _ hb.2 hN
    obtain⟨rfl,hbl⟩:=he
    refine⟨.inl rfl,0,[],b,hbl,?_⟩
    exact hY 0 [] _ (funext fun K2=>ae hx (by simp[go_sem]) K2) ⟨_,rfl⟩
  by_cases g1:c.toNat=110
  ·rw[if_pos g1] at h
   simp only[Option.some.injEq] at h
   refine word _ 0 [] (by decide) (fun _ _ _=>trivial) h _ fun kk tt mm hcc ⟨x,hx⟩=>?_
   subst hx
   apply eI
   simp only[F43,go_sem,h0,hCa,eH hm1,gu hm1,au hix,q110,g1,hcc,af hnn,decide_true,if_true,Bool.false_eq_true,if_false]
   simp[go_sem]
  ·rw[if_neg g1] at h
   by_cases g2:c.toNat=116
   ·rw[if_pos g2] at h
    simp only[Option.some.injEq] at h
    refine word _ 1 _ (by decide) (fun _ _ _=>trivial) h _ fun kk tt mm hcc ⟨x,hx⟩=>?_
    subst hx
    apply eI
    simp only[F43,go_sem,h0,hCa,eH hm1,gu hm1,au hix,q110,q116,g1,decide_false,decide_eq_true g2,hcc,af hnn,decide_true,if_true,Bool.false_eq_true,if_false]
    simp[go_sem]
   ·rw[if_neg g2] at h
    by_cases g3:c.toNat=102
    ·rw[if_pos g3] at h
     simp only[Option.some.injEq] at h
     refine word _ 1 _ (by decide) (fun _ _ _=>trivial) h _ fun kk tt mm hcc ⟨x,hx⟩=>?_
     subst hx
     apply eI
     simp only[F43,go_sem,h0,hCa,eH hm1,gu hm1,au hix,q110,q116,q102,g1,g2,decide_false,decide_eq_true g3,hcc,af hnn,decide_true,if_true,Bool.false_eq_true,if_false]
     simp[go_sem]
    ·rw[if_neg g3] at h
     by_cases g4:c.toNat=34
     ·rw[if_pos g4] at h
      have hsa:=fun (K:IM→Option (IV×IM))=>vl hm1 ((blk s a+1:Nat):Int) K
      simp only[ah] at hsa
      have hm2:(al m id (rdP s (blk s a+1:Nat) bad 0)).get id=rdP s (blk s a+1:Nat) bad 0:=bD hm
      cases hS:iH s n (blk s a+1) [] with
      |none=>rw[hS] at h;cases h
      |some q =>
       rw[hS] at h
       have h71:=E0 s hs id bad n (blk s a+1) _ q hS hlt (by omega) hm2
       cases q with
       |err b e =>
        simp only[Option.some.injEq] at h h71
        subst h
        obtain⟨rfl,t,a',hal,h71⟩:=h71
        simp only[ah] at h71
        have h2:=fun (K2:IV→IM→Option (IV×IM))=>ae h71 (by simp[go_sem]) K2
        refine⟨.inl rfl,3,t,a',hal,?_⟩
        apply eI
        simp only[F43,go_sem,h0,hCa,eH hm1,gu hm1,au hix,q110,q116,q102,q34,g1,g2,g3,decide_false,decide_eq_true g4,hw,hsa,h2,decide_true,if_true,Bool.false_eq_true,if_false]
        simp[go_sem]
       |ok t a' =>
        simp only[Option.some.injEq] at h h71
        subst h
        obtain⟨h71,hal,_⟩:=h71
        simp only[ah] at h71
        have h2:=fun (K2:IV→IM→Option (IV×IM))=>ae h71 (by simp[go_sem]) K2
        refine⟨_,.mk (.inl ⟨rfl,rfl⟩) .nil,?_,hal⟩
        apply eI
        simp only[F43,go_sem,h0,hCa,eH hm1,gu hm1,au hix,q110,q116,q102,q34,g1,g2,g3,decide_false,decide_eq_true g4,hw,hsa,h2,decide_true,if_true,Bool.false_eq_true,if_false]
        simp[go_sem]
     ·rw[if_neg g4] at h
      have hCb:=LH lvl (blk s a:Nat) 0 c [] .nilSlice .nilSlice id (al m id (rdP s (blk s a:Nat) bad 0))
      by_cases g5:c.toNat=91∨c.toNat=123
      ·rw[if_pos g5] at h
       rw[decide_eq_true g5] at hCb
       by_cases g6:lvl>40
       ·rw[if_pos g6] at h
        cases h
        have hf:=rK s (blk s a:Nat) bad 0 (blk s a:Nat) 21 id _ hm1
        simp only[iG,if_true,ah] at hf
        have h2:=fun (K2:IV→IM→Option (IV×IM))=>ae hf (by simp[go_sem]) K2
        refine⟨.inr rfl,0,[],blk s a,hb.2,?_⟩
        apply eI
        simp only[F43,go_sem,h0,hCa,hCb,eH hm1,gu hm1,au hix,q110,q116,q102,q34,g1,g2,g3,g4,decide_false,decide_eq_true g6,h2,dz,af hnn,decide_true,if_true,Bool.false_eq_true,if_false]
        simp[go_sem]
       ·rw[if_neg g6] at h
        have hsa:=fun (K:IM→Option (IV×IM))=>vl hm1 ((blk s a+1:Nat):Int) K
        simp only[ah] at hsa
        have hm2:(al m id (rdP s (blk s a+1:Nat) bad 0)).get id=rdP s (blk s a+1:Nat) bad 0:=bD hm
        have hi:=hI _ lvl (blk s a+1) _ bad r h hl0 (by omega) hlt (by omega) hm2
        by_cases g7:c.toNat=91
        ·rw[decide_eq_false (show ¬c.toNat=123 by omega)] at hi
         simp only[kd,cl,Bool.false_eq_true,if_false] at hi
         rw[show ((93:UInt8).toNat:Int)=93 from rfl] at hi
         cases r with
         |ok v a' =>
          obtain⟨cc,hc,hX,hal⟩:=hi
          simp only[ah] at hX
          obtain⟨k,t,K,V,rfl,hK,hV,_,_⟩:=hc.cells
          have h2:=fun (K2:IV→IM→Option (IV×IM))=>ae hX (by simp[go_sem]) K2
          refine⟨_,hc,?_,hal⟩
          apply eI
          simp only[F43,go_sem,h0,hCa,hCb,eH hm1,gu hm1,au hix,q110,q116,q102,q34,q91,g1,g2,g3,g4,g6,decide_false,decide_eq_true g7,hw,hsa,h2,af hK,af hV,decide_true,if_true,Bool.false_eq_true,if_false]
          simp[go_sem,hK,hV]
         |err b e =>
          obtain⟨he,k,t,a',hal,hX⟩:=hi
          simp only[ah] at hX
          have h2:=fun (K2:IV→IM→Option (IV×IM))=>ae hX (by simp[go_sem]) K2
          refine⟨he,k,t,a',hal,?_⟩
          apply eI
          simp only[F43,go_sem,h0,hCa,hCb,eH hm1,gu hm1,au hix,q110,q116,q102,q34,q91,g1,g2,g3,g4,g6,decide_false,decide_eq_true g7,hw,hsa,h2,af hnn,decide_true,if_true,Bool.false_eq_true,if_false]
          simp[go_sem]
        ·have g8:c.toNat=123:=by omega
         rw[decide_eq_true g8] at hi
         simp only[kd,cl,if_true] at hi
         rw[show ((125:UInt8).toNat:Int)=125 from rfl] at hi
         cases r with
         |ok v a' =>
          obtain⟨cc,hc,hX,hal⟩:=hi
          simp only[ah] at hX
          obtain⟨k,t,K,V,rfl,hK,hV,_,_⟩:=hc.cells
          have h2:=fun (K2:IV→IM→Option (IV×IM))=>ae hX (by simp[go_sem]) K2
          refine⟨_,hc,?_,hal⟩
          apply eI
          simp only[F43,go_sem,h0,hCa,hCb,eH hm1,gu hm1,au hix,q110,q116,q102,q34,q91,g1,g2,g3,g4,g6,g7,decide_false,hw,hsa,h2,af hK,af hV,decide_true,if_true,Bool.false_eq_true,if_false]
          simp[go_sem,hK,hV]
         |err b e =>
          obtain⟨he,k,t,a',hal,hX⟩:=hi
          simp only[ah] at hX
          have h2:=fun (K2:IV→IM→Option (IV×IM))=>ae hX (by simp[go_sem]) K2
          refine⟨he,k,t,a',hal,?_⟩
          apply eI
          simp only[F43,go_sem,h0,hCa,hCb,eH hm1,gu hm1,au hix,q110,q116,q102,q34,q91,g1,g2,g3,g4,g6,g7,decide_false,hw,hsa,h2,af hnn,decide_true,if_true,Bool.false_eq_true,if_false]
          simp[go_sem]
      ·rw[if_neg g5] at h
       rw[decide_eq_false g5] at hCb
       have hCc:=Md (blk s a:Nat) 0 c [] .nilSlice .nilSlice id (al m id (rdP s (blk s a:Nat) bad 0))
       by_cases g6:c.toNat=45∨fJ c=true
       ·rw[if_pos g6] at h
        rw[decide_eq_true g6] at hCc
        have h74:=AP s (by omega) (blk s a) hb.2 (al m id (rdP s (blk s a:Nat) bad 0))
        have h2:=fun (K2:IV→IM→Option (IV×IM))=>ae h74 (by simp[go_sem]) K2
        by_cases g7:(ee s (blk s a)).2=true
        ·rw[if_pos g7] at h
         cases h
         have hgt:=uA g7
         have hle:=mN (s:=s) hb.2
         rw[g7] at h2
         have hsa:=fun (K:IM→Option (IV×IM))=>vl hm1 (((ee s (blk s a)).1:Nat):Int) K
         simp only[ah] at hsa
         have hm3:(al m id (rdP s ((ee s (blk s a)).1:Nat) bad 0)).get id=rdP s ((ee s (blk s a)).1:Nat) bad 0:=bD hm
         have hsl:=CO s (blk s a) ((ee s (blk s a)).1-blk s a) (by omega) (by omega)
         rw[show IntKind.i64.wrap (((blk s a:Nat):Int)+(((ee s (blk s a)).1-blk s a:Nat):Int))=(((ee s (blk s a)).1:Nat):Int) by rw[w64 (by omega) (by omega)];omega] at hsl
         refine⟨_,.mk (.inl ⟨rfl,rfl⟩) .nil,?_,hle⟩
         apply eI
         simp only[F43,go_sem,h0,hCa,hCb,hCc,eH hm1,gu hm1,gu hm3,au hix,q110,q116,q102,q34,g1,g2,g3,g4,decide_false,h2,hsa,au hsl,Bool.not_true,decide_true,if_true,Bool.false_eq_true,if_false]
         simp[go_sem]
        ·rw[if_neg g7] at h
         cases h
         have g7':(ee s (blk s a)).2=false:=by simpa using g7
         rw[g7'] at h2
         have hle:=mN (s:=s) hb.2
         have hf:=rK s (blk s a:Nat) bad 0 ((ee s (blk s a)).1:Nat) 19 id _ hm1
         simp only[iG,if_true,ah] at hf
         have h3:=fun (K2:IV→IM→Option (IV×IM))=>ae hf (by simp[go_sem]) K2
         refine⟨.inl rfl,0,[],blk s a,hb.2,?_⟩
         apply eI
         simp only[F43,go_sem,h0,hCa,hCb,hCc,eH hm1,gu hm1,au hix,q110,q116,q102,q34,g1,g2,g3,g4,decide_false,h2,h3,dz,af hnn,Bool.not_false,decide_true,if_true,Bool.false_eq_true,if_false]
         simp[go_sem]
       ·rw[if_neg g6] at h
        rw[decide_eq_false g6] at hCc
        cases h
        refine⟨.inl rfl,0,[],blk s a,hb.2,?_⟩
        apply eI
        simp only[F43,go_sem,h0,hCa,hCb,hCc,eH hm1,gu hm1,au hix,q110,q116,q102,q34,g1,g2,g3,g4,decide_false,hW,dz,af hnn,decide_true,if_true,Bool.false_eq_true,if_false]
        simp[go_sem]
end Go.Idl
namespace Go.Idl
attribute [local go_sem] uV uI gI gS bO cE bw dM dp dV dS dO cI bV cZ bZ bX dQ cM bU dN bS bg bA bj bh aQ dR dT cK cQ dP dZ cY fy dK cS dY et dL dU cH cN cP bY cJ eB bT bC b8 bW cV bm aC a7 aD c9 c8 bJ bo bF ck bG cm bH ct List.flatMap_cons List.flatMap_nil
theorem sF (s:List UInt8) (hs:s.length≤30000) (id:Nat):∀n,HV s id n∧HI s id n∧HL s id n
 |0=>⟨fun _ _ _ _ _ h=>by simp[iS] at h,fun _ _ _ _ _ _ h=>by simp[fW] at h,fun _ _ _ _ _ _ _ _ _ _ h=>by simp[gg] at h⟩
 |n+1=>by
  obtain⟨h1,h2,h3⟩:=sF s hs id n
  exact⟨xu s hs id n h2,xV s hs id n h3,zo s hs id n h1 h3⟩
theorem wv (s:List UInt8):∀(n a:Nat) (acc x:List UInt8) (a':Nat),iH s n a acc=some (.ok x a')→acc.length≤4*a→x.length≤4*a':=by
 intro n
 induction n with
 |zero=>intro a acc x a' h;cases h
 |succ n ih =>
  intro a acc x a' h hl
  unfold iH at h
  cases hq:s[a]? with
  |none=>rw[hq] at h;simp only[Option.some.injEq] at h;exact (cd h).elim
  |some c =>
   rw[hq] at h
   simp only at h
   split at h
   ·simp only[Option.some.injEq] at h;exact (cd h).elim
   ·split at h
    ·simp only[Option.some.injEq] at h
     obtain⟨rfl,rfl⟩:=Rd.ok.inj h
     omega
    ·split at h
     ·split at h
      ·simp only[Option.some.injEq] at h;exact (cd h).elim
      ·rename_i x2 a2 hE
       have h1:=qM hE
       have h2:=qy hE
       exact ih _ _ _ _ h (by rw[List.length_append];omega)
     ·split at h
      ·exact ih _ _ _ _ h (by rw[List.length_append,List.length_take];omega)
      ·simp only[Option.some.injEq] at h;exact (cd h).elim
theorem BC {s:List UInt8}{n:Nat}{o:Bool}{a:Nat}{k:List (List UInt8)}{a':Nat}(h:oT s n o a=some (.ok k a')):(∀x,x∈k→x.length≤4*s.length)∧k.length≤1:=by
 unfold oT at h
 split at h
 ·split at h
  ·split at h
   ·cases h
   ·simp only[Option.some.injEq] at h;exact (cd h).elim
   ·rename_i t a2 hS
    split at h
    ·simp only[Option.some.injEq] at h
     obtain⟨rfl,_⟩:=Rd.ok.inj h
     have h1:=wv _ _ _ _ _ _ hS (by simp)
     have h2:=tR _ _ _ _ _ _ hS
     refine⟨fun x hx=>?_,by simp⟩
     rw[List.mem_singleton] at hx
     subst hx
     omega
    ·simp only[Option.some.injEq] at h;exact (cd h).elim
  ·simp only[Option.some.injEq] at h;exact (cd h).elim
 ·simp only[Option.some.injEq] at h
  obtain⟨rfl,_⟩:=Rd.ok.inj h
  exact⟨fun x hx=>(List.not_mem_nil hx).elim,by simp⟩
theorem y5 {vs:List Val}{v:Val}(h:okL vs) (hv:okV v):okL (vs++[v]):=by
 induction vs with
 |nil=>exact .cons hv .nil
 |cons a r ih=>cases h with | cons h1 h2=>exact .cons h1 (ih h2)
theorem tf {s w:List UInt8}{a a':Nat}{v v':Val}(h:i6 s w a v=.ok v' a') (hv:okV v):okV v':=by
 unfold i6 at h
 split at h
 ·obtain⟨rfl,_⟩:=Rd.ok.inj h;exact hv
 ·exact (cd h).elim
theorem tI (s:List UInt8) (hs:s.length≤30000):∀(n:Nat),(∀lvl a v a',iS s n lvl a=some (.ok v a')→a≤s.length→okV v)∧(∀o lvl a v a',fW s n o lvl a=some (.ok v a')→a≤s.length→okV v) ∧
  (∀o lvl a ks vs v a',gg s n o lvl a ks vs=some (.ok v a')→a≤s.length→ks.length≤a→vs.length≤a→(∀x,x∈ks→x.length≤4*s.length)→okL vs→okV v):=by
 intro n
 induction n with
 |zero=>refine⟨fun lvl a v a' h _=>?_,fun o lvl a v a' h _=>?_,fun o lvl a ks vs v a' h _ _ _ _ _=>?_⟩<;>simp[iS,fW,gg] at h
 |succ n ih =>
  obtain⟨ihV,ihI,ihL⟩:=ih
  refine⟨?_,?_,?_⟩
  ·intro lvl a v a' h ha
   have hb:=cz ha
   unfold iS at h
   cases hq:s[blk s a]? with
   |none=>rw[hq] at h;simp only[Option.some.injEq] at h;exact (cd h).elim
   |some c =>
    rw[hq] at h
    simp only at h
    have hlt:=aZ hq
    have plain:∀(k:Int) (t:List UInt8),t.length≤1000000→okV (.mk k t [] []):=fun k t ht=>.mk (by omega) (by simp) (fun x hx=>(List.not_mem_nil hx).elim) .nil (by simp)
    split at h
    ·simp only[Option.some.injEq] at h;exact tf h (plain _ _ (by simp))
    ·split at h
     ·simp only[Option.some.injEq] at h;exact tf h (plain _ _ (by simp))
     ·split at h
      ·simp only[Option.some.injEq] at h;exact tf h (plain _ _ (by simp))
      ·split at h
       ·split at h
        ·cases h
        ·simp only[Option.some.injEq] at h;exact (cd h).elim
        ·rename_i t a2 hS
         simp only[Option.some.injEq] at h
         obtain⟨rfl,_⟩:=Rd.ok.inj h
         have h1:=wv _ _ _ _ _ _ hS (by simp)
         have h2:=tR _ _ _ _ _ _ hS
         exact plain _ _ (by omega)
       ·split at h
        ·split at h
         ·simp only[Option.some.injEq] at h;exact (cd h).elim
         ·exact ihI _ _ _ _ _ h hlt
        ·split at h
         ·split at h
          ·simp only[Option.some.injEq] at h
           obtain⟨rfl,_⟩:=Rd.ok.inj h
           refine plain _ _ ?_
           rw[List.length_take,List.length_drop];omega
          ·simp only[Option.some.injEq] at h;exact (cd h).elim
         ·simp only[Option.some.injEq] at h;exact (cd h).elim
  ·intro o lvl a v a' h ha
   have hb:=cz ha
   unfold fW at h
   split at h
   ·simp only[Option.some.injEq] at h
    obtain⟨rfl,_⟩:=Rd.ok.inj h
    exact .mk (by simp) (by simp) (fun x hx=>(List.not_mem_nil hx).elim) .nil (by simp)
   ·exact ihL _ _ _ _ _ _ _ h hb.2 (by simp) (by simp) (fun x hx=>(List.not_mem_nil hx).elim) .nil
  ·intro o lvl a ks vs v a' h ha hkl hvl hks hvs
   unfold gg at h
   split at h
   ·cases h
   ·simp only[Option.some.injEq] at h;exact (cd h).elim
   ·rename_i k a4 hk
    have hk2:=qh hk ha
    have hk3:=BC hk
    split at h
    ·cases h
    ·simp only[Option.some.injEq] at h;exact (cd h).elim
    ·rename_i v2 a5 hv
     have hv2:=(jM s n).1 _ _ _ _ hv hk2.2
     have hb:=cz hv2.2
     have hok:=ihV _ _ _ _ hv hk2.2
     have hks2:∀x,x∈ks++k→x.length≤4*s.length:=by
      intro x hx
      rcases List.mem_append.1 hx with hx | hx
      ·exact hks x hx
      ·exact hk3.1 x hx
     split at h
     ·simp only[Option.some.injEq] at h
      obtain⟨rfl,_⟩:=Rd.ok.inj h
      refine .mk (by simp) ?_ (fun x hx=>?_) (y5 hvs hok) ?_
      ·rw[List.length_append];omega
      ·have:=hks2 x hx;omega
      ·rw[List.length_append];simp;omega
     ·split at h
      ·rename_i g
       exact ihL _ _ _ _ _ _ _ h (aZ g) (by rw[List.length_append];omega) (by rw[List.length_append];simp;omega) hks2 (y5 hvs hok)
      ·simp only[Option.some.injEq] at h;exact (cd h).elim
def fT (s:List UInt8) (r:Rd Val):Val×Nat×Int:=match r with
 |.err b e=>(.mk 0 [] [] [],b,e)
 |.ok v a=>if blk s a<s.length then (.mk 0 [] [] [],blk s a,19) else if iY v≠0 then (.mk 0 [] [] [],0,iY v) else (v,0,0)
theorem jf (s:List UInt8) (a b e:Int) (m:IM):(bP m (rdP s a b e)).get m.size=rdP s a b e:=jd _ _
set_option maxHeartbeats 1000000 in
theorem DR (s:List UInt8) (hs:s.length≤30000) (n:Nat) (r:Rd Val) (h:iS s n 1 0=some r) (m:IM) :
  ∃c,ValR (fT s r).1 c∧cw (.f 13) [.str s] m=some (.tup [.agg c,.int .i64 ((fT s r).2.1:Nat),.int .i64 (fT s r).2.2],m):=by
 have hP:=(sF s hs m.size n).1 1 0 (bP m (rdP s 0 0 0)) 0 r h (by omega) (by omega) (Nat.zero_le _) (jf _ _ _ _ _)
 have c0:¬(s.length:Int)>100000:=by omega
 have hnn:IV.nilSlice.refs=some 0:=rfl
 have hz:ValR (.mk 0 [] [] []) [.int .i64 0,.str [],.nilSlice,.nilSlice]:=.mk (.inl ⟨rfl,rfl⟩) .nil
 cases r with
 |err b e =>
  obtain⟨he,k,t,a',hal,hP⟩:=hP
  have he0:e≠0:=by rcases he with rfl | rfl<;>omega
  have he1:(e != 0)=true:=by simpa using he0
  simp only[dd] at hP
  have h1:=fun (K2:IV→IM→Option (IV×IM))=>ae hP (by simp[go_sem]) K2
  have hm1:=jf s a' b e m
  have h2:=fun (K2:IV→IM→Option (IV×IM))=>blC s (by omega) a' hal b e m.size _ hm1 K2
  simp only[dd] at h2
  have hm2:=jf s (blk s a':Nat) b e m
  have h3:=fun (K2:IV→IM→Option LR)=>xh s (blk s a':Nat) b e he0 m.size _ hm2 K2
  have hC:∀n s1 v v1 n1 s2 v2 v3,jV s m.size 0 n s1 v v1 n1 s2 v2 v3 (bP m (rdP s (blk s a':Nat) b e))=some (.normal,[.pB m.size 0],[.cells [.int .i64 n,.str s1,v,v1] [.any,.any,.own 1,.own 4],.cells [.int .i64 n1,.str s2,v2,v3] [.any,.any,.any,.any]],bP m (rdP s (blk s a':Nat) b e)):=by
   intro n s1 v v1 n1 s2 v2 v3
   by_cases g:((blk s a':Nat):Int)<(s.length:Int)
   ·simp[jV,go_sem,eH hm2,g,h3,dz]
   ·simp[jV,go_sem,eH hm2,g]
  refine⟨_,hz,?_⟩
  apply md
  simp only[rdP] at h1 h2 hC hm2
  simp only[F13,go_sem,c0,h1,h2,hC,af hnn,decide_false,Bool.false_eq_true,if_false,if_true]
  rw[show (0+0+2:Nat)=2 from rfl,show (0+0+1:Nat)=1 from rfl]
  have hm3:(bP m (BObj.cells [IV.int .i64 (blk s a':Nat),.int .i64 b,.int .i64 e,.str s] [.any,.any,.any,.any])).get m.size=rdP s (blk s a':Nat) b e:=hm2
  simp[go_sem,gq hm3,tT hm3,he1,he0,dH,fT]
 |ok v a =>
  obtain⟨c,hc,hP,hal⟩:=hP
  have hok:=(tI s hs n).1 _ _ _ _ h (Nat.zero_le _)
  obtain⟨k,t,K,V,rfl,hK,hV,_,_⟩:=hc.cells
  simp only[dd] at hP
  have h1:=fun (K2:IV→IM→Option (IV×IM))=>ae hP (by simp[go_sem]) K2
  have hm1:=jf s a 0 0 m
  have h2:=fun (K2:IV→IM→Option (IV×IM))=>blC s (by omega) a hal 0 0 m.size _ hm1 K2
  simp only[dd] at h2
  have hm2:=jf s (blk s a:Nat) 0 0 m
  have hm3:(bP m (BObj.cells [IV.int .i64 (blk s a:Nat),.int .i64 0,.int .i64 0,.str s] [.any,.any,.any,.any])).get m.size=rdP s (blk s a:Nat) 0 0:=hm2
  by_cases g:blk s a<s.length
  ·have g':((blk s a:Nat):Int)<(s.length:Int):=by omega
   have h3:=fun (K2:IV→IM→Option LR)=>rJ s (blk s a:Nat) 0 m.size _ hm2 K2
   simp only[dd] at h3
   have hC:∀n s1 v v1 n1 s2 v2 v3,jV s m.size 0 n s1 v v1 n1 s2 v2 v3 (bP m (rdP s (blk s a:Nat) 0 0))=some (.normal,[.pB m.size 0],[.cells [.int .i64 n,.str s1,v,v1] [.any,.any,.own 1,.own 4],.cells [.int .i64 n1,.str s2,v2,v3] [.any,.any,.any,.any]],bP m (rdP s (blk s a:Nat) (blk s a:Nat) 19)):=by
    intro n s1 v v1 n1 s2 v2 v3
    simp[jV,go_sem,eH hm2,g',h3,dz]
   have hm4:(bP m (BObj.cells [IV.int .i64 (blk s a:Nat),.int .i64 (blk s a:Nat),.int .i64 19,.str s] [.any,.any,.any,.any])).get m.size=rdP s (blk s a:Nat) (blk s a:Nat) 19:=jf _ _ _ _ _
   simp only[fT,if_pos g]
   refine⟨_,hz,?_⟩
   apply md
   simp only[rdP] at h1 h2 hC
   simp only[F13,go_sem,c0,h1,h2,hC,af hK,af hV,decide_false,Bool.false_eq_true,if_false,if_true]
   rw[show (0+0+2:Nat)=2 from rfl,show (0+0+1:Nat)=1 from rfl]
   simp[go_sem,gq hm4,tT hm4,dH]
  ·have g':¬((blk s a:Nat):Int)<(s.length:Int):=by omega
   have hC:∀n s1 v v1 n1 s2 v2 v3,jV s m.size 0 n s1 v v1 n1 s2 v2 v3 (bP m (rdP s (blk s a:Nat) 0 0))=some (.normal,[.pB m.size 0],[.cells [.int .i64 n,.str s1,v,v1] [.any,.any,.own 1,.own 4],.cells [.int .i64 n1,.str s2,v2,v3] [.any,.any,.any,.any]],bP m (rdP s (blk s a:Nat) 0 0)):=by
    intro n s1 v v1 n1 s2 v2 v3
    simp[jV,go_sem,eH hm2,g']
   have h25:=D5 v _ (bP m (rdP s (blk s a:Nat) 0 0)) hc hok
   have h4:=fun (K2:IV→IM→Option (IV×IM))=>ae h25 (by simp[go_sem,hK,hV]) K2
   simp only[fT,if_neg g]
   by_cases g2:iY v=0
   ·rw[if_neg (fun q=>q g2)]
    rw[g2] at h4
    refine⟨_,hc,?_⟩
    apply md
    simp only[rdP] at h1 h2 hC h4
    simp only[F13,go_sem,c0,h1,h2,hC,af hK,af hV,decide_false,Bool.false_eq_true,if_false,if_true]
    rw[show (0+0+2:Nat)=2 from rfl,show (0+0+1:Nat)=1 from rfl]
    simp[go_sem,gq hm3,tT hm3,h4,dH,hK,hV,af hK,af hV]
   ·rw[if_pos g2]
    have g3:(iY v != 0)=true:=by simpa using g2
    refine⟨_,hz,?_⟩
    apply md
    simp only[rdP] at h1 h2 hC h4
    simp only[F13,go_sem,c0,h1,h2,hC,af hK,af hV,decide_false,Bool.false_eq_true,if_false,if_true]
    rw[show (0+0+2:Nat)=2 from rfl,show (0+0+1:Nat)=1 from rfl]
    simp[go_sem,gq hm3,tT hm3,h4,g2,g3,dH,hK,hV,af hK,af hV]
end Go.Idl
