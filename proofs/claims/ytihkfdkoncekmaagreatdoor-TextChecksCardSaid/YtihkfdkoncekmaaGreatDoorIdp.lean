/- This text proves what the interpreter returns at the functions that TextChecks reaches, first part; it has no conditions. -/
import Derived.Test.YtihkfdkoncekmaaGreatDoorIdo
import Derived.Test.YtihkfdkoncekmaaGreatDoorIdl
import Derived.Test.YtihkfdkoncekmaaGreatDoorIdn
set_option linter.unusedSimpArgs false
set_option linter.unusedVariables false
namespace Go.Idl
attribute [local go_sem] bB bA gI gS aZ bF bW bT cA cC cf ct bp aO bk aS aQ cr bq aK cD aJ aA aF az aB aj cG bZ bh bf ck cd bo c9 cu bw cy cB cz cE bg bt bu aR bm cx aP aG aM aN bj an af aT aw cX cW bI ba bJ cn bL cg bH cm List.flatMap_cons List.flatMap_nil
inductive Val where
 |mk (k:Int) (t:List UInt8) (ks:List (List UInt8)) (vs:List Val)
 deriving Inhabited
mutual
inductive ValR:Val→List IV→Prop
 |mk {k:Int}{t:List UInt8}{ks:List (List UInt8)}{vs:List Val}{K V:IV}:SlS K ks→SlV V vs→ValR (.mk k t ks vs) [.int .i64 k,.str t,K,V]
inductive SlV:IV→List Val→Prop
 |nil:SlV .nilSlice []
 |sl {vs:List Val}{row:List IV}{n:Nat}:RowR vs row→n=vs.length→SlV (.sl row n) vs
inductive RowR:List Val→List IV→Prop
 |nil:RowR [] []
 |cons {v:Val}{vs:List Val}{c r:List IV}:ValR v c→RowR vs r→RowR (v::vs) (c++r)
end
theorem ValR.len {v:Val}{c:List IV}(h:ValR v c):c.length=4:=by cases h;rfl
theorem RowR.len:∀{vs:List Val}{r:List IV},RowR vs r→r.length=4*vs.length
 |_,_,.nil=>rfl
 |_,_,.cons hv hr=>by rw[List.length_append,hv.len,hr.len,List.length_cons];omega
theorem RowR.get:∀{vs:List Val}{r:List IV},RowR vs r→∀(i:Nat) (h:i<vs.length),∃c,ValR vs[i] c∧cut r (i*4) 4=some c
 |_,_,.nil,i,h=>by simp at h
 |_,_,.cons (v:=v) (vs:=vs) (c:=c) (r:=r) hv hr,i,h=>by
  cases i with
  |zero =>
   refine⟨c,hv,?_⟩
   have:=hv.len
   simp[cut,this]
  |succ i =>
   obtain⟨d,h1,h2⟩:=hr.get i (by simpa using h)
   refine⟨d,h1,?_⟩
   have:=hv.len
   unfold cut at h2 ⊢
   split at h2
   ·rename_i hl
    rw[if_pos (by rw[List.length_append];omega),List.drop_append]
    have e:(i+1)*4-c.length=i*4:=by omega
    have e2:c.drop ((i+1)*4)=[]:=List.drop_eq_nil_iff.2 (by omega)
    rw[e,e2]
    exact h2
   ·cases h2
theorem SlS.refs {K:IV}{ks:List (List UInt8)}(h:SlS K ks):K.refs=some 0:=by rcases h with ⟨rfl,_⟩ | rfl<;>rfl
theorem SlS.plain {K:IV}{ks:List (List UInt8)}(h:SlS K ks):K.plain=true:=by rcases h with ⟨rfl,_⟩ | rfl<;>rfl
theorem SlV.refs {K:IV}{ks:List Val}(h:SlV K ks):K.refs=some 0:=by cases h<;>rfl
theorem SlV.plain {K:IV}{ks:List Val}(h:SlV K ks):K.plain=true:=by cases h<;>rfl
theorem SlV.toN {V:IV}{vs:List Val}(h:SlV V vs):SlN V vs.length:=by
 cases h with
 |nil=>exact .inl ⟨rfl,rfl⟩
 |sl hr hn=>exact .inr ⟨_,by rw[hn]⟩
theorem SlV.len {V:IV}{vs:List Val}(h:SlV V vs):POp.ev .lenSlice [V]=some (.int .i64 (vs.length:Int)):=GD h.toN
mutual
inductive okV:Val→Prop
 |mk {k:Int}{t:List UInt8}{ks:List (List UInt8)}{vs:List Val}:t.length≤140737488355328→ks.length≤1000000→(∀s,s∈ks→s.length≤140737488355328)→okL vs→vs.length≤1000000→okV (.mk k t ks vs)
inductive okL:List Val→Prop
 |nil:okL []
 |cons {v:Val}{vs:List Val}:okV v→okL vs→okL (v::vs)
end
mutual
def dY:Val→Int→Int→Int×Int
 |.mk k t ks vs,lvl,left=>if left=0 then (5,left) else if lvl>40 then (21,left-1) else
   if jA k t ks vs.length≠0 then (jA k t ks vs.length,left-1) else eK vs (lvl+1) (left-1)
def eK:List Val→Int→Int→Int×Int
 |[],_,left=>(0,left)
 |v::vs,lvl,left=>if (dY v lvl left).1≠0 then dY v lvl left else eK vs lvl (dY v lvl left).2
end
mutual
theorem uB:∀(v:Val) (lvl left:Int),0≤left→0≤(dY v lvl left).2∧(dY v lvl left).2≤left
 |.mk k t ks vs,lvl,left,h=>by
  unfold dY
  by_cases h0:left=0
  ·rw[if_pos h0];exact⟨h,Int.le_refl _⟩
  ·rw[if_neg h0]
   by_cases h1:lvl>40
   ·rw[if_pos h1];exact⟨by simp only;omega,by simp only;omega⟩
   ·rw[if_neg h1]
    by_cases h2:jA k t ks vs.length≠0
    ·rw[if_pos h2];exact⟨by simp only;omega,by simp only;omega⟩
    ·rw[if_neg h2]
     have:=jm vs (lvl+1) (left-1) (by omega)
     omega
theorem jm:∀(vs:List Val) (lvl left:Int),0≤left→0≤(eK vs lvl left).2∧(eK vs lvl left).2≤left
 |[],lvl,left,h=>⟨h,Int.le_refl _⟩
 |v::vs,lvl,left,h=>by
  unfold eK
  have h1:=uB v lvl left h
  by_cases h2:(dY v lvl left).1≠0
  ·rw[if_pos h2];exact h1
  ·rw[if_neg h2]
   have:=jm vs lvl (dY v lvl left).2 h1.1
   omega
end
def bxI (n:Int):BObj:=.cells [.int .i64 n] [.any]
theorem au {R:Type}{c:Callee}{vs:List IV}{m m':IM}{v:IV}(h:cw c vs m=some (v,m')) (hr:(al (vs.flatMap IV.cells)).isSome=true) (K:IV→IM→Option R):bc cw c vs [] m K=K v m':=Fk h hr K
theorem ValR.cells {v:Val}{c:List IV}(h:ValR v c):∃k t K V,c=[.int .i64 k,.str t,K,V]∧K.refs=some 0∧V.refs=some 0∧K.plain=true∧V.plain=true:=by
 cases h with
 |mk hK hV=>exact⟨_,_,_,_,rfl,hK.refs,hV.refs,hK.plain,hV.plain⟩
theorem wZ {row:List IV}{n i:Nat}(h:i<n):POp.ev (.indexS 4) [.sl row n,.int .i64 (i:Int)]=some (.pI row (i*4)):=by
 have c1:(i:Int)<(n:Int):=by omega
 have c2:(0:Int)≤(i:Int):=by omega
 simp[POp.ev,c1,c2]
def P54 (v:Val):Prop:=∀(c:List IV) (lvl left:Int) (id:Nat) (m:IM),ValR v c→okV v→0≤lvl→lvl≤41→0≤left→left≤1000000→m.get id=bxI left →
  cw (.f 54) [.agg c,.int .i64 lvl,.pB id 0] m=some (.int .i64 (dY v lvl left).1,bP m id (bxI (dY v lvl left).2))
theorem okL.mem {vs:List Val}(h:okL vs) {v:Val}(hv:v∈vs):okV v:=by
 induction vs with
 |nil=>cases hv
 |cons a r ih=>cases h with | cons h1 h2=>rcases List.mem_cons.1 hv with rfl | hv;exact h1;exact ih h2 hv
theorem La (vs:List Val) (row:List IV) (hr:RowR vs row) (hok:okL vs) (hn:vs.length≤140737488355328) (ih:∀v,v∈vs→P54 v) (lvl:Int) (id:Nat) (hl0:0≤lvl) (hl1:lvl≤40):∀(k i:Nat) (left:Int) (m:IM),vs.length=i+k→0≤left→left≤1000000→m.get id=bxI left →
  CB lvl id (.sl row vs.length) vs.length i m=some (if (eK (vs.drop i) (lvl+1) left).1=0 then (.exit 0,[],[],bP m id (bxI (eK (vs.drop i) (lvl+1) left).2)) else (.ret,[.int .i64 (eK (vs.drop i) (lvl+1) left).1],[],bP m id (bxI (eK (vs.drop i) (lvl+1) left).2))):=by
 intro k
 induction k with
 |zero =>
  intro i left m hk hf0 hf1 hm
  have e:vs.drop i=[]:=List.drop_eq_nil_iff.2 (by omega)
  have c1:¬(i:Int)<(vs.length:Int):=by omega
  rw[e,rB]
  simp[t6,go_sem,c1,eK,gC hm (iI hm)]
 |succ k ihk =>
  intro i left m hk hf0 hf1 hm
  have hi:i<vs.length:=by omega
  have c1:(i:Int)<(vs.length:Int):=by omega
  obtain⟨c,hc,hcut⟩:=hr.get i hi
  have hv:vs[i]∈vs:=List.getElem_mem hi
  have hcall:=ih _ hv c (lvl+1) left id m hc (hok.mem hv) (by omega) (by omega) hf0 hf1 hm
  have hle:=uB vs[i] (lvl+1) left hf0
  have e1:IntKind.i64.wrap (lvl+1)=lvl+1:=w64 (by omega) (by omega)
  have e2:IntKind.i64.wrap ((i:Int)+1)=((i+1:Nat):Int):=by rw[w64 (by omega) (by omega)];rfl
  have hm':(bP m id (bxI (dY vs[i] (lvl+1) left).2)).get id=bxI (dY vs[i] (lvl+1) left).2:=fZ (iI hm) _
  have hstep:=ihk (i+1) (dY vs[i] (lvl+1) left).2 (bP m id (bxI (dY vs[i] (lvl+1) left).2)) (by omega) hle.1 (by omega) hm'
  rw[bC] at hstep
  rw[List.drop_eq_getElem_cons hi]
  obtain⟨a,t,K,V,rfl,hK,hV,hKp,hVp⟩:=hc.cells
  have hcc:=fun (K2:IV→IM→Option (St⊕LR))=>au hcall (by simp[go_sem,hK,hV]) K2
  rw[rB]
  generalize vs[i]=x at *
  by_cases g:(dY x (lvl+1) left).1=0
  ·have hc0:eK (x::vs.drop (i+1)) (lvl+1) left=eK (vs.drop (i+1)) (lvl+1) (dY x (lvl+1) left).2:=by rw[eK,if_neg (fun h=>h g)]
   rw[hc0,←hstep]
   simp only[t6,go_sem,c1,decide_true,if_true,av (wZ hi),gm hcut,ah hK,ah hV,e1,hcc,g,e2,c7,bne_self_eq_false,Bool.false_eq_true,if_false]
   rfl
  ·have g':((dY x (lvl+1) left).1 != 0)=true:=by simpa using g
   have hc0:eK (x::vs.drop (i+1)) (lvl+1) left=dY x (lvl+1) left:=by rw[eK,if_pos g]
   rw[hc0,if_neg g]
   simp only[t6,go_sem,c1,decide_true,if_true,av (wZ hi),gm hcut,ah hK,ah hV,e1,hcc,g']
theorem An (v:Val):P54 v:=by
 intro c lvl left id m hR hO hl0 hl1 hf0 hf1 hm
 match v,hR,hO with
 |.mk k t ks vs,.mk (K:=K) (V:=V) hK hV,.mk h1 h2 h3 h4 h5 =>
  have hlt:id<m.size:=iI hm
  have ih:∀x,x∈vs→P54 x:=fun x hx=>An x
  unfold dY
  apply De
  unfold F54
  rw[ah hK.refs,ah hV.refs]
  simp only[bxI] at hm ⊢
  by_cases g0:left=0
  ·subst g0
   have:bP m id (.cells [.int .i64 0] [.any])=m:=gC hm hlt
   simp[go_sem,dw hm,a8,this,an]
  ·have g0':(left==0)=false:=by simpa using g0
   have hw:IntKind.i64.wrap (left-1)=left-1:=w64 (by omega) (by omega)
   have hst:=fun (K:IM→Option (IV×IM))=>gJ (m:=m) (id:=id) (off:=0) (vs:=[.int .i64 (left-1)]) (c:=.any) hm (r:=0) rfl (Nat.zero_le _) (Nat.le_refl _) K
   rw[show over [IV.int .i64 left] 0 [.int .i64 (left-1)]=[.int .i64 (left-1)] from rfl,show aH [Cap.any] 0 [IV.int .i64 (left-1)].length .any=[.any] from rfl] at hst
   by_cases g1:lvl>40
   ·simp[go_sem,dw hm,a8,g0,g0',hw,hst,g1,af]
   ·have h84:=IQ k t K V ks vs.length hK hV.toN h1 (by omega) h3 (bP m id (.cells [.int .i64 (left-1)] [.any]))
    have hc:=fun (K2:IV→IM→Option (IV×IM))=>au h84 (by simp[vc,go_sem,hK.refs,hV.refs]) K2
    simp only[vc] at hc
    by_cases g2:jA k t ks vs.length=0
    ·have hm':(bP m id (bxI (left-1))).get id=bxI (left-1):=fZ hlt _
     have hle:=jm vs (lvl+1) (left-1) (by omega)
     rw[if_neg g0,if_neg g1,if_neg (fun h=>h g2)]
     cases hV with
     |nil =>
      have g2:jA k t ks 0=0:=g2
      simp[go_sem,dw hm,a8,g0,g0',hw,hst,g1,hc,g2,af,av,c7,POp.ev,rB,t6,eK,evC]
     |sl hr hn =>
      subst hn
      have hL:=La vs _ hr h4 (by omega) ih lvl id hl0 (by omega) vs.length 0 (left-1) (bP m id (bxI (left-1))) (by omega) (by omega) (by omega) hm'
      rw[bC,List.drop_zero] at hL
      simp only[bxI] at hL
      rw[show ((0:Nat):Int)=0 from rfl] at hL
      have hlen:∀row,POp.ev .lenSlice [.sl row vs.length]=some (.int .i64 (vs.length:Int)):=fun _=>rfl
      by_cases g3:(eK vs (lvl+1) (left-1)).1=0
      ·rw[if_pos g3] at hL
       simp[go_sem,dw hm,a8,g0,g0',hw,hst,g1,hc,g2,af,av (hlen _),c7,hL,g3]
      ·rw[if_neg g3] at hL
       simp[go_sem,dw hm,a8,g0,g0',hw,hst,g1,hc,g2,af,av (hlen _),c7,hL]
    ·have g2':(jA k t ks vs.length != 0)=true:=by simpa using g2
     rw[if_neg g0,if_neg g1,if_pos g2]
     simp[go_sem,dw hm,a8,g0,g0',hw,hst,g1,hc,g2,g2',af]
termination_by SizeOf.sizeOf v
decreasing_by
 have:=List.sizeOf_lt_of_mem hx
 simp_wf
 omega
end Go.Idl
namespace Go.Idl
attribute [local go_sem] bB bA gI gS aZ bF bW bT cA cC cf ct bp aO bk aS aQ cr bq aK cD aJ aA aF az aB aj cG bZ bh bf ck cd bo c9 cu bw cy cB cz cE bg bt bu aR bm cx aP aG aM aN bj an af aT aw cX cW bI ba bJ cn bL cg bH cm List.flatMap_cons List.flatMap_nil
def P55 (v:Val):Prop:=∀(c:List IV) (lvl left:Int) (id:Nat) (m:IM),ValR v c→okV v→0≤lvl→lvl≤41→0≤left→left≤1000000→m.get id=bxI left →
  cw (.f 55) [.pB id 0,.agg c,.int .i64 lvl] m=some (.int .i64 (dY v lvl left).1,bP m id (bxI (dY v lvl left).2))
theorem Kd (kk:Int) (t:List UInt8) (KK:IV) (vs:List Val) (row:List IV) (hr:RowR vs row) (hok:okL vs) (hn:vs.length≤140737488355328) (ih:∀v,v∈vs→P55 v) (lvl:Int) (id:Nat) (hl0:0≤lvl) (hl1:lvl≤40):∀(k i:Nat) (left:Int) (m:IM),vs.length=i+k→0≤left→left≤1000000→m.get id=bxI left →
  EK id lvl i kk t KK (.sl row vs.length) m=some (if (eK (vs.drop i) (lvl+1) left).1=0 then (.exit 0,[],[],bP m id (bxI (eK (vs.drop i) (lvl+1) left).2)) else (.ret,[.int .i64 (eK (vs.drop i) (lvl+1) left).1],[],bP m id (bxI (eK (vs.drop i) (lvl+1) left).2))):=by
 have hlen:POp.ev .lenSlice [.sl row vs.length]=some (.int .i64 (vs.length:Int)):=rfl
 intro k
 induction k with
 |zero =>
  intro i left m hk hf0 hf1 hm
  have e:vs.drop i=[]:=List.drop_eq_nil_iff.2 (by omega)
  have c1:¬(i:Int)<(vs.length:Int):=by omega
  rw[e,sx]
  simp[tX,go_sem,c1,eK,gC hm (iI hm),av hlen]
 |succ k ihk =>
  intro i left m hk hf0 hf1 hm
  have hi:i<vs.length:=by omega
  have c1:(i:Int)<(vs.length:Int):=by omega
  obtain⟨c,hc,hcut⟩:=hr.get i hi
  have hv:vs[i]∈vs:=List.getElem_mem hi
  have hcall:=ih _ hv c (lvl+1) left id m hc (hok.mem hv) (by omega) (by omega) hf0 hf1 hm
  have hle:=uB vs[i] (lvl+1) left hf0
  have e1:IntKind.i64.wrap (lvl+1)=lvl+1:=w64 (by omega) (by omega)
  have e2:IntKind.i64.wrap ((i:Int)+1)=((i+1:Nat):Int):=by rw[w64 (by omega) (by omega)];rfl
  have hm':(bP m id (bxI (dY vs[i] (lvl+1) left).2)).get id=bxI (dY vs[i] (lvl+1) left).2:=fZ (iI hm) _
  have hstep:=ihk (i+1) (dY vs[i] (lvl+1) left).2 (bP m id (bxI (dY vs[i] (lvl+1) left).2)) (by omega) hle.1 (by omega) hm'
  rw[bC] at hstep
  rw[List.drop_eq_getElem_cons hi]
  obtain⟨a,t,K,V,rfl,hK,hV,hKp,hVp⟩:=hc.cells
  have hcc:=fun (K2:IV→IM→Option (St⊕LR))=>au hcall (by simp[go_sem,hK,hV]) K2
  rw[sx]
  generalize vs[i]=x at *
  by_cases g:(dY x (lvl+1) left).1=0
  ·have hc0:eK (x::vs.drop (i+1)) (lvl+1) left=eK (vs.drop (i+1)) (lvl+1) (dY x (lvl+1) left).2:=by rw[eK,if_neg (fun h=>h g)]
   rw[hc0,←hstep]
   simp only[tX,go_sem,c1,decide_true,if_true,av hlen,av (wZ hi),gm hcut,ah hK,ah hV,e1,hcc,g,e2,c7,bne_self_eq_false,Bool.false_eq_true,if_false]
   rfl
  ·have g':((dY x (lvl+1) left).1 != 0)=true:=by simpa using g
   have hc0:eK (x::vs.drop (i+1)) (lvl+1) left=dY x (lvl+1) left:=by rw[eK,if_pos g]
   rw[hc0,if_neg g]
   simp only[tX,go_sem,c1,decide_true,if_true,av hlen,av (wZ hi),gm hcut,ah hK,ah hV,e1,hcc,g']
theorem zD (v:Val):P55 v:=by
 intro c lvl left id m hR hO hl0 hl1 hf0 hf1 hm
 match v,hR,hO with
 |.mk k t ks vs,.mk (K:=K) (V:=V) hK hV,.mk h1 h2 h3 h4 h5 =>
  have hlt:id<m.size:=iI hm
  have ih:∀x,x∈vs→P55 x:=fun x hx=>zD x
  unfold dY
  apply DX
  unfold F55
  rw[ah hK.refs,ah hV.refs]
  simp only[bxI] at hm ⊢
  by_cases g0:left=0
  ·subst g0
   have:bP m id (.cells [.int .i64 0] [.any])=m:=gC hm hlt
   simp[go_sem,dw hm,a8,this,an]
  ·have g0':(left==0)=false:=by simpa using g0
   have hw:IntKind.i64.wrap (left-1)=left-1:=w64 (by omega) (by omega)
   have hst:=fun (K:IM→Option (IV×IM))=>gJ (m:=m) (id:=id) (off:=0) (vs:=[.int .i64 (left-1)]) (c:=.any) hm (r:=0) rfl (Nat.zero_le _) (Nat.le_refl _) K
   rw[show over [IV.int .i64 left] 0 [.int .i64 (left-1)]=[.int .i64 (left-1)] from rfl,show aH [Cap.any] 0 [IV.int .i64 (left-1)].length .any=[.any] from rfl] at hst
   by_cases g1:lvl>40
   ·simp[go_sem,dw hm,a8,g0,g0',hw,hst,g1,af]
   ·have h84:=Jd k t K V ks vs.length hK hV.toN h1 (by omega) h3 (bP m id (.cells [.int .i64 (left-1)] [.any]))
    have hc:=fun (K2:IV→IM→Option (IV×IM))=>au h84 (by simp[vc,go_sem,hK.refs,hV.refs]) K2
    simp only[vc] at hc
    by_cases g2:jA k t ks vs.length=0
    ·have hm':(bP m id (bxI (left-1))).get id=bxI (left-1):=fZ hlt _
     have hle:=jm vs (lvl+1) (left-1) (by omega)
     rw[if_neg g0,if_neg g1,if_neg (fun h=>h g2)]
     cases hV with
     |nil =>
      have g2:jA k t ks 0=0:=g2
      simp[go_sem,dw hm,a8,g0,g0',hw,hst,g1,hc,g2,af,av,c7,POp.ev,sx,tX,eK,evC]
     |sl hr hn =>
      subst hn
      have hL:=Kd k t K vs _ hr h4 (by omega) ih lvl id hl0 (by omega) vs.length 0 (left-1) (bP m id (bxI (left-1))) (by omega) (by omega) (by omega) hm'
      rw[bC,List.drop_zero] at hL
      simp only[bxI] at hL
      rw[show ((0:Nat):Int)=0 from rfl] at hL
      by_cases g3:(eK vs (lvl+1) (left-1)).1=0
      ·rw[if_pos g3] at hL
       simp[go_sem,dw hm,a8,g0,g0',hw,hst,g1,hc,g2,af,c7,hL,g3]
      ·rw[if_neg g3] at hL
       simp[go_sem,dw hm,a8,g0,g0',hw,hst,g1,hc,g2,af,c7,hL]
    ·have g2':(jA k t ks vs.length != 0)=true:=by simpa using g2
     rw[if_neg g0,if_neg g1,if_pos g2]
     simp[go_sem,dw hm,a8,g0,g0',hw,hst,g1,hc,g2,g2',af]
termination_by SizeOf.sizeOf v
decreasing_by
 have:=List.sizeOf_lt_of_mem hx
 simp_wf
 omega
def gy (v:Val):Int:=(dY v 1 2000).1
theorem AJ (v:Val) (c:List IV) (m:IM) (hR:ValR v c) (hO:okV v):cw (.f 25) [.agg c] m=some (.int .i64 (gy v),m):=by
 obtain⟨k,t,K,V,rfl,hK,hV,hKp,hVp⟩:=hR.cells
 apply Dh
 have h:=An v _ 1 2000 m.size (bR m (bxI 2000)) hR hO (by omega) (by omega) (by omega) (by omega) (eD _ _)
 have hc:=fun (K2:IV→IM→Option (IV×IM))=>au h (by simp[go_sem,hK,hV]) K2
 simp only[bxI,eH] at hc
 have hst:=fun (K2:IM→Option (IV×IM))=>gJ (m:=bR m (bxI 0)) (id:=m.size) (off:=0) (vs:=[.int .i64 2000]) (c:=.any) (eD _ _) (r:=0) rfl (Nat.zero_le _) (Nat.le_refl _) K2
 rw[eH,show over [IV.int .i64 0] 0 [.int .i64 2000]=[.int .i64 2000] from rfl,show aH [Cap.any] 0 [IV.int .i64 2000].length .any=[.any] from rfl] at hst
 simp only[bxI] at hst
 simp[F25,go_sem,ah hK,ah hV,hst,hc,iK,gy]
theorem zK (v:Val) (c:List IV) (m:IM) (hR:ValR v c) (hO:okV v):cw (.f 26) [.agg c] m=some (.int .i64 (gy v),m):=by
 obtain⟨k,t,K,V,rfl,hK,hV,hKp,hVp⟩:=hR.cells
 apply DD
 have h:=zD v _ 1 2000 m.size (bR m (bxI 2000)) hR hO (by omega) (by omega) (by omega) (by omega) (eD _ _)
 have hc:=fun (K2:IV→IM→Option (IV×IM))=>au h (by simp[go_sem,hK,hV]) K2
 simp only[bxI,eH] at hc
 simp[F26,go_sem,ah hK,ah hV,hc,iK,gy]
end Go.Idl
namespace Go.Idl
attribute [local go_sem] bB bA gI gS aZ bF bW bT cA cC cf ct bp aO bk aS aQ cr bq aK cD aJ aA aF az aB aj cG bZ bh bf ck cd bo c9 cu bw cy cB cz cE bg bt bu aR bm cx aP aG aM aN bj an af aT aw cX cW bI ba bJ cn bL cg bH cm List.flatMap_cons List.flatMap_nil
section
variable {R:Type}{m:IM}{id:Nat}{s:List UInt8}{a bad e:Int}
end
theorem LZ {s:List UInt8}{i:Nat}{c:UInt8}(h:s[i]?=some c):POp.ev .idxStr [.str s,.int .i64 (i:Int)]=some (.int .u8 (c.toNat:Int)):=by
 have c2:(0:Int)≤(i:Int):=by omega
 simp[POp.ev,c2,h]
theorem FZ {c d:UInt8}:((c.toNat:Int)==(d.toNat:Int))=(c==d):=by
 by_cases h:c=d
 ·subst h;simp
 ·have h1:(c==d)=false:=by simpa using h
  have h2:c.toNat≠d.toNat:=fun e=>h (UInt8.toNat_inj.1 e)
  rw[h1];simp;omega
end Go.Idl
namespace Go.Idl
attribute [local go_sem] bB bA gI gS aZ bF bW bT cA cC cf ct bp aO bk aS aQ cr bq aK cD aJ aA aF az aB aj cG bZ bh bf ck cd bo c9 cu bw cy cB cz cE bg bt bu aR bm cx aP aG aM aN bj an af aT aw cX cW bI ba bJ cn bL cg bH cm List.flatMap_cons List.flatMap_nil
inductive Rd (α:Type) where
 |ok (x:α) (a:Nat)
 |err (b:Nat) (c:Int)
end Go.Idl
namespace Go.Idl
attribute [local go_sem] bB bA gI gS aZ bF bW bT cA cC cf ct bp aO bk aS aQ cr bq aK cD aJ aA aF az aB aj cG bZ bh bf ck cd bo c9 cu bw cy cB cz cE bg bt bu aR bm cx aP aG aM aN bj an af aT aw cX cW bI ba bJ cn bL cg bH cm List.flatMap_cons List.flatMap_nil
def bxW (k:Int) (t:List UInt8):BObj:=.cells [.int .i64 k,.str t,.nilSlice,.nilSlice] [.any,.any,.own 1,.own 4]
end Go.Idl
namespace Go.Idl
attribute [local go_sem] bB bA gI gS aZ bF bW bT cA cC cf ct bp aO bk aS aQ cr bq aK cD aJ aA aF az aB aj cG bZ bh bf ck cd bo c9 cu bw cy cB cz cE bg bt bu aR bm cx aP aG aM aN bj an af aT aw cX cW bI ba bJ cn bL cg bH cm List.flatMap_cons List.flatMap_nil
attribute [local go_sem] oA gA vA wA nA fA dA eA oV oW oN oD oF IFn.call ICode.run aU IOp.run IOp.run0 gate IK.ok aX da OTag.hits IK.run Arg.rd look aE rdAll POp.ev dy fj fD fG fC fB fE fl fq fx fI fm cY fH fh b8 St.put lkSlot lkL lkB lkC ay bM IK.link b9 cN St.drop St.capAt St.owner linkOf cM bV cJ IV.refsDeep IV.refsDeep.go IV.refs IV.refs.go al IV.plain cQ aC de bG IV.cells IV.isU IV.isL cZ cS over dz cut eqS aW bnd dS ee du dE dB cO aa aV eB dP a7 aH dH c5 a6 uqB bE St.head dj dh cI dn
end Go.Idl
namespace Go.Idl
attribute [local go_sem] bB bA gI gS aZ bF bW bT cA cC cf ct bp aO bk aS aQ cr bq aK cD aJ aA aF az aB aj cG bZ bh bf ck cd bo c9 cu bw cy cB cz cE bg bt bu aR bm cx aP aG aM aN bj an af aT aw cX cW bI ba bJ cn bL cg bH cm List.flatMap_cons List.flatMap_nil
end Go.Idl
namespace Go.Idl
attribute [local go_sem] bB bA gI gS aZ bF bW bT cA cC cf ct bp aO bk aS aQ cr bq aK cD aJ aA aF az aB aj cG bZ bh bf ck cd bo c9 cu bw cy cB cz cE bg bt bu aR bm cx aP aG aM aN bj an af aT aw cX cW bI ba bJ cn bL cg bH cm List.flatMap_cons List.flatMap_nil
theorem Cz {R:Type}(acc x:List UInt8) (h:acc.length+x.length≤ak) (K:IV→Option R):iy (bsl acc) 1 1 (aa x) x.length K=K (bsl (acc++x)):=by
 cases acc with
 |nil =>
  cases x with
  |nil=>simp[bsl,iy,bQ,aa]
  |cons b r =>
   have h':r.length+1≤ak:=by simpa using h
   simp[bsl,iy,aZ,bF,h']
 |cons b r =>
  have hl:=dD (b::r)
  have hx:bsl (b::r++x)=.sl (aa (b::r)++aa x) ((b::r).length+x.length):=by
   rw[←iJ,←List.length_append];rfl
  rw[hx]
  show iy (.sl (aa (b::r)) (b::r).length) 1 1 (aa x) x.length K=_
  generalize (b::r)=q at *
  simp[iy,bF,h,hl]
theorem jd {R:Type}(l:List UInt8) (X:Option R):c7 (bsl l) X=X:=AH (xD l) X
end Go.Idl
namespace Go.Idl
attribute [local go_sem] bB bA gI gS aZ bF bW bT cA cC cf ct bp aO bk aS aQ cr bq aK cD aJ aA aF az aB aj cG bZ bh bf ck cd bo c9 cu bw cy cB cz cE bg bt bu aR bm cx aP aG aM aN bj an af
theorem SlS.app {K:IV}{ks:List (List UInt8)}(h:SlS K ks) (x:List UInt8) (hb:(ks.length+1)*16≤ak):∃K',SlS K' (ks++[x])∧∀{R:Type}(f:IV→Option R),iy K 1 16 [.str x] 1 f=f K':=by
 have hb2:1*16≤ak:=by decide
 rcases h with ⟨rfl,rfl⟩ | rfl
 ·refine⟨.sl [.str x] 1,.inr rfl,fun f=>?_⟩
  simp[iy,aZ,bF,hb2]
 ·refine⟨.sl (ks.map .str++[.str x]) (ks.length+1),.inr (by simp),fun f=>?_⟩
  simp[iy,bF,hb]
theorem RowR.app:∀{vs:List Val}{r:List IV}{v:Val}{c:List IV},RowR vs r→ValR v c→RowR (vs++[v]) (r++c)
 |_,_,_,c,.nil,h=>by
  have:=RowR.cons h .nil
  simpa using this
 |_,_,_,_,.cons hv hr,h=>by
  rw[List.cons_append,List.append_assoc]
  exact .cons hv (hr.app h)
theorem SlV.app {V:IV}{vs:List Val}(h:SlV V vs) {v:Val}{c:List IV}(hc:ValR v c) (hb:(vs.length+1)*72≤ak):∃V',SlV V' (vs++[v])∧∀{R:Type}(f:IV→Option R),iy V 4 72 c 1 f=f V':=by
 have hb2:1*72≤ak:=by decide
 cases h with
 |nil =>
  refine⟨.sl c 1,.sl (by simpa using RowR.cons hc .nil) rfl,fun f=>?_⟩
  simp[iy,aZ,bF,hb2]
 |sl hr hn =>
  subst hn
  refine⟨.sl (_++c) (vs.length+1),.sl (hr.app hc) (by simp),fun f=>?_⟩
  have:=hr.len
  simp[iy,bF,hb,this,Nat.mul_comm]
end Go.Idl
namespace Go.Idl
attribute [local go_sem] bB bA gI gS aZ bF bW bT cA cC cf ct bp aO bk aS aQ cr bq aK cD aJ aA aF az aB aj cG bZ bh bf ck cd bo c9 cu bw cy cB cz cE bg bt bu aR bm cx aP aG aM aN bj an af aT aw cX cW bI ba bJ cn bL cg bH cm List.flatMap_cons List.flatMap_nil
theorem SlS.isSl {K:IV}{ks:List (List UInt8)}(h:SlS K ks) {R:Type}(X:Option R):Idl.isSl K X=X:=by rcases h with ⟨rfl,_⟩ | rfl<;>rfl
theorem SlV.isSl {K:IV}{ks:List Val}(h:SlV K ks) {R:Type}(X:Option R):Idl.isSl K X=X:=by cases h<;>rfl
end Go.Idl
namespace Go.Idl
end Go.Idl
namespace Go.Idl
attribute [local go_sem] bB bA gI gS aZ bF bW bT cA cC cf ct bp aO bk aS aQ cr bq aK cD aJ aA aF az aB aj cG bZ bh bf ck cd bo c9 cu bw cy cB cz cE bg bt bu aR bm cx aP aG aM aN bj an af aT aw cX cW bI ba bJ cn bL cg bH cm List.flatMap_cons List.flatMap_nil
end Go.Idl
namespace Go.Idl
attribute [local go_sem] bB bA gI gS aZ bF bW bT cA cC cf ct bp aO bk aS aQ cr bq aK cD aJ aA aF az aB aj cG bZ bh bf ck cd bo c9 cu bw cy cB cz cE bg bt bu aR bm cx aP aG aM aN bj an af aT aw cX cW bI ba bJ cn bL cg bH cm List.flatMap_cons List.flatMap_nil
end Go.Idl
namespace Go.Idl
attribute [local go_sem] bB bA gI gS aZ bF bW bT cA cC cf ct bp aO bk aS aQ cr bq aK cD aJ aA aF az aB aj cG bZ bh bf ck cd bo c9 cu bw cy cB cz cE bg bt bu aR bm cx aP aG aM aN bj an af aT aw cX cW bI ba bJ cn bL cg bH cm List.flatMap_cons List.flatMap_nil
end Go.Idl
namespace Go.Idl
attribute [local go_sem] bB bA gI gS aZ bF bW bT cA cC cf ct bp aO bk aS aQ cr bq aK cD aJ aA aF az aB aj cG bZ bh bf ck cd bo c9 cu bw cy cB cz cE bg bt bu aR bm cx aP aG aM aN bj an af aT aw cX cW bI ba bJ cn bL cg bH cm List.flatMap_cons List.flatMap_nil
section
variable {R:Type}{m:IM}{id:Nat}{s:List UInt8}{a bad e:Int}
end
section
variable {R:Type}{m:IM}{id:Nat}{s:List UInt8}
end
end Go.Idl
namespace Go.Idl
attribute [local go_sem] bB bA gI gS aZ bF bW bT cA cC cf ct bp aO bk aS aQ cr bq aK cD aJ aA aF az aB aj cG bZ bh bf ck cd bo c9 cu bw cy cB cz cE bg bt bu aR bm cx aP aG aM aN bj an af aT aw cX cW bI ba bJ cn bL cg bH cm List.flatMap_cons List.flatMap_nil
section
variable {R:Type}{m:IM}{id:Nat}{s:List UInt8}
end
end Go.Idl
namespace Go.Idl
attribute [local go_sem] bB bA gI gS aZ bF bW bT cA cC cf ct bp aO bk aS aQ cr bq aK cD aJ aA aF az aB aj cG bZ bh bf ck cd bo c9 cu bw cy cB cz cE bg bt bu aR bm cx aP aG aM aN bj an af aT aw cX cW bI ba bJ cn bL cg bH cm List.flatMap_cons List.flatMap_nil
section
variable {s:List UInt8}{id:Nat}{m:IM}
end
end Go.Idl
namespace Go.Idl
attribute [local go_sem] bB bA gI gS aZ bF bW bT cA cC cf ct bp aO bk aS aQ cr bq aK cD aJ aA aF az aB aj cG bZ bh bf ck cd bo c9 cu bw cy cB cz cE bg bt bu aR bm cx aP aG aM aN bj an af aT aw cX cW bI ba bJ cn bL cg bH cm List.flatMap_cons List.flatMap_nil
end Go.Idl
namespace Go.Idl
attribute [local go_sem] bB bA gI gS aZ bF bW bT cA cC cf ct bp aO bk aS aQ cr bq aK cD aJ aA aF az aB aj cG bZ bh bf ck cd bo c9 cu bw cy cB cz cE bg bt bu aR bm cx aP aG aM aN bj an af aT aw cX cW bI ba bJ cn bL cg bH cm List.flatMap_cons List.flatMap_nil
section
variable {R:Type}{m:IM}{id:Nat}{s:List UInt8}{a0 b0 e0:Int}
end
end Go.Idl
namespace Go.Idl
attribute [local go_sem] bB bA gI gS aZ bF bW bT cA cC cf ct bp aO bk aS aQ cr bq aK cD aJ aA aF az aB aj cG bZ bh bf ck cd bo c9 cu bw cy cB cz cE bg bt bu aR bm cx aP aG aM aN bj an af aT aw cX cW bI ba bJ cn bL cg bH cm List.flatMap_cons List.flatMap_nil
end Go.Idl
namespace Go.Idl
attribute [local go_sem] bB bA gI gS aZ bF bW bT cA cC cf ct bp aO bk aS aQ cr bq aK cD aJ aA aF az aB aj cG bZ bh bf ck cd bo c9 cu bw cy cB cz cE bg bt bu aR bm cx aP aG aM aN bj an af aT aw cX cW bI ba bJ cn bL cg bH cm List.flatMap_cons List.flatMap_nil
section
variable {R:Type}{m:IM}{id:Nat}{s:List UInt8}{a0 b0 e0:Int}
end
end Go.Idl
namespace Go.Idl
attribute [local go_sem] bB bA gI gS aZ bF bW bT cA cC cf ct bp aO bk aS aQ cr bq aK cD aJ aA aF az aB aj cG bZ bh bf ck cd bo c9 cu bw cy cB cz cE bg bt bu aR bm cx aP aG aM aN bj an af aT aw cX cW bI ba bJ cn bL cg bH cm List.flatMap_cons List.flatMap_nil
end Go.Idl
namespace Go.Idl
attribute [local go_sem] bB bA gI gS aZ bF bW bT cA cC cf ct bp aO bk aS aQ cr bq aK cD aJ aA aF az aB aj cG bZ bh bf ck cd bo c9 cu bw cy cB cz cE bg bt bu aR bm cx aP aG aM aN bj an af aT aw cX cW bI ba bJ cn bL cg bH cm List.flatMap_cons List.flatMap_nil
theorem Nj {K:IV}{ks:List (List UInt8)}(h:SlS K ks) (hb:ks.length≤1000000) (m:IM):∃K',SlS K' ks∧cw (.f 50) [K] m=some (K',m):=by
 have hml:ak=1099511627776:=rfl
 rcases h with ⟨rfl,rfl⟩ | rfl
 ·refine⟨.nilSlice,.inl ⟨rfl,rfl⟩,?_⟩
  apply qv
  simp[F50,jN,cO,go_sem]
 ·have hp:(ks.map IV.str).all IV.plain=true:=by
   rw[List.all_eq_true]
   intro x hx
   obtain⟨s,_,rfl⟩:=List.mem_map.1 hx
   rfl
  cases ks with
  |nil =>
   refine⟨.nilSlice,.inl ⟨rfl,rfl⟩,?_⟩
   apply qv
   simp[F50,jN,cO,go_sem]
  |cons k r =>
   refine⟨.sl ((k::r).map .str) (k::r).length,.inr rfl,?_⟩
   apply qv
   have hb2:(k::r).length*16≤ak:=by omega
   have hz:((k::r).length==0)=false:=rfl
   have hN:Nat.beq ((k::r).map IV.str).length ((k::r).length*1)=true:=by simp
   simp only[F50,jN,cO,eC hp,hN,bF,if_true,hz,decide_eq_true hb2,aZ,Bool.false_eq_true,if_false]
   refine an ?_
   have hr:=SlS.refs (.inr rfl:SlS (.sl ((k::r).map .str) (k::r).length) (k::r))
   simpa[IV.refsDeep] using hr
end Go.Idl
namespace Go.Idl
end Go.Idl
namespace Go.Idl
attribute [local go_sem] bB bA gI gS aZ bF bW bT cA cC cf ct bp aO bk aS aQ cr bq aK cD aJ aA aF az aB aj cG bZ bh bf ck cd bo c9 cu bw cy cB cz cE bg bt bu aR bm cx aP aG aM aN bj an af aT aw cX cW bI ba bJ cn bL cg bH cm List.flatMap_cons List.flatMap_nil
end Go.Idl
namespace Go.Idl
set_option maxRecDepth 100000
theorem f82:tab.fns 82=some i82:=by rfl
theorem p82:ae 82=none:=by rfl
def N8:Tys:=tyG [(.one .ptr0,[0]),(.agg [.int .i64,.str,.sl,.sl],[1,12]),(.one (.int .i64),[2,8,13]),(.one .own,[4,7]),(.agg [.any,.any,.any,.any,.any,.any],[6]),(.agg [.any],[9]),(.one .ptr,[11]),(.tup [],[14])]
def N7:Pl:=.z
noncomputable def F82 (w:Nat) (v:Int) (v1:List UInt8) (v2 v3:IV) (level:Int) (m:IM):Option (IV×IM):=dm v2 (dm v3 (bc cw (.f 106) [] [] m fun v0 m1=>asA v0 fun l2=>unc l2 fun v3_1 l4=>unc l4 fun v5 l6=>unc l6 fun v7 l8=>unc l8 fun v9 l10=>unc l10 fun v11 l12=>unc l12 fun v13 l14=>unn l14 (evC (.idxArr 6 true 1) [.agg [v3_1,v5,v7,v9,v11,v13],.int .i64 v] fun v15=>asA v15 fun l16=>unc l16 fun v17 l18=>unn l18 (iU cw v17 [.pB w 0,.agg [.int .i64 v,.str v1,v2,v3],.int .i64 level] [] m1 fun v19 m20=>asT v19 fun l21=>unn l21 (settle m m20 (.tup []))))))
theorem JA (w:Nat) (v:Int) (v1:List UInt8) (v2 v3:IV) (level:Int) (m:IM):eS N8 N7 i82 cw [.pB w 0,.agg [.int .i64 v,.str v1,v2,v3],.int .i64 level] m=F82 w v v1 v2 v3 level m:=by kernel_rfl
theorem FB (w:Nat) (v:Int) (v1:List UInt8) (v2 v3:IV) (level:Int) (m:IM) {res:IV×IM}(h:F82 w v v1 v2 v3 level m=some res):cw (.f 82) [.pB w 0,.agg [.int .i64 v,.str v1,v2,v3],.int .i64 level] m=some res:=bb p82 f82 ((JA w v v1 v2 v3 level m).trans h)
theorem f106:tab.fns 106=some i106:=by rfl
theorem p106:ae 106=none:=by rfl
def Md:Tys:=tyG [(.one .own,[0]),(.agg [.any],[1,2,3,4,5,6]),(.agg [.any,.any,.any,.any,.any,.any],[7])]
def LF:Pl:=.z
noncomputable def LN (m:IM):Option (IV×IM):=settle m m (.agg [.func 126 [] [],.func 127 [] [],.func 127 [] [],.func 128 [] [],.func 129 [] [],.func 130 [] []])
theorem GG (m:IM):eS Md LF i106 cw [] m=LN m:=by kernel_rfl
theorem BF (m:IM) {res:IV×IM}(h:LN m=some res):cw (.f 106) [] m=some res:=bb p106 f106 ((GG m).trans h)
theorem f126:tab.fns 126=some i126:=by rfl
theorem p126:ae 126=none:=by rfl
def Mf:Tys:=tyG [(.one .ptr0,[0]),(.agg [.int .i64,.str,.sl,.sl],[1]),(.one (.int .i64),[2]),(.one .own,[4]),(.one .ptr,[6,7,8,9,12,13]),(.one .sl,[10,11])]
def Nk:Pl:=.z
noncomputable def IY (w:Nat) (n:Int) (s:List UInt8) (v v1:IV) (n1:Int) (m:IM):Option (IV×IM):=dm v (dm v1 (dK m w fun l0 x1=>dg false l0 2 1 fun v2=>eN (aa [110,117,108,108]) (grd (Nat.beq (List.length (aa [110,117,108,108])) (List.length [110,117,108,108]*1)) (fO m w 2 v2 1 1 (aa [110,117,108,108]) 4 fun v3 m4=>isSl v3 (stP m4 (.pB w 2) [v3] (.own 1) fun m5=>settle m m5 (.tup []))))))
theorem Hw (w:Nat) (n:Int) (s:List UInt8) (v v1:IV) (n1:Int) (m:IM):eS Mf Nk i126 cw [.pB w 0,.agg [.int .i64 n,.str s,v,v1],.int .i64 n1] m=IY w n s v v1 n1 m:=by kernel_rfl
theorem Br (w:Nat) (n:Int) (s:List UInt8) (v v1:IV) (n1:Int) (m:IM) {res:IV×IM}(h:IY w n s v v1 n1 m=some res):cw (.f 126) [.pB w 0,.agg [.int .i64 n,.str s,v,v1],.int .i64 n1] m=some res:=bb p126 f126 ((Hw w n s v v1 n1 m).trans h)
theorem f127:tab.fns 127=some i127:=by rfl
theorem p127:ae 127=none:=by rfl
def MI:Tys:=tyG [(.one .ptr0,[0]),(.agg [.int .i64,.str,.sl,.sl],[1]),(.one (.int .i64),[2]),(.one .own,[4,11]),(.one .ptr,[6,7,8,9,14,15]),(.one .sl,[10,13]),(.one .str,[12])]
def Mc:Pl:=.z
noncomputable def IU (w:Nat) (v:Int) (v1:List UInt8) (v2 v3:IV) (n:Int) (m:IM):Option (IV×IM):=dm v2 (dm v3 (grd (Nat.beq w w) (dK m w fun l0 x1=>dg false l0 2 1 fun v2=>eN (aa v1) (grd (Nat.beq (List.length (aa v1)) (List.length v1*1)) (fO m w 2 v2 1 1 (aa v1) (List.length v1) fun v3 m4=>isSl v3 (stP m4 (.pB w 2) [v3] (.own 1) fun m5=>settle m m5 (.tup [])))))))
theorem Gp (w:Nat) (v:Int) (v1:List UInt8) (v2 v3:IV) (n:Int) (m:IM):eS MI Mc i127 cw [.pB w 0,.agg [.int .i64 v,.str v1,v2,v3],.int .i64 n] m=IU w v v1 v2 v3 n m:=by kernel_rfl
theorem BN (w:Nat) (v:Int) (v1:List UInt8) (v2 v3:IV) (n:Int) (m:IM) {res:IV×IM}(h:IU w v v1 v2 v3 n m=some res):cw (.f 127) [.pB w 0,.agg [.int .i64 v,.str v1,v2,v3],.int .i64 n] m=some res:=bb p127 f127 ((Gp w v v1 v2 v3 n m).trans h)
theorem f128:tab.fns 128=some i128:=by rfl
theorem p128:ae 128=none:=by rfl
def Nm:Tys:=tyG [(.one .ptr0,[0]),(.agg [.int .i64,.str,.sl,.sl],[1]),(.one (.int .i64),[2]),(.one .own,[4,7]),(.one .ptr,[6]),(.one .str,[8]),(.tup [],[9])]
def MP:Pl:=.z
noncomputable def Ll (w:Nat) (v:Int) (v1:List UInt8) (v2 v3:IV) (n:Int) (m:IM):Option (IV×IM):=dm v2 (dm v3 (bc cw (.f 152) [.pB w 0,.str v1] [] m fun v0 m1=>asT v0 fun l2=>unn l2 (settle m m1 (.tup []))))
theorem GI (w:Nat) (v:Int) (v1:List UInt8) (v2 v3:IV) (n:Int) (m:IM):eS Nm MP i128 cw [.pB w 0,.agg [.int .i64 v,.str v1,v2,v3],.int .i64 n] m=Ll w v v1 v2 v3 n m:=by kernel_rfl
theorem Bw (w:Nat) (v:Int) (v1:List UInt8) (v2 v3:IV) (n:Int) (m:IM) {res:IV×IM}(h:Ll w v v1 v2 v3 n m=some res):cw (.f 128) [.pB w 0,.agg [.int .i64 v,.str v1,v2,v3],.int .i64 n] m=some res:=bb p128 f128 ((GI w v v1 v2 v3 n m).trans h)
theorem f129:tab.fns 129=some i129:=by rfl
theorem p129:ae 129=none:=by rfl
def Mq:Tys:=tyG [(.one .ptr0,[0]),(.agg [.int .i64,.str,.sl,.sl],[1,7]),(.one (.int .i64),[2,8]),(.one .own,[4]),(.one .ptr,[6]),(.tup [],[9])]
def Nv:Pl:=.z
noncomputable def Lp (w:Nat) (v:Int) (v1:List UInt8) (v2 v3:IV) (level:Int) (m:IM):Option (IV×IM):=dm v2 (dm v3 (bc cw (.f 153) [.pB w 0,.agg [.int .i64 v,.str v1,v2,v3],.str [91,93],.int .i64 level] [] m fun v0 m1=>asT v0 fun l2=>unn l2 (settle m m1 (.tup []))))
theorem H3 (w:Nat) (v:Int) (v1:List UInt8) (v2 v3:IV) (level:Int) (m:IM):eS Mq Nv i129 cw [.pB w 0,.agg [.int .i64 v,.str v1,v2,v3],.int .i64 level] m=Lp w v v1 v2 v3 level m:=by kernel_rfl
theorem AW (w:Nat) (v:Int) (v1:List UInt8) (v2 v3:IV) (level:Int) (m:IM) {res:IV×IM}(h:Lp w v v1 v2 v3 level m=some res):cw (.f 129) [.pB w 0,.agg [.int .i64 v,.str v1,v2,v3],.int .i64 level] m=some res:=bb p129 f129 ((H3 w v v1 v2 v3 level m).trans h)
theorem f130:tab.fns 130=some i130:=by rfl
theorem p130:ae 130=none:=by rfl
def Np:Tys:=tyG [(.one .ptr0,[0]),(.agg [.int .i64,.str,.sl,.sl],[1,7]),(.one (.int .i64),[2,8]),(.one .own,[4]),(.one .ptr,[6]),(.tup [],[9])]
def Mp:Pl:=.z
noncomputable def Jq (w:Nat) (v:Int) (v1:List UInt8) (v2 v3:IV) (level:Int) (m:IM):Option (IV×IM):=dm v2 (dm v3 (bc cw (.f 153) [.pB w 0,.agg [.int .i64 v,.str v1,v2,v3],.str [123,125],.int .i64 level] [] m fun v0 m1=>asT v0 fun l2=>unn l2 (settle m m1 (.tup []))))
theorem Ia (w:Nat) (v:Int) (v1:List UInt8) (v2 v3:IV) (level:Int) (m:IM):eS Np Mp i130 cw [.pB w 0,.agg [.int .i64 v,.str v1,v2,v3],.int .i64 level] m=Jq w v v1 v2 v3 level m:=by kernel_rfl
theorem Bd (w:Nat) (v:Int) (v1:List UInt8) (v2 v3:IV) (level:Int) (m:IM) {res:IV×IM}(h:Jq w v v1 v2 v3 level m=some res):cw (.f 130) [.pB w 0,.agg [.int .i64 v,.str v1,v2,v3],.int .i64 level] m=some res:=bb p130 f130 ((Ia w v v1 v2 v3 level m).trans h)
theorem f152:tab.fns 152=some i152:=by rfl
theorem p152:ae 152=none:=by rfl
def wW:Tys:=tyG [(.one .ptr0,[0]),(.one .str,[1,17,22]),(.one (.int .i64),[4,18,19,21,23,26,49,85]),(.one (.int .u8),[5,24,30,31,44,50,65,66,67,68,69,70,80]),(.one .own,[7,29,43]),(.one .ptr,[8,9,10,11,15,16,38,39,40,41,47,48,52,53,54,55,58,59,60,61,62,63,73,74,75,76,77,78,83,84,86,87,88,89,93,94]),(.one .sl,[12,13,14,42,45,46,56,57,64,71,72,79,81,82,90,91,92]),(.one .bool,[20,32,33,36,37,51]),(.agg [.int .u8,.int .u8,.int .u8,.int .u8,.int .u8,.int .u8,.int .u8,.int .u8,.int .u8,.int .u8,.int .u8,.int .u8,.int .u8,.int .u8,.int .u8,.int .u8],[25]),(.agg [.int .u8,.int .u8],[28,34,35])]
def G8:XP:=[⟨.normal,[(0,.any),(1,.any),(5,.any),(18,.any),(19,.any),(25,.any),(26,.any),(37,.any)],[.cells 0 [.int .u8,.int .u8] [.any,.any]],[(7,0,0)]⟩]
def FN:XP:=[⟨(.exit 2),[(0,.any),(1,.any),(5,.any),(18,.any),(19,.any)],[],[]⟩,⟨(.exit 1),[(0,.any),(1,.any),(18,.any),(19,.any)],[.dead 0],[]⟩]
def E8:Pl:=(.n none .z (.n none .z (.n none (.n none (.n none .z (.n (some G8) .z .z)) .z) .z)))
def HC:XP:=[⟨.normal,[(0,.any),(1,.any),(18,.any),(19,.any)],[.dead 0],[]⟩]
def CT:XP:=[⟨(.exit 0),[(0,.any)],[],[]⟩]
def Ee:Pl:=(.n none .z (.n none .z (.n (some HC) (.n none (.n none .z (.n none .z (.n none (.n none .z (.n none (.n (some FN) E8 .z) .z)) .z))) .z) .z)))
def MZ:Pl:=(.n none .z (.n none .z (.n none (.n none .z (.n none (.n (some CT) Ee .z) .z)) .z)))
noncomputable def mn (w:Nat) (s:List UInt8) (c n:Int) (n1 n2:Int) (n3 n4:Int) (n5 n6:Int) (n7 n8:Int) (n9 n10:Int) (n11 n12:Int) (n13 n14:Int) (n15 n16:Int) (n17 n18:Int) (n19 n20:Int) (m:IM):Option LR:=bQ (n20==c) (evC (.eqAgg true [(0,.int),(1,.int)]) [.agg [.int .u8 n19,.int .u8 n20],.agg [.int .u8 47,.int .u8 47]] fun v0=>asB v0 fun b1=>some (.normal,[.pB w 0,.str s,.int .u8 c,.int .i64 n,.int .i64 n1,.agg [.int .u8 n2,.int .u8 n3,.int .u8 n4,.int .u8 n5,.int .u8 n6,.int .u8 n7,.int .u8 n8,.int .u8 n9,.int .u8 n10,.int .u8 n11,.int .u8 n12,.int .u8 n13,.int .u8 n14,.int .u8 n15,.int .u8 n16,.int .u8 n17],.int .i64 n18,.bool b1],[.cells [.int .u8 n19,.int .u8 n20] [.any,.any]],m)) (some (.normal,[.pB w 0,.str s,.int .u8 c,.int .i64 n,.int .i64 n1,.agg [.int .u8 n2,.int .u8 n3,.int .u8 n4,.int .u8 n5,.int .u8 n6,.int .u8 n7,.int .u8 n8,.int .u8 n9,.int .u8 n10,.int .u8 n11,.int .u8 n12,.int .u8 n13,.int .u8 n14,.int .u8 n15,.int .u8 n16,.int .u8 n17],.int .i64 n18,.bool false],[.cells [.int .u8 n19,.int .u8 n20] [.any,.any]],m))
noncomputable def uu:St→Option (St⊕LR):=fun s=>C3.den wW cw (St⊕LR) E8 s (fQ wW FF FN)
noncomputable def rI (w:Nat) (s:List UInt8) (c n:Int) (n1 n2:Int) (n3 n4:Int) (n5 n6:Int) (n7 n8:Int) (n9 n10:Int) (n11 n12:Int) (n13 n14:Int) (n15 n16:Int) (n17 n18:Int) (m:IM):Option LR:=iter uu (St.mk [(0,.pB w 0,.any),(1,.str s,.any),(5,.int .u8 c,.any),(18,.int .i64 n,.any),(19,.int .i64 n1,.any),(25,.agg [.int .u8 n2,.int .u8 n3,.int .u8 n4,.int .u8 n5,.int .u8 n6,.int .u8 n7,.int .u8 n8,.int .u8 n9,.int .u8 n10,.int .u8 n11,.int .u8 n12,.int .u8 n13,.int .u8 n14,.int .u8 n15,.int .u8 n16,.int .u8 n17],.any),(26,.int .i64 n18,.any)] [] [] m)
noncomputable def oo (w:Nat) (s:List UInt8) (c n:Int) (n1 n2:Int) (n3 n4:Int) (n5 n6:Int) (n7 n8:Int) (n9 n10:Int) (n11 n12:Int) (n13 n14:Int) (n15 n16:Int) (n17 n18:Int) (m:IM):Option (St⊕LR):=bQ (decide (n18<8)) (evC (.idxArr 8 true 2) [.agg [.int .u8 n2,.int .u8 n3,.int .u8 n4,.int .u8 n5,.int .u8 n6,.int .u8 n7,.int .u8 n8,.int .u8 n9,.int .u8 n10,.int .u8 n11,.int .u8 n12,.int .u8 n13,.int .u8 n14,.int .u8 n15,.int .u8 n16,.int .u8 n17],.int .i64 n18] fun v0=>asA v0 fun l1=>uI .u8 l1 fun n4_1 l3=>uI .u8 l3 fun n7_1 l6=>unn l6 (cK (mn w s c n n1 n2 n3 n4 n5 n6 n7 n8 n9 n10 n11 n12 n13 n14 n15 n16 n17 n18 n4_1 n7_1 m) fun e8 l9 o10 m11=>exC .normal e8 (unc l9 fun v12 l13=>i6 v12 fun k14=>unc l13 fun v15 l16=>asS v15 fun s17=>uI .u8 l16 fun n20 l19=>uI .i64 l19 fun n23 l22=>uI .i64 l22 fun n26 l25=>unc l25 fun v27 l28=>asA v27 fun l29=>uI .u8 l29 fun n32 l31=>uI .u8 l31 fun n35 l34=>uI .u8 l34 fun n38 l37=>uI .u8 l37 fun n41 l40=>uI .u8 l40 fun n44 l43=>uI .u8 l43 fun n47 l46=>uI .u8 l46 fun n50 l49=>uI .u8 l49 fun n53 l52=>uI .u8 l52 fun n56 l55=>uI .u8 l55 fun n59 l58=>uI .u8 l58 fun n62 l61=>uI .u8 l61 fun n65 l64=>uI .u8 l64 fun n68 l67=>uI .u8 l67 fun n71 l70=>uI .u8 l70 fun n74 l73=>uI .u8 l73 fun n77 l76=>unn l76 (uI .i64 l28 fun n80 l79=>unc l79 fun v81 l82=>asB v81 fun b83=>unn l82 (unb o10 fun x84 o85=>asC x84 fun l86=>uI .u8 l86 fun n89 l88=>uI .u8 l88 fun n92 l91=>unn l91 (dF o85 (bQ b83 (grd (Nat.beq k14 k14) (dK m11 k14 fun l93 x94=>dg false l93 2 1 fun v95=>fO m11 k14 2 v95 1 1 [.int .u8 92,.int .u8 n89] 2 fun v96 m97=>isSl v96 (stP m97 (.pB k14 2) [v96] (.own 1) fun m98=>some (.inr (.exit 1,[.pB k14 0,.str s17,.int .i64 n23,.int .i64 n26],[],m98))))) (some (.inl (St.mk [(0,.pB k14 0,.any),(1,.str s17,.any),(5,.int .u8 n20,.any),(18,.int .i64 n23,.any),(19,.int .i64 n26,.any),(25,.agg [.int .u8 n32,.int .u8 n35,.int .u8 n38,.int .u8 n41,.int .u8 n44,.int .u8 n47,.int .u8 n50,.int .u8 n53,.int .u8 n56,.int .u8 n59,.int .u8 n62,.int .u8 n65,.int .u8 n68,.int .u8 n71,.int .u8 n74,.int .u8 n77],.any),(26,.int .i64 (IntKind.wrap .i64 (n80+1)),.any)] [] [] m11)))))))) none)) (some (.inr (.exit 2,[.pB w 0,.str s,.int .u8 c,.int .i64 n,.int .i64 n1],[],m)))
theorem Bv (w:Nat) (s:List UInt8) (c n:Int) (n1 n2:Int) (n3 n4:Int) (n5 n6:Int) (n7 n8:Int) (n9 n10:Int) (n11 n12:Int) (n13 n14:Int) (n15 n16:Int) (n17 n18:Int) (m:IM):uu (St.mk [(0,.pB w 0,.any),(1,.str s,.any),(5,.int .u8 c,.any),(18,.int .i64 n,.any),(19,.int .i64 n1,.any),(25,.agg [.int .u8 n2,.int .u8 n3,.int .u8 n4,.int .u8 n5,.int .u8 n6,.int .u8 n7,.int .u8 n8,.int .u8 n9,.int .u8 n10,.int .u8 n11,.int .u8 n12,.int .u8 n13,.int .u8 n14,.int .u8 n15,.int .u8 n16,.int .u8 n17],.any),(26,.int .i64 n18,.any)] [] [] m)=oo w s c n n1 n2 n3 n4 n5 n6 n7 n8 n9 n10 n11 n12 n13 n14 n15 n16 n17 n18 m:=by kernel_rfl
theorem tu (w:Nat) (s:List UInt8) (c n:Int) (n1 n2:Int) (n3 n4:Int) (n5 n6:Int) (n7 n8:Int) (n9 n10:Int) (n11 n12:Int) (n13 n14:Int) (n15 n16:Int) (n17 n18:Int) (m:IM):rI w s c n n1 n2 n3 n4 n5 n6 n7 n8 n9 n10 n11 n12 n13 n14 n15 n16 n17 n18 m=nxt uu (oo w s c n n1 n2 n3 n4 n5 n6 n7 n8 n9 n10 n11 n12 n13 n14 n15 n16 n17 n18 m):=by rw[←Bv];exact cU _ _
noncomputable def ng (w:Nat) (s:List UInt8) (n n1:Int) (m:IM):Option LR:=evC .idxStr [.str s,.int .i64 n1] fun v0=>asI .u8 v0 fun n1_1=>cK (rI w s n1_1 n n1 34 34 92 92 47 47 98 8 102 12 110 10 114 13 116 9 0 m) fun e2 l3 o4 m5=>exC (.exit 2) e2 (unc l3 fun v6 l7=>i6 v6 fun k8=>unc l7 fun v9 l10=>asS v9 fun s11=>uI .u8 l10 fun n14 l13=>uI .i64 l13 fun n17 l16=>uI .i64 l16 fun n20 l19=>unn l19 (dF o4 (bQ (decide (n14<32)) (dK m5 k8 fun l21 x22=>dg false l21 2 1 fun v23=>eN (aa [92,117,48,48]) (grd (Nat.beq (List.length (aa [92,117,48,48])) (List.length [92,117,48,48]*1)) (fO m5 k8 2 v23 1 1 (aa [92,117,48,48]) 4 fun v24 m25=>isSl v24 (stP m25 (.pB k8 2) [v24] (.own 1) fun m26=>grd (Nat.beq k8 k8) (dK m26 k8 fun l27 x28=>dg false l27 2 1 fun v29=>evC .idxStr [.str [48,49,50,51,52,53,54,55,56,57,97,98,99,100,101,102],.int .u8 (IntKind.wrap .u8 (Int.tdiv n14 16))] fun v30=>asI .u8 v30 fun n31=>evC .idxStr [.str [48,49,50,51,52,53,54,55,56,57,97,98,99,100,101,102],.int .u8 (Int.tmod n14 16)] fun v32=>asI .u8 v32 fun n33=>fO m26 k8 2 v29 1 1 [.int .u8 n31,.int .u8 n33] 2 fun v34 m35=>isSl v34 (stP m35 (.pB k8 2) [v34] (.own 1) fun m36=>some (.normal,[.pB k8 0,.str s11,.int .i64 n17,.int .i64 n20],[],m36))))))) (dK m5 k8 fun l37 x38=>dg false l37 2 1 fun v39=>fO m5 k8 2 v39 1 1 [.int .u8 n14] 1 fun v40 m41=>isSl v40 (stP m41 (.pB k8 2) [v40] (.own 1) fun m42=>some (.normal,[.pB k8 0,.str s11,.int .i64 n17,.int .i64 n20],[],m42)))))) (exC (.exit 1) e2 (unc l3 fun v43 l44=>i6 v43 fun k45=>unc l44 fun v46 l47=>asS v46 fun s48=>uI .i64 l47 fun n51 l50=>uI .i64 l50 fun n54 l53=>unn l53 (dF o4 (some (.normal,[.pB k45 0,.str s48,.int .i64 n51,.int .i64 n54],[],m5)))) none)
noncomputable def uT:St→Option (St⊕LR):=fun s=>D6.den wW cw (St⊕LR) Ee s (fQ wW EN CT)
noncomputable def sM (w:Nat) (s:List UInt8) (n n1:Int) (m:IM):Option LR:=iter uT (St.mk [(0,.pB w 0,.any),(1,.str s,.any),(18,.int .i64 n,.any),(19,.int .i64 n1,.any)] [] [] m)
noncomputable def sI (w:Nat) (s:List UInt8) (n n1:Int) (m:IM):Option (St⊕LR):=bQ (decide (n1<n)) (cK (ng w s n n1 m) fun e0 l1 o2 m3=>exC .normal e0 (unc l1 fun v4 l5=>i6 v4 fun k6=>unc l5 fun v7 l8=>asS v7 fun s9=>uI .i64 l8 fun n12 l11=>uI .i64 l11 fun n15 l14=>unn l14 (dF o2 (some (.inl (St.mk [(0,.pB k6 0,.any),(1,.str s9,.any),(18,.int .i64 n12,.any),(19,.int .i64 (IntKind.wrap .i64 (n15+1)),.any)] [] [] m3))))) none) (some (.inr (.exit 0,[.pB w 0],[],m)))
theorem B1 (w:Nat) (s:List UInt8) (n n1:Int) (m:IM):uT (St.mk [(0,.pB w 0,.any),(1,.str s,.any),(18,.int .i64 n,.any),(19,.int .i64 n1,.any)] [] [] m)=sI w s n n1 m:=by kernel_rfl
theorem ug (w:Nat) (s:List UInt8) (n n1:Int) (m:IM):sM w s n n1 m=nxt uT (sI w s n n1 m):=by rw[←B1];exact cU _ _
noncomputable def JF (w:Nat) (s:List UInt8) (m:IM):Option (IV×IM):=dK m w fun l0 x1=>dg false l0 2 1 fun v2=>fO m w 2 v2 1 1 [.int .u8 34] 1 fun v3 m4=>isSl v3 (stP m4 (.pB w 2) [v3] (.own 1) fun m5=>cK (sM w s (↑(List.length s):Int) 0 m5) fun e6 l7 o8 m9=>exC (.exit 0) e6 (unc l7 fun v10 l11=>i6 v10 fun k12=>unn l11 (dF o8 (dK m9 k12 fun l13 x14=>dg false l13 2 1 fun v15=>fO m9 k12 2 v15 1 1 [.int .u8 34] 1 fun v16 m17=>isSl v16 (stP m17 (.pB k12 2) [v16] (.own 1) fun m18=>settle m m18 (.tup []))))) none)
theorem H4 (w:Nat) (s:List UInt8) (m:IM):eS wW MZ i152 cw [.pB w 0,.str s] m=JF w s m:=by kernel_rfl
theorem B2 (w:Nat) (s:List UInt8) (m:IM) {res:IV×IM}(h:JF w s m=some res):cw (.f 152) [.pB w 0,.str s] m=some res:=bb p152 f152 ((H4 w s m).trans h)
theorem f153:tab.fns 153=some i153:=by rfl
theorem p153:ae 153=none:=by rfl
def Fg:Tys:=tyG [(.one .ptr0,[0]),(.agg [.int .i64,.str,.sl,.sl],[1,22,83]),(.one .str,[2,15,53,100]),(.one (.int .i64),[3,8,9,24,25,27,29,30,42,43,46,51,81,84,85,87,90,93]),(.one .own,[5,45,49,79,88]),(.one .ptr,[10,11,12,13,19,20,21,32,33,34,35,39,40,41,48,55,56,57,58,62,63,64,65,66,67,69,70,71,72,76,77,78,92,95,96,97,98,104,105]),(.one .sl,[14,17,18,23,36,37,38,50,59,60,61,73,74,75,80,89,99,102,103]),(.one (.int .u8),[16,101]),(.one .bool,[31,47,68,91]),(.tup [],[44,54,86,94])]
def Hk:XP:=[⟨.normal,[(0,.any),(2,.any),(3,.any),(9,.any),(23,.any),(24,.any),(25,.any)],[.cells 0 [.int .i64,.str,.sl,.sl] [.any,.any,.any,.any]],[(5,0,0)]⟩]
def Hx:XP:=[⟨.normal,[(0,.any),(2,.any),(3,.any),(9,.any),(23,.any),(24,.any),(25,.any)],[.cells 0 [.int .i64,.str,.sl,.sl] [.any,.any,.any,.any]],[(5,0,0)]⟩]
def Dm:XP:=[⟨(.exit 0),[(0,.any),(2,.any),(3,.any)],[.cells 0 [.int .i64,.str,.sl,.sl] [.any,.any,.any,.any]],[(5,0,0)]⟩]
def DF:Pl:=(.n none .z (.n none .z (.n none (.n none (.n none .z (.n (some Hk) .z (.n none .z (.n (some Hx) .z .z)))) .z) .z)))
def HD:XP:=[⟨.normal,[(0,.any),(2,.any)],[.dead 0],[]⟩]
def MH:Pl:=(.n none .z (.n none .z (.n none (.n none .z (.n none (.n (some Dm) DF .z) .z)) (.n (some HD) .z .z))))
noncomputable def pU (w:Nat) (brackets:List UInt8) (level n i:Int) (v:IV) (n1 n2 n3:Int) (s:List UInt8) (v1 v2:IV) (m:IM):Option LR:=bQ (decide (n>0)) (dK m w fun l0 x1=>dg false l0 2 1 fun v2_1=>fO m w 2 v2_1 1 1 [.int .u8 44] 1 fun v3 m4=>isSl v3 (stP m4 (.pB w 2) [v3] (.own 1) fun m5=>some (.normal,[.pB w 0,.str brackets,.int .i64 level,.int .i64 i,v,.int .i64 n1,.int .i64 n2],[.cells [.int .i64 n3,.str s,v1,v2] [.any,.any,.any,.any]],m5))) (some (.normal,[.pB w 0,.str brackets,.int .i64 level,.int .i64 i,v,.int .i64 n1,.int .i64 n2],[.cells [.int .i64 n3,.str s,v1,v2] [.any,.any,.any,.any]],m))
noncomputable def mH (w:Nat) (brackets:List UInt8) (level i:Int) (v:IV) (n n1 n2:Int) (s:List UInt8) (v1 v2:IV) (m:IM):Option LR:=bQ (n2==5) (evC (.indexS 1) [v1,.int .i64 i] fun v0=>ldP m false 1 v0 fun v1_1=>asS v1_1 fun s2=>bc cw (.f 152) [.pB w 0,.str s2] [] m fun v3 m4=>asT v3 fun l5=>unn l5 (dK m4 w fun l6 x7=>dg false l6 2 1 fun v8=>fO m4 w 2 v8 1 1 [.int .u8 58] 1 fun v9 m10=>isSl v9 (stP m10 (.pB w 2) [v9] (.own 1) fun m11=>dK m11 w fun l12 x13=>dg false l12 1 1 fun v14=>asB v14 fun b15=>bQ b15 (dK m11 w fun l16 x17=>dg false l16 2 1 fun v18=>fO m11 w 2 v18 1 1 [.int .u8 32] 1 fun v19 m20=>isSl v19 (stP m20 (.pB w 2) [v19] (.own 1) fun m21=>some (.normal,[.pB w 0,.str brackets,.int .i64 level,.int .i64 i,v,.int .i64 n,.int .i64 n1],[.cells [.int .i64 n2,.str s,v1,v2] [.any,.any,.any,.any]],m21))) (some (.normal,[.pB w 0,.str brackets,.int .i64 level,.int .i64 i,v,.int .i64 n,.int .i64 n1],[.cells [.int .i64 n2,.str s,v1,v2] [.any,.any,.any,.any]],m11))))) (some (.normal,[.pB w 0,.str brackets,.int .i64 level,.int .i64 i,v,.int .i64 n,.int .i64 n1],[.cells [.int .i64 n2,.str s,v1,v2] [.any,.any,.any,.any]],m))
noncomputable def uw:St→Option (St⊕LR):=fun s=>C9.den Fg cw (St⊕LR) DF s (fQ Fg E0 Dm)
noncomputable def sK (w:Nat) (brackets:List UInt8) (level:Int) (v:IV) (n n1 n2:Int) (s:List UInt8) (v1 v2:IV) (m:IM):Option LR:=iter uw (St.mk [(0,.pB w 0,.any),(2,.str brackets,.any),(3,.int .i64 level,.any),(5,.pL 0 0,.any),(23,v,.any),(24,.int .i64 n,.any),(25,.int .i64 n1,.any)] [] [(0,.cells [.int .i64 n2,.str s,v1,v2] [.any,.any,.any,.any])] m)
noncomputable def rq (w:Nat) (brackets:List UInt8) (level:Int) (v:IV) (n n1 n2:Int) (s:List UInt8) (v1 v2:IV) (m:IM):Option (St⊕LR):=bQ (decide (n1<n)) (evC (.indexS 1) [v,.int .i64 n1] fun v0=>ldP m false 1 v0 fun v1_1=>asI .i64 v1_1 fun n2_1=>cK (pU w brackets level n1 n2_1 v n n1 n2 s v1 v2 m) fun e3 l4 o5 m6=>exC .normal e3 (unc l4 fun v7 l8=>i6 v7 fun k9=>unc l8 fun v10 l11=>asS v10 fun s12=>uI .i64 l11 fun n15 l14=>uI .i64 l14 fun n18 l17=>unc l17 fun v19 l20=>uI .i64 l20 fun n23 l22=>uI .i64 l22 fun n26 l25=>unn l25 (unb o5 fun x27 o28=>asC x27 fun l29=>uV l29 fun n32 s35 v36 v38 l39=>unn l39 (dF o28 (bc cw (.f 164) [.pB k9 0,.int .i64 (IntKind.wrap .i64 (n15+1))] [] m6 fun v40 m41=>asT v40 fun l42=>unn l42 (cK (mH k9 s12 n15 n18 v19 n23 n26 n32 s35 v36 v38 m41) fun e43 l44 o45 m46=>exC .normal e43 (unc l44 fun v47 l48=>i6 v47 fun k49=>unc l48 fun v50 l51=>asS v50 fun s52=>uI .i64 l51 fun n55 l54=>uI .i64 l54 fun n58 l57=>unc l57 fun v59 l60=>uI .i64 l60 fun n63 l62=>uI .i64 l62 fun n66 l65=>unn l65 (unb o45 fun x67 o68=>asC x67 fun l69=>uV l69 fun n72 s75 v76 v78 l79=>unn l79 (dF o68 (evC (.indexS 4) [v78,.int .i64 n58] fun v80=>ldP m46 true 4 v80 fun v81=>asA v81 fun l82=>uV l82 fun n85 s88 v89 v91 l92=>unn l92 (bc cw (.f 82) [.pB k49 0,.agg [.int .i64 n85,.str s88,v89,v91],.int .i64 (IntKind.wrap .i64 (n55+1))] [] m46 fun v93 m94=>asT v93 fun l95=>unn l95 (c7 v59 (some (.inl (St.mk [(0,.pB k49 0,.any),(2,.str s52,.any),(3,.int .i64 n55,.any),(5,.pL 0 0,.any),(23,v59,.any),(24,.int .i64 n63,.any),(25,.int .i64 (IntKind.wrap .i64 (n66+1)),.any)] [] [(0,.cells [.int .i64 n72,.str s75,v76,v78] [.any,.any,.any,.any])] m94))))))))) none))))) none) (some (.inr (.exit 0,[.pB w 0,.str brackets,.int .i64 level],[.cells [.int .i64 n2,.str s,v1,v2] [.any,.any,.any,.any]],m)))
theorem Bq (w:Nat) (brackets:List UInt8) (level:Int) (v:IV) (n n1 n2:Int) (s:List UInt8) (v1 v2:IV) (m:IM):uw (St.mk [(0,.pB w 0,.any),(2,.str brackets,.any),(3,.int .i64 level,.any),(5,.pL 0 0,.any),(23,v,.any),(24,.int .i64 n,.any),(25,.int .i64 n1,.any)] [] [(0,.cells [.int .i64 n2,.str s,v1,v2] [.any,.any,.any,.any])] m)=rq w brackets level v n n1 n2 s v1 v2 m:=by kernel_rfl
theorem ua (w:Nat) (brackets:List UInt8) (level:Int) (v:IV) (n n1 n2:Int) (s:List UInt8) (v1 v2:IV) (m:IM):sK w brackets level v n n1 n2 s v1 v2 m=nxt uw (rq w brackets level v n n1 n2 s v1 v2 m):=by rw[←Bq];exact cU _ _
noncomputable def qa (w:Nat) (brackets:List UInt8) (level n:Int) (s:List UInt8) (v v1:IV) (m:IM):Option LR:=evC .lenSlice [v1] fun v0=>asI .i64 v0 fun n1=>bQ (decide (n1>0)) (bc cw (.f 164) [.pB w 0,.int .i64 level] [] m fun v2 m3=>asT v2 fun l4=>unn l4 (some (.normal,[.pB w 0,.str brackets],[],m3))) (some (.normal,[.pB w 0,.str brackets],[],m))
noncomputable def Lb (w:Nat) (v:Int) (v1:List UInt8) (v2 v3:IV) (brackets:List UInt8) (level:Int) (m:IM):Option (IV×IM):=dm v2 (dm v3 (grd (Nat.beq w w) (dK m w fun l0 x1=>dg false l0 2 1 fun v2_1=>evC .idxStr [.str brackets,.int .i64 0] fun v3_1=>asI .u8 v3_1 fun n4=>fO m w 2 v2_1 1 1 [.int .u8 n4] 1 fun v5 m6=>isSl v5 (stP m6 (.pB w 2) [v5] (.own 1) fun m7=>bc cw (.f 163) [.pB w 0,.agg [.int .i64 v,.str v1,v2,v3]] [] m7 fun v8 m9=>evC .lenSlice [v8] fun v10=>asI .i64 v10 fun n11=>c7 v8 (cK (sK w brackets level v8 n11 0 v v1 v2 v3 m9) fun e12 l13 o14 m15=>exC (.exit 0) e12 (unc l13 fun v16 l17=>i6 v16 fun k18=>unc l17 fun v19 l20=>asS v19 fun s21=>uI .i64 l20 fun n24 l23=>unn l23 (unb o14 fun x25 o26=>asC x25 fun l27=>uV l27 fun n30 s33 v34 v36 l37=>unn l37 (dF o26 (cK (qa k18 s21 n24 n30 s33 v34 v36 m15) fun e38 l39 o40 m41=>exC .normal e38 (unc l39 fun v42 l43=>i6 v42 fun k44=>unc l43 fun v45 l46=>asS v45 fun s47=>unn l46 (dF o40 (grd (Nat.beq k44 k44) (dK m41 k44 fun l48 x49=>dg false l48 2 1 fun v50=>evC .idxStr [.str s47,.int .i64 1] fun v51=>asI .u8 v51 fun n52=>fO m41 k44 2 v50 1 1 [.int .u8 n52] 1 fun v53 m54=>isSl v53 (stP m54 (.pB k44 2) [v53] (.own 1) fun m55=>settle m m55 (.tup [])))))) none)))) none)))))
theorem GK (w:Nat) (v:Int) (v1:List UInt8) (v2 v3:IV) (brackets:List UInt8) (level:Int) (m:IM):eS Fg MH i153 cw [.pB w 0,.agg [.int .i64 v,.str v1,v2,v3],.str brackets,.int .i64 level] m=Lb w v v1 v2 v3 brackets level m:=by kernel_rfl
theorem Cj (w:Nat) (v:Int) (v1:List UInt8) (v2 v3:IV) (brackets:List UInt8) (level:Int) (m:IM) {res:IV×IM}(h:Lb w v v1 v2 v3 brackets level m=some res):cw (.f 153) [.pB w 0,.agg [.int .i64 v,.str v1,v2,v3],.str brackets,.int .i64 level] m=some res:=bb p153 f153 ((GK w v v1 v2 v3 brackets level m).trans h)
theorem f163:tab.fns 163=some i163:=by rfl
theorem p163:ae 163=none:=by rfl
def CA:Tys:=tyG [(.one .ptr0,[0]),(.agg [.int .i64,.str,.sl,.sl],[1]),(.one .ptr,[3,8,22,23,24,25,29]),(.one .sl,[4,5,7,9,11,12,17,33,34,36,37,38,40,43]),(.one (.int .i64),[6,10,13,14,16,18,19,21,30,35,39]),(.one .bool,[26,27,28,31,32]),(.tup [],[42])]
def EA:XP:=[⟨(.exit 0),[(0,.any),(3,.any),(5,.any)],[],[]⟩]
def EF:Pl:=.z
def Gd:XP:=[⟨.normal,[(3,.any),(5,.any),(32,.any)],[],[]⟩]
def Mj:Pl:=(.n none .z (.n none .z (.n none (.n none .z (.n none (.n (some EA) EF .z) .z)) (.n none (.n (some Gd) .z .z) .z))))
noncomputable def vP:St→Option (St⊕LR):=fun s=>Ec.den CA cw (St⊕LR) EF s (fQ CA Eh EA)
noncomputable def ob (w v v1:Nat) (l:IV) (n n1:Int) (m:IM):Option LR:=iter vP (St.mk [(0,.pB w 0,.any),(3,.pB v v1,.any),(5,l,.any),(13,.int .i64 n,.any),(14,.int .i64 n1,.any)] [] [] m)
noncomputable def r9 (w v v1:Nat) (l:IV) (n n1:Int) (m:IM):Option (St⊕LR):=bQ (decide (n1<n)) (evC (.indexS 1) [l,.int .i64 n1] fun v0=>stP m v0 [.int .i64 n1] .any fun m1=>c7 l (some (.inl (St.mk [(0,.pB w 0,.any),(3,.pB v v1,.any),(5,l,.any),(13,.int .i64 n,.any),(14,.int .i64 (IntKind.wrap .i64 (n1+1)),.any)] [] [] m1)))) (some (.inr (.exit 0,[.pB w 0,.pB v v1,l],[],m)))
theorem A6 (w v v1:Nat) (l:IV) (n n1:Int) (m:IM):vP (St.mk [(0,.pB w 0,.any),(3,.pB v v1,.any),(5,l,.any),(13,.int .i64 n,.any),(14,.int .i64 n1,.any)] [] [] m)=r9 w v v1 l n n1 m:=by kernel_rfl
theorem tV (w v v1:Nat) (l:IV) (n n1:Int) (m:IM):ob w v v1 l n n1 m=nxt vP (r9 w v v1 l n n1 m):=by rw[←A6];exact cU _ _
noncomputable def kv (w v v1:Nat) (l:IV) (m:IM):Option LR:=dK m w fun l0 x1=>dg false l0 0 1 fun v2=>asB v2 fun b3=>bQ (!b3) (some (.normal,[.pB v v1,l,.bool true],[],m)) (dK m v fun l4 x5=>dg false l4 (v1+0) 1 fun v6=>asI .i64 v6 fun n7=>some (.normal,[.pB v v1,l,.bool (n7 != 5)],[],m))
noncomputable def GU (w:Nat) (v:Int) (v1:List UInt8) (v2 v3:IV) (m:IM):Option (IV×IM):=dm v2 (dm v3 (dK (bR m (.cells [.int .i64 v,.str v1,v2,v3] [.any,.any,.any,.any])) (IM.size m) fun l0 x1=>dg false l0 3 1 fun v2_1=>evC .lenSlice [v2_1] fun v3_1=>asI .i64 v3_1 fun n4=>grd (decide (0≤n4∧n4≤n4∧n4*(↑8:Int)≤(↑ak:Int)∧n4≤(↑ak:Int))) (cK (ob w (IM.size m) 0 (.sB (IM.size (bR m (.cells [.int .i64 v,.str v1,v2,v3] [.any,.any,.any,.any]))) 0 (Int.toNat n4) 1) (↑(Int.toNat n4):Int) 0 (bR (bR m (.cells [.int .i64 v,.str v1,v2,v3] [.any,.any,.any,.any])) (.cells (cS [.int .i64 0] (Int.toNat n4)) (aV (cS [.int .i64 0] (Int.toNat n4)) [])))) fun e5 l6 o7 m8=>exC (.exit 0) e5 (unc l6 fun v9 l10=>i6 v9 fun k11=>unc l10 fun v12 l13=>asP v12 fun k14 k15=>unc l13 fun v16 l17=>unn l17 (dF o7 (cK (kv k11 k14 k15 v16 m8) fun e18 l19 o20 m21=>exC .normal e18 (unc l19 fun v22 l23=>asP v22 fun k24 k25=>unc l23 fun v26 l27=>unc l27 fun v28 l29=>asB v28 fun b30=>unn l29 (dF o20 (bQ b30 (settle m m21 v26) (evC .lenSlice [v26] fun v31=>asI .i64 v31 fun n32=>grd (decide (0≤n32∧n32≤n32∧n32*(↑8:Int)≤(↑ak:Int)∧n32≤(↑ak:Int))) (jN (bR m21 (.cells (cS [.int .i64 0] (Int.toNat n32)) (aV (cS [.int .i64 0] (Int.toNat n32)) []))) 1 v26 fun l33 k34=>grd (decide (List.length l33=k34*1)) (cpS (bR m21 (.cells (cS [.int .i64 0] (Int.toNat n32)) (aV (cS [.int .i64 0] (Int.toNat n32)) []))) (.sB (IM.size m21) 0 (Int.toNat n32) 1) 1 l33 k34 fun k35 m36=>bc cw (.f 168) [.sB (IM.size m21) 0 (Int.toNat n32) 1,.func 169 [] [.pB k24 k25]] [] m36 fun v37 m38=>asT v37 fun l39=>unn l39 (settle m m38 (.sB (IM.size m21) 0 (Int.toNat n32) 1)))))))) none))) none)))
theorem HI (w:Nat) (v:Int) (v1:List UInt8) (v2 v3:IV) (m:IM):eS CA Mj i163 cw [.pB w 0,.agg [.int .i64 v,.str v1,v2,v3]] m=GU w v v1 v2 v3 m:=by kernel_rfl
theorem tL (w:Nat) (v:Int) (v1:List UInt8) (v2 v3:IV) (m:IM) {res:IV×IM}(h:GU w v v1 v2 v3 m=some res):cw (.f 163) [.pB w 0,.agg [.int .i64 v,.str v1,v2,v3]] m=some res:=bb p163 f163 ((HI w v v1 v2 v3 m).trans h)
theorem f164:tab.fns 164=some i164:=by rfl
theorem p164:ae 164=none:=by rfl
def MS:Tys:=tyG [(.one .ptr0,[0]),(.one (.int .i64),[1,14]),(.one .ptr,[4,5,6,7,9,10,11,12,18,19]),(.one .bool,[8]),(.one .sl,[13,17]),(.one .str,[15,16])]
def Nz:Pl:=.z
noncomputable def G5 (w:Nat) (level:Int) (m:IM):Option (IV×IM):=dK m w fun l0 x1=>dg false l0 1 1 fun v2=>asB v2 fun b3=>bQ b3 (grd (Nat.beq w w) (dK m w fun l4 x5=>dg false l4 2 1 fun v6=>bc cw (.f 171) [.str [32,32],.int .i64 level] [w] m fun v7 m8=>grd (List.contains [w] w) (asS v7 fun s9=>evC (.bin .add) [.str [10],.str s9] fun v10=>asS v10 fun s11=>eN (aa s11) (grd (Nat.beq (List.length (aa s11)) (List.length s11*1)) (fO m8 w 2 v6 1 1 (aa s11) (List.length s11) fun v12 m13=>isSl v12 (stP m13 (.pB w 2) [v12] (.own 1) fun m14=>settle m m14 (.tup []))))))) (settle m m (.tup []))
theorem Gq (w:Nat) (level:Int) (m:IM):eS MS Nz i164 cw [.pB w 0,.int .i64 level] m=G5 w level m:=by kernel_rfl
theorem BC (w:Nat) (level:Int) (m:IM) {res:IV×IM}(h:G5 w level m=some res):cw (.f 164) [.pB w 0,.int .i64 level] m=some res:=bb p164 f164 ((Gq w level m).trans h)
theorem f169:tab.fns 169=some i169:=by rfl
theorem p169:ae 169=none:=by rfl
def MY:Tys:=tyG [(.one (.int .i64),[0,1,5,8,13,16]),(.one .ptr,[6,11]),(.one .sl,[7,12]),(.one .str,[10,15])]
def Mb:Pl:=.z
noncomputable def Lh (a b:Int) (p:Nat) (m:IM):Option (IV×IM):=dK m p fun l0 x1=>dg false l0 2 1 fun v2=>evC (.indexS 1) [v2,.int .i64 a] fun v3=>ldP m false 1 v3 fun v4=>asS v4 fun s5=>dK m p fun l6 x7=>dg false l6 2 1 fun v8=>evC (.indexS 1) [v8,.int .i64 b] fun v9=>ldP m false 1 v9 fun v10=>asS v10 fun s11=>bc cw (.f 170) [.str s5,.str s11] [] m fun v12 m13=>asI .i64 v12 fun n14=>settle m m13 (.int .i64 n14)
theorem Hg (a b:Int) (p:Nat) (m:IM):eS MY Mb i169 cw [.int .i64 a,.int .i64 b,.pB p 0] m=Lh a b p m:=by kernel_rfl
theorem BK (a b:Int) (p:Nat) (m:IM) {res:IV×IM}(h:Lh a b p m=some res):cw (.f 169) [.int .i64 a,.int .i64 b,.pB p 0] m=some res:=bb p169 f169 ((Hg a b p m).trans h)
theorem f18:tab.fns 18=some i18:=by rfl
theorem p18:ae 18=none:=by rfl
def NM:Tys:=tyG [(.agg [.int .i64,.str,.sl,.sl],[0,4]),(.one .own,[1]),(.one .str,[2,7]),(.one (.int .i64),[3,8]),(.agg [.bool,.bool],[5]),(.tup [.one .str,.one (.int .i64)],[6])]
def Ox:Pl:=.z
noncomputable def F18 (v:Int) (v1:List UInt8) (v2 v3:IV) (m:IM):Option (IV×IM):=dm v2 (dm v3 (bc cw (.f 52) [.agg [.int .i64 v,.str v1,v2,v3],.agg [.bool false,.bool false]] [] m fun v0 m1=>asT v0 fun l2=>unc l2 fun v3 l4=>asS v3 fun s5=>uI .i64 l4 fun n8 l7=>unn l7 (settle m m1 (.tup [.str s5,.int .i64 n8]))))
theorem I6 (v:Int) (v1:List UInt8) (v2 v3:IV) (m:IM):eS NM Ox i18 cw [.agg [.int .i64 v,.str v1,v2,v3]] m=F18 v v1 v2 v3 m:=by kernel_rfl
theorem F1 (v:Int) (v1:List UInt8) (v2 v3:IV) (m:IM) {res:IV×IM}(h:F18 v v1 v2 v3 m=some res):cw (.f 18) [.agg [.int .i64 v,.str v1,v2,v3]] m=some res:=bb p18 f18 ((I6 v v1 v2 v3 m).trans h)
theorem f52:tab.fns 52=some i52:=by rfl
theorem p52:ae 52=none:=by rfl
def Od:Tys:=tyG [(.agg [.int .i64,.str,.sl,.sl],[0,9,20]),(.agg [.bool,.bool],[1,14]),(.one .own,[2,3]),(.one .str,[4,32]),(.one (.int .i64),[5,6,10,11,13,26]),(.one .ptr,[7,16,17,22,23,24,28,29,30]),(.one .bool,[12,27]),(.agg [.bool,.bool,.sl],[15]),(.tup [],[21]),(.one .sl,[25,31])]
def N3:Pl:=.z
noncomputable def F52 (v:Int) (v1:List UInt8) (v2 v3:IV) (s s1:Bool) (m:IM):Option (IV×IM):=dm v2 (dm v3 (bc cw (.f 25) [.agg [.int .i64 v,.str v1,v2,v3]] [] m fun v0 m1=>asI .i64 v0 fun n2=>bQ (n2 != 0) (settle m m1 (.tup [.str [],.int .i64 n2])) (bc cw (.f 82) [.pB (IM.size m1) 0,.agg [.int .i64 v,.str v1,v2,v3],.int .i64 0] [] (bR m1 (.cells [.bool s,.bool s1,.nilSlice] [.any,.any,.any])) fun v3 m4=>asT v3 fun l5=>unn l5 (dK m4 (IM.size m1) fun l6 x7=>dg false l6 2 1 fun v8=>evC .lenSlice [v8] fun v9=>asI .i64 v9 fun n10=>bQ (decide (n10>100000)) (settle m m4 (.tup [.str [],.int .i64 20])) (dK m4 (IM.size m1) fun l11 x12=>dg false l11 2 1 fun v13=>evC .bytesStr [v13] fun v14=>asS v14 fun s15=>settle m m4 (.tup [.str s15,.int .i64 0]))))))
theorem JD (v:Int) (v1:List UInt8) (v2 v3:IV) (s s1:Bool) (m:IM):eS Od N3 i52 cw [.agg [.int .i64 v,.str v1,v2,v3],.agg [.bool s,.bool s1]] m=F52 v v1 v2 v3 s s1 m:=by kernel_rfl
theorem EI (v:Int) (v1:List UInt8) (v2 v3:IV) (s s1:Bool) (m:IM) {res:IV×IM}(h:F52 v v1 v2 v3 s s1 m=some res):cw (.f 52) [.agg [.int .i64 v,.str v1,v2,v3],.agg [.bool s,.bool s1]] m=some res:=bb p52 f52 ((JD v v1 v2 v3 s s1 m).trans h)
theorem f83:tab.fns 83=some i83:=by rfl
theorem p83:ae 83=none:=by rfl
def I5:Tys:=tyG [(.one .ptr0,[0]),(.agg [.int .i64,.str,.sl,.sl],[1,61,138]),(.one (.int .i64),[2,8,10,48,67,69,71,72,73,85,86,89,99,101,134,136,139,140,143,146]),(.one .own,[4,9,29,41,47,88,96,131]),(.one .str,[6,30,42,43,55,103,104,153]),(.one .sl,[7,17,18,28,31,40,44,54,57,58,66,68,79,80,81,95,97,98,105,112,113,114,125,126,127,132,133,142,152,155,156]),(.one .bool,[11,12,21,22,23,34,35,49,65,70,74,90,120,144]),(.one .ptr,[13,14,15,16,19,20,24,25,26,27,32,33,36,37,38,39,45,46,50,51,52,53,59,60,62,63,64,75,76,77,78,82,83,84,91,92,93,94,106,107,108,109,110,111,115,116,117,118,119,121,122,123,124,128,129,130,145,148,149,150,151,157,158]),(.one (.int .u8),[56,154]),(.tup [],[87,141,147])]
def J1:XP:=[⟨.normal,[(0,.any),(2,.any),(10,.any),(21,.any)],[.cells 0 [.int .i64,.str,.sl,.sl] [.any,.any,.any,.any]],[(4,0,0)]⟩]
def Jj:XP:=[⟨.normal,[(0,.any),(2,.any),(6,.any)],[.cells 0 [.int .i64,.str,.sl,.sl] [.any,.any,.any,.any]],[(4,0,0)]⟩]
def II:XP:=[⟨.normal,[(0,.any),(2,.any),(6,.any),(7,.any),(8,.any)],[.cells 0 [.int .i64,.str,.sl,.sl] [.any,.any,.any,.any]],[(4,0,0)]⟩]
def LA:XP:=[⟨.normal,[(0,.any),(2,.any),(6,.any),(7,.any),(8,.any)],[.cells 0 [.int .i64,.str,.sl,.sl] [.any,.any,.any,.any]],[(4,0,0)]⟩]
def Ig:XP:=[⟨(.exit 1),[(0,.any),(2,.any),(6,.any),(7,.any)],[.dead 0],[]⟩]
def Iq:Pl:=(.n none .z (.n none (.n none (.n (some II) .z (.n none .z (.n (some LA) .z .z))) .z) .z))
def Jo:XP:=[⟨.normal,[(0,.any),(6,.any)],[.dead 0],[]⟩]
def Oz:Pl:=(.n none .z (.n none (.n none .z (.n none (.n none .z (.n none .z (.n (some J1) .z .z))) .z)) (.n none .z (.n (some Jj) .z (.n none .z (.n none .z (.n none (.n none .z (.n none (.n (some Ig) Iq .z) .z)) (.n (some Jo) .z .z))))))))
noncomputable def rW (p:Nat) (level n n1:Int) (s:List UInt8) (v v1:IV) (m:IM):Option LR:=bQ (n==1) (some (.normal,[.pB p 0,.int .i64 level,.int .i64 n,.bool true],[.cells [.int .i64 n1,.str s,v,v1] [.any,.any,.any,.any]],m)) (some (.normal,[.pB p 0,.int .i64 level,.int .i64 n,.bool (n==2)],[.cells [.int .i64 n1,.str s,v,v1] [.any,.any,.any,.any]],m))
noncomputable def vJ (p:Nat) (level:Int) (brackets:List UInt8) (n:Int) (s:List UInt8) (v v1:IV) (m:IM):Option LR:=bQ (n==5) (some (.normal,[.pB p 0,.int .i64 level,.str [123,125]],[.cells [.int .i64 n,.str s,v,v1] [.any,.any,.any,.any]],m)) (some (.normal,[.pB p 0,.int .i64 level,.str brackets],[.cells [.int .i64 n,.str s,v,v1] [.any,.any,.any,.any]],m))
noncomputable def uW (p:Nat) (level:Int) (brackets:List UInt8) (l:IV) (i n:Int) (s:List UInt8) (v v1:IV) (m:IM):Option LR:=bQ (decide (i>0)) (dK m p fun l0 x1=>dg false l0 0 1 fun v2=>fO m p 0 v2 1 1 [.int .u8 44] 1 fun v3 m4=>isSl v3 (stP m4 (.pB p 0) [v3] (.own 1) fun m5=>some (.normal,[.pB p 0,.int .i64 level,.str brackets,l,.int .i64 i],[.cells [.int .i64 n,.str s,v,v1] [.any,.any,.any,.any]],m5))) (some (.normal,[.pB p 0,.int .i64 level,.str brackets,l,.int .i64 i],[.cells [.int .i64 n,.str s,v,v1] [.any,.any,.any,.any]],m))
noncomputable def sJ (p:Nat) (level:Int) (brackets:List UInt8) (l:IV) (i n:Int) (s:List UInt8) (v v1:IV) (m:IM):Option LR:=bQ (n==5) (grd (Nat.beq p p) (dK m p fun l0 x1=>dg false l0 0 1 fun v2=>evC (.indexS 1) [l,.int .i64 i] fun v3=>ldP m false 1 v3 fun v4=>asI .i64 v4 fun n5=>evC (.indexS 1) [v,.int .i64 n5] fun v6=>ldP m false 1 v6 fun v7=>asS v7 fun s8=>bc cw (.f 107) [.str s8] [p] m fun v9 m10=>grd (List.contains [p] p) (asS v9 fun s11=>eN (aa s11) (grd (Nat.beq (List.length (aa s11)) (List.length s11*1)) (fO m10 p 0 v2 1 1 (aa s11) (List.length s11) fun v12 m13=>isSl v12 (stP m13 (.pB p 0) [v12] (.own 1) fun m14=>dK m14 p fun l15 x16=>dg false l15 0 1 fun v17=>fO m14 p 0 v17 1 1 [.int .u8 58] 1 fun v18 m19=>isSl v18 (stP m19 (.pB p 0) [v18] (.own 1) fun m20=>dK m20 p fun l21 x22=>dg false l21 2 1 fun v23=>asB v23 fun b24=>bQ b24 (dK m20 p fun l25 x26=>dg false l25 0 1 fun v27=>fO m20 p 0 v27 1 1 [.int .u8 32] 1 fun v28 m29=>isSl v28 (stP m29 (.pB p 0) [v28] (.own 1) fun m30=>some (.normal,[.pB p 0,.int .i64 level,.str brackets,l,.int .i64 i],[.cells [.int .i64 n,.str s,v,v1] [.any,.any,.any,.any]],m30))) (some (.normal,[.pB p 0,.int .i64 level,.str brackets,l,.int .i64 i],[.cells [.int .i64 n,.str s,v,v1] [.any,.any,.any,.any]],m20))))))))) (some (.normal,[.pB p 0,.int .i64 level,.str brackets,l,.int .i64 i],[.cells [.int .i64 n,.str s,v,v1] [.any,.any,.any,.any]],m))
noncomputable def AB:St→Option (St⊕LR):=fun s=>ID.den I5 cw (St⊕LR) Iq s (fQ I5 Ik Ig)
noncomputable def xO (p:Nat) (level:Int) (brackets:List UInt8) (l:IV) (i n:Int) (s:List UInt8) (v v1:IV) (m:IM):Option LR:=iter AB (St.mk [(0,.pB p 0,.any),(2,.int .i64 level,.any),(4,.pL 0 0,.any),(6,.str brackets,.any),(7,l,.any),(8,.int .i64 i,.any)] [] [(0,.cells [.int .i64 n,.str s,v,v1] [.any,.any,.any,.any])] m)
noncomputable def xE (p:Nat) (level:Int) (brackets:List UInt8) (l:IV) (i n:Int) (s:List UInt8) (v v1:IV) (m:IM):Option (St⊕LR):=evC .lenSlice [l] fun v0=>asI .i64 v0 fun n1=>bQ (decide (i<n1)) (cK (uW p level brackets l i n s v v1 m) fun e2 l3 o4 m5=>exC .normal e2 (unc l3 fun v6 l7=>i6 v6 fun k8=>uV l7 fun n11 s14 v15 v17 l18=>asI .i64 v17 fun n19=>unn l18 (unb o4 fun x20 o21=>asC x20 fun l22=>uV l22 fun n25 s28 v29 v31 l32=>unn l32 (dF o21 (bc cw (.f 109) [.pB k8 0,.int .i64 (IntKind.wrap .i64 (n11+1))] [] m5 fun v33 m34=>asT v33 fun l35=>unn l35 (cK (sJ k8 n11 s14 v15 n19 n25 s28 v29 v31 m34) fun e36 l37 o38 m39=>exC .normal e36 (unc l37 fun v40 l41=>i6 v40 fun k42=>uV l41 fun n45 s48 v49 v51 l52=>asI .i64 v51 fun n53=>unn l52 (unb o38 fun x54 o55=>asC x54 fun l56=>uV l56 fun n59 s62 v63 v65 l66=>unn l66 (dF o55 (evC (.indexS 1) [v49,.int .i64 n53] fun v67=>ldP m39 false 1 v67 fun v68=>asI .i64 v68 fun n69=>evC (.indexS 4) [v65,.int .i64 n69] fun v70=>ldP m39 true 4 v70 fun v71=>asA v71 fun l72=>uV l72 fun n75 s78 v79 v81 l82=>unn l82 (bc cw (.f 83) [.pB k42 0,.agg [.int .i64 n75,.str s78,v79,v81],.int .i64 (IntKind.wrap .i64 (n45+1))] [] m39 fun v83 m84=>asT v83 fun l85=>unn l85 (c7 v49 (some (.inl (St.mk [(0,.pB k42 0,.any),(2,.int .i64 n45,.any),(4,.pL 0 0,.any),(6,.str s48,.any),(7,v49,.any),(8,.int .i64 (IntKind.wrap .i64 (n53+1)),.any)] [] [(0,.cells [.int .i64 n59,.str s62,v63,v65] [.any,.any,.any,.any])] m84))))))))) none))))) none) (some (.inr (.exit 1,[.pB p 0,.int .i64 level,.str brackets,l],[],m)))
theorem C7 (p:Nat) (level:Int) (brackets:List UInt8) (l:IV) (i n:Int) (s:List UInt8) (v v1:IV) (m:IM):AB (St.mk [(0,.pB p 0,.any),(2,.int .i64 level,.any),(4,.pL 0 0,.any),(6,.str brackets,.any),(7,l,.any),(8,.int .i64 i,.any)] [] [(0,.cells [.int .i64 n,.str s,v,v1] [.any,.any,.any,.any])] m)=xE p level brackets l i n s v v1 m:=by kernel_rfl
theorem ya (p:Nat) (level:Int) (brackets:List UInt8) (l:IV) (i n:Int) (s:List UInt8) (v v1:IV) (m:IM):xO p level brackets l i n s v v1 m=nxt AB (xE p level brackets l i n s v v1 m):=by rw[←C7];exact cU _ _
noncomputable def vD (p:Nat) (level:Int) (brackets:List UInt8) (l:IV) (m:IM):Option LR:=evC .lenSlice [l] fun v0=>asI .i64 v0 fun n1=>bQ (decide (n1>0)) (bc cw (.f 109) [.pB p 0,.int .i64 level] [] m fun v2 m3=>asT v2 fun l4=>unn l4 (some (.normal,[.pB p 0,.str brackets],[],m3))) (some (.normal,[.pB p 0,.str brackets],[],m))
noncomputable def F83 (p:Nat) (v:Int) (v1:List UInt8) (v2 v3:IV) (level:Int) (m:IM):Option (IV×IM):=dm v2 (dm v3 (bQ (v==0) (dK m p fun l0 x1=>dg false l0 0 1 fun v2=>eN (aa [110,117,108,108]) (grd (Nat.beq (List.length (aa [110,117,108,108])) (List.length [110,117,108,108]*1)) (fO m p 0 v2 1 1 (aa [110,117,108,108]) 4 fun v3 m4=>isSl v3 (stP m4 (.pB p 0) [v3] (.own 1) fun m5=>settle m m5 (.tup []))))) (cK (rW p level v v v1 v2 v3 m) fun e6 l7 o8 m9=>exC .normal e6 (unc l7 fun v10 l11=>i6 v10 fun k12=>uI .i64 l11 fun n15 l14=>uI .i64 l14 fun n18 l17=>unc l17 fun v19 l20=>asB v19 fun b21=>unn l20 (unb o8 fun x22 o23=>asC x22 fun l24=>uV l24 fun n27 s30 v31 v33 l34=>unn l34 (dF o23 (bQ b21 (grd (Nat.beq k12 k12) (dK m9 k12 fun l35 x36=>dg false l35 0 1 fun v37=>eN (aa s30) (grd (Nat.beq (List.length (aa s30)) (List.length s30*1)) (fO m9 k12 0 v37 1 1 (aa s30) (List.length s30) fun v38 m39=>isSl v38 (stP m39 (.pB k12 0) [v38] (.own 1) fun m40=>settle m m40 (.tup [])))))) (bQ (n18==3) (grd (Nat.beq k12 k12) (dK m9 k12 fun l41 x42=>dg false l41 0 1 fun v43=>bc cw (.f 107) [.str s30] [k12] m9 fun v44 m45=>grd (List.contains [k12] k12) (asS v44 fun s46=>eN (aa s46) (grd (Nat.beq (List.length (aa s46)) (List.length s46*1)) (fO m45 k12 0 v43 1 1 (aa s46) (List.length s46) fun v47 m48=>isSl v47 (stP m48 (.pB k12 0) [v47] (.own 1) fun m49=>settle m m49 (.tup []))))))) (cK (vJ k12 n15 [91,93] n27 s30 v31 v33 m9) fun e50 l51 o52 m53=>exC .normal e50 (unc l51 fun v54 l55=>i6 v54 fun k56=>uI .i64 l55 fun n59 l58=>unc l58 fun v60 l61=>asS v60 fun s62=>unn l61 (unb o52 fun x63 o64=>asC x63 fun l65=>uV l65 fun n68 s71 v72 v74 l75=>unn l75 (dF o64 (grd (Nat.beq k56 k56) (dK m53 k56 fun l76 x77=>dg false l76 0 1 fun v78=>evC .idxStr [.str s62,.int .i64 0] fun v79=>asI .u8 v79 fun n80=>fO m53 k56 0 v78 1 1 [.int .u8 n80] 1 fun v81 m82=>isSl v81 (stP m82 (.pB k56 0) [v81] (.own 1) fun m83=>dK m83 k56 fun l84 x85=>dg false l84 1 1 fun v86=>asB v86 fun b87=>bc cw (.f 108) [.agg [.int .i64 n68,.str s71,v72,v74],.bool b87] [] m83 fun v88 m89=>c7 v88 (cK (xO k56 n59 s62 v88 0 n68 s71 v72 v74 m89) fun e90 l91 o92 m93=>exC (.exit 1) e90 (unc l91 fun v94 l95=>i6 v94 fun k96=>uI .i64 l95 fun n99 l98=>unc l98 fun v100 l101=>asS v100 fun s102=>unc l101 fun v103 l104=>unn l104 (dF o92 (cK (vD k96 n99 s102 v103 m93) fun e105 l106 o107 m108=>exC .normal e105 (unc l106 fun v109 l110=>i6 v109 fun k111=>unc l110 fun v112 l113=>asS v112 fun s114=>unn l113 (dF o107 (grd (Nat.beq k111 k111) (dK m108 k111 fun l115 x116=>dg false l115 0 1 fun v117=>evC .idxStr [.str s114,.int .i64 1] fun v118=>asI .u8 v118 fun n119=>fO m108 k111 0 v117 1 1 [.int .u8 n119] 1 fun v120 m121=>isSl v120 (stP m121 (.pB k111 0) [v120] (.own 1) fun m122=>settle m m122 (.tup [])))))) none))) none))))))) none)))))) none)))
theorem KC (p:Nat) (v:Int) (v1:List UInt8) (v2 v3:IV) (level:Int) (m:IM):eS I5 Oz i83 cw [.pB p 0,.agg [.int .i64 v,.str v1,v2,v3],.int .i64 level] m=F83 p v v1 v2 v3 level m:=by kernel_rfl
theorem Dv (p:Nat) (v:Int) (v1:List UInt8) (v2 v3:IV) (level:Int) (m:IM) {res:IV×IM}(h:F83 p v v1 v2 v3 level m=some res):cw (.f 83) [.pB p 0,.agg [.int .i64 v,.str v1,v2,v3],.int .i64 level] m=some res:=bb p83 f83 ((KC p v v1 v2 v3 level m).trans h)
theorem f107:tab.fns 107=some i107:=by rfl
theorem p107:ae 107=none:=by rfl
def xF:Tys:=tyG [(.one .str,[0,2,4,5,13,18,22,31,37,52,56,71]),(.one .sl,[3,10,11,36,41,42,49,50,51,60,61,64,66,67,68,69,70]),(.one (.int .i64),[6,9,12,14,16,17,19,21,23,29,30,32,38,39]),(.one (.int .u8),[7,20,33,34,40,46,53,54,55,57,58,59,65]),(.one .bool,[8,15,24,25,26,27,28,35,43,44,45,47,48,62,63])]
def Gl:XP:=[⟨.normal,[(0,.any),(3,(.own 1)),(4,.any),(5,.any),(6,.any),(7,.any),(8,.any),(9,.any),(28,.any)],[],[]⟩]
def Gf:XP:=[⟨.normal,[(0,.any),(3,(.own 1)),(4,.any),(5,.any),(6,.any),(7,.any),(8,.any),(9,.any)],[],[]⟩]
def FU:XP:=[⟨(.exit 2),[(0,.any),(3,(.own 1)),(4,.any),(5,.any),(6,.any),(7,.any),(8,.any)],[],[]⟩]
def FM:Pl:=(.n none (.n (some Gl) .z .z) (.n (some Gf) .z .z))
def F4:XP:=[⟨.normal,[(0,.any),(3,(.own 1)),(4,.any),(5,.any),(6,.any),(7,.any),(8,.any),(48,.any)],[],[]⟩]
def Ga:XP:=[⟨.normal,[(0,.any),(3,(.own 1)),(4,.any),(5,.any),(6,.any),(7,.any),(8,.any)],[],[]⟩]
def Ib:XP:=[⟨.normal,[(0,.any),(3,(.own 1)),(4,.any),(5,.any),(6,.any)],[],[]⟩]
def Ep:XP:=[⟨(.exit 0),[(3,(.own 1))],[],[]⟩]
def Fe:Pl:=(.n none .z (.n (some Ib) (.n none (.n none .z (.n none (.n none .z (.n none (.n (some FU) FM .z) .z)) (.n (some Ga) (.n (some F4) .z .z) .z))) .z) .z))
def Nx:Pl:=(.n none .z (.n none .z (.n none .z (.n none .z (.n none (.n none .z (.n none (.n (some Ep) Fe .z) .z)) .z)))))
noncomputable def p6 (s:List UInt8) (out:IV) (hex short:List UInt8) (i c:Int) (done:Bool) (k:Int) (m:IM):Option LR:=bQ (decide (k<(↑(List.length short):Int))) (some (.normal,[.str s,out,.str hex,.str short,.int .i64 i,.int .u8 c,.bool done,.int .i64 k,.bool !done],[],m)) (some (.normal,[.str s,out,.str hex,.str short,.int .i64 i,.int .u8 c,.bool done,.int .i64 k,.bool false],[],m))
noncomputable def mq (s:List UInt8) (out:IV) (hex short:List UInt8) (i c:Int) (done:Bool) (k:Int) (m:IM):Option LR:=evC .idxStr [.str short,.int .i64 k] fun v0=>asI .u8 v0 fun n1=>bQ (n1==c) (evC .idxStr [.str short,.int .i64 (IntKind.wrap .i64 (k+1))] fun v2=>asI .u8 v2 fun n3=>iy out 1 1 [.int .u8 92,.int .u8 n3] 2 fun v4=>some (.normal,[.str s,v4,.str hex,.str short,.int .i64 i,.int .u8 c,.bool true,.int .i64 k],[],m)) (some (.normal,[.str s,out,.str hex,.str short,.int .i64 i,.int .u8 c,.bool done,.int .i64 k],[],m))
noncomputable def rJ:St→Option (St⊕LR):=fun s=>EX.den xF cw (St⊕LR) FM s (fQ xF Du FU)
noncomputable def lZ (s:List UInt8) (out:IV) (hex short:List UInt8) (i c:Int) (done:Bool) (k:Int) (m:IM):Option LR:=iter rJ (St.mk [(0,.str s,.any),(3,out,.own 1),(4,.str hex,.any),(5,.str short,.any),(6,.int .i64 i,.any),(7,.int .u8 c,.any),(8,.bool done,.any),(9,.int .i64 k,.any)] [] [] m)
noncomputable def jL (s:List UInt8) (out:IV) (hex short:List UInt8) (i c:Int) (done:Bool) (k:Int) (m:IM):Option (St⊕LR):=cK (p6 s out hex short i c done k m) fun e0 l1 o2 m3=>exC .normal e0 (unc l1 fun v4 l5=>asS v4 fun s6=>unc l5 fun v7 l8=>unc l8 fun v9 l10=>asS v9 fun s11=>unc l10 fun v12 l13=>asS v12 fun s14=>uI .i64 l13 fun n17 l16=>uI .u8 l16 fun n20 l19=>unc l19 fun v21 l22=>asB v21 fun b23=>uI .i64 l22 fun n26 l25=>unc l25 fun v27 l28=>asB v27 fun b29=>unn l28 (dF o2 (bQ b29 (cK (mq s6 v7 s11 s14 n17 n20 b23 n26 m3) fun e30 l31 o32 m33=>exC .normal e30 (unc l31 fun v34 l35=>asS v34 fun s36=>unc l35 fun v37 l38=>unc l38 fun v39 l40=>asS v39 fun s41=>unc l40 fun v42 l43=>asS v42 fun s44=>uI .i64 l43 fun n47 l46=>uI .u8 l46 fun n50 l49=>unc l49 fun v51 l52=>asB v51 fun b53=>uI .i64 l52 fun n56 l55=>unn l55 (dF o32 (c7 v37 (some (.inl (St.mk [(0,.str s36,.any),(3,v37,.own 1),(4,.str s41,.any),(5,.str s44,.any),(6,.int .i64 n47,.any),(7,.int .u8 n50,.any),(8,.bool b53,.any),(9,.int .i64 (IntKind.wrap .i64 (n56+2)),.any)] [] [] m33)))))) none) (some (.inr (.exit 2,[.str s6,v7,.str s11,.str s14,.int .i64 n17,.int .u8 n20,.bool b23],[],m3)))))) none
theorem B3 (s:List UInt8) (out:IV) (hex short:List UInt8) (i c:Int) (done:Bool) (k:Int) (m:IM):rJ (St.mk [(0,.str s,.any),(3,out,.own 1),(4,.str hex,.any),(5,.str short,.any),(6,.int .i64 i,.any),(7,.int .u8 c,.any),(8,.bool done,.any),(9,.int .i64 k,.any)] [] [] m)=jL s out hex short i c done k m:=by kernel_rfl
theorem oh (s:List UInt8) (out:IV) (hex short:List UInt8) (i c:Int) (done:Bool) (k:Int) (m:IM):lZ s out hex short i c done k m=nxt rJ (jL s out hex short i c done k m):=by rw[←B3];exact cU _ _
noncomputable def pC (s:List UInt8) (out:IV) (hex short:List UInt8) (i c:Int) (done:Bool) (m:IM):Option LR:=bQ (!done) (some (.normal,[.str s,out,.str hex,.str short,.int .i64 i,.int .u8 c,.bool done,.bool (decide (c<32))],[],m)) (some (.normal,[.str s,out,.str hex,.str short,.int .i64 i,.int .u8 c,.bool done,.bool false],[],m))
noncomputable def pJ (s:List UInt8) (out:IV) (hex short:List UInt8) (i c:Int) (done:Bool) (m:IM):Option LR:=cK (pC s out hex short i c done m) fun e0 l1 o2 m3=>exC .normal e0 (unc l1 fun v4 l5=>asS v4 fun s6=>unc l5 fun v7 l8=>unc l8 fun v9 l10=>asS v9 fun s11=>unc l10 fun v12 l13=>asS v12 fun s14=>uI .i64 l13 fun n17 l16=>uI .u8 l16 fun n20 l19=>unc l19 fun v21 l22=>asB v21 fun b23=>unc l22 fun v24 l25=>asB v24 fun b26=>unn l25 (dF o2 (bQ b26 (eN (aa [92,117,48,48]) (grd (Nat.beq (List.length (aa [92,117,48,48])) (List.length [92,117,48,48]*1)) (iy v7 1 1 (aa [92,117,48,48]) 4 fun v27=>evC .idxStr [.str s11,.int .u8 (IntKind.wrap .u8 (Int.tdiv n20 16))] fun v28=>asI .u8 v28 fun n29=>evC .idxStr [.str s11,.int .u8 (Int.tmod n20 16)] fun v30=>asI .u8 v30 fun n31=>iy v27 1 1 [.int .u8 n29,.int .u8 n31] 2 fun v32=>some (.normal,[.str s6,v32,.str s11,.str s14,.int .i64 n17,.int .u8 n20,.bool true],[],m3)))) (some (.normal,[.str s6,v7,.str s11,.str s14,.int .i64 n17,.int .u8 n20,.bool b23],[],m3))))) none
noncomputable def mQ (s:List UInt8) (out:IV) (hex short:List UInt8) (i:Int) (m:IM):Option LR:=evC .idxStr [.str s,.int .i64 i] fun v0=>asI .u8 v0 fun n1=>c7 out (cK (lZ s out hex short i n1 false 0 m) fun e2 l3 o4 m5=>exC (.exit 2) e2 (unc l3 fun v6 l7=>asS v6 fun s8=>unc l7 fun v9 l10=>unc l10 fun v11 l12=>asS v11 fun s13=>unc l12 fun v14 l15=>asS v14 fun s16=>uI .i64 l15 fun n19 l18=>uI .u8 l18 fun n22 l21=>unc l21 fun v23 l24=>asB v23 fun b25=>unn l24 (dF o4 (cK (pJ s8 v9 s13 s16 n19 n22 b25 m5) fun e26 l27 o28 m29=>exC .normal e26 (unc l27 fun v30 l31=>asS v30 fun s32=>unc l31 fun v33 l34=>unc l34 fun v35 l36=>asS v35 fun s37=>unc l36 fun v38 l39=>asS v38 fun s40=>uI .i64 l39 fun n43 l42=>uI .u8 l42 fun n46 l45=>unc l45 fun v47 l48=>asB v47 fun b49=>unn l48 (dF o28 (bQ (!b49) (iy v33 1 1 [.int .u8 n46] 1 fun v50=>some (.normal,[.str s32,v50,.str s37,.str s40,.int .i64 n43],[],m29)) (some (.normal,[.str s32,v33,.str s37,.str s40,.int .i64 n43],[],m29))))) none))) none)
noncomputable def vm:St→Option (St⊕LR):=fun s=>DY.den xF cw (St⊕LR) Fe s (fQ xF FR Ep)
noncomputable def sd (s:List UInt8) (out:IV) (hex short:List UInt8) (i:Int) (m:IM):Option LR:=iter vm (St.mk [(0,.str s,.any),(3,out,.own 1),(4,.str hex,.any),(5,.str short,.any),(6,.int .i64 i,.any)] [] [] m)
noncomputable def qz (s:List UInt8) (out:IV) (hex short:List UInt8) (i:Int) (m:IM):Option (St⊕LR):=bQ (decide (i<(↑(List.length s):Int))) (cK (mQ s out hex short i m) fun e0 l1 o2 m3=>exC .normal e0 (unc l1 fun v4 l5=>asS v4 fun s6=>unc l5 fun v7 l8=>unc l8 fun v9 l10=>asS v9 fun s11=>unc l10 fun v12 l13=>asS v12 fun s14=>uI .i64 l13 fun n17 l16=>unn l16 (dF o2 (c7 v7 (some (.inl (St.mk [(0,.str s6,.any),(3,v7,.own 1),(4,.str s11,.any),(5,.str s14,.any),(6,.int .i64 (IntKind.wrap .i64 (n17+1)),.any)] [] [] m3)))))) none) (some (.inr (.exit 0,[out],[],m)))
theorem BA (s:List UInt8) (out:IV) (hex short:List UInt8) (i:Int) (m:IM):vm (St.mk [(0,.str s,.any),(3,out,.own 1),(4,.str hex,.any),(5,.str short,.any),(6,.int .i64 i,.any)] [] [] m)=qz s out hex short i m:=by kernel_rfl
theorem tH (s:List UInt8) (out:IV) (hex short:List UInt8) (i:Int) (m:IM):sd s out hex short i m=nxt vm (qz s out hex short i m):=by rw[←BA];exact cU _ _
noncomputable def Ln (s:List UInt8) (m:IM):Option (IV×IM):=cK (sd s (.sl [.int .u8 34] 1) [48,49,50,51,52,53,54,55,56,57,97,98,99,100,101,102] [34,34,92,92,8,98,12,102,10,110,13,114,9,116] 0 m) fun e0 l1 o2 m3=>exC (.exit 0) e0 (unc l1 fun v4 l5=>unn l5 (dF o2 (iy v4 1 1 [.int .u8 34] 1 fun v6=>evC .bytesStr [v6] fun v7=>asS v7 fun s8=>settle m m3 (.str s8)))) none
theorem Hp (s:List UInt8) (m:IM):eS xF Nx i107 cw [.str s] m=Ln s m:=by kernel_rfl
theorem Bl (s:List UInt8) (m:IM) {res:IV×IM}(h:Ln s m=some res):cw (.f 107) [.str s] m=some res:=bb p107 f107 ((Hp s m).trans h)
theorem f108:tab.fns 108=some i108:=by rfl
theorem p108:ae 108=none:=by rfl
def xm:Tys:=tyG [(.agg [.int .i64,.str,.sl,.sl],[0]),(.one .bool,[1,12,17,18,21,22,23,25,26,27,42,43]),(.one .own,[2,9,19,28,37]),(.one .sl,[4,5,10,15,29,30,38,46,47,49,50,52,53,54,56,57,58]),(.one (.int .i64),[6,7,8,11,13,14,16,20,24,31,32,34,39,44,45,48,51,55]),(.one .str,[36,41])]
def Gz:XP:=[⟨.normal,[(1,.any),(5,.any),(6,.any),(7,.any),(43,.any)],[.cells 0 [.int .i64,.str,.sl,.sl] [.any,.any,.any,.any]],[(2,0,0)]⟩]
def Cs:XP:=[⟨(.exit 2),[(1,.any),(5,.any),(6,.any),(7,.any)],[.cells 0 [.int .i64,.str,.sl,.sl] [.any,.any,.any,.any]],[(2,0,0)]⟩]
def DP:Pl:=(.n none (.n (some Gz) .z .z) .z)
def EH:XP:=[⟨(.exit 0),[(5,.any)],[.dead 0],[]⟩]
def Dk:Pl:=(.n none .z (.n none (.n none (.n none .z (.n none (.n none (.n (some Cs) DP .z) .z) .z)) .z) .z))
def Mo:Pl:=(.n none .z (.n none .z (.n none (.n none .z (.n none (.n (some EH) Dk .z) .z)) .z)))
noncomputable def kQ (sorted:Bool) (out:IV) (i at_ n:Int) (s:List UInt8) (v v1:IV) (m:IM):Option LR:=bQ sorted (bQ (n==5) (bQ (decide (at_>0)) (evC (.indexS 1) [out,.int .i64 (IntKind.wrap .i64 (at_-1))] fun v0=>ldP m false 1 v0 fun v1_1=>asI .i64 v1_1 fun n2=>evC (.indexS 1) [v,.int .i64 n2] fun v3=>ldP m false 1 v3 fun v4=>asS v4 fun s5=>evC (.indexS 1) [v,.int .i64 i] fun v6=>ldP m false 1 v6 fun v7=>asS v7 fun s8=>some (.normal,[.bool sorted,out,.int .i64 i,.int .i64 at_,.bool !(aq s5 s8||s5==s8)],[.cells [.int .i64 n,.str s,v,v1] [.any,.any,.any,.any]],m)) (some (.normal,[.bool sorted,out,.int .i64 i,.int .i64 at_,.bool false],[.cells [.int .i64 n,.str s,v,v1] [.any,.any,.any,.any]],m))) (some (.normal,[.bool sorted,out,.int .i64 i,.int .i64 at_,.bool false],[.cells [.int .i64 n,.str s,v,v1] [.any,.any,.any,.any]],m))) (some (.normal,[.bool sorted,out,.int .i64 i,.int .i64 at_,.bool false],[.cells [.int .i64 n,.str s,v,v1] [.any,.any,.any,.any]],m))
noncomputable def yj:St→Option (St⊕LR):=fun s=>CQ.den xm cw (St⊕LR) DP s (fQ xm FD Cs)
noncomputable def y8 (sorted:Bool) (out:IV) (i at_ n:Int) (s:List UInt8) (v v1:IV) (m:IM):Option LR:=iter yj (St.mk [(1,.bool sorted,.any),(2,.pL 0 0,.any),(5,out,.any),(6,.int .i64 i,.any),(7,.int .i64 at_,.any)] [] [(0,.cells [.int .i64 n,.str s,v,v1] [.any,.any,.any,.any])] m)
noncomputable def qf (sorted:Bool) (out:IV) (i at_ n:Int) (s:List UInt8) (v v1:IV) (m:IM):Option (St⊕LR):=cK (kQ sorted out i at_ n s v v1 m) fun e0 l1 o2 m3=>exC .normal e0 (unc l1 fun v4 l5=>asB v4 fun b6=>unc l5 fun v7 l8=>uI .i64 l8 fun n11 l10=>uI .i64 l10 fun n14 l13=>unc l13 fun v15 l16=>asB v15 fun b17=>unn l16 (unb o2 fun x18 o19=>asC x18 fun l20=>uV l20 fun n23 s26 v27 v29 l30=>unn l30 (dF o19 (bQ b17 (c7 v7 (some (.inl (St.mk [(1,.bool b6,.any),(2,.pL 0 0,.any),(5,v7,.any),(6,.int .i64 n11,.any),(7,.int .i64 (IntKind.wrap .i64 (n14-1)),.any)] [] [(0,.cells [.int .i64 n23,.str s26,v27,v29] [.any,.any,.any,.any])] m3)))) (some (.inr (.exit 2,[.bool b6,v7,.int .i64 n11,.int .i64 n14],[.cells [.int .i64 n23,.str s26,v27,v29] [.any,.any,.any,.any]],m3))))))) none
theorem BQ (sorted:Bool) (out:IV) (i at_ n:Int) (s:List UInt8) (v v1:IV) (m:IM):yj (St.mk [(1,.bool sorted,.any),(2,.pL 0 0,.any),(5,out,.any),(6,.int .i64 i,.any),(7,.int .i64 at_,.any)] [] [(0,.cells [.int .i64 n,.str s,v,v1] [.any,.any,.any,.any])] m)=qf sorted out i at_ n s v v1 m:=by kernel_rfl
theorem tK (sorted:Bool) (out:IV) (i at_ n:Int) (s:List UInt8) (v v1:IV) (m:IM):y8 sorted out i at_ n s v v1 m=nxt yj (qf sorted out i at_ n s v v1 m):=by rw[←BQ];exact cU _ _
noncomputable def vw:St→Option (St⊕LR):=fun s=>E9.den xm cw (St⊕LR) Dk s (fQ xm Dn EH)
noncomputable def rZ (sorted:Bool) (out:IV) (i n:Int) (s:List UInt8) (v v1:IV) (m:IM):Option LR:=iter vw (St.mk [(1,.bool sorted,.any),(2,.pL 0 0,.any),(5,out,.any),(6,.int .i64 i,.any)] [] [(0,.cells [.int .i64 n,.str s,v,v1] [.any,.any,.any,.any])] m)
noncomputable def qL (sorted:Bool) (out:IV) (i n:Int) (s:List UInt8) (v v1:IV) (m:IM):Option (St⊕LR):=evC .lenSlice [v1] fun v0=>asI .i64 v0 fun n1=>bQ (decide (i<n1)) (evC .lenSlice [out] fun v2=>asI .i64 v2 fun n3=>c7 out (cK (y8 sorted out i n3 n s v v1 m) fun e4 l5 o6 m7=>exC (.exit 2) e4 (unc l5 fun v8 l9=>asB v8 fun b10=>unc l9 fun v11 l12=>uI .i64 l12 fun n15 l14=>uI .i64 l14 fun n18 l17=>unn l17 (unb o6 fun x19 o20=>asC x19 fun l21=>uV l21 fun n24 s27 v28 v30 l31=>unn l31 (dF o20 (evC (.sliceS 1 false true) [v11,.int .i64 n18] fun v32=>jN m7 1 v32 fun l33 k34=>eN l33 (grd (Nat.beq (List.length l33) (k34*1)) (grd (decide ((0+k34)*8≤ak∧List.length (cS [.int .i64 0] 0)=0*1)) (grd (decide ((0+k34+1)*8≤ak∧List.length (cS [.int .i64 0] 0++l33)=(0+k34)*1)) (evC (.sliceS 1 true false) [v11,.int .i64 n18] fun v35=>jN m7 1 v35 fun l36 k37=>eN l36 (grd (Nat.beq (List.length l36) (k37*1)) (grd (decide ((0+k34+1+k37)*8≤ak∧List.length (cS [.int .i64 0] 0++l33++over (cS [.int .i64 0] 1) 0 [.int .i64 n15])=(0+k34+1)*1)) (some (.inl (St.mk [(1,.bool b10,.any),(2,.pL 0 0,.any),(5,.sl (List.append (List.append l33 [.int .i64 n15]) l36) (0+k34+1+k37),.any),(6,.int .i64 (IntKind.wrap .i64 (n15+1)),.any)] [] [(0,.cells [.int .i64 n24,.str s27,v28,v30] [.any,.any,.any,.any])] m7))))))))))))) none)) (some (.inr (.exit 0,[out],[],m)))
theorem Cg (sorted:Bool) (out:IV) (i n:Int) (s:List UInt8) (v v1:IV) (m:IM):vw (St.mk [(1,.bool sorted,.any),(2,.pL 0 0,.any),(5,out,.any),(6,.int .i64 i,.any)] [] [(0,.cells [.int .i64 n,.str s,v,v1] [.any,.any,.any,.any])] m)=qL sorted out i n s v v1 m:=by kernel_rfl
theorem tN (sorted:Bool) (out:IV) (i n:Int) (s:List UInt8) (v v1:IV) (m:IM):rZ sorted out i n s v v1 m=nxt vw (qL sorted out i n s v v1 m):=by rw[←Cg];exact cU _ _
noncomputable def JE (v:Int) (v1:List UInt8) (v2 v3:IV) (sorted:Bool) (m:IM):Option (IV×IM):=dm v2 (dm v3 (cK (rZ sorted .nilSlice 0 v v1 v2 v3 m) fun e0 l1 o2 m3=>exC (.exit 0) e0 (unc l1 fun v4 l5=>unn l5 (dF o2 (settle m m3 v4))) none))
theorem Hy (v:Int) (v1:List UInt8) (v2 v3:IV) (sorted:Bool) (m:IM):eS xm Mo i108 cw [.agg [.int .i64 v,.str v1,v2,v3],.bool sorted] m=JE v v1 v2 v3 sorted m:=by kernel_rfl
theorem Bx (v:Int) (v1:List UInt8) (v2 v3:IV) (sorted:Bool) (m:IM) {res:IV×IM}(h:JE v v1 v2 v3 sorted m=some res):cw (.f 108) [.agg [.int .i64 v,.str v1,v2,v3],.bool sorted] m=some res:=bb p108 f108 ((Hy v v1 v2 v3 sorted m).trans h)
theorem f109:tab.fns 109=some i109:=by rfl
theorem p109:ae 109=none:=by rfl
def FL:Tys:=tyG [(.one .ptr0,[0]),(.one (.int .i64),[1,4,18,19,21,22]),(.one .ptr,[5,6,7,9,10,11,12,16,17,23,24,25,26,29,30]),(.one .bool,[8,20]),(.one .sl,[13,14,15,27,28])]
def Fh:XP:=[⟨(.exit 0),[],[],[]⟩]
def CJ:Pl:=.z
def Mx:Pl:=(.n none .z (.n none (.n none .z (.n none .z (.n none (.n (some Fh) CJ .z) .z))) .z))
noncomputable def vf:St→Option (St⊕LR):=fun s=>C6.den FL cw (St⊕LR) CJ s (fQ FL Cp Fh)
noncomputable def qY (p:Nat) (level i:Int) (m:IM):Option LR:=iter vf (St.mk [(0,.pB p 0,.any),(1,.int .i64 level,.any),(4,.int .i64 i,.any)] [] [] m)
noncomputable def qK (p:Nat) (level i:Int) (m:IM):Option (St⊕LR):=bQ (decide (i<level)) (dK m p fun l0 x1=>dg false l0 0 1 fun v2=>eN (aa [32,32]) (grd (Nat.beq (List.length (aa [32,32])) (List.length [32,32]*1)) (fO m p 0 v2 1 1 (aa [32,32]) 2 fun v3 m4=>isSl v3 (stP m4 (.pB p 0) [v3] (.own 1) fun m5=>some (.inl (St.mk [(0,.pB p 0,.any),(1,.int .i64 level,.any),(4,.int .i64 (IntKind.wrap .i64 (i+1)),.any)] [] [] m5)))))) (some (.inr (.exit 0,[],[],m)))
theorem A0 (p:Nat) (level i:Int) (m:IM):vf (St.mk [(0,.pB p 0,.any),(1,.int .i64 level,.any),(4,.int .i64 i,.any)] [] [] m)=qK p level i m:=by kernel_rfl
theorem tB (p:Nat) (level i:Int) (m:IM):qY p level i m=nxt vf (qK p level i m):=by rw[←A0];exact cU _ _
noncomputable def Gg (p:Nat) (level:Int) (m:IM):Option (IV×IM):=dK m p fun l0 x1=>dg false l0 2 1 fun v2=>asB v2 fun b3=>bQ b3 (dK m p fun l4 x5=>dg false l4 0 1 fun v6=>fO m p 0 v6 1 1 [.int .u8 10] 1 fun v7 m8=>isSl v7 (stP m8 (.pB p 0) [v7] (.own 1) fun m9=>cK (qY p level 0 m9) fun e10 l11 o12 m13=>exC (.exit 0) e10 (unn l11 (dF o12 (settle m m13 (.tup [])))) none)) (settle m m (.tup []))
theorem HB (p:Nat) (level:Int) (m:IM):eS FL Mx i109 cw [.pB p 0,.int .i64 level] m=Gg p level m:=by kernel_rfl
theorem B4 (p:Nat) (level:Int) (m:IM) {res:IV×IM}(h:Gg p level m=some res):cw (.f 109) [.pB p 0,.int .i64 level] m=some res:=bb p109 f109 ((HB p level m).trans h)
theorem f20:tab.fns 20=some i20:=by rfl
theorem p20:ae 20=none:=by rfl
def OA:Tys:=tyG [(.agg [.int .i64,.str,.sl,.sl],[0,4]),(.one .own,[1]),(.one .str,[2,6]),(.one (.int .i64),[3,7]),(.tup [.one .str,.one (.int .i64)],[5])]
def Oe:Pl:=.z
noncomputable def F20 (v:Int) (v1:List UInt8) (v2 v3:IV) (m:IM):Option (IV×IM):=dm v2 (dm v3 (bc cw (.f 53) [.agg [.int .i64 v,.str v1,v2,v3],.bool false,.bool false] [] m fun v0 m1=>asT v0 fun l2=>unc l2 fun v3 l4=>asS v3 fun s5=>uI .i64 l4 fun n8 l7=>unn l7 (settle m m1 (.tup [.str s5,.int .i64 n8]))))
theorem KU (v:Int) (v1:List UInt8) (v2 v3:IV) (m:IM):eS OA Oe i20 cw [.agg [.int .i64 v,.str v1,v2,v3]] m=F20 v v1 v2 v3 m:=by kernel_rfl
theorem CY (v:Int) (v1:List UInt8) (v2 v3:IV) (m:IM) {res:IV×IM}(h:F20 v v1 v2 v3 m=some res):cw (.f 20) [.agg [.int .i64 v,.str v1,v2,v3]] m=some res:=bb p20 f20 ((KU v v1 v2 v3 m).trans h)
theorem f53:tab.fns 53=some i53:=by rfl
theorem p53:ae 53=none:=by rfl
def On:Tys:=tyG [(.agg [.int .i64,.str,.sl,.sl],[0,10,20]),(.one .bool,[1,2,13,15,16,27]),(.one .own,[3]),(.one .str,[6,32]),(.one (.int .i64),[7,8,11,12,14,26]),(.one .ptr,[9,18,19,22,23,24,28,29,30]),(.agg [.sl,.bool,.bool],[17]),(.tup [],[21]),(.one .sl,[25,31])]
def Om:Pl:=.z
noncomputable def F53 (v:Int) (v1:List UInt8) (v2 v3:IV) (sorted lines:Bool) (m:IM):Option (IV×IM):=dm v2 (dm v3 (bc cw (.f 26) [.agg [.int .i64 v,.str v1,v2,v3]] [] m fun v0 m1=>asI .i64 v0 fun n2=>bQ (n2 != 0) (settle m m1 (.tup [.str [],.int .i64 n2])) (bc cw (.f 83) [.pB (IM.size m1) 0,.agg [.int .i64 v,.str v1,v2,v3],.int .i64 0] [] (bR m1 (.cells [.nilSlice,.bool sorted,.bool lines] [.any,.any,.any])) fun v3 m4=>asT v3 fun l5=>unn l5 (dK m4 (IM.size m1) fun l6 x7=>dg false l6 0 1 fun v8=>evC .lenSlice [v8] fun v9=>asI .i64 v9 fun n10=>bQ (decide (n10>100000)) (settle m m4 (.tup [.str [],.int .i64 20])) (dK m4 (IM.size m1) fun l11 x12=>dg false l11 0 1 fun v13=>evC .bytesStr [v13] fun v14=>asS v14 fun s15=>settle m m4 (.tup [.str s15,.int .i64 0]))))))
theorem Jp (v:Int) (v1:List UInt8) (v2 v3:IV) (sorted lines:Bool) (m:IM):eS On Om i53 cw [.agg [.int .i64 v,.str v1,v2,v3],.bool sorted,.bool lines] m=F53 v v1 v2 v3 sorted lines m:=by kernel_rfl
theorem Fz (v:Int) (v1:List UInt8) (v2 v3:IV) (sorted lines:Bool) (m:IM) {res:IV×IM}(h:F53 v v1 v2 v3 sorted lines m=some res):cw (.f 53) [.agg [.int .i64 v,.str v1,v2,v3],.bool sorted,.bool lines] m=some res:=bb p53 f53 ((Jp v v1 v2 v3 sorted lines m).trans h)
theorem f17:tab.fns 17=some i17:=by rfl
theorem p17:ae 17=none:=by rfl
def NN:Tys:=tyG [(.agg [.int .i64,.str,.sl,.sl],[0,3]),(.one .own,[1]),(.one .bool,[2,5]),(.one (.int .i64),[4])]
def Ol:Pl:=.z
noncomputable def F17 (v:Int) (v1:List UInt8) (v2 v3:IV) (m:IM):Option (IV×IM):=dm v2 (dm v3 (bc cw (.f 51) [.agg [.int .i64 v,.str v1,v2,v3],.int .i64 0] [] m fun v0 m1=>asI .i64 v0 fun n2=>settle m m1 (.bool (decide (n2≤60)))))
theorem Jg (v:Int) (v1:List UInt8) (v2 v3:IV) (m:IM):eS NN Ol i17 cw [.agg [.int .i64 v,.str v1,v2,v3]] m=F17 v v1 v2 v3 m:=by kernel_rfl
theorem DE (v:Int) (v1:List UInt8) (v2 v3:IV) (m:IM) {res:IV×IM}(h:F17 v v1 v2 v3 m=some res):cw (.f 17) [.agg [.int .i64 v,.str v1,v2,v3]] m=some res:=bb p17 f17 ((Jg v v1 v2 v3 m).trans h)
theorem f51:tab.fns 51=some i51:=by rfl
theorem p51:ae 51=none:=by rfl
def KX:Tys:=tyG [(.agg [.int .i64,.str,.sl,.sl],[0,34]),(.one (.int .i64),[1,4,5,6,7,11,12,15,16,17,18,21,24,27,28,29,32,35,36,37,38,39]),(.one .own,[2,9,13,19,30]),(.one .bool,[8,22,23,25,26]),(.one .sl,[10,20,31]),(.one .str,[14])]
def Kv:XP:=[⟨.normal,[(1,.any),(5,.any),(6,.any),(26,.any)],[.cells 0 [.int .i64,.str,.sl,.sl] [.any,.any,.any,.any]],[(2,0,0)]⟩]
def Ic:XP:=[⟨(.exit 0),[(5,.any)],[.dead 0],[]⟩]
def Il:Pl:=(.n none (.n (some Kv) .z .z) .z)
def Oc:Pl:=(.n none .z (.n none .z (.n none .z (.n none (.n none .z (.n none (.n (some Ic) Il .z) .z)) .z))))
noncomputable def q9 (level n:Int) (i n1:Int) (s:List UInt8) (v v1:IV) (m:IM):Option LR:=evC .lenSlice [v1] fun v0=>asI .i64 v0 fun n1_1=>bQ (decide (i<n1_1)) (some (.normal,[.int .i64 level,.int .i64 n,.int .i64 i,.bool (decide (n≤60))],[.cells [.int .i64 n1,.str s,v,v1] [.any,.any,.any,.any]],m)) (some (.normal,[.int .i64 level,.int .i64 n,.int .i64 i,.bool false],[.cells [.int .i64 n1,.str s,v,v1] [.any,.any,.any,.any]],m))
noncomputable def Cw:St→Option (St⊕LR):=fun s=>Iv.den KX cw (St⊕LR) Il s (fQ KX Ip Ic)
noncomputable def zI (level n:Int) (i n1:Int) (s:List UInt8) (v v1:IV) (m:IM):Option LR:=iter Cw (St.mk [(1,.int .i64 level,.any),(2,.pL 0 0,.any),(5,.int .i64 n,.any),(6,.int .i64 i,.any)] [] [(0,.cells [.int .i64 n1,.str s,v,v1] [.any,.any,.any,.any])] m)
noncomputable def xa (level n:Int) (i n1:Int) (s:List UInt8) (v v1:IV) (m:IM):Option (St⊕LR):=cK (q9 level n i n1 s v v1 m) fun e0 l1 o2 m3=>exC .normal e0 (uI .i64 l1 fun n6 l5=>uI .i64 l5 fun n9 l8=>uI .i64 l8 fun n12 l11=>unc l11 fun v13 l14=>asB v13 fun b15=>unn l14 (unb o2 fun x16 o17=>asC x16 fun l18=>uV l18 fun n21 s24 v25 v27 l28=>unn l28 (dF o17 (bQ b15 (evC (.indexS 4) [v27,.int .i64 n12] fun v29=>ldP m3 true 4 v29 fun v30=>asA v30 fun l31=>uV l31 fun n34 s37 v38 v40 l41=>unn l41 (bc cw (.f 51) [.agg [.int .i64 n34,.str s37,v38,v40],.int .i64 (IntKind.wrap .i64 (n6+1))] [] m3 fun v42 m43=>asI .i64 v42 fun n44=>some (.inl (St.mk [(1,.int .i64 n6,.any),(2,.pL 0 0,.any),(5,.int .i64 (IntKind.wrap .i64 (n9+n44)),.any),(6,.int .i64 (IntKind.wrap .i64 (n12+1)),.any)] [] [(0,.cells [.int .i64 n21,.str s24,v25,v27] [.any,.any,.any,.any])] m43)))) (some (.inr (.exit 0,[.int .i64 n9],[],m3))))))) none
theorem D3 (level n:Int) (i n1:Int) (s:List UInt8) (v v1:IV) (m:IM):Cw (St.mk [(1,.int .i64 level,.any),(2,.pL 0 0,.any),(5,.int .i64 n,.any),(6,.int .i64 i,.any)] [] [(0,.cells [.int .i64 n1,.str s,v,v1] [.any,.any,.any,.any])] m)=xa level n i n1 s v v1 m:=by kernel_rfl
theorem xe (level n:Int) (i n1:Int) (s:List UInt8) (v v1:IV) (m:IM):zI level n i n1 s v v1 m=nxt Cw (xa level n i n1 s v v1 m):=by rw[←D3];exact cU _ _
noncomputable def F51 (v:Int) (v1:List UInt8) (v2 v3:IV) (level:Int) (m:IM):Option (IV×IM):=dm v2 (dm v3 (bQ (decide (level>50)) (settle m m (.int .i64 100)) (evC .lenSlice [v2] fun v0=>asI .i64 v0 fun n1=>cK (zI level (IntKind.wrap .i64 (IntKind.wrap .i64 (1+n1)+IntKind.wrap .i64 (Int.tdiv (↑(List.length v1):Int) 200))) 0 v v1 v2 v3 m) fun e2 l3 o4 m5=>exC (.exit 0) e2 (uI .i64 l3 fun n8 l7=>unn l7 (dF o4 (settle m m5 (.int .i64 n8)))) none)))
theorem JJ (v:Int) (v1:List UInt8) (v2 v3:IV) (level:Int) (m:IM):eS KX Oc i51 cw [.agg [.int .i64 v,.str v1,v2,v3],.int .i64 level] m=F51 v v1 v2 v3 level m:=by kernel_rfl
theorem xQ (v:Int) (v1:List UInt8) (v2 v3:IV) (level:Int) (m:IM) {res:IV×IM}(h:F51 v v1 v2 v3 level m=some res):cw (.f 51) [.agg [.int .i64 v,.str v1,v2,v3],.int .i64 level] m=some res:=bb p51 f51 ((JJ v v1 v2 v3 level m).trans h)
theorem f19:tab.fns 19=some i19:=by rfl
theorem p19:ae 19=none:=by rfl
def KL:Tys:=tyG [(.agg [.int .i64,.str,.sl,.sl],[0,13,20,23,24,29]),(.one .own,[1,2,3,5,6,8,10,14,21,27]),(.one (.int .i64),[7,16,17,28]),(.one .str,[9]),(.one .sl,[11,12,15,22,25,26])]
def IA:XP:=[⟨(.exit 0),[],[.cells 1 [.int .i64,.str,.sl,.sl] [.any,.any,(.own 1),(.own 4)],.cells 2 [.int .i64,.str,.sl,.sl] [.any,.any,.any,(.own 4)]],[(2,1,0),(3,2,0)]⟩]
def Ix:Pl:=.z
def NT:Pl:=(.n none .z (.n none .z (.n none (.n none .z (.n none (.n (some IA) Ix .z) .z)) .z)))
noncomputable def Fm:St→Option (St⊕LR):=fun s=>It.den KL cw (St⊕LR) Ix s (fQ KL IF IA)
noncomputable def Aa (v:IV) (n n1 n2:Int) (s:List UInt8) (v1 v2:IV) (n3:Int) (s1:List UInt8) (v3 v4:IV) (m:IM):Option LR:=iter Fm (St.mk [(2,.pL 1 0,.any),(3,.pL 2 0,.any),(15,v,.any),(16,.int .i64 n,.any),(17,.int .i64 n1,.any)] [] [(1,.cells [.int .i64 n2,.str s,v1,v2] [.any,.any,.own 1,.own 4]),(2,.cells [.int .i64 n3,.str s1,v3,v4] [.any,.any,.any,.own 4])] m)
noncomputable def wF (v:IV) (n n1 n2:Int) (s:List UInt8) (v1 v2:IV) (n3:Int) (s1:List UInt8) (v3 v4:IV) (m:IM):Option (St⊕LR):=bQ (decide (n1<n)) (evC (.indexS 4) [v,.int .i64 n1] fun v0=>ldP m true 4 v0 fun v1_1=>asA v1_1 fun l2=>uV l2 fun n5 s8 v9 v11 l12=>unn l12 (dm v9 (dm v11 (bc cw (.f 19) [.agg [.int .i64 n5,.str s8,v9,v11]] [] m fun v13 m14=>asA v13 fun l15=>uV l15 fun n18 s21 v22 v24 l25=>unn l25 (vd v22 (vd v24 (vd v22 (vd v24 (iy v4 4 72 [.int .i64 n18,.str s21,v22,v24] 1 fun v26=>isSl v26 (dm v26 (c7 v (some (.inl (St.mk [(2,.pL 1 0,.any),(3,.pL 2 0,.any),(15,v,.any),(16,.int .i64 n,.any),(17,.int .i64 (IntKind.wrap .i64 (n1+1)),.any)] [] [(1,.cells [.int .i64 n2,.str s,v1,v2] [.any,.any,.own 1,.own 4]),(2,.cells [.int .i64 n3,.str s1,v3,v26] [.any,.any,.any,.own 4])] m14)))))))))))))) (some (.inr (.exit 0,[],[.cells [.int .i64 n2,.str s,v1,v2] [.any,.any,.own 1,.own 4],.cells [.int .i64 n3,.str s1,v3,v4] [.any,.any,.any,.own 4]],m)))
theorem Ft (v:IV) (n n1 n2:Int) (s:List UInt8) (v1 v2:IV) (n3:Int) (s1:List UInt8) (v3 v4:IV) (m:IM):Fm (St.mk [(2,.pL 1 0,.any),(3,.pL 2 0,.any),(15,v,.any),(16,.int .i64 n,.any),(17,.int .i64 n1,.any)] [] [(1,.cells [.int .i64 n2,.str s,v1,v2] [.any,.any,.own 1,.own 4]),(2,.cells [.int .i64 n3,.str s1,v3,v4] [.any,.any,.any,.own 4])] m)=wF v n n1 n2 s v1 v2 n3 s1 v3 v4 m:=by kernel_rfl
theorem sN (v:IV) (n n1 n2:Int) (s:List UInt8) (v1 v2:IV) (n3:Int) (s1:List UInt8) (v3 v4:IV) (m:IM):Aa v n n1 n2 s v1 v2 n3 s1 v3 v4 m=nxt Fm (wF v n n1 n2 s v1 v2 n3 s1 v3 v4 m):=by rw[←Ft];exact cU _ _
noncomputable def F19 (v:Int) (v1:List UInt8) (v2 v3:IV) (m:IM):Option (IV×IM):=dm v2 (dm v3 (bc cw (.f 50) [v2] [] m fun v0 m1=>FJ v0 (dm v0 (evC .lenSlice [v3] fun v2=>asI .i64 v2 fun n3=>c7 v3 (cK (Aa v3 n3 0 0 [] .nilSlice .nilSlice v v1 v0 .nilSlice m1) fun e4 l5 o6 m7=>exC (.exit 0) e4 (unn l5 (unb o6 fun x8 o9=>asC x8 fun l10=>uV l10 fun n13 s16 v17 v19 l20=>unn l20 (unb o9 fun x21 o22=>asC x21 fun l23=>uV l23 fun n26 s29 v30 v32 l33=>unn l33 (dF o22 (dm v30 (dm v32 (settle m m7 (.agg [.int .i64 n26,.str s29,v30,v32])))))))) none)))))
theorem Kn (v:Int) (v1:List UInt8) (v2 v3:IV) (m:IM):eS KL NT i19 cw [.agg [.int .i64 v,.str v1,v2,v3]] m=F19 v v1 v2 v3 m:=by kernel_rfl
theorem xN (v:Int) (v1:List UInt8) (v2 v3:IV) (m:IM) {res:IV×IM}(h:F19 v v1 v2 v3 m=some res):cw (.f 19) [.agg [.int .i64 v,.str v1,v2,v3]] m=some res:=bb p19 f19 ((Kn v v1 v2 v3 m).trans h)
theorem f21:tab.fns 21=some i21:=by rfl
theorem p21:ae 21=none:=by rfl
def N2:Tys:=tyG [(.agg [.int .i64,.str,.sl,.sl],[0,4]),(.one .own,[1]),(.one .str,[2,7]),(.one (.int .i64),[3,8]),(.agg [.bool,.bool],[5]),(.tup [.one .str,.one (.int .i64)],[6])]
def Ov:Pl:=.z
noncomputable def F21 (v:Int) (v1:List UInt8) (v2 v3:IV) (m:IM):Option (IV×IM):=dm v2 (dm v3 (bc cw (.f 52) [.agg [.int .i64 v,.str v1,v2,v3],.agg [.bool true,.bool false]] [] m fun v0 m1=>asT v0 fun l2=>unc l2 fun v3 l4=>asS v3 fun s5=>uI .i64 l4 fun n8 l7=>unn l7 (settle m m1 (.tup [.str s5,.int .i64 n8]))))
theorem Ly (v:Int) (v1:List UInt8) (v2 v3:IV) (m:IM):eS N2 Ov i21 cw [.agg [.int .i64 v,.str v1,v2,v3]] m=F21 v v1 v2 v3 m:=by kernel_rfl
theorem Ey (v:Int) (v1:List UInt8) (v2 v3:IV) (m:IM) {res:IV×IM}(h:F21 v v1 v2 v3 m=some res):cw (.f 21) [.agg [.int .i64 v,.str v1,v2,v3]] m=some res:=bb p21 f21 ((Ly v v1 v2 v3 m).trans h)
theorem f22:tab.fns 22=some i22:=by rfl
theorem p22:ae 22=none:=by rfl
def NO:Tys:=tyG [(.agg [.int .i64,.str,.sl,.sl],[0,4]),(.one .own,[1]),(.one .str,[2,6]),(.one (.int .i64),[3,7]),(.tup [.one .str,.one (.int .i64)],[5])]
def Of:Pl:=.z
noncomputable def F22 (v:Int) (v1:List UInt8) (v2 v3:IV) (m:IM):Option (IV×IM):=dm v2 (dm v3 (bc cw (.f 53) [.agg [.int .i64 v,.str v1,v2,v3],.bool true,.bool false] [] m fun v0 m1=>asT v0 fun l2=>unc l2 fun v3 l4=>asS v3 fun s5=>uI .i64 l4 fun n8 l7=>unn l7 (settle m m1 (.tup [.str s5,.int .i64 n8]))))
theorem I1 (v:Int) (v1:List UInt8) (v2 v3:IV) (m:IM):eS NO Of i22 cw [.agg [.int .i64 v,.str v1,v2,v3]] m=F22 v v1 v2 v3 m:=by kernel_rfl
theorem CI (v:Int) (v1:List UInt8) (v2 v3:IV) (m:IM) {res:IV×IM}(h:F22 v v1 v2 v3 m=some res):cw (.f 22) [.agg [.int .i64 v,.str v1,v2,v3]] m=some res:=bb p22 f22 ((I1 v v1 v2 v3 m).trans h)
theorem f23:tab.fns 23=some i23:=by rfl
theorem p23:ae 23=none:=by rfl
def Oj:Tys:=tyG [(.agg [.int .i64,.str,.sl,.sl],[0,4]),(.one .own,[1]),(.one .str,[2,7]),(.one (.int .i64),[3,8]),(.agg [.bool,.bool],[5]),(.tup [.one .str,.one (.int .i64)],[6])]
def NX:Pl:=.z
noncomputable def F23 (v:Int) (v1:List UInt8) (v2 v3:IV) (m:IM):Option (IV×IM):=dm v2 (dm v3 (bc cw (.f 52) [.agg [.int .i64 v,.str v1,v2,v3],.agg [.bool false,.bool true]] [] m fun v0 m1=>asT v0 fun l2=>unc l2 fun v3 l4=>asS v3 fun s5=>uI .i64 l4 fun n8 l7=>unn l7 (settle m m1 (.tup [.str s5,.int .i64 n8]))))
theorem Ji (v:Int) (v1:List UInt8) (v2 v3:IV) (m:IM):eS Oj NX i23 cw [.agg [.int .i64 v,.str v1,v2,v3]] m=F23 v v1 v2 v3 m:=by kernel_rfl
theorem FE (v:Int) (v1:List UInt8) (v2 v3:IV) (m:IM) {res:IV×IM}(h:F23 v v1 v2 v3 m=some res):cw (.f 23) [.agg [.int .i64 v,.str v1,v2,v3]] m=some res:=bb p23 f23 ((Ji v v1 v2 v3 m).trans h)
theorem f24:tab.fns 24=some i24:=by rfl
theorem p24:ae 24=none:=by rfl
def NI:Tys:=tyG [(.agg [.int .i64,.str,.sl,.sl],[0,4]),(.one .own,[1]),(.one .str,[2,6]),(.one (.int .i64),[3,7]),(.tup [.one .str,.one (.int .i64)],[5])]
def NU:Pl:=.z
noncomputable def F24 (v:Int) (v1:List UInt8) (v2 v3:IV) (m:IM):Option (IV×IM):=dm v2 (dm v3 (bc cw (.f 53) [.agg [.int .i64 v,.str v1,v2,v3],.bool false,.bool true] [] m fun v0 m1=>asT v0 fun l2=>unc l2 fun v3 l4=>asS v3 fun s5=>uI .i64 l4 fun n8 l7=>unn l7 (settle m m1 (.tup [.str s5,.int .i64 n8]))))
theorem I2 (v:Int) (v1:List UInt8) (v2 v3:IV) (m:IM):eS NI NU i24 cw [.agg [.int .i64 v,.str v1,v2,v3]] m=F24 v v1 v2 v3 m:=by kernel_rfl
theorem FC (v:Int) (v1:List UInt8) (v2 v3:IV) (m:IM) {res:IV×IM}(h:F24 v v1 v2 v3 m=some res):cw (.f 24) [.agg [.int .i64 v,.str v1,v2,v3]] m=some res:=bb p24 f24 ((I2 v v1 v2 v3 m).trans h)
theorem f5:tab.fns 5=some i5:=by rfl
theorem p5:ae 5=none:=by rfl
def ty5:Tys:=tyG [(.agg [.int .i64,.str,.sl,.sl],[0,15,20,21,26,31,32,37,42,43,48,52,53,55]),(.one .own,[1]),(.one .bool,[2,16,17,18,57,58,61,62,63,66,67,68,71,72,73,76,77,78,81,82,83,86,87,88,89,90]),(.one .str,[3,5,7,9,11,13,23,28,34,39,45,50,59,60,64,65,69,70]),(.one (.int .i64),[4,6,8,10,12,14,24,29,35,40,46,51,54,56,74,75,79,80,84,85]),(.tup [.one .str,.one (.int .i64)],[19,22,25,27,30,33,36,38,41,44,47,49])]
def L4:XP:=[⟨.normal,[(2,.any)],[.dead 0],[]⟩]
def pl5:Pl:=(.n none .z (.n none .z (.n none .z (.n none .z (.n none .z (.n none .z (.n none .z (.n none .z (.n (some L4) .z .z)))))))))
noncomputable def C0 (a:List UInt8) (e1:Int) (b:List UInt8) (f1:Int) (c:List UInt8) (e2:Int) (d:List UInt8) (f2:Int) (g:List UInt8) (e3:Int) (h:List UInt8) (f3 n:Int) (s:List UInt8) (v v1:IV) (m:IM):Option LR:=bc cw (.f 19) [.agg [.int .i64 n,.str s,v,v1]] [] m fun v0 m1=>asA v0 fun l2=>uV l2 fun n5 s8 v9 v11 l12=>unn l12 (bc cw (.f 25) [.agg [.int .i64 n5,.str s8,v9,v11]] [] m1 fun v13 m14=>asI .i64 v13 fun n15=>bc cw (.f 26) [.agg [.int .i64 n,.str s,v,v1]] [] m14 fun v16 m17=>asI .i64 v16 fun n18=>bQ (n15==n18) (bQ (a==b) (bQ (c==d) (bQ (g==h) (bQ (e1==f1) (bQ (e2==f2) (bQ (e3==f3) (bc cw (.f 10) [] [] m17 fun v19 m20=>asB v19 fun b21=>some (.normal,[.bool b21],[],m20)) (some (.normal,[.bool false],[],m17))) (some (.normal,[.bool false],[],m17))) (some (.normal,[.bool false],[],m17))) (some (.normal,[.bool false],[],m17))) (some (.normal,[.bool false],[],m17))) (some (.normal,[.bool false],[],m17))) (some (.normal,[.bool false],[],m17)))
noncomputable def F5 (v:Int) (v1:List UInt8) (v2 v3:IV) (m:IM):Option (IV×IM):=dm v2 (dm v3 (bc cw (.f 17) [.agg [.int .i64 v,.str v1,v2,v3]] [] m fun v0 m1=>asB v0 fun b2=>bQ (!b2) (bc cw (.f 10) [] [] m1 fun v3 m4=>asB v3 fun b5=>settle m m4 (.bool b5)) (bc cw (.f 19) [.agg [.int .i64 v,.str v1,v2,v3]] [] m1 fun v6 m7=>asA v6 fun l8=>uV l8 fun n11 s14 v15 v17 l18=>unn l18 (bc cw (.f 18) [.agg [.int .i64 n11,.str s14,v15,v17]] [] m7 fun v19 m20=>asT v19 fun l21=>unc l21 fun v22 l23=>asS v22 fun s24=>uI .i64 l23 fun n27 l26=>unn l26 (bc cw (.f 20) [.agg [.int .i64 v,.str v1,v2,v3]] [] m20 fun v28 m29=>asT v28 fun l30=>unc l30 fun v31 l32=>asS v31 fun s33=>uI .i64 l32 fun n36 l35=>unn l35 (bc cw (.f 19) [.agg [.int .i64 v,.str v1,v2,v3]] [] m29 fun v37 m38=>asA v37 fun l39=>uV l39 fun n42 s45 v46 v48 l49=>unn l49 (bc cw (.f 21) [.agg [.int .i64 n42,.str s45,v46,v48]] [] m38 fun v50 m51=>asT v50 fun l52=>unc l52 fun v53 l54=>asS v53 fun s55=>uI .i64 l54 fun n58 l57=>unn l57 (bc cw (.f 22) [.agg [.int .i64 v,.str v1,v2,v3]] [] m51 fun v59 m60=>asT v59 fun l61=>unc l61 fun v62 l63=>asS v62 fun s64=>uI .i64 l63 fun n67 l66=>unn l66 (bc cw (.f 19) [.agg [.int .i64 v,.str v1,v2,v3]] [] m60 fun v68 m69=>asA v68 fun l70=>uV l70 fun n73 s76 v77 v79 l80=>unn l80 (bc cw (.f 23) [.agg [.int .i64 n73,.str s76,v77,v79]] [] m69 fun v81 m82=>asT v81 fun l83=>unc l83 fun v84 l85=>asS v84 fun s86=>uI .i64 l85 fun n89 l88=>unn l88 (bc cw (.f 24) [.agg [.int .i64 v,.str v1,v2,v3]] [] m82 fun v90 m91=>asT v90 fun l92=>unc l92 fun v93 l94=>asS v93 fun s95=>uI .i64 l94 fun n98 l97=>unn l97 (cK (C0 s24 n27 s33 n36 s55 n58 s64 n67 s86 n89 s95 n98 v v1 v2 v3 m91) fun e99 l100 o101 m102=>exC .normal e99 (unc l100 fun v103 l104=>asB v103 fun b105=>unn l104 (dF o101 (settle m m102 (.bool b105)))) none))))))))))))
theorem Nt (v:Int) (v1:List UInt8) (v2 v3:IV) (m:IM):eS ty5 pl5 i5 cw [.agg [.int .i64 v,.str v1,v2,v3]] m=F5 v v1 v2 v3 m:=by kernel_rfl
theorem zP (v:Int) (v1:List UInt8) (v2 v3:IV) (m:IM) {res:IV×IM}(h:F5 v v1 v2 v3 m=some res):cw (.f 5) [.agg [.int .i64 v,.str v1,v2,v3]] m=some res:=bb p5 f5 ((Nt v v1 v2 v3 m).trans h)
theorem f168:tab.fns 168=some i168:=by rfl
theorem p168:ae 168=none:=by rfl
def Nr:Tys:=tyG [(.one .sl,[0,4,5]),(.one (.int .i64),[6]),(.tup [],[8])]
def LL:Pl:=.z
noncomputable def JP (x cmp:IV) (m:IM):Option (IV×IM):=evC .lenSlice [x] fun v0=>asI .i64 v0 fun n1=>bc cw (.f 173) [x,.int .i64 n1,cmp] [] m fun v2 m3=>asT v2 fun l4=>unn l4 (settle m m3 (.tup []))
theorem HP (x cmp:IV) (m:IM):eS Nr LL i168 cw [x,cmp] m=JP x cmp m:=by kernel_rfl
theorem B8 (x cmp:IV) (m:IM) {res:IV×IM}(h:JP x cmp m=some res):cw (.f 168) [x,cmp] m=some res:=bb p168 f168 ((HP x cmp m).trans h)
theorem f173:tab.fns 173=some i173:=by rfl
theorem p173:ae 173=none:=by rfl
def ql:Tys:=tyG [(.one .sl,[0,14,23,36,55]),(.one (.int .i64),[1,6,7,8,9,10,11,12,15,16,19,20,21,22,24,25,28,29,31,32,33,34,37,38,39,40,41,44,45,46,47,48,49,50,51,52,53,56,57,58,61,62]),(.one .bool,[13,30,35,54]),(.tup [],[18,27,43,60])]
def CF:XP:=[⟨(.exit 0),[(0,.any),(1,.any),(2,.any),(6,.any),(7,.any)],[],[]⟩]
def Ed:Pl:=.z
def CG:XP:=[⟨(.exit 4),[(0,.any),(1,.any),(2,.any),(6,.any),(7,.any)],[],[]⟩]
def CN:Pl:=.z
def HV:XP:=[⟨.normal,[(0,.any),(1,.any),(2,.any),(6,.any)],[],[]⟩]
def Fv:XP:=[⟨(.exit 2),[],[],[]⟩]
def EJ:Pl:=(.n none .z (.n none (.n none .z (.n none (.n none (.n (some CG) CN .z) .z) (.n (some HV) .z .z))) .z))
def NG:Pl:=(.n none .z (.n none .z (.n none (.n none (.n (some CF) Ed .z) .z) (.n none .z (.n none (.n (some Fv) EJ .z) .z)))))
noncomputable def zv:St→Option (St⊕LR):=fun s=>Dj.den ql cw (St⊕LR) Ed s (fQ ql E6 CF)
noncomputable def uO (data:IV) (n:Int) (cmp:IV) (blockSize a b:Int) (m:IM):Option LR:=iter zv (St.mk [(0,data,.any),(1,.int .i64 n,.any),(2,cmp,.any),(6,.int .i64 blockSize,.any),(7,.int .i64 a,.any),(8,.int .i64 b,.any)] [] [] m)
noncomputable def sk (data:IV) (n:Int) (cmp:IV) (blockSize a b:Int) (m:IM):Option (St⊕LR):=bQ (decide (b≤n)) (bc cw (.f 180) [data,.int .i64 a,.int .i64 b,cmp] [] m fun v0 m1=>asT v0 fun l2=>unn l2 (c7 data (e9 cmp [] (some (.inl (St.mk [(0,data,.any),(1,.int .i64 n,.any),(2,cmp,.any),(6,.int .i64 blockSize,.any),(7,.int .i64 b,.any),(8,.int .i64 (IntKind.wrap .i64 (b+blockSize)),.any)] [] [] m1)))))) (some (.inr (.exit 0,[data,.int .i64 n,cmp,.int .i64 blockSize,.int .i64 a],[],m)))
theorem BG (data:IV) (n:Int) (cmp:IV) (blockSize a b:Int) (m:IM):zv (St.mk [(0,data,.any),(1,.int .i64 n,.any),(2,cmp,.any),(6,.int .i64 blockSize,.any),(7,.int .i64 a,.any),(8,.int .i64 b,.any)] [] [] m)=sk data n cmp blockSize a b m:=by kernel_rfl
theorem oE (data:IV) (n:Int) (cmp:IV) (blockSize a b:Int) (m:IM):uO data n cmp blockSize a b m=nxt zv (sk data n cmp blockSize a b m):=by rw[←BG];exact cU _ _
noncomputable def y6:St→Option (St⊕LR):=fun s=>EC.den ql cw (St⊕LR) CN s (fQ ql Dq CG)
noncomputable def vo (data:IV) (n:Int) (cmp:IV) (blockSize a b:Int) (m:IM):Option LR:=iter y6 (St.mk [(0,data,.any),(1,.int .i64 n,.any),(2,cmp,.any),(6,.int .i64 blockSize,.any),(7,.int .i64 a,.any),(8,.int .i64 b,.any)] [] [] m)
noncomputable def rD (data:IV) (n:Int) (cmp:IV) (blockSize a b:Int) (m:IM):Option (St⊕LR):=bQ (decide (b≤n)) (bc cw (.f 181) [data,.int .i64 a,.int .i64 (IntKind.wrap .i64 (a+blockSize)),.int .i64 b,cmp] [] m fun v0 m1=>asT v0 fun l2=>unn l2 (c7 data (e9 cmp [] (some (.inl (St.mk [(0,data,.any),(1,.int .i64 n,.any),(2,cmp,.any),(6,.int .i64 blockSize,.any),(7,.int .i64 b,.any),(8,.int .i64 (IntKind.wrap .i64 (b+IntKind.wrap .i64 (2*blockSize))),.any)] [] [] m1)))))) (some (.inr (.exit 4,[data,.int .i64 n,cmp,.int .i64 blockSize,.int .i64 a],[],m)))
theorem Cb (data:IV) (n:Int) (cmp:IV) (blockSize a b:Int) (m:IM):y6 (St.mk [(0,data,.any),(1,.int .i64 n,.any),(2,cmp,.any),(6,.int .i64 blockSize,.any),(7,.int .i64 a,.any),(8,.int .i64 b,.any)] [] [] m)=rD data n cmp blockSize a b m:=by kernel_rfl
theorem nT (data:IV) (n:Int) (cmp:IV) (blockSize a b:Int) (m:IM):vo data n cmp blockSize a b m=nxt y6 (rD data n cmp blockSize a b m):=by rw[←Cb];exact cU _ _
noncomputable def pF (data:IV) (n:Int) (cmp:IV) (blockSize a:Int) (m:IM):Option LR:=bQ (decide (IntKind.wrap .i64 (a+blockSize)<n)) (bc cw (.f 181) [data,.int .i64 a,.int .i64 (IntKind.wrap .i64 (a+blockSize)),.int .i64 n,cmp] [] m fun v0 m1=>asT v0 fun l2=>unn l2 (some (.normal,[data,.int .i64 n,cmp,.int .i64 blockSize],[],m1))) (some (.normal,[data,.int .i64 n,cmp,.int .i64 blockSize],[],m))
noncomputable def yG:St→Option (St⊕LR):=fun s=>FH.den ql cw (St⊕LR) EJ s (fQ ql D4 Fv)
noncomputable def vM (data:IV) (n:Int) (cmp:IV) (blockSize:Int) (m:IM):Option LR:=iter yG (St.mk [(0,data,.any),(1,.int .i64 n,.any),(2,cmp,.any),(6,.int .i64 blockSize,.any)] [] [] m)
noncomputable def qV (data:IV) (n:Int) (cmp:IV) (blockSize:Int) (m:IM):Option (St⊕LR):=bQ (decide (blockSize<n)) (c7 data (e9 cmp [] (cK (vo data n cmp blockSize 0 (IntKind.wrap .i64 (2*blockSize)) m) fun e0 l1 o2 m3=>exC (.exit 4) e0 (unc l1 fun v4 l5=>uI .i64 l5 fun n8 l7=>unc l7 fun v9 l10=>uI .i64 l10 fun n13 l12=>uI .i64 l12 fun n16 l15=>unn l15 (dF o2 (cK (pF v4 n8 v9 n13 n16 m3) fun e17 l18 o19 m20=>exC .normal e17 (unc l18 fun v21 l22=>uI .i64 l22 fun n25 l24=>unc l24 fun v26 l27=>uI .i64 l27 fun n30 l29=>unn l29 (dF o19 (c7 v21 (e9 v26 [] (some (.inl (St.mk [(0,v21,.any),(1,.int .i64 n25,.any),(2,v26,.any),(6,.int .i64 (IntKind.wrap .i64 (n30*2)),.any)] [] [] m20))))))) none))) none))) (some (.inr (.exit 2,[],[],m)))
theorem Bs (data:IV) (n:Int) (cmp:IV) (blockSize:Int) (m:IM):yG (St.mk [(0,data,.any),(1,.int .i64 n,.any),(2,cmp,.any),(6,.int .i64 blockSize,.any)] [] [] m)=qV data n cmp blockSize m:=by kernel_rfl
theorem nE (data:IV) (n:Int) (cmp:IV) (blockSize:Int) (m:IM):vM data n cmp blockSize m=nxt yG (qV data n cmp blockSize m):=by rw[←Bs];exact cU _ _
noncomputable def Lw (data:IV) (n:Int) (cmp:IV) (m:IM):Option (IV×IM):=c7 data (e9 cmp [] (cK (uO data n cmp 20 0 20 m) fun e0 l1 o2 m3=>exC (.exit 0) e0 (unc l1 fun v4 l5=>uI .i64 l5 fun n8 l7=>unc l7 fun v9 l10=>uI .i64 l10 fun n13 l12=>uI .i64 l12 fun n16 l15=>unn l15 (dF o2 (bc cw (.f 180) [v4,.int .i64 n16,.int .i64 n8,v9] [] m3 fun v17 m18=>asT v17 fun l19=>unn l19 (c7 v4 (e9 v9 [] (cK (vM v4 n8 v9 n13 m18) fun e20 l21 o22 m23=>exC (.exit 2) e20 (unn l21 (dF o22 (settle m m23 (.tup [])))) none)))))) none))
theorem Ht (data:IV) (n:Int) (cmp:IV) (m:IM):eS ql NG i173 cw [data,.int .i64 n,cmp] m=Lw data n cmp m:=by kernel_rfl
theorem Bp (data:IV) (n:Int) (cmp:IV) (m:IM) {res:IV×IM}(h:Lw data n cmp m=some res):cw (.f 173) [data,.int .i64 n,cmp] m=some res:=bb p173 f173 ((Ht data n cmp m).trans h)
theorem f180:tab.fns 180=some i180:=by rfl
theorem p180:ae 180=none:=by rfl
def xJ:Tys:=tyG [(.one .sl,[0,23,27,37,39,42,47]),(.one (.int .i64),[1,2,8,9,10,11,12,13,15,16,17,18,19,24,26,28,29,31,32,35,36,38,40,41,43,44,46,48,50]),(.one .bool,[14,20,21,33,34])]
def HJ:XP:=[⟨.normal,[(0,.any),(1,.any),(2,.any),(3,.any),(8,.any),(9,.any),(34,.any)],[],[]⟩]
def EL:XP:=[⟨(.exit 2),[(0,.any),(1,.any),(2,.any),(3,.any),(8,.any)],[],[]⟩]
def Cv:Pl:=(.n none (.n (some HJ) .z .z) .z)
def FA:XP:=[⟨(.exit 0),[],[],[]⟩]
def Eb:Pl:=(.n none .z (.n none (.n none (.n none .z (.n none (.n (some EL) Cv .z) .z)) .z) .z))
def MO:Pl:=(.n none .z (.n none (.n (some FA) Eb .z) .z))
noncomputable def pA (data:IV) (a b:Int) (cmp:IV) (i j:Int) (m:IM):Option LR:=bQ (decide (j>a)) (evC (.indexS 1) [data,.int .i64 j] fun v0=>ldP m false 1 v0 fun v1=>asI .i64 v1 fun n2=>evC (.indexS 1) [data,.int .i64 (IntKind.wrap .i64 (j-1))] fun v3=>ldP m false 1 v3 fun v4=>asI .i64 v4 fun n5=>iU cw cmp [.int .i64 n2,.int .i64 n5] [] m fun v6 m7=>asI .i64 v6 fun n8=>some (.normal,[data,.int .i64 a,.int .i64 b,cmp,.int .i64 i,.int .i64 j,.bool (decide (n8<0))],[],m7)) (some (.normal,[data,.int .i64 a,.int .i64 b,cmp,.int .i64 i,.int .i64 j,.bool false],[],m))
noncomputable def yS:St→Option (St⊕LR):=fun s=>FV.den xJ cw (St⊕LR) Cv s (fQ xJ CX EL)
noncomputable def va (data:IV) (a b:Int) (cmp:IV) (i j:Int) (m:IM):Option LR:=iter yS (St.mk [(0,data,.any),(1,.int .i64 a,.any),(2,.int .i64 b,.any),(3,cmp,.any),(8,.int .i64 i,.any),(9,.int .i64 j,.any)] [] [] m)
noncomputable def rY (data:IV) (a b:Int) (cmp:IV) (i j:Int) (m:IM):Option (St⊕LR):=cK (pA data a b cmp i j m) fun e0 l1 o2 m3=>exC .normal e0 (unc l1 fun v4 l5=>uI .i64 l5 fun n8 l7=>uI .i64 l7 fun n11 l10=>unc l10 fun v12 l13=>uI .i64 l13 fun n16 l15=>uI .i64 l15 fun n19 l18=>unc l18 fun v20 l21=>asB v20 fun b22=>unn l21 (dF o2 (bQ b22 (evC (.indexS 1) [v4,.int .i64 (IntKind.wrap .i64 (n19-1))] fun v23=>ldP m3 false 1 v23 fun v24=>asI .i64 v24 fun n25=>evC (.indexS 1) [v4,.int .i64 n19] fun v26=>ldP m3 false 1 v26 fun v27=>asI .i64 v27 fun n28=>evC (.indexS 1) [v4,.int .i64 n19] fun v29=>c7 v29 (stP m3 v29 [.int .i64 n25] .any fun m30=>evC (.indexS 1) [v4,.int .i64 (IntKind.wrap .i64 (n19-1))] fun v31=>c7 v31 (stP m30 v31 [.int .i64 n28] .any fun m32=>c7 v4 (e9 v12 [] (some (.inl (St.mk [(0,v4,.any),(1,.int .i64 n8,.any),(2,.int .i64 n11,.any),(3,v12,.any),(8,.int .i64 n16,.any),(9,.int .i64 (IntKind.wrap .i64 (n19-1)),.any)] [] [] m32))))))) (some (.inr (.exit 2,[v4,.int .i64 n8,.int .i64 n11,v12,.int .i64 n16],[],m3)))))) none
theorem B7 (data:IV) (a b:Int) (cmp:IV) (i j:Int) (m:IM):yS (St.mk [(0,data,.any),(1,.int .i64 a,.any),(2,.int .i64 b,.any),(3,cmp,.any),(8,.int .i64 i,.any),(9,.int .i64 j,.any)] [] [] m)=rY data a b cmp i j m:=by kernel_rfl
theorem tj (data:IV) (a b:Int) (cmp:IV) (i j:Int) (m:IM):va data a b cmp i j m=nxt yS (rY data a b cmp i j m):=by rw[←B7];exact cU _ _
noncomputable def zm:St→Option (St⊕LR):=fun s=>Fs.den xJ cw (St⊕LR) Eb s (fQ xJ D8 FA)
noncomputable def qt (data:IV) (a b:Int) (cmp:IV) (i:Int) (m:IM):Option LR:=iter zm (St.mk [(0,data,.any),(1,.int .i64 a,.any),(2,.int .i64 b,.any),(3,cmp,.any),(8,.int .i64 i,.any)] [] [] m)
noncomputable def qC (data:IV) (a b:Int) (cmp:IV) (i:Int) (m:IM):Option (St⊕LR):=bQ (decide (i<b)) (c7 data (e9 cmp [] (cK (va data a b cmp i i m) fun e0 l1 o2 m3=>exC (.exit 2) e0 (unc l1 fun v4 l5=>uI .i64 l5 fun n8 l7=>uI .i64 l7 fun n11 l10=>unc l10 fun v12 l13=>uI .i64 l13 fun n16 l15=>unn l15 (dF o2 (c7 v4 (e9 v12 [] (some (.inl (St.mk [(0,v4,.any),(1,.int .i64 n8,.any),(2,.int .i64 n11,.any),(3,v12,.any),(8,.int .i64 (IntKind.wrap .i64 (n16+1)),.any)] [] [] m3))))))) none))) (some (.inr (.exit 0,[],[],m)))
theorem BZ (data:IV) (a b:Int) (cmp:IV) (i:Int) (m:IM):zm (St.mk [(0,data,.any),(1,.int .i64 a,.any),(2,.int .i64 b,.any),(3,cmp,.any),(8,.int .i64 i,.any)] [] [] m)=qC data a b cmp i m:=by kernel_rfl
theorem nu (data:IV) (a b:Int) (cmp:IV) (i:Int) (m:IM):qt data a b cmp i m=nxt zm (qC data a b cmp i m):=by rw[←BZ];exact cU _ _
noncomputable def GV (data:IV) (a b:Int) (cmp:IV) (m:IM):Option (IV×IM):=c7 data (e9 cmp [] (cK (qt data a b cmp (IntKind.wrap .i64 (a+1)) m) fun e0 l1 o2 m3=>exC (.exit 0) e0 (unn l1 (dF o2 (settle m m3 (.tup [])))) none))
theorem H2 (data:IV) (a b:Int) (cmp:IV) (m:IM):eS xJ MO i180 cw [data,.int .i64 a,.int .i64 b,cmp] m=GV data a b cmp m:=by kernel_rfl
theorem tr (data:IV) (a b:Int) (cmp:IV) (m:IM) {res:IV×IM}(h:GV data a b cmp m=some res):cw (.f 180) [data,.int .i64 a,.int .i64 b,cmp] m=some res:=bb p180 f180 ((H2 data a b cmp m).trans h)
theorem f181:tab.fns 181=some i181:=by rfl
theorem p181:ae 181=none:=by rfl
def jQ:Tys:=tyG [(.one .sl,[0,41,45,61,63,66,71,93,97,113,115,118,123,159,165,186,200,214]),(.one (.int .i64),[1,2,3,10,11,12,13,14,15,16,17,18,19,20,21,22,23,24,25,26,27,29,30,31,32,34,35,36,39,42,44,46,48,49,51,52,53,54,55,56,57,59,60,62,64,65,67,68,70,72,74,77,78,79,81,82,83,84,86,87,88,91,94,96,98,100,101,104,105,106,107,108,109,111,112,114,116,117,119,120,122,124,126,129,130,131,134,135,136,137,138,139,141,142,143,144,145,146,147,148,149,150,152,153,154,157,160,161,162,164,166,168,169,172,173,174,175,176,177,178,179,182,183,187,188,189,192,193,196,197,201,202,203,206,207,210,211,215,216,217]),(.one .bool,[28,33,50,58,80,85,102,103,110,140,151,170,171,180,181,184,185,194,195,198,199,208,209,212,213]),(.one (.int .u64),[37,38,89,90,132,133,155,156]),(.tup [],[191,205,219])]
def Fw:XP:=[⟨(.exit 0),[(0,.any),(1,.any),(10,.any)],[],[]⟩]
def Ef:Pl:=.z
def FP:XP:=[⟨(.exit 2),[],[],[]⟩]
def Dp:Pl:=.z
def D5:XP:=[⟨(.exit 4),[(0,.any),(2,.any),(14,.any)],[],[]⟩]
def CS:Pl:=.z
def Cr:XP:=[⟨(.exit 6),[],[],[]⟩]
def FQ:Pl:=.z
def GY:XP:=[⟨.normal,[(0,.any),(1,.any),(2,.any),(3,.any),(4,.any),(18,.any),(19,.any),(20,.any),(21,.any)],[],[]⟩]
def CZ:XP:=[⟨(.exit 8),[(0,.any),(1,.any),(2,.any),(3,.any),(4,.any),(18,.any),(19,.any),(20,.any)],[],[]⟩]
def Fy:Pl:=.z
def Gx:XP:=[⟨.normal,[(0,.any),(1,.any),(2,.any),(3,.any),(4,.any),(18,.any),(20,.any),(24,.any),(185,.any)],[],[]⟩]
def HK:XP:=[⟨.normal,[(0,.any),(1,.any),(3,.any),(4,.any),(18,.any),(20,.any),(24,.any)],[],[]⟩]
def Ho:XP:=[⟨.normal,[(0,.any),(1,.any),(3,.any),(4,.any),(18,.any),(20,.any),(24,.any),(199,.any)],[],[]⟩]
def Hj:XP:=[⟨.normal,[(0,.any),(3,.any),(4,.any),(18,.any),(24,.any)],[],[]⟩]
def Ge:XP:=[⟨.normal,[(0,.any),(3,.any),(4,.any),(18,.any),(24,.any),(213,.any)],[],[]⟩]
def Ma:Pl:=(.n none (.n none .z (.n none (.n none .z (.n none .z (.n none (.n none (.n (some Fw) Ef .z) .z) (.n none (.n none .z (.n none (.n (some FP) Dp .z) .z)) .z)))) .z)) (.n none (.n none .z (.n none (.n none .z (.n none .z (.n none (.n none (.n (some D5) CS .z) .z) (.n none (.n none .z (.n none (.n (some Cr) FQ .z) .z)) .z)))) .z)) (.n none .z (.n none .z (.n none .z (.n (some GY) .z (.n none .z (.n none (.n none (.n (some CZ) Fy .z) .z) (.n none .z (.n (some HK) (.n (some Gx) .z .z) (.n (some Hj) (.n (some Ho) .z .z) (.n (some Ge) .z .z))))))))))))
noncomputable def yO:St→Option (St⊕LR):=fun s=>D7.den jQ cw (St⊕LR) Ef s (fQ jQ DS Fw)
noncomputable def yo (data:IV) (a:Int) (cmp:IV) (i j:Int) (m:IM):Option LR:=iter yO (St.mk [(0,data,.any),(1,.int .i64 a,.any),(4,cmp,.any),(10,.int .i64 i,.any),(11,.int .i64 j,.any)] [] [] m)
noncomputable def ou (data:IV) (a:Int) (cmp:IV) (i j:Int) (m:IM):Option (St⊕LR):=bQ (decide (i<j)) (evC (.indexS 1) [data,.int .i64 (IntKind.wrap .i64 (Int.fdiv (IntKind.wrap .u64 (IntKind.wrap .i64 (i+j))) (2^Nat.min (Int.toNat 1) (IntKind.bits .u64))))] fun v0=>ldP m false 1 v0 fun v1=>asI .i64 v1 fun n2=>evC (.indexS 1) [data,.int .i64 a] fun v3=>ldP m false 1 v3 fun v4=>asI .i64 v4 fun n5=>iU cw cmp [.int .i64 n2,.int .i64 n5] [] m fun v6 m7=>asI .i64 v6 fun n8=>bQ (decide (n8<0)) (c7 data (e9 cmp [] (some (.inl (St.mk [(0,data,.any),(1,.int .i64 a,.any),(4,cmp,.any),(10,.int .i64 (IntKind.wrap .i64 (IntKind.wrap .i64 (Int.fdiv (IntKind.wrap .u64 (IntKind.wrap .i64 (i+j))) (2^Nat.min (Int.toNat 1) (IntKind.bits .u64)))+1)),.any),(11,.int .i64 j,.any)] [] [] m7))))) (c7 data (e9 cmp [] (some (.inl (St.mk [(0,data,.any),(1,.int .i64 a,.any),(4,cmp,.any),(10,.int .i64 i,.any),(11,.int .i64 (IntKind.wrap .i64 (Int.fdiv (IntKind.wrap .u64 (IntKind.wrap .i64 (i+j))) (2^Nat.min (Int.toNat 1) (IntKind.bits .u64)))),.any)] [] [] m7)))))) (some (.inr (.exit 0,[data,.int .i64 a,.int .i64 i],[],m)))
theorem A9 (data:IV) (a:Int) (cmp:IV) (i j:Int) (m:IM):yO (St.mk [(0,data,.any),(1,.int .i64 a,.any),(4,cmp,.any),(10,.int .i64 i,.any),(11,.int .i64 j,.any)] [] [] m)=ou data a cmp i j m:=by kernel_rfl
theorem kt (data:IV) (a:Int) (cmp:IV) (i j:Int) (m:IM):yo data a cmp i j m=nxt yO (ou data a cmp i j m):=by rw[←A9];exact cU _ _
noncomputable def yr:St→Option (St⊕LR):=fun s=>EB.den jQ cw (St⊕LR) Dp s (fQ jQ FO FP)
noncomputable def yD (data:IV) (i k:Int) (m:IM):Option LR:=iter yr (St.mk [(0,data,.any),(10,.int .i64 i,.any),(13,.int .i64 k,.any)] [] [] m)
noncomputable def uZ (data:IV) (i k:Int) (m:IM):Option (St⊕LR):=bQ (decide (k<IntKind.wrap .i64 (i-1))) (evC (.indexS 1) [data,.int .i64 (IntKind.wrap .i64 (k+1))] fun v0=>ldP m false 1 v0 fun v1=>asI .i64 v1 fun n2=>evC (.indexS 1) [data,.int .i64 k] fun v3=>ldP m false 1 v3 fun v4=>asI .i64 v4 fun n5=>evC (.indexS 1) [data,.int .i64 k] fun v6=>c7 v6 (stP m v6 [.int .i64 n2] .any fun m7=>evC (.indexS 1) [data,.int .i64 (IntKind.wrap .i64 (k+1))] fun v8=>c7 v8 (stP m7 v8 [.int .i64 n5] .any fun m9=>c7 data (some (.inl (St.mk [(0,data,.any),(10,.int .i64 i,.any),(13,.int .i64 (IntKind.wrap .i64 (k+1)),.any)] [] [] m9)))))) (some (.inr (.exit 2,[],[],m)))
theorem B9 (data:IV) (i k:Int) (m:IM):yr (St.mk [(0,data,.any),(10,.int .i64 i,.any),(13,.int .i64 k,.any)] [] [] m)=uZ data i k m:=by kernel_rfl
theorem tF (data:IV) (i k:Int) (m:IM):yD data i k m=nxt yr (uZ data i k m):=by rw[←B9];exact cU _ _
noncomputable def zl:St→Option (St⊕LR):=fun s=>DI.den jQ cw (St⊕LR) CS s (fQ jQ C5 D5)
noncomputable def zh (data:IV) (n:Int) (cmp:IV) (i j:Int) (m:IM):Option LR:=iter zl (St.mk [(0,data,.any),(2,.int .i64 n,.any),(4,cmp,.any),(14,.int .i64 i,.any),(15,.int .i64 j,.any)] [] [] m)
noncomputable def nQ (data:IV) (n:Int) (cmp:IV) (i j:Int) (m:IM):Option (St⊕LR):=bQ (decide (i<j)) (evC (.indexS 1) [data,.int .i64 n] fun v0=>ldP m false 1 v0 fun v1=>asI .i64 v1 fun n2=>evC (.indexS 1) [data,.int .i64 (IntKind.wrap .i64 (Int.fdiv (IntKind.wrap .u64 (IntKind.wrap .i64 (i+j))) (2^Nat.min (Int.toNat 1) (IntKind.bits .u64))))] fun v3=>ldP m false 1 v3 fun v4=>asI .i64 v4 fun n5=>iU cw cmp [.int .i64 n2,.int .i64 n5] [] m fun v6 m7=>asI .i64 v6 fun n8=>bQ (!decide (n8<0)) (c7 data (e9 cmp [] (some (.inl (St.mk [(0,data,.any),(2,.int .i64 n,.any),(4,cmp,.any),(14,.int .i64 (IntKind.wrap .i64 (IntKind.wrap .i64 (Int.fdiv (IntKind.wrap .u64 (IntKind.wrap .i64 (i+j))) (2^Nat.min (Int.toNat 1) (IntKind.bits .u64)))+1)),.any),(15,.int .i64 j,.any)] [] [] m7))))) (c7 data (e9 cmp [] (some (.inl (St.mk [(0,data,.any),(2,.int .i64 n,.any),(4,cmp,.any),(14,.int .i64 i,.any),(15,.int .i64 (IntKind.wrap .i64 (Int.fdiv (IntKind.wrap .u64 (IntKind.wrap .i64 (i+j))) (2^Nat.min (Int.toNat 1) (IntKind.bits .u64)))),.any)] [] [] m7)))))) (some (.inr (.exit 4,[data,.int .i64 n,.int .i64 i],[],m)))
theorem BS (data:IV) (n:Int) (cmp:IV) (i j:Int) (m:IM):zl (St.mk [(0,data,.any),(2,.int .i64 n,.any),(4,cmp,.any),(14,.int .i64 i,.any),(15,.int .i64 j,.any)] [] [] m)=nQ data n cmp i j m:=by kernel_rfl
theorem kn (data:IV) (n:Int) (cmp:IV) (i j:Int) (m:IM):zh data n cmp i j m=nxt zl (nQ data n cmp i j m):=by rw[←BS];exact cU _ _
noncomputable def yk:St→Option (St⊕LR):=fun s=>Eu.den jQ cw (St⊕LR) FQ s (fQ jQ Cm Cr)
noncomputable def zy (data:IV) (i k:Int) (m:IM):Option LR:=iter yk (St.mk [(0,data,.any),(14,.int .i64 i,.any),(17,.int .i64 k,.any)] [] [] m)
noncomputable def uH (data:IV) (i k:Int) (m:IM):Option (St⊕LR):=bQ (decide (k>i)) (evC (.indexS 1) [data,.int .i64 (IntKind.wrap .i64 (k-1))] fun v0=>ldP m false 1 v0 fun v1=>asI .i64 v1 fun n2=>evC (.indexS 1) [data,.int .i64 k] fun v3=>ldP m false 1 v3 fun v4=>asI .i64 v4 fun n5=>evC (.indexS 1) [data,.int .i64 k] fun v6=>c7 v6 (stP m v6 [.int .i64 n2] .any fun m7=>evC (.indexS 1) [data,.int .i64 (IntKind.wrap .i64 (k-1))] fun v8=>c7 v8 (stP m7 v8 [.int .i64 n5] .any fun m9=>c7 data (some (.inl (St.mk [(0,data,.any),(14,.int .i64 i,.any),(17,.int .i64 (IntKind.wrap .i64 (k-1)),.any)] [] [] m9)))))) (some (.inr (.exit 6,[],[],m)))
theorem A4 (data:IV) (i k:Int) (m:IM):yk (St.mk [(0,data,.any),(14,.int .i64 i,.any),(17,.int .i64 k,.any)] [] [] m)=uH data i k m:=by kernel_rfl
theorem tY (data:IV) (i k:Int) (m:IM):zy data i k m=nxt yk (uH data i k m):=by rw[←A4];exact cU _ _
noncomputable def p7 (data:IV) (a n b:Int) (cmp:IV) (mid n1:Int) (m:IM):Option LR:=bQ (decide (n>mid)) (some (.normal,[data,.int .i64 a,.int .i64 n,.int .i64 b,cmp,.int .i64 mid,.int .i64 n1,.int .i64 (IntKind.wrap .i64 (n1-b)),.int .i64 mid],[],m)) (some (.normal,[data,.int .i64 a,.int .i64 n,.int .i64 b,cmp,.int .i64 mid,.int .i64 n1,.int .i64 a,.int .i64 n],[],m))
noncomputable def zk:St→Option (St⊕LR):=fun s=>Db.den jQ cw (St⊕LR) Fy s (fQ jQ FK CZ)
noncomputable def yQ (data:IV) (a n b:Int) (cmp:IV) (mid n1:Int) (start r p:Int) (m:IM):Option LR:=iter zk (St.mk [(0,data,.any),(1,.int .i64 a,.any),(2,.int .i64 n,.any),(3,.int .i64 b,.any),(4,cmp,.any),(18,.int .i64 mid,.any),(19,.int .i64 n1,.any),(20,.int .i64 start,.any),(21,.int .i64 r,.any),(22,.int .i64 p,.any)] [] [] m)
noncomputable def nN (data:IV) (a n b:Int) (cmp:IV) (mid n1:Int) (start r p:Int) (m:IM):Option (St⊕LR):=bQ (decide (start<r)) (evC (.indexS 1) [data,.int .i64 (IntKind.wrap .i64 (p-IntKind.wrap .i64 (Int.fdiv (IntKind.wrap .u64 (IntKind.wrap .i64 (start+r))) (2^Nat.min (Int.toNat 1) (IntKind.bits .u64)))))] fun v0=>ldP m false 1 v0 fun v1=>asI .i64 v1 fun n2=>evC (.indexS 1) [data,.int .i64 (IntKind.wrap .i64 (Int.fdiv (IntKind.wrap .u64 (IntKind.wrap .i64 (start+r))) (2^Nat.min (Int.toNat 1) (IntKind.bits .u64))))] fun v3=>ldP m false 1 v3 fun v4=>asI .i64 v4 fun n5=>iU cw cmp [.int .i64 n2,.int .i64 n5] [] m fun v6 m7=>asI .i64 v6 fun n8=>bQ (!decide (n8<0)) (c7 data (e9 cmp [] (some (.inl (St.mk [(0,data,.any),(1,.int .i64 a,.any),(2,.int .i64 n,.any),(3,.int .i64 b,.any),(4,cmp,.any),(18,.int .i64 mid,.any),(19,.int .i64 n1,.any),(20,.int .i64 (IntKind.wrap .i64 (IntKind.wrap .i64 (Int.fdiv (IntKind.wrap .u64 (IntKind.wrap .i64 (start+r))) (2^Nat.min (Int.toNat 1) (IntKind.bits .u64)))+1)),.any),(21,.int .i64 r,.any),(22,.int .i64 p,.any)] [] [] m7))))) (c7 data (e9 cmp [] (some (.inl (St.mk [(0,data,.any),(1,.int .i64 a,.any),(2,.int .i64 n,.any),(3,.int .i64 b,.any),(4,cmp,.any),(18,.int .i64 mid,.any),(19,.int .i64 n1,.any),(20,.int .i64 start,.any),(21,.int .i64 (IntKind.wrap .i64 (Int.fdiv (IntKind.wrap .u64 (IntKind.wrap .i64 (start+r))) (2^Nat.min (Int.toNat 1) (IntKind.bits .u64)))),.any),(22,.int .i64 p,.any)] [] [] m7)))))) (some (.inr (.exit 8,[data,.int .i64 a,.int .i64 n,.int .i64 b,cmp,.int .i64 mid,.int .i64 n1,.int .i64 start],[],m)))
theorem AP (data:IV) (a n b:Int) (cmp:IV) (mid n1:Int) (start r p:Int) (m:IM):zk (St.mk [(0,data,.any),(1,.int .i64 a,.any),(2,.int .i64 n,.any),(3,.int .i64 b,.any),(4,cmp,.any),(18,.int .i64 mid,.any),(19,.int .i64 n1,.any),(20,.int .i64 start,.any),(21,.int .i64 r,.any),(22,.int .i64 p,.any)] [] [] m)=nN data a n b cmp mid n1 start r p m:=by kernel_rfl
theorem ko (data:IV) (a n b:Int) (cmp:IV) (mid n1:Int) (start r p:Int) (m:IM):yQ data a n b cmp mid n1 start r p m=nxt zk (nN data a n b cmp mid n1 start r p m):=by rw[←AP];exact cU _ _
noncomputable def pD (data:IV) (a n b:Int) (cmp:IV) (mid start end_:Int) (m:IM):Option LR:=bQ (decide (start<n)) (some (.normal,[data,.int .i64 a,.int .i64 n,.int .i64 b,cmp,.int .i64 mid,.int .i64 start,.int .i64 end_,.bool (decide (n<end_))],[],m)) (some (.normal,[data,.int .i64 a,.int .i64 n,.int .i64 b,cmp,.int .i64 mid,.int .i64 start,.int .i64 end_,.bool false],[],m))
noncomputable def mK (data:IV) (a n b:Int) (cmp:IV) (mid start end_:Int) (m:IM):Option LR:=cK (pD data a n b cmp mid start end_ m) fun e0 l1 o2 m3=>exC .normal e0 (unc l1 fun v4 l5=>uI .i64 l5 fun n8 l7=>uI .i64 l7 fun n11 l10=>uI .i64 l10 fun n14 l13=>unc l13 fun v15 l16=>uI .i64 l16 fun n19 l18=>uI .i64 l18 fun n22 l21=>uI .i64 l21 fun n25 l24=>unc l24 fun v26 l27=>asB v26 fun b28=>unn l27 (dF o2 (bQ b28 (bc cw (.f 187) [v4,.int .i64 n22,.int .i64 n11,.int .i64 n25,v15] [] m3 fun v29 m30=>asT v29 fun l31=>unn l31 (some (.normal,[v4,.int .i64 n8,.int .i64 n14,v15,.int .i64 n19,.int .i64 n22,.int .i64 n25],[],m30))) (some (.normal,[v4,.int .i64 n8,.int .i64 n14,v15,.int .i64 n19,.int .i64 n22,.int .i64 n25],[],m3))))) none
noncomputable def pW (data:IV) (a b:Int) (cmp:IV) (mid start end_:Int) (m:IM):Option LR:=bQ (decide (a<start)) (some (.normal,[data,.int .i64 a,.int .i64 b,cmp,.int .i64 mid,.int .i64 start,.int .i64 end_,.bool (decide (start<mid))],[],m)) (some (.normal,[data,.int .i64 a,.int .i64 b,cmp,.int .i64 mid,.int .i64 start,.int .i64 end_,.bool false],[],m))
noncomputable def nj (data:IV) (a b:Int) (cmp:IV) (mid start end_:Int) (m:IM):Option LR:=cK (pW data a b cmp mid start end_ m) fun e0 l1 o2 m3=>exC .normal e0 (unc l1 fun v4 l5=>uI .i64 l5 fun n8 l7=>uI .i64 l7 fun n11 l10=>unc l10 fun v12 l13=>uI .i64 l13 fun n16 l15=>uI .i64 l15 fun n19 l18=>uI .i64 l18 fun n22 l21=>unc l21 fun v23 l24=>asB v23 fun b25=>unn l24 (dF o2 (bQ b25 (bc cw (.f 181) [v4,.int .i64 n8,.int .i64 n19,.int .i64 n16,v12] [] m3 fun v26 m27=>asT v26 fun l28=>unn l28 (some (.normal,[v4,.int .i64 n11,v12,.int .i64 n16,.int .i64 n22],[],m27))) (some (.normal,[v4,.int .i64 n11,v12,.int .i64 n16,.int .i64 n22],[],m3))))) none
noncomputable def ky (data:IV) (b:Int) (cmp:IV) (mid end_:Int) (m:IM):Option LR:=bQ (decide (mid<end_)) (some (.normal,[data,.int .i64 b,cmp,.int .i64 mid,.int .i64 end_,.bool (decide (end_<b))],[],m)) (some (.normal,[data,.int .i64 b,cmp,.int .i64 mid,.int .i64 end_,.bool false],[],m))
noncomputable def Ba (data:IV) (a n b:Int) (cmp:IV) (m:IM):Option (IV×IM):=bQ (IntKind.wrap .i64 (n-a)==1) (c7 data (e9 cmp [] (cK (yo data a cmp n b m) fun e0 l1 o2 m3=>exC (.exit 0) e0 (unc l1 fun v4 l5=>uI .i64 l5 fun n8 l7=>uI .i64 l7 fun n11 l10=>unn l10 (dF o2 (c7 v4 (cK (yD v4 n11 n8 m3) fun e12 l13 o14 m15=>exC (.exit 2) e12 (unn l13 (dF o14 (settle m m15 (.tup [])))) none)))) none))) (bQ (IntKind.wrap .i64 (b-n)==1) (c7 data (e9 cmp [] (cK (zh data n cmp a n m) fun e16 l17 o18 m19=>exC (.exit 4) e16 (unc l17 fun v20 l21=>uI .i64 l21 fun n24 l23=>uI .i64 l23 fun n27 l26=>unn l26 (dF o18 (c7 v20 (cK (zy v20 n27 n24 m19) fun e28 l29 o30 m31=>exC (.exit 6) e28 (unn l29 (dF o30 (settle m m31 (.tup [])))) none)))) none))) (cK (p7 data a n b cmp (IntKind.wrap .i64 (Int.fdiv (IntKind.wrap .u64 (IntKind.wrap .i64 (a+b))) (2^Nat.min (Int.toNat 1) (IntKind.bits .u64)))) (IntKind.wrap .i64 (IntKind.wrap .i64 (Int.fdiv (IntKind.wrap .u64 (IntKind.wrap .i64 (a+b))) (2^Nat.min (Int.toNat 1) (IntKind.bits .u64)))+n)) m) fun e32 l33 o34 m35=>exC .normal e32 (unc l33 fun v36 l37=>uI .i64 l37 fun n40 l39=>uI .i64 l39 fun n43 l42=>uI .i64 l42 fun n46 l45=>unc l45 fun v47 l48=>uI .i64 l48 fun n51 l50=>uI .i64 l50 fun n54 l53=>uI .i64 l53 fun n57 l56=>uI .i64 l56 fun n60 l59=>unn l59 (dF o34 (c7 v36 (e9 v47 [] (cK (yQ v36 n40 n43 n46 v47 n51 n54 n57 n60 (IntKind.wrap .i64 (n54-1)) m35) fun e61 l62 o63 m64=>exC (.exit 8) e61 (unc l62 fun v65 l66=>uI .i64 l66 fun n69 l68=>uI .i64 l68 fun n72 l71=>uI .i64 l71 fun n75 l74=>unc l74 fun v76 l77=>uI .i64 l77 fun n80 l79=>uI .i64 l79 fun n83 l82=>uI .i64 l82 fun n86 l85=>unn l85 (dF o63 (cK (mK v65 n69 n72 n75 v76 n80 n86 (IntKind.wrap .i64 (n83-n86)) m64) fun e87 l88 o89 m90=>exC .normal e87 (unc l88 fun v91 l92=>uI .i64 l92 fun n95 l94=>uI .i64 l94 fun n98 l97=>unc l97 fun v99 l100=>uI .i64 l100 fun n103 l102=>uI .i64 l102 fun n106 l105=>uI .i64 l105 fun n109 l108=>unn l108 (dF o89 (cK (nj v91 n95 n98 v99 n103 n106 n109 m90) fun e110 l111 o112 m113=>exC .normal e110 (unc l111 fun v114 l115=>uI .i64 l115 fun n118 l117=>unc l117 fun v119 l120=>uI .i64 l120 fun n123 l122=>uI .i64 l122 fun n126 l125=>unn l125 (dF o112 (cK (ky v114 n118 v119 n123 n126 m113) fun e127 l128 o129 m130=>exC .normal e127 (unc l128 fun v131 l132=>uI .i64 l132 fun n135 l134=>unc l134 fun v136 l137=>uI .i64 l137 fun n140 l139=>uI .i64 l139 fun n143 l142=>unc l142 fun v144 l145=>asB v144 fun b146=>unn l145 (dF o129 (bQ b146 (bc cw (.f 181) [v131,.int .i64 n140,.int .i64 n143,.int .i64 n135,v136] [] m130 fun v147 m148=>asT v147 fun l149=>unn l149 (settle m m148 (.tup []))) (settle m m130 (.tup []))))) none))) none))) none))) none))))) none))
theorem F8 (data:IV) (a n b:Int) (cmp:IV) (m:IM):eS jQ Ma i181 cw [data,.int .i64 a,.int .i64 n,.int .i64 b,cmp] m=Ba data a n b cmp m:=by kernel_rfl
theorem kM (data:IV) (a n b:Int) (cmp:IV) (m:IM) {res:IV×IM}(h:Ba data a n b cmp m=some res):cw (.f 181) [data,.int .i64 a,.int .i64 n,.int .i64 b,cmp] m=some res:=bb p181 f181 ((F8 data a n b cmp m).trans h)
theorem f187:tab.fns 187=some i187:=by rfl
theorem p187:ae 187=none:=by rfl
def Fp:Tys:=tyG [(.one .sl,[0,24,35,50]),(.one (.int .i64),[1,2,3,10,11,12,13,14,15,16,17,18,19,21,22,25,26,27,28,29,32,33,34,36,37,38,39,40,41,42,43,44,47,48,49,51,52,53,54,55]),(.one .bool,[20,23]),(.tup [],[31,46,57])]
def EE:XP:=[⟨(.exit 0),[(0,.any),(2,.any),(4,.any),(10,.any)],[],[]⟩]
def CM:Pl:=.z
def LG:Pl:=(.n none .z (.n none .z (.n none (.n none (.n (some EE) CM .z) .z) .z)))
noncomputable def yH:St→Option (St⊕LR):=fun s=>D9.den Fp cw (St⊕LR) CM s (fQ Fp ES EE)
noncomputable def zo (data:IV) (n:Int) (cmp:IV) (i j:Int) (m:IM):Option LR:=iter yH (St.mk [(0,data,.any),(2,.int .i64 n,.any),(4,cmp,.any),(10,.int .i64 i,.any),(11,.int .i64 j,.any)] [] [] m)
noncomputable def rV (data:IV) (n:Int) (cmp:IV) (i j:Int) (m:IM):Option (St⊕LR):=bQ (i != j) (bQ (decide (i>j)) (bc cw (.f 190) [data,.int .i64 (IntKind.wrap .i64 (n-i)),.int .i64 n,.int .i64 j,cmp] [] m fun v0 m1=>asT v0 fun l2=>unn l2 (c7 data (e9 cmp [] (some (.inl (St.mk [(0,data,.any),(2,.int .i64 n,.any),(4,cmp,.any),(10,.int .i64 (IntKind.wrap .i64 (i-j)),.any),(11,.int .i64 j,.any)] [] [] m1)))))) (bc cw (.f 190) [data,.int .i64 (IntKind.wrap .i64 (n-i)),.int .i64 (IntKind.wrap .i64 (IntKind.wrap .i64 (n+j)-i)),.int .i64 i,cmp] [] m fun v3 m4=>asT v3 fun l5=>unn l5 (c7 data (e9 cmp [] (some (.inl (St.mk [(0,data,.any),(2,.int .i64 n,.any),(4,cmp,.any),(10,.int .i64 i,.any),(11,.int .i64 (IntKind.wrap .i64 (j-i)),.any)] [] [] m4))))))) (some (.inr (.exit 0,[data,.int .i64 n,cmp,.int .i64 i],[],m)))
theorem BT (data:IV) (n:Int) (cmp:IV) (i j:Int) (m:IM):yH (St.mk [(0,data,.any),(2,.int .i64 n,.any),(4,cmp,.any),(10,.int .i64 i,.any),(11,.int .i64 j,.any)] [] [] m)=rV data n cmp i j m:=by kernel_rfl
theorem nL (data:IV) (n:Int) (cmp:IV) (i j:Int) (m:IM):zo data n cmp i j m=nxt yH (rV data n cmp i j m):=by rw[←BT];exact cU _ _
noncomputable def JR (data:IV) (a n b:Int) (cmp:IV) (m:IM):Option (IV×IM):=c7 data (e9 cmp [] (cK (zo data n cmp (IntKind.wrap .i64 (n-a)) (IntKind.wrap .i64 (b-n)) m) fun e0 l1 o2 m3=>exC (.exit 0) e0 (unc l1 fun v4 l5=>uI .i64 l5 fun n8 l7=>unc l7 fun v9 l10=>uI .i64 l10 fun n13 l12=>unn l12 (dF o2 (bc cw (.f 190) [v4,.int .i64 (IntKind.wrap .i64 (n8-n13)),.int .i64 n8,.int .i64 n13,v9] [] m3 fun v14 m15=>asT v14 fun l16=>unn l16 (settle m m15 (.tup []))))) none))
theorem HW (data:IV) (a n b:Int) (cmp:IV) (m:IM):eS Fp LG i187 cw [data,.int .i64 a,.int .i64 n,.int .i64 b,cmp] m=JR data a n b cmp m:=by kernel_rfl
theorem BJ (data:IV) (a n b:Int) (cmp:IV) (m:IM) {res:IV×IM}(h:JR data a n b cmp m=some res):cw (.f 187) [data,.int .i64 a,.int .i64 n,.int .i64 b,cmp] m=some res:=bb p187 f187 ((HW data a n b cmp m).trans h)
theorem f190:tab.fns 190=some i190:=by rfl
theorem p190:ae 190=none:=by rfl
def Dy:Tys:=tyG [(.one .sl,[0,16,20,24,30]),(.one (.int .i64),[1,2,3,10,11,12,14,15,17,18,19,21,22,23,25,26,27,29,31,32,33,35]),(.one .bool,[13])]
def C4:XP:=[⟨(.exit 0),[],[],[]⟩]
def Ej:Pl:=.z
def Mr:Pl:=(.n none .z (.n none (.n (some C4) Ej .z) .z))
noncomputable def yp:St→Option (St⊕LR):=fun s=>Cy.den Dy cw (St⊕LR) Ej s (fQ Dy Fb C4)
noncomputable def uQ (data:IV) (a b:Int) (n i:Int) (m:IM):Option LR:=iter yp (St.mk [(0,data,.any),(1,.int .i64 a,.any),(2,.int .i64 b,.any),(3,.int .i64 n,.any),(10,.int .i64 i,.any)] [] [] m)
noncomputable def vx (data:IV) (a b:Int) (n i:Int) (m:IM):Option (St⊕LR):=bQ (decide (i<n)) (evC (.indexS 1) [data,.int .i64 (IntKind.wrap .i64 (b+i))] fun v0=>ldP m false 1 v0 fun v1=>asI .i64 v1 fun n2=>evC (.indexS 1) [data,.int .i64 (IntKind.wrap .i64 (a+i))] fun v3=>ldP m false 1 v3 fun v4=>asI .i64 v4 fun n5=>evC (.indexS 1) [data,.int .i64 (IntKind.wrap .i64 (a+i))] fun v6=>c7 v6 (stP m v6 [.int .i64 n2] .any fun m7=>evC (.indexS 1) [data,.int .i64 (IntKind.wrap .i64 (b+i))] fun v8=>c7 v8 (stP m7 v8 [.int .i64 n5] .any fun m9=>c7 data (some (.inl (St.mk [(0,data,.any),(1,.int .i64 a,.any),(2,.int .i64 b,.any),(3,.int .i64 n,.any),(10,.int .i64 (IntKind.wrap .i64 (i+1)),.any)] [] [] m9)))))) (some (.inr (.exit 0,[],[],m)))
theorem BD (data:IV) (a b:Int) (n i:Int) (m:IM):yp (St.mk [(0,data,.any),(1,.int .i64 a,.any),(2,.int .i64 b,.any),(3,.int .i64 n,.any),(10,.int .i64 i,.any)] [] [] m)=vx data a b n i m:=by kernel_rfl
theorem ue (data:IV) (a b:Int) (n i:Int) (m:IM):uQ data a b n i m=nxt yp (vx data a b n i m):=by rw[←BD];exact cU _ _
noncomputable def Kt (data:IV) (a b n:Int) (cmp:IV) (m:IM):Option (IV×IM):=c7 data (cK (uQ data a b n 0 m) fun e0 l1 o2 m3=>exC (.exit 0) e0 (unn l1 (dF o2 (settle m m3 (.tup [])))) none)
theorem F7 (data:IV) (a b n:Int) (cmp:IV) (m:IM):eS Dy Mr i190 cw [data,.int .i64 a,.int .i64 b,.int .i64 n,cmp] m=Kt data a b n cmp m:=by kernel_rfl
theorem B5 (data:IV) (a b n:Int) (cmp:IV) (m:IM) {res:IV×IM}(h:Kt data a b n cmp m=some res):cw (.f 190) [data,.int .i64 a,.int .i64 b,.int .i64 n,cmp] m=some res:=bb p190 f190 ((F7 data a b n cmp m).trans h)
end Go.Idl
namespace Go.Idl
def jO (n:Nat):UInt8:=if n<10 then UInt8.ofNat (48+n) else UInt8.ofNat (87+n)
def gZ (c:UInt8):List UInt8 :=
 if c=34 then [92,34] else if c=92 then [92,92] else if c=8 then [92,98] else if c=12 then [92,102] else if c=10 then [92,110] else if c=13 then [92,114] else if c=9 then [92,116]
 else if c.toNat<32 then [92,117,48,48,jO (c.toNat/16),jO (c.toNat%16)] else [c]
def fe (s:List UInt8):List UInt8:=34::(s.flatMap gZ++[34])
def gn (li:Bool) (lvl:Nat):List UInt8:=if li then 10::kd [32,32] lvl else []
def iW (li:Bool) (k:Int) (ks:List (List UInt8)) (i:Nat):List UInt8:=if k=5 then fe (ks.getD i [])++(58::if li then [32] else []) else []
def jT (li:Bool) (lvl:Nat) (k:Int) (ks ts:List (List UInt8)):Nat→List Nat→List UInt8
 |_,[]=>[]
 |n,i::r=>(if 0<n then [44] else [])++(gn li lvl++(iW li k ks i++(ts.getD i []++jT li lvl k ks ts (n+1) r)))
def kT (ks:List (List UInt8)) (i:Nat):List Nat→List Nat
 |[]=>[i]
 |j::r=>if aq (ks.getD i []) (ks.getD j []) then i::j::r else j::kT ks i r
def lC (ks:List (List UInt8)):Nat→List Nat
 |0=>[]
 |n+1=>kT ks n (lC ks n)
def fu (so:Bool) (k:Int) (ks:List (List UInt8)) (n:Nat):List Nat:=if so&&decide (k=5) then lC ks n else List.range n
def opB (k:Int):UInt8:=if k=5 then 123 else 91
def clB (k:Int):UInt8:=if k=5 then 125 else 93
mutual
def prV (so li:Bool):Val→Nat→List UInt8
 |.mk k t ks vs,lvl=>if k=0 then [110,117,108,108] else if k=1∨k=2 then t else if k=3 then fe t
  else opB k::(jT li (lvl+1) k ks (prL so li vs (lvl+1)) 0 (fu so k ks vs.length)++((if vs=[] then [] else gn li lvl)++[clB k]))
def prL (so li:Bool):List Val→Nat→List (List UInt8)
 |[],_=>[]
 |v::vs,lvl=>prV so li v lvl::prL so li vs lvl
end
theorem Af (so li:Bool):∀(vs:List Val) (lvl:Nat),(prL so li vs lvl).length=vs.length
 |[],_=>rfl
 |v::vs,lvl=>by unfold prL;simp[Af so li vs lvl]
theorem sj (so li:Bool):∀(vs:List Val) (lvl i:Nat) (h:i<vs.length),(prL so li vs lvl).getD i []=prV so li vs[i] lvl
 |v::vs,lvl,0,h=>by unfold prL;rfl
 |v::vs,lvl,i+1,h=>by
  unfold prL
  simpa using sj so li vs lvl i (by simpa using h)
end Go.Idl
namespace Go.Idl
attribute [local go_sem] bB bA gI gS aZ bF bW bT cA cC cf ct bp aO bk aS aQ cr bq aK cD aJ aA aF az aB aj cG bZ bh bf ck cd bo c9 cu bw cy cB cz cE bg bt bu aR bm cx aP aG aM aN bj an af
def wrP (so li:Bool) (out:List UInt8) (c:Cap):BObj:=.cells [.bool so,.bool li,bsl out] [.any,.any,c]
theorem w5 {R:Type}(l:List UInt8) (X:Option R):isSl (bsl l) X=X:=by cases l<;>rfl
theorem iP (l:List UInt8):al [bsl l]=some 0:=by
 have:=xD l
 simp[al,this]
theorem wD {R:Type}{m:IM}{id off:Nat}{cs:List IV}{cp:List Cap}{out x:List UInt8}(hm:m.get id=.cells cs cp) (hc:out=[]∨cp.getD off .any=.own 1) (hl:out.length+x.length≤ak) (K:IV→IM→Option R) :
  ∃m',(out=[]∧m'=m∨out≠[]∧m'=bP m id (.cells cs (cp.set off .any)))∧fO m id off (bsl out) 1 1 (aa x) x.length K=K (bsl (out++x)) m':=by
 cases out with
 |nil =>
  refine⟨m,.inl ⟨rfl,rfl⟩,?_⟩
  cases x with
  |nil=>simp[bsl,fO,bQ]
  |cons b r =>
   have h':r.length+1≤ak:=by simpa using hl
   simp[bsl,fO,aZ,bF,h']
 |cons b r =>
  refine⟨_,.inr ⟨by simp,rfl⟩,?_⟩
  have hcap:Kg m id off=.own 1:=by
   rcases hc with h | h
   ·cases h
   ·simp only[Kg,hm];exact h
  have hb:=dD (b::r)
  have hx:bsl (b::r++x)=.sl (aa (b::r)++aa x) ((b::r).length+x.length):=by
   rw[←iJ,←List.length_append];rfl
  rw[hx]
  show fO m id off (.sl (aa (b::r)) (b::r).length) 1 1 (aa x) x.length K=_
  generalize (b::r)=q at *
  simp only[fO,hcap,decide_true,bF,if_true,hb,Nat.mul_one]
  rw[if_pos (by simpa using hl)]
  simp[St.drop,hm,bP,ay,IM.put]
section
variable {R:Type}{m:IM}{id:Nat}{so li:Bool}{out:List UInt8}{c:Cap}
theorem Ei (h:m.get id=wrP so li out c) (K:Bool→Option R):(dK m id fun l0 _=>dg false l0 0 1 fun v=>asB v K)=K so:=by
 rw[dw h];simp[dg,bT]
theorem zG (h:m.get id=wrP so li out c) (K:Bool→Option R):(dK m id fun l0 _=>dg false l0 1 1 fun v=>asB v K)=K li:=by
 rw[dw h];simp[dg,bT]
theorem fo (h:m.get id=wrP so li out c) (K:IV→Option R):(dK m id fun l0 _=>dg false l0 2 1 K)=K (bsl out):=by
 rw[dw h];simp[dg]
theorem tW (h:m.get id=wrP so li out c):id<m.size:=iI h
theorem gB {so' li':Bool}{out':List UInt8}{c':Cap}(h:m.get id=wrP so li out c):(bP m id (wrP so' li' out' c')).get id=wrP so' li' out' c':=fZ (tW h) _
theorem nd (h:m.get id=wrP so li out c):bP m id (wrP so li out c)=m:=gC h (tW h)
theorem iQ (hm:m.get id=wrP so li out c) (hc:out=[]∨c=.own 1) {x:List UInt8}{xs:List IV}{n:Nat}(hx:xs=aa x) (hn:n=x.length) (hl:out.length+x.length≤ak) (K:IM→Option R) :
  (fO m id 2 (bsl out) 1 1 xs n fun v3 m4=>isSl v3 (stP m4 (.pB id 2) [v3] (.own 1) K))=K (bP m id (wrP so li (out++x) (.own 1))):=by
 subst hx hn
 obtain⟨m',hm',e⟩:=wD (x:=x) (off:=2) hm (by rcases hc with h | h;exact .inl h;exact .inr (by rw[h];rfl)) hl (fun v3 m4=>isSl v3 (stP m4 (.pB id 2) [v3] (.own 1) K))
 rw[e,w5]
 rcases hm' with ⟨_,rfl⟩ | ⟨_,rfl⟩
 ·rw[gJ hm (iP _) (Nat.zero_le _) (by simp)];rfl
 ·rw[gJ (fZ (tW hm) _) (iP _) (Nat.zero_le _) (by simp),bC];rfl
end
def quT:List (UInt8×UInt8):=[(34,34),(92,92),(47,47),(98,8),(102,12),(110,10),(114,13),(116,9)]
def quF (c:UInt8):List (UInt8×UInt8)→Option UInt8
 |[]=>none
 |(a,b)::r=>if b=c∧b≠47 then some a else quF c r
theorem JN (c:UInt8):gZ c=match quF c quT with
  |some a=>[92,a]
  |none=>if c.toNat<32 then [92,117,48,48,jO (c.toNat/16),jO (c.toNat%16)] else [c]:=by
 simp only[gZ,quF,quT]
 by_cases h1:c=34
 ·subst h1;rfl
 by_cases h2:c=92
 ·subst h2;rfl
 by_cases h3:c=8
 ·subst h3;rfl
 by_cases h4:c=12
 ·subst h4;rfl
 by_cases h5:c=10
 ·subst h5;rfl
 by_cases h6:c=13
 ·subst h6;rfl
 by_cases h7:c=9
 ·subst h7;rfl
 have k1:¬(34:UInt8)=c:=fun q=>h1 q.symm
 have k2:¬(92:UInt8)=c:=fun q=>h2 q.symm
 have k3:¬(8:UInt8)=c:=fun q=>h3 q.symm
 have k4:¬(12:UInt8)=c:=fun q=>h4 q.symm
 have k5:¬(10:UInt8)=c:=fun q=>h5 q.symm
 have k6:¬(13:UInt8)=c:=fun q=>h6 q.symm
 have k7:¬(9:UInt8)=c:=fun q=>h7 q.symm
 simp only[h1,h2,h3,h4,h5,h6,h7,k1,k2,k3,k4,k5,k6,k7,if_false,false_and,ne_eq,not_true,and_false]
theorem Ds (i:Nat) (h:i<8):quT.drop i=quT.getD i (0,0)::quT.drop (i+1):=by
 rcases i with _ | _ | _ | _ | _ | _ | _ | _ | i<;>first | rfl | omega
theorem IJ:∀i:Nat,i<8→POp.ev (.idxArr 8 true 2) [.agg [.int .u8 34,.int .u8 34,.int .u8 92,.int .u8 92,.int .u8 47,.int .u8 47,.int .u8 98,.int .u8 8,.int .u8 102,.int .u8 12,.int .u8 110,.int .u8 10,.int .u8 114,.int .u8 13,.int .u8 116,.int .u8 9],.int .i64 (i:Int)]=some (.agg [.int .u8 ((quT.getD i (0,0)).1.toNat:Int),.int .u8 ((quT.getD i (0,0)).2.toNat:Int)]):=by
 intro i hi
 rcases i with _ | _ | _ | _ | _ | _ | _ | _ | i<;>first | rfl | omega
theorem J7:∀i,i<8→(quT.getD i (0,0)).2=47→(quT.getD i (0,0)).1=47:=by
 intro i hi
 rcases i with _ | _ | _ | _ | _ | _ | _ | _ | i<;>first | decide | omega
theorem MT (w:Nat) (s:List UInt8) (c x y:UInt8) (n n1 i:Int) (m:IM) (h47:y=47→x=47) :
  mn w s (c.toNat:Int) n n1 34 34 92 92 47 47 98 8 102 12 110 10 114 13 116 9 i (x.toNat:Int) (y.toNat:Int) m=some (.normal,[.pB w 0,.str s,.int .u8 (c.toNat:Int),.int .i64 n,.int .i64 n1,.agg [.int .u8 34,.int .u8 34,.int .u8 92,.int .u8 92,.int .u8 47,.int .u8 47,.int .u8 98,.int .u8 8,.int .u8 102,.int .u8 12,.int .u8 110,.int .u8 10,.int .u8 114,.int .u8 13,.int .u8 116,.int .u8 9],.int .i64 i,.bool (decide (y=c∧y≠47))],[.cells [.int .u8 (x.toNat:Int),.int .u8 (y.toNat:Int)] [.any,.any]],m):=by
 have hq:=FZ (c:=y) (d:=c)
 by_cases g1:y=c
 ·subst g1
  by_cases g2:y=47
  ·rw[h47 g2,g2]
   have e:POp.ev (.eqAgg true [(0,.int),(1,.int)]) [.agg [.int .u8 ((47:UInt8).toNat:Int),.int .u8 ((47:UInt8).toNat:Int)],.agg [.int .u8 47,.int .u8 47]]=some (.bool false):=by rfl
   simp only[mn,go_sem,av e,BEq.rfl,if_true,ne_eq,not_true,and_false,decide_false]
  ·have e:POp.ev (.eqAgg true [(0,.int),(1,.int)]) [.agg [.int .u8 (x.toNat:Int),.int .u8 (y.toNat:Int)],.agg [.int .u8 47,.int .u8 47]]=some (.bool true):=by
    have:¬((y.toNat:Int)=47):=by
     intro q
     exact g2 (UInt8.toNat_inj.1 (by show y.toNat=47;omega))
    have e1:eqS .int (.int .u8 (y.toNat:Int)) (.int .u8 47)=some false:=by simp[eqS,this]
    cases hx:eqS .int (.int .u8 (x.toNat:Int)) (.int .u8 47) with
    |none=>simp[eqS] at hx
    |some b=>cases b<;>simp[POp.ev,fU,e1,hx]
   simp only[mn,go_sem,av e,BEq.rfl,if_true,ne_eq,g2,not_false_eq_true,and_self,decide_true]
 ·have g':(y==c)=false:=by simpa using g1
  rw[g'] at hq
  simp only[mn,go_sem,hq,Bool.false_eq_true,if_false,g1,false_and,decide_false]
theorem Mi (w:Nat) (s:List UInt8) (c:UInt8) (n n1:Int) (so li:Bool) (out:List UInt8) (cp:Cap) (m:IM) (hm:m.get w=wrP so li out cp) (hc:out=[]∨cp=.own 1) (hl:out.length+2≤ak):∀(j i:Nat),8=i+j →
  rI w s (c.toNat:Int) n n1 34 34 92 92 47 47 98 8 102 12 110 10 114 13 116 9 i m=match quF c (quT.drop i) with
   |some a=>some (.exit 1,[.pB w 0,.str s,.int .i64 n,.int .i64 n1],[],bP m w (wrP so li (out++[92,a]) (.own 1)))
   |none=>some (.exit 2,[.pB w 0,.str s,.int .u8 (c.toNat:Int),.int .i64 n,.int .i64 n1],[],m):=by
 intro j
 induction j with
 |zero =>
  intro i hk
  have:i=8:=by omega
  subst this
  rw[tu]
  simp[oo,go_sem,quT,quF]
 |succ j ih =>
  intro i hk
  have hi:i<8:=by omega
  have c1:(i:Int)<8:=by omega
  have hat:=IJ i hi
  have h47:=J7 i hi
  rw[Ds i hi]
  have hw2:IntKind.i64.wrap ((i:Int)+1)=((i+1:Nat):Int):=by rw[w64 (by omega) (by omega)];omega
  have h:=ih (i+1) (by omega)
  unfold quF
  rw[tu]
  generalize quT.getD i (0,0)=p at *
  obtain⟨x,y⟩:=p
  simp only at *
  have hq:=FZ (c:=y) (d:=c)
  generalize i+1=i3 at *
  have happ:=iQ hm hc (x:=[92,x]) (xs:=[.int .u8 92,.int .u8 (x.toNat:Int)]) (n:=2) rfl rfl hl (R:=St⊕LR)
  have hC:=MT w s c x y n n1 i m h47
  by_cases g:y=c∧y≠47
  ·rw[if_pos g]
   rw[decide_eq_true g] at hC
   simp only[oo,go_sem]
   simp[go_sem,c1,av hat,hC,fo hm,happ]
  ·rw[if_neg g]
   rw[decide_eq_false g] at hC
   have step:nxt uu (oo w s (c.toNat:Int) n n1 34 34 92 92 47 47 98 8 102 12 110 10 114 13 116 9 i m)=rI w s (c.toNat:Int) n n1 34 34 92 92 47 47 98 8 102 12 110 10 114 13 116 9 i3 m:=by
    simp only[oo,go_sem]
    simp[go_sem,c1,av hat,hC,hw2]
    rfl
   rw[step]
   exact h
end Go.Idl
namespace Go.Idl
attribute [local go_sem] bB bA gI gS aZ bF bW bT cA cC cf ct bp aO bk aS aQ cr bq aK cD aJ aA aF az aB aj cG bZ bh bf ck cd bo c9 cu bw cy cB cz cE bg bt bu aR bm cx aP aG aM aN bj an af
theorem zH:∀n:Nat,n<16→POp.ev .idxStr [.str [48,49,50,51,52,53,54,55,56,57,97,98,99,100,101,102],.int .u8 (n:Int)]=some (.int .u8 ((jO n).toNat:Int)):=by
 intro i hi
 rcases i with _ | _ | _ | _ | _ | _ | _ | _ | _ | _ | _ | _ | _ | _ | _ | _ | i<;>first | rfl | omega
theorem NH (w:Nat) (s:List UInt8) (c:UInt8) (n n1:Int) (so li:Bool) (out:List UInt8) (cp:Cap) (m:IM) (hm:m.get w=wrP so li out cp) (hc:out=[]∨cp=.own 1) (hl:out.length+2≤ak) :
  rI w s (c.toNat:Int) n n1 34 34 92 92 47 47 98 8 102 12 110 10 114 13 116 9 0 m=match quF c quT with
   |some a=>some (.exit 1,[.pB w 0,.str s,.int .i64 n,.int .i64 n1],[],bP m w (wrP so li (out++[92,a]) (.own 1)))
   |none=>some (.exit 2,[.pB w 0,.str s,.int .u8 (c.toNat:Int),.int .i64 n,.int .i64 n1],[],m):=Mi w s c n n1 so li out cp m hm hc hl 8 0 rfl
theorem Me (w:Nat) (s:List UInt8) (n:Int) (i:Nat) (hi:i<s.length) (so li:Bool) (out:List UInt8) (m:IM) (hm:m.get w=wrP so li out (.own 1)) (hl:out.length+6≤ak) :
  ng w s n i m=some (.normal,[.pB w 0,.str s,.int .i64 n,.int .i64 i],[],bP m w (wrP so li (out++gZ s[i]) (.own 1))):=by
 have hx:=LZ (List.getElem?_eq_getElem hi)
 generalize s[i]=c at *
 have hL:=NH w s c n i so li out _ m hm (.inr rfl) (by omega)
 rw[JN]
 cases hq:quF c quT with
 |some a =>
  rw[hq] at hL
  simp[ng,go_sem,av hx,hL]
 |none =>
  rw[hq] at hL
  simp only at hL
  have hc256:c.toNat<256:=UInt8.toNat_lt c
  by_cases g:c.toNat<32
  ·have g':(c.toNat:Int)<32:=by omega
   have hm1:(bP m w (wrP so li (out++[92,117,48,48]) (.own 1))).get w=wrP so li (out++[92,117,48,48]) (.own 1):=gB hm
   have e1:IntKind.u8.wrap (Int.tdiv (c.toNat:Int) 16)=((c.toNat/16:Nat):Int):=by
    have:Int.tdiv (c.toNat:Int) 16=((c.toNat/16:Nat):Int):=rfl
    rw[this]
    unfold IntKind.wrap
    simp[IntKind.bits,IntKind.signed]
    omega
   have e2:Int.tmod (c.toNat:Int) 16=((c.toNat%16:Nat):Int):=rfl
   have h1:=zH (c.toNat/16) (by omega)
   have h2:=zH (c.toNat%16) (by omega)
   have a1:=iQ hm (.inr rfl) (x:=[92,117,48,48]) (xs:=aa [92,117,48,48]) (n:=4) rfl rfl (by simp;omega) (R:=LR)
   have a2:=iQ hm1 (.inr rfl) (x:=[jO (c.toNat/16),jO (c.toNat%16)]) (xs:=[.int .u8 ((jO (c.toNat/16)).toNat:Int),.int .u8 ((jO (c.toNat%16)).toNat:Int)]) (n:=2) rfl rfl (by simp;omega) (R:=LR)
   rw[←e1] at h1
   rw[←e2] at h2
   simp only[ng,go_sem,av hx,hL,if_pos g]
   have hb:Nat.beq (List.length (aa [92,117,48,48])) (List.length ([92,117,48,48]:List UInt8)*1)=true:=rfl
   simp only[go_sem,decide_eq_true g',if_true,fo hm,eC (cP [92,117,48,48]),hb,a1,fo hm1,av h1,av h2,a2,bC,Nat.beq_refl]
   simp[dD]
  ·have g':¬(c.toNat:Int)<32:=by omega
   have a1:=iQ hm (.inr rfl) (x:=[c]) (xs:=[.int .u8 (c.toNat:Int)]) (n:=1) rfl rfl (by simp;omega) (R:=LR)
   simp[ng,go_sem,av hx,hL,g,g',fo hm,a1]
theorem qN (c:UInt8):(gZ c).length≤6:=by
 unfold gZ
 repeat' split
 all_goals simp
theorem nm:∀s:List UInt8,(s.flatMap gZ).length≤6*s.length
 |[]=>Nat.le_refl _
 |c::r=>by
  have h1:=qN c
  have h2:=nm r
  rw[List.flatMap_cons,List.length_append,List.length_cons]
  omega
theorem MW (w:Nat) (s:List UInt8) (hs:s.length≤1099511627776) (so li:Bool):∀(k i:Nat) (out:List UInt8) (m:IM),s.length=i+k→m.get w=wrP so li out (.own 1)→out.length+6*k≤ak →
  sM w s (s.length:Int) i m=some (.exit 0,[.pB w 0],[],bP m w (wrP so li (out++(s.drop i).flatMap gZ) (.own 1))):=by
 intro k
 induction k with
 |zero =>
  intro i out m hk hm hl
  have hi:s.length=i:=by omega
  have c1:¬(i:Int)<(s.length:Int):=by omega
  rw[ug,List.drop_eq_nil_iff.2 (by omega)]
  simp[sI,go_sem,c1,nd hm]
 |succ k ih =>
  intro i out m hk hm hl
  have hi:i<s.length:=by omega
  have c1:(i:Int)<(s.length:Int):=by omega
  have hw:IntKind.i64.wrap ((i:Int)+1)=((i+1:Nat):Int):=by rw[w64 (by omega) (by omega)];rfl
  have hC:=Me w s (s.length:Int) i hi so li out m hm (by omega)
  have hq:=qN s[i]
  have h:=ih (i+1) (out++gZ s[i]) _ (by omega) (gB hm) (by rw[List.length_append];omega)
  rw[List.drop_eq_getElem_cons hi,List.flatMap_cons,←List.append_assoc]
  rw[bC] at h
  have step:nxt uT (sI w s (s.length:Int) i m)=sM w s (s.length:Int) (i+1:Nat) (bP m w (wrP so li (out++gZ s[i]) (.own 1))):=by
   generalize i+1=j at *
   simp only[sI,go_sem,hC]
   simp[go_sem,c1,hw]
   rfl
  rw[ug,step,h]
theorem xI (w:Nat) (s:List UInt8) (hs:s.length≤150000000000) (so li:Bool) (out:List UInt8) (c:Cap) (m:IM) (hm:m.get w=wrP so li out c) (hc:out=[]∨c=.own 1) (hl:out.length≤150000000000) :
  cw (.f 152) [.pB w 0,.str s] m=some (.tup [],bP m w (wrP so li (out++fe s) (.own 1))):=by
 have hml:ak=1099511627776:=rfl
 have hq:=nm s
 have a1:=iQ hm hc (x:=[34]) (xs:=[.int .u8 34]) (n:=1) rfl rfl (by simp only[List.length_append,List.length_cons,List.length_nil];omega) (R:=IV×IM)
 have hm1:(bP m w (wrP so li (out++[34]) (.own 1))).get w=wrP so li (out++[34]) (.own 1):=gB hm
 have hL:=MW w s (by omega) so li s.length 0 (out++[34]) _ (by omega) hm1 (by simp;omega)
 rw[List.drop_zero,bC] at hL
 have hm2:(bP m w (wrP so li (out++[34]++s.flatMap gZ) (.own 1))).get w=wrP so li (out++[34]++s.flatMap gZ) (.own 1):=gB hm
 have a2:=iQ hm2 (.inr rfl) (x:=[34]) (xs:=[.int .u8 34]) (n:=1) rfl rfl (by simp only[List.length_append,List.length_cons,List.length_nil];omega) (R:=IV×IM)
 simp only[bC] at a2
 apply B2
 have hL':sM w s (s.length:Int) 0 (bP m w (wrP so li (out++[34]) (.own 1)))=_:=hL
 simp only[JF,fo hm,a1,hL']
 simp only[go_sem,if_true,fo hm2,a2]
 simp[fe]
end Go.Idl
namespace Go.Idl
attribute [local go_sem] bB bA gI gS aZ bF bW bT cA cC cf ct bp aO bk aS aQ cr bq aK cD aJ aA aF az aB aj cG bZ bh bf ck cd bo c9 cu bw cy cB cz cE bg bt bu aR bm cx aP aG aM aN bj an af aT aw cX cW bI ba bJ cn bL cg bH cm List.flatMap_cons List.flatMap_nil
theorem nP {R:Type}{c:Callee}{vs:List IV}{v:IV}{m:IM}{id:Nat}(h:∀m,cw c vs m=some (v,m)) (hid:id<m.size) (hr:(al (vs.flatMap IV.cells)).isSome=true) (K:IV→IM→Option R):bc cw c vs [id] m K=K v m:=by
 obtain⟨n,hn⟩:=Option.isSome_iff_exists.1 hr
 have e:(⟨(m.bs.set id .none).set id (m.get id),m.esc⟩:IM)=m:=by
  have:=gC (m:=m) (id:=id) rfl hid
  rw[List.set_set]
  exact this
 simp only[bc,hn,de,Ap,h,bG]
 rw[e]
theorem w9 (n:Nat):(kd [32,32] n).length=2*n:=by
 induction n with
 |zero=>rfl
 |succ n ih=>simp[kd,ih];omega
theorem Jk (n:Nat) (hn:n≤1000000) (m:IM):cw (.f 171) [.str [32,32],.int .i64 (n:Int)] m=some (.str (kd [32,32] n),m):=by
 unfold cw
 rw[qA (p:=mJ) rfl]
 have h1:Nat.ble n 9223372036854775807=true:=by rw[Nat.ble_eq];omega
 have h2:Nat.ble (2*n) 140737488355328=true:=by rw[Nat.ble_eq];omega
 simp[mJ,h1,h2]
theorem AA (w:Nat) (lvl:Nat) (hv:lvl≤1000000) (so li:Bool) (out:List UInt8) (m:IM) (hm:m.get w=wrP so li out (.own 1)) (hl:out.length≤500000000000) :
  cw (.f 164) [.pB w 0,.int .i64 (lvl:Int)] m=some (.tup [],bP m w (wrP so li (out++gn li lvl) (.own 1))):=by
 have hml:ak=1099511627776:=rfl
 have hr:=w9 lvl
 apply BC
 cases li with
 |false=>simp[G5,go_sem,zG hm,gn,nd hm,an]
 |true =>
  have h1:=fun K:IV→IM→Option (IV×IM)=>nP (Jk lvl hv) (tW hm) (by simp[go_sem]) K
  have e:POp.ev (.bin .add) [.str [10],.str (kd [32,32] lvl)]=some (.str (10::kd [32,32] lvl)):=by
   simp[POp.ev,dy,fj,cY]
   omega
  have a1:=iQ hm (.inr rfl) (x:=10::kd [32,32] lvl) (n:=(10::kd [32,32] lvl).length) rfl rfl (by simp;omega) (R:=IV×IM)
  have hb:Nat.beq (aa (10::kd [32,32] lvl)).length ((10::kd [32,32] lvl).length*1)=true:=by simp[dD]
  have hc:List.contains [w] w=true:=by simp
  simp only[G5,go_sem,zG hm,if_true,Nat.beq_refl,fo hm,h1,hc,av e,eC (cP _),hb,a1]
  simp[gn]
end Go.Idl
namespace Go.Idl
attribute [local go_sem] bB bA gI gS aZ bF bW bT cA cC cf ct bp aO bk aS aQ cr bq aK cD aJ aA aF az aB aj cG bZ bh bf ck cd bo c9 cu bw cy cB cz cE bg bt bu aR bm cx aP aG aM aN bj an af
def aL (l:List Nat):List IV:=l.map fun (i:Nat)=>.int .i64 (i:Int)
theorem j7 (l:List Nat):(aL l).all IV.plain=true:=by
 rw[List.all_eq_true]
 intro x hx
 obtain⟨i,_,rfl⟩:=List.mem_map.1 hx
 rfl
theorem Ao (v:IV) (n:Nat):cS [v] n=List.replicate n v:=by
 induction n with
 |zero=>rfl
 |succ n ih=>simp[cS,ih,List.replicate_succ]
theorem rb (l:List IV):aV l []=List.replicate l.length .any:=by
 induction l with
 |nil=>rfl
 |cons v r ih=>simp[aV,ih,List.replicate_succ]
def upI (i n:Nat):List IV:=aL (List.range i)++List.replicate (n-i) (.int .i64 0)
theorem Gs {i n:Nat}(h:i≤n):(upI i n).length=n:=by simp[upI,aL];omega
theorem Er {i n:Nat}(h:i<n):over (upI i n) i [.int .i64 (i:Int)]=upI (i+1) n:=by
 have hl:(aL (List.range i)).length=i:=by simp[aL]
 unfold over upI
 have e:n-i=(n-(i+1))+1:=by omega
 rw[List.take_append_of_le_length (by omega),List.take_of_length_le (by omega),e,List.replicate_succ,List.drop_append,List.drop_eq_nil_iff.2 (by simp[hl])]
 have e2:i+[IV.int .i64 (i:Int)].length-(aL (List.range i)).length=1:=by rw[hl];simp
 rw[e2]
 simp[aL,List.range_succ]
theorem wg {i n:Nat}(h:i<n):aH (List.replicate n Cap.any) i 1 .any=List.replicate n .any:=by
 unfold aH
 rw[List.take_replicate,List.drop_replicate,List.replicate_append_replicate,List.replicate_append_replicate]
 congr 1;omega
theorem CH (n:Nat):upI n n=aL (List.range n):=by simp[upI]
theorem wG (n:Nat):upI 0 n=List.replicate n (.int .i64 0):=by simp[upI,aL]
theorem gR {id n i:Nat}(h:i<n):POp.ev (.indexS 1) [.sB id 0 n 1,.int .i64 (i:Int)]=some (.pB id i):=by
 have c1:(0:Int)≤(i:Int):=by omega
 have c2:(i:Int)<(n:Int):=by omega
 simp[POp.ev,c1,h]
theorem db {R:Type}(id o n z:Nat) (X:Option R):c7 (.sB id o n z) X=X:=rfl
theorem Ny (w v b n:Nat) (hn:n≤1000000) (m:IM):∀(k i:Nat),n=i+k→b<m.size →
  ob w v 0 (.sB b 0 n 1) (n:Int) (i:Int) (bP m b (.cells (upI i n) (List.replicate n .any)))=some (.exit 0,[.pB w 0,.pB v 0,.sB b 0 n 1],[],bP m b (.cells (aL (List.range n)) (List.replicate n .any))):=by
 intro k
 induction k with
 |zero =>
  intro i hk hb
  have hi:i=n:=by omega
  subst hi
  have c1:¬(i:Int)<(i:Int):=by omega
  rw[tV]
  simp[r9,go_sem,CH]
 |succ k ih =>
  intro i hk hb
  have hi:i<n:=by omega
  have c1:(i:Int)<(n:Int):=by omega
  have hw:IntKind.i64.wrap ((i:Int)+1)=((i+1:Nat):Int):=by rw[w64 (by omega) (by omega)];rfl
  have h:=ih (i+1) (by omega) hb
  have hl:=Gs (i:=i) (n:=n) (by omega)
  have hs:=fun K:IM→Option (St⊕LR)=>gJ (fZ hb (.cells (upI i n) (List.replicate n .any))) (vs:=[.int .i64 (i:Int)]) (c:=.any) (off:=i) (r:=0) rfl (Nat.zero_le _) (by rw[hl];simp;omega) K
  simp only[bC,Er hi,List.length_cons,List.length_nil,Nat.zero_add,wg hi] at hs
  have step:nxt vP (r9 w v 0 (.sB b 0 n 1) (n:Int) (i:Int) (bP m b (.cells (upI i n) (List.replicate n .any))))=ob w v 0 (.sB b 0 n 1) (n:Int) (i+1:Nat) (bP m b (.cells (upI (i+1) n) (List.replicate n .any))):=by
   generalize i+1=j at *
   simp only[r9,go_sem,decide_eq_true c1,if_true,av (gR hi),hs,db,hw]
   rfl
  rw[tV,step,h]
theorem tG {m m':IM}{n:Nat}{l:List IV}{cp:List Cap}(hs:m'.bs.take m.size=m.bs) (he:m'.esc=m.esc) (hp:l.all IV.plain=true) (hn:l.length=n) {id:Nat}(hid:m.size≤id) (hg:m'.get id=.cells l cp):settle m m' (.sB id 0 n 1)=some (.sl l n,m):=by
 have h1:(IV.sB id 0 n 1).refsDeep=some (id+1):=rfl
 have h2:zA m.size m' (.sB id 0 n 1)=.sl l n:=by
  have hc:cut l 0 (n*1)=some l:=by simp[cut,hn,List.take_of_length_le (Nat.le_of_eq hn)]
  simp only[zA,frz,hg,hc,hp,if_true]
  rw[if_neg (by omega)]
 have h3:(IV.sl l n).refsDeep=some 0:=rfl
 unfold settle
 simp only[h1,ay,hs,he,if_true,h2,h3,Nat.zero_le]
 rw[if_neg (by omega)]
theorem xu (w:Nat) (so li:Bool) (out:List UInt8) (c:Cap) (k:Int) (t:List UInt8) (K V:IV) (n:Nat) (hn:n≤1000000) (hV:POp.ev .lenSlice [V]=some (.int .i64 (n:Int))) (hK:K.refs=some 0) (hV2:V.refs=some 0) (m:IM) (hm:m.get w=wrP so li out c) (h:(so&&decide (k=5))=false) :
  cw (.f 163) [.pB w 0,.agg [.int .i64 k,.str t,K,V]] m=some (.sl (aL (List.range n)) n,m):=by
 have hml:ak=1099511627776:=rfl
 have hw:=tW hm
 have g1:(bR m (.cells [.int .i64 k,.str t,K,V] [.any,.any,.any,.any])).get m.size=.cells [.int .i64 k,.str t,K,V] [.any,.any,.any,.any]:=eD _ _
 generalize hM:bR m (.cells [.int .i64 k,.str t,K,V] [.any,.any,.any,.any])=M at *
 have hMs:M.size=m.size+1:=by rw[←hM,f9]
 have hL:=Ny w m.size M.size n hn (bR M (.cells (List.replicate n (.int .i64 0)) (List.replicate n .any))) n 0 (by omega) (by rw[f9];omega)
 rw[eH,eH,wG] at hL
 have hA:decide ((0:Int)≤(n:Int)∧(n:Int)≤(n:Int)∧(n:Int)*8≤(ak:Int)∧(n:Int)≤(ak:Int))=true:=by
  rw[decide_eq_true_eq,hml];omega
 have hq:(bR M (.cells (aL (List.range n)) (List.replicate n .any))).get w=wrP so li out c:=by
  rw[eO (by omega),←hM,eO hw,hm]
 have hq2:(bR M (.cells (aL (List.range n)) (List.replicate n .any))).get m.size=.cells [.int .i64 k,.str t,K,V] [.any,.any,.any,.any]:=by
  rw[eO (by omega),g1]
 have hC:kv w m.size 0 (.sB M.size 0 n 1) (bR M (.cells (aL (List.range n)) (List.replicate n .any)))=some (.normal,[.pB m.size 0,.sB M.size 0 n 1,.bool true],[],bR M (.cells (aL (List.range n)) (List.replicate n .any))):=by
  cases so with
  |false=>simp[kv,go_sem,Ei hq]
  |true =>
   have hk:¬k=5:=by simpa using h
   have hk':(k != 5)=true:=by simpa using hk
   simp only[kv,go_sem,Ei hq,dw hq2,Bool.not_true,Bool.false_eq_true,if_false]
   rw[a8 (v:=.int .i64 k) rfl]
   simp only[go_sem,hk']
 have hS:settle m (bR M (.cells (aL (List.range n)) (List.replicate n .any))) (.sB M.size 0 n 1)=some (.sl (aL (List.range n)) n,m):=by
  refine tG (cp:=List.replicate n .any) ?_ ?_ (j7 _) (by simp[aL]) (by omega) (eD _ _)
  ·rw[←hM];simp[bR,IM.size]
  ·rw[←hM];rfl
 have hL':ob w m.size 0 (.sB M.size 0 n 1) (n:Int) 0 (bR M (.cells (List.replicate n (.int .i64 0)) (List.replicate n .any)))=_:=hL
 apply tL
 simp only[GU,hM,ah hK,ah hV2,dw g1]
 rw[a8 (v:=V) rfl]
 simp only[av hV,go_sem,hA,if_true,Ao,rb,List.length_replicate,Int.toNat_natCast]
 simp only[hL',go_sem,if_true,hC,hS]
end Go.Idl
namespace Go.Idl
attribute [local go_sem] bB bA gI gS aZ bF bW bT cA cC cf ct bp aO bk aS aQ cr bq aK cD aJ aA aF az aB aj cG bZ bh bf ck cd bo c9 cu bw cy cB cz cE bg bt bu aR bm cx aP aG aM aN bj an af aT aw cX cW bI ba bJ cn bL cg bH cm List.flatMap_cons List.flatMap_nil
theorem ix1 {row:List IV}{n i:Nat}(h:i<n):POp.ev (.indexS 1) [.sl row n,.int .i64 (i:Int)]=some (.pI row (i*1)):=by
 have c1:(0:Int)≤(i:Int):=by omega
 have c2:(i:Int)<(n:Int):=by omega
 simp[POp.ev,c1,h]
theorem M6 (w:Nat) (br:List UInt8) (lvl:Int) (p:Nat) (i:Int) (l:IV) (len:Int) (k:Int) (t:List UInt8) (K V:IV) (so li:Bool) (out:List UInt8) (m:IM) (hm:m.get w=wrP so li out (.own 1)) (hl:out.length≤150000000000) :
  pU w br lvl p i l len p k t K V m=some (.normal,[.pB w 0,.str br,.int .i64 lvl,.int .i64 i,l,.int .i64 len,.int .i64 (p:Int)],[.cells [.int .i64 k,.str t,K,V] [.any,.any,.any,.any]],bP m w (wrP so li (out++if 0<p then [44] else []) (.own 1))):=by
 have hml:ak=1099511627776:=rfl
 by_cases g:0<p
 ·have g':(p:Int)>0:=by omega
  have a1:=iQ hm (.inr rfl) (x:=[44]) (xs:=[.int .u8 44]) (n:=1) rfl rfl (by simp only[List.length_cons,List.length_nil];omega) (R:=LR)
  simp only[pU,go_sem,decide_eq_true g',if_true,fo hm,a1,if_pos g]
 ·have g':¬(p:Int)>0:=by omega
  simp only[pU,go_sem,decide_eq_false g',Bool.false_eq_true,if_false,if_neg g,List.append_nil,nd hm]
theorem NF (w:Nat) (br:List UInt8) (lvl:Int) (p:Int) (i:Nat) (l:IV) (len:Int) (k:Int) (t:List UInt8) (K V:IV) (ks:List (List UInt8)) (hK:SlS K ks) (hi:k=5→i<ks.length) (so li:Bool) (out:List UInt8) (m:IM) (hm:m.get w=wrP so li out (.own 1)) (hl:out.length+(iW li k ks i).length≤120000000000) :
  mH w br lvl i l len p k t K V m=some (.normal,[.pB w 0,.str br,.int .i64 lvl,.int .i64 (i:Int),l,.int .i64 len,.int .i64 p],[.cells [.int .i64 k,.str t,K,V] [.any,.any,.any,.any]],bP m w (wrP so li (out++iW li k ks i) (.own 1))):=by
 have hml:ak=1099511627776:=rfl
 by_cases g:k=5
 ·subst g
  have hi:=hi rfl
  have hg:K=.sl (ks.map .str) ks.length:=by
   rcases hK with ⟨_,rfl⟩ | h
   ·simp at hi
   ·exact h
  have hx:ks.getD i []=ks[i]:=by simp[List.getD_eq_getElem?_getD,hi]
  have hrow:(ks.map IV.str)[i*1]?=some (.str ks[i]):=by simp[hi]
  have hk:iW li 5 ks i=fe ks[i]++(58::if li then [32] else []):=by simp only[iW,if_true,hx]
  rw[hk] at hl ⊢
  have hql:ks[i].length≤(fe ks[i]).length:=by
   have:∀s:List UInt8,s.length≤(s.flatMap gZ).length:=by
    intro s
    induction s with
    |nil=>exact Nat.zero_le _
    |cons c r ih =>
     have hc:1≤(gZ c).length:=by
      unfold gZ
      repeat' split
      all_goals simp
     rw[List.flatMap_cons,List.length_append,List.length_cons];omega
   have:=this ks[i]
   simp only[fe,List.length_cons,List.length_append];omega
  simp only[List.length_append,List.length_cons] at hl
  have hq:=xI w ks[i] (by omega) so li out (.own 1) m hm (.inr rfl) (by omega)
  have h1:=fun K2:IV→IM→Option LR=>au hq (by simp[go_sem]) K2
  have hm1:(bP m w (wrP so li (out++fe ks[i]) (.own 1))).get w=wrP so li (out++fe ks[i]) (.own 1):=gB hm
  have a1:=iQ hm1 (.inr rfl) (x:=[58]) (xs:=[.int .u8 58]) (n:=1) rfl rfl (by simp only[List.length_cons,List.length_nil,List.length_append];omega) (R:=LR)
  simp only[bC] at a1
  have hm2:(bP m w (wrP so li (out++fe ks[i]++[58]) (.own 1))).get w=wrP so li (out++fe ks[i]++[58]) (.own 1):=gB hm
  subst hg
  cases li with
  |false =>
   simp only[mH,go_sem,BEq.rfl,if_true,av (ix1 hi),a8 hrow,h1,fo hm1,a1,zG hm2,Bool.false_eq_true,if_false]
   simp only[List.append_assoc,List.cons_append,List.nil_append]
  |true =>
   have a2:=iQ hm2 (.inr rfl) (x:=[32]) (xs:=[.int .u8 32]) (n:=1) rfl rfl (by simp only[List.length_cons,List.length_nil,List.length_append];omega) (R:=LR)
   simp only[bC] at a2
   simp only[mH,go_sem,BEq.rfl,if_true,av (ix1 hi),a8 hrow,h1,fo hm1,a1,zG hm2,fo hm2,a2]
   simp only[List.append_assoc,List.cons_append,List.nil_append]
 ·have g':(k==5)=false:=by simpa using g
  simp only[mH,go_sem,g',Bool.false_eq_true,if_false,iW,if_neg g,List.append_nil,nd hm]
theorem NW (w:Nat) (br:List UInt8) (lvl:Nat) (hlv:lvl≤1000) (k:Int) (t:List UInt8) (K V:IV) (ks:List (List UInt8)) (vs:List Val) (hK:SlS K ks) (hV:SlV V vs) (so li:Bool) (ts:List (List UInt8)) (l:List Nat) (hl:∀i,i∈l→i<vs.length∧(k=5→i<ks.length)) (hn:l.length≤1000000)
  (hI:∀(i:Nat) (h:i<vs.length) (c:List IV),ValR vs[i] c→∀(out:List UInt8) (m:IM),m.get w=wrP so li out (.own 1)→out.length+(ts.getD i []).length≤100000000000→cw (.f 82) [.pB w 0,.agg c,.int .i64 ((lvl+1:Nat):Int)] m=some (.tup [],bP m w (wrP so li (out++ts.getD i []) (.own 1)))) :
  ∀(j p:Nat) (out:List UInt8) (m:IM),l.length=p+j→m.get w=wrP so li out (.own 1)→out.length+(jT li (lvl+1) k ks ts p (l.drop p)).length≤100000000000 →
  sK w br lvl (.sl (aL l) l.length) l.length p k t K V m=some (.exit 0,[.pB w 0,.str br,.int .i64 (lvl:Int)],[.cells [.int .i64 k,.str t,K,V] [.any,.any,.any,.any]],bP m w (wrP so li (out++jT li (lvl+1) k ks ts p (l.drop p)) (.own 1))):=by
 intro j
 induction j with
 |zero =>
  intro p out m hj hm hb
  have c1:¬(p:Int)<(l.length:Int):=by omega
  rw[ua,List.drop_eq_nil_iff.2 (by omega)]
  simp only[rq,go_sem,decide_eq_false c1,Bool.false_eq_true,if_false,jT,List.append_nil,nd hm]
 |succ j ih =>
  intro p out m hj hm hb
  have hp:p<l.length:=by omega
  have c1:(p:Int)<(l.length:Int):=by omega
  have hw:IntKind.i64.wrap ((p:Int)+1)=((p+1:Nat):Int):=by rw[w64 (by omega) (by omega)];rfl
  have hw2:IntKind.i64.wrap ((lvl:Int)+1)=((lvl+1:Nat):Int):=by rw[w64 (by omega) (by omega)];rfl
  rw[List.drop_eq_getElem_cons hp] at hb ⊢
  obtain⟨hi,hik⟩:=hl l[p] (List.getElem_mem hp)
  have hrow:(aL l)[p*1]?=some (.int .i64 (l[p]:Int)):=by simp[aL,hp]
  generalize l[p]=i at *
  unfold jT at hb ⊢
  simp only[List.length_append] at hb
  have hA:=M6 w br lvl p i (.sl (aL l) l.length) l.length k t K V so li out m hm (by omega)
  have hm1:(bP m w (wrP so li (out++if 0<p then [44] else []) (.own 1))).get w=wrP so li (out++if 0<p then [44] else []) (.own 1):=gB hm
  have hB:=AA w (lvl+1) (by omega) so li (out++if 0<p then [44] else []) _ hm1 (by rw[List.length_append];omega)
  rw[bC] at hB
  have h1:=fun K2:IV→IM→Option (St⊕LR)=>au hB (by simp[go_sem]) K2
  have hm2:(bP m w (wrP so li ((out++if 0<p then [44] else [])++gn li (lvl+1)) (.own 1))).get w=wrP so li ((out++if 0<p then [44] else [])++gn li (lvl+1)) (.own 1):=gB hm
  have hC:=NF w br lvl p i (.sl (aL l) l.length) l.length k t K V ks hK hik so li _ _ hm2 (by simp only[List.length_append];omega)
  rw[bC] at hC
  have hm3:(bP m w (wrP so li (((out++if 0<p then [44] else [])++gn li (lvl+1))++iW li k ks i) (.own 1))).get w=wrP so li (((out++if 0<p then [44] else [])++gn li (lvl+1))++iW li k ks i) (.own 1):=gB hm
  cases hV with
  |nil=>simp at hi
  | @sl _ row n hr hnn =>
   obtain⟨c,hc,hcut⟩:=hr.get i hi
   have hD:=hI i hi c hc _ _ hm3 (by simp only[List.length_append];omega)
   rw[bC] at hD
   have hin:i<n:=by omega
   obtain⟨k',t',K',V',rfl,hK',hV',_,_⟩:=hc.cells
   have h2:=fun K2:IV→IM→Option (St⊕LR)=>au hD (by simp[go_sem,hK',hV']) K2
   have h:=ih (p+1) _ _ (by omega) (gB (out':=(((out++if 0<p then [44] else [])++gn li (lvl+1))++iW li k ks i)++ts.getD i []) hm) (by simp only[List.length_append];omega)
   rw[bC] at h
   have step:nxt uw (rq w br lvl (.sl (aL l) l.length) l.length p k t K (.sl row n) m)=sK w br lvl (.sl (aL l) l.length) l.length (p+1:Nat) k t K (.sl row n) (bP m w (wrP so li ((((out++if 0<p then [44] else [])++gn li (lvl+1))++iW li k ks i)++ts.getD i []) (.own 1))):=by
    simp only[rq,go_sem,decide_eq_true c1,if_true,av (ix1 hp),a8 hrow,hA,hw2,h1,hC,av (wZ hin),gm hcut,h2,hw]
    rfl
   rw[ua,step,h]
   simp only[List.append_assoc]
end Go.Idl
namespace Go.Idl
attribute [local go_sem] bB bA gI gS aZ bF bW bT cA cC cf ct bp aO bk aS aQ cr bq aK cD aJ aA aF az aB aj cG bZ bh bf ck cd bo c9 cu bw cy cB cz cE bg bt bu aR bm cx aP aG aM aN bj an af aT aw cX cW bI ba bJ cn bL cg bH cm List.flatMap_cons List.flatMap_nil
inductive wfV:Nat→Val→Prop
 |mk {d:Nat}{k:Int}{t:List UInt8}{ks:List (List UInt8)}{vs:List Val}:0≤k→k≤5→(k=5→ks.length=vs.length∧ks.Nodup)→vs.length≤1000000→(∀v,v∈vs→wfV d v)→wfV (d+1) (.mk k t ks vs)
def zs (so:Bool):Prop:=∀(w:Nat) (li:Bool) (out:List UInt8) (c:Cap) (k:Int) (t:List UInt8) (K V:IV) (ks:List (List UInt8)) (n:Nat) (m:IM),n≤1000000→POp.ev .lenSlice [V]=some (.int .i64 (n:Int))→SlS K ks→V.refs=some 0→(k=5→ks.length=n∧ks.Nodup)→m.get w=wrP so li out c →
  cw (.f 163) [.pB w 0,.agg [.int .i64 k,.str t,K,V]] m=some (.sl (aL (fu so k ks n)) n,m)
theorem sn:zs false:=by
 intro w li out c k t K V ks n m hn hV hK hV2 hk hm
 exact xu w false li out c k t K V n hn hV hK.refs hV2 m hm rfl
theorem rm (ks:List (List UInt8)) (i:Nat):∀(l:List Nat) (x:Nat),x∈kT ks i l↔x=i∨x∈l
 |[],x=>by simp[kT]
 |j::r,x=>by
  unfold kT
  split
  ·simp
  ·simp only[List.mem_cons,rm ks i r]
   constructor
   ·rintro (h | h | h)<;>simp[h]
   ·rintro (h | h | h)<;>simp[h]
theorem wy (ks:List (List UInt8)) (i:Nat):∀l:List Nat,(kT ks i l).length=l.length+1
 |[]=>rfl
 |j::r=>by unfold kT;split<;>simp[wy ks i r]
theorem xn (ks:List (List UInt8)):∀(n x:Nat),x∈lC ks n↔x<n
 |0,x=>by simp[lC]
 |n+1,x=>by rw[lC,rm,xn ks n];omega
theorem vX (ks:List (List UInt8)):∀n:Nat,(lC ks n).length=n
 |0=>rfl
 |n+1=>by rw[lC,wy,vX ks n]
theorem jX (so:Bool) (k:Int) (ks:List (List UInt8)) (n x:Nat):x∈fu so k ks n↔x<n:=by
 unfold fu;split
 ·exact xn ks n x
 ·simp
theorem rC (so:Bool) (k:Int) (ks:List (List UInt8)) (n:Nat):(fu so k ks n).length=n:=by
 unfold fu;split
 ·exact vX ks n
 ·simp
theorem Cl (w:Nat) (lvl:Nat) (hlv:lvl≤1000) (k:Int) (hk4:k=4∨k=5) (t:List UInt8) (K V:IV) (ks:List (List UInt8)) (vs:List Val) (hK:SlS K ks) (hV:SlV V vs) (so li:Bool) (hO:zs so) (hkv:k=5→ks.length=vs.length∧ks.Nodup) (hn:vs.length≤1000000)
  (hI:∀(i:Nat) (h:i<vs.length) (c:List IV),ValR vs[i] c→∀(out:List UInt8) (m:IM),m.get w=wrP so li out (.own 1)→out.length+(prV so li vs[i] (lvl+1)).length≤100000000000→cw (.f 82) [.pB w 0,.agg c,.int .i64 ((lvl+1:Nat):Int)] m=some (.tup [],bP m w (wrP so li (out++prV so li vs[i] (lvl+1)) (.own 1))))
  (out:List UInt8) (c:Cap) (m:IM) (hm:m.get w=wrP so li out c) (hc:out=[]∨c=.own 1) (hb:out.length+(prV so li (.mk k t ks vs) lvl).length≤100000000000) :
  cw (.f 153) [.pB w 0,.agg [.int .i64 k,.str t,K,V],.str [opB k,clB k],.int .i64 (lvl:Int)] m=some (.tup [],bP m w (wrP so li (out++prV so li (.mk k t ks vs) lvl) (.own 1))):=by
 have hml:ak=1099511627776:=rfl
 have hpr:prV so li (.mk k t ks vs) lvl=opB k::(jT li (lvl+1) k ks (prL so li vs (lvl+1)) 0 (fu so k ks vs.length)++((if vs=[] then [] else gn li lvl)++[clB k])):=by
  unfold prV
  rw[if_neg (by omega),if_neg (by omega),if_neg (by omega)]
 rw[hpr] at hb ⊢
 simp only[List.length_cons,List.length_append] at hb
 have a1:=iQ hm hc (x:=[opB k]) (xs:=[.int .u8 ((opB k).toNat:Int)]) (n:=1) rfl rfl (by simp only[List.length_cons,List.length_nil];omega) (R:=IV×IM)
 have hm1:(bP m w (wrP so li (out++[opB k]) (.own 1))).get w=wrP so li (out++[opB k]) (.own 1):=gB hm
 have hord:=hO w li (out++[opB k]) (.own 1) k t K V ks vs.length _ hn hV.len hK hV.refs hkv hm1
 have h1:=fun K2:IV→IM→Option (IV×IM)=>au hord (by simp[go_sem,hK.refs,hV.refs]) K2
 have hlen:=rC so k ks vs.length
 have hL:=NW w [opB k,clB k] lvl hlv k t K V ks vs hK hV so li (prL so li vs (lvl+1)) (fu so k ks vs.length)
  (fun i hi=>⟨(jX so k ks vs.length i).1 hi,fun h5=>by rw[(hkv h5).1];exact (jX so k ks vs.length i).1 hi⟩) (by omega)
  (fun i h c hc out m hm hb=>by rw[sj so li vs (lvl+1) i h] at hb ⊢;exact hI i h c hc out m hm hb)
  vs.length 0 (out++[opB k]) _ (by omega) hm1 (by rw[List.drop_zero,List.length_append,List.length_cons,List.length_nil];omega)
 rw[List.drop_zero,bC,hlen] at hL
 generalize hit:jT li (lvl+1) k ks (prL so li vs (lvl+1)) 0 (fu so k ks vs.length)=it at *
 have hm2:(bP m w (wrP so li ((out++[opB k])++it) (.own 1))).get w=wrP so li ((out++[opB k])++it) (.own 1):=gB hm
 have hC:qa w [opB k,clB k] lvl k t K V (bP m w (wrP so li ((out++[opB k])++it) (.own 1)))=some (.normal,[.pB w 0,.str [opB k,clB k]],[],bP m w (wrP so li (((out++[opB k])++it)++if vs=[] then [] else gn li lvl) (.own 1))):=by
  by_cases g:vs=[]
  ·have g':¬(vs.length:Int)>0:=by rw[g];simp
   simp only[qa,av hV.len,go_sem,decide_eq_false g',Bool.false_eq_true,if_false,if_pos g,List.append_nil]
  ·have g':(vs.length:Int)>0:=by
    have:vs.length≠0:=fun e=>g (List.length_eq_zero_iff.1 e)
    omega
   rw[if_neg g] at hb ⊢
   have hB:=AA w lvl (by omega) so li _ _ hm2 (by simp only[List.length_append,List.length_cons,List.length_nil];omega)
   rw[bC] at hB
   have h2:=fun K2:IV→IM→Option LR=>au hB (by simp[go_sem]) K2
   simp only[qa,av hV.len,go_sem,decide_eq_true g',if_true,h2]
 generalize hln:(if vs=[] then [] else gn li lvl)=ln at *
 have hm3:(bP m w (wrP so li (((out++[opB k])++it)++ln) (.own 1))).get w=wrP so li (((out++[opB k])++it)++ln) (.own 1):=gB hm
 have a2:=iQ hm3 (.inr rfl) (x:=[clB k]) (xs:=[.int .u8 ((clB k).toNat:Int)]) (n:=1) rfl rfl (by simp only[List.length_cons,List.length_nil,List.length_append];omega) (R:=IV×IM)
 simp only[bC] at a2
 have e0:POp.ev .idxStr [.str [opB k,clB k],.int .i64 0]=some (.int .u8 ((opB k).toNat:Int)):=by simp[POp.ev]
 have e1:POp.ev .idxStr [.str [opB k,clB k],.int .i64 1]=some (.int .u8 ((clB k).toNat:Int)):=by simp[POp.ev]
 have e2:POp.ev .lenSlice [.sl (aL (fu so k ks vs.length)) vs.length]=some (.int .i64 (vs.length:Int)):=by simp[POp.ev]
 have e3:∀(X:Option (IV×IM)),c7 (.sl (aL (fu so k ks vs.length)) vs.length) X=X:=fun X=>rfl
 have hL':sK w [opB k,clB k] lvl (.sl (aL (fu so k ks vs.length)) vs.length) vs.length 0 k t K V (bP m w (wrP so li (out++[opB k]) (.own 1)))=_:=hL
 apply Cj
 simp only[Lb,ah hK.refs,ah hV.refs,go_sem,Nat.beq_refl,if_true,fo hm,av e0,a1,h1,av e2,e3,hL',hC,fo hm3,av e1,a2]
 simp only[List.append_assoc,List.cons_append,List.nil_append]
theorem DM (m:IM):cw (.f 106) [] m=some (.agg [.func 126 [] [],.func 127 [] [],.func 127 [] [],.func 128 [] [],.func 129 [] [],.func 130 [] []],m):=by
 apply BF
 exact an (by rfl)
theorem Lq (n:Nat) (h:n<6):POp.ev (.idxArr 6 true 1) [.agg [.func 126 [] [],.func 127 [] [],.func 127 [] [],.func 128 [] [],.func 129 [] [],.func 130 [] []],.int .i64 (n:Int)]=some (.agg [.func ([126,127,127,128,129,130].getD n 0) [] []]):=by
 rcases n with _ | _ | _ | _ | _ | _ | n<;>first | rfl | omega
theorem uL:∀s:List UInt8,s.length≤(s.flatMap gZ).length
 |[]=>Nat.zero_le _
 |c::r=>by
  have hc:1≤(gZ c).length:=by
   unfold gZ
   repeat' split
   all_goals simp
  have:=uL r
  rw[List.flatMap_cons,List.length_append,List.length_cons];omega
theorem H6 (so li:Bool) (hO:zs so) (w:Nat):∀(d:Nat) (v:Val) (c:List IV),wfV d v→ValR v c→∀(lvl:Nat) (out:List UInt8) (cp:Cap) (m:IM),lvl+d≤1000→m.get w=wrP so li out cp→(out=[]∨cp=.own 1)→out.length+(prV so li v lvl).length≤100000000000 →
  cw (.f 82) [.pB w 0,.agg c,.int .i64 (lvl:Int)] m=some (.tup [],bP m w (wrP so li (out++prV so li v lvl) (.own 1))):=by
 have hml:ak=1099511627776:=rfl
 intro d
 induction d with
 |zero=>intro v c hw;cases hw
 |succ d ih =>
  intro v c hw hc lvl out cp m hlv hm hcp hb
  cases hw with
  | @mk _ k t ks vs h0 h5 hkv hn hall =>
   cases hc with
   | @mk _ _ _ _ K V hK hV =>
    have hk:=hK.refs
    have hv:=hV.refs
    have h1:=fun K2:IV→IM→Option (IV×IM)=>au (DM m) (by simp[go_sem]) K2
    obtain⟨n,rfl⟩:∃n:Nat,k=(n:Int):=⟨k.toNat,by omega⟩
    have hn6:n<6:=by omega
    have e1:=Lq n hn6
    have hcall:∀g,cw (.f g) [.pB w 0,.agg [.int .i64 (n:Int),.str t,K,V],.int .i64 (lvl:Int)] m=some (.tup [],bP m w (wrP so li (out++prV so li (.mk (n:Int) t ks vs) lvl) (.own 1)))→∀K2:IV→IM→Option (IV×IM),iU cw (.func g [] []) [.pB w 0,.agg [.int .i64 (n:Int),.str t,K,V],.int .i64 (lvl:Int)] [] m K2=K2 (.tup []) (bP m w (wrP so li (out++prV so li (.mk (n:Int) t ks vs) lvl) (.own 1))):=by
     intro g hg K2
     show bc cw (.f g) ([]++_++[]) [] m K2=_
     rw[List.nil_append,List.append_nil]
     exact au hg (by simp[go_sem,hk,hv]) K2
    have fin:cw (.f ([126,127,127,128,129,130].getD n 0)) [.pB w 0,.agg [.int .i64 (n:Int),.str t,K,V],.int .i64 (lvl:Int)] m=some (.tup [],bP m w (wrP so li (out++prV so li (.mk (n:Int) t ks vs) lvl) (.own 1))):=by
     have plain:((n:Int)=1∨(n:Int)=2)→cw (.f 127) [.pB w 0,.agg [.int .i64 (n:Int),.str t,K,V],.int .i64 (lvl:Int)] m=some (.tup [],bP m w (wrP so li (out++prV so li (.mk (n:Int) t ks vs) lvl) (.own 1))):=by
      intro h
      have e:prV so li (.mk (n:Int) t ks vs) lvl=t:=by unfold prV;rw[if_neg (by omega),if_pos h]
      rw[e] at hb ⊢
      have a1:=iQ hm hcp (x:=t) (xs:=aa t) (n:=t.length) rfl rfl (by omega) (R:=IV×IM)
      have hB:Nat.beq (aa t).length (t.length*1)=true:=by simp[dD]
      apply BN
      simp only[IU,ah hk,ah hv,go_sem,Nat.beq_refl,if_true,fo hm,eC (cP t),hB,a1]
     have lst:∀hk4:(n:Int)=4∨(n:Int)=5,cw (.f 153) [.pB w 0,.agg [.int .i64 (n:Int),.str t,K,V],.str [opB (n:Int),clB (n:Int)],.int .i64 (lvl:Int)] m=some (.tup [],bP m w (wrP so li (out++prV so li (.mk (n:Int) t ks vs) lvl) (.own 1))):=by
      intro hk4
      exact Cl w lvl (by omega) (n:Int) hk4 t K V ks vs hK hV so li hO hkv hn (fun i h c hc out m hm hb=>ih _ _ (hall _ (List.getElem_mem h)) hc (lvl+1) out _ m (by omega) hm (.inr rfl) hb) out cp m hm hcp hb
     rcases n with _ | _ | _ | _ | _ | _ | n
     ·have e:prV so li (.mk ((0:Nat):Int) t ks vs) lvl=[110,117,108,108]:=by unfold prV;rw[if_pos (show ((0:Nat):Int)=0 from rfl)]
      rw[e] at hb ⊢
      have a1:=iQ hm hcp (x:=[110,117,108,108]) (xs:=aa [110,117,108,108]) (n:=4) rfl rfl (by simp only[List.length_cons,List.length_nil] at hb ⊢;omega) (R:=IV×IM)
      have hB:Nat.beq (List.length (aa [110,117,108,108])) (List.length ([110,117,108,108]:List UInt8)*1)=true:=rfl
      apply Br
      simp only[IY,ah hk,ah hv,go_sem,if_true,fo hm,eC (cP [110,117,108,108]),a1]
      exact if_pos hB
     ·exact plain (.inl rfl)
     ·exact plain (.inr rfl)
     ·have e:prV so li (.mk ((3:Nat):Int) t ks vs) lvl=fe t:=by unfold prV;rw[if_neg (by omega),if_neg (by omega),if_pos (show ((3:Nat):Int)=3 from rfl)]
      rw[e] at hb ⊢
      have hq:=uL t
      simp only[fe,List.length_cons,List.length_append] at hb
      have hQ:=xI w t (by omega) so li out cp m hm hcp (by omega)
      have h2:=fun K2:IV→IM→Option (IV×IM)=>au hQ (by simp[go_sem]) K2
      apply Bw
      simp only[Ll,ah hk,ah hv,go_sem,h2]
     ·have h2:=fun K2:IV→IM→Option (IV×IM)=>au (lst (.inl rfl)) (by simp[go_sem,hk,hv]) K2
      apply AW
      simp only[opB,clB] at h2
      rw[if_neg (by omega),if_neg (by omega)] at h2
      simp only[Lp,ah hk,ah hv,go_sem]
      rw[h2]
      simp only[go_sem]
     ·have h2:=fun K2:IV→IM→Option (IV×IM)=>au (lst (.inr rfl)) (by simp[go_sem,hk,hv]) K2
      apply Bd
      simp only[opB,clB] at h2
      rw[if_pos (by omega),if_pos (by omega)] at h2
      simp only[Jq,ah hk,ah hv,go_sem]
      rw[h2]
      simp only[go_sem]
     ·omega
    apply FB
    simp only[F82,ah hk,ah hv,h1,go_sem,av e1,hcall _ fin]
end Go.Idl
