/- This text proves what the interpreter returns at the functions that TextSettles reaches, first part; it has no conditions. -/
import Derived.Test.YtihkfdkoncekmaaGreatDoorIdo
import Derived.Test.YtihkfdkoncekmaaGreatDoorIdl
import Derived.Test.YtihkfdkoncekmaaGreatDoorIdn
set_option linter.unusedSimpArgs false
set_option linter.unusedVariables false
namespace Go.Idl
attribute [local go_sem] cn cu gI gS bn bU cC cU cV c6 dd c7 cf bG ct bC bF da cv bB dh bD aN aX aO aM aA dm dc cm cg dj cZ bY eC dk bZ dg cY c9 de cx cd ck bA b8 c8 bw aY bE bu cr aL aB aP ay cP cO bo aZ bp bP bq bR bt bQ List.flatMap_cons List.flatMap_nil
inductive Val where
 |mk (k:Int) (t:List UInt8) (ks:List (List UInt8)) (vs:List Val)
 deriving Inhabited
mutual
inductive ValR:Val→List IV→Prop
 |mk {k:Int}{t:List UInt8}{ks:List (List UInt8)}{vs:List Val}{K V:IV}:SlS K ks→SlV V vs→ValR (.mk k t ks vs) [.int .i64 k,.str t,K,V]
inductive SlV:IV→List Val→Prop
 |nil:SlV .nilSlice []
 |sl {vs:List Val}{row:List IV}{n:Nat}:RowR vs row→n=vs.length→SlV (.sl row n) vs
inductive RowR:List Val→List IV→Prop
 |nil:RowR [] []
 |cons {v:Val}{vs:List Val}{c r:List IV}:ValR v c→RowR vs r→RowR (v::vs) (c++r)
end
theorem ValR.len {v:Val}{c:List IV}(h:ValR v c):c.length=4:=by cases h;rfl
theorem RowR.len:∀{vs:List Val}{r:List IV},RowR vs r→r.length=4*vs.length
 |_,_,.nil=>rfl
 |_,_,.cons hv hr=>by rw[List.length_append,hv.len,hr.len,List.length_cons];omega
theorem RowR.get:∀{vs:List Val}{r:List IV},RowR vs r→∀(i:Nat) (h:i<vs.length),∃c,ValR vs[i] c∧cut r (i*4) 4=some c
 |_,_,.nil,i,h=>by simp at h
 |_,_,.cons (v:=v) (vs:=vs) (c:=c) (r:=r) hv hr,i,h=>by
  cases i with
  |zero =>
   refine⟨c,hv,?_⟩
   have:=hv.len
   simp[cut,this]
  |succ i =>
   obtain⟨d,h1,h2⟩:=hr.get i (by simpa using h)
   refine⟨d,h1,?_⟩
   have:=hv.len
   unfold cut at h2 ⊢
   split at h2
   ·rename_i hl
    rw[if_pos (by rw[List.length_append];omega),List.drop_append]
    have e:(i+1)*4-c.length=i*4:=by omega
    have e2:c.drop ((i+1)*4)=[]:=List.drop_eq_nil_iff.2 (by omega)
    rw[e,e2]
    exact h2
   ·cases h2
theorem SlS.refs {K:IV}{ks:List (List UInt8)}(h:SlS K ks):K.refs=some 0:=by rcases h with ⟨rfl,_⟩ | rfl<;>rfl
theorem SlS.plain {K:IV}{ks:List (List UInt8)}(h:SlS K ks):K.plain=true:=by rcases h with ⟨rfl,_⟩ | rfl<;>rfl
theorem SlV.refs {K:IV}{ks:List Val}(h:SlV K ks):K.refs=some 0:=by cases h<;>rfl
theorem SlV.plain {K:IV}{ks:List Val}(h:SlV K ks):K.plain=true:=by cases h<;>rfl
theorem SlV.toN {V:IV}{vs:List Val}(h:SlV V vs):SlN V vs.length:=by
 cases h with
 |nil=>exact .inl ⟨rfl,rfl⟩
 |sl hr hn=>exact .inr ⟨_,by rw[hn]⟩
theorem SlV.len {V:IV}{vs:List Val}(h:SlV V vs):POp.ev .lenSlice [V]=some (.int .i64 (vs.length:Int)):=E3 h.toN
mutual
inductive okV:Val→Prop
 |mk {k:Int}{t:List UInt8}{ks:List (List UInt8)}{vs:List Val}:t.length≤1099511627776→ks.length≤1000000→(∀s,s∈ks→s.length≤1099511627776)→okL vs→vs.length≤1000000→okV (.mk k t ks vs)
inductive okL:List Val→Prop
 |nil:okL []
 |cons {v:Val}{vs:List Val}:okV v→okL vs→okL (v::vs)
end
mutual
def eP:Val→Int→Int→Int×Int
 |.mk k t ks vs,lvl,left=>if left=0 then (5,left) else if lvl>40 then (21,left-1) else
   if lE k t ks vs.length≠0 then (lE k t ks vs.length,left-1) else fm vs (lvl+1) (left-1)
def fm:List Val→Int→Int→Int×Int
 |[],_,left=>(0,left)
 |v::vs,lvl,left=>if (eP v lvl left).1≠0 then eP v lvl left else fm vs lvl (eP v lvl left).2
end
mutual
theorem y7:∀(v:Val) (lvl left:Int),0≤left→0≤(eP v lvl left).2∧(eP v lvl left).2≤left
 |.mk k t ks vs,lvl,left,h=>by
  unfold eP
  by_cases h0:left=0
  ·rw[if_pos h0];exact⟨h,Int.le_refl _⟩
  ·rw[if_neg h0]
   by_cases h1:lvl>40
   ·rw[if_pos h1];exact⟨by simp only;omega,by simp only;omega⟩
   ·rw[if_neg h1]
    by_cases h2:lE k t ks vs.length≠0
    ·rw[if_pos h2];exact⟨by simp only;omega,by simp only;omega⟩
    ·rw[if_neg h2]
     have:=kq vs (lvl+1) (left-1) (by omega)
     omega
theorem kq:∀(vs:List Val) (lvl left:Int),0≤left→0≤(fm vs lvl left).2∧(fm vs lvl left).2≤left
 |[],lvl,left,h=>⟨h,Int.le_refl _⟩
 |v::vs,lvl,left,h=>by
  unfold fm
  have h1:=y7 v lvl left h
  by_cases h2:(eP v lvl left).1≠0
  ·rw[if_pos h2];exact h1
  ·rw[if_neg h2]
   have:=kq vs lvl (eP v lvl left).2 h1.1
   omega
end
def bxI (n:Int):BObj:=.cells [.int .i64 n] [.any]
theorem af {R:Type}{c:Callee}{vs:List IV}{m m':IM}{v:IV}(h:cw c vs m=some (v,m')) (hr:(al (vs.flatMap IV.cells)).isSome=true) (K:IV→IM→Option R):aw cw c vs [] m K=K v m':=Dd h hr K
theorem ValR.cells {v:Val}{c:List IV}(h:ValR v c):∃k t K V,c=[.int .i64 k,.str t,K,V]∧K.refs=some 0∧V.refs=some 0∧K.plain=true∧V.plain=true:=by
 cases h with
 |mk hK hV=>exact⟨_,_,_,_,rfl,hK.refs,hV.refs,hK.plain,hV.plain⟩
theorem A6 {row:List IV}{n i:Nat}(h:i<n):POp.ev (.indexS 4) [.sl row n,.int .i64 (i:Int)]=some (.pI row (i*4)):=by
 have c1:(i:Int)<(n:Int):=by omega
 have c2:(0:Int)≤(i:Int):=by omega
 simp[POp.ev,c1,c2]
def P54 (v:Val):Prop:=∀(c:List IV) (lvl left:Int) (id:Nat) (m:IM),ValR v c→okV v→0≤lvl→lvl≤41→0≤left→left≤1000000→m.get id=bxI left →
  cw (.f 54) [.agg c,.int .i64 lvl,.pB id 0] m=some (.int .i64 (eP v lvl left).1,az m id (bxI (eP v lvl left).2))
theorem okL.mem {vs:List Val}(h:okL vs) {v:Val}(hv:v∈vs):okV v:=by
 induction vs with
 |nil=>cases hv
 |cons a r ih=>cases h with | cons h1 h2=>rcases List.mem_cons.1 hv with rfl | hv;exact h1;exact ih h2 hv
theorem Hc (vs:List Val) (row:List IV) (hr:RowR vs row) (hok:okL vs) (hn:vs.length≤1099511627776) (ih:∀v,v∈vs→P54 v) (lvl:Int) (id:Nat) (hl0:0≤lvl) (hl1:lvl≤40):∀(k i:Nat) (left:Int) (m:IM),vs.length=i+k→0≤left→left≤1000000→m.get id=bxI left →
  CS lvl id (.sl row vs.length) vs.length i m=some (if (fm (vs.drop i) (lvl+1) left).1=0 then (.exit 0,[],[],az m id (bxI (fm (vs.drop i) (lvl+1) left).2)) else (.ret,[.int .i64 (fm (vs.drop i) (lvl+1) left).1],[],az m id (bxI (fm (vs.drop i) (lvl+1) left).2))):=by
 intro k
 induction k with
 |zero =>
  intro i left m hk hf0 hf1 hm
  have e:vs.drop i=[]:=List.drop_eq_nil_iff.2 (by omega)
  have c1:¬(i:Int)<(vs.length:Int):=by omega
  rw[e,ql]
  simp[r9,go_sem,c1,fm,jq hm (mS hm)]
 |succ k ihk =>
  intro i left m hk hf0 hf1 hm
  have hi:i<vs.length:=by omega
  have c1:(i:Int)<(vs.length:Int):=by omega
  obtain⟨c,hc,hcut⟩:=hr.get i hi
  have hv:vs[i]∈vs:=List.getElem_mem hi
  have hcall:=ih _ hv c (lvl+1) left id m hc (hok.mem hv) (by omega) (by omega) hf0 hf1 hm
  have hle:=y7 vs[i] (lvl+1) left hf0
  have e1:IntKind.i64.wrap (lvl+1)=lvl+1:=w64 (by omega) (by omega)
  have e2:IntKind.i64.wrap ((i:Int)+1)=((i+1:Nat):Int):=by rw[w64 (by omega) (by omega)];rfl
  have hm':(az m id (bxI (eP vs[i] (lvl+1) left).2)).get id=bxI (eP vs[i] (lvl+1) left).2:=jt (mS hm) _
  have hstep:=ihk (i+1) (eP vs[i] (lvl+1) left).2 (az m id (bxI (eP vs[i] (lvl+1) left).2)) (by omega) hle.1 (by omega) hm'
  rw[aj] at hstep
  rw[List.drop_eq_getElem_cons hi]
  obtain⟨a,t,K,V,rfl,hK,hV,hKp,hVp⟩:=hc.cells
  have hcc:=fun (K2:IV→IM→Option (St⊕LR))=>af hcall (by simp[go_sem,hK,hV]) K2
  rw[ql]
  generalize vs[i]=x at *
  by_cases g:(eP x (lvl+1) left).1=0
  ·have hc0:fm (x::vs.drop (i+1)) (lvl+1) left=fm (vs.drop (i+1)) (lvl+1) (eP x (lvl+1) left).2:=by rw[fm,if_neg (fun h=>h g)]
   rw[hc0,←hstep]
   simp only[r9,go_sem,c1,decide_true,if_true,aE (A6 hi),iF hcut,ah hK,ah hV,e1,hcc,g,e2,gq,bne_self_eq_false,Bool.false_eq_true,if_false]
   rfl
  ·have g':((eP x (lvl+1) left).1 != 0)=true:=by simpa using g
   have hc0:fm (x::vs.drop (i+1)) (lvl+1) left=eP x (lvl+1) left:=by rw[fm,if_pos g]
   rw[hc0,if_neg g]
   simp only[r9,go_sem,c1,decide_true,if_true,aE (A6 hi),iF hcut,ah hK,ah hV,e1,hcc,g']
theorem yo (v:Val):P54 v:=by
 intro c lvl left id m hR hO hl0 hl1 hf0 hf1 hm
 match v,hR,hO with
 |.mk k t ks vs,.mk (K:=K) (V:=V) hK hV,.mk h1 h2 h3 h4 h5 =>
  have hlt:id<m.size:=mS hm
  have ih:∀x,x∈vs→P54 x:=fun x hx=>yo x
  unfold eP
  apply BW
  unfold F54
  rw[ah hK.refs,ah hV.refs]
  simp only[bxI] at hm ⊢
  by_cases g0:left=0
  ·subst g0
   have:az m id (.cells [.int .i64 0] [.any])=m:=jq hm hlt
   simp[go_sem,eW hm,dY,this,aL]
  ·have g0':(left==0)=false:=by simpa using g0
   have hw:IntKind.i64.wrap (left-1)=left-1:=w64 (by omega) (by omega)
   have hst:=fun (K:IM→Option (IV×IM))=>i5 (m:=m) (id:=id) (off:=0) (vs:=[.int .i64 (left-1)]) (c:=.any) hm (r:=0) rfl (Nat.zero_le _) (Nat.le_refl _) K
   rw[show over [IV.int .i64 left] 0 [.int .i64 (left-1)]=[.int .i64 (left-1)] from rfl,show aC [Cap.any] 0 [IV.int .i64 (left-1)].length .any=[.any] from rfl] at hst
   by_cases g1:lvl>40
   ·simp[go_sem,eW hm,dY,g0,g0',hw,hst,g1,aB]
   ·have h84:=GJ k t K V ks vs.length hK hV.toN h1 (by omega) h3 (az m id (.cells [.int .i64 (left-1)] [.any]))
    have hc:=fun (K2:IV→IM→Option (IV×IM))=>af h84 (by simp[vc,go_sem,hK.refs,hV.refs]) K2
    simp only[vc] at hc
    by_cases g2:lE k t ks vs.length=0
    ·have hm':(az m id (bxI (left-1))).get id=bxI (left-1):=jt hlt _
     have hle:=kq vs (lvl+1) (left-1) (by omega)
     rw[if_neg g0,if_neg g1,if_neg (fun h=>h g2)]
     cases hV with
     |nil =>
      have g2:lE k t ks 0=0:=g2
      simp[go_sem,eW hm,dY,g0,g0',hw,hst,g1,hc,g2,aB,aE,gq,POp.ev,ql,r9,fm,evC]
     |sl hr hn =>
      subst hn
      have hL:=Hc vs _ hr h4 (by omega) ih lvl id hl0 (by omega) vs.length 0 (left-1) (az m id (bxI (left-1))) (by omega) (by omega) (by omega) hm'
      rw[aj,List.drop_zero] at hL
      simp only[bxI] at hL
      rw[show ((0:Nat):Int)=0 from rfl] at hL
      have hlen:∀row,POp.ev .lenSlice [.sl row vs.length]=some (.int .i64 (vs.length:Int)):=fun _=>rfl
      by_cases g3:(fm vs (lvl+1) (left-1)).1=0
      ·rw[if_pos g3] at hL
       simp[go_sem,eW hm,dY,g0,g0',hw,hst,g1,hc,g2,aB,aE (hlen _),gq,hL,g3]
      ·rw[if_neg g3] at hL
       simp[go_sem,eW hm,dY,g0,g0',hw,hst,g1,hc,g2,aB,aE (hlen _),gq,hL]
    ·have g2':(lE k t ks vs.length != 0)=true:=by simpa using g2
     rw[if_neg g0,if_neg g1,if_pos g2]
     simp[go_sem,eW hm,dY,g0,g0',hw,hst,g1,hc,g2,g2',aB]
termination_by SizeOf.sizeOf v
decreasing_by
 have:=List.sizeOf_lt_of_mem hx
 simp_wf
 omega
end Go.Idl
namespace Go.Idl
attribute [local go_sem] cn cu gI gS bn bU cC cU cV c6 dd c7 cf bG ct bC bF da cv bB dh bD aN aX aO aM aA dm dc cm cg dj cZ bY eC dk bZ dg cY c9 de cx cd ck bA b8 c8 bw aY bE bu cr aL aB aP ay cP cO bo aZ bp bP bq bR bt bQ List.flatMap_cons List.flatMap_nil
def fk (v:Val):Int:=(eP v 1 2000).1
theorem yF (v:Val) (c:List IV) (m:IM) (hR:ValR v c) (hO:okV v):cw (.f 25) [.agg c] m=some (.int .i64 (fk v),m):=by
 obtain⟨k,t,K,V,rfl,hK,hV,hKp,hVp⟩:=hR.cells
 apply BH
 have h:=yo v _ 1 2000 m.size (bJ m (bxI 2000)) hR hO (by omega) (by omega) (by omega) (by omega) (gK _ _)
 have hc:=fun (K2:IV→IM→Option (IV×IM))=>af h (by simp[go_sem,hK,hV]) K2
 simp only[bxI,eJ] at hc
 have hst:=fun (K2:IM→Option (IV×IM))=>i5 (m:=bJ m (bxI 0)) (id:=m.size) (off:=0) (vs:=[.int .i64 2000]) (c:=.any) (gK _ _) (r:=0) rfl (Nat.zero_le _) (Nat.le_refl _) K2
 rw[eJ,show over [IV.int .i64 0] 0 [.int .i64 2000]=[.int .i64 2000] from rfl,show aC [Cap.any] 0 [IV.int .i64 2000].length .any=[.any] from rfl] at hst
 simp only[bxI] at hst
 simp[F25,go_sem,ah hK,ah hV,hst,hc,gf,fk]
end Go.Idl
namespace Go.Idl
attribute [local go_sem] cn cu gI gS bn bU cC cU cV c6 dd c7 cf bG ct bC bF da cv bB dh bD aN aX aO aM aA dm dc cm cg dj cZ bY eC dk bZ dg cY c9 de cx cd ck bA b8 c8 bw aY bE bu cr aL aB aP ay cP cO bo aZ bp bP bq bR bt bQ List.flatMap_cons List.flatMap_nil
def rdP (s:List UInt8) (a bad e:Int):BObj:=.cells [.int .i64 a,.int .i64 bad,.int .i64 e,.str s] [.any,.any,.any,.any]
section
variable {R:Type}{m:IM}{id:Nat}{s:List UInt8}{a bad e:Int}
theorem eD (h:m.get id=rdP s a bad e) (K:Int→Option R):(eS m id fun l0 _=>dD false l0 0 1 fun v=>asI .i64 v K)=K a:=by
 rw[eW h];simp[dD,cC]
theorem uy (h:m.get id=rdP s a bad e) (K:Int→Option R):(eS m id fun l0 _=>dD false l0 1 1 fun v=>asI .i64 v K)=K bad:=by
 rw[eW h];simp[dD,cC]
theorem gB (h:m.get id=rdP s a bad e) (K:Int→Option R):(eS m id fun l0 _=>dD false l0 2 1 fun v=>asI .i64 v K)=K e:=by
 rw[eW h];simp[dD,cC]
theorem gC (h:m.get id=rdP s a bad e) (K:List UInt8→Option R):(eS m id fun l0 _=>dD false l0 3 1 fun v=>asS v K)=K s:=by
 rw[eW h];simp[dD,cV]
theorem wE (h:m.get id=rdP s a bad e) (x:Int) (K:IM→Option R):stP m (.pB id 0) [.int .i64 x] .any K=K (az m id (rdP s x bad e)):=by
 rw[i5 h (r:=0) rfl (Nat.zero_le _) (by simp)];rfl
theorem IY (h:m.get id=rdP s a bad e) (x:Int) (K:IM→Option R):stP m (.pB id 1) [.int .i64 x] .any K=K (az m id (rdP s a x e)):=by
 rw[i5 h (r:=0) rfl (Nat.zero_le _) (by simp)];rfl
theorem Lw (h:m.get id=rdP s a bad e) (x:Int) (K:IM→Option R):stP m (.pB id 2) [.int .i64 x] .any K=K (az m id (rdP s a bad x)):=by
 rw[i5 h (r:=0) rfl (Nat.zero_le _) (by simp)];rfl
theorem C1 (h:m.get id=rdP s a bad e):id<m.size:=mS h
theorem bO {a' bad' e':Int}(h:m.get id=rdP s a bad e):(az m id (rdP s a' bad' e')).get id=rdP s a' bad' e':=jt (C1 h) _
theorem iJ (h:m.get id=rdP s a bad e):az m id (rdP s a bad e)=m:=jq h (C1 h)
end
theorem xg {s:List UInt8}{i:Nat}{c:UInt8}(h:s[i]?=some c):POp.ev .idxStr [.str s,.int .i64 (i:Int)]=some (.int .u8 (c.toNat:Int)):=by
 have c2:(0:Int)≤(i:Int):=by omega
 simp[POp.ev,c2,h]
theorem Js {c d:UInt8}:((c.toNat:Int) != (d.toNat:Int))=!(c==d):=by
 by_cases h:c=d
 ·subst h;simp
 ·have h1:(c==d)=false:=by simpa using h
  have h2:c.toNat≠d.toNat:=fun e=>h (UInt8.toNat_inj.1 e)
  rw[h1];simp;omega
theorem Fi {c d:UInt8}:((c.toNat:Int)==(d.toNat:Int))=(c==d):=by
 by_cases h:c=d
 ·subst h;simp
 ·have h1:(c==d)=false:=by simpa using h
  have h2:c.toNat≠d.toNat:=fun e=>h (UInt8.toNat_inj.1 e)
  rw[h1];simp;omega
theorem jU (s:List UInt8) (a:Nat) (bad e:Int) (c:UInt8) (id:Nat) (m:IM) (ha:a≤1099511627776) (hm:m.get id=rdP s a bad e) :
  cw (.f 97) [.pB id 0,.int .u8 (c.toNat:Int)] m=if e=0∧s[a]?=some c then some (.bool true,az m id (rdP s (a+1:Nat) bad e)) else some (.bool false,m):=by
 have hw:IntKind.i64.wrap ((a:Int)+1)=((a+1:Nat):Int):=by rw[w64 (by omega) (by omega)];rfl
 by_cases h0:e=0
 ·cases hs:s[a]? with
  |none =>
   have hge:=List.getElem?_eq_none_iff.1 hs
   have c1:(s.length:Int)≤(a:Int):=by omega
   rw[if_neg (by simp)]
   apply mG
   simp[F97,qZ,go_sem,gB hm,eD hm,gC hm,h0,c1]
  |some d =>
   have hlt:=bL hs
   have c1:¬(s.length:Int)≤(a:Int):=by omega
   by_cases hd:d=c
   ·subst hd
    rw[if_pos ⟨h0,rfl⟩]
    apply mG
    simp[F97,qZ,go_sem,gB hm,eD hm,gC hm,h0,c1,aE (xg hs),wE hm,hw]
   ·have hd':(d==c)=false:=by simpa using hd
    rw[if_neg (by simp[hd])]
    apply mG
    have hne:=Js (c:=d) (d:=c)
    rw[hd'] at hne
    simp[F97,qZ,go_sem,gB hm,eD hm,gC hm,h0,c1,aE (xg hs),hne]
 ·have h0':(e != 0)=true:=by simpa using h0
  rw[if_neg (fun h=>h0 h.1)]
  apply mG
  simp[F97,qZ,go_sem,gB hm,eD hm,gC hm,h0,h0']
def gY:IV:=.agg [.int .i64 0,.str [],.nilSlice,.nilSlice]
def iM (bad e at_ c:Int):Int×Int:=if e=0 then (at_,c) else (bad,e)
theorem qX (s:List UInt8) (a bad e at_ c:Int) (id:Nat) (m:IM) (hm:m.get id=rdP s a bad e) :
  cw (.f 72) [.pB id 0,.int .i64 at_,.int .i64 c] m=some (gY,az m id (rdP s a (iM bad e at_ c).1 (iM bad e at_ c).2)):=by
 apply BZ
 unfold iM
 by_cases h0:e=0
 ·have h0':(e==0)=true:=by simpa using h0
  subst h0
  simp[F72,xM,go_sem,gB hm,IY hm,Lw (bO hm),aj,gY]
 ·have h0':(e==0)=false:=by simpa using h0
  simp[F72,xM,go_sem,gB hm,h0,h0',gY,iJ hm]
theorem km (s:List UInt8) (a bad e:Int) (id:Nat) (m:IM) (hm:m.get id=rdP s a bad e) :
  cw (.f 45) [.pB id 0] m=some (gY,az m id (rdP s a (iM bad e a 19).1 (iM bad e a 19).2)):=by
 apply CB
 have h:=qX s a bad e a 19 id m hm
 have hc:=fun (K2:IV→IM→Option (IV×IM))=>af h (by simp[go_sem]) K2
 simp[F45,go_sem,eD hm,hc,gY,ah]
def ik (c:UInt8):Bool:=c==32||c==9||c==10||c==13
def rS (s:List UInt8):Nat→Nat→Nat
 |0,a=>a
 |k+1,a=>match s[a]? with
  |some c=>if ik c then rS s k (a+1) else a
  |none=>a
def blk (s:List UInt8) (a:Nat):Nat:=rS s (s.length+1-a) a
end Go.Idl
namespace Go.Idl
attribute [local go_sem] cn cu gI gS bn bU cC cU cV c6 dd c7 cf bG ct bC bF da cv bB dh bD aN aX aO aM aA dm dc cm cg dj cZ bY eC dk bZ dg cY c9 de cx cd ck bA b8 c8 bw aY bE bu cr aL aB aP ay cP cO bo aZ bp bP bq bR bt bQ List.flatMap_cons List.flatMap_nil
theorem D9 (s:List UInt8) (c:UInt8) (m:IM):cw (.f 123) [.str s,.int .u8 (c.toNat:Int)] m=some (.int .i64 (ie c s 0),m):=by
 unfold cw
 rw[qH (p:=iG) rfl]
 simp[iG]
theorem C9 (s:List UInt8) (c:UInt8) (m:IM):cw (.f 75) [.str s,.int .u8 (c.toNat:Int)] m=some (.int .i64 (ie c s 0),m):=by
 have h1:cw (.f 101) [.str s,.int .u8 (c.toNat:Int)] m=some (.int .i64 (ie c s 0),m):=by
  apply Av
  have hc:=fun (K2:IV→IM→Option (IV×IM))=>af (D9 s c m) (by simp[go_sem]) K2
  simp[G5,go_sem,hc]
 apply Ck
 have hc:=fun (K2:IV→IM→Option (IV×IM))=>af h1 (by simp[go_sem]) K2
 simp[F75,go_sem,hc]
theorem Gx (c:UInt8):decide (0≤ie c [32,9,10,13] 0)=ik c:=by
 have:∀n,n<256→decide (0≤ie (UInt8.ofNat n) [32,9,10,13] 0)=ik (UInt8.ofNat n):=by decide +kernel
 have h:=this c.toNat c.toNat_lt
 simpa using h
def IP (s:List UInt8) (a:Nat):Bool:=match s[a]? with
 |some c=>ik c
 |none=>false
theorem C44 (s:List UInt8) (a:Nat) (bad e:Int) (id:Nat) (m:IM) (hm:m.get id=rdP s a bad e):uz id m=some (.normal,[.pB id 0,.bool (IP s a)],[],m):=by
 unfold IP
 cases hs:s[a]? with
 |none =>
  have hge:=List.getElem?_eq_none_iff.1 hs
  have c1:¬(a:Int)<(s.length:Int):=by omega
  simp[uz,go_sem,eD hm,gC hm,c1]
 |some c =>
  have hlt:=bL hs
  have c1:(a:Int)<(s.length:Int):=by omega
  have hc:=fun (K2:IV→IM→Option LR)=>af (C9 [32,9,10,13] c m) (by simp[go_sem]) K2
  have hb:=Gx c
  simp[uz,go_sem,eD hm,gC hm,c1,aE (xg hs),hc,hb]
theorem L44 (s:List UInt8) (hs:s.length≤1099511627776) (bad e:Int) (id:Nat):∀(k a:Nat) (m:IM),s.length<a+k→a≤s.length→m.get id=rdP s a bad e →
  zd id m=some (.exit 0,[],[],az m id (rdP s (rS s k a:Nat) bad e)):=by
 intro k
 induction k with
 |zero=>intro a m h;omega
 |succ k ih =>
  intro a m hk ha hm
  have hC:=C44 s a bad e id m hm
  rw[BI]
  unfold rS
  unfold IP at hC
  cases hq:s[a]? with
  |none =>
   rw[hq] at hC
   simp[vl,go_sem,hC,iJ hm]
  |some c =>
   have hlt:=bL hq
   rw[hq] at hC
   simp only at hC ⊢
   cases hb:ik c with
   |false =>
    rw[hb] at hC
    simp[vl,go_sem,hC,iJ hm]
   |true =>
    rw[hb] at hC
    have hw:IntKind.i64.wrap ((a:Int)+1)=((a+1:Nat):Int):=by rw[w64 (by omega) (by omega)];rfl
    have h:=ih (a+1) (az m id (rdP s (a+1:Nat) bad e)) (by omega) (by omega) (bO hm)
    rw[aj] at h
    generalize hj:a+1=j at *
    simp[vl,go_sem,hC,eD hm,wE hm,hw]
    rw[xw]
    exact h
theorem Cw (s:List UInt8) (hs:s.length≤1099511627776) (a:Nat) (ha:a≤s.length) (bad e:Int) (id:Nat) (m:IM) (hm:m.get id=rdP s a bad e) :
  cw (.f 44) [.pB id 0] m=some (.tup [],az m id (rdP s (blk s a:Nat) bad e)):=by
 apply CX
 have h:=L44 s hs bad e id (s.length+1-a) a m (by omega) ha hm
 simp[F44,go_sem,h,blk]
theorem yK (s:List UInt8):∀(k a:Nat),a≤s.length→a≤rS s k a∧rS s k a≤s.length
 |0,a,h=>⟨Nat.le_refl _,h⟩
 |k+1,a,h=>by
  unfold rS
  cases hq:s[a]? with
  |none=>exact⟨Nat.le_refl _,h⟩
  |some c =>
   simp only
   split
   ·have:=yK s k (a+1) (bL hq);omega
   ·exact⟨Nat.le_refl _,h⟩
theorem dO {s:List UInt8}{a:Nat}(h:a≤s.length):a≤blk s a∧blk s a≤s.length:=yK s _ a h
inductive Rd (α:Type) where
 |ok (x:α) (a:Nat)
 |err (b:Nat) (c:Int)
def rb (c:UInt8):Int:=if 15<ie c [48,49,50,51,52,53,54,55,56,57,97,98,99,100,101,102,65,66,67,68,69,70] 0 then ie c [48,49,50,51,52,53,54,55,56,57,97,98,99,100,101,102,65,66,67,68,69,70] 0-6 else ie c [48,49,50,51,52,53,54,55,56,57,97,98,99,100,101,102,65,66,67,68,69,70] 0
theorem DQ (c:UInt8):-1≤rb c∧rb c≤15:=by
 have:∀n,n<256→-1≤rb (UInt8.ofNat n)∧rb (UInt8.ofNat n)≤15:=by decide +kernel
 have h:=this c.toNat c.toNat_lt
 simpa using h
def gP (s:List UInt8):Nat→Nat→Int→Rd Int
 |0,a,n=>.ok n a
 |k+1,a,n=>match s[a]? with
  |some c=>if rb c<0 then .err a 19 else gP s k (a+1) (16*n+rb c)
  |none=>.err a 19
theorem K5 (s:List UInt8) (a:Nat) (bad e n n1:Int) (id:Nat) (m:IM) (hm:m.get id=rdP s a bad e) :
  oR id n (-1) n1 m=some (.normal,[.pB id 0,.int .i64 n,.int .i64 (match s[a]? with | some c=>ie c [48,49,50,51,52,53,54,55,56,57,97,98,99,100,101,102,65,66,67,68,69,70] 0 | none=>-1),.int .i64 n1],[],m):=by
 cases hs:s[a]? with
 |none =>
  have hge:=List.getElem?_eq_none_iff.1 hs
  have c1:¬(a:Int)<(s.length:Int):=by omega
  simp[oR,go_sem,eD hm,gC hm,c1]
 |some c =>
  have hlt:=bL hs
  have c1:(a:Int)<(s.length:Int):=by omega
  have hc:=fun (K2:IV→IM→Option LR)=>af (C9 [48,49,50,51,52,53,54,55,56,57,97,98,99,100,101,102,65,66,67,68,69,70] c m) (by simp[go_sem]) K2
  simp[oR,go_sem,eD hm,gC hm,c1,aE (xg hs),hc]
theorem FM (n d n1:Int) (hd:-10≤d∧d≤100) (id:Nat) (m:IM):ua id n d n1 m=some (.normal,[.pB id 0,.int .i64 n,.int .i64 (if 15<d then d-6 else d),.int .i64 n1],[],m):=by
 have hw:IntKind.i64.wrap (d-6)=d-6:=w64 (by omega) (by omega)
 by_cases h:15<d<;>simp[ua,go_sem,h,hw]
theorem K0 (s:List UInt8) (hs:s.length≤1099511627776) (id:Nat):∀(k i:Nat) (a:Nat) (n bad:Int) (m:IM),4=i+k→a≤s.length→0≤n→n<16^i→m.get id=rdP s a bad 0 →
  match gP s k a n with
  |.ok x a'=>qq id n i m=some (.exit 0,[.int .i64 x],[],az m id (rdP s a' bad 0))∧a'=a+k∧a'≤s.length∧0≤x∧x<65536
  |.err b c=>qq id n i m=some (.ret,[.int .i64 0],[],az m id (rdP s b b c)):=by
 intro k
 induction k with
 |zero =>
  intro i a n bad m hk ha hn0 hn1 hm
  have hi:i=4:=by omega
  subst hi
  simp only[gP]
  refine⟨?_,rfl,ha,hn0,by simpa using hn1⟩
  rw[sA]
  simp[lQ,go_sem,iJ hm]
 |succ k ih =>
  intro i a n bad m hk ha hn0 hn1 hm
  have c1:(i:Int)<4:=by omega
  have hC:=K5 s a bad 0 n i id m hm
  have hp:(16:Int)^i≤16^3:=by
   have:i≤3:=by omega
   have h:=Nat.pow_le_pow_right (n:=16) (by omega) this
   exact_mod_cast h
  rw[sA]
  have hwr:=km s a bad 0 id m hm
  have hcw:=fun (K2:IV→IM→Option (St⊕LR))=>af hwr (by simp[go_sem]) K2
  simp only[iM,if_true,gY] at hcw
  unfold gP
  cases hq:s[a]? with
  |none =>
   rw[hq] at hC
   simp only at hC ⊢
   have hCb:=FM n (-1) i (by omega) id m
   simp[lQ,go_sem,c1,hC,hCb,hcw]
  |some c =>
   rw[hq] at hC
   simp only at hC ⊢
   have hlt:=bL hq
   have hx:=DQ c
   have hbd:∀c:UInt8,-10≤ie c [48,49,50,51,52,53,54,55,56,57,97,98,99,100,101,102,65,66,67,68,69,70] 0∧ie c [48,49,50,51,52,53,54,55,56,57,97,98,99,100,101,102,65,66,67,68,69,70] 0≤100:=by
    intro c
    have:∀n,n<256→-10≤ie (UInt8.ofNat n) [48,49,50,51,52,53,54,55,56,57,97,98,99,100,101,102,65,66,67,68,69,70] 0∧ie (UInt8.ofNat n) [48,49,50,51,52,53,54,55,56,57,97,98,99,100,101,102,65,66,67,68,69,70] 0≤100:=by decide +kernel
    have h:=this c.toNat c.toNat_lt
    simpa using h
   have hCb:=FM n _ i (hbd c) id m
   rw[show (if 15<ie c [48,49,50,51,52,53,54,55,56,57,97,98,99,100,101,102,65,66,67,68,69,70] 0 then ie c [48,49,50,51,52,53,54,55,56,57,97,98,99,100,101,102,65,66,67,68,69,70] 0-6 else ie c [48,49,50,51,52,53,54,55,56,57,97,98,99,100,101,102,65,66,67,68,69,70] 0)=rb c from rfl] at hCb
   generalize ie c [48,49,50,51,52,53,54,55,56,57,97,98,99,100,101,102,65,66,67,68,69,70] 0=D at *
   generalize rb c=d at *
   by_cases h0:d<0
   ·rw[if_pos h0]
    simp[lQ,go_sem,c1,hC,hCb,hcw,h0]
   ·rw[if_neg h0]
    have hpow:(16:Int)^(i+1)=16*16^i:=by rw[Int.pow_succ];omega
    have h:=ih (i+1) (a+1) (16*n+d) bad (az m id (rdP s (a+1:Nat) bad 0)) (by omega) (by omega) (by omega) (by omega) (bO hm)
    simp only[aj] at h
    have hw1:IntKind.i64.wrap ((a:Int)+1)=((a+1:Nat):Int):=by rw[w64 (by omega) (by omega)];rfl
    have hw2:IntKind.i64.wrap ((i:Int)+1)=((i+1:Nat):Int):=by rw[w64 (by omega) (by omega)];rfl
    have hw3:IntKind.i64.wrap (16*n)=16*n:=w64 (by omega) (by omega)
    have hw4:IntKind.i64.wrap (16*n+d)=16*n+d:=w64 (by omega) (by omega)
    have step:nxt uv (lQ id n i m)=qq id (16*n+d) ((i+1:Nat):Int) (az m id (rdP s (a+1:Nat) bad 0)):=by
     generalize hj:a+1=j at *
     generalize hi':i+1=i' at *
     simp[lQ,go_sem,c1,hC,hCb,h0,eD hm,wE hm,hw1,hw2,hw3,hw4]
     rfl
    rw[step]
    cases hx2:gP s k (a+1) (16*n+d) with
    |ok x a' =>
     rw[hx2] at h
     simp only at h ⊢
     exact⟨h.1,by omega,h.2.2.1,h.2.2.2⟩
    |err b c=>rw[hx2] at h;exact h
theorem Bw (s:List UInt8) (hs:s.length≤1099511627776) (id:Nat) (a:Nat) (bad:Int) (m:IM) (ha:a≤s.length) (hm:m.get id=rdP s a bad 0) :
  match gP s 4 a 0 with
  |.ok x a'=>cw (.f 121) [.pB id 0] m=some (.int .i64 x,az m id (rdP s a' bad 0))∧a'=a+4∧a'≤s.length∧0≤x∧x<65536
  |.err b c=>cw (.f 121) [.pB id 0] m=some (.int .i64 0,az m id (rdP s b b c)):=by
 have h:=K0 s hs id 4 0 a 0 bad m rfl ha (by omega) (by simp) hm
 rw[show ((0:Nat):Int)=0 from rfl] at h
 cases hx:gP s 4 a 0 with
 |ok x a' =>
  rw[hx] at h
  simp only at h ⊢
  refine⟨?_,h.2⟩
  apply sV
  simp[Ed,go_sem,h.1]
 |err b c =>
  rw[hx] at h
  simp only at h ⊢
  apply sV
  simp[Ed,go_sem,h]
end Go.Idl
namespace Go.Idl
attribute [local go_sem] cn cu gI gS bn bU cC cU cV c6 dd c7 cf bG ct bC bF da cv bB dh bD aN aX aO aM aA dm dc cm cg dj cZ bY eC dk bZ dg cY c9 de cx cd ck bA b8 c8 bw aY bE bu cr aL aB aP ay cP cO bo aZ bp bP bq bR bt bQ List.flatMap_cons List.flatMap_nil
def il (s:List UInt8):List UInt8→Nat→Rd Unit
 |[],a=>.ok () a
 |c::r,a=>if s[a]?=some c then il s r (a+1) else .err a 19
def bxV (k:Int) (t:List UInt8):BObj:=.cells [.int .i64 k,.str t,.nilSlice,.nilSlice] [.any,.any,.any,.any]
def bxW (k:Int) (t:List UInt8):BObj:=.cells [.int .i64 k,.str t,.nilSlice,.nilSlice] [.any,.any,.own 1,.own 4]
theorem Lh (s:List UInt8) (hs:s.length≤1099511627776) (w:List UInt8) (hw:∀k (h:k<w.length),Utf8.decode ⟨⟨w⟩⟩ k=((w[k].toNat,1):Nat×Nat)) (vk:Int) (vt:List UInt8) (id:Nat) (bad:Int):∀(j k a:Nat) (m:IM),w.length=k+j→a≤s.length→m.get id=rdP s a bad 0 →
  match il s (w.drop k) a with
  |.ok _ a'=>wD id vk vt .nilSlice .nilSlice 0 [] .nilSlice .nilSlice w k m=some (.exit 0,[],[bxV vk vt,bxW 0 []],az m id (rdP s a' bad 0))∧a'≤s.length
  |.err b c=>wD id vk vt .nilSlice .nilSlice 0 [] .nilSlice .nilSlice w k m=some (.ret,[],[bxV 0 []],az m id (rdP s b b c)):=by
 intro j
 induction j with
 |zero =>
  intro k a m hk ha hm
  have e:w.drop k=[]:=List.drop_eq_nil_iff.2 (by omega)
  have c1:¬k<w.length:=by omega
  rw[e]
  simp only[il]
  refine⟨?_,ha⟩
  rw[wR]
  simp[sG,uk,go_sem,c1,iJ hm,bxV,bxW]
 |succ j ih =>
  intro k a m hk ha hm
  have hlt:k<w.length:=by omega
  have hd:=hw k hlt
  rw[List.drop_eq_getElem_cons hlt]
  have hsk:=jU s a bad 0 w[k] id m (by omega) hm
  have hu:IntKind.u8.wrap ((w[k].toNat:Nat):Int)=(w[k].toNat:Int):=w8 (by omega) (by have:=w[k].toNat_lt;omega)
  generalize w[k]=c at *
  rw[wR]
  unfold il
  by_cases g:s[a]?=some c
  ·rw[if_pos ⟨rfl,g⟩] at hsk
   rw[if_pos g]
   have hcc:=fun (K2:IV→IM→Option (St⊕LR))=>af hsk (by simp[go_sem]) K2
   have hlt2:=bL g
   have h:=ih (k+1) (a+1) (az m id (rdP s (a+1:Nat) bad 0)) (by omega) (by omega) (bO hm)
   simp only[aj] at h
   have step:nxt yV (sG id vk vt .nilSlice .nilSlice 0 [] .nilSlice .nilSlice w k m)=wD id vk vt .nilSlice .nilSlice 0 [] .nilSlice .nilSlice w (k+1) (az m id (rdP s (a+1:Nat) bad 0)):=by
    generalize hj:a+1=j' at *
    simp[sG,uk,go_sem,hlt,hd,evC,POp.ev,hu,hcc]
    rfl
   rw[step]
   exact h
  ·rw[if_neg (fun h=>g h.2)] at hsk
   rw[if_neg g]
   have hcc:=fun (K2:IV→IM→Option (St⊕LR))=>af hsk (by simp[go_sem]) K2
   have hwr:=km s a bad 0 id m hm
   have hcw:=fun (K2:IV→IM→Option (St⊕LR))=>af hwr (by simp[go_sem]) K2
   simp only[iM,if_true,gY] at hcw
   simp[sG,uk,go_sem,hlt,hd,evC,POp.ev,hu,hcc,hcw,ah,bxV]
theorem H6 (s:List UInt8) (hs:s.length≤1099511627776) (w:List UInt8) (hw:∀k (h:k<w.length),Utf8.decode ⟨⟨w⟩⟩ k=((w[k].toNat,1):Nat×Nat)) (vk:Int) (vt:List UInt8) (id:Nat) (bad:Int) (a:Nat) (m:IM) (ha:a≤s.length) (hm:m.get id=rdP s a bad 0) :
  match il s w a with
  |.ok _ a'=>cw (.f 70) [.pB id 0,.str w,.agg [.int .i64 vk,.str vt,.nilSlice,.nilSlice]] m=some (.agg [.int .i64 vk,.str vt,.nilSlice,.nilSlice],az m id (rdP s a' bad 0))∧a'≤s.length
  |.err b c=>cw (.f 70) [.pB id 0,.str w,.agg [.int .i64 vk,.str vt,.nilSlice,.nilSlice]] m=some (gY,az m id (rdP s b b c)):=by
 have h:=Lh s hs w hw vk vt id bad w.length 0 a m (by omega) ha hm
 rw[List.drop_zero] at h
 cases hx:il s w a with
 |ok x a' =>
  rw[hx] at h
  refine⟨?_,h.2⟩
  apply wT
  simp[F70,go_sem,h.1,ah,bxV,bxW]
 |err b c =>
  rw[hx] at h
  simp only at h
  apply wT
  simp[F70,go_sem,h,ah,bxV,gY]
def shT:List (UInt8×UInt8):=[(34,34),(92,92),(47,47),(98,8),(102,12),(110,10),(114,13),(116,9)]
def wB (l:List (UInt8×UInt8)) (c:Option UInt8):Option UInt8:=match l with
 |[]=>none
 |p::r=>if c=some p.1 then some p.2 else wB r c
theorem F5:∀i,i<8→POp.ev (.idxArr 8 true 2) [.agg [.int .u8 34,.int .u8 34,.int .u8 92,.int .u8 92,.int .u8 47,.int .u8 47,.int .u8 98,.int .u8 8,.int .u8 102,.int .u8 12,.int .u8 110,.int .u8 10,.int .u8 114,.int .u8 13,.int .u8 116,.int .u8 9],.int .i64 (i:Nat)]=some (.agg [.int .u8 ((shT.getD i (0,0)).1.toNat:Int),.int .u8 ((shT.getD i (0,0)).2.toNat:Int)]):=by
 intro i hi
 rcases i with _ | _ | _ | _ | _ | _ | _ | _ | i<;>first | rfl | omega
theorem Ey:∀i,i<8→(Utf8.encode (IntKind.i32.wrap ((shT.getD i (0,0)).2.toNat:Int))).data.toList=[(shT.getD i (0,0)).2]:=by
 intro i hi
 rcases i with _ | _ | _ | _ | _ | _ | _ | _ | i<;>first | decide | omega
theorem CJ (i:Nat) (hi:i<8):shT.drop i=shT.getD i (0,0)::shT.drop (i+1):=by
 rcases i with _ | _ | _ | _ | _ | _ | _ | _ | i<;>first | rfl | omega
theorem L98 (s:List UInt8) (hs:s.length≤1099511627776) (id:Nat) (bad from_:Int) (a:Nat) (m:IM) (ha:a≤s.length) (hm:m.get id=rdP s a bad 0):∀(j i:Nat),8=i+j →
  zx id from_ 34 34 92 92 47 47 98 8 102 12 110 10 114 13 116 9 i m=match wB (shT.drop i) s[a]? with
   |some d=>some (.ret,[.str [d]],[],az m id (rdP s (a+1:Nat) bad 0))
   |none=>some (.exit 0,[.pB id 0,.int .i64 from_],[],m):=by
 intro j
 induction j with
 |zero =>
  intro i hk
  have:i=8:=by omega
  subst this
  rw[uU]
  simp[sR,go_sem,shT,wB]
 |succ j ih =>
  intro i hk
  have hi:i<8:=by omega
  have c1:(i:Int)<8:=by omega
  have hat:=F5 i hi
  have hen:=Ey i hi
  rw[CJ i hi]
  have hsk:=jU s a bad 0 (shT.getD i (0,0)).1 id m (by omega) hm
  have hw2:IntKind.i64.wrap ((i:Int)+1)=((i+1:Nat):Int):=by rw[w64 (by omega) (by omega)];rfl
  have h:=ih (i+1) (by omega)
  unfold wB
  rw[uU]
  generalize shT.getD i (0,0)=p at *
  obtain⟨x,y⟩:=p
  simp only at *
  by_cases g:s[a]?=some x
  ·rw[if_pos ⟨trivial,g⟩] at hsk
   rw[if_pos g]
   have hcc:=fun (K2:IV→IM→Option (St⊕LR))=>af hsk (by simp[go_sem]) K2
   simp only[sR,go_sem,c1,decide_true,if_true,aE hat,hcc,hen]
  ·rw[if_neg (fun h=>g h.2)] at hsk
   rw[if_neg g]
   have hcc:=fun (K2:IV→IM→Option (St⊕LR))=>af hsk (by simp[go_sem]) K2
   have step:nxt zs (sR id from_ 34 34 92 92 47 47 98 8 102 12 110 10 114 13 116 9 i m)=zx id from_ 34 34 92 92 47 47 98 8 102 12 110 10 114 13 116 9 (i+1:Nat) m:=by
    generalize hj:i+1=i' at *
    simp only[sR,go_sem,c1,decide_true,if_true,aE hat,hcc,hw2,Bool.false_eq_true,if_false]
    rfl
   rw[step]
   exact h
end Go.Idl
namespace Go.Idl
attribute [local go_sem] cn cu gI gS bn bU cC cU cV c6 dd c7 cf bG ct bC bF da cv bB dh bD aN aX aO aM aA dm dc cm cg dj cZ bY eC dk bZ dg cY c9 de cx cd ck bA b8 c8 bw aY bE bu cr aL aB aP ay cP cO bo aZ bp bP bq bR bt bQ List.flatMap_cons List.flatMap_nil
attribute [local go_sem] oA gA vA wA nA fA dA eA oV oW oN oD oF IFn.call ICode.run aD IOp.run IOp.run0 gate IK.ok aG cE OTag.hits IK.run Arg.rd look au rdAll POp.ev dp fc fw fe fD fx fu fI ft fq fH fj bX fE fb bj St.put lkSlot lkL lkB lkC an aV IK.link bh bM St.drop St.capAt St.owner linkOf bV bb bI IV.refsDeep IV.refsDeep.go IV.refs IV.refs.go al IV.plain bN aq cH aT IV.cells IV.isU IV.isL cz cD over dn cut eqS aH bnd dN dW cX du dt bS aa aF dV dK aJ aC dy cy aK uqB aS St.head cN cQ bK cS
theorem mu (n:Nat) (h:n≤2147483647) (m:IM):cw (.f 39) [.int .i64 (n:Int)] m=some (.str (Utf8.encode n).data.toList,m):=by
 unfold cw;rw[bf p39 f39]
 simp (disch:=omega) [i39,go_sem,w32]
def vb (n:Int):List UInt8:=(Utf8.encode n.toNat).data.toList
def mT (s:List UInt8) (a:Nat):Rd (List UInt8) :=
 match wB shT s[a]? with
 |some d=>.ok [d] (a+1)
 |none=>if s[a]?=some 117 then (match gP s 4 (a+1) 0 with
  |.err b c=>.err b c
  |.ok n a1=>if bg n then .ok (vb n) a1 else if 56320≤n∨¬(s[a1]?=some 92∧s[a1+1]?=some 117) then .err (a-1) 19 else (match gP s 4 (a1+2) 0 with
   |.err b c=>.err b c
   |.ok k a2=>if k<56320∨57343<k then .err (a-1) 19 else .ok (vb (65536+(n-55296)*1024+k-56320)) a2)) else .err a 19
theorem AN (t:List UInt8) (c d:UInt8) (m:IM):cw (.f 122) [.str t,.str [c,d]] m=some (.bool (decide (t[0]?=some c∧t[1]?=some d)),m):=by
 unfold cw;rw[bf p122 f122]
 match t with
 |[]=>simp[i122,go_sem]
 |[x] =>
  simp[i122,go_sem]
 |x::y::t =>
  have g1:(2:Int)≤((t.length+1+1:Nat):Int):=by omega
  by_cases h:x=c
  ·subst h
   by_cases h2:y=d
   ·subst h2;simp[-Int.natCast_add,i122,go_sem,g1]
   ·have h':(y==d)=false:=by simpa using h2
    simp[-Int.natCast_add,i122,go_sem,g1,h2,h']
  ·have h':(x==c)=false:=by simpa using h
   simp[-Int.natCast_add,i122,go_sem,g1,h,h']
theorem C5 (t:List UInt8) (c d:UInt8) (m:IM):cw (.f 99) [.str t,.str [c,d]] m=some (.bool (decide (t[0]?=some c∧t[1]?=some d)),m):=by
 unfold cw;rw[bf p99 f99]
 have h:=AN t c d m
 unfold cw at h
 simp[i99,go_sem,h]
theorem GM (s:List UInt8) (a:Nat) (h:a≤s.length):POp.ev (.sliceStr true false) [.str s,.int .i64 (a:Int)]=some (.str (s.drop a)):=by
 have c2:(a:Int)≤(s.length:Int):=by omega
 have c3:(0:Int)≤(a:Int):=by omega
 have htk:(s.drop a).take (s.length-a)=s.drop a:=List.take_of_length_le (by simp)
 simp[POp.ev,dW,dN,bnd,c2,c3,htk]
theorem JK (s:List UInt8) (a bad from_ n:Int) (id:Nat) (m:IM) (hm:m.get id=rdP s a bad 0):pW id from_ n m=some (.normal,[.pB id 0,.int .i64 from_,.int .i64 n,.bool (bg n)],[],m):=by
 have hcc:=fun (K2:IV→IM→Option LR)=>af (Hx n m) (by simp[go_sem]) K2
 simp[pW,go_sem,gB hm,hcc]
theorem Kc (s:List UInt8) (a:Nat) (ha:a≤s.length) (bad from_ n:Int) (id:Nat) (m:IM) (hm:m.get id=rdP s a bad 0):tC id from_ n m=some (.normal,[.pB id 0,.int .i64 from_,.int .i64 n,.bool (decide (56320≤n∨¬(s[a]?=some 92∧s[a+1]?=some 117)))],[],m):=by
 by_cases h:56320≤n
 ·simp[tC,go_sem,h]
 ·have hcc:=fun (K2:IV→IM→Option LR)=>af (C5 (s.drop a) 92 117 m) (by simp[go_sem]) K2
  rw[List.getElem?_drop,List.getElem?_drop,Nat.add_zero] at hcc
  simp only[tC,go_sem,gC hm,eD hm,aE (GM s a ha),hcc]
  simp[h,-not_and]
theorem Jy (s:List UInt8) (a bad from_ n k:Int) (id:Nat) (m:IM) (hm:m.get id=rdP s a bad 0):p0 id from_ n k m=some (.normal,[.pB id 0,.int .i64 from_,.int .i64 n,.int .i64 k,.bool (decide (k<56320∨57343<k))],[],m):=by
 by_cases h:k<56320<;>by_cases h2:57343<k<;>simp[p0,go_sem,gB hm,h,h2]
theorem Jm (s:List UInt8) (a bad e from_ n k:Int) (he:e≠0) (id:Nat) (m:IM) (hm:m.get id=rdP s a bad e):p0 id from_ n k m=some (.normal,[.pB id 0,.int .i64 from_,.int .i64 n,.int .i64 k,.bool false],[],m):=by
 have h':(e==0)=false:=by simpa using he
 simp[p0,go_sem,gB hm,h',he]
end Go.Idl
namespace Go.Idl
attribute [local go_sem] cn cu gI gS bn bU cC cU cV c6 dd c7 cf bG ct bC bF da cv bB dh bD aN aX aO aM aA dm dc cm cg dj cZ bY eC dk bZ dg cY c9 de cx cd ck bA b8 c8 bw aY bE bu cr aL aB aP ay cP cO bo aZ bp bP bq bR bt bQ List.flatMap_cons List.flatMap_nil
theorem qy (s:List UInt8):∀(k a:Nat) (n:Int) (b:Nat) (c:Int),gP s k a n=.err b c→c=19
 |0,_,_,_,_,h=>by cases h
 |k+1,a,n,b,c,h=>by
  unfold gP at h
  cases hq:s[a]? with
  |none=>rw[hq] at h;cases h;rfl
  |some x =>
   rw[hq] at h
   simp only at h
   split at h
   ·cases h;rfl
   ·exact qy s k _ _ b c h
theorem tF (s:List UInt8):∀(k a:Nat) (n:Int) (b:Nat) (c:Int),a≤s.length→gP s k a n=.err b c→b≤s.length
 |0,_,_,_,_,_,h=>by cases h
 |k+1,a,n,b,c,ha,h=>by
  unfold gP at h
  cases hq:s[a]? with
  |none=>rw[hq] at h;cases h;exact ha
  |some x =>
   rw[hq] at h
   simp only at h
   split at h
   ·cases h;exact ha
   ·exact tF s k _ _ b c (bL hq) h
theorem uM (n:Int):(Utf8.encode n).data.toList.length≤4:=by
 unfold Utf8.encode
 simp only
 generalize (if Utf8.valid n=true then n.toNat else Utf8.runeError)=c
 by_cases h1:c<128
 ·simp[h1]
 ·by_cases h2:c<2048
  ·simp[h1,h2]
  ·by_cases h3:c<65536
   ·simp[h1,h2,h3]
   ·simp[h1,h2,h3]
set_option maxHeartbeats 1000000 in
set_option maxRecDepth 100000 in
theorem J9 (s:List UInt8) (hs:s.length≤1099511627776) (id:Nat) (bad:Int) (a:Nat) (m:IM) (ha:a≤s.length) (ha1:1≤a) (hm:m.get id=rdP s a bad 0) :
  match mT s a with
  |.ok x a'=>cw (.f 98) [.pB id 0] m=some (.str x,az m id (rdP s a' bad 0))∧a'≤s.length∧a<a'
  |.err b c=>c=19∧∃(t:List UInt8) (a':Nat),t.length≤4∧a'≤s.length∧cw (.f 98) [.pB id 0] m=some (.str t,az m id (rdP s a' b c)):=by
 have hL:=L98 s hs id bad ((a-1:Nat):Int) a m ha hm 8 0 rfl
 rw[List.drop_zero,show ((0:Nat):Int)=0 from rfl] at hL
 have hw:IntKind.i64.wrap ((a:Int)-1)=((a-1:Nat):Int):=by rw[w64 (by omega) (by omega)];omega
 unfold mT
 cases hE:wB shT s[a]? with
 |some d =>
  rw[hE] at hL
  have hlt:a<s.length:=by
   cases hq:s[a]? with
   |none=>rw[hq] at hE;cases hE
   |some c=>exact bL hq
  refine⟨?_,hlt,Nat.lt_succ_self a⟩
  apply g9
  simp[F98,go_sem,eD hm,hw,hL]
 |none =>
  rw[hE] at hL
  simp only at hL ⊢
  have hsk:=jU s a bad 0 117 id m (by omega) hm
  by_cases g:s[a]?=some 117
  ·rw[if_pos ⟨rfl,g⟩] at hsk
   rw[if_pos g]
   have hlt:=bL g
   have hsc:=fun (K2:IV→IM→Option (IV×IM))=>af hsk (by simp[go_sem]) K2
   rw[show ((117:UInt8).toNat:Int)=117 from rfl] at hsc
   have hm1:(az m id (rdP s (a+1:Nat) bad 0)).get id=rdP s (a+1:Nat) bad 0:=bO hm
   have hx:=Bw s hs id (a+1) bad _ hlt hm1
   cases hX:gP s 4 (a+1) 0 with
   |err b c =>
    rw[hX] at hx
    simp only[aj] at hx ⊢
    have hc:=qy _ _ _ _ _ _ hX
    have hble:=tF _ _ _ _ _ _ hlt hX
    subst hc
    refine⟨rfl,(Utf8.encode ((0:Nat):Int)).data.toList,b,uM _,hble,?_⟩
    ·apply g9
     have hxc:=fun (K2:IV→IM→Option (IV×IM))=>af hx (by simp[go_sem]) K2
     have hm2:(az m id (rdP s b b 19)).get id=rdP s b b 19:=bO hm
     have h39:=mu 0 (by omega) (az m id (rdP s b b 19))
     have h39c:=fun (K2:IV→IM→Option (IV×IM))=>af h39 (by simp[go_sem]) K2
     rw[show ((0:Nat):Int)=0 from rfl] at h39c
     have hC0:pW id ((a-1:Nat):Int) 0 (az m id (rdP s b b 19))=some (.normal,[.pB id 0,.int .i64 ((a-1:Nat):Int),.int .i64 0,.bool true],[],az m id (rdP s b b 19)):=by
      simp[pW,go_sem,gB hm2]
     simp only[F98,go_sem,eD hm,hw,hL,hsc,hxc,hC0,h39c,if_true,Bool.not_true,Bool.false_eq_true,if_false]
     try simp[go_sem]
   |ok n a1 =>
    rw[hX] at hx
    simp only[aj] at hx ⊢
    obtain⟨hx,ha1',ha1l,hn0,hn1⟩:=hx
    have hxc:=fun (K2:IV→IM→Option (IV×IM))=>af hx (by simp[go_sem]) K2
    have hm2:(az m id (rdP s a1 bad 0)).get id=rdP s a1 bad 0:=bO hm
    have hC0:=JK s a1 bad ((a-1:Nat):Int) n id _ hm2
    by_cases gp:bg n=true
    ·rw[if_pos gp]
     refine⟨?_,ha1l,by omega⟩
     apply g9
     have h39:=mu n.toNat (by omega) (az m id (rdP s a1 bad 0))
     rw[show ((n.toNat:Nat):Int)=n by omega] at h39
     have h39c:=fun (K2:IV→IM→Option (IV×IM))=>af h39 (by simp[go_sem]) K2
     rw[gp] at hC0
     simp only[F98,go_sem,eD hm,hw,hL,hsc,hxc,hC0,h39c,if_true,Bool.not_true,Bool.false_eq_true,if_false,vb]
     simp[go_sem,show ((n.toNat:Nat):Int)=n by omega]
    ·rw[if_neg gp]
     have gp':bg n=false:=by simpa using gp
     have hC1:=Kc s a1 ha1l bad ((a-1:Nat):Int) n id _ hm2
     rw[gp'] at hC0
     by_cases g1:56320≤n∨¬(s[a1]?=some 92∧s[a1+1]?=some 117)
     ·rw[if_pos g1]
      rw[decide_eq_true g1] at hC1
      have hf:=qX s a1 bad 0 ((a-1:Nat):Int) 19 id _ hm2
      simp only[iM,if_true,gY,aj] at hf
      have hfc:=fun (K2:IV→IM→Option (IV×IM))=>af hf (by simp[go_sem]) K2
      refine⟨rfl,[],a1,by simp,ha1l,?_⟩
      apply g9
      simp only[F98,go_sem,eD hm,hw,hL,hsc,hxc,hC0,hC1,hfc,if_true,Bool.not_true,Bool.false_eq_true,if_false]
      try simp[go_sem]
     ·rw[if_neg g1]
      rw[decide_eq_false g1] at hC1
      have hw2:IntKind.i64.wrap ((a1:Int)+2)=((a1+2:Nat):Int):=by rw[w64 (by omega) (by omega)];rfl
      have h2l:a1+2≤s.length:=by
       have:s[a1+1]?=some 117:=by
        by_cases q:s[a1]?=some 92∧s[a1+1]?=some 117
        ·exact q.2
        ·exact absurd (.inr q) g1
       have:=bL this
       omega
      have hn2:55296≤n:=by
       have hlt2:n<56320:=by
        by_cases q:56320≤n
        ·exact absurd (.inl q) g1
        ·omega
       by_cases q:55296≤n
       ·exact q
       ·exfalso
        have e1:n<55296:=by omega
        have e2:n≤1114111:=by omega
        simp[bg,hn0,e1,e2] at gp'
      have hn3:n<56320:=by
       by_cases q:56320≤n
       ·exact absurd (.inl q) g1
       ·omega
      have hsa:=fun (K:IM→Option (IV×IM))=>wE hm2 ((a1+2:Nat):Int) K
      simp only[aj] at hsa
      have hm3:(az m id (rdP s (a1+2:Nat) bad 0)).get id=rdP s (a1+2:Nat) bad 0:=bO hm
      have hy:=Bw s hs id (a1+2) bad _ h2l hm3
      have hp10:(2:Int)^Nat.min (Int.toNat 10) IntKind.i64.bits=1024:=by decide
      have hp10':(2:Int)^Nat.min 10 IntKind.i64.bits=1024:=by decide
      have hwa:IntKind.i64.wrap (n-55296)=n-55296:=w64 (by omega) (by omega)
      have hwb:IntKind.i64.wrap ((n-55296)*1024)=(n-55296)*1024:=w64 (by omega) (by omega)
      have hwc:IntKind.i64.wrap (65536+(n-55296)*1024)=65536+(n-55296)*1024:=w64 (by omega) (by omega)
      cases hY:gP s 4 (a1+2) 0 with
      |err b c =>
       rw[hY] at hy
       simp only[aj] at hy ⊢
       have hc:=qy _ _ _ _ _ _ hY
       have hble:=tF _ _ _ _ _ _ h2l hY
       subst hc
       have hyc:=fun (K2:IV→IM→Option (IV×IM))=>af hy (by simp[go_sem]) K2
       have hm4:(az m id (rdP s b b 19)).get id=rdP s b b 19:=bO hm
       have hC2:=Jm s b b 19 ((a-1:Nat):Int) n 0 (by omega) id _ hm4
       obtain⟨q,hq⟩:=Int.eq_ofNat_of_zero_le (show 0≤65536+(n-55296)*1024-56320 by omega)
       have hwe:IntKind.i64.wrap (65536+(n-55296)*1024-56320)=(q:Int):=by rw[w64 (by omega) (by omega)];omega
       have h39:=mu q (by omega) (az m id (rdP s b b 19))
       have h39c:=fun (K2:IV→IM→Option (IV×IM))=>af h39 (by simp[go_sem]) K2
       refine⟨rfl,(Utf8.encode (q:Int)).data.toList,b,uM _,hble,?_⟩
       apply g9
       simp only[F98,go_sem,eD hm,eD hm2,hw,hw2,hL,hsc,hxc,hC0,hC1,hsa,hyc,uc,hC2,hwa,if_true,Bool.not_true,Bool.false_eq_true,if_false]
       simp[go_sem,hp10',hwb,hwc,hwe,h39c]
      |ok k a2 =>
       rw[hY] at hy
       simp only[aj] at hy ⊢
       obtain⟨hy,ha2,ha2l,hk0,hk1⟩:=hy
       have hyc:=fun (K2:IV→IM→Option (IV×IM))=>af hy (by simp[go_sem]) K2
       have hm4:(az m id (rdP s a2 bad 0)).get id=rdP s a2 bad 0:=bO hm
       have hC2:=Jy s a2 bad ((a-1:Nat):Int) n k id _ hm4
       have hwd:IntKind.i64.wrap (65536+(n-55296)*1024+k)=65536+(n-55296)*1024+k:=w64 (by omega) (by omega)
       obtain⟨q,hq⟩:=Int.eq_ofNat_of_zero_le (show 0≤65536+(n-55296)*1024+k-56320 by omega)
       have hwe:IntKind.i64.wrap (65536+(n-55296)*1024+k-56320)=(q:Int):=by rw[w64 (by omega) (by omega)];omega
       by_cases g2:k<56320∨57343<k
       ·rw[if_pos g2]
        rw[decide_eq_true g2] at hC2
        have hf:=qX s a2 bad 0 ((a-1:Nat):Int) 19 id _ hm4
        simp only[iM,if_true,gY,aj] at hf
        have hfc:=fun (K2:IV→IM→Option LR)=>af hf (by simp[go_sem]) K2
        have h39:=mu q (by omega) (az m id (rdP s a2 ((a-1:Nat):Int) 19))
        have h39c:=fun (K2:IV→IM→Option (IV×IM))=>af h39 (by simp[go_sem]) K2
        refine⟨rfl,(Utf8.encode (q:Int)).data.toList,a2,uM _,ha2l,?_⟩
        apply g9
        simp only[F98,go_sem,eD hm,eD hm2,hw,hw2,hL,hsc,hxc,hC0,hC1,hsa,hyc,uc,hC2,hfc,hwa,if_true,Bool.not_true,Bool.false_eq_true,if_false]
        simp[go_sem,hp10',hwb,hwc,hwd,hwe,h39c]
       ·rw[if_neg g2]
        rw[decide_eq_false g2] at hC2
        have h39:=mu q (by omega) (az m id (rdP s a2 bad 0))
        have h39c:=fun (K2:IV→IM→Option (IV×IM))=>af h39 (by simp[go_sem]) K2
        refine⟨?_,ha2l,by omega⟩
        apply g9
        simp only[F98,go_sem,eD hm,eD hm2,hw,hw2,hL,hsc,hxc,hC0,hC1,hsa,hyc,uc,hC2,hwa,if_true,Bool.not_true,Bool.false_eq_true,if_false,vb]
        rw[show 65536+(n-55296)*1024+k-56320=((q:Nat):Int) from hq]
        simp[go_sem,hp10',hwb,hwc,hwd,hwe,h39c]
  ·rw[if_neg (fun h=>g h.2)] at hsk
   rw[if_neg g]
   have hsc:=fun (K2:IV→IM→Option (IV×IM))=>af hsk (by simp[go_sem]) K2
   rw[show ((117:UInt8).toNat:Int)=117 from rfl] at hsc
   have hwr:=km s a bad 0 id m hm
   have hcw:=fun (K2:IV→IM→Option (IV×IM))=>af hwr (by simp[go_sem]) K2
   simp only[iM,if_true,gY] at hcw
   refine⟨rfl,[],a,by simp,ha,?_⟩
   apply g9
   simp[F98,go_sem,eD hm,hw,hL,hsc,hcw]
end Go.Idl
namespace Go.Idl
attribute [local go_sem] cn cu gI gS bn bU cC cU cV c6 dd c7 cf bG ct bC bF da cv bB dh bD aN aX aO aM aA dm dc cm cg dj cZ bY eC dk bZ dg cY c9 de cx cd ck bA b8 c8 bw aY bE bu cr aL aB aP ay cP cO bo aZ bp bP bq bR bt bQ List.flatMap_cons List.flatMap_nil
theorem pS {R:Type}(acc x:List UInt8) (h:acc.length+x.length≤ao) (K:IV→Option R):ja (bsl acc) 1 1 (aa x) x.length K=K (bsl (acc++x)):=by
 cases acc with
 |nil =>
  cases x with
  |nil=>simp[bsl,ja,aR,aa]
  |cons b r =>
   have h':r.length+1≤ao:=by simpa using h
   simp[bsl,ja,bn,bU,h']
 |cons b r =>
  have hl:=bW (b::r)
  have hx:bsl (b::r++x)=.sl (aa (b::r)++aa x) ((b::r).length+x.length):=by
   rw[←gw,←List.length_append];rfl
  rw[hx]
  show ja (.sl (aa (b::r)) (b::r).length) 1 1 (aa x) x.length K=_
  generalize (b::r)=q at *
  simp[ja,bU,h,hl]
theorem mP {R:Type}(l:List UInt8) (X:Option R):gq (bsl l) X=X:=kx (ve l) X
theorem rF (s:List UInt8):∀(k a:Nat) (n x:Int) (b:Nat),gP s k a n=.ok x b→a≤b
 |0,a,n,x,b,h=>by cases h;exact Nat.le_refl _
 |k+1,a,n,x,b,h=>by
  unfold gP at h
  cases hq:s[a]? with
  |none=>rw[hq] at h;cases h
  |some c =>
   rw[hq] at h
   simp only at h
   split at h
   ·cases h
   ·have:=rF s k _ _ _ _ h;omega
theorem a6 {α:Type}{b:Nat}{c:Int}{x:α}{a:Nat}(h:(Rd.err b c:Rd α)=.ok x a):False:=by cases h
theorem qA {s:List UInt8}{a:Nat}{x:List UInt8}{a':Nat}(h:mT s a=.ok x a'):a<a':=by
 unfold mT at h
 split at h
 ·obtain⟨_,rfl⟩:=Rd.ok.inj h;omega
 ·split at h
  ·split at h
   ·exact (a6 h).elim
   ·rename_i n a1 hX
    have:=rF _ _ _ _ _ _ hX
    split at h
    ·obtain⟨_,rfl⟩:=Rd.ok.inj h;omega
    ·split at h
     ·exact (a6 h).elim
     ·split at h
      ·exact (a6 h).elim
      ·rename_i k a2 hY
       have:=rF _ _ _ _ _ _ hY
       split at h
       ·exact (a6 h).elim
       ·obtain⟨_,rfl⟩:=Rd.ok.inj h;omega
  ·exact (a6 h).elim
def iv (s:List UInt8):Nat→Nat→List UInt8→Option (Rd (List UInt8))
 |0,_,_=>none
 |n+1,a,acc=>match s[a]? with
  |none=>some (.err a 19)
  |some c=>if c.toNat<32 then some (.err a 19)
   else if c=34 then some (.ok acc (a+1))
   else if c=92 then (match mT s (a+1) with
    |.err b e=>some (.err b e)
    |.ok x a'=>iv s n a' (acc++x))
   else if (ak (s.drop a)).2.1=true then iv s n (a+(ak (s.drop a)).1) (acc++(s.drop a).take (ak (s.drop a)).1)
   else some (.err a 19)
theorem Da (n:Nat):(jb n).length≤4:=by
 unfold jb
 split
 ·simp
 ·split
  ·simp
  ·split<;>simp
set_option maxRecDepth 100000 in
theorem pU {s:List UInt8}{a:Nat}{x:List UInt8}{a':Nat}(h:mT s a=.ok x a'):x.length≤4:=by
 have hN:∀(k a:Nat) (n:Int) (x:Int) (b:Nat),0≤n→gP s k a n=.ok x b→0≤x:=by
  intro k
  induction k with
  |zero=>intro a n x b hn h;cases h;exact hn
  |succ k ih =>
   intro a n x b hn h
   unfold gP at h
   cases hq:s[a]? with
   |none=>rw[hq] at h;cases h
   |some c =>
    rw[hq] at h
    simp only at h
    split at h
    ·cases h
    ·exact ih _ _ _ _ (by omega) h
 have hpt:∀n:Int,bg n=true→(vb n).length≤4:=by
  intro n hn
  unfold vb
  have h0:0≤n:=by
   unfold bg at hn
   simp only[Bool.and_eq_true,decide_eq_true_eq] at hn
   exact hn.1.1
  rw[ox n.toNat (by rw[show ((n.toNat:Nat):Int)=n by omega];exact hn)]
  exact Da _
 unfold mT at h
 split at h
 ·cases h;simp
 ·split at h
  ·split at h
   ·cases h
   ·rename_i n a1 hX
    split at h
    ·rename_i hp
     obtain⟨rfl,rfl⟩:=Rd.ok.inj h
     exact hpt _ hp
    ·split at h
     ·exact (a6 h).elim
     ·rename_i hg
      split at h
      ·cases h
      ·rename_i k a2 hY
       split at h
       ·exact (a6 h).elim
       ·rename_i hk
        obtain⟨rfl,rfl⟩:=Rd.ok.inj h
        have hn0:=hN _ _ _ _ _ (by omega) hX
        have hnp:¬bg n=true:=by assumption
        refine hpt _ ?_
        have h1:n<56320:=by
         by_cases q:56320≤n
         ·exact absurd (.inl q) hg
         ·omega
        have h2:55296≤n:=by
         by_cases q:55296≤n
         ·exact q
         ·exfalso
          apply hnp
          have e1:n<55296:=by omega
          have e2:n≤1114111:=by omega
          simp[bg,hn0,e1,e2]
        have h3:56320≤k∧k≤57343:=by
         constructor
         ·by_cases q:k<56320
          ·exact absurd (.inl q) hk
          ·omega
         ·by_cases q:57343<k
          ·exact absurd (.inr q) hk
          ·omega
        have e1:(0:Int)≤65536+(n-55296)*1024+k-56320:=by omega
        have e2:65536+(n-55296)*1024+k-56320≤1114111:=by omega
        have e3:57343<65536+(n-55296)*1024+k-56320:=by omega
        unfold bg
        rw[decide_eq_true e1,decide_eq_true e2,decide_eq_true e3]
        simp
  ·cases h
theorem Jt (s:List UInt8) (a n:Nat) (h:a+n≤s.length) (hs:s.length≤1099511627776):POp.ev (.sliceStr true true) [.str s,.int .i64 (a:Int),.int .i64 (IntKind.i64.wrap ((a:Int)+(n:Int)))]=some (.str ((s.drop a).take n)):=by
 have hw:IntKind.i64.wrap ((a:Int)+(n:Int))=((a+n:Nat):Int):=by rw[w64 (by omega) (by omega)];rfl
 have c1:((a+n:Nat):Int)≤(s.length:Int):=by omega
 have c2:(a:Int)≤((a+n:Nat):Int):=by omega
 have c3:(0:Int)≤(a:Int):=by omega
 have c4:(0:Int)≤((a+n:Nat):Int):=by omega
 rw[hw]
 have c5:a+n-a=n:=by omega
 generalize a+n=j at *
 simp[POp.ev,dW,dN,bnd,c1,c2,c3,c4,c5]
theorem C71 (s:List UInt8) (a:Nat) (bad:Int) (out:IV) (id:Nat) (m:IM) (hm:m.get id=rdP s a bad 0):rA id out m=some (.normal,[.pB id 0,out,.bool (match s[a]? with | some c=>decide (c.toNat<32) | none=>true)],[],m):=by
 cases hs:s[a]? with
 |none =>
  have hge:=List.getElem?_eq_none_iff.1 hs
  have c1:(s.length:Int)≤(a:Int):=by omega
  simp[rA,go_sem,eD hm,gC hm,c1]
 |some c =>
  have hlt:=bL hs
  have c1:¬(s.length:Int)≤(a:Int):=by omega
  have g:decide ((c.toNat:Int)<32)=decide (c.toNat<32):=by
   by_cases q:c.toNat<32
   ·rw[decide_eq_true q,decide_eq_true (by omega)]
   ·rw[decide_eq_false q,decide_eq_false (by omega)]
  simp[rA,go_sem,eD hm,gC hm,c1,aE (xg hs),g]
def EV (x:Option LR) (s:List UInt8) (id:Nat) (m:IM) (b:Nat) (c:Int):Prop:=c=19∧∃a':Nat,a'≤s.length∧(x=some (.exit 0,[],[],az m id (rdP s a' b c))∨∃t,x=some (.ret,[.str t],[],az m id (rdP s a' b c)))
set_option maxHeartbeats 1000000 in
set_option maxRecDepth 100000 in
theorem L71 (s:List UInt8) (hs:s.length≤30000) (id:Nat) (bad:Int):∀(n a:Nat) (acc:List UInt8) (m:IM) (r:Rd (List UInt8)),iv s n a acc=some r→a≤s.length→1≤a→acc.length≤4*a→m.get id=rdP s a bad 0 →
  match r with
  |.ok x a'=>mU id (bsl acc) m=some (.ret,[.str x],[],az m id (rdP s a' bad 0))∧a'≤s.length∧x.length≤4*a'
  |.err b c=>EV (mU id (bsl acc) m) s id m b c:=by
 have hml:ao=1099511627776:=rfl
 intro n
 induction n with
 |zero=>intro a acc m r h;cases h
 |succ n ih =>
  intro a acc m r h ha ha1 hacc hm
  have hC:=C71 s a bad (bsl acc) id m hm
  have hwr:=km s a bad 0 id m hm
  have hcw:=fun (K2:IV→IM→Option (St⊕LR))=>af hwr (by simp[go_sem]) K2
  simp only[iM,if_true,gY] at hcw
  have hm19:(az m id (rdP s a a 19)).get id=rdP s a a 19:=bO hm
  have hbad:rA id (bsl acc) m=some (.normal,[.pB id 0,bsl acc,.bool true],[],m)→mU id (bsl acc) m=some (.exit 0,[],[],az m id (rdP s a a 19)):=by
   intro hC
   have step:nxt qL (i6 id (bsl acc) m)=mU id (bsl acc) (az m id (rdP s a a 19)):=by
    simp only[i6,go_sem,gB hm,hC,hcw,mP,beq_self_eq_true,if_true]
    rfl
   rw[gU,step,gU]
   simp only[i6,go_sem,gB hm19,show ((19:Int)==0)=false from rfl,Bool.false_eq_true,if_false]
  unfold iv at h
  cases hq:s[a]? with
  |none =>
   rw[hq] at h hC
   cases h
   exact⟨rfl,a,ha,.inl (hbad hC)⟩
  |some c =>
   rw[hq] at h hC
   simp only at h hC
   have hlt:=bL hq
   by_cases g1:c.toNat<32
   ·rw[if_pos g1] at h
    rw[decide_eq_true g1] at hC
    cases h
    exact⟨rfl,a,ha,.inl (hbad hC)⟩
   ·rw[if_neg g1] at h
    rw[decide_eq_false g1] at hC
    have hsq:=jU s a bad 0 34 id m (by omega) hm
    have hsb:=jU s a bad 0 92 id m (by omega) hm
    rw[hq] at hsq hsb
    by_cases g2:c=34
    ·rw[if_pos g2] at h
     subst g2
     rw[if_pos ⟨rfl,rfl⟩] at hsq
     have hcq:=fun (K2:IV→IM→Option (St⊕LR))=>af hsq (by simp[go_sem]) K2
     rw[show ((34:UInt8).toNat:Int)=34 from rfl] at hcq
     cases h
     refine⟨?_,hlt,by omega⟩
     rw[gU]
     simp only[i6,go_sem,gB hm,hC,hcq,aE (ue acc),beq_self_eq_true,if_true,Bool.false_eq_true,if_false]
    ·rw[if_neg g2] at h
     rw[if_neg (fun q=>g2 (Option.some.inj q.2))] at hsq
     have hcq:=fun (K2:IV→IM→Option (St⊕LR))=>af hsq (by simp[go_sem]) K2
     rw[show ((34:UInt8).toNat:Int)=34 from rfl] at hcq
     by_cases g3:c=92
     ·rw[if_pos g3] at h
      subst g3
      rw[if_pos ⟨rfl,rfl⟩] at hsb
      have hcb:=fun (K2:IV→IM→Option (St⊕LR))=>af hsb (by simp[go_sem]) K2
      rw[show ((92:UInt8).toNat:Int)=92 from rfl] at hcb
      have hm1:(az m id (rdP s (a+1:Nat) bad 0)).get id=rdP s (a+1:Nat) bad 0:=bO hm
      have he:=J9 s (by omega) id bad (a+1) _ hlt (by omega) hm1
      cases hE:mT s (a+1) with
      |err b e =>
       rw[hE] at h he
       cases h
       simp only at he
       obtain⟨rfl,t,a',ht4,hal,he⟩:=he
       rw[aj] at he
       have hce:=fun (K2:IV→IM→Option (St⊕LR))=>af he (by simp[go_sem]) K2
       have hm2:(az m id (rdP s a' b 19)).get id=rdP s a' b 19:=bO hm
       refine⟨rfl,a',hal,.inl ?_⟩
       have step:nxt qL (i6 id (bsl acc) m)=mU id (bsl (acc++t)) (az m id (rdP s a' b 19)):=by
        simp only[i6,go_sem,gB hm,hC,hcq,hcb,hce,gm (cW t),bW,Nat.mul_one,Nat.beq_refl,pS acc t (by omega),mP,beq_self_eq_true,if_true,Bool.false_eq_true,if_false]
        rfl
       rw[gU,step,gU]
       simp only[i6,go_sem,gB hm2,show ((19:Int)==0)=false from rfl,Bool.false_eq_true,if_false]
      |ok x a' =>
       rw[hE] at h he
       simp only at h he
       obtain⟨he,hal,hlt2⟩:=he
       rw[aj] at he
       have hx4:=pU hE
       have hce:=fun (K2:IV→IM→Option (St⊕LR))=>af he (by simp[go_sem]) K2
       have hm2:(az m id (rdP s a' bad 0)).get id=rdP s a' bad 0:=bO hm
       have step:nxt qL (i6 id (bsl acc) m)=mU id (bsl (acc++x)) (az m id (rdP s a' bad 0)):=by
        simp only[i6,go_sem,gB hm,hC,hcq,hcb,hce,gm (cW x),bW,Nat.mul_one,Nat.beq_refl,pS acc x (by omega),mP,beq_self_eq_true,if_true,Bool.false_eq_true,if_false]
        rfl
       have hi:=ih a' (acc++x) _ r h hal (by omega) (by rw[List.length_append];omega) hm2
       rw[gU,step]
       cases r with
       |ok y a2=>simpa only[aj] using hi
       |err b e=>simpa only[EV,aj] using hi
     ·rw[if_neg g3] at h
      rw[if_neg (fun q=>g3 (Option.some.inj q.2))] at hsb
      have hcb:=fun (K2:IV→IM→Option (St⊕LR))=>af hsb (by simp[go_sem]) K2
      rw[show ((92:UInt8).toNat:Int)=92 from rfl] at hcb
      obtain⟨t,ht⟩:∃t,s.drop a=c::t:=⟨s.drop (a+1),by
       rw[List.drop_eq_getElem_cons hlt]
       have:=(List.getElem?_eq_some_iff.1 hq).2
       rw[this]⟩
      have h57:=CE c t m
      rw[←ht] at h57
      have hc57:=fun (K2:IV→IM→Option (St⊕LR))=>af h57 (by simp[go_sem]) K2
      have hbl:=ta (s.drop a)
      rw[List.length_drop] at hbl
      have hb4:=kM (s.drop a)
      have hbp:=iB (s.drop a)
      simp only[gb] at hc57
      generalize ak (s.drop a)=B at *
      obtain⟨sz,w,p⟩:=B
      simp only at *
      cases w with
      |false =>
       cases h
       refine⟨rfl,a,ha,.inr ⟨[],?_⟩⟩
       rw[gU]
       simp only[i6,go_sem,gB hm,eD hm,gC hm,hC,hcq,hcb,aE (GM s a ha),hc57,hcw,Bool.not_false,beq_self_eq_true,if_true,Bool.false_eq_true,if_false]
      |true =>
       have hsz:=hbp rfl
       simp only[if_true] at h
       have htl:((s.drop a).take sz).length=sz:=by rw[List.length_take,List.length_drop];omega
       have hm2:(az m id (rdP s (a+sz:Nat) bad 0)).get id=rdP s (a+sz:Nat) bad 0:=bO hm
       have hw:IntKind.i64.wrap ((a:Int)+(sz:Int))=((a+sz:Nat):Int):=by rw[w64 (by omega) (by omega)];rfl
       have hsl:=Jt s a sz (by omega) (by omega)
       rw[hw] at hsl
       have step:nxt qL (i6 id (bsl acc) m)=mU id (bsl (acc++(s.drop a).take sz)) (az m id (rdP s (a+sz:Nat) bad 0)):=by
        generalize (s.drop a).take sz=T at *
        generalize a+sz=j at *
        simp only[i6,go_sem,gB hm,eD hm,gC hm,hC,hcq,hcb,aE (GM s a ha),hc57,hw,aE hsl,gm (cW T),bW,Nat.mul_one,Nat.beq_refl,pS acc T (by omega),mP,wE hm,Bool.not_true,beq_self_eq_true,if_true,Bool.false_eq_true,if_false]
        rfl
       have hi:=ih (a+sz) (acc++(s.drop a).take sz) _ r h (by omega) (by omega) (by rw[List.length_append,htl];omega) hm2
       rw[gU,step]
       cases r with
       |ok y a2=>simpa only[aj] using hi
       |err b e=>simpa only[EV,aj] using hi
theorem FJ (s:List UInt8) (hs:s.length≤30000) (id:Nat) (bad:Int) (n a:Nat) (m:IM) (r:Rd (List UInt8)) (h:iv s n a []=some r) (ha:a≤s.length) (ha1:1≤a) (hm:m.get id=rdP s a bad 0) :
  match r with
  |.ok x a'=>cw (.f 71) [.pB id 0] m=some (.str x,az m id (rdP s a' bad 0))∧a'≤s.length∧x.length≤4*a'
  |.err b c=>c=19∧∃(t:List UInt8) (a':Nat),a'≤s.length∧cw (.f 71) [.pB id 0] m=some (.str t,az m id (rdP s a' b c)):=by
 have hL:=L71 s hs id bad n a [] m r h ha ha1 (by simp) hm
 cases r with
 |ok x a' =>
  simp only at hL ⊢
  refine⟨?_,hL.2⟩
  apply qz
  have h1:=hL.1
  simp only[bsl] at h1
  simp[F71,go_sem,h1]
 |err b c =>
  simp only[EV] at hL ⊢
  obtain⟨rfl,a',hal,h1 | ⟨t,h1⟩⟩:=hL
  ·refine⟨rfl,[],a',hal,?_⟩
   apply qz
   simp only[bsl] at h1
   simp[F71,go_sem,h1]
  ·refine⟨rfl,t,a',hal,?_⟩
   apply qz
   simp only[bsl] at h1
   simp[F71,go_sem,h1]
theorem qs (s:List UInt8):∀(n a:Nat) (acc x:List UInt8) (a':Nat),iv s n a acc=some (.ok x a')→a<a':=by
 intro n
 induction n with
 |zero=>intro a acc x a' h;cases h
 |succ n ih =>
  intro a acc x a' h
  unfold iv at h
  cases hq:s[a]? with
  |none=>rw[hq] at h;simp only[Option.some.injEq] at h;exact (a6 h).elim
  |some c =>
   rw[hq] at h
   simp only at h
   split at h
   ·simp only[Option.some.injEq] at h;exact (a6 h).elim
   ·split at h
    ·simp only[Option.some.injEq] at h
     obtain⟨_,rfl⟩:=Rd.ok.inj h
     omega
    ·split at h
     ·split at h
      ·simp only[Option.some.injEq] at h;exact (a6 h).elim
      ·rename_i x2 a2 hE
       have:=ih _ _ _ _ h
       have h2:=qA hE
       omega
     ·split at h
      ·rename_i hw
       have:=ih _ _ _ _ h
       have:=iB _ hw
       omega
      ·simp only[Option.some.injEq] at h;exact (a6 h).elim
end Go.Idl
namespace Go.Idl
attribute [local go_sem] cn cu gI gS bn bU cC cU cV c6 dd c7 cf bG ct bC bF da cv bB dh bD aN aX aO aM aA dm dc cm cg dj cZ bY eC dk bZ dg cY c9 de cx cd ck bA b8 c8 bw aY bE bu cr aL aB
theorem cq (c:UInt8) (k:Nat):((c.toNat:Int)==((k:Nat):Int))=decide (c.toNat=k):=by
 by_cases h:c.toNat=k
 ·subst h;simp
 ·rw[decide_eq_false h];simp;omega
def kd (o:Bool):Int:=if o then 5 else 4
def cl (o:Bool):UInt8:=if o then 125 else 93
def lF (s:List UInt8) (n:Nat) (o:Bool) (a:Nat):Option (Rd (List (List UInt8))) :=
 if o then (if s[blk s a]?=some 34 then (match iv s n (blk s a+1) [] with
   |none=>none
   |some (.err b c)=>some (.err b c)
   |some (.ok t a2)=>if s[blk s a2]?=some 58 then some (.ok [t] (blk s a2+1)) else some (.err (blk s a2) 19)) else some (.err (blk s a) 19))
 else some (.ok [] a)
def gZ (s w:List UInt8) (a:Nat) (v:Val):Rd Val:=match il s w a with
 |.ok _ a'=>.ok v a'
 |.err b c=>.err b c
mutual
def fZ (s:List UInt8):Nat→Int→Nat→Option (Rd Val)
 |0,_,_=>none
 |n+1,lvl,a=>match s[blk s a]? with
  |none=>some (.err (blk s a) 19)
  |some c =>
   if c.toNat=110 then some (gZ s [110,117,108,108] (blk s a) (.mk 0 [] [] []))
   else if c.toNat=116 then some (gZ s [116,114,117,101] (blk s a) (.mk 1 [116,114,117,101] [] []))
   else if c.toNat=102 then some (gZ s [102,97,108,115,101] (blk s a) (.mk 1 [102,97,108,115,101] [] []))
   else if c.toNat=34 then (match iv s n (blk s a+1) [] with
    |none=>none
    |some (.err b e)=>some (.err b e)
    |some (.ok t a')=>some (.ok (.mk 3 t [] []) a'))
   else if c.toNat=91∨c.toNat=123 then (if lvl>40 then some (.err (blk s a) 21) else fl s n (decide (c.toNat=123)) lvl (blk s a+1))
   else if c.toNat=45∨fQ c=true then (if (eR s (blk s a)).2=true then some (.ok (.mk 2 ((s.drop (blk s a)).take ((eR s (blk s a)).1-blk s a)) [] []) (eR s (blk s a)).1) else some (.err (eR s (blk s a)).1 19))
   else some (.err (blk s a) 19)
def fl (s:List UInt8):Nat→Bool→Int→Nat→Option (Rd Val)
 |0,_,_,_=>none
 |n+1,o,lvl,a=>if s[blk s a]?=some (cl o) then some (.ok (.mk (kd o) [] [] []) (blk s a+1)) else gj s n o lvl (blk s a) [] []
def gj (s:List UInt8):Nat→Bool→Int→Nat→List (List UInt8)→List Val→Option (Rd Val)
 |0,_,_,_,_,_=>none
 |n+1,o,lvl,a,ks,vs=>match lF s n o a with
  |none=>none
  |some (.err b e)=>some (.err b e)
  |some (.ok k a4)=>match fZ s n (lvl+1) a4 with
   |none=>none
   |some (.err b e)=>some (.err b e)
   |some (.ok v a5)=>if s[blk s a5]?=some (cl o) then some (.ok (.mk (kd o) [] (ks++k) (vs++[v])) (blk s a5+1))
    else if s[blk s a5]?=some 44 then gj s n o lvl (blk s a5+1) (ks++k) (vs++[v]) else some (.err (blk s a5) 19)
end
theorem SlS.app {K:IV}{ks:List (List UInt8)}(h:SlS K ks) (x:List UInt8) (hb:(ks.length+1)*16≤ao):∃K',SlS K' (ks++[x])∧∀{R:Type}(f:IV→Option R),ja K 1 16 [.str x] 1 f=f K':=by
 have hb2:1*16≤ao:=by decide
 rcases h with ⟨rfl,rfl⟩ | rfl
 ·refine⟨.sl [.str x] 1,.inr rfl,fun f=>?_⟩
  simp[ja,bn,bU,hb2]
 ·refine⟨.sl (ks.map .str++[.str x]) (ks.length+1),.inr (by simp),fun f=>?_⟩
  simp[ja,bU,hb]
theorem RowR.app:∀{vs:List Val}{r:List IV}{v:Val}{c:List IV},RowR vs r→ValR v c→RowR (vs++[v]) (r++c)
 |_,_,_,c,.nil,h=>by
  have:=RowR.cons h .nil
  simpa using this
 |_,_,_,_,.cons hv hr,h=>by
  rw[List.cons_append,List.append_assoc]
  exact .cons hv (hr.app h)
theorem SlV.app {V:IV}{vs:List Val}(h:SlV V vs) {v:Val}{c:List IV}(hc:ValR v c) (hb:(vs.length+1)*72≤ao):∃V',SlV V' (vs++[v])∧∀{R:Type}(f:IV→Option R),ja V 4 72 c 1 f=f V':=by
 have hb2:1*72≤ao:=by decide
 cases h with
 |nil =>
  refine⟨.sl c 1,.sl (by simpa using RowR.cons hc .nil) rfl,fun f=>?_⟩
  simp[ja,bn,bU,hb2]
 |sl hr hn =>
  subst hn
  refine⟨.sl (_++c) (vs.length+1),.sl (hr.app hc) (by simp),fun f=>?_⟩
  have:=hr.len
  simp[ja,bU,hb,this,Nat.mul_comm]
theorem KG (s:List UInt8) (a:Nat) (bad lvl n:Int) (t:List UInt8) (v v1:IV) (id:Nat) (m:IM) (hm:m.get id=rdP s a bad 0) :
  xu id lvl n t v v1 m=some (.normal,[.pB id 0,.int .i64 lvl,.bool (decide (s.length≤a))],[.cells [.int .i64 n,.str t,v,v1] [.any,.any,.own 1,.own 4]],m):=by
 have g:decide ((s.length:Int)≤(a:Int))=decide (s.length≤a):=by
  by_cases q:s.length≤a
  ·rw[decide_eq_true q,decide_eq_true (by omega)]
  ·rw[decide_eq_false q,decide_eq_false (by omega)]
 simp[xu,go_sem,eD hm,gB hm,gC hm,g]
theorem K9 (lvl fr n:Int) (c:UInt8) (t:List UInt8) (v v1:IV) (id:Nat) (m:IM) :
  pE id lvl fr c.toNat c.toNat n t v v1 m=some (.normal,[.pB id 0,.int .i64 lvl,.int .i64 fr,.int .u8 (c.toNat:Int),.int .u8 (c.toNat:Int),.bool (decide (c.toNat=91∨c.toNat=123))],[.cells [.int .i64 n,.str t,v,v1] [.any,.any,.own 1,.own 4]],m):=by
 have q1:((c.toNat:Int)==91)=decide (c.toNat=91):=cq c 91
 have q2:((c.toNat:Int)==123)=decide (c.toNat=123):=cq c 123
 by_cases h1:c.toNat=91
 ·simp[pE,go_sem,q1,q2,h1]
 ·by_cases h2:c.toNat=123
  ·simp[pE,go_sem,q1,q2,h1,h2]
  ·simp only[pE,bn,q1,q2,h1,h2,decide_false,Bool.false_eq_true,if_false,or_self]
theorem KS (fr n:Int) (c:UInt8) (t:List UInt8) (v v1:IV) (id:Nat) (m:IM) :
  xm id fr c.toNat n t v v1 m=some (.normal,[.pB id 0,.int .i64 fr,.bool (decide (c.toNat=45∨fQ c=true))],[.cells [.int .i64 n,.str t,v,v1] [.any,.any,.own 1,.own 4]],m):=by
 have q0:((c.toNat:Int)==45)=decide (c.toNat=45):=cq c 45
 have q1:((c.toNat:Int)==48)=decide (c.toNat=48):=cq c 48
 have q2:((c.toNat:Int)==49)=decide (c.toNat=49):=cq c 49
 have q3:((c.toNat:Int)==50)=decide (c.toNat=50):=cq c 50
 have q4:((c.toNat:Int)==51)=decide (c.toNat=51):=cq c 51
 have q5:((c.toNat:Int)==52)=decide (c.toNat=52):=cq c 52
 have q6:((c.toNat:Int)==53)=decide (c.toNat=53):=cq c 53
 have q7:((c.toNat:Int)==54)=decide (c.toNat=54):=cq c 54
 have q8:((c.toNat:Int)==55)=decide (c.toNat=55):=cq c 55
 have q9:((c.toNat:Int)==56)=decide (c.toNat=56):=cq c 56
 have qa:((c.toNat:Int)==57)=decide (c.toNat=57):=cq c 57
 simp only[xm,bn,q0,q1,q2,q3,q4,q5,q6,q7,q8,q9,qa,decide_eq_true_eq]
 have hdig:fQ c=true↔48≤c.toNat∧c.toNat≤57:=by simp[fQ]
 by_cases hy:c.toNat=45∨fQ c=true
 ·rw[decide_eq_true hy]
  rw[hdig] at hy
  generalize c.toNat=x at *
  have:x=45∨x=48∨x=49∨x=50∨x=51∨x=52∨x=53∨x=54∨x=55∨x=56∨x=57:=by omega
  rcases this with h | h | h | h | h | h | h | h | h | h | h<;>subst h<;>simp
 ·rw[decide_eq_false hy]
  rw[hdig] at hy
  generalize c.toNat=x at *
  rw[if_neg (by omega),if_neg (by omega),if_neg (by omega),if_neg (by omega),if_neg (by omega),if_neg (by omega),if_neg (by omega),if_neg (by omega),if_neg (by omega),if_neg (by omega),decide_eq_false (by omega)]
end Go.Idl
namespace Go.Idl
attribute [local go_sem] cn cu gI gS bn bU cC cU cV c6 dd c7 cf bG ct bC bF da cv bB dh bD aN aX aO aM aA dm dc cm cg dj cZ bY eC dk bZ dg cY c9 de cx cd ck bA b8 c8 bw aY bE bu cr aL aB aP ay cP cO bo aZ bp bP bq bR bt bQ List.flatMap_cons List.flatMap_nil
theorem SlS.isSl {K:IV}{ks:List (List UInt8)}(h:SlS K ks) {R:Type}(X:Option R):Idl.isSl K X=X:=by rcases h with ⟨rfl,_⟩ | rfl<;>rfl
theorem SlV.isSl {K:IV}{ks:List Val}(h:SlV K ks) {R:Type}(X:Option R):Idl.isSl K X=X:=by cases h<;>rfl
def Iy (X:Option (IV×IM)) (s:List UInt8) (id:Nat) (bad:Int) (m:IM):Rd Val→Prop
 |.ok v a'=>∃c,ValR v c∧X=some (.agg c,az m id (rdP s a' bad 0))∧a'≤s.length
 |.err b e=>(e=19∨e=21)∧∃(k:Int) (t:List UInt8) (a':Nat),a'≤s.length∧X=some (.agg [.int .i64 k,.str t,.nilSlice,.nilSlice],az m id (rdP s a' b e))
def F2 (X:Option LR) (s:List UInt8) (id:Nat) (bad:Int) (m:IM):Rd Val→Prop
 |.ok v a'=>∃c,ValR v c∧X=some (.ret,[],[.cells c [.any,.any,.any,.any]],az m id (rdP s a' bad 0))∧a'≤s.length
 |.err b e=>(e=19∨e=21)∧∃(k:Int) (t:List UInt8) (a':Nat),a'≤s.length∧X=some (.ret,[],[bxV k t],az m id (rdP s a' b e))
theorem qF {R:Type}(s:List UInt8) (a bad:Int) (id:Nat) (m:IM) (hm:m.get id=rdP s a bad 0) (K2:IV→IM→Option R):aw cw (.f 45) [.pB id 0] [] m K2=K2 gY (az m id (rdP s a a 19)):=by
 have h:=km s a bad 0 id m hm
 simp only[iM,if_true] at h
 exact af h (by simp[go_sem]) K2
theorem xR {R:Type}(s:List UInt8) (a bad e:Int) (he:e≠0) (id:Nat) (m:IM) (hm:m.get id=rdP s a bad e) (K2:IV→IM→Option R):aw cw (.f 45) [.pB id 0] [] m K2=K2 gY m:=by
 have h:=km s a bad e id m hm
 simp only[iM,if_neg he,iJ hm] at h
 exact af h (by simp[go_sem]) K2
theorem blC {R:Type}(s:List UInt8) (hs:s.length≤1099511627776) (a:Nat) (ha:a≤s.length) (bad e:Int) (id:Nat) (m:IM) (hm:m.get id=rdP s a bad e) (K2:IV→IM→Option R):aw cw (.f 44) [.pB id 0] [] m K2=K2 (.tup []) (az m id (rdP s (blk s a:Nat) bad e)) :=
 af (Cw s hs a ha bad e id m hm) (by simp[go_sem]) K2
theorem skT {R:Type}(s:List UInt8) (a:Nat) (bad:Int) (c:UInt8) (id:Nat) (m:IM) (ha:a≤1099511627776) (hm:m.get id=rdP s a bad 0) (h:s[a]?=some c) (K2:IV→IM→Option R):aw cw (.f 97) [.pB id 0,.int .u8 (c.toNat:Int)] [] m K2=K2 (.bool true) (az m id (rdP s (a+1:Nat) bad 0)):=by
 have hk:=jU s a bad 0 c id m ha hm
 rw[if_pos ⟨rfl,h⟩] at hk
 exact af hk (by simp[go_sem]) K2
theorem skF {R:Type}(s:List UInt8) (a:Nat) (bad:Int) (c:UInt8) (id:Nat) (m:IM) (ha:a≤1099511627776) (hm:m.get id=rdP s a bad 0) (h:¬s[a]?=some c) (K2:IV→IM→Option R):aw cw (.f 97) [.pB id 0,.int .u8 (c.toNat:Int)] [] m K2=K2 (.bool false) m:=by
 have hk:=jU s a bad 0 c id m ha hm
 rw[if_neg (fun q=>h q.2)] at hk
 exact af hk (by simp[go_sem]) K2
theorem skE {R:Type}(s:List UInt8) (a:Nat) (bad e:Int) (he:e≠0) (c:UInt8) (id:Nat) (m:IM) (ha:a≤1099511627776) (hm:m.get id=rdP s a bad e) (K2:IV→IM→Option R):aw cw (.f 97) [.pB id 0,.int .u8 (c.toNat:Int)] [] m K2=K2 (.bool false) m:=by
 have hk:=jU s a bad e c id m ha hm
 rw[if_neg (fun q=>he q.1)] at hk
 exact af hk (by simp[go_sem]) K2
set_option maxHeartbeats 1000000 in
theorem C73 (s:List UInt8) (hs:s.length≤30000) (id:Nat) (bad lvl:Int) (n a:Nat) (o:Bool) (K V:IV) (ks:List (List UInt8)) (hK:SlS K ks) (hkl:ks.length≤a) (m:IM) (r:Rd (List (List UInt8))) (h:lF s n o a=some r) (ha:a≤s.length) (hm:m.get id=rdP s a bad 0) :
  match r with
  |.ok k a4=>a4≤s.length∧a≤a4∧(ks++k).length≤a4∧∃K',SlS K' (ks++k)∧jT id (cl o).toNat lvl (kd o) [] K V 0 [] .nilSlice .nilSlice m=some (.normal,[.pB id 0,.int .u8 ((cl o).toNat:Int),.int .i64 lvl],[.cells [.int .i64 (kd o),.str [],K',V] [.any,.any,.own 1,.own 4],bxW 0 []],az m id (rdP s a4 bad 0))
  |.err b e=>e=19∧∃a',a'≤s.length∧jT id (cl o).toNat lvl (kd o) [] K V 0 [] .nilSlice .nilSlice m=some (.ret,[],[bxV 0 []],az m id (rdP s (a':Nat) b e)):=by
 have hml:ao=1099511627776:=rfl
 unfold lF at h
 cases o with
 |false =>
  simp only[Bool.false_eq_true,if_false,Option.some.injEq] at h
  subst h
  refine⟨ha,Nat.le_refl _,by simpa using hkl,K,by simpa using hK,?_⟩
  simp[jT,go_sem,kd,iJ hm,bxW]
 |true =>
  simp only[if_true] at h
  have hb:=dO ha
  have hm1:(az m id (rdP s (blk s a:Nat) bad 0)).get id=rdP s (blk s a:Nat) bad 0:=bO hm
  have h0:=fun (K2:IV→IM→Option LR)=>blC s (by omega) a ha bad 0 id m hm K2
  have hnn:IV.nilSlice.refs=some 0:=rfl
  by_cases g:s[blk s a]?=some 34
  ·rw[if_pos g] at h
   have h1:=fun (K2:IV→IM→Option LR)=>skT s (blk s a) bad 34 id _ (by omega) hm1 g K2
   rw[show ((34:UInt8).toNat:Int)=34 from rfl] at h1
   simp only[aj] at h1
   have hlt:=bL g
   have hm2:(az m id (rdP s (blk s a+1:Nat) bad 0)).get id=rdP s (blk s a+1:Nat) bad 0:=bO hm
   cases hS:iv s n (blk s a+1) [] with
   |none=>rw[hS] at h;cases h
   |some q =>
    rw[hS] at h
    have h71:=FJ s hs id bad n (blk s a+1) _ q hS hlt (by omega) hm2
    cases q with
    |err b c =>
     simp only[Option.some.injEq] at h h71
     subst h
     obtain⟨rfl,t,a',hal,h71⟩:=h71
     simp only[aj] at h71
     have h2:=fun (K2:IV→IM→Option LR)=>af h71 (by simp[go_sem]) K2
     have hm3:(az m id (rdP s a' b 19)).get id=rdP s a' b 19:=bO hm
     have h3:=fun (K2:IV→IM→Option LR)=>blC s (by omega) a' hal b 19 id _ hm3 K2
     simp only[aj] at h3
     have hm4:(az m id (rdP s (blk s a':Nat) b 19)).get id=rdP s (blk s a':Nat) b 19:=bO hm
     have hb2:=dO hal
     have h4:=fun (K2:IV→IM→Option LR)=>skE s (blk s a') b 19 (by omega) 58 id _ (by omega) hm4 K2
     rw[show ((58:UInt8).toNat:Int)=58 from rfl] at h4
     have h5:=fun (K2:IV→IM→Option LR)=>xR s (blk s a':Nat) b 19 (by omega) id _ hm4 K2
     obtain⟨K',hK',hap⟩:=hK.app t (by omega)
     refine⟨rfl,blk s a',hb2.2,?_⟩
     simp only[jT,go_sem,kd,if_true,beq_self_eq_true,h0,h1,h2,h3,h4,h5,hap,hK'.isSl,ah hK'.refs,gY,Bool.not_true,Bool.not_false,Bool.false_eq_true,if_false,ah hnn,bxV]
    |ok t a2 =>
     simp only at h h71
     obtain⟨h71,hal,htl⟩:=h71
     simp only[aj] at h71
     have hadv:=qs _ _ _ _ _ _ hS
     have h2:=fun (K2:IV→IM→Option LR)=>af h71 (by simp[go_sem]) K2
     have hm3:(az m id (rdP s a2 bad 0)).get id=rdP s a2 bad 0:=bO hm
     have h3:=fun (K2:IV→IM→Option LR)=>blC s (by omega) a2 hal bad 0 id _ hm3 K2
     simp only[aj] at h3
     have hm4:(az m id (rdP s (blk s a2:Nat) bad 0)).get id=rdP s (blk s a2:Nat) bad 0:=bO hm
     have hb2:=dO hal
     obtain⟨K',hK',hap⟩:=hK.app t (by omega)
     by_cases g2:s[blk s a2]?=some 58
     ·rw[if_pos g2] at h
      cases h
      have hlt2:=bL g2
      have h4:=fun (K2:IV→IM→Option LR)=>skT s (blk s a2) bad 58 id _ (by omega) hm4 g2 K2
      rw[show ((58:UInt8).toNat:Int)=58 from rfl] at h4
      simp only[aj] at h4
      refine⟨hlt2,by omega,by rw[List.length_append];simp;omega,K',hK',?_⟩
      simp only[jT,go_sem,kd,if_true,beq_self_eq_true,h0,h1,h2,h3,h4,hap,hK'.isSl,ah hK'.refs,Bool.not_true,Bool.not_false,Bool.false_eq_true,if_false,bxW]
     ·rw[if_neg g2] at h
      cases h
      have h4:=fun (K2:IV→IM→Option LR)=>skF s (blk s a2) bad 58 id _ (by omega) hm4 g2 K2
      rw[show ((58:UInt8).toNat:Int)=58 from rfl] at h4
      have h5:=fun (K2:IV→IM→Option LR)=>qF s (blk s a2:Nat) bad id _ hm4 K2
      simp only[aj] at h5
      refine⟨rfl,blk s a2,hb2.2,?_⟩
      simp only[jT,go_sem,kd,if_true,beq_self_eq_true,h0,h1,h2,h3,h4,h5,hap,hK'.isSl,ah hK'.refs,gY,Bool.not_true,Bool.not_false,Bool.false_eq_true,if_false,ah hnn,bxV]
  ·rw[if_neg g] at h
   cases h
   have h1:=fun (K2:IV→IM→Option LR)=>skF s (blk s a) bad 34 id _ (by omega) hm1 g K2
   rw[show ((34:UInt8).toNat:Int)=34 from rfl] at h1
   have h2:=fun (K2:IV→IM→Option LR)=>qF s (blk s a:Nat) bad id _ hm1 K2
   simp only[aj] at h2
   refine⟨rfl,blk s a,hb.2,?_⟩
   simp only[jT,go_sem,kd,if_true,beq_self_eq_true,h0,h1,h2,gY,Bool.not_true,Bool.not_false,Bool.false_eq_true,if_false,ah hnn,bxV]
end Go.Idl
namespace Go.Idl
theorem Dc (s:List UInt8) (a:Nat):a≤dgB s (s.length+1) a:=Bp s _ a
theorem Ik (s:List UInt8) (a:Nat):a≤nm1 s a:=by unfold nm1;split<;>omega
theorem Gp (s:List UInt8) (a:Nat):a≤nmB s a:=by unfold nmB;split<;>omega
theorem GD (s:List UInt8) (a:Nat):a≤(nm3 s a).1:=by
 unfold nm3;split
 ·have:=Dc s (a+1);simp only;omega
 ·exact Nat.le_refl _
theorem Gz (s:List UInt8) (a:Nat):a≤(nm4 s a).1:=by
 unfold nm4;split
 ·have:=Dc s (nmB s (a+1));have:=Gp s (a+1);simp only;omega
 ·exact Nat.le_refl _
theorem uK {s:List UInt8}{a:Nat}(h:a≤s.length):(eR s a).1≤s.length:=by
 unfold eR
 split
 ·exact pF h
 ·split
  ·exact G8 (tE (uG (pF h)))
  ·exact tE (uG (pF h))
theorem mI {s:List UInt8}{a:Nat}(h:(eR s a).2=true):a<(eR s a).1:=by
 unfold eR at h ⊢
 split at h
 ·cases h
 ·rename_i h1
  rw[if_neg h1]
  have e1:=Ik s a
  have e2:nm1 s a<nm2 s (nm1 s a):=by
   unfold nm2
   split
   ·omega
   ·have:=Dc s (nm1 s a);omega
  have e3:=GD s (nm2 s (nm1 s a))
  split
  ·have e4:=Gz s (nm3 s (nm2 s (nm1 s a))).1
   omega
  ·omega
theorem sO (s:List UInt8):∀(w:List UInt8) (a a':Nat) (u:Unit),il s w a=.ok u a'→a'=a+w.length
 |[],a,a',u,h=>by obtain⟨_,rfl⟩:=Rd.ok.inj h;rfl
 |c::r,a,a',u,h=>by
  unfold il at h
  split at h
  ·have:=sO s r _ _ _ h
   rw[List.length_cons];omega
  ·exact (a6 h).elim
theorem kQ {s w:List UInt8}{a a':Nat}{v v':Val}(h:gZ s w a v=.ok v' a'):a'=a+w.length:=by
 unfold gZ at h
 split at h
 ·rename_i u b hw
  obtain⟨_,rfl⟩:=Rd.ok.inj h
  exact sO s w _ _ _ hw
 ·exact (a6 h).elim
theorem mK {s:List UInt8}{n:Nat}{o:Bool}{a:Nat}{k:List (List UInt8)}{a':Nat}(h:lF s n o a=some (.ok k a')) (ha:a≤s.length):a≤a'∧a'≤s.length:=by
 unfold lF at h
 have hb:=dO ha
 split at h
 ·split at h
  ·split at h
   ·cases h
   ·simp only[Option.some.injEq] at h;exact (a6 h).elim
   ·rename_i t a2 hS
    have:=qs _ _ _ _ _ _ hS
    split at h
    ·rename_i g
     simp only[Option.some.injEq] at h
     obtain⟨_,rfl⟩:=Rd.ok.inj h
     have hlt:=bL g
     have hb2:a2≤blk s a2:=by
      by_cases q:a2≤s.length
      ·exact (dO q).1
      ·have e:blk s a2=a2:=by
        unfold blk
        have:s.length+1-a2=0:=by omega
        rw[this];rfl
       omega
     exact⟨by omega,hlt⟩
    ·simp only[Option.some.injEq] at h;exact (a6 h).elim
  ·simp only[Option.some.injEq] at h;exact (a6 h).elim
 ·simp only[Option.some.injEq] at h
  obtain⟨_,rfl⟩:=Rd.ok.inj h
  exact⟨Nat.le_refl _,ha⟩
theorem oM (s:List UInt8):∀(n a:Nat) (acc x:List UInt8) (a':Nat),iv s n a acc=some (.ok x a')→a'≤s.length:=by
 intro n
 induction n with
 |zero=>intro a acc x a' h;cases h
 |succ n ih =>
  intro a acc x a' h
  unfold iv at h
  cases hq:s[a]? with
  |none=>rw[hq] at h;simp only[Option.some.injEq] at h;exact (a6 h).elim
  |some c =>
   rw[hq] at h
   simp only at h
   split at h
   ·simp only[Option.some.injEq] at h;exact (a6 h).elim
   ·split at h
    ·simp only[Option.some.injEq] at h
     obtain⟨_,rfl⟩:=Rd.ok.inj h
     exact bL hq
    ·split at h
     ·split at h
      ·simp only[Option.some.injEq] at h;exact (a6 h).elim
      ·exact ih _ _ _ _ h
     ·split at h
      ·exact ih _ _ _ _ h
      ·simp only[Option.some.injEq] at h;exact (a6 h).elim
theorem kb (s:List UInt8):∀(n:Nat),(∀lvl a v a',fZ s n lvl a=some (.ok v a')→a≤s.length→a<a'∧a'≤s.length)∧(∀o lvl a v a',fl s n o lvl a=some (.ok v a')→a≤s.length→a<a'∧a'≤s.length)∧(∀o lvl a ks vs v a',gj s n o lvl a ks vs=some (.ok v a')→a≤s.length→a<a'∧a'≤s.length):=by
 intro n
 induction n with
 |zero=>refine⟨fun lvl a v a' h _=>?_,fun o lvl a v a' h _=>?_,fun o lvl a ks vs v a' h _=>?_⟩<;>simp[fZ,fl,gj] at h
 |succ n ih =>
  obtain⟨ihV,ihI,ihL⟩:=ih
  refine⟨?_,?_,?_⟩
  ·intro lvl a v a' h ha
   have hb:=dO ha
   unfold fZ at h
   cases hq:s[blk s a]? with
   |none=>rw[hq] at h;simp only[Option.some.injEq] at h;exact (a6 h).elim
   |some c =>
    rw[hq] at h
    simp only at h
    have hlt:=bL hq
    have hw:∀(w:List UInt8) (v0:Val),w≠[]→gZ s w (blk s a) v0=.ok v a'→a<a'∧a'≤s.length:=by
     intro w v0 hne hh
     have e:=kQ hh
     have:0<w.length:=List.length_pos_iff.2 hne
     refine⟨by omega,?_⟩
     have hle:∀(w:List UInt8) (b b':Nat) (u:Unit),b≤s.length→il s w b=.ok u b'→b'≤s.length:=by
      intro w
      induction w with
      |nil=>intro b b' u hb h;obtain⟨_,rfl⟩:=Rd.ok.inj h;exact hb
      |cons x r ihw =>
       intro b b' u hb h
       unfold il at h
       split at h
       ·rename_i g;exact ihw _ _ _ (bL g) h
       ·exact (a6 h).elim
     unfold gZ at hh
     split at hh
     ·rename_i u b hw
      obtain⟨_,rfl⟩:=Rd.ok.inj hh
      exact hle w _ _ _ hb.2 hw
     ·exact (a6 hh).elim
    split at h
    ·simp only[Option.some.injEq] at h;exact hw _ _ (by simp) h
    ·split at h
     ·simp only[Option.some.injEq] at h;exact hw _ _ (by simp) h
     ·split at h
      ·simp only[Option.some.injEq] at h;exact hw _ _ (by simp) h
      ·split at h
       ·split at h
        ·cases h
        ·simp only[Option.some.injEq] at h;exact (a6 h).elim
        ·rename_i t a2 hS
         simp only[Option.some.injEq] at h
         obtain⟨_,rfl⟩:=Rd.ok.inj h
         have:=qs _ _ _ _ _ _ hS
         exact⟨by omega,oM _ _ _ _ _ _ hS⟩
       ·split at h
        ·split at h
         ·simp only[Option.some.injEq] at h;exact (a6 h).elim
         ·have:=ihI _ _ _ _ _ h hlt
          exact⟨by omega,this.2⟩
        ·split at h
         ·split at h
          ·rename_i hn
           simp only[Option.some.injEq] at h
           obtain⟨_,rfl⟩:=Rd.ok.inj h
           have:=mI hn
           exact⟨by omega,uK hb.2⟩
          ·simp only[Option.some.injEq] at h;exact (a6 h).elim
         ·simp only[Option.some.injEq] at h;exact (a6 h).elim
  ·intro o lvl a v a' h ha
   have hb:=dO ha
   unfold fl at h
   split at h
   ·rename_i g
    simp only[Option.some.injEq] at h
    obtain⟨_,rfl⟩:=Rd.ok.inj h
    exact⟨by omega,bL g⟩
   ·have:=ihL _ _ _ _ _ _ _ h hb.2
    exact⟨by omega,this.2⟩
  ·intro o lvl a ks vs v a' h ha
   unfold gj at h
   split at h
   ·cases h
   ·simp only[Option.some.injEq] at h;exact (a6 h).elim
   ·rename_i k a4 hk
    have hk2:=mK hk ha
    split at h
    ·cases h
    ·simp only[Option.some.injEq] at h;exact (a6 h).elim
    ·rename_i v2 a5 hv
     have hv2:=ihV _ _ _ _ hv hk2.2
     have hb:=dO hv2.2
     split at h
     ·rename_i g
      simp only[Option.some.injEq] at h
      obtain⟨_,rfl⟩:=Rd.ok.inj h
      exact⟨by omega,bL g⟩
     ·split at h
      ·rename_i g
       have:=ihL _ _ _ _ _ _ _ h (bL g)
       exact⟨by omega,this.2⟩
      ·simp only[Option.some.injEq] at h;exact (a6 h).elim
end Go.Idl
namespace Go.Idl
attribute [local go_sem] cn cu gI gS bn bU cC cU cV c6 dd c7 cf bG ct bC bF da cv bB dh bD aN aX aO aM aA dm dc cm cg dj cZ bY eC dk bZ dg cY c9 de cx cd ck bA b8 c8 bw aY bE bu cr aL aB aP ay cP cO bo aZ bp bP bq bR bt bQ List.flatMap_cons List.flatMap_nil
def HV (s:List UInt8) (id n:Nat):Prop:=∀(lvl:Int) (a:Nat) (m:IM) (bad:Int) (r:Rd Val),fZ s n lvl a=some r→0≤lvl→lvl≤41→a≤s.length→m.get id=rdP s a bad 0 →
 Iy (cw (.f 43) [.pB id 0,.int .i64 lvl] m) s id bad m r
def HI (s:List UInt8) (id n:Nat):Prop:=∀(o:Bool) (lvl:Int) (a:Nat) (m:IM) (bad:Int) (r:Rd Val),fl s n o lvl a=some r→0≤lvl→lvl≤40→a≤s.length→1≤a→m.get id=rdP s a bad 0 →
 Iy (cw (.f 73) [.pB id 0,.agg [.int .i64 (kd o),.str [],.nilSlice,.nilSlice],.int .u8 ((cl o).toNat:Int),.int .i64 lvl] m) s id bad m r
def HL (s:List UInt8) (id n:Nat):Prop:=∀(o:Bool) (lvl:Int) (a:Nat) (ks:List (List UInt8)) (vs:List Val) (K V:IV) (m:IM) (bad:Int) (r:Rd Val),gj s n o lvl a ks vs=some r→SlS K ks→SlV V vs→ks.length≤a→vs.length≤a→0≤lvl→lvl≤40→a≤s.length→m.get id=rdP s a bad 0 →
 F2 (yU id (cl o).toNat lvl (kd o) [] K V 0 [] .nilSlice .nilSlice m) s id bad m r
set_option maxHeartbeats 1000000 in
theorem zX (s:List UInt8) (hs:s.length≤30000) (id n:Nat) (hV:HV s id n) (hL:HL s id n):HL s id (n+1):=by
 have hml:ao=1099511627776:=rfl
 intro o lvl a ks vs K V m bad r h hK hVV hkl hvl hl0 hl1 ha hm
 unfold gj at h
 have e1:IntKind.i64.wrap (lvl+1)=lvl+1:=w64 (by omega) (by omega)
 cases hk:lF s n o a with
 |none=>rw[hk] at h;cases h
 |some q =>
  rw[hk] at h
  have hC:=C73 s hs id bad lvl n a o K V ks hK hkl m q hk ha hm
  cases q with
  |err b e =>
   simp only[Option.some.injEq] at h hC
   subst h
   obtain⟨rfl,a',hal,hC⟩:=hC
   refine⟨.inl rfl,0,[],a',hal,?_⟩
   rw[kf]
   simp only[oe,go_sem,gB hm,hC,beq_self_eq_true,if_true,bxV]
  |ok k a4 =>
   simp only at h hC
   obtain⟨h4l,h4a,h4k,K',hK',hC⟩:=hC
   have hm4:(az m id (rdP s a4 bad 0)).get id=rdP s a4 bad 0:=bO hm
   cases hv:fZ s n (lvl+1) a4 with
   |none=>rw[hv] at h;cases h
   |some q =>
    rw[hv] at h
    have hP:=hV (lvl+1) a4 _ bad q hv (by omega) (by omega) h4l hm4
    cases q with
    |err b e =>
     simp only[Option.some.injEq] at h
     subst h
     obtain⟨he,kk,t,a',hal,hP⟩:=hP
     simp only[aj] at hP
     have he0:e≠0:=by rcases he with rfl | rfl<;>omega
     have h1:=fun (K2:IV→IM→Option (St⊕LR))=>af hP (by simp[go_sem]) K2
     have hm5:(az m id (rdP s a' b e)).get id=rdP s a' b e:=bO hm
     have h2:=fun (K2:IV→IM→Option (St⊕LR))=>blC s (by omega) a' hal b e id _ hm5 K2
     simp only[aj] at h2
     have hm6:(az m id (rdP s (blk s a':Nat) b e)).get id=rdP s (blk s a':Nat) b e:=bO hm
     have hb2:=dO hal
     have h3:=fun (K2:IV→IM→Option (St⊕LR))=>skE s (blk s a') b e he0 (cl o) id _ (by omega) hm6 K2
     have h4:=fun (K2:IV→IM→Option (St⊕LR))=>skE s (blk s a') b e he0 44 id _ (by omega) hm6 K2
     rw[show ((44:UInt8).toNat:Int)=44 from rfl] at h4
     have h5:=fun (K2:IV→IM→Option (St⊕LR))=>xR s (blk s a':Nat) b e he0 id _ hm6 K2
     obtain⟨V',hV',hap⟩:=hVV.app (v:=.mk kk t [] []) (ValR.mk (k:=kk) (t:=t) (.inl ⟨rfl,rfl⟩) .nil) (by omega)
     have hnp:IV.nilSlice.plain=true:=rfl
     have hnn:IV.nilSlice.refs=some 0:=rfl
     refine⟨he,0,[],blk s a',hb2.2,?_⟩
     rw[kf]
     simp only[oe,go_sem,gB hm,hC,bxW,e1,h1,gR hnp,hap,hV'.isSl,ah hV'.refs,h2,h3,h4,h5,gY,ah hnn,Bool.not_false,beq_self_eq_true,if_true,Bool.false_eq_true,if_false,bxV,reduceCtorEq]
    |ok v a5 =>
     simp only at h
     obtain⟨c,hc,hP,h5l⟩:=hP
     simp only[aj] at hP
     obtain⟨kk,t,CK,CV,rfl,hcK,hcV,hcKp,hcVp⟩:=hc.cells
     have h1:=fun (K2:IV→IM→Option (St⊕LR))=>af hP (by simp[go_sem]) K2
     have hm5:(az m id (rdP s a5 bad 0)).get id=rdP s a5 bad 0:=bO hm
     have h2:=fun (K2:IV→IM→Option (St⊕LR))=>blC s (by omega) a5 h5l bad 0 id _ hm5 K2
     simp only[aj] at h2
     have hm6:(az m id (rdP s (blk s a5:Nat) bad 0)).get id=rdP s (blk s a5:Nat) bad 0:=bO hm
     have hb2:=dO h5l
     have hadv:=((kb s n).1 _ _ _ _ hv h4l).1
     obtain⟨V',hV',hap⟩:=hVV.app hc (by omega)
     by_cases g:s[blk s a5]?=some (cl o)
     ·rw[if_pos g] at h
      cases h
      have h3:=fun (K2:IV→IM→Option (St⊕LR))=>skT s (blk s a5) bad (cl o) id _ (by omega) hm6 g K2
      simp only[aj] at h3
      refine⟨_,.mk hK' hV',?_,bL g⟩
      rw[kf]
      simp only[oe,go_sem,gB hm,hC,bxW,e1,h1,gR hcKp,gR hcVp,hap,hV'.isSl,ah hV'.refs,ah hK'.refs,h2,h3,beq_self_eq_true,if_true,Bool.false_eq_true,if_false,reduceCtorEq]
     ·rw[if_neg g] at h
      have h3:=fun (K2:IV→IM→Option (St⊕LR))=>skF s (blk s a5) bad (cl o) id _ (by omega) hm6 g K2
      by_cases g2:s[blk s a5]?=some 44
      ·rw[if_pos g2] at h
       have hlt:=bL g2
       have h4:=fun (K2:IV→IM→Option (St⊕LR))=>skT s (blk s a5) bad 44 id _ (by omega) hm6 g2 K2
       rw[show ((44:UInt8).toNat:Int)=44 from rfl] at h4
       simp only[aj] at h4
       have hm7:(az m id (rdP s (blk s a5+1:Nat) bad 0)).get id=rdP s (blk s a5+1:Nat) bad 0:=bO hm
       have hi:=hL o lvl (blk s a5+1) _ _ K' V' _ bad r h hK' hV' (by omega) (by rw[List.length_append];simp;omega) hl0 hl1 hlt hm7
       have step:nxt y5 (oe id (cl o).toNat lvl (kd o) [] K V 0 [] .nilSlice .nilSlice m)=yU id (cl o).toNat lvl (kd o) [] K' V' 0 [] .nilSlice .nilSlice (az m id (rdP s (blk s a5+1:Nat) bad 0)):=by
        simp only[oe,go_sem,gB hm,hC,bxW,e1,h1,gR hcKp,gR hcVp,hap,hV'.isSl,ah hV'.refs,h2,h3,h4,Bool.not_true,beq_self_eq_true,if_true,Bool.false_eq_true,if_false,reduceCtorEq]
        rfl
       rw[kf,step]
       cases r with
       |ok y a2=>simpa only[F2,aj] using hi
       |err b e=>simpa only[F2,aj] using hi
      ·rw[if_neg g2] at h
       cases h
       have h4:=fun (K2:IV→IM→Option (St⊕LR))=>skF s (blk s a5) bad 44 id _ (by omega) hm6 g2 K2
       rw[show ((44:UInt8).toNat:Int)=44 from rfl] at h4
       have h5:=fun (K2:IV→IM→Option (St⊕LR))=>qF s (blk s a5:Nat) bad id _ hm6 K2
       simp only[aj] at h5
       have hnn:IV.nilSlice.refs=some 0:=rfl
       refine⟨.inl rfl,0,[],blk s a5,hb2.2,?_⟩
       rw[kf]
       simp only[oe,go_sem,gB hm,hC,bxW,e1,h1,gR hcKp,gR hcVp,hap,hV'.isSl,ah hV'.refs,h2,h3,h4,h5,gY,ah hnn,Bool.not_false,beq_self_eq_true,if_true,Bool.false_eq_true,if_false,bxV,reduceCtorEq]
end Go.Idl
namespace Go.Idl
attribute [local go_sem] cn cu gI gS bn bU cC cU cV c6 dd c7 cf bG ct bC bF da cv bB dh bD aN aX aO aM aA dm dc cm cg dj cZ bY eC dk bZ dg cY c9 de cx cd ck bA b8 c8 bw aY bE bu cr aL aB aP ay cP cO bo aZ bp bP bq bR bt bQ List.flatMap_cons List.flatMap_nil
theorem xC (s:List UInt8) (hs:s.length≤30000) (id n:Nat) (hL:HL s id n):HI s id (n+1):=by
 intro o lvl a m bad r h hl0 hl1 ha ha1 hm
 unfold fl at h
 have hb:=dO ha
 have hnn:IV.nilSlice.refs=some 0:=rfl
 have h0:=fun (K2:IV→IM→Option (IV×IM))=>blC s (by omega) a ha bad 0 id m hm K2
 have hm1:(az m id (rdP s (blk s a:Nat) bad 0)).get id=rdP s (blk s a:Nat) bad 0:=bO hm
 by_cases g:s[blk s a]?=some (cl o)
 ·rw[if_pos g] at h
  cases h
  have h1:=fun (K2:IV→IM→Option (IV×IM))=>skT s (blk s a) bad (cl o) id _ (by omega) hm1 g K2
  simp only[aj] at h1
  refine⟨_,.mk (.inl ⟨rfl,rfl⟩) .nil,?_,bL g⟩
  apply pT
  simp[F73,go_sem,h0,h1,ah hnn]
 ·rw[if_neg g] at h
  have h1:=fun (K2:IV→IM→Option (IV×IM))=>skF s (blk s a) bad (cl o) id _ (by omega) hm1 g K2
  have hl:=hL o lvl (blk s a) [] [] .nilSlice .nilSlice _ bad r h (.inl ⟨rfl,rfl⟩) .nil (by simp) (by simp) hl0 hl1 hb.2 hm1
  cases r with
  |ok v a' =>
   obtain⟨c,hc,hX,hal⟩:=hl
   simp only[aj] at hX
   obtain⟨k,t,K,V,rfl,hK,hV,_,_⟩:=hc.cells
   refine⟨_,hc,?_,hal⟩
   apply pT
   simp[F73,go_sem,h0,h1,ah hnn,hX,hK,hV]
  |err b e =>
   obtain⟨he,k,t,a',hal,hX⟩:=hl
   simp only[aj] at hX
   refine⟨he,k,t,a',hal,?_⟩
   apply pT
   simp[F73,go_sem,h0,h1,ah hnn,hX,bxV]
set_option maxHeartbeats 2000000 in
theorem xV (s:List UInt8) (hs:s.length≤30000) (id n:Nat) (hI:HI s id n):HV s id (n+1):=by
 intro lvl a m bad r h hl0 hl1 ha hm
 unfold fZ at h
 have hb:=dO ha
 have hnn:IV.nilSlice.refs=some 0:=rfl
 have h0:=fun (K2:IV→IM→Option (IV×IM))=>blC s (by omega) a ha bad 0 id m hm K2
 have hm1:(az m id (rdP s (blk s a:Nat) bad 0)).get id=rdP s (blk s a:Nat) bad 0:=bO hm
 have hCa:=KG s (blk s a) bad lvl 0 [] .nilSlice .nilSlice id _ hm1
 have hW:=fun (K2:IV→IM→Option (IV×IM))=>qF s (blk s a:Nat) bad id _ hm1 K2
 simp only[aj] at hW
 cases hq:s[blk s a]? with
 |none =>
  rw[hq] at h
  cases h
  have hge:=List.getElem?_eq_none_iff.1 hq
  rw[decide_eq_true (by omega)] at hCa
  refine⟨.inl rfl,0,[],blk s a,hb.2,?_⟩
  apply eG
  simp only[F43,go_sem,h0,hCa,hW,gY,ah hnn,if_true]
  simp[go_sem]
 |some c =>
  rw[hq] at h
  simp only at h
  have hlt:=bL hq
  rw[decide_eq_false (by omega)] at hCa
  have q110:((c.toNat:Int)==110)=decide (c.toNat=110):=cq c 110
  have q116:((c.toNat:Int)==116)=decide (c.toNat=116):=cq c 116
  have q102:((c.toNat:Int)==102)=decide (c.toNat=102):=cq c 102
  have q34:((c.toNat:Int)==34)=decide (c.toNat=34):=cq c 34
  have q91:((c.toNat:Int)==91)=decide (c.toNat=91):=cq c 91
  have hw:IntKind.i64.wrap ((blk s a:Nat)+1:Int)=((blk s a+1:Nat):Int):=by rw[w64 (by omega) (by omega)];rfl
  have hix:=xg hq
  have word:∀(w:List UInt8) (k:Int) (t:List UInt8),(∀k (h:k<w.length),Utf8.decode ⟨⟨w⟩⟩ k=((w[k].toNat,1):Nat×Nat)) →
    (∀v m',aw cw (.f 70) [.pB id 0,.str w,.agg [.int .i64 k,.str t,.nilSlice,.nilSlice]] [] (az m id (rdP s (blk s a:Nat) bad 0)) (fun v m1=>some (v,m1))=some (.agg v,m')→True) →
    gZ s w (blk s a) (.mk k t [] [])=r →
    (∀(Y:Option (IV×IM)),(∀kk tt mm,aw cw (.f 70) [.pB id 0,.str w,.agg [.int .i64 k,.str t,.nilSlice,.nilSlice]] [] (az m id (rdP s (blk s a:Nat) bad 0))=(fun (K2:IV→IM→Option (IV×IM))=>K2 (.agg [.int .i64 kk,.str tt,.nilSlice,.nilSlice]) mm)→(∃x,mm=az m id x)→Y=some (.agg [.int .i64 kk,.str tt,.nilSlice,.nilSlice],mm))→Iy Y s id bad m r):=by
   intro w k t hw' _ hr Y hY
   have hx:=H6 s (by omega) w hw' k t id bad (blk s a) _ hb.2 hm1
   unfold gZ at hr
   cases hN:il s w (blk s a) with
   |ok u a' =>
    rw[hN] at hx hr
    simp only[aj] at hx hr
    subst hr
    refine⟨_,.mk (.inl ⟨rfl,rfl⟩) .nil,?_,hx.2⟩
    exact hY k t _ (funext fun K2=>af hx.1 (by simp[go_sem]) K2) ⟨_,rfl⟩
   |err b e =>
    rw[hN] at hx hr
    simp only[aj] at hx hr
    subst hr
    have he:e=19∧b≤s.length:=by
     have hg:∀(w:List UInt8) (a b:Nat) (e:Int),a≤s.length→il s w a=.err b e→e=19∧b≤s.length:=by
      intro w
      induction w with
      |nil=>intro a b e _ h;cases h
      |cons x r ih =>
       intro a b e ha h
       unfold il at h
       split at h
       ·rename_i g;exact ih _ _ _ (bL g) h
       ·cases h;exact⟨rfl,ha⟩
     exact hg w _ _ _ hb.2 hN
    obtain⟨rfl,hbl⟩:=he
    refine⟨.inl rfl,0,[],b,hbl,?_⟩
    exact hY 0 [] _ (funext fun K2=>af hx (by simp[go_sem]) K2) ⟨_,rfl⟩
  by_cases g1:c.toNat=110
  ·rw[if_pos g1] at h
   simp only[Option.some.injEq] at h
   refine word _ 0 [] (by decide) (fun _ _ _=>trivial) h _ fun kk tt mm hcc ⟨x,hx⟩=>?_
   subst hx
   apply eG
   simp only[F43,go_sem,h0,hCa,eD hm1,gC hm1,aE hix,q110,g1,hcc,ah hnn,decide_true,if_true,Bool.false_eq_true,if_false]
   simp[go_sem]
  ·rw[if_neg g1] at h
   by_cases g2:c.toNat=116
   ·rw[if_pos g2] at h
    simp only[Option.some.injEq] at h
    refine word _ 1 _ (by decide) (fun _ _ _=>trivial) h _ fun kk tt mm hcc ⟨x,hx⟩=>?_
    subst hx
    apply eG
    simp only[F43,go_sem,h0,hCa,eD hm1,gC hm1,aE hix,q110,q116,g1,decide_false,decide_eq_true g2,hcc,ah hnn,decide_true,if_true,Bool.false_eq_true,if_false]
    simp[go_sem]
   ·rw[if_neg g2] at h
    by_cases g3:c.toNat=102
    ·rw[if_pos g3] at h
     simp only[Option.some.injEq] at h
     refine word _ 1 _ (by decide) (fun _ _ _=>trivial) h _ fun kk tt mm hcc ⟨x,hx⟩=>?_
     subst hx
     apply eG
     simp only[F43,go_sem,h0,hCa,eD hm1,gC hm1,aE hix,q110,q116,q102,g1,g2,decide_false,decide_eq_true g3,hcc,ah hnn,decide_true,if_true,Bool.false_eq_true,if_false]
     simp[go_sem]
    ·rw[if_neg g3] at h
     by_cases g4:c.toNat=34
     ·rw[if_pos g4] at h
      have hsa:=fun (K:IM→Option (IV×IM))=>wE hm1 ((blk s a+1:Nat):Int) K
      simp only[aj] at hsa
      have hm2:(az m id (rdP s (blk s a+1:Nat) bad 0)).get id=rdP s (blk s a+1:Nat) bad 0:=bO hm
      cases hS:iv s n (blk s a+1) [] with
      |none=>rw[hS] at h;cases h
      |some q =>
       rw[hS] at h
       have h71:=FJ s hs id bad n (blk s a+1) _ q hS hlt (by omega) hm2
       cases q with
       |err b e =>
        simp only[Option.some.injEq] at h h71
        subst h
        obtain⟨rfl,t,a',hal,h71⟩:=h71
        simp only[aj] at h71
        have h2:=fun (K2:IV→IM→Option (IV×IM))=>af h71 (by simp[go_sem]) K2
        refine⟨.inl rfl,3,t,a',hal,?_⟩
        apply eG
        simp only[F43,go_sem,h0,hCa,eD hm1,gC hm1,aE hix,q110,q116,q102,q34,g1,g2,g3,decide_false,decide_eq_true g4,hw,hsa,h2,decide_true,if_true,Bool.false_eq_true,if_false]
        simp[go_sem]
       |ok t a' =>
        simp only[Option.some.injEq] at h h71
        subst h
        obtain⟨h71,hal,_⟩:=h71
        simp only[aj] at h71
        have h2:=fun (K2:IV→IM→Option (IV×IM))=>af h71 (by simp[go_sem]) K2
        refine⟨_,.mk (.inl ⟨rfl,rfl⟩) .nil,?_,hal⟩
        apply eG
        simp only[F43,go_sem,h0,hCa,eD hm1,gC hm1,aE hix,q110,q116,q102,q34,g1,g2,g3,decide_false,decide_eq_true g4,hw,hsa,h2,decide_true,if_true,Bool.false_eq_true,if_false]
        simp[go_sem]
     ·rw[if_neg g4] at h
      have hCb:=K9 lvl (blk s a:Nat) 0 c [] .nilSlice .nilSlice id (az m id (rdP s (blk s a:Nat) bad 0))
      by_cases g5:c.toNat=91∨c.toNat=123
      ·rw[if_pos g5] at h
       rw[decide_eq_true g5] at hCb
       by_cases g6:lvl>40
       ·rw[if_pos g6] at h
        cases h
        have hf:=qX s (blk s a:Nat) bad 0 (blk s a:Nat) 21 id _ hm1
        simp only[iM,if_true,aj] at hf
        have h2:=fun (K2:IV→IM→Option (IV×IM))=>af hf (by simp[go_sem]) K2
        refine⟨.inr rfl,0,[],blk s a,hb.2,?_⟩
        apply eG
        simp only[F43,go_sem,h0,hCa,hCb,eD hm1,gC hm1,aE hix,q110,q116,q102,q34,g1,g2,g3,g4,decide_false,decide_eq_true g6,h2,gY,ah hnn,decide_true,if_true,Bool.false_eq_true,if_false]
        simp[go_sem]
       ·rw[if_neg g6] at h
        have hsa:=fun (K:IM→Option (IV×IM))=>wE hm1 ((blk s a+1:Nat):Int) K
        simp only[aj] at hsa
        have hm2:(az m id (rdP s (blk s a+1:Nat) bad 0)).get id=rdP s (blk s a+1:Nat) bad 0:=bO hm
        have hi:=hI _ lvl (blk s a+1) _ bad r h hl0 (by omega) hlt (by omega) hm2
        by_cases g7:c.toNat=91
        ·rw[decide_eq_false (show ¬c.toNat=123 by omega)] at hi
         simp only[kd,cl,Bool.false_eq_true,if_false] at hi
         rw[show ((93:UInt8).toNat:Int)=93 from rfl] at hi
         cases r with
         |ok v a' =>
          obtain⟨cc,hc,hX,hal⟩:=hi
          simp only[aj] at hX
          obtain⟨k,t,K,V,rfl,hK,hV,_,_⟩:=hc.cells
          have h2:=fun (K2:IV→IM→Option (IV×IM))=>af hX (by simp[go_sem]) K2
          refine⟨_,hc,?_,hal⟩
          apply eG
          simp only[F43,go_sem,h0,hCa,hCb,eD hm1,gC hm1,aE hix,q110,q116,q102,q34,q91,g1,g2,g3,g4,g6,decide_false,decide_eq_true g7,hw,hsa,h2,ah hK,ah hV,decide_true,if_true,Bool.false_eq_true,if_false]
          simp[go_sem,hK,hV]
         |err b e =>
          obtain⟨he,k,t,a',hal,hX⟩:=hi
          simp only[aj] at hX
          have h2:=fun (K2:IV→IM→Option (IV×IM))=>af hX (by simp[go_sem]) K2
          refine⟨he,k,t,a',hal,?_⟩
          apply eG
          simp only[F43,go_sem,h0,hCa,hCb,eD hm1,gC hm1,aE hix,q110,q116,q102,q34,q91,g1,g2,g3,g4,g6,decide_false,decide_eq_true g7,hw,hsa,h2,ah hnn,decide_true,if_true,Bool.false_eq_true,if_false]
          simp[go_sem]
        ·have g8:c.toNat=123:=by omega
         rw[decide_eq_true g8] at hi
         simp only[kd,cl,if_true] at hi
         rw[show ((125:UInt8).toNat:Int)=125 from rfl] at hi
         cases r with
         |ok v a' =>
          obtain⟨cc,hc,hX,hal⟩:=hi
          simp only[aj] at hX
          obtain⟨k,t,K,V,rfl,hK,hV,_,_⟩:=hc.cells
          have h2:=fun (K2:IV→IM→Option (IV×IM))=>af hX (by simp[go_sem]) K2
          refine⟨_,hc,?_,hal⟩
          apply eG
          simp only[F43,go_sem,h0,hCa,hCb,eD hm1,gC hm1,aE hix,q110,q116,q102,q34,q91,g1,g2,g3,g4,g6,g7,decide_false,hw,hsa,h2,ah hK,ah hV,decide_true,if_true,Bool.false_eq_true,if_false]
          simp[go_sem,hK,hV]
         |err b e =>
          obtain⟨he,k,t,a',hal,hX⟩:=hi
          simp only[aj] at hX
          have h2:=fun (K2:IV→IM→Option (IV×IM))=>af hX (by simp[go_sem]) K2
          refine⟨he,k,t,a',hal,?_⟩
          apply eG
          simp only[F43,go_sem,h0,hCa,hCb,eD hm1,gC hm1,aE hix,q110,q116,q102,q34,q91,g1,g2,g3,g4,g6,g7,decide_false,hw,hsa,h2,ah hnn,decide_true,if_true,Bool.false_eq_true,if_false]
          simp[go_sem]
      ·rw[if_neg g5] at h
       rw[decide_eq_false g5] at hCb
       have hCc:=KS (blk s a:Nat) 0 c [] .nilSlice .nilSlice id (az m id (rdP s (blk s a:Nat) bad 0))
       by_cases g6:c.toNat=45∨fQ c=true
       ·rw[if_pos g6] at h
        rw[decide_eq_true g6] at hCc
        have h74:=CG s (by omega) (blk s a) hb.2 (az m id (rdP s (blk s a:Nat) bad 0))
        have h2:=fun (K2:IV→IM→Option (IV×IM))=>af h74 (by simp[go_sem]) K2
        by_cases g7:(eR s (blk s a)).2=true
        ·rw[if_pos g7] at h
         cases h
         have hgt:=mI g7
         have hle:=uK (s:=s) hb.2
         rw[g7] at h2
         have hsa:=fun (K:IM→Option (IV×IM))=>wE hm1 (((eR s (blk s a)).1:Nat):Int) K
         simp only[aj] at hsa
         have hm3:(az m id (rdP s ((eR s (blk s a)).1:Nat) bad 0)).get id=rdP s ((eR s (blk s a)).1:Nat) bad 0:=bO hm
         have hsl:=Jt s (blk s a) ((eR s (blk s a)).1-blk s a) (by omega) (by omega)
         rw[show IntKind.i64.wrap (((blk s a:Nat):Int)+(((eR s (blk s a)).1-blk s a:Nat):Int))=(((eR s (blk s a)).1:Nat):Int) by rw[w64 (by omega) (by omega)];omega] at hsl
         refine⟨_,.mk (.inl ⟨rfl,rfl⟩) .nil,?_,hle⟩
         apply eG
         simp only[F43,go_sem,h0,hCa,hCb,hCc,eD hm1,gC hm1,gC hm3,aE hix,q110,q116,q102,q34,g1,g2,g3,g4,decide_false,h2,hsa,aE hsl,Bool.not_true,decide_true,if_true,Bool.false_eq_true,if_false]
         simp[go_sem]
        ·rw[if_neg g7] at h
         cases h
         have g7':(eR s (blk s a)).2=false:=by simpa using g7
         rw[g7'] at h2
         have hle:=uK (s:=s) hb.2
         have hf:=qX s (blk s a:Nat) bad 0 ((eR s (blk s a)).1:Nat) 19 id _ hm1
         simp only[iM,if_true,aj] at hf
         have h3:=fun (K2:IV→IM→Option (IV×IM))=>af hf (by simp[go_sem]) K2
         refine⟨.inl rfl,0,[],blk s a,hb.2,?_⟩
         apply eG
         simp only[F43,go_sem,h0,hCa,hCb,hCc,eD hm1,gC hm1,aE hix,q110,q116,q102,q34,g1,g2,g3,g4,decide_false,h2,h3,gY,ah hnn,Bool.not_false,decide_true,if_true,Bool.false_eq_true,if_false]
         simp[go_sem]
       ·rw[if_neg g6] at h
        rw[decide_eq_false g6] at hCc
        cases h
        refine⟨.inl rfl,0,[],blk s a,hb.2,?_⟩
        apply eG
        simp only[F43,go_sem,h0,hCa,hCb,hCc,eD hm1,gC hm1,aE hix,q110,q116,q102,q34,g1,g2,g3,g4,decide_false,hW,gY,ah hnn,decide_true,if_true,Bool.false_eq_true,if_false]
        simp[go_sem]
end Go.Idl
namespace Go.Idl
attribute [local go_sem] cn cu gI gS bn bU cC cU cV c6 dd c7 cf bG ct bC bF da cv bB dh bD aN aX aO aM aA dm dc cm cg dj cZ bY eC dk bZ dg cY c9 de cx cd ck bA b8 c8 bw aY bE bu cr aL aB aP ay cP cO bo aZ bp bP bq bR bt bQ List.flatMap_cons List.flatMap_nil
theorem sg (s:List UInt8) (hs:s.length≤30000) (id:Nat):∀n,HV s id n∧HI s id n∧HL s id n
 |0=>⟨fun _ _ _ _ _ h=>by simp[fZ] at h,fun _ _ _ _ _ _ h=>by simp[fl] at h,fun _ _ _ _ _ _ _ _ _ _ h=>by simp[gj] at h⟩
 |n+1=>by
  obtain⟨h1,h2,h3⟩:=sg s hs id n
  exact⟨xV s hs id n h2,xC s hs id n h3,zX s hs id n h1 h3⟩
theorem vE (s:List UInt8):∀(n a:Nat) (acc x:List UInt8) (a':Nat),iv s n a acc=some (.ok x a')→acc.length≤4*a→x.length≤4*a':=by
 intro n
 induction n with
 |zero=>intro a acc x a' h;cases h
 |succ n ih =>
  intro a acc x a' h hl
  unfold iv at h
  cases hq:s[a]? with
  |none=>rw[hq] at h;simp only[Option.some.injEq] at h;exact (a6 h).elim
  |some c =>
   rw[hq] at h
   simp only at h
   split at h
   ·simp only[Option.some.injEq] at h;exact (a6 h).elim
   ·split at h
    ·simp only[Option.some.injEq] at h
     obtain⟨rfl,rfl⟩:=Rd.ok.inj h
     omega
    ·split at h
     ·split at h
      ·simp only[Option.some.injEq] at h;exact (a6 h).elim
      ·rename_i x2 a2 hE
       have h1:=pU hE
       have h2:=qA hE
       exact ih _ _ _ _ h (by rw[List.length_append];omega)
     ·split at h
      ·exact ih _ _ _ _ h (by rw[List.length_append,List.length_take];omega)
      ·simp only[Option.some.injEq] at h;exact (a6 h).elim
theorem Cb {s:List UInt8}{n:Nat}{o:Bool}{a:Nat}{k:List (List UInt8)}{a':Nat}(h:lF s n o a=some (.ok k a')):(∀x,x∈k→x.length≤4*s.length)∧k.length≤1:=by
 unfold lF at h
 split at h
 ·split at h
  ·split at h
   ·cases h
   ·simp only[Option.some.injEq] at h;exact (a6 h).elim
   ·rename_i t a2 hS
    split at h
    ·simp only[Option.some.injEq] at h
     obtain⟨rfl,_⟩:=Rd.ok.inj h
     have h1:=vE _ _ _ _ _ _ hS (by simp)
     have h2:=oM _ _ _ _ _ _ hS
     refine⟨fun x hx=>?_,by simp⟩
     rw[List.mem_singleton] at hx
     subst hx
     omega
    ·simp only[Option.some.injEq] at h;exact (a6 h).elim
  ·simp only[Option.some.injEq] at h;exact (a6 h).elim
 ·simp only[Option.some.injEq] at h
  obtain⟨rfl,_⟩:=Rd.ok.inj h
  exact⟨fun x hx=>(List.not_mem_nil hx).elim,by simp⟩
theorem zu {vs:List Val}{v:Val}(h:okL vs) (hv:okV v):okL (vs++[v]):=by
 induction vs with
 |nil=>exact .cons hv .nil
 |cons a r ih=>cases h with | cons h1 h2=>exact .cons h1 (ih h2)
theorem tl {s w:List UInt8}{a a':Nat}{v v':Val}(h:gZ s w a v=.ok v' a') (hv:okV v):okV v':=by
 unfold gZ at h
 split at h
 ·obtain⟨rfl,_⟩:=Rd.ok.inj h;exact hv
 ·exact (a6 h).elim
theorem zb (s:List UInt8) (hs:s.length≤30000):∀(n:Nat),(∀lvl a v a',fZ s n lvl a=some (.ok v a')→a≤s.length→okV v)∧(∀o lvl a v a',fl s n o lvl a=some (.ok v a')→a≤s.length→okV v) ∧
  (∀o lvl a ks vs v a',gj s n o lvl a ks vs=some (.ok v a')→a≤s.length→ks.length≤a→vs.length≤a→(∀x,x∈ks→x.length≤4*s.length)→okL vs→okV v):=by
 intro n
 induction n with
 |zero=>refine⟨fun lvl a v a' h _=>?_,fun o lvl a v a' h _=>?_,fun o lvl a ks vs v a' h _ _ _ _ _=>?_⟩<;>simp[fZ,fl,gj] at h
 |succ n ih =>
  obtain⟨ihV,ihI,ihL⟩:=ih
  refine⟨?_,?_,?_⟩
  ·intro lvl a v a' h ha
   have hb:=dO ha
   unfold fZ at h
   cases hq:s[blk s a]? with
   |none=>rw[hq] at h;simp only[Option.some.injEq] at h;exact (a6 h).elim
   |some c =>
    rw[hq] at h
    simp only at h
    have hlt:=bL hq
    have plain:∀(k:Int) (t:List UInt8),t.length≤1000000→okV (.mk k t [] []):=fun k t ht=>.mk (by omega) (by simp) (fun x hx=>(List.not_mem_nil hx).elim) .nil (by simp)
    split at h
    ·simp only[Option.some.injEq] at h;exact tl h (plain _ _ (by simp))
    ·split at h
     ·simp only[Option.some.injEq] at h;exact tl h (plain _ _ (by simp))
     ·split at h
      ·simp only[Option.some.injEq] at h;exact tl h (plain _ _ (by simp))
      ·split at h
       ·split at h
        ·cases h
        ·simp only[Option.some.injEq] at h;exact (a6 h).elim
        ·rename_i t a2 hS
         simp only[Option.some.injEq] at h
         obtain⟨rfl,_⟩:=Rd.ok.inj h
         have h1:=vE _ _ _ _ _ _ hS (by simp)
         have h2:=oM _ _ _ _ _ _ hS
         exact plain _ _ (by omega)
       ·split at h
        ·split at h
         ·simp only[Option.some.injEq] at h;exact (a6 h).elim
         ·exact ihI _ _ _ _ _ h hlt
        ·split at h
         ·split at h
          ·simp only[Option.some.injEq] at h
           obtain⟨rfl,_⟩:=Rd.ok.inj h
           refine plain _ _ ?_
           rw[List.length_take,List.length_drop];omega
          ·simp only[Option.some.injEq] at h;exact (a6 h).elim
         ·simp only[Option.some.injEq] at h;exact (a6 h).elim
  ·intro o lvl a v a' h ha
   have hb:=dO ha
   unfold fl at h
   split at h
   ·simp only[Option.some.injEq] at h
    obtain⟨rfl,_⟩:=Rd.ok.inj h
    exact .mk (by simp) (by simp) (fun x hx=>(List.not_mem_nil hx).elim) .nil (by simp)
   ·exact ihL _ _ _ _ _ _ _ h hb.2 (by simp) (by simp) (fun x hx=>(List.not_mem_nil hx).elim) .nil
  ·intro o lvl a ks vs v a' h ha hkl hvl hks hvs
   unfold gj at h
   split at h
   ·cases h
   ·simp only[Option.some.injEq] at h;exact (a6 h).elim
   ·rename_i k a4 hk
    have hk2:=mK hk ha
    have hk3:=Cb hk
    split at h
    ·cases h
    ·simp only[Option.some.injEq] at h;exact (a6 h).elim
    ·rename_i v2 a5 hv
     have hv2:=(kb s n).1 _ _ _ _ hv hk2.2
     have hb:=dO hv2.2
     have hok:=ihV _ _ _ _ hv hk2.2
     have hks2:∀x,x∈ks++k→x.length≤4*s.length:=by
      intro x hx
      rcases List.mem_append.1 hx with hx | hx
      ·exact hks x hx
      ·exact hk3.1 x hx
     split at h
     ·simp only[Option.some.injEq] at h
      obtain⟨rfl,_⟩:=Rd.ok.inj h
      refine .mk (by simp) ?_ (fun x hx=>?_) (zu hvs hok) ?_
      ·rw[List.length_append];omega
      ·have:=hks2 x hx;omega
      ·rw[List.length_append];simp;omega
     ·split at h
      ·rename_i g
       exact ihL _ _ _ _ _ _ _ h (bL g) (by rw[List.length_append];omega) (by rw[List.length_append];simp;omega) hks2 (zu hvs hok)
      ·simp only[Option.some.injEq] at h;exact (a6 h).elim
def fo (s:List UInt8) (r:Rd Val):Val×Nat×Int:=match r with
 |.err b e=>(.mk 0 [] [] [],b,e)
 |.ok v a=>if blk s a<s.length then (.mk 0 [] [] [],blk s a,19) else if fk v≠0 then (.mk 0 [] [] [],0,fk v) else (v,0,0)
theorem jm (s:List UInt8) (a b e:Int) (m:IM):(bJ m (rdP s a b e)).get m.size=rdP s a b e:=gK _ _
set_option maxHeartbeats 1000000 in
theorem yH (s:List UInt8) (hs:s.length≤30000) (n:Nat) (r:Rd Val) (h:fZ s n 1 0=some r) (m:IM) :
  ∃c,ValR (fo s r).1 c∧cw (.f 13) [.str s] m=some (.tup [.agg c,.int .i64 ((fo s r).2.1:Nat),.int .i64 (fo s r).2.2],m):=by
 have hP:=(sg s hs m.size n).1 1 0 (bJ m (rdP s 0 0 0)) 0 r h (by omega) (by omega) (Nat.zero_le _) (jm _ _ _ _ _)
 have c0:¬(s.length:Int)>100000:=by omega
 have hnn:IV.nilSlice.refs=some 0:=rfl
 have hz:ValR (.mk 0 [] [] []) [.int .i64 0,.str [],.nilSlice,.nilSlice]:=.mk (.inl ⟨rfl,rfl⟩) .nil
 cases r with
 |err b e =>
  obtain⟨he,k,t,a',hal,hP⟩:=hP
  have he0:e≠0:=by rcases he with rfl | rfl<;>omega
  have he1:(e != 0)=true:=by simpa using he0
  simp only[eJ] at hP
  have h1:=fun (K2:IV→IM→Option (IV×IM))=>af hP (by simp[go_sem]) K2
  have hm1:=jm s a' b e m
  have h2:=fun (K2:IV→IM→Option (IV×IM))=>blC s (by omega) a' hal b e m.size _ hm1 K2
  simp only[eJ] at h2
  have hm2:=jm s (blk s a':Nat) b e m
  have h3:=fun (K2:IV→IM→Option LR)=>xR s (blk s a':Nat) b e he0 m.size _ hm2 K2
  have hC:∀n s1 v v1 n1 s2 v2 v3,j8 s m.size 0 n s1 v v1 n1 s2 v2 v3 (bJ m (rdP s (blk s a':Nat) b e))=some (.normal,[.pB m.size 0],[.cells [.int .i64 n,.str s1,v,v1] [.any,.any,.own 1,.own 4],.cells [.int .i64 n1,.str s2,v2,v3] [.any,.any,.any,.any]],bJ m (rdP s (blk s a':Nat) b e)):=by
   intro n s1 v v1 n1 s2 v2 v3
   by_cases g:((blk s a':Nat):Int)<(s.length:Int)
   ·simp[j8,go_sem,eD hm2,g,h3,gY]
   ·simp[j8,go_sem,eD hm2,g]
  refine⟨_,hz,?_⟩
  apply mJ
  simp only[rdP] at h1 h2 hC hm2
  simp only[F13,go_sem,c0,h1,h2,hC,ah hnn,decide_false,Bool.false_eq_true,if_false,if_true]
  rw[show (0+0+2:Nat)=2 from rfl,show (0+0+1:Nat)=1 from rfl]
  have hm3:(bJ m (BObj.cells [IV.int .i64 (blk s a':Nat),.int .i64 b,.int .i64 e,.str s] [.any,.any,.any,.any])).get m.size=rdP s (blk s a':Nat) b e:=hm2
  simp[go_sem,gB hm3,uy hm3,he1,he0,gf,fo]
 |ok v a =>
  obtain⟨c,hc,hP,hal⟩:=hP
  have hok:=(zb s hs n).1 _ _ _ _ h (Nat.zero_le _)
  obtain⟨k,t,K,V,rfl,hK,hV,_,_⟩:=hc.cells
  simp only[eJ] at hP
  have h1:=fun (K2:IV→IM→Option (IV×IM))=>af hP (by simp[go_sem]) K2
  have hm1:=jm s a 0 0 m
  have h2:=fun (K2:IV→IM→Option (IV×IM))=>blC s (by omega) a hal 0 0 m.size _ hm1 K2
  simp only[eJ] at h2
  have hm2:=jm s (blk s a:Nat) 0 0 m
  have hm3:(bJ m (BObj.cells [IV.int .i64 (blk s a:Nat),.int .i64 0,.int .i64 0,.str s] [.any,.any,.any,.any])).get m.size=rdP s (blk s a:Nat) 0 0:=hm2
  by_cases g:blk s a<s.length
  ·have g':((blk s a:Nat):Int)<(s.length:Int):=by omega
   have h3:=fun (K2:IV→IM→Option LR)=>qF s (blk s a:Nat) 0 m.size _ hm2 K2
   simp only[eJ] at h3
   have hC:∀n s1 v v1 n1 s2 v2 v3,j8 s m.size 0 n s1 v v1 n1 s2 v2 v3 (bJ m (rdP s (blk s a:Nat) 0 0))=some (.normal,[.pB m.size 0],[.cells [.int .i64 n,.str s1,v,v1] [.any,.any,.own 1,.own 4],.cells [.int .i64 n1,.str s2,v2,v3] [.any,.any,.any,.any]],bJ m (rdP s (blk s a:Nat) (blk s a:Nat) 19)):=by
    intro n s1 v v1 n1 s2 v2 v3
    simp[j8,go_sem,eD hm2,g',h3,gY]
   have hm4:(bJ m (BObj.cells [IV.int .i64 (blk s a:Nat),.int .i64 (blk s a:Nat),.int .i64 19,.str s] [.any,.any,.any,.any])).get m.size=rdP s (blk s a:Nat) (blk s a:Nat) 19:=jm _ _ _ _ _
   simp only[fo,if_pos g]
   refine⟨_,hz,?_⟩
   apply mJ
   simp only[rdP] at h1 h2 hC
   simp only[F13,go_sem,c0,h1,h2,hC,ah hK,ah hV,decide_false,Bool.false_eq_true,if_false,if_true]
   rw[show (0+0+2:Nat)=2 from rfl,show (0+0+1:Nat)=1 from rfl]
   simp[go_sem,gB hm4,uy hm4,gf]
  ·have g':¬((blk s a:Nat):Int)<(s.length:Int):=by omega
   have hC:∀n s1 v v1 n1 s2 v2 v3,j8 s m.size 0 n s1 v v1 n1 s2 v2 v3 (bJ m (rdP s (blk s a:Nat) 0 0))=some (.normal,[.pB m.size 0],[.cells [.int .i64 n,.str s1,v,v1] [.any,.any,.own 1,.own 4],.cells [.int .i64 n1,.str s2,v2,v3] [.any,.any,.any,.any]],bJ m (rdP s (blk s a:Nat) 0 0)):=by
    intro n s1 v v1 n1 s2 v2 v3
    simp[j8,go_sem,eD hm2,g']
   have h25:=yF v _ (bJ m (rdP s (blk s a:Nat) 0 0)) hc hok
   have h4:=fun (K2:IV→IM→Option (IV×IM))=>af h25 (by simp[go_sem,hK,hV]) K2
   simp only[fo,if_neg g]
   by_cases g2:fk v=0
   ·rw[if_neg (fun q=>q g2)]
    rw[g2] at h4
    refine⟨_,hc,?_⟩
    apply mJ
    simp only[rdP] at h1 h2 hC h4
    simp only[F13,go_sem,c0,h1,h2,hC,ah hK,ah hV,decide_false,Bool.false_eq_true,if_false,if_true]
    rw[show (0+0+2:Nat)=2 from rfl,show (0+0+1:Nat)=1 from rfl]
    simp[go_sem,gB hm3,uy hm3,h4,gf,hK,hV,ah hK,ah hV]
   ·rw[if_pos g2]
    have g3:(fk v != 0)=true:=by simpa using g2
    refine⟨_,hz,?_⟩
    apply mJ
    simp only[rdP] at h1 h2 hC h4
    simp only[F13,go_sem,c0,h1,h2,hC,ah hK,ah hV,decide_false,Bool.false_eq_true,if_false,if_true]
    rw[show (0+0+2:Nat)=2 from rfl,show (0+0+1:Nat)=1 from rfl]
    simp[go_sem,gB hm3,uy hm3,h4,g2,g3,gf,hK,hV,ah hK,ah hV]
end Go.Idl
namespace Go.Idl
attribute [local go_sem] cn cu gI gS bn bU cC cU cV c6 dd c7 cf bG ct bC bF da cv bB dh bD aN aX aO aM aA dm dc cm cg dj cZ bY eC dk bZ dg cY c9 de cx cd ck bA b8 c8 bw aY bE bu cr aL aB aP ay cP cO bo aZ bp bP bq bR bt bQ List.flatMap_cons List.flatMap_nil
section
variable {R:Type}{m:IM}{id:Nat}{s:List UInt8}{a bad e:Int}
end
section
variable {R:Type}{m:IM}{id:Nat}{s:List UInt8}
end
end Go.Idl
namespace Go.Idl
attribute [local go_sem] cn cu gI gS bn bU cC cU cV c6 dd c7 cf bG ct bC bF da cv bB dh bD aN aX aO aM aA dm dc cm cg dj cZ bY eC dk bZ dg cY c9 de cx cd ck bA b8 c8 bw aY bE bu cr aL aB aP ay cP cO bo aZ bp bP bq bR bt bQ List.flatMap_cons List.flatMap_nil
section
variable {R:Type}{m:IM}{id:Nat}{s:List UInt8}
end
end Go.Idl
namespace Go.Idl
attribute [local go_sem] cn cu gI gS bn bU cC cU cV c6 dd c7 cf bG ct bC bF da cv bB dh bD aN aX aO aM aA dm dc cm cg dj cZ bY eC dk bZ dg cY c9 de cx cd ck bA b8 c8 bw aY bE bu cr aL aB aP ay cP cO bo aZ bp bP bq bR bt bQ List.flatMap_cons List.flatMap_nil
section
variable {s:List UInt8}{id:Nat}{m:IM}
end
end Go.Idl
namespace Go.Idl
attribute [local go_sem] cn cu gI gS bn bU cC cU cV c6 dd c7 cf bG ct bC bF da cv bB dh bD aN aX aO aM aA dm dc cm cg dj cZ bY eC dk bZ dg cY c9 de cx cd ck bA b8 c8 bw aY bE bu cr aL aB aP ay cP cO bo aZ bp bP bq bR bt bQ List.flatMap_cons List.flatMap_nil
end Go.Idl
namespace Go.Idl
attribute [local go_sem] cn cu gI gS bn bU cC cU cV c6 dd c7 cf bG ct bC bF da cv bB dh bD aN aX aO aM aA dm dc cm cg dj cZ bY eC dk bZ dg cY c9 de cx cd ck bA b8 c8 bw aY bE bu cr aL aB aP ay cP cO bo aZ bp bP bq bR bt bQ List.flatMap_cons List.flatMap_nil
section
variable {R:Type}{m:IM}{id:Nat}{s:List UInt8}{a0 b0 e0:Int}
end
end Go.Idl
namespace Go.Idl
attribute [local go_sem] cn cu gI gS bn bU cC cU cV c6 dd c7 cf bG ct bC bF da cv bB dh bD aN aX aO aM aA dm dc cm cg dj cZ bY eC dk bZ dg cY c9 de cx cd ck bA b8 c8 bw aY bE bu cr aL aB aP ay cP cO bo aZ bp bP bq bR bt bQ List.flatMap_cons List.flatMap_nil
end Go.Idl
namespace Go.Idl
attribute [local go_sem] cn cu gI gS bn bU cC cU cV c6 dd c7 cf bG ct bC bF da cv bB dh bD aN aX aO aM aA dm dc cm cg dj cZ bY eC dk bZ dg cY c9 de cx cd ck bA b8 c8 bw aY bE bu cr aL aB aP ay cP cO bo aZ bp bP bq bR bt bQ List.flatMap_cons List.flatMap_nil
section
variable {R:Type}{m:IM}{id:Nat}{s:List UInt8}{a0 b0 e0:Int}
end
end Go.Idl
namespace Go.Idl
attribute [local go_sem] cn cu gI gS bn bU cC cU cV c6 dd c7 cf bG ct bC bF da cv bB dh bD aN aX aO aM aA dm dc cm cg dj cZ bY eC dk bZ dg cY c9 de cx cd ck bA b8 c8 bw aY bE bu cr aL aB aP ay cP cO bo aZ bp bP bq bR bt bQ List.flatMap_cons List.flatMap_nil
end Go.Idl
namespace Go.Idl
attribute [local go_sem] cn cu gI gS bn bU cC cU cV c6 dd c7 cf bG ct bC bF da cv bB dh bD aN aX aO aM aA dm dc cm cg dj cZ bY eC dk bZ dg cY c9 de cx cd ck bA b8 c8 bw aY bE bu cr aL aB aP ay cP cO bo aZ bp bP bq bR bt bQ List.flatMap_cons List.flatMap_nil
theorem Jz {K:IV}{ks:List (List UInt8)}(h:SlS K ks) (hb:ks.length≤1000000) (m:IM):∃K',SlS K' ks∧cw (.f 50) [K] m=some (K',m):=by
 have hml:ao=1099511627776:=rfl
 rcases h with ⟨rfl,rfl⟩ | rfl
 ·refine⟨.nilSlice,.inl ⟨rfl,rfl⟩,?_⟩
  apply rC
  simp[F50,tj,bS,go_sem]
 ·have hp:(ks.map IV.str).all IV.plain=true:=by
   rw[List.all_eq_true]
   intro x hx
   obtain⟨s,_,rfl⟩:=List.mem_map.1 hx
   rfl
  cases ks with
  |nil =>
   refine⟨.nilSlice,.inl ⟨rfl,rfl⟩,?_⟩
   apply rC
   simp[F50,tj,bS,go_sem]
  |cons k r =>
   refine⟨.sl ((k::r).map .str) (k::r).length,.inr rfl,?_⟩
   apply rC
   have hb2:(k::r).length*16≤ao:=by omega
   have hz:((k::r).length==0)=false:=rfl
   have hN:Nat.beq ((k::r).map IV.str).length ((k::r).length*1)=true:=by simp
   simp only[F50,tj,bS,gm hp,hN,bU,if_true,hz,decide_eq_true hb2,bn,Bool.false_eq_true,if_false]
   refine aL ?_
   have hr:=SlS.refs (.inr rfl:SlS (.sl ((k::r).map .str) (k::r).length) (k::r))
   simpa[IV.refsDeep] using hr
theorem Li {row:List IV}{n i:Nat}(h:i<n):POp.ev (.indexS 1) [.sl row n,.int .i64 (i:Int)]=some (.pI row (i*1)):=by
 have c1:(0:Int)≤(i:Int):=by omega
 have c2:(i:Int)<(n:Int):=by omega
 simp[POp.ev,c1,h]
theorem GO {K K':IV}{ks:List (List UInt8)}(h:SlS K ks) (h':SlS K' ks) (hb:ks.length≤1000000) (m:IM):cw (.f 49) [K,K'] m=some (.bool true,m):=by
 have hn:=kx h.refs (R:=IV×IM)
 have hn':=kx h'.refs (R:=IV×IM)
 have hq:=kx h.refs (R:=St⊕LR)
 have hq':=kx h'.refs (R:=St⊕LR)
 have L:∀(k i:Nat),ks.length=i+k→zl K K' i m=some (.exit 0,[],[],m):=by
  intro k
  induction k with
  |zero =>
   intro i hk
   have c1:¬(i:Int)<(ks.length:Int):=by omega
   rw[wF]
   simp[uY,go_sem,aE (pn h),c1]
  |succ k ih =>
   intro i hk
   have hi:i<ks.length:=by omega
   have c1:(i:Int)<(ks.length:Int):=by omega
   have e2:IntKind.i64.wrap ((i:Int)+1)=((i+1:Nat):Int):=by rw[w64 (by omega) (by omega)];rfl
   have hg:(ks.map IV.str)[i*1]?=some (.str ks[i]):=by simp[hi]
   have g:K=.sl (ks.map .str) ks.length:=by
    rcases h with ⟨_,rfl⟩ | h
    ·simp at hi
    ·exact h
   have g':K'=.sl (ks.map .str) ks.length:=by
    rcases h' with ⟨_,rfl⟩ | h'
    ·simp at hi
    ·exact h'
   have hs:=ih (i+1) (by omega)
   have step:nxt yT (uY K K' i m)=zl K K' (i+1:Nat) m:=by
    subst g
    subst g'
    generalize i+1=j at *
    simp only[uY,go_sem,aE (pn h),c1,decide_true,if_true,aE (Li hi),dD,hg,cV,BEq.rfl,Bool.not_true,Bool.false_eq_true,if_false,hq,hq',e2]
    try simp[go_sem,hq,e2]
    rfl
   rw[wF,step,hs]
 have hL:=L ks.length 0 (by omega)
 rw[show ((0:Nat):Int)=0 from rfl] at hL
 apply Dr
 simp[F49,go_sem,aE (pn h),aE (pn h'),hn,hn',hL]
def D16 (v:Val):Prop:=∀(c:List IV) (m:IM),ValR v c→okV v→∃c',ValR v c'∧cw (.f 16) [.agg c] m=some (.agg c',m)
theorem F9 (vs:List Val) (row:List IV) (hr:RowR vs row) (hok:okL vs) (hn:vs.length≤1000000) (ih:∀v,v∈vs→D16 v) (k:Int) (t:List UInt8) (K:IV) (m:IM):∀(j i:Nat) (V:IV),vs.length=i+j→SlV V (vs.take i) →
  ∃V',SlV V' vs∧za (.sl row vs.length) vs.length i 0 [] .nilSlice .nilSlice k t K V m=some (.exit 0,[],[bxW 0 [],.cells [.int .i64 k,.str t,K,V'] [.any,.any,.any,.own 4]],m):=by
 have hml:ao=1099511627776:=rfl
 intro j
 induction j with
 |zero =>
  intro i V hk hV
  have c1:¬(i:Int)<(vs.length:Int):=by omega
  rw[List.take_of_length_le (by omega)] at hV
  refine⟨V,hV,?_⟩
  rw[pv]
  simp[uZ,go_sem,c1,bxW]
 |succ j ihj =>
  intro i V hk hV
  have hi:i<vs.length:=by omega
  have c1:(i:Int)<(vs.length:Int):=by omega
  have e2:IntKind.i64.wrap ((i:Int)+1)=((i+1:Nat):Int):=by rw[w64 (by omega) (by omega)];rfl
  obtain⟨c,hc,hcut⟩:=hr.get i hi
  have hv:vs[i]∈vs:=List.getElem_mem hi
  obtain⟨c',hc',hcall⟩:=ih _ hv c m hc (hok.mem hv)
  obtain⟨a,t1,K1,V1,rfl,hK,hV1,_,_⟩:=hc.cells
  obtain⟨a',t2,K2,V2,rfl,hK2,hV2,hKp,hVp⟩:=hc'.cells
  have hcc:=fun (K2:IV→IM→Option (St⊕LR))=>af hcall (by simp[go_sem,hK,hV1]) K2
  obtain⟨V',hV',hap⟩:=hV.app hc' (by rw[List.length_take];omega)
  have hV'':SlV V' (vs.take (i+1)):=by rw[List.take_succ_eq_append_getElem hi];exact hV'
  obtain⟨W,hW,hL⟩:=ihj (i+1) V' (by omega) hV''
  refine⟨W,hW,?_⟩
  rw[pv,←hL]
  generalize i+1=i2 at *
  simp only[uZ,go_sem,c1,decide_true,if_true,aE (A6 hi),iF hcut,ah hK,ah hV1,hcc,gR hKp,gR hVp,hap,hV'.isSl,ah hV'.refs,gq,e2]
  rfl
theorem AZ (v:Val):D16 v:=by
 obtain⟨k,t,ks,vs⟩:=v
 intro c m hc hok
 have ih:∀v,v∈vs→D16 v:=fun v hv=>by
  have:SizeOf.sizeOf v<SizeOf.sizeOf vs:=List.sizeOf_lt_of_mem hv
  exact AZ v
 cases hc with
 | @mk _ _ _ _ K V hK hV =>
  cases hok with
  |mk h1 h2 h3 h4 h5 =>
   obtain⟨K',hK',h50⟩:=Jz hK h2 m
   have hcell:K.cells=[K]:=by rcases hK with ⟨rfl,_⟩ | rfl<;>rfl
   have h50c:=fun (K2:IV→IM→Option (IV×IM))=>af h50 (by simp[go_sem,hcell,hK.refs]) K2
   have hone:∀(X:Option (IV×IM)),Bm K' X=X:=fun X=>by rcases hK' with ⟨rfl,_⟩ | rfl<;>rfl
   have hlen:=hV.len
   have hnl:=kx hV.refs (R:=IV×IM)
   cases hV with
   |nil =>
    refine⟨_,.mk hK' .nil,?_⟩
    apply wM
    have hL:za .nilSlice 0 0 0 [] .nilSlice .nilSlice k t K' .nilSlice m=some (.exit 0,[],[bxW 0 [],.cells [.int .i64 k,.str t,K',.nilSlice] [.any,.any,.any,.own 4]],m):=by
     rw[pv]
     simp[uZ,go_sem,bxW]
    simp only[F16,ah hK.refs,ah (v:=.nilSlice) rfl,h50c,hone,ah hK'.refs,aE hlen,cC,hnl,show (((([]:List Val).length:Nat)):Int)=0 from rfl,hL,bxW]
    simp[go_sem,ah hK'.refs,hK'.refs]
    rfl
   | @sl _ row n hr hn =>
    subst hn
    obtain⟨V',hV',hL⟩:=F9 vs row hr h4 h5 ih k t K' m vs.length 0 .nilSlice (by omega) (by rw[List.take_zero];exact .nil)
    rw[show ((0:Nat):Int)=0 from rfl] at hL
    refine⟨_,.mk hK' hV',?_⟩
    apply wM
    simp only[F16,ah hK.refs,ah (SlV.refs (.sl hr rfl)),h50c,hone,ah hK'.refs,aE hlen,cC,hnl,hL,bxW]
    simp[go_sem,ah hK'.refs,ah hV'.refs,hK'.refs,hV'.refs]
termination_by SizeOf.sizeOf v
decreasing_by simp_wf;omega
def S15 (v:Val):Prop:=∀(c c':List IV) (m:IM),ValR v c→ValR v c'→okV v→cw (.f 15) [.agg c,.agg c'] m=some (.bool true,m)
theorem GY (vs:List Val) (hok:okL vs) (hn:vs.length≤1000000) (ih:∀v,v∈vs→S15 v) (k:Int) (t:List UInt8) (K K' V V':IV) (hV:SlV V vs) (hV':SlV V' vs) (m:IM):∀(j i:Nat),vs.length=i+j →
  Bq i k t K V k t K' V' m=some (.exit 0,[],[],m):=by
 intro j
 induction j with
 |zero =>
  intro i hk
  have c1:¬(i:Int)<(vs.length:Int):=by omega
  rw[wL]
  simp[yM,go_sem,aE hV.len,c1]
 |succ j ihj =>
  intro i hk
  have hi:i<vs.length:=by omega
  have c1:(i:Int)<(vs.length:Int):=by omega
  have e2:IntKind.i64.wrap ((i:Int)+1)=((i+1:Nat):Int):=by rw[w64 (by omega) (by omega)];rfl
  have hlen:=hV.len
  have hs:=ihj (i+1) (by omega)
  cases hV with
  |nil=>simp at hi
  | @sl _ row _ hr h1 =>
   subst h1
   cases hV' with
   |nil=>simp at hi
   | @sl _ row' _ hr' h1 =>
    subst h1
    obtain⟨c,hc,hcut⟩:=hr.get i hi
    obtain⟨c',hc',hcut'⟩:=hr'.get i hi
    have hv:vs[i]∈vs:=List.getElem_mem hi
    have hcall:=ih _ hv c c' m hc hc' (hok.mem hv)
    obtain⟨a1,t1,K1,V1,rfl,hK1,hV1,_,_⟩:=hc.cells
    obtain⟨a2,t2,K2,V2,rfl,hK2,hV2,_,_⟩:=hc'.cells
    have hcc:=fun (Q:IV→IM→Option (St⊕LR))=>af hcall (by simp[go_sem,hK1,hV1,hK2,hV2]) Q
    rw[wL,←hs]
    generalize i+1=i2 at *
    simp only[yM,go_sem,aE hlen,c1,decide_true,if_true,aE (A6 hi),iF hcut,iF hcut',hcc,Bool.not_true,Bool.false_eq_true,if_false,e2]
    rfl
theorem BM (v:Val):S15 v:=by
 obtain⟨k,t,ks,vs⟩:=v
 intro c c' m hc hc' hok
 have ih:∀v,v∈vs→S15 v:=fun v hv=>by
  have:SizeOf.sizeOf v<SizeOf.sizeOf vs:=List.sizeOf_lt_of_mem hv
  exact BM v
 cases hc with
 | @mk _ _ _ _ K V hK hV =>
  cases hc' with
  | @mk _ _ _ _ K' V' hK' hV' =>
   cases hok with
   |mk h1 h2 h3 h4 h5 =>
    have h49:=GO hK hK' h2 m
    have hcell:K.cells=[K]:=by rcases hK with ⟨rfl,_⟩ | rfl<;>rfl
    have hcell':K'.cells=[K']:=by rcases hK' with ⟨rfl,_⟩ | rfl<;>rfl
    have h49c:=fun (Q:IV→IM→Option LR)=>af h49 (by simp[go_sem,hcell,hcell',hK.refs,hK'.refs]) Q
    have hL:=GY vs h4 h5 ih k t K K' V V' hV hV' m vs.length 0 (by omega)
    rw[show ((0:Nat):Int)=0 from rfl] at hL
    apply B0
    simp only[F15,Bl,go_sem,ah hK.refs,ah hV.refs,ah hK'.refs,ah hV'.refs,bne_self_eq_false,BEq.rfl,Bool.not_true,Bool.false_eq_true,if_false,h49c,aE hV.len,aE hV'.len,hL]
    try simp[go_sem]
termination_by SizeOf.sizeOf v
decreasing_by simp_wf;omega
end Go.Idl
namespace Go.Idl
theorem tc (s:List UInt8):∀(n a:Nat) (acc:List UInt8),1≤n→s.length<a+n→∃r,iv s n a acc=some r:=by
 intro n
 induction n with
 |zero=>intro a acc h;omega
 |succ n ih =>
  intro a acc _ h
  unfold iv
  cases hq:s[a]? with
  |none=>exact⟨_,rfl⟩
  |some c =>
   have hlt:=bL hq
   simp only
   split
   ·exact⟨_,rfl⟩
   ·split
    ·exact⟨_,rfl⟩
    ·split
     ·cases hE:mT s (a+1) with
      |err b e=>exact⟨_,rfl⟩
      |ok x a' =>
       have:=qA hE
       exact ih a' _ (by omega) (by omega)
     ·split
      ·rename_i g
       have:=iB (s.drop a) g
       exact ih _ _ (by omega) (by omega)
      ·exact⟨_,rfl⟩
theorem AE (s:List UInt8) (n:Nat) (o:Bool) (a:Nat) (ha:a≤s.length) (hn:1≤n) (h:s.length<a+1+n):∃r,lF s n o a=some r:=by
 have hb:=dO ha
 unfold lF
 split
 ·split
  ·obtain⟨q,hq⟩:=tc s n (blk s a+1) [] hn (by omega)
   rw[hq]
   cases q with
   |err b c=>exact⟨_,rfl⟩
   |ok t a2 =>
    simp only
    split<;>exact⟨_,rfl⟩
  ·exact⟨_,rfl⟩
 ·exact⟨_,rfl⟩
theorem Ah (s:List UInt8):∀n,(∀lvl a,a≤s.length→3*s.length+1≤3*a+n→∃r,fZ s n lvl a=some r)∧(∀o lvl a,a≤s.length→3*s.length+3≤3*a+n→∃r,fl s n o lvl a=some r)∧(∀o lvl a ks vs,a≤s.length→3*s.length+2≤3*a+n→∃r,gj s n o lvl a ks vs=some r):=by
 intro n
 induction n with
 |zero=>exact⟨fun _ a h1 h2=>by omega,fun _ _ a h1 h2=>by omega,fun _ _ a _ _ h1 h2=>by omega⟩
 |succ n ih =>
  obtain⟨i1,i2,i3⟩:=ih
  refine⟨?_,?_,?_⟩
  ·intro lvl a ha h
   have hb:=dO ha
   unfold fZ
   cases hq:s[blk s a]? with
   |none=>exact⟨_,rfl⟩
   |some c =>
    have hlt:=bL hq
    simp only
    split
    ·exact⟨_,rfl⟩
    ·split
     ·exact⟨_,rfl⟩
     ·split
      ·exact⟨_,rfl⟩
      ·split
       ·obtain⟨q,hq⟩:=tc s n (blk s a+1) [] (by omega) (by omega)
        rw[hq]
        cases q<;>exact⟨_,rfl⟩
       ·split
        ·split
         ·exact⟨_,rfl⟩
         ·exact i2 _ _ _ (by omega) (by omega)
        ·split
         ·split<;>exact⟨_,rfl⟩
         ·exact⟨_,rfl⟩
  ·intro o lvl a ha h
   have hb:=dO ha
   unfold fl
   split
   ·exact⟨_,rfl⟩
   ·exact i3 _ _ _ _ _ hb.2 (by omega)
  ·intro o lvl a ks vs ha h
   unfold gj
   obtain⟨q,hq⟩:=AE s n o a ha (by omega) (by omega)
   rw[hq]
   cases q with
   |err b e=>exact⟨_,rfl⟩
   |ok k a4 =>
    have hk:=mK hq ha
    obtain⟨q,hv⟩:=i1 (lvl+1) a4 hk.2 (by omega)
    simp only[hv]
    cases q with
    |err b e=>exact⟨_,rfl⟩
    |ok v a5 =>
     have hv5:=(kb s n).1 _ _ _ _ hv hk.2
     have hb5:=dO hv5.2
     simp only
     split
     ·exact⟨_,rfl⟩
     ·split
      ·rename_i g
       exact i3 _ _ _ _ _ (bL g) (by omega)
      ·exact⟨_,rfl⟩
theorem Au (s:List UInt8) (hs:s.length≤30000) (n:Nat) (r:Rd Val) (h:fZ s n 1 0=some r):okV (fo s r).1:=by
 have hz:okV (.mk 0 [] [] []):=.mk (by simp) (by simp) (by simp) .nil (by simp)
 cases r with
 |err b e=>exact hz
 |ok v a =>
  have hok:=(zb s hs n).1 _ _ _ _ h (Nat.zero_le _)
  simp only[fo]
  split
  ·exact hz
  ·split
   ·exact hz
   ·exact hok
end Go.Idl
namespace Go.Idl
set_option maxRecDepth 100000
theorem f82:tab.fns 82=some i82:=by rfl
theorem p82:ae 82=none:=by rfl
def KP:Tys:=tyG [(.one .ptr0,[0]),(.agg [.int .i64,.str,.sl,.sl],[1,12]),(.one (.int .i64),[2,8,13]),(.one .own,[4,7]),(.agg [.any,.any,.any,.any,.any,.any],[6]),(.agg [.any],[9]),(.one .ptr,[11]),(.tup [],[14])]
def LF:Pl:=.z
noncomputable def F82 (w:Nat) (v:Int) (v1:List UInt8) (v2 v3:IV) (level:Int) (m:IM):Option (IV×IM):=bm v2 (bm v3 (aw cw (.f 106) [] [] m fun v0 m1=>asA v0 fun l2=>unc l2 fun v3_1 l4=>unc l4 fun v5 l6=>unc l6 fun v7 l8=>unc l8 fun v9 l10=>unc l10 fun v11 l12=>unc l12 fun v13 l14=>unn l14 (evC (.idxArr 6 true 1) [.agg [v3_1,v5,v7,v9,v11,v13],.int .i64 v] fun v15=>asA v15 fun l16=>unc l16 fun v17 l18=>unn l18 (tZ cw v17 [.pB w 0,.agg [.int .i64 v,.str v1,v2,v3],.int .i64 level] [] m1 fun v19 m20=>asT v19 fun l21=>unn l21 (settle m m20 (.tup []))))))
theorem HX (w:Nat) (v:Int) (v1:List UInt8) (v2 v3:IV) (level:Int) (m:IM):fK KP LF i82 cw [.pB w 0,.agg [.int .i64 v,.str v1,v2,v3],.int .i64 level] m=F82 w v v1 v2 v3 level m:=by kernel_rfl
theorem Dg (w:Nat) (v:Int) (v1:List UInt8) (v2 v3:IV) (level:Int) (m:IM) {res:IV×IM}(h:F82 w v v1 v2 v3 level m=some res):cw (.f 82) [.pB w 0,.agg [.int .i64 v,.str v1,v2,v3],.int .i64 level] m=some res:=a8 p82 f82 ((HX w v v1 v2 v3 level m).trans h)
theorem f106:tab.fns 106=some i106:=by rfl
theorem p106:ae 106=none:=by rfl
def KE:Tys:=tyG [(.one .own,[0]),(.agg [.any],[1,2,3,4,5,6]),(.agg [.any,.any,.any,.any,.any,.any],[7])]
def JZ:Pl:=.z
noncomputable def Kr (m:IM):Option (IV×IM):=settle m m (.agg [.func 126 [] [],.func 127 [] [],.func 127 [] [],.func 128 [] [],.func 129 [] [],.func 130 [] []])
theorem DN (m:IM):fK KE JZ i106 cw [] m=Kr m:=by kernel_rfl
theorem AD (m:IM) {res:IV×IM}(h:Kr m=some res):cw (.f 106) [] m=some res:=a8 p106 f106 ((DN m).trans h)
theorem f126:tab.fns 126=some i126:=by rfl
theorem p126:ae 126=none:=by rfl
def Ke:Tys:=tyG [(.one .ptr0,[0]),(.agg [.int .i64,.str,.sl,.sl],[1]),(.one (.int .i64),[2]),(.one .own,[4]),(.one .ptr,[6,7,8,9,12,13]),(.one .sl,[10,11])]
def J0:Pl:=.z
noncomputable def GA (w:Nat) (n:Int) (s:List UInt8) (v v1:IV) (n1:Int) (m:IM):Option (IV×IM):=bm v (bm v1 (eS m w fun l0 x1=>dD false l0 2 1 fun v2=>fU (aa [110,117,108,108]) (grd (Nat.beq (List.length (aa [110,117,108,108])) (List.length [110,117,108,108]*1)) (iT m w 2 v2 1 1 (aa [110,117,108,108]) 4 fun v3 m4=>isSl v3 (stP m4 (.pB w 2) [v3] (.own 1) fun m5=>settle m m5 (.tup []))))))
theorem DV (w:Nat) (n:Int) (s:List UInt8) (v v1:IV) (n1:Int) (m:IM):fK Ke J0 i126 cw [.pB w 0,.agg [.int .i64 n,.str s,v,v1],.int .i64 n1] m=GA w n s v v1 n1 m:=by kernel_rfl
theorem zH (w:Nat) (n:Int) (s:List UInt8) (v v1:IV) (n1:Int) (m:IM) {res:IV×IM}(h:GA w n s v v1 n1 m=some res):cw (.f 126) [.pB w 0,.agg [.int .i64 n,.str s,v,v1],.int .i64 n1] m=some res:=a8 p126 f126 ((DV w n s v v1 n1 m).trans h)
theorem f127:tab.fns 127=some i127:=by rfl
theorem p127:ae 127=none:=by rfl
def JR:Tys:=tyG [(.one .ptr0,[0]),(.agg [.int .i64,.str,.sl,.sl],[1]),(.one (.int .i64),[2]),(.one .own,[4,11]),(.one .ptr,[6,7,8,9,14,15]),(.one .sl,[10,13]),(.one .str,[12])]
def JX:Pl:=.z
noncomputable def HB (w:Nat) (v:Int) (v1:List UInt8) (v2 v3:IV) (n:Int) (m:IM):Option (IV×IM):=bm v2 (bm v3 (grd (Nat.beq w w) (eS m w fun l0 x1=>dD false l0 2 1 fun v2=>fU (aa v1) (grd (Nat.beq (List.length (aa v1)) (List.length v1*1)) (iT m w 2 v2 1 1 (aa v1) (List.length v1) fun v3 m4=>isSl v3 (stP m4 (.pB w 2) [v3] (.own 1) fun m5=>settle m m5 (.tup [])))))))
theorem EP (w:Nat) (v:Int) (v1:List UInt8) (v2 v3:IV) (n:Int) (m:IM):fK JR JX i127 cw [.pB w 0,.agg [.int .i64 v,.str v1,v2,v3],.int .i64 n] m=HB w v v1 v2 v3 n m:=by kernel_rfl
theorem zD (w:Nat) (v:Int) (v1:List UInt8) (v2 v3:IV) (n:Int) (m:IM) {res:IV×IM}(h:HB w v v1 v2 v3 n m=some res):cw (.f 127) [.pB w 0,.agg [.int .i64 v,.str v1,v2,v3],.int .i64 n] m=some res:=a8 p127 f127 ((EP w v v1 v2 v3 n m).trans h)
theorem f128:tab.fns 128=some i128:=by rfl
theorem p128:ae 128=none:=by rfl
def JU:Tys:=tyG [(.one .ptr0,[0]),(.agg [.int .i64,.str,.sl,.sl],[1]),(.one (.int .i64),[2]),(.one .own,[4,7]),(.one .ptr,[6]),(.one .str,[8]),(.tup [],[9])]
def Ky:Pl:=.z
noncomputable def Hg (w:Nat) (v:Int) (v1:List UInt8) (v2 v3:IV) (n:Int) (m:IM):Option (IV×IM):=bm v2 (bm v3 (aw cw (.f 152) [.pB w 0,.str v1] [] m fun v0 m1=>asT v0 fun l2=>unn l2 (settle m m1 (.tup []))))
theorem Ep (w:Nat) (v:Int) (v1:List UInt8) (v2 v3:IV) (n:Int) (m:IM):fK JU Ky i128 cw [.pB w 0,.agg [.int .i64 v,.str v1,v2,v3],.int .i64 n] m=Hg w v v1 v2 v3 n m:=by kernel_rfl
theorem AR (w:Nat) (v:Int) (v1:List UInt8) (v2 v3:IV) (n:Int) (m:IM) {res:IV×IM}(h:Hg w v v1 v2 v3 n m=some res):cw (.f 128) [.pB w 0,.agg [.int .i64 v,.str v1,v2,v3],.int .i64 n] m=some res:=a8 p128 f128 ((Ep w v v1 v2 v3 n m).trans h)
theorem f129:tab.fns 129=some i129:=by rfl
theorem p129:ae 129=none:=by rfl
def JL:Tys:=tyG [(.one .ptr0,[0]),(.agg [.int .i64,.str,.sl,.sl],[1,7]),(.one (.int .i64),[2,8]),(.one .own,[4]),(.one .ptr,[6]),(.tup [],[9])]
def Kl:Pl:=.z
noncomputable def Hp (w:Nat) (v:Int) (v1:List UInt8) (v2 v3:IV) (level:Int) (m:IM):Option (IV×IM):=bm v2 (bm v3 (aw cw (.f 153) [.pB w 0,.agg [.int .i64 v,.str v1,v2,v3],.str [91,93],.int .i64 level] [] m fun v0 m1=>asT v0 fun l2=>unn l2 (settle m m1 (.tup []))))
theorem El (w:Nat) (v:Int) (v1:List UInt8) (v2 v3:IV) (level:Int) (m:IM):fK JL Kl i129 cw [.pB w 0,.agg [.int .i64 v,.str v1,v2,v3],.int .i64 level] m=Hp w v v1 v2 v3 level m:=by kernel_rfl
theorem zG (w:Nat) (v:Int) (v1:List UInt8) (v2 v3:IV) (level:Int) (m:IM) {res:IV×IM}(h:Hp w v v1 v2 v3 level m=some res):cw (.f 129) [.pB w 0,.agg [.int .i64 v,.str v1,v2,v3],.int .i64 level] m=some res:=a8 p129 f129 ((El w v v1 v2 v3 level m).trans h)
theorem f130:tab.fns 130=some i130:=by rfl
theorem p130:ae 130=none:=by rfl
def J6:Tys:=tyG [(.one .ptr0,[0]),(.agg [.int .i64,.str,.sl,.sl],[1,7]),(.one (.int .i64),[2,8]),(.one .own,[4]),(.one .ptr,[6]),(.tup [],[9])]
def J7:Pl:=.z
noncomputable def F6 (w:Nat) (v:Int) (v1:List UInt8) (v2 v3:IV) (level:Int) (m:IM):Option (IV×IM):=bm v2 (bm v3 (aw cw (.f 153) [.pB w 0,.agg [.int .i64 v,.str v1,v2,v3],.str [123,125],.int .i64 level] [] m fun v0 m1=>asT v0 fun l2=>unn l2 (settle m m1 (.tup []))))
theorem DL (w:Nat) (v:Int) (v1:List UInt8) (v2 v3:IV) (level:Int) (m:IM):fK J6 J7 i130 cw [.pB w 0,.agg [.int .i64 v,.str v1,v2,v3],.int .i64 level] m=F6 w v v1 v2 v3 level m:=by kernel_rfl
theorem zQ (w:Nat) (v:Int) (v1:List UInt8) (v2 v3:IV) (level:Int) (m:IM) {res:IV×IM}(h:F6 w v v1 v2 v3 level m=some res):cw (.f 130) [.pB w 0,.agg [.int .i64 v,.str v1,v2,v3],.int .i64 level] m=some res:=a8 p130 f130 ((DL w v v1 v2 v3 level m).trans h)
theorem f152:tab.fns 152=some i152:=by rfl
theorem p152:ae 152=none:=by rfl
def uS:Tys:=tyG [(.one .ptr0,[0]),(.one .str,[1,17,22]),(.one (.int .i64),[4,18,19,21,23,26,49,85]),(.one (.int .u8),[5,24,30,31,44,50,65,66,67,68,69,70,80]),(.one .own,[7,29,43]),(.one .ptr,[8,9,10,11,15,16,38,39,40,41,47,48,52,53,54,55,58,59,60,61,62,63,73,74,75,76,77,78,83,84,86,87,88,89,93,94]),(.one .sl,[12,13,14,42,45,46,56,57,64,71,72,79,81,82,90,91,92]),(.one .bool,[20,32,33,36,37,51]),(.agg [.int .u8,.int .u8,.int .u8,.int .u8,.int .u8,.int .u8,.int .u8,.int .u8,.int .u8,.int .u8,.int .u8,.int .u8,.int .u8,.int .u8,.int .u8,.int .u8],[25]),(.agg [.int .u8,.int .u8],[28,34,35])]
def EB:XP:=[⟨.normal,[(0,.any),(1,.any),(5,.any),(18,.any),(19,.any),(25,.any),(26,.any),(37,.any)],[.cells 0 [.int .u8,.int .u8] [.any,.any]],[(7,0,0)]⟩]
def C3:XP:=[⟨(.exit 2),[(0,.any),(1,.any),(5,.any),(18,.any),(19,.any)],[],[]⟩,⟨(.exit 1),[(0,.any),(1,.any),(18,.any),(19,.any)],[.dead 0],[]⟩]
def BV:Pl:=(.n none .z (.n none .z (.n none (.n none (.n none .z (.n (some EB) .z .z)) .z) .z)))
def Er:XP:=[⟨.normal,[(0,.any),(1,.any),(18,.any),(19,.any)],[.dead 0],[]⟩]
def Bo:XP:=[⟨(.exit 0),[(0,.any)],[],[]⟩]
def Bb:Pl:=(.n none .z (.n none .z (.n (some Er) (.n none (.n none .z (.n none .z (.n none (.n none .z (.n none (.n (some C3) BV .z) .z)) .z))) .z) .z)))
def J4:Pl:=(.n none .z (.n none .z (.n none (.n none .z (.n none (.n (some Bo) Bb .z) .z)) .z)))
noncomputable def mN (w:Nat) (s:List UInt8) (c n:Int) (n1 n2:Int) (n3 n4:Int) (n5 n6:Int) (n7 n8:Int) (n9 n10:Int) (n11 n12:Int) (n13 n14:Int) (n15 n16:Int) (n17 n18:Int) (n19 n20:Int) (m:IM):Option LR:=aR (n20==c) (evC (.eqAgg true [(0,.int),(1,.int)]) [.agg [.int .u8 n19,.int .u8 n20],.agg [.int .u8 47,.int .u8 47]] fun v0=>asB v0 fun b1=>some (.normal,[.pB w 0,.str s,.int .u8 c,.int .i64 n,.int .i64 n1,.agg [.int .u8 n2,.int .u8 n3,.int .u8 n4,.int .u8 n5,.int .u8 n6,.int .u8 n7,.int .u8 n8,.int .u8 n9,.int .u8 n10,.int .u8 n11,.int .u8 n12,.int .u8 n13,.int .u8 n14,.int .u8 n15,.int .u8 n16,.int .u8 n17],.int .i64 n18,.bool b1],[.cells [.int .u8 n19,.int .u8 n20] [.any,.any]],m)) (some (.normal,[.pB w 0,.str s,.int .u8 c,.int .i64 n,.int .i64 n1,.agg [.int .u8 n2,.int .u8 n3,.int .u8 n4,.int .u8 n5,.int .u8 n6,.int .u8 n7,.int .u8 n8,.int .u8 n9,.int .u8 n10,.int .u8 n11,.int .u8 n12,.int .u8 n13,.int .u8 n14,.int .u8 n15,.int .u8 n16,.int .u8 n17],.int .i64 n18,.bool false],[.cells [.int .u8 n19,.int .u8 n20] [.any,.any]],m))
noncomputable def tv:St→Option (St⊕LR):=fun s=>CM.den uS cw (St⊕LR) BV s (iU uS Ba C3)
noncomputable def qE (w:Nat) (s:List UInt8) (c n:Int) (n1 n2:Int) (n3 n4:Int) (n5 n6:Int) (n7 n8:Int) (n9 n10:Int) (n11 n12:Int) (n13 n14:Int) (n15 n16:Int) (n17 n18:Int) (m:IM):Option LR:=iter tv (St.mk [(0,.pB w 0,.any),(1,.str s,.any),(5,.int .u8 c,.any),(18,.int .i64 n,.any),(19,.int .i64 n1,.any),(25,.agg [.int .u8 n2,.int .u8 n3,.int .u8 n4,.int .u8 n5,.int .u8 n6,.int .u8 n7,.int .u8 n8,.int .u8 n9,.int .u8 n10,.int .u8 n11,.int .u8 n12,.int .u8 n13,.int .u8 n14,.int .u8 n15,.int .u8 n16,.int .u8 n17],.any),(26,.int .i64 n18,.any)] [] [] m)
noncomputable def nO (w:Nat) (s:List UInt8) (c n:Int) (n1 n2:Int) (n3 n4:Int) (n5 n6:Int) (n7 n8:Int) (n9 n10:Int) (n11 n12:Int) (n13 n14:Int) (n15 n16:Int) (n17 n18:Int) (m:IM):Option (St⊕LR):=aR (decide (n18<8)) (evC (.idxArr 8 true 2) [.agg [.int .u8 n2,.int .u8 n3,.int .u8 n4,.int .u8 n5,.int .u8 n6,.int .u8 n7,.int .u8 n8,.int .u8 n9,.int .u8 n10,.int .u8 n11,.int .u8 n12,.int .u8 n13,.int .u8 n14,.int .u8 n15,.int .u8 n16,.int .u8 n17],.int .i64 n18] fun v0=>asA v0 fun l1=>uI .u8 l1 fun n4_1 l3=>uI .u8 l3 fun n7_1 l6=>unn l6 (cI (mN w s c n n1 n2 n3 n4 n5 n6 n7 n8 n9 n10 n11 n12 n13 n14 n15 n16 n17 n18 n4_1 n7_1 m) fun e8 l9 o10 m11=>exC .normal e8 (unc l9 fun v12 l13=>gE v12 fun k14=>unc l13 fun v15 l16=>asS v15 fun s17=>uI .u8 l16 fun n20 l19=>uI .i64 l19 fun n23 l22=>uI .i64 l22 fun n26 l25=>unc l25 fun v27 l28=>asA v27 fun l29=>uI .u8 l29 fun n32 l31=>uI .u8 l31 fun n35 l34=>uI .u8 l34 fun n38 l37=>uI .u8 l37 fun n41 l40=>uI .u8 l40 fun n44 l43=>uI .u8 l43 fun n47 l46=>uI .u8 l46 fun n50 l49=>uI .u8 l49 fun n53 l52=>uI .u8 l52 fun n56 l55=>uI .u8 l55 fun n59 l58=>uI .u8 l58 fun n62 l61=>uI .u8 l61 fun n65 l64=>uI .u8 l64 fun n68 l67=>uI .u8 l67 fun n71 l70=>uI .u8 l70 fun n74 l73=>uI .u8 l73 fun n77 l76=>unn l76 (uI .i64 l28 fun n80 l79=>unc l79 fun v81 l82=>asB v81 fun b83=>unn l82 (unb o10 fun x84 o85=>asC x84 fun l86=>uI .u8 l86 fun n89 l88=>uI .u8 l88 fun n92 l91=>unn l91 (dL o85 (aR b83 (grd (Nat.beq k14 k14) (eS m11 k14 fun l93 x94=>dD false l93 2 1 fun v95=>iT m11 k14 2 v95 1 1 [.int .u8 92,.int .u8 n89] 2 fun v96 m97=>isSl v96 (stP m97 (.pB k14 2) [v96] (.own 1) fun m98=>some (.inr (.exit 1,[.pB k14 0,.str s17,.int .i64 n23,.int .i64 n26],[],m98))))) (some (.inl (St.mk [(0,.pB k14 0,.any),(1,.str s17,.any),(5,.int .u8 n20,.any),(18,.int .i64 n23,.any),(19,.int .i64 n26,.any),(25,.agg [.int .u8 n32,.int .u8 n35,.int .u8 n38,.int .u8 n41,.int .u8 n44,.int .u8 n47,.int .u8 n50,.int .u8 n53,.int .u8 n56,.int .u8 n59,.int .u8 n62,.int .u8 n65,.int .u8 n68,.int .u8 n71,.int .u8 n74,.int .u8 n77],.any),(26,.int .i64 (IntKind.wrap .i64 (n80+1)),.any)] [] [] m11)))))))) none)) (some (.inr (.exit 2,[.pB w 0,.str s,.int .u8 c,.int .i64 n,.int .i64 n1],[],m)))
theorem Ag (w:Nat) (s:List UInt8) (c n:Int) (n1 n2:Int) (n3 n4:Int) (n5 n6:Int) (n7 n8:Int) (n9 n10:Int) (n11 n12:Int) (n13 n14:Int) (n15 n16:Int) (n17 n18:Int) (m:IM):tv (St.mk [(0,.pB w 0,.any),(1,.str s,.any),(5,.int .u8 c,.any),(18,.int .i64 n,.any),(19,.int .i64 n1,.any),(25,.agg [.int .u8 n2,.int .u8 n3,.int .u8 n4,.int .u8 n5,.int .u8 n6,.int .u8 n7,.int .u8 n8,.int .u8 n9,.int .u8 n10,.int .u8 n11,.int .u8 n12,.int .u8 n13,.int .u8 n14,.int .u8 n15,.int .u8 n16,.int .u8 n17],.any),(26,.int .i64 n18,.any)] [] [] m)=nO w s c n n1 n2 n3 n4 n5 n6 n7 n8 n9 n10 n11 n12 n13 n14 n15 n16 n17 n18 m:=by kernel_rfl
theorem sP (w:Nat) (s:List UInt8) (c n:Int) (n1 n2:Int) (n3 n4:Int) (n5 n6:Int) (n7 n8:Int) (n9 n10:Int) (n11 n12:Int) (n13 n14:Int) (n15 n16:Int) (n17 n18:Int) (m:IM):qE w s c n n1 n2 n3 n4 n5 n6 n7 n8 n9 n10 n11 n12 n13 n14 n15 n16 n17 n18 m=nxt tv (nO w s c n n1 n2 n3 n4 n5 n6 n7 n8 n9 n10 n11 n12 n13 n14 n15 n16 n17 n18 m):=by rw[←Ag];exact eH _ _
noncomputable def mF (w:Nat) (s:List UInt8) (n n1:Int) (m:IM):Option LR:=evC .idxStr [.str s,.int .i64 n1] fun v0=>asI .u8 v0 fun n1_1=>cI (qE w s n1_1 n n1 34 34 92 92 47 47 98 8 102 12 110 10 114 13 116 9 0 m) fun e2 l3 o4 m5=>exC (.exit 2) e2 (unc l3 fun v6 l7=>gE v6 fun k8=>unc l7 fun v9 l10=>asS v9 fun s11=>uI .u8 l10 fun n14 l13=>uI .i64 l13 fun n17 l16=>uI .i64 l16 fun n20 l19=>unn l19 (dL o4 (aR (decide (n14<32)) (eS m5 k8 fun l21 x22=>dD false l21 2 1 fun v23=>fU (aa [92,117,48,48]) (grd (Nat.beq (List.length (aa [92,117,48,48])) (List.length [92,117,48,48]*1)) (iT m5 k8 2 v23 1 1 (aa [92,117,48,48]) 4 fun v24 m25=>isSl v24 (stP m25 (.pB k8 2) [v24] (.own 1) fun m26=>grd (Nat.beq k8 k8) (eS m26 k8 fun l27 x28=>dD false l27 2 1 fun v29=>evC .idxStr [.str [48,49,50,51,52,53,54,55,56,57,97,98,99,100,101,102],.int .u8 (IntKind.wrap .u8 (Int.tdiv n14 16))] fun v30=>asI .u8 v30 fun n31=>evC .idxStr [.str [48,49,50,51,52,53,54,55,56,57,97,98,99,100,101,102],.int .u8 (Int.tmod n14 16)] fun v32=>asI .u8 v32 fun n33=>iT m26 k8 2 v29 1 1 [.int .u8 n31,.int .u8 n33] 2 fun v34 m35=>isSl v34 (stP m35 (.pB k8 2) [v34] (.own 1) fun m36=>some (.normal,[.pB k8 0,.str s11,.int .i64 n17,.int .i64 n20],[],m36))))))) (eS m5 k8 fun l37 x38=>dD false l37 2 1 fun v39=>iT m5 k8 2 v39 1 1 [.int .u8 n14] 1 fun v40 m41=>isSl v40 (stP m41 (.pB k8 2) [v40] (.own 1) fun m42=>some (.normal,[.pB k8 0,.str s11,.int .i64 n17,.int .i64 n20],[],m42)))))) (exC (.exit 1) e2 (unc l3 fun v43 l44=>gE v43 fun k45=>unc l44 fun v46 l47=>asS v46 fun s48=>uI .i64 l47 fun n51 l50=>uI .i64 l50 fun n54 l53=>unn l53 (dL o4 (some (.normal,[.pB k45 0,.str s48,.int .i64 n51,.int .i64 n54],[],m5)))) none)
noncomputable def ur:St→Option (St⊕LR):=fun s=>BB.den uS cw (St⊕LR) Bb s (iU uS Ct Bo)
noncomputable def rr (w:Nat) (s:List UInt8) (n n1:Int) (m:IM):Option LR:=iter ur (St.mk [(0,.pB w 0,.any),(1,.str s,.any),(18,.int .i64 n,.any),(19,.int .i64 n1,.any)] [] [] m)
noncomputable def p8 (w:Nat) (s:List UInt8) (n n1:Int) (m:IM):Option (St⊕LR):=aR (decide (n1<n)) (cI (mF w s n n1 m) fun e0 l1 o2 m3=>exC .normal e0 (unc l1 fun v4 l5=>gE v4 fun k6=>unc l5 fun v7 l8=>asS v7 fun s9=>uI .i64 l8 fun n12 l11=>uI .i64 l11 fun n15 l14=>unn l14 (dL o2 (some (.inl (St.mk [(0,.pB k6 0,.any),(1,.str s9,.any),(18,.int .i64 n12,.any),(19,.int .i64 (IntKind.wrap .i64 (n15+1)),.any)] [] [] m3))))) none) (some (.inr (.exit 0,[.pB w 0],[],m)))
theorem Al (w:Nat) (s:List UInt8) (n n1:Int) (m:IM):ur (St.mk [(0,.pB w 0,.any),(1,.str s,.any),(18,.int .i64 n,.any),(19,.int .i64 n1,.any)] [] [] m)=p8 w s n n1 m:=by kernel_rfl
theorem sI (w:Nat) (s:List UInt8) (n n1:Int) (m:IM):rr w s n n1 m=nxt ur (p8 w s n n1 m):=by rw[←Al];exact eH _ _
noncomputable def Ij (w:Nat) (s:List UInt8) (m:IM):Option (IV×IM):=eS m w fun l0 x1=>dD false l0 2 1 fun v2=>iT m w 2 v2 1 1 [.int .u8 34] 1 fun v3 m4=>isSl v3 (stP m4 (.pB w 2) [v3] (.own 1) fun m5=>cI (rr w s (↑(List.length s):Int) 0 m5) fun e6 l7 o8 m9=>exC (.exit 0) e6 (unc l7 fun v10 l11=>gE v10 fun k12=>unn l11 (dL o8 (eS m9 k12 fun l13 x14=>dD false l13 2 1 fun v15=>iT m9 k12 2 v15 1 1 [.int .u8 34] 1 fun v16 m17=>isSl v16 (stP m17 (.pB k12 2) [v16] (.own 1) fun m18=>settle m m18 (.tup []))))) none)
theorem D5 (w:Nat) (s:List UInt8) (m:IM):fK uS J4 i152 cw [.pB w 0,.str s] m=Ij w s m:=by kernel_rfl
theorem Am (w:Nat) (s:List UInt8) (m:IM) {res:IV×IM}(h:Ij w s m=some res):cw (.f 152) [.pB w 0,.str s] m=some res:=a8 p152 f152 ((D5 w s m).trans h)
theorem f153:tab.fns 153=some i153:=by rfl
theorem p153:ae 153=none:=by rfl
def Bj:Tys:=tyG [(.one .ptr0,[0]),(.agg [.int .i64,.str,.sl,.sl],[1,22,83]),(.one .str,[2,15,53,100]),(.one (.int .i64),[3,8,9,24,25,27,29,30,42,43,46,51,81,84,85,87,90,93]),(.one .own,[5,45,49,79,88]),(.one .ptr,[10,11,12,13,19,20,21,32,33,34,35,39,40,41,48,55,56,57,58,62,63,64,65,66,67,69,70,71,72,76,77,78,92,95,96,97,98,104,105]),(.one .sl,[14,17,18,23,36,37,38,50,59,60,61,73,74,75,80,89,99,102,103]),(.one (.int .u8),[16,101]),(.one .bool,[31,47,68,91]),(.tup [],[44,54,86,94])]
def EH:XP:=[⟨.normal,[(0,.any),(2,.any),(3,.any),(9,.any),(23,.any),(24,.any),(25,.any)],[.cells 0 [.int .i64,.str,.sl,.sl] [.any,.any,.any,.any]],[(5,0,0)]⟩]
def E2:XP:=[⟨.normal,[(0,.any),(2,.any),(3,.any),(9,.any),(23,.any),(24,.any),(25,.any)],[.cells 0 [.int .i64,.str,.sl,.sl] [.any,.any,.any,.any]],[(5,0,0)]⟩]
def C8:XP:=[⟨(.exit 0),[(0,.any),(2,.any),(3,.any)],[.cells 0 [.int .i64,.str,.sl,.sl] [.any,.any,.any,.any]],[(5,0,0)]⟩]
def Be:Pl:=(.n none .z (.n none .z (.n none (.n none (.n none .z (.n (some EH) .z (.n none .z (.n (some E2) .z .z)))) .z) .z)))
def E0:XP:=[⟨.normal,[(0,.any),(2,.any)],[.dead 0],[]⟩]
def JW:Pl:=(.n none .z (.n none .z (.n none (.n none .z (.n none (.n (some C8) Be .z) .z)) (.n (some E0) .z .z))))
noncomputable def pf (w:Nat) (brackets:List UInt8) (level n i:Int) (v:IV) (n1 n2 n3:Int) (s:List UInt8) (v1 v2:IV) (m:IM):Option LR:=aR (decide (n>0)) (eS m w fun l0 x1=>dD false l0 2 1 fun v2_1=>iT m w 2 v2_1 1 1 [.int .u8 44] 1 fun v3 m4=>isSl v3 (stP m4 (.pB w 2) [v3] (.own 1) fun m5=>some (.normal,[.pB w 0,.str brackets,.int .i64 level,.int .i64 i,v,.int .i64 n1,.int .i64 n2],[.cells [.int .i64 n3,.str s,v1,v2] [.any,.any,.any,.any]],m5))) (some (.normal,[.pB w 0,.str brackets,.int .i64 level,.int .i64 i,v,.int .i64 n1,.int .i64 n2],[.cells [.int .i64 n3,.str s,v1,v2] [.any,.any,.any,.any]],m))
noncomputable def me (w:Nat) (brackets:List UInt8) (level i:Int) (v:IV) (n n1 n2:Int) (s:List UInt8) (v1 v2:IV) (m:IM):Option LR:=aR (n2==5) (evC (.indexS 1) [v1,.int .i64 i] fun v0=>ldP m false 1 v0 fun v1_1=>asS v1_1 fun s2=>aw cw (.f 152) [.pB w 0,.str s2] [] m fun v3 m4=>asT v3 fun l5=>unn l5 (eS m4 w fun l6 x7=>dD false l6 2 1 fun v8=>iT m4 w 2 v8 1 1 [.int .u8 58] 1 fun v9 m10=>isSl v9 (stP m10 (.pB w 2) [v9] (.own 1) fun m11=>eS m11 w fun l12 x13=>dD false l12 1 1 fun v14=>asB v14 fun b15=>aR b15 (eS m11 w fun l16 x17=>dD false l16 2 1 fun v18=>iT m11 w 2 v18 1 1 [.int .u8 32] 1 fun v19 m20=>isSl v19 (stP m20 (.pB w 2) [v19] (.own 1) fun m21=>some (.normal,[.pB w 0,.str brackets,.int .i64 level,.int .i64 i,v,.int .i64 n,.int .i64 n1],[.cells [.int .i64 n2,.str s,v1,v2] [.any,.any,.any,.any]],m21))) (some (.normal,[.pB w 0,.str brackets,.int .i64 level,.int .i64 i,v,.int .i64 n,.int .i64 n1],[.cells [.int .i64 n2,.str s,v1,v2] [.any,.any,.any,.any]],m11))))) (some (.normal,[.pB w 0,.str brackets,.int .i64 level,.int .i64 i,v,.int .i64 n,.int .i64 n1],[.cells [.int .i64 n2,.str s,v1,v2] [.any,.any,.any,.any]],m))
noncomputable def tw:St→Option (St⊕LR):=fun s=>Dn.den Bj cw (St⊕LR) Be s (iU Bj AY C8)
noncomputable def qD (w:Nat) (brackets:List UInt8) (level:Int) (v:IV) (n n1 n2:Int) (s:List UInt8) (v1 v2:IV) (m:IM):Option LR:=iter tw (St.mk [(0,.pB w 0,.any),(2,.str brackets,.any),(3,.int .i64 level,.any),(5,.pL 0 0,.any),(23,v,.any),(24,.int .i64 n,.any),(25,.int .i64 n1,.any)] [] [(0,.cells [.int .i64 n2,.str s,v1,v2] [.any,.any,.any,.any])] m)
noncomputable def pr (w:Nat) (brackets:List UInt8) (level:Int) (v:IV) (n n1 n2:Int) (s:List UInt8) (v1 v2:IV) (m:IM):Option (St⊕LR):=aR (decide (n1<n)) (evC (.indexS 1) [v,.int .i64 n1] fun v0=>ldP m false 1 v0 fun v1_1=>asI .i64 v1_1 fun n2_1=>cI (pf w brackets level n1 n2_1 v n n1 n2 s v1 v2 m) fun e3 l4 o5 m6=>exC .normal e3 (unc l4 fun v7 l8=>gE v7 fun k9=>unc l8 fun v10 l11=>asS v10 fun s12=>uI .i64 l11 fun n15 l14=>uI .i64 l14 fun n18 l17=>unc l17 fun v19 l20=>uI .i64 l20 fun n23 l22=>uI .i64 l22 fun n26 l25=>unn l25 (unb o5 fun x27 o28=>asC x27 fun l29=>uV l29 fun n32 s35 v36 v38 l39=>unn l39 (dL o28 (aw cw (.f 164) [.pB k9 0,.int .i64 (IntKind.wrap .i64 (n15+1))] [] m6 fun v40 m41=>asT v40 fun l42=>unn l42 (cI (me k9 s12 n15 n18 v19 n23 n26 n32 s35 v36 v38 m41) fun e43 l44 o45 m46=>exC .normal e43 (unc l44 fun v47 l48=>gE v47 fun k49=>unc l48 fun v50 l51=>asS v50 fun s52=>uI .i64 l51 fun n55 l54=>uI .i64 l54 fun n58 l57=>unc l57 fun v59 l60=>uI .i64 l60 fun n63 l62=>uI .i64 l62 fun n66 l65=>unn l65 (unb o45 fun x67 o68=>asC x67 fun l69=>uV l69 fun n72 s75 v76 v78 l79=>unn l79 (dL o68 (evC (.indexS 4) [v78,.int .i64 n58] fun v80=>ldP m46 true 4 v80 fun v81=>asA v81 fun l82=>uV l82 fun n85 s88 v89 v91 l92=>unn l92 (aw cw (.f 82) [.pB k49 0,.agg [.int .i64 n85,.str s88,v89,v91],.int .i64 (IntKind.wrap .i64 (n55+1))] [] m46 fun v93 m94=>asT v93 fun l95=>unn l95 (gq v59 (some (.inl (St.mk [(0,.pB k49 0,.any),(2,.str s52,.any),(3,.int .i64 n55,.any),(5,.pL 0 0,.any),(23,v59,.any),(24,.int .i64 n63,.any),(25,.int .i64 (IntKind.wrap .i64 (n66+1)),.any)] [] [(0,.cells [.int .i64 n72,.str s75,v76,v78] [.any,.any,.any,.any])] m94))))))))) none))))) none) (some (.inr (.exit 0,[.pB w 0,.str brackets,.int .i64 level],[.cells [.int .i64 n2,.str s,v1,v2] [.any,.any,.any,.any]],m)))
theorem AO (w:Nat) (brackets:List UInt8) (level:Int) (v:IV) (n n1 n2:Int) (s:List UInt8) (v1 v2:IV) (m:IM):tw (St.mk [(0,.pB w 0,.any),(2,.str brackets,.any),(3,.int .i64 level,.any),(5,.pL 0 0,.any),(23,v,.any),(24,.int .i64 n,.any),(25,.int .i64 n1,.any)] [] [(0,.cells [.int .i64 n2,.str s,v1,v2] [.any,.any,.any,.any])] m)=pr w brackets level v n n1 n2 s v1 v2 m:=by kernel_rfl
theorem sd (w:Nat) (brackets:List UInt8) (level:Int) (v:IV) (n n1 n2:Int) (s:List UInt8) (v1 v2:IV) (m:IM):qD w brackets level v n n1 n2 s v1 v2 m=nxt tw (pr w brackets level v n n1 n2 s v1 v2 m):=by rw[←AO];exact eH _ _
noncomputable def oQ (w:Nat) (brackets:List UInt8) (level n:Int) (s:List UInt8) (v v1:IV) (m:IM):Option LR:=evC .lenSlice [v1] fun v0=>asI .i64 v0 fun n1=>aR (decide (n1>0)) (aw cw (.f 164) [.pB w 0,.int .i64 level] [] m fun v2 m3=>asT v2 fun l4=>unn l4 (some (.normal,[.pB w 0,.str brackets],[],m3))) (some (.normal,[.pB w 0,.str brackets],[],m))
noncomputable def Hk (w:Nat) (v:Int) (v1:List UInt8) (v2 v3:IV) (brackets:List UInt8) (level:Int) (m:IM):Option (IV×IM):=bm v2 (bm v3 (grd (Nat.beq w w) (eS m w fun l0 x1=>dD false l0 2 1 fun v2_1=>evC .idxStr [.str brackets,.int .i64 0] fun v3_1=>asI .u8 v3_1 fun n4=>iT m w 2 v2_1 1 1 [.int .u8 n4] 1 fun v5 m6=>isSl v5 (stP m6 (.pB w 2) [v5] (.own 1) fun m7=>aw cw (.f 163) [.pB w 0,.agg [.int .i64 v,.str v1,v2,v3]] [] m7 fun v8 m9=>evC .lenSlice [v8] fun v10=>asI .i64 v10 fun n11=>gq v8 (cI (qD w brackets level v8 n11 0 v v1 v2 v3 m9) fun e12 l13 o14 m15=>exC (.exit 0) e12 (unc l13 fun v16 l17=>gE v16 fun k18=>unc l17 fun v19 l20=>asS v19 fun s21=>uI .i64 l20 fun n24 l23=>unn l23 (unb o14 fun x25 o26=>asC x25 fun l27=>uV l27 fun n30 s33 v34 v36 l37=>unn l37 (dL o26 (cI (oQ k18 s21 n24 n30 s33 v34 v36 m15) fun e38 l39 o40 m41=>exC .normal e38 (unc l39 fun v42 l43=>gE v42 fun k44=>unc l43 fun v45 l46=>asS v45 fun s47=>unn l46 (dL o40 (grd (Nat.beq k44 k44) (eS m41 k44 fun l48 x49=>dD false l48 2 1 fun v50=>evC .idxStr [.str s47,.int .i64 1] fun v51=>asI .u8 v51 fun n52=>iT m41 k44 2 v50 1 1 [.int .u8 n52] 1 fun v53 m54=>isSl v53 (stP m54 (.pB k44 2) [v53] (.own 1) fun m55=>settle m m55 (.tup [])))))) none)))) none)))))
theorem DS (w:Nat) (v:Int) (v1:List UInt8) (v2 v3:IV) (brackets:List UInt8) (level:Int) (m:IM):fK Bj JW i153 cw [.pB w 0,.agg [.int .i64 v,.str v1,v2,v3],.str brackets,.int .i64 level] m=Hk w v v1 v2 v3 brackets level m:=by kernel_rfl
theorem Ai (w:Nat) (v:Int) (v1:List UInt8) (v2 v3:IV) (brackets:List UInt8) (level:Int) (m:IM) {res:IV×IM}(h:Hk w v v1 v2 v3 brackets level m=some res):cw (.f 153) [.pB w 0,.agg [.int .i64 v,.str v1,v2,v3],.str brackets,.int .i64 level] m=some res:=a8 p153 f153 ((DS w v v1 v2 v3 brackets level m).trans h)
theorem f163:tab.fns 163=some i163:=by rfl
theorem p163:ae 163=none:=by rfl
def Cf:Tys:=tyG [(.one .ptr0,[0]),(.agg [.int .i64,.str,.sl,.sl],[1]),(.one .ptr,[3,8,22,23,24,25,29]),(.one .sl,[4,5,7,9,11,12,17,33,34,36,37,38,40,43]),(.one (.int .i64),[6,10,13,14,16,18,19,21,30,35,39]),(.one .bool,[26,27,28,31,32]),(.tup [],[42])]
def BP:XP:=[⟨(.exit 0),[(0,.any),(3,.any),(5,.any)],[],[]⟩]
def CL:Pl:=.z
def En:XP:=[⟨.normal,[(3,.any),(5,.any),(32,.any)],[],[]⟩]
def Ku:Pl:=(.n none .z (.n none .z (.n none (.n none .z (.n none (.n (some BP) CL .z) .z)) (.n none (.n (some En) .z .z) .z))))
noncomputable def uF:St→Option (St⊕LR):=fun s=>Bz.den Cf cw (St⊕LR) CL s (iU Cf Bf BP)
noncomputable def qg (w v v1:Nat) (l:IV) (n n1:Int) (m:IM):Option LR:=iter uF (St.mk [(0,.pB w 0,.any),(3,.pB v v1,.any),(5,l,.any),(13,.int .i64 n,.any),(14,.int .i64 n1,.any)] [] [] m)
noncomputable def qO (w v v1:Nat) (l:IV) (n n1:Int) (m:IM):Option (St⊕LR):=aR (decide (n1<n)) (evC (.indexS 1) [l,.int .i64 n1] fun v0=>stP m v0 [.int .i64 n1] .any fun m1=>gq l (some (.inl (St.mk [(0,.pB w 0,.any),(3,.pB v v1,.any),(5,l,.any),(13,.int .i64 n,.any),(14,.int .i64 (IntKind.wrap .i64 (n1+1)),.any)] [] [] m1)))) (some (.inr (.exit 0,[.pB w 0,.pB v v1,l],[],m)))
theorem zF (w v v1:Nat) (l:IV) (n n1:Int) (m:IM):uF (St.mk [(0,.pB w 0,.any),(3,.pB v v1,.any),(5,l,.any),(13,.int .i64 n,.any),(14,.int .i64 n1,.any)] [] [] m)=qO w v v1 l n n1 m:=by kernel_rfl
theorem ss (w v v1:Nat) (l:IV) (n n1:Int) (m:IM):qg w v v1 l n n1 m=nxt uF (qO w v v1 l n n1 m):=by rw[←zF];exact eH _ _
noncomputable def pg (w v v1:Nat) (l:IV) (m:IM):Option LR:=eS m w fun l0 x1=>dD false l0 0 1 fun v2=>asB v2 fun b3=>aR (!b3) (some (.normal,[.pB v v1,l,.bool true],[],m)) (eS m v fun l4 x5=>dD false l4 (v1+0) 1 fun v6=>asI .i64 v6 fun n7=>some (.normal,[.pB v v1,l,.bool (n7 != 5)],[],m))
noncomputable def HW (w:Nat) (v:Int) (v1:List UInt8) (v2 v3:IV) (m:IM):Option (IV×IM):=bm v2 (bm v3 (eS (bJ m (.cells [.int .i64 v,.str v1,v2,v3] [.any,.any,.any,.any])) (IM.size m) fun l0 x1=>dD false l0 3 1 fun v2_1=>evC .lenSlice [v2_1] fun v3_1=>asI .i64 v3_1 fun n4=>grd (decide (0≤n4∧n4≤n4∧n4*(↑8:Int)≤(↑ao:Int)∧n4≤(↑ao:Int))) (cI (qg w (IM.size m) 0 (.sB (IM.size (bJ m (.cells [.int .i64 v,.str v1,v2,v3] [.any,.any,.any,.any]))) 0 (Int.toNat n4) 1) (↑(Int.toNat n4):Int) 0 (bJ (bJ m (.cells [.int .i64 v,.str v1,v2,v3] [.any,.any,.any,.any])) (.cells (cD [.int .i64 0] (Int.toNat n4)) (aF (cD [.int .i64 0] (Int.toNat n4)) [])))) fun e5 l6 o7 m8=>exC (.exit 0) e5 (unc l6 fun v9 l10=>gE v9 fun k11=>unc l10 fun v12 l13=>asP v12 fun k14 k15=>unc l13 fun v16 l17=>unn l17 (dL o7 (cI (pg k11 k14 k15 v16 m8) fun e18 l19 o20 m21=>exC .normal e18 (unc l19 fun v22 l23=>asP v22 fun k24 k25=>unc l23 fun v26 l27=>unc l27 fun v28 l29=>asB v28 fun b30=>unn l29 (dL o20 (aR b30 (settle m m21 v26) (evC .lenSlice [v26] fun v31=>asI .i64 v31 fun n32=>grd (decide (0≤n32∧n32≤n32∧n32*(↑8:Int)≤(↑ao:Int)∧n32≤(↑ao:Int))) (tj (bJ m21 (.cells (cD [.int .i64 0] (Int.toNat n32)) (aF (cD [.int .i64 0] (Int.toNat n32)) []))) 1 v26 fun l33 k34=>grd (decide (List.length l33=k34*1)) (cpS (bJ m21 (.cells (cD [.int .i64 0] (Int.toNat n32)) (aF (cD [.int .i64 0] (Int.toNat n32)) []))) (.sB (IM.size m21) 0 (Int.toNat n32) 1) 1 l33 k34 fun k35 m36=>aw cw (.f 168) [.sB (IM.size m21) 0 (Int.toNat n32) 1,.func 169 [] [.pB k24 k25]] [] m36 fun v37 m38=>asT v37 fun l39=>unn l39 (settle m m38 (.sB (IM.size m21) 0 (Int.toNat n32) 1)))))))) none))) none)))
theorem Ee (w:Nat) (v:Int) (v1:List UInt8) (v2 v3:IV) (m:IM):fK Cf Ku i163 cw [.pB w 0,.agg [.int .i64 v,.str v1,v2,v3]] m=HW w v v1 v2 v3 m:=by kernel_rfl
theorem zS (w:Nat) (v:Int) (v1:List UInt8) (v2 v3:IV) (m:IM) {res:IV×IM}(h:HW w v v1 v2 v3 m=some res):cw (.f 163) [.pB w 0,.agg [.int .i64 v,.str v1,v2,v3]] m=some res:=a8 p163 f163 ((Ee w v v1 v2 v3 m).trans h)
theorem f164:tab.fns 164=some i164:=by rfl
theorem p164:ae 164=none:=by rfl
def JQ:Tys:=tyG [(.one .ptr0,[0]),(.one (.int .i64),[1,14]),(.one .ptr,[4,5,6,7,9,10,11,12,18,19]),(.one .bool,[8]),(.one .sl,[13,17]),(.one .str,[15,16])]
def Kg:Pl:=.z
noncomputable def DB (w:Nat) (level:Int) (m:IM):Option (IV×IM):=eS m w fun l0 x1=>dD false l0 1 1 fun v2=>asB v2 fun b3=>aR b3 (grd (Nat.beq w w) (eS m w fun l4 x5=>dD false l4 2 1 fun v6=>aw cw (.f 171) [.str [32,32],.int .i64 level] [w] m fun v7 m8=>grd (List.contains [w] w) (asS v7 fun s9=>evC (.bin .add) [.str [10],.str s9] fun v10=>asS v10 fun s11=>fU (aa s11) (grd (Nat.beq (List.length (aa s11)) (List.length s11*1)) (iT m8 w 2 v6 1 1 (aa s11) (List.length s11) fun v12 m13=>isSl v12 (stP m13 (.pB w 2) [v12] (.own 1) fun m14=>settle m m14 (.tup []))))))) (settle m m (.tup []))
theorem D4 (w:Nat) (level:Int) (m:IM):fK JQ Kg i164 cw [.pB w 0,.int .i64 level] m=DB w level m:=by kernel_rfl
theorem AX (w:Nat) (level:Int) (m:IM) {res:IV×IM}(h:DB w level m=some res):cw (.f 164) [.pB w 0,.int .i64 level] m=some res:=a8 p164 f164 ((D4 w level m).trans h)
theorem f169:tab.fns 169=some i169:=by rfl
theorem f18:tab.fns 18=some i18:=by rfl
theorem p18:ae 18=none:=by rfl
def Lr:Tys:=tyG [(.agg [.int .i64,.str,.sl,.sl],[0,4]),(.one .own,[1]),(.one .str,[2,7]),(.one (.int .i64),[3,8]),(.agg [.bool,.bool],[5]),(.tup [.one .str,.one (.int .i64)],[6])]
def Lz:Pl:=.z
noncomputable def F18 (v:Int) (v1:List UInt8) (v2 v3:IV) (m:IM):Option (IV×IM):=bm v2 (bm v3 (aw cw (.f 52) [.agg [.int .i64 v,.str v1,v2,v3],.agg [.bool false,.bool false]] [] m fun v0 m1=>asT v0 fun l2=>unc l2 fun v3 l4=>asS v3 fun s5=>uI .i64 l4 fun n8 l7=>unn l7 (settle m m1 (.tup [.str s5,.int .i64 n8]))))
theorem Gm (v:Int) (v1:List UInt8) (v2 v3:IV) (m:IM):fK Lr Lz i18 cw [.agg [.int .i64 v,.str v1,v2,v3]] m=F18 v v1 v2 v3 m:=by kernel_rfl
theorem Bs (v:Int) (v1:List UInt8) (v2 v3:IV) (m:IM) {res:IV×IM}(h:F18 v v1 v2 v3 m=some res):cw (.f 18) [.agg [.int .i64 v,.str v1,v2,v3]] m=some res:=a8 p18 f18 ((Gm v v1 v2 v3 m).trans h)
theorem f52:tab.fns 52=some i52:=by rfl
theorem p52:ae 52=none:=by rfl
def Lp:Tys:=tyG [(.agg [.int .i64,.str,.sl,.sl],[0,9,20]),(.agg [.bool,.bool],[1,14]),(.one .own,[2,3]),(.one .str,[4,32]),(.one (.int .i64),[5,6,10,11,13,26]),(.one .ptr,[7,16,17,22,23,24,28,29,30]),(.one .bool,[12,27]),(.agg [.bool,.bool,.sl],[15]),(.tup [],[21]),(.one .sl,[25,31])]
def Ll:Pl:=.z
noncomputable def F52 (v:Int) (v1:List UInt8) (v2 v3:IV) (s s1:Bool) (m:IM):Option (IV×IM):=bm v2 (bm v3 (aw cw (.f 25) [.agg [.int .i64 v,.str v1,v2,v3]] [] m fun v0 m1=>asI .i64 v0 fun n2=>aR (n2 != 0) (settle m m1 (.tup [.str [],.int .i64 n2])) (aw cw (.f 82) [.pB (IM.size m1) 0,.agg [.int .i64 v,.str v1,v2,v3],.int .i64 0] [] (bJ m1 (.cells [.bool s,.bool s1,.nilSlice] [.any,.any,.any])) fun v3 m4=>asT v3 fun l5=>unn l5 (eS m4 (IM.size m1) fun l6 x7=>dD false l6 2 1 fun v8=>evC .lenSlice [v8] fun v9=>asI .i64 v9 fun n10=>aR (decide (n10>100000)) (settle m m4 (.tup [.str [],.int .i64 20])) (eS m4 (IM.size m1) fun l11 x12=>dD false l11 2 1 fun v13=>evC .bytesStr [v13] fun v14=>asS v14 fun s15=>settle m m4 (.tup [.str s15,.int .i64 0]))))))
theorem IW (v:Int) (v1:List UInt8) (v2 v3:IV) (s s1:Bool) (m:IM):fK Lp Ll i52 cw [.agg [.int .i64 v,.str v1,v2,v3],.agg [.bool s,.bool s1]] m=F52 v v1 v2 v3 s s1 m:=by kernel_rfl
theorem Co (v:Int) (v1:List UInt8) (v2 v3:IV) (s s1:Bool) (m:IM) {res:IV×IM}(h:F52 v v1 v2 v3 s s1 m=some res):cw (.f 52) [.agg [.int .i64 v,.str v1,v2,v3],.agg [.bool s,.bool s1]] m=some res:=a8 p52 f52 ((IW v v1 v2 v3 s s1 m).trans h)
end Go.Idl
