/- This text proves what the interpreter returns at the functions that TextChecks reaches, last part, and that it returns true at TextChecks; it has no conditions. -/
import Derived.Test.YtihkfdkoncekmaaGreatDoorIdp
import Derived.Test.YtihkfdkoncekmaaGreatDoorIdl
import Derived.Test.YtihkfdkoncekmaaGreatDoorIdn
import Derived.Test.YtihkfdkoncekmaaGreatDoorIdi
set_option linter.unusedSimpArgs false
set_option linter.unusedVariables false
namespace Go.Idl
theorem qE:∀(l seen:List (List UInt8)),jJ seen l=false→l.Nodup∧∀x,x∈l→x∉seen
 |[],_,_=>⟨List.nodup_nil,fun _ h=>by cases h⟩
 |x::r,seen,h=>by
  unfold jJ at h
  rw[Bool.or_eq_false_iff,decide_eq_false_iff_not] at h
  obtain⟨h1,h2⟩:=qE r (seen++[x]) h.2
  refine⟨List.nodup_cons.2 ⟨fun hx=>h2 x hx (by simp),h1⟩,fun y hy=>?_⟩
  rcases List.mem_cons.1 hy with rfl | hy
  ·exact h.1
  ·exact fun hs=>h2 y hy (List.mem_append_left _ hs)
theorem Ag {k:Int}{t:List UInt8}{ks:List (List UInt8)}{n:Nat}(h:jA k t ks n=0) :
  0≤k∧k≤5∧dN k t ks n=true∧t.length≤1000∧(∀s,s∈ks→s.length≤1000)∧(k=5→ks.length=n∧ks.Nodup)∧(k≠5→ks=[])∧(k≠4→k≠5→n=0):=by
 unfold jA at h
 split at h
 ·omega
 ·rename_i g1
  split at h
  ·omega
  ·rename_i g2
   have g2:dN k t ks n=true:=by simpa using g2
   split at h
   ·omega
   ·rename_i g3
    split at h
    ·omega
    ·rename_i g4
     split at h
     ·omega
     ·rename_i g5
      have g5:jJ [] ks=false:=by simpa using g5
      have g3:jH k t ks=false:=by simpa using g3
      have f:=g2
      simp only[dN,Bool.and_eq_true,Bool.or_eq_true,decide_eq_true_eq] at f
      simp only[jH,Bool.or_eq_false_iff,decide_eq_false_iff_not] at g3
      refine⟨by omega,by omega,g2,by omega,fun s hs=>?_,fun h5=>⟨?_,(qE ks [] g5).1⟩,fun h5=>?_,fun h4 h5=>?_⟩
      ·have:=g3.2
       rw[List.any_eq_false] at this
       have:=this s hs
       simp only[decide_eq_true_eq] at this
       omega
      ·by_cases q:ks.length=n
       ·exact q
       ·exact (g4 ⟨h5,q⟩).elim
      ·rcases f.1.1.2 with q | q
       ·exact (h5 q).elim
       ·exact q
      ·rcases f.1.2 with (q | q) | q
       ·exact (h5 q).elim
       ·exact (h4 q).elim
       ·exact q
theorem mz {k:Int}{t:List UInt8}{ks:List (List UInt8)}{vs:List Val}{lvl left:Int}(h:(dY (.mk k t ks vs) lvl left).1=0) :
  left≠0∧lvl≤40∧jA k t ks vs.length=0∧(eK vs (lvl+1) (left-1)).1=0∧(dY (.mk k t ks vs) lvl left).2=(eK vs (lvl+1) (left-1)).2:=by
 unfold dY at h ⊢
 by_cases h0:left=0
 ·rw[if_pos h0] at h;simp at h
 ·rw[if_neg h0] at h ⊢
  by_cases h1:lvl>40
  ·rw[if_pos h1] at h;simp at h
  ·rw[if_neg h1] at h ⊢
   by_cases h2:jA k t ks vs.length≠0
   ·rw[if_pos h2] at h;exact (h2 h).elim
   ·rw[if_neg h2] at h ⊢
    exact⟨h0,by omega,by omega,h,rfl⟩
theorem uK {v:Val}{vs:List Val}{lvl left:Int}(h:(eK (v::vs) lvl left).1=0):(dY v lvl left).1=0∧(eK vs lvl (dY v lvl left).2).1=0∧(eK (v::vs) lvl left).2=(eK vs lvl (dY v lvl left).2).2:=by
 have e:eK (v::vs) lvl left=(if (dY v lvl left).1≠0 then dY v lvl left else eK vs lvl (dY v lvl left).2):=by rw[eK]
 rw[e] at h ⊢
 by_cases h2:(dY v lvl left).1≠0
 ·rw[if_pos h2] at h;exact (h2 h).elim
 ·rw[if_neg h2] at h ⊢
  exact⟨by omega,h,rfl⟩
theorem mC (v:Val) (lvl left:Int) (hl:0≤left) (h:(dY v lvl left).1=0):(dY v lvl left).2+1≤left∧0≤(dY v lvl left).2:=by
 cases v with
 |mk k t ks vs =>
  obtain⟨h0,_,_,h3,h4⟩:=mz h
  rw[h4]
  have:=jm vs (lvl+1) (left-1) (by omega)
  omega
theorem wv:∀(vs:List Val) (lvl left:Int),0≤left→(eK vs lvl left).1=0→(vs.length:Int)+(eK vs lvl left).2≤left
 |[],_,left,_,_=>by unfold eK;simp
 |x::r,lvl,left,hl,h=>by
  obtain⟨h1,h2,h3⟩:=uK h
  have hd:=mC x lvl left hl h1
  have:=wv r lvl _ hd.2 h2
  rw[h3,List.length_cons];omega
theorem uU:∀(d:Nat) (v:Val) (lvl left:Int),0≤left→left≤100000→(dY v lvl left).1=0→41≤lvl+d→wfV d v
 |0,v,lvl,left,_,_,h,hd=>by
  cases v with
  |mk k t ks vs=>obtain⟨_,h1,_⟩:=mz h;omega
 |d+1,v,lvl,left,hl,hl2,h,hd=>by
  cases v with
  |mk k t ks vs =>
   obtain⟨h0,h1,h2,h3,h4⟩:=mz h
   obtain⟨o1,o2,_,_,_,o3,_⟩:=Ag h2
   have hlen:=wv vs (lvl+1) (left-1) (by omega) h3
   have hle:=jm vs (lvl+1) (left-1) (by omega)
   refine .mk o1 o2 o3 (by omega) (fun v hv=>?_)
   have key:∀(l:List Val) (lf:Int),0≤lf→lf≤100000→(eK l (lvl+1) lf).1=0→v∈l→∃x,0≤x∧x≤100000∧(dY v (lvl+1) x).1=0:=by
    intro l
    induction l with
    |nil=>intro lf _ _ _ hv;cases hv
    |cons y r ih =>
     intro lf g1 g2 g3 hv
     obtain⟨e1,e2,_⟩:=uK g3
     rcases List.mem_cons.1 hv with rfl | hv
     ·exact⟨lf,g1,g2,e1⟩
     ·have hd:=mC y _ lf g1 e1
      exact ih _ hd.2 (by omega) e2 hv
   obtain⟨x,x1,x2,x3⟩:=key vs (left-1) (by omega) (by omega) h3 hv
   exact uU d v (lvl+1) x x1 x2 x3 (by omega)
end Go.Idl
namespace Go.Idl
theorem xl (li:Bool) (l:Nat):(gn li l).length≤1+2*l:=by
 cases li with
 |false=>simp[gn]
 |true=>simp[gn,w9];omega
theorem CE (li:Bool) (k:Int) (ks:List (List UInt8)) (i:Nat) (hs:∀s,s∈ks→s.length≤1000):(iW li k ks i).length≤6004:=by
 unfold iW
 split
 ·have:(ks.getD i []).length≤1000:=by
   rw[List.getD_eq_getElem?_getD]
   cases h:ks[i]? with
   |none=>simp
   |some s=>exact hs s (List.mem_of_getElem? h)
  have h2:=nm (ks.getD i [])
  have h3:(if li then [32] else ([]:List UInt8)).length≤1:=by split<;>simp
  simp only[fe,List.length_append,List.length_cons,List.length_nil]
  omega
 ·simp
theorem ye (li:Bool) (lvl:Nat) (hl:lvl≤101) (k:Int) (ks ts:List (List UInt8)) (hs:∀s,s∈ks→s.length≤1000):∀(l:List Nat) (n:Nat),(jT li lvl k ks ts n l).length≤(l.map fun i=>6300+(ts.getD i []).length).sum
 |[],n=>by simp[jT]
 |i::r,n=>by
  have h1:=ye li lvl hl k ks ts hs r (n+1)
  have h2:=xl li lvl
  have h3:=CE li k ks i hs
  have h4:(if 0<n then [44] else ([]:List UInt8)).length≤1:=by split<;>simp
  unfold jT
  simp only[List.length_append,List.map_cons,List.sum_cons]
  omega
theorem t7 (ks:List (List UInt8)) (i:Nat):∀l:List Nat,(kT ks i l).Perm (i::l)
 |[]=>.refl _
 |j::r=>by
  unfold kT
  split
  ·exact .refl _
  ·exact ((t7 ks i r).cons j).trans (.swap i j r)
theorem ov (ks:List (List UInt8)):∀n:Nat,(lC ks n).Perm (List.range n)
 |0=>.refl _
 |n+1=>by
  rw[lC,List.range_succ]
  exact (t7 ks n _).trans (((ov ks n).cons n).trans (by
   have:=List.perm_append_comm (l₁:=[n]) (l₂:=List.range n)
   simpa using this))
theorem Bm (so:Bool) (k:Int) (ks:List (List UInt8)) (n:Nat):(fu so k ks n).Perm (List.range n):=by
 unfold fu;split
 ·exact ov ks n
 ·exact .refl _
theorem zx (ts:List (List UInt8)) (f:List UInt8→Nat):((List.range ts.length).map fun i=>f (ts.getD i []))=ts.map f:=by
 apply List.ext_getElem
 ·simp
 ·intro i h1 h2
  have h:i<ts.length:=by simpa using h2
  simp[List.getD_eq_getElem?_getD,h]
theorem Ae (so li:Bool) (d lvl:Nat) (lv:Int) (ih:∀(v:Val) (left:Int),0≤left→(dY v lv left).1=0→((prV so li v lvl).length:Int)+6300+13000*(dY v lv left).2≤13000*left):∀(vs:List Val) (left:Int),0≤left→(eK vs lv left).1=0→((((prL so li vs lvl).map fun t=>6300+t.length).sum:Nat):Int)+13000*(eK vs lv left).2≤13000*left
 |[],left,_,_=>by unfold prL eK;simp
 |v::vs,left,h0,h=>by
  obtain⟨h1,h2,h3⟩:=uK h
  have hd:=mC v lv left h0 h1
  have a:=ih v left h0 h1
  have b:=Ae so li d lvl lv ih vs _ hd.2 h2
  rw[h3]
  unfold prL
  simp only[List.map_cons,List.sum_cons]
  omega
theorem zE (so li:Bool):∀(d:Nat) (v:Val) (lvl:Nat) (lv left:Int),0≤left→(dY v lv left).1=0→41≤lv+d→lvl+d≤100→((prV so li v lvl).length:Int)+6300+13000*(dY v lv left).2≤13000*left
 |0,.mk k t ks vs,lvl,lv,left,_,h,hd,_=>by obtain⟨_,h1,_⟩:=mz h;omega
 |d+1,.mk k t ks vs,lvl,lv,left,h0,h,hd,hd2=>by
  obtain⟨c0,c1,c2,c3,c4⟩:=mz h
  obtain⟨o1,o2,_,o3,o4,_,_,_⟩:=Ag c2
  have hs:=Ae so li d (lvl+1) (lv+1) (fun v lf g1 g2=>zE so li d v (lvl+1) (lv+1) lf g1 g2 (by omega) (by omega)) vs (left-1) (by omega) c3
  rw[c4]
  have hle:=jm vs (lv+1) (left-1) (by omega)
  generalize (eK vs (lv+1) (left-1)).2=rest at *
  have hown:(prV so li (.mk k t ks vs) lvl).length≤6700+((prL so li vs (lvl+1)).map fun t=>6300+t.length).sum:=by
   unfold prV
   split
   ·simp;omega
   ·split
    ·omega
    ·split
     ·have:=nm t
      simp only[fe,List.length_cons,List.length_append,List.length_nil];omega
     ·have hi:=ye li (lvl+1) (by omega) k ks (prL so li vs (lvl+1)) o4 (fu so k ks vs.length) 0
      have hp:=((Bm so k ks vs.length).map fun i=>6300+((prL so li vs (lvl+1)).getD i []).length).sum_nat
      have hr:=zx (prL so li vs (lvl+1)) (fun t=>6300+t.length)
      rw[Af] at hr
      rw[hp,hr] at hi
      have hl:=xl li lvl
      have h4:(if vs=[] then [] else gn li lvl).length≤1+2*lvl:=by
       split
       ·simp
       ·exact hl
      simp only[List.length_cons,List.length_append,List.length_nil]
      omega
  omega
theorem tR (so li:Bool) (v:Val) (h:gy v=0):(prV so li v 0).length≤26000000:=by
 have hd:=mC v 1 2000 (by omega) h
 have:=zE so li 41 v 0 1 2000 (by omega) h (by omega) (by omega)
 omega
end Go.Idl
namespace Go.Idl
attribute [local go_sem] bB bA gI gS aZ bF bW bT cA cC cf ct bp aO bk aS aQ cr bq aK cD aJ aA aF az aB aj cG bZ bh bf ck cd bo c9 cu bw cy cB cz cE bg bt bu aR bm cx aP aG aM aN bj an af aT aw cX cW bI ba bJ cn bL cg bH cm List.flatMap_cons List.flatMap_nil
def eF (so li:Bool) (v:Val):List UInt8×Int:=if gy v≠0 then ([],gy v) else if 100000<(prV so li v 0).length then ([],20) else (prV so li v 0,0)
theorem og (so li:Bool) (hO:zs so) (v:Val) (c:List IV) (hc:ValR v c) (ho:okV v) (m:IM) :
  cw (.f 52) [.agg c,.agg [.bool so,.bool li]] m=some (.tup [.str (eF so li v).1,.int .i64 (eF so li v).2],m):=by
 have hml:ak=1099511627776:=rfl
 obtain⟨k,t,K,V,rfl,hK,hV,_,_⟩:=hc.cells
 have h1:=fun K2:IV→IM→Option (IV×IM)=>au (AJ v _ m hc ho) (by simp[go_sem,hK,hV]) K2
 apply EI
 by_cases g:gy v=0
 ·have hg:¬gy v≠0:=fun h=>h g
  rw[g] at h1
  have hb:=tR so li v g
  have hwf:=uU 41 v 1 2000 (by omega) (by omega) g (by omega)
  have hm1:(bR m (wrP so li [] .any)).get m.size=wrP so li [] .any:=eD _ _
  have hW:=H6 so li hO m.size 41 v _ hwf hc 0 [] .any _ (by omega) hm1 (.inl rfl) (by simp only[List.length_nil];omega)
  rw[eH,List.nil_append] at hW
  have h2:=fun K2:IV→IM→Option (IV×IM)=>au hW (by simp[go_sem,hK,hV]) K2
  have hm2:(bR m (wrP so li (prV so li v 0) (.own 1))).get m.size=wrP so li (prV so li v 0) (.own 1):=eD _ _
  have h2':∀K2:IV→IM→Option (IV×IM),bc cw (.f 82) [.pB m.size 0,.agg [.int .i64 k,.str t,K,V],.int .i64 0] [] (bR m (.cells [.bool so,.bool li,.nilSlice] [.any,.any,.any])) K2=K2 (.tup []) (bR m (wrP so li (prV so li v 0) (.own 1))):=h2
  have hst:∀w:IV,w.refsDeep=some 0→settle m (bR m (wrP so li (prV so li v 0) (.own 1))) w=some (w,m):=fun w hw=>iK hw
  simp only[eF,if_neg hg]
  by_cases g2:100000<(prV so li v 0).length
  ·have g3:((prV so li v 0).length:Int)>100000:=by omega
   rw[if_pos g2]
   simp only[F52,ah hK,ah hV,h1,go_sem]
   simp only[bne_self_eq_false,Bool.false_eq_true,if_false,h2',go_sem,fo hm2,av (pO _),decide_eq_true g3,if_true]
   exact hst _ rfl
  ·have g3:¬((prV so li v 0).length:Int)>100000:=by omega
   rw[if_neg g2]
   simp only[F52,ah hK,ah hV,h1,go_sem]
   simp only[bne_self_eq_false,Bool.false_eq_true,if_false,h2',go_sem,fo hm2,av (pO _),decide_eq_false g3,av (uh _)]
   exact hst _ rfl
 ·have g':(gy v != 0)=true:=by simpa using g
  simp only[eF]
  rw[if_pos g]
  simp only[F52,ah hK,ah hV,h1,go_sem,g',if_true]
  exact an rfl
theorem GO (v:Val) (c:List IV) (hc:ValR v c) (ho:okV v) (m:IM) :
  cw (.f 18) [.agg c] m=some (.tup [.str (eF false false v).1,.int .i64 (eF false false v).2],m):=by
 have h:=og false false sn v c hc ho m
 obtain⟨k,t,K,V,rfl,hK,hV,_,_⟩:=hc.cells
 have h1:=fun K2:IV→IM→Option (IV×IM)=>au h (by simp[go_sem,hK,hV]) K2
 apply F1
 simp only[F18,ah hK,ah hV,h1,go_sem]
 exact an rfl
theorem E4 (v:Val) (c:List IV) (hc:ValR v c) (ho:okV v) (m:IM) :
  cw (.f 23) [.agg c] m=some (.tup [.str (eF false true v).1,.int .i64 (eF false true v).2],m):=by
 have h:=og false true sn v c hc ho m
 obtain⟨k,t,K,V,rfl,hK,hV,_,_⟩:=hc.cells
 have h1:=fun K2:IV→IM→Option (IV×IM)=>au h (by simp[go_sem,hK,hV]) K2
 apply FE
 simp only[F23,ah hK,ah hV,h1,go_sem]
 exact an rfl
theorem EZ (hO:zs true) (v:Val) (c:List IV) (hc:ValR v c) (ho:okV v) (m:IM) :
  cw (.f 21) [.agg c] m=some (.tup [.str (eF true false v).1,.int .i64 (eF true false v).2],m):=by
 have h:=og true false hO v c hc ho m
 obtain⟨k,t,K,V,rfl,hK,hV,_,_⟩:=hc.cells
 have h1:=fun K2:IV→IM→Option (IV×IM)=>au h (by simp[go_sem,hK,hV]) K2
 apply Ey
 simp only[F21,ah hK,ah hV,h1,go_sem]
 exact an rfl
end Go.Idl
namespace Go.Idl
attribute [local go_sem] bB bA gI gS aZ bF bW bT cA cC cf ct bp aO bk aS aQ cr bq aK cD aJ aA aF az aB aj cG bZ bh bf ck cd bo c9 cu bw cy cB cz cE bg bt bu aR bm cx aP aG aM aN bj an af
theorem rl {R:Type}{acc x:List UInt8}{xs:List IV}{n:Nat}(hx:xs=aa x) (hn:n=x.length) (h:acc.length+x.length≤ak) (K:IV→Option R):iy (bsl acc) 1 1 xs n K=K (bsl (acc++x)):=by
 subst hx hn;exact Cz acc x h K
def qrT:List (UInt8×UInt8):=[(34,34),(92,92),(8,98),(12,102),(10,110),(13,114),(9,116)]
def qrF (c:UInt8):List (UInt8×UInt8)→Option UInt8
 |[]=>none
 |(b,a)::r=>if b=c then some a else qrF c r
theorem K9 (c:UInt8):gZ c=match qrF c qrT with
  |some a=>[92,a]
  |none=>if c.toNat<32 then [92,117,48,48,jO (c.toNat/16),jO (c.toNat%16)] else [c]:=by
 have key:∀n,n<256→gZ (UInt8.ofNat n)=match qrF (UInt8.ofNat n) qrT with
  |some a=>[92,a]
  |none=>if (UInt8.ofNat n).toNat<32 then [92,117,48,48,jO ((UInt8.ofNat n).toNat/16),jO ((UInt8.ofNat n).toNat%16)] else [(UInt8.ofNat n)]:=by decide +kernel
 have:=key c.toNat c.toNat_lt
 rwa [UInt8.ofNat_toNat] at this
theorem CP (i:Nat) (h:i<7):qrT.drop i=qrT.getD i (0,0)::qrT.drop (i+1):=by
 rcases i with _ | _ | _ | _ | _ | _ | _ | i<;>first | rfl | omega
theorem JZ:∀i:Nat,i<7→POp.ev .idxStr [.str [34,34,92,92,8,98,12,102,10,110,13,114,9,116],.int .i64 ((2*i:Nat):Int)]=some (.int .u8 ((qrT.getD i (0,0)).1.toNat:Int))∧POp.ev .idxStr [.str [34,34,92,92,8,98,12,102,10,110,13,114,9,116],.int .i64 (IntKind.i64.wrap (((2*i:Nat):Int)+1))]=some (.int .u8 ((qrT.getD i (0,0)).2.toNat:Int)):=by
 intro i hi
 rcases i with _ | _ | _ | _ | _ | _ | _ | i<;>first | exact⟨rfl,rfl⟩ | omega
theorem DV (s hex:List UInt8) (out:IV) (i c:Int) (done:Bool) (k:Nat) (m:IM):p6 s out hex [34,34,92,92,8,98,12,102,10,110,13,114,9,116] i c done (k:Int) m=some (.normal,[.str s,out,.str hex,.str [34,34,92,92,8,98,12,102,10,110,13,114,9,116],.int .i64 i,.int .u8 c,.bool done,.int .i64 (k:Int),.bool (decide (k<14) && !done)],[],m):=by
 by_cases g:k<14
 ·have g':(k:Int)<14:=by omega
  have hl:(([34,34,92,92,8,98,12,102,10,110,13,114,9,116]:List UInt8).length:Int)=14:=rfl
  simp only[p6,go_sem,hl,decide_eq_true g',if_true,decide_eq_true g,Bool.true_and]
 ·have g':¬(k:Int)<14:=by omega
  have hl:(([34,34,92,92,8,98,12,102,10,110,13,114,9,116]:List UInt8).length:Int)=14:=rfl
  simp only[p6,go_sem,hl,decide_eq_false g',Bool.false_eq_true,if_false,decide_eq_false g,Bool.false_and]
theorem Nd (s hex acc:List UInt8) (i:Int) (c:UInt8) (k:Nat) (m:IM):lZ s (bsl acc) hex [34,34,92,92,8,98,12,102,10,110,13,114,9,116] i (c.toNat:Int) true (k:Int) m=some (.exit 2,[.str s,bsl acc,.str hex,.str [34,34,92,92,8,98,12,102,10,110,13,114,9,116],.int .i64 i,.int .u8 (c.toNat:Int),.bool true],[],m):=by
 rw[oh]
 simp only[jL,DV,go_sem,Bool.not_true,Bool.and_false,Bool.false_eq_true,if_false,if_true,bf]
theorem Mk (s hex acc:List UInt8) (i:Int) (c:UInt8) (m:IM) (hl:acc.length+2≤ak):∀(j k:Nat),7=k+j →
  lZ s (bsl acc) hex [34,34,92,92,8,98,12,102,10,110,13,114,9,116] i (c.toNat:Int) false ((2*k:Nat):Int) m=match qrF c (qrT.drop k) with
   |some a=>some (.exit 2,[.str s,bsl (acc++[92,a]),.str hex,.str [34,34,92,92,8,98,12,102,10,110,13,114,9,116],.int .i64 i,.int .u8 (c.toNat:Int),.bool true],[],m)
   |none=>some (.exit 2,[.str s,bsl acc,.str hex,.str [34,34,92,92,8,98,12,102,10,110,13,114,9,116],.int .i64 i,.int .u8 (c.toNat:Int),.bool false],[],m):=by
 intro j
 induction j with
 |zero =>
  intro k hk
  have:k=7:=by omega
  subst this
  rw[oh]
  have hd:qrT.drop 7=[]:=rfl
  rw[hd]
  simp only[jL,DV,go_sem,qrF]
  rfl
 |succ j ih =>
  intro k hk
  have hk7:k<7:=by omega
  obtain⟨e1,e2⟩:=JZ k hk7
  have hw:IntKind.i64.wrap (((2*k:Nat):Int)+2)=((2*(k+1):Nat):Int):=by rw[w64 (by omega) (by omega)];omega
  have h:=ih (k+1) (by omega)
  have hcond:(decide (2*k<14) && !false)=true:=by simp;omega
  rw[CP k hk7]
  rw[oh]
  generalize qrT.getD k (0,0)=p at *
  obtain⟨x,y⟩:=p
  simp only at e1 e2
  unfold qrF
  have hq:=FZ (c:=x) (d:=c)
  have hcA:=DV s hex (bsl acc) i (c.toNat:Int) false (2*k) m
  rw[hcond] at hcA
  have hd:=fun k2:Nat=>Nd s hex (acc++[92,y]) i c k2 m
  generalize 2*k=k1 at *
  generalize 2*(k+1)=k2 at *
  by_cases g:x=c
  ·subst g
   rw[if_pos rfl]
   have hA:=rl (x:=[92,y]) (xs:=[.int .u8 92,.int .u8 (y.toNat:Int)]) (n:=2) rfl rfl hl (R:=LR)
   have hC:mq s (bsl acc) hex [34,34,92,92,8,98,12,102,10,110,13,114,9,116] i (x.toNat:Int) false (k1:Int) m=some (.normal,[.str s,bsl (acc++[92,y]),.str hex,.str [34,34,92,92,8,98,12,102,10,110,13,114,9,116],.int .i64 i,.int .u8 (x.toNat:Int),.bool true,.int .i64 (k1:Int)],[],m):=by
    simp only[mq,av e1,go_sem,BEq.rfl,if_true,av e2,hA]
   have step:nxt rJ (jL s (bsl acc) hex [34,34,92,92,8,98,12,102,10,110,13,114,9,116] i (x.toNat:Int) false (k1:Int) m)=lZ s (bsl (acc++[92,y])) hex [34,34,92,92,8,98,12,102,10,110,13,114,9,116] i (x.toNat:Int) true (k2:Int) m:=by
    simp only[jL,hcA,go_sem,if_true,hC,jd,hw]
    rfl
   rw[step,hd]
  ·rw[if_neg g]
   have g':(x==c)=false:=by simpa using g
   rw[g'] at hq
   have hC:mq s (bsl acc) hex [34,34,92,92,8,98,12,102,10,110,13,114,9,116] i (c.toNat:Int) false (k1:Int) m=some (.normal,[.str s,bsl acc,.str hex,.str [34,34,92,92,8,98,12,102,10,110,13,114,9,116],.int .i64 i,.int .u8 (c.toNat:Int),.bool false,.int .i64 (k1:Int)],[],m):=by
    simp only[mq,av e1,go_sem,hq,Bool.false_eq_true,if_false]
   have step:nxt rJ (jL s (bsl acc) hex [34,34,92,92,8,98,12,102,10,110,13,114,9,116] i (c.toNat:Int) false (k1:Int) m)=lZ s (bsl acc) hex [34,34,92,92,8,98,12,102,10,110,13,114,9,116] i (c.toNat:Int) false (k2:Int) m:=by
    simp only[jL,hcA,go_sem,if_true,hC,jd,hw]
    rfl
   rw[step,h]
end Go.Idl
namespace Go.Idl
attribute [local go_sem] bB bA gI gS aZ bF bW bT cA cC cf ct bp aO bk aS aQ cr bq aK cD aJ aA aF az aB aj cG bZ bh bf ck cd bo c9 cu bw cy cB cz cE bg bt bu aR bm cx aP aG aM aN bj an af
theorem Mw (s:List UInt8) (acc:List UInt8) (i:Nat) (hi:i<s.length) (m:IM) (hl:acc.length+6≤ak) :
  mQ s (bsl acc) [48,49,50,51,52,53,54,55,56,57,97,98,99,100,101,102] [34,34,92,92,8,98,12,102,10,110,13,114,9,116] i m=some (.normal,[.str s,bsl (acc++gZ s[i]),.str [48,49,50,51,52,53,54,55,56,57,97,98,99,100,101,102],.str [34,34,92,92,8,98,12,102,10,110,13,114,9,116],.int .i64 (i:Int)],[],m):=by
 have hx:=LZ (List.getElem?_eq_getElem hi)
 generalize s[i]=c at *
 have hL:=Mk s [48,49,50,51,52,53,54,55,56,57,97,98,99,100,101,102] acc i c m (by omega) 7 0 rfl
 have hL:lZ s (bsl acc) [48,49,50,51,52,53,54,55,56,57,97,98,99,100,101,102] [34,34,92,92,8,98,12,102,10,110,13,114,9,116] i (c.toNat:Int) false 0 m=_:=hL
 rw[List.drop_zero] at hL
 rw[K9]
 have hc256:c.toNat<256:=UInt8.toNat_lt c
 cases hq:qrF c qrT with
 |some a =>
  rw[hq] at hL
  simp only at hL
  simp only[mQ,go_sem,av hx,jd,hL,pJ,pC,Bool.not_true,Bool.false_eq_true,if_false,if_true]
 |none =>
  rw[hq] at hL
  simp only at hL
  by_cases g:c.toNat<32
  ·have g':(c.toNat:Int)<32:=by omega
   have e1:IntKind.u8.wrap (Int.tdiv (c.toNat:Int) 16)=((c.toNat/16:Nat):Int):=by
    have:Int.tdiv (c.toNat:Int) 16=((c.toNat/16:Nat):Int):=rfl
    rw[this]
    unfold IntKind.wrap
    simp[IntKind.bits,IntKind.signed]
    omega
   have e2:Int.tmod (c.toNat:Int) 16=((c.toNat%16:Nat):Int):=rfl
   have h1:=zH (c.toNat/16) (by omega)
   have h2:=zH (c.toNat%16) (by omega)
   have a1:=rl (acc:=acc) (x:=[92,117,48,48]) (xs:=aa [92,117,48,48]) (n:=4) rfl rfl (by simp only[List.length_cons,List.length_nil];omega) (R:=LR)
   have a2:=rl (acc:=acc++[92,117,48,48]) (x:=[jO (c.toNat/16),jO (c.toNat%16)]) (xs:=[.int .u8 ((jO (c.toNat/16)).toNat:Int),.int .u8 ((jO (c.toNat%16)).toNat:Int)]) (n:=2) rfl rfl (by simp only[List.length_cons,List.length_nil,List.length_append];omega) (R:=LR)
   rw[←e1] at h1
   rw[←e2] at h2
   have hb:Nat.beq (List.length (aa [92,117,48,48])) (List.length ([92,117,48,48]:List Nat)*1)=true:=rfl
   simp only[if_pos g]
   simp only[mQ,go_sem,av hx,jd,hL,pJ,pC,Bool.not_false,if_true,decide_eq_true g',eC (cP [92,117,48,48]),a1,av h1,av h2,a2,Bool.not_true,Bool.false_eq_true,if_false,List.append_assoc,List.cons_append,List.nil_append,hb]
  ·have g':¬(c.toNat:Int)<32:=by omega
   have a1:=rl (acc:=acc) (x:=[c]) (xs:=[.int .u8 (c.toNat:Int)]) (n:=1) rfl rfl (by simp only[List.length_cons,List.length_nil];omega) (R:=LR)
   simp only[if_neg g]
   simp only[mQ,go_sem,av hx,jd,hL,pJ,pC,Bool.not_false,if_true,decide_eq_false g',Bool.false_eq_true,if_false,a1]
theorem Nh (s:List UInt8) (hs:s.length≤1099511627776) (m:IM):∀(k i:Nat) (acc:List UInt8),s.length=i+k→acc.length+6*k≤ak →
  sd s (bsl acc) [48,49,50,51,52,53,54,55,56,57,97,98,99,100,101,102] [34,34,92,92,8,98,12,102,10,110,13,114,9,116] i m=some (.exit 0,[bsl (acc++(s.drop i).flatMap gZ)],[],m):=by
 intro k
 induction k with
 |zero =>
  intro i acc hk hl
  have c1:¬(i:Int)<(s.length:Int):=by omega
  rw[tH,List.drop_eq_nil_iff.2 (by omega)]
  simp only[qz,go_sem,decide_eq_false c1,Bool.false_eq_true,if_false,List.flatMap_nil,List.append_nil]
 |succ k ih =>
  intro i acc hk hl
  have hi:i<s.length:=by omega
  have c1:(i:Int)<(s.length:Int):=by omega
  have hw:IntKind.i64.wrap ((i:Int)+1)=((i+1:Nat):Int):=by rw[w64 (by omega) (by omega)];rfl
  have hC:=Mw s acc i hi m (by omega)
  have hq:=qN s[i]
  have h:=ih (i+1) (acc++gZ s[i]) (by omega) (by rw[List.length_append];omega)
  rw[List.drop_eq_getElem_cons hi,List.flatMap_cons,←List.append_assoc]
  have step:nxt vm (qz s (bsl acc) [48,49,50,51,52,53,54,55,56,57,97,98,99,100,101,102] [34,34,92,92,8,98,12,102,10,110,13,114,9,116] i m)=sd s (bsl (acc++gZ s[i])) [48,49,50,51,52,53,54,55,56,57,97,98,99,100,101,102] [34,34,92,92,8,98,12,102,10,110,13,114,9,116] (i+1:Nat) m:=by
   generalize i+1=j at *
   simp only[qz,go_sem,decide_eq_true c1,if_true,hC,jd,hw]
   rfl
  rw[tH,step,h]
theorem tC (s:List UInt8) (hs:s.length≤150000000000) (m:IM):cw (.f 107) [.str s] m=some (.str (fe s),m):=by
 have hml:ak=1099511627776:=rfl
 have hq:=nm s
 have hL:=Nh s (by omega) m s.length 0 [34] (by omega) (by simp only[List.length_cons,List.length_nil];omega)
 rw[List.drop_zero] at hL
 have hL':sd s (.sl [.int .u8 34] 1) [48,49,50,51,52,53,54,55,56,57,97,98,99,100,101,102] [34,34,92,92,8,98,12,102,10,110,13,114,9,116] 0 m=_:=hL
 have a1:=rl (acc:=[34]++s.flatMap gZ) (x:=[34]) (xs:=[.int .u8 34]) (n:=1) rfl rfl (by simp only[List.length_cons,List.length_nil,List.length_append];omega) (R:=IV×IM)
 apply Bl
 simp only[Ln,hL',go_sem,if_true,a1,av (uh _)]
 simp[fe]
def prP (so li:Bool) (out:List UInt8) (c:Cap):BObj:=.cells [bsl out,.bool so,.bool li] [c,.any,.any]
section
variable {R:Type}{m:IM}{id:Nat}{so li:Bool}{out:List UInt8}{c:Cap}
theorem Nb (h:m.get id=prP so li out c) (K:Bool→Option R):(dK m id fun l0 _=>dg false l0 1 1 fun v=>asB v K)=K so:=by
 rw[dw h];simp[dg,bT]
theorem Ax (h:m.get id=prP so li out c) (K:Bool→Option R):(dK m id fun l0 _=>dg false l0 2 1 fun v=>asB v K)=K li:=by
 rw[dw h];simp[dg,bT]
theorem gb (h:m.get id=prP so li out c) (K:IV→Option R):(dK m id fun l0 _=>dg false l0 0 1 K)=K (bsl out):=by
 rw[dw h];simp[dg]
theorem wC (h:m.get id=prP so li out c):id<m.size:=iI h
theorem iF {so' li':Bool}{out':List UInt8}{c':Cap}(h:m.get id=prP so li out c):(bP m id (prP so' li' out' c')).get id=prP so' li' out' c':=fZ (wC h) _
theorem mD (h:m.get id=prP so li out c):bP m id (prP so li out c)=m:=gC h (wC h)
theorem kf (hm:m.get id=prP so li out c) (hc:out=[]∨c=.own 1) {x:List UInt8}{xs:List IV}{n:Nat}(hx:xs=aa x) (hn:n=x.length) (hl:out.length+x.length≤ak) (K:IM→Option R) :
  (fO m id 0 (bsl out) 1 1 xs n fun v3 m4=>isSl v3 (stP m4 (.pB id 0) [v3] (.own 1) K))=K (bP m id (prP so li (out++x) (.own 1))):=by
 subst hx hn
 obtain⟨m',hm',e⟩:=wD (x:=x) (off:=0) hm (by rcases hc with h | h;exact .inl h;exact .inr (by rw[h];rfl)) hl (fun v3 m4=>isSl v3 (stP m4 (.pB id 0) [v3] (.own 1) K))
 rw[e,w5]
 rcases hm' with ⟨_,rfl⟩ | ⟨_,rfl⟩
 ·rw[gJ hm (iP _) (Nat.zero_le _) (by simp)];rfl
 ·rw[gJ (fZ (wC hm) _) (iP _) (Nat.zero_le _) (by simp),bC];rfl
end
theorem Oh (p:Nat) (lvl:Nat) (hlv:lvl≤1000000) (so li:Bool):∀(k i:Nat) (out:List UInt8) (m:IM),lvl=i+k→m.get p=prP so li out (.own 1)→out.length+2*k≤ak →
  qY p lvl i m=some (.exit 0,[],[],bP m p (prP so li (out++kd [32,32] k) (.own 1))):=by
 intro k
 induction k with
 |zero =>
  intro i out m hk hm hl
  have c1:¬(i:Int)<(lvl:Int):=by omega
  rw[tB]
  simp only[qK,go_sem,decide_eq_false c1,Bool.false_eq_true,if_false,kd,List.append_nil,mD hm]
 |succ k ih =>
  intro i out m hk hm hl
  have c1:(i:Int)<(lvl:Int):=by omega
  have hw:IntKind.i64.wrap ((i:Int)+1)=((i+1:Nat):Int):=by rw[w64 (by omega) (by omega)];rfl
  have a1:=kf hm (.inr rfl) (x:=[32,32]) (xs:=aa [32,32]) (n:=2) rfl rfl (by simp only[List.length_cons,List.length_nil];omega) (R:=St⊕LR)
  have hb:Nat.beq (List.length (aa [32,32])) (List.length ([32,32]:List Nat)*1)=true:=rfl
  have h:=ih (i+1) (out++[32,32]) _ (by omega) (iF hm) (by rw[List.length_append];simp only[List.length_cons,List.length_nil];omega)
  rw[bC] at h
  have step:nxt vf (qK p lvl i m)=qY p lvl (i+1:Nat) (bP m p (prP so li (out++[32,32]) (.own 1))):=by
   generalize i+1=j at *
   simp only[qK,go_sem,decide_eq_true c1,if_true,gb hm,eC (cP [32,32]),a1,hw,hb]
   rfl
  rw[tB,step,h,kd,List.append_assoc]
theorem Ad (p:Nat) (lvl:Nat) (hlv:lvl≤1000000) (so li:Bool) (out:List UInt8) (m:IM) (hm:m.get p=prP so li out (.own 1)) (hl:out.length≤500000000000) :
  cw (.f 109) [.pB p 0,.int .i64 (lvl:Int)] m=some (.tup [],bP m p (prP so li (out++gn li lvl) (.own 1))):=by
 have hml:ak=1099511627776:=rfl
 apply B4
 cases li with
 |false =>
  simp only[Gg,Ax hm,go_sem,Bool.false_eq_true,if_false,gn,List.append_nil,mD hm]
 |true =>
  have a1:=kf hm (.inr rfl) (x:=[10]) (xs:=[.int .u8 10]) (n:=1) rfl rfl (by simp only[List.length_cons,List.length_nil];omega) (R:=IV×IM)
  have hL:=Oh p lvl hlv so true lvl 0 (out++[10]) _ (by omega) (iF hm) (by rw[List.length_append];simp only[List.length_cons,List.length_nil];omega)
  rw[bC] at hL
  have hL':qY p lvl 0 (bP m p (prP so true (out++[10]) (.own 1)))=_:=hL
  simp only[Gg,Ax hm,go_sem,if_true,gb hm,a1,hL',gn,List.append_assoc,List.cons_append,List.nil_append]
end Go.Idl
namespace Go.Idl
theorem uS:∀x y:List UInt8,aq x y=true↔x.map UInt8.toNat<y.map UInt8.toNat
 |[],[]=>by simp[aq]
 |[],b::y=>by simp[aq]
 |a::x,[]=>by simp[aq]
 |a::x,b::y=>by
  rw[aq,List.map_cons,List.map_cons,List.cons_lt_cons_iff,Bool.or_eq_true,Bool.and_eq_true,decide_eq_true_eq,beq_iff_eq,uS x y]
theorem map_inj {x y:List UInt8}(h:x.map UInt8.toNat=y.map UInt8.toNat):x=y:=by
 induction x generalizing y with
 |nil=>cases y with
  |nil=>rfl
  |cons b y=>simp at h
 |cons a x ih =>
  cases y with
  |nil=>simp at h
  |cons b y =>
   simp only[List.map_cons,List.cons.injEq] at h
   rw[UInt8.toNat_inj.1 h.1,ih h.2]
theorem vG (x:List UInt8):aq x x=false:=by
 rw[Bool.eq_false_iff];intro h;exact List.lt_irrefl _ ((uS x x).1 h)
theorem wT {x y z:List UInt8}(h1:aq x y=true) (h2:aq y z=true):aq x z=true:=by
 rw[uS] at *;exact List.lt_trans h1 h2
theorem qD {x y:List UInt8}(h:aq x y=true):aq y x=false:=by
 rw[Bool.eq_false_iff];intro h2
 have:=wT h h2
 rw[vG] at this;cases this
theorem zi (x y:List UInt8):aq x y=true∨x=y∨aq y x=true:=by
 by_cases h1:aq x y=true
 ·exact .inl h1
 ·by_cases h2:aq y x=true
  ·exact .inr (.inr h2)
  ·refine .inr (.inl (map_inj ?_))
   rw[uS] at h1 h2
   exact List.le_antisymm (List.not_lt.1 h2) (List.not_lt.1 h1)
theorem MU (x y:List UInt8):(!(aq x y||x==y))=aq y x:=by
 rcases zi x y with h | h | h
 ·rw[h,qD h];rfl
 ·subst h;rw[vG];simp
 ·rw[h,qD h]
  have:(x==y)=false:=by
   rw[beq_eq_false_iff_ne];rintro rfl;rw[vG] at h;cases h
  rw[this];rfl
def leK (ks:List (List UInt8)) (a b:Nat):Prop:=aq (ks.getD b []) (ks.getD a [])=false
theorem fN {ks:List (List UInt8)}{a b c:Nat}(h1:leK ks a b) (h2:leK ks b c):leK ks a c:=by
 unfold leK at *
 rw[Bool.eq_false_iff];intro h
 rcases zi (ks.getD a []) (ks.getD b []) with q | q | q
 ·rw[wT h q] at h2;cases h2
 ·rw[q,h2] at h;cases h
 ·rw[q] at h1;cases h1
theorem oa {ks:List (List UInt8)}{a b:Nat}(h:aq (ks.getD a []) (ks.getD b [])=true):leK ks a b:=qD h
theorem ph (ks:List (List UInt8)) (i:Nat):∀l:List Nat,l.Pairwise (leK ks)→(kT ks i l).Pairwise (leK ks)
 |[],_=>by simp[kT]
 |j::r,h=>by
  obtain⟨h1,h2⟩:=List.pairwise_cons.1 h
  unfold kT
  split
  ·rename_i g
   refine List.pairwise_cons.2 ⟨fun x hx=>?_,h⟩
   rcases List.mem_cons.1 hx with rfl | hx
   ·exact oa g
   ·exact fN (oa g) (h1 x hx)
  ·rename_i g
   refine List.pairwise_cons.2 ⟨fun x hx=>?_,ph ks i r h2⟩
   rcases (rm ks i r x).1 hx with rfl | hx
   ·unfold leK;simpa using g
   ·exact h1 x hx
theorem jW (ks:List (List UInt8)):∀n:Nat,(lC ks n).Pairwise (leK ks)
 |0=>List.Pairwise.nil
 |n+1=>ph ks n _ (jW ks n)
theorem uM (ks:List (List UInt8)) (i:Nat):∀(a b:List Nat),(∀x,x∈a→leK ks x i)→(∀x,x∈b→aq (ks.getD i []) (ks.getD x [])=true)→kT ks i (a++b)=a++i::b
 |[],[],_,_=>rfl
 |[],x::b,_,h=>by rw[List.nil_append,kT,if_pos (h x List.mem_cons_self)];rfl
 |x::a,b,h1,h2=>by
  have h:=h1 x List.mem_cons_self
  unfold leK at h
  rw[List.cons_append,kT,h,if_neg (by decide),uM ks i a b (fun y hy=>h1 y (List.mem_cons_of_mem _ hy)) h2]
  rfl
end Go.Idl
namespace Go.Idl
attribute [local go_sem] bB bA gI gS aZ bF bW bT cA cC cf ct bp aO bk aS aQ cr bq aK cD aJ aA aF az aB aj cG bZ bh bf ck cd bo c9 cu bw cy cB cz cE bg bt bu aR bm cx aP aG aM aN bj an af
theorem JG {row:List IV}{n:Nat}(a:Nat) (h:a≤n) (hr:row.length=n):POp.ev (.sliceS 1 false true) [.sl row n,.int .i64 (a:Int)]=some (.sl (row.take a) a):=by
 have c1:(0:Int)≤(a:Int):=by omega
 have c2:(a:Int)≤(n:Int):=by omega
 simp[POp.ev,ee,dS,bnd,c1,c2,h]
theorem Ki {row:List IV}{n:Nat}(a:Nat) (h:a≤n) (hr:row.length=n):POp.ev (.sliceS 1 true false) [.sl row n,.int .i64 (a:Int)]=some (.sl (row.drop a) (n-a)):=by
 have c1:(0:Int)≤(a:Int):=by omega
 have c2:(a:Int)≤(n:Int):=by omega
 have e:(row.drop a).take (n-a)=row.drop a:=List.take_of_length_le (by rw[List.length_drop];omega)
 simp[POp.ev,ee,dS,bnd,c1,c2,h,e]
def gx (l:List Nat):IV:=if l=[] then .nilSlice else .sl (aL l) l.length
theorem mg (l:List Nat):POp.ev .lenSlice [gx l]=some (.int .i64 (l.length:Int)):=by
 unfold gx;split
 ·rename_i h;subst h;rfl
 ·simp[POp.ev]
theorem nO {R:Type}(l:List Nat) (X:Option R):c7 (gx l) X=X:=by unfold gx;split<;>rfl
theorem Gv (l:List Nat) (a:Nat) (h:a≤l.length):∃v,POp.ev (.sliceS 1 false true) [gx l,.int .i64 (a:Int)]=some v∧∀{R:Type}(m:IM) (K:List IV→Nat→Option R),jN m 1 v K=K (aL (l.take a)) a:=by
 unfold gx;split
 ·rename_i e
  subst e
  have:a=0:=by simpa using h
  subst this
  exact⟨.nilSlice,by simp[POp.ev,ee,dS,bnd],fun m K=>rfl⟩
 ·refine⟨_,JG a h (by simp[aL]),fun m K=>?_⟩
  simp[jN,cO,aL,List.map_take]
theorem Hm (l:List Nat) (a:Nat) (h:a≤l.length):∃v,POp.ev (.sliceS 1 true false) [gx l,.int .i64 (a:Int)]=some v∧∀{R:Type}(m:IM) (K:List IV→Nat→Option R),jN m 1 v K=K (aL (l.drop a)) (l.length-a):=by
 unfold gx;split
 ·rename_i e
  subst e
  have:a=0:=by simpa using h
  subst this
  exact⟨.nilSlice,by simp[POp.ev,ee,dS,bnd],fun m K=>rfl⟩
 ·refine⟨_,Ki a h (by simp[aL]),fun m K=>?_⟩
  simp[jN,cO,aL,List.map_drop]
def goB (so:Bool) (k:Int) (ks:List (List UInt8)) (l:List Nat) (i a:Nat):Bool:=so&&decide (k=5)&&decide (0<a)&&aq (ks.getD i []) (ks.getD (l.getD (a-1) 0) [])
theorem M9 (so:Bool) (l:List Nat) (i a:Nat) (k:Int) (t:List UInt8) (K V:IV) (ks:List (List UInt8)) (hK:SlS K ks) (hi:k=5→i<ks.length) (hl:k=5→∀x,x∈l→x<ks.length) (ha:a≤l.length) (hll:l.length≤1000000) (m:IM) :
  kQ so (gx l) i a k t K V m=some (.normal,[.bool so,gx l,.int .i64 (i:Int),.int .i64 (a:Int),.bool (goB so k ks l i a)],[.cells [.int .i64 k,.str t,K,V] [.any,.any,.any,.any]],m):=by
 cases so with
 |false=>simp only[kQ,go_sem,Bool.false_eq_true,if_false,goB,Bool.false_and]
 |true =>
  by_cases hk:k=5
  ·subst hk
   have hi:=hi rfl
   have hl:=hl rfl
   by_cases g:0<a
   ·have g':(a:Int)>0:=by omega
    have hne:l≠[]:=by rintro rfl;simp at ha;omega
    have hw:IntKind.i64.wrap ((a:Int)-1)=((a-1:Nat):Int):=by rw[w64 (by omega) (by omega)];omega
    have ha1:a-1<l.length:=by omega
    have hisl:gx l=.sl (aL l) l.length:=by unfold gx;rw[if_neg hne]
    have hgl:l.getD (a-1) 0=l[a-1]:=by simp[List.getD_eq_getElem?_getD,ha1]
    have hx:=hl l[a-1] (List.getElem_mem ha1)
    have hrow:(aL l)[(a-1)*1]?=some (.int .i64 ((l[a-1]:Nat):Int)):=by simp[aL,ha1]
    have hKs:K=.sl (ks.map .str) ks.length:=by
     rcases hK with ⟨_,rfl⟩ | h
     ·simp at hi
     ·exact h
    have r1:(ks.map IV.str)[l[a-1]*1]?=some (.str ks[l[a-1]]):=by simp[hx]
    have r2:(ks.map IV.str)[i*1]?=some (.str ks[i]):=by simp[hi]
    have d1:ks.getD i []=ks[i]:=by simp[List.getD_eq_getElem?_getD,hi]
    have d2:ks.getD l[a-1] []=ks[l[a-1]]:=by simp[List.getD_eq_getElem?_getD,hx]
    subst hKs
    have hgo:goB true 5 ks l i a=aq ks[i] ks[l[a-1]]:=by
     unfold goB
     rw[hgl,d1,d2];simp[g]
    rw[hgo,hisl]
    simp only[kQ,go_sem,if_true,BEq.rfl,decide_eq_true g',hw,av (ix1 ha1),a8 hrow,av (ix1 hx),a8 r1,av (ix1 hi),a8 r2,MU]
   ·have g':¬(a:Int)>0:=by omega
    have:goB true 5 ks l i a=false:=by simp[goB,g]
    rw[this]
    simp only[kQ,go_sem,if_true,BEq.rfl,decide_eq_false g',Bool.false_eq_true,if_false]
  ·have hk':(k==5)=false:=by simpa using hk
   have:goB true k ks l i a=false:=by simp[goB,hk]
   rw[this]
   simp only[kQ,go_sem,if_true,hk',Bool.false_eq_true,if_false]
def lW (so:Bool) (k:Int) (ks:List (List UInt8)) (l:List Nat) (i:Nat):Nat→Nat
 |0=>0
 |a+1=>if goB so k ks l i (a+1) then lW so k ks l i a else a+1
theorem As (so:Bool) (k:Int) (ks:List (List UInt8)) (l:List Nat) (i:Nat):∀a,lW so k ks l i a≤a
 |0=>Nat.le_refl _
 |a+1=>by
  unfold lW
  have:=As so k ks l i a
  split<;>omega
theorem Mh (so:Bool) (l:List Nat) (i:Nat) (k:Int) (t:List UInt8) (K V:IV) (ks:List (List UInt8)) (hK:SlS K ks) (hi:k=5→i<ks.length) (hl:k=5→∀x,x∈l→x<ks.length) (hll:l.length≤1000000) (m:IM):∀a,a≤l.length →
  y8 so (gx l) i a k t K V m=some (.exit 2,[.bool so,gx l,.int .i64 (i:Int),.int .i64 ((lW so k ks l i a:Nat):Int)],[.cells [.int .i64 k,.str t,K,V] [.any,.any,.any,.any]],m)
 |0,ha=>by
  have hC:=M9 so l i 0 k t K V ks hK hi hl ha hll m
  have hg:goB so k ks l i 0=false:=by simp[goB]
  rw[hg] at hC
  rw[tK]
  simp only[qf,hC,go_sem,if_true,Bool.false_eq_true,if_false,lW]
 |a+1,ha=>by
  have hC:=M9 so l i (a+1) k t K V ks hK hi hl ha hll m
  have hw:IntKind.i64.wrap (((a+1:Nat):Int)-1)=(a:Int):=by rw[w64 (by omega) (by omega)];omega
  have ih:=Mh so l i k t K V ks hK hi hl hll m a (by omega)
  rw[tK,lW]
  generalize a+1=a1 at *
  cases hg:goB so k ks l i a1 with
  |false =>
   rw[hg] at hC
   simp only[qf,hC,go_sem,if_true,Bool.false_eq_true,if_false]
  |true =>
   rw[hg] at hC
   rw[if_pos rfl,←ih]
   simp only[qf,hC,go_sem,if_true,nO,hw]
   rfl
theorem xA (k:Int) (ks:List (List UInt8)) (l:List Nat) (i:Nat) (hk:k=5) (hs:l.Pairwise (leK ks)):∀a,a≤l.length→(∀x,x∈l.drop a→aq (ks.getD i []) (ks.getD x [])=true)→kT ks i l=l.take (lW true k ks l i a)++i::l.drop (lW true k ks l i a)
 |0,_,h=>by
  have:=uM ks i [] l (fun x hx=>by cases hx) (by simpa using h)
  simpa[lW] using this
 |a+1,ha,h=>by
  have hlt:a<l.length:=by omega
  have hgl:l.getD a 0=l[a]:=by simp[List.getD_eq_getElem?_getD,hlt]
  have hgo:goB true k ks l i (a+1)=aq (ks.getD i []) (ks.getD l[a] []):=by
   unfold goB
   rw[Nat.add_sub_cancel,hgl];simp[hk]
  unfold lW
  rw[hgo]
  split
  ·rename_i g
   refine xA k ks l i hk hs a (by omega) (fun x hx=>?_)
   rw[List.drop_eq_getElem_cons hlt] at hx
   rcases List.mem_cons.1 hx with rfl | hx
   ·exact g
   ·exact h x hx
  ·rename_i g
   have g:aq (ks.getD i []) (ks.getD l[a] [])=false:=by simpa using g
   have:=uM ks i (l.take (a+1)) (l.drop (a+1)) (fun x hx=>?_) h
   ·rwa [List.take_append_drop] at this
   ·rw[List.take_succ_eq_append_getElem hlt] at hx
    rcases List.mem_append.1 hx with hx | hx
    ·have hp:l.take a++l.drop a=l:=List.take_append_drop _ _
     have hs2:=hs
     rw[←hp,List.pairwise_append] at hs2
     have h3:=hs2.2.2 x hx l[a] (by rw[List.drop_eq_getElem_cons hlt];exact List.mem_cons_self)
     exact fN h3 g
    ·simp only[List.mem_cons,List.not_mem_nil,or_false] at hx
     subst hx;exact g
end Go.Idl
namespace Go.Idl
attribute [local go_sem] bB bA gI gS aZ bF bW bT cA cC cf ct bp aO bk aS aQ cr bq aK cD aJ aA aF az aB aj cG bZ bh bf ck cd bo c9 cu bw cy cB cz cE bg bt bu aR bm cx aP aG aM aN bj an af
theorem Ck {so:Bool}{k:Int}(h:(so&&decide (k=5))=false) (ks:List (List UInt8)) (l:List Nat) (i a:Nat):goB so k ks l i a=false:=by
 unfold goB;rw[h];rfl
theorem DC {so:Bool}{k:Int}(h:(so&&decide (k=5))=false) (ks:List (List UInt8)) (l:List Nat) (i a:Nat):lW so k ks l i a=a:=by
 cases a with
 |zero=>rfl
 |succ a=>unfold lW;rw[Ck h];rfl
theorem B0 (so:Bool) (k:Int) (ks:List (List UInt8)) (i:Nat):fu so k ks (i+1)=(fu so k ks i).take (lW so k ks (fu so k ks i) i (fu so k ks i).length)++i::(fu so k ks i).drop (lW so k ks (fu so k ks i) i (fu so k ks i).length):=by
 cases h:(so&&decide (k=5)) with
 |false =>
  rw[DC h]
  unfold fu
  rw[h]
  simp[List.range_succ]
 |true =>
  simp only[Bool.and_eq_true,decide_eq_true_eq] at h
  obtain⟨rfl,hk⟩:=h
  have:=xA k ks (lC ks i) i hk (jW ks i) (lC ks i).length (Nat.le_refl _) (fun x hx=>by simp at hx)
  unfold fu
  simp only[hk,decide_true,Bool.and_self,if_true]
  rw[hk] at this
  rw[lC];exact this
theorem LY (so:Bool) (k:Int) (t:List UInt8) (K V:IV) (ks:List (List UInt8)) (n:Nat) (hK:SlS K ks) (hV:POp.ev .lenSlice [V]=some (.int .i64 (n:Int))) (hk5:k=5→ks.length=n) (hn:n≤1000000) (m:IM):∀(j i:Nat),n=i+j →
  rZ so (gx (fu so k ks i)) i k t K V m=some (.exit 0,[gx (fu so k ks n)],[],m):=by
 have hml:ak=1099511627776:=rfl
 intro j
 induction j with
 |zero =>
  intro i hj
  have:i=n:=by omega
  subst this
  have c1:¬(i:Int)<(i:Int):=by omega
  rw[tN]
  simp only[qL,av hV,go_sem,decide_eq_false c1,Bool.false_eq_true,if_false]
 |succ j ih =>
  intro i hj
  have hi:i<n:=by omega
  have c1:(i:Int)<(n:Int):=by omega
  have hw:IntKind.i64.wrap ((i:Int)+1)=((i+1:Nat):Int):=by rw[w64 (by omega) (by omega)];rfl
  have hlen:=rC so k ks i
  have hmem:=jX so k ks i
  have hstep:=B0 so k ks i
  have h:=ih (i+1) (by omega)
  generalize hl:fu so k ks i=l at *
  have hL:=Mh so l i k t K V ks hK (fun h5=>by rw[hk5 h5];exact hi) (fun h5 x hx=>by have:=(hmem x).1 hx;rw[hk5 h5];omega) (by omega) m l.length (Nat.le_refl _)
  have hpos:=As so k ks l i l.length
  generalize lW so k ks l i l.length=p at *
  obtain⟨v1,e1,s1⟩:=Gv l p hpos
  obtain⟨v2,e2,s2⟩:=Hm l p hpos
  have l1:(aL (l.take p)).length=p:=by simp[aL];omega
  have l2:(aL (l.drop p)).length=l.length-p:=by simp[aL]
  have b1:Nat.beq (aL (l.take p)).length (p*1)=true:=by rw[l1];simp
  have b2:Nat.beq (aL (l.drop p)).length ((l.length-p)*1)=true:=by rw[l2];simp
  have d1:decide ((0+p)*8≤ak∧List.length (cS [.int .i64 0] 0)=0*1)=true:=by
   rw[decide_eq_true_eq];exact⟨by omega,rfl⟩
  have d2:decide ((0+p+1)*8≤ak∧List.length (cS [.int .i64 0] 0++aL (l.take p))=(0+p)*1)=true:=by
   rw[decide_eq_true_eq];exact⟨by omega,by simp[cS,l1]⟩
  have d3:decide ((0+p+1+(l.length-p))*8≤ak∧List.length (cS [.int .i64 0] 0++aL (l.take p)++over (cS [.int .i64 0] 1) 0 [.int .i64 (i:Int)])=(0+p+1)*1)=true:=by
   rw[decide_eq_true_eq];exact⟨by omega,by simp[cS,over,l1]⟩
  have hres:IV.sl (List.append (List.append (aL (l.take p)) [.int .i64 (i:Int)]) (aL (l.drop p))) (0+p+1+(l.length-p))=gx (l.take p++i::l.drop p):=by
   unfold gx
   rw[if_neg (by simp)]
   have e:(l.take p++i::l.drop p).length=0+p+1+(l.length-p):=by simp;omega
   rw[e]
   congr 1
   simp[aL]
  have step:nxt vw (qL so (gx l) i k t K V m)=rZ so (gx (l.take p++i::l.drop p)) (i+1:Nat) k t K V m:=by
   generalize i+1=i2 at *
   simp only[qL,av hV,go_sem,decide_eq_true c1,if_true,av (mg l),nO,hL,av e1,s1,eC (j7 _),b1,d1,d2,av e2,s2,b2,d3,hw,hres]
   rfl
  rw[tN,step,←hstep]
  exact h
theorem Dz (so:Bool) (k:Int) (t:List UInt8) (K V:IV) (ks:List (List UInt8)) (n:Nat) (hK:SlS K ks) (hV:POp.ev .lenSlice [V]=some (.int .i64 (n:Int))) (hV2:V.refs=some 0) (hk5:k=5→ks.length=n) (hn:n≤1000000) (m:IM) :
  cw (.f 108) [.agg [.int .i64 k,.str t,K,V],.bool so] m=some (gx (fu so k ks n),m):=by
 have hL:=LY so k t K V ks n hK hV hk5 hn m n 0 (by omega)
 have h0:fu so k ks 0=[]:=by unfold fu;split<;>rfl
 rw[h0] at hL
 have hL':rZ so .nilSlice 0 k t K V m=_:=hL
 apply Bx
 simp only[JE,ah hK.refs,ah hV2,hL',go_sem,if_true]
 refine an ?_
 unfold gx
 split<;>rfl
end Go.Idl
namespace Go.Idl
attribute [local go_sem] bB bA gI gS aZ bF bW bT cA cC cf ct bp aO bk aS aQ cr bq aK cD aJ aA aF az aB aj cG bZ bh bf ck cd bo c9 cu bw cy cB cz cE bg bt bu aR bm cx aP aG aM aN bj an af aT aw cX cW bI ba bJ cn bL cg bH cm List.flatMap_cons List.flatMap_nil
theorem Ow (p:Nat) (br:List UInt8) (lvl:Int) (l:IV) (i:Nat) (k:Int) (t:List UInt8) (K V:IV) (so li:Bool) (out:List UInt8) (m:IM) (hm:m.get p=prP so li out (.own 1)) (hl:out.length≤150000000000) :
  uW p lvl br l i k t K V m=some (.normal,[.pB p 0,.int .i64 lvl,.str br,l,.int .i64 (i:Int)],[.cells [.int .i64 k,.str t,K,V] [.any,.any,.any,.any]],bP m p (prP so li (out++if 0<i then [44] else []) (.own 1))):=by
 have hml:ak=1099511627776:=rfl
 by_cases g:0<i
 ·have g':(i:Int)>0:=by omega
  have a1:=kf hm (.inr rfl) (x:=[44]) (xs:=[.int .u8 44]) (n:=1) rfl rfl (by simp only[List.length_cons,List.length_nil];omega) (R:=LR)
  simp only[uW,go_sem,decide_eq_true g',if_true,gb hm,a1,if_pos g]
 ·have g':¬(i:Int)>0:=by omega
  simp only[uW,go_sem,decide_eq_false g',Bool.false_eq_true,if_false,if_neg g,List.append_nil,mD hm]
theorem NK (p:Nat) (br:List UInt8) (lvl:Int) (l:List Nat) (j:Nat) (hj:j<l.length) (k:Int) (t:List UInt8) (K V:IV) (ks:List (List UInt8)) (hK:SlS K ks) (hi:k=5→l[j]<ks.length) (so li:Bool) (out:List UInt8) (m:IM) (hm:m.get p=prP so li out (.own 1)) (hl:out.length+(iW li k ks l[j]).length≤120000000000) :
  sJ p lvl br (.sl (aL l) l.length) j k t K V m=some (.normal,[.pB p 0,.int .i64 lvl,.str br,.sl (aL l) l.length,.int .i64 (j:Int)],[.cells [.int .i64 k,.str t,K,V] [.any,.any,.any,.any]],bP m p (prP so li (out++iW li k ks l[j]) (.own 1))):=by
 have hml:ak=1099511627776:=rfl
 by_cases g:k=5
 ·subst g
  have hi:=hi rfl
  have hg:K=.sl (ks.map .str) ks.length:=by
   rcases hK with ⟨_,rfl⟩ | h
   ·simp at hi
   ·exact h
  have hrow0:(aL l)[j*1]?=some (.int .i64 ((l[j]:Nat):Int)):=by simp[aL,hj]
  generalize l[j]=i at *
  have hx:ks.getD i []=ks[i]:=by simp[List.getD_eq_getElem?_getD,hi]
  have hrow:(ks.map IV.str)[i*1]?=some (.str ks[i]):=by simp[hi]
  have hk:iW li 5 ks i=fe ks[i]++(58::if li then [32] else []):=by simp only[iW,if_true,hx]
  rw[hk] at hl ⊢
  have hql:ks[i].length≤(fe ks[i]).length:=by
   have:=uL ks[i]
   simp only[fe,List.length_cons,List.length_append];omega
  simp only[List.length_append,List.length_cons] at hl
  have h1:=fun K2:IV→IM→Option LR=>nP (tC ks[i] (by omega)) (wC hm) (by simp[go_sem]) K2
  have hB:Nat.beq (aa (fe ks[i])).length ((fe ks[i]).length*1)=true:=by simp[dD]
  have a0:=kf hm (.inr rfl) (x:=fe ks[i]) (n:=(fe ks[i]).length) rfl rfl (by omega) (R:=LR)
  have hm1:(bP m p (prP so li (out++fe ks[i]) (.own 1))).get p=prP so li (out++fe ks[i]) (.own 1):=iF hm
  have a1:=kf hm1 (.inr rfl) (x:=[58]) (xs:=[.int .u8 58]) (n:=1) rfl rfl (by simp only[List.length_cons,List.length_nil,List.length_append];omega) (R:=LR)
  simp only[bC] at a1
  have hm2:(bP m p (prP so li (out++fe ks[i]++[58]) (.own 1))).get p=prP so li (out++fe ks[i]++[58]) (.own 1):=iF hm
  have hc:List.contains [p] p=true:=by simp
  subst hg
  cases li with
  |false =>
   simp only[sJ,go_sem,BEq.rfl,if_true,Nat.beq_refl,gb hm,av (ix1 hj),a8 hrow0,av (ix1 hi),a8 hrow,h1,hc,eC (cP _),hB,a0,gb hm1,a1,Ax hm2,Bool.false_eq_true,if_false]
   simp only[List.append_assoc,List.cons_append,List.nil_append]
  |true =>
   have a2:=kf hm2 (.inr rfl) (x:=[32]) (xs:=[.int .u8 32]) (n:=1) rfl rfl (by simp only[List.length_cons,List.length_nil,List.length_append];omega) (R:=LR)
   simp only[bC] at a2
   simp only[sJ,go_sem,BEq.rfl,if_true,Nat.beq_refl,gb hm,av (ix1 hj),a8 hrow0,av (ix1 hi),a8 hrow,h1,hc,eC (cP _),hB,a0,gb hm1,a1,Ax hm2,gb hm2,a2]
   simp only[List.append_assoc,List.cons_append,List.nil_append]
 ·have g':(k==5)=false:=by simpa using g
  simp only[sJ,go_sem,g',Bool.false_eq_true,if_false,iW,if_neg g,List.append_nil,mD hm]
theorem L83 (w:Nat) (br:List UInt8) (lvl:Nat) (hlv:lvl≤1000) (k:Int) (t:List UInt8) (K V:IV) (ks:List (List UInt8)) (vs:List Val) (hK:SlS K ks) (hV:SlV V vs) (so li:Bool) (ts:List (List UInt8)) (l:List Nat) (hl:∀i,i∈l→i<vs.length∧(k=5→i<ks.length)) (hn:l.length≤1000000)
  (hI:∀(i:Nat) (h:i<vs.length) (c:List IV),ValR vs[i] c→∀(out:List UInt8) (m:IM),m.get w=prP so li out (.own 1)→out.length+(ts.getD i []).length≤100000000000→cw (.f 83) [.pB w 0,.agg c,.int .i64 ((lvl+1:Nat):Int)] m=some (.tup [],bP m w (prP so li (out++ts.getD i []) (.own 1)))) :
  ∀(j p:Nat) (out:List UInt8) (m:IM),l.length=p+j→m.get w=prP so li out (.own 1)→out.length+(jT li (lvl+1) k ks ts p (l.drop p)).length≤100000000000 →
  xO w lvl br (gx l) p k t K V m=some (.exit 1,[.pB w 0,.int .i64 (lvl:Int),.str br,gx l],[],bP m w (prP so li (out++jT li (lvl+1) k ks ts p (l.drop p)) (.own 1))):=by
 intro j
 induction j with
 |zero =>
  intro p out m hj hm hb
  have c1:¬(p:Int)<(l.length:Int):=by omega
  rw[ya,List.drop_eq_nil_iff.2 (by omega)]
  simp only[xE,av (mg l),go_sem,decide_eq_false c1,Bool.false_eq_true,if_false,jT,List.append_nil,mD hm]
 |succ j ih =>
  intro p out m hj hm hb
  have hp:p<l.length:=by omega
  have c1:(p:Int)<(l.length:Int):=by omega
  have hw:IntKind.i64.wrap ((p:Int)+1)=((p+1:Nat):Int):=by rw[w64 (by omega) (by omega)];rfl
  have hw2:IntKind.i64.wrap ((lvl:Int)+1)=((lvl+1:Nat):Int):=by rw[w64 (by omega) (by omega)];rfl
  have hisl:gx l=.sl (aL l) l.length:=by unfold gx;rw[if_neg (by rintro rfl;simp at hp)]
  rw[List.drop_eq_getElem_cons hp] at hb ⊢
  obtain⟨hi,hik⟩:=hl l[p] (List.getElem_mem hp)
  have hrow:(aL l)[p*1]?=some (.int .i64 (l[p]:Int)):=by simp[aL,hp]
  unfold jT at hb ⊢
  simp only[List.length_append] at hb
  have hA:=Ow w br lvl (.sl (aL l) l.length) p k t K V so li out m hm (by omega)
  have hm1:(bP m w (prP so li (out++if 0<p then [44] else []) (.own 1))).get w=prP so li (out++if 0<p then [44] else []) (.own 1):=iF hm
  have hB:=Ad w (lvl+1) (by omega) so li (out++if 0<p then [44] else []) _ hm1 (by rw[List.length_append];omega)
  rw[bC] at hB
  have h1:=fun K2:IV→IM→Option (St⊕LR)=>au hB (by simp[go_sem]) K2
  have hm2:(bP m w (prP so li ((out++if 0<p then [44] else [])++gn li (lvl+1)) (.own 1))).get w=prP so li ((out++if 0<p then [44] else [])++gn li (lvl+1)) (.own 1):=iF hm
  have hC:=NK w br lvl l p hp k t K V ks hK hik so li _ _ hm2 (by simp only[List.length_append];omega)
  rw[bC] at hC
  generalize l[p]=i at *
  have hm3:(bP m w (prP so li (((out++if 0<p then [44] else [])++gn li (lvl+1))++iW li k ks i) (.own 1))).get w=prP so li (((out++if 0<p then [44] else [])++gn li (lvl+1))++iW li k ks i) (.own 1):=iF hm
  cases hV with
  |nil=>simp at hi
  | @sl _ row n hr hnn =>
   obtain⟨c,hc,hcut⟩:=hr.get i hi
   have hD:=hI i hi c hc _ _ hm3 (by simp only[List.length_append];omega)
   rw[bC] at hD
   have hin:i<n:=by omega
   obtain⟨k',t',K',V',rfl,hK',hV',_,_⟩:=hc.cells
   have h2:=fun K2:IV→IM→Option (St⊕LR)=>au hD (by simp[go_sem,hK',hV']) K2
   have h:=ih (p+1) _ _ (by omega) (iF (out':=(((out++if 0<p then [44] else [])++gn li (lvl+1))++iW li k ks i)++ts.getD i []) hm) (by simp only[List.length_append];omega)
   rw[bC] at h
   have hnl:∀X:Option (St⊕LR),c7 (.sl (aL l) l.length) X=X:=fun X=>rfl
   have hlen:POp.ev .lenSlice [.sl (aL l) l.length]=some (.int .i64 (l.length:Int)):=by simp[POp.ev]
   rw[hisl] at h ⊢
   have step:nxt AB (xE w lvl br (.sl (aL l) l.length) p k t K (.sl row n) m)=xO w lvl br (.sl (aL l) l.length) (p+1:Nat) k t K (.sl row n) (bP m w (prP so li ((((out++if 0<p then [44] else [])++gn li (lvl+1))++iW li k ks i)++ts.getD i []) (.own 1))):=by
    simp only[xE,av hlen,go_sem,decide_eq_true c1,if_true,hA,hw2,h1,hC,av (ix1 hp),a8 hrow,av (wZ hin),gm hcut,h2,hw,hnl]
    rfl
   rw[ya,step,h]
   simp only[List.append_assoc]
end Go.Idl
namespace Go.Idl
attribute [local go_sem] bB bA gI gS aZ bF bW bT cA cC cf ct bp aO bk aS aQ cr bq aK cD aJ aA aF az aB aj cG bZ bh bf ck cd bo c9 cu bw cy cB cz cE bg bt bu aR bm cx aP aG aM aN bj an af aT aw cX cW bI ba bJ cn bL cg bH cm List.flatMap_cons List.flatMap_nil
theorem Gt (so li:Bool) (w:Nat):∀(d:Nat) (v:Val) (c:List IV),wfV d v→ValR v c→∀(lvl:Nat) (out:List UInt8) (cp:Cap) (m:IM),lvl+d≤1000→m.get w=prP so li out cp→(out=[]∨cp=.own 1)→out.length+(prV so li v lvl).length≤100000000000 →
  cw (.f 83) [.pB w 0,.agg c,.int .i64 (lvl:Int)] m=some (.tup [],bP m w (prP so li (out++prV so li v lvl) (.own 1))):=by
 have hml:ak=1099511627776:=rfl
 intro d
 induction d with
 |zero=>intro v c hw;cases hw
 |succ d ih =>
  intro v c hw hc lvl out cp m hlv hm hcp hb
  cases hw with
  | @mk _ k t ks vs h0 h5 hkv hn hall =>
   cases hc with
   | @mk _ _ _ _ K V hK hV =>
    have hk:=hK.refs
    have hv:=hV.refs
    apply Dv
    by_cases k0:k=0
    ·subst k0
     have e:prV so li (.mk 0 t ks vs) lvl=[110,117,108,108]:=by unfold prV;rfl
     rw[e] at hb ⊢
     have a1:=kf hm hcp (x:=[110,117,108,108]) (xs:=aa [110,117,108,108]) (n:=4) rfl rfl (by simp only[List.length_cons,List.length_nil] at hb ⊢;omega) (R:=IV×IM)
     have hB:Nat.beq (List.length (aa [110,117,108,108])) (List.length ([110,117,108,108]:List Nat)*1)=true:=rfl
     simp only[F83,ah hk,ah hv,go_sem,BEq.rfl,if_true,gb hm,eC (cP [110,117,108,108]),hB,a1]
    ·have b0:(k==0)=false:=by simpa using k0
     have hC0:rW w lvl k k t K V m=some (.normal,[.pB w 0,.int .i64 (lvl:Int),.int .i64 k,.bool (decide (k=1∨k=2))],[.cells [.int .i64 k,.str t,K,V] [.any,.any,.any,.any]],m):=by
      by_cases k1:k=1
      ·subst k1;simp only[rW,go_sem,BEq.rfl,if_true];rfl
      ·have b1:(k==1)=false:=by simpa using k1
       by_cases k2:k=2
       ·subst k2;simp only[rW,go_sem,b1,Bool.false_eq_true,if_false];rfl
       ·have b2:(k==2)=false:=by simpa using k2
        have:decide (k=1∨k=2)=false:=by simp[k1,k2]
        rw[this]
        simp only[rW,go_sem,b1,Bool.false_eq_true,if_false,b2]
     by_cases k12:k=1∨k=2
     ·rw[decide_eq_true k12] at hC0
      have e:prV so li (.mk k t ks vs) lvl=t:=by unfold prV;rw[if_neg k0,if_pos k12]
      rw[e] at hb ⊢
      have a1:=kf hm hcp (x:=t) (xs:=aa t) (n:=t.length) rfl rfl (by omega) (R:=IV×IM)
      have hB:Nat.beq (aa t).length (t.length*1)=true:=by simp[dD]
      simp only[F83,ah hk,ah hv,go_sem,b0,Bool.false_eq_true,if_false,hC0,if_true,Nat.beq_refl,gb hm,eC (cP t),hB,a1]
     ·rw[decide_eq_false k12] at hC0
      by_cases k3:k=3
      ·subst k3
       have e:prV so li (.mk 3 t ks vs) lvl=fe t:=by unfold prV;rfl
       rw[e] at hb ⊢
       have hq:=uL t
       have hql:t.length≤(fe t).length:=by simp only[fe,List.length_cons,List.length_append];omega
       have h1:=fun K2:IV→IM→Option (IV×IM)=>nP (tC t (by omega)) (wC hm) (by simp[go_sem]) K2
       have a1:=kf hm hcp (x:=fe t) (xs:=aa (fe t)) (n:=(fe t).length) rfl rfl (by omega) (R:=IV×IM)
       have hB:Nat.beq (aa (fe t)).length ((fe t).length*1)=true:=by simp[dD]
       have hcn:List.contains [w] w=true:=by simp
       simp only[F83,ah hk,ah hv,go_sem,b0,Bool.false_eq_true,if_false,hC0,if_true,BEq.rfl,Nat.beq_refl,gb hm,h1,hcn,eC (cP (fe t)),hB,a1]
      ·have b3:(k==3)=false:=by simpa using k3
       have hk45:k=4∨k=5:=by omega
       have hpr:prV so li (.mk k t ks vs) lvl=opB k::(jT li (lvl+1) k ks (prL so li vs (lvl+1)) 0 (fu so k ks vs.length)++((if vs=[] then [] else gn li lvl)++[clB k])):=by
        unfold prV
        rw[if_neg (by omega),if_neg (by omega),if_neg (by omega)]
       rw[hpr] at hb ⊢
       simp only[List.length_cons,List.length_append] at hb
       have hC1:vJ w lvl [91,93] k t K V m=some (.normal,[.pB w 0,.int .i64 (lvl:Int),.str [opB k,clB k]],[.cells [.int .i64 k,.str t,K,V] [.any,.any,.any,.any]],m):=by
        rcases hk45 with rfl | rfl
        ·simp only[vJ,go_sem];rfl
        ·simp only[vJ,go_sem,BEq.rfl,if_true];rfl
       have a1:=kf hm hcp (x:=[opB k]) (xs:=[.int .u8 ((opB k).toNat:Int)]) (n:=1) rfl rfl (by simp only[List.length_cons,List.length_nil];omega) (R:=IV×IM)
       have hm1:(bP m w (prP so li (out++[opB k]) (.own 1))).get w=prP so li (out++[opB k]) (.own 1):=iF hm
       have hord:=Dz so k t K V ks vs.length hK hV.len hv (fun h=>(hkv h).1) hn (bP m w (prP so li (out++[opB k]) (.own 1)))
       have h1:=fun K2:IV→IM→Option (IV×IM)=>au hord (by simp[go_sem,hk,hv]) K2
       have hlen:=rC so k ks vs.length
       have hL:=L83 w [opB k,clB k] lvl (by omega) k t K V ks vs hK hV so li (prL so li vs (lvl+1)) (fu so k ks vs.length)
        (fun i hi=>⟨(jX so k ks vs.length i).1 hi,fun h5=>by rw[(hkv h5).1];exact (jX so k ks vs.length i).1 hi⟩) (by omega)
        (fun i h c hc out m hm hb=>by rw[sj so li vs (lvl+1) i h] at hb ⊢;exact ih _ _ (hall _ (List.getElem_mem h)) hc (lvl+1) out _ m (by omega) hm (.inr rfl) hb)
        vs.length 0 (out++[opB k]) _ (by omega) hm1 (by rw[List.drop_zero,List.length_append,List.length_cons,List.length_nil];omega)
       rw[List.drop_zero,bC] at hL
       generalize hit:jT li (lvl+1) k ks (prL so li vs (lvl+1)) 0 (fu so k ks vs.length)=it at *
       generalize hord2:fu so k ks vs.length=od at *
       have hm2:(bP m w (prP so li ((out++[opB k])++it) (.own 1))).get w=prP so li ((out++[opB k])++it) (.own 1):=iF hm
       have hC4:vD w lvl [opB k,clB k] (gx od) (bP m w (prP so li ((out++[opB k])++it) (.own 1)))=some (.normal,[.pB w 0,.str [opB k,clB k]],[],bP m w (prP so li (((out++[opB k])++it)++if vs=[] then [] else gn li lvl) (.own 1))):=by
        by_cases g:vs=[]
        ·have g':¬(od.length:Int)>0:=by rw[hlen,g];simp
         simp only[vD,av (mg _),go_sem,decide_eq_false g',Bool.false_eq_true,if_false,if_pos g,List.append_nil]
        ·have g':(od.length:Int)>0:=by
          have:vs.length≠0:=fun e=>g (List.length_eq_zero_iff.1 e)
          omega
         rw[if_neg g] at hb ⊢
         have hB:=Ad w lvl (by omega) so li _ _ hm2 (by simp only[List.length_append,List.length_cons,List.length_nil];omega)
         rw[bC] at hB
         have h2:=fun K2:IV→IM→Option LR=>au hB (by simp[go_sem]) K2
         simp only[vD,av (mg _),go_sem,decide_eq_true g',if_true,h2]
       generalize hln:(if vs=[] then [] else gn li lvl)=ln at *
       have hm3:(bP m w (prP so li (((out++[opB k])++it)++ln) (.own 1))).get w=prP so li (((out++[opB k])++it)++ln) (.own 1):=iF hm
       have a2:=kf hm3 (.inr rfl) (x:=[clB k]) (xs:=[.int .u8 ((clB k).toNat:Int)]) (n:=1) rfl rfl (by simp only[List.length_cons,List.length_nil,List.length_append];omega) (R:=IV×IM)
       simp only[bC] at a2
       have e0:POp.ev .idxStr [.str [opB k,clB k],.int .i64 0]=some (.int .u8 ((opB k).toNat:Int)):=by simp[POp.ev]
       have e1:POp.ev .idxStr [.str [opB k,clB k],.int .i64 1]=some (.int .u8 ((clB k).toNat:Int)):=by simp[POp.ev]
       have hL':xO w lvl [opB k,clB k] (gx od) 0 k t K V (bP m w (prP so li (out++[opB k]) (.own 1)))=_:=hL
       simp only[F83,ah hk,ah hv,go_sem,b0,Bool.false_eq_true,if_false,hC0,if_true,b3,hC1,Nat.beq_refl,gb hm,av e0,a1,Nb hm1,h1,nO,hL',hC4,gb hm3,av e1,a2]
       simp only[List.append_assoc,List.cons_append,List.nil_append]
end Go.Idl
namespace Go.Idl
attribute [local go_sem] bB bA gI gS aZ bF bW bT cA cC cf ct bp aO bk aS aQ cr bq aK cD aJ aA aF az aB aj cG bZ bh bf ck cd bo c9 cu bw cy cB cz cE bg bt bu aR bm cx aP aG aM aN bj an af aT aw cX cW bI ba bJ cn bL cg bH cm List.flatMap_cons List.flatMap_nil
def D19 (v:Val):Prop:=∀(c:List IV) (m:IM),ValR v c→okV v→∃c',ValR v c'∧cw (.f 19) [.agg c] m=some (.agg c',m)
theorem Jr (vs:List Val) (row:List IV) (hr:RowR vs row) (hok:okL vs) (hn:vs.length≤1000000) (ih:∀v,v∈vs→D19 v) (k:Int) (t:List UInt8) (K:IV) (m:IM):∀(j i:Nat) (V:IV),vs.length=i+j→SlV V (vs.take i) →
  ∃V',SlV V' vs∧Aa (.sl row vs.length) vs.length i 0 [] .nilSlice .nilSlice k t K V m=some (.exit 0,[],[bxW 0 [],.cells [.int .i64 k,.str t,K,V'] [.any,.any,.any,.own 4]],m):=by
 have hml:ak=1099511627776:=rfl
 intro j
 induction j with
 |zero =>
  intro i V hk hV
  have c1:¬(i:Int)<(vs.length:Int):=by omega
  rw[List.take_of_length_le (by omega)] at hV
  refine⟨V,hV,?_⟩
  rw[sN]
  simp[wF,go_sem,c1,bxW]
 |succ j ihj =>
  intro i V hk hV
  have hi:i<vs.length:=by omega
  have c1:(i:Int)<(vs.length:Int):=by omega
  have e2:IntKind.i64.wrap ((i:Int)+1)=((i+1:Nat):Int):=by rw[w64 (by omega) (by omega)];rfl
  obtain⟨c,hc,hcut⟩:=hr.get i hi
  have hv:vs[i]∈vs:=List.getElem_mem hi
  obtain⟨c',hc',hcall⟩:=ih _ hv c m hc (hok.mem hv)
  obtain⟨a,t1,K1,V1,rfl,hK,hV1,_,_⟩:=hc.cells
  obtain⟨a',t2,K2,V2,rfl,hK2,hV2,hKp,hVp⟩:=hc'.cells
  have hcc:=fun (K2:IV→IM→Option (St⊕LR))=>au hcall (by simp[go_sem,hK,hV1]) K2
  obtain⟨V',hV',hap⟩:=hV.app hc' (by rw[List.length_take];omega)
  have hV'':SlV V' (vs.take (i+1)):=by rw[List.take_succ_eq_append_getElem hi];exact hV'
  obtain⟨W,hW,hL⟩:=ihj (i+1) V' (by omega) hV''
  refine⟨W,hW,?_⟩
  rw[sN,←hL]
  generalize i+1=i2 at *
  simp only[wF,go_sem,c1,decide_true,if_true,av (wZ hi),gm hcut,ah hK,ah hV1,hcc,uA hKp,uA hVp,hap,hV'.isSl,ah hV'.refs,c7,e2]
  rfl
theorem Io (v:Val):D19 v:=by
 obtain⟨k,t,ks,vs⟩:=v
 intro c m hc hok
 have ih:∀v,v∈vs→D19 v:=fun v hv=>by
  have:SizeOf.sizeOf v<SizeOf.sizeOf vs:=List.sizeOf_lt_of_mem hv
  exact Io v
 cases hc with
 | @mk _ _ _ _ K V hK hV =>
  cases hok with
  |mk h1 h2 h3 h4 h5 =>
   obtain⟨K',hK',h50⟩:=Nj hK h2 m
   have hcell:K.cells=[K]:=by rcases hK with ⟨rfl,_⟩ | rfl<;>rfl
   have h50c:=fun (K2:IV→IM→Option (IV×IM))=>au h50 (by simp[go_sem,hcell,hK.refs]) K2
   have hone:∀(X:Option (IV×IM)),FJ K' X=X:=fun X=>by rcases hK' with ⟨rfl,_⟩ | rfl<;>rfl
   have hlen:=hV.len
   have hnl:=AH hV.refs (R:=IV×IM)
   cases hV with
   |nil =>
    refine⟨_,.mk hK' .nil,?_⟩
    apply xN
    have hL:Aa .nilSlice 0 0 0 [] .nilSlice .nilSlice k t K' .nilSlice m=some (.exit 0,[],[bxW 0 [],.cells [.int .i64 k,.str t,K',.nilSlice] [.any,.any,.any,.own 4]],m):=by
     rw[sN]
     simp[wF,go_sem,bxW]
    simp only[F19,ah hK.refs,ah (v:=.nilSlice) rfl,h50c,hone,ah hK'.refs,av hlen,bW,hnl,show (((([]:List Val).length:Nat)):Int)=0 from rfl,hL,bxW]
    simp[go_sem,ah hK'.refs,hK'.refs]
    rfl
   | @sl _ row n hr hn =>
    subst hn
    obtain⟨V',hV',hL⟩:=Jr vs row hr h4 h5 ih k t K' m vs.length 0 .nilSlice (by omega) (by rw[List.take_zero];exact .nil)
    rw[show ((0:Nat):Int)=0 from rfl] at hL
    refine⟨_,.mk hK' hV',?_⟩
    apply xN
    simp only[F19,ah hK.refs,ah (SlV.refs (.sl hr rfl)),h50c,hone,ah hK'.refs,av hlen,bW,hnl,hL,bxW]
    simp[go_sem,ah hK'.refs,ah hV'.refs,hK'.refs,hV'.refs]
termination_by SizeOf.sizeOf v
decreasing_by simp_wf;omega
theorem nw (so li:Bool) (v:Val) (c:List IV) (hc:ValR v c) (ho:okV v) (m:IM) :
  cw (.f 53) [.agg c,.bool so,.bool li] m=some (.tup [.str (eF so li v).1,.int .i64 (eF so li v).2],m):=by
 have hml:ak=1099511627776:=rfl
 obtain⟨k,t,K,V,rfl,hK,hV,_,_⟩:=hc.cells
 have h1:=fun K2:IV→IM→Option (IV×IM)=>au (zK v _ m hc ho) (by simp[go_sem,hK,hV]) K2
 apply Fz
 by_cases g:gy v=0
 ·have hg:¬gy v≠0:=fun h=>h g
  rw[g] at h1
  have hb:=tR so li v g
  have hwf:=uU 41 v 1 2000 (by omega) (by omega) g (by omega)
  have hm1:(bR m (prP so li [] .any)).get m.size=prP so li [] .any:=eD _ _
  have hW:=Gt so li m.size 41 v _ hwf hc 0 [] .any _ (by omega) hm1 (.inl rfl) (by simp only[List.length_nil];omega)
  rw[eH,List.nil_append] at hW
  have h2:=fun K2:IV→IM→Option (IV×IM)=>au hW (by simp[go_sem,hK,hV]) K2
  have hm2:(bR m (prP so li (prV so li v 0) (.own 1))).get m.size=prP so li (prV so li v 0) (.own 1):=eD _ _
  have h2':∀K2:IV→IM→Option (IV×IM),bc cw (.f 83) [.pB m.size 0,.agg [.int .i64 k,.str t,K,V],.int .i64 0] [] (bR m (.cells [.nilSlice,.bool so,.bool li] [.any,.any,.any])) K2=K2 (.tup []) (bR m (prP so li (prV so li v 0) (.own 1))):=h2
  have hst:∀w:IV,w.refsDeep=some 0→settle m (bR m (prP so li (prV so li v 0) (.own 1))) w=some (w,m):=fun w hw=>iK hw
  simp only[eF,if_neg hg]
  by_cases g2:100000<(prV so li v 0).length
  ·have g3:((prV so li v 0).length:Int)>100000:=by omega
   rw[if_pos g2]
   simp only[F53,ah hK,ah hV,h1,go_sem]
   simp only[bne_self_eq_false,Bool.false_eq_true,if_false,h2',go_sem,gb hm2,av (pO _),decide_eq_true g3,if_true]
   exact hst _ rfl
  ·have g3:¬((prV so li v 0).length:Int)>100000:=by omega
   rw[if_neg g2]
   simp only[F53,ah hK,ah hV,h1,go_sem]
   simp only[bne_self_eq_false,Bool.false_eq_true,if_false,h2',go_sem,gb hm2,av (pO _),decide_eq_false g3,av (uh _)]
   exact hst _ rfl
 ·have g':(gy v != 0)=true:=by simpa using g
  simp only[eF]
  rw[if_pos g]
  simp only[F53,ah hK,ah hV,h1,go_sem,g',if_true]
  exact an rfl
theorem HG (v:Val) (c:List IV) (hc:ValR v c) (ho:okV v) (m:IM) :
  cw (.f 20) [.agg c] m=some (.tup [.str (eF false false v).1,.int .i64 (eF false false v).2],m):=by
 have h:=nw false false v c hc ho m
 obtain⟨k,t,K,V,rfl,hK,hV,_,_⟩:=hc.cells
 have h1:=fun K2:IV→IM→Option (IV×IM)=>au h (by simp[go_sem,hK,hV]) K2
 apply CY
 simp only[F20,ah hK,ah hV,h1,go_sem]
 exact an rfl
theorem Ek (v:Val) (c:List IV) (hc:ValR v c) (ho:okV v) (m:IM) :
  cw (.f 22) [.agg c] m=some (.tup [.str (eF true false v).1,.int .i64 (eF true false v).2],m):=by
 have h:=nw true false v c hc ho m
 obtain⟨k,t,K,V,rfl,hK,hV,_,_⟩:=hc.cells
 have h1:=fun K2:IV→IM→Option (IV×IM)=>au h (by simp[go_sem,hK,hV]) K2
 apply CI
 simp only[F22,ah hK,ah hV,h1,go_sem]
 exact an rfl
theorem Dl (v:Val) (c:List IV) (hc:ValR v c) (ho:okV v) (m:IM) :
  cw (.f 24) [.agg c] m=some (.tup [.str (eF false true v).1,.int .i64 (eF false true v).2],m):=by
 have h:=nw false true v c hc ho m
 obtain⟨k,t,K,V,rfl,hK,hV,_,_⟩:=hc.cells
 have h1:=fun K2:IV→IM→Option (IV×IM)=>au h (by simp[go_sem,hK,hV]) K2
 apply FC
 simp only[F24,ah hK,ah hV,h1,go_sem]
 exact an rfl
end Go.Idl
namespace Go.Idl
attribute [local go_sem] bB bA gI gS aZ bF bW bT cA cC cf ct bp aO bk aS aQ cr bq aK cD aJ aA aF az aB aj cG bZ bh bf ck cd bo c9 cu bw cy cB cz cE bg bt bu aR bm cx aP aG aM aN bj an af aT aw cX cW bI ba bJ cn bL cg bH cm List.flatMap_cons List.flatMap_nil
mutual
def gW:Val→Int→Int
 |.mk _ t ks vs,lvl=>if lvl>50 then 100 else pt vs (lvl+1) (1+ks.length+(t.length/200:Nat))
def pt:List Val→Int→Int→Int
 |[],_,n=>n
 |v::r,lvl,n=>if n≤60 then pt r lvl (n+gW v lvl) else n
end
inductive bigV:Val→Prop
 |mk {k:Int}{t:List UInt8}{ks:List (List UInt8)}{vs:List Val}:t.length≤140737488355328→ks.length≤140737488355328→(∀s,s∈ks→s.length≤140737488355328)→vs.length≤140737488355328→(∀v,v∈vs→bigV v)→bigV (.mk k t ks vs)
theorem zQ (M lvl:Int) (hM:0≤M):∀(vs:List Val) (n:Int),(∀v,v∈vs→1≤gW v lvl∧gW v lvl≤M)→0≤n→n≤M+60→n≤pt vs lvl n∧pt vs lvl n≤M+60
 |[],n,_,_,_=>by unfold pt;omega
 |v::r,n,h,h0,h1=>by
  have hv:=h v List.mem_cons_self
  rw[pt]
  split
  ·have:=zQ M lvl hM r (n+gW v lvl) (fun y hy=>h y (List.mem_cons_of_mem _ hy)) (by omega) (by omega)
   omega
  ·omega
theorem uR:∀(d:Nat) (v:Val) (lvl:Int),bigV v→0≤lvl→lvl+d=51→1≤gW v lvl∧gW v lvl≤150000000000000+60*(d:Int)
 |0,.mk k t ks vs,lvl,h,h0,hd=>by
  unfold gW
  rw[if_pos (by omega)];omega
 |d+1,.mk k t ks vs,lvl,h,h0,hd=>by
  cases h with
  |mk h1 h2 h3 h4 h5 =>
   unfold gW
   rw[if_neg (by omega)]
   have ih:=fun v hv=>uR d v (lvl+1) (h5 v hv) (by omega) (by omega)
   have:=zQ (150000000000000+60*(d:Int)) (lvl+1) (by omega) vs (1+ks.length+(t.length/200:Nat)) ih (by omega) (by omega)
   omega
theorem zX (lvl:Int):∀(vs:List Val) (n:Int),(∀v,v∈vs→1≤gW v lvl)→0≤n→pt vs lvl n≤60→n+vs.length≤60∧∀v,v∈vs→gW v lvl≤60
 |[],n,_,_,h=>by unfold pt at h;exact⟨by simpa using h,fun v hv=>by cases hv⟩
 |v::r,n,hp,h0,h=>by
  have hv:=hp v List.mem_cons_self
  rw[pt] at h
  by_cases g:n≤60
  ·rw[if_pos g] at h
   obtain⟨h1,h2⟩:=zX lvl r (n+gW v lvl) (fun y hy=>hp y (List.mem_cons_of_mem _ hy)) (by omega) h
   refine⟨by rw[List.length_cons];omega,fun y hy=>?_⟩
   rcases List.mem_cons.1 hy with rfl | hy
   ·omega
   ·exact h2 y hy
  ·rw[if_neg g] at h;omega
theorem Dt:∀vs:List Val,(∀v,v∈vs→okV v)→okL vs
 |[],_=>.nil
 |v::r,h=>.cons (h v List.mem_cons_self) (Dt r (fun x hx=>h x (List.mem_cons_of_mem _ hx)))
theorem wH:∀(d:Nat) (v:Val) (lvl:Int),bigV v→0≤lvl→lvl+d=51→gW v lvl≤60→okV v
 |0,.mk k t ks vs,lvl,h,h0,hd,hc=>by
  unfold gW at hc
  rw[if_pos (by omega)] at hc;omega
 |d+1,.mk k t ks vs,lvl,h,h0,hd,hc=>by
  cases h with
  |mk h1 h2 h3 h4 h5 =>
   unfold gW at hc
   rw[if_neg (by omega)] at hc
   obtain⟨q1,q2⟩:=zX (lvl+1) vs _ (fun v hv=>(uR d v (lvl+1) (h5 v hv) (by omega) (by omega)).1) (by omega) hc
   refine .mk h1 (by omega) h3 (Dt vs (fun v hv=>wH d v (lvl+1) (h5 v hv) (by omega) (by omega) (q2 v hv))) (by omega)
theorem L51 (lvl:Int) (h0:0≤lvl) (hl:lvl≤50) (k:Int) (t:List UInt8) (K V:IV) (vs:List Val) (hV:SlV V vs) (hvs:vs.length≤140737488355328) (hp:∀v,v∈vs→1≤gW v (lvl+1)∧gW v (lvl+1)≤160000000000000)
  (hI:∀v,v∈vs→∀(c:List IV) (m:IM),ValR v c→cw (.f 51) [.agg c,.int .i64 (lvl+1)] m=some (.int .i64 (gW v (lvl+1)),m)) (m:IM):∀(j i:Nat) (n:Int),vs.length=i+j→0≤n→n≤170000000000000 →
  zI lvl n i k t K V m=some (.exit 0,[.int .i64 (pt (vs.drop i) (lvl+1) n)],[],m):=by
 intro j
 induction j with
 |zero =>
  intro i n hj _ _
  have c1:¬(i:Int)<(vs.length:Int):=by omega
  have hC:q9 lvl n i k t K V m=some (.normal,[.int .i64 lvl,.int .i64 n,.int .i64 (i:Int),.bool false],[.cells [.int .i64 k,.str t,K,V] [.any,.any,.any,.any]],m):=by
   simp only[q9,av hV.len,go_sem,decide_eq_false c1,Bool.false_eq_true,if_false]
  rw[xe,List.drop_eq_nil_iff.2 (by omega),pt]
  simp only[xa,hC,go_sem,if_true,Bool.false_eq_true,if_false]
 |succ j ih =>
  intro i n hj hn0 hn1
  have hi:i<vs.length:=by omega
  have c1:(i:Int)<(vs.length:Int):=by omega
  have hC:q9 lvl n i k t K V m=some (.normal,[.int .i64 lvl,.int .i64 n,.int .i64 (i:Int),.bool (decide (n≤60))],[.cells [.int .i64 k,.str t,K,V] [.any,.any,.any,.any]],m):=by
   simp only[q9,av hV.len,go_sem,decide_eq_true c1,if_true]
  have hv:vs[i]∈vs:=List.getElem_mem hi
  have hb:=hp _ hv
  rw[xe,List.drop_eq_getElem_cons hi,pt]
  by_cases g:n≤60
  ·rw[decide_eq_true g] at hC
   rw[if_pos g]
   have hw:IntKind.i64.wrap ((i:Int)+1)=((i+1:Nat):Int):=by rw[w64 (by omega) (by omega)];rfl
   have hw2:IntKind.i64.wrap (lvl+1)=lvl+1:=w64 (by omega) (by omega)
   have hw3:IntKind.i64.wrap (n+gW vs[i] (lvl+1))=n+gW vs[i] (lvl+1):=w64 (by omega) (by omega)
   have h:=ih (i+1) (n+gW vs[i] (lvl+1)) (by omega) (by omega) (by omega)
   cases hV with
   |nil=>simp at hi
   | @sl _ row nn hr hnn =>
    obtain⟨c,hc,hcut⟩:=hr.get i hi
    have hcall:=hI _ hv c m hc
    obtain⟨k',t',K',V',rfl,hK',hV',_,_⟩:=hc.cells
    have h1:=fun K2:IV→IM→Option (St⊕LR)=>au hcall (by simp[go_sem,hK',hV']) K2
    have hin:i<nn:=by omega
    rw[←h]
    generalize i+1=i2 at *
    simp only[xa,hC,go_sem,if_true,av (wZ hin),gm hcut,hw2,h1,hw3,hw]
    rfl
  ·rw[decide_eq_false g] at hC
   rw[if_neg g]
   simp only[xa,hC,go_sem,if_true,Bool.false_eq_true,if_false]
theorem SlS.lenE {K:IV}{ks:List (List UInt8)}(h:SlS K ks):POp.ev .lenSlice [K]=some (.int .i64 (ks.length:Int)):=F6 h
theorem Aw:∀(d:Nat) (v:Val) (c:List IV) (lvl:Int) (m:IM),bigV v→ValR v c→0≤lvl→lvl+d=51→cw (.f 51) [.agg c,.int .i64 lvl] m=some (.int .i64 (gW v lvl),m)
 |0,.mk k t ks vs,c,lvl,m,hb,hc,h0,hd=>by
  have g:lvl>50:=by omega
  obtain⟨k',t',K',V',rfl,hK',hV',_,_⟩:=hc.cells
  apply xQ
  unfold gW
  rw[if_pos g]
  simp only[F51,ah hK',ah hV',go_sem,decide_eq_true g,if_true]
 |d+1,.mk k t ks vs,c,lvl,m,hb,hc,h0,hd=>by
  have g:¬lvl>50:=by omega
  cases hb with
  |mk h1 h2 h3 h4 h5 =>
   cases hc with
   | @mk _ _ _ _ K V hK hV =>
    have e1:Int.tdiv (t.length:Int) 200=((t.length/200:Nat):Int):=rfl
    have w0:IntKind.i64.wrap ((t.length/200:Nat):Int)=((t.length/200:Nat):Int):=w64 (by omega) (by omega)
    have w1:IntKind.i64.wrap (1+(ks.length:Int))=1+(ks.length:Int):=w64 (by omega) (by omega)
    have w2:IntKind.i64.wrap (1+(ks.length:Int)+((t.length/200:Nat):Int))=1+(ks.length:Int)+((t.length/200:Nat):Int):=w64 (by omega) (by omega)
    have hL:=L51 lvl h0 (by omega) k t K V vs hV h4 (fun v hv=>by have:=uR d v (lvl+1) (h5 v hv) (by omega) (by omega);omega)
     (fun v hv c m hc=>Aw d v c (lvl+1) m (h5 v hv) hc (by omega) (by omega)) m vs.length 0 (1+(ks.length:Int)+((t.length/200:Nat):Int)) (by omega) (by omega) (by omega)
    rw[List.drop_zero] at hL
    have hL':zI lvl (1+(ks.length:Int)+((t.length/200:Nat):Int)) 0 k t K V m=_:=hL
    apply xQ
    unfold gW
    rw[if_neg g]
    simp only[F51,ah hK.refs,ah hV.refs,go_sem,decide_eq_false g,Bool.false_eq_true,if_false,av hK.lenE,e1,w0,w1,w2,hL',if_true]
theorem HQ (v:Val) (c:List IV) (m:IM) (hb:bigV v) (hc:ValR v c):cw (.f 17) [.agg c] m=some (.bool (decide (gW v 0≤60)),m):=by
 have h:=Aw 51 v c 0 m hb hc (by omega) (by omega)
 obtain⟨k,t,K,V,rfl,hK,hV,_,_⟩:=hc.cells
 have h1:=fun K2:IV→IM→Option (IV×IM)=>au h (by simp[go_sem,hK,hV]) K2
 apply DE
 simp only[F17,ah hK,ah hV,h1,go_sem]
theorem N1 (hO:zs true) (v:Val) (c:List IV) (hb:bigV v) (hc:ValR v c):cw (.f 5) [.agg c] ⟨[],0⟩=some (.bool true,⟨[],0⟩):=by
 have h17:=HQ v c ⟨[],0⟩ hb hc
 have h10:=fun (Q:IV→IM→Option (IV×IM))=>au C8 (by simp[go_sem]) Q
 have h10':=fun (Q:IV→IM→Option LR)=>au C8 (by simp[go_sem]) Q
 by_cases hs:gW v 0≤60
 ·have hok:=wH 51 v 0 hb (by omega) (by omega) hs
  obtain⟨c1,hc1,h19⟩:=Io v c ⟨[],0⟩ hc hok
  have h18:=GO v c1 hc1 hok ⟨[],0⟩
  have h20:=HG v c hc hok ⟨[],0⟩
  have h21:=EZ hO v c1 hc1 hok ⟨[],0⟩
  have h22:=Ek v c hc hok ⟨[],0⟩
  have h23:=E4 v c1 hc1 hok ⟨[],0⟩
  have h24:=Dl v c hc hok ⟨[],0⟩
  have h25:=AJ v c1 ⟨[],0⟩ hc1 hok
  have h26:=zK v c ⟨[],0⟩ hc hok
  rw[decide_eq_true hs] at h17
  generalize eF false false v=p1 at *
  generalize eF true false v=p2 at *
  generalize eF false true v=p3 at *
  obtain⟨k,t,K,V,rfl,hK,hV,_,_⟩:=hc.cells
  obtain⟨k1,t1,K1,V1,rfl,hK1,hV1,_,_⟩:=hc1.cells
  have q17:=fun (Q:IV→IM→Option (IV×IM))=>au h17 (by simp[go_sem,hK,hV]) Q
  have q19:=fun (Q:IV→IM→Option (IV×IM))=>au h19 (by simp[go_sem,hK,hV]) Q
  have q19':=fun (Q:IV→IM→Option LR)=>au h19 (by simp[go_sem,hK,hV]) Q
  have q18:=fun (Q:IV→IM→Option (IV×IM))=>au h18 (by simp[go_sem,hK1,hV1]) Q
  have q20:=fun (Q:IV→IM→Option (IV×IM))=>au h20 (by simp[go_sem,hK,hV]) Q
  have q21:=fun (Q:IV→IM→Option (IV×IM))=>au h21 (by simp[go_sem,hK1,hV1]) Q
  have q22:=fun (Q:IV→IM→Option (IV×IM))=>au h22 (by simp[go_sem,hK,hV]) Q
  have q23:=fun (Q:IV→IM→Option (IV×IM))=>au h23 (by simp[go_sem,hK1,hV1]) Q
  have q24:=fun (Q:IV→IM→Option (IV×IM))=>au h24 (by simp[go_sem,hK,hV]) Q
  have q25:=fun (Q:IV→IM→Option LR)=>au h25 (by simp[go_sem,hK1,hV1]) Q
  have q26:=fun (Q:IV→IM→Option LR)=>au h26 (by simp[go_sem,hK,hV]) Q
  have hC:C0 p1.1 p1.2 p1.1 p1.2 p2.1 p2.2 p2.1 p2.2 p3.1 p3.2 p3.1 p3.2 k t K V ⟨[],0⟩=some (.normal,[.bool true],[],⟨[],0⟩):=by
   simp only[C0,q19',go_sem,q25,q26,BEq.rfl,if_true,h10']
  apply zP
  simp only[F5,ah hK,ah hV,q17,go_sem,Bool.not_true,Bool.false_eq_true,if_false,q19,q18,q20,q21,q22,q23,q24,hC,if_true]
 ·rw[decide_eq_false hs] at h17
  obtain⟨k,t,K,V,rfl,hK,hV,_,_⟩:=hc.cells
  have q17:=fun (Q:IV→IM→Option (IV×IM))=>au h17 (by simp[go_sem,hK,hV]) Q
  apply zP
  simp only[F5,ah hK,ah hV,q17,go_sem,Bool.not_false,if_true,h10]
end Go.Idl
namespace Go.Idl
set_option maxRecDepth 100000
theorem f170:tab.fns 170=some i170:=by rfl
theorem p170:ae 170=none:=by rfl
def LK:Tys:=tyG [(.one .str,[0,1,5,6]),(.one (.int .i64),[4,7])]
def LB:Pl:=.z
noncomputable def Jf (a b:List UInt8) (m:IM):Option (IV×IM):=bc cw (.f 174) [.str a,.str b] [] m fun v0 m1=>asI .i64 v0 fun n2=>settle m m1 (.int .i64 n2)
theorem Gw (a b:List UInt8) (m:IM):eS LK LB i170 cw [.str a,.str b] m=Jf a b m:=by kernel_rfl
theorem Ce (a b:List UInt8) (m:IM) {res:IV×IM}(h:Jf a b m=some res):cw (.f 170) [.str a,.str b] m=some res:=bb p170 f170 ((Gw a b m).trans h)
theorem f174:tab.fns 174=some i174:=by rfl
theorem p174:ae 174=none:=by rfl
def Nf:Tys:=tyG [(.one .str,[0,1,5,6]),(.one (.int .i64),[4,7])]
def L5:Pl:=.z
noncomputable def Jx (a b:List UInt8) (m:IM):Option (IV×IM):=bc cw (.f 182) [.str a,.str b] [] m fun v0 m1=>asI .i64 v0 fun n2=>settle m m1 (.int .i64 n2)
theorem Gk (a b:List UInt8) (m:IM):eS Nf L5 i174 cw [.str a,.str b] m=Jx a b m:=by kernel_rfl
theorem BV (a b:List UInt8) (m:IM) {res:IV×IM}(h:Jx a b m=some res):cw (.f 174) [.str a,.str b] m=some res:=bb p174 f174 ((Gk a b m).trans h)
end Go.Idl
namespace Go.Idl
attribute [local go_sem] bB bA gI gS aZ bF bW bT cA cC cf ct bp aO bk aS aQ cr bq aK cD aJ aA aF az aB aj cG bZ bh bf ck cd bo c9 cu bw cy cB cz cE bg bt bu aR bm cx aP aG aM aN bj an af aT aw cX cW bI ba bJ cn bL cg bH cm List.flatMap_cons List.flatMap_nil
def dM (m:IM) (id:Nat) (l:List Nat):IM:=bP m id (.cells (aL l) (List.replicate l.length .any))
theorem DU {m:IM}{id:Nat}(h:id<m.size) (l:List Nat):(dM m id l).get id=.cells (aL l) (List.replicate l.length .any):=fZ h _
theorem LP {m:IM}{id vb:Nat}(h:vb≠id) (l:List Nat):(dM m id l).get vb=m.get vb:=wk h _
theorem Mz (m:IM) (id:Nat) (l l':List Nat):dM (dM m id l) id l'=dM m id l':=bC _ _ _ _
theorem fL (m:IM) (id:Nat) (l l':List Nat):settle (dM m id l) (dM m id l') (.tup [])=some (.tup [],dM m id l'):=by
 rw[←Mz m id l l'];exact af rfl
theorem M4 {R:Type}{m:IM}{id:Nat}(h:id<m.size) {l:List Nat}{i:Nat}(hi:i<l.length) (K:IV→Option R):ldP (dM m id l) false 1 (.pB id i) K=K (.int .i64 ((l[i]:Nat):Int)):=by
 rw[bZ,dw (DU h l)]
 exact a8 (by simp[aL,hi]) K
theorem pg {R:Type}{m:IM}{id:Nat}(h:id<m.size) {l:List Nat}{i:Nat}(hi:i<l.length) (x:Nat) (K:IM→Option R):stP (dM m id l) (.pB id i) [.int .i64 (x:Int)] .any K=K (dM m id (l.set i x)):=by
 rw[gJ (DU h l) (r:=0) rfl (Nat.zero_le _) (by simp[aL];omega)]
 have e1:over (aL l) i [.int .i64 (x:Int)]=aL (l.set i x):=by
  unfold over aL
  rw[←List.map_take,←List.map_drop,List.set_eq_take_append_cons_drop,if_pos hi]
  simp
 have e2:aH (List.replicate l.length Cap.any) i [IV.int .i64 (x:Int)].length .any=List.replicate (l.set i x).length .any:=by
  rw[List.length_set];exact wg hi
 rw[e1,e2]
 congr 1
 simp[dM,bC]
theorem mT:∀(a b:List UInt8),decide (pw a b<0)=aq a b
 |[],[]=>rfl
 |[],_::_=>rfl
 |_::_,[]=>rfl
 |a::x,b::y=>by
  rw[pw,aq]
  by_cases h1:a.toNat<b.toNat
  ·have e:Nat.blt a.toNat b.toNat=true:=by simpa using h1
   rw[e];simp[h1]
  ·have e:Nat.blt a.toNat b.toNat=false:=by rw[Bool.eq_false_iff];simpa using h1
   rw[e]
   by_cases h2:b.toNat<a.toNat
   ·have e2:Nat.blt b.toNat a.toNat=true:=by simpa using h2
    have e3:¬a.toNat=b.toNat:=by omega
    simp[e2,h1,e3]
   ·have e2:Nat.blt b.toNat a.toNat=false:=by rw[Bool.eq_false_iff];simpa using h2
    have e3:a.toNat=b.toNat:=by omega
    have e4:Nat.blt b.toNat b.toNat=false:=by rw[Bool.eq_false_iff];simp
    simp[e3,e4,mT x y]
theorem JU (a b:List UInt8) (m:IM):cw (.f 170) [.str a,.str b] m=some (.int .i64 (pw a b),m):=by
 have h182:cw (.f 182) [.str a,.str b] m=some (.int .i64 (pw a b),m):=by
  unfold cw
  rw[qA (p:=my) rfl]
  rfl
 have h174:cw (.f 174) [.str a,.str b] m=some (.int .i64 (pw a b),m):=by
  have h1:=fun K2:IV→IM→Option (IV×IM)=>au h182 (by simp[go_sem]) K2
  apply BV
  simp only[Jx,h1,go_sem]
 have h1:=fun K2:IV→IM→Option (IV×IM)=>au h174 (by simp[go_sem]) K2
 apply Ce
 simp only[Jf,h1,go_sem]
def dX (vb:Nat):IV:=.func 169 [] [.pB vb 0]
theorem dd {R:Type}(vb:Nat) (X:Option R):e9 (dX vb) [] X=X:=rfl
theorem Fl {R:Type}{m:IM}{vb:Nat}{k:Int}{t:List UInt8}{V:IV}{ks:List (List UInt8)}(h:m.get vb=.cells [.int .i64 k,.str t,.sl (ks.map .str) ks.length,V] [.any,.any,.any,.any]) {a b:Nat}(ha:a<ks.length) (hb:b<ks.length) (K2:IV→IM→Option R) :
  iU cw (dX vb) [.int .i64 (a:Int),.int .i64 (b:Int)] [] m K2=K2 (.int .i64 (pw (ks.getD a []) (ks.getD b []))) m:=by
 have d1:ks.getD a []=ks[a]:=by simp[List.getD_eq_getElem?_getD,ha]
 have d2:ks.getD b []=ks[b]:=by simp[List.getD_eq_getElem?_getD,hb]
 rw[d1,d2]
 have r1:(ks.map IV.str)[a*1]?=some (.str ks[a]):=by simp[ha]
 have r2:(ks.map IV.str)[b*1]?=some (.str ks[b]):=by simp[hb]
 have h1:=fun K2:IV→IM→Option (IV×IM)=>au (JU ks[a] ks[b] m) (by simp[go_sem]) K2
 have hF:cw (.f 169) [.int .i64 (a:Int),.int .i64 (b:Int),.pB vb 0] m=some (.int .i64 (pw ks[a] ks[b]),m):=by
  apply BK
  have hld:∀(K:IV→Option (IV×IM)),(dK m vb fun l0 _=>dg false l0 2 1 K)=K (.sl (ks.map .str) ks.length):=fun K=>by rw[dw h];exact a8 rfl K
  simp only[Lh,hld,av (ix1 ha),av (ix1 hb),go_sem,a8 r1,a8 r2,h1]
 show bc cw (.f 169) [.int .i64 (a:Int),.int .i64 (b:Int),.pB vb 0] [] m K2=_
 exact au hF (by simp[go_sem]) K2
end Go.Idl
namespace Go.Idl
attribute [local go_sem] bB bA gI gS aZ bF bW bT cA cC cf ct bp aO bk aS aQ cr bq aK cD aJ aA aF az aB aj cG bZ bh bf ck cd bo c9 cu bw cy cB cz cE bg bt bu aR bm cx aP aG aM aN bj an af
def bub (ks:List (List UInt8)) (x:Nat):List Nat→List Nat→List Nat
 |[],P=>x::P
 |y::r,P=>if aq (ks.getD x []) (ks.getD y []) then bub ks x r (y::P) else r.reverse++y::x::P
theorem xq (ks:List (List UInt8)) (x:Nat):∀r P:List Nat,(bub ks x r P).Perm (r.reverse++x::P)
 |[],P=>.refl _
 |y::r,P=>by
  unfold bub
  split
  ·refine (xq ks x r (y::P)).trans ?_
   rw[List.reverse_cons,List.append_assoc]
   exact List.Perm.append_left _ (.swap y x P)
  ·rw[List.reverse_cons,List.append_assoc];exact .refl _
theorem rT (ks:List (List UInt8)) (x:Nat):∀r P:List Nat,(r.reverse++P).Pairwise (leK ks)→(∀z,z∈P→leK ks x z)→(bub ks x r P).Pairwise (leK ks)
 |[],P,h,hx=>List.pairwise_cons.2 ⟨hx,by simpa using h⟩
 |y::r,P,h,hx=>by
  rw[List.reverse_cons,List.append_assoc] at h
  have h:(r.reverse++y::P).Pairwise (leK ks):=h
  unfold bub
  split
  ·rename_i g
   refine rT ks x r (y::P) h (fun z hz=>?_)
   rcases List.mem_cons.1 hz with rfl | hz
   ·exact oa g
   ·exact hx z hz
  ·rename_i g
   have g:leK ks y x:=by unfold leK;simpa using g
   obtain⟨h1,h2,h3⟩:=List.pairwise_append.1 h
   obtain⟨h4,h5⟩:=List.pairwise_cons.1 h2
   refine List.pairwise_append.2 ⟨h1,List.pairwise_cons.2 ⟨fun z hz=>?_,List.pairwise_cons.2 ⟨hx,h5⟩⟩,fun a ha b hb=>?_⟩
   ·rcases List.mem_cons.1 hz with rfl | hz
    ·exact g
    ·exact h4 z hz
   ·have hy:=h3 a ha y List.mem_cons_self
    rcases List.mem_cons.1 hb with rfl | hb
    ·exact hy
    ·rcases List.mem_cons.1 hb with rfl | hb
     ·exact fN hy g
     ·exact h3 a ha b (List.mem_cons_of_mem _ hb)
theorem jk {α:Type}(B:List α) (x:α) (T:List α):(B++x::T)[B.length]?=some x:=by simp
theorem mI {α:Type}(B:List α) (x y:α) (T:List α):(B++x::T).set B.length y=B++y::T:=by
 induction B with
 |nil=>rfl
 |cons b B ih=>simp[ih]
theorem rQ {α:Type}(B:List α) (y x:α) (T:List α):(B++y::x::T)[B.length+1]?=some x:=by
 induction B with
 |nil=>rfl
 |cons b B ih=>simp
theorem qP {α:Type}(B:List α) (y x z:α) (T:List α):(B++y::x::T).set (B.length+1) z=B++y::z::T:=by
 induction B with
 |nil=>rfl
 |cons b B ih=>simp only[List.cons_append,List.length_cons,List.set_cons_succ,ih]
theorem fT {R:Type}{m:IM}{id:Nat}(h:id<m.size) {l:List Nat}{i x:Nat}(hi:l[i]?=some x) (K:IV→Option R):ldP (dM m id l) false 1 (.pB id i) K=K (.int .i64 (x:Int)):=by
 obtain⟨h1,h2⟩:=List.getElem?_eq_some_iff.1 hi
 rw[M4 h h1,h2]
theorem p9 {R:Type}(i o:Nat) (X:Option R):c7 (.pB i o) X=X:=rfl
section
variable (m:IM) (id vb:Nat) (ks:List (List UInt8)) (k:Int) (t:List UInt8) (V:IV) (hid:id<m.size) (hne:vb≠id) (hvb:ks≠[]→m.get vb=.cells [.int .i64 k,.str t,.sl (ks.map .str) ks.length,V] [.any,.any,.any,.any])
include hne hvb
theorem GQ {R:Type}(l:List Nat) {a b:Nat}(ha:a<ks.length) (hb:b<ks.length) (K2:IV→IM→Option R) :
  iU cw (dX vb) [.int .i64 (a:Int),.int .i64 (b:Int)] [] (dM m id l) K2=K2 (.int .i64 (pw (ks.getD a []) (ks.getD b []))) (dM m id l) :=
 Fl (V:=V) (k:=k) (t:=t) (by rw[LP hne];exact hvb (by rintro rfl;simp at ha)) ha hb K2
include hid
theorem M8 (N:Nat) (hN:N≤1000000) (b i:Int) (A Q:List Nat) (x:Nat) (hx:x<ks.length):∀(r P:List Nat),(∀y,y∈r→y<ks.length)→A.length+r.length+1+P.length+Q.length=N →
  va (.sB id 0 N 1) (A.length:Int) b (dX vb) i ((A.length+r.length:Nat):Int) (dM m id (A++(r.reverse++x::(P++Q))))=some (.exit 2,[.sB id 0 N 1,.int .i64 (A.length:Int),.int .i64 b,dX vb,.int .i64 i],[],dM m id (A++(bub ks x r P++Q)))
 |[],P,hr,hl=>by
  have c1:¬((A.length+([]:List Nat).length:Nat):Int)>(A.length:Int):=by simp
  rw[tj]
  simp only[rY,pA,go_sem,decide_eq_false c1,Bool.false_eq_true,if_false,if_true,bub,List.reverse_nil,List.nil_append,List.cons_append]
 |y::r,P,hr,hl=>by
  simp only[List.length_cons] at hl
  have c1:((A.length+(y::r).length:Nat):Int)>(A.length:Int):=by simp only[List.length_cons];omega
  have hB:A++((y::r).reverse++x::(P++Q))=(A++r.reverse)++y::x::(P++Q):=by simp
  have hBl:(A++r.reverse).length=A.length+r.length:=by simp
  have hj:A.length+(y::r).length=(A++r.reverse).length+1:=by rw[hBl,List.length_cons];omega
  have hjn:(A++r.reverse).length+1<N:=by rw[hBl];omega
  have hy:=hr y List.mem_cons_self
  have w1:IntKind.i64.wrap ((((A++r.reverse).length+1:Nat):Int)-1)=(((A++r.reverse).length:Nat):Int):=by rw[w64 (by omega) (by omega)];omega
  rw[hB,hj]
  rw[hj] at c1
  have ih:=M8 N hN b i A Q x hx r (y::P) (fun z hz=>hr z (List.mem_cons_of_mem _ hz)) (by simp only[List.length_cons];omega)
  have g1:((A++r.reverse)++y::x::(P++Q))[(A++r.reverse).length]?=some y:=jk _ _ _
  have g2:((A++r.reverse)++y::x::(P++Q))[(A++r.reverse).length+1]?=some x:=rQ _ _ _ _
  have s1:((A++r.reverse)++y::x::(P++Q)).set ((A++r.reverse).length+1) y=(A++r.reverse)++y::y::(P++Q):=qP _ _ _ _ _
  have s2:((A++r.reverse)++y::y::(P++Q)).set (A++r.reverse).length x=(A++r.reverse)++x::y::(P++Q):=mI _ _ _ _
  have hlen:((A++r.reverse)++y::x::(P++Q)).length=N:=by simp only[List.length_append,List.length_reverse,List.length_cons];omega
  have hlen2:((A++r.reverse)++y::y::(P++Q)).length=N:=by simp only[List.length_append,List.length_reverse,List.length_cons];omega
  have st1:=fun K:IM→Option (St⊕LR)=>pg hid (l:=(A++r.reverse)++y::x::(P++Q)) (i:=(A++r.reverse).length+1) (by rw[hlen];exact hjn) y K
  have st2:=fun K:IM→Option (St⊕LR)=>pg hid (l:=(A++r.reverse)++y::y::(P++Q)) (i:=(A++r.reverse).length) (by rw[hlen2];omega) x K
  rw[s1] at st1
  rw[s2] at st2
  have hcmp:=fun K2:IV→IM→Option LR=>GQ m id vb ks k t V hne hvb ((A++r.reverse)++y::x::(P++Q)) hx hy K2
  have rd1:=fun K:IV→Option LR=>fT hid g1 K
  have rd2:=fun K:IV→Option LR=>fT hid g2 K
  have rd1':=fun K:IV→Option (St⊕LR)=>fT hid g1 K
  have rd2':=fun K:IV→Option (St⊕LR)=>fT hid g2 K
  have hres:A++(r.reverse++x::(y::P++Q))=(A++r.reverse)++x::y::(P++Q):=by simp
  rw[hres] at ih
  have hbub:bub ks x (y::r) P=if aq (ks.getD x []) (ks.getD y []) then bub ks x r (y::P) else r.reverse++y::x::P:=rfl
  rw[hbub]
  rw[←hBl] at ih
  have hother:(A++r.reverse)++y::x::(P++Q)=A++((r.reverse++y::x::P)++Q):=by simp
  rw[tj]
  have ix1':=fun K:IV→Option LR=>av (gR (id:=id) (n:=N) (i:=(A++r.reverse).length+1) hjn) K
  have ix0':=fun K:IV→Option LR=>av (gR (id:=id) (n:=N) (i:=(A++r.reverse).length) (by omega)) K
  have jx1':=fun K:IV→Option (St⊕LR)=>av (gR (id:=id) (n:=N) (i:=(A++r.reverse).length+1) hjn) K
  have jx0':=fun K:IV→Option (St⊕LR)=>av (gR (id:=id) (n:=N) (i:=(A++r.reverse).length) (by omega)) K
  generalize hj1:(A++r.reverse).length+1=j1 at *
  generalize (A++r.reverse).length=j0 at *
  have hC:pA (.sB id 0 N 1) (A.length:Int) b (dX vb) i (j1:Int) (dM m id ((A++r.reverse)++y::x::(P++Q)))=some (.normal,[.sB id 0 N 1,.int .i64 (A.length:Int),.int .i64 b,dX vb,.int .i64 i,.int .i64 (j1:Int),.bool (aq (ks.getD x []) (ks.getD y []))],[],dM m id ((A++r.reverse)++y::x::(P++Q))):=by
   rw[←mT]
   simp only[pA,go_sem,decide_eq_true c1,if_true,ix1',rd2,w1,ix0',rd1,hcmp]
  cases hlt:aq (ks.getD x []) (ks.getD y []) with
  |true =>
   rw[hlt] at hC
   simp only[if_true]
   rw[←ih]
   simp only[rY,hC,go_sem,if_true,w1,jx0',rd1',jx1',rd2',p9,st1,st2,db,dd]
   rfl
  |false =>
   rw[hlt] at hC
   simp only[rY,hC,go_sem,if_true,Bool.false_eq_true,if_false]
   rw[hother]
end
end Go.Idl
namespace Go.Idl
attribute [local go_sem] bB bA gI gS aZ bF bW bT cA cC cf ct bp aO bk aS aQ cr bq aK cD aJ aA aF az aB aj cG bZ bh bf ck cd bo c9 cu bw cy cB cz cE bg bt bu aR bm cx aP aG aM aN bj an af
section
variable (m:IM) (id vb:Nat) (ks:List (List UInt8)) (k:Int) (t:List UInt8) (V:IV) (hid:id<m.size) (hne:vb≠id) (hvb:ks≠[]→m.get vb=.cells [.int .i64 k,.str t,.sl (ks.map .str) ks.length,V] [.any,.any,.any,.any])
include hid hne hvb
theorem Ih (N:Nat) (hN:N≤1000000) (A Q:List Nat) (hQ:∀y,y∈A++Q→y<ks.length):∀(S P:List Nat),(∀y,y∈P++S→y<ks.length)→P.Pairwise (leK ks)→A.length+P.length+S.length+Q.length=N →
  ∃P',P'.Perm (P++S)∧P'.Pairwise (leK ks)∧qt (.sB id 0 N 1) (A.length:Int) ((A.length+P.length+S.length:Nat):Int) (dX vb) ((A.length+P.length:Nat):Int) (dM m id (A++(P++(S++Q))))=some (.exit 0,[],[],dM m id (A++(P'++Q)))
 |[],P,hy,hP,hl=>by
  refine⟨P,by simp,hP,?_⟩
  have c1:¬((A.length+P.length:Nat):Int)<((A.length+P.length+([]:List Nat).length:Nat):Int):=by simp
  rw[nu]
  simp only[qC,go_sem,decide_eq_false c1,Bool.false_eq_true,if_false,List.nil_append]
 |x::S,P,hy,hP,hl=>by
  have c1:((A.length+P.length:Nat):Int)<((A.length+P.length+(x::S).length:Nat):Int):=by simp only[List.length_cons];omega
  have hx:x<ks.length:=hy x (by simp)
  have hw:IntKind.i64.wrap (((A.length+P.length:Nat):Int)+1)=((A.length+P.length+1:Nat):Int):=by
   simp only[List.length_cons] at hl
   rw[w64 (by omega) (by omega)];omega
  have hin:=M8 m id vb ks k t V hid hne hvb N hN ((A.length+P.length+(x::S).length:Nat):Int) ((A.length+P.length:Nat):Int) A (S++Q) x hx P.reverse [] (fun y h=>hy y (by simp at h;simp[h])) (by simp only[List.length_reverse,List.length_nil,List.length_append];simp only[List.length_cons] at hl;omega)
  rw[List.reverse_reverse,List.length_reverse,List.nil_append] at hin
  have hbp:=xq ks x P.reverse []
  have hbs:=rT ks x P.reverse [] (by simpa using hP) (fun z hz=>by cases hz)
  rw[List.reverse_reverse] at hbp
  generalize bub ks x P.reverse []=P1 at *
  have hlen:P1.length=P.length+1:=by rw[hbp.length_eq];simp
  obtain⟨P',h1,h2,h3⟩:=Ih N hN A Q hQ S P1 (fun y h=>by
   rcases List.mem_append.1 h with h | h
   ·have:=hbp.mem_iff.1 h
    simp only[List.mem_append,List.mem_cons,List.not_mem_nil,or_false] at this
    rcases this with h | rfl
    ·exact hy y (by simp[h])
    ·exact hx
   ·exact hy y (by simp[h])) hbs (by simp only[List.length_cons] at hl;omega)
  refine⟨P',h1.trans ?_,h2,?_⟩
  ·have:=hbp.append_right S
   simpa using this
  ·rw[nu,←h3]
   have e1:A.length+P1.length=A.length+P.length+1:=by omega
   have e2:A.length+P1.length+S.length=A.length+P.length+(x::S).length:=by simp only[List.length_cons];omega
   rw[e2,e1]
   generalize A.length+P.length+1=i2 at *
   simp only[qC,go_sem,decide_eq_true c1,if_true,db,dd]
   have hin':va (.sB id 0 N 1) (A.length:Int) ((A.length+P.length+(x::S).length:Nat):Int) (dX vb) ((A.length+P.length:Nat):Int) ((A.length+P.length:Nat):Int) (dM m id (A++(P++(x::S++Q))))=_:=hin
   simp only[hin',go_sem,if_true,hw,db,dd]
   rfl
theorem DA (N:Nat) (hN:N≤1000000) (A X Q:List Nat) (hQ:∀y,y∈A++(X++Q)→y<ks.length) (hl:A.length+X.length+Q.length=N) :
  ∃X',X'.Perm X∧X'.Pairwise (leK ks)∧cw (.f 180) [.sB id 0 N 1,.int .i64 (A.length:Int),.int .i64 ((A.length+X.length:Nat):Int),dX vb] (dM m id (A++(X++Q)))=some (.tup [],dM m id (A++(X'++Q))):=by
 have hw:IntKind.i64.wrap ((A.length:Int)+1)=((A.length+1:Nat):Int):=by rw[w64 (by omega) (by omega)];omega
 cases X with
 |nil =>
  refine⟨[],.refl _,.nil,?_⟩
  have c1:¬((A.length+1:Nat):Int)<((A.length+([]:List Nat).length:Nat):Int):=by simp;omega
  have hL:qt (.sB id 0 N 1) (A.length:Int) ((A.length+([]:List Nat).length:Nat):Int) (dX vb) ((A.length+1:Nat):Int) (dM m id (A++([]++Q)))=some (.exit 0,[],[],dM m id (A++([]++Q))):=by
   rw[nu]
   simp only[qC,go_sem,decide_eq_false c1,Bool.false_eq_true,if_false]
  apply tr
  simp only[GV,db,dd,hw,hL,go_sem,if_true]
 |cons x S =>
  obtain⟨P',h1,h2,h3⟩:=Ih m id vb ks k t V hid hne hvb N hN A Q (fun y h=>hQ y (by simp at h ⊢;rcases h with h | h<;>simp[h])) S [x] (fun y h=>hQ y (by simp at h ⊢;rcases h with h | h<;>simp[h])) (by simp) (by simp only[List.length_cons,List.length_nil] at hl ⊢;omega)
  refine⟨P',by simpa using h1,h2,?_⟩
  have h3':qt (.sB id 0 N 1) (A.length:Int) ((A.length+(x::S).length:Nat):Int) (dX vb) ((A.length+1:Nat):Int) (dM m id (A++(x::S++Q)))=some (.exit 0,[],[],dM m id (A++(P'++Q))):=by
   rw[←h3]
   have:A.length+[x].length+S.length=A.length+(x::S).length:=by simp only[List.length_cons,List.length_nil];omega
   rw[this]
   rfl
  apply tr
  simp only[GV,db,dd,hw,h3',go_sem,if_true]
  exact fL m id _ _
end
end Go.Idl
namespace Go.Idl
attribute [local go_sem] bB bA gI gS aZ bF bW bT cA cC cf ct bp aO bk aS aQ cr bq aK cD aJ aA aF az aB aj cG bZ bh bf ck cd bo c9 cu bw cy cB cz cE bg bt bu aR bm cx aP aG aM aN bj an af
section
variable (m:IM) (id:Nat) (hid:id<m.size)
include hid
theorem M7 (N:Nat) (hN:N≤1000000) (a b n:Nat) (Q:List Nat):∀(P R A M:List Nat) (i:Nat),P.length=R.length→a+i=A.length→b+i=A.length+P.length+M.length→n=i+P.length→A.length+P.length+M.length+R.length+Q.length=N →
  uQ (.sB id 0 N 1) a b n i (dM m id (A++(P++(M++(R++Q)))))=some (.exit 0,[],[],dM m id (A++(R++(M++(P++Q)))))
 |[],R,A,M,i,h1,h2,h3,h4,h5=>by
  have hR:R=[]:=List.length_eq_zero_iff.1 (by rw[←h1];rfl)
  subst hR
  simp only[List.length_nil] at h4
  have c1:¬(i:Int)<(n:Int):=by omega
  rw[ue]
  simp only[vx,go_sem,decide_eq_false c1,Bool.false_eq_true,if_false]
 |p::P,[],A,M,i,h1,h2,h3,h4,h5=>by simp at h1
 |p::P,r::R,A,M,i,h1,h2,h3,h4,h5=>by
  simp only[List.length_cons] at h1 h3 h4 h5
  have c1:(i:Int)<(n:Int):=by omega
  have wa:IntKind.i64.wrap ((a:Int)+(i:Int))=((A.length:Nat):Int):=by rw[w64 (by omega) (by omega)];omega
  have wb:IntKind.i64.wrap ((b:Int)+(i:Int))=((A.length+(P.length+1)+M.length:Nat):Int):=by rw[w64 (by omega) (by omega)];omega
  have wi:IntKind.i64.wrap ((i:Int)+1)=((i+1:Nat):Int):=by rw[w64 (by omega) (by omega)];omega
  have e0:A++((p::P)++(M++((r::R)++Q)))=A++p::(P++(M++r::(R++Q))):=by simp
  have e1:A++p::(P++(M++r::(R++Q)))=(A++p::(P++M))++r::(R++Q):=by simp
  have e2:A++r::(P++(M++r::(R++Q)))=(A++r::(P++M))++r::(R++Q):=by simp
  have l1:(A++p::(P++M)).length=A.length+(P.length+1)+M.length:=by simp only[List.length_append,List.length_cons];omega
  have l2:(A++r::(P++M)).length=A.length+(P.length+1)+M.length:=by simp only[List.length_append,List.length_cons];omega
  have g1:(A++p::(P++(M++r::(R++Q))))[A.length]?=some p:=jk _ _ _
  have g2:(A++p::(P++(M++r::(R++Q))))[A.length+(P.length+1)+M.length]?=some r:=by rw[e1,←l1];exact jk _ _ _
  have s1:(A++p::(P++(M++r::(R++Q)))).set A.length r=A++r::(P++(M++r::(R++Q))):=mI _ _ _ _
  have s2:(A++r::(P++(M++r::(R++Q)))).set (A.length+(P.length+1)+M.length) p=(A++r::(P++M))++p::(R++Q):=by rw[e2,←l2];exact mI _ _ _ _
  have ih:=M7 N hN a b n Q P R (A++[r]) (M++[p]) (i+1) (by omega) (by simp only[List.length_append,List.length_cons,List.length_nil];omega) (by simp only[List.length_append,List.length_cons,List.length_nil];omega) (by omega) (by simp only[List.length_append,List.length_cons,List.length_nil];omega)
  have e3:(A++[r])++(P++((M++[p])++(R++Q)))=(A++r::(P++M))++p::(R++Q):=by simp
  have e4:(A++[r])++(R++((M++[p])++(P++Q)))=A++((r::R)++(M++((p::P)++Q))):=by simp
  rw[e3,e4] at ih
  have st1:=fun K:IM→Option (St⊕LR)=>pg hid (l:=A++p::(P++(M++r::(R++Q)))) (i:=A.length) (by simp) r K
  have st2:=fun K:IM→Option (St⊕LR)=>pg hid (l:=A++r::(P++(M++r::(R++Q)))) (i:=A.length+(P.length+1)+M.length) (by simp only[List.length_append,List.length_cons];omega) p K
  rw[s1] at st1
  rw[s2] at st2
  have rd1:=fun K:IV→Option (St⊕LR)=>fT hid g1 K
  have rd2:=fun K:IV→Option (St⊕LR)=>fT hid g2 K
  have x1:=fun K:IV→Option (St⊕LR)=>av (gR (id:=id) (n:=N) (i:=A.length) (by omega)) K
  have x2:=fun K:IV→Option (St⊕LR)=>av (gR (id:=id) (n:=N) (i:=A.length+(P.length+1)+M.length) (by omega)) K
  rw[ue,e0,←ih]
  generalize A.length+(P.length+1)+M.length=j2 at *
  generalize A.length=j1 at *
  generalize i+1=i2 at *
  simp only[vx,go_sem,decide_eq_true c1,if_true,wa,wb,x1,x2,rd1,rd2,p9,st1,st2,db,wi]
  rfl
theorem vz (N:Nat) (hN:N≤1000000) (A P M R Q:List Nat) (cmp:IV) (hcr:cmp.refs.isSome=true) (hcc:cmp.cells=[cmp]) (h1:P.length=R.length) (h5:A.length+P.length+M.length+R.length+Q.length=N) {a b n:Int}(ha:a=(A.length:Int)) (hb:b=((A.length+P.length+M.length:Nat):Int)) (hn:n=(P.length:Int)) :
  cw (.f 190) [.sB id 0 N 1,.int .i64 a,.int .i64 b,.int .i64 n,cmp] (dM m id (A++(P++(M++(R++Q)))))=some (.tup [],dM m id (A++(R++(M++(P++Q))))):=by
 subst ha hb hn
 have hL:=M7 m id hid N hN A.length (A.length+P.length+M.length) P.length Q P R A M 0 h1 rfl rfl (by omega) h5
 have hL':uQ (.sB id 0 N 1) (A.length:Int) ((A.length+P.length+M.length:Nat):Int) (P.length:Int) 0 (dM m id (A++(P++(M++(R++Q)))))=_:=hL
 apply B5
 simp only[Kt,db,hL',go_sem,if_true]
 exact fL m id _ _
end
theorem lF (vb:Nat):(dX vb).cells=[dX vb]:=rfl
theorem nY (vb:Nat):(dX vb).refs.isSome=true:=rfl
section
variable (m:IM) (id vb:Nat) (hid:id<m.size)
include hid
theorem Ju (N:Nat) (hN:N≤1000000):∀(f:Nat) (A X Y Q:List Nat),X.length+Y.length≤f→X≠[]→Y≠[]→A.length+X.length+Y.length+Q.length=N →
  ∃A' X' Y' Q',X'.length=Y'.length∧A'.length+X'.length=A.length+X.length∧A'++(Y'++(X'++Q'))=A++(Y++(X++Q))∧A'.length+X'.length+Y'.length+Q'.length=N ∧
   zo (.sB id 0 N 1) ((A.length+X.length:Nat):Int) (dX vb) (X.length:Int) (Y.length:Int) (dM m id (A++(X++(Y++Q))))=some (.exit 0,[.sB id 0 N 1,.int .i64 ((A.length+X.length:Nat):Int),dX vb,.int .i64 (X'.length:Int)],[],dM m id (A'++(X'++(Y'++Q'))))
 |0,A,X,Y,Q,hf,hX,hY,hl=>by
  have:X=[]:=List.length_eq_zero_iff.1 (by omega)
  exact (hX this).elim
 |f+1,A,X,Y,Q,hf,hX,hY,hl=>by
  have hX1:1≤X.length:=by cases X with
   |nil=>exact (hX rfl).elim
   |cons _ _=>simp
  have hY1:1≤Y.length:=by cases Y with
   |nil=>exact (hY rfl).elim
   |cons _ _=>simp
  by_cases heq:X.length=Y.length
  ·refine⟨A,X,Y,Q,heq,rfl,rfl,hl,?_⟩
   have c1:((X.length:Int) != (Y.length:Int))=false:=by rw[heq];simp
   rw[nL]
   simp only[rV,go_sem,c1,Bool.false_eq_true,if_false]
  ·have c1:((X.length:Int) != (Y.length:Int))=true:=by simp;omega
   have wmi:IntKind.i64.wrap (((A.length+X.length:Nat):Int)-(X.length:Int))=(A.length:Int):=by rw[w64 (by omega) (by omega)];omega
   by_cases hgt:Y.length<X.length
   ·have c2:(X.length:Int)>(Y.length:Int):=by omega
    obtain⟨X1,X2,rfl,hX1l⟩:∃X1 X2,X=X1++X2∧X1.length=Y.length:=⟨X.take Y.length,X.drop Y.length,(List.take_append_drop _ _).symm,by rw[List.length_take];omega⟩
    have hX2:X2≠[]:=by
     rintro rfl
     simp only[List.length_append,List.length_nil] at hgt;omega
    simp only[List.length_append] at hgt hl hf
    have hsw:=vz m id hid N hN A X1 X2 Y Q (dX vb) (nY vb) (lF vb) hX1l (by omega) (a:=(A.length:Int)) (b:=((A.length+(X1++X2).length:Nat):Int)) (n:=(Y.length:Int)) rfl (by simp only[List.length_append];omega) (by omega)
    have h1:=fun K2:IV→IM→Option (St⊕LR)=>au hsw (by rfl) K2
    obtain⟨A',X',Y',Q',q1,q2,q3,q4,q5⟩:=Ju N hN f (A++Y) X2 X1 Q (by omega) hX2 (by rintro rfl;simp only[List.length_nil] at hX1l;omega) (by simp only[List.length_append];omega)
    have wij:IntKind.i64.wrap (((X1++X2).length:Int)-(Y.length:Int))=(X2.length:Int):=by rw[w64 (by simp only[List.length_append];omega) (by simp only[List.length_append];omega)];simp only[List.length_append];omega
    have hlm:(A++Y).length+X2.length=A.length+(X1++X2).length:=by simp only[List.length_append];omega
    refine⟨A',X',Y',Q',q1,by omega,by rw[q3];simp,q4,?_⟩
    rw[hlm,hX1l] at q5
    have e1:A++((X1++X2)++(Y++Q))=A++(X1++(X2++(Y++Q))):=by simp
    have e2:(A++Y)++(X2++(X1++Q))=A++(Y++(X2++(X1++Q))):=by simp
    rw[e2] at q5
    rw[nL,e1,←q5]
    simp only[rV,go_sem,c1,if_true,decide_eq_true c2,wmi,h1,db,dd,wij]
    rfl
   ·have c2:¬(X.length:Int)>(Y.length:Int):=by omega
    obtain⟨Y1,Y2,rfl,hY2l⟩:∃Y1 Y2,Y=Y1++Y2∧Y2.length=X.length:=⟨Y.take (Y.length-X.length),Y.drop (Y.length-X.length),(List.take_append_drop _ _).symm,by rw[List.length_drop];omega⟩
    have hY1:Y1≠[]:=by
     rintro rfl
     simp only[List.length_append,List.length_nil] at heq;omega
    simp only[List.length_append] at hgt hl hf
    have hsw:=vz m id hid N hN A X Y1 Y2 Q (dX vb) (nY vb) (lF vb) hY2l.symm (by omega) (a:=(A.length:Int)) (b:=((A.length+X.length+Y1.length:Nat):Int)) (n:=(X.length:Int)) rfl rfl rfl
    have h1:=fun K2:IV→IM→Option (St⊕LR)=>au hsw (by rfl) K2
    obtain⟨A',X',Y',Q',q1,q2,q3,q4,q5⟩:=Ju N hN f A Y2 Y1 (X++Q) (by omega) (by rintro rfl;simp only[List.length_nil] at hY2l;omega) hY1 (by simp only[List.length_append];omega)
    have wji:IntKind.i64.wrap (((Y1++Y2).length:Int)-(X.length:Int))=(Y1.length:Int):=by rw[w64 (by simp only[List.length_append];omega) (by simp only[List.length_append];omega)];simp only[List.length_append];omega
    have wmj:IntKind.i64.wrap (IntKind.i64.wrap (((A.length+X.length:Nat):Int)+((Y1++Y2).length:Int))-(X.length:Int))=((A.length+X.length+Y1.length:Nat):Int):=by
     rw[w64 (x:=((A.length+X.length:Nat):Int)+((Y1++Y2).length:Int)) (by simp only[List.length_append];omega) (by simp only[List.length_append];omega),w64 (by simp only[List.length_append];omega) (by simp only[List.length_append];omega)]
     simp only[List.length_append];omega
    refine⟨A',X',Y',Q',q1,by omega,by rw[q3];simp,q4,?_⟩
    rw[hY2l] at q5
    have e1:A++(X++((Y1++Y2)++Q))=A++(X++(Y1++(Y2++Q))):=by simp
    rw[nL,e1,←q5]
    simp only[rV,go_sem,c1,if_true,decide_eq_false c2,Bool.false_eq_true,if_false,wmi,wmj,h1,db,dd,wji]
    rfl
theorem K8 (N:Nat) (hN:N≤1000000) (A X Y Q:List Nat) (hX:X≠[]) (hY:Y≠[]) (hl:A.length+X.length+Y.length+Q.length=N) :
  cw (.f 187) [.sB id 0 N 1,.int .i64 (A.length:Int),.int .i64 ((A.length+X.length:Nat):Int),.int .i64 ((A.length+X.length+Y.length:Nat):Int),dX vb] (dM m id (A++(X++(Y++Q))))=some (.tup [],dM m id (A++(Y++(X++Q)))):=by
 obtain⟨A',X',Y',Q',q1,q2,q3,q4,q5⟩:=Ju m id vb hid N hN (X.length+Y.length) A X Y Q (Nat.le_refl _) hX hY hl
 have w1:IntKind.i64.wrap (((A.length+X.length:Nat):Int)-(A.length:Int))=(X.length:Int):=by rw[w64 (by omega) (by omega)];omega
 have w2:IntKind.i64.wrap (((A.length+X.length+Y.length:Nat):Int)-((A.length+X.length:Nat):Int))=(Y.length:Int):=by rw[w64 (by omega) (by omega)];omega
 have w3:IntKind.i64.wrap (((A.length+X.length:Nat):Int)-(X'.length:Int))=(A'.length:Int):=by rw[w64 (by omega) (by omega)];omega
 have hsw:=vz m id hid N hN A' X' [] Y' Q' (dX vb) (nY vb) (lF vb) q1 (by simp only[List.length_nil];omega) (a:=(A'.length:Int)) (b:=((A.length+X.length:Nat):Int)) (n:=(X'.length:Int)) rfl (by simp only[List.length_nil];omega) rfl
 rw[List.nil_append,List.nil_append,q3] at hsw
 have h1:=fun K2:IV→IM→Option (IV×IM)=>au hsw (by rfl) K2
 apply BJ
 simp only[JR,db,dd,w1,w2,q5,go_sem,if_true,w3,h1]
 exact fL m id _ _
end
end Go.Idl
namespace Go.Idl
attribute [local go_sem] bB bA gI gS aZ bF bW bT cA cC cf ct bp aO bk aS aQ cr bq aK cD aJ aA aF az aB aj cG bZ bh bf ck cd bo c9 cu bw cy cB cz cE bg bt bu aR bm cx aP aG aM aN bj an af
theorem pR (i j:Nat) (h:i+j≤1000000000):IntKind.i64.wrap (Int.fdiv (IntKind.u64.wrap (IntKind.i64.wrap ((i:Int)+(j:Int)))) (2^Nat.min (Int.toNat 1) 64))=(((i+j)/2:Nat):Int):=by
 have e1:IntKind.i64.wrap ((i:Int)+(j:Int))=((i+j:Nat):Int):=by rw[w64 (by omega) (by omega)];omega
 have e2:IntKind.u64.wrap ((i+j:Nat):Int)=((i+j:Nat):Int):=by
  unfold IntKind.wrap
  simp[IntKind.bits,IntKind.signed]
  omega
 have e3:Int.fdiv ((i+j:Nat):Int) (2^Nat.min (Int.toNat 1) 64)=(((i+j)/2:Nat):Int):=by
  have:((2:Int)^Nat.min (Int.toNat 1) 64)=2:=by decide
  rw[this,Int.fdiv_eq_ediv_of_nonneg _ (by omega)]
  omega
 rw[e1,e2,e3,w64 (by omega) (by omega)]
section
variable (m:IM) (id vb:Nat) (ks:List (List UInt8)) (k:Int) (t:List UInt8) (V:IV) (hid:id<m.size) (hne:vb≠id) (hvb:ks≠[]→m.get vb=.cells [.int .i64 k,.str t,.sl (ks.map .str) ks.length,V] [.any,.any,.any,.any])
include hid hne hvb
theorem LQ (N:Nat) (hN:N≤1000000) (l:List Nat) (hl:l.length=N) (hk:∀y,y∈l→y<ks.length) (a:Nat) (ha:a<N):∀(f i j:Nat),j-i≤f→i≤j→j≤N →
  ∃p,i≤p∧p≤j∧(p=i∨aq (ks.getD (l.getD (p-1) 0) []) (ks.getD (l.getD a 0) [])=true)∧(p=j∨aq (ks.getD (l.getD p 0) []) (ks.getD (l.getD a 0) [])=false) ∧
   yo (.sB id 0 N 1) a (dX vb) i j (dM m id l)=some (.exit 0,[.sB id 0 N 1,.int .i64 (a:Int),.int .i64 (p:Int)],[],dM m id l):=by
 intro f
 induction f with
 |zero =>
  intro i j hf hij hj
  have c1:¬(i:Int)<(j:Int):=by omega
  refine⟨i,Nat.le_refl _,hij,.inl rfl,.inl (by omega),?_⟩
  rw[kt]
  simp only[ou,go_sem,decide_eq_false c1,Bool.false_eq_true,if_false]
 |succ f ih =>
  intro i j hf hij hj
  by_cases c:i<j
  ·have c1:(i:Int)<(j:Int):=by omega
   have hh:=pR i j (by omega)
   obtain⟨h,hhd⟩:∃h,h=(i+j)/2:=⟨_,rfl⟩
   rw[←hhd] at hh
   have hb1:i≤h∧h<j:=by omega
   have hhN:h<l.length:=by omega
   have haN:a<l.length:=by omega
   have g1:l[h]?=some (l.getD h 0):=by simp[List.getD_eq_getElem?_getD,hhN]
   have g2:l[a]?=some (l.getD a 0):=by simp[List.getD_eq_getElem?_getD,haN]
   have k1:l.getD h 0<ks.length:=hk _ (List.mem_of_getElem? g1)
   have k2:l.getD a 0<ks.length:=hk _ (List.mem_of_getElem? g2)
   have hcmp:=fun K2:IV→IM→Option (St⊕LR)=>GQ m id vb ks k t V hne hvb l k1 k2 K2
   have rd1:=fun K:IV→Option (St⊕LR)=>fT hid g1 K
   have rd2:=fun K:IV→Option (St⊕LR)=>fT hid g2 K
   have x1:=fun K:IV→Option (St⊕LR)=>av (gR (id:=id) (n:=N) (i:=h) (by omega)) K
   have x2:=fun K:IV→Option (St⊕LR)=>av (gR (id:=id) (n:=N) (i:=a) ha) K
   have hw:IntKind.i64.wrap ((h:Int)+1)=((h+1:Nat):Int):=by rw[w64 (by omega) (by omega)];omega
   have hcb:=mT (ks.getD (l.getD h 0) []) (ks.getD (l.getD a 0) [])
   cases hlt:aq (ks.getD (l.getD h 0) []) (ks.getD (l.getD a 0) []) with
   |true =>
    rw[hlt] at hcb
    obtain⟨p,p1,p2,p3,p4,p5⟩:=ih (h+1) j (by omega) (by omega) hj
    refine⟨p,by omega,p2,?_,p4,?_⟩
    ·rcases p3 with q | q
     ·right;rw[q,Nat.add_sub_cancel];exact hlt
     ·exact .inr q
    ·rw[kt,←p5]
     generalize h+1=h1 at *
     simp only[ou,go_sem,decide_eq_true c1,if_true,hh,x1,rd1,x2,rd2,hcmp,hcb,db,dd,hw]
     rfl
   |false =>
    rw[hlt] at hcb
    obtain⟨p,p1,p2,p3,p4,p5⟩:=ih i h (by omega) (by omega) (by omega)
    refine⟨p,p1,by omega,p3,?_,?_⟩
    ·rcases p4 with q | q
     ·right;rw[q];exact hlt
     ·exact .inr q
    ·rw[kt,←p5]
     simp only[ou,go_sem,decide_eq_true c1,if_true,hh,x1,rd1,x2,rd2,hcmp,hcb,Bool.false_eq_true,if_false,db,dd]
     rfl
  ·have c1:¬(i:Int)<(j:Int):=by omega
   refine⟨i,Nat.le_refl _,hij,.inl rfl,.inl (by omega),?_⟩
   rw[kt]
   simp only[ou,go_sem,decide_eq_false c1,Bool.false_eq_true,if_false]
theorem Nc (N:Nat) (hN:N≤1000000) (l:List Nat) (hl:l.length=N) (hk:∀y,y∈l→y<ks.length) (a:Nat) (ha:a<N):∀(f i j:Nat),j-i≤f→i≤j→j≤N →
  ∃p,i≤p∧p≤j∧(p=i∨aq (ks.getD (l.getD a 0) []) (ks.getD (l.getD (p-1) 0) [])=false)∧(p=j∨aq (ks.getD (l.getD a 0) []) (ks.getD (l.getD p 0) [])=true) ∧
   zh (.sB id 0 N 1) a (dX vb) i j (dM m id l)=some (.exit 4,[.sB id 0 N 1,.int .i64 (a:Int),.int .i64 (p:Int)],[],dM m id l):=by
 intro f
 induction f with
 |zero =>
  intro i j hf hij hj
  have c1:¬(i:Int)<(j:Int):=by omega
  refine⟨i,Nat.le_refl _,hij,.inl rfl,.inl (by omega),?_⟩
  rw[kn]
  simp only[nQ,go_sem,decide_eq_false c1,Bool.false_eq_true,if_false]
 |succ f ih =>
  intro i j hf hij hj
  by_cases c:i<j
  ·have c1:(i:Int)<(j:Int):=by omega
   have hh:=pR i j (by omega)
   obtain⟨h,hhd⟩:∃h,h=(i+j)/2:=⟨_,rfl⟩
   rw[←hhd] at hh
   have hb1:i≤h∧h<j:=by omega
   have hhN:h<l.length:=by omega
   have haN:a<l.length:=by omega
   have g1:l[h]?=some (l.getD h 0):=by simp[List.getD_eq_getElem?_getD,hhN]
   have g2:l[a]?=some (l.getD a 0):=by simp[List.getD_eq_getElem?_getD,haN]
   have k1:l.getD h 0<ks.length:=hk _ (List.mem_of_getElem? g1)
   have k2:l.getD a 0<ks.length:=hk _ (List.mem_of_getElem? g2)
   have hcmp:=fun K2:IV→IM→Option (St⊕LR)=>GQ m id vb ks k t V hne hvb l k2 k1 K2
   have rd1:=fun K:IV→Option (St⊕LR)=>fT hid g1 K
   have rd2:=fun K:IV→Option (St⊕LR)=>fT hid g2 K
   have x1:=fun K:IV→Option (St⊕LR)=>av (gR (id:=id) (n:=N) (i:=h) (by omega)) K
   have x2:=fun K:IV→Option (St⊕LR)=>av (gR (id:=id) (n:=N) (i:=a) ha) K
   have hw:IntKind.i64.wrap ((h:Int)+1)=((h+1:Nat):Int):=by rw[w64 (by omega) (by omega)];omega
   have hcb:=mT (ks.getD (l.getD a 0) []) (ks.getD (l.getD h 0) [])
   cases hlt:aq (ks.getD (l.getD a 0) []) (ks.getD (l.getD h 0) []) with
   |false =>
    rw[hlt] at hcb
    obtain⟨p,p1,p2,p3,p4,p5⟩:=ih (h+1) j (by omega) (by omega) hj
    refine⟨p,by omega,p2,?_,p4,?_⟩
    ·rcases p3 with q | q
     ·right;rw[q,Nat.add_sub_cancel];exact hlt
     ·exact .inr q
    ·rw[kn,←p5]
     generalize h+1=h1 at *
     simp only[nQ,go_sem,decide_eq_true c1,if_true,hh,x1,rd1,x2,rd2,hcmp,hcb,Bool.not_false,db,dd,hw]
     rfl
   |true =>
    rw[hlt] at hcb
    obtain⟨p,p1,p2,p3,p4,p5⟩:=ih i h (by omega) (by omega) (by omega)
    refine⟨p,p1,by omega,p3,?_,?_⟩
    ·rcases p4 with q | q
     ·right;rw[q];exact hlt
     ·exact .inr q
    ·rw[kn,←p5]
     simp only[nQ,go_sem,decide_eq_true c1,if_true,hh,x1,rd1,x2,rd2,hcmp,hcb,Bool.not_true,Bool.false_eq_true,if_false,db,dd]
     rfl
  ·have c1:¬(i:Int)<(j:Int):=by omega
   refine⟨i,Nat.le_refl _,hij,.inl rfl,.inl (by omega),?_⟩
   rw[kn]
   simp only[nQ,go_sem,decide_eq_false c1,Bool.false_eq_true,if_false]
theorem NC (N:Nat) (hN:N≤1000000) (l:List Nat) (hl:l.length=N) (hk:∀y,y∈l→y<ks.length) (a n b mid n1:Int) (q:Nat):∀(f i j:Nat),j-i≤f→i≤j→j≤N→(i<j→j≤q+1)→(∀c,i≤c→c<j→q-c<N)→q≤2000000 →
  ∃p,i≤p∧p≤j∧(p=i∨aq (ks.getD (l.getD (q-(p-1)) 0) []) (ks.getD (l.getD (p-1) 0) [])=false)∧(p=j∨aq (ks.getD (l.getD (q-p) 0) []) (ks.getD (l.getD p 0) [])=true) ∧
   yQ (.sB id 0 N 1) a n b (dX vb) mid n1 i j q (dM m id l)=some (.exit 8,[.sB id 0 N 1,.int .i64 a,.int .i64 n,.int .i64 b,dX vb,.int .i64 mid,.int .i64 n1,.int .i64 (p:Int)],[],dM m id l):=by
 intro f
 induction f with
 |zero =>
  intro i j hf hij hj _ _ _
  have c1:¬(i:Int)<(j:Int):=by omega
  refine⟨i,Nat.le_refl _,hij,.inl rfl,.inl (by omega),?_⟩
  rw[ko]
  simp only[nN,go_sem,decide_eq_false c1,Bool.false_eq_true,if_false]
 |succ f ih =>
  intro i j hf hij hj hjq hqN hqb
  by_cases c:i<j
  ·have c1:(i:Int)<(j:Int):=by omega
   have hh:=pR i j (by omega)
   obtain⟨h,hhd⟩:∃h,h=(i+j)/2:=⟨_,rfl⟩
   rw[←hhd] at hh
   have hb1:i≤h∧h<j:=by omega
   have hjq':=hjq c
   have hqh:=hqN h hb1.1 hb1.2
   have wq:IntKind.i64.wrap ((q:Int)-(h:Int))=((q-h:Nat):Int):=by rw[w64 (by omega) (by omega)];omega
   have g1:l[h]?=some (l.getD h 0):=by simp[List.getD_eq_getElem?_getD,show h<l.length by omega]
   have g2:l[q-h]?=some (l.getD (q-h) 0):=by simp[List.getD_eq_getElem?_getD,show q-h<l.length by omega]
   have k1:l.getD h 0<ks.length:=hk _ (List.mem_of_getElem? g1)
   have k2:l.getD (q-h) 0<ks.length:=hk _ (List.mem_of_getElem? g2)
   have hcmp:=fun K2:IV→IM→Option (St⊕LR)=>GQ m id vb ks k t V hne hvb l k2 k1 K2
   have rd1:=fun K:IV→Option (St⊕LR)=>fT hid g1 K
   have rd2:=fun K:IV→Option (St⊕LR)=>fT hid g2 K
   have x1:=fun K:IV→Option (St⊕LR)=>av (gR (id:=id) (n:=N) (i:=h) (by omega)) K
   have x2:=fun K:IV→Option (St⊕LR)=>av (gR (id:=id) (n:=N) (i:=q-h) hqh) K
   have hw:IntKind.i64.wrap ((h:Int)+1)=((h+1:Nat):Int):=by rw[w64 (by omega) (by omega)];omega
   have hcb:=mT (ks.getD (l.getD (q-h) 0) []) (ks.getD (l.getD h 0) [])
   cases hlt:aq (ks.getD (l.getD (q-h) 0) []) (ks.getD (l.getD h 0) []) with
   |false =>
    rw[hlt] at hcb
    obtain⟨p,p1,p2,p3,p4,p5⟩:=ih (h+1) j (by omega) (by omega) hj (fun _=>hjq') (fun c g1 g2=>hqN c (by omega) g2) hqb
    refine⟨p,by omega,p2,?_,p4,?_⟩
    ·rcases p3 with g | g
     ·right;rw[g,Nat.add_sub_cancel];exact hlt
     ·exact .inr g
    ·rw[ko,←p5]
     generalize h+1=h1 at *
     simp only[nN,go_sem,decide_eq_true c1,if_true,hh,wq,x1,rd1,x2,rd2,hcmp,hcb,Bool.not_false,db,dd,hw]
     rfl
   |true =>
    rw[hlt] at hcb
    obtain⟨p,p1,p2,p3,p4,p5⟩:=ih i h (by omega) (by omega) (by omega) (fun _=>by omega) (fun c g1 g2=>hqN c g1 (by omega)) hqb
    refine⟨p,p1,by omega,p3,?_,?_⟩
    ·rcases p4 with g | g
     ·right;rw[g];exact hlt
     ·exact .inr g
    ·rw[ko,←p5]
     simp only[nN,go_sem,decide_eq_true c1,if_true,hh,wq,x1,rd1,x2,rd2,hcmp,hcb,Bool.not_true,Bool.false_eq_true,if_false,db,dd]
     rfl
  ·have c1:¬(i:Int)<(j:Int):=by omega
   refine⟨i,Nat.le_refl _,hij,.inl rfl,.inl (by omega),?_⟩
   rw[ko]
   simp only[nN,go_sem,decide_eq_false c1,Bool.false_eq_true,if_false]
end
section
variable (m:IM) (id:Nat) (hid:id<m.size)
include hid
theorem Is (N:Nat) (hN:N≤1000000) (x:Nat) (T:List Nat):∀(Y B:List Nat),B.length+1+Y.length+T.length=N →
  yD (.sB id 0 N 1) ((B.length+Y.length+1:Nat):Int) (B.length:Int) (dM m id (B++x::(Y++T)))=some (.exit 2,[],[],dM m id (B++(Y++x::T)))
 |[],B,hl=>by
  have w0:IntKind.i64.wrap (((B.length+([]:List Nat).length+1:Nat):Int)-1)=(B.length:Int):=by simp only[List.length_nil];rw[w64 (by omega) (by omega)];omega
  have c1:¬(B.length:Int)<(B.length:Int):=by omega
  rw[tF]
  simp only[uZ,go_sem,w0,decide_eq_false c1,Bool.false_eq_true,if_false,List.nil_append]
 |y::Y,B,hl=>by
  simp only[List.length_cons] at hl
  have w0:IntKind.i64.wrap (((B.length+(y::Y).length+1:Nat):Int)-1)=((B.length+(Y.length+1):Nat):Int):=by simp only[List.length_cons];rw[w64 (by omega) (by omega)];omega
  have c1:(B.length:Int)<((B.length+(Y.length+1):Nat):Int):=by omega
  have w1:IntKind.i64.wrap ((B.length:Int)+1)=((B.length+1:Nat):Int):=by rw[w64 (by omega) (by omega)];omega
  have g1:(B++x::(y::Y++T))[B.length]?=some x:=jk _ _ _
  have g2:(B++x::(y::Y++T))[B.length+1]?=some y:=rQ _ _ _ _
  have s1:(B++x::(y::Y++T)).set B.length y=B++y::(y::Y++T):=mI _ _ _ _
  have s2:(B++y::(y::Y++T)).set (B.length+1) x=B++y::x::(Y++T):=qP _ _ _ _ _
  have st1:=fun K:IM→Option (St⊕LR)=>pg hid (l:=B++x::(y::Y++T)) (i:=B.length) (by simp) y K
  have st2:=fun K:IM→Option (St⊕LR)=>pg hid (l:=B++y::(y::Y++T)) (i:=B.length+1) (by simp) x K
  rw[s1] at st1
  rw[s2] at st2
  have rd1:=fun K:IV→Option (St⊕LR)=>fT hid g1 K
  have rd2:=fun K:IV→Option (St⊕LR)=>fT hid g2 K
  have x1:=fun K:IV→Option (St⊕LR)=>av (gR (id:=id) (n:=N) (i:=B.length) (by omega)) K
  have x2:=fun K:IV→Option (St⊕LR)=>av (gR (id:=id) (n:=N) (i:=B.length+1) (by omega)) K
  have ih:=Is N hN x T Y (B++[y]) (by simp only[List.length_append,List.length_cons,List.length_nil];omega)
  have e1:(B++[y])++x::(Y++T)=B++y::x::(Y++T):=by simp
  have e2:(B++[y])++(Y++x::T)=B++(y::Y++x::T):=by simp
  have e3:(B++[y]).length=B.length+1:=by simp
  rw[e1,e2,e3] at ih
  have e4:B.length+1+Y.length+1=B.length+(y::Y).length+1:=by simp only[List.length_cons];omega
  rw[e4] at ih
  rw[tF,←ih]
  generalize B.length+1=b1 at *
  simp only[uZ,go_sem,w0,decide_eq_true c1,if_true,w1,x1,x2,rd1,rd2,p9,st1,st2,db]
  rfl
theorem Ie (N:Nat) (hN:N≤1000000) (y:Nat) (A:List Nat):∀(r T:List Nat),A.length+r.length+1+T.length=N →
  zy (.sB id 0 N 1) (A.length:Int) ((A.length+r.length:Nat):Int) (dM m id (A++(r.reverse++y::T)))=some (.exit 6,[],[],dM m id (A++y::(r.reverse++T)))
 |[],T,hl=>by
  have c1:¬((A.length+([]:List Nat).length:Nat):Int)>(A.length:Int):=by simp
  rw[tY]
  simp only[uH,go_sem,decide_eq_false c1,Bool.false_eq_true,if_false,List.reverse_nil,List.nil_append]
 |x::r,T,hl=>by
  simp only[List.length_cons] at hl
  have c1:((A.length+(x::r).length:Nat):Int)>(A.length:Int):=by simp only[List.length_cons];omega
  have hBl:(A++r.reverse).length=A.length+r.length:=by simp
  have hj:A.length+(x::r).length=(A++r.reverse).length+1:=by rw[hBl,List.length_cons];omega
  have hB:A++((x::r).reverse++y::T)=(A++r.reverse)++x::y::T:=by simp
  have w1:IntKind.i64.wrap ((((A++r.reverse).length+1:Nat):Int)-1)=(((A++r.reverse).length:Nat):Int):=by rw[w64 (by omega) (by omega)];omega
  rw[hj] at c1
  have g1:((A++r.reverse)++x::y::T)[(A++r.reverse).length]?=some x:=jk _ _ _
  have g2:((A++r.reverse)++x::y::T)[(A++r.reverse).length+1]?=some y:=rQ _ _ _ _
  have s1:((A++r.reverse)++x::y::T).set ((A++r.reverse).length+1) x=(A++r.reverse)++x::x::T:=qP _ _ _ _ _
  have s2:((A++r.reverse)++x::x::T).set (A++r.reverse).length y=(A++r.reverse)++y::x::T:=mI _ _ _ _
  have st1:=fun K:IM→Option (St⊕LR)=>pg hid (l:=(A++r.reverse)++x::y::T) (i:=(A++r.reverse).length+1) (by simp;omega) x K
  have st2:=fun K:IM→Option (St⊕LR)=>pg hid (l:=(A++r.reverse)++x::x::T) (i:=(A++r.reverse).length) (by simp) y K
  rw[s1] at st1
  rw[s2] at st2
  have rd1:=fun K:IV→Option (St⊕LR)=>fT hid g1 K
  have rd2:=fun K:IV→Option (St⊕LR)=>fT hid g2 K
  have x1:=fun K:IV→Option (St⊕LR)=>av (gR (id:=id) (n:=N) (i:=(A++r.reverse).length) (by omega)) K
  have x2:=fun K:IV→Option (St⊕LR)=>av (gR (id:=id) (n:=N) (i:=(A++r.reverse).length+1) (by omega)) K
  have ih:=Ie N hN y A r (x::T) (by simp only[List.length_cons];omega)
  have e1:A++(r.reverse++y::x::T)=(A++r.reverse)++y::x::T:=by simp
  have e2:A++y::(r.reverse++x::T)=A++y::((x::r).reverse++T):=by simp
  rw[e1,e2,←hBl] at ih
  rw[hB,hj,tY,←ih]
  generalize hj1:(A++r.reverse).length+1=j1 at *
  generalize (A++r.reverse).length=j0 at *
  simp only[uH,go_sem,decide_eq_true c1,if_true,w1,x1,x2,rd1,rd2,p9,st1,st2,db]
  rfl
end
end Go.Idl
namespace Go.Idl
attribute [local go_sem] bB bA gI gS aZ bF bW bT cA cC cf ct bp aO bk aS aQ cr bq aK cD aJ aA aF az aB aj cG bZ bh bf ck cd bo c9 cu bw cy cB cz cE bg bt bu aR bm cx aP aG aM aN bj an af
theorem wB (ks:List (List UInt8)) (a:Nat):leK ks a a:=vG _
def wc (ks:List (List UInt8)) (X Y:List Nat):Prop:=∀z w,X[X.length-1]?=some z→Y[0]?=some w→leK ks z w
theorem pT {ks:List (List UInt8)}:∀{L:List Nat},L.Pairwise (leK ks)→∀z,L[L.length-1]?=some z→∀y,y∈L→leK ks y z
 |[],_,_,_,_,hy=>by cases hy
 |[x],_,z,hz,y,hy=>by
  simp only[List.mem_cons,List.not_mem_nil,or_false] at hy
  subst hy
  simp only[List.length_cons,List.length_nil,Nat.zero_add,Nat.sub_self,List.getElem?_cons_zero,Option.some.injEq] at hz
  subst hz;exact wB ks _
 |x::x2::r,h,z,hz,y,hy=>by
  obtain⟨h1,h2⟩:=List.pairwise_cons.1 h
  have hz':(x2::r)[(x2::r).length-1]?=some z:=by simpa using hz
  rcases List.mem_cons.1 hy with rfl | hy
  ·exact h1 z (List.mem_of_getElem? hz')
  ·exact pT h2 z hz' y hy
theorem ka {ks:List (List UInt8)}{L:List Nat}(h:L.Pairwise (leK ks)) (z:Nat) (hz:L[0]?=some z) (y:Nat) (hy:y∈L):leK ks z y:=by
 cases L with
 |nil=>cases hy
 |cons x r =>
  simp only[List.getElem?_cons_zero,Option.some.injEq] at hz
  subst hz
  rcases List.mem_cons.1 hy with rfl | hy
  ·exact wB ks _
  ·exact (List.pairwise_cons.1 h).1 y hy
theorem zZ {ks:List (List UInt8)}{X Y:List Nat}(hX:X.Pairwise (leK ks)) (hY:Y.Pairwise (leK ks)) (h:wc ks X Y):∀x,x∈X→∀y,y∈Y→leK ks x y:=by
 intro x hx y hy
 have h1:X.length-1<X.length:=by
  cases X with
  |nil=>cases hx
  |cons _ _=>simp
 have h2:0<Y.length:=by
  cases Y with
  |nil=>cases hy
  |cons _ _=>simp
 exact fN (pT hX _ (List.getElem?_eq_getElem h1) x hx) (fN (h _ _ (List.getElem?_eq_getElem h1) (List.getElem?_eq_getElem h2)) (ka hY _ (List.getElem?_eq_getElem h2) y hy))
theorem sF {ks:List (List UInt8)}{X:List Nat}(h:X.Pairwise (leK ks)) (n:Nat):(X.take n).Pairwise (leK ks)∧(X.drop n).Pairwise (leK ks)∧∀x,x∈X.take n→∀y,y∈X.drop n→leK ks x y:=by
 rw[←List.take_append_drop n X] at h
 exact List.pairwise_append.1 h
theorem wV {ks:List (List UInt8)}{X1 X2 Y1 Y2 Z1 Z2:List Nat}(hX:(X1++X2).Pairwise (leK ks)) (hY:(Y1++Y2).Pairwise (leK ks)) (h1:wc ks X1 Y2) (h2:wc ks Y1 X2) (hZ1:Z1.Perm (X1++Y1)) (hZ2:Z2.Perm (X2++Y2)) (s1:Z1.Pairwise (leK ks)) (s2:Z2.Pairwise (leK ks)) :
  (Z1++Z2).Perm ((X1++X2)++(Y1++Y2))∧(Z1++Z2).Pairwise (leK ks):=by
 obtain⟨a1,a2,a3⟩:=List.pairwise_append.1 hX
 obtain⟨b1,b2,b3⟩:=List.pairwise_append.1 hY
 refine⟨?_,List.pairwise_append.2 ⟨s1,s2,fun x hx y hy=>?_⟩⟩
 ·refine (hZ1.append hZ2).trans ?_
  rw[List.append_assoc,List.append_assoc]
  refine List.Perm.append_left _ ?_
  rw[←List.append_assoc,←List.append_assoc]
  exact List.Perm.append_right _ List.perm_append_comm
 ·have hx:=hZ1.mem_iff.1 hx
  have hy:=hZ2.mem_iff.1 hy
  rcases List.mem_append.1 hx with hx | hx<;>rcases List.mem_append.1 hy with hy | hy
  ·exact a3 x hx y hy
  ·exact zZ a1 b2 h1 x hx y hy
  ·exact zZ b1 a2 h2 x hx y hy
  ·exact b3 x hx y hy
theorem gK {l:List Nat}{i x:Nat}(h:l[i]?=some x):l.getD i 0=x:=by simp[List.getD_eq_getElem?_getD,h]
section
variable (m:IM) (id vb:Nat) (ks:List (List UInt8)) (k:Int) (t:List UInt8) (V:IV) (hid:id<m.size) (hne:vb≠id) (hvb:ks≠[]→m.get vb=.cells [.int .i64 k,.str t,.sl (ks.map .str) ks.length,V] [.any,.any,.any,.any])
include hid hne hvb
theorem Hz (N:Nat) (hN:N≤1000000) (A:List Nat) (x:Nat) (Y Q:List Nat) (hY:Y.Pairwise (leK ks)) (hl:A.length+1+Y.length+Q.length=N) (hk:∀y,y∈A++([x]++(Y++Q))→y<ks.length) (a n b:Nat) (ha:a=A.length) (hn:n=a+1) (hb:b=n+Y.length) :
  ∃Z,Z.Perm ([x]++Y)∧Z.Pairwise (leK ks)∧cw (.f 181) [.sB id 0 N 1,.int .i64 (a:Int),.int .i64 (n:Int),.int .i64 (b:Int),dX vb] (dM m id (A++([x]++(Y++Q))))=some (.tup [],dM m id (A++(Z++Q))):=by
 have hll:(A++([x]++(Y++Q))).length=N:=by simp only[List.length_append,List.length_cons,List.length_nil];omega
 obtain⟨p,p1,p2,p3,p4,p5⟩:=LQ m id vb ks k t V hid hne hvb N hN _ hll hk a (by omega) (b-n) n b (Nat.le_refl _) (by omega) (by omega)
 have hxa:(A++([x]++(Y++Q)))[a]?=some x:=by rw[ha];exact jk A x (Y++Q)
 have hat:∀i,i<Y.length→(A++([x]++(Y++Q)))[n+i]?=Y[i]?:=by
  intro i hi
  rw[List.getElem?_append_right (by omega),List.getElem?_append_right (by simp only[List.length_cons,List.length_nil];omega),List.getElem?_append_left (by simp only[List.length_cons,List.length_nil];omega)]
  congr 1
  simp only[List.length_cons,List.length_nil];omega
 rw[gK hxa] at p3 p4
 obtain⟨c1,c2,c3⟩:=sF hY (p-n)
 have hlt:(Y.take (p-n)).length=p-n:=by rw[List.length_take];omega
 refine⟨Y.take (p-n)++x::Y.drop (p-n),?_,?_,?_⟩
 ·refine List.perm_middle.trans ?_
  rw[List.take_append_drop];exact .refl _
 ·have e1:∀y,y∈Y.take (p-n)→leK ks y x:=by
   intro y hy
   have hp:p-n-1<Y.length:=by
    rcases Nat.eq_zero_or_pos (p-n) with q | q
    ·rw[q] at hy;simp at hy
    ·omega
   have hp0:0<p-n:=by
    rcases Nat.eq_zero_or_pos (p-n) with q | q
    ·rw[q] at hy;simp at hy
    ·exact q
   rcases p3 with q | q
   ·omega
   ·have h1:=hat (p-n-1) hp
    rw[show n+(p-n-1)=p-1 by omega,List.getElem?_eq_getElem hp] at h1
    rw[gK h1] at q
    have hz:(Y.take (p-n))[(Y.take (p-n)).length-1]?=some Y[p-n-1]:=by
     rw[hlt,List.getElem?_take,if_pos (by omega),List.getElem?_eq_getElem hp]
    exact fN (pT c1 _ hz y hy) (oa q)
  have e2:∀y,y∈Y.drop (p-n)→leK ks x y:=by
   intro y hy
   have hp:p-n<Y.length:=by
    rcases Nat.lt_or_ge (p-n) Y.length with q | q
    ·exact q
    ·rw[List.drop_eq_nil_iff.2 q] at hy;cases hy
   rcases p4 with q | q
   ·omega
   ·have h1:=hat (p-n) hp
    rw[show n+(p-n)=p by omega,List.getElem?_eq_getElem hp] at h1
    rw[gK h1] at q
    have hz:(Y.drop (p-n))[0]?=some Y[p-n]:=by
     rw[List.getElem?_drop,Nat.add_zero,List.getElem?_eq_getElem hp]
    exact fN q (ka c2 _ hz y hy)
  refine List.pairwise_append.2 ⟨c1,List.pairwise_cons.2 ⟨e2,c2⟩,fun u hu w hw=>?_⟩
  rcases List.mem_cons.1 hw with rfl | hw
  ·exact e1 u hu
  ·exact c3 u hu w hw
 ·have hL:=Is m id hid N hN x (Y.drop (p-n)++Q) (Y.take (p-n)) A (by rw[hlt,List.length_append,List.length_drop];omega)
  have e1:A++x::(Y.take (p-n)++(Y.drop (p-n)++Q))=A++([x]++(Y++Q)):=by
   rw[←List.append_assoc (Y.take (p-n)),List.take_append_drop];rfl
  have e2:A++(Y.take (p-n)++x::(Y.drop (p-n)++Q))=A++((Y.take (p-n)++x::Y.drop (p-n))++Q):=by simp
  rw[e1,e2,hlt,show A.length+(p-n)+1=p by omega,←ha] at hL
  have w1:IntKind.i64.wrap ((n:Int)-(a:Int))=1:=by rw[w64 (by omega) (by omega)];omega
  apply kM
  simp only[Ba,w1,BEq.rfl,go_sem,if_true,db,dd,p5,hL]
  exact fL m id _ _
theorem DT (N:Nat) (hN:N≤1000000) (A X:List Nat) (y:Nat) (Q:List Nat) (hX:X.Pairwise (leK ks)) (hl:A.length+X.length+1+Q.length=N) (hk:∀z,z∈A++(X++([y]++Q))→z<ks.length) (a n b:Nat) (ha:a=A.length) (hn:n=a+X.length) (hb:b=n+1) (h1:X.length≠1) :
  ∃Z,Z.Perm (X++[y])∧Z.Pairwise (leK ks)∧cw (.f 181) [.sB id 0 N 1,.int .i64 (a:Int),.int .i64 (n:Int),.int .i64 (b:Int),dX vb] (dM m id (A++(X++([y]++Q))))=some (.tup [],dM m id (A++(Z++Q))):=by
 have hll:(A++(X++([y]++Q))).length=N:=by simp only[List.length_append,List.length_cons,List.length_nil];omega
 obtain⟨p,p1,p2,p3,p4,p5⟩:=Nc m id vb ks k t V hid hne hvb N hN _ hll hk n (by omega) (n-a) a n (Nat.le_refl _) (by omega) (by omega)
 have hyn:(A++(X++([y]++Q)))[n]?=some y:=by
  have:=jk (A++X) y Q
  rw[List.length_append,←ha,←hn] at this
  simpa using this
 have hat:∀i,i<X.length→(A++(X++([y]++Q)))[a+i]?=X[i]?:=by
  intro i hi
  rw[List.getElem?_append_right (by omega),List.getElem?_append_left (by omega)]
  congr 1;omega
 rw[gK hyn] at p3 p4
 obtain⟨c1,c2,c3⟩:=sF hX (p-a)
 have hlt:(X.take (p-a)).length=p-a:=by rw[List.length_take];omega
 refine⟨X.take (p-a)++y::X.drop (p-a),?_,?_,?_⟩
 ·refine List.perm_middle.trans ?_
  rw[List.take_append_drop]
  have:=List.perm_append_comm (l₁:=[y]) (l₂:=X)
  exact this
 ·have e1:∀z,z∈X.take (p-a)→leK ks z y:=by
   intro z hz
   have hp0:0<p-a:=by
    rcases Nat.eq_zero_or_pos (p-a) with q | q
    ·rw[q] at hz;simp at hz
    ·exact q
   have hp:p-a-1<X.length:=by omega
   rcases p3 with q | q
   ·omega
   ·have g1:=hat (p-a-1) hp
    rw[show a+(p-a-1)=p-1 by omega,List.getElem?_eq_getElem hp] at g1
    rw[gK g1] at q
    have hz2:(X.take (p-a))[(X.take (p-a)).length-1]?=some X[p-a-1]:=by
     rw[hlt,List.getElem?_take,if_pos (by omega),List.getElem?_eq_getElem hp]
    exact fN (pT c1 _ hz2 z hz) q
  have e2:∀z,z∈X.drop (p-a)→leK ks y z:=by
   intro z hz
   have hp:p-a<X.length:=by
    rcases Nat.lt_or_ge (p-a) X.length with q | q
    ·exact q
    ·rw[List.drop_eq_nil_iff.2 q] at hz;cases hz
   rcases p4 with q | q
   ·omega
   ·have g1:=hat (p-a) hp
    rw[show a+(p-a)=p by omega,List.getElem?_eq_getElem hp] at g1
    rw[gK g1] at q
    have hz2:(X.drop (p-a))[0]?=some X[p-a]:=by
     rw[List.getElem?_drop,Nat.add_zero,List.getElem?_eq_getElem hp]
    exact fN (oa q) (ka c2 _ hz2 z hz)
  refine List.pairwise_append.2 ⟨c1,List.pairwise_cons.2 ⟨e2,c2⟩,fun u hu w hw=>?_⟩
  rcases List.mem_cons.1 hw with rfl | hw
  ·exact e1 u hu
  ·exact c3 u hu w hw
 ·have hL:=Ie m id hid N hN y (A++X.take (p-a)) (X.drop (p-a)).reverse Q (by simp only[List.length_append,List.length_reverse,List.length_drop,hlt];omega)
  rw[List.reverse_reverse,List.length_reverse] at hL
  have e1:(A++X.take (p-a))++(X.drop (p-a)++y::Q)=A++(X++([y]++Q)):=by
   rw[List.append_assoc,←List.append_assoc (X.take (p-a)),List.take_append_drop];rfl
  have e2:(A++X.take (p-a))++y::(X.drop (p-a)++Q)=A++((X.take (p-a)++y::X.drop (p-a))++Q):=by simp
  have e3:(A++X.take (p-a)).length=p:=by rw[List.length_append,hlt];omega
  rw[e1,e2,e3,show p+(X.drop (p-a)).length=n by rw[List.length_drop];omega] at hL
  have w1:(IntKind.i64.wrap ((n:Int)-(a:Int))==1)=false:=by
   rw[w64 (by omega) (by omega)]
   rw[beq_eq_false_iff_ne];omega
  have w2:IntKind.i64.wrap ((b:Int)-(n:Int))=1:=by rw[w64 (by omega) (by omega)];omega
  apply kM
  simp only[Ba,w1,w2,BEq.rfl,go_sem,Bool.false_eq_true,if_false,if_true,db,dd,p5,hL]
  exact fL m id _ _
end
end Go.Idl
namespace Go.Idl
attribute [local go_sem] bB bA gI gS aZ bF bW bT cA cC cf ct bp aO bk aS aQ cr bq aK cD aJ aA aF az aB aj cG bZ bh bf ck cd bo c9 cu bw cy cB cz cE bg bt bu aR bm cx aP aG aM aN bj an af
section
variable (m:IM) (id vb:Nat) (ks:List (List UInt8)) (k:Int) (t:List UInt8) (V:IV) (hid:id<m.size) (hne:vb≠id) (hvb:ks≠[]→m.get vb=.cells [.int .i64 k,.str t,.sl (ks.map .str) ks.length,V] [.any,.any,.any,.any])
include hid hne hvb
set_option maxHeartbeats 4000000 in
theorem vL (N:Nat) (hN:N≤1000000):∀(f:Nat) (A X Y Q:List Nat),X.length+Y.length≤f→X≠[]→Y≠[]→X.Pairwise (leK ks)→Y.Pairwise (leK ks)→A.length+X.length+Y.length+Q.length=N→(∀y,y∈A++(X++(Y++Q))→y<ks.length)→∀(a n b:Nat),a=A.length→n=a+X.length→b=n+Y.length →
  ∃Z,Z.Perm (X++Y)∧Z.Pairwise (leK ks)∧cw (.f 181) [.sB id 0 N 1,.int .i64 (a:Int),.int .i64 (n:Int),.int .i64 (b:Int),dX vb] (dM m id (A++(X++(Y++Q))))=some (.tup [],dM m id (A++(Z++Q)))
 |0,A,X,Y,Q,hf,hX,hY,sX,sY,hl,hk,a,n,b,ha,hn,hb=>by
  have:X=[]:=List.length_eq_zero_iff.1 (by omega)
  exact (hX this).elim
 |f+1,A,X,Y,Q,hf,hX,hY,sX,sY,hl,hk,a,n,b,ha,hn,hb=>by
  have hX1:1≤X.length:=by cases X with
   |nil=>exact (hX rfl).elim
   |cons _ _=>simp
  have hY1:1≤Y.length:=by cases Y with
   |nil=>exact (hY rfl).elim
   |cons _ _=>simp
  by_cases hx1:X.length=1
  ·obtain⟨x,rfl⟩:=List.length_eq_one_iff.1 hx1
   exact Hz m id vb ks k t V hid hne hvb N hN A x Y Q sY (by simpa using hl) hk a n b ha (by simpa using hn) hb
  by_cases hy1:Y.length=1
  ·obtain⟨y,rfl⟩:=List.length_eq_one_iff.1 hy1
   exact DT m id vb ks k t V hid hne hvb N hN A X y Q sX (by simpa using hl) hk a n b ha hn (by simpa using hb) hx1
  have hll:(A++(X++(Y++Q))).length=N:=by simp only[List.length_append];omega
  obtain⟨mid,hmid⟩:∃mid,mid=(a+b)/2:=⟨_,rfl⟩
  have hhalf:=pR a b (by omega)
  rw[←hmid] at hhalf
  have hm1:a<mid∧mid<b:=by omega
  obtain⟨i0,j0,hC0,hi0,hij0,hj0n,hcase⟩:∃i0 j0:Nat,(∀mm:IM,p7 (.sB id 0 N 1) a n b (dX vb) mid ((mid+n:Nat):Int) mm=some (.normal,[.sB id 0 N 1,.int .i64 (a:Int),.int .i64 (n:Int),.int .i64 (b:Int),dX vb,.int .i64 (mid:Int),.int .i64 ((mid+n:Nat):Int),.int .i64 (i0:Int),.int .i64 (j0:Int)],[],mm))∧a≤i0∧i0≤j0∧j0≤n∧((i0=a∨mid+n-i0=b)∧(j0=n∨mid+n-j0=n)∧j0≤mid∧mid+n-i0≤b):=by
   by_cases g:mid<n
   ·refine⟨mid+n-b,mid,fun mm=>?_,by omega,by omega,by omega,by omega⟩
    have g':(n:Int)>(mid:Int):=by omega
    have w:IntKind.i64.wrap (((mid+n:Nat):Int)-(b:Int))=((mid+n-b:Nat):Int):=by rw[w64 (by omega) (by omega)];omega
    simp only[p7,go_sem,decide_eq_true g',if_true,w]
   ·refine⟨a,n,fun mm=>?_,Nat.le_refl _,by omega,Nat.le_refl _,by omega⟩
    have g':¬(n:Int)>(mid:Int):=by omega
    simp only[p7,go_sem,decide_eq_false g',Bool.false_eq_true,if_false]
  obtain⟨hca,hcb,hcc,hcd⟩:=hcase
  obtain⟨s,s1,s2,s3,s4,s5⟩:=NC m id vb ks k t V hid hne hvb N hN _ hll hk (a:Int) (n:Int) (b:Int) (mid:Int) ((mid+n:Nat):Int) (mid+n-1) (j0-i0) i0 j0 (Nat.le_refl _) hij0 (by omega) (fun _=>by omega) (fun c g1 g2=>by omega) (by omega)
  have wn1:IntKind.i64.wrap ((mid:Int)+(n:Int))=((mid+n:Nat):Int):=by rw[w64 (by omega) (by omega)];omega
  have wp:IntKind.i64.wrap (((mid+n:Nat):Int)-1)=((mid+n-1:Nat):Int):=by rw[w64 (by omega) (by omega)];omega
  obtain⟨e,he⟩:∃e,e=mid+n-s:=⟨_,rfl⟩
  have we:IntKind.i64.wrap (((mid+n:Nat):Int)-(s:Int))=(e:Int):=by rw[w64 (by omega) (by omega)];omega
  have hsn:a≤s∧s≤n:=by omega
  have hen:n≤e∧e≤b:=by omega
  obtain⟨X1,X2,hXX,hX1l⟩:∃X1 X2,X=X1++X2∧X1.length=s-a:=⟨X.take (s-a),X.drop (s-a),(List.take_append_drop _ _).symm,by rw[List.length_take];omega⟩
  obtain⟨Y1,Y2,hYY,hY1l⟩:∃Y1 Y2,Y=Y1++Y2∧Y1.length=e-n:=⟨Y.take (e-n),Y.drop (e-n),(List.take_append_drop _ _).symm,by rw[List.length_take];omega⟩
  have hX2l:X2.length=n-s:=by have:=congrArg List.length hXX;rw[List.length_append] at this;omega
  have hY2l:Y2.length=b-e:=by have:=congrArg List.length hYY;rw[List.length_append] at this;omega
  have atX:∀i,i<X.length→(A++(X++(Y++Q)))[a+i]?=X[i]?:=by
   intro i hi
   rw[List.getElem?_append_right (by omega),List.getElem?_append_left (by omega)]
   congr 1;omega
  have atY:∀i,i<Y.length→(A++(X++(Y++Q)))[n+i]?=Y[i]?:=by
   intro i hi
   rw[List.getElem?_append_right (by omega),List.getElem?_append_right (by omega),List.getElem?_append_left (by omega)]
   congr 1;omega
  have cross1:wc ks X1 Y2:=by
   intro z w hz hw
   have hz0:X1.length-1<X1.length:=(List.getElem?_eq_some_iff.1 hz).1
   have hw0:0<Y2.length:=(List.getElem?_eq_some_iff.1 hw).1
   rcases s3 with q | q
   ·omega
   ·have g1:(A++(X++(Y++Q)))[s-1]?=some z:=by
     have q1:=atX (s-1-a) (by omega)
     rw[show a+(s-1-a)=s-1 by omega] at q1
     rw[q1,hXX,List.getElem?_append_left (by omega),show s-1-a=X1.length-1 by omega];exact hz
    have g2:(A++(X++(Y++Q)))[mid+n-1-(s-1)]?=some w:=by
     have q1:=atY (e-n) (by omega)
     rw[show n+(e-n)=mid+n-1-(s-1) by omega] at q1
     rw[q1,hYY,List.getElem?_append_right (by omega),show e-n-Y1.length=0 by omega];exact hw
    rw[gK g1,gK g2] at q
    exact q
  have cross2:wc ks Y1 X2:=by
   intro z w hz hw
   have hz0:Y1.length-1<Y1.length:=(List.getElem?_eq_some_iff.1 hz).1
   have hw0:0<X2.length:=(List.getElem?_eq_some_iff.1 hw).1
   rcases s4 with q | q
   ·omega
   ·have g1:(A++(X++(Y++Q)))[s]?=some w:=by
     have q1:=atX (s-a) (by omega)
     rw[show a+(s-a)=s by omega] at q1
     rw[q1,hXX,List.getElem?_append_right (by omega),show s-a-X1.length=0 by omega];exact hw
    have g2:(A++(X++(Y++Q)))[mid+n-1-s]?=some z:=by
     have q1:=atY (e-n-1) (by omega)
     rw[show n+(e-n-1)=mid+n-1-s by omega] at q1
     rw[q1,hYY,List.getElem?_append_left (by omega),show e-n-1=Y1.length-1 by omega];exact hz
    rw[gK g1,gK g2] at q
    exact oa q
  have sX':=sX
  have sY':=sY
  rw[hXX] at sX'
  rw[hYY] at sY'
  obtain⟨sX1,sX2,_⟩:=List.pairwise_append.1 sX'
  obtain⟨sY1,sY2,_⟩:=List.pairwise_append.1 sY'
  have hl0:A++(X++(Y++Q))=A++(X1++(X2++(Y1++(Y2++Q)))):=by rw[hXX,hYY];simp
  have hk':∀y,(y∈A∨y∈X1∨y∈X2∨y∈Y1∨y∈Y2∨y∈Q)→y<ks.length:=by
   intro y hy
   apply hk y
   rw[hl0]
   simp only[List.mem_append]
   rcases hy with h | h | h | h | h | h<;>simp[h]
  have hC2:mK (.sB id 0 N 1) a n b (dX vb) mid s e (dM m id (A++(X++(Y++Q))))=some (.normal,[.sB id 0 N 1,.int .i64 (a:Int),.int .i64 (b:Int),dX vb,.int .i64 (mid:Int),.int .i64 (s:Int),.int .i64 (e:Int)],[],dM m id (A++(X1++(Y1++(X2++(Y2++Q)))))):=by
   by_cases g:s<n∧n<e
   ·have g1:(s:Int)<(n:Int):=by omega
    have g2:(n:Int)<(e:Int):=by omega
    have hr:=K8 m id vb hid N hN (A++X1) X2 Y1 (Y2++Q) (by rintro rfl;simp only[List.length_nil] at hX2l;omega) (by rintro rfl;simp only[List.length_nil] at hY1l;omega) (by simp only[List.length_append];omega)
    rw[show (A++X1).length=s by rw[List.length_append];omega,show s+X2.length=n by omega,show n+Y1.length=e by omega] at hr
    have e1:(A++X1)++(X2++(Y1++(Y2++Q)))=A++(X++(Y++Q)):=by rw[hl0];simp
    have e2:(A++X1)++(Y1++(X2++(Y2++Q)))=A++(X1++(Y1++(X2++(Y2++Q)))):=by simp
    rw[e1,e2] at hr
    have h1:=fun K2:IV→IM→Option LR=>au hr (by rfl) K2
    simp only[mK,pD,go_sem,decide_eq_true g1,decide_eq_true g2,if_true,h1]
   ·have hsame:A++(X++(Y++Q))=A++(X1++(Y1++(X2++(Y2++Q)))):=by
     rw[hl0]
     by_cases g1:s<n
     ·have:Y1=[]:=List.length_eq_zero_iff.1 (by omega)
      subst this;simp
     ·have:X2=[]:=List.length_eq_zero_iff.1 (by omega)
      subst this;simp
    rw[←hsame]
    by_cases g1:s<n
    ·have g1':(s:Int)<(n:Int):=by omega
     have g2':¬(n:Int)<(e:Int):=by omega
     simp only[mK,pD,go_sem,decide_eq_true g1',decide_eq_false g2',if_true,Bool.false_eq_true,if_false]
    ·have g1':¬(s:Int)<(n:Int):=by omega
     simp only[mK,pD,go_sem,decide_eq_false g1',Bool.false_eq_true,if_false,if_true]
  obtain⟨Z1,z1p,z1s,hC4⟩:∃Z1,Z1.Perm (X1++Y1)∧Z1.Pairwise (leK ks)∧nj (.sB id 0 N 1) a b (dX vb) mid s e (dM m id (A++(X1++(Y1++(X2++(Y2++Q))))))=some (.normal,[.sB id 0 N 1,.int .i64 (b:Int),dX vb,.int .i64 (mid:Int),.int .i64 (e:Int)],[],dM m id (A++(Z1++(X2++(Y2++Q))))):=by
   by_cases g:a<s∧s<mid
   ·have g1:(a:Int)<(s:Int):=by omega
    have g2:(s:Int)<(mid:Int):=by omega
    obtain⟨Z,q1,q2,q3⟩:=vL N hN f A X1 Y1 (X2++(Y2++Q)) (by omega) (by rintro rfl;simp only[List.length_nil] at hX1l;omega) (by rintro rfl;simp only[List.length_nil] at hY1l;omega) sX1 sY1 (by simp only[List.length_append];omega)
     (fun y hy=>hk' y (by simp only[List.mem_append] at hy;rcases hy with h | h | h | h | h | h<;>simp[h])) a s mid ha (by omega) (by omega)
    have h1:=fun K2:IV→IM→Option LR=>au q3 (by rfl) K2
    refine⟨Z,q1,q2,?_⟩
    simp only[nj,pW,go_sem,decide_eq_true g1,decide_eq_true g2,if_true,h1]
   ·refine⟨X1++Y1,.refl _,?_,?_⟩
    ·by_cases g1:a<s
     ·have:Y1=[]:=List.length_eq_zero_iff.1 (by omega)
      subst this;simpa using sX1
     ·have:X1=[]:=List.length_eq_zero_iff.1 (by omega)
      subst this;simpa using sY1
    ·rw[List.append_assoc X1]
     by_cases g1:a<s
     ·have g1':(a:Int)<(s:Int):=by omega
      have g2':¬(s:Int)<(mid:Int):=by omega
      simp only[nj,pW,go_sem,decide_eq_true g1',decide_eq_false g2',if_true,Bool.false_eq_true,if_false]
     ·have g1':¬(a:Int)<(s:Int):=by omega
      simp only[nj,pW,go_sem,decide_eq_false g1',Bool.false_eq_true,if_false,if_true]
  have hZ1l:Z1.length=mid-a:=by rw[z1p.length_eq,List.length_append];omega
  have w1:(IntKind.i64.wrap ((n:Int)-(a:Int))==1)=false:=by
   rw[w64 (by omega) (by omega),beq_eq_false_iff_ne];omega
  have w2:(IntKind.i64.wrap ((b:Int)-(n:Int))==1)=false:=by
   rw[w64 (by omega) (by omega),beq_eq_false_iff_ne];omega
  by_cases g:mid<e∧e<b
  ·have g1:(mid:Int)<(e:Int):=by omega
   have g2:(e:Int)<(b:Int):=by omega
   obtain⟨Z2,q1,q2,q3⟩:=vL N hN f (A++Z1) X2 Y2 Q (by omega) (by rintro rfl;simp only[List.length_nil] at hX2l;omega) (by rintro rfl;simp only[List.length_nil] at hY2l;omega) sX2 sY2 (by simp only[List.length_append];omega)
    (fun y hy=>by
     simp only[List.mem_append] at hy
     rcases hy with (h | h) | h | h | h
     ·exact hk' y (.inl h)
     ·rcases List.mem_append.1 (z1p.mem_iff.1 h) with h | h
      ·exact hk' y (.inr (.inl h))
      ·exact hk' y (by simp[h])
     ·exact hk' y (by simp[h])
     ·exact hk' y (by simp[h])
     ·exact hk' y (by simp[h])) mid e b (by rw[List.length_append];omega) (by omega) (by omega)
   obtain⟨p1,p2⟩:=wV sX' sY' cross1 cross2 z1p q1 z1s q2
   rw[←hXX,←hYY] at p1
   refine⟨Z1++Z2,p1,p2,?_⟩
   have e1:(A++Z1)++(X2++(Y2++Q))=A++(Z1++(X2++(Y2++Q))):=by simp
   have e2:(A++Z1)++(Z2++Q)=A++((Z1++Z2)++Q):=by simp
   rw[e1,e2] at q3
   have h1:=fun K2:IV→IM→Option (IV×IM)=>au q3 (by rfl) K2
   have hC5:∀mm:IM,ky (.sB id 0 N 1) b (dX vb) mid e mm=some (.normal,[.sB id 0 N 1,.int .i64 (b:Int),dX vb,.int .i64 (mid:Int),.int .i64 (e:Int),.bool true],[],mm):=by
    intro mm
    simp only[ky,go_sem,decide_eq_true g1,decide_eq_true g2,if_true]
   apply kM
   simp only[Ba,w1,w2,go_sem,Bool.false_eq_true,if_false,hhalf,wn1,hC0,if_true,db,dd,wp,s5,we,hC2,hC4,hC5,h1]
   exact fL m id _ _
  ·have hsrt:(X2++Y2).Pairwise (leK ks):=by
    by_cases g1:mid<e
    ·have:Y2=[]:=List.length_eq_zero_iff.1 (by omega)
     subst this;simpa using sX2
    ·have:X2=[]:=List.length_eq_zero_iff.1 (by omega)
     subst this;simpa using sY2
   obtain⟨p1,p2⟩:=wV sX' sY' cross1 cross2 z1p (.refl (X2++Y2)) z1s hsrt
   rw[←hXX,←hYY] at p1
   refine⟨Z1++(X2++Y2),p1,p2,?_⟩
   have e2:A++((Z1++(X2++Y2))++Q)=A++(Z1++(X2++(Y2++Q))):=by simp
   rw[e2]
   have hC5:∀mm:IM,ky (.sB id 0 N 1) b (dX vb) mid e mm=some (.normal,[.sB id 0 N 1,.int .i64 (b:Int),dX vb,.int .i64 (mid:Int),.int .i64 (e:Int),.bool false],[],mm):=by
    intro mm
    by_cases g1:mid<e
    ·have g1':(mid:Int)<(e:Int):=by omega
     have g2':¬(e:Int)<(b:Int):=by omega
     simp only[ky,go_sem,decide_eq_true g1',decide_eq_false g2',if_true]
    ·have g1':¬(mid:Int)<(e:Int):=by omega
     simp only[ky,go_sem,decide_eq_false g1',Bool.false_eq_true,if_false]
   apply kM
   simp only[Ba,w1,w2,go_sem,Bool.false_eq_true,if_false,hhalf,wn1,hC0,if_true,db,dd,wp,s5,we,hC2,hC4,hC5]
   exact fL m id _ _
end
end Go.Idl
namespace Go.Idl
attribute [local go_sem] bB bA gI gS aZ bF bW bT cA cC cf ct bp aO bk aS aQ cr bq aK cD aJ aA aF az aB aj cG bZ bh bf ck cd bo c9 cu bw cy cB cz cE bg bt bu aR bm cx aP aG aM aN bj an af
inductive Blks (ks:List (List UInt8)) (s:Nat):List Nat→Prop
 |last {X:List Nat}:X.length≤s→X.Pairwise (leK ks)→Blks ks s X
 |cons {X r:List Nat}:X.length=s→X.Pairwise (leK ks)→Blks ks s r→Blks ks s (X++r)
inductive Full (ks:List (List UInt8)) (s:Nat):List Nat→Prop
 |nil:Full ks s []
 |cons {X r:List Nat}:X.length=s→X.Pairwise (leK ks)→Full ks s r→Full ks s (X++r)
theorem Full.app {ks:List (List UInt8)}{s:Nat}{D Z:List Nat}(h:Full ks s D) (h1:Z.length≤s) (h2:Z.Pairwise (leK ks)):Blks ks s (D++Z):=by
 induction h with
 |nil=>exact .last h1 h2
 |cons hx hp _ ih=>rw[List.append_assoc];exact .cons hx hp ih
theorem Blks.short {ks:List (List UInt8)}{s:Nat}{r:List Nat}(h:Blks ks s r) (hl:r.length≤s):r.Pairwise (leK ks):=by
 cases h with
 |last _ h=>exact h
 | @cons X r hx hp hr =>
  have:r=[]:=List.length_eq_zero_iff.1 (by rw[List.length_append] at hl;omega)
  subst this
  rw[List.append_nil];exact hp
theorem Blks.head {ks:List (List UInt8)}{s:Nat}{r:List Nat}(h:Blks ks s r) (hl:s<r.length):∃X r1,r=X++r1∧X.length=s∧X.Pairwise (leK ks)∧Blks ks s r1:=by
 cases h with
 |last h _=>omega
 | @cons X r hx hp hr=>exact⟨X,r,rfl,hx,hp,hr⟩
theorem Blks.head' {ks:List (List UInt8)}{s:Nat}{r:List Nat}(h:Blks ks s r) (hl:s≤r.length):∃X r1,r=X++r1∧X.length=s∧X.Pairwise (leK ks)∧Blks ks s r1:=by
 cases h with
 |last h hp=>exact⟨r,[],(List.append_nil r).symm,by omega,hp,.last (Nat.zero_le _) .nil⟩
 | @cons X r hx hp hr=>exact⟨X,r,rfl,hx,hp,hr⟩
section
variable (m:IM) (id vb:Nat) (ks:List (List UInt8)) (k:Int) (t:List UInt8) (V:IV) (hid:id<m.size) (hne:vb≠id) (hvb:ks≠[]→m.get vb=.cells [.int .i64 k,.str t,.sl (ks.map .str) ks.length,V] [.any,.any,.any,.any])
include hid hne hvb
theorem ND (N:Nat) (hN:N≤1000000):∀(f:Nat) (D r:List Nat),r.length≤f→D.length+r.length=N→(∀y,y∈D++r→y<ks.length) →
  ∃D' r',(D'++r').Perm r∧Full ks 20 D'∧r'.length<20∧uO (.sB id 0 N 1) N (dX vb) 20 (D.length:Int) ((D.length+20:Nat):Int) (dM m id (D++r))=some (.exit 0,[.sB id 0 N 1,.int .i64 (N:Int),dX vb,.int .i64 20,.int .i64 ((D.length+D'.length:Nat):Int)],[],dM m id (D++(D'++r'))):=by
 intro f
 induction f with
 |zero =>
  intro D r hf hl hk
  have c1:¬((D.length+20:Nat):Int)≤(N:Int):=by omega
  refine⟨[],r,.refl _,.nil,by omega,?_⟩
  rw[oE]
  simp only[sk,go_sem,decide_eq_false c1,Bool.false_eq_true,if_false,List.nil_append,List.length_nil,Nat.add_zero]
 |succ f ih =>
  intro D r hf hl hk
  by_cases g:D.length+20≤N
  ·have c1:((D.length+20:Nat):Int)≤(N:Int):=by omega
   obtain⟨X,r1,rfl,hX⟩:∃X r1,r=X++r1∧X.length=20:=⟨r.take 20,r.drop 20,(List.take_append_drop _ _).symm,by rw[List.length_take];omega⟩
   simp only[List.length_append] at hf hl
   obtain⟨X',x1,x2,x3⟩:=DA m id vb ks k t V hid hne hvb N hN D X r1 hk (by omega)
   rw[hX] at x3
   have h1:=fun K2:IV→IM→Option (St⊕LR)=>au x3 (by rfl) K2
   have hX':X'.length=20:=by rw[x1.length_eq,hX]
   obtain⟨D',r',p1,p2,p3,p4⟩:=ih (D++X') r1 (by omega) (by rw[List.length_append];omega) (fun y hy=>by
    apply hk y
    simp only[List.mem_append] at hy ⊢
    rcases hy with (h | h) | h
    ·exact .inl h
    ·exact .inr (.inl (x1.mem_iff.1 h))
    ·exact .inr (.inr h))
   have hw:IntKind.i64.wrap (((D.length+20:Nat):Int)+20)=((D.length+20+20:Nat):Int):=by rw[w64 (by omega) (by omega)];omega
   refine⟨X'++D',r',?_,.cons hX' x2 p2,p3,?_⟩
   ·rw[List.append_assoc];exact x1.append p1
   ·have e1:(D++X')++r1=D++(X'++r1):=by simp
    have e2:(D++X')++(D'++r')=D++((X'++D')++r'):=by simp
    have e3:(D++X').length=D.length+20:=by rw[List.length_append,hX']
    have e4:D.length+20+D'.length=D.length+(X'++D').length:=by rw[List.length_append,hX'];omega
    rw[e1,e2,e3,e4] at p4
    rw[oE,←p4]
    generalize D.length+20+20=b2 at *
    simp only[sk,go_sem,decide_eq_true c1,if_true,h1,db,dd,hw]
    rfl
  ·have c1:¬((D.length+20:Nat):Int)≤(N:Int):=by omega
   refine⟨[],r,.refl _,.nil,by omega,?_⟩
   rw[oE]
   simp only[sk,go_sem,decide_eq_false c1,Bool.false_eq_true,if_false,List.nil_append,List.length_nil,Nat.add_zero]
theorem Mt (N:Nat) (hN:N≤1000000) (s:Nat) (hs:1≤s) (hs2:s≤2000000):∀(f:Nat) (D r:List Nat),r.length≤f→D.length+r.length=N→(∀y,y∈D++r→y<ks.length)→Blks ks s r →
  ∃D' r',(D'++r').Perm r∧Full ks (2*s) D'∧Blks ks s r'∧r'.length<2*s∧vo (.sB id 0 N 1) N (dX vb) s (D.length:Int) ((D.length+2*s:Nat):Int) (dM m id (D++r))=some (.exit 4,[.sB id 0 N 1,.int .i64 (N:Int),dX vb,.int .i64 (s:Int),.int .i64 ((D.length+D'.length:Nat):Int)],[],dM m id (D++(D'++r'))):=by
 intro f
 induction f with
 |zero =>
  intro D r hf hl hk hb
  have c1:¬((D.length+2*s:Nat):Int)≤(N:Int):=by omega
  refine⟨[],r,.refl _,.nil,hb,by omega,?_⟩
  rw[nT]
  simp only[rD,go_sem,decide_eq_false c1,Bool.false_eq_true,if_false,List.nil_append,List.length_nil,Nat.add_zero]
 |succ f ih =>
  intro D r hf hl hk hb
  by_cases g:D.length+2*s≤N
  ·have c1:((D.length+2*s:Nat):Int)≤(N:Int):=by omega
   obtain⟨X,r0,rfl,hX,sX,hb0⟩:=hb.head (by omega)
   rw[List.length_append] at hf hl
   obtain⟨Y,r1,rfl,hY,sY,hb1⟩:=hb0.head' (by omega)
   rw[List.length_append] at hf hl
   obtain⟨Z,z1,z2,z3⟩:=vL m id vb ks k t V hid hne hvb N hN (X.length+Y.length) D X Y r1 (Nat.le_refl _) (by rintro rfl;simp only[List.length_nil] at hX;omega) (by rintro rfl;simp only[List.length_nil] at hY;omega) sX sY (by omega) hk D.length (D.length+s) (D.length+2*s) rfl (by omega) (by omega)
   have h1:=fun K2:IV→IM→Option (St⊕LR)=>au z3 (by rfl) K2
   have hZ:Z.length=2*s:=by rw[z1.length_eq,List.length_append];omega
   obtain⟨D',r',p1,p2,p3,p4,p5⟩:=ih (D++Z) r1 (by omega) (by rw[List.length_append];omega) (fun y hy=>by
    apply hk y
    simp only[List.mem_append] at hy ⊢
    rcases hy with (h | h) | h
    ·exact .inl h
    ·rcases List.mem_append.1 (z1.mem_iff.1 h) with h | h
     ·exact .inr (.inl h)
     ·exact .inr (.inr (.inl h))
    ·exact .inr (.inr (.inr h))) hb1
   have hw:IntKind.i64.wrap ((D.length:Int)+(s:Int))=((D.length+s:Nat):Int):=by rw[w64 (by omega) (by omega)];omega
   have hw2:IntKind.i64.wrap (2*(s:Int))=((2*s:Nat):Int):=by rw[w64 (by omega) (by omega)];omega
   have hw3:IntKind.i64.wrap (((D.length+2*s:Nat):Int)+((2*s:Nat):Int))=((D.length+2*s+2*s:Nat):Int):=by rw[w64 (by omega) (by omega)];omega
   refine⟨Z++D',r',?_,.cons hZ z2 p2,p3,p4,?_⟩
   ·rw[List.append_assoc,←List.append_assoc X];exact z1.append p1
   ·have e1:(D++Z)++r1=D++(Z++r1):=by simp
    have e2:(D++Z)++(D'++r')=D++((Z++D')++r'):=by simp
    have e3:(D++Z).length=D.length+2*s:=by rw[List.length_append,hZ]
    have e4:D.length+2*s+D'.length=D.length+(Z++D').length:=by rw[List.length_append,hZ];omega
    rw[e1,e2,e3,e4] at p5
    rw[nT,←p5]
    generalize D.length+2*s+2*s=b2 at *
    generalize D.length+2*s=b1 at *
    simp only[rD,go_sem,decide_eq_true c1,if_true,hw,h1,db,dd,hw2,hw3]
    rfl
  ·have c1:¬((D.length+2*s:Nat):Int)≤(N:Int):=by omega
   refine⟨[],r,.refl _,.nil,hb,by omega,?_⟩
   rw[nT]
   simp only[rD,go_sem,decide_eq_false c1,Bool.false_eq_true,if_false,List.nil_append,List.length_nil,Nat.add_zero]
theorem LJ (N:Nat) (hN:N≤1000000):∀(f s:Nat) (l:List Nat),N≤s+f→1≤s→s≤2000000→l.length=N→(∀y,y∈l→y<ks.length)→Blks ks s l →
  ∃Z,Z.Perm l∧Z.Pairwise (leK ks)∧vM (.sB id 0 N 1) N (dX vb) s (dM m id l)=some (.exit 2,[],[],dM m id Z):=by
 intro f
 induction f with
 |zero =>
  intro s l hf hs hs2 hl hk hb
  have c1:¬(s:Int)<(N:Int):=by omega
  refine⟨l,.refl _,hb.short (by omega),?_⟩
  rw[nE]
  simp only[qV,go_sem,decide_eq_false c1,Bool.false_eq_true,if_false]
 |succ f ih =>
  intro s l hf hs hs2 hl hk hb
  by_cases g:s<N
  ·have c1:(s:Int)<(N:Int):=by omega
   obtain⟨D,r,p1,p2,p3,p4,p5⟩:=Mt m id vb ks k t V hid hne hvb N hN s hs hs2 l.length [] l (Nat.le_refl _) (by simpa using hl) (by simpa using hk) hb
   simp only[List.nil_append,List.length_nil,Nat.zero_add] at p5
   have p5':vo (.sB id 0 N 1) N (dX vb) s 0 ((2*s:Nat):Int) (dM m id l)=_:=p5
   have hDl:D.length+r.length=N:=by have:=p1.length_eq;rw[List.length_append] at this;omega
   have hkD:∀y,y∈D++r→y<ks.length:=fun y hy=>hk y (p1.mem_iff.1 hy)
   have hw2:IntKind.i64.wrap (2*(s:Int))=((2*s:Nat):Int):=by rw[w64 (by omega) (by omega)];omega
   have hw4:IntKind.i64.wrap ((s:Int)*2)=((2*s:Nat):Int):=by rw[w64 (by omega) (by omega)];omega
   have hwm:IntKind.i64.wrap ((D.length:Int)+(s:Int))=((D.length+s:Nat):Int):=by rw[w64 (by omega) (by omega)];omega
   obtain⟨r2,q1,q2,q3,q4⟩:∃r2,r2.Perm r∧r2.length≤2*s∧r2.Pairwise (leK ks)∧pF (.sB id 0 N 1) N (dX vb) s (D.length:Int) (dM m id (D++r))=some (.normal,[.sB id 0 N 1,.int .i64 (N:Int),dX vb,.int .i64 (s:Int)],[],dM m id (D++r2)):=by
    by_cases g2:D.length+s<N
    ·have c2:((D.length+s:Nat):Int)<(N:Int):=by omega
     obtain⟨X,Y,rfl,hX,sX,hbY⟩:=p3.head (by omega)
     rw[List.length_append] at p4 hDl
     have sY:=hbY.short (by omega)
     obtain⟨Z,z1,z2,z3⟩:=vL m id vb ks k t V hid hne hvb N hN (X.length+Y.length) D X Y [] (Nat.le_refl _) (by rintro rfl;simp only[List.length_nil] at hX;omega) (by rintro rfl;simp only[List.length_nil] at hDl;omega) sX sY (by simp only[List.length_nil];omega) (by simpa using hkD) D.length (D.length+s) N rfl (by omega) (by omega)
     rw[List.append_nil,List.append_nil] at z3
     have h1:=fun K2:IV→IM→Option LR=>au z3 (by rfl) K2
     refine⟨Z,z1,by rw[z1.length_eq,List.length_append];omega,z2,?_⟩
     simp only[pF,go_sem,hwm,decide_eq_true c2,if_true,h1]
    ·have c2:¬((D.length+s:Nat):Int)<(N:Int):=by omega
     refine⟨r,.refl _,by omega,p3.short (by omega),?_⟩
     simp only[pF,go_sem,hwm,decide_eq_false c2,Bool.false_eq_true,if_false]
   have hperm:(D++r2).Perm l:=(List.Perm.append_left D q1).trans p1
   by_cases g3:s≤1000000
   ·obtain⟨Z,z1,z2,z3⟩:=ih (2*s) (D++r2) (by omega) (by omega) (by omega) (by rw[hperm.length_eq];exact hl) (fun y hy=>hk y (hperm.mem_iff.1 hy)) (p2.app q2 q3)
    refine⟨Z,z1.trans hperm,z2,?_⟩
    rw[nE,←z3]
    generalize 2*s=s2 at *
    simp only[qV,go_sem,decide_eq_true c1,if_true,db,dd,hw2,p5',q4,hw4]
    rfl
   ·omega
  ·have c1:¬(s:Int)<(N:Int):=by omega
   refine⟨l,.refl _,hb.short (by omega),?_⟩
   rw[nE]
   simp only[qV,go_sem,decide_eq_false c1,Bool.false_eq_true,if_false]
theorem GJ (N:Nat) (hN:N≤1000000) (l:List Nat) (hl:l.length=N) (hk:∀y,y∈l→y<ks.length) :
  ∃Z,Z.Perm l∧Z.Pairwise (leK ks)∧cw (.f 168) [.sB id 0 N 1,dX vb] (dM m id l)=some (.tup [],dM m id Z):=by
 obtain⟨D,r,p1,p2,p3,p4⟩:=ND m id vb ks k t V hid hne hvb N hN l.length [] l (Nat.le_refl _) (by simpa using hl) (by simpa using hk)
 simp only[List.nil_append,List.length_nil,Nat.zero_add] at p4
 have p4':uO (.sB id 0 N 1) N (dX vb) 20 0 20 (dM m id l)=_:=p4
 have hDl:D.length+r.length=N:=by have:=p1.length_eq;rw[List.length_append] at this;omega
 obtain⟨r2,q1,q2,q3⟩:=DA m id vb ks k t V hid hne hvb N hN D r [] (fun y hy=>hk y (by rw[List.append_nil] at hy;exact p1.mem_iff.1 hy)) (by simp only[List.length_nil];omega)
 rw[List.append_nil,List.append_nil,hDl] at q3
 have h1:=fun K2:IV→IM→Option (IV×IM)=>au q3 (by rfl) K2
 have hperm:(D++r2).Perm l:=(List.Perm.append_left D q1).trans p1
 obtain⟨Z,z1,z2,z3⟩:=LJ m id vb ks k t V hid hne hvb N hN N 20 (D++r2) (by omega) (by omega) (by omega) (by rw[hperm.length_eq];exact hl) (fun y hy=>hk y (hperm.mem_iff.1 hy)) (p2.app (by rw[q1.length_eq];omega) q2)
 have z3':vM (.sB id 0 N 1) N (dX vb) 20 (dM m id (D++r2))=_:=z3
 refine⟨Z,z1.trans hperm,z2,?_⟩
 have h173:cw (.f 173) [.sB id 0 N 1,.int .i64 (N:Int),dX vb] (dM m id l)=some (.tup [],dM m id Z):=by
  apply Bp
  simp only[Lw,db,dd,p4',go_sem,if_true,h1,z3']
  exact fL m id _ _
 have h2:=fun K2:IV→IM→Option (IV×IM)=>au h173 (by rfl) K2
 have hlen:POp.ev .lenSlice [.sB id 0 N 1]=some (.int .i64 (N:Int)):=by simp[POp.ev]
 apply B8
 simp only[JP,av hlen,go_sem,h2]
 exact fL m id _ _
end
end Go.Idl
namespace Go.Idl
attribute [local go_sem] bB bA gI gS aZ bF bW bT cA cC cf ct bp aO bk aS aQ cr bq aK cD aJ aA aF az aB aj cG bZ bh bf ck cd bo c9 cu bw cy cB cz cE bg bt bu aR bm cx aP aG aM aN bj an af
theorem wK {ks:List (List UInt8)}:∀{L1 L2:List Nat},L1.Perm L2→L1.Pairwise (leK ks)→L2.Pairwise (leK ks)→(∀a b,a∈L1→b∈L1→leK ks a b→leK ks b a→a=b)→L1=L2
 |[],L2,h,_,_,_=>(List.nil_perm.1 h).symm▸rfl
 |x::r1,[],h,_,_,_=>by have:=h.length_eq;simp at this
 |x::r1,y::r2,h,s1,s2,ha=>by
  have hx:x∈y::r2:=h.mem_iff.1 List.mem_cons_self
  have hy:y∈x::r1:=h.mem_iff.2 List.mem_cons_self
  have e:x=y:=ha x y List.mem_cons_self hy (ka s1 x rfl y hy) (ka s2 y rfl x hx)
  subst e
  rw[wK (List.Perm.cons_inv h) (List.pairwise_cons.1 s1).2 (List.pairwise_cons.1 s2).2 (fun a b h1 h2=>ha a b (List.mem_cons_of_mem _ h1) (List.mem_cons_of_mem _ h2))]
theorem D0 {ks:List (List UInt8)}(hn:ks.Nodup) {a b:Nat}(ha:a<ks.length) (hb:b<ks.length) (h1:leK ks a b) (h2:leK ks b a):a=b:=by
 have e:ks.getD a []=ks.getD b []:=by
  rcases zi (ks.getD a []) (ks.getD b []) with q | q | q
  ·unfold leK at h2;rw[q] at h2;cases h2
  ·exact q
  ·unfold leK at h1;rw[q] at h1;cases h1
 have d1:ks[a]?=ks[b]?:=by
  have e1:ks.getD a []=ks[a]:=by simp[List.getD_eq_getElem?_getD,ha]
  have e2:ks.getD b []=ks[b]:=by simp[List.getD_eq_getElem?_getD,hb]
  rw[List.getElem?_eq_getElem ha,List.getElem?_eq_getElem hb,←e1,←e2,e]
 have d2:ks[a]=ks[b]:=by
  rw[List.getElem?_eq_getElem ha,List.getElem?_eq_getElem hb] at d1
  exact Option.some.inj d1
 have hnd:=List.pairwise_iff_getElem.1 hn
 rcases Nat.lt_trichotomy a b with q | q | q
 ·exact (hnd a b ha hb q d2).elim
 ·exact q
 ·exact (hnd b a hb ha q d2.symm).elim
set_option maxHeartbeats 1000000 in
theorem Cf (w:Nat) (li:Bool) (out:List UInt8) (c:Cap) (t:List UInt8) (K V:IV) (ks:List (List UInt8)) (n:Nat) (hn:n≤1000000) (hV:POp.ev .lenSlice [V]=some (.int .i64 (n:Int))) (hK:SlS K ks) (hV2:V.refs=some 0) (hkn:ks.length=n) (hnd:ks.Nodup) (m:IM) (hm:m.get w=wrP true li out c) :
  cw (.f 163) [.pB w 0,.agg [.int .i64 5,.str t,K,V]] m=some (.sl (aL (lC ks n)) n,m):=by
 have hml:ak=1099511627776:=rfl
 have hw:=tW hm
 have hKs:ks≠[]→K=.sl (ks.map .str) ks.length:=by
  intro hne
  rcases hK with ⟨_,h⟩ | h
  ·exact (hne h).elim
  ·exact h
 have g1:(bR m (.cells [.int .i64 5,.str t,K,V] [.any,.any,.any,.any])).get m.size=.cells [.int .i64 5,.str t,K,V] [.any,.any,.any,.any]:=eD _ _
 generalize hM:bR m (.cells [.int .i64 5,.str t,K,V] [.any,.any,.any,.any])=M at *
 have hMs:M.size=m.size+1:=by rw[←hM,f9]
 have hL:=Ny w m.size M.size n hn (bR M (.cells (List.replicate n (.int .i64 0)) (List.replicate n .any))) n 0 (by omega) (by rw[f9];omega)
 rw[eH,eH,wG] at hL
 have hA:decide ((0:Int)≤(n:Int)∧(n:Int)≤(n:Int)∧(n:Int)*8≤(ak:Int)∧(n:Int)≤(ak:Int))=true:=by
  rw[decide_eq_true_eq,hml];omega
 generalize hM1:bR M (.cells (aL (List.range n)) (List.replicate n .any))=M1 at *
 have hM1s:M1.size=m.size+2:=by rw[←hM1,f9,hMs]
 have hq:M1.get w=wrP true li out c:=by
  rw[←hM1,eO (by omega),←hM,eO hw,hm]
 have hq2:M1.get m.size=.cells [.int .i64 5,.str t,K,V] [.any,.any,.any,.any]:=by
  rw[←hM1,eO (by omega),g1]
 have hq3:M1.get M.size=.cells (aL (List.range n)) (List.replicate n .any):=by
  rw[←hM1,eD]
 have hC:kv w m.size 0 (.sB M.size 0 n 1) M1=some (.normal,[.pB m.size 0,.sB M.size 0 n 1,.bool false],[],M1):=by
  simp only[kv,go_sem,Ei hq,dw hq2,Bool.not_true,Bool.false_eq_true,if_false]
  rw[a8 (v:=.int .i64 5) rfl]
  simp only[go_sem];rfl
 have hlen:POp.ev .lenSlice [.sB M.size 0 n 1]=some (.int .i64 (n:Int)):=by simp[POp.ev]
 have hM2:(bR M1 (.cells (List.replicate n (.int .i64 0)) (List.replicate n .any))).size=m.size+3:=by rw[f9,hM1s]
 have hsrc:∀Kk:List IV→Nat→Option (IV×IM),jN (bR M1 (.cells (List.replicate n (.int .i64 0)) (List.replicate n .any))) 1 (.sB M.size 0 n 1) Kk=Kk (aL (List.range n)) n:=by
  intro Kk
  have e:(bR M1 (.cells (List.replicate n (.int .i64 0)) (List.replicate n .any))).get M.size=.cells (aL (List.range n)) (List.replicate n .any):=by
   rw[eO (by omega),hq3]
  have hcut:cut (aL (List.range n)) 0 (n*1)=some (aL (List.range n)):=by
   unfold cut
   rw[if_pos (by simp[aL]),List.drop_zero,List.take_of_length_le (by simp[aL])]
  simp only[jN,cO,a6,e,hcut,if_true]
 have hcp:∀Kk:Nat→IM→Option (IV×IM),cpS (bR M1 (.cells (List.replicate n (.int .i64 0)) (List.replicate n .any))) (.sB M1.size 0 n 1) 1 (aL (List.range n)) n Kk=Kk n (bR M1 (.cells (aL (List.range n)) (List.replicate n .any))):=by
  intro Kk
  have hl1:(aL (List.range n)).length=n:=by simp[aL]
  have hs:=gJ (eD M1 (.cells (List.replicate n (.int .i64 0)) (List.replicate n .any))) (vs:=aL (List.range n)) (c:=.any) (off:=0) (r:=0) (by
   have:∀l:List Nat,al (aL l)=some 0:=by
    intro l
    induction l with
    |nil=>rfl
    |cons x r ih =>
     have ih':al (r.map fun (i:Nat)=>IV.int .i64 (i:Int))=some 0:=ih
     show al (IV.int .i64 (x:Int)::r.map fun (i:Nat)=>IV.int .i64 (i:Int))=some 0
     rw[al,ih'];rfl
   exact this _) (Nat.zero_le _) (by rw[hl1];simp) (fun mm=>Kk n mm)
  have e1:over (List.replicate n (IV.int .i64 0)) 0 (aL (List.range n))=aL (List.range n):=by
   unfold over;rw[hl1];simp
  have e2:aH (List.replicate n Cap.any) 0 (aL (List.range n)).length .any=List.replicate n .any:=by
   unfold aH;rw[hl1];simp
  rw[e1,e2,eH] at hs
  rw[←hs]
  unfold cpS stP
  simp only[Nat.min_self,Nat.mul_one]
  rw[List.take_of_length_le (by rw[hl1];exact Nat.le_refl _),hl1]
 obtain⟨P,hP⟩:∃P,P=bR M1 (.cells (aL (List.range n)) (List.replicate n .any)):=⟨_,rfl⟩
 rw[←hP] at hcp
 have hPs:P.size=m.size+3:=by rw[hP,f9,hM1s]
 have hPd:∀Z:List Nat,Z.length=n→dM P M1.size Z=bR M1 (.cells (aL Z) (List.replicate n .any)):=by
  intro Z hZ
  unfold dM
  rw[hP,eH,hZ]
 have hvb:ks≠[]→P.get m.size=.cells [.int .i64 5,.str t,.sl (ks.map .str) ks.length,V] [.any,.any,.any,.any]:=by
  intro hne
  rw[hP,eO (by omega),hq2,hKs hne]
 obtain⟨Z,z1,z2,z3⟩:=GJ P M1.size m.size ks 5 t V (by omega) (by omega) hvb n hn (List.range n) (by simp) (fun y hy=>by rw[hkn];simpa using hy)
 have hZn:Z.length=n:=by rw[z1.length_eq];simp
 have hZo:Z=lC ks n:=wK (z1.trans (ov ks n).symm) z2 (jW ks n) (fun a b ha hb h1 h2=>D0 hnd (by rw[hkn];simpa using z1.mem_iff.1 ha) (by rw[hkn];simpa using z1.mem_iff.1 hb) h1 h2)
 rw[hPd _ (by simp),←hP,hPd _ hZn] at z3
 have h168:=fun K2:IV→IM→Option (IV×IM)=>au z3 (by rfl) K2
 have h168':∀K2:IV→IM→Option (IV×IM),bc cw (.f 168) [.sB M1.size 0 n 1,.func 169 [] [.pB m.size 0]] [] P K2=K2 (.tup []) (bR M1 (.cells (aL Z) (List.replicate n .any))):=h168
 have hS:settle m (bR M1 (.cells (aL Z) (List.replicate n .any))) (.sB M1.size 0 n 1)=some (.sl (aL Z) n,m):=by
  refine tG (cp:=List.replicate n .any) ?_ ?_ (j7 _) (by simp[aL,hZn]) (by omega) (eD _ _)
  ·rw[←hM1,←hM];simp[bR,IM.size]
  ·rw[←hM1,←hM];rfl
 have hL':ob w m.size 0 (.sB M.size 0 n 1) (n:Int) 0 (bR M (.cells (List.replicate n (.int .i64 0)) (List.replicate n .any)))=_:=hL
 have hdec:decide ((aL (List.range n)).length=n*1)=true:=by simp[aL]
 apply tL
 simp only[GU,hM,ah hK.refs,ah hV2,dw g1]
 rw[a8 (v:=V) rfl]
 simp only[av hV,go_sem,hA,if_true,Ao,rb,List.length_replicate,Int.toNat_natCast]
 simp only[hL',go_sem,if_true,hC,Bool.false_eq_true,if_false,av hlen,hA,Int.toNat_natCast,hsrc,hdec,hcp,h168',hS]
 rw[hZo]
theorem BM:zs true:=by
 intro w li out c k t K V ks n m hn hV hK hV2 hk hm
 by_cases h:k=5
 ·subst h
  obtain⟨h1,h2⟩:=hk rfl
  exact Cf w li out c t K V ks n hn hV hK hV2 h1 h2 m hm
 ·have e:(true&&decide (k=5))=false:=by simp[h]
  have:=xu w true li out c k t K V n hn hV hK.refs hV2 m hm e
  unfold fu
  rw[e];exact this
theorem Mv (v:Val) (c:List IV) (hb:bigV v) (hc:ValR v c):cw (.f 5) [.agg c] ⟨[],0⟩=some (.bool true,⟨[],0⟩):=N1 BM v c hb hc
end Go.Idl
namespace Go.Idl
theorem mP {α β:Type}{f:α→Option β}:∀{l:List α}{r:List β},l.mapM f=some r→r.length=l.length∧∀(i:Nat) (h:i<l.length) (h':i<r.length),f l[i]=some r[i]
 |[],r,h=>by simp at h;subst h;exact⟨rfl,fun i h=>by simp at h⟩
 |a::l,r,h=>by
  obtain⟨b,bs,h1,h2,rfl⟩:=iC h
  obtain⟨e1,e2⟩:=mP h2
  refine⟨by simp[e1],fun i hi hi'=>?_⟩
  cases i with
  |zero=>exact h1
  |succ i=>simpa using e2 i (by simpa using hi) (by simpa using hi')
theorem rG {w:World}{base n:Nat}{a:Addr}{cs:List Value}(h:w.cells? base a n=some cs):cs.length=n∧∀(i:Nat) (h:i<cs.length),w.cell? (a.add i)=some cs[i]:=by
 unfold World.cells? at h
 split at h
 ·obtain⟨e1,e2⟩:=mP h
  rw[List.length_range] at e1
  refine⟨e1,fun i hi=>?_⟩
  have:=e2 i (by simpa[e1] using hi) hi
  simpa using this
 ·cases h
theorem tI {w:World}{a:Addr}{v:Value}(h:w.cell? a=some v):a.spot=none:=by
 unfold World.cell? at h
 split at h
 ·split at h
  ·cases h
  ·rename_i g;simpa using g
 ·cases h
section
variable {H:Type}{enc:TypeId×Value→H}{P:Program}{w:World}{base:Nat}{held:Bool}
def ji (P:Program) (t:TypeId) (d:DataW H):Prop:=∀n,n∈d.weights P t→n≤reachBytes
theorem sw {e:TypeId}{n:Nat}:∀{l:List (DataW H)}{d:DataW H},d∈l→n∈d.weights P e→n∈DataW.weightsAll P e l
 |a::l,d,h,hn=>by
  unfold DataW.weightsAll
  rcases List.mem_cons.1 h with rfl | h
  ·exact List.mem_append_left _ hn
  ·exact List.mem_append_right _ (sw h hn)
theorem tf {n:Nat}:∀{ts:List TypeId}{l:List (DataW H)}(i:Nat) (h:i<ts.length) (h':i<l.length),n∈(l[i]).weights P ts[i]→n∈DataW.weightsEach P ts l
 |t::ts,a::l,0,_,_,hn=>by
  unfold DataW.weightsEach
  exact List.mem_append_left _ hn
 |t::ts,a::l,i+1,h,h',hn=>by
  unfold DataW.weightsEach
  exact List.mem_append_right _ (tf i (by simpa using h) (by simpa using h') (by simpa using hn))
theorem wO {fuel:Nat}{t:TypeId}(ht:P.underlying t=some .string) {cs:List Value}{x:DataW H×List MemPlace}(h:DataW.trod enc P w base (fun _=>true) held fuel t cs=some x) (hd:ji P t x.1):∃s:List UInt8,cs=[.string ⟨⟨s⟩⟩]∧s.length≤reachBytes:=by
 cases fuel with
 |zero=>simp[DataW.trod] at h
 |succ fuel =>
  simp only[DataW.trod,ht] at h
  split at h<;>simp_all
  rename_i s
  obtain⟨⟨l⟩⟩:=s
  obtain⟨-,rfl⟩:=h
  exact⟨l,rfl,hd _ (by unfold DataW.weights;exact List.mem_cons_self)⟩
theorem zY {fuel:Nat}{t e:TypeId}(ht:P.underlying t=some (.slice e)) (hb:1≤P.bytesOf e) {cs:List Value}{x:DataW H×List MemPlace}(h:DataW.trod enc P w base (fun _=>true) held (fuel+1) t cs=some x) (hd:ji P t x.1) :
  cs=[.slice none 0 0]∨∃(a:Addr) (len cap:Nat),cs=[.slice (some a) len cap]∧len≤cap∧cap≤reachBytes ∧
   ∀i,i<cap→∃c y,w.cells? base (a.add (i*P.cellsOf e)) (P.cellsOf e)=some c∧DataW.trod enc P w base (fun _=>true) held fuel e c=some y∧ji P e y.1:=by
 unfold DataW.trod at h
 rw[ht] at h
 split at h
 all_goals first
  |(rename_i q1 q2;simp at q1;done)
  |(rename_i q1;simp at q1;done)
  |skip
 ·exact .inl rfl
 ·rename_i e' a len cap q
  have he:e'=e:=by simpa using q.symm
  subst he
  simp only[if_true] at h
  split at h
  ·rename_i g
   rw[Option.bind_eq_some_iff] at h
   obtain⟨xs,h1,h⟩:=h
   rw[Option.map_eq_some_iff] at h
   obtain⟨ys,h2,hx⟩:=h
   obtain⟨l1,f1⟩:=mP h1
   obtain⟨l2,f2⟩:=mP h2
   rw[List.length_range] at l1 l2
   have hd1:∀n,n∈((xs.map (·.1)).length+(ys.map (·.1)).length)*P.bytesOf e'::(DataW.weightsAll P e' (xs.map (·.1))++DataW.weightsAll P e' (ys.map (·.1)))→n≤reachBytes:=by
    intro n hn
    apply hd n
    rw[←hx]
    unfold DataW.weights
    simp only[ht]
    exact hn
   have hcap:=hd1 _ List.mem_cons_self
   rw[List.length_map,List.length_map,l1,l2,show len+(cap-len)=cap by omega] at hcap
   refine .inr ⟨a,len,cap,rfl,g.2.1,Nat.le_trans (by simpa using Nat.mul_le_mul_left cap hb) hcap,fun i hi=>?_⟩
   by_cases hlt:i<len
   ·have:=f1 i (by simpa using hlt) (by omega)
    rw[List.getElem_range,Option.bind_eq_some_iff] at this
    obtain⟨c,c1,c2⟩:=this
    exact⟨c,_,c1,c2,fun n hn=>hd1 n (List.mem_cons_of_mem _ (List.mem_append_left _ (sw (List.mem_map.2 ⟨_,List.getElem_mem _,rfl⟩) hn)))⟩
   ·have:=f2 (i-len) (by simp;omega) (by omega)
    rw[List.getElem_range,Option.bind_eq_some_iff] at this
    obtain⟨c,c1,c2⟩:=this
    rw[show len+(i-len)=i by omega] at c1
    exact⟨c,_,c1,c2,fun n hn=>hd1 n (List.mem_cons_of_mem _ (List.mem_append_right _ (sw (List.mem_map.2 ⟨_,List.getElem_mem _,rfl⟩) hn)))⟩
  ·cases h
 ·cases h
end
end Go.Idl
namespace Go.Idl
section
variable {H:Type}{enc:TypeId×Value→H}{P:Program}{w:World}{base:Nat}{held:Bool}
theorem trod_struct {fuel:Nat}{t:TypeId}{fs:Array Field}(ht:P.underlying t=some (.struct fs)) {cs:List Value}{x:DataW H×List MemPlace}(h:DataW.trod enc P w base (fun _=>true) held (fuel+1) t cs=some x) (hd:ji P t x.1) :
  cs.length=P.cellsOf t∧∀f,f∈fs.toList→∃y,DataW.trod enc P w base (fun _=>true) held fuel f.type ((cs.drop f.offset).take (P.cellsOf f.type))=some y∧ji P f.type y.1:=by
 unfold DataW.trod at h
 rw[ht] at h
 split at h
 all_goals first
  |(rename_i q1 q2;simp at q1;done)
  |(rename_i q1;simp at q1;done)
  |skip
 ·rename_i fs' q
  have he:fs'=fs:=by simpa using q.symm
  subst he
  split at h
  ·rename_i g
   rw[Option.map_eq_some_iff] at h
   obtain⟨xs,h1,hx⟩:=h
   obtain⟨l1,f1⟩:=mP h1
   have hd1:∀n,n∈DataW.weightsEach P (fs'.toList.map (·.type)) (xs.map (·.1))→n≤reachBytes:=by
    intro n hn
    apply hd n
    rw[←hx]
    unfold DataW.weights
    simp only[ht]
    exact hn
   refine⟨g,fun f hf=>?_⟩
   obtain⟨i,hi,rfl⟩:=List.getElem_of_mem hf
   exact⟨_,f1 i hi (by omega),fun n hn=>hd1 n (tf i (by simpa using hi) (by simp[l1];simpa using hi) (by simpa using hn))⟩
  ·cases h
 all_goals first
  |(exfalso;rename_i q _ _ _ _ _ _ _ _ _ _ _ _ _ _ _ _ _ _ _;exact q fs rfl)
  |(exfalso;simp_all;done)
  |(cases h;done)
theorem trod_int {fuel:Nat}{t:TypeId}{k:IntKind}(ht:P.underlying t=some (.int k)) {cs:List Value}{x:DataW H×List MemPlace}(h:DataW.trod enc P w base (fun _=>true) held fuel t cs=some x):∃n:Int,cs=[.int k n]:=by
 cases fuel with
 |zero=>simp[DataW.trod] at h
 |succ fuel =>
  simp only[DataW.trod,ht] at h
  split at h<;>simp_all
theorem EV {t e:TypeId}(ht:P.underlying t=some (.slice e)) (he:P.underlying e=some .string) (hce:P.cellsOf e=1) (hb:1≤P.bytesOf e) {fuel:Nat}{cs:List Value}{x:DataW H×List MemPlace}(h:DataW.trod enc P w base (fun _=>true) held fuel t cs=some x) (hd:ji P t x.1) :
  ∃(ks:List (List UInt8)) (K:IV) (r:Value),cs=[r]∧SlS K ks∧ks.length≤reachBytes∧(∀s,s∈ks→s.length≤reachBytes)∧∀G:Gh,(∀b o,G.imm b o=w.cell? ⟨b,o,none⟩)→VR G K r:=by
 have hml:reachBytes=140737488351232:=rfl
 cases fuel with
 |zero=>simp[DataW.trod] at h
 |succ fuel =>
  rcases zY ht hb h hd with rfl | ⟨a,len,cap,rfl,h1,h2,h3⟩
  ·exact⟨[],.nilSlice,_,rfl,.inl ⟨rfl,rfl⟩,by simp,(by intro s hs;cases hs),fun _ _=>.nilSlice⟩
  ·by_cases hc:cap=0
   ·subst hc
    obtain rfl:len=0:=by omega
    exact⟨[],.sl [] 0,_,rfl,.inr rfl,by simp,(by intro s hs;cases hs),fun _ _=>.sl0 a⟩
   ·have key:∀i,i<cap→∃s:List UInt8,w.cell? (a.add i)=some (.string ⟨⟨s⟩⟩)∧s.length≤reachBytes:=by
     intro i hi
     obtain⟨c,y,c1,c2,c3⟩:=h3 i hi
     rw[hce,Nat.mul_one] at c1
     obtain⟨s,rfl,hs⟩:=wO he c2 c3
     obtain⟨_,g⟩:=rG c1
     have:=g 0 (by simp)
     exact⟨s,by simpa[Addr.add] using this,hs⟩
    obtain⟨s0,hs0,_⟩:=key 0 (by omega)
    have hsp:=tI hs0
    obtain⟨b,o,sp⟩:=a
    have hsp:sp=none:=by simpa[Addr.add] using hsp
    subst hsp
    have build:∀n,n≤cap→∃ks:List (List UInt8),ks.length=n∧(∀s,s∈ks→s.length≤reachBytes)∧∀i (hi:i<ks.length),w.cell? ⟨b,o+i,none⟩=some (.string ⟨⟨ks[i]⟩⟩):=by
     intro n
     induction n with
     |zero=>intro _;exact⟨[],rfl,(by intro s hs;cases hs),(by intro i hi;simp at hi)⟩
     |succ n ih =>
      intro hn
      obtain⟨ks,q1,q2,q3⟩:=ih (by omega)
      obtain⟨s,hs,hl⟩:=key n (by omega)
      rw[dq] at hs
      refine⟨ks++[s],by simp[q1],fun u hu=>?_,fun i hi=>?_⟩
      ·rcases List.mem_append.1 hu with hu | hu
       ·exact q2 u hu
       ·simp only[List.mem_cons,List.not_mem_nil,or_false] at hu;subst hu;exact hl
      ·by_cases g:i<ks.length
       ·rw[List.getElem_append_left g];exact q3 i g
       ·have:i=n:=by simp at hi;omega
        subst this
        rw[List.getElem_append_right (by omega)]
        simpa using hs
    obtain⟨ks,q1,q2,q3⟩:=build len h1
    refine⟨ks,.sl (ks.map .str) ks.length,_,rfl,.inr rfl,by omega,fun s hs=>by have:=q2 s hs;omega,?_⟩
    rw[q1]
    intro G hG
    refine VR.sl _ _ _ _ _ (fun i=>.string ⟨⟨ks.getD i []⟩⟩) (fun i hi=>?_) (fun i hi=>?_) h1
    ·rw[hG]
     have hi':i<ks.length:=by simpa using hi
     rw[q3 i hi']
     simp[List.getD_eq_getElem?_getD,hi']
    ·have hi':i<ks.length:=by simpa using hi
     have e:ks.getD i []=ks[i]:=by simp[List.getD_eq_getElem?_getD,hi']
     rw[List.getElem_map,e]
     exact .str _
end
end Go.Idl
namespace Go.Idl
section
variable {H:Type}{enc:TypeId×Value→H}{P:Program}{w:World}{base:Nat}{held:Bool}
theorem Hq {tv ti ts tk tl:TypeId}{fs:Array Field}(hv:P.underlying tv=some (.struct fs)) (hcv:P.cellsOf tv=4) (hf:∀y:TypeId×Nat,y∈[(ti,0),(ts,1),(tk,2),(tl,3)]→∃f,f∈fs.toList∧f.type=y.1∧f.offset=y.2)
  (hti:P.underlying ti=some (.int .i64)) (hts:P.underlying ts=some .string) (htk:P.underlying tk=some (.slice ts)) (htl:P.underlying tl=some (.slice tv)) (c1:P.cellsOf ti=1) (c2:P.cellsOf ts=1) (c3:P.cellsOf tk=1) (c4:P.cellsOf tl=1) (b1:1≤P.bytesOf ts) (b2:1≤P.bytesOf tv) :
  ∀(fuel:Nat) (cs:List Value) (x:DataW H×List MemPlace),DataW.trod enc P w base (fun _=>true) held fuel tv cs=some x→ji P tv x.1 →
   ∃v c,bigV v∧ValR v c∧∀G:Gh,(∀b o,G.imm b o=w.cell? ⟨b,o,none⟩)→VRs G c cs:=by
 have hml:reachBytes=140737488351232:=rfl
 intro fuel
 induction fuel using Nat.strongRecOn with
 |_ fuel ih =>
  intro cs x h hd
  cases fuel with
  |zero=>simp[DataW.trod] at h
  |succ fuel =>
   obtain⟨hl,hF⟩:=trod_struct hv h hd
   rw[hcv] at hl
   obtain⟨r0,r1,r2,r3,rfl⟩:∃r0 r1 r2 r3,cs=[r0,r1,r2,r3]:=by
    match cs,hl with
    |[a,b,c,d],_=>exact⟨a,b,c,d,rfl⟩
   obtain⟨f0,m0,t0,o0⟩:=hf (ti,0) (by simp)
   obtain⟨f1,m1,t1,o1⟩:=hf (ts,1) (by simp)
   obtain⟨f2,m2,t2,o2⟩:=hf (tk,2) (by simp)
   obtain⟨f3,m3,t3,o3⟩:=hf (tl,3) (by simp)
   obtain⟨y0,e0,w0⟩:=hF f0 m0
   obtain⟨y1,e1,w1⟩:=hF f1 m1
   obtain⟨y2,e2,w2⟩:=hF f2 m2
   obtain⟨y3,e3,w3⟩:=hF f3 m3
   simp only at t0 t1 t2 t3 o0 o1 o2 o3
   rw[t0] at w0
   rw[t0,o0,c1] at e0
   rw[t1] at w1
   rw[t1,o1,c2] at e1
   rw[t2] at w2
   rw[t2,o2,c3] at e2
   rw[t3] at w3
   rw[t3,o3,c4] at e3
   simp only[List.drop_zero,List.drop_succ_cons,List.take_succ_cons,List.take_zero] at e0 e1 e2 e3
   obtain⟨n,en⟩:=trod_int hti e0
   obtain⟨t,et,ht⟩:=wO hts e1 w1
   obtain⟨ks,K,r2',er2,hK,hks,hks2,hKr⟩:=EV htk hts c2 b1 e2 w2
   simp only[List.cons.injEq,and_true] at en et er2
   subst en et er2
   have items:∃(vs:List Val) (V:IV),SlV V vs∧vs.length≤reachBytes∧(∀v,v∈vs→bigV v)∧∀G:Gh,(∀b o,G.imm b o=w.cell? ⟨b,o,none⟩)→VR G V r3:=by
    cases fuel with
    |zero=>simp[DataW.trod] at e3
    |succ f =>
     rcases zY htl b2 e3 w3 with q | ⟨a,len,cap,q,h1,h2,h3⟩
     ·simp only[List.cons.injEq,and_true] at q
      subst q
      exact⟨[],.nilSlice,.nil,Nat.zero_le _,(by intro v hv;cases hv),fun _ _=>.nilSlice⟩
     ·simp only[List.cons.injEq,and_true] at q
      subst q
      by_cases hc:cap=0
      ·subst hc
       obtain rfl:len=0:=by omega
       exact⟨[],.sl [] 0,.sl .nil rfl,Nat.zero_le _,(by intro v hv;cases hv),fun _ _=>.sl0 a⟩
      ·rw[hcv] at h3
       obtain⟨c0,z0,g0,_,_⟩:=h3 0 (by omega)
       obtain⟨l0,k0⟩:=rG g0
       have hs0:=k0 0 (by omega)
       have hsp:=tI hs0
       obtain⟨b,o,sp⟩:=a
       have hsp:sp=none:=by simpa[Addr.add] using hsp
       subst hsp
       have build:∀n,n≤cap→∃(vs:List Val) (row:List IV) (rs:List Value),vs.length=n∧RowR vs row∧(∀v,v∈vs→bigV v)∧rs.length=4*n∧(∀i (hi:i<rs.length),w.cell? ⟨b,o+i,none⟩=some rs[i])∧∀G:Gh,(∀b o,G.imm b o=w.cell? ⟨b,o,none⟩)→VRs G row rs:=by
        intro n
        induction n with
        |zero=>intro _;exact⟨[],[],[],rfl,.nil,(by intro v hv;cases hv),rfl,(by intro i hi;simp at hi),fun _ _=>VRs.nil⟩
        |succ n ihn =>
         intro hn
         obtain⟨vs,row,rs,q1,q2,q3,q4,q5,q6⟩:=ihn (by omega)
         obtain⟨c,z,g1,g2,g3⟩:=h3 n (by omega)
         obtain⟨v,cv,a1,a2,a3⟩:=ih f (by omega) c z g2 g3
         obtain⟨l1,k1⟩:=rG g1
         refine⟨vs++[v],row++cv,rs++c,by simp[q1],q2.app a2,fun u hu=>?_,by rw[List.length_append,q4,l1];omega,fun i hi=>?_,fun G hG=>(q6 G hG).append (a3 G hG)⟩
         ·rcases List.mem_append.1 hu with hu | hu
          ·exact q3 u hu
          ·simp only[List.mem_cons,List.not_mem_nil,or_false] at hu;subst hu;exact a1
         ·by_cases g:i<rs.length
          ·rw[List.getElem_append_left g];exact q5 i g
          ·rw[List.length_append] at hi
           have:=k1 (i-rs.length) (by omega)
           rw[List.getElem_append_right (by omega),←this,dq,dq]
           congr 2;omega
       obtain⟨vs,row,rs,q1,q2,q3,q4,q5,q6⟩:=build len h1
       refine⟨vs,.sl row len,.sl q2 q1.symm,by omega,q3,fun G hG=>?_⟩
       have hrs:=q6 G hG
       have hrp:=q6 G.pl (fun b o=>hG b o)
       refine VR.sl _ _ _ _ _ (fun i=>rs.getD i (.bool false)) (fun i hi=>?_) (fun i hi=>?_) h1
       ·have hi':i<rs.length:=by rw[hrs.1];exact hi
        rw[hG,q5 i hi']
        simp[List.getD_eq_getElem?_getD,hi']
       ·have hi':i<rs.length:=by rw[hrs.1];exact hi
        have e:rs.getD i (.bool false)=rs[i]:=by simp[List.getD_eq_getElem?_getD,hi']
        rw[e]
        exact hrp.2 i hi hi'
   obtain⟨vs,V,hV,hvl,hva,hVr⟩:=items
   refine⟨.mk n t ks vs,[.int .i64 n,.str t,K,V],.mk (by omega) (by omega) (fun s hs=>by have:=hks2 s hs;omega) (by omega) hva,.mk hK hV,fun G hG=>?_⟩
   exact VRs.cons (.int _ _) (VRs.cons (.str _) (VRs.cons (hKr G hG) (VRs.cons (hVr G hG) VRs.nil)))
end
end Go.Idl
